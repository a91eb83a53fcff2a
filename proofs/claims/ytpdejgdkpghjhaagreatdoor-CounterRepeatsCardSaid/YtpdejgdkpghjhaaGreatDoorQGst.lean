/- Plain laws of products of powers modulo a number. No program stands here. -/
import Derived.Test.YtpdejgdkpghjhaaGreatDoorQExW
import Derived.Test.YtpdejgdkpghjhaaGreatDoorQDig
import Derived.Test.YtpdejgdkpghjhaaGreatDoorQNaE
set_option linter.unusedVariables false
namespace Go.Proofs.YtpdejgdkpghjhaaGreatDoor
def invN (x M : Nat) : Nat := ((List.range M).find? (fun y => decide (x * y % M = 1))).getD 0
theorem inv_uniq {x M y z : Nat} (hy : y < M) (hz : z < M) (h1 : x * y % M = 1) (h2 : x * z % M = 1) : y = z := by
  have e1 : x * y * z % M = z := by
    rw [Nat.mul_mod, h1, Nat.one_mul, Nat.mod_mod, Nat.mod_eq_of_lt hz]
  have e2 : x * y * z = x * z * y := by rw [Nat.mul_assoc, Nat.mul_comm y z, ← Nat.mul_assoc]
  rw [e2, Nat.mul_mod, h2, Nat.one_mul, Nat.mod_mod, Nat.mod_eq_of_lt hy] at e1
  exact e1
theorem invN_of {x M y : Nat} (hy : y < M) (h : x * y % M = 1) : invN x M = y := by
  unfold invN
  cases hf : (List.range M).find? (fun y => decide (x * y % M = 1)) with
  | none =>
    rw [List.find?_eq_none] at hf
    have := hf y (List.mem_range.2 hy)
    simp [h] at this
  | some z =>
    have h1 := List.find?_some hf
    have h2 := List.mem_range.1 (List.mem_of_find?_eq_some hf)
    simp only [decide_eq_true_eq] at h1
    exact inv_uniq h2 hy h1 h
def pp : List (Nat × Nat) → Nat → Nat
  | [], _ => 1
  | (b, n) :: l, k => b ^ (n / 2 ^ k) * pp l k
def qq : List (Nat × Nat) → Nat → Nat
  | [], _ => 1
  | (b, n) :: l, k => (if bitB n k then b else 1) * qq l k
theorem bit_div (n k : Nat) : n / 2 ^ k = 2 * (n / 2 ^ (k + 1)) + (if bitB n k then 1 else 0) := by
  unfold bitB
  rw [Nat.pow_succ, ← Nat.div_div_eq_div_mul]
  have := Nat.mod_two_eq_zero_or_one (n / 2 ^ k)
  rcases this with h | h <;> rw [h] <;> simp <;> omega
theorem pp_step (l : List (Nat × Nat)) (k : Nat) : pp l k = pp l (k + 1) * pp l (k + 1) * qq l k := by
  induction l with
  | nil => rfl
  | cons a l ih =>
    obtain ⟨b, n⟩ := a
    have e : b ^ (n / 2 ^ k) = b ^ (n / 2 ^ (k + 1)) * b ^ (n / 2 ^ (k + 1)) * (if bitB n k then b else 1) := by
      conv => lhs; rw [bit_div n k]
      rw [Nat.pow_add, Nat.pow_mul, Nat.pow_two, Nat.mul_pow]
      split <;> simp
    simp only [pp, qq, e, ih]
    simp only [Nat.mul_assoc, Nat.mul_left_comm, Nat.mul_comm]
theorem qq_snoc (l : List (Nat × Nat)) (b n k : Nat) : qq (l ++ [(b, n)]) k = qq l k * (if bitB n k then b else 1) := by
  induction l with
  | nil => simp [qq]
  | cons a l ih => obtain ⟨c, m⟩ := a; simp only [List.cons_append, qq, ih, Nat.mul_assoc]
theorem qq_take {l : List (Nat × Nat)} {j b n : Nat} (h : l[j]? = some (b, n)) (k : Nat) : qq (l.take (j + 1)) k = qq (l.take j) k * (if bitB n k then b else 1) := by
  rw [show l.take (j + 1) = l.take j ++ [(b, n)] from by
    obtain ⟨h1, h2⟩ := List.getElem?_eq_some_iff.1 h
    rw [List.take_succ_eq_append_getElem h1, h2], qq_snoc]
theorem pp_one {l : List (Nat × Nat)} {k : Nat} (h : ∀ x ∈ l, x.2 < 2 ^ k) : pp l k = 1 := by
  induction l with
  | nil => rfl
  | cons a l ih =>
    obtain ⟨b, n⟩ := a
    have := h (b, n) List.mem_cons_self
    rw [pp, ih (fun x hx => h x (List.mem_cons_of_mem _ hx)), Nat.div_eq_of_lt this]; rfl
theorem lt_of_blen {n k : Nat} (h : blen n ≤ k) : n < 2 ^ k := by
  unfold blen at h
  split at h
  · rename_i h0; subst h0; exact Nat.two_pow_pos k
  · rename_i h0
    exact Nat.lt_of_lt_of_le ((Nat.log2_lt h0).1 (Nat.lt_succ_self _)) (Nat.pow_le_pow_right (by omega) h)
def baseN (x : Nat) (neg : Bool) (M : Nat) : Nat := if neg then invN x M else x
end Go.Proofs.YtpdejgdkpghjhaaGreatDoor
/- In a region whose order is drawn: an operation that waits for nothing (an alloc) beside a row of calls is walked once, whether it has come up or not. -/
namespace Go.Proofs.YtpdejgdkpghjhaaGreatDoor
def onlyN (K : Act → World → Prop) : Exit → Act → World → Prop
  | .normal, a, w => K a w
  | _, _, _ => False
theorem wp_onlyN {P : Program} {c : Code} {K : Act → World → Prop} {Q : Exit → Act → World → Prop} {a : Act} {w : World} (h : c.wp P (onlyN K) a w) : c.wp P (Exit.then K Q) a w :=
  wp_mono h (fun e a w hh => by
    cases e <;> first | exact hh | exact hh.elim)
section
variable {P : Program} {ops : Array Oper} {Q : Exit → Act → World → Prop} {md : Region.Mode} {S : World → Prop} {k : Nat}
theorem wpAnyK_takeD {i : Nat} {oi : Oper} {d : Option Tmp} {v : Value} {fuel : Nat} {listed : Array Bool} {a : Act} {w : World} (hi : ops[i]? = some oi) (hd : oi.dst = d) (hst : stepB md ops listed k i = true) (hre : reachB md ops ops.size k i = true)
    (hQ : ∀ c a w, Q (.panic c) (a.put d v) w → Q (.panic c) a w) (hD : Down md ops listed) (hS : S w) (hy : YieldsIf P ops S oi v a)
    (h : Down md ops (listed.setIfInBounds i true) → wpAnyK P md ops Q k S fuel (listed.setIfInBounds i true) (a.put d v) w) : wpAnyK P md ops Q k S (fuel + 1) listed a w := by
  subst hd
  exact wpAnyK_take hi hst hre hQ hD hS hy h
theorem wpAnyK_takeSD {i : Nat} {oi : Oper} {d : Option Tmp} {v : Value} {fuel : Nat} {listed : Array Bool} {a : Act} {w : World} (hi : ops[i]? = some oi) (hd : oi.dst = d) (hst : stepB md ops listed k i = true) (hre : decide (ops.size ≤ k) = true)
    (hQ : ∀ c a w, Q (.panic c) (a.put d v) w → Q (.panic c) a w) (hD : Down md ops listed) (hS : S w) (hy : YieldsIf P ops S oi v a)
    (h : Down md ops (listed.setIfInBounds i true) → wpAnyK P md ops Q k S fuel (listed.setIfInBounds i true) (a.put d v) w) : wpAnyK P md ops Q k S (fuel + 1) listed a w := by
  subst hd
  exact wpAnyK_takeS hi hst hre hQ hD hS hy h
theorem wpAnyK_pureD {i : Nat} {oi : Oper} {d : Option Tmp} {v : Value} {fuel : Nat} {listed : Array Bool} {a : Act} {w : World} (hi : ops[i]? = some oi) (hd : oi.dst = d) (hst : stepB md ops listed k i = true)
    (hQ : ∀ c a w, Q (.panic c) (a.put d v) w → Q (.panic c) a w) (hD : Down md ops listed) (hS : S w) (hy : YieldsIf P ops (fun _ => True) oi v a)
    (h : Down md ops (listed.setIfInBounds i true) → wpAnyK P md ops Q k S fuel (listed.setIfInBounds i true) (a.put d v) w) : wpAnyK P md ops Q k S (fuel + 1) listed a w := by
  subst hd
  exact wpAnyK_pure hi hst hQ hD hS hy h
end
end Go.Proofs.YtpdejgdkpghjhaaGreatDoor

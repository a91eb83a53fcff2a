/- Plain laws of products of powers modulo a number. No program stands here. -/
import Derived.Test.YtnnfgphioapmnaaPwL
import Derived.Test.YtnnfgphioapmnaaBit
set_option linter.unusedVariables false
namespace Go.Proofs.Ytnnfgphioapmnaa

/-- The inverse of x modulo M. -/
def invN (x M : Nat) : Nat := ((List.range M).find? (fun y => decide (x * y % M = 1))).getD 0
theorem inv_uniq {x M y z : Nat} (hy : y < M) (hz : z < M) (h1 : x * y % M = 1) (h2 : x * z % M = 1) : y = z := by
  have e1 : x * y * z % M = z := by
    rw [Nat.mul_mod, h1, Nat.one_mul, Nat.mod_mod, Nat.mod_eq_of_lt hz]
  have e2 : x * y * z = x * z * y := by rw [Nat.mul_assoc, Nat.mul_comm y z, ← Nat.mul_assoc]
  rw [e2, Nat.mul_mod, h2, Nat.one_mul, Nat.mod_mod, Nat.mod_eq_of_lt hy] at e1
  exact e1
theorem invN_of {x M y : Nat} (hy : y < M) (h : x * y % M = 1) : invN x M = y := by
  unfold invN
  cases hf : (List.range M).find? (fun y => decide (x * y % M = 1)) with
  | none =>
    rw [List.find?_eq_none] at hf
    have := hf y (List.mem_range.2 hy)
    simp [h] at this
  | some z =>
    have h1 := List.find?_some hf
    have h2 := List.mem_range.1 (List.mem_of_find?_eq_some hf)
    simp only [decide_eq_true_eq] at h1
    exact inv_uniq h2 hy h1 h

/-- The product of the powers with the exponents' digits from number k on. -/
def pp : List (Nat × Nat) → Nat → Nat
  | [], _ => 1
  | (b, n) :: l, k => b ^ (n / 2 ^ k) * pp l k
/-- The product of the bases whose exponents have the digit k. -/
def qq : List (Nat × Nat) → Nat → Nat
  | [], _ => 1
  | (b, n) :: l, k => (if bitB n k then b else 1) * qq l k
theorem bit_div (n k : Nat) : n / 2 ^ k = 2 * (n / 2 ^ (k + 1)) + (if bitB n k then 1 else 0) := by
  unfold bitB
  rw [Nat.pow_succ, ← Nat.div_div_eq_div_mul]
  have := Nat.mod_two_eq_zero_or_one (n / 2 ^ k)
  rcases this with h | h <;> rw [h] <;> simp <;> omega
theorem pp_step (l : List (Nat × Nat)) (k : Nat) : pp l k = pp l (k + 1) * pp l (k + 1) * qq l k := by
  induction l with
  | nil => rfl
  | cons a l ih =>
    obtain ⟨b, n⟩ := a
    have e : b ^ (n / 2 ^ k) = b ^ (n / 2 ^ (k + 1)) * b ^ (n / 2 ^ (k + 1)) * (if bitB n k then b else 1) := by
      conv => lhs; rw [bit_div n k]
      rw [Nat.pow_add, Nat.pow_mul, Nat.pow_two, Nat.mul_pow]
      split <;> simp
    simp only [pp, qq, e, ih]
    simp only [Nat.mul_assoc, Nat.mul_left_comm, Nat.mul_comm]
theorem qq_snoc (l : List (Nat × Nat)) (b n k : Nat) : qq (l ++ [(b, n)]) k = qq l k * (if bitB n k then b else 1) := by
  induction l with
  | nil => simp [qq]
  | cons a l ih => obtain ⟨c, m⟩ := a; simp only [List.cons_append, qq, ih, Nat.mul_assoc]
theorem pp_snoc (l : List (Nat × Nat)) (b n k : Nat) : pp (l ++ [(b, n)]) k = pp l k * b ^ (n / 2 ^ k) := by
  induction l with
  | nil => simp [pp]
  | cons a l ih => obtain ⟨c, m⟩ := a; simp only [List.cons_append, pp, ih, Nat.mul_assoc]
theorem qq_take {l : List (Nat × Nat)} {j b n : Nat} (h : l[j]? = some (b, n)) (k : Nat) : qq (l.take (j + 1)) k = qq (l.take j) k * (if bitB n k then b else 1) := by
  rw [show l.take (j + 1) = l.take j ++ [(b, n)] from by
    obtain ⟨h1, h2⟩ := List.getElem?_eq_some_iff.1 h
    rw [List.take_succ_eq_append_getElem h1, h2], qq_snoc]
theorem pp_take {l : List (Nat × Nat)} {j b n : Nat} (h : l[j]? = some (b, n)) (k : Nat) : pp (l.take (j + 1)) k = pp (l.take j) k * b ^ (n / 2 ^ k) := by
  rw [show l.take (j + 1) = l.take j ++ [(b, n)] from by
    obtain ⟨h1, h2⟩ := List.getElem?_eq_some_iff.1 h
    rw [List.take_succ_eq_append_getElem h1, h2], pp_snoc]
theorem pp_one {l : List (Nat × Nat)} {k : Nat} (h : ∀ x ∈ l, x.2 < 2 ^ k) : pp l k = 1 := by
  induction l with
  | nil => rfl
  | cons a l ih =>
    obtain ⟨b, n⟩ := a
    have := h (b, n) List.mem_cons_self
    rw [pp, ih (fun x hx => h x (List.mem_cons_of_mem _ hx)), Nat.div_eq_of_lt this]; rfl
theorem lt_of_blen {n k : Nat} (h : blen n ≤ k) : n < 2 ^ k := by
  unfold blen at h
  split at h
  · rename_i h0; subst h0; exact Nat.two_pow_pos k
  · rename_i h0
    exact Nat.lt_of_lt_of_le ((Nat.log2_lt h0).1 (Nat.lt_succ_self _)) (Nat.pow_le_pow_right (by omega) h)

/-- The base of a power with a sign. -/
def baseN (x : Nat) (neg : Bool) (M : Nat) : Nat := if neg then invN x M else x
/-- A power with a sign. -/
def pwN (x : Nat) (neg : Bool) (n M : Nat) : Nat := baseN x neg M ^ n % M
end Go.Proofs.Ytnnfgphioapmnaa

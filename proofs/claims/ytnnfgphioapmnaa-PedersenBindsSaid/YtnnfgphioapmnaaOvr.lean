/- Walk: dominoref01.Times in columns. -/
import Derived.Test.YtnnfgphioapmnaaNaE
import Derived.Test.YtnnfgphioapmnaaBit
import Derived.Deep.DeepCutAuto
import Derived.Deep.CutBlock
set_option linter.unusedVariables false
set_option linter.unusedSimpArgs false
namespace Go.Proofs.Ytnnfgphioapmnaa
open Go.RowKit

/-- n zeros. -/
def zi (n : Nat) : Array Value := madeCells #[.int .i64 0] n
theorem zi_size (n : Nat) : (zi n).size = n := size_madeCells _ _
theorem int_info : (Try.prog.info? 3).map (fun i => (i.zero, i.size, i.bytes)) = some (some (.int .i64 0), 1, 8) := by kernel_rfl
theorem make_ints (n : Nat) (hn : n ≤ 1000000) (w : World) : (Instr.makeSlice 107 (.int .i64 n) (.int .i64 n)).run Try.prog w = .ok (.slice (some ⟨w.heap.size, 0, none⟩) n n) (w.alloc (.cells (zi n) 3)) := by
  obtain ⟨i0, hi, hz0, hz1, hz2⟩ := info_parts int_info
  have h := run_make (P := Try.prog) w 107 3 i0 (.int .i64 0) Try.underlying107 hi hz0 .i64 .i64 (n : Int) (n : Int) (by omega) (Int.le_refl _) (by rw [hz2]; omega) (by omega)
  rw [h, hz1, Int.toNat_natCast, Nat.mul_one]
  rfl

/-- The columns lie in block B. -/
def ColB (w : World) (B n : Nat) (f : Nat → Nat) : Prop := ∃ cur : Array Value, w.heap[B]? = some (.cells cur 3 (0, 0)) ∧ cur.size = n ∧ ∀ j, j < n → cur[j]? = some (.int .i64 (f j))
theorem ColB.start {w : World} (n : Nat) : ColB (w.alloc (.cells (zi n) 3)) w.heap.size n (fun _ => 0) := by
  refine ⟨_, heap_alloc_new _ _, zi_size n, fun j h => ?_⟩
  unfold zi madeCells
  rw [Array.getElem?_map, Array.getElem?_range, if_pos h]
  simp [Nat.mod_one]
theorem ColB.cell {w : World} {B n : Nat} {f : Nat → Nat} (h : ColB w B n f) {k : Nat} (hk : k < n) : w.cell? ⟨B, k, none⟩ = some (.int .i64 (f k)) := by
  obtain ⟨cur, h1, h2, h3⟩ := h
  rw [Lib.cell_of_heap h1]
  exact h3 k hk
theorem ColB.free {w : World} {B n : Nat} {f : Nat → Nat} (h : ColB w B n f) (k : Nat) : w.frozen? ⟨B, k, none⟩ = false := by
  obtain ⟨cur, h1, h2, h3⟩ := h
  exact Lib.frozen_of_heap h1 k
theorem ColB.set {w : World} {B n p c : Nat} {f : Nat → Nat} (h : ColB w B n f) : ColB (w.setCell ⟨B, p, none⟩ (.int .i64 (c : Int))) B n (fun j => if j = p then c else f j) := by
  obtain ⟨cur, h1, h2, h3⟩ := h
  refine ⟨_, block_setCell h1 _, by rw [Array.size_setIfInBounds, h2], fun j hj => ?_⟩
  rw [Array.getElem?_setIfInBounds]
  by_cases e : j = p
  · subst e
    rw [if_pos rfl, if_pos (by omega)]
    simp
  · rw [if_neg (by omega)]
    simp only [if_neg e]
    exact h3 j hj
theorem ColB.drew {w : World} {B n : Nat} {f : Nat → Nat} (h : ColB w B n f) : ColB w.drew B n f := h
theorem ColB.kept {w w' : World} {K B n : Nat} {f : Nat → Nat} (h : ColB w B n f) (hb : Below K w w') (hB : B < K) : ColB w' B n f := by
  obtain ⟨cur, h1, h2, h3⟩ := h
  exact ⟨cur, by rw [← h1]; exact hb.block _ hB, h2, h3⟩

/-- What n columns from the i-th on are worth. -/
def cs (f : Nat → Nat) : Nat → Nat → Nat
  | 0, _ => 0
  | n + 1, i => f i + 256 * cs f n (i + 1)
theorem cs_zero (n i : Nat) : cs (fun _ => 0) n i = 0 := by
  induction n generalizing i with
  | zero => rfl
  | succ n IH => simp [cs, IH]
theorem cs_set (f : Nat → Nat) (v n i p : Nat) : cs (fun j => if j = p then f p + v else f j) n i = cs f n i + (if i ≤ p ∧ p < i + n then v * 256 ^ (p - i) else 0) := by
  induction n generalizing i with
  | zero => rw [if_neg (by omega)]; rfl
  | succ n IH =>
    simp only [cs]
    rw [IH]
    by_cases e : i = p
    · subst e
      rw [if_pos rfl, if_neg (by omega), if_pos (by omega), Nat.sub_self]
      omega
    · rw [if_neg e]
      by_cases h : i + 1 ≤ p ∧ p < i + 1 + n
      · rw [if_pos h, if_pos (by omega), show p - i = p - (i + 1) + 1 from by omega, Nat.pow_succ, ← Nat.mul_assoc]
        omega
      · rw [if_neg h, if_neg (by omega)]
        omega
/-- A digit more of the first factor. -/
theorem mod_more (x i : Nat) : x % 256 ^ (i + 1) = x % 256 ^ i + 256 ^ i * dig x i := by
  rw [Nat.mod_pow_succ]
  rfl
theorem tim_step {x y i j S : Nat} (h : S = x % 256 ^ i * y + dig x i * 256 ^ i * (y % 256 ^ j)) : S + dig x i * dig y j * 256 ^ (i + j) = x % 256 ^ i * y + dig x i * 256 ^ i * (y % 256 ^ (j + 1)) := by
  rw [h, mod_more y j, Nat.pow_add, Nat.mul_add (dig x i * 256 ^ i), Nat.add_assoc]
  congr 2
  rw [Nat.mul_mul_mul_comm, Nat.mul_comm (dig y j)]
theorem tim_row {x y i : Nat} : x % 256 ^ i * y + dig x i * 256 ^ i * y = x % 256 ^ (i + 1) * y := by
  rw [mod_more, Nat.add_mul, Nat.mul_comm (dig x i)]
theorem car_step {V f r q i : Nat} (h : V / 256 ^ i = f + 256 * r + q) : V / 256 ^ (i + 1) = r + (f + q) / 256 ∧ dig V i = (f + q) % 256 := by
  unfold dig
  rw [Nat.pow_succ, ← Nat.div_div_eq_div_mul, h]
  omega

end Go.Proofs.Ytnnfgphioapmnaa
/- Walk: dominoref01.Over, bit by bit. -/
set_option linter.unusedVariables false
set_option linter.unusedSimpArgs false
namespace Go.Proofs.Ytnnfgphioapmnaa
open Go.RowKit

theorem OutB.kept {w w' : World} {K B n i v : Nat} (h : OutB w B n i v) (hb : Below K w w') (hB : B < K) : OutB w' B n i v := by
  obtain ⟨cur, h1, h2, h3⟩ := h
  exact ⟨cur, by rw [← h1]; exact hb.block _ hB, h2, h3⟩
theorem OutB.get {w : World} {B n v : Nat} (h : OutB w B n n v) {k j : Nat} (hk : k + 1 + j = n) : w.cell? ⟨B, k, none⟩ = some (.int .u8 (dig v j)) := by
  obtain ⟨cur, h1, h2, h3⟩ := h
  rw [Lib.cell_of_heap h1]
  have := h3 j (by omega)
  rwa [show n - 1 - j = k from by omega] at this
theorem OutB.zero {w : World} (n : Nat) : OutB (w.alloc (.cells (zb n) 5)) w.heap.size n n 0 := by
  refine ⟨_, heap_alloc_new _ _, zb_size n, fun j h => ?_⟩
  unfold zb madeCells
  rw [Array.getElem?_map, Array.getElem?_range, if_pos (by omega)]
  simp [Nat.mod_one, dig]
theorem OutB.put {w : World} {B n v v' k j c : Nat} (h : OutB w B n n v) (hk : k + 1 + j = n) (hc : dig v' j = c) (ho : ∀ i, i ≠ j → dig v' i = dig v i) : OutB (w.setCell ⟨B, k, none⟩ (.int .u8 (c : Int))) B n n v' := by
  obtain ⟨cur, h1, h2, h3⟩ := h
  refine ⟨_, block_setCell h1 _, by rw [Array.size_setIfInBounds, h2], fun i hi => ?_⟩
  rw [Array.getElem?_setIfInBounds]
  by_cases e : i = j
  · subst e
    rw [if_pos (by omega), if_pos (by omega), hc]
  · rw [if_neg (by omega), ho i e]
    exact h3 i hi
/-- One binary digit set in a number that ends in zeros. -/
theorem set_at (q e : Nat) : (q * 2 ^ (e + 1) + 2 ^ e) / 256 ^ (e / 8) = q * 2 ^ (e + 1) / 256 ^ (e / 8) + 2 ^ (e % 8) ∧ q * 2 ^ (e + 1) / 256 ^ (e / 8) % 256 + 2 ^ (e % 8) < 256 := by
  obtain ⟨a, ha⟩ : ∃ a, e / 8 = a := ⟨_, rfl⟩
  obtain ⟨b, hb⟩ : ∃ b, e % 8 = b := ⟨_, rfl⟩
  have hb8 : b < 8 := by omega
  have he : e = 8 * a + b := by omega
  rw [ha, hb]
  subst he
  have e1 : q * 2 ^ (8 * a + b + 1) = q * 2 ^ (b + 1) * 256 ^ a := by
    rw [show (256 : Nat) ^ a = 2 ^ (8 * a) from by rw [Nat.pow_mul], Nat.mul_assoc, ← Nat.pow_add]
    congr 2
    omega
  have e2 : (2 : Nat) ^ (8 * a + b) = 2 ^ b * 256 ^ a := by
    rw [show (256 : Nat) ^ a = 2 ^ (8 * a) from by rw [Nat.pow_mul], ← Nat.pow_add]
    congr 1
    omega
  have hp : 0 < 256 ^ a := Nat.pow_pos (by decide)
  rw [e1, e2, ← Nat.add_mul, Nat.mul_div_cancel _ hp, Nat.mul_div_cancel _ hp]
  clear e1 e2 hp ha hb
  refine ⟨rfl, ?_⟩
  match b, hb8 with
  | 0, _ => omega
  | 1, _ => omega
  | 2, _ => omega
  | 3, _ => omega
  | 4, _ => omega
  | 5, _ => omega
  | 6, _ => omega
  | 7, _ => omega
theorem dig_set_at (q e : Nat) : dig (q * 2 ^ (e + 1) + 2 ^ e) (e / 8) = dig (q * 2 ^ (e + 1)) (e / 8) + 2 ^ (e % 8) ∧ dig (q * 2 ^ (e + 1)) (e / 8) + 2 ^ (e % 8) < 256 := by
  obtain ⟨h1, h2⟩ := set_at q e
  unfold dig
  rw [h1]
  generalize q * 2 ^ (e + 1) / 256 ^ (e / 8) = A at *
  generalize 2 ^ (e % 8) = P at *
  omega
theorem dig_set_off (q e i : Nat) (hi : i ≠ e / 8) : dig (q * 2 ^ (e + 1) + 2 ^ e) i = dig (q * 2 ^ (e + 1)) i := by
  obtain ⟨h1, h2⟩ := set_at q e
  obtain ⟨a, ha⟩ : ∃ a, e / 8 = a := ⟨_, rfl⟩
  obtain ⟨b, hb⟩ : ∃ b, e % 8 = b := ⟨_, rfl⟩
  have he : e = 8 * a + b := by omega
  rw [ha, hb] at h1 h2
  rw [ha] at hi
  unfold dig
  rcases Nat.lt_or_ge i a with h | h
  · have e1 : ∀ c, 2 ^ (8 * a + c) = 2 ^ (8 * (a - i - 1) + c) * 256 * 256 ^ i := by
      intro c
      rw [show (256 : Nat) ^ i = 2 ^ (8 * i) from by rw [Nat.pow_mul], show (256 : Nat) = 2 ^ 8 from rfl, ← Nat.pow_add, ← Nat.pow_add]
      congr 1
      omega
    have hp : 0 < 256 ^ i := Nat.pow_pos (by decide)
    rw [he, show 8 * a + b + 1 = 8 * a + (b + 1) from by omega, e1, e1, ← Nat.mul_assoc q, ← Nat.add_mul, Nat.mul_div_cancel _ hp, Nat.mul_div_cancel _ hp, ← Nat.mul_assoc q, ← Nat.add_mul, Nat.mul_mod_left, Nat.mul_mod_left]
  · obtain ⟨c, rfl⟩ : ∃ c, i = a + 1 + c := ⟨i - a - 1, by omega⟩
    have key : ∀ m, m / 256 ^ (a + 1 + c) = m / 256 ^ a / 256 / 256 ^ c := by
      intro m
      rw [Nat.div_div_eq_div_mul, Nat.div_div_eq_div_mul, show (256 : Nat) ^ (a + 1 + c) = 256 ^ a * (256 * 256 ^ c) from by rw [Nat.pow_add, Nat.pow_succ, Nat.mul_assoc]]
    rw [key, key, h1]
    congr 2
    generalize q * 2 ^ (e + 1) / 256 ^ a = A at *
    generalize 2 ^ b = P at *
    omega
/-- A binary digit of the dividend more. -/
theorem half_up (x e : Nat) : ∃ β, β ≤ 1 ∧ (bitB x e = true → β = 1) ∧ (bitB x e = false → β = 0) ∧ x / 2 ^ e = 2 * (x / 2 ^ (e + 1)) + β := by
  refine ⟨x / 2 ^ e % 2, by omega, ?_, ?_, ?_⟩
  · unfold bitB; simp
  · unfold bitB; simp
  · rw [Nat.pow_succ, ← Nat.div_div_eq_div_mul]
    omega
theorem over_lo {X y q r β t : Nat} (hq : X / y = q) (hr : X % y = r) (ht : 2 * r + β = t) (h : t < y) : (2 * X + β) / y = 2 * q ∧ (2 * X + β) % y = t := by
  have h0 : 0 < y := by omega
  have h1 := Nat.div_add_mod X y
  rw [hq, hr] at h1
  have e : 2 * X + β = t + y * (2 * q) := by
    rw [← h1, ← ht, Nat.mul_left_comm y 2 q]
    omega
  rw [e, Nat.add_mul_div_left _ _ h0, Nat.add_mul_mod_self_left, Nat.div_eq_of_lt h, Nat.mod_eq_of_lt h, Nat.zero_add]
  exact ⟨rfl, rfl⟩
theorem over_hi {X y q r β t : Nat} (hq : X / y = q) (hr : X % y = r) (ht : 2 * r + β = t) (hβ : β ≤ 1) (h0 : 0 < y) (h : y ≤ t) : (2 * X + β) / y = 2 * q + 1 ∧ (2 * X + β) % y = t - y := by
  have hl : r < y := by rw [← hr]; exact Nat.mod_lt _ h0
  have h1 := Nat.div_add_mod X y
  rw [hq, hr] at h1
  have e : 2 * X + β = (t - y) + y * (2 * q + 1) := by
    have h3 : y * (2 * q + 1) = 2 * (y * q) + y := by rw [Nat.mul_add, Nat.mul_one, Nat.mul_left_comm]
    rw [h3, ← h1]
    omega
  have h2 : t - y < y := by omega
  rw [e, Nat.add_mul_div_left _ _ h0, Nat.add_mul_mod_self_left, Nat.div_eq_of_lt h2, Nat.mod_eq_of_lt h2, Nat.zero_add]
  exact ⟨rfl, rfl⟩
theorem num_one : (nS 1) = ⟨#[1]⟩ := rfl

/-- Behind the round that brought in the digit e. -/
def OvQ (x y K : Nat) : Nat := x / 2 ^ K / y * 2 ^ K
theorem ovq_lo {x y e : Nat} (h : x / 2 ^ e / y = 2 * (x / 2 ^ (e + 1) / y)) : OvQ x y e = OvQ x y (e + 1) := by
  unfold OvQ
  rw [h, Nat.pow_succ, Nat.mul_comm 2, Nat.mul_assoc, Nat.mul_comm 2]
theorem ovq_hi {x y e : Nat} (h : x / 2 ^ e / y = 2 * (x / 2 ^ (e + 1) / y) + 1) : OvQ x y e = OvQ x y (e + 1) + 2 ^ e := by
  unfold OvQ
  rw [h, Nat.add_mul, Nat.one_mul, Nat.pow_succ, Nat.mul_comm 2, Nat.mul_assoc, Nat.mul_comm 2]

end Go.Proofs.Ytnnfgphioapmnaa

/- Walk: dominoref01.Times in columns. -/
import Derived.Test.YtnnfgphioapmnaaNaE
set_option linter.unusedVariables false
set_option linter.unusedSimpArgs false
namespace Go.Proofs.Ytnnfgphioapmnaa
open Go.RowKit

/-- n zeros. -/
def zi (n : Nat) : Array Value := madeCells #[.int .i64 0] n
theorem zi_size (n : Nat) : (zi n).size = n := size_madeCells _ _
theorem int_info : (Try.prog.info? 3).map (fun i => (i.zero, i.size, i.bytes)) = some (some (.int .i64 0), 1, 8) := by kernel_rfl
theorem make_ints (n : Nat) (hn : n ≤ 1000000) (w : World) : (Instr.makeSlice 107 (.int .i64 n) (.int .i64 n)).run Try.prog w = .ok (.slice (some ⟨w.heap.size, 0, none⟩) n n) (w.alloc (.cells (zi n) 3)) := by
  obtain ⟨i0, hi, hz0, hz1, hz2⟩ := info_parts int_info
  have h := run_make (P := Try.prog) w 107 3 i0 (.int .i64 0) Try.underlying107 hi hz0 .i64 .i64 (n : Int) (n : Int) (by omega) (Int.le_refl _) (by rw [hz2]; omega) (by omega)
  rw [h, hz1, Int.toNat_natCast, Nat.mul_one]
  rfl

/-- The columns lie in block B. -/
def ColB (w : World) (B n : Nat) (f : Nat → Nat) : Prop := ∃ cur : Array Value, w.heap[B]? = some (.cells cur 3 (0, 0)) ∧ cur.size = n ∧ ∀ j, j < n → cur[j]? = some (.int .i64 (f j))
theorem ColB.start {w : World} (n : Nat) : ColB (w.alloc (.cells (zi n) 3)) w.heap.size n (fun _ => 0) := by
  refine ⟨_, heap_alloc_new _ _, zi_size n, fun j h => ?_⟩
  unfold zi madeCells
  rw [Array.getElem?_map, Array.getElem?_range, if_pos h]
  simp [Nat.mod_one]
theorem ColB.cell {w : World} {B n : Nat} {f : Nat → Nat} (h : ColB w B n f) {k : Nat} (hk : k < n) : w.cell? ⟨B, k, none⟩ = some (.int .i64 (f k)) := by
  obtain ⟨cur, h1, h2, h3⟩ := h
  rw [Lib.cell_of_heap h1]
  exact h3 k hk
theorem ColB.free {w : World} {B n : Nat} {f : Nat → Nat} (h : ColB w B n f) (k : Nat) : w.frozen? ⟨B, k, none⟩ = false := by
  obtain ⟨cur, h1, h2, h3⟩ := h
  exact Lib.frozen_of_heap h1 k
theorem ColB.set {w : World} {B n p c : Nat} {f : Nat → Nat} (h : ColB w B n f) : ColB (w.setCell ⟨B, p, none⟩ (.int .i64 (c : Int))) B n (fun j => if j = p then c else f j) := by
  obtain ⟨cur, h1, h2, h3⟩ := h
  refine ⟨_, block_setCell h1 _, by rw [Array.size_setIfInBounds, h2], fun j hj => ?_⟩
  rw [Array.getElem?_setIfInBounds]
  by_cases e : j = p
  · subst e
    rw [if_pos rfl, if_pos (by omega)]
    simp
  · rw [if_neg (by omega)]
    simp only [if_neg e]
    exact h3 j hj
theorem ColB.drew {w : World} {B n : Nat} {f : Nat → Nat} (h : ColB w B n f) : ColB w.drew B n f := h
theorem ColB.kept {w w' : World} {K B n : Nat} {f : Nat → Nat} (h : ColB w B n f) (hb : Below K w w') (hB : B < K) : ColB w' B n f := by
  obtain ⟨cur, h1, h2, h3⟩ := h
  exact ⟨cur, by rw [← h1]; exact hb.block _ hB, h2, h3⟩

/-- What n columns from the i-th on are worth. -/
def cs (f : Nat → Nat) : Nat → Nat → Nat
  | 0, _ => 0
  | n + 1, i => f i + 256 * cs f n (i + 1)
theorem cs_zero (n i : Nat) : cs (fun _ => 0) n i = 0 := by
  induction n generalizing i with
  | zero => rfl
  | succ n IH => simp [cs, IH]
theorem cs_set (f : Nat → Nat) (v n i p : Nat) : cs (fun j => if j = p then f p + v else f j) n i = cs f n i + (if i ≤ p ∧ p < i + n then v * 256 ^ (p - i) else 0) := by
  induction n generalizing i with
  | zero => rw [if_neg (by omega)]; rfl
  | succ n IH =>
    simp only [cs]
    rw [IH]
    by_cases e : i = p
    · subst e
      rw [if_pos rfl, if_neg (by omega), if_pos (by omega), Nat.sub_self]
      omega
    · rw [if_neg e]
      by_cases h : i + 1 ≤ p ∧ p < i + 1 + n
      · rw [if_pos h, if_pos (by omega), show p - i = p - (i + 1) + 1 from by omega, Nat.pow_succ, ← Nat.mul_assoc]
        omega
      · rw [if_neg h, if_neg (by omega)]
        omega
/-- A digit more of the first factor. -/
theorem mod_more (x i : Nat) : x % 256 ^ (i + 1) = x % 256 ^ i + 256 ^ i * dig x i := by
  rw [Nat.mod_pow_succ]
  rfl
theorem tim_step {x y i j S : Nat} (h : S = x % 256 ^ i * y + dig x i * 256 ^ i * (y % 256 ^ j)) : S + dig x i * dig y j * 256 ^ (i + j) = x % 256 ^ i * y + dig x i * 256 ^ i * (y % 256 ^ (j + 1)) := by
  rw [h, mod_more y j, Nat.pow_add, Nat.mul_add (dig x i * 256 ^ i), Nat.add_assoc]
  congr 2
  rw [Nat.mul_mul_mul_comm, Nat.mul_comm (dig y j)]
theorem tim_row {x y i : Nat} : x % 256 ^ i * y + dig x i * 256 ^ i * y = x % 256 ^ (i + 1) * y := by
  rw [mod_more, Nat.add_mul, Nat.mul_comm (dig x i)]
theorem car_step {V f r q i : Nat} (h : V / 256 ^ i = f + 256 * r + q) : V / 256 ^ (i + 1) = r + (f + q) / 256 ∧ dig V i = (f + q) % 256 := by
  unfold dig
  rw [Nat.pow_succ, ← Nat.div_div_eq_div_mul, h]
  omega

end Go.Proofs.Ytnnfgphioapmnaa

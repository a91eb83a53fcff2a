/- Walk: dominoref02.bezout. -/
import Derived.Test.YtnnfgphioapmnaaPeJ
import Derived.Test.YtnnfgphioapmnaaGsa
set_option linter.unusedVariables false
set_option linter.unusedSimpArgs false
namespace Go.Proofs.Ytnnfgphioapmnaa
open Go.RowKit

/-- What bezout returns. -/
def RetBz (a b : Nat) (w : World) (e : Ending) (w' : World) : Prop := ∃ x y : Int, e = .returned (.tuple #[.string (nS (Nat.gcd a b)), intV x, intV y]) ∧ Below w.heap.size w w' ∧ (a : Int) * x + b * y = Nat.gcd a b ∧ x.natAbs ≤ max 1 b ∧ y.natAbs ≤ max 1 a ∧ (b = 0 → y = 0 ∧ x = 1)
theorem bz_law {a b g : Nat} {x y : Int} (h : (b : Int) * x + (a % b : Nat) * y = g) : (a : Int) * y + b * (x - (a / b : Nat) * y) = g := by
  have e : (a : Int) = b * (a / b : Nat) + (a % b : Nat) := by rw [← Int.natCast_mul, ← Int.natCast_add, Nat.div_add_mod]
  rw [← h]
  conv => lhs; rw [e]
  rw [Int.add_mul, Int.mul_sub, Int.mul_assoc]
  omega
theorem bz_bound {a b : Nat} {x y : Int} (hb : 0 < b) (hx : x.natAbs ≤ max 1 (a % b)) (hy : y.natAbs ≤ max 1 b) (h0 : a % b = 0 → y = 0 ∧ x = 1) : (x - (a / b : Nat) * y).natAbs ≤ max 1 a := by
  rcases Nat.eq_zero_or_pos (a % b) with h | h
  · obtain ⟨rfl, rfl⟩ := h0 h
    rw [Int.mul_zero]; omega
  · have e := Nat.div_add_mod a b
    have h1 : ((a / b : Nat) * y).natAbs ≤ a / b * b := by
      rw [Int.natAbs_mul, Int.natAbs_natCast]
      exact Nat.mul_le_mul_left _ (by omega)
    have h2 : a / b * b = b * (a / b) := Nat.mul_comm _ _
    omega
theorem bx2_off {W : World} {B C : Nat} {x y u v : Value} {T : TypeId} (h : Bx2 W B x y T) (hne : B ≠ C) : Bx2 ((W.setCell ⟨C, 0, none⟩ u).setCell ⟨C, 1, none⟩ v) B x y T := by
  unfold Bx2
  rw [heap_setCell_other _ _ _ _ hne, heap_setCell_other _ _ _ _ hne]
  exact h
theorem below_set2 {B : Nat} {w W : World} (h : Below B w W) {C : Nat} (hC : B ≤ C) (u v : Value) : Below B w ((W.setCell ⟨C, 0, none⟩ u).setCell ⟨C, 1, none⟩ v) :=
  (h.setCell (p := ⟨C, 0, none⟩) hC u).setCell (p := ⟨C, 1, none⟩) hC v
theorem bx2_at (w : World) (x0 x1 y0 y1 : Value) (T : TypeId) : Bx2 ((w.alloc (.cells #[x0, x1] T)).alloc (.cells #[y0, y1] T)) w.heap.size x0 x1 T ∧ Bx2 ((w.alloc (.cells #[x0, x1] T)).alloc (.cells #[y0, y1] T)) (w.heap.size + 1) y0 y1 T ∧ Below w.heap.size w ((w.alloc (.cells #[x0, x1] T)).alloc (.cells #[y0, y1] T)) := by
  refine ⟨(Bx2.new w x0 x1 T).next ((Below.refl _ _).alloc (Nat.le_refl _) _), ?_, ((Below.refl w.heap.size w).alloc (Nat.le_refl _) _).alloc (by simp) _⟩
  have := Bx2.new (w.alloc (.cells #[x0, x1] T)) y0 y1 T
  rwa [World.size_alloc] at this
end Go.Proofs.Ytnnfgphioapmnaa

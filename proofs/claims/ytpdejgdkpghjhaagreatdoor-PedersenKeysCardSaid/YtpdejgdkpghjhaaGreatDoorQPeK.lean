/- Walks: dominoref02.Of, Sub, DivMod with its quotient. -/
import Derived.Test.YtpdejgdkpghjhaaGreatDoorQPeI
import Derived.Test.YtpdejgdkpghjhaaGreatDoorQGsa
set_option linter.unusedVariables false
set_option linter.unusedSimpArgs false
namespace Go.Proofs.YtpdejgdkpghjhaaGreatDoor
open Go.RowKit

theorem below_cell {B : Nat} {w W : World} (h : Below B w W) {a : Addr} {v : Value} (ha : a.block < B) (hc : w.cell? a = some v) : W.cell? a = some v := by
  rw [World.cell?_of_block (h.block a.block ha)]; exact hc

end Go.Proofs.YtpdejgdkpghjhaaGreatDoor
/- Walk: dominoref02.bezout. -/
set_option linter.unusedVariables false
set_option linter.unusedSimpArgs false
namespace Go.Proofs.YtpdejgdkpghjhaaGreatDoor
open Go.RowKit

theorem below_set2 {B : Nat} {w W : World} (h : Below B w W) {C : Nat} (hC : B ≤ C) (u v : Value) : Below B w ((W.setCell ⟨C, 0, none⟩ u).setCell ⟨C, 1, none⟩ v) :=
  (h.setCell (p := ⟨C, 0, none⟩) hC u).setCell (p := ⟨C, 1, none⟩) hC v
theorem bx2_at (w : World) (x0 x1 y0 y1 : Value) (T : TypeId) : Bx2 ((w.alloc (.cells #[x0, x1] T)).alloc (.cells #[y0, y1] T)) w.heap.size x0 x1 T ∧ Bx2 ((w.alloc (.cells #[x0, x1] T)).alloc (.cells #[y0, y1] T)) (w.heap.size + 1) y0 y1 T ∧ Below w.heap.size w ((w.alloc (.cells #[x0, x1] T)).alloc (.cells #[y0, y1] T)) := by
  refine ⟨(Bx2.new w x0 x1 T).next ((Below.refl _ _).alloc (Nat.le_refl _) _), ?_, ((Below.refl w.heap.size w).alloc (Nat.le_refl _) _).alloc (by simp) _⟩
  have := Bx2.new (w.alloc (.cells #[x0, x1] T)) y0 y1 T
  rwa [World.size_alloc] at this
end Go.Proofs.YtpdejgdkpghjhaaGreatDoor

/- Walks: pedersen.reduced. -/
import Derived.Test.YtndmjfkmnjejkaaGreatDoorQPeR
import Derived.Test.YtndmjfkmnjejkaaGreatDoorQMdz
set_option linter.unusedVariables false
set_option linter.unusedSimpArgs false
namespace Go.Proofs.YtndmjfkmnjejkaaGreatDoor
open Go.RowKit
theorem below_set4 {B : Nat} {w W : World} (h : Below B w W) {C : Nat} (hC : B ≤ C) (a b c d : Value) : Below B w ((((W.setCell ⟨C, 0, none⟩ a).setCell ⟨C, 1, none⟩ b).setCell ⟨C, 2, none⟩ c).setCell ⟨C, 3, none⟩ d) :=
  (((h.setCell (p := ⟨C, 0, none⟩) hC a).setCell (p := ⟨C, 1, none⟩) hC b).setCell (p := ⟨C, 2, none⟩) hC c).setCell (p := ⟨C, 3, none⟩) hC d
end Go.Proofs.YtndmjfkmnjejkaaGreatDoor
/- Walks: pedersen.Times of numbers whose products fit, pedersen.Shift of a canonical number. -/
set_option linter.unusedVariables false
set_option linter.unusedSimpArgs false
namespace Go.Proofs.YtndmjfkmnjejkaaGreatDoor
open Go.RowKit
def K4 (w W : World) (M O G H : ByteArray) (vb : Bool) (vt : ByteArray) (rb : Bool) (rt : ByteArray) (bb : Bool) (bt : ByteArray) : Prop :=
  KO w W M O G H vb vt rb rt ∧ Bx2 W (w.heap.size + 1 + 1) (.bool bb) (.string bt) 28 ∧ Bx4 W (w.heap.size + 1 + 1 + 1) (.bool false) (.string ⟨#[]⟩) (.bool false) (.string ⟨#[]⟩) 37
end Go.Proofs.YtndmjfkmnjejkaaGreatDoor
/- Walks: pedersen.Sum, Times. -/
set_option linter.unusedVariables false
set_option linter.unusedSimpArgs false
namespace Go.Proofs.YtndmjfkmnjejkaaGreatDoor
open Go.RowKit
theorem zvalid_all {z : Int} (h : z.natAbs < 256 ^ 128) : zvalid (decide (z < 0)) (nS z.natAbs) = true := by
  unfold zvalid
  rw [nvalid_nS.2 h, Bool.true_and]
  by_cases hz : z < 0
  · rw [empty_nS (by omega), Bool.and_false]; rfl
  · rw [decide_eq_false hz]; rfl
end Go.Proofs.YtndmjfkmnjejkaaGreatDoor

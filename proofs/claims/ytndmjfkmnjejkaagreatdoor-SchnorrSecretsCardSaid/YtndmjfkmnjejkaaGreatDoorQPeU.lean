/- Walks: pedersen.Commit, Opens and the reference's. -/
import Derived.Test.YtndmjfkmnjejkaaGreatDoorQPeP
set_option linter.unusedVariables false
set_option linter.unusedSimpArgs false
namespace Go.Proofs.YtndmjfkmnjejkaaGreatDoor
open Go.RowKit
theorem slz_alloc2 (w : World) (b1 b2 : Bool) (s1 s2 : ByteArray) (T : TypeId) : SlZ (w.alloc (.cells #[.bool b1, .string s1, .bool b2, .string s2] T)) (some ⟨w.heap.size, 0, none⟩) 2 2 [(b1, s1), (b2, s2)] := by
  have h := Bx4.new w (.bool b1) (.string s1) (.bool b2) (.string s2) T
  obtain ⟨c0, c1, c2, c3⟩ := h.cells
  refine ⟨rfl, Nat.le_refl _, by omega, w.heap.size, 0, fun _ => rfl, fun k z hk => ?_⟩
  match k, hk with
  | 0, hk => cases hk; exact ⟨c0, c1⟩
  | 1, hk => cases hk; exact ⟨c2, c3⟩
def KO (w W : World) (M O G H : ByteArray) (vb : Bool) (vt : ByteArray) (rb : Bool) (rt : ByteArray) : Prop :=
  Bx4 W w.heap.size (.string M) (.string O) (.string G) (.string H) 26 ∧ Bx4 W (w.heap.size + 1) (.bool vb) (.string vt) (.bool rb) (.string rt) 37 ∧ Below w.heap.size w W
end Go.Proofs.YtndmjfkmnjejkaaGreatDoor
/- Walks: pedersen.reduced. -/
set_option linter.unusedVariables false
set_option linter.unusedSimpArgs false
namespace Go.Proofs.YtndmjfkmnjejkaaGreatDoor
open Go.RowKit
theorem below_set4 {B : Nat} {w W : World} (h : Below B w W) {C : Nat} (hC : B ≤ C) (a b c d : Value) : Below B w ((((W.setCell ⟨C, 0, none⟩ a).setCell ⟨C, 1, none⟩ b).setCell ⟨C, 2, none⟩ c).setCell ⟨C, 3, none⟩ d) :=
  (((h.setCell (p := ⟨C, 0, none⟩) hC a).setCell (p := ⟨C, 1, none⟩) hC b).setCell (p := ⟨C, 2, none⟩) hC c).setCell (p := ⟨C, 3, none⟩) hC d
end Go.Proofs.YtndmjfkmnjejkaaGreatDoor
/- Walks: pedersen.Times of numbers whose products fit, pedersen.Shift of a canonical number. -/
set_option linter.unusedVariables false
set_option linter.unusedSimpArgs false
namespace Go.Proofs.YtndmjfkmnjejkaaGreatDoor
open Go.RowKit
def K4 (w W : World) (M O G H : ByteArray) (vb : Bool) (vt : ByteArray) (rb : Bool) (rt : ByteArray) (bb : Bool) (bt : ByteArray) : Prop :=
  KO w W M O G H vb vt rb rt ∧ Bx2 W (w.heap.size + 1 + 1) (.bool bb) (.string bt) 28 ∧ Bx4 W (w.heap.size + 1 + 1 + 1) (.bool false) (.string ⟨#[]⟩) (.bool false) (.string ⟨#[]⟩) 37
end Go.Proofs.YtndmjfkmnjejkaaGreatDoor

/- Walks: pedersen.reduced. -/
import Derived.Test.YtndmjfkmnjejkaaGreatDoorQPeR
set_option linter.unusedVariables false
set_option linter.unusedSimpArgs false
namespace Go.Proofs.YtndmjfkmnjejkaaGreatDoor
open Go.RowKit
theorem below_set4 {B : Nat} {w W : World} (h : Below B w W) {C : Nat} (hC : B ≤ C) (a b c d : Value) : Below B w ((((W.setCell ⟨C, 0, none⟩ a).setCell ⟨C, 1, none⟩ b).setCell ⟨C, 2, none⟩ c).setCell ⟨C, 3, none⟩ d) :=
  (((h.setCell (p := ⟨C, 0, none⟩) hC a).setCell (p := ⟨C, 1, none⟩) hC b).setCell (p := ⟨C, 2, none⟩) hC c).setCell (p := ⟨C, 3, none⟩) hC d
end Go.Proofs.YtndmjfkmnjejkaaGreatDoor
/- Walks: pedersen.Times of numbers whose products fit, pedersen.Shift of a canonical number. -/
set_option linter.unusedVariables false
set_option linter.unusedSimpArgs false
namespace Go.Proofs.YtndmjfkmnjejkaaGreatDoor
open Go.RowKit
def K4 (w W : World) (M O G H : ByteArray) (vb : Bool) (vt : ByteArray) (rb : Bool) (rt : ByteArray) (bb : Bool) (bt : ByteArray) : Prop :=
  KO w W M O G H vb vt rb rt ∧ Bx2 W (w.heap.size + 1 + 1) (.bool bb) (.string bt) 28 ∧ Bx4 W (w.heap.size + 1 + 1 + 1) (.bool false) (.string ⟨#[]⟩) (.bool false) (.string ⟨#[]⟩) 37
end Go.Proofs.YtndmjfkmnjejkaaGreatDoor
/- Walk: pedersen.Shift. -/
set_option linter.unusedVariables false
set_option linter.unusedSimpArgs false
namespace Go.Proofs.YtndmjfkmnjejkaaGreatDoor
open Go.RowKit
def KI (w W : World) (M O G H : ByteArray) (bb : Bool) (bt : ByteArray) : Prop :=
  Bx4 W w.heap.size (.string M) (.string O) (.string G) (.string H) 26 ∧ Bx2 W (w.heap.size + 1) (.bool bb) (.string bt) 28 ∧ Below w.heap.size w W
theorem KI.new (w : World) (M O G H : ByteArray) (bb : Bool) (bt : ByteArray) : KI w ((w.alloc (.cells #[.string M, .string O, .string G, .string H] 26)).alloc (.cells #[.bool bb, .string bt] 28)) M O G H bb bt := by
  refine ⟨(Bx4.new w _ _ _ _ _).next ((Below.refl _ _).alloc (Nat.le_refl _) _), ?_, ((Below.refl w.heap.size w).alloc (Nat.le_refl _) _).alloc (by simp) _⟩
  have := Bx2.new (w.alloc (.cells #[.string M, .string O, .string G, .string H] 26)) (.bool bb) (.string bt) 28
  rwa [World.size_alloc] at this
theorem KI.next {w W W' : World} {M O G H : ByteArray} {bb : Bool} {bt : ByteArray} (h : KI w W M O G H bb bt) (hb : Below W.heap.size W W') : KI w W' M O G H bb bt :=
  ⟨h.1.next hb, h.2.1.next hb, h.2.2.trans (hb.mono (Nat.le_of_lt h.1.lt))⟩
end Go.Proofs.YtndmjfkmnjejkaaGreatDoor

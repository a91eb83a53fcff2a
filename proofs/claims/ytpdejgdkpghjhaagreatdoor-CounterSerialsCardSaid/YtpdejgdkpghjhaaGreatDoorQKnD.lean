/- Walks: pedersen.Times of numbers whose products fit, pedersen.Shift of a canonical number. -/
import Derived.Test.YtpdejgdkpghjhaaGreatDoorQPeR
import Derived.Test.YtpdejgdkpghjhaaGreatDoorQCtC
import Derived.Test.YtpdejgdkpghjhaaGreatDoorQCtB
set_option linter.unusedVariables false
set_option linter.unusedSimpArgs false
namespace Go.Proofs.YtpdejgdkpghjhaaGreatDoor
open Go.RowKit
def K4 (w W : World) (M O G H : ByteArray) (vb : Bool) (vt : ByteArray) (rb : Bool) (rt : ByteArray) (bb : Bool) (bt : ByteArray) : Prop :=
  KO w W M O G H vb vt rb rt ∧ Bx2 W (w.heap.size + 1 + 1) (.bool bb) (.string bt) 67 ∧ Bx4 W (w.heap.size + 1 + 1 + 1) (.bool false) (.string ⟨#[]⟩) (.bool false) (.string ⟨#[]⟩) 73
end Go.Proofs.YtpdejgdkpghjhaaGreatDoor
/- The law PedersenKeys. -/
set_option linter.unusedVariables false
set_option linter.unusedSimpArgs false
namespace Go.Proofs.YtpdejgdkpghjhaaGreatDoor
open Go.RowKit
def KB (w W : World) (M O G H : ByteArray) : Prop := Bx4 W w.heap.size (.string M) (.string O) (.string G) (.string H) 26 ∧ Below w.heap.size w W
theorem KB.new (w : World) (M O G H : ByteArray) : KB w (w.alloc (.cells #[.string M, .string O, .string G, .string H] 26)) M O G H := ⟨Bx4.new _ _ _ _ _ _, (Below.refl _ _).alloc (Nat.le_refl _) _⟩
theorem KB.next {w W W' : World} {M O G H : ByteArray} (h : KB w W M O G H) (hb : Below W.heap.size W W') : KB w W' M O G H := ⟨h.1.next hb, h.2.trans (hb.mono h.2.size)⟩
theorem hsO_parts (o : Option Nat) : ∃ s e, hsO o = .tuple #[.string s, .int .i64 e] := by cases o <;> exact ⟨_, _, rfl⟩
end Go.Proofs.YtpdejgdkpghjhaaGreatDoor

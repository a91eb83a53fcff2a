/- The law PedersenKeys. -/
import Derived.Test.YtpdejgdkpghjhaaGreatDoorQKnB
import Derived.Test.YtpdejgdkpghjhaaGreatDoorQPeU
import Derived.Test.YtpdejgdkpghjhaaGreatDoorQPeQ
import Derived.Test.YtpdejgdkpghjhaaGreatDoorQLdF
set_option linter.unusedVariables false
set_option linter.unusedSimpArgs false
namespace Go.Proofs.YtpdejgdkpghjhaaGreatDoor
open Go.RowKit
def KB (w W : World) (M O G H : ByteArray) : Prop := Bx4 W w.heap.size (.string M) (.string O) (.string G) (.string H) 26 ∧ Below w.heap.size w W
theorem KB.new (w : World) (M O G H : ByteArray) : KB w (w.alloc (.cells #[.string M, .string O, .string G, .string H] 26)) M O G H := ⟨Bx4.new _ _ _ _ _ _, (Below.refl _ _).alloc (Nat.le_refl _) _⟩
theorem KB.next {w W W' : World} {M O G H : ByteArray} (h : KB w W M O G H) (hb : Below W.heap.size W W') : KB w W' M O G H := ⟨h.1.next hb, h.2.trans (hb.mono h.2.size)⟩
theorem hsO_parts (o : Option Nat) : ∃ s e, hsO o = .tuple #[.string s, .int .i64 e] := by cases o <;> exact ⟨_, _, rfl⟩
end Go.Proofs.YtpdejgdkpghjhaaGreatDoor
/- Walks: pedersen.Sum, Times. -/
set_option linter.unusedVariables false
set_option linter.unusedSimpArgs false
namespace Go.Proofs.YtpdejgdkpghjhaaGreatDoor
open Go.RowKit
theorem zvalid_all {z : Int} (h : z.natAbs < 256 ^ 128) : zvalid (decide (z < 0)) (nS z.natAbs) = true := by
  unfold zvalid
  rw [nvalid_nS.2 h, Bool.true_and]
  by_cases hz : z < 0
  · rw [empty_nS (by omega), Bool.and_false]; rfl
  · rw [decide_eq_false hz]; rfl
theorem pkC_kF {M O G H : ByteArray} (h : pkC M O G H = 0) : kF M O G H = true := by
  cases hk : kF M O G H with
  | true => rfl
  | false => unfold pkC at h; rw [if_pos hk] at h; cases h
end Go.Proofs.YtpdejgdkpghjhaaGreatDoor

/- Walk: dominoref02.bezout. -/
import Derived.Test.YtndmjfkmnjejkaaGreatDoorQPeH
import Derived.Test.YtndmjfkmnjejkaaGreatDoorQPeB
import Derived.Test.YtndmjfkmnjejkaaGreatDoorQNum2
import Derived.Great.Walk
set_option linter.unusedVariables false
set_option linter.unusedSimpArgs false
namespace Go.Proofs.YtndmjfkmnjejkaaGreatDoor
open Go.RowKit
theorem below_set2 {B : Nat} {w W : World} (h : Below B w W) {C : Nat} (hC : B ≤ C) (u v : Value) : Below B w ((W.setCell ⟨C, 0, none⟩ u).setCell ⟨C, 1, none⟩ v) :=
  (h.setCell (p := ⟨C, 0, none⟩) hC u).setCell (p := ⟨C, 1, none⟩) hC v
end Go.Proofs.YtndmjfkmnjejkaaGreatDoor
/- Walks: dominoref02.Extended of numbers without a common divisor. -/
set_option linter.unusedVariables false
set_option linter.unusedSimpArgs false
namespace Go.Proofs.YtndmjfkmnjejkaaGreatDoor
open Go.RowKit
theorem ex_law {a b : Nat} {x y : Int} (hb : 1 < b) (h : (a : Int) * x + b * y = 1) : a * (x % b).toNat % b = 1 := by
  have h0 : 0 ≤ x % (b : Int) := Int.emod_nonneg _ (by omega)
  have e1 : ((a * (x % b).toNat % b : Nat) : Int) = 1 := by
    rw [Int.natCast_emod, Int.natCast_mul, Int.toNat_of_nonneg h0, Int.mul_emod, Int.emod_emod, ← Int.mul_emod]
    have e2 : (a : Int) * x = 1 + b * (-y) := by rw [Int.mul_neg]; omega
    rw [e2, Int.add_mul_emod_self_left]
    exact Int.emod_eq_of_lt (by omega) (by omega)
  omega
end Go.Proofs.YtndmjfkmnjejkaaGreatDoor
/- Walks: pedersen.formed, valid, Check and the reference's. -/
set_option linter.unusedVariables false
set_option linter.unusedSimpArgs false
namespace Go.Proofs.YtndmjfkmnjejkaaGreatDoor
open Go.RowKit
def kV (M O G H : ByteArray) : Value := .agg #[.string M, .string O, .string G, .string H]
def kF (M O G H : ByteArray) : Bool := nvalid M && nvalid O && nvalid G && nvalid H
end Go.Proofs.YtndmjfkmnjejkaaGreatDoor

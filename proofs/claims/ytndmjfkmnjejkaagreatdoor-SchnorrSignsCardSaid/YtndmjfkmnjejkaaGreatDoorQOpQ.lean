/- Walks: dominoref02.Extended of numbers without a common divisor. -/
import Derived.Test.YtndmjfkmnjejkaaGreatDoorQPeK
import Derived.ProofKit
import Derived.OpenShut
import Derived.ShutString
import Derived.ChangeOld
import Derived.Below
import Derived.Carry
import Derived.Deep.Slices
import Derived.Deep.Fields
import Derived.ChangeSame
import Derived.Lib.SmallJoins
import Derived.Test.YtndmjfkmnjejkaaGreatDoorChecked
import Derived.Test.YtndmjfkmnjejkaaGreatDoorRows
import Derived.LaidMore
import Derived.Stop.Joined
set_option linter.unusedVariables false
set_option linter.unusedSimpArgs false
namespace Go.Proofs.YtndmjfkmnjejkaaGreatDoor
open Go.RowKit
theorem ex_law {a b : Nat} {x y : Int} (hb : 1 < b) (h : (a : Int) * x + b * y = 1) : a * (x % b).toNat % b = 1 := by
  have h0 : 0 ≤ x % (b : Int) := Int.emod_nonneg _ (by omega)
  have e1 : ((a * (x % b).toNat % b : Nat) : Int) = 1 := by
    rw [Int.natCast_emod, Int.natCast_mul, Int.toNat_of_nonneg h0, Int.mul_emod, Int.emod_emod, ← Int.mul_emod]
    have e2 : (a : Int) * x = 1 + b * (-y) := by rw [Int.mul_neg]; omega
    rw [e2, Int.add_mul_emod_self_left]
    exact Int.emod_eq_of_lt (by omega) (by omega)
  omega
end Go.Proofs.YtndmjfkmnjejkaaGreatDoor
/- Walks: pedersen.formed, valid, Check and the reference's. -/
set_option linter.unusedVariables false
set_option linter.unusedSimpArgs false
namespace Go.Proofs.YtndmjfkmnjejkaaGreatDoor
open Go.RowKit
def kV (M O G H : ByteArray) : Value := .agg #[.string M, .string O, .string G, .string H]
def kF (M O G H : ByteArray) : Bool := nvalid M && nvalid O && nvalid G && nvalid H
end Go.Proofs.YtndmjfkmnjejkaaGreatDoor
/- The arguments opened: a key of the commitments. -/
set_option linter.unusedVariables false
set_option linter.unusedSimpArgs false
namespace Go.Proofs.YtndmjfkmnjejkaaGreatDoor
open Go.ChangeShapes Go.WideShapes Go.ChangeAt Go.Deep Go.Joins Go.RowKit
open Go.ChangeMaps (open_string shut_string)
theorem ownQ : ownKnob Tryz.prog.godebug = none := by kernel_rfl
theorem laidOutQ : laidOutB Tryz.prog = true := by kernel_rfl
section
variable {H : Type} {enc : TypeId × Value → H} {W : World} {sp : Nat → Bool} {held : Bool}
theorem trod_at {P : Program} {w : World} {base : Nat} {spare : Nat → Bool} {fuel : Nat} {t : TypeId} {cs : List Value} {x : DataW H × List MemPlace} {fs : Array Field} (ht : P.underlying t = some (.struct fs)) (h : DataW.trod enc P w base spare held fuel t cs = some x) (i : Nat) (f : Field) (hf : fs[i]? = some f) (k : Nat) (hk : P.cellsOf f.type = k) :
    ∃ n y, DataW.trod enc P w base spare held n f.type ((cs.drop f.offset).take k) = some y := by
  obtain ⟨xs, n, _, _, _, hl, hx⟩ := DataW.trod_struct ht h
  have h1 := hx i f hf
  have hi : i < xs.length := by rw [hl]; exact (Array.getElem?_eq_some_iff.1 hf).1
  rw [hk, List.getElem?_eq_getElem hi] at h1
  exact ⟨n, _, h1⟩
end
end Go.Proofs.YtndmjfkmnjejkaaGreatDoor

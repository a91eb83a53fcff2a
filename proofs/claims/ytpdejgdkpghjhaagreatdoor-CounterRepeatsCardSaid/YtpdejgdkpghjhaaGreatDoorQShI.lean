/- Walk: the reference's schedule. -/
import Derived.Test.YtpdejgdkpghjhaaGreatDoorQShG
set_option linter.unusedVariables false
set_option linter.unusedSimpArgs false
namespace Go.Proofs.YtpdejgdkpghjhaaGreatDoor
open Go.RowKit Go.Lib
def pb (m : List UInt8) (i : Nat) : Nat → Nat
  | 0 => 0
  | q + 1 => pb m i q * 256 + (m.getD (4 * i + q) 0).toNat
def wq (m : List UInt8) (i q : Nat) (j : Nat) : BitVec 32 := if j = i then BitVec.ofNat 32 (pb m i q) else wz m i j
end Go.Proofs.YtpdejgdkpghjhaaGreatDoor
/- Walk: the reference's compress. -/
set_option linter.unusedVariables false
set_option linter.unusedSimpArgs false
namespace Go.Proofs.YtpdejgdkpghjhaaGreatDoor
open Go.RowKit Go.Lib
theorem below_up {a w w' : World} {B : Nat} (h : Below B a w) (hB : B ≤ w.heap.size) (hb : Below w.heap.size w w') : Below B a w' := h.trans (hb.mono hB)
end Go.Proofs.YtpdejgdkpghjhaaGreatDoor

/- Walks: dominoref02.Extended of numbers without a common divisor. -/
import Derived.Test.YtpdejgdkpghjhaaGreatDoorQPeK
set_option linter.unusedVariables false
set_option linter.unusedSimpArgs false
namespace Go.Proofs.YtpdejgdkpghjhaaGreatDoor
open Go.RowKit

theorem intV_nat (n : Nat) : intV (n : Int) = .agg #[.bool false, .string (nS n)] := by unfold intV zV; rw [decide_eq_false (Int.not_lt.2 (Int.natCast_nonneg _)), Int.natAbs_natCast]
end Go.Proofs.YtpdejgdkpghjhaaGreatDoor
/- Walks: dominoref03.Inverse, Power, dominoref13.raw. -/
set_option linter.unusedVariables false
set_option linter.unusedSimpArgs false
namespace Go.Proofs.YtpdejgdkpghjhaaGreatDoor
open Go.RowKit

end Go.Proofs.YtpdejgdkpghjhaaGreatDoor

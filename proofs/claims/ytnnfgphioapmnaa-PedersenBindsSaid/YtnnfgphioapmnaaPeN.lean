/- Walks: dominoref02.Extended of numbers without a common divisor. -/
import Derived.Test.YtnnfgphioapmnaaPeK
set_option linter.unusedVariables false
set_option linter.unusedSimpArgs false
namespace Go.Proofs.Ytnnfgphioapmnaa
open Go.RowKit

/-- What Extended returns: an inverse. -/
def RetEx (a b : Nat) (w : World) (e : Ending) (w' : World) : Prop := ∃ (x : Nat) (y : Int), e = .returned (.tuple #[.string (nS 1), intV x, intV y, .int .i64 0]) ∧ Below w.heap.size w w' ∧ x < b ∧ a * x % b = 1
theorem intV_nat (n : Nat) : intV (n : Int) = .agg #[.bool false, .string (nS n)] := by unfold intV zV; rw [decide_eq_false (Int.not_lt.2 (Int.natCast_nonneg _)), Int.natAbs_natCast]
theorem ex_law {a b : Nat} {x y : Int} (hb : 1 < b) (h : (a : Int) * x + b * y = 1) : a * (x % b).toNat % b = 1 := by
  have h0 : 0 ≤ x % (b : Int) := Int.emod_nonneg _ (by omega)
  have e1 : ((a * (x % b).toNat % b : Nat) : Int) = 1 := by
    rw [Int.natCast_emod, Int.natCast_mul, Int.toNat_of_nonneg h0, Int.mul_emod, Int.emod_emod, ← Int.mul_emod]
    have e2 : (a : Int) * x = 1 + b * (-y) := by rw [Int.mul_neg]; omega
    rw [e2, Int.add_mul_emod_self_left]
    exact Int.emod_eq_of_lt (by omega) (by omega)
  omega
theorem ediv_abs (x : Int) (b : Nat) (hb : 0 < b) : (x / b).natAbs ≤ x.natAbs := by
  by_cases h : 0 ≤ x
  · rw [ediv_c h, Int.natAbs_natCast]; exact Nat.div_le_self _ _
  · rcases Nat.eq_zero_or_pos (x.natAbs % b) with hr | hr
    · rw [ediv_a hb (by omega) hr, Int.natAbs_neg, Int.natAbs_natCast]; exact Nat.div_le_self _ _
    · rw [ediv_b hb (by omega) hr, Int.natAbs_neg, Int.natAbs_natCast]
      rcases Nat.eq_or_lt_of_le (show 1 ≤ b from hb) with h1 | h1
      · rw [← h1, Nat.mod_one] at hr; omega
      · have := Nat.div_lt_self (show 0 < x.natAbs by omega) h1
        omega
end Go.Proofs.Ytnnfgphioapmnaa
/- Walks: dominoref03.Inverse, Power, dominoref13.raw. -/
set_option linter.unusedVariables false
set_option linter.unusedSimpArgs false
namespace Go.Proofs.Ytnnfgphioapmnaa
open Go.RowKit

end Go.Proofs.Ytnnfgphioapmnaa

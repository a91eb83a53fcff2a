/- Walks: dominoref03 at moduli below 2^64. -/
import Derived.Test.YtnnfgphioapmnaaOvr
set_option linter.unusedVariables false
set_option linter.unusedSimpArgs false
namespace Go.Proofs.Ytnnfgphioapmnaa
open Go.RowKit

theorem lt128_8 {n : Nat} (h : n < 18446744073709551616) : n < 256 ^ 128 := lt128_of_lt8 h



theorem fitR_small {n : Nat} (h : n < 256 ^ 128) : fitR n = .tuple #[.string (nS n), .int .i64 0] := by unfold fitR; rw [if_pos h]


theorem blen_1024 {n : Nat} (hn : n < 256 ^ 128) : blen n ≤ 1024 := blen_le8 hn

/-- A power by its exponent's digits. -/
theorem pw_two (a E m : Nat) : a ^ E % m * (a ^ E % m) % m = a ^ (2 * E) % m := by
  rw [← Nat.mul_mod, ← Nat.pow_add, Nat.two_mul]
theorem pw_one (a E m : Nat) : a ^ E % m * a % m = a ^ (E + 1) % m := by
  rw [Nat.mod_mul_mod, Nat.pow_succ]
theorem pw_one' (a E m : Nat) : a ^ E % m * (a % m) % m = a ^ (E + 1) % m := by
  rw [← Nat.mul_mod, Nat.pow_succ]

end Go.Proofs.Ytnnfgphioapmnaa

/- Plain laws of powers modulo a number. -/
import Derived.Test.YtnnfgphioapmnaaGreatNum
set_option linter.unusedVariables false
namespace Go.Proofs.YtnnfgphioapmnaaGreat
theorem pw_one_of {a q m : Nat} (h : a ^ q % m = 1) (c : Nat) : a ^ (q * c) % m = 1 := by
  rw [Nat.pow_mul, Nat.pow_mod, h, Nat.one_pow]
  rw [← h, Nat.mod_mod]
theorem pw_red {a q m : Nat} (h : a ^ q % m = 1) (n : Nat) : a ^ n % m = a ^ (n % q) % m := by
  have e : a ^ n = a ^ (q * (n / q)) * a ^ (n % q) := by rw [← Nat.pow_add, Nat.div_add_mod]
  rw [e, Nat.mul_mod, pw_one_of h, Nat.one_mul, Nat.mod_mod]
theorem pw_inv {a q m x n k : Nat} (h : a ^ q % m = 1) (hx : a * x % m = 1) (hk : (k + n) % q = 0) : x ^ n % m = a ^ k % m := by
  have e1 : a ^ (k + n) % m = 1 := by
    rw [pw_red h, hk, Nat.pow_zero]
    rw [← h, Nat.mod_mod]
  have e2 : x ^ n % m = x ^ n * a ^ (k + n) % m := by
    rw [Nat.mul_mod, e1, Nat.mul_one, Nat.mod_mod]
  have e3 : x ^ n * a ^ (k + n) = (a * x) ^ n * a ^ k := by
    rw [Nat.mul_pow, Nat.pow_add]
    rw [Nat.mul_comm (a ^ k), ← Nat.mul_assoc, Nat.mul_comm (x ^ n)]
  have e4 : (a * x) ^ n % m = 1 := by
    rw [Nat.pow_mod, hx, Nat.one_pow]
    rw [← h, Nat.mod_mod]
  rw [e2, e3, Nat.mul_mod, e4, Nat.one_mul, Nat.mod_mod]
theorem gcd_of_pw {a q m : Nat} (h : a ^ q % m = 1) (hq : 0 < q) : Nat.gcd a m = 1 := by
  have h1 : Nat.gcd a m ∣ a ^ q := by
    obtain ⟨r, rfl⟩ : ∃ r, q = r + 1 := ⟨q - 1, by omega⟩
    rw [Nat.pow_succ]
    exact Nat.dvd_trans (Nat.gcd_dvd_left a m) (Nat.dvd_mul_left _ _)
  have h2 : Nat.gcd a m ∣ m * (a ^ q / m) := Nat.dvd_trans (Nat.gcd_dvd_right a m) (Nat.dvd_mul_right _ _)
  have h3 := Nat.div_add_mod (a ^ q) m
  rw [h] at h3
  rw [← h3] at h1
  exact Nat.dvd_one.1 ((Nat.dvd_add_right h2).1 h1)
theorem inv_of_bez {a m : Nat} {x y : Int} (hx : 0 ≤ x) (h : (a : Int) * x + m * y = 1) (hm : 1 < m) : a * x.natAbs % m = 1 := by
  have e : ((a * x.natAbs : Nat) : Int) = 1 + m * (-y) := by
    rw [Int.natCast_mul, Int.natAbs_of_nonneg hx, Int.mul_neg]; omega
  have e2 : ((a * x.natAbs % m : Nat) : Int) = 1 := by
    rw [Int.natCast_emod, e, Int.add_mul_emod_self_left]
    exact Int.emod_eq_of_lt (by omega) (by omega)
  omega
theorem inv_red {a m x : Nat} (h : a * x % m = 1) : a * (x % m) % m = 1 := by rw [Nat.mul_mod, Nat.mod_mod, ← Nat.mul_mod, h]
/-- the Euclidean remainder of an integer of either sign -/
theorem emod_nat {e : Int} {q : Nat} (hq : 0 < q) (he : e < 0) : ((e % q).toNat + e.natAbs) % q = 0 := by
  have h1 : 0 ≤ e % (q : Int) := Int.emod_nonneg _ (by omega)
  have h2 : (((e % q).toNat + e.natAbs : Nat) : Int) = e % q - e := by omega
  have h3 : ((((e % q).toNat + e.natAbs) % q : Nat) : Int) = 0 := by
    rw [Int.natCast_emod, h2]
    have := Int.emod_add_mul_ediv e q
    have h4 : e % q - e = q * (-(e / q)) := by rw [Int.mul_neg]; omega
    rw [h4, Int.mul_emod_right]
  omega
theorem emod_pos {e : Int} {q : Nat} (he : 0 ≤ e) : (e % q).toNat = e.natAbs % q := by
  have : e = (e.natAbs : Int) := by omega
  conv => lhs; rw [this]
  omega
theorem ext_y_bound {a b r0 : Nat} {x0 y0 : Int} (he : (a : Int) * x0 + b * y0 = r0) (hx : x0.natAbs * r0 ≤ b) (hr : 0 < r0) (hrb : r0 ≤ b) (hab : a < b) : y0.natAbs ≤ b := by
  have hxb : x0.natAbs ≤ b := Nat.le_trans (Nat.le_mul_of_pos_right _ hr) hx
  have h1 : (b * y0.natAbs : Nat) ≤ r0 + a * x0.natAbs := by
    have e : (b : Int) * y0 = r0 - a * x0 := by omega
    have e2 : ((b : Int) * y0).natAbs = b * y0.natAbs := by rw [Int.natAbs_mul, Int.natAbs_natCast]
    have e3 : ((a : Int) * x0).natAbs = a * x0.natAbs := by rw [Int.natAbs_mul, Int.natAbs_natCast]
    omega
  have h2 : a * x0.natAbs ≤ (b - 1) * b := Nat.mul_le_mul (by omega) hxb
  have h3 : (b - 1) * b + b = b * b := by
    obtain ⟨c, rfl⟩ : ∃ c, b = c + 1 := ⟨b - 1, by omega⟩
    rw [Nat.add_sub_cancel, Nat.add_mul c 1 (c+1), Nat.one_mul]
  have h4 : b * y0.natAbs ≤ b * b := by omega
  exact Nat.le_of_mul_le_mul_left h4 (by omega)
end Go.Proofs.YtnnfgphioapmnaaGreat

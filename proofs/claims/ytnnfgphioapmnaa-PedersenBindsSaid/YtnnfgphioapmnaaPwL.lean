/- The plain law of the extended Euclidean algorithm. -/
import Derived.Test.YtnnfgphioapmnaaNum
set_option linter.unusedVariables false
namespace Go.Proofs.Ytnnfgphioapmnaa

structure EInv (a b r0 r1 : Nat) (x0 x1 y0 y1 : Int) : Prop where
  e0 : (a : Int) * x0 + b * y0 = r0
  e1 : (a : Int) * x1 + b * y1 = r1
  bx : x1.natAbs * r0 + x0.natAbs * r1 = b
  bY : y1.natAbs * r0 + y0.natAbs * r1 = a
  sx : (x0 ≤ 0 ∧ 0 ≤ x1) ∨ (0 ≤ x0 ∧ x1 ≤ 0)
  sy : (y0 ≤ 0 ∧ 0 ≤ y1) ∨ (0 ≤ y0 ∧ y1 ≤ 0)
  gc : Nat.gcd r0 r1 = Nat.gcd a b
  pos : 0 < r0 ∨ 0 < r1
  lx : x0.natAbs * r0 ≤ b
  lt : x1 = 0 ∨ r1 < r0
  one : r0 = 0 → y1.natAbs ≤ 1
theorem EInv.start {a b : Nat} (hb : 0 < b) (hab : a ≤ b) : EInv a b a b 1 0 0 1 := by
  refine ⟨by simp, by simp, by simp, by simp, .inr ⟨by decide, by decide⟩, .inl ⟨by decide, by decide⟩, rfl, .inr hb, by simpa using hab, .inl rfl, fun _ => by decide⟩
theorem abs_step {x0 x1 : Int} {q : Nat} (h : (x0 ≤ 0 ∧ 0 ≤ x1) ∨ (0 ≤ x0 ∧ x1 ≤ 0)) : (x0 - q * x1).natAbs = x0.natAbs + q * x1.natAbs ∧ ((x1 ≤ 0 ∧ 0 ≤ x0 - q * x1) ∨ (0 ≤ x1 ∧ x0 - q * x1 ≤ 0)) := by
  rcases h with ⟨h0, h1⟩ | ⟨h0, h1⟩
  · have hp : 0 ≤ (q : Int) * x1 := Int.mul_nonneg (by omega) h1
    have e : ((q * x1.natAbs : Nat) : Int) = q * x1 := by rw [Int.natCast_mul]; congr 1; omega
    exact ⟨by omega, .inr ⟨h1, by omega⟩⟩
  · have hp : (q : Int) * x1 ≤ 0 := Int.mul_nonpos_of_nonneg_of_nonpos (by omega) h1
    have e : ((q * x1.natAbs : Nat) : Int) = -(q * x1) := by rw [Int.natCast_mul, ← Int.mul_neg]; congr 1; omega
    exact ⟨by omega, .inl ⟨h1, by omega⟩⟩
theorem bez_step {r0 r1 s0 s1 : Nat} (h : 0 < r1) : (s0 + r0 / r1 * s1) * r1 + s1 * (r0 % r1) = s1 * r0 + s0 * r1 := by
  have e := Nat.div_add_mod r0 r1
  have e2 : s1 * r0 = s1 * (r1 * (r0 / r1)) + s1 * (r0 % r1) := by rw [← Nat.mul_add, e]
  have e3 : s1 * (r1 * (r0 / r1)) = r0 / r1 * s1 * r1 := by rw [Nat.mul_comm r1, ← Nat.mul_assoc, Nat.mul_comm s1]
  rw [e2, e3, Nat.add_mul]
  omega
theorem EInv.step {a b r0 r1 : Nat} {x0 x1 y0 y1 : Int} (h : EInv a b r0 r1 x0 x1 y0 y1) (h1 : 0 < r1) : EInv a b r1 (r0 % r1) x1 (x0 - (r0 / r1 : Nat) * x1) y1 (y0 - (r0 / r1 : Nat) * y1) := by
  have ax := abs_step (q := r0 / r1) h.sx
  have ay := abs_step (q := r0 / r1) h.sy
  have em : ((r0 % r1 : Nat) : Int) = r0 - (r0 / r1 : Nat) * r1 := by
    have := Nat.div_add_mod r0 r1
    have e : ((r1 * (r0 / r1) + r0 % r1 : Nat) : Int) = r0 := by rw [this]
    rw [Int.natCast_add, Int.natCast_mul] at e
    rw [Int.mul_comm] at e
    omega
  refine ⟨h.e1, ?_, ?_, ?_, ax.2, ay.2, ?_, .inl h1, ?_, .inr (Nat.mod_lt _ h1), fun e => by omega⟩
  · rw [em, ← h.e0, ← h.e1, Int.mul_sub, Int.mul_sub, Int.mul_add]
    rw [← Int.mul_assoc (a : Int), Int.mul_comm (a : Int) ((r0 / r1 : Nat) : Int), Int.mul_assoc, ← Int.mul_assoc (b : Int), Int.mul_comm (b : Int) ((r0 / r1 : Nat) : Int), Int.mul_assoc]
    omega
  · rw [ax.1, bez_step h1]; exact h.bx
  · rw [ay.1, bez_step h1]; exact h.bY
  · rw [← h.gc, Nat.gcd_comm r1, ← Nat.gcd_rec, Nat.gcd_comm]
  · have hb := h.bx
    rcases h.lt with e | e
    · rw [e]; simp
    · have := Nat.mul_le_mul_left x1.natAbs (Nat.le_of_lt e)
      omega
theorem EInv.small {a b r0 r1 : Nat} {x0 x1 y0 y1 : Int} (h : EInv a b r0 r1 x0 x1 y0 y1) (h1 : 0 < r1) (N : Nat) (ha : a < N) (hb : b < N) (hN : 1 < N) :
    x0.natAbs < N ∧ x1.natAbs < N ∧ y0.natAbs < N ∧ y1.natAbs < N ∧ ((r0 / r1 : Nat) * x1).natAbs < N ∧ ((r0 / r1 : Nat) * y1).natAbs < N := by
  have hbx := h.bx
  have hby := h.bY
  have m0 : x0.natAbs ≤ x0.natAbs * r1 := Nat.le_mul_of_pos_right _ h1
  have n0 : y0.natAbs ≤ y0.natAbs * r1 := Nat.le_mul_of_pos_right _ h1
  have hq : ∀ s : Nat, r0 / r1 * s ≤ s * r0 := fun s => by
    rw [Nat.mul_comm]
    exact Nat.mul_le_mul_left s (Nat.div_le_self _ _)
  have q1 := hq x1.natAbs
  have q2 := hq y1.natAbs
  have a1 : ((r0 / r1 : Nat) * x1 : Int).natAbs = r0 / r1 * x1.natAbs := by rw [Int.natAbs_mul, Int.natAbs_natCast]
  have a2 : ((r0 / r1 : Nat) * y1 : Int).natAbs = r0 / r1 * y1.natAbs := by rw [Int.natAbs_mul, Int.natAbs_natCast]
  rw [a1, a2]
  rcases Nat.eq_zero_or_pos r0 with e | e
  · have hx1 : x1.natAbs = 0 := by
      rcases h.lt with e' | e'
      · rw [e']; rfl
      · omega
    have hy1 := h.one e
    refine ⟨by omega, by omega, by omega, by omega, by omega, by omega⟩
  · have m1 : x1.natAbs ≤ x1.natAbs * r0 := Nat.le_mul_of_pos_right _ e
    have n1 : y1.natAbs ≤ y1.natAbs * r0 := Nat.le_mul_of_pos_right _ e
    refine ⟨by omega, by omega, by omega, by omega, by omega, by omega⟩
/-- What stands at the end. -/
theorem EInv.last {a b r0 : Nat} {x0 x1 y0 y1 : Int} (h : EInv a b r0 0 x0 x1 y0 y1) (hb : 0 < b) : r0 = Nat.gcd a b ∧ 0 < r0 ∧ x0.natAbs ≤ b / r0 ∧ (a : Int) * x0 + b * y0 = r0 := by
  have hp : 0 < r0 := by rcases h.pos with e | e <;> omega
  refine ⟨by rw [← h.gc, Nat.gcd_zero_right], hp, (Nat.le_div_iff_mul_le hp).2 h.lx, h.e0⟩
end Go.Proofs.Ytnnfgphioapmnaa
/- Plain laws of powers modulo a number. -/
set_option linter.unusedVariables false
namespace Go.Proofs.Ytnnfgphioapmnaa
theorem pw_one_of {a q m : Nat} (h : a ^ q % m = 1) (c : Nat) : a ^ (q * c) % m = 1 := by
  rw [Nat.pow_mul, Nat.pow_mod, h, Nat.one_pow]
  rw [← h, Nat.mod_mod]
theorem pw_red {a q m : Nat} (h : a ^ q % m = 1) (n : Nat) : a ^ n % m = a ^ (n % q) % m := by
  have e : a ^ n = a ^ (q * (n / q)) * a ^ (n % q) := by rw [← Nat.pow_add, Nat.div_add_mod]
  rw [e, Nat.mul_mod, pw_one_of h, Nat.one_mul, Nat.mod_mod]
theorem pw_inv {a q m x n k : Nat} (h : a ^ q % m = 1) (hx : a * x % m = 1) (hk : (k + n) % q = 0) : x ^ n % m = a ^ k % m := by
  have e1 : a ^ (k + n) % m = 1 := by
    rw [pw_red h, hk, Nat.pow_zero]
    rw [← h, Nat.mod_mod]
  have e2 : x ^ n % m = x ^ n * a ^ (k + n) % m := by
    rw [Nat.mul_mod, e1, Nat.mul_one, Nat.mod_mod]
  have e3 : x ^ n * a ^ (k + n) = (a * x) ^ n * a ^ k := by
    rw [Nat.mul_pow, Nat.pow_add]
    rw [Nat.mul_comm (a ^ k), ← Nat.mul_assoc, Nat.mul_comm (x ^ n)]
  have e4 : (a * x) ^ n % m = 1 := by
    rw [Nat.pow_mod, hx, Nat.one_pow]
    rw [← h, Nat.mod_mod]
  rw [e2, e3, Nat.mul_mod, e4, Nat.one_mul, Nat.mod_mod]
theorem gcd_of_pw {a q m : Nat} (h : a ^ q % m = 1) (hq : 0 < q) : Nat.gcd a m = 1 := by
  have h1 : Nat.gcd a m ∣ a ^ q := by
    obtain ⟨r, rfl⟩ : ∃ r, q = r + 1 := ⟨q - 1, by omega⟩
    rw [Nat.pow_succ]
    exact Nat.dvd_trans (Nat.gcd_dvd_left a m) (Nat.dvd_mul_left _ _)
  have h2 : Nat.gcd a m ∣ m * (a ^ q / m) := Nat.dvd_trans (Nat.gcd_dvd_right a m) (Nat.dvd_mul_right _ _)
  have h3 := Nat.div_add_mod (a ^ q) m
  rw [h] at h3
  rw [← h3] at h1
  exact Nat.dvd_one.1 ((Nat.dvd_add_right h2).1 h1)
theorem inv_of_bez {a m : Nat} {x y : Int} (hx : 0 ≤ x) (h : (a : Int) * x + m * y = 1) (hm : 1 < m) : a * x.natAbs % m = 1 := by
  have e : ((a * x.natAbs : Nat) : Int) = 1 + m * (-y) := by
    rw [Int.natCast_mul, Int.natAbs_of_nonneg hx, Int.mul_neg]; omega
  have e2 : ((a * x.natAbs % m : Nat) : Int) = 1 := by
    rw [Int.natCast_emod, e, Int.add_mul_emod_self_left]
    exact Int.emod_eq_of_lt (by omega) (by omega)
  omega
theorem inv_red {a m x : Nat} (h : a * x % m = 1) : a * (x % m) % m = 1 := by rw [Nat.mul_mod, Nat.mod_mod, ← Nat.mul_mod, h]
/-- the Euclidean remainder of an integer of either sign -/
theorem emod_nat {e : Int} {q : Nat} (hq : 0 < q) (he : e < 0) : ((e % q).toNat + e.natAbs) % q = 0 := by
  have h1 : 0 ≤ e % (q : Int) := Int.emod_nonneg _ (by omega)
  have h2 : (((e % q).toNat + e.natAbs : Nat) : Int) = e % q - e := by omega
  have h3 : ((((e % q).toNat + e.natAbs) % q : Nat) : Int) = 0 := by
    rw [Int.natCast_emod, h2]
    have := Int.emod_add_mul_ediv e q
    have h4 : e % q - e = q * (-(e / q)) := by rw [Int.mul_neg]; omega
    rw [h4, Int.mul_emod_right]
  omega
theorem emod_pos {e : Int} {q : Nat} (he : 0 ≤ e) : (e % q).toNat = e.natAbs % q := by
  have : e = (e.natAbs : Int) := by omega
  conv => lhs; rw [this]
  omega
theorem ext_y_bound {a b r0 : Nat} {x0 y0 : Int} (he : (a : Int) * x0 + b * y0 = r0) (hx : x0.natAbs * r0 ≤ b) (hr : 0 < r0) (hrb : r0 ≤ b) (hab : a < b) : y0.natAbs ≤ b := by
  have hxb : x0.natAbs ≤ b := Nat.le_trans (Nat.le_mul_of_pos_right _ hr) hx
  have h1 : (b * y0.natAbs : Nat) ≤ r0 + a * x0.natAbs := by
    have e : (b : Int) * y0 = r0 - a * x0 := by omega
    have e2 : ((b : Int) * y0).natAbs = b * y0.natAbs := by rw [Int.natAbs_mul, Int.natAbs_natCast]
    have e3 : ((a : Int) * x0).natAbs = a * x0.natAbs := by rw [Int.natAbs_mul, Int.natAbs_natCast]
    omega
  have h2 : a * x0.natAbs ≤ (b - 1) * b := Nat.mul_le_mul (by omega) hxb
  have h3 : (b - 1) * b + b = b * b := by
    obtain ⟨c, rfl⟩ : ∃ c, b = c + 1 := ⟨b - 1, by omega⟩
    rw [Nat.add_sub_cancel, Nat.add_mul c 1 (c+1), Nat.one_mul]
  have h4 : b * y0.natAbs ≤ b * b := by omega
  exact Nat.le_of_mul_le_mul_left h4 (by omega)
end Go.Proofs.Ytnnfgphioapmnaa

/- The estimate of a quotient's digit (Knuth), to a base B. No program stands here. -/
import Derived.Test.YtnnfgphioapmnaaNum2
set_option linter.unusedVariables false
namespace Go.Proofs.Ytnnfgphioapmnaa

/-- What holds of an estimate q with the rest r: q y1 + r = u, q is not below the true digit, and not far above it. -/
structure Est (B u u1 y1 y0 q r : Nat) : Prop where
  eq : q * y1 + r = u
  ge : (u * B + u1) / (y1 * B + y0) ≤ q
  le : q ≤ B + 1

theorem est_test {B u u1 y1 y0 q r : Nat} (h : q * y1 + r = u) : q * y0 ≤ B * r + u1 ↔ q * (y1 * B + y0) ≤ u * B + u1 := by
  subst h
  have e1 : q * (y1 * B + y0) = q * y1 * B + q * y0 := by rw [Nat.mul_add, Nat.mul_assoc]
  have e2 : (q * y1 + r) * B = q * y1 * B + B * r := by rw [Nat.add_mul, Nat.mul_comm B r]
  rw [e1, e2]
  omega
theorem est_true {B u u1 y1 y0 q : Nat} (hy : 0 < y1 * B + y0) : q * (y1 * B + y0) ≤ u * B + u1 ↔ q ≤ (u * B + u1) / (y1 * B + y0) := (Nat.le_div_iff_mul_le hy).symm
/-- The true digit is below the base. -/
theorem est_digit {B u u1 y1 y0 : Nat} (h1 : u1 < B) (hu : u < y1 * B + y0) : (u * B + u1) / (y1 * B + y0) < B := by
  rw [Nat.div_lt_iff_lt_mul (by omega)]
  have := Nat.mul_le_mul_right B (show u + 1 ≤ y1 * B + y0 from hu)
  rw [Nat.succ_mul] at this
  rw [Nat.mul_comm B]
  omega
/-- The first estimate. -/
theorem est_start {B u u1 y1 y0 : Nat} (h1 : u1 < B) (hy1 : B ≤ 2 * y1) (hy0 : y0 < B) (hu : u < y1 * B + y0) : Est B u u1 y1 y0 (u / y1) (u % y1) := by
  have hB : 0 < B := by omega
  have hp : 0 < y1 := by omega
  refine ⟨by rw [Nat.mul_comm]; exact Nat.div_add_mod u y1, ?_, ?_⟩
  · rw [Nat.le_div_iff_mul_le hp]
    have h2 := Nat.div_mul_le_self (u * B + u1) (y1 * B + y0)
    generalize (u * B + u1) / (y1 * B + y0) = d at *
    have e1 : d * (y1 * B + y0) = d * y1 * B + d * y0 := by rw [Nat.mul_add, Nat.mul_assoc]
    rw [e1] at h2
    rcases Nat.lt_or_ge u (d * y1) with h3 | h3
    · have h4 := Nat.mul_le_mul_right B (show u + 1 ≤ d * y1 from h3)
      rw [Nat.succ_mul] at h4
      omega
    · exact h3
  · have : u / y1 < B + 2 := by
      rw [Nat.div_lt_iff_lt_mul hp]
      have e1 : (B + 2) * y1 = y1 * B + 2 * y1 := by rw [Nat.add_mul, Nat.mul_comm B]
      omega
    omega
/-- One less, if the test says so. -/
theorem est_less {B u u1 y1 y0 q r : Nat} (h : Est B u u1 y1 y0 q r) (h1 : u1 < B) (hu : u < y1 * B + y0) (ht : B ≤ q ∨ B * r + u1 < q * y0) : 1 ≤ q ∧ Est B u u1 y1 y0 (q - 1) (r + y1) := by
  have hd := est_digit h1 hu
  have hlt : (u * B + u1) / (y1 * B + y0) < q := by
    rcases ht with ht | ht
    · omega
    · rcases Nat.lt_or_ge ((u * B + u1) / (y1 * B + y0)) q with h' | h'
      · exact h'
      · have := (est_test (B := B) (u1 := u1) (y0 := y0) h.eq).2 ((est_true (by omega)).2 h')
        omega
  have h2 := h.eq
  have h5 := h.le
  have hge : (u * B + u1) / (y1 * B + y0) ≤ q - 1 := by
    generalize (u * B + u1) / (y1 * B + y0) = d at *
    omega
  have hq1 : 1 ≤ q := Nat.lt_of_le_of_lt (Nat.zero_le _) hlt
  refine ⟨hq1, ⟨?_, hge, by omega⟩⟩
  obtain ⟨k, rfl⟩ : ∃ k, q = k + 1 := ⟨q - 1, by omega⟩
  rw [Nat.add_sub_cancel]
  rw [Nat.succ_mul] at h2
  omega
/-- At the end it is the true digit. -/
theorem est_done {B u u1 y1 y0 q r : Nat} (h : Est B u u1 y1 y0 q r) (hy : 0 < y1 * B + y0) (ht : q * y0 ≤ B * r + u1) : q = (u * B + u1) / (y1 * B + y0) :=
  Nat.le_antisymm ((est_true hy).1 ((est_test h.eq).1 ht)) h.ge
/-- A rest of at least B ends it, too. -/
theorem est_break {B u u1 y1 y0 q r : Nat} (h : Est B u u1 y1 y0 q r) (hy : 0 < y1 * B + y0) (hy0 : y0 < B) (hr : B ≤ r) (hq : q ≤ B) : q = (u * B + u1) / (y1 * B + y0) := by
  refine est_done h hy ?_
  have h1 : q * y0 ≤ B * y0 := Nat.mul_le_mul_right _ hq
  have h3 : B * y0 ≤ B * B := Nat.mul_le_mul_left _ (by omega)
  have h2 : B * B ≤ B * r := Nat.mul_le_mul_left _ hr
  omega

/-- The two digits of a quotient. -/
theorem two_digits (B N1 n1 n0 Y : Nat) : ((N1 * B + n1) % Y * B + n0) % Y = ((N1 * B + n1) * B + n0) % Y := by
  rw [Nat.add_mod, Nat.mod_mul_mod, ← Nat.add_mod]
theorem scaled_rem (N y s : Nat) : (N * 2 ^ s) % (y * 2 ^ s) / 2 ^ s = N % y := by
  rw [Nat.mul_mod_mul_right, Nat.mul_div_cancel _ (Nat.pow_pos (by omega))]
end Go.Proofs.Ytnnfgphioapmnaa

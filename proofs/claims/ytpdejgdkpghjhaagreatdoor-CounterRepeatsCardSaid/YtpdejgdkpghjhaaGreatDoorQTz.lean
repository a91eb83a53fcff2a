/- Walks: prime.mul, pow; dominoref04.AddMod, MulMod, ExpMod. -/
import Derived.Test.YtpdejgdkpghjhaaGreatDoorQMdA
import Derived.Test.YtpdejgdkpghjhaaGreatDoorQNaD
set_option linter.unusedVariables false
set_option linter.unusedSimpArgs false
namespace Go.Proofs.YtpdejgdkpghjhaaGreatDoor
open Go.RowKit
theorem mulmod_hi {a b m : Nat} (ha : a < m) (hb : b < m) (hm : m < 18446744073709551616) : a * b / 18446744073709551616 < m := by
  rw [Nat.div_lt_iff_lt_mul (by decide)]
  have h1 := Nat.mul_le_mul (Nat.le_of_lt ha) (show b ≤ 18446744073709551615 by omega)
  omega
set_option maxRecDepth 100000 in
theorem prime_mul (a b m : Nat) (ha : a < m) (hb : b < m) (hm8 : m < 18446744073709551616) (w : World) : Calls Tryz.prog 180 #[.int .u64 a, .int .u64 b, .int .u64 m] w (Ret (.int .u64 ((a * b % m : Nat) : Int)) w) := by
  have HM := Lib.hid (Tryz.bits_Mul64 a b (by omega) (by omega))
  have hlo : a * b % 18446744073709551616 < 18446744073709551616 := Nat.mod_lt _ (by decide)
  have HD := Lib.hid (bits_Div64 (a * b / 18446744073709551616) (a * b % 18446744073709551616) m hm8 hlo (mulmod_hi ha hb hm8))
  have HE := Lib.hid (show (a * b / 18446744073709551616 * 18446744073709551616 + a * b % 18446744073709551616) % m = a * b % m from by rw [Nat.mul_comm, Nat.div_add_mod])
  clear ha hb hm8 hlo
  go_enter Tryz.func180, Tryz.ntmps180
  go_wp2_with fail
  refine (HM.out _).mono ?_
  rintro e w1 ⟨rfl, rfl⟩
  obtain ⟨p, hp⟩ : ∃ p, a * b = p := ⟨_, rfl⟩
  rw [hp] at HD HE
  try rw [hp]
  have HP := Lib.hid hp
  go_wp2_with fail
  refine (HD.out _).mono ?_
  rintro e w2 ⟨q, rfl, hb2⟩
  have HB := Lib.hid hb2
  rw [HE.out]
  obtain ⟨r, hr⟩ : ∃ r, p % m = r := ⟨_, rfl⟩
  rw [hr]
  have HRR := Lib.hid hr
  clear hb2 hr hp
  go_wp2
  go_ret
  exact ⟨by rw [HP.out, HRR.out]; rfl, HB.out⟩
theorem pw_odd {X A E m : Nat} (h : E % 2 = 1) : (X * A % m) * (A * A % m) ^ (E / 2) % m = X * A ^ E % m := by
  have e : E = 2 * (E / 2) + 1 := by omega
  conv => rhs; rw [e, Nat.pow_succ, Nat.pow_mul, Nat.pow_two]
  rw [Nat.mul_mod, Nat.mod_mod, ← Nat.pow_mod, ← Nat.mul_mod, Nat.mul_comm ((A * A) ^ (E / 2)), ← Nat.mul_assoc]
theorem pw_even {X A E m : Nat} (h : E % 2 = 0) : X * (A * A % m) ^ (E / 2) % m = X * A ^ E % m := by
  have e : E = 2 * (E / 2) := by omega
  conv => rhs; rw [e, Nat.pow_mul, Nat.pow_two]
  rw [Nat.mul_mod, ← Nat.pow_mod, ← Nat.mul_mod]
set_option maxRecDepth 100000 in
set_option maxHeartbeats 1000000 in
theorem prime_pow (a n m : Nat) (ha : a < m) (hn : n < 18446744073709551616) (hm8 : m < 18446744073709551616) (hm : 0 < m) (w : World) : Calls Tryz.prog 179 #[.int .u64 a, .int .u64 n, .int .u64 m] w (Ret (.int .u64 ((a ^ n % m : Nat) : Int)) w) := by
  have HMU := Lib.hid (fun a b (ha : a < m) (hb : b < m) => prime_mul a b m ha hb hm8)
  have hm1 : 1 % m < m := Nat.mod_lt _ hm
  obtain ⟨o, ho⟩ : ∃ o, 1 % m = o := ⟨_, rfl⟩
  have h1 : (1 : Int) % (m : Int) = (o : Int) := by rw [← ho]; rfl
  have hwo : IntKind.u64.wrap (o : Int) = (o : Int) := u64_wrap o (by omega)
  have hm0 : ¬ (m = 0) := by omega
  have HS := Lib.hid (show o * a ^ n % m = a ^ n % m from by rw [← ho, Nat.mul_mod, Nat.mod_mod, ← Nat.mul_mod, Nat.one_mul])
  rw [ho] at hm1
  have HO := Lib.hid hm1
  have HA := Lib.hid ha
  have HN := Lib.hid hn
  have HM8 := Lib.hid hm8
  clear ho hm1 ha hn hm8 hm
  go_enter Tryz.func179, Tryz.ntmps179
  go_wp2
  go_loopw [0, 1, 7] (fun a1 e1 x wr => ∃ X A E : Nat, x = .int .u64 X ∧ a1 = .int .u64 A ∧ e1 = .int .u64 E ∧ X < m ∧ A < m ∧ E < 18446744073709551616 ∧ X * A ^ E % m = a ^ n % m ∧ Below w.heap.size w wr) (fun _ e1 _ _ => (intOf e1).toNat)
  case atStart => exact ⟨o, a, n, by rw [h1], rfl, rfl, HO.out, HA.out, HN.out, HS.out, Below.refl _ _⟩
  case round =>
    obtain ⟨X, A, E, rfl, rfl, rfl, hX, hA, hE, hi, hB⟩ := hrel
    clear h1 hwo
    have HI := Lib.hid hi
    have HB := Lib.hid hB
    have HX := Lib.hid hX
    have HAA := Lib.hid hA
    have HE := Lib.hid hE
    clear hi hB hX hA
    by_cases h0 : 0 < E
    · have he2 : ((E : Int) / 2) = ((E / 2 : Nat) : Int) := by omega
      obtain ⟨H, hH⟩ : ∃ H, E / 2 = H := ⟨_, rfl⟩
      rw [hH] at he2
      have hwH : IntKind.u64.wrap (H : Int) = (H : Int) := u64_wrap H (by omega)
      have HH := Lib.hid hH
      have HM2 := Lib.hid (HMU.out A A HAA.out HAA.out)
      by_cases hp : E % 2 = 1
      · have hr : (E : Int) % 2 = 1 := by omega
        have HM1 := Lib.hid (HMU.out X A HX.out HAA.out)
        have HP := Lib.hid (pw_odd (X := X) (A := A) (m := m) hp)
        clear hp hH hE
        go_wp2_with fail
        refine (HM1.out _).mono ?_
        rintro ev w1 ⟨rfl, hb1⟩
        have HB1 := Lib.hid (HB.out.trans (hb1.mono HB.out.size))
        clear hb1
        obtain ⟨X1, hX1⟩ : ∃ X1, X * A % m = X1 := ⟨_, rfl⟩
        rw [hX1] at HP ⊢
        have HX1 := Lib.hid (show X1 < m from by rw [← hX1]; exact Nat.mod_lt _ (by omega))
        clear hX1
        go_wp2_with fail
        refine (HM2.out _).mono ?_
        rintro ev w2 ⟨rfl, hb2⟩
        have HB2 := Lib.hid (HB1.out.trans (hb2.mono HB1.out.size))
        clear hb2
        obtain ⟨A1, hA1⟩ : ∃ A1, A * A % m = A1 := ⟨_, rfl⟩
        rw [hA1] at HP ⊢
        have HA1 := Lib.hid (show A1 < m from by rw [← hA1]; exact Nat.mod_lt _ (by omega))
        clear hA1
        go_wp2
        go_roundw
        case rel => exact ⟨X1, A1, H, rfl, rfl, rfl, HX1.out, HA1.out, by have := HH.out; have := HE.out; omega, by rw [← HI.out, ← HP.out, HH.out], HB2.out⟩
        case measure => have := HH.out; simp [intOf] <;> omega
      · have hr : (E : Int) % 2 = 0 := by omega
        have HP := Lib.hid (pw_even (X := X) (A := A) (E := E) (m := m) (by omega))
        clear hp hH hE
        go_wp2_with fail
        refine (HM2.out _).mono ?_
        rintro ev w2 ⟨rfl, hb2⟩
        have HB2 := Lib.hid (HB.out.trans (hb2.mono HB.out.size))
        clear hb2
        obtain ⟨A1, hA1⟩ : ∃ A1, A * A % m = A1 := ⟨_, rfl⟩
        rw [hA1] at HP ⊢
        have HA1 := Lib.hid (show A1 < m from by rw [← hA1]; exact Nat.mod_lt _ (by omega))
        clear hA1
        go_wp2
        go_roundw
        case rel => exact ⟨X, A1, H, rfl, rfl, rfl, HX.out, HA1.out, by have := HH.out; have := HE.out; omega, by rw [← HI.out, ← HP.out, HH.out], HB2.out⟩
        case measure => have := HH.out; simp [intOf] <;> omega
    · obtain rfl : E = 0 := by omega
      have HF := Lib.hid (show X = a ^ n % m from by rw [← HI.out, Nat.pow_zero, Nat.mul_one, Nat.mod_eq_of_lt HX.out])
      clear h0 hE
      go_wp2
      go_ret
      exact ⟨by rw [← HF.out]; rfl, HB.out⟩
end Go.Proofs.YtpdejgdkpghjhaaGreatDoor
/- Walk: math/bits.TrailingZeros64. -/
set_option linter.unusedVariables false
set_option linter.unusedSimpArgs false
namespace Go.Proofs.YtpdejgdkpghjhaaGreatDoor
open Go.RowKit
def tzT : List Nat := [0, 1, 56, 2, 57, 49, 28, 3, 61, 58, 42, 50, 38, 29, 17, 4, 62, 47, 59, 36, 45, 43, 51, 22, 53, 39, 33, 30, 24, 18, 12, 5, 63, 55, 48, 27, 60, 41, 37, 16, 46, 35, 44, 21, 52, 32, 23, 11, 54, 26, 40, 15, 34, 20, 31, 10, 25, 14, 19, 9, 13, 8, 7, 6]
def tzN (i : Nat) : Nat := tzT.getD i 0
theorem tz_hit : ∀ k : Fin 64, tzN (2 ^ k.val * 285870213051353865 % 18446744073709551616 / 288230376151711744) = k.val := by decide +kernel
theorem tz_idx (k : Nat) : 2 ^ k * 285870213051353865 % 18446744073709551616 / 288230376151711744 < 64 := by
  have := Nat.mod_lt (2 ^ k * 285870213051353865) (show 0 < 18446744073709551616 by decide)
  omega
theorem low_bit (k j : Nat) (h : 2 ^ (k + 1) * j + 2 ^ k < 2 ^ 64) : (2 ^ (k + 1) * j + 2 ^ k) &&& (2 ^ 64 - (2 ^ (k + 1) * j + 2 ^ k)) = 2 ^ k := by
  have hp : 0 < 2 ^ k := Nat.two_pow_pos k
  have h2 : 2 ^ k < 2 ^ (k + 1) := by rw [Nat.pow_succ]; omega
  obtain ⟨z, hz⟩ : ∃ z, z = 2 ^ (k + 1) * j + (2 ^ k - 1) := ⟨_, rfl⟩
  have hx : 2 ^ (k + 1) * j + 2 ^ k = z + 1 := by omega
  have hk : k < 64 := by
    rcases Nat.lt_or_ge k 64 with a | a
    · exact a
    · have b : 2 ^ 64 ≤ 2 ^ k := Nat.pow_le_pow_right (by decide) a
      omega
  apply Nat.eq_of_testBit_eq
  intro i
  rw [Nat.testBit_and]
  rw [show 2 ^ 64 - (2 ^ (k + 1) * j + 2 ^ k) = 2 ^ 64 - (z + 1) by rw [hx]]
  rw [Nat.testBit_two_pow_sub_succ (by omega), Nat.testBit_two_pow]
  rw [Nat.testBit_two_pow_mul_add j h2, hz, Nat.testBit_two_pow_mul_add j (by omega)]
  by_cases h1 : i < k + 1
  · rw [if_pos h1, if_pos h1, Nat.testBit_two_pow, Nat.testBit_two_pow_sub_one]
    by_cases h3 : k = i
    · subst h3
      simp [hk]
    · have : i < k := by omega
      simp [this]
      omega
  · rw [if_neg h1, if_neg h1]
    have : ¬ (k = i) := by omega
    rw [decide_eq_false this]
    cases j.testBit (i - (k + 1)) <;> simp
def TabAt (w : World) : Prop := ∀ i, i < 64 → w.cell? ⟨0, i, none⟩ = some (.int .u8 (tzN i))
theorem TabAt.kept {B : Nat} {w w' : World} (h : TabAt w) (hb : Below B w w') (hB : w.heap.size ≤ B) : TabAt w' := fun i hi => cell_kept hb hB (h i hi)
theorem u64_mod (z : Int) : IntKind.u64.wrap z = z % 18446744073709551616 := by simp [IntKind.wrap, IntKind.bits, IntKind.signed]
set_option maxRecDepth 100000 in
set_option maxHeartbeats 1000000 in
theorem bits_tz (k j : Nat) (h : 2 ^ (k + 1) * j + 2 ^ k < 18446744073709551616) (w : World) (ht : TabAt w) : Calls Tryz.prog 178 #[.int .u64 ((2 ^ (k + 1) * j + 2 ^ k : Nat) : Int)] w (RetQ (.int .i64 k) w) := by
  have hk : k < 64 := by
    rcases Nat.lt_or_ge k 64 with a | a
    · exact a
    · have b : 2 ^ 64 ≤ 2 ^ k := Nat.pow_le_pow_right (by decide) a
      omega
  have hp : 0 < 2 ^ k := Nat.two_pow_pos k
  have hlow := low_bit k j h
  obtain ⟨x, hx⟩ : ∃ x, 2 ^ (k + 1) * j + 2 ^ k = x := ⟨_, rfl⟩
  rw [hx] at hlow h ⊢
  have hx0 : 0 < x := by omega
  have en : IntKind.u64.wrap (-(x : Int)) = ((2 ^ 64 - x : Nat) : Int) := by
    have e : -(x : Int) = ((2 ^ 64 - x : Nat) : Int) + (-1) * 18446744073709551616 := by omega
    rw [u64_mod]
    omega
  have ea := bits_and_u64_nat x (2 ^ 64 - x) (by omega) (by omega)
  rw [hlow] at ea
  obtain ⟨y, hy⟩ : ∃ y, 2 ^ 64 - x = y := ⟨_, rfl⟩
  rw [hy] at en ea
  have hit := tz_hit ⟨k, hk⟩
  simp only [] at hit
  have hidx := tz_idx k
  obtain ⟨b, hb⟩ : ∃ b, 2 ^ k = b := ⟨_, rfl⟩
  rw [hb] at hit hidx ea
  have em : IntKind.u64.wrap ((b : Int) * 285870213051353865) = ((b * 285870213051353865 % 18446744073709551616 : Nat) : Int) := by
    have e : (b : Int) * 285870213051353865 = ((b * 285870213051353865 : Nat) : Int) := by omega
    rw [e, u64_mod]
    rfl
  obtain ⟨c, hc⟩ : ∃ c, b * 285870213051353865 % 18446744073709551616 = c := ⟨_, rfl⟩
  rw [hc] at em hit hidx
  have hx1 : ((x : Int) == 0) = false := beq_eq_false_iff_ne.2 (by omega)
  have ht2 := ht _ hidx
  rw [hit] at ht2
  clear hc hb hy hlow hx h hp hx0 ht hit
  go_enter Tryz.func178, Tryz.ntmps178
  go_wp2
  go_ret
  exact ⟨rfl, rfl⟩
end Go.Proofs.YtpdejgdkpghjhaaGreatDoor

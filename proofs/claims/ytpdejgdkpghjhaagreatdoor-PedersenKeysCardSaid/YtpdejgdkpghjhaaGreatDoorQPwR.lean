/- Walks: modular.Inverse, modular.Power; dominoref02.DivMod, Mod. -/
import Derived.Test.YtpdejgdkpghjhaaGreatDoorQExW
import Derived.Test.YtpdejgdkpghjhaaGreatDoorQExp
set_option linter.unusedVariables false
set_option linter.unusedSimpArgs false
namespace Go.Proofs.YtpdejgdkpghjhaaGreatDoor
open Go.RowKit

/-- What Inverse returns: an inverse. -/
def RetI (a m : Nat) (w : World) (e : Ending) (w' : World) : Prop := ∃ x : Nat, e = .returned (.tuple #[.string (nS x), .int .i64 0]) ∧ Below w.heap.size w w' ∧ x < m ∧ a * x % m = 1

set_option maxRecDepth 100000 in
set_option maxHeartbeats 1000000 in
theorem mod_Inverse (a m : Nat) (ham : a < m) (hm8 : m < 18446744073709551616) (h1 : 1 < m) (hg : Nat.gcd a m = 1) (w : World) : Calls Tryz.prog 54 #[.string (nS a), .string (nS m)] w (RetI a m w) := by
  have ha8 : a < 18446744073709551616 := by omega
  have HC := Lib.hid (fun w => check_one w (nS a) (nS m) _ rfl (nS_valid_small ha8) (nS_valid_small hm8) (empty_nS (by omega)) _ rfl)
  have HR := Lib.hid (mod_reduced a m ha8 (lt128_of_lt8 hm8) (by omega))
  rw [Nat.mod_eq_of_lt ham] at HR
  have HE := Lib.hid (int_Extended a m ham hm8)
  have HRX := Lib.hid (fun x (hx : x < 18446744073709551616) => mod_reduced x m hx (lt128_of_lt8 hm8) (by omega))
  have HG := Lib.hid hg
  have HM1 := Lib.hid h1
  obtain ⟨s, hs⟩ : ∃ s, nS a = s := ⟨_, rfl⟩
  obtain ⟨t, ht⟩ : ∃ t, nS m = t := ⟨_, rfl⟩
  rw [hs, ht] at HC HR HE
  rw [ht] at HRX
  rw [hs, ht]
  clear hs ht ham hm8 h1 hg ha8
  go_enter Tryz.func54, Tryz.ntmps54
  go_wp2_with fail
  refine (HC.out w).mono ?_
  rintro e w1 ⟨rfl, hb1⟩
  have HB1 := Lib.hid ((((Below.refl w.heap.size w).alloc (Nat.le_refl _) _).alloc (by simp) _).trans hb1)
  clear hb1
  go_wp2_with fail
  refine (HR.out _).mono ?_
  rintro e w2 ⟨rfl, hb2⟩
  have HB2 := Lib.hid (HB1.out.trans (hb2.mono HB1.out.size))
  clear hb2
  go_wp2_with fail
  refine (HE.out _).mono ?_
  rintro e w3 ⟨x, y, rfl, hb3, hx0, hx8, hbz⟩
  have HB3 := Lib.hid (HB2.out.trans (hb3.mono HB2.out.size))
  rw [HG.out] at hbz
  have HI := Lib.hid (inv_red (inv_of_bez hx0 hbz HM1.out))
  have HRR := Lib.hid (HRX.out x.natAbs hx8)
  rw [HG.out, nS_one]
  unfold intV zV
  have HML := Lib.hid (show x.natAbs % m < m from Nat.mod_lt _ (by have := HM1.out; omega))
  obtain ⟨X, hX⟩ : ∃ X, x.natAbs = X := ⟨_, rfl⟩
  obtain ⟨u, hu⟩ : ∃ u, nS X = u := ⟨_, rfl⟩
  rw [hX] at HI HRR HML ⊢
  rw [hu] at HRR ⊢
  obtain ⟨dx, hdx⟩ : ∃ dx, decide (x < 0) = dx := ⟨_, rfl⟩
  obtain ⟨dy, hdy⟩ : ∃ dy, decide (y < 0) = dy := ⟨_, rfl⟩
  obtain ⟨v, hv⟩ : ∃ v, nS y.natAbs = v := ⟨_, rfl⟩
  rw [hdx, hdy, hv]
  clear hb3 hbz hx0 hx8 hX hu hdx hdy hv
  go_wp2_with fail
  refine (HRR.out _).mono ?_
  rintro e w4 ⟨rfl, hb4⟩
  have HB4 := Lib.hid (((HB3.out.alloc HB3.out.size (.cells #[.bool dx, .string u] 67)).alloc (by have := HB3.out.size; simp; omega) (.cells #[.bool dy, .string v] 67)).trans (hb4.mono (by have := HB3.out.size; simp; omega)))
  clear hb4
  go_wp2
  go_ret2
  exact ⟨X % m, rfl, HB4.out, HML.out, HI.out⟩

end Go.Proofs.YtpdejgdkpghjhaaGreatDoor
/- Walks: dominoref02.DivMod, Mod. -/
set_option linter.unusedVariables false
set_option linter.unusedSimpArgs false
namespace Go.Proofs.YtpdejgdkpghjhaaGreatDoor
open Go.RowKit

theorem emod_of_pos {z : Int} {m : Nat} (hz : 0 ≤ z) : (z % m).toNat = z.natAbs % m := emod_pos hz
theorem emod_of_zero {z : Int} {m : Nat} (hr : z.natAbs % m = 0) : (z % m).toNat = 0 := by
  have h : (m : Int) ∣ z := Int.ofNat_dvd_left.2 (Nat.dvd_of_mod_eq_zero hr)
  rw [Int.emod_eq_zero_of_dvd h]; rfl
theorem emod_of_neg {z : Int} {m : Nat} (h0 : 0 < m) (hz : z < 0) (hr : 0 < z.natAbs % m) : (z % m).toNat = m - z.natAbs % m := by
  have hlt := Nat.mod_lt z.natAbs h0
  have e := Nat.div_add_mod z.natAbs m
  have e2 : ((m * (z.natAbs / m) + z.natAbs % m : Nat) : Int) = -z := by rw [e]; omega
  rw [Int.natCast_add, Int.natCast_mul] at e2
  have e3 : z = ((m - z.natAbs % m : Nat) : Int) + m * (-(z.natAbs / m : Nat) - 1) := by
    rw [Int.mul_sub, Int.mul_neg]
    omega
  have e4 : z % m = ((m - z.natAbs % m : Nat) : Int) := by
    conv => lhs; rw [e3]
    rw [Int.add_mul_emod_self_left]
    exact Int.emod_eq_of_lt (by omega) (by omega)
  rw [e4]; rfl

end Go.Proofs.YtpdejgdkpghjhaaGreatDoor

/- Walks: dominoref01.Sub, dominoref03.Sub, dominoref03.Add. -/
import Derived.Test.YtndmjfkmnjejkaaGreatDoorQScH
import Derived.Test.YtndmjfkmnjejkaaGreatDoorQPeDB
set_option linter.unusedVariables false
set_option linter.unusedSimpArgs false
namespace Go.Proofs.YtndmjfkmnjejkaaGreatDoor
open Go.RowKit Go.Lib
set_option maxRecDepth 100000 in
theorem r01_Sub (x y : Nat) (hx : x < 256 ^ 128) (hxy : y ≤ x) (w : World) : Calls Tryz.prog 118 #[.string (nS x), .string (nS y)] w (Ret (.tuple #[.string (nS (x - y)), .int .i64 0]) w) := by
  have hs1 := nS_size_le.2 hx
  have hs2 := nS_size_le.2 (Nat.lt_of_le_of_lt hxy hx)
  have HV1 := Lib.hid (r01_Valid (nS x) (by omega))
  have HV2 := Lib.hid (r01_Valid (nS y) (by omega))
  rw [nvalid_nS.2 hx] at HV1
  rw [nvalid_nS.2 (Nat.lt_of_le_of_lt hxy hx)] at HV2
  have HO := Lib.hid (r01_Order (nS x) (nS y) (by omega) (by omega))
  rw [ordB_nS] at HO
  have HM := Lib.hid (r01_Minus x y (by omega) hxy)
  have hcm := cmpI_ltC (x := x) (y := y)
  obtain ⟨k1, hk1⟩ : ∃ k, cmpI x y = k := ⟨_, rfl⟩
  rw [hk1] at HO hcm
  have hge : decide (k1 < 0) = false := by rw [decide_eq_false_iff_not, hcm]; omega
  obtain ⟨s, hs⟩ : ∃ s, nS x = s := ⟨_, rfl⟩
  obtain ⟨t, ht⟩ : ∃ t, nS y = t := ⟨_, rfl⟩
  obtain ⟨u, hu⟩ : ∃ t, nS (x - y) = t := ⟨_, rfl⟩
  rw [hs] at HV1 HO HM
  rw [ht] at HV2 HO HM
  rw [hu] at HM
  rw [hs, ht, hu]
  clear hs ht hu hx hxy hs1 hs2 hk1 hcm
  go_enter Tryz.func118, Tryz.ntmps118
  go_wp2_with fail
  refine (HV1.out _).mono ?_
  rintro e w1 ⟨rfl, rfl⟩
  go_wp2_with fail
  refine (HV2.out _).mono ?_
  rintro e w1 ⟨rfl, rfl⟩
  go_wp2_with fail
  refine (HO.out _).mono ?_
  rintro e w1 ⟨rfl, hb⟩
  have HB1 := Lib.hid hb
  clear hb
  go_wp2_with fail
  refine (HM.out _).mono ?_
  rintro e w2 ⟨rfl, hb⟩
  have HB2 := Lib.hid (HB1.out.trans (hb.mono HB1.out.size))
  clear hb
  go_wp2
  go_ret2
  exact ⟨rfl, HB2.out⟩
set_option maxRecDepth 100000 in
theorem r03_Sub (x y m : Nat) (hx8 : x < 256 ^ 128) (hy8 : y < 256 ^ 128) (hm8 : m < 18446744073709551616) (h0 : 0 < m) (w : World) : Calls Tryz.prog 73 #[.string (nS x), .string (nS y), .string (nS m)] w (Ret (.tuple #[.string (nS (sbM x y m)), .int .i64 0]) w) := by
  have HC := Lib.hid (fun w => r03_check3 w (nS x) (nS y) (nS m) _ rfl (nvalid_nS.2 hx8) (nvalid_nS.2 hy8) (nS_valid_small hm8) (empty_nS h0))
  have lm := lt128_of_lt8 hm8
  have ly := Nat.mod_lt y h0
  have lx := Nat.mod_lt x h0
  have HM1 := Lib.hid (r03_Mod x m hx8 lm h0)
  have HM2 := Lib.hid (r03_Mod y m hy8 lm h0)
  have l2 : x % m + m < 256 ^ 128 := Nat.lt_trans (show x % m + m < 2 * 18446744073709551616 by omega) (by decide)
  have HA := Lib.hid (r01_Add (x % m) m (lt128_of_lt8 (by omega)) lm)
  rw [fitR_small l2] at HA
  have HS := Lib.hid (r01_Sub (x % m + m) (y % m) l2 (by omega))
  have HM3 := Lib.hid (r03_Mod (x % m + m - y % m) m (by omega) lm h0)
  rw [show (x % m + m - y % m) % m = sbM x y m from by
    unfold sbM; rw [show x % m + m - y % m = x % m + (m - y % m) from by omega, Nat.add_mod, Nat.mod_mod, ← Nat.add_mod]] at HM3
  obtain ⟨s, hs⟩ : ∃ s, nS x = s := ⟨_, rfl⟩
  obtain ⟨t, ht⟩ : ∃ t, nS y = t := ⟨_, rfl⟩
  obtain ⟨u, hu⟩ : ∃ u, nS m = u := ⟨_, rfl⟩
  obtain ⟨v1, h1⟩ : ∃ u, nS (x % m) = u := ⟨_, rfl⟩
  obtain ⟨v2, h2⟩ : ∃ u, nS (y % m) = u := ⟨_, rfl⟩
  obtain ⟨v3, h3⟩ : ∃ u, nS (x % m + m) = u := ⟨_, rfl⟩
  obtain ⟨v4, h4⟩ : ∃ u, nS (x % m + m - y % m) = u := ⟨_, rfl⟩
  obtain ⟨v5, h5⟩ : ∃ u, nS (sbM x y m) = u := ⟨_, rfl⟩
  rw [hs, ht, hu] at HC
  rw [hs, hu, h1] at HM1
  rw [ht, hu, h2] at HM2
  rw [h1, hu, h3] at HA
  rw [h3, h2, h4] at HS
  rw [h4, hu, h5] at HM3
  rw [hs, ht, hu, h5]
  clear hs ht hu h1 h2 h3 h4 h5 hx8 hy8 hm8 lm lx ly l2 h0
  go_enter Tryz.func73, Tryz.ntmps73
  go_wp2_with fail
  refine (HC.out w).mono ?_
  rintro e w1 ⟨rfl, rfl⟩
  go_wp2_with fail
  refine (HM1.out _).mono ?_
  rintro e w2 ⟨rfl, hb2⟩
  have HB2 := Lib.hid (((Below.refl w.heap.size w).alloc (Nat.le_refl _) _).trans (hb2.mono (by simp)))
  clear hb2
  go_wp2_with fail
  refine (HA.out _).mono ?_
  rintro e w3 ⟨rfl, hb⟩
  have HB3 := Lib.hid (HB2.out.trans (hb.mono HB2.out.size))
  clear hb
  go_wp2_with fail
  refine (HM2.out _).mono ?_
  rintro e w4 ⟨rfl, hb⟩
  have HB4 := Lib.hid (HB3.out.trans (hb.mono HB3.out.size))
  clear hb
  go_wp2_with fail
  refine (HS.out _).mono ?_
  rintro e w5 ⟨rfl, hb⟩
  have HB5 := Lib.hid (HB4.out.trans (hb.mono HB4.out.size))
  clear hb
  go_wp2_with fail
  refine (HM3.out _).mono ?_
  rintro e w6 ⟨rfl, hb⟩
  have HB6 := Lib.hid (HB5.out.trans (hb.mono HB5.out.size))
  clear hb
  go_wp2
  go_ret2
  exact ⟨rfl, HB6.out⟩
end Go.Proofs.YtndmjfkmnjejkaaGreatDoor
/- Walks: integer.Sub of long numbers; modular.Inverse of a number that has none. -/
set_option linter.unusedVariables false
set_option linter.unusedSimpArgs false
namespace Go.Proofs.YtndmjfkmnjejkaaGreatDoor
open Go.RowKit
set_option maxRecDepth 100000 in
set_option maxHeartbeats 1000000 in
theorem mod_Inverse_none (a m : Nat) (ham : a < m) (hm8 : m < 18446744073709551616) (h1 : 1 < m) (hg : ¬ (Nat.gcd a m = 1)) (w : World) : Calls Tryz.prog 68 #[.string (nS a), .string (nS m)] w (Ret (.tuple #[.string ⟨#[]⟩, .int .i64 9]) w) := by
  have ha8 : a < 18446744073709551616 := by omega
  have HC := Lib.hid (fun w => check_one w (nS a) (nS m) _ rfl (nS_valid_small ha8) (nS_valid_small hm8) (empty_nS (by omega)) _ rfl)
  have HR := Lib.hid (mod_reduced a m ha8 (lt128_of_lt8 hm8) (by omega))
  rw [Nat.mod_eq_of_lt ham] at HR
  have HE := Lib.hid (int_Extended a m ham hm8)
  have hne : ((nS (Nat.gcd a m)).toList == [1]) = false := by rw [nS_is1]; exact decide_eq_false hg
  obtain ⟨gs, hgs⟩ : ∃ g, nS (Nat.gcd a m) = g := ⟨_, rfl⟩
  rw [hgs] at hne
  have HGS := Lib.hid hgs
  obtain ⟨s, hs⟩ : ∃ s, nS a = s := ⟨_, rfl⟩
  obtain ⟨t, ht⟩ : ∃ t, nS m = t := ⟨_, rfl⟩
  rw [hs, ht] at HC HR HE
  rw [hs, ht]
  clear hs ht ham hm8 h1 hg ha8 hgs
  go_enter Tryz.func68, Tryz.ntmps68
  go_wp2_with fail
  refine (HC.out w).mono ?_
  rintro e w1 ⟨rfl, hb1⟩
  have HB1 := Lib.hid ((((Below.refl w.heap.size w).alloc (Nat.le_refl _) _).alloc (by simp) _).trans hb1)
  clear hb1
  go_wp2_with fail
  refine (HR.out _).mono ?_
  rintro e w2 ⟨rfl, hb2⟩
  have HB2 := Lib.hid (HB1.out.trans (hb2.mono HB1.out.size))
  clear hb2
  go_wp2_with fail
  refine (HE.out _).mono ?_
  rintro e w3 ⟨x, y, rfl, hb3, hx0, hx8, hbz⟩
  have HB3 := Lib.hid (HB2.out.trans (hb3.mono HB2.out.size))
  rw [HGS.out]
  unfold intV zV
  obtain ⟨u, hu⟩ : ∃ u, nS x.natAbs = u := ⟨_, rfl⟩
  obtain ⟨dx, hdx⟩ : ∃ dx, decide (x < 0) = dx := ⟨_, rfl⟩
  obtain ⟨dy, hdy⟩ : ∃ dy, decide (y < 0) = dy := ⟨_, rfl⟩
  obtain ⟨v, hv⟩ : ∃ v, nS y.natAbs = v := ⟨_, rfl⟩
  rw [hu, hdx, hdy, hv]
  clear hb3 hbz hx0 hx8 hu hdx hdy hv
  have HB4 := Lib.hid ((HB3.out.alloc HB3.out.size (.cells #[.bool dx, .string u] 28)).alloc (by have := HB3.out.size; simp; omega) (.cells #[.bool dy, .string v] 28))
  go_wp2
  go_ret2
  exact ⟨rfl, by first | exact HB4.out | exact HB3.out⟩
end Go.Proofs.YtndmjfkmnjejkaaGreatDoor

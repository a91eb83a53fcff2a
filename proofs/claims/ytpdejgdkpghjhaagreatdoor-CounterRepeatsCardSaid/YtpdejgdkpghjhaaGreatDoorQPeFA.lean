/- Walks: modular.plus, Add, Sub. -/
import Derived.Test.YtpdejgdkpghjhaaGreatDoorQHaB
import Derived.Test.YtpdejgdkpghjhaaGreatDoorQPeB
import Derived.Test.YtpdejgdkpghjhaaGreatDoorQPeU
set_option linter.unusedVariables false
set_option linter.unusedSimpArgs false
namespace Go.Proofs.YtpdejgdkpghjhaaGreatDoor
open Go.RowKit
theorem plus_ge {a b m : Nat} (ha : a < m) (hb : b < m) (h : m - b ≤ a) : a - (m - b) = (a + b) % m := by
  have : a + b = (a - (m - b)) + m := by omega
  rw [this, Nat.add_mod_right, Nat.mod_eq_of_lt (by omega)]
theorem plus_lt {a b m : Nat} (hb : b < m) (h : a < m - b) : a + b = (a + b) % m := (Nat.mod_eq_of_lt (by omega)).symm
set_option maxRecDepth 100000 in
set_option maxHeartbeats 1000000 in
theorem mod_plus (a b m : Nat) (ha : a < m) (hb : b < m) (hm : m < 256 ^ 128) (w : World) : Calls Tryz.prog 116 #[.string (nS a), .string (nS b), .string (nS m)] w (Ret (.string (nS ((a + b) % m))) w) := by
  have ha8 := Nat.lt_trans ha hm
  have hb8 := Nat.lt_trans hb hm
  have hr8 : m - b < 256 ^ 128 := by omega
  have HS := Lib.hid (nat_Sub_ge m b hm hb8 (by omega))
  have HCM := Lib.hid (nat_Cmp (nS a) (nS (m - b)) (by have := nS_size_le.2 ha8; omega) (by have := nS_size_le.2 hr8; omega))
  rw [ncmp_n ha8 hr8] at HCM
  by_cases h : m - b ≤ a
  · have hge := cmpI_nonneg h
    have HS2 := Lib.hid (nat_Sub_ge a (m - b) ha8 hr8 h)
    rw [plus_ge ha hb h] at HS2
    obtain ⟨c, hc⟩ : ∃ c, cmpI a (m - b) = c := ⟨_, rfl⟩
    rw [hc] at HCM hge
    obtain ⟨s, hs⟩ : ∃ s, nS a = s := ⟨_, rfl⟩
    obtain ⟨t, ht⟩ : ∃ t, nS b = t := ⟨_, rfl⟩
    obtain ⟨u, hu⟩ : ∃ u, nS m = u := ⟨_, rfl⟩
    obtain ⟨r, hr⟩ : ∃ r, nS (m - b) = r := ⟨_, rfl⟩
    rw [hs, hr] at HCM HS2
    rw [hu, ht, hr] at HS
    rw [hs, ht, hu]
    clear hs ht hu hr hc ha hb hm ha8 hb8 hr8 h
    go_enter Tryz.func116, Tryz.ntmps116
    go_wp2_with fail
    refine (HS.out _).mono ?_
    rintro e w1 ⟨rfl, hb1⟩
    have HB1 := Lib.hid hb1
    clear hb1
    go_wp2_with fail
    refine (HCM.out _).mono ?_
    rintro e w2 ⟨rfl, rfl⟩
    go_wp2_with fail
    refine (HS2.out _).mono ?_
    rintro e w3 ⟨rfl, hb3⟩
    have HB3 := Lib.hid (below_up HB1.out HB1.out.size hb3)
    clear hb3
    go_wp2
    go_ret
    exact ⟨rfl, HB3.out⟩
  · have hlt : ¬ (0 ≤ cmpI a (m - b)) := by unfold cmpI; rw [if_pos (by omega)]; decide
    have hf : a + b < 256 ^ 128 := by omega
    have HA := Lib.hid (nat_Add a b ha8 hb8)
    rw [show fitR (a + b) = .tuple #[.string (nS ((a + b) % m)), .int .i64 0] from by unfold fitR; rw [if_pos hf, ← plus_lt hb (by omega)]] at HA
    obtain ⟨c, hc⟩ : ∃ c, cmpI a (m - b) = c := ⟨_, rfl⟩
    rw [hc] at HCM hlt
    obtain ⟨s, hs⟩ : ∃ s, nS a = s := ⟨_, rfl⟩
    obtain ⟨t, ht⟩ : ∃ t, nS b = t := ⟨_, rfl⟩
    obtain ⟨u, hu⟩ : ∃ u, nS m = u := ⟨_, rfl⟩
    obtain ⟨r, hr⟩ : ∃ r, nS (m - b) = r := ⟨_, rfl⟩
    rw [hs, hr] at HCM
    rw [hs, ht] at HA
    rw [hu, ht, hr] at HS
    rw [hs, ht, hu]
    clear hs ht hu hr hc ha hb hm ha8 hb8 hr8 h hf
    go_enter Tryz.func116, Tryz.ntmps116
    go_wp2_with fail
    refine (HS.out _).mono ?_
    rintro e w1 ⟨rfl, hb1⟩
    have HB1 := Lib.hid hb1
    clear hb1
    go_wp2_with fail
    refine (HCM.out _).mono ?_
    rintro e w2 ⟨rfl, rfl⟩
    go_wp2_with fail
    refine (HA.out _).mono ?_
    rintro e w3 ⟨rfl, hb3⟩
    have HB3 := Lib.hid (below_up HB1.out HB1.out.size hb3)
    clear hb3
    go_wp2
    go_ret
    exact ⟨rfl, HB3.out⟩
set_option maxRecDepth 100000 in
set_option maxHeartbeats 1000000 in
theorem mod_Add (x y m : Nat) (hx8 : x < 256 ^ 128) (hy8 : y < 256 ^ 128) (hm8 : m < 256 ^ 128) (h0 : 0 < m) (w : World) : Calls Tryz.prog 52 #[.string (nS x), .string (nS y), .string (nS m)] w (Ret (.tuple #[.string (nS ((x + y) % m)), .int .i64 0]) w) := by
  have HC := Lib.hid (fun w => check_two w (nS x) (nS y) (nS m) _ rfl (nvalid_nS.2 hx8) (nvalid_nS.2 hy8) (nvalid_nS.2 hm8) (empty_nS h0) _ rfl)
  have HR1 := Lib.hid (mod_reducedA x m hx8 hm8 h0)
  have HR2 := Lib.hid (mod_reducedA y m hy8 hm8 h0)
  have HP := Lib.hid (mod_plus (x % m) (y % m) m (Nat.mod_lt _ h0) (Nat.mod_lt _ h0) hm8)
  rw [← Nat.add_mod] at HP
  obtain ⟨s, hs⟩ : ∃ s, nS x = s := ⟨_, rfl⟩
  obtain ⟨t, ht⟩ : ∃ t, nS y = t := ⟨_, rfl⟩
  obtain ⟨u, hu⟩ : ∃ u, nS m = u := ⟨_, rfl⟩
  rw [hs, ht, hu] at HC
  rw [hs, hu] at HR1
  rw [ht, hu] at HR2
  rw [hu] at HP
  rw [hs, ht, hu]
  clear hs ht hu hx8 hy8 hm8
  go_enter Tryz.func52, Tryz.ntmps52
  go_wp2_with fail
  refine (HC.out w).mono ?_
  rintro e w1 ⟨rfl, hb1⟩
  have HB1 := Lib.hid ((((Below.refl w.heap.size w).alloc (Nat.le_refl _) _).alloc (by simp) _).trans hb1)
  clear hb1
  go_wp2_with fail
  refine (HR1.out _).mono ?_
  rintro e w2 ⟨rfl, hb2⟩
  have HB2 := Lib.hid (HB1.out.trans (hb2.mono HB1.out.size))
  clear hb2
  go_wp2_with fail
  refine (HR2.out _).mono ?_
  rintro e w3 ⟨rfl, hb3⟩
  have HB3 := Lib.hid (HB2.out.trans (hb3.mono HB2.out.size))
  clear hb3
  go_wp2_with fail
  refine (HP.out _).mono ?_
  rintro e w4 ⟨rfl, hb4⟩
  have HB4 := Lib.hid (HB3.out.trans (hb4.mono HB3.out.size))
  clear hb4
  go_wp2
  go_ret2
  exact ⟨rfl, HB4.out⟩
end Go.Proofs.YtpdejgdkpghjhaaGreatDoor
/- Walks: integer.Sub of long numbers; modular.Inverse of a number that has none. -/
set_option linter.unusedVariables false
set_option linter.unusedSimpArgs false
namespace Go.Proofs.YtpdejgdkpghjhaaGreatDoor
open Go.RowKit
set_option maxRecDepth 100000 in
set_option maxHeartbeats 1000000 in
theorem mod_Inverse_none (a m : Nat) (ham : a < m) (hm8 : m < 18446744073709551616) (h1 : 1 < m) (hg : ¬ (Nat.gcd a m = 1)) (w : World) : Calls Tryz.prog 54 #[.string (nS a), .string (nS m)] w (Ret (.tuple #[.string ⟨#[]⟩, .int .i64 9]) w) := by
  have ha8 : a < 18446744073709551616 := by omega
  have HC := Lib.hid (fun w => check_one w (nS a) (nS m) _ rfl (nS_valid_small ha8) (nS_valid_small hm8) (empty_nS (by omega)) _ rfl)
  have HR := Lib.hid (mod_reduced a m ha8 (lt128_of_lt8 hm8) (by omega))
  rw [Nat.mod_eq_of_lt ham] at HR
  have HE := Lib.hid (int_Extended a m ham hm8)
  have hne : ((nS (Nat.gcd a m)).toList == [1]) = false := by rw [nS_is1]; exact decide_eq_false hg
  obtain ⟨gs, hgs⟩ : ∃ g, nS (Nat.gcd a m) = g := ⟨_, rfl⟩
  rw [hgs] at hne
  have HGS := Lib.hid hgs
  obtain ⟨s, hs⟩ : ∃ s, nS a = s := ⟨_, rfl⟩
  obtain ⟨t, ht⟩ : ∃ t, nS m = t := ⟨_, rfl⟩
  rw [hs, ht] at HC HR HE
  rw [hs, ht]
  clear hs ht ham hm8 h1 hg ha8 hgs
  go_enter Tryz.func54, Tryz.ntmps54
  go_wp2_with fail
  refine (HC.out w).mono ?_
  rintro e w1 ⟨rfl, hb1⟩
  have HB1 := Lib.hid ((((Below.refl w.heap.size w).alloc (Nat.le_refl _) _).alloc (by simp) _).trans hb1)
  clear hb1
  go_wp2_with fail
  refine (HR.out _).mono ?_
  rintro e w2 ⟨rfl, hb2⟩
  have HB2 := Lib.hid (HB1.out.trans (hb2.mono HB1.out.size))
  clear hb2
  go_wp2_with fail
  refine (HE.out _).mono ?_
  rintro e w3 ⟨x, y, rfl, hb3, hx0, hx8, hbz⟩
  have HB3 := Lib.hid (HB2.out.trans (hb3.mono HB2.out.size))
  rw [HGS.out]
  unfold intV zV
  obtain ⟨u, hu⟩ : ∃ u, nS x.natAbs = u := ⟨_, rfl⟩
  obtain ⟨dx, hdx⟩ : ∃ dx, decide (x < 0) = dx := ⟨_, rfl⟩
  obtain ⟨dy, hdy⟩ : ∃ dy, decide (y < 0) = dy := ⟨_, rfl⟩
  obtain ⟨v, hv⟩ : ∃ v, nS y.natAbs = v := ⟨_, rfl⟩
  rw [hu, hdx, hdy, hv]
  clear hb3 hbz hx0 hx8 hu hdx hdy hv
  have HB4 := Lib.hid ((HB3.out.alloc HB3.out.size (.cells #[.bool dx, .string u] 67)).alloc (by have := HB3.out.size; simp; omega) (.cells #[.bool dy, .string v] 67))
  go_wp2
  go_ret2
  exact ⟨rfl, by first | exact HB4.out | exact HB3.out⟩
end Go.Proofs.YtpdejgdkpghjhaaGreatDoor

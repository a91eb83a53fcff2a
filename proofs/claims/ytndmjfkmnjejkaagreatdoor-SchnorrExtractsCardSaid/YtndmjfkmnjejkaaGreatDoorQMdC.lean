/- Walks: modular.plus, Add, Sub. -/
import Derived.Test.YtndmjfkmnjejkaaGreatDoorQMdz
import Derived.Test.YtndmjfkmnjejkaaGreatDoorQPeB
set_option linter.unusedVariables false
set_option linter.unusedSimpArgs false
namespace Go.Proofs.YtndmjfkmnjejkaaGreatDoor
open Go.RowKit
theorem plus_ge {a b m : Nat} (ha : a < m) (hb : b < m) (h : m - b ≤ a) : a - (m - b) = (a + b) % m := by
  have : a + b = (a - (m - b)) + m := by omega
  rw [this, Nat.add_mod_right, Nat.mod_eq_of_lt (by omega)]
theorem plus_lt {a b m : Nat} (hb : b < m) (h : a < m - b) : a + b = (a + b) % m := (Nat.mod_eq_of_lt (by omega)).symm
set_option maxRecDepth 100000 in
set_option maxHeartbeats 1000000 in
theorem mod_plus (a b m : Nat) (ha : a < m) (hb : b < m) (hm : m < 256 ^ 128) (w : World) : Calls Tryz.prog 112 #[.string (nS a), .string (nS b), .string (nS m)] w (Ret (.string (nS ((a + b) % m))) w) := by
  have ha8 := Nat.lt_trans ha hm
  have hb8 := Nat.lt_trans hb hm
  have hr8 : m - b < 256 ^ 128 := by omega
  have HS := Lib.hid (nat_Sub_ge m b hm hb8 (by omega))
  have HCM := Lib.hid (nat_Cmp (nS a) (nS (m - b)) (by have := nS_size_le.2 ha8; omega) (by have := nS_size_le.2 hr8; omega))
  rw [ncmp_n ha8 hr8] at HCM
  by_cases h : m - b ≤ a
  · have hge := cmpI_nonneg h
    have HS2 := Lib.hid (nat_Sub_ge a (m - b) ha8 hr8 h)
    rw [plus_ge ha hb h] at HS2
    obtain ⟨c, hc⟩ : ∃ c, cmpI a (m - b) = c := ⟨_, rfl⟩
    rw [hc] at HCM hge
    obtain ⟨s, hs⟩ : ∃ s, nS a = s := ⟨_, rfl⟩
    obtain ⟨t, ht⟩ : ∃ t, nS b = t := ⟨_, rfl⟩
    obtain ⟨u, hu⟩ : ∃ u, nS m = u := ⟨_, rfl⟩
    obtain ⟨r, hr⟩ : ∃ r, nS (m - b) = r := ⟨_, rfl⟩
    rw [hs, hr] at HCM HS2
    rw [hu, ht, hr] at HS
    rw [hs, ht, hu]
    clear hs ht hu hr hc ha hb hm ha8 hb8 hr8 h
    go_enter Tryz.func112, Tryz.ntmps112
    go_wp2_with fail
    refine (HS.out _).mono ?_
    rintro e w1 ⟨rfl, hb1⟩
    have HB1 := Lib.hid hb1
    clear hb1
    go_wp2_with fail
    refine (HCM.out _).mono ?_
    rintro e w2 ⟨rfl, rfl⟩
    go_wp2_with fail
    refine (HS2.out _).mono ?_
    rintro e w3 ⟨rfl, hb3⟩
    have HB3 := Lib.hid ((HB1.out).trans (hb3.mono (HB1.out.size)))
    clear hb3
    go_wp2
    go_ret
    exact ⟨rfl, HB3.out⟩
  · have hlt : ¬ (0 ≤ cmpI a (m - b)) := by unfold cmpI; rw [if_pos (by omega)]; decide
    have hf : a + b < 256 ^ 128 := by omega
    have HA := Lib.hid (nat_Add a b ha8 hb8)
    rw [show fitR (a + b) = .tuple #[.string (nS ((a + b) % m)), .int .i64 0] from by unfold fitR; rw [if_pos hf, ← plus_lt hb (by omega)]] at HA
    obtain ⟨c, hc⟩ : ∃ c, cmpI a (m - b) = c := ⟨_, rfl⟩
    rw [hc] at HCM hlt
    obtain ⟨s, hs⟩ : ∃ s, nS a = s := ⟨_, rfl⟩
    obtain ⟨t, ht⟩ : ∃ t, nS b = t := ⟨_, rfl⟩
    obtain ⟨u, hu⟩ : ∃ u, nS m = u := ⟨_, rfl⟩
    obtain ⟨r, hr⟩ : ∃ r, nS (m - b) = r := ⟨_, rfl⟩
    rw [hs, hr] at HCM
    rw [hs, ht] at HA
    rw [hu, ht, hr] at HS
    rw [hs, ht, hu]
    clear hs ht hu hr hc ha hb hm ha8 hb8 hr8 h hf
    go_enter Tryz.func112, Tryz.ntmps112
    go_wp2_with fail
    refine (HS.out _).mono ?_
    rintro e w1 ⟨rfl, hb1⟩
    have HB1 := Lib.hid hb1
    clear hb1
    go_wp2_with fail
    refine (HCM.out _).mono ?_
    rintro e w2 ⟨rfl, rfl⟩
    go_wp2_with fail
    refine (HA.out _).mono ?_
    rintro e w3 ⟨rfl, hb3⟩
    have HB3 := Lib.hid ((HB1.out).trans (hb3.mono (HB1.out.size)))
    clear hb3
    go_wp2
    go_ret
    exact ⟨rfl, HB3.out⟩
end Go.Proofs.YtndmjfkmnjejkaaGreatDoor
/- Walk: modular.Sub. -/
set_option linter.unusedVariables false
set_option linter.unusedSimpArgs false
namespace Go.Proofs.YtndmjfkmnjejkaaGreatDoor
open Go.RowKit
def sbM (x y m : Nat) : Nat := (x + (m - y % m)) % m
theorem sbM_zero {x y m : Nat} (h : y % m = 0) : sbM x y m = x % m := by unfold sbM; rw [h, Nat.sub_zero, Nat.add_mod_right]
theorem sbM_pos {x y m : Nat} (hm : 0 < m) (h : 0 < y % m) : (x % m + (m - y % m)) % m = sbM x y m := by unfold sbM; rw [Nat.add_mod, Nat.mod_mod, ← Nat.add_mod]
set_option maxRecDepth 100000 in
set_option maxHeartbeats 1000000 in
theorem mod_Sub (x y m : Nat) (hx8 : x < 256 ^ 128) (hy8 : y < 256 ^ 128) (hm8 : m < 256 ^ 128) (h0 : 0 < m) (w : World) : Calls Tryz.prog 67 #[.string (nS x), .string (nS y), .string (nS m)] w (Ret (.tuple #[.string (nS (sbM x y m)), .int .i64 0]) w) := by
  have HC := Lib.hid (fun w => check_two w (nS x) (nS y) (nS m) _ rfl (nvalid_nS.2 hx8) (nvalid_nS.2 hy8) (nvalid_nS.2 hm8) (empty_nS h0) _ rfl)
  have HR1 := Lib.hid (mod_reducedA x m hx8 hm8 h0)
  have HR2 := Lib.hid (mod_reducedA y m hy8 hm8 h0)
  have ly := Nat.mod_lt y h0
  have lx := Nat.mod_lt x h0
  by_cases hy : y % m = 0
  · have hs := sbM_zero (x := x) hy
    rw [hy, nS_zero] at HR2
    rw [← hs] at HR1
    obtain ⟨s, hs⟩ : ∃ s, nS x = s := ⟨_, rfl⟩
    obtain ⟨t, ht⟩ : ∃ t, nS y = t := ⟨_, rfl⟩
    obtain ⟨u, hu⟩ : ∃ u, nS m = u := ⟨_, rfl⟩
    obtain ⟨v, hv⟩ : ∃ u, nS (sbM x y m) = u := ⟨_, rfl⟩
    rw [hs, ht, hu] at HC
    rw [hs, hu, hv] at HR1
    rw [ht, hu] at HR2
    rw [hs, ht, hu, hv]
    clear hs ht hu hv hx8 hy8 hm8 ly lx hy
    go_enter Tryz.func67, Tryz.ntmps67
    go_wp2_with fail
    refine (HC.out w).mono ?_
    rintro e w1 ⟨rfl, hb1⟩
    have HB1 := Lib.hid ((((Below.refl w.heap.size w).alloc (Nat.le_refl _) _).alloc (by simp) _).trans hb1)
    clear hb1
    go_wp2_with fail
    refine (HR1.out _).mono ?_
    rintro e w2 ⟨rfl, hb2⟩
    have HB2 := Lib.hid (HB1.out.trans (hb2.mono HB1.out.size))
    clear hb2
    go_wp2_with fail
    refine (HR2.out _).mono ?_
    rintro e w3 ⟨rfl, hb3⟩
    have HB3 := Lib.hid (HB2.out.trans (hb3.mono HB2.out.size))
    clear hb3
    go_wp2
    go_ret2
    exact ⟨rfl, HB3.out⟩
  · have hs := sbM_pos (x := x) h0 (Nat.pos_of_ne_zero hy)
    have HS := Lib.hid (nat_Sub_ge m (y % m) hm8 (by omega) (by omega))
    have HP := Lib.hid (mod_plus (x % m) (m - y % m) m lx (by omega) hm8)
    rw [hs] at HP
    have hem := empty_nS (Nat.pos_of_ne_zero hy)
    obtain ⟨s, hs⟩ : ∃ s, nS x = s := ⟨_, rfl⟩
    obtain ⟨t, ht⟩ : ∃ t, nS y = t := ⟨_, rfl⟩
    obtain ⟨u, hu⟩ : ∃ u, nS m = u := ⟨_, rfl⟩
    obtain ⟨v, hv⟩ : ∃ u, nS (sbM x y m) = u := ⟨_, rfl⟩
    obtain ⟨r1, hr1⟩ : ∃ u, nS (x % m) = u := ⟨_, rfl⟩
    obtain ⟨r2, hr2⟩ : ∃ u, nS (y % m) = u := ⟨_, rfl⟩
    obtain ⟨r3, hr3⟩ : ∃ u, nS (m - y % m) = u := ⟨_, rfl⟩
    rw [hs, ht, hu] at HC
    rw [hs, hu, hr1] at HR1
    rw [ht, hu, hr2] at HR2
    rw [hu, hr2, hr3] at HS
    rw [hr1, hr3, hu, hv] at HP
    rw [hr2] at hem
    rw [hs, ht, hu, hv]
    clear hs ht hu hv hr1 hr2 hr3 hx8 hy8 hm8 ly lx hy
    go_enter Tryz.func67, Tryz.ntmps67
    go_wp2_with fail
    refine (HC.out w).mono ?_
    rintro e w1 ⟨rfl, hb1⟩
    have HB1 := Lib.hid ((((Below.refl w.heap.size w).alloc (Nat.le_refl _) _).alloc (by simp) _).trans hb1)
    clear hb1
    go_wp2_with fail
    refine (HR1.out _).mono ?_
    rintro e w2 ⟨rfl, hb2⟩
    have HB2 := Lib.hid (HB1.out.trans (hb2.mono HB1.out.size))
    clear hb2
    go_wp2_with fail
    refine (HR2.out _).mono ?_
    rintro e w3 ⟨rfl, hb3⟩
    have HB3 := Lib.hid (HB2.out.trans (hb3.mono HB2.out.size))
    clear hb3
    go_wp2_with fail
    refine (HS.out _).mono ?_
    rintro e w4 ⟨rfl, hb4⟩
    have HB4 := Lib.hid (HB3.out.trans (hb4.mono HB3.out.size))
    clear hb4
    go_wp2_with fail
    refine (HP.out _).mono ?_
    rintro e w5 ⟨rfl, hb5⟩
    have HB5 := Lib.hid (HB4.out.trans (hb5.mono HB4.out.size))
    clear hb5
    go_wp2
    go_ret2
    exact ⟨rfl, HB5.out⟩
end Go.Proofs.YtndmjfkmnjejkaaGreatDoor

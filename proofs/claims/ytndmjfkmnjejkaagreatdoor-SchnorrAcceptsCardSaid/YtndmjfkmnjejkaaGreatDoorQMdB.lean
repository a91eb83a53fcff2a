/- Walks: natural.Mul and natural.DivMod of any numbers. -/
import Derived.Test.YtndmjfkmnjejkaaGreatDoorQLdC
import Derived.Test.YtndmjfkmnjejkaaGreatDoorQPeB
import Derived.Test.YtndmjfkmnjejkaaGreatDoorQNum2
import Derived.Great.Walk
import Derived.Test.YtndmjfkmnjejkaaGreatDoorQRowN
import Derived.Lib.SliceRun
import Derived.Test.YtndmjfkmnjejkaaGreatDoorQExL
import Derived.Test.YtndmjfkmnjejkaaGreatDoorQPwI
set_option linter.unusedVariables false
set_option linter.unusedSimpArgs false
namespace Go.Proofs.YtndmjfkmnjejkaaGreatDoor
open Go.RowKit
theorem nat_DivModA (x y : Nat) (hx : x < 256 ^ 128) (hy : y < 256 ^ 128) (h0 : 0 < y) (w : World) : Calls Tryz.prog 108 #[.string (nS x), .string (nS y)] w (Ret (.tuple #[.string (nS (x / y)), .string (nS (x % y)), .int .i64 0]) w) := by
  have HD := Lib.hid (nat_dividedA x y hx hy h0)
  have hem := empty_nS h0
  have hs1 := nS_size_le.2 hx
  have hs2 := nS_size_le.2 hy
  have HV1 := Lib.hid (nvalid_nS.2 hx)
  have HV2 := Lib.hid (nvalid_nS.2 hy)
  obtain ⟨s, hs⟩ : ∃ s, nS x = s := ⟨_, rfl⟩
  obtain ⟨t, ht⟩ : ∃ t, nS y = t := ⟨_, rfl⟩
  rw [hs] at hs1 HV1 HD ⊢
  rw [ht] at hs2 HV2 hem HD ⊢
  clear hs ht hx hy
  go_enter Tryz.func108, Tryz.ntmps108
  go_wp2_with fail
  refine (nat_Valid s (by omega) _).mono ?_
  rintro e w1 ⟨rfl, rfl⟩
  rw [HV1.out]
  go_wp2_with fail
  refine (nat_Valid t (by omega) _).mono ?_
  rintro e w1 ⟨rfl, rfl⟩
  rw [HV2.out]
  go_wp2_with fail
  refine (HD.out _).mono ?_
  rintro e w1 ⟨rfl, hb⟩
  have HB := Lib.hid hb
  clear hb
  go_wp2
  go_ret3
  exact ⟨rfl, HB.out⟩
end Go.Proofs.YtndmjfkmnjejkaaGreatDoor
/- Walk: modular.reduced of any number. -/
set_option linter.unusedVariables false
set_option linter.unusedSimpArgs false
namespace Go.Proofs.YtndmjfkmnjejkaaGreatDoor
open Go.RowKit Go.Lib
set_option maxRecDepth 100000 in
theorem mod_reducedA (x m : Nat) (hx8 : x < 256 ^ 128) (hm : m < 256 ^ 128) (h0 : 0 < m) (w : World) : Calls Tryz.prog 111 #[.string (nS x), .string (nS m)] w (Ret (.string (nS (x % m))) w) := by
  have HD := Lib.hid (nat_DivModA x m hx8 hm h0)
  obtain ⟨s, hs⟩ : ∃ s, nS x = s := ⟨_, rfl⟩
  obtain ⟨t, ht⟩ : ∃ t, nS m = t := ⟨_, rfl⟩
  rw [hs, ht] at HD
  rw [hs, ht]
  clear hs ht hm hx8
  go_enter Tryz.func111, Tryz.ntmps111
  go_wp2_with fail
  refine (HD.out _).mono ?_
  rintro e w1 ⟨rfl, hb⟩
  have HB := Lib.hid hb
  clear hb
  go_wp2
  go_ret
  exact ⟨rfl, HB.out⟩
end Go.Proofs.YtndmjfkmnjejkaaGreatDoor
/- Walks: modular.plus, Add, Sub. -/
set_option linter.unusedVariables false
set_option linter.unusedSimpArgs false
namespace Go.Proofs.YtndmjfkmnjejkaaGreatDoor
open Go.RowKit
theorem plus_ge {a b m : Nat} (ha : a < m) (hb : b < m) (h : m - b ≤ a) : a - (m - b) = (a + b) % m := by
  have : a + b = (a - (m - b)) + m := by omega
  rw [this, Nat.add_mod_right, Nat.mod_eq_of_lt (by omega)]
theorem plus_lt {a b m : Nat} (hb : b < m) (h : a < m - b) : a + b = (a + b) % m := (Nat.mod_eq_of_lt (by omega)).symm
set_option maxRecDepth 100000 in
set_option maxHeartbeats 1000000 in
theorem mod_plus (a b m : Nat) (ha : a < m) (hb : b < m) (hm : m < 256 ^ 128) (w : World) : Calls Tryz.prog 112 #[.string (nS a), .string (nS b), .string (nS m)] w (Ret (.string (nS ((a + b) % m))) w) := by
  have ha8 := Nat.lt_trans ha hm
  have hb8 := Nat.lt_trans hb hm
  have hr8 : m - b < 256 ^ 128 := by omega
  have HS := Lib.hid (nat_Sub_ge m b hm hb8 (by omega))
  have HCM := Lib.hid (nat_Cmp (nS a) (nS (m - b)) (by have := nS_size_le.2 ha8; omega) (by have := nS_size_le.2 hr8; omega))
  rw [ncmp_n ha8 hr8] at HCM
  by_cases h : m - b ≤ a
  · have hge := cmpI_nonneg h
    have HS2 := Lib.hid (nat_Sub_ge a (m - b) ha8 hr8 h)
    rw [plus_ge ha hb h] at HS2
    obtain ⟨c, hc⟩ : ∃ c, cmpI a (m - b) = c := ⟨_, rfl⟩
    rw [hc] at HCM hge
    obtain ⟨s, hs⟩ : ∃ s, nS a = s := ⟨_, rfl⟩
    obtain ⟨t, ht⟩ : ∃ t, nS b = t := ⟨_, rfl⟩
    obtain ⟨u, hu⟩ : ∃ u, nS m = u := ⟨_, rfl⟩
    obtain ⟨r, hr⟩ : ∃ r, nS (m - b) = r := ⟨_, rfl⟩
    rw [hs, hr] at HCM HS2
    rw [hu, ht, hr] at HS
    rw [hs, ht, hu]
    clear hs ht hu hr hc ha hb hm ha8 hb8 hr8 h
    go_enter Tryz.func112, Tryz.ntmps112
    go_wp2_with fail
    refine (HS.out _).mono ?_
    rintro e w1 ⟨rfl, hb1⟩
    have HB1 := Lib.hid hb1
    clear hb1
    go_wp2_with fail
    refine (HCM.out _).mono ?_
    rintro e w2 ⟨rfl, rfl⟩
    go_wp2_with fail
    refine (HS2.out _).mono ?_
    rintro e w3 ⟨rfl, hb3⟩
    have HB3 := Lib.hid ((HB1.out).trans (hb3.mono (HB1.out.size)))
    clear hb3
    go_wp2
    go_ret
    exact ⟨rfl, HB3.out⟩
  · have hlt : ¬ (0 ≤ cmpI a (m - b)) := by unfold cmpI; rw [if_pos (by omega)]; decide
    have hf : a + b < 256 ^ 128 := by omega
    have HA := Lib.hid (nat_Add a b ha8 hb8)
    rw [show fitR (a + b) = .tuple #[.string (nS ((a + b) % m)), .int .i64 0] from by unfold fitR; rw [if_pos hf, ← plus_lt hb (by omega)]] at HA
    obtain ⟨c, hc⟩ : ∃ c, cmpI a (m - b) = c := ⟨_, rfl⟩
    rw [hc] at HCM hlt
    obtain ⟨s, hs⟩ : ∃ s, nS a = s := ⟨_, rfl⟩
    obtain ⟨t, ht⟩ : ∃ t, nS b = t := ⟨_, rfl⟩
    obtain ⟨u, hu⟩ : ∃ u, nS m = u := ⟨_, rfl⟩
    obtain ⟨r, hr⟩ : ∃ r, nS (m - b) = r := ⟨_, rfl⟩
    rw [hs, hr] at HCM
    rw [hs, ht] at HA
    rw [hu, ht, hr] at HS
    rw [hs, ht, hu]
    clear hs ht hu hr hc ha hb hm ha8 hb8 hr8 h hf
    go_enter Tryz.func112, Tryz.ntmps112
    go_wp2_with fail
    refine (HS.out _).mono ?_
    rintro e w1 ⟨rfl, hb1⟩
    have HB1 := Lib.hid hb1
    clear hb1
    go_wp2_with fail
    refine (HCM.out _).mono ?_
    rintro e w2 ⟨rfl, rfl⟩
    go_wp2_with fail
    refine (HA.out _).mono ?_
    rintro e w3 ⟨rfl, hb3⟩
    have HB3 := Lib.hid ((HB1.out).trans (hb3.mono (HB1.out.size)))
    clear hb3
    go_wp2
    go_ret
    exact ⟨rfl, HB3.out⟩
set_option maxRecDepth 100000 in
set_option maxHeartbeats 1000000 in
theorem mod_Add (x y m : Nat) (hx8 : x < 256 ^ 128) (hy8 : y < 256 ^ 128) (hm8 : m < 256 ^ 128) (h0 : 0 < m) (w : World) : Calls Tryz.prog 90 #[.string (nS x), .string (nS y), .string (nS m)] w (Ret (.tuple #[.string (nS ((x + y) % m)), .int .i64 0]) w) := by
  have HC := Lib.hid (fun w => check_two w (nS x) (nS y) (nS m) _ rfl (nvalid_nS.2 hx8) (nvalid_nS.2 hy8) (nvalid_nS.2 hm8) (empty_nS h0) _ rfl)
  have HR1 := Lib.hid (mod_reducedA x m hx8 hm8 h0)
  have HR2 := Lib.hid (mod_reducedA y m hy8 hm8 h0)
  have HP := Lib.hid (mod_plus (x % m) (y % m) m (Nat.mod_lt _ h0) (Nat.mod_lt _ h0) hm8)
  rw [← Nat.add_mod] at HP
  obtain ⟨s, hs⟩ : ∃ s, nS x = s := ⟨_, rfl⟩
  obtain ⟨t, ht⟩ : ∃ t, nS y = t := ⟨_, rfl⟩
  obtain ⟨u, hu⟩ : ∃ u, nS m = u := ⟨_, rfl⟩
  rw [hs, ht, hu] at HC
  rw [hs, hu] at HR1
  rw [ht, hu] at HR2
  rw [hu] at HP
  rw [hs, ht, hu]
  clear hs ht hu hx8 hy8 hm8
  go_enter Tryz.func90, Tryz.ntmps90
  go_wp2_with fail
  refine (HC.out w).mono ?_
  rintro e w1 ⟨rfl, hb1⟩
  have HB1 := Lib.hid ((((Below.refl w.heap.size w).alloc (Nat.le_refl _) _).alloc (by simp) _).trans hb1)
  clear hb1
  go_wp2_with fail
  refine (HR1.out _).mono ?_
  rintro e w2 ⟨rfl, hb2⟩
  have HB2 := Lib.hid (HB1.out.trans (hb2.mono HB1.out.size))
  clear hb2
  go_wp2_with fail
  refine (HR2.out _).mono ?_
  rintro e w3 ⟨rfl, hb3⟩
  have HB3 := Lib.hid (HB2.out.trans (hb3.mono HB2.out.size))
  clear hb3
  go_wp2_with fail
  refine (HP.out _).mono ?_
  rintro e w4 ⟨rfl, hb4⟩
  have HB4 := Lib.hid (HB3.out.trans (hb4.mono HB3.out.size))
  clear hb4
  go_wp2
  go_ret2
  exact ⟨rfl, HB4.out⟩
end Go.Proofs.YtndmjfkmnjejkaaGreatDoor

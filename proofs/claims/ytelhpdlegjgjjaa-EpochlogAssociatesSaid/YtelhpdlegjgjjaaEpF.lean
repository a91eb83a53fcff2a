/- Walk: epochlog.form. -/
import Derived.Test.YtelhpdlegjgjjaaEpE
set_option linter.unusedVariables false
set_option linter.unusedSimpArgs false
namespace Go.Proofs.Ytelhpdlegjgjjaa
open Go.RowKit

set_option maxRecDepth 100000 in
set_option maxHeartbeats 4000000 in
theorem ep_form (d : Dl) (A A' : Option Addr) (n c n' c' : Nat) (w : World) (hs : SlN w A n c d.ad) (hs' : SlN w A' n' c' d.rm) (hn : n ≤ 400000) (hn' : n' ≤ 400000) (hz : SzL d.str) : Calls Try.prog 19 #[.agg (d.arr (.slice A n c) (.slice A' n' c'))] w (Ret (.int .i64 d.form) w) := by
  obtain ⟨W0, hW0⟩ : ∃ W0, w.alloc (.cells (d.arr (.slice A n c) (.slice A' n' c')) 27) = W0 := ⟨_, rfl⟩
  have HX0 := Lib.hid (show BxC W0 w.heap.size (d.arr (.slice A n c) (.slice A' n' c')) 27 from by rw [← hW0]; exact BxC.new w _ _)
  have HB0 := Lib.hid (show Below w.heap.size w W0 from by rw [← hW0]; exact (Below.refl _ _).alloc (Nat.le_refl _) _)
  have HW0 := Lib.hid (show w.heap.size + 1 = W0.heap.size from by rw [← hW0]; simp)
  have HS := Lib.hid (hs.kept HB0.out (Nat.le_refl _))
  have HS' := Lib.hid (hs'.kept HB0.out (Nat.le_refl _))
  have HZ := Lib.hid hz
  have hc := hs.2.1
  have hc2 := hs.2.2.1
  have hc' := hs'.2.1
  have hc2' := hs'.2.2.1
  have HN := Lib.hid hs.1
  have HN' := Lib.hid hs'.1
  have x2 : W0.cell? ⟨w.heap.size, 2, none⟩ = some (.slice A n c) := HX0.out.cell 2
  have x3 : W0.cell? ⟨w.heap.size, 3, none⟩ = some (.slice A' n' c') := HX0.out.cell 3
  clear hs hs' hz
  unfold Dl.arr at hW0 ⊢
  go_enter Try.func19, Try.ntmps19
  go_wp2_with fail
  have HCC := Lib.hid (sl_Concat d.ad d.rm A A' n c n' c' W0.heap.size (W0.alloc (.cells #[.slice A n c, .slice A' n' c'] 22)) (HS.out.kept ((Below.refl _ _).alloc (Nat.le_refl _) _) (Nat.le_refl _)) (HS'.out.kept ((Below.refl _ _).alloc (Nat.le_refl _) _) (Nat.le_refl _)) (by omega) (by omega) ((BxC.new W0 _ _).cell 0) ((BxC.new W0 _ _).cell 1))
  refine HCC.out.mono ?_
  rintro e w1 ⟨v1, rfl, hown, hb⟩
  obtain ⟨hl1, A1, c1, rfl, hs1⟩ := SlN.of_owns hown
  have HB1 := Lib.hid (((Below.refl W0.heap.size W0).alloc (Nat.le_refl _) _).trans (hb.mono (by simp)))
  have HS1 := Lib.hid hs1
  have HX1 := Lib.hid (HX0.out.kept HB1.out HX0.out.lt)
  have x4 : w1.cell? ⟨w.heap.size, 4, none⟩ = some (.string d.be) := HX1.out.cell 4
  have x5 : w1.cell? ⟨w.heap.size, 5, none⟩ = some (.string d.af) := HX1.out.cell 5
  have hc1 := hs1.2.1
  have hc12 := hs1.2.2.1
  clear hown hb hs1 hl1 HCC x2 x3
  go_wp2_with fail
  have HCC := Lib.hid (sl_Concat (d.ad ++ d.rm) [d.be, d.af] A1 (some ⟨w1.heap.size, 0, none⟩) (n + n') c1 2 2 (w1.heap.size + 1) ((w1.alloc (.cells #[.string d.be, .string d.af] 23)).alloc (.cells #[.slice A1 (n + n') c1, .slice (some ⟨w1.heap.size, 0, none⟩) 2 2] 22))
    (HS1.out.kept (((Below.refl _ _).alloc (Nat.le_refl _) _).alloc (by simp) _) (Nat.le_refl _)) ((SlN.new w1 [d.be, d.af] 23 (by simp)).kept ((Below.refl _ _).alloc (Nat.le_refl _) _) (Nat.le_refl _)) (by omega) (by omega) ((BxC.new1 w1 _ _ _).cell 0) ((BxC.new1 w1 _ _ _).cell 1))
  refine HCC.out.mono ?_
  rintro e w3 ⟨v3, rfl, hown, hb⟩
  obtain ⟨hl3, A3, c3, rfl, hs3⟩ := SlN.of_owns hown
  have HL3 := Lib.hid hl3
  have HS3 := Lib.hid hs3
  have HB13 := Lib.hid (show Below w1.heap.size w1 w3 from (((Below.refl w1.heap.size w1).alloc (Nat.le_refl _) _).alloc (by simp) _).trans (hb.mono (by simp; omega)))
  have HB3 := Lib.hid (HB1.out.trans (HB13.out.mono HB1.out.size))
  have HX3 := Lib.hid (HX0.out.kept HB3.out HX0.out.lt)
  have HS13 := Lib.hid (HS1.out.kept HB13.out (Nat.le_refl _))
  have HBT := Lib.hid (HB0.out.trans (HB3.out.mono HB0.out.size))
  have HSA := Lib.hid (HS.out.kept HB3.out (Nat.le_refl _))
  have HSR := Lib.hid (HS'.out.kept HB3.out (Nat.le_refl _))
  have hc3 := hs3.2.1
  have hc32 := hs3.2.2.1
  have q0 : w3.cell? ⟨w.heap.size, 0, none⟩ = some (.int .i64 d.fr) := HX3.out.cell 0
  have q1 : w3.cell? ⟨w.heap.size, 1, none⟩ = some (.int .i64 d.to) := HX3.out.cell 1
  have q2 : w3.cell? ⟨w.heap.size, 2, none⟩ = some (.slice A n c) := HX3.out.cell 2
  have q3 : w3.cell? ⟨w.heap.size, 3, none⟩ = some (.slice A' n' c') := HX3.out.cell 3
  clear hown hb hs3 hl3 x4 x5 hW0 HCC
  obtain ⟨L, hL⟩ : ∃ L, d.ad ++ d.rm ++ [d.be, d.af] = L := ⟨_, rfl⟩
  rw [hL] at HL3 HS3
  have HLE := Lib.hid hL
  have HZL := Lib.hid (show SzL L from fun s hs => HZ.out s (by rw [← hL] at hs; unfold Dl.str; simp only [List.mem_append, List.mem_cons, List.mem_nil_iff, or_false] at hs ⊢; rcases hs with (h | h) | h | h <;> simp [h]))
  clear hL
  go_wp2
  go_loop [22] (fun k => ∃ j : Nat, j ≤ n + n' + 2 ∧ k = .int .i64 j ∧ (∀ (i : Nat) y, i < j → L[i]? = some y → nvalid y = true)) (fun k => n + n' + 2 - (intOf k).toNat)
  case atStart => exact ⟨0, Nat.zero_le _, rfl, fun i u h => absurd h (Nat.not_lt_zero _)⟩
  case round =>
    obtain ⟨j, hj, rfl, hall⟩ := hrel
    have HALL := Lib.hid hall
    clear hall
    by_cases hlt : j < n + n' + 2
    · obtain ⟨y, he⟩ : ∃ y, L[j]? = some y := ⟨_, List.getElem?_eq_getElem (by rw [HL3.out]; exact hlt)⟩
      obtain ⟨b, o, rfl, e1⟩ := HS3.out.cell he
      have hy := HZL.out y (List.mem_of_getElem? he)
      have HC := Lib.hid (nat_Valid y hy w3)
      have HE := Lib.hid he
      clear he hy
      go_wp2_with fail
      refine HC.out.mono ?_
      rintro e w4 ⟨rfl, rfl⟩
      cases hh : nvalid y with
      | false =>
        have HF := Lib.hid (Dl.form_N (Dl.okN_no (by rw [HLE.out]; exact HE.out) hh))
        clear hh
        go_wp2
        go_ret
        exact ⟨by rw [HF.out]; rfl, HBT.out⟩
      | true =>
        have HA2 := Lib.hid (show ∀ (i : Nat) u, i < j + 1 → L[i]? = some u → nvalid u = true from fun i u hi hu => by
          rcases Nat.lt_or_ge i j with h | h
          · exact HALL.out i u h hu
          · obtain rfl : i = j := by omega
            rw [HE.out] at hu; cases hu; exact hh)
        clear hh
        go_wp2
        go_round
        case rel => exact ⟨j + 1, by omega, by go_num, HA2.out⟩
        case measure => simp [intOf]; omega
    · obtain rfl : j = n + n' + 2 := by omega
      have HOK := Lib.hid (show d.okN = true from Dl.okN_all (fun i y h => HALL.out i y (by rw [HLE.out] at h; have := (List.getElem?_eq_some_iff.1 h).1; have := HL3.out; omega) (by rw [← HLE.out]; exact h)))
      clear hlt hj
      by_cases h1 : d.fr < 0
      · have HF := Lib.hid (Dl.form_R HOK.out (.inl h1))
        have g1 : decide (d.fr < 0) = true := decide_eq_true h1
        go_wp2
        go_ret
        exact ⟨by rw [HF.out]; rfl, HBT.out⟩
      · have g1 : decide (d.fr < 0) = false := decide_eq_false h1
        by_cases h2 : d.to ≤ d.fr
        · have HF := Lib.hid (Dl.form_R HOK.out (.inr (.inl h2)))
          have g2 : decide (d.to ≤ d.fr) = true := decide_eq_true h2
          go_wp2
          go_ret
          exact ⟨by rw [HF.out]; rfl, HBT.out⟩
        · have g2 : decide (d.to ≤ d.fr) = false := decide_eq_false h2
          by_cases h3 : 4096 < d.to
          · have HF := Lib.hid (Dl.form_R HOK.out (.inr (.inr h3)))
            have g3 : decide (4096 < d.to) = true := decide_eq_true h3
            go_wp2
            go_ret
            exact ⟨by rw [HF.out]; rfl, HBT.out⟩
          · have g3 : decide (4096 < d.to) = false := decide_eq_false h3
            have HNR := Lib.hid (show ¬ d.rng from fun h => by rcases h with h | h | h <;> contradiction)
            go_wp2_with fail
            refine (ep_ascends d.ad A n c w3 HSA.out (Dl.okN_ad HOK.out)).mono ?_
            rintro e w4 ⟨rfl, hb⟩
            have HB4 := Lib.hid hb
            have HBU := Lib.hid (HBT.out.trans (hb.mono HBT.out.size))
            have r3 : w4.cell? ⟨w.heap.size, 3, none⟩ = some (.slice A' n' c') := cell_kept hb (Nat.le_refl _) q3
            have r2 : w4.cell? ⟨w.heap.size, 2, none⟩ = some (.slice A n c) := cell_kept hb (Nat.le_refl _) q2
            clear hb
            cases ha : ascB d.ad with
            | false =>
              have HF := Lib.hid (Dl.form_T HOK.out HNR.out (Dl.twice_ad ha))
              clear ha
              go_wp2
              go_ret
              exact ⟨by rw [HF.out]; rfl, HBU.out⟩
            | true =>
              have HA := Lib.hid ha
              clear ha
              go_wp2_with fail
              refine (ep_ascends d.rm A' n' c' w4 (HSR.out.kept HB4.out (Nat.le_refl _)) (Dl.okN_rm HOK.out)).mono ?_
              rintro e w5 ⟨rfl, hb⟩
              have HB5 := Lib.hid (HB4.out.trans (hb.mono HB4.out.size))
              have HBV := Lib.hid (HBT.out.trans (HB5.out.mono HBT.out.size))
              clear hb r3 r2
              cases ha : ascB d.rm with
              | false =>
                have HF := Lib.hid (Dl.form_T HOK.out HNR.out (Dl.twice_rm ha))
                clear ha
                go_wp2
                go_ret
                exact ⟨by rw [HF.out]; rfl, HBV.out⟩
              | true =>
                have HR := Lib.hid ha
                have r2 : w5.cell? ⟨w.heap.size, 2, none⟩ = some (.slice A n c) := cell_kept HB5.out (Nat.le_refl _) q2
                clear ha h1 h2 h3 g1 g2 g3
                go_wp2_with fail
                refine (sl_ContainsFunc1 d.ad A n c w.heap.size (memB d.rm) w5 (HSA.out.kept HB5.out (Nat.le_refl _)) (fun x hx W hW => ep_form1 x w.heap.size d.rm A' n' c' W (cell_kept (HB5.out.trans (hW.mono HB5.out.size)) (Nat.le_refl _) q3) (HSR.out.kept (HB5.out.trans (hW.mono HB5.out.size)) (Nat.le_refl _)))).mono ?_
                rintro e w6 ⟨rfl, hb⟩
                have HB6 := Lib.hid (HB5.out.trans (hb.mono HB5.out.size))
                have HBX := Lib.hid (HBT.out.trans (HB6.out.mono HBT.out.size))
                clear hb r2
                cases ha : d.ad.any (memB d.rm) with
                | true =>
                  have HF := Lib.hid (Dl.form_T HOK.out HNR.out (Dl.twice_any ha))
                  clear ha
                  go_wp2
                  go_ret
                  exact ⟨by rw [HF.out]; rfl, HBX.out⟩
                | false =>
                  have HT := Lib.hid (show d.twice = false from Dl.twice_no HA.out HR.out ha)
                  clear ha
                  go_wp2_with fail
                  refine (nat_Of 3 (by decide) w6).mono ?_
                  rintro e w7 ⟨rfl, hb⟩
                  rw [show bstr (encN 3) = ⟨#[3]⟩ from by decide]
                  have HB7 := Lib.hid (HB6.out.trans (hb.mono HB6.out.size))
                  clear hb
                  go_wp2_with fail
                  have HP := Lib.hid (sl_ContainsFunc2 (d.ad ++ d.rm) A1 (n + n') c1 w7.heap.size (fun x => decide (num x < 3)) (w7.alloc (.cells #[.string ⟨#[3]⟩] 23)) (HS13.out.kept (HB7.out.alloc HB7.out.size _) (Nat.le_refl _)) (fun x hx W hW => by
                    have h := ep_form2 x w7.heap.size ⟨#[3]⟩ W (((BxC.new w7 #[.string ⟨#[3]⟩] 23).kept hW (by simp)).cell 0) (Dl.okN_mem HOK.out (by simp only [List.mem_append] at hx ⊢; exact .inl hx)) three_ok
                    rwa [three_num] at h))
                  refine HP.out.mono ?_
                  rintro e w8 ⟨rfl, hb⟩
                  have HBY := Lib.hid (HBT.out.trans (((HB7.out.alloc HB7.out.size _).trans (hb.mono (by have := HB7.out.size; simp; omega))).mono HBT.out.size))
                  clear hb
                  have HLO := Lib.hid (show (d.ad ++ d.rm).any (fun x => decide (num x < 3)) = d.low from rfl)
                  rw [HLO.out]
                  cases ha : d.low with
                  | true =>
                    have HF := Lib.hid (Dl.form_L HOK.out HNR.out HT.out ha)
                    clear ha
                    go_wp2
                    go_ret
                    exact ⟨by rw [HF.out]; rfl, HBY.out⟩
                  | false =>
                    have HF := Lib.hid (Dl.form_0 HOK.out HNR.out HT.out ha)
                    clear ha
                    go_wp2
                    go_ret
                    exact ⟨by rw [HF.out]; rfl, HBY.out⟩
end Go.Proofs.Ytelhpdlegjgjjaa

import Derived.Test.YtehflcnjnnhojaaGreatQPeB
import Derived.Test.YtehflcnjnnhojaaGreatQExp
set_option linter.unusedVariables false
set_option linter.unusedSimpArgs false
namespace Go.Proofs.YtehflcnjnnhojaaGreat
set_option maxRecDepth 100000
set_option maxHeartbeats 4000000
open Go.RowKit
theorem chkN_some {m o : Nat} (ho : 0 < o) : chkN m o = if m ≤ 1 ∨ o = 1 ∨ ¬ (m - 1) % o = 0 then 13 else 0 := by unfold chkN; rw [if_neg (by omega)]
theorem pw_Check_some (m o : Nat) (hm : m < 18446744073709551616) (ho8 : o < 256 ^ 128) (ho : 0 < o) (w : World) : Calls Tryz.prog 62 #[gV (nS m) (nS o)] w (Ret (.int .i64 (chkN m o)) w) := by
 rw [chkN_some ho]
 have HV1 := Hq (nat_Valid (nS m) (by have := nS_small_size hm; omega))
 have HV2 := Hq (nat_Valid (nS o) (by have := nS_size_le.2 ho8; omega))
 rw [nvalid_nS.2 (lt128_of_lt8 hm)] at HV1
 rw [nvalid_nS.2 ho8] at HV2
 have HO1 := Hq (nat_Of 1 (by decide))
 have HO2 := Hq (nat_Of 2 (by decide))
 have HCM := Hq (nat_Cmp (nS o) (nS 2) (by have := nS_size_le.2 ho8; omega) (by decide))
 rw [ncmp_n (ho8) (by decide)] at HCM
 have HDM := Hq (nat_DivMod (m - 1) o (by omega) (ho8) ho)
 have het := empty_nS ho
 have HSL := Hq (fun (h : m < 1) w => rq_quiet (nat_Sub_less m 1 (lt128_of_lt8 hm) (by decide) h w))
 have HSG := Hq (fun (h : 1 ≤ m) => nat_Sub_ge m 1 (lt128_of_lt8 hm) (by decide) h)
 obtain ⟨s, hs⟩ : ∃ s, nS m = s := ⟨_, rfl⟩
 obtain ⟨t, ht⟩ : ∃ t, nS o = t := ⟨_, rfl⟩
 obtain ⟨u1, hu1⟩ : ∃ u, nS 1 = u := ⟨_, rfl⟩
 obtain ⟨u2, hu2⟩ : ∃ u, nS 2 = u := ⟨_, rfl⟩
 rw [hs] at HV1 HSL HSG ⊢
 rw [ht] at HV2 HCM HDM het ⊢
 rw [hu2] at HCM
 rw [hu1] at HSL HSG
 have HO1 := Hq (fun w => show Calls Tryz.prog 24 #[.int .u64 (1 : Nat)] w (Ret (.string u1) w) from by have := HO1.out w; rw [show bstr (encN 1) = u1 from hu1] at this; exact this)
 have HO2 := Hq (fun w => show Calls Tryz.prog 24 #[.int .u64 (2 : Nat)] w (Ret (.string u2) w) from by have := HO2.out w; rw [show bstr (encN 2) = u2 from hu2] at this; exact this)
 clear hs ht hu1 hu2
 unfold gV
 rcases Nat.lt_or_ge m 1 with h1 | h1
 · have HSB := Hq (HSL.out h1)
   rw [if_pos (.inl (by omega))]
   clear HSL HSG HDM h1 hm ho8 ho
   go_enter Tryz.func62, Tryz.ntmps62
   have HX0 := Hq (Bx2.new w (.string s) (.string t) 24)
   have HB0 := Hq ((Below.refl w.heap.size w).alloc (Nat.le_refl _) (.cells #[.string s, .string t] 24))
   obtain ⟨W0, hW0⟩ : ∃ W0, w.alloc (.cells #[.string s, .string t] 24) = W0 := ⟨_, rfl⟩
   rw [hW0] at HX0 HB0
   have HW0 := Hq hW0
   clear hW0
   go_wp2_with fail
   rw [HW0.out]
   refine (HV1.out _).mono ?_
   rintro e w1 ⟨rfl, rfl⟩
   have c0 := HX0.out.c0
   have c1 := HX0.out.c1
   go_wp2_with fail
   refine (HV2.out _).mono ?_
   rintro e w1 ⟨rfl, rfl⟩
   go_wp2
   have d0 : W0.drew.cell? ⟨w.heap.size, 0, none⟩ = some (.string s) := c0
   have d1 : W0.drew.cell? ⟨w.heap.size, 1, none⟩ = some (.string t) := c1
   rename_i K7 hK7
   refine wp_onlyN ?_
   refine wp_region_K 9 (Below (W0.drew).heap.size (W0.drew)) (by kernel_rfl) ?_
   intro hD
   refine rP 0 33 8 rfl hD (Below.refl _ _) ?_; clear hD; intro hD; simp only [Act.put, sqA, sqB, sqC]
   refine rT 1 34 7 rfl hD (Below.refl _ _) (by intro w' hS'; have e0 := kC hS' d0; have e1 := kC hS' d1; go_simp; with_reducible rfl) ?_; clear hD; intro hD; simp only [Act.put, sqA, sqB, sqC]
   refine rO 2 6 rfl hD ?_; clear hD; intro K2 hK2
   go_wp2_with fail
   refine (HO1.out _).mono ?_
   rintro e w2 ⟨rfl, hb⟩
   have HB2 := Hq hb
   clear hb
   go_wp2
   refine hK2 _ _ (by exact HB2.out) ?_; clear hK2; intro hS_7_2 hD
   refine rO 3 5 rfl hD ?_; clear hD; intro K3 hK3
   go_wp2_with fail
   refine (HSB.out _).mono ?_
   rintro e w3 ⟨rfl, hb⟩
   have HB3 := Hq hb
   clear hb
   go_wp2
   refine hK3 _ _ (by exact Below.trans hS_7_2 (Below.mono HB3.out (Below.size hS_7_2))) ?_; clear hK3; intro hS_7_3 hD
   refine rP 4 32 4 rfl hD hS_7_3 ?_; clear hD; intro hD; simp only [Act.put, sqA, sqB, sqC]
   refine rP 5 37 3 rfl hD hS_7_3 ?_; clear hD; intro hD; simp only [Act.put, sqA, sqB, sqC]
   refine rP 6 38 2 rfl hD hS_7_3 ?_; clear hD; intro hD; simp only [Act.put, sqA, sqB, sqC]
   refine rO 7 1 rfl hD ?_; clear hD; intro K7 hK7
   go_wp2
   refine hK7 _ _ (by exact hS_7_3) ?_; clear hK7; intro hS_7_7 hD
   refine rO 8 0 rfl hD ?_; clear hD; intro K8 hK8
   go_wp2
   refine hK8 _ _ (by exact hS_7_7) ?_; clear hK8; intro hS_7_8 hD
   refine wpAnyK_done (by kernel_rfl) ?_ 0
   clear hD d0 d1
   have hS7 := (Below.refl W0.heap.size W0).drew.trans hS_7_8
   have HX7 := Hq (HX0.out.next hS7)
   have HB7 := Hq (HB0.out.trans (hS7.mono HB0.out.size))
   clear hS7
   refine hK7 _ _ ?_
   have e0 : w3.drew.cell? ⟨w.heap.size, 0, none⟩ = some (.string s) := HX7.out.c0
   have e1 : w3.drew.cell? ⟨w.heap.size, 1, none⟩ = some (.string t) := HX7.out.c1
   clear c0 c1
   go_wp2
   rename_i K8 hK8
   refine wp_onlyN ?_
   refine wp_region_K 13 (Below (w3.drew).heap.size (w3.drew)) (by kernel_rfl) ?_
   intro hD
   refine rP 0 39 12 rfl hD (Below.refl _ _) ?_; clear hD; intro hD; simp only [Act.put, sqA, sqB, sqC]
   refine rP 1 40 11 rfl hD (Below.refl _ _) ?_; clear hD; intro hD; simp only [Act.put, sqA, sqB, sqC]
   refine rP 2 41 10 rfl hD (Below.refl _ _) ?_; clear hD; intro hD; simp only [Act.put, sqA, sqB, sqC]
   refine rU 3 42 9 rfl hD (Below.refl _ _) ?_; clear hD; intro hD; simp only [Act.put, sqA, sqB, sqC]
   refine rU 4 43 8 rfl hD (Below.refl _ _) ?_; clear hD; intro hD; simp only [Act.put, sqA, sqB, sqC]
   refine rP 5 44 7 rfl hD (Below.refl _ _) ?_; clear hD; intro hD; simp only [Act.put, sqA, sqB, sqC]
   refine rP 6 45 6 rfl hD (Below.refl _ _) ?_; clear hD; intro hD; simp only [Act.put, sqA, sqB, sqC]
   refine rU 7 46 5 rfl hD (Below.refl _ _) ?_; clear hD; intro hD; simp only [Act.put, sqA, sqB, sqC]
   refine rU 8 47 4 rfl hD (Below.refl _ _) ?_; clear hD; intro hD; simp only [Act.put, sqA, sqB, sqC]
   refine rU 9 48 3 rfl hD (Below.refl _ _) ?_; clear hD; intro hD; simp only [Act.put, sqA, sqB, sqC]
   refine rU 10 49 2 rfl hD (Below.refl _ _) ?_; clear hD; intro hD; simp only [Act.put, sqA, sqB, sqC]
   refine rU 11 50 1 rfl hD (Below.refl _ _) ?_; clear hD; intro hD; simp only [Act.put, sqA, sqB, sqC]
   refine rP 12 51 0 rfl hD (Below.refl _ _) ?_; clear hD; intro hD; simp only [Act.put, sqA, sqB, sqC]
   refine wpAnyK_done (by kernel_rfl) ?_ 0
   clear hD
   have HSX := Hq (HB7.out.trans (((Below.refl w3.heap.size w3).drew.trans (Below.refl _ _)).mono HB7.out.size))
   refine hK8 _ _ ?_
   go_wp2
   go_ret
   exact ⟨rfl, HSX.out⟩
 · have HSB := Hq (HSG.out h1)
   by_cases hm1 : m = 1
   · rw [if_pos (.inl (by omega))]
     rw [hm1, Nat.sub_self, nS_zero] at HSB
     clear HSL HSG HDM h1 hm ho8 ho hm1
     go_enter Tryz.func62, Tryz.ntmps62
     have HX0 := Hq (Bx2.new w (.string s) (.string t) 24)
     have HB0 := Hq ((Below.refl w.heap.size w).alloc (Nat.le_refl _) (.cells #[.string s, .string t] 24))
     obtain ⟨W0, hW0⟩ : ∃ W0, w.alloc (.cells #[.string s, .string t] 24) = W0 := ⟨_, rfl⟩
     rw [hW0] at HX0 HB0
     have HW0 := Hq hW0
     clear hW0
     go_wp2_with fail
     rw [HW0.out]
     refine (HV1.out _).mono ?_
     rintro e w1 ⟨rfl, rfl⟩
     have c0 := HX0.out.c0
     have c1 := HX0.out.c1
     go_wp2_with fail
     refine (HV2.out _).mono ?_
     rintro e w1 ⟨rfl, rfl⟩
     go_wp2
     have d0 : W0.drew.cell? ⟨w.heap.size, 0, none⟩ = some (.string s) := c0
     have d1 : W0.drew.cell? ⟨w.heap.size, 1, none⟩ = some (.string t) := c1
     rename_i K7 hK7
     refine wp_onlyN ?_
     refine wp_region_K 9 (Below (W0.drew).heap.size (W0.drew)) (by kernel_rfl) ?_
     intro hD
     refine rP 0 33 8 rfl hD (Below.refl _ _) ?_; clear hD; intro hD; simp only [Act.put, sqA, sqB, sqC]
     refine rT 1 34 7 rfl hD (Below.refl _ _) (by intro w' hS'; have e0 := kC hS' d0; have e1 := kC hS' d1; go_simp; with_reducible rfl) ?_; clear hD; intro hD; simp only [Act.put, sqA, sqB, sqC]
     refine rO 2 6 rfl hD ?_; clear hD; intro K2 hK2
     go_wp2_with fail
     refine (HO1.out _).mono ?_
     rintro e w2 ⟨rfl, hb⟩
     have HB2 := Hq hb
     clear hb
     go_wp2
     refine hK2 _ _ (by exact HB2.out) ?_; clear hK2; intro hS_7_2 hD
     refine rO 3 5 rfl hD ?_; clear hD; intro K3 hK3
     go_wp2_with fail
     refine (HSB.out _).mono ?_
     rintro e w3 ⟨rfl, hb⟩
     have HB3 := Hq hb
     clear hb
     go_wp2
     refine hK3 _ _ (by exact Below.trans hS_7_2 (Below.mono HB3.out (Below.size hS_7_2))) ?_; clear hK3; intro hS_7_3 hD
     refine rP 4 32 4 rfl hD hS_7_3 ?_; clear hD; intro hD; simp only [Act.put, sqA, sqB, sqC]
     refine rP 5 37 3 rfl hD hS_7_3 ?_; clear hD; intro hD; simp only [Act.put, sqA, sqB, sqC]
     refine rP 6 38 2 rfl hD hS_7_3 ?_; clear hD; intro hD; simp only [Act.put, sqA, sqB, sqC]
     refine rO 7 1 rfl hD ?_; clear hD; intro K7 hK7
     go_wp2
     refine hK7 _ _ (by exact hS_7_3) ?_; clear hK7; intro hS_7_7 hD
     refine rO 8 0 rfl hD ?_; clear hD; intro K8 hK8
     go_wp2
     refine hK8 _ _ (by exact hS_7_7) ?_; clear hK8; intro hS_7_8 hD
     refine wpAnyK_done (by kernel_rfl) ?_ 0
     clear hD d0 d1
     have hS7 := (Below.refl W0.heap.size W0).drew.trans hS_7_8
     have HX7 := Hq (HX0.out.next hS7)
     have HB7 := Hq (HB0.out.trans (hS7.mono HB0.out.size))
     clear hS7
     refine hK7 _ _ ?_
     have e0 : w3.drew.cell? ⟨w.heap.size, 0, none⟩ = some (.string s) := HX7.out.c0
     have e1 : w3.drew.cell? ⟨w.heap.size, 1, none⟩ = some (.string t) := HX7.out.c1
     clear c0 c1
     go_wp2
     rename_i K8 hK8
     refine wp_onlyN ?_
     refine wp_region_K 13 (Below (w3.drew).heap.size (w3.drew)) (by kernel_rfl) ?_
     intro hD
     refine rP 0 39 12 rfl hD (Below.refl _ _) ?_; clear hD; intro hD; simp only [Act.put, sqA, sqB, sqC]
     refine rP 1 40 11 rfl hD (Below.refl _ _) ?_; clear hD; intro hD; simp only [Act.put, sqA, sqB, sqC]
     refine rP 2 41 10 rfl hD (Below.refl _ _) ?_; clear hD; intro hD; simp only [Act.put, sqA, sqB, sqC]
     refine rP 3 42 9 rfl hD (Below.refl _ _) ?_; clear hD; intro hD; simp only [Act.put, sqA, sqB, sqC]
     refine rP 4 43 8 rfl hD (Below.refl _ _) ?_; clear hD; intro hD; simp only [Act.put, sqA, sqB, sqC]
     refine rP 5 44 7 rfl hD (Below.refl _ _) ?_; clear hD; intro hD; simp only [Act.put, sqA, sqB, sqC]
     refine rP 6 45 6 rfl hD (Below.refl _ _) ?_; clear hD; intro hD; simp only [Act.put, sqA, sqB, sqC]
     refine rU 7 46 5 rfl hD (Below.refl _ _) ?_; clear hD; intro hD; simp only [Act.put, sqA, sqB, sqC]
     refine rU 8 47 4 rfl hD (Below.refl _ _) ?_; clear hD; intro hD; simp only [Act.put, sqA, sqB, sqC]
     refine rU 9 48 3 rfl hD (Below.refl _ _) ?_; clear hD; intro hD; simp only [Act.put, sqA, sqB, sqC]
     refine rU 10 49 2 rfl hD (Below.refl _ _) ?_; clear hD; intro hD; simp only [Act.put, sqA, sqB, sqC]
     refine rU 11 50 1 rfl hD (Below.refl _ _) ?_; clear hD; intro hD; simp only [Act.put, sqA, sqB, sqC]
     refine rP 12 51 0 rfl hD (Below.refl _ _) ?_; clear hD; intro hD; simp only [Act.put, sqA, sqB, sqC]
     refine wpAnyK_done (by kernel_rfl) ?_ 0
     clear hD
     have HSX := Hq (HB7.out.trans (((Below.refl w3.heap.size w3).drew.trans (Below.refl _ _)).mono HB7.out.size))
     refine hK8 _ _ ?_
     go_wp2
     go_ret
     exact ⟨rfl, HSX.out⟩
   · have hel := empty_nS (n := m - 1) (by omega)
     obtain ⟨l, hl⟩ : ∃ l, nS (m - 1) = l := ⟨_, rfl⟩
     rw [hl] at HSB HDM hel
     by_cases ho1 : o = 1
     · have hg : cmpI o 2 < 0 := by rw [ho1]; decide
       obtain ⟨c, hc⟩ : ∃ c, cmpI o 2 = c := ⟨_, rfl⟩
       rw [hc] at hg HCM
       rw [if_pos (.inr (.inl ho1))]
       clear HSL HSG HDM h1 hm ho8 ho hm1 hl hc ho1
       go_enter Tryz.func62, Tryz.ntmps62
       have HX0 := Hq (Bx2.new w (.string s) (.string t) 24)
       have HB0 := Hq ((Below.refl w.heap.size w).alloc (Nat.le_refl _) (.cells #[.string s, .string t] 24))
       obtain ⟨W0, hW0⟩ : ∃ W0, w.alloc (.cells #[.string s, .string t] 24) = W0 := ⟨_, rfl⟩
       rw [hW0] at HX0 HB0
       have HW0 := Hq hW0
       clear hW0
       go_wp2_with fail
       rw [HW0.out]
       refine (HV1.out _).mono ?_
       rintro e w1 ⟨rfl, rfl⟩
       have c0 := HX0.out.c0
       have c1 := HX0.out.c1
       go_wp2_with fail
       refine (HV2.out _).mono ?_
       rintro e w1 ⟨rfl, rfl⟩
       go_wp2
       have d0 : W0.drew.cell? ⟨w.heap.size, 0, none⟩ = some (.string s) := c0
       have d1 : W0.drew.cell? ⟨w.heap.size, 1, none⟩ = some (.string t) := c1
       rename_i K7 hK7
       refine wp_onlyN ?_
       refine wp_region_K 9 (Below (W0.drew).heap.size (W0.drew)) (by kernel_rfl) ?_
       intro hD
       refine rP 0 33 8 rfl hD (Below.refl _ _) ?_; clear hD; intro hD; simp only [Act.put, sqA, sqB, sqC]
       refine rT 1 34 7 rfl hD (Below.refl _ _) (by intro w' hS'; have e0 := kC hS' d0; have e1 := kC hS' d1; go_simp; with_reducible rfl) ?_; clear hD; intro hD; simp only [Act.put, sqA, sqB, sqC]
       refine rO 2 6 rfl hD ?_; clear hD; intro K2 hK2
       go_wp2_with fail
       refine (HO1.out _).mono ?_
       rintro e w2 ⟨rfl, hb⟩
       have HB2 := Hq hb
       clear hb
       go_wp2
       refine hK2 _ _ (by exact HB2.out) ?_; clear hK2; intro hS_7_2 hD
       refine rO 3 5 rfl hD ?_; clear hD; intro K3 hK3
       go_wp2_with fail
       refine (HSB.out _).mono ?_
       rintro e w3 ⟨rfl, hb⟩
       have HB3 := Hq hb
       clear hb
       go_wp2
       refine hK3 _ _ (by exact Below.trans hS_7_2 (Below.mono HB3.out (Below.size hS_7_2))) ?_; clear hK3; intro hS_7_3 hD
       refine rP 4 32 4 rfl hD hS_7_3 ?_; clear hD; intro hD; simp only [Act.put, sqA, sqB, sqC]
       refine rP 5 37 3 rfl hD hS_7_3 ?_; clear hD; intro hD; simp only [Act.put, sqA, sqB, sqC]
       refine rP 6 38 2 rfl hD hS_7_3 ?_; clear hD; intro hD; simp only [Act.put, sqA, sqB, sqC]
       refine rO 7 1 rfl hD ?_; clear hD; intro K7 hK7
       go_wp2
       refine hK7 _ _ (by exact hS_7_3) ?_; clear hK7; intro hS_7_7 hD
       refine rO 8 0 rfl hD ?_; clear hD; intro K8 hK8
       go_wp2
       refine hK8 _ _ (by exact hS_7_7) ?_; clear hK8; intro hS_7_8 hD
       refine wpAnyK_done (by kernel_rfl) ?_ 0
       clear hD d0 d1
       have hS7 := (Below.refl W0.heap.size W0).drew.trans hS_7_8
       have HX7 := Hq (HX0.out.next hS7)
       have HB7 := Hq (HB0.out.trans (hS7.mono HB0.out.size))
       clear hS7
       refine hK7 _ _ ?_
       have e0 : w3.drew.cell? ⟨w.heap.size, 0, none⟩ = some (.string s) := HX7.out.c0
       have e1 : w3.drew.cell? ⟨w.heap.size, 1, none⟩ = some (.string t) := HX7.out.c1
       clear c0 c1
       go_wp2
       rename_i K8 hK8
       refine wp_onlyN ?_
       refine wp_region_K 13 (Below (w3.drew).heap.size (w3.drew)) (by kernel_rfl) ?_
       intro hD
       refine rP 0 39 12 rfl hD (Below.refl _ _) ?_; clear hD; intro hD; simp only [Act.put, sqA, sqB, sqC]
       refine rP 1 40 11 rfl hD (Below.refl _ _) ?_; clear hD; intro hD; simp only [Act.put, sqA, sqB, sqC]
       refine rP 2 41 10 rfl hD (Below.refl _ _) ?_; clear hD; intro hD; simp only [Act.put, sqA, sqB, sqC]
       refine rP 3 42 9 rfl hD (Below.refl _ _) ?_; clear hD; intro hD; simp only [Act.put, sqA, sqB, sqC]
       refine rP 4 43 8 rfl hD (Below.refl _ _) ?_; clear hD; intro hD; simp only [Act.put, sqA, sqB, sqC]
       refine rP 5 44 7 rfl hD (Below.refl _ _) ?_; clear hD; intro hD; simp only [Act.put, sqA, sqB, sqC]
       refine rP 6 45 6 rfl hD (Below.refl _ _) ?_; clear hD; intro hD; simp only [Act.put, sqA, sqB, sqC]
       refine rP 7 46 5 rfl hD (Below.refl _ _) ?_; clear hD; intro hD; simp only [Act.put, sqA, sqB, sqC]
       refine rT 8 47 4 rfl hD (Below.refl _ _) (by intro w' hS'; have e0 := kC hS' e0; have e1 := kC hS' e1; go_simp; with_reducible rfl) ?_; clear hD; intro hD; simp only [Act.put, sqA, sqB, sqC]
       refine rO 9 3 rfl hD ?_; clear hD; intro K9 hK9
       go_wp2_with fail
       refine (HO2.out _).mono ?_
       rintro e w9 ⟨rfl, hb⟩
       have HB9 := Hq hb
       clear hb
       go_wp2
       refine hK9 _ _ (by exact HB9.out) ?_; clear hK9; intro hS_8_9 hD
       refine rO 10 2 rfl hD ?_; clear hD; intro K10 hK10
       go_wp2_with fail
       refine (HCM.out _).mono ?_
       rintro e w10 ⟨rfl, rfl⟩
       have HB10 := Hq (Below.refl w9.heap.size w9)
       go_wp2
       refine hK10 _ _ (by exact Below.trans hS_8_9 (Below.mono HB10.out (Below.size hS_8_9))) ?_; clear hK10; intro hS_8_10 hD
       refine rP 11 50 1 rfl hD hS_8_10 ?_; clear hD; intro hD; simp only [Act.put, sqA, sqB, sqC]
       refine rP 12 51 0 rfl hD hS_8_10 ?_; clear hD; intro hD; simp only [Act.put, sqA, sqB, sqC]
       refine wpAnyK_done (by kernel_rfl) ?_ 0
       clear hD
       have HSX := Hq (HB7.out.trans (((Below.refl w3.heap.size w3).drew.trans hS_8_10).mono HB7.out.size))
       refine hK8 _ _ ?_
       go_wp2
       go_ret
       exact ⟨rfl, HSX.out⟩
     · have hg := cmpI_nonneg (x := o) (y := 2) (by omega)
       obtain ⟨c, hc⟩ : ∃ c, cmpI o 2 = c := ⟨_, rfl⟩
       rw [hc] at hg HCM
       by_cases hr : (m - 1) % o = 0
       · rw [if_neg (by omega)]
         rw [hr, nS_zero] at HDM
         clear HSL HSG h1 hm ho8 ho hm1 hl hc ho1 hr
         go_enter Tryz.func62, Tryz.ntmps62
         have HX0 := Hq (Bx2.new w (.string s) (.string t) 24)
         have HB0 := Hq ((Below.refl w.heap.size w).alloc (Nat.le_refl _) (.cells #[.string s, .string t] 24))
         obtain ⟨W0, hW0⟩ : ∃ W0, w.alloc (.cells #[.string s, .string t] 24) = W0 := ⟨_, rfl⟩
         rw [hW0] at HX0 HB0
         have HW0 := Hq hW0
         clear hW0
         go_wp2_with fail
         rw [HW0.out]
         refine (HV1.out _).mono ?_
         rintro e w1 ⟨rfl, rfl⟩
         have c0 := HX0.out.c0
         have c1 := HX0.out.c1
         go_wp2_with fail
         refine (HV2.out _).mono ?_
         rintro e w1 ⟨rfl, rfl⟩
         go_wp2
         have d0 : W0.drew.cell? ⟨w.heap.size, 0, none⟩ = some (.string s) := c0
         have d1 : W0.drew.cell? ⟨w.heap.size, 1, none⟩ = some (.string t) := c1
         rename_i K7 hK7
         refine wp_onlyN ?_
         refine wp_region_K 9 (Below (W0.drew).heap.size (W0.drew)) (by kernel_rfl) ?_
         intro hD
         refine rP 0 33 8 rfl hD (Below.refl _ _) ?_; clear hD; intro hD; simp only [Act.put, sqA, sqB, sqC]
         refine rT 1 34 7 rfl hD (Below.refl _ _) (by intro w' hS'; have e0 := kC hS' d0; have e1 := kC hS' d1; go_simp; with_reducible rfl) ?_; clear hD; intro hD; simp only [Act.put, sqA, sqB, sqC]
         refine rO 2 6 rfl hD ?_; clear hD; intro K2 hK2
         go_wp2_with fail
         refine (HO1.out _).mono ?_
         rintro e w2 ⟨rfl, hb⟩
         have HB2 := Hq hb
         clear hb
         go_wp2
         refine hK2 _ _ (by exact HB2.out) ?_; clear hK2; intro hS_7_2 hD
         refine rO 3 5 rfl hD ?_; clear hD; intro K3 hK3
         go_wp2_with fail
         refine (HSB.out _).mono ?_
         rintro e w3 ⟨rfl, hb⟩
         have HB3 := Hq hb
         clear hb
         go_wp2
         refine hK3 _ _ (by exact Below.trans hS_7_2 (Below.mono HB3.out (Below.size hS_7_2))) ?_; clear hK3; intro hS_7_3 hD
         refine rP 4 32 4 rfl hD hS_7_3 ?_; clear hD; intro hD; simp only [Act.put, sqA, sqB, sqC]
         refine rP 5 37 3 rfl hD hS_7_3 ?_; clear hD; intro hD; simp only [Act.put, sqA, sqB, sqC]
         refine rP 6 38 2 rfl hD hS_7_3 ?_; clear hD; intro hD; simp only [Act.put, sqA, sqB, sqC]
         refine rO 7 1 rfl hD ?_; clear hD; intro K7 hK7
         go_wp2
         refine hK7 _ _ (by exact hS_7_3) ?_; clear hK7; intro hS_7_7 hD
         refine rO 8 0 rfl hD ?_; clear hD; intro K8 hK8
         go_wp2
         refine hK8 _ _ (by exact hS_7_7) ?_; clear hK8; intro hS_7_8 hD
         refine wpAnyK_done (by kernel_rfl) ?_ 0
         clear hD d0 d1
         have hS7 := (Below.refl W0.heap.size W0).drew.trans hS_7_8
         have HX7 := Hq (HX0.out.next hS7)
         have HB7 := Hq (HB0.out.trans (hS7.mono HB0.out.size))
         clear hS7
         refine hK7 _ _ ?_
         have e0 : w3.drew.cell? ⟨w.heap.size, 0, none⟩ = some (.string s) := HX7.out.c0
         have e1 : w3.drew.cell? ⟨w.heap.size, 1, none⟩ = some (.string t) := HX7.out.c1
         clear c0 c1
         go_wp2
         rename_i K8 hK8
         refine wp_onlyN ?_
         refine wp_region_K 13 (Below (w3.drew).heap.size (w3.drew)) (by kernel_rfl) ?_
         intro hD
         refine rP 0 39 12 rfl hD (Below.refl _ _) ?_; clear hD; intro hD; simp only [Act.put, sqA, sqB, sqC]
         refine rP 1 40 11 rfl hD (Below.refl _ _) ?_; clear hD; intro hD; simp only [Act.put, sqA, sqB, sqC]
         refine rP 2 41 10 rfl hD (Below.refl _ _) ?_; clear hD; intro hD; simp only [Act.put, sqA, sqB, sqC]
         refine rP 3 42 9 rfl hD (Below.refl _ _) ?_; clear hD; intro hD; simp only [Act.put, sqA, sqB, sqC]
         refine rP 4 43 8 rfl hD (Below.refl _ _) ?_; clear hD; intro hD; simp only [Act.put, sqA, sqB, sqC]
         refine rP 5 44 7 rfl hD (Below.refl _ _) ?_; clear hD; intro hD; simp only [Act.put, sqA, sqB, sqC]
         refine rP 6 45 6 rfl hD (Below.refl _ _) ?_; clear hD; intro hD; simp only [Act.put, sqA, sqB, sqC]
         refine rP 7 46 5 rfl hD (Below.refl _ _) ?_; clear hD; intro hD; simp only [Act.put, sqA, sqB, sqC]
         refine rT 8 47 4 rfl hD (Below.refl _ _) (by intro w' hS'; have e0 := kC hS' e0; have e1 := kC hS' e1; go_simp; with_reducible rfl) ?_; clear hD; intro hD; simp only [Act.put, sqA, sqB, sqC]
         refine rO 9 3 rfl hD ?_; clear hD; intro K9 hK9
         go_wp2_with fail
         refine (HO2.out _).mono ?_
         rintro e w9 ⟨rfl, hb⟩
         have HB9 := Hq hb
         clear hb
         go_wp2
         refine hK9 _ _ (by exact HB9.out) ?_; clear hK9; intro hS_8_9 hD
         refine rO 10 2 rfl hD ?_; clear hD; intro K10 hK10
         go_wp2_with fail
         refine (HCM.out _).mono ?_
         rintro e w10 ⟨rfl, rfl⟩
         have HB10 := Hq (Below.refl w9.heap.size w9)
         go_wp2
         refine hK10 _ _ (by exact Below.trans hS_8_9 (Below.mono HB10.out (Below.size hS_8_9))) ?_; clear hK10; intro hS_8_10 hD
         refine rP 11 50 1 rfl hD hS_8_10 ?_; clear hD; intro hD; simp only [Act.put, sqA, sqB, sqC]
         refine rP 12 51 0 rfl hD hS_8_10 ?_; clear hD; intro hD; simp only [Act.put, sqA, sqB, sqC]
         refine wpAnyK_done (by kernel_rfl) ?_ 0
         clear hD
         have HSX := Hq (HB7.out.trans (((Below.refl w3.heap.size w3).drew.trans hS_8_10).mono HB7.out.size))
         refine hK8 _ _ ?_
         have hx9 : Bx2 w9 w.heap.size (.string s) (.string t) 24 := (HX7.out.next (Below.refl _ _).drew).next HB9.out
         have f1 := hx9.c1
         clear hx9 e0 e1
         go_wp2_with fail
         refine (HDM.out _).mono ?_
         rintro e w11 ⟨rfl, hb⟩
         have HB11 := Hq (HSX.out.trans (hb.mono HSX.out.size))
         clear hb
         go_wp2
         go_ret
         exact ⟨rfl, HB11.out⟩
       · rw [if_pos (.inr (.inr hr))]
         have her := empty_nS (Nat.pos_of_ne_zero hr)
         clear HSL HSG h1 hm ho8 ho hm1 hl hc ho1 hr
         go_enter Tryz.func62, Tryz.ntmps62
         have HX0 := Hq (Bx2.new w (.string s) (.string t) 24)
         have HB0 := Hq ((Below.refl w.heap.size w).alloc (Nat.le_refl _) (.cells #[.string s, .string t] 24))
         obtain ⟨W0, hW0⟩ : ∃ W0, w.alloc (.cells #[.string s, .string t] 24) = W0 := ⟨_, rfl⟩
         rw [hW0] at HX0 HB0
         have HW0 := Hq hW0
         clear hW0
         go_wp2_with fail
         rw [HW0.out]
         refine (HV1.out _).mono ?_
         rintro e w1 ⟨rfl, rfl⟩
         have c0 := HX0.out.c0
         have c1 := HX0.out.c1
         go_wp2_with fail
         refine (HV2.out _).mono ?_
         rintro e w1 ⟨rfl, rfl⟩
         go_wp2
         have d0 : W0.drew.cell? ⟨w.heap.size, 0, none⟩ = some (.string s) := c0
         have d1 : W0.drew.cell? ⟨w.heap.size, 1, none⟩ = some (.string t) := c1
         rename_i K7 hK7
         refine wp_onlyN ?_
         refine wp_region_K 9 (Below (W0.drew).heap.size (W0.drew)) (by kernel_rfl) ?_
         intro hD
         refine rP 0 33 8 rfl hD (Below.refl _ _) ?_; clear hD; intro hD; simp only [Act.put, sqA, sqB, sqC]
         refine rT 1 34 7 rfl hD (Below.refl _ _) (by intro w' hS'; have e0 := kC hS' d0; have e1 := kC hS' d1; go_simp; with_reducible rfl) ?_; clear hD; intro hD; simp only [Act.put, sqA, sqB, sqC]
         refine rO 2 6 rfl hD ?_; clear hD; intro K2 hK2
         go_wp2_with fail
         refine (HO1.out _).mono ?_
         rintro e w2 ⟨rfl, hb⟩
         have HB2 := Hq hb
         clear hb
         go_wp2
         refine hK2 _ _ (by exact HB2.out) ?_; clear hK2; intro hS_7_2 hD
         refine rO 3 5 rfl hD ?_; clear hD; intro K3 hK3
         go_wp2_with fail
         refine (HSB.out _).mono ?_
         rintro e w3 ⟨rfl, hb⟩
         have HB3 := Hq hb
         clear hb
         go_wp2
         refine hK3 _ _ (by exact Below.trans hS_7_2 (Below.mono HB3.out (Below.size hS_7_2))) ?_; clear hK3; intro hS_7_3 hD
         refine rP 4 32 4 rfl hD hS_7_3 ?_; clear hD; intro hD; simp only [Act.put, sqA, sqB, sqC]
         refine rP 5 37 3 rfl hD hS_7_3 ?_; clear hD; intro hD; simp only [Act.put, sqA, sqB, sqC]
         refine rP 6 38 2 rfl hD hS_7_3 ?_; clear hD; intro hD; simp only [Act.put, sqA, sqB, sqC]
         refine rO 7 1 rfl hD ?_; clear hD; intro K7 hK7
         go_wp2
         refine hK7 _ _ (by exact hS_7_3) ?_; clear hK7; intro hS_7_7 hD
         refine rO 8 0 rfl hD ?_; clear hD; intro K8 hK8
         go_wp2
         refine hK8 _ _ (by exact hS_7_7) ?_; clear hK8; intro hS_7_8 hD
         refine wpAnyK_done (by kernel_rfl) ?_ 0
         clear hD d0 d1
         have hS7 := (Below.refl W0.heap.size W0).drew.trans hS_7_8
         have HX7 := Hq (HX0.out.next hS7)
         have HB7 := Hq (HB0.out.trans (hS7.mono HB0.out.size))
         clear hS7
         refine hK7 _ _ ?_
         have e0 : w3.drew.cell? ⟨w.heap.size, 0, none⟩ = some (.string s) := HX7.out.c0
         have e1 : w3.drew.cell? ⟨w.heap.size, 1, none⟩ = some (.string t) := HX7.out.c1
         clear c0 c1
         go_wp2
         rename_i K8 hK8
         refine wp_onlyN ?_
         refine wp_region_K 13 (Below (w3.drew).heap.size (w3.drew)) (by kernel_rfl) ?_
         intro hD
         refine rP 0 39 12 rfl hD (Below.refl _ _) ?_; clear hD; intro hD; simp only [Act.put, sqA, sqB, sqC]
         refine rP 1 40 11 rfl hD (Below.refl _ _) ?_; clear hD; intro hD; simp only [Act.put, sqA, sqB, sqC]
         refine rP 2 41 10 rfl hD (Below.refl _ _) ?_; clear hD; intro hD; simp only [Act.put, sqA, sqB, sqC]
         refine rP 3 42 9 rfl hD (Below.refl _ _) ?_; clear hD; intro hD; simp only [Act.put, sqA, sqB, sqC]
         refine rP 4 43 8 rfl hD (Below.refl _ _) ?_; clear hD; intro hD; simp only [Act.put, sqA, sqB, sqC]
         refine rP 5 44 7 rfl hD (Below.refl _ _) ?_; clear hD; intro hD; simp only [Act.put, sqA, sqB, sqC]
         refine rP 6 45 6 rfl hD (Below.refl _ _) ?_; clear hD; intro hD; simp only [Act.put, sqA, sqB, sqC]
         refine rP 7 46 5 rfl hD (Below.refl _ _) ?_; clear hD; intro hD; simp only [Act.put, sqA, sqB, sqC]
         refine rT 8 47 4 rfl hD (Below.refl _ _) (by intro w' hS'; have e0 := kC hS' e0; have e1 := kC hS' e1; go_simp; with_reducible rfl) ?_; clear hD; intro hD; simp only [Act.put, sqA, sqB, sqC]
         refine rO 9 3 rfl hD ?_; clear hD; intro K9 hK9
         go_wp2_with fail
         refine (HO2.out _).mono ?_
         rintro e w9 ⟨rfl, hb⟩
         have HB9 := Hq hb
         clear hb
         go_wp2
         refine hK9 _ _ (by exact HB9.out) ?_; clear hK9; intro hS_8_9 hD
         refine rO 10 2 rfl hD ?_; clear hD; intro K10 hK10
         go_wp2_with fail
         refine (HCM.out _).mono ?_
         rintro e w10 ⟨rfl, rfl⟩
         have HB10 := Hq (Below.refl w9.heap.size w9)
         go_wp2
         refine hK10 _ _ (by exact Below.trans hS_8_9 (Below.mono HB10.out (Below.size hS_8_9))) ?_; clear hK10; intro hS_8_10 hD
         refine rP 11 50 1 rfl hD hS_8_10 ?_; clear hD; intro hD; simp only [Act.put, sqA, sqB, sqC]
         refine rP 12 51 0 rfl hD hS_8_10 ?_; clear hD; intro hD; simp only [Act.put, sqA, sqB, sqC]
         refine wpAnyK_done (by kernel_rfl) ?_ 0
         clear hD
         have HSX := Hq (HB7.out.trans (((Below.refl w3.heap.size w3).drew.trans hS_8_10).mono HB7.out.size))
         refine hK8 _ _ ?_
         have hx9 : Bx2 w9 w.heap.size (.string s) (.string t) 24 := (HX7.out.next (Below.refl _ _).drew).next HB9.out
         have f1 := hx9.c1
         clear hx9 e0 e1
         go_wp2_with fail
         refine (HDM.out _).mono ?_
         rintro e w11 ⟨rfl, hb⟩
         have HB11 := Hq (HSX.out.trans (hb.mono HSX.out.size))
         clear hb
         go_wp2
         go_ret
         exact ⟨rfl, HB11.out⟩
end Go.Proofs.YtehflcnjnnhojaaGreat
namespace Go.Proofs.YtehflcnjnnhojaaGreat
set_option maxRecDepth 100000
set_option maxHeartbeats 4000000
open Go.RowKit
theorem nS_last {n : Nat} (h : 0 < n) : ∃ k, ∃ hk : k < (nS n).size, k + 1 = (nS n).size ∧ ((nS n)[k]).toNat = n % 256 := by
 have h0 : 0 < (nS n).size := by rcases Nat.eq_zero_or_pos (nS n).size with e | e; · have := nS_size_zero.1 e; omega
                                 · exact e
 refine ⟨(nS n).size - 1, by omega, by omega, ?_⟩
 rw [nS_byte n 0 _ (by omega) (by omega)]
 unfold dig
 rw [Nat.pow_zero, Nat.div_one]
theorem r13_Check_none (m : Nat) (hm : m < 18446744073709551616) (w : World) : Calls Tryz.prog 75 #[gV (nS m) (nS 0)] w (Ret (.int .i64 (if m % 2 = 0 ∨ m ≤ 8 then 13 else 0)) w) := by
 have HV1 := Hq (r01_Valid (nS m) (by have := nS_small_size hm; omega))
 have HV2 := Hq (r01_Valid (nS 0) (by decide))
 rw [nvalid_nS.2 (lt128_of_lt8 hm)] at HV1
 rw [nvalid_nS.2 (by decide)] at HV2
 have HCM := Hq (r01_Order (nS m) (nS 8) (by have := nS_small_size hm; omega) (by decide))
 rw [ordB_nS, show nS 8 = ⟨#[8]⟩ from by decide +kernel] at HCM
 rw [nS_zero] at HV2 ⊢
 have HSZ := Hq (nS_small_size hm)
 rcases Nat.eq_zero_or_pos m with h0 | h0
 · rw [if_pos (.inl (by omega))]
   rw [h0, nS_zero] at HV1 HCM ⊢
   clear h0 hm HSZ
   have he := sempty_true (a := ⟨#[]⟩) rfl
   obtain ⟨s, hs⟩ : ∃ s : ByteArray, ⟨#[]⟩ = s := ⟨_, rfl⟩
   rw [hs] at HV1 HV2 HCM he ⊢
   clear hs
   have HT := Hq (show ∃ t, s = t from ⟨_, rfl⟩)
   obtain ⟨t, ht⟩ := HT.out
   have HV2 := Hq (show ∀ w, Calls Tryz.prog 42 #[.string t] w (RetQ (.bool true) w) from by rw [← ht]; exact HV2.out)
   have het : t.toList.isEmpty = true := by rw [← ht]; exact he
   unfold gV
   rw [show (#[Value.string s, .string s] : Array Value) = #[.string s, .string t] from by rw [← ht]]
   clear ht HT
   go_enter Tryz.func75, Tryz.ntmps75
   have HX0 := Hq (Bx2.new w (.string s) (.string t) 24)
   have HB0 := Hq ((Below.refl w.heap.size w).alloc (Nat.le_refl _) (.cells #[.string s, .string t] 24))
   obtain ⟨W0, hW0⟩ : ∃ W0, w.alloc (.cells #[.string s, .string t] 24) = W0 := ⟨_, rfl⟩
   rw [hW0] at HX0 HB0
   have HW0 := Hq hW0
   clear hW0
   go_wp2_with fail
   rw [HW0.out]
   refine (HV1.out _).mono ?_
   rintro e w1 ⟨rfl, rfl⟩
   have c0 := HX0.out.c0
   have c1 := HX0.out.c1
   go_wp2_with fail
   refine (HV2.out _).mono ?_
   rintro e w1 ⟨rfl, rfl⟩
   go_wp2
   go_ret
   exact ⟨rfl, HB0.out⟩
 · have he := empty_nS h0
   have HLAST := Hq (nS_last h0)
   by_cases hodd : m % 2 = 0
   · rw [if_pos (.inl hodd)]
     obtain ⟨s, hs⟩ : ∃ s, nS m = s := ⟨_, rfl⟩
     obtain ⟨t, ht⟩ : ∃ t : ByteArray, ⟨#[]⟩ = t := ⟨_, rfl⟩
     have het : t.toList.isEmpty = true := by rw [← ht]; exact sempty_true rfl
     rw [ht] at HV2 ⊢
     have hs8 := HSZ.out
     rw [hs] at HV1 HCM he hs8 HLAST ⊢
     obtain ⟨k, hk, hks, hkb⟩ := HLAST.out
     have hix : ((s.size : Int) - 1) = (k : Int) := by omega
     have hpar : (((s[k]).toNat : Int) % 2 == 0) = true := by
      rw [hkb]
      have : m % 256 % 2 = 0 := by omega
      rw [beq_iff_eq]; omega
     clear hs ht hkb hks hodd hm h0 HSZ HLAST
     unfold gV
     go_enter Tryz.func75, Tryz.ntmps75
     have HX0 := Hq (Bx2.new w (.string s) (.string t) 24)
     have HB0 := Hq ((Below.refl w.heap.size w).alloc (Nat.le_refl _) (.cells #[.string s, .string t] 24))
     obtain ⟨W0, hW0⟩ : ∃ W0, w.alloc (.cells #[.string s, .string t] 24) = W0 := ⟨_, rfl⟩
     rw [hW0] at HX0 HB0
     have HW0 := Hq hW0
     clear hW0
     go_wp2_with fail
     rw [HW0.out]
     refine (HV1.out _).mono ?_
     rintro e w1 ⟨rfl, rfl⟩
     have c0 := HX0.out.c0
     have c1 := HX0.out.c1
     go_wp2_with fail
     refine (HV2.out _).mono ?_
     rintro e w1 ⟨rfl, rfl⟩
     go_wp2
     go_ret
     exact ⟨rfl, HB0.out⟩
   · have HE := Hq (show (if m % 2 = 0 ∨ m ≤ 8 then (13 : Int) else 0) = if m ≤ 8 then 13 else 0 from by
      by_cases h : m ≤ 8
      · rw [if_pos (.inr h), if_pos h]
      · rw [if_neg (by omega), if_neg h])
     rw [HE.out]
     by_cases h8 : m ≤ 8
     · have hg : cmpI m 8 ≤ 0 := by unfold cmpI; split; · decide
                                    · rw [if_neg (by omega)]; decide
       obtain ⟨c, hc⟩ : ∃ c, cmpI m 8 = c := ⟨_, rfl⟩
       rw [hc] at hg HCM
       rw [if_pos h8]
       obtain ⟨s, hs⟩ : ∃ s, nS m = s := ⟨_, rfl⟩
       obtain ⟨t, ht⟩ : ∃ t : ByteArray, ⟨#[]⟩ = t := ⟨_, rfl⟩
       have het : t.toList.isEmpty = true := by rw [← ht]; exact sempty_true rfl
       rw [ht] at HV2 ⊢
       have hs8 := HSZ.out
       rw [hs] at HV1 HCM he hs8 HLAST ⊢
       obtain ⟨k, hk, hks, hkb⟩ := HLAST.out
       have hix : ((s.size : Int) - 1) = (k : Int) := by omega
       have hpar : (((s[k]).toNat : Int) % 2 == 0) = false := by
        rw [hkb]
        have : m % 256 % 2 = 1 := by omega
        rw [beq_eq_false_iff_ne]; omega
       clear hs ht hkb hks hodd hm h0 HSZ HLAST h8 hc HE
       unfold gV
       go_enter Tryz.func75, Tryz.ntmps75
       have HX0 := Hq (Bx2.new w (.string s) (.string t) 24)
       have HB0 := Hq ((Below.refl w.heap.size w).alloc (Nat.le_refl _) (.cells #[.string s, .string t] 24))
       obtain ⟨W0, hW0⟩ : ∃ W0, w.alloc (.cells #[.string s, .string t] 24) = W0 := ⟨_, rfl⟩
       rw [hW0] at HX0 HB0
       have HW0 := Hq hW0
       clear hW0
       go_wp2_with fail
       rw [HW0.out]
       refine (HV1.out _).mono ?_
       rintro e w1 ⟨rfl, rfl⟩
       have c0 := HX0.out.c0
       have c1 := HX0.out.c1
       go_wp2_with fail
       refine (HV2.out _).mono ?_
       rintro e w1 ⟨rfl, rfl⟩
       go_wp2_with fail
       refine (HCM.out _).mono ?_
       rintro e w2 ⟨rfl, hb⟩
       have HB2 := Hq (HB0.out.trans (hb.mono HB0.out.size))
       clear hb
       go_wp2
       go_ret
       exact ⟨rfl, HB2.out⟩
     · rw [show cmpI m 8 = 1 from by unfold cmpI; rw [if_neg (by omega), if_pos (by omega)]] at HCM
       rw [if_neg h8]
       obtain ⟨s, hs⟩ : ∃ s, nS m = s := ⟨_, rfl⟩
       obtain ⟨t, ht⟩ : ∃ t : ByteArray, ⟨#[]⟩ = t := ⟨_, rfl⟩
       have het : t.toList.isEmpty = true := by rw [← ht]; exact sempty_true rfl
       rw [ht] at HV2 ⊢
       have hs8 := HSZ.out
       rw [hs] at HV1 HCM he hs8 HLAST ⊢
       obtain ⟨k, hk, hks, hkb⟩ := HLAST.out
       have hix : ((s.size : Int) - 1) = (k : Int) := by omega
       have hpar : (((s[k]).toNat : Int) % 2 == 0) = false := by
        rw [hkb]
        have : m % 256 % 2 = 1 := by omega
        rw [beq_eq_false_iff_ne]; omega
       clear hs ht hkb hks hodd hm h0 HSZ HLAST h8 HE
       unfold gV
       go_enter Tryz.func75, Tryz.ntmps75
       have HX0 := Hq (Bx2.new w (.string s) (.string t) 24)
       have HB0 := Hq ((Below.refl w.heap.size w).alloc (Nat.le_refl _) (.cells #[.string s, .string t] 24))
       obtain ⟨W0, hW0⟩ : ∃ W0, w.alloc (.cells #[.string s, .string t] 24) = W0 := ⟨_, rfl⟩
       rw [hW0] at HX0 HB0
       have HW0 := Hq hW0
       clear hW0
       go_wp2_with fail
       rw [HW0.out]
       refine (HV1.out _).mono ?_
       rintro e w1 ⟨rfl, rfl⟩
       have c0 := HX0.out.c0
       have c1 := HX0.out.c1
       go_wp2_with fail
       refine (HV2.out _).mono ?_
       rintro e w1 ⟨rfl, rfl⟩
       go_wp2_with fail
       refine (HCM.out _).mono ?_
       rintro e w2 ⟨rfl, hb⟩
       have HB2 := Hq (HB0.out.trans (hb.mono HB0.out.size))
       clear hb
       go_wp2
       go_ret
       exact ⟨rfl, HB2.out⟩
theorem r13_Check_some (m o : Nat) (hm : m < 18446744073709551616) (ho8 : o < 256 ^ 128) (ho : 0 < o) (w : World) : Calls Tryz.prog 75 #[gV (nS m) (nS o)] w (Ret (.int .i64 (chkN m o)) w) := by
 rw [chkN_some ho]
 have HV1 := Hq (r01_Valid (nS m) (by have := nS_small_size hm; omega))
 have HV2 := Hq (r01_Valid (nS o) (by have := nS_size_le.2 ho8; omega))
 rw [nvalid_nS.2 (lt128_of_lt8 hm)] at HV1
 rw [nvalid_nS.2 ho8] at HV2
 have het := empty_nS ho
 have HMI := Hq (fun (h : 1 ≤ m) => r01_Minus m 1 (by have := nS_small_size hm; omega) h)
 rw [nS_one] at HMI
 have HOV := Hq (r01_Over (m - 1) o (by have := nS_small_size (show m - 1 < 18446744073709551616 from by omega); omega) (by have := nS_size_le.2 ho8; omega) ho)
 have hm1 := nS_is1 m
 have ho1 := nS_is1 o
 obtain ⟨s, hs⟩ : ∃ s, nS m = s := ⟨_, rfl⟩
 obtain ⟨t, ht⟩ : ∃ t, nS o = t := ⟨_, rfl⟩
 rcases Nat.eq_zero_or_pos m with h0 | h0
 · rw [if_pos (.inl (by omega))]
   have hes : s.toList.isEmpty = true := by rw [← hs, h0]; exact sempty_true rfl
   rw [hs] at HV1 ⊢
   rw [ht] at HV2 het ⊢
   clear HMI HOV hm1 ho1 hs ht h0 hm ho8 ho
   unfold gV
   go_enter Tryz.func75, Tryz.ntmps75
   have HX0 := Hq (Bx2.new w (.string s) (.string t) 24)
   have HB0 := Hq ((Below.refl w.heap.size w).alloc (Nat.le_refl _) (.cells #[.string s, .string t] 24))
   obtain ⟨W0, hW0⟩ : ∃ W0, w.alloc (.cells #[.string s, .string t] 24) = W0 := ⟨_, rfl⟩
   rw [hW0] at HX0 HB0
   have HW0 := Hq hW0
   clear hW0
   go_wp2_with fail
   rw [HW0.out]
   refine (HV1.out _).mono ?_
   rintro e w1 ⟨rfl, rfl⟩
   have c0 := HX0.out.c0
   have c1 := HX0.out.c1
   go_wp2_with fail
   refine (HV2.out _).mono ?_
   rintro e w1 ⟨rfl, rfl⟩
   go_wp2
   go_ret
   exact ⟨rfl, HB0.out⟩
 · have hes := empty_nS h0
   rw [hs] at hes hm1
   by_cases h1 : m = 1
   · rw [if_pos (.inl (by omega))]
     rw [decide_eq_true h1] at hm1
     rw [hs] at HV1 ⊢
     rw [ht] at HV2 het ⊢
     clear HMI HOV ho1 hs ht h0 hm ho8 ho h1
     unfold gV
     go_enter Tryz.func75, Tryz.ntmps75
     have HX0 := Hq (Bx2.new w (.string s) (.string t) 24)
     have HB0 := Hq ((Below.refl w.heap.size w).alloc (Nat.le_refl _) (.cells #[.string s, .string t] 24))
     obtain ⟨W0, hW0⟩ : ∃ W0, w.alloc (.cells #[.string s, .string t] 24) = W0 := ⟨_, rfl⟩
     rw [hW0] at HX0 HB0
     have HW0 := Hq hW0
     clear hW0
     go_wp2_with fail
     rw [HW0.out]
     refine (HV1.out _).mono ?_
     rintro e w1 ⟨rfl, rfl⟩
     have c0 := HX0.out.c0
     have c1 := HX0.out.c1
     go_wp2_with fail
     refine (HV2.out _).mono ?_
     rintro e w1 ⟨rfl, rfl⟩
     go_wp2
     go_ret
     exact ⟨rfl, HB0.out⟩
   · rw [decide_eq_false h1] at hm1
     rw [ht] at ho1
     by_cases h2 : o = 1
     · rw [if_pos (.inr (.inl h2))]
       rw [decide_eq_true h2] at ho1
       rw [hs] at HV1 ⊢
       rw [ht] at HV2 het ⊢
       clear HMI HOV hs ht h0 hm ho8 ho h1 h2
       unfold gV
       go_enter Tryz.func75, Tryz.ntmps75
       have HX0 := Hq (Bx2.new w (.string s) (.string t) 24)
       have HB0 := Hq ((Below.refl w.heap.size w).alloc (Nat.le_refl _) (.cells #[.string s, .string t] 24))
       obtain ⟨W0, hW0⟩ : ∃ W0, w.alloc (.cells #[.string s, .string t] 24) = W0 := ⟨_, rfl⟩
       rw [hW0] at HX0 HB0
       have HW0 := Hq hW0
       clear hW0
       go_wp2_with fail
       rw [HW0.out]
       refine (HV1.out _).mono ?_
       rintro e w1 ⟨rfl, rfl⟩
       have c0 := HX0.out.c0
       have c1 := HX0.out.c1
       go_wp2_with fail
       refine (HV2.out _).mono ?_
       rintro e w1 ⟨rfl, rfl⟩
       go_wp2
       go_ret
       exact ⟨rfl, HB0.out⟩
     · rw [decide_eq_false h2] at ho1
       have HMI := Hq (HMI.out h0)
       have her : (nS ((m - 1) % o)).toList.isEmpty = decide ((m - 1) % o = 0) := by
        by_cases h : (m - 1) % o = 0
        · rw [h, decide_eq_true rfl]; exact sempty_true rfl
        · rw [empty_nS (Nat.pos_of_ne_zero h), decide_eq_false h]
       have HV : (if m ≤ 1 ∨ o = 1 ∨ ¬ (m - 1) % o = 0 then (13 : Int) else 0) = if (m - 1) % o = 0 then 0 else 13 := by
        by_cases h : (m - 1) % o = 0
        · rw [if_neg (by omega), if_pos h]
        · rw [if_pos (.inr (.inr h)), if_neg h]
       rw [HV]
       obtain ⟨l, hl⟩ : ∃ l, nS (m - 1) = l := ⟨_, rfl⟩
       obtain ⟨q, hq⟩ : ∃ q, nS ((m - 1) / o) = q := ⟨_, rfl⟩
       obtain ⟨r, hr⟩ : ∃ r, nS ((m - 1) % o) = r := ⟨_, rfl⟩
       rw [hl] at HMI HOV
       rw [hq, hr] at HOV
       rw [hr] at her
       rw [hs] at HV1 HMI ⊢
       rw [ht] at HV2 het HOV ⊢
       obtain ⟨E, hE⟩ : ∃ E, (m - 1) % o = E := ⟨_, rfl⟩
       rw [hE] at her ⊢
       clear hs ht h0 hm ho8 ho h1 h2 hl hq hr hE HV
       unfold gV
       by_cases hz : E = 0
       · rw [if_pos hz]
         rw [decide_eq_true hz] at her
         clear hz
         go_enter Tryz.func75, Tryz.ntmps75
         have HX0 := Hq (Bx2.new w (.string s) (.string t) 24)
         have HB0 := Hq ((Below.refl w.heap.size w).alloc (Nat.le_refl _) (.cells #[.string s, .string t] 24))
         obtain ⟨W0, hW0⟩ : ∃ W0, w.alloc (.cells #[.string s, .string t] 24) = W0 := ⟨_, rfl⟩
         rw [hW0] at HX0 HB0
         have HW0 := Hq hW0
         clear hW0
         go_wp2_with fail
         rw [HW0.out]
         refine (HV1.out _).mono ?_
         rintro e w1 ⟨rfl, rfl⟩
         have c0 := HX0.out.c0
         have c1 := HX0.out.c1
         go_wp2_with fail
         refine (HV2.out _).mono ?_
         rintro e w1 ⟨rfl, rfl⟩
         go_wp2
         have d0 : W0.drew.cell? ⟨w.heap.size, 0, none⟩ = some (.string s) := c0
         have d1 : W0.drew.cell? ⟨w.heap.size, 1, none⟩ = some (.string t) := c1
         rename_i K9 hK9
         refine wp_onlyN ?_
         refine wp_region_K 11 (Below (W0.drew).heap.size (W0.drew)) (by kernel_rfl) ?_
         intro hD
         refine rP 0 52 10 rfl hD (Below.refl _ _) ?_; clear hD; intro hD; simp only [Act.put, sqA, sqB, sqC]
         refine rT 1 53 9 rfl hD (Below.refl _ _) (by intro w' hS'; have e0 := kC hS' d0; have e1 := kC hS' d1; go_simp; with_reducible rfl) ?_; clear hD; intro hD; simp only [Act.put, sqA, sqB, sqC]
         refine rP 3 55 8 rfl hD (Below.refl _ _) ?_; clear hD; intro hD; simp only [Act.put, sqA, sqB, sqC]
         refine rT 4 56 7 rfl hD (Below.refl _ _) (by intro w' hS'; have e0 := kC hS' d0; have e1 := kC hS' d1; go_simp; with_reducible rfl) ?_; clear hD; intro hD; simp only [Act.put, sqA, sqB, sqC]
         refine rO 2 6 rfl hD ?_; clear hD; intro K2 hK2
         go_wp2_with fail
         refine (HMI.out _).mono ?_
         rintro e w2 ⟨rfl, hb⟩
         have HB2 := Hq hb
         clear hb
         go_wp2
         refine hK2 _ _ (by exact HB2.out) ?_; clear hK2; intro hS_9_2 hD
         refine rO 5 5 rfl hD ?_; clear hD; intro K5 hK5
         go_wp2_with fail
         refine (HOV.out _).mono ?_
         rintro e w5 ⟨rfl, hb⟩
         have HB5 := Hq hb
         clear hb
         go_wp2
         refine hK5 _ _ (by exact Below.trans hS_9_2 (Below.mono HB5.out (Below.size hS_9_2))) ?_; clear hK5; intro hS_9_5 hD
         refine rP 6 51 4 rfl hD hS_9_5 ?_; clear hD; intro hD; simp only [Act.put, sqA, sqB, sqC]
         refine rP 7 58 3 rfl hD hS_9_5 ?_; clear hD; intro hD; simp only [Act.put, sqA, sqB, sqC]
         refine rP 8 59 2 rfl hD hS_9_5 ?_; clear hD; intro hD; simp only [Act.put, sqA, sqB, sqC]
         refine rO 9 1 rfl hD ?_; clear hD; intro K9 hK9
         go_wp2
         refine hK9 _ _ (by exact hS_9_5) ?_; clear hK9; intro hS_9_9 hD
         refine rO 10 0 rfl hD ?_; clear hD; intro K10 hK10
         go_wp2
         refine hK10 _ _ (by exact hS_9_9) ?_; clear hK10; intro hS_9_10 hD
         refine wpAnyK_done (by kernel_rfl) ?_ 0
         clear hD
         have HB9 := Hq (HB0.out.trans (((Below.refl W0.heap.size W0).drew.trans hS_9_10).mono HB0.out.size))
         refine hK9 _ _ ?_
         go_wp2
         go_ret
         exact ⟨rfl, HB9.out⟩
       · rw [if_neg hz]
         rw [decide_eq_false hz] at her
         clear hz
         go_enter Tryz.func75, Tryz.ntmps75
         have HX0 := Hq (Bx2.new w (.string s) (.string t) 24)
         have HB0 := Hq ((Below.refl w.heap.size w).alloc (Nat.le_refl _) (.cells #[.string s, .string t] 24))
         obtain ⟨W0, hW0⟩ : ∃ W0, w.alloc (.cells #[.string s, .string t] 24) = W0 := ⟨_, rfl⟩
         rw [hW0] at HX0 HB0
         have HW0 := Hq hW0
         clear hW0
         go_wp2_with fail
         rw [HW0.out]
         refine (HV1.out _).mono ?_
         rintro e w1 ⟨rfl, rfl⟩
         have c0 := HX0.out.c0
         have c1 := HX0.out.c1
         go_wp2_with fail
         refine (HV2.out _).mono ?_
         rintro e w1 ⟨rfl, rfl⟩
         go_wp2
         have d0 : W0.drew.cell? ⟨w.heap.size, 0, none⟩ = some (.string s) := c0
         have d1 : W0.drew.cell? ⟨w.heap.size, 1, none⟩ = some (.string t) := c1
         rename_i K9 hK9
         refine wp_onlyN ?_
         refine wp_region_K 11 (Below (W0.drew).heap.size (W0.drew)) (by kernel_rfl) ?_
         intro hD
         refine rP 0 52 10 rfl hD (Below.refl _ _) ?_; clear hD; intro hD; simp only [Act.put, sqA, sqB, sqC]
         refine rT 1 53 9 rfl hD (Below.refl _ _) (by intro w' hS'; have e0 := kC hS' d0; have e1 := kC hS' d1; go_simp; with_reducible rfl) ?_; clear hD; intro hD; simp only [Act.put, sqA, sqB, sqC]
         refine rP 3 55 8 rfl hD (Below.refl _ _) ?_; clear hD; intro hD; simp only [Act.put, sqA, sqB, sqC]
         refine rT 4 56 7 rfl hD (Below.refl _ _) (by intro w' hS'; have e0 := kC hS' d0; have e1 := kC hS' d1; go_simp; with_reducible rfl) ?_; clear hD; intro hD; simp only [Act.put, sqA, sqB, sqC]
         refine rO 2 6 rfl hD ?_; clear hD; intro K2 hK2
         go_wp2_with fail
         refine (HMI.out _).mono ?_
         rintro e w2 ⟨rfl, hb⟩
         have HB2 := Hq hb
         clear hb
         go_wp2
         refine hK2 _ _ (by exact HB2.out) ?_; clear hK2; intro hS_9_2 hD
         refine rO 5 5 rfl hD ?_; clear hD; intro K5 hK5
         go_wp2_with fail
         refine (HOV.out _).mono ?_
         rintro e w5 ⟨rfl, hb⟩
         have HB5 := Hq hb
         clear hb
         go_wp2
         refine hK5 _ _ (by exact Below.trans hS_9_2 (Below.mono HB5.out (Below.size hS_9_2))) ?_; clear hK5; intro hS_9_5 hD
         refine rP 6 51 4 rfl hD hS_9_5 ?_; clear hD; intro hD; simp only [Act.put, sqA, sqB, sqC]
         refine rP 7 58 3 rfl hD hS_9_5 ?_; clear hD; intro hD; simp only [Act.put, sqA, sqB, sqC]
         refine rP 8 59 2 rfl hD hS_9_5 ?_; clear hD; intro hD; simp only [Act.put, sqA, sqB, sqC]
         refine rO 9 1 rfl hD ?_; clear hD; intro K9 hK9
         go_wp2
         refine hK9 _ _ (by exact hS_9_5) ?_; clear hK9; intro hS_9_9 hD
         refine rO 10 0 rfl hD ?_; clear hD; intro K10 hK10
         go_wp2
         refine hK10 _ _ (by exact hS_9_9) ?_; clear hK10; intro hS_9_10 hD
         refine wpAnyK_done (by kernel_rfl) ?_ 0
         clear hD
         have HB9 := Hq (HB0.out.trans (((Below.refl W0.heap.size W0).drew.trans hS_9_10).mono HB0.out.size))
         refine hK9 _ _ ?_
         go_wp2
         go_ret
         exact ⟨rfl, HB9.out⟩
theorem pw_CheckW (M O : ByteArray) (hM : M.size ≤ 8) (hO : O.size ≤ 100) (w : World) : Calls Tryz.prog 62 #[gV M O] w (Ret (.int .i64 (chkK M O)) w) := by
 unfold chkK
 cases hv : (nvalid M && nvalid O) with
 | false => exact pw_Check_bad M O (by omega) (by omega) hv w
 | true =>
  rw [if_pos rfl]
  simp only [Bool.and_eq_true] at hv
  have e1 := nS_num hv.1
  have e2 := nS_num hv.2
  have hm := num_small hM
  have ho := num_lt (s := O) (by omega)
  rcases Nat.eq_zero_or_pos (num O) with h0 | h0
  · have := pw_Check_none (num M) hm w
    rw [show nS 0 = O from by rw [← h0, ← e2], ← e1] at this
    unfold chkN
    rw [if_pos h0]
    exact this
  · have := pw_Check_some (num M) (num O) hm ho h0 w
    rw [← e1, ← e2] at this
    exact this
theorem r13_CheckW (M O : ByteArray) (hM : M.size ≤ 8) (hO : O.size ≤ 100) (w : World) : Calls Tryz.prog 75 #[gV M O] w (Ret (.int .i64 (chkK M O)) w) := by
 unfold chkK
 cases hv : (nvalid M && nvalid O) with
 | false => exact r13_Check_bad M O (by omega) (by omega) hv w
 | true =>
  rw [if_pos rfl]
  simp only [Bool.and_eq_true] at hv
  have e1 := nS_num hv.1
  have e2 := nS_num hv.2
  have hm := num_small hM
  have ho := num_lt (s := O) (by omega)
  rcases Nat.eq_zero_or_pos (num O) with h0 | h0
  · have := r13_Check_none (num M) hm w
    rw [show nS 0 = O from by rw [← h0, ← e2], ← e1] at this
    unfold chkN
    rw [if_pos h0]
    exact this
  · have := r13_Check_some (num M) (num O) hm ho h0 w
    rw [← e1, ← e2] at this
    exact this
theorem pw_Check (M O : ByteArray) (hM : M.size ≤ 8) (hO : O.size ≤ 8) (w : World) : Calls Tryz.prog 62 #[gV M O] w (Ret (.int .i64 (chkK M O)) w) := pw_CheckW M O hM (by omega) w
theorem r13_Check (M O : ByteArray) (hM : M.size ≤ 8) (hO : O.size ≤ 8) (w : World) : Calls Tryz.prog 75 #[gV M O] w (Ret (.int .i64 (chkK M O)) w) := r13_CheckW M O hM (by omega) w
end Go.Proofs.YtehflcnjnnhojaaGreat
namespace Go.Proofs.YtehflcnjnnhojaaGreat
set_option maxRecDepth 100000
set_option maxHeartbeats 2000000
open Go.RowKit
def hasN (m o x : Nat) : Bool := decide (0 < x ∧ x < m ∧ (if o = 0 then Nat.gcd x m = 1 else x ^ o % m = 1))
theorem hasG_nS {m o x : Nat} (hm : m < 256 ^ 128) (ho8 : o < 256 ^ 128) (hx : x < 256 ^ 128) (ho : 0 < o) : hasG (nS m) (nS o) (nS x) = hasN m o x := by
 have e : hasP (nS m) (nS o) (nS x) ↔ (0 < x ∧ x < m ∧ (if o = 0 then Nat.gcd x m = 1 else x ^ o % m = 1)) := by
  unfold hasP
  rw [num_nS, num_nS, num_nS, if_neg (by omega)]
  exact ⟨fun h => h.2.2.2.2, fun h => ⟨nvalid_nS.2 hm, nvalid_nS.2 ho8, nvalid_nS.2 hx, ho, h⟩⟩
 exact decide_eq_decide.2 e
theorem rsa_Has (m x : Nat) (hm : m < 18446744073709551616) (hodd : bitB m 0 = true) (h8 : 8 < m) (hx : x < 256 ^ 128) (w : World) : Calls Tryz.prog 168 #[gV (nS m) (nS 0), .string (nS x)] w (Ret (.bool (hasN m 0 x)) w) := by
 have HGD := Hq (rsa_good m hm hodd h8)
 have HV := Hq (nat_Valid (nS x) (by have := nS_size_le.2 hx; omega))
 rw [nvalid_nS.2 hx] at HV
 have HCM := Hq (nat_Cmp (nS x) (nS m) (by have := nS_size_le.2 hx; omega) (by have := nS_small_size hm; omega))
 rw [ncmp_n hx (lt128_of_lt8 hm)] at HCM
 have HGC := Hq (fun (h : x < m) => nat_Gcd x m (by omega) hm)
 have HB1 := Hq (fun n => nS_beq n 1)
 have HON := Hq rsa_one
 unfold gV at *
 by_cases h0 : x = 0
 · have hr : hasN m 0 x = false := decide_eq_false (fun h => by have := h.1; omega)
   rw [hr]
   have hem : (nS x).toList.isEmpty = true := by rw [h0]; exact sempty_true rfl
   obtain ⟨s, hs⟩ : ∃ s, nS m = s := ⟨_, rfl⟩
   obtain ⟨t, ht⟩ : ∃ t, nS 0 = t := ⟨_, rfl⟩
   obtain ⟨u, hu⟩ : ∃ u, nS x = u := ⟨_, rfl⟩
   rw [hs, ht] at HGD
   rw [hu] at HV hem
   rw [hs, ht, hu]
   clear hs ht hu hm hodd h8 hx HCM HGC h0 hr
   go_enter Tryz.func168, Tryz.ntmps168
   have HX0 := Hq (Bx2.new w (.string s) (.string t) 24)
   have HB0 := Hq ((Below.refl w.heap.size w).alloc (Nat.le_refl _) (.cells #[.string s, .string t] 24))
   obtain ⟨W0, hW0⟩ : ∃ W0, w.alloc (.cells #[.string s, .string t] 24) = W0 := ⟨_, rfl⟩
   rw [hW0] at HX0 HB0
   have HW0 := Hq hW0
   clear hW0
   go_wp2_with fail
   rw [HW0.out]
   refine (HGD.out _).mono ?_
   rintro e w1 ⟨rfl, hb⟩
   have HB1 := Hq (HB0.out.trans (hb.mono HB0.out.size))
   clear hb
   go_wp2_with fail
   refine (HV.out _).mono ?_
   rintro e w2 ⟨rfl, rfl⟩
   go_wp2
   go_ret
   exact ⟨rfl, HB1.out⟩
 · have hem := empty_nS (n := x) (by omega)
   by_cases hxm : m ≤ x
   · have hr : hasN m 0 x = false := decide_eq_false (fun h => by have := h.2.1; omega)
     rw [hr]
     have hg := cmpI_nonneg hxm
     obtain ⟨c, hc⟩ : ∃ c, cmpI x m = c := ⟨_, rfl⟩
     rw [hc] at hg HCM
     obtain ⟨s, hs⟩ : ∃ s, nS m = s := ⟨_, rfl⟩
     obtain ⟨t, ht⟩ : ∃ t, nS 0 = t := ⟨_, rfl⟩
     obtain ⟨u, hu⟩ : ∃ u, nS x = u := ⟨_, rfl⟩
     rw [hs, ht] at HGD
     rw [hu] at HV hem
     rw [hs, hu] at HCM
     rw [hs, ht, hu]
     clear hs ht hu hm hodd h8 hx HGC h0 hr hxm hc
     go_enter Tryz.func168, Tryz.ntmps168
     have HX0 := Hq (Bx2.new w (.string s) (.string t) 24)
     have HB0 := Hq ((Below.refl w.heap.size w).alloc (Nat.le_refl _) (.cells #[.string s, .string t] 24))
     obtain ⟨W0, hW0⟩ : ∃ W0, w.alloc (.cells #[.string s, .string t] 24) = W0 := ⟨_, rfl⟩
     rw [hW0] at HX0 HB0
     have HW0 := Hq hW0
     clear hW0
     go_wp2_with fail
     rw [HW0.out]
     refine (HGD.out _).mono ?_
     rintro e w1 ⟨rfl, hb⟩
     have HB1 := Hq (HB0.out.trans (hb.mono HB0.out.size))
     have HX1 := HX0.out.next hb
     have c0 := HX1.c0
     have c1 := HX1.c1
     clear hb HX1
     go_wp2_with fail
     refine (HV.out _).mono ?_
     rintro e w2 ⟨rfl, rfl⟩
     go_wp2_with fail
     refine (HCM.out _).mono ?_
     rintro e w2 ⟨rfl, rfl⟩
     go_wp2
     go_ret
     exact ⟨rfl, HB1.out⟩
   · have hr : hasN m 0 x = decide (Nat.gcd x m = 1) := decide_eq_decide.2 ⟨fun h => by have := h.2.2; rwa [if_pos rfl] at this, fun h => ⟨by omega, by omega, by rw [if_pos rfl]; exact h⟩⟩
     rw [hr, ← HB1.out]
     have hg : cmpI x m < 0 := by unfold cmpI; rw [if_pos (by omega)]; decide
     obtain ⟨c, hc⟩ : ∃ c, cmpI x m = c := ⟨_, rfl⟩
     rw [hc] at hg HCM
     have HGC := Hq (HGC.out (by omega))
     obtain ⟨s, hs⟩ : ∃ s, nS m = s := ⟨_, rfl⟩
     obtain ⟨t, ht⟩ : ∃ t, nS 0 = t := ⟨_, rfl⟩
     obtain ⟨u, hu⟩ : ∃ u, nS x = u := ⟨_, rfl⟩
     obtain ⟨d, hd⟩ : ∃ d, nS (Nat.gcd x m) = d := ⟨_, rfl⟩
     obtain ⟨one, hone⟩ : ∃ d, nS 1 = d := ⟨_, rfl⟩
     rw [hs, ht] at HGD
     rw [hu] at HV hem
     rw [hs, hu] at HCM
     rw [hs, hu, hd] at HGC
     rw [hone] at HON
     rw [hs, ht, hu, hd, hone]
     clear hs ht hu hd hone hm hodd h8 hx h0 hr hxm hc HB1
     go_enter Tryz.func168, Tryz.ntmps168
     have HX0 := Hq (Bx2.new w (.string s) (.string t) 24)
     have HB0 := Hq ((Below.refl w.heap.size w).alloc (Nat.le_refl _) (.cells #[.string s, .string t] 24))
     obtain ⟨W0, hW0⟩ : ∃ W0, w.alloc (.cells #[.string s, .string t] 24) = W0 := ⟨_, rfl⟩
     rw [hW0] at HX0 HB0
     have HW0 := Hq hW0
     clear hW0
     go_wp2_with fail
     rw [HW0.out]
     refine (HGD.out _).mono ?_
     rintro e w1 ⟨rfl, hb⟩
     have HB1 := Hq (HB0.out.trans (hb.mono HB0.out.size))
     have HX1 := HX0.out.next hb
     have c0 := HX1.c0
     have c1 := HX1.c1
     clear hb HX1
     go_wp2_with fail
     refine (HV.out _).mono ?_
     rintro e w2 ⟨rfl, rfl⟩
     go_wp2_with fail
     refine (HCM.out _).mono ?_
     rintro e w2 ⟨rfl, rfl⟩
     go_wp2_with fail
     refine (HGC.out _).mono ?_
     rintro e w3 ⟨rfl, hb⟩
     have HB3 := Hq (HB1.out.trans (hb.mono HB1.out.size))
     clear hb c0 c1
     go_wp2_with fail
     refine (HON.out _).mono ?_
     rintro e w4 ⟨rfl, hb⟩
     have HB4 := Hq (HB3.out.trans (hb.mono HB3.out.size))
     clear hb
     go_wp2
     go_ret
     exact ⟨rfl, HB4.out⟩
theorem chkN_none {m : Nat} (h : chkN m 0 = 0) : bitB m 0 = true ∧ 8 < m := by
 unfold chkN at h
 rw [if_pos rfl] at h
 rw [bit0]
 by_cases hh : m % 2 = 0 ∨ m ≤ 8
 · rw [if_pos hh] at h; cases h
 · exact ⟨decide_eq_true (by omega), by omega⟩
theorem pw_has (m o x : Nat) (hm : m < 18446744073709551616) (ho8 : o < 18446744073709551616) (hc : chkN m o = 0) (hx : x < 256 ^ 128) (w : World) : Calls Tryz.prog 136 #[gV (nS m) (nS o), .string (nS x)] w (Ret (.bool (hasN m o x)) w) := by
 have hsm := nS_small_size hm
 have hso := nS_small_size ho8
 have hsx := nS_size_le.2 hx
 rcases Nat.eq_zero_or_pos o with h0 | h0
 · subst h0
   obtain ⟨g1, g2⟩ := chkN_none hc
   have HH := Hq (rsa_Has m x hm g1 g2 hx)
   have he : (nS 0).toList.isEmpty = true := sempty_true rfl
   obtain ⟨r, hr⟩ : ∃ r, hasN m 0 x = r := ⟨_, rfl⟩
   obtain ⟨s, hs⟩ : ∃ s, nS m = s := ⟨_, rfl⟩
   obtain ⟨t, ht⟩ : ∃ t, nS 0 = t := ⟨_, rfl⟩
   obtain ⟨u, hu⟩ : ∃ u, nS x = u := ⟨_, rfl⟩
   rw [hs, ht, hu, hr] at HH
   rw [ht] at he
   rw [hs, ht, hu, hr]
   clear hs ht hu hr hm ho8 hc hx hsm hso hsx g1 g2
   unfold gV at *
   go_enter Tryz.func136, Tryz.ntmps136
   have HX0 := Hq (Bx2.new w (.string s) (.string t) 24)
   have HB0 := Hq ((Below.refl w.heap.size w).alloc (Nat.le_refl _) (.cells #[.string s, .string t] 24))
   obtain ⟨W0, hW0⟩ : ∃ W0, w.alloc (.cells #[.string s, .string t] 24) = W0 := ⟨_, rfl⟩
   rw [hW0] at HX0 HB0
   have HW0 := Hq hW0
   clear hW0
   go_wp2_with fail
   rw [HW0.out]
   refine (HH.out _).mono ?_
   rintro e w1 ⟨rfl, hb⟩
   have HB1 := Hq (HB0.out.trans (hb.mono HB0.out.size))
   clear hb
   go_wp2
   go_ret
   exact ⟨rfl, HB1.out⟩
 · have HH := Hq (pg_Has (nS m) (nS o) (nS x) hsm (by omega) (by omega))
   rw [hasG_nS (lt128_of_lt8 hm) (lt128_of_lt8 ho8) hx h0] at HH
   have he := empty_nS h0
   obtain ⟨r, hr⟩ : ∃ r, hasN m o x = r := ⟨_, rfl⟩
   obtain ⟨s, hs⟩ : ∃ s, nS m = s := ⟨_, rfl⟩
   obtain ⟨t, ht⟩ : ∃ t, nS o = t := ⟨_, rfl⟩
   obtain ⟨u, hu⟩ : ∃ u, nS x = u := ⟨_, rfl⟩
   rw [hs, ht, hu, hr] at HH
   rw [ht] at he
   rw [hs, ht, hu, hr]
   clear hs ht hu hr hm ho8 hc hx hsm hso hsx h0
   unfold gV at *
   go_enter Tryz.func136, Tryz.ntmps136
   have HX0 := Hq (Bx2.new w (.string s) (.string t) 24)
   have HB0 := Hq ((Below.refl w.heap.size w).alloc (Nat.le_refl _) (.cells #[.string s, .string t] 24))
   obtain ⟨W0, hW0⟩ : ∃ W0, w.alloc (.cells #[.string s, .string t] 24) = W0 := ⟨_, rfl⟩
   rw [hW0] at HX0 HB0
   have HW0 := Hq hW0
   clear hW0
   go_wp2_with fail
   rw [HW0.out]
   refine (HH.out _).mono ?_
   rintro e w1 ⟨rfl, hb⟩
   have HB1 := Hq (HB0.out.trans (hb.mono HB0.out.size))
   clear hb
   go_wp2
   go_ret
   exact ⟨rfl, HB1.out⟩
theorem r13_has (m o x : Nat) (hm : m < 18446744073709551616) (ho8 : o < 18446744073709551616) (hx : x < 256 ^ 128) (w : World) : Calls Tryz.prog 152 #[gV (nS m) (nS o), .string (nS x)] w (Ret (.bool (hasN m o x)) w) := by
 have hsm := nS_small_size hm
 have hso := nS_small_size ho8
 have hsx := nS_size_le.2 hx
 rcases Nat.eq_zero_or_pos o with h0 | h0
 · subst h0
   have he : (nS 0).toList.isEmpty = true := sempty_true rfl
   have HOR := Hq (r01_Order (nS x) (nS m) (by omega) (by omega))
   rw [ordB_nS] at HOR
   have HCO := Hq (r01_Common x m hx (lt128_of_lt8 hm))
   have HIS := Hq (nS_is1 (Nat.gcd x m))
   by_cases hx0 : x = 0
   · have hr : hasN m 0 x = false := decide_eq_false (fun h => by have := h.1; omega)
     rw [hr]
     have hem : (nS x).toList.isEmpty = true := by rw [hx0]; exact sempty_true rfl
     obtain ⟨s, hs⟩ : ∃ s, nS m = s := ⟨_, rfl⟩
     obtain ⟨t, ht⟩ : ∃ t, nS 0 = t := ⟨_, rfl⟩
     obtain ⟨u, hu⟩ : ∃ u, nS x = u := ⟨_, rfl⟩
     rw [ht] at he
     rw [hu] at hem
     rw [hs, ht, hu]
     have HB0 := Hq ((Below.refl w.heap.size w).alloc (Nat.le_refl _) (.cells #[.string s, .string t] 24))
     clear hs ht hu hr hm ho8 hx hsm hso hsx HOR HCO HIS hx0
     unfold gV
     go_enter Tryz.func152, Tryz.ntmps152
     go_wp2
     go_ret
     exact ⟨rfl, HB0.out⟩
   · have hem := empty_nS (n := x) (by omega)
     by_cases hxm : m ≤ x
     · have hr : hasN m 0 x = false := decide_eq_false (fun h => by have := h.2.1; omega)
       rw [hr]
       have hg := cmpI_nonneg hxm
       obtain ⟨c, hc⟩ : ∃ c, cmpI x m = c := ⟨_, rfl⟩
       rw [hc] at hg HOR
       obtain ⟨s, hs⟩ : ∃ s, nS m = s := ⟨_, rfl⟩
       obtain ⟨t, ht⟩ : ∃ t, nS 0 = t := ⟨_, rfl⟩
       obtain ⟨u, hu⟩ : ∃ u, nS x = u := ⟨_, rfl⟩
       rw [ht] at he
       rw [hu] at hem
       rw [hs, hu] at HOR
       rw [hs, ht, hu]
       clear hs ht hu hr hm ho8 hx hsm hso hsx HCO HIS hx0 hxm hc
       unfold gV
       go_enter Tryz.func152, Tryz.ntmps152
       have HX0 := Hq (Bx2.new w (.string s) (.string t) 24)
       have HB0 := Hq ((Below.refl w.heap.size w).alloc (Nat.le_refl _) (.cells #[.string s, .string t] 24))
       obtain ⟨W0, hW0⟩ : ∃ W0, w.alloc (.cells #[.string s, .string t] 24) = W0 := ⟨_, rfl⟩
       rw [hW0] at HX0 HB0
       have HW0 := Hq hW0
       clear hW0
       go_wp2_with fail
       rw [HW0.out]
       refine (HOR.out _).mono ?_
       rintro e w1 ⟨rfl, hb⟩
       have HB1 := Hq (HB0.out.trans (hb.mono HB0.out.size))
       clear hb
       go_wp2
       go_ret
       exact ⟨rfl, HB1.out⟩
     · have hr : hasN m 0 x = decide (Nat.gcd x m = 1) := decide_eq_decide.2 ⟨fun h => by have := h.2.2; rwa [if_pos rfl] at this, fun h => ⟨by omega, by omega, by rw [if_pos rfl]; exact h⟩⟩
       rw [hr, ← HIS.out]
       have hg : cmpI x m < 0 := by unfold cmpI; rw [if_pos (by omega)]; decide
       obtain ⟨c, hc⟩ : ∃ c, cmpI x m = c := ⟨_, rfl⟩
       rw [hc] at hg HOR
       obtain ⟨s, hs⟩ : ∃ s, nS m = s := ⟨_, rfl⟩
       obtain ⟨t, ht⟩ : ∃ t, nS 0 = t := ⟨_, rfl⟩
       obtain ⟨u, hu⟩ : ∃ u, nS x = u := ⟨_, rfl⟩
       obtain ⟨d, hd⟩ : ∃ d, nS (Nat.gcd x m) = d := ⟨_, rfl⟩
       rw [ht] at he
       rw [hu] at hem
       rw [hs, hu] at HOR
       rw [hs, hu, hd] at HCO
       rw [hs, ht, hu, hd]
       clear hs ht hu hr hd hm ho8 hx hsm hso hsx HIS hx0 hxm hc
       unfold gV
       go_enter Tryz.func152, Tryz.ntmps152
       have HX0 := Hq (Bx2.new w (.string s) (.string t) 24)
       have HB0 := Hq ((Below.refl w.heap.size w).alloc (Nat.le_refl _) (.cells #[.string s, .string t] 24))
       obtain ⟨W0, hW0⟩ : ∃ W0, w.alloc (.cells #[.string s, .string t] 24) = W0 := ⟨_, rfl⟩
       rw [hW0] at HX0 HB0
       have HW0 := Hq hW0
       clear hW0
       go_wp2_with fail
       rw [HW0.out]
       refine (HOR.out _).mono ?_
       rintro e w1 ⟨rfl, hb⟩
       have HB1 := Hq (HB0.out.trans (hb.mono HB0.out.size))
       have HX1 := HX0.out.next hb
       have c0 := HX1.c0
       have c1 := HX1.c1
       clear hb HX1
       go_wp2_with fail
       refine (HCO.out _).mono ?_
       rintro e w2 ⟨rfl, hb⟩
       have HB2 := Hq (HB1.out.trans (hb.mono HB1.out.size))
       clear hb
       go_wp2
       go_ret
       exact ⟨rfl, HB2.out⟩
 · have HH := Hq (r09_Has (nS m) (nS o) (nS x) hsm (by omega) (by omega))
   rw [hasG_nS (lt128_of_lt8 hm) (lt128_of_lt8 ho8) hx h0] at HH
   have he := empty_nS h0
   obtain ⟨r, hr⟩ : ∃ r, hasN m o x = r := ⟨_, rfl⟩
   obtain ⟨s, hs⟩ : ∃ s, nS m = s := ⟨_, rfl⟩
   obtain ⟨t, ht⟩ : ∃ t, nS o = t := ⟨_, rfl⟩
   obtain ⟨u, hu⟩ : ∃ u, nS x = u := ⟨_, rfl⟩
   rw [hs, ht, hu, hr] at HH
   rw [ht] at he
   rw [hs, ht, hu, hr]
   clear hs ht hu hr hm ho8 hx hsm hso hsx h0
   unfold gV at *
   go_enter Tryz.func152, Tryz.ntmps152
   have HX0 := Hq (Bx2.new w (.string s) (.string t) 24)
   have HB0 := Hq ((Below.refl w.heap.size w).alloc (Nat.le_refl _) (.cells #[.string s, .string t] 24))
   obtain ⟨W0, hW0⟩ : ∃ W0, w.alloc (.cells #[.string s, .string t] 24) = W0 := ⟨_, rfl⟩
   rw [hW0] at HX0 HB0
   have HW0 := Hq hW0
   clear hW0
   go_wp2_with fail
   rw [HW0.out]
   refine (HH.out _).mono ?_
   rintro e w1 ⟨rfl, hb⟩
   have HB1 := Hq (HB0.out.trans (hb.mono HB0.out.size))
   clear hb
   go_wp2
   go_ret
   exact ⟨rfl, HB1.out⟩
def hasK (M O x : ByteArray) : Bool := decide (chkK M O = 0) && nvalid x && hasN (num M) (num O) (num x)
theorem chkK_parts {M O : ByteArray} (h : chkK M O = 0) : nvalid M = true ∧ nvalid O = true ∧ chkN (num M) (num O) = 0 := by
 unfold chkK at h
 split at h
 · rename_i hv
   simp only [Bool.and_eq_true] at hv
   exact ⟨hv.1, hv.2, h⟩
 · cases h
theorem pw_Has (M O x : ByteArray) (hM : M.size ≤ 8) (hO : O.size ≤ 8) (hx : nvalid x = true) (w : World) : Calls Tryz.prog 99 #[gV M O, .string x] w (Ret (.bool (hasK M O x)) w) := by
 have HCK := Hq (pw_Check M O hM hO)
 by_cases hc : chkK M O = 0
 · obtain ⟨v1, v2, hcn⟩ := chkK_parts hc
   have HH := Hq (pw_has (num M) (num O) (num x) (num_small hM) (num_small hO) hcn (num_lt (by unfold nvalid at hx; simp at hx; exact hx.1)))
   rw [← nS_num v1, ← nS_num v2, ← nS_num hx] at HH
   have hr : hasK M O x = hasN (num M) (num O) (num x) := by unfold hasK; rw [decide_eq_true hc, hx, Bool.true_and, Bool.true_and]
   rw [hr]
   obtain ⟨r, hr⟩ : ∃ r, hasN (num M) (num O) (num x) = r := ⟨_, rfl⟩
   rw [hr] at HH ⊢
   rw [hc] at HCK
   obtain ⟨s, hs⟩ : ∃ s, M = s := ⟨_, rfl⟩
   obtain ⟨t, ht⟩ : ∃ t, O = t := ⟨_, rfl⟩
   rw [hs, ht] at HCK HH ⊢
   clear hc v1 v2 hcn hr hM hO hx hs ht
   unfold gV at *
   go_enter Tryz.func99, Tryz.ntmps99
   have HX0 := Hq (Bx2.new w (.string s) (.string t) 24)
   have HB0 := Hq ((Below.refl w.heap.size w).alloc (Nat.le_refl _) (.cells #[.string s, .string t] 24))
   obtain ⟨W0, hW0⟩ : ∃ W0, w.alloc (.cells #[.string s, .string t] 24) = W0 := ⟨_, rfl⟩
   rw [hW0] at HX0 HB0
   have HW0 := Hq hW0
   clear hW0
   go_wp2_with fail
   rw [HW0.out]
   refine (HCK.out _).mono ?_
   rintro e w1 ⟨rfl, hb⟩
   have HB1 := Hq (HB0.out.trans (hb.mono HB0.out.size))
   have HX1 := HX0.out.next hb
   have c0 := HX1.c0
   have c1 := HX1.c1
   clear hb HX1
   go_wp2_with fail
   refine (HH.out _).mono ?_
   rintro e w2 ⟨rfl, hb⟩
   have HB2 := Hq (HB1.out.trans (hb.mono HB1.out.size))
   clear hb
   go_wp2
   go_ret
   exact ⟨rfl, HB2.out⟩
 · have hr : hasK M O x = false := by unfold hasK; rw [decide_eq_false hc]; rfl
   rw [hr]
   obtain ⟨c, hcc⟩ : ∃ c, chkK M O = c := ⟨_, rfl⟩
   rw [hcc] at HCK hc
   obtain ⟨s, hs⟩ : ∃ s, M = s := ⟨_, rfl⟩
   obtain ⟨t, ht⟩ : ∃ t, O = t := ⟨_, rfl⟩
   rw [hs, ht] at HCK ⊢
   have hcb : (c == 0) = false := by rw [beq_eq_false_iff_ne]; exact hc
   clear hc hcc hr hM hO hx hs ht
   unfold gV at *
   go_enter Tryz.func99, Tryz.ntmps99
   have HX0 := Hq (Bx2.new w (.string s) (.string t) 24)
   have HB0 := Hq ((Below.refl w.heap.size w).alloc (Nat.le_refl _) (.cells #[.string s, .string t] 24))
   obtain ⟨W0, hW0⟩ : ∃ W0, w.alloc (.cells #[.string s, .string t] 24) = W0 := ⟨_, rfl⟩
   rw [hW0] at HX0 HB0
   have HW0 := Hq hW0
   clear hW0
   go_wp2_with fail
   rw [HW0.out]
   refine (HCK.out _).mono ?_
   rintro e w1 ⟨rfl, hb⟩
   have HB1 := Hq (HB0.out.trans (hb.mono HB0.out.size))
   clear hb
   go_wp2
   go_ret
   exact ⟨rfl, HB1.out⟩
theorem r13_Has (M O x : ByteArray) (hM : M.size ≤ 8) (hO : O.size ≤ 8) (hx : nvalid x = true) (w : World) : Calls Tryz.prog 113 #[gV M O, .string x] w (Ret (.bool (hasK M O x)) w) := by
 have HCK := Hq (r13_Check M O hM hO)
 have HV := Hq (r01_Valid x (by unfold nvalid at hx; simp at hx; omega))
 rw [hx] at HV
 by_cases hc : chkK M O = 0
 · obtain ⟨v1, v2, hcn⟩ := chkK_parts hc
   have HH := Hq (r13_has (num M) (num O) (num x) (num_small hM) (num_small hO) (num_lt (by unfold nvalid at hx; simp at hx; exact hx.1)))
   rw [← nS_num v1, ← nS_num v2, ← nS_num hx] at HH
   have hr : hasK M O x = hasN (num M) (num O) (num x) := by unfold hasK; rw [decide_eq_true hc, hx, Bool.true_and, Bool.true_and]
   rw [hr]
   obtain ⟨r, hr⟩ : ∃ r, hasN (num M) (num O) (num x) = r := ⟨_, rfl⟩
   rw [hr] at HH ⊢
   rw [hc] at HCK
   obtain ⟨s, hs⟩ : ∃ s, M = s := ⟨_, rfl⟩
   obtain ⟨t, ht⟩ : ∃ t, O = t := ⟨_, rfl⟩
   rw [hs, ht] at HCK HH ⊢
   clear hc v1 v2 hcn hr hM hO hx hs ht
   unfold gV at *
   go_enter Tryz.func113, Tryz.ntmps113
   have HX0 := Hq (Bx2.new w (.string s) (.string t) 24)
   have HB0 := Hq ((Below.refl w.heap.size w).alloc (Nat.le_refl _) (.cells #[.string s, .string t] 24))
   obtain ⟨W0, hW0⟩ : ∃ W0, w.alloc (.cells #[.string s, .string t] 24) = W0 := ⟨_, rfl⟩
   rw [hW0] at HX0 HB0
   have HW0 := Hq hW0
   clear hW0
   go_wp2_with fail
   rw [HW0.out]
   refine (HCK.out _).mono ?_
   rintro e w1 ⟨rfl, hb⟩
   have HB1 := Hq (HB0.out.trans (hb.mono HB0.out.size))
   have HX1 := HX0.out.next hb
   have c0 := HX1.c0
   have c1 := HX1.c1
   clear hb HX1
   go_wp2_with fail
   refine (HV.out _).mono ?_
   rintro e w2 ⟨rfl, rfl⟩
   go_wp2_with fail
   refine (HH.out _).mono ?_
   rintro e w2 ⟨rfl, hb⟩
   have HB2 := Hq (HB1.out.trans (hb.mono HB1.out.size))
   clear hb
   go_wp2
   go_ret
   exact ⟨rfl, HB2.out⟩
 · have hr : hasK M O x = false := by unfold hasK; rw [decide_eq_false hc]; rfl
   rw [hr]
   obtain ⟨c, hcc⟩ : ∃ c, chkK M O = c := ⟨_, rfl⟩
   rw [hcc] at HCK hc
   obtain ⟨s, hs⟩ : ∃ s, M = s := ⟨_, rfl⟩
   obtain ⟨t, ht⟩ : ∃ t, O = t := ⟨_, rfl⟩
   rw [hs, ht] at HCK ⊢
   have hcb : (c == 0) = false := by rw [beq_eq_false_iff_ne]; exact hc
   clear hc hcc hr hM hO hx hs ht
   unfold gV at *
   go_enter Tryz.func113, Tryz.ntmps113
   have HX0 := Hq (Bx2.new w (.string s) (.string t) 24)
   have HB0 := Hq ((Below.refl w.heap.size w).alloc (Nat.le_refl _) (.cells #[.string s, .string t] 24))
   obtain ⟨W0, hW0⟩ : ∃ W0, w.alloc (.cells #[.string s, .string t] 24) = W0 := ⟨_, rfl⟩
   rw [hW0] at HX0 HB0
   have HW0 := Hq hW0
   clear hW0
   go_wp2_with fail
   rw [HW0.out]
   refine (HCK.out _).mono ?_
   rintro e w1 ⟨rfl, hb⟩
   have HB1 := Hq (HB0.out.trans (hb.mono HB0.out.size))
   clear hb
   go_wp2
   go_ret
   exact ⟨rfl, HB1.out⟩
end Go.Proofs.YtehflcnjnnhojaaGreat

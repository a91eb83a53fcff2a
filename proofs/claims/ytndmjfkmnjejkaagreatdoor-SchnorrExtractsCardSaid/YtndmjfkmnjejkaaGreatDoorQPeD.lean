/- Walks: power.Check and dominoref13.Check in full. -/
import Derived.Test.YtndmjfkmnjejkaaGreatDoorQPeB
import Derived.Test.YtndmjfkmnjejkaaGreatDoorQOvr
set_option linter.unusedVariables false
set_option linter.unusedSimpArgs false
namespace Go.Proofs.YtndmjfkmnjejkaaGreatDoor
open Go.RowKit
theorem chkN_some {m o : Nat} (ho : 0 < o) : chkN m o = if m ≤ 1 ∨ o = 1 ∨ ¬ (m - 1) % o = 0 then 13 else 0 := by unfold chkN; rw [if_neg (by omega)]
set_option maxRecDepth 100000 in
set_option maxHeartbeats 4000000 in
theorem pw_Check_some (m o : Nat) (hm : m < 18446744073709551616) (ho8 : o < 256 ^ 128) (ho : 0 < o) (w : World) : Calls Tryz.prog 60 #[gV (nS m) (nS o)] w (Ret (.int .i64 (chkN m o)) w) := by
  rw [chkN_some ho]
  have HV1 := Lib.hid (nat_Valid (nS m) (by have := nS_small_size hm; omega))
  have HV2 := Lib.hid (nat_Valid (nS o) (by have := nS_size_le.2 ho8; omega))
  rw [nvalid_nS.2 (lt128_of_lt8 hm)] at HV1
  rw [nvalid_nS.2 ho8] at HV2
  have HO1 := Lib.hid (nat_Of 1 (by decide))
  have HO2 := Lib.hid (nat_Of 2 (by decide))
  have HCM := Lib.hid (nat_Cmp (nS o) (nS 2) (by have := nS_size_le.2 ho8; omega) (by decide))
  rw [ncmp_n (ho8) (by decide)] at HCM
  have HDM := Lib.hid (nat_DivMod (m - 1) o (by omega) (ho8) ho)
  have het := empty_nS ho
  have HSL := Lib.hid (fun (h : m < 1) w => rq_quiet (nat_Sub_less m 1 (lt128_of_lt8 hm) (by decide) h w))
  have HSG := Lib.hid (fun (h : 1 ≤ m) => nat_Sub_ge m 1 (lt128_of_lt8 hm) (by decide) h)
  obtain ⟨s, hs⟩ : ∃ s, nS m = s := ⟨_, rfl⟩
  obtain ⟨t, ht⟩ : ∃ t, nS o = t := ⟨_, rfl⟩
  obtain ⟨u1, hu1⟩ : ∃ u, nS 1 = u := ⟨_, rfl⟩
  obtain ⟨u2, hu2⟩ : ∃ u, nS 2 = u := ⟨_, rfl⟩
  rw [hs] at HV1 HSL HSG ⊢
  rw [ht] at HV2 HCM HDM het ⊢
  rw [hu2] at HCM
  rw [hu1] at HSL HSG
  have HO1 := Lib.hid (fun w => show Calls Tryz.prog 43 #[.int .u64 (1 : Nat)] w (Ret (.string u1) w) from by have := HO1.out w; rw [show bstr (encN 1) = u1 from hu1] at this; exact this)
  have HO2 := Lib.hid (fun w => show Calls Tryz.prog 43 #[.int .u64 (2 : Nat)] w (Ret (.string u2) w) from by have := HO2.out w; rw [show bstr (encN 2) = u2 from hu2] at this; exact this)
  clear hs ht hu1 hu2
  unfold gV
  rcases Nat.lt_or_ge m 1 with h1 | h1
  · have HSB := Lib.hid (HSL.out h1)
    rw [if_pos (.inl (by omega))]
    clear HSL HSG HDM h1 hm ho8 ho
    go_enter Tryz.func60, Tryz.ntmps60
    have HX0 := Lib.hid (Bx2.new w (.string s) (.string t) 24)
    have HB0 := Lib.hid ((Below.refl w.heap.size w).alloc (Nat.le_refl _) (.cells #[.string s, .string t] 24))
    obtain ⟨W0, hW0⟩ : ∃ W0, w.alloc (.cells #[.string s, .string t] 24) = W0 := ⟨_, rfl⟩
    rw [hW0] at HX0 HB0
    have HW0 := Lib.hid hW0
    clear hW0
    go_wp2_with fail
    rw [HW0.out]
    refine (HV1.out _).mono ?_
    rintro e w1 ⟨rfl, rfl⟩
    have c0 := HX0.out.c0
    have c1 := HX0.out.c1
    go_wp2_with fail
    refine (HV2.out _).mono ?_
    rintro e w1 ⟨rfl, rfl⟩
    go_wp2
    have d0 : W0.drew.cell? ⟨w.heap.size, 0, none⟩ = some (.string s) := c0
    have d1 : W0.drew.cell? ⟨w.heap.size, 1, none⟩ = some (.string t) := c1
    rename_i K7 hK7
    refine wp_onlyN ?_
    refine wp_region_K 9 (Below (W0.drew).heap.size (W0.drew)) (by kernel_rfl) ?_
    intro hD
    refine wpAnyK_pureD (i := 0) (d := some 33) (v := ?v7_0b1) (fuel := 8) rfl (by kernel_rfl) (by kernel_rfl) (fun _ _ _ h => h) hD (Below.refl _ _) (.inl ⟨by kernel_rfl, ?y7_0b1⟩) ?n7_0b1
    case y7_0b1 => intro w' _; go_simp; with_reducible rfl
    clear hD; intro hD
    simp only [Act.put, sqA, sqB, sqC]
    refine wpAnyK_takeSD (i := 1) (d := some 34) (v := ?v7_1b1) (fuel := 7) rfl (by kernel_rfl) (by kernel_rfl) (by kernel_rfl) (fun _ _ _ h => h) hD (Below.refl _ _) (.inl ⟨by kernel_rfl, ?y7_1b1⟩) ?n7_1b1
    case y7_1b1 => intro w' hS'; have e0 := cell_kept hS' (Nat.le_refl _) d0; have e1 := cell_kept hS' (Nat.le_refl _) d1; go_simp; with_reducible rfl
    clear hD; intro hD
    simp only [Act.put, sqA, sqB, sqC]
    refine wpAnyK_one (i := 2) (fuel := 6) (by kernel_rfl) rfl hD ?_
    clear hD; intro K2 hK2
    go_wp2_with fail
    refine (HO1.out _).mono ?_
    rintro e w2 ⟨rfl, hb⟩
    have HB2 := Lib.hid hb
    clear hb
    go_wp2
    refine hK2 _ _ (by exact HB2.out) ?_; clear hK2; intro hS_7_2 hD
    refine wpAnyK_one (i := 3) (fuel := 5) (by kernel_rfl) rfl hD ?_
    clear hD; intro K3 hK3
    go_wp2_with fail
    refine (HSB.out _).mono ?_
    rintro e w3 ⟨rfl, hb⟩
    have HB3 := Lib.hid hb
    clear hb
    go_wp2
    refine hK3 _ _ (by exact Below.trans hS_7_2 (Below.mono HB3.out (Below.size hS_7_2))) ?_; clear hK3; intro hS_7_3 hD
    refine wpAnyK_pureD (i := 4) (d := some 32) (v := ?v7_4b1) (fuel := 4) rfl (by kernel_rfl) (by kernel_rfl) (fun _ _ _ h => h) hD hS_7_3 (.inl ⟨by kernel_rfl, ?y7_4b1⟩) ?n7_4b1
    case y7_4b1 => intro w' _; go_simp; with_reducible rfl
    clear hD; intro hD
    simp only [Act.put, sqA, sqB, sqC]
    refine wpAnyK_pureD (i := 5) (d := some 37) (v := ?v7_5b1) (fuel := 3) rfl (by kernel_rfl) (by kernel_rfl) (fun _ _ _ h => h) hD hS_7_3 (.inl ⟨by kernel_rfl, ?y7_5b1⟩) ?n7_5b1
    case y7_5b1 => intro w' _; go_simp; with_reducible rfl
    clear hD; intro hD
    simp only [Act.put, sqA, sqB, sqC]
    refine wpAnyK_pureD (i := 6) (d := some 38) (v := ?v7_6b1) (fuel := 2) rfl (by kernel_rfl) (by kernel_rfl) (fun _ _ _ h => h) hD hS_7_3 (.inl ⟨by kernel_rfl, ?y7_6b1⟩) ?n7_6b1
    case y7_6b1 => intro w' _; go_simp; with_reducible rfl
    clear hD; intro hD
    simp only [Act.put, sqA, sqB, sqC]
    refine wpAnyK_one (i := 7) (fuel := 1) (by kernel_rfl) rfl hD ?_
    clear hD; intro K7 hK7
    go_wp2
    refine hK7 _ _ (by exact hS_7_3) ?_; clear hK7; intro hS_7_7 hD
    refine wpAnyK_one (i := 8) (fuel := 0) (by kernel_rfl) rfl hD ?_
    clear hD; intro K8 hK8
    go_wp2
    refine hK8 _ _ (by exact hS_7_7) ?_; clear hK8; intro hS_7_8 hD
    refine wpAnyK_done (by kernel_rfl) ?_ 0
    clear hD d0 d1
    have hS7 := (Below.refl W0.heap.size W0).drew.trans hS_7_8
    have HX7 := Lib.hid (HX0.out.next hS7)
    have HB7 := Lib.hid (HB0.out.trans (hS7.mono HB0.out.size))
    clear hS7
    refine hK7 _ _ ?_
    have e0 : w3.drew.cell? ⟨w.heap.size, 0, none⟩ = some (.string s) := HX7.out.c0
    have e1 : w3.drew.cell? ⟨w.heap.size, 1, none⟩ = some (.string t) := HX7.out.c1
    clear c0 c1
    go_wp2
    rename_i K8 hK8
    refine wp_onlyN ?_
    refine wp_region_K 13 (Below (w3.drew).heap.size (w3.drew)) (by kernel_rfl) ?_
    intro hD
    refine wpAnyK_pureD (i := 0) (d := some 39) (v := ?v8_0b2) (fuel := 12) rfl (by kernel_rfl) (by kernel_rfl) (fun _ _ _ h => h) hD (Below.refl _ _) (.inl ⟨by kernel_rfl, ?y8_0b2⟩) ?n8_0b2
    case y8_0b2 => intro w' _; go_simp; with_reducible rfl
    clear hD; intro hD
    simp only [Act.put, sqA, sqB, sqC]
    refine wpAnyK_pureD (i := 1) (d := some 40) (v := ?v8_1b2) (fuel := 11) rfl (by kernel_rfl) (by kernel_rfl) (fun _ _ _ h => h) hD (Below.refl _ _) (.inl ⟨by kernel_rfl, ?y8_1b2⟩) ?n8_1b2
    case y8_1b2 => intro w' _; go_simp; with_reducible rfl
    clear hD; intro hD
    simp only [Act.put, sqA, sqB, sqC]
    refine wpAnyK_pureD (i := 2) (d := some 41) (v := ?v8_2b2) (fuel := 10) rfl (by kernel_rfl) (by kernel_rfl) (fun _ _ _ h => h) hD (Below.refl _ _) (.inl ⟨by kernel_rfl, ?y8_2b2⟩) ?n8_2b2
    case y8_2b2 => intro w' _; go_simp; with_reducible rfl
    clear hD; intro hD
    simp only [Act.put, sqA, sqB, sqC]
    refine wpAnyK_pureD (i := 3) (d := some 42) (v := undef) (fuel := 9) rfl (by kernel_rfl) (by kernel_rfl) (fun _ _ _ h => h) hD (Below.refl _ _) (.inr ⟨by kernel_rfl, rfl⟩) ?_
    clear hD; intro hD
    simp only [Act.put, sqA, sqB, sqC]
    refine wpAnyK_pureD (i := 4) (d := some 43) (v := undef) (fuel := 8) rfl (by kernel_rfl) (by kernel_rfl) (fun _ _ _ h => h) hD (Below.refl _ _) (.inr ⟨by kernel_rfl, rfl⟩) ?_
    clear hD; intro hD
    simp only [Act.put, sqA, sqB, sqC]
    refine wpAnyK_pureD (i := 5) (d := some 44) (v := ?v8_5b2) (fuel := 7) rfl (by kernel_rfl) (by kernel_rfl) (fun _ _ _ h => h) hD (Below.refl _ _) (.inl ⟨by kernel_rfl, ?y8_5b2⟩) ?n8_5b2
    case y8_5b2 => intro w' _; go_simp; with_reducible rfl
    clear hD; intro hD
    simp only [Act.put, sqA, sqB, sqC]
    refine wpAnyK_pureD (i := 6) (d := some 45) (v := ?v8_6b2) (fuel := 6) rfl (by kernel_rfl) (by kernel_rfl) (fun _ _ _ h => h) hD (Below.refl _ _) (.inl ⟨by kernel_rfl, ?y8_6b2⟩) ?n8_6b2
    case y8_6b2 => intro w' _; go_simp; with_reducible rfl
    clear hD; intro hD
    simp only [Act.put, sqA, sqB, sqC]
    refine wpAnyK_pureD (i := 7) (d := some 46) (v := undef) (fuel := 5) rfl (by kernel_rfl) (by kernel_rfl) (fun _ _ _ h => h) hD (Below.refl _ _) (.inr ⟨by kernel_rfl, rfl⟩) ?_
    clear hD; intro hD
    simp only [Act.put, sqA, sqB, sqC]
    refine wpAnyK_pureD (i := 8) (d := some 47) (v := undef) (fuel := 4) rfl (by kernel_rfl) (by kernel_rfl) (fun _ _ _ h => h) hD (Below.refl _ _) (.inr ⟨by kernel_rfl, rfl⟩) ?_
    clear hD; intro hD
    simp only [Act.put, sqA, sqB, sqC]
    refine wpAnyK_pureD (i := 9) (d := some 48) (v := undef) (fuel := 3) rfl (by kernel_rfl) (by kernel_rfl) (fun _ _ _ h => h) hD (Below.refl _ _) (.inr ⟨by kernel_rfl, rfl⟩) ?_
    clear hD; intro hD
    simp only [Act.put, sqA, sqB, sqC]
    refine wpAnyK_pureD (i := 10) (d := some 49) (v := undef) (fuel := 2) rfl (by kernel_rfl) (by kernel_rfl) (fun _ _ _ h => h) hD (Below.refl _ _) (.inr ⟨by kernel_rfl, rfl⟩) ?_
    clear hD; intro hD
    simp only [Act.put, sqA, sqB, sqC]
    refine wpAnyK_pureD (i := 11) (d := some 50) (v := undef) (fuel := 1) rfl (by kernel_rfl) (by kernel_rfl) (fun _ _ _ h => h) hD (Below.refl _ _) (.inr ⟨by kernel_rfl, rfl⟩) ?_
    clear hD; intro hD
    simp only [Act.put, sqA, sqB, sqC]
    refine wpAnyK_pureD (i := 12) (d := some 51) (v := ?v8_12b2) (fuel := 0) rfl (by kernel_rfl) (by kernel_rfl) (fun _ _ _ h => h) hD (Below.refl _ _) (.inl ⟨by kernel_rfl, ?y8_12b2⟩) ?n8_12b2
    case y8_12b2 => intro w' _; go_simp; with_reducible rfl
    clear hD; intro hD
    simp only [Act.put, sqA, sqB, sqC]
    refine wpAnyK_done (by kernel_rfl) ?_ 0
    clear hD
    have HSX := Lib.hid (HB7.out.trans (((Below.refl w3.heap.size w3).drew.trans (Below.refl _ _)).mono HB7.out.size))
    refine hK8 _ _ ?_
    go_wp2
    go_ret
    exact ⟨rfl, HSX.out⟩
  · have HSB := Lib.hid (HSG.out h1)
    by_cases hm1 : m = 1
    · rw [if_pos (.inl (by omega))]
      rw [hm1, Nat.sub_self, nS_zero] at HSB
      clear HSL HSG HDM h1 hm ho8 ho hm1
      go_enter Tryz.func60, Tryz.ntmps60
      have HX0 := Lib.hid (Bx2.new w (.string s) (.string t) 24)
      have HB0 := Lib.hid ((Below.refl w.heap.size w).alloc (Nat.le_refl _) (.cells #[.string s, .string t] 24))
      obtain ⟨W0, hW0⟩ : ∃ W0, w.alloc (.cells #[.string s, .string t] 24) = W0 := ⟨_, rfl⟩
      rw [hW0] at HX0 HB0
      have HW0 := Lib.hid hW0
      clear hW0
      go_wp2_with fail
      rw [HW0.out]
      refine (HV1.out _).mono ?_
      rintro e w1 ⟨rfl, rfl⟩
      have c0 := HX0.out.c0
      have c1 := HX0.out.c1
      go_wp2_with fail
      refine (HV2.out _).mono ?_
      rintro e w1 ⟨rfl, rfl⟩
      go_wp2
      have d0 : W0.drew.cell? ⟨w.heap.size, 0, none⟩ = some (.string s) := c0
      have d1 : W0.drew.cell? ⟨w.heap.size, 1, none⟩ = some (.string t) := c1
      rename_i K7 hK7
      refine wp_onlyN ?_
      refine wp_region_K 9 (Below (W0.drew).heap.size (W0.drew)) (by kernel_rfl) ?_
      intro hD
      refine wpAnyK_pureD (i := 0) (d := some 33) (v := ?v7_0b3) (fuel := 8) rfl (by kernel_rfl) (by kernel_rfl) (fun _ _ _ h => h) hD (Below.refl _ _) (.inl ⟨by kernel_rfl, ?y7_0b3⟩) ?n7_0b3
      case y7_0b3 => intro w' _; go_simp; with_reducible rfl
      clear hD; intro hD
      simp only [Act.put, sqA, sqB, sqC]
      refine wpAnyK_takeSD (i := 1) (d := some 34) (v := ?v7_1b3) (fuel := 7) rfl (by kernel_rfl) (by kernel_rfl) (by kernel_rfl) (fun _ _ _ h => h) hD (Below.refl _ _) (.inl ⟨by kernel_rfl, ?y7_1b3⟩) ?n7_1b3
      case y7_1b3 => intro w' hS'; have e0 := cell_kept hS' (Nat.le_refl _) d0; have e1 := cell_kept hS' (Nat.le_refl _) d1; go_simp; with_reducible rfl
      clear hD; intro hD
      simp only [Act.put, sqA, sqB, sqC]
      refine wpAnyK_one (i := 2) (fuel := 6) (by kernel_rfl) rfl hD ?_
      clear hD; intro K2 hK2
      go_wp2_with fail
      refine (HO1.out _).mono ?_
      rintro e w2 ⟨rfl, hb⟩
      have HB2 := Lib.hid hb
      clear hb
      go_wp2
      refine hK2 _ _ (by exact HB2.out) ?_; clear hK2; intro hS_7_2 hD
      refine wpAnyK_one (i := 3) (fuel := 5) (by kernel_rfl) rfl hD ?_
      clear hD; intro K3 hK3
      go_wp2_with fail
      refine (HSB.out _).mono ?_
      rintro e w3 ⟨rfl, hb⟩
      have HB3 := Lib.hid hb
      clear hb
      go_wp2
      refine hK3 _ _ (by exact Below.trans hS_7_2 (Below.mono HB3.out (Below.size hS_7_2))) ?_; clear hK3; intro hS_7_3 hD
      refine wpAnyK_pureD (i := 4) (d := some 32) (v := ?v7_4b3) (fuel := 4) rfl (by kernel_rfl) (by kernel_rfl) (fun _ _ _ h => h) hD hS_7_3 (.inl ⟨by kernel_rfl, ?y7_4b3⟩) ?n7_4b3
      case y7_4b3 => intro w' _; go_simp; with_reducible rfl
      clear hD; intro hD
      simp only [Act.put, sqA, sqB, sqC]
      refine wpAnyK_pureD (i := 5) (d := some 37) (v := ?v7_5b3) (fuel := 3) rfl (by kernel_rfl) (by kernel_rfl) (fun _ _ _ h => h) hD hS_7_3 (.inl ⟨by kernel_rfl, ?y7_5b3⟩) ?n7_5b3
      case y7_5b3 => intro w' _; go_simp; with_reducible rfl
      clear hD; intro hD
      simp only [Act.put, sqA, sqB, sqC]
      refine wpAnyK_pureD (i := 6) (d := some 38) (v := ?v7_6b3) (fuel := 2) rfl (by kernel_rfl) (by kernel_rfl) (fun _ _ _ h => h) hD hS_7_3 (.inl ⟨by kernel_rfl, ?y7_6b3⟩) ?n7_6b3
      case y7_6b3 => intro w' _; go_simp; with_reducible rfl
      clear hD; intro hD
      simp only [Act.put, sqA, sqB, sqC]
      refine wpAnyK_one (i := 7) (fuel := 1) (by kernel_rfl) rfl hD ?_
      clear hD; intro K7 hK7
      go_wp2
      refine hK7 _ _ (by exact hS_7_3) ?_; clear hK7; intro hS_7_7 hD
      refine wpAnyK_one (i := 8) (fuel := 0) (by kernel_rfl) rfl hD ?_
      clear hD; intro K8 hK8
      go_wp2
      refine hK8 _ _ (by exact hS_7_7) ?_; clear hK8; intro hS_7_8 hD
      refine wpAnyK_done (by kernel_rfl) ?_ 0
      clear hD d0 d1
      have hS7 := (Below.refl W0.heap.size W0).drew.trans hS_7_8
      have HX7 := Lib.hid (HX0.out.next hS7)
      have HB7 := Lib.hid (HB0.out.trans (hS7.mono HB0.out.size))
      clear hS7
      refine hK7 _ _ ?_
      have e0 : w3.drew.cell? ⟨w.heap.size, 0, none⟩ = some (.string s) := HX7.out.c0
      have e1 : w3.drew.cell? ⟨w.heap.size, 1, none⟩ = some (.string t) := HX7.out.c1
      clear c0 c1
      go_wp2
      rename_i K8 hK8
      refine wp_onlyN ?_
      refine wp_region_K 13 (Below (w3.drew).heap.size (w3.drew)) (by kernel_rfl) ?_
      intro hD
      refine wpAnyK_pureD (i := 0) (d := some 39) (v := ?v8_0b4) (fuel := 12) rfl (by kernel_rfl) (by kernel_rfl) (fun _ _ _ h => h) hD (Below.refl _ _) (.inl ⟨by kernel_rfl, ?y8_0b4⟩) ?n8_0b4
      case y8_0b4 => intro w' _; go_simp; with_reducible rfl
      clear hD; intro hD
      simp only [Act.put, sqA, sqB, sqC]
      refine wpAnyK_pureD (i := 1) (d := some 40) (v := ?v8_1b4) (fuel := 11) rfl (by kernel_rfl) (by kernel_rfl) (fun _ _ _ h => h) hD (Below.refl _ _) (.inl ⟨by kernel_rfl, ?y8_1b4⟩) ?n8_1b4
      case y8_1b4 => intro w' _; go_simp; with_reducible rfl
      clear hD; intro hD
      simp only [Act.put, sqA, sqB, sqC]
      refine wpAnyK_pureD (i := 2) (d := some 41) (v := ?v8_2b4) (fuel := 10) rfl (by kernel_rfl) (by kernel_rfl) (fun _ _ _ h => h) hD (Below.refl _ _) (.inl ⟨by kernel_rfl, ?y8_2b4⟩) ?n8_2b4
      case y8_2b4 => intro w' _; go_simp; with_reducible rfl
      clear hD; intro hD
      simp only [Act.put, sqA, sqB, sqC]
      refine wpAnyK_pureD (i := 3) (d := some 42) (v := ?v8_3b4) (fuel := 9) rfl (by kernel_rfl) (by kernel_rfl) (fun _ _ _ h => h) hD (Below.refl _ _) (.inl ⟨by kernel_rfl, ?y8_3b4⟩) ?n8_3b4
      case y8_3b4 => intro w' _; go_simp; with_reducible rfl
      clear hD; intro hD
      simp only [Act.put, sqA, sqB, sqC]
      refine wpAnyK_pureD (i := 4) (d := some 43) (v := ?v8_4b4) (fuel := 8) rfl (by kernel_rfl) (by kernel_rfl) (fun _ _ _ h => h) hD (Below.refl _ _) (.inl ⟨by kernel_rfl, ?y8_4b4⟩) ?n8_4b4
      case y8_4b4 => intro w' _; go_simp; with_reducible rfl
      clear hD; intro hD
      simp only [Act.put, sqA, sqB, sqC]
      refine wpAnyK_pureD (i := 5) (d := some 44) (v := ?v8_5b4) (fuel := 7) rfl (by kernel_rfl) (by kernel_rfl) (fun _ _ _ h => h) hD (Below.refl _ _) (.inl ⟨by kernel_rfl, ?y8_5b4⟩) ?n8_5b4
      case y8_5b4 => intro w' _; go_simp; with_reducible rfl
      clear hD; intro hD
      simp only [Act.put, sqA, sqB, sqC]
      refine wpAnyK_pureD (i := 6) (d := some 45) (v := ?v8_6b4) (fuel := 6) rfl (by kernel_rfl) (by kernel_rfl) (fun _ _ _ h => h) hD (Below.refl _ _) (.inl ⟨by kernel_rfl, ?y8_6b4⟩) ?n8_6b4
      case y8_6b4 => intro w' _; go_simp; with_reducible rfl
      clear hD; intro hD
      simp only [Act.put, sqA, sqB, sqC]
      refine wpAnyK_pureD (i := 7) (d := some 46) (v := undef) (fuel := 5) rfl (by kernel_rfl) (by kernel_rfl) (fun _ _ _ h => h) hD (Below.refl _ _) (.inr ⟨by kernel_rfl, rfl⟩) ?_
      clear hD; intro hD
      simp only [Act.put, sqA, sqB, sqC]
      refine wpAnyK_pureD (i := 8) (d := some 47) (v := undef) (fuel := 4) rfl (by kernel_rfl) (by kernel_rfl) (fun _ _ _ h => h) hD (Below.refl _ _) (.inr ⟨by kernel_rfl, rfl⟩) ?_
      clear hD; intro hD
      simp only [Act.put, sqA, sqB, sqC]
      refine wpAnyK_pureD (i := 9) (d := some 48) (v := undef) (fuel := 3) rfl (by kernel_rfl) (by kernel_rfl) (fun _ _ _ h => h) hD (Below.refl _ _) (.inr ⟨by kernel_rfl, rfl⟩) ?_
      clear hD; intro hD
      simp only [Act.put, sqA, sqB, sqC]
      refine wpAnyK_pureD (i := 10) (d := some 49) (v := undef) (fuel := 2) rfl (by kernel_rfl) (by kernel_rfl) (fun _ _ _ h => h) hD (Below.refl _ _) (.inr ⟨by kernel_rfl, rfl⟩) ?_
      clear hD; intro hD
      simp only [Act.put, sqA, sqB, sqC]
      refine wpAnyK_pureD (i := 11) (d := some 50) (v := undef) (fuel := 1) rfl (by kernel_rfl) (by kernel_rfl) (fun _ _ _ h => h) hD (Below.refl _ _) (.inr ⟨by kernel_rfl, rfl⟩) ?_
      clear hD; intro hD
      simp only [Act.put, sqA, sqB, sqC]
      refine wpAnyK_pureD (i := 12) (d := some 51) (v := ?v8_12b4) (fuel := 0) rfl (by kernel_rfl) (by kernel_rfl) (fun _ _ _ h => h) hD (Below.refl _ _) (.inl ⟨by kernel_rfl, ?y8_12b4⟩) ?n8_12b4
      case y8_12b4 => intro w' _; go_simp; with_reducible rfl
      clear hD; intro hD
      simp only [Act.put, sqA, sqB, sqC]
      refine wpAnyK_done (by kernel_rfl) ?_ 0
      clear hD
      have HSX := Lib.hid (HB7.out.trans (((Below.refl w3.heap.size w3).drew.trans (Below.refl _ _)).mono HB7.out.size))
      refine hK8 _ _ ?_
      go_wp2
      go_ret
      exact ⟨rfl, HSX.out⟩
    · have hel := empty_nS (n := m - 1) (by omega)
      obtain ⟨l, hl⟩ : ∃ l, nS (m - 1) = l := ⟨_, rfl⟩
      rw [hl] at HSB HDM hel
      by_cases ho1 : o = 1
      · have hg : cmpI o 2 < 0 := by rw [ho1]; decide
        obtain ⟨c, hc⟩ : ∃ c, cmpI o 2 = c := ⟨_, rfl⟩
        rw [hc] at hg HCM
        rw [if_pos (.inr (.inl ho1))]
        clear HSL HSG HDM h1 hm ho8 ho hm1 hl hc ho1
        go_enter Tryz.func60, Tryz.ntmps60
        have HX0 := Lib.hid (Bx2.new w (.string s) (.string t) 24)
        have HB0 := Lib.hid ((Below.refl w.heap.size w).alloc (Nat.le_refl _) (.cells #[.string s, .string t] 24))
        obtain ⟨W0, hW0⟩ : ∃ W0, w.alloc (.cells #[.string s, .string t] 24) = W0 := ⟨_, rfl⟩
        rw [hW0] at HX0 HB0
        have HW0 := Lib.hid hW0
        clear hW0
        go_wp2_with fail
        rw [HW0.out]
        refine (HV1.out _).mono ?_
        rintro e w1 ⟨rfl, rfl⟩
        have c0 := HX0.out.c0
        have c1 := HX0.out.c1
        go_wp2_with fail
        refine (HV2.out _).mono ?_
        rintro e w1 ⟨rfl, rfl⟩
        go_wp2
        have d0 : W0.drew.cell? ⟨w.heap.size, 0, none⟩ = some (.string s) := c0
        have d1 : W0.drew.cell? ⟨w.heap.size, 1, none⟩ = some (.string t) := c1
        rename_i K7 hK7
        refine wp_onlyN ?_
        refine wp_region_K 9 (Below (W0.drew).heap.size (W0.drew)) (by kernel_rfl) ?_
        intro hD
        refine wpAnyK_pureD (i := 0) (d := some 33) (v := ?v7_0b5) (fuel := 8) rfl (by kernel_rfl) (by kernel_rfl) (fun _ _ _ h => h) hD (Below.refl _ _) (.inl ⟨by kernel_rfl, ?y7_0b5⟩) ?n7_0b5
        case y7_0b5 => intro w' _; go_simp; with_reducible rfl
        clear hD; intro hD
        simp only [Act.put, sqA, sqB, sqC]
        refine wpAnyK_takeSD (i := 1) (d := some 34) (v := ?v7_1b5) (fuel := 7) rfl (by kernel_rfl) (by kernel_rfl) (by kernel_rfl) (fun _ _ _ h => h) hD (Below.refl _ _) (.inl ⟨by kernel_rfl, ?y7_1b5⟩) ?n7_1b5
        case y7_1b5 => intro w' hS'; have e0 := cell_kept hS' (Nat.le_refl _) d0; have e1 := cell_kept hS' (Nat.le_refl _) d1; go_simp; with_reducible rfl
        clear hD; intro hD
        simp only [Act.put, sqA, sqB, sqC]
        refine wpAnyK_one (i := 2) (fuel := 6) (by kernel_rfl) rfl hD ?_
        clear hD; intro K2 hK2
        go_wp2_with fail
        refine (HO1.out _).mono ?_
        rintro e w2 ⟨rfl, hb⟩
        have HB2 := Lib.hid hb
        clear hb
        go_wp2
        refine hK2 _ _ (by exact HB2.out) ?_; clear hK2; intro hS_7_2 hD
        refine wpAnyK_one (i := 3) (fuel := 5) (by kernel_rfl) rfl hD ?_
        clear hD; intro K3 hK3
        go_wp2_with fail
        refine (HSB.out _).mono ?_
        rintro e w3 ⟨rfl, hb⟩
        have HB3 := Lib.hid hb
        clear hb
        go_wp2
        refine hK3 _ _ (by exact Below.trans hS_7_2 (Below.mono HB3.out (Below.size hS_7_2))) ?_; clear hK3; intro hS_7_3 hD
        refine wpAnyK_pureD (i := 4) (d := some 32) (v := ?v7_4b5) (fuel := 4) rfl (by kernel_rfl) (by kernel_rfl) (fun _ _ _ h => h) hD hS_7_3 (.inl ⟨by kernel_rfl, ?y7_4b5⟩) ?n7_4b5
        case y7_4b5 => intro w' _; go_simp; with_reducible rfl
        clear hD; intro hD
        simp only [Act.put, sqA, sqB, sqC]
        refine wpAnyK_pureD (i := 5) (d := some 37) (v := ?v7_5b5) (fuel := 3) rfl (by kernel_rfl) (by kernel_rfl) (fun _ _ _ h => h) hD hS_7_3 (.inl ⟨by kernel_rfl, ?y7_5b5⟩) ?n7_5b5
        case y7_5b5 => intro w' _; go_simp; with_reducible rfl
        clear hD; intro hD
        simp only [Act.put, sqA, sqB, sqC]
        refine wpAnyK_pureD (i := 6) (d := some 38) (v := ?v7_6b5) (fuel := 2) rfl (by kernel_rfl) (by kernel_rfl) (fun _ _ _ h => h) hD hS_7_3 (.inl ⟨by kernel_rfl, ?y7_6b5⟩) ?n7_6b5
        case y7_6b5 => intro w' _; go_simp; with_reducible rfl
        clear hD; intro hD
        simp only [Act.put, sqA, sqB, sqC]
        refine wpAnyK_one (i := 7) (fuel := 1) (by kernel_rfl) rfl hD ?_
        clear hD; intro K7 hK7
        go_wp2
        refine hK7 _ _ (by exact hS_7_3) ?_; clear hK7; intro hS_7_7 hD
        refine wpAnyK_one (i := 8) (fuel := 0) (by kernel_rfl) rfl hD ?_
        clear hD; intro K8 hK8
        go_wp2
        refine hK8 _ _ (by exact hS_7_7) ?_; clear hK8; intro hS_7_8 hD
        refine wpAnyK_done (by kernel_rfl) ?_ 0
        clear hD d0 d1
        have hS7 := (Below.refl W0.heap.size W0).drew.trans hS_7_8
        have HX7 := Lib.hid (HX0.out.next hS7)
        have HB7 := Lib.hid (HB0.out.trans (hS7.mono HB0.out.size))
        clear hS7
        refine hK7 _ _ ?_
        have e0 : w3.drew.cell? ⟨w.heap.size, 0, none⟩ = some (.string s) := HX7.out.c0
        have e1 : w3.drew.cell? ⟨w.heap.size, 1, none⟩ = some (.string t) := HX7.out.c1
        clear c0 c1
        go_wp2
        rename_i K8 hK8
        refine wp_onlyN ?_
        refine wp_region_K 13 (Below (w3.drew).heap.size (w3.drew)) (by kernel_rfl) ?_
        intro hD
        refine wpAnyK_pureD (i := 0) (d := some 39) (v := ?v8_0b6) (fuel := 12) rfl (by kernel_rfl) (by kernel_rfl) (fun _ _ _ h => h) hD (Below.refl _ _) (.inl ⟨by kernel_rfl, ?y8_0b6⟩) ?n8_0b6
        case y8_0b6 => intro w' _; go_simp; with_reducible rfl
        clear hD; intro hD
        simp only [Act.put, sqA, sqB, sqC]
        refine wpAnyK_pureD (i := 1) (d := some 40) (v := ?v8_1b6) (fuel := 11) rfl (by kernel_rfl) (by kernel_rfl) (fun _ _ _ h => h) hD (Below.refl _ _) (.inl ⟨by kernel_rfl, ?y8_1b6⟩) ?n8_1b6
        case y8_1b6 => intro w' _; go_simp; with_reducible rfl
        clear hD; intro hD
        simp only [Act.put, sqA, sqB, sqC]
        refine wpAnyK_pureD (i := 2) (d := some 41) (v := ?v8_2b6) (fuel := 10) rfl (by kernel_rfl) (by kernel_rfl) (fun _ _ _ h => h) hD (Below.refl _ _) (.inl ⟨by kernel_rfl, ?y8_2b6⟩) ?n8_2b6
        case y8_2b6 => intro w' _; go_simp; with_reducible rfl
        clear hD; intro hD
        simp only [Act.put, sqA, sqB, sqC]
        refine wpAnyK_pureD (i := 3) (d := some 42) (v := ?v8_3b6) (fuel := 9) rfl (by kernel_rfl) (by kernel_rfl) (fun _ _ _ h => h) hD (Below.refl _ _) (.inl ⟨by kernel_rfl, ?y8_3b6⟩) ?n8_3b6
        case y8_3b6 => intro w' _; go_simp; with_reducible rfl
        clear hD; intro hD
        simp only [Act.put, sqA, sqB, sqC]
        refine wpAnyK_pureD (i := 4) (d := some 43) (v := ?v8_4b6) (fuel := 8) rfl (by kernel_rfl) (by kernel_rfl) (fun _ _ _ h => h) hD (Below.refl _ _) (.inl ⟨by kernel_rfl, ?y8_4b6⟩) ?n8_4b6
        case y8_4b6 => intro w' _; go_simp; with_reducible rfl
        clear hD; intro hD
        simp only [Act.put, sqA, sqB, sqC]
        refine wpAnyK_pureD (i := 5) (d := some 44) (v := ?v8_5b6) (fuel := 7) rfl (by kernel_rfl) (by kernel_rfl) (fun _ _ _ h => h) hD (Below.refl _ _) (.inl ⟨by kernel_rfl, ?y8_5b6⟩) ?n8_5b6
        case y8_5b6 => intro w' _; go_simp; with_reducible rfl
        clear hD; intro hD
        simp only [Act.put, sqA, sqB, sqC]
        refine wpAnyK_pureD (i := 6) (d := some 45) (v := ?v8_6b6) (fuel := 6) rfl (by kernel_rfl) (by kernel_rfl) (fun _ _ _ h => h) hD (Below.refl _ _) (.inl ⟨by kernel_rfl, ?y8_6b6⟩) ?n8_6b6
        case y8_6b6 => intro w' _; go_simp; with_reducible rfl
        clear hD; intro hD
        simp only [Act.put, sqA, sqB, sqC]
        refine wpAnyK_pureD (i := 7) (d := some 46) (v := ?v8_7b6) (fuel := 5) rfl (by kernel_rfl) (by kernel_rfl) (fun _ _ _ h => h) hD (Below.refl _ _) (.inl ⟨by kernel_rfl, ?y8_7b6⟩) ?n8_7b6
        case y8_7b6 => intro w' _; go_simp; with_reducible rfl
        clear hD; intro hD
        simp only [Act.put, sqA, sqB, sqC]
        refine wpAnyK_takeSD (i := 8) (d := some 47) (v := ?v8_8b6) (fuel := 4) rfl (by kernel_rfl) (by kernel_rfl) (by kernel_rfl) (fun _ _ _ h => h) hD (Below.refl _ _) (.inl ⟨by kernel_rfl, ?y8_8b6⟩) ?n8_8b6
        case y8_8b6 => intro w' hS'; have e0 := cell_kept hS' (Nat.le_refl _) e0; have e1 := cell_kept hS' (Nat.le_refl _) e1; go_simp; with_reducible rfl
        clear hD; intro hD
        simp only [Act.put, sqA, sqB, sqC]
        refine wpAnyK_one (i := 9) (fuel := 3) (by kernel_rfl) rfl hD ?_
        clear hD; intro K9 hK9
        go_wp2_with fail
        refine (HO2.out _).mono ?_
        rintro e w9 ⟨rfl, hb⟩
        have HB9 := Lib.hid hb
        clear hb
        go_wp2
        refine hK9 _ _ (by exact HB9.out) ?_; clear hK9; intro hS_8_9 hD
        refine wpAnyK_one (i := 10) (fuel := 2) (by kernel_rfl) rfl hD ?_
        clear hD; intro K10 hK10
        go_wp2_with fail
        refine (HCM.out _).mono ?_
        rintro e w10 ⟨rfl, rfl⟩
        have HB10 := Lib.hid (Below.refl w9.heap.size w9)
        go_wp2
        refine hK10 _ _ (by exact Below.trans hS_8_9 (Below.mono HB10.out (Below.size hS_8_9))) ?_; clear hK10; intro hS_8_10 hD
        refine wpAnyK_pureD (i := 11) (d := some 50) (v := ?v8_11b6) (fuel := 1) rfl (by kernel_rfl) (by kernel_rfl) (fun _ _ _ h => h) hD hS_8_10 (.inl ⟨by kernel_rfl, ?y8_11b6⟩) ?n8_11b6
        case y8_11b6 => intro w' _; go_simp; with_reducible rfl
        clear hD; intro hD
        simp only [Act.put, sqA, sqB, sqC]
        refine wpAnyK_pureD (i := 12) (d := some 51) (v := ?v8_12b6) (fuel := 0) rfl (by kernel_rfl) (by kernel_rfl) (fun _ _ _ h => h) hD hS_8_10 (.inl ⟨by kernel_rfl, ?y8_12b6⟩) ?n8_12b6
        case y8_12b6 => intro w' _; go_simp; with_reducible rfl
        clear hD; intro hD
        simp only [Act.put, sqA, sqB, sqC]
        refine wpAnyK_done (by kernel_rfl) ?_ 0
        clear hD
        have HSX := Lib.hid (HB7.out.trans (((Below.refl w3.heap.size w3).drew.trans hS_8_10).mono HB7.out.size))
        refine hK8 _ _ ?_
        go_wp2
        go_ret
        exact ⟨rfl, HSX.out⟩
      · have hg := cmpI_nonneg (x := o) (y := 2) (by omega)
        obtain ⟨c, hc⟩ : ∃ c, cmpI o 2 = c := ⟨_, rfl⟩
        rw [hc] at hg HCM
        by_cases hr : (m - 1) % o = 0
        · rw [if_neg (by omega)]
          rw [hr, nS_zero] at HDM
          clear HSL HSG h1 hm ho8 ho hm1 hl hc ho1 hr
          go_enter Tryz.func60, Tryz.ntmps60
          have HX0 := Lib.hid (Bx2.new w (.string s) (.string t) 24)
          have HB0 := Lib.hid ((Below.refl w.heap.size w).alloc (Nat.le_refl _) (.cells #[.string s, .string t] 24))
          obtain ⟨W0, hW0⟩ : ∃ W0, w.alloc (.cells #[.string s, .string t] 24) = W0 := ⟨_, rfl⟩
          rw [hW0] at HX0 HB0
          have HW0 := Lib.hid hW0
          clear hW0
          go_wp2_with fail
          rw [HW0.out]
          refine (HV1.out _).mono ?_
          rintro e w1 ⟨rfl, rfl⟩
          have c0 := HX0.out.c0
          have c1 := HX0.out.c1
          go_wp2_with fail
          refine (HV2.out _).mono ?_
          rintro e w1 ⟨rfl, rfl⟩
          go_wp2
          have d0 : W0.drew.cell? ⟨w.heap.size, 0, none⟩ = some (.string s) := c0
          have d1 : W0.drew.cell? ⟨w.heap.size, 1, none⟩ = some (.string t) := c1
          rename_i K7 hK7
          refine wp_onlyN ?_
          refine wp_region_K 9 (Below (W0.drew).heap.size (W0.drew)) (by kernel_rfl) ?_
          intro hD
          refine wpAnyK_pureD (i := 0) (d := some 33) (v := ?v7_0b7) (fuel := 8) rfl (by kernel_rfl) (by kernel_rfl) (fun _ _ _ h => h) hD (Below.refl _ _) (.inl ⟨by kernel_rfl, ?y7_0b7⟩) ?n7_0b7
          case y7_0b7 => intro w' _; go_simp; with_reducible rfl
          clear hD; intro hD
          simp only [Act.put, sqA, sqB, sqC]
          refine wpAnyK_takeSD (i := 1) (d := some 34) (v := ?v7_1b7) (fuel := 7) rfl (by kernel_rfl) (by kernel_rfl) (by kernel_rfl) (fun _ _ _ h => h) hD (Below.refl _ _) (.inl ⟨by kernel_rfl, ?y7_1b7⟩) ?n7_1b7
          case y7_1b7 => intro w' hS'; have e0 := cell_kept hS' (Nat.le_refl _) d0; have e1 := cell_kept hS' (Nat.le_refl _) d1; go_simp; with_reducible rfl
          clear hD; intro hD
          simp only [Act.put, sqA, sqB, sqC]
          refine wpAnyK_one (i := 2) (fuel := 6) (by kernel_rfl) rfl hD ?_
          clear hD; intro K2 hK2
          go_wp2_with fail
          refine (HO1.out _).mono ?_
          rintro e w2 ⟨rfl, hb⟩
          have HB2 := Lib.hid hb
          clear hb
          go_wp2
          refine hK2 _ _ (by exact HB2.out) ?_; clear hK2; intro hS_7_2 hD
          refine wpAnyK_one (i := 3) (fuel := 5) (by kernel_rfl) rfl hD ?_
          clear hD; intro K3 hK3
          go_wp2_with fail
          refine (HSB.out _).mono ?_
          rintro e w3 ⟨rfl, hb⟩
          have HB3 := Lib.hid hb
          clear hb
          go_wp2
          refine hK3 _ _ (by exact Below.trans hS_7_2 (Below.mono HB3.out (Below.size hS_7_2))) ?_; clear hK3; intro hS_7_3 hD
          refine wpAnyK_pureD (i := 4) (d := some 32) (v := ?v7_4b7) (fuel := 4) rfl (by kernel_rfl) (by kernel_rfl) (fun _ _ _ h => h) hD hS_7_3 (.inl ⟨by kernel_rfl, ?y7_4b7⟩) ?n7_4b7
          case y7_4b7 => intro w' _; go_simp; with_reducible rfl
          clear hD; intro hD
          simp only [Act.put, sqA, sqB, sqC]
          refine wpAnyK_pureD (i := 5) (d := some 37) (v := ?v7_5b7) (fuel := 3) rfl (by kernel_rfl) (by kernel_rfl) (fun _ _ _ h => h) hD hS_7_3 (.inl ⟨by kernel_rfl, ?y7_5b7⟩) ?n7_5b7
          case y7_5b7 => intro w' _; go_simp; with_reducible rfl
          clear hD; intro hD
          simp only [Act.put, sqA, sqB, sqC]
          refine wpAnyK_pureD (i := 6) (d := some 38) (v := ?v7_6b7) (fuel := 2) rfl (by kernel_rfl) (by kernel_rfl) (fun _ _ _ h => h) hD hS_7_3 (.inl ⟨by kernel_rfl, ?y7_6b7⟩) ?n7_6b7
          case y7_6b7 => intro w' _; go_simp; with_reducible rfl
          clear hD; intro hD
          simp only [Act.put, sqA, sqB, sqC]
          refine wpAnyK_one (i := 7) (fuel := 1) (by kernel_rfl) rfl hD ?_
          clear hD; intro K7 hK7
          go_wp2
          refine hK7 _ _ (by exact hS_7_3) ?_; clear hK7; intro hS_7_7 hD
          refine wpAnyK_one (i := 8) (fuel := 0) (by kernel_rfl) rfl hD ?_
          clear hD; intro K8 hK8
          go_wp2
          refine hK8 _ _ (by exact hS_7_7) ?_; clear hK8; intro hS_7_8 hD
          refine wpAnyK_done (by kernel_rfl) ?_ 0
          clear hD d0 d1
          have hS7 := (Below.refl W0.heap.size W0).drew.trans hS_7_8
          have HX7 := Lib.hid (HX0.out.next hS7)
          have HB7 := Lib.hid (HB0.out.trans (hS7.mono HB0.out.size))
          clear hS7
          refine hK7 _ _ ?_
          have e0 : w3.drew.cell? ⟨w.heap.size, 0, none⟩ = some (.string s) := HX7.out.c0
          have e1 : w3.drew.cell? ⟨w.heap.size, 1, none⟩ = some (.string t) := HX7.out.c1
          clear c0 c1
          go_wp2
          rename_i K8 hK8
          refine wp_onlyN ?_
          refine wp_region_K 13 (Below (w3.drew).heap.size (w3.drew)) (by kernel_rfl) ?_
          intro hD
          refine wpAnyK_pureD (i := 0) (d := some 39) (v := ?v8_0b8) (fuel := 12) rfl (by kernel_rfl) (by kernel_rfl) (fun _ _ _ h => h) hD (Below.refl _ _) (.inl ⟨by kernel_rfl, ?y8_0b8⟩) ?n8_0b8
          case y8_0b8 => intro w' _; go_simp; with_reducible rfl
          clear hD; intro hD
          simp only [Act.put, sqA, sqB, sqC]
          refine wpAnyK_pureD (i := 1) (d := some 40) (v := ?v8_1b8) (fuel := 11) rfl (by kernel_rfl) (by kernel_rfl) (fun _ _ _ h => h) hD (Below.refl _ _) (.inl ⟨by kernel_rfl, ?y8_1b8⟩) ?n8_1b8
          case y8_1b8 => intro w' _; go_simp; with_reducible rfl
          clear hD; intro hD
          simp only [Act.put, sqA, sqB, sqC]
          refine wpAnyK_pureD (i := 2) (d := some 41) (v := ?v8_2b8) (fuel := 10) rfl (by kernel_rfl) (by kernel_rfl) (fun _ _ _ h => h) hD (Below.refl _ _) (.inl ⟨by kernel_rfl, ?y8_2b8⟩) ?n8_2b8
          case y8_2b8 => intro w' _; go_simp; with_reducible rfl
          clear hD; intro hD
          simp only [Act.put, sqA, sqB, sqC]
          refine wpAnyK_pureD (i := 3) (d := some 42) (v := ?v8_3b8) (fuel := 9) rfl (by kernel_rfl) (by kernel_rfl) (fun _ _ _ h => h) hD (Below.refl _ _) (.inl ⟨by kernel_rfl, ?y8_3b8⟩) ?n8_3b8
          case y8_3b8 => intro w' _; go_simp; with_reducible rfl
          clear hD; intro hD
          simp only [Act.put, sqA, sqB, sqC]
          refine wpAnyK_pureD (i := 4) (d := some 43) (v := ?v8_4b8) (fuel := 8) rfl (by kernel_rfl) (by kernel_rfl) (fun _ _ _ h => h) hD (Below.refl _ _) (.inl ⟨by kernel_rfl, ?y8_4b8⟩) ?n8_4b8
          case y8_4b8 => intro w' _; go_simp; with_reducible rfl
          clear hD; intro hD
          simp only [Act.put, sqA, sqB, sqC]
          refine wpAnyK_pureD (i := 5) (d := some 44) (v := ?v8_5b8) (fuel := 7) rfl (by kernel_rfl) (by kernel_rfl) (fun _ _ _ h => h) hD (Below.refl _ _) (.inl ⟨by kernel_rfl, ?y8_5b8⟩) ?n8_5b8
          case y8_5b8 => intro w' _; go_simp; with_reducible rfl
          clear hD; intro hD
          simp only [Act.put, sqA, sqB, sqC]
          refine wpAnyK_pureD (i := 6) (d := some 45) (v := ?v8_6b8) (fuel := 6) rfl (by kernel_rfl) (by kernel_rfl) (fun _ _ _ h => h) hD (Below.refl _ _) (.inl ⟨by kernel_rfl, ?y8_6b8⟩) ?n8_6b8
          case y8_6b8 => intro w' _; go_simp; with_reducible rfl
          clear hD; intro hD
          simp only [Act.put, sqA, sqB, sqC]
          refine wpAnyK_pureD (i := 7) (d := some 46) (v := ?v8_7b8) (fuel := 5) rfl (by kernel_rfl) (by kernel_rfl) (fun _ _ _ h => h) hD (Below.refl _ _) (.inl ⟨by kernel_rfl, ?y8_7b8⟩) ?n8_7b8
          case y8_7b8 => intro w' _; go_simp; with_reducible rfl
          clear hD; intro hD
          simp only [Act.put, sqA, sqB, sqC]
          refine wpAnyK_takeSD (i := 8) (d := some 47) (v := ?v8_8b8) (fuel := 4) rfl (by kernel_rfl) (by kernel_rfl) (by kernel_rfl) (fun _ _ _ h => h) hD (Below.refl _ _) (.inl ⟨by kernel_rfl, ?y8_8b8⟩) ?n8_8b8
          case y8_8b8 => intro w' hS'; have e0 := cell_kept hS' (Nat.le_refl _) e0; have e1 := cell_kept hS' (Nat.le_refl _) e1; go_simp; with_reducible rfl
          clear hD; intro hD
          simp only [Act.put, sqA, sqB, sqC]
          refine wpAnyK_one (i := 9) (fuel := 3) (by kernel_rfl) rfl hD ?_
          clear hD; intro K9 hK9
          go_wp2_with fail
          refine (HO2.out _).mono ?_
          rintro e w9 ⟨rfl, hb⟩
          have HB9 := Lib.hid hb
          clear hb
          go_wp2
          refine hK9 _ _ (by exact HB9.out) ?_; clear hK9; intro hS_8_9 hD
          refine wpAnyK_one (i := 10) (fuel := 2) (by kernel_rfl) rfl hD ?_
          clear hD; intro K10 hK10
          go_wp2_with fail
          refine (HCM.out _).mono ?_
          rintro e w10 ⟨rfl, rfl⟩
          have HB10 := Lib.hid (Below.refl w9.heap.size w9)
          go_wp2
          refine hK10 _ _ (by exact Below.trans hS_8_9 (Below.mono HB10.out (Below.size hS_8_9))) ?_; clear hK10; intro hS_8_10 hD
          refine wpAnyK_pureD (i := 11) (d := some 50) (v := ?v8_11b8) (fuel := 1) rfl (by kernel_rfl) (by kernel_rfl) (fun _ _ _ h => h) hD hS_8_10 (.inl ⟨by kernel_rfl, ?y8_11b8⟩) ?n8_11b8
          case y8_11b8 => intro w' _; go_simp; with_reducible rfl
          clear hD; intro hD
          simp only [Act.put, sqA, sqB, sqC]
          refine wpAnyK_pureD (i := 12) (d := some 51) (v := ?v8_12b8) (fuel := 0) rfl (by kernel_rfl) (by kernel_rfl) (fun _ _ _ h => h) hD hS_8_10 (.inl ⟨by kernel_rfl, ?y8_12b8⟩) ?n8_12b8
          case y8_12b8 => intro w' _; go_simp; with_reducible rfl
          clear hD; intro hD
          simp only [Act.put, sqA, sqB, sqC]
          refine wpAnyK_done (by kernel_rfl) ?_ 0
          clear hD
          have HSX := Lib.hid (HB7.out.trans (((Below.refl w3.heap.size w3).drew.trans hS_8_10).mono HB7.out.size))
          refine hK8 _ _ ?_
          have hx9 : Bx2 w9 w.heap.size (.string s) (.string t) 24 := (HX7.out.next (Below.refl _ _).drew).next HB9.out
          have f1 := hx9.c1
          clear hx9 e0 e1
          go_wp2_with fail
          refine (HDM.out _).mono ?_
          rintro e w11 ⟨rfl, hb⟩
          have HB11 := Lib.hid (HSX.out.trans (hb.mono HSX.out.size))
          clear hb
          go_wp2
          go_ret
          exact ⟨rfl, HB11.out⟩
        · rw [if_pos (.inr (.inr hr))]
          have her := empty_nS (Nat.pos_of_ne_zero hr)
          clear HSL HSG h1 hm ho8 ho hm1 hl hc ho1 hr
          go_enter Tryz.func60, Tryz.ntmps60
          have HX0 := Lib.hid (Bx2.new w (.string s) (.string t) 24)
          have HB0 := Lib.hid ((Below.refl w.heap.size w).alloc (Nat.le_refl _) (.cells #[.string s, .string t] 24))
          obtain ⟨W0, hW0⟩ : ∃ W0, w.alloc (.cells #[.string s, .string t] 24) = W0 := ⟨_, rfl⟩
          rw [hW0] at HX0 HB0
          have HW0 := Lib.hid hW0
          clear hW0
          go_wp2_with fail
          rw [HW0.out]
          refine (HV1.out _).mono ?_
          rintro e w1 ⟨rfl, rfl⟩
          have c0 := HX0.out.c0
          have c1 := HX0.out.c1
          go_wp2_with fail
          refine (HV2.out _).mono ?_
          rintro e w1 ⟨rfl, rfl⟩
          go_wp2
          have d0 : W0.drew.cell? ⟨w.heap.size, 0, none⟩ = some (.string s) := c0
          have d1 : W0.drew.cell? ⟨w.heap.size, 1, none⟩ = some (.string t) := c1
          rename_i K7 hK7
          refine wp_onlyN ?_
          refine wp_region_K 9 (Below (W0.drew).heap.size (W0.drew)) (by kernel_rfl) ?_
          intro hD
          refine wpAnyK_pureD (i := 0) (d := some 33) (v := ?v7_0b9) (fuel := 8) rfl (by kernel_rfl) (by kernel_rfl) (fun _ _ _ h => h) hD (Below.refl _ _) (.inl ⟨by kernel_rfl, ?y7_0b9⟩) ?n7_0b9
          case y7_0b9 => intro w' _; go_simp; with_reducible rfl
          clear hD; intro hD
          simp only [Act.put, sqA, sqB, sqC]
          refine wpAnyK_takeSD (i := 1) (d := some 34) (v := ?v7_1b9) (fuel := 7) rfl (by kernel_rfl) (by kernel_rfl) (by kernel_rfl) (fun _ _ _ h => h) hD (Below.refl _ _) (.inl ⟨by kernel_rfl, ?y7_1b9⟩) ?n7_1b9
          case y7_1b9 => intro w' hS'; have e0 := cell_kept hS' (Nat.le_refl _) d0; have e1 := cell_kept hS' (Nat.le_refl _) d1; go_simp; with_reducible rfl
          clear hD; intro hD
          simp only [Act.put, sqA, sqB, sqC]
          refine wpAnyK_one (i := 2) (fuel := 6) (by kernel_rfl) rfl hD ?_
          clear hD; intro K2 hK2
          go_wp2_with fail
          refine (HO1.out _).mono ?_
          rintro e w2 ⟨rfl, hb⟩
          have HB2 := Lib.hid hb
          clear hb
          go_wp2
          refine hK2 _ _ (by exact HB2.out) ?_; clear hK2; intro hS_7_2 hD
          refine wpAnyK_one (i := 3) (fuel := 5) (by kernel_rfl) rfl hD ?_
          clear hD; intro K3 hK3
          go_wp2_with fail
          refine (HSB.out _).mono ?_
          rintro e w3 ⟨rfl, hb⟩
          have HB3 := Lib.hid hb
          clear hb
          go_wp2
          refine hK3 _ _ (by exact Below.trans hS_7_2 (Below.mono HB3.out (Below.size hS_7_2))) ?_; clear hK3; intro hS_7_3 hD
          refine wpAnyK_pureD (i := 4) (d := some 32) (v := ?v7_4b9) (fuel := 4) rfl (by kernel_rfl) (by kernel_rfl) (fun _ _ _ h => h) hD hS_7_3 (.inl ⟨by kernel_rfl, ?y7_4b9⟩) ?n7_4b9
          case y7_4b9 => intro w' _; go_simp; with_reducible rfl
          clear hD; intro hD
          simp only [Act.put, sqA, sqB, sqC]
          refine wpAnyK_pureD (i := 5) (d := some 37) (v := ?v7_5b9) (fuel := 3) rfl (by kernel_rfl) (by kernel_rfl) (fun _ _ _ h => h) hD hS_7_3 (.inl ⟨by kernel_rfl, ?y7_5b9⟩) ?n7_5b9
          case y7_5b9 => intro w' _; go_simp; with_reducible rfl
          clear hD; intro hD
          simp only [Act.put, sqA, sqB, sqC]
          refine wpAnyK_pureD (i := 6) (d := some 38) (v := ?v7_6b9) (fuel := 2) rfl (by kernel_rfl) (by kernel_rfl) (fun _ _ _ h => h) hD hS_7_3 (.inl ⟨by kernel_rfl, ?y7_6b9⟩) ?n7_6b9
          case y7_6b9 => intro w' _; go_simp; with_reducible rfl
          clear hD; intro hD
          simp only [Act.put, sqA, sqB, sqC]
          refine wpAnyK_one (i := 7) (fuel := 1) (by kernel_rfl) rfl hD ?_
          clear hD; intro K7 hK7
          go_wp2
          refine hK7 _ _ (by exact hS_7_3) ?_; clear hK7; intro hS_7_7 hD
          refine wpAnyK_one (i := 8) (fuel := 0) (by kernel_rfl) rfl hD ?_
          clear hD; intro K8 hK8
          go_wp2
          refine hK8 _ _ (by exact hS_7_7) ?_; clear hK8; intro hS_7_8 hD
          refine wpAnyK_done (by kernel_rfl) ?_ 0
          clear hD d0 d1
          have hS7 := (Below.refl W0.heap.size W0).drew.trans hS_7_8
          have HX7 := Lib.hid (HX0.out.next hS7)
          have HB7 := Lib.hid (HB0.out.trans (hS7.mono HB0.out.size))
          clear hS7
          refine hK7 _ _ ?_
          have e0 : w3.drew.cell? ⟨w.heap.size, 0, none⟩ = some (.string s) := HX7.out.c0
          have e1 : w3.drew.cell? ⟨w.heap.size, 1, none⟩ = some (.string t) := HX7.out.c1
          clear c0 c1
          go_wp2
          rename_i K8 hK8
          refine wp_onlyN ?_
          refine wp_region_K 13 (Below (w3.drew).heap.size (w3.drew)) (by kernel_rfl) ?_
          intro hD
          refine wpAnyK_pureD (i := 0) (d := some 39) (v := ?v8_0b10) (fuel := 12) rfl (by kernel_rfl) (by kernel_rfl) (fun _ _ _ h => h) hD (Below.refl _ _) (.inl ⟨by kernel_rfl, ?y8_0b10⟩) ?n8_0b10
          case y8_0b10 => intro w' _; go_simp; with_reducible rfl
          clear hD; intro hD
          simp only [Act.put, sqA, sqB, sqC]
          refine wpAnyK_pureD (i := 1) (d := some 40) (v := ?v8_1b10) (fuel := 11) rfl (by kernel_rfl) (by kernel_rfl) (fun _ _ _ h => h) hD (Below.refl _ _) (.inl ⟨by kernel_rfl, ?y8_1b10⟩) ?n8_1b10
          case y8_1b10 => intro w' _; go_simp; with_reducible rfl
          clear hD; intro hD
          simp only [Act.put, sqA, sqB, sqC]
          refine wpAnyK_pureD (i := 2) (d := some 41) (v := ?v8_2b10) (fuel := 10) rfl (by kernel_rfl) (by kernel_rfl) (fun _ _ _ h => h) hD (Below.refl _ _) (.inl ⟨by kernel_rfl, ?y8_2b10⟩) ?n8_2b10
          case y8_2b10 => intro w' _; go_simp; with_reducible rfl
          clear hD; intro hD
          simp only [Act.put, sqA, sqB, sqC]
          refine wpAnyK_pureD (i := 3) (d := some 42) (v := ?v8_3b10) (fuel := 9) rfl (by kernel_rfl) (by kernel_rfl) (fun _ _ _ h => h) hD (Below.refl _ _) (.inl ⟨by kernel_rfl, ?y8_3b10⟩) ?n8_3b10
          case y8_3b10 => intro w' _; go_simp; with_reducible rfl
          clear hD; intro hD
          simp only [Act.put, sqA, sqB, sqC]
          refine wpAnyK_pureD (i := 4) (d := some 43) (v := ?v8_4b10) (fuel := 8) rfl (by kernel_rfl) (by kernel_rfl) (fun _ _ _ h => h) hD (Below.refl _ _) (.inl ⟨by kernel_rfl, ?y8_4b10⟩) ?n8_4b10
          case y8_4b10 => intro w' _; go_simp; with_reducible rfl
          clear hD; intro hD
          simp only [Act.put, sqA, sqB, sqC]
          refine wpAnyK_pureD (i := 5) (d := some 44) (v := ?v8_5b10) (fuel := 7) rfl (by kernel_rfl) (by kernel_rfl) (fun _ _ _ h => h) hD (Below.refl _ _) (.inl ⟨by kernel_rfl, ?y8_5b10⟩) ?n8_5b10
          case y8_5b10 => intro w' _; go_simp; with_reducible rfl
          clear hD; intro hD
          simp only [Act.put, sqA, sqB, sqC]
          refine wpAnyK_pureD (i := 6) (d := some 45) (v := ?v8_6b10) (fuel := 6) rfl (by kernel_rfl) (by kernel_rfl) (fun _ _ _ h => h) hD (Below.refl _ _) (.inl ⟨by kernel_rfl, ?y8_6b10⟩) ?n8_6b10
          case y8_6b10 => intro w' _; go_simp; with_reducible rfl
          clear hD; intro hD
          simp only [Act.put, sqA, sqB, sqC]
          refine wpAnyK_pureD (i := 7) (d := some 46) (v := ?v8_7b10) (fuel := 5) rfl (by kernel_rfl) (by kernel_rfl) (fun _ _ _ h => h) hD (Below.refl _ _) (.inl ⟨by kernel_rfl, ?y8_7b10⟩) ?n8_7b10
          case y8_7b10 => intro w' _; go_simp; with_reducible rfl
          clear hD; intro hD
          simp only [Act.put, sqA, sqB, sqC]
          refine wpAnyK_takeSD (i := 8) (d := some 47) (v := ?v8_8b10) (fuel := 4) rfl (by kernel_rfl) (by kernel_rfl) (by kernel_rfl) (fun _ _ _ h => h) hD (Below.refl _ _) (.inl ⟨by kernel_rfl, ?y8_8b10⟩) ?n8_8b10
          case y8_8b10 => intro w' hS'; have e0 := cell_kept hS' (Nat.le_refl _) e0; have e1 := cell_kept hS' (Nat.le_refl _) e1; go_simp; with_reducible rfl
          clear hD; intro hD
          simp only [Act.put, sqA, sqB, sqC]
          refine wpAnyK_one (i := 9) (fuel := 3) (by kernel_rfl) rfl hD ?_
          clear hD; intro K9 hK9
          go_wp2_with fail
          refine (HO2.out _).mono ?_
          rintro e w9 ⟨rfl, hb⟩
          have HB9 := Lib.hid hb
          clear hb
          go_wp2
          refine hK9 _ _ (by exact HB9.out) ?_; clear hK9; intro hS_8_9 hD
          refine wpAnyK_one (i := 10) (fuel := 2) (by kernel_rfl) rfl hD ?_
          clear hD; intro K10 hK10
          go_wp2_with fail
          refine (HCM.out _).mono ?_
          rintro e w10 ⟨rfl, rfl⟩
          have HB10 := Lib.hid (Below.refl w9.heap.size w9)
          go_wp2
          refine hK10 _ _ (by exact Below.trans hS_8_9 (Below.mono HB10.out (Below.size hS_8_9))) ?_; clear hK10; intro hS_8_10 hD
          refine wpAnyK_pureD (i := 11) (d := some 50) (v := ?v8_11b10) (fuel := 1) rfl (by kernel_rfl) (by kernel_rfl) (fun _ _ _ h => h) hD hS_8_10 (.inl ⟨by kernel_rfl, ?y8_11b10⟩) ?n8_11b10
          case y8_11b10 => intro w' _; go_simp; with_reducible rfl
          clear hD; intro hD
          simp only [Act.put, sqA, sqB, sqC]
          refine wpAnyK_pureD (i := 12) (d := some 51) (v := ?v8_12b10) (fuel := 0) rfl (by kernel_rfl) (by kernel_rfl) (fun _ _ _ h => h) hD hS_8_10 (.inl ⟨by kernel_rfl, ?y8_12b10⟩) ?n8_12b10
          case y8_12b10 => intro w' _; go_simp; with_reducible rfl
          clear hD; intro hD
          simp only [Act.put, sqA, sqB, sqC]
          refine wpAnyK_done (by kernel_rfl) ?_ 0
          clear hD
          have HSX := Lib.hid (HB7.out.trans (((Below.refl w3.heap.size w3).drew.trans hS_8_10).mono HB7.out.size))
          refine hK8 _ _ ?_
          have hx9 : Bx2 w9 w.heap.size (.string s) (.string t) 24 := (HX7.out.next (Below.refl _ _).drew).next HB9.out
          have f1 := hx9.c1
          clear hx9 e0 e1
          go_wp2_with fail
          refine (HDM.out _).mono ?_
          rintro e w11 ⟨rfl, hb⟩
          have HB11 := Lib.hid (HSX.out.trans (hb.mono HSX.out.size))
          clear hb
          go_wp2
          go_ret
          exact ⟨rfl, HB11.out⟩
end Go.Proofs.YtndmjfkmnjejkaaGreatDoor
/- Walks: dominoref13.Check; both Checks in full. -/
set_option linter.unusedVariables false
set_option linter.unusedSimpArgs false
namespace Go.Proofs.YtndmjfkmnjejkaaGreatDoor
open Go.RowKit
theorem nS_last {n : Nat} (h : 0 < n) : ∃ k, ∃ hk : k < (nS n).size, k + 1 = (nS n).size ∧ ((nS n)[k]).toNat = n % 256 := by
  have h0 : 0 < (nS n).size := by rcases Nat.eq_zero_or_pos (nS n).size with e | e; · have := nS_size_zero.1 e; omega
                                  · exact e
  refine ⟨(nS n).size - 1, by omega, by omega, ?_⟩
  rw [nS_byte n 0 _ (by omega) (by omega)]
  unfold dig
  rw [Nat.pow_zero, Nat.div_one]
set_option maxRecDepth 100000 in
set_option maxHeartbeats 4000000 in
theorem r13_Check_none (m : Nat) (hm : m < 18446744073709551616) (w : World) : Calls Tryz.prog 63 #[gV (nS m) (nS 0)] w (Ret (.int .i64 (if m % 2 = 0 ∨ m ≤ 8 then 13 else 0)) w) := by
  have HV1 := Lib.hid (r01_Valid (nS m) (by have := nS_small_size hm; omega))
  have HV2 := Lib.hid (r01_Valid (nS 0) (by decide))
  rw [nvalid_nS.2 (lt128_of_lt8 hm)] at HV1
  rw [nvalid_nS.2 (by decide)] at HV2
  have HCM := Lib.hid (r01_Order (nS m) (nS 8) (by have := nS_small_size hm; omega) (by decide))
  rw [ordB_nS, show nS 8 = ⟨#[8]⟩ from by decide +kernel] at HCM
  rw [nS_zero] at HV2 ⊢
  have HSZ := Lib.hid (nS_small_size hm)
  rcases Nat.eq_zero_or_pos m with h0 | h0
  · rw [if_pos (.inl (by omega))]
    rw [h0, nS_zero] at HV1 HCM ⊢
    clear h0 hm HSZ
    have he := sempty_true (a := ⟨#[]⟩) rfl
    obtain ⟨s, hs⟩ : ∃ s : ByteArray, ⟨#[]⟩ = s := ⟨_, rfl⟩
    rw [hs] at HV1 HV2 HCM he ⊢
    clear hs
    have HT := Lib.hid (show ∃ t, s = t from ⟨_, rfl⟩)
    obtain ⟨t, ht⟩ := HT.out
    have HV2 := Lib.hid (show ∀ w, Calls Tryz.prog 62 #[.string t] w (RetQ (.bool true) w) from by rw [← ht]; exact HV2.out)
    have het : t.toList.isEmpty = true := by rw [← ht]; exact he
    unfold gV
    rw [show (#[Value.string s, .string s] : Array Value) = #[.string s, .string t] from by rw [← ht]]
    clear ht HT
    go_enter Tryz.func63, Tryz.ntmps63
    have HX0 := Lib.hid (Bx2.new w (.string s) (.string t) 24)
    have HB0 := Lib.hid ((Below.refl w.heap.size w).alloc (Nat.le_refl _) (.cells #[.string s, .string t] 24))
    obtain ⟨W0, hW0⟩ : ∃ W0, w.alloc (.cells #[.string s, .string t] 24) = W0 := ⟨_, rfl⟩
    rw [hW0] at HX0 HB0
    have HW0 := Lib.hid hW0
    clear hW0
    go_wp2_with fail
    rw [HW0.out]
    refine (HV1.out _).mono ?_
    rintro e w1 ⟨rfl, rfl⟩
    have c0 := HX0.out.c0
    have c1 := HX0.out.c1
    go_wp2_with fail
    refine (HV2.out _).mono ?_
    rintro e w1 ⟨rfl, rfl⟩
    go_wp2
    go_ret
    exact ⟨rfl, HB0.out⟩
  · have he := empty_nS h0
    have HLAST := Lib.hid (nS_last h0)
    by_cases hodd : m % 2 = 0
    · rw [if_pos (.inl hodd)]
      obtain ⟨s, hs⟩ : ∃ s, nS m = s := ⟨_, rfl⟩
      obtain ⟨t, ht⟩ : ∃ t : ByteArray, ⟨#[]⟩ = t := ⟨_, rfl⟩
      have het : t.toList.isEmpty = true := by rw [← ht]; exact sempty_true rfl
      rw [ht] at HV2 ⊢
      have hs8 := HSZ.out
      rw [hs] at HV1 HCM he hs8 HLAST ⊢
      obtain ⟨k, hk, hks, hkb⟩ := HLAST.out
      have hix : ((s.size : Int) - 1) = (k : Int) := by omega
      have hpar : (((s[k]).toNat : Int) % 2 == 0) = true := by
        rw [hkb]
        have : m % 256 % 2 = 0 := by omega
        rw [beq_iff_eq]; omega
      clear hs ht hkb hks hodd hm h0 HSZ HLAST
      unfold gV
      go_enter Tryz.func63, Tryz.ntmps63
      have HX0 := Lib.hid (Bx2.new w (.string s) (.string t) 24)
      have HB0 := Lib.hid ((Below.refl w.heap.size w).alloc (Nat.le_refl _) (.cells #[.string s, .string t] 24))
      obtain ⟨W0, hW0⟩ : ∃ W0, w.alloc (.cells #[.string s, .string t] 24) = W0 := ⟨_, rfl⟩
      rw [hW0] at HX0 HB0
      have HW0 := Lib.hid hW0
      clear hW0
      go_wp2_with fail
      rw [HW0.out]
      refine (HV1.out _).mono ?_
      rintro e w1 ⟨rfl, rfl⟩
      have c0 := HX0.out.c0
      have c1 := HX0.out.c1
      go_wp2_with fail
      refine (HV2.out _).mono ?_
      rintro e w1 ⟨rfl, rfl⟩
      go_wp2
      go_ret
      exact ⟨rfl, HB0.out⟩
    · have HE := Lib.hid (show (if m % 2 = 0 ∨ m ≤ 8 then (13 : Int) else 0) = if m ≤ 8 then 13 else 0 from by
        by_cases h : m ≤ 8
        · rw [if_pos (.inr h), if_pos h]
        · rw [if_neg (by omega), if_neg h])
      rw [HE.out]
      by_cases h8 : m ≤ 8
      · have hg : cmpI m 8 ≤ 0 := by unfold cmpI; split; · decide
                                     · rw [if_neg (by omega)]; decide
        obtain ⟨c, hc⟩ : ∃ c, cmpI m 8 = c := ⟨_, rfl⟩
        rw [hc] at hg HCM
        rw [if_pos h8]
        obtain ⟨s, hs⟩ : ∃ s, nS m = s := ⟨_, rfl⟩
        obtain ⟨t, ht⟩ : ∃ t : ByteArray, ⟨#[]⟩ = t := ⟨_, rfl⟩
        have het : t.toList.isEmpty = true := by rw [← ht]; exact sempty_true rfl
        rw [ht] at HV2 ⊢
        have hs8 := HSZ.out
        rw [hs] at HV1 HCM he hs8 HLAST ⊢
        obtain ⟨k, hk, hks, hkb⟩ := HLAST.out
        have hix : ((s.size : Int) - 1) = (k : Int) := by omega
        have hpar : (((s[k]).toNat : Int) % 2 == 0) = false := by
          rw [hkb]
          have : m % 256 % 2 = 1 := by omega
          rw [beq_eq_false_iff_ne]; omega
        clear hs ht hkb hks hodd hm h0 HSZ HLAST h8 hc HE
        unfold gV
        go_enter Tryz.func63, Tryz.ntmps63
        have HX0 := Lib.hid (Bx2.new w (.string s) (.string t) 24)
        have HB0 := Lib.hid ((Below.refl w.heap.size w).alloc (Nat.le_refl _) (.cells #[.string s, .string t] 24))
        obtain ⟨W0, hW0⟩ : ∃ W0, w.alloc (.cells #[.string s, .string t] 24) = W0 := ⟨_, rfl⟩
        rw [hW0] at HX0 HB0
        have HW0 := Lib.hid hW0
        clear hW0
        go_wp2_with fail
        rw [HW0.out]
        refine (HV1.out _).mono ?_
        rintro e w1 ⟨rfl, rfl⟩
        have c0 := HX0.out.c0
        have c1 := HX0.out.c1
        go_wp2_with fail
        refine (HV2.out _).mono ?_
        rintro e w1 ⟨rfl, rfl⟩
        go_wp2_with fail
        refine (HCM.out _).mono ?_
        rintro e w2 ⟨rfl, hb⟩
        have HB2 := Lib.hid (HB0.out.trans (hb.mono HB0.out.size))
        clear hb
        go_wp2
        go_ret
        exact ⟨rfl, HB2.out⟩
      · rw [show cmpI m 8 = 1 from by unfold cmpI; rw [if_neg (by omega), if_pos (by omega)]] at HCM
        rw [if_neg h8]
        obtain ⟨s, hs⟩ : ∃ s, nS m = s := ⟨_, rfl⟩
        obtain ⟨t, ht⟩ : ∃ t : ByteArray, ⟨#[]⟩ = t := ⟨_, rfl⟩
        have het : t.toList.isEmpty = true := by rw [← ht]; exact sempty_true rfl
        rw [ht] at HV2 ⊢
        have hs8 := HSZ.out
        rw [hs] at HV1 HCM he hs8 HLAST ⊢
        obtain ⟨k, hk, hks, hkb⟩ := HLAST.out
        have hix : ((s.size : Int) - 1) = (k : Int) := by omega
        have hpar : (((s[k]).toNat : Int) % 2 == 0) = false := by
          rw [hkb]
          have : m % 256 % 2 = 1 := by omega
          rw [beq_eq_false_iff_ne]; omega
        clear hs ht hkb hks hodd hm h0 HSZ HLAST h8 HE
        unfold gV
        go_enter Tryz.func63, Tryz.ntmps63
        have HX0 := Lib.hid (Bx2.new w (.string s) (.string t) 24)
        have HB0 := Lib.hid ((Below.refl w.heap.size w).alloc (Nat.le_refl _) (.cells #[.string s, .string t] 24))
        obtain ⟨W0, hW0⟩ : ∃ W0, w.alloc (.cells #[.string s, .string t] 24) = W0 := ⟨_, rfl⟩
        rw [hW0] at HX0 HB0
        have HW0 := Lib.hid hW0
        clear hW0
        go_wp2_with fail
        rw [HW0.out]
        refine (HV1.out _).mono ?_
        rintro e w1 ⟨rfl, rfl⟩
        have c0 := HX0.out.c0
        have c1 := HX0.out.c1
        go_wp2_with fail
        refine (HV2.out _).mono ?_
        rintro e w1 ⟨rfl, rfl⟩
        go_wp2_with fail
        refine (HCM.out _).mono ?_
        rintro e w2 ⟨rfl, hb⟩
        have HB2 := Lib.hid (HB0.out.trans (hb.mono HB0.out.size))
        clear hb
        go_wp2
        go_ret
        exact ⟨rfl, HB2.out⟩
set_option maxRecDepth 100000 in
set_option maxHeartbeats 4000000 in
theorem r13_Check_some (m o : Nat) (hm : m < 18446744073709551616) (ho8 : o < 256 ^ 128) (ho : 0 < o) (w : World) : Calls Tryz.prog 63 #[gV (nS m) (nS o)] w (Ret (.int .i64 (chkN m o)) w) := by
  rw [chkN_some ho]
  have HV1 := Lib.hid (r01_Valid (nS m) (by have := nS_small_size hm; omega))
  have HV2 := Lib.hid (r01_Valid (nS o) (by have := nS_size_le.2 ho8; omega))
  rw [nvalid_nS.2 (lt128_of_lt8 hm)] at HV1
  rw [nvalid_nS.2 ho8] at HV2
  have het := empty_nS ho
  have HMI := Lib.hid (fun (h : 1 ≤ m) => r01_Minus m 1 (by have := nS_small_size hm; omega) h)
  rw [nS_one] at HMI
  have HOV := Lib.hid (r01_Over (m - 1) o (by have := nS_small_size (show m - 1 < 18446744073709551616 from by omega); omega) (by have := nS_size_le.2 ho8; omega) ho)
  have hm1 := nS_is1 m
  have ho1 := nS_is1 o
  obtain ⟨s, hs⟩ : ∃ s, nS m = s := ⟨_, rfl⟩
  obtain ⟨t, ht⟩ : ∃ t, nS o = t := ⟨_, rfl⟩
  rcases Nat.eq_zero_or_pos m with h0 | h0
  · rw [if_pos (.inl (by omega))]
    have hes : s.toList.isEmpty = true := by rw [← hs, h0]; exact sempty_true rfl
    rw [hs] at HV1 ⊢
    rw [ht] at HV2 het ⊢
    clear HMI HOV hm1 ho1 hs ht h0 hm ho8 ho
    unfold gV
    go_enter Tryz.func63, Tryz.ntmps63
    have HX0 := Lib.hid (Bx2.new w (.string s) (.string t) 24)
    have HB0 := Lib.hid ((Below.refl w.heap.size w).alloc (Nat.le_refl _) (.cells #[.string s, .string t] 24))
    obtain ⟨W0, hW0⟩ : ∃ W0, w.alloc (.cells #[.string s, .string t] 24) = W0 := ⟨_, rfl⟩
    rw [hW0] at HX0 HB0
    have HW0 := Lib.hid hW0
    clear hW0
    go_wp2_with fail
    rw [HW0.out]
    refine (HV1.out _).mono ?_
    rintro e w1 ⟨rfl, rfl⟩
    have c0 := HX0.out.c0
    have c1 := HX0.out.c1
    go_wp2_with fail
    refine (HV2.out _).mono ?_
    rintro e w1 ⟨rfl, rfl⟩
    go_wp2
    go_ret
    exact ⟨rfl, HB0.out⟩
  · have hes := empty_nS h0
    rw [hs] at hes hm1
    by_cases h1 : m = 1
    · rw [if_pos (.inl (by omega))]
      rw [decide_eq_true h1] at hm1
      rw [hs] at HV1 ⊢
      rw [ht] at HV2 het ⊢
      clear HMI HOV ho1 hs ht h0 hm ho8 ho h1
      unfold gV
      go_enter Tryz.func63, Tryz.ntmps63
      have HX0 := Lib.hid (Bx2.new w (.string s) (.string t) 24)
      have HB0 := Lib.hid ((Below.refl w.heap.size w).alloc (Nat.le_refl _) (.cells #[.string s, .string t] 24))
      obtain ⟨W0, hW0⟩ : ∃ W0, w.alloc (.cells #[.string s, .string t] 24) = W0 := ⟨_, rfl⟩
      rw [hW0] at HX0 HB0
      have HW0 := Lib.hid hW0
      clear hW0
      go_wp2_with fail
      rw [HW0.out]
      refine (HV1.out _).mono ?_
      rintro e w1 ⟨rfl, rfl⟩
      have c0 := HX0.out.c0
      have c1 := HX0.out.c1
      go_wp2_with fail
      refine (HV2.out _).mono ?_
      rintro e w1 ⟨rfl, rfl⟩
      go_wp2
      go_ret
      exact ⟨rfl, HB0.out⟩
    · rw [decide_eq_false h1] at hm1
      rw [ht] at ho1
      by_cases h2 : o = 1
      · rw [if_pos (.inr (.inl h2))]
        rw [decide_eq_true h2] at ho1
        rw [hs] at HV1 ⊢
        rw [ht] at HV2 het ⊢
        clear HMI HOV hs ht h0 hm ho8 ho h1 h2
        unfold gV
        go_enter Tryz.func63, Tryz.ntmps63
        have HX0 := Lib.hid (Bx2.new w (.string s) (.string t) 24)
        have HB0 := Lib.hid ((Below.refl w.heap.size w).alloc (Nat.le_refl _) (.cells #[.string s, .string t] 24))
        obtain ⟨W0, hW0⟩ : ∃ W0, w.alloc (.cells #[.string s, .string t] 24) = W0 := ⟨_, rfl⟩
        rw [hW0] at HX0 HB0
        have HW0 := Lib.hid hW0
        clear hW0
        go_wp2_with fail
        rw [HW0.out]
        refine (HV1.out _).mono ?_
        rintro e w1 ⟨rfl, rfl⟩
        have c0 := HX0.out.c0
        have c1 := HX0.out.c1
        go_wp2_with fail
        refine (HV2.out _).mono ?_
        rintro e w1 ⟨rfl, rfl⟩
        go_wp2
        go_ret
        exact ⟨rfl, HB0.out⟩
      · rw [decide_eq_false h2] at ho1
        have HMI := Lib.hid (HMI.out h0)
        have her : (nS ((m - 1) % o)).toList.isEmpty = decide ((m - 1) % o = 0) := by
          by_cases h : (m - 1) % o = 0
          · rw [h, decide_eq_true rfl]; exact sempty_true rfl
          · rw [empty_nS (Nat.pos_of_ne_zero h), decide_eq_false h]
        have HV : (if m ≤ 1 ∨ o = 1 ∨ ¬ (m - 1) % o = 0 then (13 : Int) else 0) = if (m - 1) % o = 0 then 0 else 13 := by
          by_cases h : (m - 1) % o = 0
          · rw [if_neg (by omega), if_pos h]
          · rw [if_pos (.inr (.inr h)), if_neg h]
        rw [HV]
        obtain ⟨l, hl⟩ : ∃ l, nS (m - 1) = l := ⟨_, rfl⟩
        obtain ⟨q, hq⟩ : ∃ q, nS ((m - 1) / o) = q := ⟨_, rfl⟩
        obtain ⟨r, hr⟩ : ∃ r, nS ((m - 1) % o) = r := ⟨_, rfl⟩
        rw [hl] at HMI HOV
        rw [hq, hr] at HOV
        rw [hr] at her
        rw [hs] at HV1 HMI ⊢
        rw [ht] at HV2 het HOV ⊢
        obtain ⟨E, hE⟩ : ∃ E, (m - 1) % o = E := ⟨_, rfl⟩
        rw [hE] at her ⊢
        clear hs ht h0 hm ho8 ho h1 h2 hl hq hr hE HV
        unfold gV
        by_cases hz : E = 0
        · rw [if_pos hz]
          rw [decide_eq_true hz] at her
          clear hz
          go_enter Tryz.func63, Tryz.ntmps63
          have HX0 := Lib.hid (Bx2.new w (.string s) (.string t) 24)
          have HB0 := Lib.hid ((Below.refl w.heap.size w).alloc (Nat.le_refl _) (.cells #[.string s, .string t] 24))
          obtain ⟨W0, hW0⟩ : ∃ W0, w.alloc (.cells #[.string s, .string t] 24) = W0 := ⟨_, rfl⟩
          rw [hW0] at HX0 HB0
          have HW0 := Lib.hid hW0
          clear hW0
          go_wp2_with fail
          rw [HW0.out]
          refine (HV1.out _).mono ?_
          rintro e w1 ⟨rfl, rfl⟩
          have c0 := HX0.out.c0
          have c1 := HX0.out.c1
          go_wp2_with fail
          refine (HV2.out _).mono ?_
          rintro e w1 ⟨rfl, rfl⟩
          go_wp2
          have d0 : W0.drew.cell? ⟨w.heap.size, 0, none⟩ = some (.string s) := c0
          have d1 : W0.drew.cell? ⟨w.heap.size, 1, none⟩ = some (.string t) := c1
          rename_i K9 hK9
          refine wp_onlyN ?_
          refine wp_region_K 11 (Below (W0.drew).heap.size (W0.drew)) (by kernel_rfl) ?_
          intro hD
          refine wpAnyK_pureD (i := 0) (d := some 52) (v := ?v9_0b1) (fuel := 10) rfl (by kernel_rfl) (by kernel_rfl) (fun _ _ _ h => h) hD (Below.refl _ _) (.inl ⟨by kernel_rfl, ?y9_0b1⟩) ?n9_0b1
          case y9_0b1 => intro w' _; go_simp; with_reducible rfl
          clear hD; intro hD
          simp only [Act.put, sqA, sqB, sqC]
          refine wpAnyK_takeSD (i := 1) (d := some 53) (v := ?v9_1b1) (fuel := 9) rfl (by kernel_rfl) (by kernel_rfl) (by kernel_rfl) (fun _ _ _ h => h) hD (Below.refl _ _) (.inl ⟨by kernel_rfl, ?y9_1b1⟩) ?n9_1b1
          case y9_1b1 => intro w' hS'; have e0 := cell_kept hS' (Nat.le_refl _) d0; have e1 := cell_kept hS' (Nat.le_refl _) d1; go_simp; with_reducible rfl
          clear hD; intro hD
          simp only [Act.put, sqA, sqB, sqC]
          refine wpAnyK_pureD (i := 3) (d := some 55) (v := ?v9_3b1) (fuel := 8) rfl (by kernel_rfl) (by kernel_rfl) (fun _ _ _ h => h) hD (Below.refl _ _) (.inl ⟨by kernel_rfl, ?y9_3b1⟩) ?n9_3b1
          case y9_3b1 => intro w' _; go_simp; with_reducible rfl
          clear hD; intro hD
          simp only [Act.put, sqA, sqB, sqC]
          refine wpAnyK_takeSD (i := 4) (d := some 56) (v := ?v9_4b1) (fuel := 7) rfl (by kernel_rfl) (by kernel_rfl) (by kernel_rfl) (fun _ _ _ h => h) hD (Below.refl _ _) (.inl ⟨by kernel_rfl, ?y9_4b1⟩) ?n9_4b1
          case y9_4b1 => intro w' hS'; have e0 := cell_kept hS' (Nat.le_refl _) d0; have e1 := cell_kept hS' (Nat.le_refl _) d1; go_simp; with_reducible rfl
          clear hD; intro hD
          simp only [Act.put, sqA, sqB, sqC]
          refine wpAnyK_one (i := 2) (fuel := 6) (by kernel_rfl) rfl hD ?_
          clear hD; intro K2 hK2
          go_wp2_with fail
          refine (HMI.out _).mono ?_
          rintro e w2 ⟨rfl, hb⟩
          have HB2 := Lib.hid hb
          clear hb
          go_wp2
          refine hK2 _ _ (by exact HB2.out) ?_; clear hK2; intro hS_9_2 hD
          refine wpAnyK_one (i := 5) (fuel := 5) (by kernel_rfl) rfl hD ?_
          clear hD; intro K5 hK5
          go_wp2_with fail
          refine (HOV.out _).mono ?_
          rintro e w5 ⟨rfl, hb⟩
          have HB5 := Lib.hid hb
          clear hb
          go_wp2
          refine hK5 _ _ (by exact Below.trans hS_9_2 (Below.mono HB5.out (Below.size hS_9_2))) ?_; clear hK5; intro hS_9_5 hD
          refine wpAnyK_pureD (i := 6) (d := some 51) (v := ?v9_6b1) (fuel := 4) rfl (by kernel_rfl) (by kernel_rfl) (fun _ _ _ h => h) hD hS_9_5 (.inl ⟨by kernel_rfl, ?y9_6b1⟩) ?n9_6b1
          case y9_6b1 => intro w' _; go_simp; with_reducible rfl
          clear hD; intro hD
          simp only [Act.put, sqA, sqB, sqC]
          refine wpAnyK_pureD (i := 7) (d := some 58) (v := ?v9_7b1) (fuel := 3) rfl (by kernel_rfl) (by kernel_rfl) (fun _ _ _ h => h) hD hS_9_5 (.inl ⟨by kernel_rfl, ?y9_7b1⟩) ?n9_7b1
          case y9_7b1 => intro w' _; go_simp; with_reducible rfl
          clear hD; intro hD
          simp only [Act.put, sqA, sqB, sqC]
          refine wpAnyK_pureD (i := 8) (d := some 59) (v := ?v9_8b1) (fuel := 2) rfl (by kernel_rfl) (by kernel_rfl) (fun _ _ _ h => h) hD hS_9_5 (.inl ⟨by kernel_rfl, ?y9_8b1⟩) ?n9_8b1
          case y9_8b1 => intro w' _; go_simp; with_reducible rfl
          clear hD; intro hD
          simp only [Act.put, sqA, sqB, sqC]
          refine wpAnyK_one (i := 9) (fuel := 1) (by kernel_rfl) rfl hD ?_
          clear hD; intro K9 hK9
          go_wp2
          refine hK9 _ _ (by exact hS_9_5) ?_; clear hK9; intro hS_9_9 hD
          refine wpAnyK_one (i := 10) (fuel := 0) (by kernel_rfl) rfl hD ?_
          clear hD; intro K10 hK10
          go_wp2
          refine hK10 _ _ (by exact hS_9_9) ?_; clear hK10; intro hS_9_10 hD
          refine wpAnyK_done (by kernel_rfl) ?_ 0
          clear hD
          have HB9 := Lib.hid (HB0.out.trans (((Below.refl W0.heap.size W0).drew.trans hS_9_10).mono HB0.out.size))
          refine hK9 _ _ ?_
          go_wp2
          go_ret
          exact ⟨rfl, HB9.out⟩
        · rw [if_neg hz]
          rw [decide_eq_false hz] at her
          clear hz
          go_enter Tryz.func63, Tryz.ntmps63
          have HX0 := Lib.hid (Bx2.new w (.string s) (.string t) 24)
          have HB0 := Lib.hid ((Below.refl w.heap.size w).alloc (Nat.le_refl _) (.cells #[.string s, .string t] 24))
          obtain ⟨W0, hW0⟩ : ∃ W0, w.alloc (.cells #[.string s, .string t] 24) = W0 := ⟨_, rfl⟩
          rw [hW0] at HX0 HB0
          have HW0 := Lib.hid hW0
          clear hW0
          go_wp2_with fail
          rw [HW0.out]
          refine (HV1.out _).mono ?_
          rintro e w1 ⟨rfl, rfl⟩
          have c0 := HX0.out.c0
          have c1 := HX0.out.c1
          go_wp2_with fail
          refine (HV2.out _).mono ?_
          rintro e w1 ⟨rfl, rfl⟩
          go_wp2
          have d0 : W0.drew.cell? ⟨w.heap.size, 0, none⟩ = some (.string s) := c0
          have d1 : W0.drew.cell? ⟨w.heap.size, 1, none⟩ = some (.string t) := c1
          rename_i K9 hK9
          refine wp_onlyN ?_
          refine wp_region_K 11 (Below (W0.drew).heap.size (W0.drew)) (by kernel_rfl) ?_
          intro hD
          refine wpAnyK_pureD (i := 0) (d := some 52) (v := ?v9_0b2) (fuel := 10) rfl (by kernel_rfl) (by kernel_rfl) (fun _ _ _ h => h) hD (Below.refl _ _) (.inl ⟨by kernel_rfl, ?y9_0b2⟩) ?n9_0b2
          case y9_0b2 => intro w' _; go_simp; with_reducible rfl
          clear hD; intro hD
          simp only [Act.put, sqA, sqB, sqC]
          refine wpAnyK_takeSD (i := 1) (d := some 53) (v := ?v9_1b2) (fuel := 9) rfl (by kernel_rfl) (by kernel_rfl) (by kernel_rfl) (fun _ _ _ h => h) hD (Below.refl _ _) (.inl ⟨by kernel_rfl, ?y9_1b2⟩) ?n9_1b2
          case y9_1b2 => intro w' hS'; have e0 := cell_kept hS' (Nat.le_refl _) d0; have e1 := cell_kept hS' (Nat.le_refl _) d1; go_simp; with_reducible rfl
          clear hD; intro hD
          simp only [Act.put, sqA, sqB, sqC]
          refine wpAnyK_pureD (i := 3) (d := some 55) (v := ?v9_3b2) (fuel := 8) rfl (by kernel_rfl) (by kernel_rfl) (fun _ _ _ h => h) hD (Below.refl _ _) (.inl ⟨by kernel_rfl, ?y9_3b2⟩) ?n9_3b2
          case y9_3b2 => intro w' _; go_simp; with_reducible rfl
          clear hD; intro hD
          simp only [Act.put, sqA, sqB, sqC]
          refine wpAnyK_takeSD (i := 4) (d := some 56) (v := ?v9_4b2) (fuel := 7) rfl (by kernel_rfl) (by kernel_rfl) (by kernel_rfl) (fun _ _ _ h => h) hD (Below.refl _ _) (.inl ⟨by kernel_rfl, ?y9_4b2⟩) ?n9_4b2
          case y9_4b2 => intro w' hS'; have e0 := cell_kept hS' (Nat.le_refl _) d0; have e1 := cell_kept hS' (Nat.le_refl _) d1; go_simp; with_reducible rfl
          clear hD; intro hD
          simp only [Act.put, sqA, sqB, sqC]
          refine wpAnyK_one (i := 2) (fuel := 6) (by kernel_rfl) rfl hD ?_
          clear hD; intro K2 hK2
          go_wp2_with fail
          refine (HMI.out _).mono ?_
          rintro e w2 ⟨rfl, hb⟩
          have HB2 := Lib.hid hb
          clear hb
          go_wp2
          refine hK2 _ _ (by exact HB2.out) ?_; clear hK2; intro hS_9_2 hD
          refine wpAnyK_one (i := 5) (fuel := 5) (by kernel_rfl) rfl hD ?_
          clear hD; intro K5 hK5
          go_wp2_with fail
          refine (HOV.out _).mono ?_
          rintro e w5 ⟨rfl, hb⟩
          have HB5 := Lib.hid hb
          clear hb
          go_wp2
          refine hK5 _ _ (by exact Below.trans hS_9_2 (Below.mono HB5.out (Below.size hS_9_2))) ?_; clear hK5; intro hS_9_5 hD
          refine wpAnyK_pureD (i := 6) (d := some 51) (v := ?v9_6b2) (fuel := 4) rfl (by kernel_rfl) (by kernel_rfl) (fun _ _ _ h => h) hD hS_9_5 (.inl ⟨by kernel_rfl, ?y9_6b2⟩) ?n9_6b2
          case y9_6b2 => intro w' _; go_simp; with_reducible rfl
          clear hD; intro hD
          simp only [Act.put, sqA, sqB, sqC]
          refine wpAnyK_pureD (i := 7) (d := some 58) (v := ?v9_7b2) (fuel := 3) rfl (by kernel_rfl) (by kernel_rfl) (fun _ _ _ h => h) hD hS_9_5 (.inl ⟨by kernel_rfl, ?y9_7b2⟩) ?n9_7b2
          case y9_7b2 => intro w' _; go_simp; with_reducible rfl
          clear hD; intro hD
          simp only [Act.put, sqA, sqB, sqC]
          refine wpAnyK_pureD (i := 8) (d := some 59) (v := ?v9_8b2) (fuel := 2) rfl (by kernel_rfl) (by kernel_rfl) (fun _ _ _ h => h) hD hS_9_5 (.inl ⟨by kernel_rfl, ?y9_8b2⟩) ?n9_8b2
          case y9_8b2 => intro w' _; go_simp; with_reducible rfl
          clear hD; intro hD
          simp only [Act.put, sqA, sqB, sqC]
          refine wpAnyK_one (i := 9) (fuel := 1) (by kernel_rfl) rfl hD ?_
          clear hD; intro K9 hK9
          go_wp2
          refine hK9 _ _ (by exact hS_9_5) ?_; clear hK9; intro hS_9_9 hD
          refine wpAnyK_one (i := 10) (fuel := 0) (by kernel_rfl) rfl hD ?_
          clear hD; intro K10 hK10
          go_wp2
          refine hK10 _ _ (by exact hS_9_9) ?_; clear hK10; intro hS_9_10 hD
          refine wpAnyK_done (by kernel_rfl) ?_ 0
          clear hD
          have HB9 := Lib.hid (HB0.out.trans (((Below.refl W0.heap.size W0).drew.trans hS_9_10).mono HB0.out.size))
          refine hK9 _ _ ?_
          go_wp2
          go_ret
          exact ⟨rfl, HB9.out⟩
theorem pw_CheckW (M O : ByteArray) (hM : M.size ≤ 8) (hO : O.size ≤ 100) (w : World) : Calls Tryz.prog 60 #[gV M O] w (Ret (.int .i64 (chkK M O)) w) := by
  unfold chkK
  cases hv : (nvalid M && nvalid O) with
  | false => exact pw_Check_bad M O (by omega) (by omega) hv w
  | true =>
    rw [if_pos rfl]
    simp only [Bool.and_eq_true] at hv
    have e1 := nS_num hv.1
    have e2 := nS_num hv.2
    have hm := num_small hM
    have ho := num_lt (s := O) (by omega)
    rcases Nat.eq_zero_or_pos (num O) with h0 | h0
    · have := pw_Check_none (num M) hm w
      rw [show nS 0 = O from by rw [← h0, ← e2], ← e1] at this
      unfold chkN
      rw [if_pos h0]
      exact this
    · have := pw_Check_some (num M) (num O) hm ho h0 w
      rw [← e1, ← e2] at this
      exact this
theorem r13_CheckW (M O : ByteArray) (hM : M.size ≤ 8) (hO : O.size ≤ 100) (w : World) : Calls Tryz.prog 63 #[gV M O] w (Ret (.int .i64 (chkK M O)) w) := by
  unfold chkK
  cases hv : (nvalid M && nvalid O) with
  | false => exact r13_Check_bad M O (by omega) (by omega) hv w
  | true =>
    rw [if_pos rfl]
    simp only [Bool.and_eq_true] at hv
    have e1 := nS_num hv.1
    have e2 := nS_num hv.2
    have hm := num_small hM
    have ho := num_lt (s := O) (by omega)
    rcases Nat.eq_zero_or_pos (num O) with h0 | h0
    · have := r13_Check_none (num M) hm w
      rw [show nS 0 = O from by rw [← h0, ← e2], ← e1] at this
      unfold chkN
      rw [if_pos h0]
      exact this
    · have := r13_Check_some (num M) (num O) hm ho h0 w
      rw [← e1, ← e2] at this
      exact this
theorem pw_Check (M O : ByteArray) (hM : M.size ≤ 8) (hO : O.size ≤ 8) (w : World) : Calls Tryz.prog 60 #[gV M O] w (Ret (.int .i64 (chkK M O)) w) := pw_CheckW M O hM (by omega) w
theorem r13_Check (M O : ByteArray) (hM : M.size ≤ 8) (hO : O.size ≤ 8) (w : World) : Calls Tryz.prog 63 #[gV M O] w (Ret (.int .i64 (chkK M O)) w) := r13_CheckW M O hM (by omega) w
end Go.Proofs.YtndmjfkmnjejkaaGreatDoor

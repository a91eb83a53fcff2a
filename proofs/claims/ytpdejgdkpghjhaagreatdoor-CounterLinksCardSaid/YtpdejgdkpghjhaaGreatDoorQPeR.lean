/- Walk: dominoref09.Hash. -/
import Derived.Test.YtpdejgdkpghjhaaGreatDoorQDvs
import Derived.Test.YtpdejgdkpghjhaaGreatDoorQOvr
import Derived.Test.YtpdejgdkpghjhaaGreatDoorQCtB
set_option linter.unusedVariables false
set_option linter.unusedSimpArgs false
namespace Go.Proofs.YtpdejgdkpghjhaaGreatDoor
open Go.RowKit Go.Lib
theorem r09_dividesA (m q : Nat) (hm : 1 ≤ m) (hm8 : m < 18446744073709551616) (hq : 1 ≤ q) (hq8 : q < 256 ^ 128) (w : World) : Calls Tryz.prog 140 #[gV (nS m) (nS q)] w (Ret (.bool (decide ((m - 1) % q = 0))) w) :=
  r09_divides_of m q hm hm8 hq (r01_Over (m - 1) q (by have := nS_small_size (show m - 1 < 18446744073709551616 from by omega); omega) (by have := nS_size_le.2 hq8; omega) hq) w
theorem nS_256 : nS 256 = ⟨#[1, 0]⟩ := rfl
theorem bnat_take (l : List UInt8) (i : Nat) (h : i < l.length) : bnat (l.take (i + 1)) = bnat (l.take i) * 256 + (l[i]).toNat := by
  rw [List.take_add_one, List.getElem?_eq_getElem h]
  exact bnat_snoc _ _
theorem bnat_take_lt (l : List UInt8) (i : Nat) (h : l.length ≤ 64) : (nS (bnat (l.take i))).size ≤ 64 := by
  refine nS_size_le.2 (Nat.lt_of_lt_of_le (bnat_lt _) (Nat.pow_le_pow_right (by omega) ?_))
  rw [List.length_take]; omega
set_option maxRecDepth 100000 in
set_option maxHeartbeats 2000000 in
theorem r09_Hash_n (m q : Nat) (s : ByteArray) (hm : 1 ≤ m) (hm8 : m < 18446744073709551616) (hq : 1 ≤ q) (hq8 : q < 256 ^ 128) (hs : s.size ≤ 100000) (w : World) : Calls Tryz.prog 75 #[gV (nS m) (nS q), .string s] w (Ret (hsN m q s.data.toList) w) := by
  have HF := Lib.hid (r09_form (nS m) (nS q) (by have := nS_small_size hm8; omega) (by have := nS_size_le.2 hq8; omega))
  rw [nvalid_nS.2 (lt128_of_lt8 hm8), nvalid_nS.2 hq8, Bool.and_true] at HF
  have HC := Lib.hid (r09_dividesA m q hm hm8 hq hq8)
  have HS := Lib.hid (r01_Minus m 1 (by have := nS_small_size hm8; omega) hm)
  have HD := Lib.hid (r01_Over (m - 1) q (by have := nS_small_size (show m - 1 < 18446744073709551616 from by omega); omega) (by have := nS_size_le.2 hq8; omega) hq)
  rw [nS_one] at HS
  obtain ⟨k, hk⟩ : ∃ k, (m - 1) / q = k := ⟨_, rfl⟩
  have hk8 : k < 256 ^ 128 := by
    refine lt128_of_lt8 ?_
    rw [← hk]
    exact Nat.lt_of_le_of_lt (Nat.div_le_self _ _) (by omega)
  rw [hk] at HD
  obtain ⟨l, hl⟩ : ∃ l, s.data.toList = l := ⟨_, rfl⟩
  have hll : l.length ≤ 100000 := by rw [← hl]; exact (show s.data.toList.length = s.size from Array.length_toList) ▸ hs
  have hsl : s = bstr l := by rw [← hl]; exact (bstr_of s).symm
  rw [hl]
  have HE := Lib.hid (fun a (ha : a < 256 ^ 128) => r03_Exp a k m ha hk8 hm8 hm)
  have hm1 := empty_nS hm
  have hq1 := empty_nS hq
  obtain ⟨M, hM⟩ : ∃ M, nS m = M := ⟨_, rfl⟩
  obtain ⟨O, hO⟩ : ∃ O, nS q = O := ⟨_, rfl⟩
  obtain ⟨K, hK⟩ : ∃ K, nS k = K := ⟨_, rfl⟩
  obtain ⟨u1, hu1⟩ : ∃ u, nS (m - 1) = u := ⟨_, rfl⟩
  obtain ⟨rm, hrm⟩ : ∃ u, nS ((m - 1) % q) = u := ⟨_, rfl⟩
  rw [hM, hO] at HF HC ⊢
  rw [hM] at hm1 HE HS
  rw [hO] at hq1 HD
  rw [hK] at HD HE
  rw [hu1] at HS HD
  rw [hrm] at HD
  have HX0 := Lib.hid (Bx2.new w (.string M) (.string O) 24)
  have HB0 := Lib.hid ((Below.refl w.heap.size w).alloc (Nat.le_refl _) (.cells #[.string M, .string O] 24))
  have c0 := HX0.out.c0
  have c1 := HX0.out.c1
  obtain ⟨B, hB⟩ : ∃ B, w.heap.size = B := ⟨_, rfl⟩
  have HBB := Lib.hid hB
  have HTA := Lib.hid (fun c (hc : c < 100) w => tx_add c l hll hc Tryz.prog w)
  have HTS := Lib.hid (fun c (hc : c < 100) => tx_size c l hll hc)
  have HSL := Lib.hid hsl
  by_cases hd : (m - 1) % q = 0
  · have HRN := Lib.hid (show hsN m q l = hsO (hsF m k l 64) from by unfold hsN; rw [if_pos hd, hk])
    rw [show decide ((m - 1) % q = 0) = true from decide_eq_true hd] at HC
    rw [HRN.out]
    clear hd hk hk8 hl hM hO hK hB hu1 hrm hm hm8 hq hq8 hs hsl hll
    unfold gV at *
    go_enter Tryz.func75, Tryz.ntmps75
    go_wp2_with fail
    refine (HF.out _).mono ?_
    rintro e w1 ⟨rfl, hb1⟩
    have HX1 := Lib.hid (HX0.out.next hb1)
    have HB1 := Lib.hid (HB0.out.trans (hb1.mono HB0.out.size))
    clear hb1 c0 c1
    have c0 := HX1.out.c0
    have c1 := HX1.out.c1
    go_wp2_with fail
    refine (HC.out _).mono ?_
    rintro e w2 ⟨rfl, hb2⟩
    have HX2 := Lib.hid (HX1.out.next hb2)
    have HB2 := Lib.hid (HB1.out.trans (hb2.mono HB1.out.size))
    clear hb2 c0 c1 hm1 hq1
    rw [HBB.out] at HX2 HB2 ⊢
    go_wp2
    obtain ⟨wd, hwd⟩ : ∃ wd, w2.drew = wd := ⟨_, rfl⟩
    have HXd := Lib.hid (show Bx2 wd B (.string M) (.string O) 24 from by rw [← hwd]; exact HX2.out)
    have HBd := Lib.hid (show Below B w wd from by rw [← hwd]; exact HB2.out.drew)
    have d0 := HXd.out.c0
    have d1 := HXd.out.c1
    refine wp_region_K 11 (Below (wd).heap.size (wd)) (by kernel_rfl) ?_
    intro hD
    rw [hwd]
    refine wpAnyK_pureD (i := 0) (d := some 31) (v := ?v7_0b1) (fuel := 10) rfl (by kernel_rfl) (by kernel_rfl) (fun _ _ _ h => h) hD (Below.refl _ _) (.inl ⟨by kernel_rfl, ?y7_0b1⟩) ?n7_0b1
    case y7_0b1 => intro w' _; go_simp; with_reducible rfl
    clear hD; intro hD
    simp only [Act.put, sqA, sqB, sqC]
    refine wpAnyK_takeSD (i := 1) (d := some 32) (v := ?v7_1b1) (fuel := 9) rfl (by kernel_rfl) (by kernel_rfl) (by kernel_rfl) (fun _ _ _ h => h) hD (Below.refl _ _) (.inl ⟨by kernel_rfl, ?y7_1b1⟩) ?n7_1b1
    case y7_1b1 => intro w' hS'; have e0 := cell_kept hS' (Nat.le_refl _) d0; have e1 := cell_kept hS' (Nat.le_refl _) d1; go_simp; with_reducible rfl
    clear hD; intro hD
    simp only [Act.put, sqA, sqB, sqC]
    refine wpAnyK_pureD (i := 3) (d := some 34) (v := ?v7_3b1) (fuel := 8) rfl (by kernel_rfl) (by kernel_rfl) (fun _ _ _ h => h) hD (Below.refl _ _) (.inl ⟨by kernel_rfl, ?y7_3b1⟩) ?n7_3b1
    case y7_3b1 => intro w' _; go_simp; with_reducible rfl
    clear hD; intro hD
    simp only [Act.put, sqA, sqB, sqC]
    refine wpAnyK_takeSD (i := 4) (d := some 35) (v := ?v7_4b1) (fuel := 7) rfl (by kernel_rfl) (by kernel_rfl) (by kernel_rfl) (fun _ _ _ h => h) hD (Below.refl _ _) (.inl ⟨by kernel_rfl, ?y7_4b1⟩) ?n7_4b1
    case y7_4b1 => intro w' hS'; have e0 := cell_kept hS' (Nat.le_refl _) d0; have e1 := cell_kept hS' (Nat.le_refl _) d1; go_simp; with_reducible rfl
    clear hD; intro hD
    simp only [Act.put, sqA, sqB, sqC]
    refine wpAnyK_one (i := 2) (fuel := 6) (by kernel_rfl) rfl hD ?_
    clear hD; intro K2 hK2
    go_wp2_with fail
    refine (HS.out _).mono ?_
    rintro ev w3 ⟨rfl, hb3⟩
    have HB2 := Lib.hid hb3
    clear hb3
    go_wp2
    refine hK2 _ _ (by exact HB2.out) ?_; clear hK2; intro hS_7_2 hD
    refine wpAnyK_one (i := 5) (fuel := 5) (by kernel_rfl) rfl hD ?_
    clear hD; intro K5 hK5
    go_wp2_with fail
    refine (HD.out _).mono ?_
    rintro ev w4 ⟨rfl, hb4⟩
    have HB5 := Lib.hid hb4
    clear hb4
    go_wp2
    refine hK5 _ _ (by exact Below.trans hS_7_2 (Below.mono HB5.out (Below.size hS_7_2))) ?_; clear hK5; intro hS_7_5 hD
    refine wpAnyK_pureD (i := 6) (d := some 30) (v := ?v7_6b1) (fuel := 4) rfl (by kernel_rfl) (by kernel_rfl) (fun _ _ _ h => h) hD hS_7_5 (.inl ⟨by kernel_rfl, ?y7_6b1⟩) ?n7_6b1
    case y7_6b1 => intro w' _; go_simp; with_reducible rfl
    clear hD; intro hD
    simp only [Act.put, sqA, sqB, sqC]
    refine wpAnyK_pureD (i := 7) (d := some 37) (v := ?v7_7b1) (fuel := 3) rfl (by kernel_rfl) (by kernel_rfl) (fun _ _ _ h => h) hD hS_7_5 (.inl ⟨by kernel_rfl, ?y7_7b1⟩) ?n7_7b1
    case y7_7b1 => intro w' _; go_simp; with_reducible rfl
    clear hD; intro hD
    simp only [Act.put, sqA, sqB, sqC]
    refine wpAnyK_pureD (i := 8) (d := some 38) (v := ?v7_8b1) (fuel := 2) rfl (by kernel_rfl) (by kernel_rfl) (fun _ _ _ h => h) hD hS_7_5 (.inl ⟨by kernel_rfl, ?y7_8b1⟩) ?n7_8b1
    case y7_8b1 => intro w' _; go_simp; with_reducible rfl
    clear hD; intro hD
    simp only [Act.put, sqA, sqB, sqC]
    refine wpAnyK_one (i := 9) (fuel := 1) (by kernel_rfl) rfl hD ?_
    clear hD; intro K9 hK9
    go_wp2
    refine hK9 _ _ (by exact hS_7_5) ?_; clear hK9; intro hS_7_9 hD
    refine wpAnyK_one (i := 10) (fuel := 0) (by kernel_rfl) rfl hD ?_
    clear hD; intro K10 hK10
    go_wp2
    refine hK10 _ _ (by exact hS_7_9) ?_; clear hK10; intro hS_7_10 hD
    have HL := Lib.hid hS_7_10
    refine wpAnyK_done (by kernel_rfl) ?_ 0
    clear hD
    have HX5 := Lib.hid (HXd.out.kept HL.out HXd.out.lt)
    have HB6 := Lib.hid (show Below B w w4 from HBd.out.trans (HL.out.mono (by rw [← HBB.out]; exact HBd.out.size)))
    go_wp2
    go_loopw [8] (fun i wr => ∃ n : Nat, n ≤ 64 ∧ i = .int .u64 ((64 - n : Nat) : Int) ∧ hsF m k l n = hsF m k l 64 ∧ Bx2 wr B (.string M) (.string O) 24 ∧ Below B w wr) (fun i _ => 64 - (RowKit.intOf i).toNat)
    case atStart => exact ⟨64, Nat.le_refl _, rfl, rfl, HX5.out, HB6.out⟩
    case round =>
      obtain ⟨n, hn, rfl, hf, hx, hb⟩ := hrel
      have HF2 := Lib.hid hf
      have HX := Lib.hid hx
      have HB := Lib.hid hb
      clear hf hx hb
      by_cases h0 : n = 0
      · have HN0 := Lib.hid (show hsF m k l 64 = none from by rw [← HF2.out, h0]; rfl)
        have hge : ¬ (((64 - n : Nat) : Int) < 64) := by omega
        clear h0
        go_wp2
        go_ret2
        exact ⟨by rw [HN0.out]; rfl, by rw [HBB.out]; exact HB.out⟩
      · obtain ⟨p, hp⟩ : ∃ p, n = p + 1 := ⟨n - 1, by omega⟩
        have HP := Lib.hid hp
        obtain ⟨c, hc⟩ : ∃ c, 64 - n = c := ⟨_, rfl⟩
        have hc64 : c < 64 := by omega
        have hci : (c : Int) < 64 := by omega
        have HCP := Lib.hid (show c = 63 - p ∧ p + 1 ≤ 64 ∧ c < 100 from by omega)
        rw [hc]
        clear hp hc h0 hn hc64
        have hadd1 := fun w => (HTA.out c HCP.out.2.2 w).1
        have hadd2 := fun w => (HTA.out c HCP.out.2.2 w).2
        rw [← HSL.out] at hadd2
        have HOF := Lib.hid (show ∀ w, Calls Tryz.prog 57 #[.int .u64 c] w (Ret (.string (nS c)) w) from r01_Of c (by have := HCP.out; omega))
        have HTX := Lib.hid (r01_Text c (by have := HCP.out; omega))
        have hts := HTS.out c HCP.out.2.2
        obtain ⟨t0, ht0⟩ : ∃ t, (ByteArray.mk (Lib.decDigits c).toArray) = t := ⟨_, rfl⟩
        obtain ⟨t1, ht1⟩ : ∃ t, bstr (Lib.decDigits c ++ [58]) = t := ⟨_, rfl⟩
        obtain ⟨t2, ht2⟩ : ∃ t, bstr (txL c l) = t := ⟨_, rfl⟩
        rw [ht0, ht1] at hadd1
        rw [ht1, ht2] at hadd2
        rw [show bstr (Lib.decDigits c) = t0 from ht0] at HTX
        rw [ht2] at hts
        have HSU := Lib.hid (r05_Sum t2 hts)
        rw [← ht2, bstr_list, ht2] at HSU
        clear ht0 ht1 ht2 hts
        obtain ⟨sh, hsh⟩ : ∃ x, shaL (txL c l) = x := ⟨_, rfl⟩
        have HSH := Lib.hid hsh
        have HLS := Lib.hid (show sh.length = 32 from by rw [← hsh]; exact shaL_length _)
        rw [hsh] at HSU
        clear hsh
        go_wp2_with fail
        refine (HOF.out _).mono ?_
        rintro e w5 ⟨rfl, hb5⟩
        have HX3 := Lib.hid (HX.out.kept hb5 HX.out.lt)
        have HB3 := Lib.hid (HB.out.trans (hb5.mono (by rw [← HBB.out]; exact HB.out.size)))
        clear hb5
        go_wp2_with fail
        refine (HTX.out _).mono ?_
        rintro e w6 ⟨rfl, hb6⟩
        have HX4 := Lib.hid (HX3.out.kept hb6 HX3.out.lt)
        have HB4 := Lib.hid (HB3.out.trans (hb6.mono (by rw [← HBB.out]; exact HB3.out.size)))
        clear hb6
        go_wp2_with fail
        refine (HSU.out _).mono ?_
        rintro e w7 ⟨rfl, hb7⟩
        have HX7 := Lib.hid (HX4.out.kept hb7 HX4.out.lt)
        have HB7 := Lib.hid (HB4.out.trans (hb7.mono (by rw [← HBB.out]; exact HB4.out.size)))
        clear hb7 hadd1 hadd2
        obtain ⟨H, hH⟩ : ∃ x, bstr sh = x := ⟨_, rfl⟩
        have HH := Lib.hid hH
        have hHs : H.size = 32 := by rw [← hH, bstr_size]; exact HLS.out
        rw [hH]
        clear hH
        go_wp2
        go_loopw [12, 13] (fun v i wr => ∃ j : Nat, j ≤ 32 ∧ v = .string (nS (bnat (sh.take j))) ∧ i = .int .i64 j ∧ Bx2 wr B (.string M) (.string O) 24 ∧ Below B w wr) (fun _ i _ => 32 - (RowKit.intOf i).toNat)
        case atStart => exact ⟨0, by omega, rfl, rfl, HX7.out, HB7.out⟩
        case round =>
          obtain ⟨j, hj, rfl, rfl, hx, hb⟩ := hrel
          have HX3 := Lib.hid hx
          have HB3 := Lib.hid hb
          clear hx hb
          by_cases hlt : j < 32
          · have hji : (j : Int) < 32 := by omega
            have hjl : j < sh.length := by rw [HLS.out]; exact hlt
            have HTK := Lib.hid (bnat_take sh j hjl)
            have hs1 := bnat_take_lt sh j (by rw [HLS.out]; decide)
            obtain ⟨b, hb⟩ : ∃ b, (sh[j]).toNat = b := ⟨_, rfl⟩
            have hb256 : b < 256 := by rw [← hb]; exact UInt8.toNat_lt _
            have HXX := Lib.hid (show (H.data.toList.getD j 0).toNat = b from by
              rw [← hb, ← HH.out, bstr_list, List.getD_eq_getElem?_getD, List.getElem?_eq_getElem hjl]; rfl)
            have HJH := Lib.hid (show j < H.size from by omega)
            rw [hb] at HTK
            obtain ⟨X, hX⟩ : ∃ X, bnat (sh.take j) = X := ⟨_, rfl⟩
            rw [hX] at HTK hs1 ⊢
            have HTM := Lib.hid (r01_Times X 256 (by omega) (by decide))
            rw [nS_256] at HTM
            have HOB := Lib.hid (show ∀ w, Calls Tryz.prog 57 #[.int .u64 b] w (Ret (.string (nS b)) w) from r01_Of b (by omega))
            have hxl : X < 256 ^ 64 := nS_size_le.1 hs1
            have HPL := Lib.hid (r01_Plus (X * 256) b (by
              have : X * 256 < 256 ^ 65 := by rw [Nat.pow_succ]; exact Nat.mul_lt_mul_of_pos_right hxl (by decide)
              have := nS_size_le.2 this
              omega) (by have := nS_small_size (show b < 18446744073709551616 from by omega); omega))
            rw [← HTK.out] at HPL
            have HJJ := Lib.hid hlt
            have hb255 : b ≤ 255 := by omega
            have hwb : IntKind.u64.wrap (b : Int) = (b : Int) := by rw [IntKind.wrap_u64]; omega
            clear hX hb hs1 hxl hjl hlt hj hb256
            go_wp2
            obtain ⟨wd, hwd⟩ : ∃ wd, wr.drew = wd := ⟨_, rfl⟩
            have HXd := Lib.hid (show Bx2 wd B (.string M) (.string O) 24 from by rw [← hwd]; exact HX3.out)
            have HBd := Lib.hid (show Below B w wd from by rw [← hwd]; exact HB3.out.drew)
            refine wp_region_K 9 (Below (wd).heap.size (wd)) (by kernel_rfl) ?_
            intro hD
            rw [hwd]
            refine wpAnyK_pureD (i := 0) (d := some 60) (v := ?v17_0b2) (fuel := 8) rfl (by kernel_rfl) (by kernel_rfl) (fun _ _ _ h => h) hD (Below.refl _ _) (.inl ⟨by kernel_rfl, ?y17_0b2⟩) ?n17_0b2
            case y17_0b2 => intro w' _; go_simp; with_reducible rfl
            clear hD; intro hD
            simp only [Act.put, sqA, sqB, sqC]
            refine wpAnyK_pureD (i := 2) (d := some 62) (v := ?v17_2b2) (fuel := 7) rfl (by kernel_rfl) (by kernel_rfl) (fun _ _ _ h => h) hD (Below.refl _ _) (.inl ⟨by kernel_rfl, ?y17_2b2⟩) ?n17_2b2
            case y17_2b2 => intro w' _; go_simp; with_reducible rfl
            clear hD; intro hD
            simp only [Act.put, sqA, sqB, sqC]
            refine wpAnyK_pureD (i := 3) (d := some 63) (v := ?v17_3b2) (fuel := 6) rfl (by kernel_rfl) (by kernel_rfl) (fun _ _ _ h => h) hD (Below.refl _ _) (.inl ⟨by kernel_rfl, ?y17_3b2⟩) ?n17_3b2
            case y17_3b2 => intro w' _; go_simp; with_reducible rfl
            clear hD; intro hD
            simp only [Act.put, sqA, sqB, sqC]
            refine wpAnyK_takeSD (i := 4) (d := some 64) (v := (.int .u8 (b : Int))) (fuel := 5) rfl (by kernel_rfl) (by kernel_rfl) (by kernel_rfl) (fun _ _ _ h => h) hD (Below.refl _ _) (.inl ⟨by kernel_rfl, ?y17_4b2⟩) ?n17_4b2
            case y17_4b2 =>
              intro w' hS'
              exact index_byte_run (.tmp 62) (.tmp 63) rfl H j rfl rfl HJH.out HXX.out
            clear hD; intro hD
            simp only [Act.put, sqA, sqB, sqC]
            refine wpAnyK_pureD (i := 5) (d := some 65) (v := ?v17_5b2) (fuel := 4) rfl (by kernel_rfl) (by kernel_rfl) (fun _ _ _ h => h) hD (Below.refl _ _) (.inl ⟨by kernel_rfl, ?y17_5b2⟩) ?n17_5b2
            case y17_5b2 => intro w' _; go_simp; with_reducible rfl
            clear hD; intro hD
            simp only [Act.put, sqA, sqB, sqC]
            refine wpAnyK_one (i := 1) (fuel := 3) (by kernel_rfl) rfl hD ?_
            clear hD; intro K1 hK1
            go_wp2_with fail
            refine (HTM.out _).mono ?_
            rintro ev w3 ⟨rfl, hb3⟩
            have HB1 := Lib.hid hb3
            clear hb3
            go_wp2
            refine hK1 _ _ (by exact HB1.out) ?_; clear hK1; intro hS_17_1 hD
            refine wpAnyK_one (i := 6) (fuel := 2) (by kernel_rfl) rfl hD ?_
            clear hD; intro K6 hK6
            go_wp2_with fail
            refine (HOB.out _).mono ?_
            rintro ev w4 ⟨rfl, hb4⟩
            have HB6 := Lib.hid hb4
            clear hb4
            go_wp2
            refine hK6 _ _ (by exact Below.trans hS_17_1 (Below.mono HB6.out (Below.size hS_17_1))) ?_; clear hK6; intro hS_17_6 hD
            refine wpAnyK_one (i := 7) (fuel := 1) (by kernel_rfl) rfl hD ?_
            clear hD; intro K7 hK7
            go_wp2_with fail
            refine (HPL.out _).mono ?_
            rintro ev w5 ⟨rfl, hb5⟩
            have HB7 := Lib.hid hb5
            clear hb5
            go_wp2
            refine hK7 _ _ (by exact Below.trans hS_17_6 (Below.mono HB7.out (Below.size hS_17_6))) ?_; clear hK7; intro hS_17_7 hD
            refine wpAnyK_one (i := 8) (fuel := 0) (by kernel_rfl) rfl hD ?_
            clear hD; intro K8 hK8
            go_wp2
            refine hK8 _ _ (by exact hS_17_7) ?_; clear hK8; intro hS_17_8 hD
            have HL := Lib.hid hS_17_8
            refine wpAnyK_done (by kernel_rfl) ?_ 0
            clear hD
            have HX5 := Lib.hid (HXd.out.kept HL.out HXd.out.lt)
            have HB6 := Lib.hid (show Below B w w5 from HBd.out.trans (HL.out.mono (by rw [← HBB.out]; exact HBd.out.size)))
            go_wp2
            refine ⟨⟨j + 1, by have := HJJ.out; omega, rfl, by go_num, HX5.out, HB6.out⟩, ?_⟩
            have := HJJ.out; simp [RowKit.intOf]; omega
          · obtain ⟨A, hA⟩ : ∃ A, bnat sh = A := ⟨_, rfl⟩
            have HA := Lib.hid (show A < 256 ^ 128 from by rw [← hA]; exact bnat_lt128 _ (by have := HLS.out; omega))
            obtain ⟨y, hy⟩ : ∃ y, A ^ k % m = y := ⟨_, rfl⟩
            have HY := Lib.hid hy
            have HN := Lib.hid (show hsF m k l (p + 1) = if y = 0 ∨ y = 1 then hsF m k l p else some y from by
              rw [hsF, ← hy, ← hA, ← HSH.out, HCP.out.1]
              rfl)
            have HEQ := Lib.hid (show nS (bnat (sh.take j)) = nS A from by rw [List.take_of_length_le (by have := HLS.out; omega), hA])
            have hge : ¬ ((j : Int) < 32) := by omega
            clear hA hy hj hlt
            have c0 := HX3.out.c0
            go_wp2_with fail
            rw [HEQ.out]
            refine (HE.out A HA.out _).mono ?_
            rintro e w4 ⟨rfl, hb4⟩
            have HX4 := Lib.hid (HX3.out.kept hb4 HX3.out.lt)
            have HB4 := Lib.hid (HB3.out.trans (hb4.mono (by rw [← HBB.out]; exact HB3.out.size)))
            clear hb4 c0
            rw [HY.out]
            by_cases hy0 : y = 0
            · have HST := Lib.hid (show hsF m k l p = hsF m k l 64 from by rw [← HF2.out, HP.out, HN.out, if_pos (Or.inl hy0)])
              rw [hy0, nS_zero]
              clear hy0
              go_wp2
              refine ⟨⟨p, by have := HCP.out; omega, ?_, HST.out, HX4.out, HB4.out⟩, ?_⟩
              · have := HCP.out; congr 1; omega
              · have := HCP.out; simp [RowKit.intOf]; omega
            · by_cases hy1 : y = 1
              · have HST := Lib.hid (show hsF m k l p = hsF m k l 64 from by rw [← HF2.out, HP.out, HN.out, if_pos (Or.inr hy1)])
                rw [hy1, nS_one]
                clear hy0 hy1
                go_wp2
                refine ⟨⟨p, by have := HCP.out; omega, ?_, HST.out, HX4.out, HB4.out⟩, ?_⟩
                · have := HCP.out; congr 1; omega
                · have := HCP.out; simp [RowKit.intOf]; omega
              · have HST := Lib.hid (show hsF m k l 64 = some y from by rw [← HF2.out, HP.out, HN.out, if_neg (fun h => h.elim hy0 hy1)])
                have he0 := empty_nS (show 0 < y from by omega)
                have he1 : ((nS y).toList == [1]) = false := by rw [nS_is1]; exact decide_eq_false hy1
                clear hy0 hy1
                go_wp2
                go_ret2
                exact ⟨by rw [HST.out]; rfl, by rw [HBB.out]; exact HB4.out⟩
  · have HRN := Lib.hid (show hsN m q l = .tuple #[.string ⟨#[]⟩, .int .i64 13] from by unfold hsN; rw [if_neg hd])
    rw [show decide ((m - 1) % q = 0) = false from decide_eq_false hd] at HC
    rw [HRN.out]
    clear hd hk hk8 hl hM hO hK hB hu1 hrm hm hm8 hq hq8 hs hsl hll
    unfold gV at *
    go_enter Tryz.func75, Tryz.ntmps75
    go_wp2_with fail
    refine (HF.out _).mono ?_
    rintro e w1 ⟨rfl, hb1⟩
    have HX1 := Lib.hid (HX0.out.next hb1)
    have HB1 := Lib.hid (HB0.out.trans (hb1.mono HB0.out.size))
    clear hb1 c0 c1
    have c0 := HX1.out.c0
    have c1 := HX1.out.c1
    go_wp2_with fail
    refine (HC.out _).mono ?_
    rintro e w2 ⟨rfl, hb2⟩
    have HB2 := Lib.hid (HB1.out.trans (hb2.mono HB1.out.size))
    clear hb2 c0 c1 hm1 hq1
    go_wp2
    go_ret2
    exact ⟨rfl, HB2.out⟩
set_option maxRecDepth 100000 in
set_option maxHeartbeats 2000000 in
theorem r09_Hash (M O s : ByteArray) (hM : M.size ≤ 8) (hO : O.size ≤ 100) (hs : s.size ≤ 100000) (w : World) : Calls Tryz.prog 75 #[gV M O, .string s] w (Ret (hsR M O s.data.toList) w) := by
  have HF := Lib.hid (r09_form M O (by omega) (by omega))
  by_cases hv : nvalid M = true ∧ nvalid O = true
  · by_cases h0 : num M = 0 ∨ num O = 0
    · rw [show hsR M O s.data.toList = .tuple #[.string ⟨#[]⟩, .int .i64 11] from by unfold hsR; rw [if_pos hv, if_pos h0]]
      rw [hv.1, hv.2, Bool.and_true] at HF
      have HX0 := Lib.hid (Bx2.new w (.string M) (.string O) 24)
      have HB0 := Lib.hid ((Below.refl w.heap.size w).alloc (Nat.le_refl _) (.cells #[.string M, .string O] 24))
      have c0 := HX0.out.c0
      have c1 := HX0.out.c1
      have he : M.toList.isEmpty = true ∨ (M.toList.isEmpty = false ∧ O.toList.isEmpty = true) := by
        by_cases h : num M = 0
        · left; rw [nS_num hv.1, h]; exact sempty_true rfl
        · right
          refine ⟨?_, ?_⟩
          · rw [nS_num hv.1]; exact empty_nS (by omega)
          · rw [nS_num hv.2, h0.resolve_left h]; exact sempty_true rfl
      clear h0 hv hM hO hs
      rcases he with hm | ⟨hm, hq⟩ <;>
      · unfold gV at *
        go_enter Tryz.func75, Tryz.ntmps75
        go_wp2_with fail
        refine (HF.out _).mono ?_
        rintro e w1 ⟨rfl, hb1⟩
        have HX1 := Lib.hid (HX0.out.next hb1)
        have HB1 := Lib.hid (HB0.out.trans (hb1.mono HB0.out.size))
        clear hb1 c0 c1
        have c0 := HX1.out.c0
        have c1 := HX1.out.c1
        go_wp2
        go_ret2
        exact ⟨rfl, HB1.out⟩
    · rw [show hsR M O s.data.toList = hsN (num M) (num O) s.data.toList from by unfold hsR; rw [if_pos hv, if_neg h0]]
      have := r09_Hash_n (num M) (num O) s (by omega) (num_small hM) (by omega) (num_lt (by omega)) hs w
      rwa [← nS_num hv.1, ← nS_num hv.2] at this
  · rw [show hsR M O s.data.toList = .tuple #[.string ⟨#[]⟩, .int .i64 3] from by unfold hsR; rw [if_neg hv]]
    rw [show (nvalid M && nvalid O) = false from by cases h1 : nvalid M <;> cases h2 : nvalid O <;> simp_all] at HF
    have HB0 := Lib.hid ((Below.refl w.heap.size w).alloc (Nat.le_refl _) (.cells #[.string M, .string O] 24))
    have HX0 := Lib.hid (Bx2.new w (.string M) (.string O) 24)
    have c0 := HX0.out.c0
    have c1 := HX0.out.c1
    clear hv hM hO hs
    unfold gV at *
    go_enter Tryz.func75, Tryz.ntmps75
    go_wp2_with fail
    refine (HF.out _).mono ?_
    rintro e w1 ⟨rfl, hb1⟩
    have HB1 := Lib.hid (HB0.out.trans (hb1.mono HB0.out.size))
    clear hb1 c0 c1
    go_wp2
    go_ret2
    exact ⟨rfl, HB1.out⟩
end Go.Proofs.YtpdejgdkpghjhaaGreatDoor
/- Walks: pedersen.Commit, Opens and the reference's. -/
set_option linter.unusedVariables false
set_option linter.unusedSimpArgs false
namespace Go.Proofs.YtpdejgdkpghjhaaGreatDoor
open Go.RowKit
def KO (w W : World) (M O G H : ByteArray) (vb : Bool) (vt : ByteArray) (rb : Bool) (rt : ByteArray) : Prop :=
  Bx4 W w.heap.size (.string M) (.string O) (.string G) (.string H) 26 ∧ Bx4 W (w.heap.size + 1) (.bool vb) (.string vt) (.bool rb) (.string rt) 73 ∧ Below w.heap.size w W
end Go.Proofs.YtpdejgdkpghjhaaGreatDoor

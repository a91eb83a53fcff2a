/- Walks: the laws PrimegroupHas, PrimegroupMultiplies, PrimegroupPowers. -/
import Derived.Test.YtcbjadaghpmejaaGreatDoorAwL
set_option linter.unusedVariables false
set_option linter.unusedSimpArgs false
namespace Go.Proofs.YtcbjadaghpmejaaGreatDoor
open Go.RowKit

set_option maxRecDepth 100000 in
set_option maxHeartbeats 2000000 in
theorem walk_has (M O x : ByteArray) (w : World) : Calls Tryz.prog 3 #[gV M O, .string x] w (Ret (.bool true) w) := by
  have HAW := Lib.hid awake9
  obtain ⟨W0, hW0⟩ : ∃ W0, (w.alloc (.cells #[.string M, .string O] 24)).alloc (.cells #[.string x] 22) = W0 := ⟨_, rfl⟩
  have HX0 := Lib.hid (show Bx2 W0 w.heap.size (.string M) (.string O) 24 from by
    rw [← hW0]
    exact (Bx2.new w _ _ _).next ((Below.refl _ _).alloc (Nat.le_refl _) _))
  have HS0 := Lib.hid (show SlN W0 (some ⟨w.heap.size + 1, 0, none⟩) 1 1 [x] from by
    rw [← hW0]
    have := sln_alloc (w.alloc (.cells #[.string M, .string O] 24)) [x] 22 (by simp)
    rwa [World.size_alloc] at this)
  have HB0 := Lib.hid (show Below w.heap.size w W0 from by
    rw [← hW0]
    exact ((Below.refl w.heap.size w).alloc (Nat.le_refl _) _).alloc (by simp) _)
  have HFW := Lib.hid (law_Few M O [x] (some ⟨w.heap.size + 1, 0, none⟩) 1 1 (by omega) W0 HS0.out)
  cases hf : few9 M O [x] with
  | false =>
    rw [hf] at HFW
    clear hf
    unfold gV at *
    go_enter Tryz.func3, Tryz.ntmps3
    go_wp2_with fail
    try rw [hW0]
    clear hW0
    refine HFW.out.mono ?_
    rintro e w1 ⟨rfl, hb1⟩
    have HB1 := Lib.hid (HB0.out.trans (hb1.mono HB0.out.size))
    clear hb1
    go_wp2_with fail
    refine (HAW.out _).mono ?_
    rintro e w2 ⟨rfl, hb2⟩
    have HB2 := Lib.hid (HB1.out.trans (hb2.mono HB1.out.size))
    clear hb2
    go_wp2
    go_ret
    exact ⟨rfl, HB2.out⟩
  | true =>
    obtain ⟨h1, h2, h3⟩ := few9_of hf
    have h4 := h3 x (by simp)
    have HA := Lib.hid (pg_Has M O x h1 (by omega) (by omega))
    have HR := Lib.hid (r09_Has M O x h1 (by omega) (by omega))
    have HG := Lib.hid (pg_IsGen M O x h1 (by omega) (by omega))
    have HQ := Lib.hid (r09_IsGen M O x h1 (by omega) (by omega))
    obtain ⟨b, hb⟩ : ∃ b, hasG M O x = b := ⟨_, rfl⟩
    obtain ⟨c, hc⟩ : ∃ c, genG M O x = c := ⟨_, rfl⟩
    rw [hb] at HA HR
    rw [hc] at HG HQ
    rw [hf] at HFW
    clear hf hb hc h1 h2 h3 h4
    unfold gV at *
    go_enter Tryz.func3, Tryz.ntmps3
    go_wp2_with fail
    try rw [hW0]
    clear hW0
    refine HFW.out.mono ?_
    rintro e w1 ⟨rfl, hb1⟩
    have HB1 := Lib.hid (HB0.out.trans (hb1.mono HB0.out.size))
    have HX1 := Lib.hid (HX0.out.next hb1)
    clear hb1
    go_wp2
    obtain ⟨wd, hwd⟩ : ∃ wd, w1.drew = wd := ⟨_, rfl⟩
    have HBd := Lib.hid (show Below w.heap.size w wd from by rw [← hwd]; exact HB1.out.drew)
    obtain ⟨c0, c1⟩ : wd.cell? ⟨w.heap.size, 0, none⟩ = some (.string M) ∧ wd.cell? ⟨w.heap.size, 1, none⟩ = some (.string O) := by rw [← hwd]; exact ⟨HX1.out.c0, HX1.out.c1⟩
    refine wp_region_K 17 (Below (wd).heap.size (wd)) (by kernel_rfl) ?_
    intro hD
    rw [hwd]
    refine wpAnyK_take (i := 0) (v := ?v3_0b1) (fuel := 19) rfl (by kernel_rfl) (by kernel_rfl) (fun _ _ _ h => h) hD (Below.refl _ _) (.inl ⟨by kernel_rfl, ?y3_0b1⟩) ?n3_0b1
    case y3_0b1 => intro w' hS'; have e0 := cell_kept hS' (Nat.le_refl _) c0; have e1 := cell_kept hS' (Nat.le_refl _) c1; go_simp; with_reducible rfl
    clear hD; intro hD
    simp only [Act.put, List.setIfInBounds_toArray, List.set_cons_zero, List.set_cons_succ]
    refine wpAnyK_pure (i := 1) (v := ?v3_1b1) (fuel := 18) rfl (by kernel_rfl) (fun _ _ _ h => h) hD (Below.refl _ _) (.inl ⟨by kernel_rfl, ?y3_1b1⟩) ?n3_1b1
    case y3_1b1 => intro w' _; go_simp; with_reducible rfl
    clear hD; intro hD
    simp only [Act.put, List.setIfInBounds_toArray, List.set_cons_zero, List.set_cons_succ]
    refine wpAnyK_take (i := 3) (v := ?v3_3b1) (fuel := 17) rfl (by kernel_rfl) (by kernel_rfl) (fun _ _ _ h => h) hD (Below.refl _ _) (.inl ⟨by kernel_rfl, ?y3_3b1⟩) ?n3_3b1
    case y3_3b1 => intro w' hS'; have e0 := cell_kept hS' (Nat.le_refl _) c0; have e1 := cell_kept hS' (Nat.le_refl _) c1; go_simp; with_reducible rfl
    clear hD; intro hD
    simp only [Act.put, List.setIfInBounds_toArray, List.set_cons_zero, List.set_cons_succ]
    refine wpAnyK_pure (i := 4) (v := ?v3_4b1) (fuel := 16) rfl (by kernel_rfl) (fun _ _ _ h => h) hD (Below.refl _ _) (.inl ⟨by kernel_rfl, ?y3_4b1⟩) ?n3_4b1
    case y3_4b1 => intro w' _; go_simp; with_reducible rfl
    clear hD; intro hD
    simp only [Act.put, List.setIfInBounds_toArray, List.set_cons_zero, List.set_cons_succ]
    refine wpAnyK_one (i := 2) (fuel := 15) (by kernel_rfl) rfl hD ?_
    clear hD; intro K2 hK2
    go_wp2_with fail
    refine (HA.out _).mono ?_
    rintro ev w2 ⟨rfl, hb2⟩
    have HB2 := Lib.hid hb2
    clear hb2
    go_wp2
    refine hK2 _ _ (by exact HB2.out) ?_; clear hK2; intro hS_3_2 hD
    refine wpAnyK_one (i := 5) (fuel := 14) (by kernel_rfl) rfl hD ?_
    clear hD; intro K5 hK5
    go_wp2_with fail
    refine (HR.out _).mono ?_
    rintro ev w3 ⟨rfl, hb3⟩
    have HB5 := Lib.hid hb3
    clear hb3
    go_wp2
    refine hK5 _ _ (by exact Below.trans hS_3_2 (Below.mono HB5.out (Below.size hS_3_2))) ?_; clear hK5; intro hS_3_5 hD
    refine wpAnyK_pure (i := 6) (v := ?v3_6b1) (fuel := 13) rfl (by kernel_rfl) (fun _ _ _ h => h) hD hS_3_5 (.inl ⟨by kernel_rfl, ?y3_6b1⟩) ?n3_6b1
    case y3_6b1 => intro w' _; go_simp; with_reducible rfl
    clear hD; intro hD
    simp only [Act.put, List.setIfInBounds_toArray, List.set_cons_zero, List.set_cons_succ]
    refine wpAnyK_pure (i := 7) (v := ?v3_7b1) (fuel := 12) rfl (by kernel_rfl) (fun _ _ _ h => h) hD hS_3_5 (.inl ⟨by kernel_rfl, ?y3_7b1⟩) ?n3_7b1
    case y3_7b1 => intro w' _; go_simp; with_reducible rfl
    clear hD; intro hD
    simp only [Act.put, List.setIfInBounds_toArray, List.set_cons_zero, List.set_cons_succ]
    refine wpAnyK_take (i := 8) (v := ?v3_8b1) (fuel := 11) rfl (by kernel_rfl) (by kernel_rfl) (fun _ _ _ h => h) hD hS_3_5 (.inl ⟨by kernel_rfl, ?y3_8b1⟩) ?n3_8b1
    case y3_8b1 => intro w' hS'; have e0 := cell_kept hS' (Nat.le_refl _) c0; have e1 := cell_kept hS' (Nat.le_refl _) c1; go_simp; with_reducible rfl
    clear hD; intro hD
    simp only [Act.put, List.setIfInBounds_toArray, List.set_cons_zero, List.set_cons_succ]
    refine wpAnyK_pure (i := 9) (v := ?v3_9b1) (fuel := 10) rfl (by kernel_rfl) (fun _ _ _ h => h) hD hS_3_5 (.inl ⟨by kernel_rfl, ?y3_9b1⟩) ?n3_9b1
    case y3_9b1 => intro w' _; go_simp; with_reducible rfl
    clear hD; intro hD
    simp only [Act.put, List.setIfInBounds_toArray, List.set_cons_zero, List.set_cons_succ]
    refine wpAnyK_take (i := 11) (v := ?v3_11b1) (fuel := 9) rfl (by kernel_rfl) (by kernel_rfl) (fun _ _ _ h => h) hD hS_3_5 (.inl ⟨by kernel_rfl, ?y3_11b1⟩) ?n3_11b1
    case y3_11b1 => intro w' hS'; have e0 := cell_kept hS' (Nat.le_refl _) c0; have e1 := cell_kept hS' (Nat.le_refl _) c1; go_simp; with_reducible rfl
    clear hD; intro hD
    simp only [Act.put, List.setIfInBounds_toArray, List.set_cons_zero, List.set_cons_succ]
    refine wpAnyK_pure (i := 12) (v := ?v3_12b1) (fuel := 8) rfl (by kernel_rfl) (fun _ _ _ h => h) hD hS_3_5 (.inl ⟨by kernel_rfl, ?y3_12b1⟩) ?n3_12b1
    case y3_12b1 => intro w' _; go_simp; with_reducible rfl
    clear hD; intro hD
    simp only [Act.put, List.setIfInBounds_toArray, List.set_cons_zero, List.set_cons_succ]
    refine wpAnyK_one (i := 10) (fuel := 7) (by kernel_rfl) rfl hD ?_
    clear hD; intro K10 hK10
    go_wp2_with fail
    refine (HG.out _).mono ?_
    rintro ev w4 ⟨rfl, hb4⟩
    have HB10 := Lib.hid hb4
    clear hb4
    go_wp2
    refine hK10 _ _ (by exact Below.trans hS_3_5 (Below.mono HB10.out (Below.size hS_3_5))) ?_; clear hK10; intro hS_3_10 hD
    refine wpAnyK_one (i := 13) (fuel := 6) (by kernel_rfl) rfl hD ?_
    clear hD; intro K13 hK13
    go_wp2_with fail
    refine (HQ.out _).mono ?_
    rintro ev w5 ⟨rfl, hb5⟩
    have HB13 := Lib.hid hb5
    clear hb5
    go_wp2
    refine hK13 _ _ (by exact Below.trans hS_3_10 (Below.mono HB13.out (Below.size hS_3_10))) ?_; clear hK13; intro hS_3_13 hD
    refine wpAnyK_pure (i := 14) (v := ?v3_14b1) (fuel := 5) rfl (by kernel_rfl) (fun _ _ _ h => h) hD hS_3_13 (.inl ⟨by kernel_rfl, ?y3_14b1⟩) ?n3_14b1
    case y3_14b1 => intro w' _; go_simp; with_reducible rfl
    clear hD; intro hD
    simp only [Act.put, List.setIfInBounds_toArray, List.set_cons_zero, List.set_cons_succ]
    refine wpAnyK_pure (i := 15) (v := ?v3_15b1) (fuel := 4) rfl (by kernel_rfl) (fun _ _ _ h => h) hD hS_3_13 (.inl ⟨by kernel_rfl, ?y3_15b1⟩) ?n3_15b1
    case y3_15b1 => intro w' _; go_simp; with_reducible rfl
    clear hD; intro hD
    simp only [Act.put, List.setIfInBounds_toArray, List.set_cons_zero, List.set_cons_succ]
    refine wpAnyK_pure (i := 16) (v := ?v3_16b1) (fuel := 3) rfl (by kernel_rfl) (fun _ _ _ h => h) hD hS_3_13 (.inl ⟨by kernel_rfl, ?y3_16b1⟩) ?n3_16b1
    case y3_16b1 => intro w' _; go_simp; with_reducible rfl
    clear hD; intro hD
    simp only [Act.put, List.setIfInBounds_toArray, List.set_cons_zero, List.set_cons_succ]
    refine wpAnyK_oneT (i := 17) (fuel := 2) (by kernel_rfl) rfl hD (by kernel_rfl) ?_
    clear hD; intro K17 hK17
    go_wp2_with fail
    refine (HAW.out _).mono ?_
    rintro ev w6 ⟨rfl, hb6⟩
    have HB17 := Lib.hid hb6
    clear hb6
    go_wp2
    refine hK17 _ _ ?_; clear hK17; intro hD
    refine wpAnyK_pureT (i := 18) (v := ?v3_18b1) (fuel := 1) rfl (by kernel_rfl) (by kernel_rfl) (fun _ _ _ h => h) hD  (.inl ⟨by kernel_rfl, ?y3_18b1⟩) ?n3_18b1
    case y3_18b1 => intro w' _; go_simp; with_reducible rfl
    clear hD; intro hD
    simp only [Act.put, List.setIfInBounds_toArray, List.set_cons_zero, List.set_cons_succ]
    refine wpAnyK_oneT (i := 19) (fuel := 0) (by kernel_rfl) rfl hD (by kernel_rfl) ?_
    clear hD; intro K19 hK19
    go_wp2
    refine hK19 _ _ ?_; clear hK19; intro hD
    refine wpAnyK_done (by kernel_rfl) ?_ 0
    clear hD
    go_wp2
    go_ret
    exact ⟨rfl, HBd.out.trans ((HB2.out.trans ((HB5.out.trans ((HB10.out.trans ((HB13.out.trans (HB17.out.mono HB13.out.size)).mono HB10.out.size)).mono HB5.out.size)).mono HB2.out.size)).mono HBd.out.size)⟩

theorem mulR_form (M O a b : ByteArray) : ∃ s k, mulR M O a b = .tuple #[.string s, .int .i64 k] := by
  unfold mulR
  split
  · split
    · exact ⟨_, _, rfl⟩
    · exact ⟨_, _, rfl⟩
  · exact ⟨_, _, rfl⟩
theorem powR_form (M O a : ByteArray) (b : Bool) (s : ByteArray) : ∃ t k, powR M O a b s = .tuple #[.string t, .int .i64 k] := by
  unfold powR
  split
  · split
    · exact ⟨_, _, rfl⟩
    · exact ⟨_, _, rfl⟩
  · exact ⟨_, _, rfl⟩
set_option maxRecDepth 100000 in
set_option maxHeartbeats 2000000 in
theorem walk_mul (M O a b : ByteArray) (w : World) : Calls Tryz.prog 4 #[gV M O, .string a, .string b] w (Ret (.bool true) w) := by
  have HAW := Lib.hid awake9
  obtain ⟨W0, hW0⟩ : ∃ W0, (w.alloc (.cells #[.string M, .string O] 24)).alloc (.cells #[.string a, .string b] 22) = W0 := ⟨_, rfl⟩
  have HX0 := Lib.hid (show Bx2 W0 w.heap.size (.string M) (.string O) 24 from by
    rw [← hW0]
    exact (Bx2.new w _ _ _).next ((Below.refl _ _).alloc (Nat.le_refl _) _))
  have HS0 := Lib.hid (show SlN W0 (some ⟨w.heap.size + 1, 0, none⟩) 2 2 [a, b] from by
    rw [← hW0]
    have := sln_alloc (w.alloc (.cells #[.string M, .string O] 24)) [a, b] 22 (by simp)
    rwa [World.size_alloc] at this)
  have HB0 := Lib.hid (show Below w.heap.size w W0 from by
    rw [← hW0]
    exact ((Below.refl w.heap.size w).alloc (Nat.le_refl _) _).alloc (by simp) _)
  have HFW := Lib.hid (law_Few M O [a, b] (some ⟨w.heap.size + 1, 0, none⟩) 2 2 (by omega) W0 HS0.out)
  cases hf : few9 M O [a, b] with
  | false =>
    rw [hf] at HFW
    clear hf
    unfold gV at *
    skip
    go_enter Tryz.func4, Tryz.ntmps4
    go_wp2_with fail
    try rw [hW0]
    clear hW0
    refine HFW.out.mono ?_
    rintro e w1 ⟨rfl, hb1⟩
    have HB1 := Lib.hid (HB0.out.trans (hb1.mono HB0.out.size))
    clear hb1
    go_wp2_with fail
    refine (HAW.out _).mono ?_
    rintro e w2 ⟨rfl, hb2⟩
    have HB2 := Lib.hid (HB1.out.trans (hb2.mono HB1.out.size))
    clear hb2
    go_wp2
    go_ret
    exact ⟨rfl, HB2.out⟩
  | true =>
    obtain ⟨h1, h2, h3⟩ := few9_of hf
    have h4 := h3 a (by simp)
    have h5 := h3 b (by simp)
    obtain ⟨rs, rk, hr⟩ := mulR_form M O a b
    have HA := Lib.hid (pg_Mul M O a b h1 (by omega) (by omega) (by omega))
    have HR := Lib.hid (r09_Mul M O a b h1 (by omega) (by omega) (by omega))
    rw [hr] at HA HR
    clear hr
    rw [hf] at HFW
    clear hf h1 h2 h3 h4 h5
    unfold gV at *
    skip
    go_enter Tryz.func4, Tryz.ntmps4
    go_wp2_with fail
    try rw [hW0]
    clear hW0
    refine HFW.out.mono ?_
    rintro e w1 ⟨rfl, hb1⟩
    have HB1 := Lib.hid (HB0.out.trans (hb1.mono HB0.out.size))
    have HX1 := Lib.hid (HX0.out.next hb1)
    skip
    clear hb1 
    have c0 := HX1.out.c0
    have c1 := HX1.out.c1
    skip
    go_wp2_with fail
    refine (HA.out _).mono ?_
    rintro e w2 ⟨rfl, hb2⟩
    have HB2 := Lib.hid (HB1.out.trans (hb2.mono HB1.out.size))
    have HX2 := Lib.hid (HX1.out.next hb2)
    skip
    clear hb2 c0 c1 
    have c0 := HX2.out.c0
    have c1 := HX2.out.c1
    skip
    go_wp2_with fail
    refine (HR.out _).mono ?_
    rintro e w3 ⟨rfl, hb3⟩
    have HB3 := Lib.hid (HB2.out.trans (hb3.mono HB2.out.size))
    clear hb3 c0 c1
    go_wp2_with fail
    refine (HAW.out _).mono ?_
    rintro e w4 ⟨rfl, hb4⟩
    have HB4 := Lib.hid (HB3.out.trans (hb4.mono HB3.out.size))
    clear hb4
    go_wp2
    go_ret
    exact ⟨rfl, HB4.out⟩
set_option maxRecDepth 100000 in
set_option maxHeartbeats 2000000 in
theorem walk_pow (M O a : ByteArray) (neg : Bool) (b : ByteArray) (w : World) : Calls Tryz.prog 5 #[gV M O, .string a, zV neg b] w (Ret (.bool true) w) := by
  have HAW := Lib.hid awake9
  obtain ⟨W0, hW0⟩ : ∃ W0, ((w.alloc (.cells #[.string M, .string O] 24)).alloc (.cells #[.bool neg, .string b] 35)).alloc (.cells #[.string a, .string b] 22) = W0 := ⟨_, rfl⟩
  have HX0 := Lib.hid (show Bx2 W0 w.heap.size (.string M) (.string O) 24 from by
    rw [← hW0]
    exact ((Bx2.new w _ _ _).next ((Below.refl _ _).alloc (Nat.le_refl _) _)).next ((Below.refl _ _).alloc (Nat.le_refl _) _))
  have HY0 := Lib.hid (show Bx2 W0 (w.heap.size + 1) (.bool neg) (.string b) 35 from by
    rw [← hW0]
    have := Bx2.new (w.alloc (.cells #[.string M, .string O] 24)) (.bool neg) (.string b) 35
    rw [World.size_alloc] at this
    exact this.next ((Below.refl _ _).alloc (Nat.le_refl _) _))
  have HS0 := Lib.hid (show SlN W0 (some ⟨w.heap.size + 1 + 1, 0, none⟩) 2 2 [a, b] from by
    rw [← hW0]
    have := sln_alloc ((w.alloc (.cells #[.string M, .string O] 24)).alloc (.cells #[.bool neg, .string b] 35)) [a, b] 22 (by simp)
    rwa [World.size_alloc, World.size_alloc] at this)
  have HB0 := Lib.hid (show Below w.heap.size w W0 from by
    rw [← hW0]
    exact (((Below.refl w.heap.size w).alloc (Nat.le_refl _) _).alloc (by simp) _).alloc (by simp; omega) _)
  have HFW := Lib.hid (law_Few M O [a, b] (some ⟨w.heap.size + 1 + 1, 0, none⟩) 2 2 (by omega) W0 HS0.out)
  cases hf : few9 M O [a, b] with
  | false =>
    rw [hf] at HFW
    clear hf
    unfold gV at *
    unfold zV at *
    go_enter Tryz.func5, Tryz.ntmps5
    go_wp2_with fail
    try rw [hW0]
    clear hW0
    refine HFW.out.mono ?_
    rintro e w1 ⟨rfl, hb1⟩
    have HB1 := Lib.hid (HB0.out.trans (hb1.mono HB0.out.size))
    clear hb1
    go_wp2_with fail
    refine (HAW.out _).mono ?_
    rintro e w2 ⟨rfl, hb2⟩
    have HB2 := Lib.hid (HB1.out.trans (hb2.mono HB1.out.size))
    clear hb2
    go_wp2
    go_ret
    exact ⟨rfl, HB2.out⟩
  | true =>
    obtain ⟨h1, h2, h3⟩ := few9_of hf
    have h4 := h3 a (by simp)
    have h5 := h3 b (by simp)
    obtain ⟨rs, rk, hr⟩ := powR_form M O a neg b
    have HA := Lib.hid (pg_Power M O a neg b h1 (by omega) (by omega) (by omega))
    have HR := Lib.hid (r09_Power M O a neg b h1 (by omega) (by omega) (by omega))
    rw [hr] at HA HR
    clear hr
    rw [hf] at HFW
    clear hf h1 h2 h3 h4 h5
    unfold gV at *
    unfold zV at *
    go_enter Tryz.func5, Tryz.ntmps5
    go_wp2_with fail
    try rw [hW0]
    clear hW0
    refine HFW.out.mono ?_
    rintro e w1 ⟨rfl, hb1⟩
    have HB1 := Lib.hid (HB0.out.trans (hb1.mono HB0.out.size))
    have HX1 := Lib.hid (HX0.out.next hb1)
    have HY1 := Lib.hid (HY0.out.next hb1)
    clear hb1 
    have c0 := HX1.out.c0
    have c1 := HX1.out.c1
    obtain ⟨d0, d1⟩ : _ ∧ _ := ⟨HY1.out.c0, HY1.out.c1⟩
    go_wp2_with fail
    refine (HA.out _).mono ?_
    rintro e w2 ⟨rfl, hb2⟩
    have HB2 := Lib.hid (HB1.out.trans (hb2.mono HB1.out.size))
    have HX2 := Lib.hid (HX1.out.next hb2)
    have HY2 := Lib.hid (HY1.out.next hb2)
    clear hb2 c0 c1 d0 d1
    have c0 := HX2.out.c0
    have c1 := HX2.out.c1
    obtain ⟨d0, d1⟩ : _ ∧ _ := ⟨HY2.out.c0, HY2.out.c1⟩
    go_wp2_with fail
    refine (HR.out _).mono ?_
    rintro e w3 ⟨rfl, hb3⟩
    have HB3 := Lib.hid (HB2.out.trans (hb3.mono HB2.out.size))
    clear hb3 c0 c1
    go_wp2_with fail
    refine (HAW.out _).mono ?_
    rintro e w4 ⟨rfl, hb4⟩
    have HB4 := Lib.hid (HB3.out.trans (hb4.mono HB3.out.size))
    clear hb4
    go_wp2
    go_ret
    exact ⟨rfl, HB4.out⟩
end Go.Proofs.YtcbjadaghpmejaaGreatDoor

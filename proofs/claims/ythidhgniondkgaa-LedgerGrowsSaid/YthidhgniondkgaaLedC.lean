/- Walks: ledger.Message, kind 0. -/
import Derived.Test.YthidhgniondkgaaLedB
set_option linter.unusedVariables false
set_option linter.unusedSimpArgs false
namespace Go.Proofs.Ythidhgniondkgaa
open Go.RowKit


set_option maxRecDepth 100000 in
set_option maxHeartbeats 4000000 in
theorem led_Message_0 (q p : Nat) (h s : ByteArray) (w : World) (hq : ((q : Int) == 0) = true) (hh : h.size ≤ 128) (hs : s.size ≤ 32) (hv : nvalid h = true) (hl : lowB h = false) (hn : nameB s = true) (hq2 : q ≤ 2) (hp : p ≤ 4096) : Calls Try.prog 8 #[.agg #[.int .i64 q, .string h, .string s, .int .i64 p]] w (RetSE (encS (itE q h s p)) w) := by
  obtain ⟨W0, hW0⟩ : ∃ W0, w.alloc (.cells #[.int .i64 q, .string h, .string s, .int .i64 p] 24) = W0 := ⟨_, rfl⟩
  have hbox : W0.heap[w.heap.size]? = some (.cells #[.int .i64 q, .string h, .string s, .int .i64 p] 24 (0, 0)) := by rw [← hW0]; exact heap_alloc_new _ _
  have hb0 : Below w.heap.size w W0 := by rw [← hW0]; exact (Below.refl _ _).alloc (Nat.le_refl _) _
  have hz : w.heap.size + 1 ≤ W0.heap.size := block_lt hbox
  obtain ⟨b0, b1, b2, b3⟩ := four_cells hbox
  have HW0 := Lib.hid hW0
  have HA0 := Lib.hid hb0
  clear hW0 hbox hb0
  have HL := Lib.hid hl
  have HN := Lib.hid hn
  clear hl hn
  have HV := Lib.hid hv
  clear hv
  go_enter Try.func8, Try.ntmps8
  go_wp2_with fail
  rw [HW0.out]
  refine (nat_Valid h (by omega) _).mono ?_
  rintro e w1 ⟨rfl, rfl⟩
  rw [HV.out]
  go_wp2
  refine wp_region_K 14 (Below (W0.drew).heap.size (W0.drew)) (by kernel_rfl) ?_
  intro hD
  refine wpAnyK_pure (i := 0) (v := ?v5_0b1) (fuel := 13) rfl (by kernel_rfl) (fun _ _ _ h => h) hD (Below.refl _ _) (.inl ⟨by kernel_rfl, ?y5_0b1⟩) ?n5_0b1
  case y5_0b1 => intro w' _; go_simp; with_reducible rfl
  clear hD; intro hD
  simp only [Act.put, List.setIfInBounds_toArray, List.set_cons_zero, List.set_cons_succ]
  refine wpAnyK_pure (i := 1) (v := ?v5_1b1) (fuel := 12) rfl (by kernel_rfl) (fun _ _ _ h => h) hD (Below.refl _ _) (.inl ⟨by kernel_rfl, ?y5_1b1⟩) ?n5_1b1
  case y5_1b1 => intro w' _; go_simp; with_reducible rfl
  clear hD; intro hD
  simp only [Act.put, List.setIfInBounds_toArray, List.set_cons_zero, List.set_cons_succ]
  refine wpAnyK_pure (i := 2) (v := ?v5_2b1) (fuel := 11) rfl (by kernel_rfl) (fun _ _ _ h => h) hD (Below.refl _ _) (.inl ⟨by kernel_rfl, ?y5_2b1⟩) ?n5_2b1
  case y5_2b1 => intro w' _; go_simp; with_reducible rfl
  clear hD; intro hD
  simp only [Act.put, List.setIfInBounds_toArray, List.set_cons_zero, List.set_cons_succ]
  refine wpAnyK_takeS (i := 3) (v := ?v5_3b1) (fuel := 10) rfl (by kernel_rfl) (by kernel_rfl) (fun _ _ _ h => h) hD (Below.refl _ _) (.inl ⟨by kernel_rfl, ?y5_3b1⟩) ?n5_3b1
  case y5_3b1 => intro w' hS'; have e0 := cell_kept hS' (Nat.le_refl _) b0; have e1 := cell_kept hS' (Nat.le_refl _) b1; have e2 := cell_kept hS' (Nat.le_refl _) b2; have e3 := cell_kept hS' (Nat.le_refl _) b3; go_simp; with_reducible rfl
  clear hD; intro hD
  simp only [Act.put, List.setIfInBounds_toArray, List.set_cons_zero, List.set_cons_succ]
  refine wpAnyK_one (i := 4) (fuel := 9) (by kernel_rfl) rfl hD ?_
  clear hD; intro K4 hK4
  go_wp2_with fail
  refine (nat_Of 3 (by omega) _).mono ?_
  rintro e w2 ⟨rfl, hb2⟩
  have HB4 := Lib.hid hb2
  clear hb2
  rw [three]
  go_wp2
  refine hK4 _ _ (by exact HB4.out) ?_; clear hK4; intro hS_5_4 hD
  refine wpAnyK_one (i := 5) (fuel := 8) (by kernel_rfl) rfl hD ?_
  clear hD; intro K5 hK5
  go_wp2_with fail
  refine (nat_Cmp h _ (by omega) (by decide) _).mono ?_
  rintro e w3 ⟨rfl, rfl⟩
  obtain ⟨c, hc, hc0⟩ := low_no HV.out HL.out
  rw [hc]
  have HC := Lib.hid hc
  clear hc
  go_wp2
  refine hK5 _ _ (by exact hS_5_4) ?_; clear hK5; intro hS_5_5 hD
  refine wpAnyK_pure (i := 6) (v := ?v5_6b1) (fuel := 7) rfl (by kernel_rfl) (fun _ _ _ h => h) hD hS_5_5 (.inl ⟨by kernel_rfl, ?y5_6b1⟩) ?n5_6b1
  case y5_6b1 => intro w' _; go_simp; with_reducible rfl
  clear hD; intro hD
  simp only [Act.put, List.setIfInBounds_toArray, List.set_cons_zero, List.set_cons_succ]
  refine wpAnyK_pure (i := 7) (v := ?v5_7b1) (fuel := 6) rfl (by kernel_rfl) (fun _ _ _ h => h) hD hS_5_5 (.inl ⟨by kernel_rfl, ?y5_7b1⟩) ?n5_7b1
  case y5_7b1 => intro w' _; go_simp; with_reducible rfl
  clear hD; intro hD
  simp only [Act.put, List.setIfInBounds_toArray, List.set_cons_zero, List.set_cons_succ]
  refine wpAnyK_pure (i := 8) (v := ?v5_8b1) (fuel := 5) rfl (by kernel_rfl) (fun _ _ _ h => h) hD hS_5_5 (.inl ⟨by kernel_rfl, ?y5_8b1⟩) ?n5_8b1
  case y5_8b1 => intro w' _; go_simp; with_reducible rfl
  clear hD; intro hD
  simp only [Act.put, List.setIfInBounds_toArray, List.set_cons_zero, List.set_cons_succ]
  refine wpAnyK_pure (i := 9) (v := ?v5_9b1) (fuel := 4) rfl (by kernel_rfl) (fun _ _ _ h => h) hD hS_5_5 (.inl ⟨by kernel_rfl, ?y5_9b1⟩) ?n5_9b1
  case y5_9b1 => intro w' _; go_simp; with_reducible rfl
  clear hD; intro hD
  simp only [Act.put, List.setIfInBounds_toArray, List.set_cons_zero, List.set_cons_succ]
  refine wpAnyK_takeS (i := 10) (v := ?v5_10b1) (fuel := 3) rfl (by kernel_rfl) (by kernel_rfl) (fun _ _ _ h => h) hD hS_5_5 (.inl ⟨by kernel_rfl, ?y5_10b1⟩) ?n5_10b1
  case y5_10b1 => intro w' hS'; have e0 := cell_kept hS' (Nat.le_refl _) b0; have e1 := cell_kept hS' (Nat.le_refl _) b1; have e2 := cell_kept hS' (Nat.le_refl _) b2; have e3 := cell_kept hS' (Nat.le_refl _) b3; go_simp; with_reducible rfl
  clear hD; intro hD
  simp only [Act.put, List.setIfInBounds_toArray, List.set_cons_zero, List.set_cons_succ]
  refine wpAnyK_one (i := 11) (fuel := 2) (by kernel_rfl) rfl hD ?_
  clear hD; intro K11 hK11
  go_wp2_with fail
  refine (led_name s _ (by omega)).mono ?_
  rintro e w4 ⟨rfl, rfl⟩
  rw [HN.out]
  go_wp2
  refine hK11 _ _ (by exact hS_5_5) ?_; clear hK11; intro hS_5_11 hD
  refine wpAnyK_pure (i := 12) (v := ?v5_12b1) (fuel := 1) rfl (by kernel_rfl) (fun _ _ _ h => h) hD hS_5_11 (.inl ⟨by kernel_rfl, ?y5_12b1⟩) ?n5_12b1
  case y5_12b1 => intro w' _; go_simp; with_reducible rfl
  clear hD; intro hD
  simp only [Act.put, List.setIfInBounds_toArray, List.set_cons_zero, List.set_cons_succ]
  refine wpAnyK_one (i := 13) (fuel := 0) (by kernel_rfl) rfl hD ?_
  clear hD; intro K13 hK13
  go_wp2
  refine hK13 _ _ (by exact hS_5_11) ?_; clear hK13; intro hS_5_13 hD
  refine wpAnyK_done (by kernel_rfl) ?_ 0
  have HS5 := Lib.hid hS_5_13
  clear hD
  have d0 := cell_kept HS5.out (Nat.le_refl _) b0
  have d1 := cell_kept HS5.out (Nat.le_refl _) b1
  have d2 := cell_kept HS5.out (Nat.le_refl _) b2
  have d3 := cell_kept HS5.out (Nat.le_refl _) b3
  have hz2 : w.heap.size + 1 ≤ w2.heap.size := Nat.le_trans hz HS5.out.size
  have HA1 := Lib.hid (HA0.out.drew.trans (HS5.out.mono (by simp; omega)))
  clear b0 b1 b2 b3 HS5 HA0 HW0
  go_wp2
  refine wp_region_K 20 (Below (w2.drew).heap.size (w2.drew)) (by kernel_rfl) ?_
  intro hD
  refine wpAnyK_pure (i := 1) (v := ?v14_1b2) (fuel := 19) rfl (by kernel_rfl) (fun _ _ _ h => h) hD (Below.refl _ _) (.inl ⟨by kernel_rfl, ?y14_1b2⟩) ?n14_1b2
  case y14_1b2 => intro w' _; go_simp; with_reducible rfl
  clear hD; intro hD
  simp only [Act.put, List.setIfInBounds_toArray, List.set_cons_zero, List.set_cons_succ]
  refine wpAnyK_takeS (i := 2) (v := ?v14_2b2) (fuel := 18) rfl (by kernel_rfl) (by kernel_rfl) (fun _ _ _ h => h) hD (Below.refl _ _) (.inl ⟨by kernel_rfl, ?y14_2b2⟩) ?n14_2b2
  case y14_2b2 => intro w' hS'; have e0 := cell_kept hS' (Nat.le_refl _) d0; have e1 := cell_kept hS' (Nat.le_refl _) d1; have e2 := cell_kept hS' (Nat.le_refl _) d2; have e3 := cell_kept hS' (Nat.le_refl _) d3; go_simp; with_reducible rfl
  clear hD; intro hD
  simp only [Act.put, List.setIfInBounds_toArray, List.set_cons_zero, List.set_cons_succ]
  refine wpAnyK_pure (i := 4) (v := ?v14_4b2) (fuel := 17) rfl (by kernel_rfl) (fun _ _ _ h => h) hD (Below.refl _ _) (.inl ⟨by kernel_rfl, ?y14_4b2⟩) ?n14_4b2
  case y14_4b2 => intro w' _; go_simp; with_reducible rfl
  clear hD; intro hD
  simp only [Act.put, List.setIfInBounds_toArray, List.set_cons_zero, List.set_cons_succ]
  refine wpAnyK_takeS (i := 5) (v := ?v14_5b2) (fuel := 16) rfl (by kernel_rfl) (by kernel_rfl) (fun _ _ _ h => h) hD (Below.refl _ _) (.inl ⟨by kernel_rfl, ?y14_5b2⟩) ?n14_5b2
  case y14_5b2 => intro w' hS'; have e0 := cell_kept hS' (Nat.le_refl _) d0; have e1 := cell_kept hS' (Nat.le_refl _) d1; have e2 := cell_kept hS' (Nat.le_refl _) d2; have e3 := cell_kept hS' (Nat.le_refl _) d3; go_simp; with_reducible rfl
  clear hD; intro hD
  simp only [Act.put, List.setIfInBounds_toArray, List.set_cons_zero, List.set_cons_succ]
  refine wpAnyK_pure (i := 7) (v := ?v14_7b2) (fuel := 15) rfl (by kernel_rfl) (fun _ _ _ h => h) hD (Below.refl _ _) (.inl ⟨by kernel_rfl, ?y14_7b2⟩) ?n14_7b2
  case y14_7b2 => intro w' _; go_simp; with_reducible rfl
  clear hD; intro hD
  simp only [Act.put, List.setIfInBounds_toArray, List.set_cons_zero, List.set_cons_succ]
  refine wpAnyK_takeS (i := 8) (v := ?v14_8b2) (fuel := 14) rfl (by kernel_rfl) (by kernel_rfl) (fun _ _ _ h => h) hD (Below.refl _ _) (.inl ⟨by kernel_rfl, ?y14_8b2⟩) ?n14_8b2
  case y14_8b2 => intro w' hS'; have e0 := cell_kept hS' (Nat.le_refl _) d0; have e1 := cell_kept hS' (Nat.le_refl _) d1; have e2 := cell_kept hS' (Nat.le_refl _) d2; have e3 := cell_kept hS' (Nat.le_refl _) d3; go_simp; with_reducible rfl
  clear hD; intro hD
  simp only [Act.put, List.setIfInBounds_toArray, List.set_cons_zero, List.set_cons_succ]
  refine wpAnyK_pure (i := 10) (v := ?v14_10b2) (fuel := 13) rfl (by kernel_rfl) (fun _ _ _ h => h) hD (Below.refl _ _) (.inl ⟨by kernel_rfl, ?y14_10b2⟩) ?n14_10b2
  case y14_10b2 => intro w' _; go_simp; with_reducible rfl
  clear hD; intro hD
  simp only [Act.put, List.setIfInBounds_toArray, List.set_cons_zero, List.set_cons_succ]
  refine wpAnyK_takeS (i := 11) (v := ?v14_11b2) (fuel := 12) rfl (by kernel_rfl) (by kernel_rfl) (fun _ _ _ h => h) hD (Below.refl _ _) (.inl ⟨by kernel_rfl, ?y14_11b2⟩) ?n14_11b2
  case y14_11b2 => intro w' hS'; have e0 := cell_kept hS' (Nat.le_refl _) d0; have e1 := cell_kept hS' (Nat.le_refl _) d1; have e2 := cell_kept hS' (Nat.le_refl _) d2; have e3 := cell_kept hS' (Nat.le_refl _) d3; go_simp; with_reducible rfl
  clear hD; intro hD
  simp only [Act.put, List.setIfInBounds_toArray, List.set_cons_zero, List.set_cons_succ]
  refine wpAnyK_one (i := 0) (fuel := 11) (by kernel_rfl) rfl hD ?_
  clear hD; intro K0 hK0
  go_wp2_with fail
  refine (enc_TextV _ _).mono ?_
  rintro e w10 ⟨rfl, hb10⟩
  have HB0 := Lib.hid hb10
  clear hb10
  go_wp2
  refine hK0 _ _ (by exact HB0.out) ?_; clear hK0; intro hS_14_0 hD
  refine wpAnyK_one (i := 3) (fuel := 10) (by kernel_rfl) rfl hD ?_
  clear hD; intro K3 hK3
  go_wp2_with fail
  refine (led_number q _ (by omega)).mono ?_
  rintro e w11 ⟨rfl, hb11⟩
  have HB3 := Lib.hid hb11
  clear hb11
  go_wp2
  refine hK3 _ _ (by exact Below.trans hS_14_0 (Below.mono HB3.out (Below.size hS_14_0))) ?_; clear hK3; intro hS_14_3 hD
  refine wpAnyK_one (i := 6) (fuel := 9) (by kernel_rfl) rfl hD ?_
  clear hD; intro K6 hK6
  go_wp2_with fail
  refine (enc_NatV _ _).mono ?_
  rintro e w12 ⟨rfl, hb12⟩
  have HB6 := Lib.hid hb12
  clear hb12
  go_wp2
  refine hK6 _ _ (by exact Below.trans hS_14_3 (Below.mono HB6.out (Below.size hS_14_3))) ?_; clear hK6; intro hS_14_6 hD
  refine wpAnyK_one (i := 9) (fuel := 8) (by kernel_rfl) rfl hD ?_
  clear hD; intro K9 hK9
  go_wp2_with fail
  refine (enc_TextV _ _).mono ?_
  rintro e w13 ⟨rfl, hb13⟩
  have HB9 := Lib.hid hb13
  clear hb13
  go_wp2
  refine hK9 _ _ (by exact Below.trans hS_14_6 (Below.mono HB9.out (Below.size hS_14_6))) ?_; clear hK9; intro hS_14_9 hD
  refine wpAnyK_one (i := 12) (fuel := 7) (by kernel_rfl) rfl hD ?_
  clear hD; intro K12 hK12
  go_wp2_with fail
  refine (led_number p _ (by omega)).mono ?_
  rintro e w14 ⟨rfl, hb14⟩
  have HB12 := Lib.hid hb14
  clear hb14
  go_wp2
  refine hK12 _ _ (by exact Below.trans hS_14_9 (Below.mono HB12.out (Below.size hS_14_9))) ?_; clear hK12; intro hS_14_12 hD
  refine wpAnyK_one (i := 13) (fuel := 6) (by kernel_rfl) rfl hD ?_
  clear hD; intro K13 hK13
  go_wp2
  refine hK13 _ _ (by exact Below.alloc hS_14_12 (Below.size hS_14_12) _) ?_; clear hK13; intro hS_14_13 hD
  refine wpAnyK_one (i := 14) (fuel := 5) (by kernel_rfl) rfl hD ?_
  clear hD; intro K14 hK14
  go_wp2_with fail
  refine (enc_List (itsE q h s p) _ 5 5 _ _ (Nat.le_of_ble_eq_true rfl) (row5 (heap_alloc_new w14 _))).mono ?_
  rintro e w15 ⟨v15, rfl, hi15, hb15⟩
  have HB14 := Lib.hid hb15
  have HI15 := Lib.hid hi15
  clear hb15 hi15
  go_wp2
  refine hK14 _ _ (by exact Below.trans hS_14_13 (Below.mono HB14.out (Below.size hS_14_13))) ?_; clear hK14; intro hS_14_14 hD
  refine wpAnyK_one (i := 15) (fuel := 4) (by kernel_rfl) rfl hD ?_
  clear hD; intro K15 hK15
  go_wp2_with fail
  refine (enc_Encode _ v15 _ _ (itE_weight hq2 hp hh hs) HI15.out).mono ?_
  rintro e w16 ⟨rfl, hb16⟩
  have HB15 := Lib.hid hb16
  clear hb16
  obtain ⟨r1, r2, hr⟩ : ∃ r1 r2, encS (itE q h s p) = (r1, r2) := ⟨_, _, rfl⟩
  have HR := Lib.hid hr
  rw [hr]
  clear hr
  go_wp2
  refine hK15 _ _ (by exact Below.trans hS_14_14 (Below.mono HB15.out (Below.size hS_14_14))) ?_; clear hK15; intro hS_14_15 hD
  refine wpAnyK_pure (i := 16) (v := ?v14_16b2) (fuel := 3) rfl (by kernel_rfl) (fun _ _ _ h => h) hD hS_14_15 (.inl ⟨by kernel_rfl, ?y14_16b2⟩) ?n14_16b2
  case y14_16b2 => intro w' _; go_simp; with_reducible rfl
  clear hD; intro hD
  simp only [Act.put, List.setIfInBounds_toArray, List.set_cons_zero, List.set_cons_succ]
  refine wpAnyK_pure (i := 17) (v := ?v14_17b2) (fuel := 2) rfl (by kernel_rfl) (fun _ _ _ h => h) hD hS_14_15 (.inl ⟨by kernel_rfl, ?y14_17b2⟩) ?n14_17b2
  case y14_17b2 => intro w' _; go_simp; with_reducible rfl
  clear hD; intro hD
  simp only [Act.put, List.setIfInBounds_toArray, List.set_cons_zero, List.set_cons_succ]
  refine wpAnyK_one (i := 18) (fuel := 1) (by kernel_rfl) rfl hD ?_
  clear hD; intro K18 hK18
  go_wp2
  refine hK18 _ _ (by exact hS_14_15) ?_; clear hK18; intro hS_14_18 hD
  refine wpAnyK_one (i := 19) (fuel := 0) (by kernel_rfl) rfl hD ?_
  clear hD; intro K19 hK19
  go_wp2
  refine hK19 _ _ (by exact hS_14_18) ?_; clear hK19; intro hS_14_19 hD
  refine wpAnyK_done (by kernel_rfl) ?_ 0
  clear hD
  go_wp2
  go_ret2
  exact ⟨by rw [HR.out]; rfl, HA1.out.drew.trans ((hS_14_19).mono (by simp; omega))⟩

set_option maxRecDepth 100000 in
set_option maxHeartbeats 4000000 in
theorem led_Message_0r (q : Nat) (p : Int) (h s : ByteArray) (w : World) (hq : ((q : Int) == 0) = true) (hh : h.size ≤ 128) (hs : s.size ≤ 32) (hv : nvalid h = true) (hl : lowB h = false) (hn : nameB s = true) (hp : p < 0 ∨ 4096 < p) : Calls Try.prog 8 #[.agg #[.int .i64 q, .string h, .string s, .int .i64 p]] w (RetSE (⟨#[]⟩, 2) w) := by
  rcases hp with hp | hp
  · skip
    obtain ⟨W0, hW0⟩ : ∃ W0, w.alloc (.cells #[.int .i64 q, .string h, .string s, .int .i64 p] 24) = W0 := ⟨_, rfl⟩
    have hbox : W0.heap[w.heap.size]? = some (.cells #[.int .i64 q, .string h, .string s, .int .i64 p] 24 (0, 0)) := by rw [← hW0]; exact heap_alloc_new _ _
    have hb0 : Below w.heap.size w W0 := by rw [← hW0]; exact (Below.refl _ _).alloc (Nat.le_refl _) _
    have hz : w.heap.size + 1 ≤ W0.heap.size := block_lt hbox
    obtain ⟨b0, b1, b2, b3⟩ := four_cells hbox
    have HW0 := Lib.hid hW0
    have HA0 := Lib.hid hb0
    clear hW0 hbox hb0
    have HL := Lib.hid hl
    have HN := Lib.hid hn
    clear hl hn
    have HV := Lib.hid hv
    clear hv
    go_enter Try.func8, Try.ntmps8
    go_wp2_with fail
    rw [HW0.out]
    refine (nat_Valid h (by omega) _).mono ?_
    rintro e w1 ⟨rfl, rfl⟩
    rw [HV.out]
    go_wp2
    refine wp_region_K 14 (Below (W0.drew).heap.size (W0.drew)) (by kernel_rfl) ?_
    intro hD
    refine wpAnyK_pure (i := 0) (v := ?v5_0b3) (fuel := 13) rfl (by kernel_rfl) (fun _ _ _ h => h) hD (Below.refl _ _) (.inl ⟨by kernel_rfl, ?y5_0b3⟩) ?n5_0b3
    case y5_0b3 => intro w' _; go_simp; with_reducible rfl
    clear hD; intro hD
    simp only [Act.put, List.setIfInBounds_toArray, List.set_cons_zero, List.set_cons_succ]
    refine wpAnyK_pure (i := 1) (v := ?v5_1b3) (fuel := 12) rfl (by kernel_rfl) (fun _ _ _ h => h) hD (Below.refl _ _) (.inl ⟨by kernel_rfl, ?y5_1b3⟩) ?n5_1b3
    case y5_1b3 => intro w' _; go_simp; with_reducible rfl
    clear hD; intro hD
    simp only [Act.put, List.setIfInBounds_toArray, List.set_cons_zero, List.set_cons_succ]
    refine wpAnyK_pure (i := 2) (v := ?v5_2b3) (fuel := 11) rfl (by kernel_rfl) (fun _ _ _ h => h) hD (Below.refl _ _) (.inl ⟨by kernel_rfl, ?y5_2b3⟩) ?n5_2b3
    case y5_2b3 => intro w' _; go_simp; with_reducible rfl
    clear hD; intro hD
    simp only [Act.put, List.setIfInBounds_toArray, List.set_cons_zero, List.set_cons_succ]
    refine wpAnyK_takeS (i := 3) (v := ?v5_3b3) (fuel := 10) rfl (by kernel_rfl) (by kernel_rfl) (fun _ _ _ h => h) hD (Below.refl _ _) (.inl ⟨by kernel_rfl, ?y5_3b3⟩) ?n5_3b3
    case y5_3b3 => intro w' hS'; have e0 := cell_kept hS' (Nat.le_refl _) b0; have e1 := cell_kept hS' (Nat.le_refl _) b1; have e2 := cell_kept hS' (Nat.le_refl _) b2; have e3 := cell_kept hS' (Nat.le_refl _) b3; go_simp; with_reducible rfl
    clear hD; intro hD
    simp only [Act.put, List.setIfInBounds_toArray, List.set_cons_zero, List.set_cons_succ]
    refine wpAnyK_one (i := 4) (fuel := 9) (by kernel_rfl) rfl hD ?_
    clear hD; intro K4 hK4
    go_wp2_with fail
    refine (nat_Of 3 (by omega) _).mono ?_
    rintro e w2 ⟨rfl, hb2⟩
    have HB4 := Lib.hid hb2
    clear hb2
    rw [three]
    go_wp2
    refine hK4 _ _ (by exact HB4.out) ?_; clear hK4; intro hS_5_4 hD
    refine wpAnyK_one (i := 5) (fuel := 8) (by kernel_rfl) rfl hD ?_
    clear hD; intro K5 hK5
    go_wp2_with fail
    refine (nat_Cmp h _ (by omega) (by decide) _).mono ?_
    rintro e w3 ⟨rfl, rfl⟩
    obtain ⟨c, hc, hc0⟩ := low_no HV.out HL.out
    rw [hc]
    have HC := Lib.hid hc
    clear hc
    go_wp2
    refine hK5 _ _ (by exact hS_5_4) ?_; clear hK5; intro hS_5_5 hD
    refine wpAnyK_pure (i := 6) (v := ?v5_6b3) (fuel := 7) rfl (by kernel_rfl) (fun _ _ _ h => h) hD hS_5_5 (.inl ⟨by kernel_rfl, ?y5_6b3⟩) ?n5_6b3
    case y5_6b3 => intro w' _; go_simp; with_reducible rfl
    clear hD; intro hD
    simp only [Act.put, List.setIfInBounds_toArray, List.set_cons_zero, List.set_cons_succ]
    refine wpAnyK_pure (i := 7) (v := ?v5_7b3) (fuel := 6) rfl (by kernel_rfl) (fun _ _ _ h => h) hD hS_5_5 (.inl ⟨by kernel_rfl, ?y5_7b3⟩) ?n5_7b3
    case y5_7b3 => intro w' _; go_simp; with_reducible rfl
    clear hD; intro hD
    simp only [Act.put, List.setIfInBounds_toArray, List.set_cons_zero, List.set_cons_succ]
    refine wpAnyK_pure (i := 8) (v := ?v5_8b3) (fuel := 5) rfl (by kernel_rfl) (fun _ _ _ h => h) hD hS_5_5 (.inl ⟨by kernel_rfl, ?y5_8b3⟩) ?n5_8b3
    case y5_8b3 => intro w' _; go_simp; with_reducible rfl
    clear hD; intro hD
    simp only [Act.put, List.setIfInBounds_toArray, List.set_cons_zero, List.set_cons_succ]
    refine wpAnyK_pure (i := 9) (v := ?v5_9b3) (fuel := 4) rfl (by kernel_rfl) (fun _ _ _ h => h) hD hS_5_5 (.inl ⟨by kernel_rfl, ?y5_9b3⟩) ?n5_9b3
    case y5_9b3 => intro w' _; go_simp; with_reducible rfl
    clear hD; intro hD
    simp only [Act.put, List.setIfInBounds_toArray, List.set_cons_zero, List.set_cons_succ]
    refine wpAnyK_takeS (i := 10) (v := ?v5_10b3) (fuel := 3) rfl (by kernel_rfl) (by kernel_rfl) (fun _ _ _ h => h) hD hS_5_5 (.inl ⟨by kernel_rfl, ?y5_10b3⟩) ?n5_10b3
    case y5_10b3 => intro w' hS'; have e0 := cell_kept hS' (Nat.le_refl _) b0; have e1 := cell_kept hS' (Nat.le_refl _) b1; have e2 := cell_kept hS' (Nat.le_refl _) b2; have e3 := cell_kept hS' (Nat.le_refl _) b3; go_simp; with_reducible rfl
    clear hD; intro hD
    simp only [Act.put, List.setIfInBounds_toArray, List.set_cons_zero, List.set_cons_succ]
    refine wpAnyK_one (i := 11) (fuel := 2) (by kernel_rfl) rfl hD ?_
    clear hD; intro K11 hK11
    go_wp2_with fail
    refine (led_name s _ (by omega)).mono ?_
    rintro e w4 ⟨rfl, rfl⟩
    rw [HN.out]
    go_wp2
    refine hK11 _ _ (by exact hS_5_5) ?_; clear hK11; intro hS_5_11 hD
    refine wpAnyK_pure (i := 12) (v := ?v5_12b3) (fuel := 1) rfl (by kernel_rfl) (fun _ _ _ h => h) hD hS_5_11 (.inl ⟨by kernel_rfl, ?y5_12b3⟩) ?n5_12b3
    case y5_12b3 => intro w' _; go_simp; with_reducible rfl
    clear hD; intro hD
    simp only [Act.put, List.setIfInBounds_toArray, List.set_cons_zero, List.set_cons_succ]
    refine wpAnyK_one (i := 13) (fuel := 0) (by kernel_rfl) rfl hD ?_
    clear hD; intro K13 hK13
    go_wp2
    refine hK13 _ _ (by exact hS_5_11) ?_; clear hK13; intro hS_5_13 hD
    refine wpAnyK_done (by kernel_rfl) ?_ 0
    have HS5 := Lib.hid hS_5_13
    clear hD
    have d0 := cell_kept HS5.out (Nat.le_refl _) b0
    have d1 := cell_kept HS5.out (Nat.le_refl _) b1
    have d2 := cell_kept HS5.out (Nat.le_refl _) b2
    have d3 := cell_kept HS5.out (Nat.le_refl _) b3
    have hz2 : w.heap.size + 1 ≤ w2.heap.size := Nat.le_trans hz HS5.out.size
    have HA1 := Lib.hid (HA0.out.drew.trans (HS5.out.mono (by simp; omega)))
    clear b0 b1 b2 b3 HS5 HA0 HW0
    go_wp2
    go_ret2
    exact ⟨rfl, HA1.out⟩
  · skip
    obtain ⟨W0, hW0⟩ : ∃ W0, w.alloc (.cells #[.int .i64 q, .string h, .string s, .int .i64 p] 24) = W0 := ⟨_, rfl⟩
    have hbox : W0.heap[w.heap.size]? = some (.cells #[.int .i64 q, .string h, .string s, .int .i64 p] 24 (0, 0)) := by rw [← hW0]; exact heap_alloc_new _ _
    have hb0 : Below w.heap.size w W0 := by rw [← hW0]; exact (Below.refl _ _).alloc (Nat.le_refl _) _
    have hz : w.heap.size + 1 ≤ W0.heap.size := block_lt hbox
    obtain ⟨b0, b1, b2, b3⟩ := four_cells hbox
    have HW0 := Lib.hid hW0
    have HA0 := Lib.hid hb0
    clear hW0 hbox hb0
    have HL := Lib.hid hl
    have HN := Lib.hid hn
    clear hl hn
    have HV := Lib.hid hv
    clear hv
    go_enter Try.func8, Try.ntmps8
    go_wp2_with fail
    rw [HW0.out]
    refine (nat_Valid h (by omega) _).mono ?_
    rintro e w1 ⟨rfl, rfl⟩
    rw [HV.out]
    go_wp2
    refine wp_region_K 14 (Below (W0.drew).heap.size (W0.drew)) (by kernel_rfl) ?_
    intro hD
    refine wpAnyK_pure (i := 0) (v := ?v5_0b4) (fuel := 13) rfl (by kernel_rfl) (fun _ _ _ h => h) hD (Below.refl _ _) (.inl ⟨by kernel_rfl, ?y5_0b4⟩) ?n5_0b4
    case y5_0b4 => intro w' _; go_simp; with_reducible rfl
    clear hD; intro hD
    simp only [Act.put, List.setIfInBounds_toArray, List.set_cons_zero, List.set_cons_succ]
    refine wpAnyK_pure (i := 1) (v := ?v5_1b4) (fuel := 12) rfl (by kernel_rfl) (fun _ _ _ h => h) hD (Below.refl _ _) (.inl ⟨by kernel_rfl, ?y5_1b4⟩) ?n5_1b4
    case y5_1b4 => intro w' _; go_simp; with_reducible rfl
    clear hD; intro hD
    simp only [Act.put, List.setIfInBounds_toArray, List.set_cons_zero, List.set_cons_succ]
    refine wpAnyK_pure (i := 2) (v := ?v5_2b4) (fuel := 11) rfl (by kernel_rfl) (fun _ _ _ h => h) hD (Below.refl _ _) (.inl ⟨by kernel_rfl, ?y5_2b4⟩) ?n5_2b4
    case y5_2b4 => intro w' _; go_simp; with_reducible rfl
    clear hD; intro hD
    simp only [Act.put, List.setIfInBounds_toArray, List.set_cons_zero, List.set_cons_succ]
    refine wpAnyK_takeS (i := 3) (v := ?v5_3b4) (fuel := 10) rfl (by kernel_rfl) (by kernel_rfl) (fun _ _ _ h => h) hD (Below.refl _ _) (.inl ⟨by kernel_rfl, ?y5_3b4⟩) ?n5_3b4
    case y5_3b4 => intro w' hS'; have e0 := cell_kept hS' (Nat.le_refl _) b0; have e1 := cell_kept hS' (Nat.le_refl _) b1; have e2 := cell_kept hS' (Nat.le_refl _) b2; have e3 := cell_kept hS' (Nat.le_refl _) b3; go_simp; with_reducible rfl
    clear hD; intro hD
    simp only [Act.put, List.setIfInBounds_toArray, List.set_cons_zero, List.set_cons_succ]
    refine wpAnyK_one (i := 4) (fuel := 9) (by kernel_rfl) rfl hD ?_
    clear hD; intro K4 hK4
    go_wp2_with fail
    refine (nat_Of 3 (by omega) _).mono ?_
    rintro e w2 ⟨rfl, hb2⟩
    have HB4 := Lib.hid hb2
    clear hb2
    rw [three]
    go_wp2
    refine hK4 _ _ (by exact HB4.out) ?_; clear hK4; intro hS_5_4 hD
    refine wpAnyK_one (i := 5) (fuel := 8) (by kernel_rfl) rfl hD ?_
    clear hD; intro K5 hK5
    go_wp2_with fail
    refine (nat_Cmp h _ (by omega) (by decide) _).mono ?_
    rintro e w3 ⟨rfl, rfl⟩
    obtain ⟨c, hc, hc0⟩ := low_no HV.out HL.out
    rw [hc]
    have HC := Lib.hid hc
    clear hc
    go_wp2
    refine hK5 _ _ (by exact hS_5_4) ?_; clear hK5; intro hS_5_5 hD
    refine wpAnyK_pure (i := 6) (v := ?v5_6b4) (fuel := 7) rfl (by kernel_rfl) (fun _ _ _ h => h) hD hS_5_5 (.inl ⟨by kernel_rfl, ?y5_6b4⟩) ?n5_6b4
    case y5_6b4 => intro w' _; go_simp; with_reducible rfl
    clear hD; intro hD
    simp only [Act.put, List.setIfInBounds_toArray, List.set_cons_zero, List.set_cons_succ]
    refine wpAnyK_pure (i := 7) (v := ?v5_7b4) (fuel := 6) rfl (by kernel_rfl) (fun _ _ _ h => h) hD hS_5_5 (.inl ⟨by kernel_rfl, ?y5_7b4⟩) ?n5_7b4
    case y5_7b4 => intro w' _; go_simp; with_reducible rfl
    clear hD; intro hD
    simp only [Act.put, List.setIfInBounds_toArray, List.set_cons_zero, List.set_cons_succ]
    refine wpAnyK_pure (i := 8) (v := ?v5_8b4) (fuel := 5) rfl (by kernel_rfl) (fun _ _ _ h => h) hD hS_5_5 (.inl ⟨by kernel_rfl, ?y5_8b4⟩) ?n5_8b4
    case y5_8b4 => intro w' _; go_simp; with_reducible rfl
    clear hD; intro hD
    simp only [Act.put, List.setIfInBounds_toArray, List.set_cons_zero, List.set_cons_succ]
    refine wpAnyK_pure (i := 9) (v := ?v5_9b4) (fuel := 4) rfl (by kernel_rfl) (fun _ _ _ h => h) hD hS_5_5 (.inl ⟨by kernel_rfl, ?y5_9b4⟩) ?n5_9b4
    case y5_9b4 => intro w' _; go_simp; with_reducible rfl
    clear hD; intro hD
    simp only [Act.put, List.setIfInBounds_toArray, List.set_cons_zero, List.set_cons_succ]
    refine wpAnyK_takeS (i := 10) (v := ?v5_10b4) (fuel := 3) rfl (by kernel_rfl) (by kernel_rfl) (fun _ _ _ h => h) hD hS_5_5 (.inl ⟨by kernel_rfl, ?y5_10b4⟩) ?n5_10b4
    case y5_10b4 => intro w' hS'; have e0 := cell_kept hS' (Nat.le_refl _) b0; have e1 := cell_kept hS' (Nat.le_refl _) b1; have e2 := cell_kept hS' (Nat.le_refl _) b2; have e3 := cell_kept hS' (Nat.le_refl _) b3; go_simp; with_reducible rfl
    clear hD; intro hD
    simp only [Act.put, List.setIfInBounds_toArray, List.set_cons_zero, List.set_cons_succ]
    refine wpAnyK_one (i := 11) (fuel := 2) (by kernel_rfl) rfl hD ?_
    clear hD; intro K11 hK11
    go_wp2_with fail
    refine (led_name s _ (by omega)).mono ?_
    rintro e w4 ⟨rfl, rfl⟩
    rw [HN.out]
    go_wp2
    refine hK11 _ _ (by exact hS_5_5) ?_; clear hK11; intro hS_5_11 hD
    refine wpAnyK_pure (i := 12) (v := ?v5_12b4) (fuel := 1) rfl (by kernel_rfl) (fun _ _ _ h => h) hD hS_5_11 (.inl ⟨by kernel_rfl, ?y5_12b4⟩) ?n5_12b4
    case y5_12b4 => intro w' _; go_simp; with_reducible rfl
    clear hD; intro hD
    simp only [Act.put, List.setIfInBounds_toArray, List.set_cons_zero, List.set_cons_succ]
    refine wpAnyK_one (i := 13) (fuel := 0) (by kernel_rfl) rfl hD ?_
    clear hD; intro K13 hK13
    go_wp2
    refine hK13 _ _ (by exact hS_5_11) ?_; clear hK13; intro hS_5_13 hD
    refine wpAnyK_done (by kernel_rfl) ?_ 0
    have HS5 := Lib.hid hS_5_13
    clear hD
    have d0 := cell_kept HS5.out (Nat.le_refl _) b0
    have d1 := cell_kept HS5.out (Nat.le_refl _) b1
    have d2 := cell_kept HS5.out (Nat.le_refl _) b2
    have d3 := cell_kept HS5.out (Nat.le_refl _) b3
    have hz2 : w.heap.size + 1 ≤ w2.heap.size := Nat.le_trans hz HS5.out.size
    have HA1 := Lib.hid (HA0.out.drew.trans (HS5.out.mono (by simp; omega)))
    clear b0 b1 b2 b3 HS5 HA0 HW0
    go_wp2
    go_ret2
    exact ⟨rfl, HA1.out⟩

end Go.Proofs.Ythidhgniondkgaa

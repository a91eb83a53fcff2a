/- Walks: dominoref57.Message, kinds 0. -/
import Derived.Test.YthidhgniondkgaaLedF
set_option linter.unusedVariables false
set_option linter.unusedSimpArgs false
namespace Go.Proofs.Ythidhgniondkgaa
open Go.RowKit

set_option maxRecDepth 100000 in
set_option maxHeartbeats 4000000 in
theorem r57_Message_0 (q p : Nat) (h s : ByteArray) (w : World) (hq : ((q : Int) == 0) = true) (hq2 : ((q : Int) == 2) = false) (hqn : ((q : Int) != 0) = false) (hqm : ((q : Int) != 2) = true) (hk : (0 : Int) ≤ q ∧ (q : Int) ≤ 2) (hh : h.size ≤ 128) (hs : s.size ≤ 32) (hv : nvalid h = true) (hl : lowB h = false) (hn : nameB s = true) (hp : p ≤ 4096) : Calls Try.prog 9 #[.agg #[.int .i64 q, .string h, .string s, .int .i64 p]] w (RetSE (encS (itE q h s p)) w) := by
  obtain ⟨hk1, hk2⟩ := hk
  obtain ⟨W0, hW0⟩ : ∃ W0, w.alloc (.cells #[.int .i64 q, .string h, .string s, .int .i64 p] 24) = W0 := ⟨_, rfl⟩
  have hbox : W0.heap[w.heap.size]? = some (.cells #[.int .i64 q, .string h, .string s, .int .i64 p] 24 (0, 0)) := by rw [← hW0]; exact heap_alloc_new _ _
  have hb0 : Below w.heap.size w W0 := by rw [← hW0]; exact (Below.refl _ _).alloc (Nat.le_refl _) _
  have hz : w.heap.size + 1 ≤ W0.heap.size := block_lt hbox
  obtain ⟨b0, b1, b2, b3⟩ := four_cells hbox
  have HW0 := Lib.hid hW0
  have HA0 := Lib.hid hb0
  clear hW0 hbox hb0
  have HL := Lib.hid hl
  clear hl
  have HN := Lib.hid hn
  clear hn
  have HV := Lib.hid hv
  clear hv
  go_enter Try.func9, Try.ntmps9
  go_wp2_with fail
  rw [HW0.out]
  refine (r01_Valid h (by omega) _).mono ?_
  rintro e w1 ⟨rfl, rfl⟩
  rw [HV.out]
  go_wp2_with fail
  refine (r01_Order h _ (by omega) (by decide) _).mono ?_
  rintro e w2 ⟨rfl, hb2⟩
  obtain ⟨c, hc, hc0⟩ := ord_no HL.out
  rw [hc]
  clear hc
  have d0 := cell_kept hb2 (Nat.le_refl _) b0
  have d1 := cell_kept hb2 (Nat.le_refl _) b1
  have d2 := cell_kept hb2 (Nat.le_refl _) b2
  have d3 := cell_kept hb2 (Nat.le_refl _) b3
  have hz2 : w.heap.size + 1 ≤ w2.heap.size := Nat.le_trans hz hb2.size
  have HA1 := Lib.hid (HA0.out.trans (hb2.mono (by omega)))
  clear b0 b1 b2 b3 HA0 HW0 hb2 hz
  go_wp2_with fail
  refine (r41_Name s _ (by omega)).mono ?_
  rintro e w3 ⟨rfl, hb3⟩
  rw [HN.out]
  have hz := hz2
  have b0 := d0
  have b1 := d1
  have b2 := d2
  have b3 := d3
  have HA0 := HA1
  have HW0 := HA1
  clear hz2 d0 d1 d2 d3 HA1
  have d0 := cell_kept hb3 (Nat.le_refl _) b0
  have d1 := cell_kept hb3 (Nat.le_refl _) b1
  have d2 := cell_kept hb3 (Nat.le_refl _) b2
  have d3 := cell_kept hb3 (Nat.le_refl _) b3
  have hz2 : w.heap.size + 1 ≤ w3.heap.size := Nat.le_trans hz hb3.size
  have HA1 := Lib.hid (HA0.out.trans (hb3.mono (by omega)))
  clear b0 b1 b2 b3 HA0 HW0 hb3 hz
  go_wp2
  have hq2 : q ≤ 2 := by omega
  refine wp_region_K 20 (Below (w3.drew).heap.size (w3.drew)) (by kernel_rfl) ?_
  intro hD
  refine wpAnyK_pure (i := 1) (v := ?v9_1b1) (fuel := 19) rfl (by kernel_rfl) (fun _ _ _ h => h) hD (Below.refl _ _) (.inl ⟨by kernel_rfl, ?y9_1b1⟩) ?n9_1b1
  case y9_1b1 => intro w' _; go_simp; with_reducible rfl
  clear hD; intro hD
  simp only [Act.put, List.setIfInBounds_toArray, List.set_cons_zero, List.set_cons_succ]
  refine wpAnyK_takeS (i := 2) (v := ?v9_2b1) (fuel := 18) rfl (by kernel_rfl) (by kernel_rfl) (fun _ _ _ h => h) hD (Below.refl _ _) (.inl ⟨by kernel_rfl, ?y9_2b1⟩) ?n9_2b1
  case y9_2b1 => intro w' hS'; have e0 := cell_kept hS' (Nat.le_refl _) d0; have e1 := cell_kept hS' (Nat.le_refl _) d1; have e2 := cell_kept hS' (Nat.le_refl _) d2; have e3 := cell_kept hS' (Nat.le_refl _) d3; go_simp; with_reducible rfl
  clear hD; intro hD
  simp only [Act.put, List.setIfInBounds_toArray, List.set_cons_zero, List.set_cons_succ]
  refine wpAnyK_pure (i := 4) (v := ?v9_4b1) (fuel := 17) rfl (by kernel_rfl) (fun _ _ _ h => h) hD (Below.refl _ _) (.inl ⟨by kernel_rfl, ?y9_4b1⟩) ?n9_4b1
  case y9_4b1 => intro w' _; go_simp; with_reducible rfl
  clear hD; intro hD
  simp only [Act.put, List.setIfInBounds_toArray, List.set_cons_zero, List.set_cons_succ]
  refine wpAnyK_takeS (i := 5) (v := ?v9_5b1) (fuel := 16) rfl (by kernel_rfl) (by kernel_rfl) (fun _ _ _ h => h) hD (Below.refl _ _) (.inl ⟨by kernel_rfl, ?y9_5b1⟩) ?n9_5b1
  case y9_5b1 => intro w' hS'; have e0 := cell_kept hS' (Nat.le_refl _) d0; have e1 := cell_kept hS' (Nat.le_refl _) d1; have e2 := cell_kept hS' (Nat.le_refl _) d2; have e3 := cell_kept hS' (Nat.le_refl _) d3; go_simp; with_reducible rfl
  clear hD; intro hD
  simp only [Act.put, List.setIfInBounds_toArray, List.set_cons_zero, List.set_cons_succ]
  refine wpAnyK_pure (i := 7) (v := ?v9_7b1) (fuel := 15) rfl (by kernel_rfl) (fun _ _ _ h => h) hD (Below.refl _ _) (.inl ⟨by kernel_rfl, ?y9_7b1⟩) ?n9_7b1
  case y9_7b1 => intro w' _; go_simp; with_reducible rfl
  clear hD; intro hD
  simp only [Act.put, List.setIfInBounds_toArray, List.set_cons_zero, List.set_cons_succ]
  refine wpAnyK_takeS (i := 8) (v := ?v9_8b1) (fuel := 14) rfl (by kernel_rfl) (by kernel_rfl) (fun _ _ _ h => h) hD (Below.refl _ _) (.inl ⟨by kernel_rfl, ?y9_8b1⟩) ?n9_8b1
  case y9_8b1 => intro w' hS'; have e0 := cell_kept hS' (Nat.le_refl _) d0; have e1 := cell_kept hS' (Nat.le_refl _) d1; have e2 := cell_kept hS' (Nat.le_refl _) d2; have e3 := cell_kept hS' (Nat.le_refl _) d3; go_simp; with_reducible rfl
  clear hD; intro hD
  simp only [Act.put, List.setIfInBounds_toArray, List.set_cons_zero, List.set_cons_succ]
  refine wpAnyK_pure (i := 10) (v := ?v9_10b1) (fuel := 13) rfl (by kernel_rfl) (fun _ _ _ h => h) hD (Below.refl _ _) (.inl ⟨by kernel_rfl, ?y9_10b1⟩) ?n9_10b1
  case y9_10b1 => intro w' _; go_simp; with_reducible rfl
  clear hD; intro hD
  simp only [Act.put, List.setIfInBounds_toArray, List.set_cons_zero, List.set_cons_succ]
  refine wpAnyK_takeS (i := 11) (v := ?v9_11b1) (fuel := 12) rfl (by kernel_rfl) (by kernel_rfl) (fun _ _ _ h => h) hD (Below.refl _ _) (.inl ⟨by kernel_rfl, ?y9_11b1⟩) ?n9_11b1
  case y9_11b1 => intro w' hS'; have e0 := cell_kept hS' (Nat.le_refl _) d0; have e1 := cell_kept hS' (Nat.le_refl _) d1; have e2 := cell_kept hS' (Nat.le_refl _) d2; have e3 := cell_kept hS' (Nat.le_refl _) d3; go_simp; with_reducible rfl
  clear hD; intro hD
  simp only [Act.put, List.setIfInBounds_toArray, List.set_cons_zero, List.set_cons_succ]
  refine wpAnyK_one (i := 0) (fuel := 11) (by kernel_rfl) rfl hD ?_
  clear hD; intro K0 hK0
  go_wp2_with fail
  refine (r08_TextV _ _).mono ?_
  rintro e w10 ⟨rfl, hb10⟩
  have HB0 := Lib.hid hb10
  clear hb10
  go_wp2
  refine hK0 _ _ (by exact HB0.out) ?_; clear hK0; intro hS_9_0 hD
  refine wpAnyK_one (i := 3) (fuel := 10) (by kernel_rfl) rfl hD ?_
  clear hD; intro K3 hK3
  go_wp2_with fail
  refine (r57_nat q _ (by omega)).mono ?_
  rintro e w11 ⟨rfl, hb11⟩
  have HB3 := Lib.hid hb11
  clear hb11
  go_wp2
  refine hK3 _ _ (by exact Below.trans hS_9_0 (Below.mono HB3.out (Below.size hS_9_0))) ?_; clear hK3; intro hS_9_3 hD
  refine wpAnyK_one (i := 6) (fuel := 9) (by kernel_rfl) rfl hD ?_
  clear hD; intro K6 hK6
  go_wp2_with fail
  refine (r08_NatV _ _).mono ?_
  rintro e w12 ⟨rfl, hb12⟩
  have HB6 := Lib.hid hb12
  clear hb12
  go_wp2
  refine hK6 _ _ (by exact Below.trans hS_9_3 (Below.mono HB6.out (Below.size hS_9_3))) ?_; clear hK6; intro hS_9_6 hD
  refine wpAnyK_one (i := 9) (fuel := 8) (by kernel_rfl) rfl hD ?_
  clear hD; intro K9 hK9
  go_wp2_with fail
  refine (r08_TextV _ _).mono ?_
  rintro e w13 ⟨rfl, hb13⟩
  have HB9 := Lib.hid hb13
  clear hb13
  go_wp2
  refine hK9 _ _ (by exact Below.trans hS_9_6 (Below.mono HB9.out (Below.size hS_9_6))) ?_; clear hK9; intro hS_9_9 hD
  refine wpAnyK_one (i := 12) (fuel := 7) (by kernel_rfl) rfl hD ?_
  clear hD; intro K12 hK12
  go_wp2_with fail
  refine (r57_nat p _ (by omega)).mono ?_
  rintro e w14 ⟨rfl, hb14⟩
  have HB12 := Lib.hid hb14
  clear hb14
  go_wp2
  refine hK12 _ _ (by exact Below.trans hS_9_9 (Below.mono HB12.out (Below.size hS_9_9))) ?_; clear hK12; intro hS_9_12 hD
  refine wpAnyK_one (i := 13) (fuel := 6) (by kernel_rfl) rfl hD ?_
  clear hD; intro K13 hK13
  go_wp2
  refine hK13 _ _ (by exact Below.alloc hS_9_12 (Below.size hS_9_12) _) ?_; clear hK13; intro hS_9_13 hD
  refine wpAnyK_one (i := 14) (fuel := 5) (by kernel_rfl) rfl hD ?_
  clear hD; intro K14 hK14
  go_wp2_with fail
  refine (r08_List (itsE q h s p) _ 5 5 _ _ (Nat.le_of_ble_eq_true rfl) (row5 (heap_alloc_new w14 _))).mono ?_
  rintro e w15 ⟨v15, rfl, hi15, hb15⟩
  have HB14 := Lib.hid hb15
  have HI15 := Lib.hid hi15
  clear hb15 hi15
  go_wp2
  refine hK14 _ _ (by exact Below.trans hS_9_13 (Below.mono HB14.out (Below.size hS_9_13))) ?_; clear hK14; intro hS_9_14 hD
  refine wpAnyK_one (i := 15) (fuel := 4) (by kernel_rfl) rfl hD ?_
  clear hD; intro K15 hK15
  go_wp2_with fail
  refine (r08_Encode _ v15 _ _ (itE_weight hq2 hp hh hs) HI15.out).mono ?_
  rintro e w16 ⟨rfl, hb16⟩
  have HB15 := Lib.hid hb16
  clear hb16
  obtain ⟨r1, r2, hr⟩ : ∃ r1 r2, encS (itE q h s p) = (r1, r2) := ⟨_, _, rfl⟩
  have HR := Lib.hid hr
  rw [hr]
  clear hr
  go_wp2
  refine hK15 _ _ (by exact Below.trans hS_9_14 (Below.mono HB15.out (Below.size hS_9_14))) ?_; clear hK15; intro hS_9_15 hD
  refine wpAnyK_pure (i := 16) (v := ?v9_16b1) (fuel := 3) rfl (by kernel_rfl) (fun _ _ _ h => h) hD hS_9_15 (.inl ⟨by kernel_rfl, ?y9_16b1⟩) ?n9_16b1
  case y9_16b1 => intro w' _; go_simp; with_reducible rfl
  clear hD; intro hD
  simp only [Act.put, List.setIfInBounds_toArray, List.set_cons_zero, List.set_cons_succ]
  refine wpAnyK_pure (i := 17) (v := ?v9_17b1) (fuel := 2) rfl (by kernel_rfl) (fun _ _ _ h => h) hD hS_9_15 (.inl ⟨by kernel_rfl, ?y9_17b1⟩) ?n9_17b1
  case y9_17b1 => intro w' _; go_simp; with_reducible rfl
  clear hD; intro hD
  simp only [Act.put, List.setIfInBounds_toArray, List.set_cons_zero, List.set_cons_succ]
  refine wpAnyK_one (i := 18) (fuel := 1) (by kernel_rfl) rfl hD ?_
  clear hD; intro K18 hK18
  go_wp2
  refine hK18 _ _ (by exact hS_9_15) ?_; clear hK18; intro hS_9_18 hD
  refine wpAnyK_one (i := 19) (fuel := 0) (by kernel_rfl) rfl hD ?_
  clear hD; intro K19 hK19
  go_wp2
  refine hK19 _ _ (by exact hS_9_18) ?_; clear hK19; intro hS_9_19 hD
  refine wpAnyK_done (by kernel_rfl) ?_ 0
  clear hD
  go_wp2
  go_ret2
  exact ⟨by rw [HR.out]; rfl, HA1.out.drew.trans ((hS_9_19).mono (by simp; omega))⟩

set_option maxRecDepth 100000 in
set_option maxHeartbeats 4000000 in
theorem r57_Message_0r (q : Nat) (p : Int) (h s : ByteArray) (w : World) (hq : ((q : Int) == 0) = true) (hq2 : ((q : Int) == 2) = false) (hqn : ((q : Int) != 0) = false) (hqm : ((q : Int) != 2) = true) (hk : (0 : Int) ≤ q ∧ (q : Int) ≤ 2) (hh : h.size ≤ 128) (hs : s.size ≤ 32) (hv : nvalid h = true) (hl : lowB h = false) (hn : nameB s = true) (hp : p < 0 ∨ 4096 < p) : Calls Try.prog 9 #[.agg #[.int .i64 q, .string h, .string s, .int .i64 p]] w (RetSE (⟨#[]⟩, 2) w) := by
  obtain ⟨hk1, hk2⟩ := hk
  rcases hp with hp | hp
  · skip
    obtain ⟨W0, hW0⟩ : ∃ W0, w.alloc (.cells #[.int .i64 q, .string h, .string s, .int .i64 p] 24) = W0 := ⟨_, rfl⟩
    have hbox : W0.heap[w.heap.size]? = some (.cells #[.int .i64 q, .string h, .string s, .int .i64 p] 24 (0, 0)) := by rw [← hW0]; exact heap_alloc_new _ _
    have hb0 : Below w.heap.size w W0 := by rw [← hW0]; exact (Below.refl _ _).alloc (Nat.le_refl _) _
    have hz : w.heap.size + 1 ≤ W0.heap.size := block_lt hbox
    obtain ⟨b0, b1, b2, b3⟩ := four_cells hbox
    have HW0 := Lib.hid hW0
    have HA0 := Lib.hid hb0
    clear hW0 hbox hb0
    have HL := Lib.hid hl
    clear hl
    have HN := Lib.hid hn
    clear hn
    have HV := Lib.hid hv
    clear hv
    go_enter Try.func9, Try.ntmps9
    go_wp2_with fail
    rw [HW0.out]
    refine (r01_Valid h (by omega) _).mono ?_
    rintro e w1 ⟨rfl, rfl⟩
    rw [HV.out]
    go_wp2_with fail
    refine (r01_Order h _ (by omega) (by decide) _).mono ?_
    rintro e w2 ⟨rfl, hb2⟩
    obtain ⟨c, hc, hc0⟩ := ord_no HL.out
    rw [hc]
    clear hc
    have d0 := cell_kept hb2 (Nat.le_refl _) b0
    have d1 := cell_kept hb2 (Nat.le_refl _) b1
    have d2 := cell_kept hb2 (Nat.le_refl _) b2
    have d3 := cell_kept hb2 (Nat.le_refl _) b3
    have hz2 : w.heap.size + 1 ≤ w2.heap.size := Nat.le_trans hz hb2.size
    have HA1 := Lib.hid (HA0.out.trans (hb2.mono (by omega)))
    clear b0 b1 b2 b3 HA0 HW0 hb2 hz
    go_wp2_with fail
    refine (r41_Name s _ (by omega)).mono ?_
    rintro e w3 ⟨rfl, hb3⟩
    rw [HN.out]
    have hz := hz2
    have b0 := d0
    have b1 := d1
    have b2 := d2
    have b3 := d3
    have HA0 := HA1
    have HW0 := HA1
    clear hz2 d0 d1 d2 d3 HA1
    have d0 := cell_kept hb3 (Nat.le_refl _) b0
    have d1 := cell_kept hb3 (Nat.le_refl _) b1
    have d2 := cell_kept hb3 (Nat.le_refl _) b2
    have d3 := cell_kept hb3 (Nat.le_refl _) b3
    have hz2 : w.heap.size + 1 ≤ w3.heap.size := Nat.le_trans hz hb3.size
    have HA1 := Lib.hid (HA0.out.trans (hb3.mono (by omega)))
    clear b0 b1 b2 b3 HA0 HW0 hb3 hz
    go_wp2
    go_ret2
    exact ⟨rfl, HA1.out⟩
  · skip
    obtain ⟨W0, hW0⟩ : ∃ W0, w.alloc (.cells #[.int .i64 q, .string h, .string s, .int .i64 p] 24) = W0 := ⟨_, rfl⟩
    have hbox : W0.heap[w.heap.size]? = some (.cells #[.int .i64 q, .string h, .string s, .int .i64 p] 24 (0, 0)) := by rw [← hW0]; exact heap_alloc_new _ _
    have hb0 : Below w.heap.size w W0 := by rw [← hW0]; exact (Below.refl _ _).alloc (Nat.le_refl _) _
    have hz : w.heap.size + 1 ≤ W0.heap.size := block_lt hbox
    obtain ⟨b0, b1, b2, b3⟩ := four_cells hbox
    have HW0 := Lib.hid hW0
    have HA0 := Lib.hid hb0
    clear hW0 hbox hb0
    have HL := Lib.hid hl
    clear hl
    have HN := Lib.hid hn
    clear hn
    have HV := Lib.hid hv
    clear hv
    go_enter Try.func9, Try.ntmps9
    go_wp2_with fail
    rw [HW0.out]
    refine (r01_Valid h (by omega) _).mono ?_
    rintro e w1 ⟨rfl, rfl⟩
    rw [HV.out]
    go_wp2_with fail
    refine (r01_Order h _ (by omega) (by decide) _).mono ?_
    rintro e w2 ⟨rfl, hb2⟩
    obtain ⟨c, hc, hc0⟩ := ord_no HL.out
    rw [hc]
    clear hc
    have d0 := cell_kept hb2 (Nat.le_refl _) b0
    have d1 := cell_kept hb2 (Nat.le_refl _) b1
    have d2 := cell_kept hb2 (Nat.le_refl _) b2
    have d3 := cell_kept hb2 (Nat.le_refl _) b3
    have hz2 : w.heap.size + 1 ≤ w2.heap.size := Nat.le_trans hz hb2.size
    have HA1 := Lib.hid (HA0.out.trans (hb2.mono (by omega)))
    clear b0 b1 b2 b3 HA0 HW0 hb2 hz
    go_wp2_with fail
    refine (r41_Name s _ (by omega)).mono ?_
    rintro e w3 ⟨rfl, hb3⟩
    rw [HN.out]
    have hz := hz2
    have b0 := d0
    have b1 := d1
    have b2 := d2
    have b3 := d3
    have HA0 := HA1
    have HW0 := HA1
    clear hz2 d0 d1 d2 d3 HA1
    have d0 := cell_kept hb3 (Nat.le_refl _) b0
    have d1 := cell_kept hb3 (Nat.le_refl _) b1
    have d2 := cell_kept hb3 (Nat.le_refl _) b2
    have d3 := cell_kept hb3 (Nat.le_refl _) b3
    have hz2 : w.heap.size + 1 ≤ w3.heap.size := Nat.le_trans hz hb3.size
    have HA1 := Lib.hid (HA0.out.trans (hb3.mono (by omega)))
    clear b0 b1 b2 b3 HA0 HW0 hb3 hz
    go_wp2
    go_ret2
    exact ⟨rfl, HA1.out⟩

end Go.Proofs.Ythidhgniondkgaa

/- Walks: ledger.Message, no form. -/
import Derived.Test.YthidhgniondkgaaLedB
set_option linter.unusedVariables false
set_option linter.unusedSimpArgs false
namespace Go.Proofs.Ythidhgniondkgaa
open Go.RowKit


set_option maxRecDepth 100000 in
set_option maxHeartbeats 4000000 in
theorem led_Message_0vb (q p : Int) (h s : ByteArray) (w : World) (hh : h.size ≤ 9223372036854775807) (hs : s.size ≤ 9223372036854775807) (hq : ((q : Int) == 0) = true) (hv : nvalid h = false) : Calls Try.prog 8 #[.agg #[.int .i64 q, .string h, .string s, .int .i64 p]] w (RetSE (⟨#[]⟩, 3) w) := by
  obtain ⟨W0, hW0⟩ : ∃ W0, w.alloc (.cells #[.int .i64 q, .string h, .string s, .int .i64 p] 24) = W0 := ⟨_, rfl⟩
  have hbox : W0.heap[w.heap.size]? = some (.cells #[.int .i64 q, .string h, .string s, .int .i64 p] 24 (0, 0)) := by rw [← hW0]; exact heap_alloc_new _ _
  have hb0 : Below w.heap.size w W0 := by rw [← hW0]; exact (Below.refl _ _).alloc (Nat.le_refl _) _
  have hz : w.heap.size + 1 ≤ W0.heap.size := block_lt hbox
  obtain ⟨b0, b1, b2, b3⟩ := four_cells hbox
  have HW0 := Lib.hid hW0
  have HA0 := Lib.hid hb0
  clear hW0 hbox hb0
  have HV := Lib.hid hv
  clear hv
  go_enter Try.func8, Try.ntmps8
  go_wp2_with fail
  rw [HW0.out]
  refine (nat_Valid h (by omega) _).mono ?_
  rintro e w1 ⟨rfl, rfl⟩
  rw [HV.out]
  go_wp2
  refine wp_region_K 14 (Below (W0.drew).heap.size (W0.drew)) (by kernel_rfl) ?_
  intro hD
  refine wpAnyK_pure (i := 0) (v := ?v5_0b1) (fuel := 13) rfl (by kernel_rfl) (fun _ _ _ h => h) hD (Below.refl _ _) (.inl ⟨by kernel_rfl, ?y5_0b1⟩) ?n5_0b1
  case y5_0b1 => intro w' _; go_simp; with_reducible rfl
  clear hD; intro hD
  simp only [Act.put, List.setIfInBounds_toArray, List.set_cons_zero, List.set_cons_succ]
  refine wpAnyK_pure (i := 1) (v := ?v5_1b1) (fuel := 12) rfl (by kernel_rfl) (fun _ _ _ h => h) hD (Below.refl _ _) (.inl ⟨by kernel_rfl, ?y5_1b1⟩) ?n5_1b1
  case y5_1b1 => intro w' _; go_simp; with_reducible rfl
  clear hD; intro hD
  simp only [Act.put, List.setIfInBounds_toArray, List.set_cons_zero, List.set_cons_succ]
  refine wpAnyK_pure (i := 2) (v := undef) (fuel := 11) rfl (by kernel_rfl) (fun _ _ _ h => h) hD (Below.refl _ _) (.inr ⟨by kernel_rfl, rfl⟩) ?_
  clear hD; intro hD
  simp only [Act.put, List.setIfInBounds_toArray, List.set_cons_zero, List.set_cons_succ]
  refine wpAnyK_pure (i := 3) (v := undef) (fuel := 10) rfl (by kernel_rfl) (fun _ _ _ h => h) hD (Below.refl _ _) (.inr ⟨by kernel_rfl, rfl⟩) ?_
  clear hD; intro hD
  simp only [Act.put, List.setIfInBounds_toArray, List.set_cons_zero, List.set_cons_succ]
  refine wpAnyK_pure (i := 4) (v := undef) (fuel := 9) rfl (by kernel_rfl) (fun _ _ _ h => h) hD (Below.refl _ _) (.inr ⟨by kernel_rfl, rfl⟩) ?_
  clear hD; intro hD
  simp only [Act.put, List.setIfInBounds_toArray, List.set_cons_zero, List.set_cons_succ]
  refine wpAnyK_pure (i := 5) (v := undef) (fuel := 8) rfl (by kernel_rfl) (fun _ _ _ h => h) hD (Below.refl _ _) (.inr ⟨by kernel_rfl, rfl⟩) ?_
  clear hD; intro hD
  simp only [Act.put, List.setIfInBounds_toArray, List.set_cons_zero, List.set_cons_succ]
  refine wpAnyK_pure (i := 6) (v := undef) (fuel := 7) rfl (by kernel_rfl) (fun _ _ _ h => h) hD (Below.refl _ _) (.inr ⟨by kernel_rfl, rfl⟩) ?_
  clear hD; intro hD
  simp only [Act.put, List.setIfInBounds_toArray, List.set_cons_zero, List.set_cons_succ]
  refine wpAnyK_pure (i := 7) (v := ?v5_7b1) (fuel := 6) rfl (by kernel_rfl) (fun _ _ _ h => h) hD (Below.refl _ _) (.inl ⟨by kernel_rfl, ?y5_7b1⟩) ?n5_7b1
  case y5_7b1 => intro w' _; go_simp; with_reducible rfl
  clear hD; intro hD
  simp only [Act.put, List.setIfInBounds_toArray, List.set_cons_zero, List.set_cons_succ]
  refine wpAnyK_pure (i := 8) (v := ?v5_8b1) (fuel := 5) rfl (by kernel_rfl) (fun _ _ _ h => h) hD (Below.refl _ _) (.inl ⟨by kernel_rfl, ?y5_8b1⟩) ?n5_8b1
  case y5_8b1 => intro w' _; go_simp; with_reducible rfl
  clear hD; intro hD
  simp only [Act.put, List.setIfInBounds_toArray, List.set_cons_zero, List.set_cons_succ]
  refine wpAnyK_pure (i := 9) (v := undef) (fuel := 4) rfl (by kernel_rfl) (fun _ _ _ h => h) hD (Below.refl _ _) (.inr ⟨by kernel_rfl, rfl⟩) ?_
  clear hD; intro hD
  simp only [Act.put, List.setIfInBounds_toArray, List.set_cons_zero, List.set_cons_succ]
  refine wpAnyK_pure (i := 10) (v := undef) (fuel := 3) rfl (by kernel_rfl) (fun _ _ _ h => h) hD (Below.refl _ _) (.inr ⟨by kernel_rfl, rfl⟩) ?_
  clear hD; intro hD
  simp only [Act.put, List.setIfInBounds_toArray, List.set_cons_zero, List.set_cons_succ]
  refine wpAnyK_pure (i := 11) (v := undef) (fuel := 2) rfl (by kernel_rfl) (fun _ _ _ h => h) hD (Below.refl _ _) (.inr ⟨by kernel_rfl, rfl⟩) ?_
  clear hD; intro hD
  simp only [Act.put, List.setIfInBounds_toArray, List.set_cons_zero, List.set_cons_succ]
  refine wpAnyK_pure (i := 12) (v := ?v5_12b1) (fuel := 1) rfl (by kernel_rfl) (fun _ _ _ h => h) hD (Below.refl _ _) (.inl ⟨by kernel_rfl, ?y5_12b1⟩) ?n5_12b1
  case y5_12b1 => intro w' _; go_simp; with_reducible rfl
  clear hD; intro hD
  simp only [Act.put, List.setIfInBounds_toArray, List.set_cons_zero, List.set_cons_succ]
  refine wpAnyK_one (i := 13) (fuel := 0) (by kernel_rfl) rfl hD ?_
  clear hD; intro K13 hK13
  go_wp2
  refine hK13 _ _ (by exact (Below.refl _ _)) ?_; clear hK13; intro hS_5_13 hD
  refine wpAnyK_done (by kernel_rfl) ?_ 0
  have HS5 := Lib.hid hS_5_13
  clear hD
  have HA1 := Lib.hid (HA0.out.drew.trans (HS5.out.mono (by simp; omega)))
  clear b0 b1 b2 b3 HS5 HA0 HW0
  go_wp2
  go_ret2
  exact ⟨rfl, HA1.out⟩

set_option maxRecDepth 100000 in
set_option maxHeartbeats 4000000 in
theorem led_Message_0lb (q p : Int) (h s : ByteArray) (w : World) (hh : h.size ≤ 9223372036854775807) (hs : s.size ≤ 9223372036854775807) (hq : ((q : Int) == 0) = true) (hv : nvalid h = true) (hl : lowB h = true) : Calls Try.prog 8 #[.agg #[.int .i64 q, .string h, .string s, .int .i64 p]] w (RetSE (⟨#[]⟩, 3) w) := by
  obtain ⟨W0, hW0⟩ : ∃ W0, w.alloc (.cells #[.int .i64 q, .string h, .string s, .int .i64 p] 24) = W0 := ⟨_, rfl⟩
  have hbox : W0.heap[w.heap.size]? = some (.cells #[.int .i64 q, .string h, .string s, .int .i64 p] 24 (0, 0)) := by rw [← hW0]; exact heap_alloc_new _ _
  have hb0 : Below w.heap.size w W0 := by rw [← hW0]; exact (Below.refl _ _).alloc (Nat.le_refl _) _
  have hz : w.heap.size + 1 ≤ W0.heap.size := block_lt hbox
  obtain ⟨b0, b1, b2, b3⟩ := four_cells hbox
  have HW0 := Lib.hid hW0
  have HA0 := Lib.hid hb0
  clear hW0 hbox hb0
  have HL := Lib.hid hl
  clear hl
  have HV := Lib.hid hv
  clear hv
  go_enter Try.func8, Try.ntmps8
  go_wp2_with fail
  rw [HW0.out]
  refine (nat_Valid h (by omega) _).mono ?_
  rintro e w1 ⟨rfl, rfl⟩
  rw [HV.out]
  go_wp2
  refine wp_region_K 14 (Below (W0.drew).heap.size (W0.drew)) (by kernel_rfl) ?_
  intro hD
  refine wpAnyK_pure (i := 0) (v := ?v5_0b2) (fuel := 13) rfl (by kernel_rfl) (fun _ _ _ h => h) hD (Below.refl _ _) (.inl ⟨by kernel_rfl, ?y5_0b2⟩) ?n5_0b2
  case y5_0b2 => intro w' _; go_simp; with_reducible rfl
  clear hD; intro hD
  simp only [Act.put, List.setIfInBounds_toArray, List.set_cons_zero, List.set_cons_succ]
  refine wpAnyK_pure (i := 1) (v := ?v5_1b2) (fuel := 12) rfl (by kernel_rfl) (fun _ _ _ h => h) hD (Below.refl _ _) (.inl ⟨by kernel_rfl, ?y5_1b2⟩) ?n5_1b2
  case y5_1b2 => intro w' _; go_simp; with_reducible rfl
  clear hD; intro hD
  simp only [Act.put, List.setIfInBounds_toArray, List.set_cons_zero, List.set_cons_succ]
  refine wpAnyK_pure (i := 2) (v := ?v5_2b2) (fuel := 11) rfl (by kernel_rfl) (fun _ _ _ h => h) hD (Below.refl _ _) (.inl ⟨by kernel_rfl, ?y5_2b2⟩) ?n5_2b2
  case y5_2b2 => intro w' _; go_simp; with_reducible rfl
  clear hD; intro hD
  simp only [Act.put, List.setIfInBounds_toArray, List.set_cons_zero, List.set_cons_succ]
  refine wpAnyK_takeS (i := 3) (v := ?v5_3b2) (fuel := 10) rfl (by kernel_rfl) (by kernel_rfl) (fun _ _ _ h => h) hD (Below.refl _ _) (.inl ⟨by kernel_rfl, ?y5_3b2⟩) ?n5_3b2
  case y5_3b2 => intro w' hS'; have e0 := cell_kept hS' (Nat.le_refl _) b0; have e1 := cell_kept hS' (Nat.le_refl _) b1; have e2 := cell_kept hS' (Nat.le_refl _) b2; have e3 := cell_kept hS' (Nat.le_refl _) b3; go_simp; with_reducible rfl
  clear hD; intro hD
  simp only [Act.put, List.setIfInBounds_toArray, List.set_cons_zero, List.set_cons_succ]
  refine wpAnyK_one (i := 4) (fuel := 9) (by kernel_rfl) rfl hD ?_
  clear hD; intro K4 hK4
  go_wp2_with fail
  refine (nat_Of 3 (by omega) _).mono ?_
  rintro e w2 ⟨rfl, hb2⟩
  have HB4 := Lib.hid hb2
  clear hb2
  rw [three]
  go_wp2
  refine hK4 _ _ (by exact HB4.out) ?_; clear hK4; intro hS_5_4 hD
  refine wpAnyK_one (i := 5) (fuel := 8) (by kernel_rfl) rfl hD ?_
  clear hD; intro K5 hK5
  go_wp2_with fail
  refine (nat_Cmp h _ (by omega) (by decide) _).mono ?_
  rintro e w3 ⟨rfl, rfl⟩
  obtain ⟨c, hc, hc0⟩ := low_yes HV.out HL.out
  rw [hc]
  have HC := Lib.hid hc
  clear hc
  go_wp2
  refine hK5 _ _ (by exact hS_5_4) ?_; clear hK5; intro hS_5_5 hD
  have hc1 : decide (0 ≤ c) = false := decide_eq_false (by omega)
  refine wpAnyK_pure (i := 6) (v := ?v5_6b2) (fuel := 7) rfl (by kernel_rfl) (fun _ _ _ h => h) hD hS_5_5 (.inl ⟨by kernel_rfl, ?y5_6b2⟩) ?n5_6b2
  case y5_6b2 => intro w' _; go_simp; with_reducible rfl
  clear hD; intro hD
  simp only [Act.put, List.setIfInBounds_toArray, List.set_cons_zero, List.set_cons_succ]
  refine wpAnyK_pure (i := 7) (v := ?v5_7b2) (fuel := 6) rfl (by kernel_rfl) (fun _ _ _ h => h) hD hS_5_5 (.inl ⟨by kernel_rfl, ?y5_7b2⟩) ?n5_7b2
  case y5_7b2 => intro w' _; go_simp; with_reducible rfl
  clear hD; intro hD
  simp only [Act.put, List.setIfInBounds_toArray, List.set_cons_zero, List.set_cons_succ]
  refine wpAnyK_pure (i := 8) (v := ?v5_8b2) (fuel := 5) rfl (by kernel_rfl) (fun _ _ _ h => h) hD hS_5_5 (.inl ⟨by kernel_rfl, ?y5_8b2⟩) ?n5_8b2
  case y5_8b2 => intro w' _; go_simp; with_reducible rfl
  clear hD; intro hD
  simp only [Act.put, List.setIfInBounds_toArray, List.set_cons_zero, List.set_cons_succ]
  refine wpAnyK_pure (i := 9) (v := undef) (fuel := 4) rfl (by kernel_rfl) (fun _ _ _ h => h) hD hS_5_5 (.inr ⟨by kernel_rfl, rfl⟩) ?_
  clear hD; intro hD
  simp only [Act.put, List.setIfInBounds_toArray, List.set_cons_zero, List.set_cons_succ]
  refine wpAnyK_pure (i := 10) (v := undef) (fuel := 3) rfl (by kernel_rfl) (fun _ _ _ h => h) hD hS_5_5 (.inr ⟨by kernel_rfl, rfl⟩) ?_
  clear hD; intro hD
  simp only [Act.put, List.setIfInBounds_toArray, List.set_cons_zero, List.set_cons_succ]
  refine wpAnyK_pure (i := 11) (v := undef) (fuel := 2) rfl (by kernel_rfl) (fun _ _ _ h => h) hD hS_5_5 (.inr ⟨by kernel_rfl, rfl⟩) ?_
  clear hD; intro hD
  simp only [Act.put, List.setIfInBounds_toArray, List.set_cons_zero, List.set_cons_succ]
  refine wpAnyK_pure (i := 12) (v := ?v5_12b2) (fuel := 1) rfl (by kernel_rfl) (fun _ _ _ h => h) hD hS_5_5 (.inl ⟨by kernel_rfl, ?y5_12b2⟩) ?n5_12b2
  case y5_12b2 => intro w' _; go_simp; with_reducible rfl
  clear hD; intro hD
  simp only [Act.put, List.setIfInBounds_toArray, List.set_cons_zero, List.set_cons_succ]
  refine wpAnyK_one (i := 13) (fuel := 0) (by kernel_rfl) rfl hD ?_
  clear hD; intro K13 hK13
  go_wp2
  refine hK13 _ _ (by exact hS_5_5) ?_; clear hK13; intro hS_5_13 hD
  refine wpAnyK_done (by kernel_rfl) ?_ 0
  have HS5 := Lib.hid hS_5_13
  clear hD
  have HA1 := Lib.hid (HA0.out.drew.trans (HS5.out.mono (by simp; omega)))
  clear b0 b1 b2 b3 HS5 HA0 HW0
  go_wp2
  go_ret2
  exact ⟨rfl, HA1.out⟩

set_option maxRecDepth 100000 in
set_option maxHeartbeats 4000000 in
theorem led_Message_1vb (q p : Int) (h s : ByteArray) (w : World) (hh : h.size ≤ 9223372036854775807) (hs : s.size ≤ 9223372036854775807) (hq : ((q : Int) == 0) = false) (hq1 : ((q : Int) == 1) = true) (hv : nvalid h = false) : Calls Try.prog 8 #[.agg #[.int .i64 q, .string h, .string s, .int .i64 p]] w (RetSE (⟨#[]⟩, 3) w) := by
  obtain ⟨W0, hW0⟩ : ∃ W0, w.alloc (.cells #[.int .i64 q, .string h, .string s, .int .i64 p] 24) = W0 := ⟨_, rfl⟩
  have hbox : W0.heap[w.heap.size]? = some (.cells #[.int .i64 q, .string h, .string s, .int .i64 p] 24 (0, 0)) := by rw [← hW0]; exact heap_alloc_new _ _
  have hb0 : Below w.heap.size w W0 := by rw [← hW0]; exact (Below.refl _ _).alloc (Nat.le_refl _) _
  have hz : w.heap.size + 1 ≤ W0.heap.size := block_lt hbox
  obtain ⟨b0, b1, b2, b3⟩ := four_cells hbox
  have HW0 := Lib.hid hW0
  have HA0 := Lib.hid hb0
  clear hW0 hbox hb0
  have HV := Lib.hid hv
  clear hv
  go_enter Try.func8, Try.ntmps8
  go_wp2_with fail
  rw [HW0.out]
  refine (nat_Valid h (by omega) _).mono ?_
  rintro e w1 ⟨rfl, rfl⟩
  rw [HV.out]
  go_wp2
  refine wp_region_K 14 (Below (W0.drew).heap.size (W0.drew)) (by kernel_rfl) ?_
  intro hD
  refine wpAnyK_pure (i := 0) (v := ?v7_0b3) (fuel := 13) rfl (by kernel_rfl) (fun _ _ _ h => h) hD (Below.refl _ _) (.inl ⟨by kernel_rfl, ?y7_0b3⟩) ?n7_0b3
  case y7_0b3 => intro w' _; go_simp; with_reducible rfl
  clear hD; intro hD
  simp only [Act.put, List.setIfInBounds_toArray, List.set_cons_zero, List.set_cons_succ]
  refine wpAnyK_pure (i := 1) (v := ?v7_1b3) (fuel := 12) rfl (by kernel_rfl) (fun _ _ _ h => h) hD (Below.refl _ _) (.inl ⟨by kernel_rfl, ?y7_1b3⟩) ?n7_1b3
  case y7_1b3 => intro w' _; go_simp; with_reducible rfl
  clear hD; intro hD
  simp only [Act.put, List.setIfInBounds_toArray, List.set_cons_zero, List.set_cons_succ]
  refine wpAnyK_pure (i := 2) (v := undef) (fuel := 11) rfl (by kernel_rfl) (fun _ _ _ h => h) hD (Below.refl _ _) (.inr ⟨by kernel_rfl, rfl⟩) ?_
  clear hD; intro hD
  simp only [Act.put, List.setIfInBounds_toArray, List.set_cons_zero, List.set_cons_succ]
  refine wpAnyK_pure (i := 3) (v := undef) (fuel := 10) rfl (by kernel_rfl) (fun _ _ _ h => h) hD (Below.refl _ _) (.inr ⟨by kernel_rfl, rfl⟩) ?_
  clear hD; intro hD
  simp only [Act.put, List.setIfInBounds_toArray, List.set_cons_zero, List.set_cons_succ]
  refine wpAnyK_pure (i := 4) (v := undef) (fuel := 9) rfl (by kernel_rfl) (fun _ _ _ h => h) hD (Below.refl _ _) (.inr ⟨by kernel_rfl, rfl⟩) ?_
  clear hD; intro hD
  simp only [Act.put, List.setIfInBounds_toArray, List.set_cons_zero, List.set_cons_succ]
  refine wpAnyK_pure (i := 5) (v := undef) (fuel := 8) rfl (by kernel_rfl) (fun _ _ _ h => h) hD (Below.refl _ _) (.inr ⟨by kernel_rfl, rfl⟩) ?_
  clear hD; intro hD
  simp only [Act.put, List.setIfInBounds_toArray, List.set_cons_zero, List.set_cons_succ]
  refine wpAnyK_pure (i := 6) (v := undef) (fuel := 7) rfl (by kernel_rfl) (fun _ _ _ h => h) hD (Below.refl _ _) (.inr ⟨by kernel_rfl, rfl⟩) ?_
  clear hD; intro hD
  simp only [Act.put, List.setIfInBounds_toArray, List.set_cons_zero, List.set_cons_succ]
  refine wpAnyK_pure (i := 7) (v := ?v7_7b3) (fuel := 6) rfl (by kernel_rfl) (fun _ _ _ h => h) hD (Below.refl _ _) (.inl ⟨by kernel_rfl, ?y7_7b3⟩) ?n7_7b3
  case y7_7b3 => intro w' _; go_simp; with_reducible rfl
  clear hD; intro hD
  simp only [Act.put, List.setIfInBounds_toArray, List.set_cons_zero, List.set_cons_succ]
  refine wpAnyK_pure (i := 8) (v := ?v7_8b3) (fuel := 5) rfl (by kernel_rfl) (fun _ _ _ h => h) hD (Below.refl _ _) (.inl ⟨by kernel_rfl, ?y7_8b3⟩) ?n7_8b3
  case y7_8b3 => intro w' _; go_simp; with_reducible rfl
  clear hD; intro hD
  simp only [Act.put, List.setIfInBounds_toArray, List.set_cons_zero, List.set_cons_succ]
  refine wpAnyK_pure (i := 9) (v := undef) (fuel := 4) rfl (by kernel_rfl) (fun _ _ _ h => h) hD (Below.refl _ _) (.inr ⟨by kernel_rfl, rfl⟩) ?_
  clear hD; intro hD
  simp only [Act.put, List.setIfInBounds_toArray, List.set_cons_zero, List.set_cons_succ]
  refine wpAnyK_pure (i := 10) (v := undef) (fuel := 3) rfl (by kernel_rfl) (fun _ _ _ h => h) hD (Below.refl _ _) (.inr ⟨by kernel_rfl, rfl⟩) ?_
  clear hD; intro hD
  simp only [Act.put, List.setIfInBounds_toArray, List.set_cons_zero, List.set_cons_succ]
  refine wpAnyK_pure (i := 11) (v := undef) (fuel := 2) rfl (by kernel_rfl) (fun _ _ _ h => h) hD (Below.refl _ _) (.inr ⟨by kernel_rfl, rfl⟩) ?_
  clear hD; intro hD
  simp only [Act.put, List.setIfInBounds_toArray, List.set_cons_zero, List.set_cons_succ]
  refine wpAnyK_pure (i := 12) (v := ?v7_12b3) (fuel := 1) rfl (by kernel_rfl) (fun _ _ _ h => h) hD (Below.refl _ _) (.inl ⟨by kernel_rfl, ?y7_12b3⟩) ?n7_12b3
  case y7_12b3 => intro w' _; go_simp; with_reducible rfl
  clear hD; intro hD
  simp only [Act.put, List.setIfInBounds_toArray, List.set_cons_zero, List.set_cons_succ]
  refine wpAnyK_one (i := 13) (fuel := 0) (by kernel_rfl) rfl hD ?_
  clear hD; intro K13 hK13
  go_wp2
  refine hK13 _ _ (by exact (Below.refl _ _)) ?_; clear hK13; intro hS_7_13 hD
  refine wpAnyK_done (by kernel_rfl) ?_ 0
  have HS5 := Lib.hid hS_7_13
  clear hD
  have HA1 := Lib.hid (HA0.out.drew.trans (HS5.out.mono (by simp; omega)))
  clear b0 b1 b2 b3 HS5 HA0 HW0
  go_wp2
  go_ret2
  exact ⟨rfl, HA1.out⟩

set_option maxRecDepth 100000 in
set_option maxHeartbeats 4000000 in
theorem led_Message_1lb (q p : Int) (h s : ByteArray) (w : World) (hh : h.size ≤ 9223372036854775807) (hs : s.size ≤ 9223372036854775807) (hq : ((q : Int) == 0) = false) (hq1 : ((q : Int) == 1) = true) (hv : nvalid h = true) (hl : lowB h = true) : Calls Try.prog 8 #[.agg #[.int .i64 q, .string h, .string s, .int .i64 p]] w (RetSE (⟨#[]⟩, 3) w) := by
  obtain ⟨W0, hW0⟩ : ∃ W0, w.alloc (.cells #[.int .i64 q, .string h, .string s, .int .i64 p] 24) = W0 := ⟨_, rfl⟩
  have hbox : W0.heap[w.heap.size]? = some (.cells #[.int .i64 q, .string h, .string s, .int .i64 p] 24 (0, 0)) := by rw [← hW0]; exact heap_alloc_new _ _
  have hb0 : Below w.heap.size w W0 := by rw [← hW0]; exact (Below.refl _ _).alloc (Nat.le_refl _) _
  have hz : w.heap.size + 1 ≤ W0.heap.size := block_lt hbox
  obtain ⟨b0, b1, b2, b3⟩ := four_cells hbox
  have HW0 := Lib.hid hW0
  have HA0 := Lib.hid hb0
  clear hW0 hbox hb0
  have HL := Lib.hid hl
  clear hl
  have HV := Lib.hid hv
  clear hv
  go_enter Try.func8, Try.ntmps8
  go_wp2_with fail
  rw [HW0.out]
  refine (nat_Valid h (by omega) _).mono ?_
  rintro e w1 ⟨rfl, rfl⟩
  rw [HV.out]
  go_wp2
  refine wp_region_K 14 (Below (W0.drew).heap.size (W0.drew)) (by kernel_rfl) ?_
  intro hD
  refine wpAnyK_pure (i := 0) (v := ?v7_0b4) (fuel := 13) rfl (by kernel_rfl) (fun _ _ _ h => h) hD (Below.refl _ _) (.inl ⟨by kernel_rfl, ?y7_0b4⟩) ?n7_0b4
  case y7_0b4 => intro w' _; go_simp; with_reducible rfl
  clear hD; intro hD
  simp only [Act.put, List.setIfInBounds_toArray, List.set_cons_zero, List.set_cons_succ]
  refine wpAnyK_pure (i := 1) (v := ?v7_1b4) (fuel := 12) rfl (by kernel_rfl) (fun _ _ _ h => h) hD (Below.refl _ _) (.inl ⟨by kernel_rfl, ?y7_1b4⟩) ?n7_1b4
  case y7_1b4 => intro w' _; go_simp; with_reducible rfl
  clear hD; intro hD
  simp only [Act.put, List.setIfInBounds_toArray, List.set_cons_zero, List.set_cons_succ]
  refine wpAnyK_pure (i := 2) (v := ?v7_2b4) (fuel := 11) rfl (by kernel_rfl) (fun _ _ _ h => h) hD (Below.refl _ _) (.inl ⟨by kernel_rfl, ?y7_2b4⟩) ?n7_2b4
  case y7_2b4 => intro w' _; go_simp; with_reducible rfl
  clear hD; intro hD
  simp only [Act.put, List.setIfInBounds_toArray, List.set_cons_zero, List.set_cons_succ]
  refine wpAnyK_takeS (i := 3) (v := ?v7_3b4) (fuel := 10) rfl (by kernel_rfl) (by kernel_rfl) (fun _ _ _ h => h) hD (Below.refl _ _) (.inl ⟨by kernel_rfl, ?y7_3b4⟩) ?n7_3b4
  case y7_3b4 => intro w' hS'; have e0 := cell_kept hS' (Nat.le_refl _) b0; have e1 := cell_kept hS' (Nat.le_refl _) b1; have e2 := cell_kept hS' (Nat.le_refl _) b2; have e3 := cell_kept hS' (Nat.le_refl _) b3; go_simp; with_reducible rfl
  clear hD; intro hD
  simp only [Act.put, List.setIfInBounds_toArray, List.set_cons_zero, List.set_cons_succ]
  refine wpAnyK_one (i := 4) (fuel := 9) (by kernel_rfl) rfl hD ?_
  clear hD; intro K4 hK4
  go_wp2_with fail
  refine (nat_Of 3 (by omega) _).mono ?_
  rintro e w2 ⟨rfl, hb2⟩
  have HB4 := Lib.hid hb2
  clear hb2
  rw [three]
  go_wp2
  refine hK4 _ _ (by exact HB4.out) ?_; clear hK4; intro hS_7_4 hD
  refine wpAnyK_one (i := 5) (fuel := 8) (by kernel_rfl) rfl hD ?_
  clear hD; intro K5 hK5
  go_wp2_with fail
  refine (nat_Cmp h _ (by omega) (by decide) _).mono ?_
  rintro e w3 ⟨rfl, rfl⟩
  obtain ⟨c, hc, hc0⟩ := low_yes HV.out HL.out
  rw [hc]
  have HC := Lib.hid hc
  clear hc
  go_wp2
  refine hK5 _ _ (by exact hS_7_4) ?_; clear hK5; intro hS_7_5 hD
  have hc1 : decide (0 ≤ c) = false := decide_eq_false (by omega)
  refine wpAnyK_pure (i := 6) (v := ?v7_6b4) (fuel := 7) rfl (by kernel_rfl) (fun _ _ _ h => h) hD hS_7_5 (.inl ⟨by kernel_rfl, ?y7_6b4⟩) ?n7_6b4
  case y7_6b4 => intro w' _; go_simp; with_reducible rfl
  clear hD; intro hD
  simp only [Act.put, List.setIfInBounds_toArray, List.set_cons_zero, List.set_cons_succ]
  refine wpAnyK_pure (i := 7) (v := ?v7_7b4) (fuel := 6) rfl (by kernel_rfl) (fun _ _ _ h => h) hD hS_7_5 (.inl ⟨by kernel_rfl, ?y7_7b4⟩) ?n7_7b4
  case y7_7b4 => intro w' _; go_simp; with_reducible rfl
  clear hD; intro hD
  simp only [Act.put, List.setIfInBounds_toArray, List.set_cons_zero, List.set_cons_succ]
  refine wpAnyK_pure (i := 8) (v := ?v7_8b4) (fuel := 5) rfl (by kernel_rfl) (fun _ _ _ h => h) hD hS_7_5 (.inl ⟨by kernel_rfl, ?y7_8b4⟩) ?n7_8b4
  case y7_8b4 => intro w' _; go_simp; with_reducible rfl
  clear hD; intro hD
  simp only [Act.put, List.setIfInBounds_toArray, List.set_cons_zero, List.set_cons_succ]
  refine wpAnyK_pure (i := 9) (v := undef) (fuel := 4) rfl (by kernel_rfl) (fun _ _ _ h => h) hD hS_7_5 (.inr ⟨by kernel_rfl, rfl⟩) ?_
  clear hD; intro hD
  simp only [Act.put, List.setIfInBounds_toArray, List.set_cons_zero, List.set_cons_succ]
  refine wpAnyK_pure (i := 10) (v := undef) (fuel := 3) rfl (by kernel_rfl) (fun _ _ _ h => h) hD hS_7_5 (.inr ⟨by kernel_rfl, rfl⟩) ?_
  clear hD; intro hD
  simp only [Act.put, List.setIfInBounds_toArray, List.set_cons_zero, List.set_cons_succ]
  refine wpAnyK_pure (i := 11) (v := undef) (fuel := 2) rfl (by kernel_rfl) (fun _ _ _ h => h) hD hS_7_5 (.inr ⟨by kernel_rfl, rfl⟩) ?_
  clear hD; intro hD
  simp only [Act.put, List.setIfInBounds_toArray, List.set_cons_zero, List.set_cons_succ]
  refine wpAnyK_pure (i := 12) (v := ?v7_12b4) (fuel := 1) rfl (by kernel_rfl) (fun _ _ _ h => h) hD hS_7_5 (.inl ⟨by kernel_rfl, ?y7_12b4⟩) ?n7_12b4
  case y7_12b4 => intro w' _; go_simp; with_reducible rfl
  clear hD; intro hD
  simp only [Act.put, List.setIfInBounds_toArray, List.set_cons_zero, List.set_cons_succ]
  refine wpAnyK_one (i := 13) (fuel := 0) (by kernel_rfl) rfl hD ?_
  clear hD; intro K13 hK13
  go_wp2
  refine hK13 _ _ (by exact hS_7_5) ?_; clear hK13; intro hS_7_13 hD
  refine wpAnyK_done (by kernel_rfl) ?_ 0
  have HS5 := Lib.hid hS_7_13
  clear hD
  have HA1 := Lib.hid (HA0.out.drew.trans (HS5.out.mono (by simp; omega)))
  clear b0 b1 b2 b3 HS5 HA0 HW0
  go_wp2
  go_ret2
  exact ⟨rfl, HA1.out⟩

set_option maxRecDepth 100000 in
set_option maxHeartbeats 4000000 in
theorem led_Message_0nb (q p : Int) (h s : ByteArray) (w : World) (hh : h.size ≤ 9223372036854775807) (hs : s.size ≤ 9223372036854775807) (hq : ((q : Int) == 0) = true) (hv : nvalid h = true) (hl : lowB h = false) (hn : nameB s = false) : Calls Try.prog 8 #[.agg #[.int .i64 q, .string h, .string s, .int .i64 p]] w (RetSE (⟨#[]⟩, 3) w) := by
  obtain ⟨W0, hW0⟩ : ∃ W0, w.alloc (.cells #[.int .i64 q, .string h, .string s, .int .i64 p] 24) = W0 := ⟨_, rfl⟩
  have hbox : W0.heap[w.heap.size]? = some (.cells #[.int .i64 q, .string h, .string s, .int .i64 p] 24 (0, 0)) := by rw [← hW0]; exact heap_alloc_new _ _
  have hb0 : Below w.heap.size w W0 := by rw [← hW0]; exact (Below.refl _ _).alloc (Nat.le_refl _) _
  have hz : w.heap.size + 1 ≤ W0.heap.size := block_lt hbox
  obtain ⟨b0, b1, b2, b3⟩ := four_cells hbox
  have HW0 := Lib.hid hW0
  have HA0 := Lib.hid hb0
  clear hW0 hbox hb0
  have HL := Lib.hid hl
  have HN := Lib.hid hn
  clear hl hn
  have HV := Lib.hid hv
  clear hv
  go_enter Try.func8, Try.ntmps8
  go_wp2_with fail
  rw [HW0.out]
  refine (nat_Valid h (by omega) _).mono ?_
  rintro e w1 ⟨rfl, rfl⟩
  rw [HV.out]
  go_wp2
  refine wp_region_K 14 (Below (W0.drew).heap.size (W0.drew)) (by kernel_rfl) ?_
  intro hD
  refine wpAnyK_pure (i := 0) (v := ?v5_0b5) (fuel := 13) rfl (by kernel_rfl) (fun _ _ _ h => h) hD (Below.refl _ _) (.inl ⟨by kernel_rfl, ?y5_0b5⟩) ?n5_0b5
  case y5_0b5 => intro w' _; go_simp; with_reducible rfl
  clear hD; intro hD
  simp only [Act.put, List.setIfInBounds_toArray, List.set_cons_zero, List.set_cons_succ]
  refine wpAnyK_pure (i := 1) (v := ?v5_1b5) (fuel := 12) rfl (by kernel_rfl) (fun _ _ _ h => h) hD (Below.refl _ _) (.inl ⟨by kernel_rfl, ?y5_1b5⟩) ?n5_1b5
  case y5_1b5 => intro w' _; go_simp; with_reducible rfl
  clear hD; intro hD
  simp only [Act.put, List.setIfInBounds_toArray, List.set_cons_zero, List.set_cons_succ]
  refine wpAnyK_pure (i := 2) (v := ?v5_2b5) (fuel := 11) rfl (by kernel_rfl) (fun _ _ _ h => h) hD (Below.refl _ _) (.inl ⟨by kernel_rfl, ?y5_2b5⟩) ?n5_2b5
  case y5_2b5 => intro w' _; go_simp; with_reducible rfl
  clear hD; intro hD
  simp only [Act.put, List.setIfInBounds_toArray, List.set_cons_zero, List.set_cons_succ]
  refine wpAnyK_takeS (i := 3) (v := ?v5_3b5) (fuel := 10) rfl (by kernel_rfl) (by kernel_rfl) (fun _ _ _ h => h) hD (Below.refl _ _) (.inl ⟨by kernel_rfl, ?y5_3b5⟩) ?n5_3b5
  case y5_3b5 => intro w' hS'; have e0 := cell_kept hS' (Nat.le_refl _) b0; have e1 := cell_kept hS' (Nat.le_refl _) b1; have e2 := cell_kept hS' (Nat.le_refl _) b2; have e3 := cell_kept hS' (Nat.le_refl _) b3; go_simp; with_reducible rfl
  clear hD; intro hD
  simp only [Act.put, List.setIfInBounds_toArray, List.set_cons_zero, List.set_cons_succ]
  refine wpAnyK_one (i := 4) (fuel := 9) (by kernel_rfl) rfl hD ?_
  clear hD; intro K4 hK4
  go_wp2_with fail
  refine (nat_Of 3 (by omega) _).mono ?_
  rintro e w2 ⟨rfl, hb2⟩
  have HB4 := Lib.hid hb2
  clear hb2
  rw [three]
  go_wp2
  refine hK4 _ _ (by exact HB4.out) ?_; clear hK4; intro hS_5_4 hD
  refine wpAnyK_one (i := 5) (fuel := 8) (by kernel_rfl) rfl hD ?_
  clear hD; intro K5 hK5
  go_wp2_with fail
  refine (nat_Cmp h _ (by omega) (by decide) _).mono ?_
  rintro e w3 ⟨rfl, rfl⟩
  obtain ⟨c, hc, hc0⟩ := low_no HV.out HL.out
  rw [hc]
  have HC := Lib.hid hc
  clear hc
  go_wp2
  refine hK5 _ _ (by exact hS_5_4) ?_; clear hK5; intro hS_5_5 hD
  refine wpAnyK_pure (i := 6) (v := ?v5_6b5) (fuel := 7) rfl (by kernel_rfl) (fun _ _ _ h => h) hD hS_5_5 (.inl ⟨by kernel_rfl, ?y5_6b5⟩) ?n5_6b5
  case y5_6b5 => intro w' _; go_simp; with_reducible rfl
  clear hD; intro hD
  simp only [Act.put, List.setIfInBounds_toArray, List.set_cons_zero, List.set_cons_succ]
  refine wpAnyK_pure (i := 7) (v := ?v5_7b5) (fuel := 6) rfl (by kernel_rfl) (fun _ _ _ h => h) hD hS_5_5 (.inl ⟨by kernel_rfl, ?y5_7b5⟩) ?n5_7b5
  case y5_7b5 => intro w' _; go_simp; with_reducible rfl
  clear hD; intro hD
  simp only [Act.put, List.setIfInBounds_toArray, List.set_cons_zero, List.set_cons_succ]
  refine wpAnyK_pure (i := 8) (v := ?v5_8b5) (fuel := 5) rfl (by kernel_rfl) (fun _ _ _ h => h) hD hS_5_5 (.inl ⟨by kernel_rfl, ?y5_8b5⟩) ?n5_8b5
  case y5_8b5 => intro w' _; go_simp; with_reducible rfl
  clear hD; intro hD
  simp only [Act.put, List.setIfInBounds_toArray, List.set_cons_zero, List.set_cons_succ]
  refine wpAnyK_pure (i := 9) (v := ?v5_9b5) (fuel := 4) rfl (by kernel_rfl) (fun _ _ _ h => h) hD hS_5_5 (.inl ⟨by kernel_rfl, ?y5_9b5⟩) ?n5_9b5
  case y5_9b5 => intro w' _; go_simp; with_reducible rfl
  clear hD; intro hD
  simp only [Act.put, List.setIfInBounds_toArray, List.set_cons_zero, List.set_cons_succ]
  refine wpAnyK_takeS (i := 10) (v := ?v5_10b5) (fuel := 3) rfl (by kernel_rfl) (by kernel_rfl) (fun _ _ _ h => h) hD hS_5_5 (.inl ⟨by kernel_rfl, ?y5_10b5⟩) ?n5_10b5
  case y5_10b5 => intro w' hS'; have e0 := cell_kept hS' (Nat.le_refl _) b0; have e1 := cell_kept hS' (Nat.le_refl _) b1; have e2 := cell_kept hS' (Nat.le_refl _) b2; have e3 := cell_kept hS' (Nat.le_refl _) b3; go_simp; with_reducible rfl
  clear hD; intro hD
  simp only [Act.put, List.setIfInBounds_toArray, List.set_cons_zero, List.set_cons_succ]
  refine wpAnyK_one (i := 11) (fuel := 2) (by kernel_rfl) rfl hD ?_
  clear hD; intro K11 hK11
  go_wp2_with fail
  refine (led_name s _ (by omega)).mono ?_
  rintro e w4 ⟨rfl, rfl⟩
  rw [HN.out]
  go_wp2
  refine hK11 _ _ (by exact hS_5_5) ?_; clear hK11; intro hS_5_11 hD
  refine wpAnyK_pure (i := 12) (v := ?v5_12b5) (fuel := 1) rfl (by kernel_rfl) (fun _ _ _ h => h) hD hS_5_11 (.inl ⟨by kernel_rfl, ?y5_12b5⟩) ?n5_12b5
  case y5_12b5 => intro w' _; go_simp; with_reducible rfl
  clear hD; intro hD
  simp only [Act.put, List.setIfInBounds_toArray, List.set_cons_zero, List.set_cons_succ]
  refine wpAnyK_one (i := 13) (fuel := 0) (by kernel_rfl) rfl hD ?_
  clear hD; intro K13 hK13
  go_wp2
  refine hK13 _ _ (by exact hS_5_11) ?_; clear hK13; intro hS_5_13 hD
  refine wpAnyK_done (by kernel_rfl) ?_ 0
  have HS5 := Lib.hid hS_5_13
  clear hD
  have HA1 := Lib.hid (HA0.out.drew.trans (HS5.out.mono (by simp; omega)))
  clear b0 b1 b2 b3 HS5 HA0 HW0
  go_wp2
  go_ret2
  exact ⟨rfl, HA1.out⟩

set_option maxRecDepth 100000 in
set_option maxHeartbeats 4000000 in
theorem led_Message_1nb (q p : Int) (h s : ByteArray) (w : World) (hh : h.size ≤ 9223372036854775807) (hs : s.size ≤ 9223372036854775807) (hq : ((q : Int) == 0) = false) (hq1 : ((q : Int) == 1) = true) (hv : nvalid h = true) (hl : lowB h = false) (hn : s.toList.isEmpty = false) : Calls Try.prog 8 #[.agg #[.int .i64 q, .string h, .string s, .int .i64 p]] w (RetSE (⟨#[]⟩, 3) w) := by
  obtain ⟨W0, hW0⟩ : ∃ W0, w.alloc (.cells #[.int .i64 q, .string h, .string s, .int .i64 p] 24) = W0 := ⟨_, rfl⟩
  have hbox : W0.heap[w.heap.size]? = some (.cells #[.int .i64 q, .string h, .string s, .int .i64 p] 24 (0, 0)) := by rw [← hW0]; exact heap_alloc_new _ _
  have hb0 : Below w.heap.size w W0 := by rw [← hW0]; exact (Below.refl _ _).alloc (Nat.le_refl _) _
  have hz : w.heap.size + 1 ≤ W0.heap.size := block_lt hbox
  obtain ⟨b0, b1, b2, b3⟩ := four_cells hbox
  have HW0 := Lib.hid hW0
  have HA0 := Lib.hid hb0
  clear hW0 hbox hb0
  have HL := Lib.hid hl
  clear hl
  have HV := Lib.hid hv
  clear hv
  go_enter Try.func8, Try.ntmps8
  go_wp2_with fail
  rw [HW0.out]
  refine (nat_Valid h (by omega) _).mono ?_
  rintro e w1 ⟨rfl, rfl⟩
  rw [HV.out]
  go_wp2
  refine wp_region_K 14 (Below (W0.drew).heap.size (W0.drew)) (by kernel_rfl) ?_
  intro hD
  refine wpAnyK_pure (i := 0) (v := ?v7_0b6) (fuel := 13) rfl (by kernel_rfl) (fun _ _ _ h => h) hD (Below.refl _ _) (.inl ⟨by kernel_rfl, ?y7_0b6⟩) ?n7_0b6
  case y7_0b6 => intro w' _; go_simp; with_reducible rfl
  clear hD; intro hD
  simp only [Act.put, List.setIfInBounds_toArray, List.set_cons_zero, List.set_cons_succ]
  refine wpAnyK_pure (i := 1) (v := ?v7_1b6) (fuel := 12) rfl (by kernel_rfl) (fun _ _ _ h => h) hD (Below.refl _ _) (.inl ⟨by kernel_rfl, ?y7_1b6⟩) ?n7_1b6
  case y7_1b6 => intro w' _; go_simp; with_reducible rfl
  clear hD; intro hD
  simp only [Act.put, List.setIfInBounds_toArray, List.set_cons_zero, List.set_cons_succ]
  refine wpAnyK_pure (i := 2) (v := ?v7_2b6) (fuel := 11) rfl (by kernel_rfl) (fun _ _ _ h => h) hD (Below.refl _ _) (.inl ⟨by kernel_rfl, ?y7_2b6⟩) ?n7_2b6
  case y7_2b6 => intro w' _; go_simp; with_reducible rfl
  clear hD; intro hD
  simp only [Act.put, List.setIfInBounds_toArray, List.set_cons_zero, List.set_cons_succ]
  refine wpAnyK_takeS (i := 3) (v := ?v7_3b6) (fuel := 10) rfl (by kernel_rfl) (by kernel_rfl) (fun _ _ _ h => h) hD (Below.refl _ _) (.inl ⟨by kernel_rfl, ?y7_3b6⟩) ?n7_3b6
  case y7_3b6 => intro w' hS'; have e0 := cell_kept hS' (Nat.le_refl _) b0; have e1 := cell_kept hS' (Nat.le_refl _) b1; have e2 := cell_kept hS' (Nat.le_refl _) b2; have e3 := cell_kept hS' (Nat.le_refl _) b3; go_simp; with_reducible rfl
  clear hD; intro hD
  simp only [Act.put, List.setIfInBounds_toArray, List.set_cons_zero, List.set_cons_succ]
  refine wpAnyK_one (i := 4) (fuel := 9) (by kernel_rfl) rfl hD ?_
  clear hD; intro K4 hK4
  go_wp2_with fail
  refine (nat_Of 3 (by omega) _).mono ?_
  rintro e w2 ⟨rfl, hb2⟩
  have HB4 := Lib.hid hb2
  clear hb2
  rw [three]
  go_wp2
  refine hK4 _ _ (by exact HB4.out) ?_; clear hK4; intro hS_7_4 hD
  refine wpAnyK_one (i := 5) (fuel := 8) (by kernel_rfl) rfl hD ?_
  clear hD; intro K5 hK5
  go_wp2_with fail
  refine (nat_Cmp h _ (by omega) (by decide) _).mono ?_
  rintro e w3 ⟨rfl, rfl⟩
  obtain ⟨c, hc, hc0⟩ := low_no HV.out HL.out
  rw [hc]
  have HC := Lib.hid hc
  clear hc
  go_wp2
  refine hK5 _ _ (by exact hS_7_4) ?_; clear hK5; intro hS_7_5 hD
  refine wpAnyK_pure (i := 6) (v := ?v7_6b6) (fuel := 7) rfl (by kernel_rfl) (fun _ _ _ h => h) hD hS_7_5 (.inl ⟨by kernel_rfl, ?y7_6b6⟩) ?n7_6b6
  case y7_6b6 => intro w' _; go_simp; with_reducible rfl
  clear hD; intro hD
  simp only [Act.put, List.setIfInBounds_toArray, List.set_cons_zero, List.set_cons_succ]
  refine wpAnyK_pure (i := 7) (v := ?v7_7b6) (fuel := 6) rfl (by kernel_rfl) (fun _ _ _ h => h) hD hS_7_5 (.inl ⟨by kernel_rfl, ?y7_7b6⟩) ?n7_7b6
  case y7_7b6 => intro w' _; go_simp; with_reducible rfl
  clear hD; intro hD
  simp only [Act.put, List.setIfInBounds_toArray, List.set_cons_zero, List.set_cons_succ]
  refine wpAnyK_pure (i := 8) (v := ?v7_8b6) (fuel := 5) rfl (by kernel_rfl) (fun _ _ _ h => h) hD hS_7_5 (.inl ⟨by kernel_rfl, ?y7_8b6⟩) ?n7_8b6
  case y7_8b6 => intro w' _; go_simp; with_reducible rfl
  clear hD; intro hD
  simp only [Act.put, List.setIfInBounds_toArray, List.set_cons_zero, List.set_cons_succ]
  refine wpAnyK_pure (i := 9) (v := ?v7_9b6) (fuel := 4) rfl (by kernel_rfl) (fun _ _ _ h => h) hD hS_7_5 (.inl ⟨by kernel_rfl, ?y7_9b6⟩) ?n7_9b6
  case y7_9b6 => intro w' _; go_simp; with_reducible rfl
  clear hD; intro hD
  simp only [Act.put, List.setIfInBounds_toArray, List.set_cons_zero, List.set_cons_succ]
  refine wpAnyK_takeS (i := 10) (v := ?v7_10b6) (fuel := 3) rfl (by kernel_rfl) (by kernel_rfl) (fun _ _ _ h => h) hD hS_7_5 (.inl ⟨by kernel_rfl, ?y7_10b6⟩) ?n7_10b6
  case y7_10b6 => intro w' hS'; have e0 := cell_kept hS' (Nat.le_refl _) b0; have e1 := cell_kept hS' (Nat.le_refl _) b1; have e2 := cell_kept hS' (Nat.le_refl _) b2; have e3 := cell_kept hS' (Nat.le_refl _) b3; go_simp; with_reducible rfl
  clear hD; intro hD
  simp only [Act.put, List.setIfInBounds_toArray, List.set_cons_zero, List.set_cons_succ]
  refine wpAnyK_pure (i := 11) (v := ?v7_11b6) (fuel := 2) rfl (by kernel_rfl) (fun _ _ _ h => h) hD hS_7_5 (.inl ⟨by kernel_rfl, ?y7_11b6⟩) ?n7_11b6
  case y7_11b6 => intro w' _; go_simp; with_reducible rfl
  clear hD; intro hD
  simp only [Act.put, List.setIfInBounds_toArray, List.set_cons_zero, List.set_cons_succ]
  refine wpAnyK_pure (i := 12) (v := ?v7_12b6) (fuel := 1) rfl (by kernel_rfl) (fun _ _ _ h => h) hD hS_7_5 (.inl ⟨by kernel_rfl, ?y7_12b6⟩) ?n7_12b6
  case y7_12b6 => intro w' _; go_simp; with_reducible rfl
  clear hD; intro hD
  simp only [Act.put, List.setIfInBounds_toArray, List.set_cons_zero, List.set_cons_succ]
  refine wpAnyK_one (i := 13) (fuel := 0) (by kernel_rfl) rfl hD ?_
  clear hD; intro K13 hK13
  go_wp2
  refine hK13 _ _ (by exact hS_7_5) ?_; clear hK13; intro hS_7_13 hD
  refine wpAnyK_done (by kernel_rfl) ?_ 0
  have HS5 := Lib.hid hS_7_13
  clear hD
  have HA1 := Lib.hid (HA0.out.drew.trans (HS5.out.mono (by simp; omega)))
  clear b0 b1 b2 b3 HS5 HA0 HW0
  go_wp2
  go_ret2
  exact ⟨rfl, HA1.out⟩

set_option maxRecDepth 100000 in
set_option maxHeartbeats 4000000 in
theorem led_Message_2vb (q p : Int) (h s : ByteArray) (w : World) (hh : h.size ≤ 9223372036854775807) (hs : s.size ≤ 9223372036854775807) (hq : ((q : Int) == 0) = false) (hq1 : ((q : Int) == 1) = false) (hqq : ((q : Int) == 2) = true) (hv : nvalid h = false) : Calls Try.prog 8 #[.agg #[.int .i64 q, .string h, .string s, .int .i64 p]] w (RetSE (⟨#[]⟩, 3) w) := by
  obtain ⟨W0, hW0⟩ : ∃ W0, w.alloc (.cells #[.int .i64 q, .string h, .string s, .int .i64 p] 24) = W0 := ⟨_, rfl⟩
  have hbox : W0.heap[w.heap.size]? = some (.cells #[.int .i64 q, .string h, .string s, .int .i64 p] 24 (0, 0)) := by rw [← hW0]; exact heap_alloc_new _ _
  have hb0 : Below w.heap.size w W0 := by rw [← hW0]; exact (Below.refl _ _).alloc (Nat.le_refl _) _
  have hz : w.heap.size + 1 ≤ W0.heap.size := block_lt hbox
  obtain ⟨b0, b1, b2, b3⟩ := four_cells hbox
  have HW0 := Lib.hid hW0
  have HA0 := Lib.hid hb0
  clear hW0 hbox hb0
  have HV := Lib.hid hv
  clear hv
  go_enter Try.func8, Try.ntmps8
  go_wp2_with fail
  rw [HW0.out]
  refine (nat_Valid h (by omega) _).mono ?_
  rintro e w1 ⟨rfl, rfl⟩
  rw [HV.out]
  go_wp2
  go_ret2
  exact ⟨rfl, HA0.out⟩

set_option maxRecDepth 100000 in
set_option maxHeartbeats 4000000 in
theorem led_Message_2hb (q p : Int) (h s : ByteArray) (w : World) (hh : h.size ≤ 9223372036854775807) (hs : s.size ≤ 9223372036854775807) (hq : ((q : Int) == 0) = false) (hq1 : ((q : Int) == 1) = false) (hqq : ((q : Int) == 2) = true) (hv : nvalid h = true) (hl : h.toList.isEmpty = false) : Calls Try.prog 8 #[.agg #[.int .i64 q, .string h, .string s, .int .i64 p]] w (RetSE (⟨#[]⟩, 3) w) := by
  obtain ⟨W0, hW0⟩ : ∃ W0, w.alloc (.cells #[.int .i64 q, .string h, .string s, .int .i64 p] 24) = W0 := ⟨_, rfl⟩
  have hbox : W0.heap[w.heap.size]? = some (.cells #[.int .i64 q, .string h, .string s, .int .i64 p] 24 (0, 0)) := by rw [← hW0]; exact heap_alloc_new _ _
  have hb0 : Below w.heap.size w W0 := by rw [← hW0]; exact (Below.refl _ _).alloc (Nat.le_refl _) _
  have hz : w.heap.size + 1 ≤ W0.heap.size := block_lt hbox
  obtain ⟨b0, b1, b2, b3⟩ := four_cells hbox
  have HW0 := Lib.hid hW0
  have HA0 := Lib.hid hb0
  clear hW0 hbox hb0
  have HV := Lib.hid hv
  clear hv
  go_enter Try.func8, Try.ntmps8
  go_wp2_with fail
  rw [HW0.out]
  refine (nat_Valid h (by omega) _).mono ?_
  rintro e w1 ⟨rfl, rfl⟩
  rw [HV.out]
  go_wp2
  go_ret2
  exact ⟨rfl, HA0.out⟩

set_option maxRecDepth 100000 in
set_option maxHeartbeats 4000000 in
theorem led_Message_2sb (q p : Int) (h s : ByteArray) (w : World) (hh : h.size ≤ 9223372036854775807) (hs : s.size ≤ 9223372036854775807) (hq : ((q : Int) == 0) = false) (hq1 : ((q : Int) == 1) = false) (hqq : ((q : Int) == 2) = true) (hv : nvalid h = true) (hl : h.toList.isEmpty = true) (hn : s.toList.isEmpty = false) : Calls Try.prog 8 #[.agg #[.int .i64 q, .string h, .string s, .int .i64 p]] w (RetSE (⟨#[]⟩, 3) w) := by
  obtain ⟨W0, hW0⟩ : ∃ W0, w.alloc (.cells #[.int .i64 q, .string h, .string s, .int .i64 p] 24) = W0 := ⟨_, rfl⟩
  have hbox : W0.heap[w.heap.size]? = some (.cells #[.int .i64 q, .string h, .string s, .int .i64 p] 24 (0, 0)) := by rw [← hW0]; exact heap_alloc_new _ _
  have hb0 : Below w.heap.size w W0 := by rw [← hW0]; exact (Below.refl _ _).alloc (Nat.le_refl _) _
  have hz : w.heap.size + 1 ≤ W0.heap.size := block_lt hbox
  obtain ⟨b0, b1, b2, b3⟩ := four_cells hbox
  have HW0 := Lib.hid hW0
  have HA0 := Lib.hid hb0
  clear hW0 hbox hb0
  have HV := Lib.hid hv
  clear hv
  go_enter Try.func8, Try.ntmps8
  go_wp2_with fail
  rw [HW0.out]
  refine (nat_Valid h (by omega) _).mono ?_
  rintro e w1 ⟨rfl, rfl⟩
  rw [HV.out]
  go_wp2
  go_ret2
  exact ⟨rfl, HA0.out⟩

set_option maxRecDepth 100000 in
set_option maxHeartbeats 4000000 in
theorem led_Message_3tb (q p : Int) (h s : ByteArray) (w : World) (hh : h.size ≤ 9223372036854775807) (hs : s.size ≤ 9223372036854775807) (hq : ((q : Int) == 0) = false) (hq1 : ((q : Int) == 1) = false) (hqq : ((q : Int) == 2) = false) (hv : nvalid h = true) : Calls Try.prog 8 #[.agg #[.int .i64 q, .string h, .string s, .int .i64 p]] w (RetSE (⟨#[]⟩, 3) w) := by
  obtain ⟨W0, hW0⟩ : ∃ W0, w.alloc (.cells #[.int .i64 q, .string h, .string s, .int .i64 p] 24) = W0 := ⟨_, rfl⟩
  have hbox : W0.heap[w.heap.size]? = some (.cells #[.int .i64 q, .string h, .string s, .int .i64 p] 24 (0, 0)) := by rw [← hW0]; exact heap_alloc_new _ _
  have hb0 : Below w.heap.size w W0 := by rw [← hW0]; exact (Below.refl _ _).alloc (Nat.le_refl _) _
  have hz : w.heap.size + 1 ≤ W0.heap.size := block_lt hbox
  obtain ⟨b0, b1, b2, b3⟩ := four_cells hbox
  have HW0 := Lib.hid hW0
  have HA0 := Lib.hid hb0
  clear hW0 hbox hb0
  have HV := Lib.hid hv
  clear hv
  go_enter Try.func8, Try.ntmps8
  go_wp2_with fail
  rw [HW0.out]
  refine (nat_Valid h (by omega) _).mono ?_
  rintro e w1 ⟨rfl, rfl⟩
  rw [HV.out]
  go_wp2
  go_ret2
  exact ⟨rfl, HA0.out⟩

set_option maxRecDepth 100000 in
set_option maxHeartbeats 4000000 in
theorem led_Message_3fb (q p : Int) (h s : ByteArray) (w : World) (hh : h.size ≤ 9223372036854775807) (hs : s.size ≤ 9223372036854775807) (hq : ((q : Int) == 0) = false) (hq1 : ((q : Int) == 1) = false) (hqq : ((q : Int) == 2) = false) (hv : nvalid h = false) : Calls Try.prog 8 #[.agg #[.int .i64 q, .string h, .string s, .int .i64 p]] w (RetSE (⟨#[]⟩, 3) w) := by
  obtain ⟨W0, hW0⟩ : ∃ W0, w.alloc (.cells #[.int .i64 q, .string h, .string s, .int .i64 p] 24) = W0 := ⟨_, rfl⟩
  have hbox : W0.heap[w.heap.size]? = some (.cells #[.int .i64 q, .string h, .string s, .int .i64 p] 24 (0, 0)) := by rw [← hW0]; exact heap_alloc_new _ _
  have hb0 : Below w.heap.size w W0 := by rw [← hW0]; exact (Below.refl _ _).alloc (Nat.le_refl _) _
  have hz : w.heap.size + 1 ≤ W0.heap.size := block_lt hbox
  obtain ⟨b0, b1, b2, b3⟩ := four_cells hbox
  have HW0 := Lib.hid hW0
  have HA0 := Lib.hid hb0
  clear hW0 hbox hb0
  have HV := Lib.hid hv
  clear hv
  go_enter Try.func8, Try.ntmps8
  go_wp2_with fail
  rw [HW0.out]
  refine (nat_Valid h (by omega) _).mono ?_
  rintro e w1 ⟨rfl, rfl⟩
  rw [HV.out]
  go_wp2
  go_ret2
  exact ⟨rfl, HA0.out⟩

end Go.Proofs.Ythidhgniondkgaa

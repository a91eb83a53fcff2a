/- Walk: (*ledger.state).follows. -/
import Derived.Test.YthidhgniondkgaaStOf
set_option linter.unusedVariables false
set_option linter.unusedSimpArgs false
namespace Go.Proofs.Ythidhgniondkgaa
open Go.RowKit
open Go.Maps Go.WideMaps

/-- A look-up with 'ok' in a set. -/
theorem SetM.look {w : World} {b n : Nat} {mem : ByteArray → Bool} (h : SetM w b n mem) {s : ByteArray} (hs : s.size ≤ maxLen) : (Instr.lookup 71 (.map (some b)) (.string s) true).run Try.prog w = .ok (.tuple #[.agg #[], .bool (mem s)]) w := by
  obtain ⟨D, h1, h2⟩ := h
  obtain ⟨v, ps, hrun, hv⟩ := h1.look_ok lawN Try.underlying71 (zeroU w) (zd := .agg []) (zp := []) unitElem_mk (keyN hs)
  obtain ⟨rfl, _⟩ := unitElem_inv hv
  rw [hrun, h2 s]



set_option maxRecDepth 100000 in
set_option maxHeartbeats 2000000 in
theorem st_follows_f (sb n m bi br : Nat) (I R : ByteArray → Bool) (q p : Int) (h s : ByteArray) (w : World) (hst : StAt w sb n m bi br I R) (hh : h.size ≤ maxLen) (hsc : s.size ≤ 9223372036854775807) (ms : ByteArray) (f : Int) (hm : msgS ⟨q, h, s, p⟩ = (ms, f)) (hf : (f != 0) = true) : Calls Try.prog 38 #[.pointer (some ⟨sb, 0, none⟩), .agg #[.int .i64 q, .string h, .string s, .int .i64 p]] w (Ret (.int .i64 f) w) := by
  have HM := Lib.hid hm
  clear hm
  obtain ⟨W0, hW0⟩ : ∃ W0, w.alloc (.cells #[.int .i64 q, .string h, .string s, .int .i64 p] 24) = W0 := ⟨_, rfl⟩
  have hbox : W0.heap[w.heap.size]? = some (.cells #[.int .i64 q, .string h, .string s, .int .i64 p] 24 (0, 0)) := by rw [← hW0]; exact heap_alloc_new _ _
  have hb0 : Below w.heap.size w W0 := by rw [← hW0]; exact (Below.refl _ _).alloc (Nat.le_refl _) _
  have hz : w.heap.size + 1 ≤ W0.heap.size := block_lt hbox
  obtain ⟨b0, b1, b2, b3⟩ := four_cells hbox
  have HW0 := Lib.hid hW0
  have HA0 := Lib.hid hb0
  have HS0 := Lib.hid (hst.kept hb0 (Nat.le_refl _))
  clear hW0 hbox hb0 hst
  go_enter Try.func38, Try.ntmps38
  go_wp2_with fail
  rw [HW0.out]
  refine (led_Message ⟨q, h, s, p⟩ _ (by unfold maxLen at hh; omega) hsc).mono ?_
  rintro e w1 ⟨rfl, hb1⟩
  have d0 := cell_kept hb1 (Nat.le_refl _) b0
  have d1 := cell_kept hb1 (Nat.le_refl _) b1
  have d2 := cell_kept hb1 (Nat.le_refl _) b2
  have d3 := cell_kept hb1 (Nat.le_refl _) b3
  have hz1 : w.heap.size + 1 ≤ w1.heap.size := Nat.le_trans hz hb1.size
  have HA1 := Lib.hid (HA0.out.trans (hb1.mono (by omega)))
  have hst1 := HS0.out.kept hb1 (Nat.le_refl _)
  obtain ⟨s0, s1, s2, s3⟩ := four_cells hst1.1
  have HS1 := Lib.hid hst1
  rw [HM.out]
  clear b0 b1 b2 b3 HA0 HS0 HW0 hb1 hz hst1
  go_wp2
  go_ret
  exact ⟨rfl, HA1.out⟩
set_option maxRecDepth 100000 in
set_option maxHeartbeats 2000000 in
theorem st_follows_n (sb n m bi br : Nat) (I R : ByteArray → Bool) (q p : Int) (h s : ByteArray) (w : World) (hst : StAt w sb n m bi br I R) (hh : h.size ≤ maxLen) (hsc : s.size ≤ 9223372036854775807) (ms : ByteArray) (f : Int) (hm : msgS ⟨q, h, s, p⟩ = (ms, f)) (hf : f = 0) (hn : 4096 ≤ n) : Calls Try.prog 38 #[.pointer (some ⟨sb, 0, none⟩), .agg #[.int .i64 q, .string h, .string s, .int .i64 p]] w (Ret (.int .i64 6) w) := by
  subst hf
  have HM := Lib.hid hm
  clear hm
  obtain ⟨W0, hW0⟩ : ∃ W0, w.alloc (.cells #[.int .i64 q, .string h, .string s, .int .i64 p] 24) = W0 := ⟨_, rfl⟩
  have hbox : W0.heap[w.heap.size]? = some (.cells #[.int .i64 q, .string h, .string s, .int .i64 p] 24 (0, 0)) := by rw [← hW0]; exact heap_alloc_new _ _
  have hb0 : Below w.heap.size w W0 := by rw [← hW0]; exact (Below.refl _ _).alloc (Nat.le_refl _) _
  have hz : w.heap.size + 1 ≤ W0.heap.size := block_lt hbox
  obtain ⟨b0, b1, b2, b3⟩ := four_cells hbox
  have HW0 := Lib.hid hW0
  have HA0 := Lib.hid hb0
  have HS0 := Lib.hid (hst.kept hb0 (Nat.le_refl _))
  clear hW0 hbox hb0 hst
  go_enter Try.func38, Try.ntmps38
  go_wp2_with fail
  rw [HW0.out]
  refine (led_Message ⟨q, h, s, p⟩ _ (by unfold maxLen at hh; omega) hsc).mono ?_
  rintro e w1 ⟨rfl, hb1⟩
  have d0 := cell_kept hb1 (Nat.le_refl _) b0
  have d1 := cell_kept hb1 (Nat.le_refl _) b1
  have d2 := cell_kept hb1 (Nat.le_refl _) b2
  have d3 := cell_kept hb1 (Nat.le_refl _) b3
  have hz1 : w.heap.size + 1 ≤ w1.heap.size := Nat.le_trans hz hb1.size
  have HA1 := Lib.hid (HA0.out.trans (hb1.mono (by omega)))
  have hst1 := HS0.out.kept hb1 (Nat.le_refl _)
  obtain ⟨s0, s1, s2, s3⟩ := four_cells hst1.1
  have HS1 := Lib.hid hst1
  rw [HM.out]
  clear b0 b1 b2 b3 HA0 HS0 HW0 hb1 hz hst1
  go_wp2
  go_ret
  exact ⟨rfl, HA1.out⟩
set_option maxRecDepth 100000 in
set_option maxHeartbeats 4000000 in
theorem st_follows_2p (sb n m bi br : Nat) (I R : ByteArray → Bool) (q p : Int) (h s : ByteArray) (w : World) (hst : StAt w sb n m bi br I R) (hh : h.size ≤ maxLen) (hsc : s.size ≤ 9223372036854775807) (ms : ByteArray) (f : Int) (hm : msgS ⟨q, h, s, p⟩ = (ms, f)) (hf : f = 0) (hn : n < 4096) (hmm : m ≤ 4611686018427387903) (hq : (q == 2) = true) (hq0 : (q == 0) = false) (hq1 : (q == 1) = false) (hp : (p != (m : Int) + 1) = true) : Calls Try.prog 38 #[.pointer (some ⟨sb, 0, none⟩), .agg #[.int .i64 q, .string h, .string s, .int .i64 p]] w (Ret (.int .i64 21) w) := by
  subst hf
  have HM := Lib.hid hm
  clear hm
  obtain ⟨W0, hW0⟩ : ∃ W0, w.alloc (.cells #[.int .i64 q, .string h, .string s, .int .i64 p] 24) = W0 := ⟨_, rfl⟩
  have hbox : W0.heap[w.heap.size]? = some (.cells #[.int .i64 q, .string h, .string s, .int .i64 p] 24 (0, 0)) := by rw [← hW0]; exact heap_alloc_new _ _
  have hb0 : Below w.heap.size w W0 := by rw [← hW0]; exact (Below.refl _ _).alloc (Nat.le_refl _) _
  have hz : w.heap.size + 1 ≤ W0.heap.size := block_lt hbox
  obtain ⟨b0, b1, b2, b3⟩ := four_cells hbox
  have HW0 := Lib.hid hW0
  have HA0 := Lib.hid hb0
  have HS0 := Lib.hid (hst.kept hb0 (Nat.le_refl _))
  clear hW0 hbox hb0 hst
  go_enter Try.func38, Try.ntmps38
  go_wp2_with fail
  rw [HW0.out]
  refine (led_Message ⟨q, h, s, p⟩ _ (by unfold maxLen at hh; omega) hsc).mono ?_
  rintro e w1 ⟨rfl, hb1⟩
  have d0 := cell_kept hb1 (Nat.le_refl _) b0
  have d1 := cell_kept hb1 (Nat.le_refl _) b1
  have d2 := cell_kept hb1 (Nat.le_refl _) b2
  have d3 := cell_kept hb1 (Nat.le_refl _) b3
  have hz1 : w.heap.size + 1 ≤ w1.heap.size := Nat.le_trans hz hb1.size
  have HA1 := Lib.hid (HA0.out.trans (hb1.mono (by omega)))
  have hst1 := HS0.out.kept hb1 (Nat.le_refl _)
  obtain ⟨s0, s1, s2, s3⟩ := four_cells hst1.1
  have HS1 := Lib.hid hst1
  rw [HM.out]
  clear b0 b1 b2 b3 HA0 HS0 HW0 hb1 hz hst1
  go_wp2
  refine wp_region_K 13 (Below (w1.drew).heap.size (w1.drew)) (by kernel_rfl) ?_
  intro hD
  refine wpAnyK_pure (i := 0) (v := ?v9_0b1) (fuel := 12) rfl (by kernel_rfl) (fun _ _ _ h => h) hD (Below.refl _ _) (.inl ⟨by kernel_rfl, ?y9_0b1⟩) ?n9_0b1
  case y9_0b1 => intro w' _; go_simp; with_reducible rfl
  clear hD; intro hD
  simp only [Act.put, List.setIfInBounds_toArray, List.set_cons_zero, List.set_cons_succ]
  refine wpAnyK_pure (i := 1) (v := ?v9_1b1) (fuel := 11) rfl (by kernel_rfl) (fun _ _ _ h => h) hD (Below.refl _ _) (.inl ⟨by kernel_rfl, ?y9_1b1⟩) ?n9_1b1
  case y9_1b1 => intro w' _; go_simp; with_reducible rfl
  clear hD; intro hD
  simp only [Act.put, List.setIfInBounds_toArray, List.set_cons_zero, List.set_cons_succ]
  refine wpAnyK_pure (i := 2) (v := ?v9_2b1) (fuel := 10) rfl (by kernel_rfl) (fun _ _ _ h => h) hD (Below.refl _ _) (.inl ⟨by kernel_rfl, ?y9_2b1⟩) ?n9_2b1
  case y9_2b1 => intro w' _; go_simp; with_reducible rfl
  clear hD; intro hD
  simp only [Act.put, List.setIfInBounds_toArray, List.set_cons_zero, List.set_cons_succ]
  refine wpAnyK_takeS (i := 3) (v := ?v9_3b1) (fuel := 9) rfl (by kernel_rfl) (by kernel_rfl) (fun _ _ _ h => h) hD (Below.refl _ _) (.inl ⟨by kernel_rfl, ?y9_3b1⟩) ?n9_3b1
  case y9_3b1 => intro w' hS'; have e0 := cell_kept hS' (Nat.le_refl _) s2; have e1 := cell_kept hS' (Nat.le_refl _) s3; have e2 := cell_kept hS' (Nat.le_refl _) d1; go_simp; with_reducible rfl
  clear hD; intro hD
  simp only [Act.put, List.setIfInBounds_toArray, List.set_cons_zero, List.set_cons_succ]
  refine wpAnyK_pure (i := 4) (v := ?v9_4b1) (fuel := 8) rfl (by kernel_rfl) (fun _ _ _ h => h) hD (Below.refl _ _) (.inl ⟨by kernel_rfl, ?y9_4b1⟩) ?n9_4b1
  case y9_4b1 => intro w' _; go_simp; with_reducible rfl
  clear hD; intro hD
  simp only [Act.put, List.setIfInBounds_toArray, List.set_cons_zero, List.set_cons_succ]
  refine wpAnyK_takeS (i := 5) (v := ?v9_5b1) (fuel := 7) rfl (by kernel_rfl) (by kernel_rfl) (fun _ _ _ h => h) hD (Below.refl _ _) (.inl ⟨by kernel_rfl, ?y9_5b1⟩) ?n9_5b1
  case y9_5b1 => intro w' hS'; have e0 := cell_kept hS' (Nat.le_refl _) s2; have e1 := cell_kept hS' (Nat.le_refl _) s3; have e2 := cell_kept hS' (Nat.le_refl _) d1; go_simp; with_reducible rfl
  clear hD; intro hD
  simp only [Act.put, List.setIfInBounds_toArray, List.set_cons_zero, List.set_cons_succ]
  refine wpAnyK_takeS (i := 6) (v := (.tuple #[.agg #[], .bool (I h)])) (fuel := 6) rfl (by kernel_rfl) (by kernel_rfl) (fun _ _ _ h => h) hD (Below.refl _ _) (.inl ⟨by kernel_rfl, ?y9_6b1⟩) ?n9_6b1
  case y9_6b1 =>
    intro w' hS'
    have hl := (SetM.kept (w := w1.drew) (HS1.out.2.1.of_block rfl) hS' (Nat.le_refl _)).look hh
    go_simp
  clear hD; intro hD
  simp only [Act.put, List.setIfInBounds_toArray, List.set_cons_zero, List.set_cons_succ]
  refine wpAnyK_pure (i := 7) (v := ?v9_7b1) (fuel := 5) rfl (by kernel_rfl) (fun _ _ _ h => h) hD (Below.refl _ _) (.inl ⟨by kernel_rfl, ?y9_7b1⟩) ?n9_7b1
  case y9_7b1 => intro w' _; go_simp; with_reducible rfl
  clear hD; intro hD
  simp only [Act.put, List.setIfInBounds_toArray, List.set_cons_zero, List.set_cons_succ]
  refine wpAnyK_pure (i := 8) (v := ?v9_8b1) (fuel := 4) rfl (by kernel_rfl) (fun _ _ _ h => h) hD (Below.refl _ _) (.inl ⟨by kernel_rfl, ?y9_8b1⟩) ?n9_8b1
  case y9_8b1 => intro w' _; go_simp; with_reducible rfl
  clear hD; intro hD
  simp only [Act.put, List.setIfInBounds_toArray, List.set_cons_zero, List.set_cons_succ]
  refine wpAnyK_pure (i := 9) (v := ?v9_9b1) (fuel := 3) rfl (by kernel_rfl) (fun _ _ _ h => h) hD (Below.refl _ _) (.inl ⟨by kernel_rfl, ?y9_9b1⟩) ?n9_9b1
  case y9_9b1 => intro w' _; go_simp; with_reducible rfl
  clear hD; intro hD
  simp only [Act.put, List.setIfInBounds_toArray, List.set_cons_zero, List.set_cons_succ]
  refine wpAnyK_one (i := 10) (fuel := 2) (by kernel_rfl) rfl hD ?_
  clear hD; intro K10 hK10
  go_wp2
  refine hK10 _ _ (by exact (Below.refl _ _).alloc (Nat.le_refl _) _) ?_; clear hK10; intro hS_9_10 hD
  refine wpAnyK_one (i := 11) (fuel := 1) (by kernel_rfl) rfl hD ?_
  clear hD; intro K11 hK11
  go_wp2
  refine hK11 _ _ (by exact hS_9_10) ?_; clear hK11; intro hS_9_11 hD
  refine wpAnyK_one (i := 12) (fuel := 0) (by kernel_rfl) rfl hD ?_
  clear hD; intro K12 hK12
  go_wp2
  refine hK12 _ _ (by exact hS_9_11) ?_; clear hK12; intro hS_9_12 hD
  refine wpAnyK_done (by kernel_rfl) ?_ 0
  clear hD
  have HX := Lib.hid hS_9_12
  obtain ⟨w2, hw2⟩ : ∃ w2, (w1.alloc (.cells #[] 74)).drew = w2 := ⟨_, rfl⟩
  rw [hw2] at HX ⊢
  have e0 := cell_kept HX.out (Nat.le_refl _) d0
  have e1 := cell_kept HX.out (Nat.le_refl _) d1
  have e2 := cell_kept HX.out (Nat.le_refl _) d2
  have e3 := cell_kept HX.out (Nat.le_refl _) d3
  have HS2 := Lib.hid (StAt.kept (w := w1.drew) ⟨HS1.out.1, HS1.out.2.1.of_block rfl, HS1.out.2.2.1.of_block rfl, HS1.out.2.2.2⟩ HX.out (Nat.le_refl _))
  have HA2 := Lib.hid (HA1.out.drew.trans (HX.out.mono (by simp; omega)))
  have hz2 : w.heap.size + 1 ≤ w2.heap.size := Nat.le_trans hz1 HX.out.size
  clear d0 d1 d2 d3 s0 s1 s2 s3 hw2 HX
  have d0 := e0
  have d1 := e1
  have d2 := e2
  have d3 := e3
  clear e0 e1 e2 e3
  obtain ⟨s0, s1, s2, s3⟩ := four_cells HS2.out.1
  go_wp2
  refine wp_region_K 13 (Below (w2.drew).heap.size (w2.drew)) (by kernel_rfl) ?_
  intro hD
  refine wpAnyK_pure (i := 0) (v := ?v10_0b2) (fuel := 12) rfl (by kernel_rfl) (fun _ _ _ h => h) hD (Below.refl _ _) (.inl ⟨by kernel_rfl, ?y10_0b2⟩) ?n10_0b2
  case y10_0b2 => intro w' _; go_simp; with_reducible rfl
  clear hD; intro hD
  simp only [Act.put, List.setIfInBounds_toArray, List.set_cons_zero, List.set_cons_succ]
  refine wpAnyK_pure (i := 1) (v := ?v10_1b2) (fuel := 11) rfl (by kernel_rfl) (fun _ _ _ h => h) hD (Below.refl _ _) (.inl ⟨by kernel_rfl, ?y10_1b2⟩) ?n10_1b2
  case y10_1b2 => intro w' _; go_simp; with_reducible rfl
  clear hD; intro hD
  simp only [Act.put, List.setIfInBounds_toArray, List.set_cons_zero, List.set_cons_succ]
  refine wpAnyK_pure (i := 2) (v := ?v10_2b2) (fuel := 10) rfl (by kernel_rfl) (fun _ _ _ h => h) hD (Below.refl _ _) (.inl ⟨by kernel_rfl, ?y10_2b2⟩) ?n10_2b2
  case y10_2b2 => intro w' _; go_simp; with_reducible rfl
  clear hD; intro hD
  simp only [Act.put, List.setIfInBounds_toArray, List.set_cons_zero, List.set_cons_succ]
  refine wpAnyK_takeS (i := 3) (v := ?v10_3b2) (fuel := 9) rfl (by kernel_rfl) (by kernel_rfl) (fun _ _ _ h => h) hD (Below.refl _ _) (.inl ⟨by kernel_rfl, ?y10_3b2⟩) ?n10_3b2
  case y10_3b2 => intro w' hS'; have e0 := cell_kept hS' (Nat.le_refl _) s2; have e1 := cell_kept hS' (Nat.le_refl _) s3; have e2 := cell_kept hS' (Nat.le_refl _) d1; go_simp; with_reducible rfl
  clear hD; intro hD
  simp only [Act.put, List.setIfInBounds_toArray, List.set_cons_zero, List.set_cons_succ]
  refine wpAnyK_pure (i := 4) (v := ?v10_4b2) (fuel := 8) rfl (by kernel_rfl) (fun _ _ _ h => h) hD (Below.refl _ _) (.inl ⟨by kernel_rfl, ?y10_4b2⟩) ?n10_4b2
  case y10_4b2 => intro w' _; go_simp; with_reducible rfl
  clear hD; intro hD
  simp only [Act.put, List.setIfInBounds_toArray, List.set_cons_zero, List.set_cons_succ]
  refine wpAnyK_takeS (i := 5) (v := ?v10_5b2) (fuel := 7) rfl (by kernel_rfl) (by kernel_rfl) (fun _ _ _ h => h) hD (Below.refl _ _) (.inl ⟨by kernel_rfl, ?y10_5b2⟩) ?n10_5b2
  case y10_5b2 => intro w' hS'; have e0 := cell_kept hS' (Nat.le_refl _) s2; have e1 := cell_kept hS' (Nat.le_refl _) s3; have e2 := cell_kept hS' (Nat.le_refl _) d1; go_simp; with_reducible rfl
  clear hD; intro hD
  simp only [Act.put, List.setIfInBounds_toArray, List.set_cons_zero, List.set_cons_succ]
  refine wpAnyK_takeS (i := 6) (v := (.tuple #[.agg #[], .bool (R h)])) (fuel := 6) rfl (by kernel_rfl) (by kernel_rfl) (fun _ _ _ h => h) hD (Below.refl _ _) (.inl ⟨by kernel_rfl, ?y10_6b2⟩) ?n10_6b2
  case y10_6b2 =>
    intro w' hS'
    have hl := (SetM.kept (w := w2.drew) (HS2.out.2.2.1.of_block rfl) hS' (Nat.le_refl _)).look hh
    go_simp
  clear hD; intro hD
  simp only [Act.put, List.setIfInBounds_toArray, List.set_cons_zero, List.set_cons_succ]
  refine wpAnyK_pure (i := 7) (v := ?v10_7b2) (fuel := 5) rfl (by kernel_rfl) (fun _ _ _ h => h) hD (Below.refl _ _) (.inl ⟨by kernel_rfl, ?y10_7b2⟩) ?n10_7b2
  case y10_7b2 => intro w' _; go_simp; with_reducible rfl
  clear hD; intro hD
  simp only [Act.put, List.setIfInBounds_toArray, List.set_cons_zero, List.set_cons_succ]
  refine wpAnyK_pure (i := 8) (v := ?v10_8b2) (fuel := 4) rfl (by kernel_rfl) (fun _ _ _ h => h) hD (Below.refl _ _) (.inl ⟨by kernel_rfl, ?y10_8b2⟩) ?n10_8b2
  case y10_8b2 => intro w' _; go_simp; with_reducible rfl
  clear hD; intro hD
  simp only [Act.put, List.setIfInBounds_toArray, List.set_cons_zero, List.set_cons_succ]
  refine wpAnyK_pure (i := 9) (v := ?v10_9b2) (fuel := 3) rfl (by kernel_rfl) (fun _ _ _ h => h) hD (Below.refl _ _) (.inl ⟨by kernel_rfl, ?y10_9b2⟩) ?n10_9b2
  case y10_9b2 => intro w' _; go_simp; with_reducible rfl
  clear hD; intro hD
  simp only [Act.put, List.setIfInBounds_toArray, List.set_cons_zero, List.set_cons_succ]
  refine wpAnyK_one (i := 10) (fuel := 2) (by kernel_rfl) rfl hD ?_
  clear hD; intro K10 hK10
  go_wp2
  refine hK10 _ _ (by exact (Below.refl _ _).alloc (Nat.le_refl _) _) ?_; clear hK10; intro hS_10_10 hD
  refine wpAnyK_one (i := 11) (fuel := 1) (by kernel_rfl) rfl hD ?_
  clear hD; intro K11 hK11
  go_wp2
  refine hK11 _ _ (by exact hS_10_10) ?_; clear hK11; intro hS_10_11 hD
  refine wpAnyK_one (i := 12) (fuel := 0) (by kernel_rfl) rfl hD ?_
  clear hD; intro K12 hK12
  go_wp2
  refine hK12 _ _ (by exact hS_10_11) ?_; clear hK12; intro hS_10_12 hD
  refine wpAnyK_done (by kernel_rfl) ?_ 0
  clear hD
  have HX := Lib.hid hS_10_12
  obtain ⟨w3, hw2⟩ : ∃ w3, (w2.alloc (.cells #[] 74)).drew = w3 := ⟨_, rfl⟩
  rw [hw2] at HX ⊢
  have e0 := cell_kept HX.out (Nat.le_refl _) d0
  have e1 := cell_kept HX.out (Nat.le_refl _) d1
  have e2 := cell_kept HX.out (Nat.le_refl _) d2
  have e3 := cell_kept HX.out (Nat.le_refl _) d3
  have HS3 := Lib.hid (StAt.kept (w := w2.drew) ⟨HS2.out.1, HS2.out.2.1.of_block rfl, HS2.out.2.2.1.of_block rfl, HS2.out.2.2.2⟩ HX.out (Nat.le_refl _))
  have HA3 := Lib.hid (HA2.out.drew.trans (HX.out.mono (by simp; omega)))
  have hz3 : w.heap.size + 1 ≤ w3.heap.size := Nat.le_trans hz2 HX.out.size
  clear d0 d1 d2 d3 s0 s1 s2 s3 hw2 HX
  have d0 := e0
  have d1 := e1
  have d2 := e2
  have d3 := e3
  clear e0 e1 e2 e3
  obtain ⟨s0, s1, s2, s3⟩ := four_cells HS3.out.1
  go_wp2
  go_ret
  exact ⟨rfl, HA3.out⟩

set_option maxRecDepth 100000 in
set_option maxHeartbeats 4000000 in
theorem st_follows_0p (sb n m bi br : Nat) (I R : ByteArray → Bool) (q p : Int) (h s : ByteArray) (w : World) (hst : StAt w sb n m bi br I R) (hh : h.size ≤ maxLen) (hsc : s.size ≤ 9223372036854775807) (ms : ByteArray) (f : Int) (hm : msgS ⟨q, h, s, p⟩ = (ms, f)) (hf : f = 0) (hn : n < 4096) (hmm : m ≤ 4611686018427387903) (hq : (q == 2) = false) (hq0 : (q == 0) = true) (hq1 : (q == 1) = false) (hp : (p != (m : Int)) = true) : Calls Try.prog 38 #[.pointer (some ⟨sb, 0, none⟩), .agg #[.int .i64 q, .string h, .string s, .int .i64 p]] w (Ret (.int .i64 21) w) := by
  subst hf
  have HM := Lib.hid hm
  clear hm
  obtain ⟨W0, hW0⟩ : ∃ W0, w.alloc (.cells #[.int .i64 q, .string h, .string s, .int .i64 p] 24) = W0 := ⟨_, rfl⟩
  have hbox : W0.heap[w.heap.size]? = some (.cells #[.int .i64 q, .string h, .string s, .int .i64 p] 24 (0, 0)) := by rw [← hW0]; exact heap_alloc_new _ _
  have hb0 : Below w.heap.size w W0 := by rw [← hW0]; exact (Below.refl _ _).alloc (Nat.le_refl _) _
  have hz : w.heap.size + 1 ≤ W0.heap.size := block_lt hbox
  obtain ⟨b0, b1, b2, b3⟩ := four_cells hbox
  have HW0 := Lib.hid hW0
  have HA0 := Lib.hid hb0
  have HS0 := Lib.hid (hst.kept hb0 (Nat.le_refl _))
  clear hW0 hbox hb0 hst
  go_enter Try.func38, Try.ntmps38
  go_wp2_with fail
  rw [HW0.out]
  refine (led_Message ⟨q, h, s, p⟩ _ (by unfold maxLen at hh; omega) hsc).mono ?_
  rintro e w1 ⟨rfl, hb1⟩
  have d0 := cell_kept hb1 (Nat.le_refl _) b0
  have d1 := cell_kept hb1 (Nat.le_refl _) b1
  have d2 := cell_kept hb1 (Nat.le_refl _) b2
  have d3 := cell_kept hb1 (Nat.le_refl _) b3
  have hz1 : w.heap.size + 1 ≤ w1.heap.size := Nat.le_trans hz hb1.size
  have HA1 := Lib.hid (HA0.out.trans (hb1.mono (by omega)))
  have hst1 := HS0.out.kept hb1 (Nat.le_refl _)
  obtain ⟨s0, s1, s2, s3⟩ := four_cells hst1.1
  have HS1 := Lib.hid hst1
  rw [HM.out]
  clear b0 b1 b2 b3 HA0 HS0 HW0 hb1 hz hst1
  go_wp2
  refine wp_region_K 13 (Below (w1.drew).heap.size (w1.drew)) (by kernel_rfl) ?_
  intro hD
  refine wpAnyK_pure (i := 0) (v := ?v9_0b3) (fuel := 12) rfl (by kernel_rfl) (fun _ _ _ h => h) hD (Below.refl _ _) (.inl ⟨by kernel_rfl, ?y9_0b3⟩) ?n9_0b3
  case y9_0b3 => intro w' _; go_simp; with_reducible rfl
  clear hD; intro hD
  simp only [Act.put, List.setIfInBounds_toArray, List.set_cons_zero, List.set_cons_succ]
  refine wpAnyK_pure (i := 1) (v := ?v9_1b3) (fuel := 11) rfl (by kernel_rfl) (fun _ _ _ h => h) hD (Below.refl _ _) (.inl ⟨by kernel_rfl, ?y9_1b3⟩) ?n9_1b3
  case y9_1b3 => intro w' _; go_simp; with_reducible rfl
  clear hD; intro hD
  simp only [Act.put, List.setIfInBounds_toArray, List.set_cons_zero, List.set_cons_succ]
  refine wpAnyK_pure (i := 2) (v := ?v9_2b3) (fuel := 10) rfl (by kernel_rfl) (fun _ _ _ h => h) hD (Below.refl _ _) (.inl ⟨by kernel_rfl, ?y9_2b3⟩) ?n9_2b3
  case y9_2b3 => intro w' _; go_simp; with_reducible rfl
  clear hD; intro hD
  simp only [Act.put, List.setIfInBounds_toArray, List.set_cons_zero, List.set_cons_succ]
  refine wpAnyK_takeS (i := 3) (v := ?v9_3b3) (fuel := 9) rfl (by kernel_rfl) (by kernel_rfl) (fun _ _ _ h => h) hD (Below.refl _ _) (.inl ⟨by kernel_rfl, ?y9_3b3⟩) ?n9_3b3
  case y9_3b3 => intro w' hS'; have e0 := cell_kept hS' (Nat.le_refl _) s2; have e1 := cell_kept hS' (Nat.le_refl _) s3; have e2 := cell_kept hS' (Nat.le_refl _) d1; go_simp; with_reducible rfl
  clear hD; intro hD
  simp only [Act.put, List.setIfInBounds_toArray, List.set_cons_zero, List.set_cons_succ]
  refine wpAnyK_pure (i := 4) (v := ?v9_4b3) (fuel := 8) rfl (by kernel_rfl) (fun _ _ _ h => h) hD (Below.refl _ _) (.inl ⟨by kernel_rfl, ?y9_4b3⟩) ?n9_4b3
  case y9_4b3 => intro w' _; go_simp; with_reducible rfl
  clear hD; intro hD
  simp only [Act.put, List.setIfInBounds_toArray, List.set_cons_zero, List.set_cons_succ]
  refine wpAnyK_takeS (i := 5) (v := ?v9_5b3) (fuel := 7) rfl (by kernel_rfl) (by kernel_rfl) (fun _ _ _ h => h) hD (Below.refl _ _) (.inl ⟨by kernel_rfl, ?y9_5b3⟩) ?n9_5b3
  case y9_5b3 => intro w' hS'; have e0 := cell_kept hS' (Nat.le_refl _) s2; have e1 := cell_kept hS' (Nat.le_refl _) s3; have e2 := cell_kept hS' (Nat.le_refl _) d1; go_simp; with_reducible rfl
  clear hD; intro hD
  simp only [Act.put, List.setIfInBounds_toArray, List.set_cons_zero, List.set_cons_succ]
  refine wpAnyK_takeS (i := 6) (v := (.tuple #[.agg #[], .bool (I h)])) (fuel := 6) rfl (by kernel_rfl) (by kernel_rfl) (fun _ _ _ h => h) hD (Below.refl _ _) (.inl ⟨by kernel_rfl, ?y9_6b3⟩) ?n9_6b3
  case y9_6b3 =>
    intro w' hS'
    have hl := (SetM.kept (w := w1.drew) (HS1.out.2.1.of_block rfl) hS' (Nat.le_refl _)).look hh
    go_simp
  clear hD; intro hD
  simp only [Act.put, List.setIfInBounds_toArray, List.set_cons_zero, List.set_cons_succ]
  refine wpAnyK_pure (i := 7) (v := ?v9_7b3) (fuel := 5) rfl (by kernel_rfl) (fun _ _ _ h => h) hD (Below.refl _ _) (.inl ⟨by kernel_rfl, ?y9_7b3⟩) ?n9_7b3
  case y9_7b3 => intro w' _; go_simp; with_reducible rfl
  clear hD; intro hD
  simp only [Act.put, List.setIfInBounds_toArray, List.set_cons_zero, List.set_cons_succ]
  refine wpAnyK_pure (i := 8) (v := ?v9_8b3) (fuel := 4) rfl (by kernel_rfl) (fun _ _ _ h => h) hD (Below.refl _ _) (.inl ⟨by kernel_rfl, ?y9_8b3⟩) ?n9_8b3
  case y9_8b3 => intro w' _; go_simp; with_reducible rfl
  clear hD; intro hD
  simp only [Act.put, List.setIfInBounds_toArray, List.set_cons_zero, List.set_cons_succ]
  refine wpAnyK_pure (i := 9) (v := ?v9_9b3) (fuel := 3) rfl (by kernel_rfl) (fun _ _ _ h => h) hD (Below.refl _ _) (.inl ⟨by kernel_rfl, ?y9_9b3⟩) ?n9_9b3
  case y9_9b3 => intro w' _; go_simp; with_reducible rfl
  clear hD; intro hD
  simp only [Act.put, List.setIfInBounds_toArray, List.set_cons_zero, List.set_cons_succ]
  refine wpAnyK_one (i := 10) (fuel := 2) (by kernel_rfl) rfl hD ?_
  clear hD; intro K10 hK10
  go_wp2
  refine hK10 _ _ (by exact (Below.refl _ _).alloc (Nat.le_refl _) _) ?_; clear hK10; intro hS_9_10 hD
  refine wpAnyK_one (i := 11) (fuel := 1) (by kernel_rfl) rfl hD ?_
  clear hD; intro K11 hK11
  go_wp2
  refine hK11 _ _ (by exact hS_9_10) ?_; clear hK11; intro hS_9_11 hD
  refine wpAnyK_one (i := 12) (fuel := 0) (by kernel_rfl) rfl hD ?_
  clear hD; intro K12 hK12
  go_wp2
  refine hK12 _ _ (by exact hS_9_11) ?_; clear hK12; intro hS_9_12 hD
  refine wpAnyK_done (by kernel_rfl) ?_ 0
  clear hD
  have HX := Lib.hid hS_9_12
  obtain ⟨w2, hw2⟩ : ∃ w2, (w1.alloc (.cells #[] 74)).drew = w2 := ⟨_, rfl⟩
  rw [hw2] at HX ⊢
  have e0 := cell_kept HX.out (Nat.le_refl _) d0
  have e1 := cell_kept HX.out (Nat.le_refl _) d1
  have e2 := cell_kept HX.out (Nat.le_refl _) d2
  have e3 := cell_kept HX.out (Nat.le_refl _) d3
  have HS2 := Lib.hid (StAt.kept (w := w1.drew) ⟨HS1.out.1, HS1.out.2.1.of_block rfl, HS1.out.2.2.1.of_block rfl, HS1.out.2.2.2⟩ HX.out (Nat.le_refl _))
  have HA2 := Lib.hid (HA1.out.drew.trans (HX.out.mono (by simp; omega)))
  have hz2 : w.heap.size + 1 ≤ w2.heap.size := Nat.le_trans hz1 HX.out.size
  clear d0 d1 d2 d3 s0 s1 s2 s3 hw2 HX
  have d0 := e0
  have d1 := e1
  have d2 := e2
  have d3 := e3
  clear e0 e1 e2 e3
  obtain ⟨s0, s1, s2, s3⟩ := four_cells HS2.out.1
  go_wp2
  refine wp_region_K 13 (Below (w2.drew).heap.size (w2.drew)) (by kernel_rfl) ?_
  intro hD
  refine wpAnyK_pure (i := 0) (v := ?v10_0b4) (fuel := 12) rfl (by kernel_rfl) (fun _ _ _ h => h) hD (Below.refl _ _) (.inl ⟨by kernel_rfl, ?y10_0b4⟩) ?n10_0b4
  case y10_0b4 => intro w' _; go_simp; with_reducible rfl
  clear hD; intro hD
  simp only [Act.put, List.setIfInBounds_toArray, List.set_cons_zero, List.set_cons_succ]
  refine wpAnyK_pure (i := 1) (v := ?v10_1b4) (fuel := 11) rfl (by kernel_rfl) (fun _ _ _ h => h) hD (Below.refl _ _) (.inl ⟨by kernel_rfl, ?y10_1b4⟩) ?n10_1b4
  case y10_1b4 => intro w' _; go_simp; with_reducible rfl
  clear hD; intro hD
  simp only [Act.put, List.setIfInBounds_toArray, List.set_cons_zero, List.set_cons_succ]
  refine wpAnyK_pure (i := 2) (v := ?v10_2b4) (fuel := 10) rfl (by kernel_rfl) (fun _ _ _ h => h) hD (Below.refl _ _) (.inl ⟨by kernel_rfl, ?y10_2b4⟩) ?n10_2b4
  case y10_2b4 => intro w' _; go_simp; with_reducible rfl
  clear hD; intro hD
  simp only [Act.put, List.setIfInBounds_toArray, List.set_cons_zero, List.set_cons_succ]
  refine wpAnyK_takeS (i := 3) (v := ?v10_3b4) (fuel := 9) rfl (by kernel_rfl) (by kernel_rfl) (fun _ _ _ h => h) hD (Below.refl _ _) (.inl ⟨by kernel_rfl, ?y10_3b4⟩) ?n10_3b4
  case y10_3b4 => intro w' hS'; have e0 := cell_kept hS' (Nat.le_refl _) s2; have e1 := cell_kept hS' (Nat.le_refl _) s3; have e2 := cell_kept hS' (Nat.le_refl _) d1; go_simp; with_reducible rfl
  clear hD; intro hD
  simp only [Act.put, List.setIfInBounds_toArray, List.set_cons_zero, List.set_cons_succ]
  refine wpAnyK_pure (i := 4) (v := ?v10_4b4) (fuel := 8) rfl (by kernel_rfl) (fun _ _ _ h => h) hD (Below.refl _ _) (.inl ⟨by kernel_rfl, ?y10_4b4⟩) ?n10_4b4
  case y10_4b4 => intro w' _; go_simp; with_reducible rfl
  clear hD; intro hD
  simp only [Act.put, List.setIfInBounds_toArray, List.set_cons_zero, List.set_cons_succ]
  refine wpAnyK_takeS (i := 5) (v := ?v10_5b4) (fuel := 7) rfl (by kernel_rfl) (by kernel_rfl) (fun _ _ _ h => h) hD (Below.refl _ _) (.inl ⟨by kernel_rfl, ?y10_5b4⟩) ?n10_5b4
  case y10_5b4 => intro w' hS'; have e0 := cell_kept hS' (Nat.le_refl _) s2; have e1 := cell_kept hS' (Nat.le_refl _) s3; have e2 := cell_kept hS' (Nat.le_refl _) d1; go_simp; with_reducible rfl
  clear hD; intro hD
  simp only [Act.put, List.setIfInBounds_toArray, List.set_cons_zero, List.set_cons_succ]
  refine wpAnyK_takeS (i := 6) (v := (.tuple #[.agg #[], .bool (R h)])) (fuel := 6) rfl (by kernel_rfl) (by kernel_rfl) (fun _ _ _ h => h) hD (Below.refl _ _) (.inl ⟨by kernel_rfl, ?y10_6b4⟩) ?n10_6b4
  case y10_6b4 =>
    intro w' hS'
    have hl := (SetM.kept (w := w2.drew) (HS2.out.2.2.1.of_block rfl) hS' (Nat.le_refl _)).look hh
    go_simp
  clear hD; intro hD
  simp only [Act.put, List.setIfInBounds_toArray, List.set_cons_zero, List.set_cons_succ]
  refine wpAnyK_pure (i := 7) (v := ?v10_7b4) (fuel := 5) rfl (by kernel_rfl) (fun _ _ _ h => h) hD (Below.refl _ _) (.inl ⟨by kernel_rfl, ?y10_7b4⟩) ?n10_7b4
  case y10_7b4 => intro w' _; go_simp; with_reducible rfl
  clear hD; intro hD
  simp only [Act.put, List.setIfInBounds_toArray, List.set_cons_zero, List.set_cons_succ]
  refine wpAnyK_pure (i := 8) (v := ?v10_8b4) (fuel := 4) rfl (by kernel_rfl) (fun _ _ _ h => h) hD (Below.refl _ _) (.inl ⟨by kernel_rfl, ?y10_8b4⟩) ?n10_8b4
  case y10_8b4 => intro w' _; go_simp; with_reducible rfl
  clear hD; intro hD
  simp only [Act.put, List.setIfInBounds_toArray, List.set_cons_zero, List.set_cons_succ]
  refine wpAnyK_pure (i := 9) (v := ?v10_9b4) (fuel := 3) rfl (by kernel_rfl) (fun _ _ _ h => h) hD (Below.refl _ _) (.inl ⟨by kernel_rfl, ?y10_9b4⟩) ?n10_9b4
  case y10_9b4 => intro w' _; go_simp; with_reducible rfl
  clear hD; intro hD
  simp only [Act.put, List.setIfInBounds_toArray, List.set_cons_zero, List.set_cons_succ]
  refine wpAnyK_one (i := 10) (fuel := 2) (by kernel_rfl) rfl hD ?_
  clear hD; intro K10 hK10
  go_wp2
  refine hK10 _ _ (by exact (Below.refl _ _).alloc (Nat.le_refl _) _) ?_; clear hK10; intro hS_10_10 hD
  refine wpAnyK_one (i := 11) (fuel := 1) (by kernel_rfl) rfl hD ?_
  clear hD; intro K11 hK11
  go_wp2
  refine hK11 _ _ (by exact hS_10_10) ?_; clear hK11; intro hS_10_11 hD
  refine wpAnyK_one (i := 12) (fuel := 0) (by kernel_rfl) rfl hD ?_
  clear hD; intro K12 hK12
  go_wp2
  refine hK12 _ _ (by exact hS_10_11) ?_; clear hK12; intro hS_10_12 hD
  refine wpAnyK_done (by kernel_rfl) ?_ 0
  clear hD
  have HX := Lib.hid hS_10_12
  obtain ⟨w3, hw2⟩ : ∃ w3, (w2.alloc (.cells #[] 74)).drew = w3 := ⟨_, rfl⟩
  rw [hw2] at HX ⊢
  have e0 := cell_kept HX.out (Nat.le_refl _) d0
  have e1 := cell_kept HX.out (Nat.le_refl _) d1
  have e2 := cell_kept HX.out (Nat.le_refl _) d2
  have e3 := cell_kept HX.out (Nat.le_refl _) d3
  have HS3 := Lib.hid (StAt.kept (w := w2.drew) ⟨HS2.out.1, HS2.out.2.1.of_block rfl, HS2.out.2.2.1.of_block rfl, HS2.out.2.2.2⟩ HX.out (Nat.le_refl _))
  have HA3 := Lib.hid (HA2.out.drew.trans (HX.out.mono (by simp; omega)))
  have hz3 : w.heap.size + 1 ≤ w3.heap.size := Nat.le_trans hz2 HX.out.size
  clear d0 d1 d2 d3 s0 s1 s2 s3 hw2 HX
  have d0 := e0
  have d1 := e1
  have d2 := e2
  have d3 := e3
  clear e0 e1 e2 e3
  obtain ⟨s0, s1, s2, s3⟩ := four_cells HS3.out.1
  go_wp2
  go_ret
  exact ⟨rfl, HA3.out⟩

set_option maxRecDepth 100000 in
set_option maxHeartbeats 4000000 in
theorem st_follows_1p (sb n m bi br : Nat) (I R : ByteArray → Bool) (q p : Int) (h s : ByteArray) (w : World) (hst : StAt w sb n m bi br I R) (hh : h.size ≤ maxLen) (hsc : s.size ≤ 9223372036854775807) (ms : ByteArray) (f : Int) (hm : msgS ⟨q, h, s, p⟩ = (ms, f)) (hf : f = 0) (hn : n < 4096) (hmm : m ≤ 4611686018427387903) (hq : (q == 2) = false) (hq0 : (q == 0) = false) (hq1 : (q == 1) = true) (hp : (p != (m : Int)) = true) : Calls Try.prog 38 #[.pointer (some ⟨sb, 0, none⟩), .agg #[.int .i64 q, .string h, .string s, .int .i64 p]] w (Ret (.int .i64 21) w) := by
  subst hf
  have HM := Lib.hid hm
  clear hm
  obtain ⟨W0, hW0⟩ : ∃ W0, w.alloc (.cells #[.int .i64 q, .string h, .string s, .int .i64 p] 24) = W0 := ⟨_, rfl⟩
  have hbox : W0.heap[w.heap.size]? = some (.cells #[.int .i64 q, .string h, .string s, .int .i64 p] 24 (0, 0)) := by rw [← hW0]; exact heap_alloc_new _ _
  have hb0 : Below w.heap.size w W0 := by rw [← hW0]; exact (Below.refl _ _).alloc (Nat.le_refl _) _
  have hz : w.heap.size + 1 ≤ W0.heap.size := block_lt hbox
  obtain ⟨b0, b1, b2, b3⟩ := four_cells hbox
  have HW0 := Lib.hid hW0
  have HA0 := Lib.hid hb0
  have HS0 := Lib.hid (hst.kept hb0 (Nat.le_refl _))
  clear hW0 hbox hb0 hst
  go_enter Try.func38, Try.ntmps38
  go_wp2_with fail
  rw [HW0.out]
  refine (led_Message ⟨q, h, s, p⟩ _ (by unfold maxLen at hh; omega) hsc).mono ?_
  rintro e w1 ⟨rfl, hb1⟩
  have d0 := cell_kept hb1 (Nat.le_refl _) b0
  have d1 := cell_kept hb1 (Nat.le_refl _) b1
  have d2 := cell_kept hb1 (Nat.le_refl _) b2
  have d3 := cell_kept hb1 (Nat.le_refl _) b3
  have hz1 : w.heap.size + 1 ≤ w1.heap.size := Nat.le_trans hz hb1.size
  have HA1 := Lib.hid (HA0.out.trans (hb1.mono (by omega)))
  have hst1 := HS0.out.kept hb1 (Nat.le_refl _)
  obtain ⟨s0, s1, s2, s3⟩ := four_cells hst1.1
  have HS1 := Lib.hid hst1
  rw [HM.out]
  clear b0 b1 b2 b3 HA0 HS0 HW0 hb1 hz hst1
  go_wp2
  refine wp_region_K 13 (Below (w1.drew).heap.size (w1.drew)) (by kernel_rfl) ?_
  intro hD
  refine wpAnyK_pure (i := 0) (v := ?v9_0b5) (fuel := 12) rfl (by kernel_rfl) (fun _ _ _ h => h) hD (Below.refl _ _) (.inl ⟨by kernel_rfl, ?y9_0b5⟩) ?n9_0b5
  case y9_0b5 => intro w' _; go_simp; with_reducible rfl
  clear hD; intro hD
  simp only [Act.put, List.setIfInBounds_toArray, List.set_cons_zero, List.set_cons_succ]
  refine wpAnyK_pure (i := 1) (v := ?v9_1b5) (fuel := 11) rfl (by kernel_rfl) (fun _ _ _ h => h) hD (Below.refl _ _) (.inl ⟨by kernel_rfl, ?y9_1b5⟩) ?n9_1b5
  case y9_1b5 => intro w' _; go_simp; with_reducible rfl
  clear hD; intro hD
  simp only [Act.put, List.setIfInBounds_toArray, List.set_cons_zero, List.set_cons_succ]
  refine wpAnyK_pure (i := 2) (v := ?v9_2b5) (fuel := 10) rfl (by kernel_rfl) (fun _ _ _ h => h) hD (Below.refl _ _) (.inl ⟨by kernel_rfl, ?y9_2b5⟩) ?n9_2b5
  case y9_2b5 => intro w' _; go_simp; with_reducible rfl
  clear hD; intro hD
  simp only [Act.put, List.setIfInBounds_toArray, List.set_cons_zero, List.set_cons_succ]
  refine wpAnyK_takeS (i := 3) (v := ?v9_3b5) (fuel := 9) rfl (by kernel_rfl) (by kernel_rfl) (fun _ _ _ h => h) hD (Below.refl _ _) (.inl ⟨by kernel_rfl, ?y9_3b5⟩) ?n9_3b5
  case y9_3b5 => intro w' hS'; have e0 := cell_kept hS' (Nat.le_refl _) s2; have e1 := cell_kept hS' (Nat.le_refl _) s3; have e2 := cell_kept hS' (Nat.le_refl _) d1; go_simp; with_reducible rfl
  clear hD; intro hD
  simp only [Act.put, List.setIfInBounds_toArray, List.set_cons_zero, List.set_cons_succ]
  refine wpAnyK_pure (i := 4) (v := ?v9_4b5) (fuel := 8) rfl (by kernel_rfl) (fun _ _ _ h => h) hD (Below.refl _ _) (.inl ⟨by kernel_rfl, ?y9_4b5⟩) ?n9_4b5
  case y9_4b5 => intro w' _; go_simp; with_reducible rfl
  clear hD; intro hD
  simp only [Act.put, List.setIfInBounds_toArray, List.set_cons_zero, List.set_cons_succ]
  refine wpAnyK_takeS (i := 5) (v := ?v9_5b5) (fuel := 7) rfl (by kernel_rfl) (by kernel_rfl) (fun _ _ _ h => h) hD (Below.refl _ _) (.inl ⟨by kernel_rfl, ?y9_5b5⟩) ?n9_5b5
  case y9_5b5 => intro w' hS'; have e0 := cell_kept hS' (Nat.le_refl _) s2; have e1 := cell_kept hS' (Nat.le_refl _) s3; have e2 := cell_kept hS' (Nat.le_refl _) d1; go_simp; with_reducible rfl
  clear hD; intro hD
  simp only [Act.put, List.setIfInBounds_toArray, List.set_cons_zero, List.set_cons_succ]
  refine wpAnyK_takeS (i := 6) (v := (.tuple #[.agg #[], .bool (I h)])) (fuel := 6) rfl (by kernel_rfl) (by kernel_rfl) (fun _ _ _ h => h) hD (Below.refl _ _) (.inl ⟨by kernel_rfl, ?y9_6b5⟩) ?n9_6b5
  case y9_6b5 =>
    intro w' hS'
    have hl := (SetM.kept (w := w1.drew) (HS1.out.2.1.of_block rfl) hS' (Nat.le_refl _)).look hh
    go_simp
  clear hD; intro hD
  simp only [Act.put, List.setIfInBounds_toArray, List.set_cons_zero, List.set_cons_succ]
  refine wpAnyK_pure (i := 7) (v := ?v9_7b5) (fuel := 5) rfl (by kernel_rfl) (fun _ _ _ h => h) hD (Below.refl _ _) (.inl ⟨by kernel_rfl, ?y9_7b5⟩) ?n9_7b5
  case y9_7b5 => intro w' _; go_simp; with_reducible rfl
  clear hD; intro hD
  simp only [Act.put, List.setIfInBounds_toArray, List.set_cons_zero, List.set_cons_succ]
  refine wpAnyK_pure (i := 8) (v := ?v9_8b5) (fuel := 4) rfl (by kernel_rfl) (fun _ _ _ h => h) hD (Below.refl _ _) (.inl ⟨by kernel_rfl, ?y9_8b5⟩) ?n9_8b5
  case y9_8b5 => intro w' _; go_simp; with_reducible rfl
  clear hD; intro hD
  simp only [Act.put, List.setIfInBounds_toArray, List.set_cons_zero, List.set_cons_succ]
  refine wpAnyK_pure (i := 9) (v := ?v9_9b5) (fuel := 3) rfl (by kernel_rfl) (fun _ _ _ h => h) hD (Below.refl _ _) (.inl ⟨by kernel_rfl, ?y9_9b5⟩) ?n9_9b5
  case y9_9b5 => intro w' _; go_simp; with_reducible rfl
  clear hD; intro hD
  simp only [Act.put, List.setIfInBounds_toArray, List.set_cons_zero, List.set_cons_succ]
  refine wpAnyK_one (i := 10) (fuel := 2) (by kernel_rfl) rfl hD ?_
  clear hD; intro K10 hK10
  go_wp2
  refine hK10 _ _ (by exact (Below.refl _ _).alloc (Nat.le_refl _) _) ?_; clear hK10; intro hS_9_10 hD
  refine wpAnyK_one (i := 11) (fuel := 1) (by kernel_rfl) rfl hD ?_
  clear hD; intro K11 hK11
  go_wp2
  refine hK11 _ _ (by exact hS_9_10) ?_; clear hK11; intro hS_9_11 hD
  refine wpAnyK_one (i := 12) (fuel := 0) (by kernel_rfl) rfl hD ?_
  clear hD; intro K12 hK12
  go_wp2
  refine hK12 _ _ (by exact hS_9_11) ?_; clear hK12; intro hS_9_12 hD
  refine wpAnyK_done (by kernel_rfl) ?_ 0
  clear hD
  have HX := Lib.hid hS_9_12
  obtain ⟨w2, hw2⟩ : ∃ w2, (w1.alloc (.cells #[] 74)).drew = w2 := ⟨_, rfl⟩
  rw [hw2] at HX ⊢
  have e0 := cell_kept HX.out (Nat.le_refl _) d0
  have e1 := cell_kept HX.out (Nat.le_refl _) d1
  have e2 := cell_kept HX.out (Nat.le_refl _) d2
  have e3 := cell_kept HX.out (Nat.le_refl _) d3
  have HS2 := Lib.hid (StAt.kept (w := w1.drew) ⟨HS1.out.1, HS1.out.2.1.of_block rfl, HS1.out.2.2.1.of_block rfl, HS1.out.2.2.2⟩ HX.out (Nat.le_refl _))
  have HA2 := Lib.hid (HA1.out.drew.trans (HX.out.mono (by simp; omega)))
  have hz2 : w.heap.size + 1 ≤ w2.heap.size := Nat.le_trans hz1 HX.out.size
  clear d0 d1 d2 d3 s0 s1 s2 s3 hw2 HX
  have d0 := e0
  have d1 := e1
  have d2 := e2
  have d3 := e3
  clear e0 e1 e2 e3
  obtain ⟨s0, s1, s2, s3⟩ := four_cells HS2.out.1
  go_wp2
  refine wp_region_K 13 (Below (w2.drew).heap.size (w2.drew)) (by kernel_rfl) ?_
  intro hD
  refine wpAnyK_pure (i := 0) (v := ?v10_0b6) (fuel := 12) rfl (by kernel_rfl) (fun _ _ _ h => h) hD (Below.refl _ _) (.inl ⟨by kernel_rfl, ?y10_0b6⟩) ?n10_0b6
  case y10_0b6 => intro w' _; go_simp; with_reducible rfl
  clear hD; intro hD
  simp only [Act.put, List.setIfInBounds_toArray, List.set_cons_zero, List.set_cons_succ]
  refine wpAnyK_pure (i := 1) (v := ?v10_1b6) (fuel := 11) rfl (by kernel_rfl) (fun _ _ _ h => h) hD (Below.refl _ _) (.inl ⟨by kernel_rfl, ?y10_1b6⟩) ?n10_1b6
  case y10_1b6 => intro w' _; go_simp; with_reducible rfl
  clear hD; intro hD
  simp only [Act.put, List.setIfInBounds_toArray, List.set_cons_zero, List.set_cons_succ]
  refine wpAnyK_pure (i := 2) (v := ?v10_2b6) (fuel := 10) rfl (by kernel_rfl) (fun _ _ _ h => h) hD (Below.refl _ _) (.inl ⟨by kernel_rfl, ?y10_2b6⟩) ?n10_2b6
  case y10_2b6 => intro w' _; go_simp; with_reducible rfl
  clear hD; intro hD
  simp only [Act.put, List.setIfInBounds_toArray, List.set_cons_zero, List.set_cons_succ]
  refine wpAnyK_takeS (i := 3) (v := ?v10_3b6) (fuel := 9) rfl (by kernel_rfl) (by kernel_rfl) (fun _ _ _ h => h) hD (Below.refl _ _) (.inl ⟨by kernel_rfl, ?y10_3b6⟩) ?n10_3b6
  case y10_3b6 => intro w' hS'; have e0 := cell_kept hS' (Nat.le_refl _) s2; have e1 := cell_kept hS' (Nat.le_refl _) s3; have e2 := cell_kept hS' (Nat.le_refl _) d1; go_simp; with_reducible rfl
  clear hD; intro hD
  simp only [Act.put, List.setIfInBounds_toArray, List.set_cons_zero, List.set_cons_succ]
  refine wpAnyK_pure (i := 4) (v := ?v10_4b6) (fuel := 8) rfl (by kernel_rfl) (fun _ _ _ h => h) hD (Below.refl _ _) (.inl ⟨by kernel_rfl, ?y10_4b6⟩) ?n10_4b6
  case y10_4b6 => intro w' _; go_simp; with_reducible rfl
  clear hD; intro hD
  simp only [Act.put, List.setIfInBounds_toArray, List.set_cons_zero, List.set_cons_succ]
  refine wpAnyK_takeS (i := 5) (v := ?v10_5b6) (fuel := 7) rfl (by kernel_rfl) (by kernel_rfl) (fun _ _ _ h => h) hD (Below.refl _ _) (.inl ⟨by kernel_rfl, ?y10_5b6⟩) ?n10_5b6
  case y10_5b6 => intro w' hS'; have e0 := cell_kept hS' (Nat.le_refl _) s2; have e1 := cell_kept hS' (Nat.le_refl _) s3; have e2 := cell_kept hS' (Nat.le_refl _) d1; go_simp; with_reducible rfl
  clear hD; intro hD
  simp only [Act.put, List.setIfInBounds_toArray, List.set_cons_zero, List.set_cons_succ]
  refine wpAnyK_takeS (i := 6) (v := (.tuple #[.agg #[], .bool (R h)])) (fuel := 6) rfl (by kernel_rfl) (by kernel_rfl) (fun _ _ _ h => h) hD (Below.refl _ _) (.inl ⟨by kernel_rfl, ?y10_6b6⟩) ?n10_6b6
  case y10_6b6 =>
    intro w' hS'
    have hl := (SetM.kept (w := w2.drew) (HS2.out.2.2.1.of_block rfl) hS' (Nat.le_refl _)).look hh
    go_simp
  clear hD; intro hD
  simp only [Act.put, List.setIfInBounds_toArray, List.set_cons_zero, List.set_cons_succ]
  refine wpAnyK_pure (i := 7) (v := ?v10_7b6) (fuel := 5) rfl (by kernel_rfl) (fun _ _ _ h => h) hD (Below.refl _ _) (.inl ⟨by kernel_rfl, ?y10_7b6⟩) ?n10_7b6
  case y10_7b6 => intro w' _; go_simp; with_reducible rfl
  clear hD; intro hD
  simp only [Act.put, List.setIfInBounds_toArray, List.set_cons_zero, List.set_cons_succ]
  refine wpAnyK_pure (i := 8) (v := ?v10_8b6) (fuel := 4) rfl (by kernel_rfl) (fun _ _ _ h => h) hD (Below.refl _ _) (.inl ⟨by kernel_rfl, ?y10_8b6⟩) ?n10_8b6
  case y10_8b6 => intro w' _; go_simp; with_reducible rfl
  clear hD; intro hD
  simp only [Act.put, List.setIfInBounds_toArray, List.set_cons_zero, List.set_cons_succ]
  refine wpAnyK_pure (i := 9) (v := ?v10_9b6) (fuel := 3) rfl (by kernel_rfl) (fun _ _ _ h => h) hD (Below.refl _ _) (.inl ⟨by kernel_rfl, ?y10_9b6⟩) ?n10_9b6
  case y10_9b6 => intro w' _; go_simp; with_reducible rfl
  clear hD; intro hD
  simp only [Act.put, List.setIfInBounds_toArray, List.set_cons_zero, List.set_cons_succ]
  refine wpAnyK_one (i := 10) (fuel := 2) (by kernel_rfl) rfl hD ?_
  clear hD; intro K10 hK10
  go_wp2
  refine hK10 _ _ (by exact (Below.refl _ _).alloc (Nat.le_refl _) _) ?_; clear hK10; intro hS_10_10 hD
  refine wpAnyK_one (i := 11) (fuel := 1) (by kernel_rfl) rfl hD ?_
  clear hD; intro K11 hK11
  go_wp2
  refine hK11 _ _ (by exact hS_10_10) ?_; clear hK11; intro hS_10_11 hD
  refine wpAnyK_one (i := 12) (fuel := 0) (by kernel_rfl) rfl hD ?_
  clear hD; intro K12 hK12
  go_wp2
  refine hK12 _ _ (by exact hS_10_11) ?_; clear hK12; intro hS_10_12 hD
  refine wpAnyK_done (by kernel_rfl) ?_ 0
  clear hD
  have HX := Lib.hid hS_10_12
  obtain ⟨w3, hw2⟩ : ∃ w3, (w2.alloc (.cells #[] 74)).drew = w3 := ⟨_, rfl⟩
  rw [hw2] at HX ⊢
  have e0 := cell_kept HX.out (Nat.le_refl _) d0
  have e1 := cell_kept HX.out (Nat.le_refl _) d1
  have e2 := cell_kept HX.out (Nat.le_refl _) d2
  have e3 := cell_kept HX.out (Nat.le_refl _) d3
  have HS3 := Lib.hid (StAt.kept (w := w2.drew) ⟨HS2.out.1, HS2.out.2.1.of_block rfl, HS2.out.2.2.1.of_block rfl, HS2.out.2.2.2⟩ HX.out (Nat.le_refl _))
  have HA3 := Lib.hid (HA2.out.drew.trans (HX.out.mono (by simp; omega)))
  have hz3 : w.heap.size + 1 ≤ w3.heap.size := Nat.le_trans hz2 HX.out.size
  clear d0 d1 d2 d3 s0 s1 s2 s3 hw2 HX
  have d0 := e0
  have d1 := e1
  have d2 := e2
  have d3 := e3
  clear e0 e1 e2 e3
  obtain ⟨s0, s1, s2, s3⟩ := four_cells HS3.out.1
  go_wp2
  go_ret
  exact ⟨rfl, HA3.out⟩

set_option maxRecDepth 100000 in
set_option maxHeartbeats 4000000 in
theorem st_follows_2ok (sb n m bi br : Nat) (I R : ByteArray → Bool) (q p : Int) (h s : ByteArray) (w : World) (hst : StAt w sb n m bi br I R) (hh : h.size ≤ maxLen) (hsc : s.size ≤ 9223372036854775807) (ms : ByteArray) (f : Int) (hm : msgS ⟨q, h, s, p⟩ = (ms, f)) (hf : f = 0) (hn : n < 4096) (hmm : m ≤ 4611686018427387903) (hq : (q == 2) = true) (hq0 : (q == 0) = false) (hq1 : (q == 1) = false) (hp : (p != (m : Int) + 1) = false) : Calls Try.prog 38 #[.pointer (some ⟨sb, 0, none⟩), .agg #[.int .i64 q, .string h, .string s, .int .i64 p]] w (Ret (.int .i64 0) w) := by
  subst hf
  have HM := Lib.hid hm
  clear hm
  obtain ⟨W0, hW0⟩ : ∃ W0, w.alloc (.cells #[.int .i64 q, .string h, .string s, .int .i64 p] 24) = W0 := ⟨_, rfl⟩
  have hbox : W0.heap[w.heap.size]? = some (.cells #[.int .i64 q, .string h, .string s, .int .i64 p] 24 (0, 0)) := by rw [← hW0]; exact heap_alloc_new _ _
  have hb0 : Below w.heap.size w W0 := by rw [← hW0]; exact (Below.refl _ _).alloc (Nat.le_refl _) _
  have hz : w.heap.size + 1 ≤ W0.heap.size := block_lt hbox
  obtain ⟨b0, b1, b2, b3⟩ := four_cells hbox
  have HW0 := Lib.hid hW0
  have HA0 := Lib.hid hb0
  have HS0 := Lib.hid (hst.kept hb0 (Nat.le_refl _))
  clear hW0 hbox hb0 hst
  go_enter Try.func38, Try.ntmps38
  go_wp2_with fail
  rw [HW0.out]
  refine (led_Message ⟨q, h, s, p⟩ _ (by unfold maxLen at hh; omega) hsc).mono ?_
  rintro e w1 ⟨rfl, hb1⟩
  have d0 := cell_kept hb1 (Nat.le_refl _) b0
  have d1 := cell_kept hb1 (Nat.le_refl _) b1
  have d2 := cell_kept hb1 (Nat.le_refl _) b2
  have d3 := cell_kept hb1 (Nat.le_refl _) b3
  have hz1 : w.heap.size + 1 ≤ w1.heap.size := Nat.le_trans hz hb1.size
  have HA1 := Lib.hid (HA0.out.trans (hb1.mono (by omega)))
  have hst1 := HS0.out.kept hb1 (Nat.le_refl _)
  obtain ⟨s0, s1, s2, s3⟩ := four_cells hst1.1
  have HS1 := Lib.hid hst1
  rw [HM.out]
  clear b0 b1 b2 b3 HA0 HS0 HW0 hb1 hz hst1
  go_wp2
  refine wp_region_K 13 (Below (w1.drew).heap.size (w1.drew)) (by kernel_rfl) ?_
  intro hD
  refine wpAnyK_pure (i := 0) (v := ?v9_0b7) (fuel := 12) rfl (by kernel_rfl) (fun _ _ _ h => h) hD (Below.refl _ _) (.inl ⟨by kernel_rfl, ?y9_0b7⟩) ?n9_0b7
  case y9_0b7 => intro w' _; go_simp; with_reducible rfl
  clear hD; intro hD
  simp only [Act.put, List.setIfInBounds_toArray, List.set_cons_zero, List.set_cons_succ]
  refine wpAnyK_pure (i := 1) (v := ?v9_1b7) (fuel := 11) rfl (by kernel_rfl) (fun _ _ _ h => h) hD (Below.refl _ _) (.inl ⟨by kernel_rfl, ?y9_1b7⟩) ?n9_1b7
  case y9_1b7 => intro w' _; go_simp; with_reducible rfl
  clear hD; intro hD
  simp only [Act.put, List.setIfInBounds_toArray, List.set_cons_zero, List.set_cons_succ]
  refine wpAnyK_pure (i := 2) (v := ?v9_2b7) (fuel := 10) rfl (by kernel_rfl) (fun _ _ _ h => h) hD (Below.refl _ _) (.inl ⟨by kernel_rfl, ?y9_2b7⟩) ?n9_2b7
  case y9_2b7 => intro w' _; go_simp; with_reducible rfl
  clear hD; intro hD
  simp only [Act.put, List.setIfInBounds_toArray, List.set_cons_zero, List.set_cons_succ]
  refine wpAnyK_takeS (i := 3) (v := ?v9_3b7) (fuel := 9) rfl (by kernel_rfl) (by kernel_rfl) (fun _ _ _ h => h) hD (Below.refl _ _) (.inl ⟨by kernel_rfl, ?y9_3b7⟩) ?n9_3b7
  case y9_3b7 => intro w' hS'; have e0 := cell_kept hS' (Nat.le_refl _) s2; have e1 := cell_kept hS' (Nat.le_refl _) s3; have e2 := cell_kept hS' (Nat.le_refl _) d1; go_simp; with_reducible rfl
  clear hD; intro hD
  simp only [Act.put, List.setIfInBounds_toArray, List.set_cons_zero, List.set_cons_succ]
  refine wpAnyK_pure (i := 4) (v := ?v9_4b7) (fuel := 8) rfl (by kernel_rfl) (fun _ _ _ h => h) hD (Below.refl _ _) (.inl ⟨by kernel_rfl, ?y9_4b7⟩) ?n9_4b7
  case y9_4b7 => intro w' _; go_simp; with_reducible rfl
  clear hD; intro hD
  simp only [Act.put, List.setIfInBounds_toArray, List.set_cons_zero, List.set_cons_succ]
  refine wpAnyK_takeS (i := 5) (v := ?v9_5b7) (fuel := 7) rfl (by kernel_rfl) (by kernel_rfl) (fun _ _ _ h => h) hD (Below.refl _ _) (.inl ⟨by kernel_rfl, ?y9_5b7⟩) ?n9_5b7
  case y9_5b7 => intro w' hS'; have e0 := cell_kept hS' (Nat.le_refl _) s2; have e1 := cell_kept hS' (Nat.le_refl _) s3; have e2 := cell_kept hS' (Nat.le_refl _) d1; go_simp; with_reducible rfl
  clear hD; intro hD
  simp only [Act.put, List.setIfInBounds_toArray, List.set_cons_zero, List.set_cons_succ]
  refine wpAnyK_takeS (i := 6) (v := (.tuple #[.agg #[], .bool (I h)])) (fuel := 6) rfl (by kernel_rfl) (by kernel_rfl) (fun _ _ _ h => h) hD (Below.refl _ _) (.inl ⟨by kernel_rfl, ?y9_6b7⟩) ?n9_6b7
  case y9_6b7 =>
    intro w' hS'
    have hl := (SetM.kept (w := w1.drew) (HS1.out.2.1.of_block rfl) hS' (Nat.le_refl _)).look hh
    go_simp
  clear hD; intro hD
  simp only [Act.put, List.setIfInBounds_toArray, List.set_cons_zero, List.set_cons_succ]
  refine wpAnyK_pure (i := 7) (v := ?v9_7b7) (fuel := 5) rfl (by kernel_rfl) (fun _ _ _ h => h) hD (Below.refl _ _) (.inl ⟨by kernel_rfl, ?y9_7b7⟩) ?n9_7b7
  case y9_7b7 => intro w' _; go_simp; with_reducible rfl
  clear hD; intro hD
  simp only [Act.put, List.setIfInBounds_toArray, List.set_cons_zero, List.set_cons_succ]
  refine wpAnyK_pure (i := 8) (v := ?v9_8b7) (fuel := 4) rfl (by kernel_rfl) (fun _ _ _ h => h) hD (Below.refl _ _) (.inl ⟨by kernel_rfl, ?y9_8b7⟩) ?n9_8b7
  case y9_8b7 => intro w' _; go_simp; with_reducible rfl
  clear hD; intro hD
  simp only [Act.put, List.setIfInBounds_toArray, List.set_cons_zero, List.set_cons_succ]
  refine wpAnyK_pure (i := 9) (v := ?v9_9b7) (fuel := 3) rfl (by kernel_rfl) (fun _ _ _ h => h) hD (Below.refl _ _) (.inl ⟨by kernel_rfl, ?y9_9b7⟩) ?n9_9b7
  case y9_9b7 => intro w' _; go_simp; with_reducible rfl
  clear hD; intro hD
  simp only [Act.put, List.setIfInBounds_toArray, List.set_cons_zero, List.set_cons_succ]
  refine wpAnyK_one (i := 10) (fuel := 2) (by kernel_rfl) rfl hD ?_
  clear hD; intro K10 hK10
  go_wp2
  refine hK10 _ _ (by exact (Below.refl _ _).alloc (Nat.le_refl _) _) ?_; clear hK10; intro hS_9_10 hD
  refine wpAnyK_one (i := 11) (fuel := 1) (by kernel_rfl) rfl hD ?_
  clear hD; intro K11 hK11
  go_wp2
  refine hK11 _ _ (by exact hS_9_10) ?_; clear hK11; intro hS_9_11 hD
  refine wpAnyK_one (i := 12) (fuel := 0) (by kernel_rfl) rfl hD ?_
  clear hD; intro K12 hK12
  go_wp2
  refine hK12 _ _ (by exact hS_9_11) ?_; clear hK12; intro hS_9_12 hD
  refine wpAnyK_done (by kernel_rfl) ?_ 0
  clear hD
  have HX := Lib.hid hS_9_12
  obtain ⟨w2, hw2⟩ : ∃ w2, (w1.alloc (.cells #[] 74)).drew = w2 := ⟨_, rfl⟩
  rw [hw2] at HX ⊢
  have e0 := cell_kept HX.out (Nat.le_refl _) d0
  have e1 := cell_kept HX.out (Nat.le_refl _) d1
  have e2 := cell_kept HX.out (Nat.le_refl _) d2
  have e3 := cell_kept HX.out (Nat.le_refl _) d3
  have HS2 := Lib.hid (StAt.kept (w := w1.drew) ⟨HS1.out.1, HS1.out.2.1.of_block rfl, HS1.out.2.2.1.of_block rfl, HS1.out.2.2.2⟩ HX.out (Nat.le_refl _))
  have HA2 := Lib.hid (HA1.out.drew.trans (HX.out.mono (by simp; omega)))
  have hz2 : w.heap.size + 1 ≤ w2.heap.size := Nat.le_trans hz1 HX.out.size
  clear d0 d1 d2 d3 s0 s1 s2 s3 hw2 HX
  have d0 := e0
  have d1 := e1
  have d2 := e2
  have d3 := e3
  clear e0 e1 e2 e3
  obtain ⟨s0, s1, s2, s3⟩ := four_cells HS2.out.1
  go_wp2
  refine wp_region_K 13 (Below (w2.drew).heap.size (w2.drew)) (by kernel_rfl) ?_
  intro hD
  refine wpAnyK_pure (i := 0) (v := ?v10_0b8) (fuel := 12) rfl (by kernel_rfl) (fun _ _ _ h => h) hD (Below.refl _ _) (.inl ⟨by kernel_rfl, ?y10_0b8⟩) ?n10_0b8
  case y10_0b8 => intro w' _; go_simp; with_reducible rfl
  clear hD; intro hD
  simp only [Act.put, List.setIfInBounds_toArray, List.set_cons_zero, List.set_cons_succ]
  refine wpAnyK_pure (i := 1) (v := ?v10_1b8) (fuel := 11) rfl (by kernel_rfl) (fun _ _ _ h => h) hD (Below.refl _ _) (.inl ⟨by kernel_rfl, ?y10_1b8⟩) ?n10_1b8
  case y10_1b8 => intro w' _; go_simp; with_reducible rfl
  clear hD; intro hD
  simp only [Act.put, List.setIfInBounds_toArray, List.set_cons_zero, List.set_cons_succ]
  refine wpAnyK_pure (i := 2) (v := ?v10_2b8) (fuel := 10) rfl (by kernel_rfl) (fun _ _ _ h => h) hD (Below.refl _ _) (.inl ⟨by kernel_rfl, ?y10_2b8⟩) ?n10_2b8
  case y10_2b8 => intro w' _; go_simp; with_reducible rfl
  clear hD; intro hD
  simp only [Act.put, List.setIfInBounds_toArray, List.set_cons_zero, List.set_cons_succ]
  refine wpAnyK_takeS (i := 3) (v := ?v10_3b8) (fuel := 9) rfl (by kernel_rfl) (by kernel_rfl) (fun _ _ _ h => h) hD (Below.refl _ _) (.inl ⟨by kernel_rfl, ?y10_3b8⟩) ?n10_3b8
  case y10_3b8 => intro w' hS'; have e0 := cell_kept hS' (Nat.le_refl _) s2; have e1 := cell_kept hS' (Nat.le_refl _) s3; have e2 := cell_kept hS' (Nat.le_refl _) d1; go_simp; with_reducible rfl
  clear hD; intro hD
  simp only [Act.put, List.setIfInBounds_toArray, List.set_cons_zero, List.set_cons_succ]
  refine wpAnyK_pure (i := 4) (v := ?v10_4b8) (fuel := 8) rfl (by kernel_rfl) (fun _ _ _ h => h) hD (Below.refl _ _) (.inl ⟨by kernel_rfl, ?y10_4b8⟩) ?n10_4b8
  case y10_4b8 => intro w' _; go_simp; with_reducible rfl
  clear hD; intro hD
  simp only [Act.put, List.setIfInBounds_toArray, List.set_cons_zero, List.set_cons_succ]
  refine wpAnyK_takeS (i := 5) (v := ?v10_5b8) (fuel := 7) rfl (by kernel_rfl) (by kernel_rfl) (fun _ _ _ h => h) hD (Below.refl _ _) (.inl ⟨by kernel_rfl, ?y10_5b8⟩) ?n10_5b8
  case y10_5b8 => intro w' hS'; have e0 := cell_kept hS' (Nat.le_refl _) s2; have e1 := cell_kept hS' (Nat.le_refl _) s3; have e2 := cell_kept hS' (Nat.le_refl _) d1; go_simp; with_reducible rfl
  clear hD; intro hD
  simp only [Act.put, List.setIfInBounds_toArray, List.set_cons_zero, List.set_cons_succ]
  refine wpAnyK_takeS (i := 6) (v := (.tuple #[.agg #[], .bool (R h)])) (fuel := 6) rfl (by kernel_rfl) (by kernel_rfl) (fun _ _ _ h => h) hD (Below.refl _ _) (.inl ⟨by kernel_rfl, ?y10_6b8⟩) ?n10_6b8
  case y10_6b8 =>
    intro w' hS'
    have hl := (SetM.kept (w := w2.drew) (HS2.out.2.2.1.of_block rfl) hS' (Nat.le_refl _)).look hh
    go_simp
  clear hD; intro hD
  simp only [Act.put, List.setIfInBounds_toArray, List.set_cons_zero, List.set_cons_succ]
  refine wpAnyK_pure (i := 7) (v := ?v10_7b8) (fuel := 5) rfl (by kernel_rfl) (fun _ _ _ h => h) hD (Below.refl _ _) (.inl ⟨by kernel_rfl, ?y10_7b8⟩) ?n10_7b8
  case y10_7b8 => intro w' _; go_simp; with_reducible rfl
  clear hD; intro hD
  simp only [Act.put, List.setIfInBounds_toArray, List.set_cons_zero, List.set_cons_succ]
  refine wpAnyK_pure (i := 8) (v := ?v10_8b8) (fuel := 4) rfl (by kernel_rfl) (fun _ _ _ h => h) hD (Below.refl _ _) (.inl ⟨by kernel_rfl, ?y10_8b8⟩) ?n10_8b8
  case y10_8b8 => intro w' _; go_simp; with_reducible rfl
  clear hD; intro hD
  simp only [Act.put, List.setIfInBounds_toArray, List.set_cons_zero, List.set_cons_succ]
  refine wpAnyK_pure (i := 9) (v := ?v10_9b8) (fuel := 3) rfl (by kernel_rfl) (fun _ _ _ h => h) hD (Below.refl _ _) (.inl ⟨by kernel_rfl, ?y10_9b8⟩) ?n10_9b8
  case y10_9b8 => intro w' _; go_simp; with_reducible rfl
  clear hD; intro hD
  simp only [Act.put, List.setIfInBounds_toArray, List.set_cons_zero, List.set_cons_succ]
  refine wpAnyK_one (i := 10) (fuel := 2) (by kernel_rfl) rfl hD ?_
  clear hD; intro K10 hK10
  go_wp2
  refine hK10 _ _ (by exact (Below.refl _ _).alloc (Nat.le_refl _) _) ?_; clear hK10; intro hS_10_10 hD
  refine wpAnyK_one (i := 11) (fuel := 1) (by kernel_rfl) rfl hD ?_
  clear hD; intro K11 hK11
  go_wp2
  refine hK11 _ _ (by exact hS_10_10) ?_; clear hK11; intro hS_10_11 hD
  refine wpAnyK_one (i := 12) (fuel := 0) (by kernel_rfl) rfl hD ?_
  clear hD; intro K12 hK12
  go_wp2
  refine hK12 _ _ (by exact hS_10_11) ?_; clear hK12; intro hS_10_12 hD
  refine wpAnyK_done (by kernel_rfl) ?_ 0
  clear hD
  have HX := Lib.hid hS_10_12
  obtain ⟨w3, hw2⟩ : ∃ w3, (w2.alloc (.cells #[] 74)).drew = w3 := ⟨_, rfl⟩
  rw [hw2] at HX ⊢
  have e0 := cell_kept HX.out (Nat.le_refl _) d0
  have e1 := cell_kept HX.out (Nat.le_refl _) d1
  have e2 := cell_kept HX.out (Nat.le_refl _) d2
  have e3 := cell_kept HX.out (Nat.le_refl _) d3
  have HS3 := Lib.hid (StAt.kept (w := w2.drew) ⟨HS2.out.1, HS2.out.2.1.of_block rfl, HS2.out.2.2.1.of_block rfl, HS2.out.2.2.2⟩ HX.out (Nat.le_refl _))
  have HA3 := Lib.hid (HA2.out.drew.trans (HX.out.mono (by simp; omega)))
  have hz3 : w.heap.size + 1 ≤ w3.heap.size := Nat.le_trans hz2 HX.out.size
  clear d0 d1 d2 d3 s0 s1 s2 s3 hw2 HX
  have d0 := e0
  have d1 := e1
  have d2 := e2
  have d3 := e3
  clear e0 e1 e2 e3
  obtain ⟨s0, s1, s2, s3⟩ := four_cells HS3.out.1
  go_wp2
  go_ret
  exact ⟨rfl, HA3.out⟩

set_option maxRecDepth 100000 in
set_option maxHeartbeats 4000000 in
theorem st_follows_0t (sb n m bi br : Nat) (I R : ByteArray → Bool) (q p : Int) (h s : ByteArray) (w : World) (hst : StAt w sb n m bi br I R) (hh : h.size ≤ maxLen) (hsc : s.size ≤ 9223372036854775807) (ms : ByteArray) (f : Int) (hm : msgS ⟨q, h, s, p⟩ = (ms, f)) (hf : f = 0) (hn : n < 4096) (hmm : m ≤ 4611686018427387903) (hq : (q == 2) = false) (hq0 : (q == 0) = true) (hq1 : (q == 1) = false) (hp : (p != (m : Int)) = false) (h0 : I h = true) : Calls Try.prog 38 #[.pointer (some ⟨sb, 0, none⟩), .agg #[.int .i64 q, .string h, .string s, .int .i64 p]] w (Ret (.int .i64 8) w) := by
  subst hf
  have HM := Lib.hid hm
  clear hm
  obtain ⟨W0, hW0⟩ : ∃ W0, w.alloc (.cells #[.int .i64 q, .string h, .string s, .int .i64 p] 24) = W0 := ⟨_, rfl⟩
  have hbox : W0.heap[w.heap.size]? = some (.cells #[.int .i64 q, .string h, .string s, .int .i64 p] 24 (0, 0)) := by rw [← hW0]; exact heap_alloc_new _ _
  have hb0 : Below w.heap.size w W0 := by rw [← hW0]; exact (Below.refl _ _).alloc (Nat.le_refl _) _
  have hz : w.heap.size + 1 ≤ W0.heap.size := block_lt hbox
  obtain ⟨b0, b1, b2, b3⟩ := four_cells hbox
  have HW0 := Lib.hid hW0
  have HA0 := Lib.hid hb0
  have HS0 := Lib.hid (hst.kept hb0 (Nat.le_refl _))
  clear hW0 hbox hb0 hst
  go_enter Try.func38, Try.ntmps38
  go_wp2_with fail
  rw [HW0.out]
  refine (led_Message ⟨q, h, s, p⟩ _ (by unfold maxLen at hh; omega) hsc).mono ?_
  rintro e w1 ⟨rfl, hb1⟩
  have d0 := cell_kept hb1 (Nat.le_refl _) b0
  have d1 := cell_kept hb1 (Nat.le_refl _) b1
  have d2 := cell_kept hb1 (Nat.le_refl _) b2
  have d3 := cell_kept hb1 (Nat.le_refl _) b3
  have hz1 : w.heap.size + 1 ≤ w1.heap.size := Nat.le_trans hz hb1.size
  have HA1 := Lib.hid (HA0.out.trans (hb1.mono (by omega)))
  have hst1 := HS0.out.kept hb1 (Nat.le_refl _)
  obtain ⟨s0, s1, s2, s3⟩ := four_cells hst1.1
  have HS1 := Lib.hid hst1
  rw [HM.out]
  clear b0 b1 b2 b3 HA0 HS0 HW0 hb1 hz hst1
  go_wp2
  refine wp_region_K 13 (Below (w1.drew).heap.size (w1.drew)) (by kernel_rfl) ?_
  intro hD
  refine wpAnyK_pure (i := 0) (v := ?v9_0b9) (fuel := 12) rfl (by kernel_rfl) (fun _ _ _ h => h) hD (Below.refl _ _) (.inl ⟨by kernel_rfl, ?y9_0b9⟩) ?n9_0b9
  case y9_0b9 => intro w' _; go_simp; with_reducible rfl
  clear hD; intro hD
  simp only [Act.put, List.setIfInBounds_toArray, List.set_cons_zero, List.set_cons_succ]
  refine wpAnyK_pure (i := 1) (v := ?v9_1b9) (fuel := 11) rfl (by kernel_rfl) (fun _ _ _ h => h) hD (Below.refl _ _) (.inl ⟨by kernel_rfl, ?y9_1b9⟩) ?n9_1b9
  case y9_1b9 => intro w' _; go_simp; with_reducible rfl
  clear hD; intro hD
  simp only [Act.put, List.setIfInBounds_toArray, List.set_cons_zero, List.set_cons_succ]
  refine wpAnyK_pure (i := 2) (v := ?v9_2b9) (fuel := 10) rfl (by kernel_rfl) (fun _ _ _ h => h) hD (Below.refl _ _) (.inl ⟨by kernel_rfl, ?y9_2b9⟩) ?n9_2b9
  case y9_2b9 => intro w' _; go_simp; with_reducible rfl
  clear hD; intro hD
  simp only [Act.put, List.setIfInBounds_toArray, List.set_cons_zero, List.set_cons_succ]
  refine wpAnyK_takeS (i := 3) (v := ?v9_3b9) (fuel := 9) rfl (by kernel_rfl) (by kernel_rfl) (fun _ _ _ h => h) hD (Below.refl _ _) (.inl ⟨by kernel_rfl, ?y9_3b9⟩) ?n9_3b9
  case y9_3b9 => intro w' hS'; have e0 := cell_kept hS' (Nat.le_refl _) s2; have e1 := cell_kept hS' (Nat.le_refl _) s3; have e2 := cell_kept hS' (Nat.le_refl _) d1; go_simp; with_reducible rfl
  clear hD; intro hD
  simp only [Act.put, List.setIfInBounds_toArray, List.set_cons_zero, List.set_cons_succ]
  refine wpAnyK_pure (i := 4) (v := ?v9_4b9) (fuel := 8) rfl (by kernel_rfl) (fun _ _ _ h => h) hD (Below.refl _ _) (.inl ⟨by kernel_rfl, ?y9_4b9⟩) ?n9_4b9
  case y9_4b9 => intro w' _; go_simp; with_reducible rfl
  clear hD; intro hD
  simp only [Act.put, List.setIfInBounds_toArray, List.set_cons_zero, List.set_cons_succ]
  refine wpAnyK_takeS (i := 5) (v := ?v9_5b9) (fuel := 7) rfl (by kernel_rfl) (by kernel_rfl) (fun _ _ _ h => h) hD (Below.refl _ _) (.inl ⟨by kernel_rfl, ?y9_5b9⟩) ?n9_5b9
  case y9_5b9 => intro w' hS'; have e0 := cell_kept hS' (Nat.le_refl _) s2; have e1 := cell_kept hS' (Nat.le_refl _) s3; have e2 := cell_kept hS' (Nat.le_refl _) d1; go_simp; with_reducible rfl
  clear hD; intro hD
  simp only [Act.put, List.setIfInBounds_toArray, List.set_cons_zero, List.set_cons_succ]
  refine wpAnyK_takeS (i := 6) (v := (.tuple #[.agg #[], .bool (I h)])) (fuel := 6) rfl (by kernel_rfl) (by kernel_rfl) (fun _ _ _ h => h) hD (Below.refl _ _) (.inl ⟨by kernel_rfl, ?y9_6b9⟩) ?n9_6b9
  case y9_6b9 =>
    intro w' hS'
    have hl := (SetM.kept (w := w1.drew) (HS1.out.2.1.of_block rfl) hS' (Nat.le_refl _)).look hh
    go_simp
  clear hD; intro hD
  simp only [Act.put, List.setIfInBounds_toArray, List.set_cons_zero, List.set_cons_succ]
  refine wpAnyK_pure (i := 7) (v := ?v9_7b9) (fuel := 5) rfl (by kernel_rfl) (fun _ _ _ h => h) hD (Below.refl _ _) (.inl ⟨by kernel_rfl, ?y9_7b9⟩) ?n9_7b9
  case y9_7b9 => intro w' _; go_simp; with_reducible rfl
  clear hD; intro hD
  simp only [Act.put, List.setIfInBounds_toArray, List.set_cons_zero, List.set_cons_succ]
  refine wpAnyK_pure (i := 8) (v := ?v9_8b9) (fuel := 4) rfl (by kernel_rfl) (fun _ _ _ h => h) hD (Below.refl _ _) (.inl ⟨by kernel_rfl, ?y9_8b9⟩) ?n9_8b9
  case y9_8b9 => intro w' _; go_simp; with_reducible rfl
  clear hD; intro hD
  simp only [Act.put, List.setIfInBounds_toArray, List.set_cons_zero, List.set_cons_succ]
  refine wpAnyK_pure (i := 9) (v := ?v9_9b9) (fuel := 3) rfl (by kernel_rfl) (fun _ _ _ h => h) hD (Below.refl _ _) (.inl ⟨by kernel_rfl, ?y9_9b9⟩) ?n9_9b9
  case y9_9b9 => intro w' _; go_simp; with_reducible rfl
  clear hD; intro hD
  simp only [Act.put, List.setIfInBounds_toArray, List.set_cons_zero, List.set_cons_succ]
  refine wpAnyK_one (i := 10) (fuel := 2) (by kernel_rfl) rfl hD ?_
  clear hD; intro K10 hK10
  go_wp2
  refine hK10 _ _ (by exact (Below.refl _ _).alloc (Nat.le_refl _) _) ?_; clear hK10; intro hS_9_10 hD
  refine wpAnyK_one (i := 11) (fuel := 1) (by kernel_rfl) rfl hD ?_
  clear hD; intro K11 hK11
  go_wp2
  refine hK11 _ _ (by exact hS_9_10) ?_; clear hK11; intro hS_9_11 hD
  refine wpAnyK_one (i := 12) (fuel := 0) (by kernel_rfl) rfl hD ?_
  clear hD; intro K12 hK12
  go_wp2
  refine hK12 _ _ (by exact hS_9_11) ?_; clear hK12; intro hS_9_12 hD
  refine wpAnyK_done (by kernel_rfl) ?_ 0
  clear hD
  have HX := Lib.hid hS_9_12
  obtain ⟨w2, hw2⟩ : ∃ w2, (w1.alloc (.cells #[] 74)).drew = w2 := ⟨_, rfl⟩
  rw [hw2] at HX ⊢
  have e0 := cell_kept HX.out (Nat.le_refl _) d0
  have e1 := cell_kept HX.out (Nat.le_refl _) d1
  have e2 := cell_kept HX.out (Nat.le_refl _) d2
  have e3 := cell_kept HX.out (Nat.le_refl _) d3
  have HS2 := Lib.hid (StAt.kept (w := w1.drew) ⟨HS1.out.1, HS1.out.2.1.of_block rfl, HS1.out.2.2.1.of_block rfl, HS1.out.2.2.2⟩ HX.out (Nat.le_refl _))
  have HA2 := Lib.hid (HA1.out.drew.trans (HX.out.mono (by simp; omega)))
  have hz2 : w.heap.size + 1 ≤ w2.heap.size := Nat.le_trans hz1 HX.out.size
  clear d0 d1 d2 d3 s0 s1 s2 s3 hw2 HX
  have d0 := e0
  have d1 := e1
  have d2 := e2
  have d3 := e3
  clear e0 e1 e2 e3
  obtain ⟨s0, s1, s2, s3⟩ := four_cells HS2.out.1
  go_wp2
  refine wp_region_K 13 (Below (w2.drew).heap.size (w2.drew)) (by kernel_rfl) ?_
  intro hD
  refine wpAnyK_pure (i := 0) (v := ?v10_0b10) (fuel := 12) rfl (by kernel_rfl) (fun _ _ _ h => h) hD (Below.refl _ _) (.inl ⟨by kernel_rfl, ?y10_0b10⟩) ?n10_0b10
  case y10_0b10 => intro w' _; go_simp; with_reducible rfl
  clear hD; intro hD
  simp only [Act.put, List.setIfInBounds_toArray, List.set_cons_zero, List.set_cons_succ]
  refine wpAnyK_pure (i := 1) (v := ?v10_1b10) (fuel := 11) rfl (by kernel_rfl) (fun _ _ _ h => h) hD (Below.refl _ _) (.inl ⟨by kernel_rfl, ?y10_1b10⟩) ?n10_1b10
  case y10_1b10 => intro w' _; go_simp; with_reducible rfl
  clear hD; intro hD
  simp only [Act.put, List.setIfInBounds_toArray, List.set_cons_zero, List.set_cons_succ]
  refine wpAnyK_pure (i := 2) (v := ?v10_2b10) (fuel := 10) rfl (by kernel_rfl) (fun _ _ _ h => h) hD (Below.refl _ _) (.inl ⟨by kernel_rfl, ?y10_2b10⟩) ?n10_2b10
  case y10_2b10 => intro w' _; go_simp; with_reducible rfl
  clear hD; intro hD
  simp only [Act.put, List.setIfInBounds_toArray, List.set_cons_zero, List.set_cons_succ]
  refine wpAnyK_takeS (i := 3) (v := ?v10_3b10) (fuel := 9) rfl (by kernel_rfl) (by kernel_rfl) (fun _ _ _ h => h) hD (Below.refl _ _) (.inl ⟨by kernel_rfl, ?y10_3b10⟩) ?n10_3b10
  case y10_3b10 => intro w' hS'; have e0 := cell_kept hS' (Nat.le_refl _) s2; have e1 := cell_kept hS' (Nat.le_refl _) s3; have e2 := cell_kept hS' (Nat.le_refl _) d1; go_simp; with_reducible rfl
  clear hD; intro hD
  simp only [Act.put, List.setIfInBounds_toArray, List.set_cons_zero, List.set_cons_succ]
  refine wpAnyK_pure (i := 4) (v := ?v10_4b10) (fuel := 8) rfl (by kernel_rfl) (fun _ _ _ h => h) hD (Below.refl _ _) (.inl ⟨by kernel_rfl, ?y10_4b10⟩) ?n10_4b10
  case y10_4b10 => intro w' _; go_simp; with_reducible rfl
  clear hD; intro hD
  simp only [Act.put, List.setIfInBounds_toArray, List.set_cons_zero, List.set_cons_succ]
  refine wpAnyK_takeS (i := 5) (v := ?v10_5b10) (fuel := 7) rfl (by kernel_rfl) (by kernel_rfl) (fun _ _ _ h => h) hD (Below.refl _ _) (.inl ⟨by kernel_rfl, ?y10_5b10⟩) ?n10_5b10
  case y10_5b10 => intro w' hS'; have e0 := cell_kept hS' (Nat.le_refl _) s2; have e1 := cell_kept hS' (Nat.le_refl _) s3; have e2 := cell_kept hS' (Nat.le_refl _) d1; go_simp; with_reducible rfl
  clear hD; intro hD
  simp only [Act.put, List.setIfInBounds_toArray, List.set_cons_zero, List.set_cons_succ]
  refine wpAnyK_takeS (i := 6) (v := (.tuple #[.agg #[], .bool (R h)])) (fuel := 6) rfl (by kernel_rfl) (by kernel_rfl) (fun _ _ _ h => h) hD (Below.refl _ _) (.inl ⟨by kernel_rfl, ?y10_6b10⟩) ?n10_6b10
  case y10_6b10 =>
    intro w' hS'
    have hl := (SetM.kept (w := w2.drew) (HS2.out.2.2.1.of_block rfl) hS' (Nat.le_refl _)).look hh
    go_simp
  clear hD; intro hD
  simp only [Act.put, List.setIfInBounds_toArray, List.set_cons_zero, List.set_cons_succ]
  refine wpAnyK_pure (i := 7) (v := ?v10_7b10) (fuel := 5) rfl (by kernel_rfl) (fun _ _ _ h => h) hD (Below.refl _ _) (.inl ⟨by kernel_rfl, ?y10_7b10⟩) ?n10_7b10
  case y10_7b10 => intro w' _; go_simp; with_reducible rfl
  clear hD; intro hD
  simp only [Act.put, List.setIfInBounds_toArray, List.set_cons_zero, List.set_cons_succ]
  refine wpAnyK_pure (i := 8) (v := ?v10_8b10) (fuel := 4) rfl (by kernel_rfl) (fun _ _ _ h => h) hD (Below.refl _ _) (.inl ⟨by kernel_rfl, ?y10_8b10⟩) ?n10_8b10
  case y10_8b10 => intro w' _; go_simp; with_reducible rfl
  clear hD; intro hD
  simp only [Act.put, List.setIfInBounds_toArray, List.set_cons_zero, List.set_cons_succ]
  refine wpAnyK_pure (i := 9) (v := ?v10_9b10) (fuel := 3) rfl (by kernel_rfl) (fun _ _ _ h => h) hD (Below.refl _ _) (.inl ⟨by kernel_rfl, ?y10_9b10⟩) ?n10_9b10
  case y10_9b10 => intro w' _; go_simp; with_reducible rfl
  clear hD; intro hD
  simp only [Act.put, List.setIfInBounds_toArray, List.set_cons_zero, List.set_cons_succ]
  refine wpAnyK_one (i := 10) (fuel := 2) (by kernel_rfl) rfl hD ?_
  clear hD; intro K10 hK10
  go_wp2
  refine hK10 _ _ (by exact (Below.refl _ _).alloc (Nat.le_refl _) _) ?_; clear hK10; intro hS_10_10 hD
  refine wpAnyK_one (i := 11) (fuel := 1) (by kernel_rfl) rfl hD ?_
  clear hD; intro K11 hK11
  go_wp2
  refine hK11 _ _ (by exact hS_10_10) ?_; clear hK11; intro hS_10_11 hD
  refine wpAnyK_one (i := 12) (fuel := 0) (by kernel_rfl) rfl hD ?_
  clear hD; intro K12 hK12
  go_wp2
  refine hK12 _ _ (by exact hS_10_11) ?_; clear hK12; intro hS_10_12 hD
  refine wpAnyK_done (by kernel_rfl) ?_ 0
  clear hD
  have HX := Lib.hid hS_10_12
  obtain ⟨w3, hw2⟩ : ∃ w3, (w2.alloc (.cells #[] 74)).drew = w3 := ⟨_, rfl⟩
  rw [hw2] at HX ⊢
  have e0 := cell_kept HX.out (Nat.le_refl _) d0
  have e1 := cell_kept HX.out (Nat.le_refl _) d1
  have e2 := cell_kept HX.out (Nat.le_refl _) d2
  have e3 := cell_kept HX.out (Nat.le_refl _) d3
  have HS3 := Lib.hid (StAt.kept (w := w2.drew) ⟨HS2.out.1, HS2.out.2.1.of_block rfl, HS2.out.2.2.1.of_block rfl, HS2.out.2.2.2⟩ HX.out (Nat.le_refl _))
  have HA3 := Lib.hid (HA2.out.drew.trans (HX.out.mono (by simp; omega)))
  have hz3 : w.heap.size + 1 ≤ w3.heap.size := Nat.le_trans hz2 HX.out.size
  clear d0 d1 d2 d3 s0 s1 s2 s3 hw2 HX
  have d0 := e0
  have d1 := e1
  have d2 := e2
  have d3 := e3
  clear e0 e1 e2 e3
  obtain ⟨s0, s1, s2, s3⟩ := four_cells HS3.out.1
  go_wp2
  go_ret
  exact ⟨rfl, HA3.out⟩

set_option maxRecDepth 100000 in
set_option maxHeartbeats 4000000 in
theorem st_follows_0ok (sb n m bi br : Nat) (I R : ByteArray → Bool) (q p : Int) (h s : ByteArray) (w : World) (hst : StAt w sb n m bi br I R) (hh : h.size ≤ maxLen) (hsc : s.size ≤ 9223372036854775807) (ms : ByteArray) (f : Int) (hm : msgS ⟨q, h, s, p⟩ = (ms, f)) (hf : f = 0) (hn : n < 4096) (hmm : m ≤ 4611686018427387903) (hq : (q == 2) = false) (hq0 : (q == 0) = true) (hq1 : (q == 1) = false) (hp : (p != (m : Int)) = false) (h0 : I h = false) : Calls Try.prog 38 #[.pointer (some ⟨sb, 0, none⟩), .agg #[.int .i64 q, .string h, .string s, .int .i64 p]] w (Ret (.int .i64 0) w) := by
  subst hf
  have HM := Lib.hid hm
  clear hm
  obtain ⟨W0, hW0⟩ : ∃ W0, w.alloc (.cells #[.int .i64 q, .string h, .string s, .int .i64 p] 24) = W0 := ⟨_, rfl⟩
  have hbox : W0.heap[w.heap.size]? = some (.cells #[.int .i64 q, .string h, .string s, .int .i64 p] 24 (0, 0)) := by rw [← hW0]; exact heap_alloc_new _ _
  have hb0 : Below w.heap.size w W0 := by rw [← hW0]; exact (Below.refl _ _).alloc (Nat.le_refl _) _
  have hz : w.heap.size + 1 ≤ W0.heap.size := block_lt hbox
  obtain ⟨b0, b1, b2, b3⟩ := four_cells hbox
  have HW0 := Lib.hid hW0
  have HA0 := Lib.hid hb0
  have HS0 := Lib.hid (hst.kept hb0 (Nat.le_refl _))
  clear hW0 hbox hb0 hst
  go_enter Try.func38, Try.ntmps38
  go_wp2_with fail
  rw [HW0.out]
  refine (led_Message ⟨q, h, s, p⟩ _ (by unfold maxLen at hh; omega) hsc).mono ?_
  rintro e w1 ⟨rfl, hb1⟩
  have d0 := cell_kept hb1 (Nat.le_refl _) b0
  have d1 := cell_kept hb1 (Nat.le_refl _) b1
  have d2 := cell_kept hb1 (Nat.le_refl _) b2
  have d3 := cell_kept hb1 (Nat.le_refl _) b3
  have hz1 : w.heap.size + 1 ≤ w1.heap.size := Nat.le_trans hz hb1.size
  have HA1 := Lib.hid (HA0.out.trans (hb1.mono (by omega)))
  have hst1 := HS0.out.kept hb1 (Nat.le_refl _)
  obtain ⟨s0, s1, s2, s3⟩ := four_cells hst1.1
  have HS1 := Lib.hid hst1
  rw [HM.out]
  clear b0 b1 b2 b3 HA0 HS0 HW0 hb1 hz hst1
  go_wp2
  refine wp_region_K 13 (Below (w1.drew).heap.size (w1.drew)) (by kernel_rfl) ?_
  intro hD
  refine wpAnyK_pure (i := 0) (v := ?v9_0b11) (fuel := 12) rfl (by kernel_rfl) (fun _ _ _ h => h) hD (Below.refl _ _) (.inl ⟨by kernel_rfl, ?y9_0b11⟩) ?n9_0b11
  case y9_0b11 => intro w' _; go_simp; with_reducible rfl
  clear hD; intro hD
  simp only [Act.put, List.setIfInBounds_toArray, List.set_cons_zero, List.set_cons_succ]
  refine wpAnyK_pure (i := 1) (v := ?v9_1b11) (fuel := 11) rfl (by kernel_rfl) (fun _ _ _ h => h) hD (Below.refl _ _) (.inl ⟨by kernel_rfl, ?y9_1b11⟩) ?n9_1b11
  case y9_1b11 => intro w' _; go_simp; with_reducible rfl
  clear hD; intro hD
  simp only [Act.put, List.setIfInBounds_toArray, List.set_cons_zero, List.set_cons_succ]
  refine wpAnyK_pure (i := 2) (v := ?v9_2b11) (fuel := 10) rfl (by kernel_rfl) (fun _ _ _ h => h) hD (Below.refl _ _) (.inl ⟨by kernel_rfl, ?y9_2b11⟩) ?n9_2b11
  case y9_2b11 => intro w' _; go_simp; with_reducible rfl
  clear hD; intro hD
  simp only [Act.put, List.setIfInBounds_toArray, List.set_cons_zero, List.set_cons_succ]
  refine wpAnyK_takeS (i := 3) (v := ?v9_3b11) (fuel := 9) rfl (by kernel_rfl) (by kernel_rfl) (fun _ _ _ h => h) hD (Below.refl _ _) (.inl ⟨by kernel_rfl, ?y9_3b11⟩) ?n9_3b11
  case y9_3b11 => intro w' hS'; have e0 := cell_kept hS' (Nat.le_refl _) s2; have e1 := cell_kept hS' (Nat.le_refl _) s3; have e2 := cell_kept hS' (Nat.le_refl _) d1; go_simp; with_reducible rfl
  clear hD; intro hD
  simp only [Act.put, List.setIfInBounds_toArray, List.set_cons_zero, List.set_cons_succ]
  refine wpAnyK_pure (i := 4) (v := ?v9_4b11) (fuel := 8) rfl (by kernel_rfl) (fun _ _ _ h => h) hD (Below.refl _ _) (.inl ⟨by kernel_rfl, ?y9_4b11⟩) ?n9_4b11
  case y9_4b11 => intro w' _; go_simp; with_reducible rfl
  clear hD; intro hD
  simp only [Act.put, List.setIfInBounds_toArray, List.set_cons_zero, List.set_cons_succ]
  refine wpAnyK_takeS (i := 5) (v := ?v9_5b11) (fuel := 7) rfl (by kernel_rfl) (by kernel_rfl) (fun _ _ _ h => h) hD (Below.refl _ _) (.inl ⟨by kernel_rfl, ?y9_5b11⟩) ?n9_5b11
  case y9_5b11 => intro w' hS'; have e0 := cell_kept hS' (Nat.le_refl _) s2; have e1 := cell_kept hS' (Nat.le_refl _) s3; have e2 := cell_kept hS' (Nat.le_refl _) d1; go_simp; with_reducible rfl
  clear hD; intro hD
  simp only [Act.put, List.setIfInBounds_toArray, List.set_cons_zero, List.set_cons_succ]
  refine wpAnyK_takeS (i := 6) (v := (.tuple #[.agg #[], .bool (I h)])) (fuel := 6) rfl (by kernel_rfl) (by kernel_rfl) (fun _ _ _ h => h) hD (Below.refl _ _) (.inl ⟨by kernel_rfl, ?y9_6b11⟩) ?n9_6b11
  case y9_6b11 =>
    intro w' hS'
    have hl := (SetM.kept (w := w1.drew) (HS1.out.2.1.of_block rfl) hS' (Nat.le_refl _)).look hh
    go_simp
  clear hD; intro hD
  simp only [Act.put, List.setIfInBounds_toArray, List.set_cons_zero, List.set_cons_succ]
  refine wpAnyK_pure (i := 7) (v := ?v9_7b11) (fuel := 5) rfl (by kernel_rfl) (fun _ _ _ h => h) hD (Below.refl _ _) (.inl ⟨by kernel_rfl, ?y9_7b11⟩) ?n9_7b11
  case y9_7b11 => intro w' _; go_simp; with_reducible rfl
  clear hD; intro hD
  simp only [Act.put, List.setIfInBounds_toArray, List.set_cons_zero, List.set_cons_succ]
  refine wpAnyK_pure (i := 8) (v := ?v9_8b11) (fuel := 4) rfl (by kernel_rfl) (fun _ _ _ h => h) hD (Below.refl _ _) (.inl ⟨by kernel_rfl, ?y9_8b11⟩) ?n9_8b11
  case y9_8b11 => intro w' _; go_simp; with_reducible rfl
  clear hD; intro hD
  simp only [Act.put, List.setIfInBounds_toArray, List.set_cons_zero, List.set_cons_succ]
  refine wpAnyK_pure (i := 9) (v := ?v9_9b11) (fuel := 3) rfl (by kernel_rfl) (fun _ _ _ h => h) hD (Below.refl _ _) (.inl ⟨by kernel_rfl, ?y9_9b11⟩) ?n9_9b11
  case y9_9b11 => intro w' _; go_simp; with_reducible rfl
  clear hD; intro hD
  simp only [Act.put, List.setIfInBounds_toArray, List.set_cons_zero, List.set_cons_succ]
  refine wpAnyK_one (i := 10) (fuel := 2) (by kernel_rfl) rfl hD ?_
  clear hD; intro K10 hK10
  go_wp2
  refine hK10 _ _ (by exact (Below.refl _ _).alloc (Nat.le_refl _) _) ?_; clear hK10; intro hS_9_10 hD
  refine wpAnyK_one (i := 11) (fuel := 1) (by kernel_rfl) rfl hD ?_
  clear hD; intro K11 hK11
  go_wp2
  refine hK11 _ _ (by exact hS_9_10) ?_; clear hK11; intro hS_9_11 hD
  refine wpAnyK_one (i := 12) (fuel := 0) (by kernel_rfl) rfl hD ?_
  clear hD; intro K12 hK12
  go_wp2
  refine hK12 _ _ (by exact hS_9_11) ?_; clear hK12; intro hS_9_12 hD
  refine wpAnyK_done (by kernel_rfl) ?_ 0
  clear hD
  have HX := Lib.hid hS_9_12
  obtain ⟨w2, hw2⟩ : ∃ w2, (w1.alloc (.cells #[] 74)).drew = w2 := ⟨_, rfl⟩
  rw [hw2] at HX ⊢
  have e0 := cell_kept HX.out (Nat.le_refl _) d0
  have e1 := cell_kept HX.out (Nat.le_refl _) d1
  have e2 := cell_kept HX.out (Nat.le_refl _) d2
  have e3 := cell_kept HX.out (Nat.le_refl _) d3
  have HS2 := Lib.hid (StAt.kept (w := w1.drew) ⟨HS1.out.1, HS1.out.2.1.of_block rfl, HS1.out.2.2.1.of_block rfl, HS1.out.2.2.2⟩ HX.out (Nat.le_refl _))
  have HA2 := Lib.hid (HA1.out.drew.trans (HX.out.mono (by simp; omega)))
  have hz2 : w.heap.size + 1 ≤ w2.heap.size := Nat.le_trans hz1 HX.out.size
  clear d0 d1 d2 d3 s0 s1 s2 s3 hw2 HX
  have d0 := e0
  have d1 := e1
  have d2 := e2
  have d3 := e3
  clear e0 e1 e2 e3
  obtain ⟨s0, s1, s2, s3⟩ := four_cells HS2.out.1
  go_wp2
  refine wp_region_K 13 (Below (w2.drew).heap.size (w2.drew)) (by kernel_rfl) ?_
  intro hD
  refine wpAnyK_pure (i := 0) (v := ?v10_0b12) (fuel := 12) rfl (by kernel_rfl) (fun _ _ _ h => h) hD (Below.refl _ _) (.inl ⟨by kernel_rfl, ?y10_0b12⟩) ?n10_0b12
  case y10_0b12 => intro w' _; go_simp; with_reducible rfl
  clear hD; intro hD
  simp only [Act.put, List.setIfInBounds_toArray, List.set_cons_zero, List.set_cons_succ]
  refine wpAnyK_pure (i := 1) (v := ?v10_1b12) (fuel := 11) rfl (by kernel_rfl) (fun _ _ _ h => h) hD (Below.refl _ _) (.inl ⟨by kernel_rfl, ?y10_1b12⟩) ?n10_1b12
  case y10_1b12 => intro w' _; go_simp; with_reducible rfl
  clear hD; intro hD
  simp only [Act.put, List.setIfInBounds_toArray, List.set_cons_zero, List.set_cons_succ]
  refine wpAnyK_pure (i := 2) (v := ?v10_2b12) (fuel := 10) rfl (by kernel_rfl) (fun _ _ _ h => h) hD (Below.refl _ _) (.inl ⟨by kernel_rfl, ?y10_2b12⟩) ?n10_2b12
  case y10_2b12 => intro w' _; go_simp; with_reducible rfl
  clear hD; intro hD
  simp only [Act.put, List.setIfInBounds_toArray, List.set_cons_zero, List.set_cons_succ]
  refine wpAnyK_takeS (i := 3) (v := ?v10_3b12) (fuel := 9) rfl (by kernel_rfl) (by kernel_rfl) (fun _ _ _ h => h) hD (Below.refl _ _) (.inl ⟨by kernel_rfl, ?y10_3b12⟩) ?n10_3b12
  case y10_3b12 => intro w' hS'; have e0 := cell_kept hS' (Nat.le_refl _) s2; have e1 := cell_kept hS' (Nat.le_refl _) s3; have e2 := cell_kept hS' (Nat.le_refl _) d1; go_simp; with_reducible rfl
  clear hD; intro hD
  simp only [Act.put, List.setIfInBounds_toArray, List.set_cons_zero, List.set_cons_succ]
  refine wpAnyK_pure (i := 4) (v := ?v10_4b12) (fuel := 8) rfl (by kernel_rfl) (fun _ _ _ h => h) hD (Below.refl _ _) (.inl ⟨by kernel_rfl, ?y10_4b12⟩) ?n10_4b12
  case y10_4b12 => intro w' _; go_simp; with_reducible rfl
  clear hD; intro hD
  simp only [Act.put, List.setIfInBounds_toArray, List.set_cons_zero, List.set_cons_succ]
  refine wpAnyK_takeS (i := 5) (v := ?v10_5b12) (fuel := 7) rfl (by kernel_rfl) (by kernel_rfl) (fun _ _ _ h => h) hD (Below.refl _ _) (.inl ⟨by kernel_rfl, ?y10_5b12⟩) ?n10_5b12
  case y10_5b12 => intro w' hS'; have e0 := cell_kept hS' (Nat.le_refl _) s2; have e1 := cell_kept hS' (Nat.le_refl _) s3; have e2 := cell_kept hS' (Nat.le_refl _) d1; go_simp; with_reducible rfl
  clear hD; intro hD
  simp only [Act.put, List.setIfInBounds_toArray, List.set_cons_zero, List.set_cons_succ]
  refine wpAnyK_takeS (i := 6) (v := (.tuple #[.agg #[], .bool (R h)])) (fuel := 6) rfl (by kernel_rfl) (by kernel_rfl) (fun _ _ _ h => h) hD (Below.refl _ _) (.inl ⟨by kernel_rfl, ?y10_6b12⟩) ?n10_6b12
  case y10_6b12 =>
    intro w' hS'
    have hl := (SetM.kept (w := w2.drew) (HS2.out.2.2.1.of_block rfl) hS' (Nat.le_refl _)).look hh
    go_simp
  clear hD; intro hD
  simp only [Act.put, List.setIfInBounds_toArray, List.set_cons_zero, List.set_cons_succ]
  refine wpAnyK_pure (i := 7) (v := ?v10_7b12) (fuel := 5) rfl (by kernel_rfl) (fun _ _ _ h => h) hD (Below.refl _ _) (.inl ⟨by kernel_rfl, ?y10_7b12⟩) ?n10_7b12
  case y10_7b12 => intro w' _; go_simp; with_reducible rfl
  clear hD; intro hD
  simp only [Act.put, List.setIfInBounds_toArray, List.set_cons_zero, List.set_cons_succ]
  refine wpAnyK_pure (i := 8) (v := ?v10_8b12) (fuel := 4) rfl (by kernel_rfl) (fun _ _ _ h => h) hD (Below.refl _ _) (.inl ⟨by kernel_rfl, ?y10_8b12⟩) ?n10_8b12
  case y10_8b12 => intro w' _; go_simp; with_reducible rfl
  clear hD; intro hD
  simp only [Act.put, List.setIfInBounds_toArray, List.set_cons_zero, List.set_cons_succ]
  refine wpAnyK_pure (i := 9) (v := ?v10_9b12) (fuel := 3) rfl (by kernel_rfl) (fun _ _ _ h => h) hD (Below.refl _ _) (.inl ⟨by kernel_rfl, ?y10_9b12⟩) ?n10_9b12
  case y10_9b12 => intro w' _; go_simp; with_reducible rfl
  clear hD; intro hD
  simp only [Act.put, List.setIfInBounds_toArray, List.set_cons_zero, List.set_cons_succ]
  refine wpAnyK_one (i := 10) (fuel := 2) (by kernel_rfl) rfl hD ?_
  clear hD; intro K10 hK10
  go_wp2
  refine hK10 _ _ (by exact (Below.refl _ _).alloc (Nat.le_refl _) _) ?_; clear hK10; intro hS_10_10 hD
  refine wpAnyK_one (i := 11) (fuel := 1) (by kernel_rfl) rfl hD ?_
  clear hD; intro K11 hK11
  go_wp2
  refine hK11 _ _ (by exact hS_10_10) ?_; clear hK11; intro hS_10_11 hD
  refine wpAnyK_one (i := 12) (fuel := 0) (by kernel_rfl) rfl hD ?_
  clear hD; intro K12 hK12
  go_wp2
  refine hK12 _ _ (by exact hS_10_11) ?_; clear hK12; intro hS_10_12 hD
  refine wpAnyK_done (by kernel_rfl) ?_ 0
  clear hD
  have HX := Lib.hid hS_10_12
  obtain ⟨w3, hw2⟩ : ∃ w3, (w2.alloc (.cells #[] 74)).drew = w3 := ⟨_, rfl⟩
  rw [hw2] at HX ⊢
  have e0 := cell_kept HX.out (Nat.le_refl _) d0
  have e1 := cell_kept HX.out (Nat.le_refl _) d1
  have e2 := cell_kept HX.out (Nat.le_refl _) d2
  have e3 := cell_kept HX.out (Nat.le_refl _) d3
  have HS3 := Lib.hid (StAt.kept (w := w2.drew) ⟨HS2.out.1, HS2.out.2.1.of_block rfl, HS2.out.2.2.1.of_block rfl, HS2.out.2.2.2⟩ HX.out (Nat.le_refl _))
  have HA3 := Lib.hid (HA2.out.drew.trans (HX.out.mono (by simp; omega)))
  have hz3 : w.heap.size + 1 ≤ w3.heap.size := Nat.le_trans hz2 HX.out.size
  clear d0 d1 d2 d3 s0 s1 s2 s3 hw2 HX
  have d0 := e0
  have d1 := e1
  have d2 := e2
  have d3 := e3
  clear e0 e1 e2 e3
  obtain ⟨s0, s1, s2, s3⟩ := four_cells HS3.out.1
  go_wp2
  go_ret
  exact ⟨rfl, HA3.out⟩

set_option maxRecDepth 100000 in
set_option maxHeartbeats 4000000 in
theorem st_follows_1n (sb n m bi br : Nat) (I R : ByteArray → Bool) (q p : Int) (h s : ByteArray) (w : World) (hst : StAt w sb n m bi br I R) (hh : h.size ≤ maxLen) (hsc : s.size ≤ 9223372036854775807) (ms : ByteArray) (f : Int) (hm : msgS ⟨q, h, s, p⟩ = (ms, f)) (hf : f = 0) (hn : n < 4096) (hmm : m ≤ 4611686018427387903) (hq : (q == 2) = false) (hq0 : (q == 0) = false) (hq1 : (q == 1) = true) (hp : (p != (m : Int)) = false) (h0 : I h = false) : Calls Try.prog 38 #[.pointer (some ⟨sb, 0, none⟩), .agg #[.int .i64 q, .string h, .string s, .int .i64 p]] w (Ret (.int .i64 9) w) := by
  subst hf
  have HM := Lib.hid hm
  clear hm
  obtain ⟨W0, hW0⟩ : ∃ W0, w.alloc (.cells #[.int .i64 q, .string h, .string s, .int .i64 p] 24) = W0 := ⟨_, rfl⟩
  have hbox : W0.heap[w.heap.size]? = some (.cells #[.int .i64 q, .string h, .string s, .int .i64 p] 24 (0, 0)) := by rw [← hW0]; exact heap_alloc_new _ _
  have hb0 : Below w.heap.size w W0 := by rw [← hW0]; exact (Below.refl _ _).alloc (Nat.le_refl _) _
  have hz : w.heap.size + 1 ≤ W0.heap.size := block_lt hbox
  obtain ⟨b0, b1, b2, b3⟩ := four_cells hbox
  have HW0 := Lib.hid hW0
  have HA0 := Lib.hid hb0
  have HS0 := Lib.hid (hst.kept hb0 (Nat.le_refl _))
  clear hW0 hbox hb0 hst
  go_enter Try.func38, Try.ntmps38
  go_wp2_with fail
  rw [HW0.out]
  refine (led_Message ⟨q, h, s, p⟩ _ (by unfold maxLen at hh; omega) hsc).mono ?_
  rintro e w1 ⟨rfl, hb1⟩
  have d0 := cell_kept hb1 (Nat.le_refl _) b0
  have d1 := cell_kept hb1 (Nat.le_refl _) b1
  have d2 := cell_kept hb1 (Nat.le_refl _) b2
  have d3 := cell_kept hb1 (Nat.le_refl _) b3
  have hz1 : w.heap.size + 1 ≤ w1.heap.size := Nat.le_trans hz hb1.size
  have HA1 := Lib.hid (HA0.out.trans (hb1.mono (by omega)))
  have hst1 := HS0.out.kept hb1 (Nat.le_refl _)
  obtain ⟨s0, s1, s2, s3⟩ := four_cells hst1.1
  have HS1 := Lib.hid hst1
  rw [HM.out]
  clear b0 b1 b2 b3 HA0 HS0 HW0 hb1 hz hst1
  go_wp2
  refine wp_region_K 13 (Below (w1.drew).heap.size (w1.drew)) (by kernel_rfl) ?_
  intro hD
  refine wpAnyK_pure (i := 0) (v := ?v9_0b13) (fuel := 12) rfl (by kernel_rfl) (fun _ _ _ h => h) hD (Below.refl _ _) (.inl ⟨by kernel_rfl, ?y9_0b13⟩) ?n9_0b13
  case y9_0b13 => intro w' _; go_simp; with_reducible rfl
  clear hD; intro hD
  simp only [Act.put, List.setIfInBounds_toArray, List.set_cons_zero, List.set_cons_succ]
  refine wpAnyK_pure (i := 1) (v := ?v9_1b13) (fuel := 11) rfl (by kernel_rfl) (fun _ _ _ h => h) hD (Below.refl _ _) (.inl ⟨by kernel_rfl, ?y9_1b13⟩) ?n9_1b13
  case y9_1b13 => intro w' _; go_simp; with_reducible rfl
  clear hD; intro hD
  simp only [Act.put, List.setIfInBounds_toArray, List.set_cons_zero, List.set_cons_succ]
  refine wpAnyK_pure (i := 2) (v := ?v9_2b13) (fuel := 10) rfl (by kernel_rfl) (fun _ _ _ h => h) hD (Below.refl _ _) (.inl ⟨by kernel_rfl, ?y9_2b13⟩) ?n9_2b13
  case y9_2b13 => intro w' _; go_simp; with_reducible rfl
  clear hD; intro hD
  simp only [Act.put, List.setIfInBounds_toArray, List.set_cons_zero, List.set_cons_succ]
  refine wpAnyK_takeS (i := 3) (v := ?v9_3b13) (fuel := 9) rfl (by kernel_rfl) (by kernel_rfl) (fun _ _ _ h => h) hD (Below.refl _ _) (.inl ⟨by kernel_rfl, ?y9_3b13⟩) ?n9_3b13
  case y9_3b13 => intro w' hS'; have e0 := cell_kept hS' (Nat.le_refl _) s2; have e1 := cell_kept hS' (Nat.le_refl _) s3; have e2 := cell_kept hS' (Nat.le_refl _) d1; go_simp; with_reducible rfl
  clear hD; intro hD
  simp only [Act.put, List.setIfInBounds_toArray, List.set_cons_zero, List.set_cons_succ]
  refine wpAnyK_pure (i := 4) (v := ?v9_4b13) (fuel := 8) rfl (by kernel_rfl) (fun _ _ _ h => h) hD (Below.refl _ _) (.inl ⟨by kernel_rfl, ?y9_4b13⟩) ?n9_4b13
  case y9_4b13 => intro w' _; go_simp; with_reducible rfl
  clear hD; intro hD
  simp only [Act.put, List.setIfInBounds_toArray, List.set_cons_zero, List.set_cons_succ]
  refine wpAnyK_takeS (i := 5) (v := ?v9_5b13) (fuel := 7) rfl (by kernel_rfl) (by kernel_rfl) (fun _ _ _ h => h) hD (Below.refl _ _) (.inl ⟨by kernel_rfl, ?y9_5b13⟩) ?n9_5b13
  case y9_5b13 => intro w' hS'; have e0 := cell_kept hS' (Nat.le_refl _) s2; have e1 := cell_kept hS' (Nat.le_refl _) s3; have e2 := cell_kept hS' (Nat.le_refl _) d1; go_simp; with_reducible rfl
  clear hD; intro hD
  simp only [Act.put, List.setIfInBounds_toArray, List.set_cons_zero, List.set_cons_succ]
  refine wpAnyK_takeS (i := 6) (v := (.tuple #[.agg #[], .bool (I h)])) (fuel := 6) rfl (by kernel_rfl) (by kernel_rfl) (fun _ _ _ h => h) hD (Below.refl _ _) (.inl ⟨by kernel_rfl, ?y9_6b13⟩) ?n9_6b13
  case y9_6b13 =>
    intro w' hS'
    have hl := (SetM.kept (w := w1.drew) (HS1.out.2.1.of_block rfl) hS' (Nat.le_refl _)).look hh
    go_simp
  clear hD; intro hD
  simp only [Act.put, List.setIfInBounds_toArray, List.set_cons_zero, List.set_cons_succ]
  refine wpAnyK_pure (i := 7) (v := ?v9_7b13) (fuel := 5) rfl (by kernel_rfl) (fun _ _ _ h => h) hD (Below.refl _ _) (.inl ⟨by kernel_rfl, ?y9_7b13⟩) ?n9_7b13
  case y9_7b13 => intro w' _; go_simp; with_reducible rfl
  clear hD; intro hD
  simp only [Act.put, List.setIfInBounds_toArray, List.set_cons_zero, List.set_cons_succ]
  refine wpAnyK_pure (i := 8) (v := ?v9_8b13) (fuel := 4) rfl (by kernel_rfl) (fun _ _ _ h => h) hD (Below.refl _ _) (.inl ⟨by kernel_rfl, ?y9_8b13⟩) ?n9_8b13
  case y9_8b13 => intro w' _; go_simp; with_reducible rfl
  clear hD; intro hD
  simp only [Act.put, List.setIfInBounds_toArray, List.set_cons_zero, List.set_cons_succ]
  refine wpAnyK_pure (i := 9) (v := ?v9_9b13) (fuel := 3) rfl (by kernel_rfl) (fun _ _ _ h => h) hD (Below.refl _ _) (.inl ⟨by kernel_rfl, ?y9_9b13⟩) ?n9_9b13
  case y9_9b13 => intro w' _; go_simp; with_reducible rfl
  clear hD; intro hD
  simp only [Act.put, List.setIfInBounds_toArray, List.set_cons_zero, List.set_cons_succ]
  refine wpAnyK_one (i := 10) (fuel := 2) (by kernel_rfl) rfl hD ?_
  clear hD; intro K10 hK10
  go_wp2
  refine hK10 _ _ (by exact (Below.refl _ _).alloc (Nat.le_refl _) _) ?_; clear hK10; intro hS_9_10 hD
  refine wpAnyK_one (i := 11) (fuel := 1) (by kernel_rfl) rfl hD ?_
  clear hD; intro K11 hK11
  go_wp2
  refine hK11 _ _ (by exact hS_9_10) ?_; clear hK11; intro hS_9_11 hD
  refine wpAnyK_one (i := 12) (fuel := 0) (by kernel_rfl) rfl hD ?_
  clear hD; intro K12 hK12
  go_wp2
  refine hK12 _ _ (by exact hS_9_11) ?_; clear hK12; intro hS_9_12 hD
  refine wpAnyK_done (by kernel_rfl) ?_ 0
  clear hD
  have HX := Lib.hid hS_9_12
  obtain ⟨w2, hw2⟩ : ∃ w2, (w1.alloc (.cells #[] 74)).drew = w2 := ⟨_, rfl⟩
  rw [hw2] at HX ⊢
  have e0 := cell_kept HX.out (Nat.le_refl _) d0
  have e1 := cell_kept HX.out (Nat.le_refl _) d1
  have e2 := cell_kept HX.out (Nat.le_refl _) d2
  have e3 := cell_kept HX.out (Nat.le_refl _) d3
  have HS2 := Lib.hid (StAt.kept (w := w1.drew) ⟨HS1.out.1, HS1.out.2.1.of_block rfl, HS1.out.2.2.1.of_block rfl, HS1.out.2.2.2⟩ HX.out (Nat.le_refl _))
  have HA2 := Lib.hid (HA1.out.drew.trans (HX.out.mono (by simp; omega)))
  have hz2 : w.heap.size + 1 ≤ w2.heap.size := Nat.le_trans hz1 HX.out.size
  clear d0 d1 d2 d3 s0 s1 s2 s3 hw2 HX
  have d0 := e0
  have d1 := e1
  have d2 := e2
  have d3 := e3
  clear e0 e1 e2 e3
  obtain ⟨s0, s1, s2, s3⟩ := four_cells HS2.out.1
  go_wp2
  refine wp_region_K 13 (Below (w2.drew).heap.size (w2.drew)) (by kernel_rfl) ?_
  intro hD
  refine wpAnyK_pure (i := 0) (v := ?v10_0b14) (fuel := 12) rfl (by kernel_rfl) (fun _ _ _ h => h) hD (Below.refl _ _) (.inl ⟨by kernel_rfl, ?y10_0b14⟩) ?n10_0b14
  case y10_0b14 => intro w' _; go_simp; with_reducible rfl
  clear hD; intro hD
  simp only [Act.put, List.setIfInBounds_toArray, List.set_cons_zero, List.set_cons_succ]
  refine wpAnyK_pure (i := 1) (v := ?v10_1b14) (fuel := 11) rfl (by kernel_rfl) (fun _ _ _ h => h) hD (Below.refl _ _) (.inl ⟨by kernel_rfl, ?y10_1b14⟩) ?n10_1b14
  case y10_1b14 => intro w' _; go_simp; with_reducible rfl
  clear hD; intro hD
  simp only [Act.put, List.setIfInBounds_toArray, List.set_cons_zero, List.set_cons_succ]
  refine wpAnyK_pure (i := 2) (v := ?v10_2b14) (fuel := 10) rfl (by kernel_rfl) (fun _ _ _ h => h) hD (Below.refl _ _) (.inl ⟨by kernel_rfl, ?y10_2b14⟩) ?n10_2b14
  case y10_2b14 => intro w' _; go_simp; with_reducible rfl
  clear hD; intro hD
  simp only [Act.put, List.setIfInBounds_toArray, List.set_cons_zero, List.set_cons_succ]
  refine wpAnyK_takeS (i := 3) (v := ?v10_3b14) (fuel := 9) rfl (by kernel_rfl) (by kernel_rfl) (fun _ _ _ h => h) hD (Below.refl _ _) (.inl ⟨by kernel_rfl, ?y10_3b14⟩) ?n10_3b14
  case y10_3b14 => intro w' hS'; have e0 := cell_kept hS' (Nat.le_refl _) s2; have e1 := cell_kept hS' (Nat.le_refl _) s3; have e2 := cell_kept hS' (Nat.le_refl _) d1; go_simp; with_reducible rfl
  clear hD; intro hD
  simp only [Act.put, List.setIfInBounds_toArray, List.set_cons_zero, List.set_cons_succ]
  refine wpAnyK_pure (i := 4) (v := ?v10_4b14) (fuel := 8) rfl (by kernel_rfl) (fun _ _ _ h => h) hD (Below.refl _ _) (.inl ⟨by kernel_rfl, ?y10_4b14⟩) ?n10_4b14
  case y10_4b14 => intro w' _; go_simp; with_reducible rfl
  clear hD; intro hD
  simp only [Act.put, List.setIfInBounds_toArray, List.set_cons_zero, List.set_cons_succ]
  refine wpAnyK_takeS (i := 5) (v := ?v10_5b14) (fuel := 7) rfl (by kernel_rfl) (by kernel_rfl) (fun _ _ _ h => h) hD (Below.refl _ _) (.inl ⟨by kernel_rfl, ?y10_5b14⟩) ?n10_5b14
  case y10_5b14 => intro w' hS'; have e0 := cell_kept hS' (Nat.le_refl _) s2; have e1 := cell_kept hS' (Nat.le_refl _) s3; have e2 := cell_kept hS' (Nat.le_refl _) d1; go_simp; with_reducible rfl
  clear hD; intro hD
  simp only [Act.put, List.setIfInBounds_toArray, List.set_cons_zero, List.set_cons_succ]
  refine wpAnyK_takeS (i := 6) (v := (.tuple #[.agg #[], .bool (R h)])) (fuel := 6) rfl (by kernel_rfl) (by kernel_rfl) (fun _ _ _ h => h) hD (Below.refl _ _) (.inl ⟨by kernel_rfl, ?y10_6b14⟩) ?n10_6b14
  case y10_6b14 =>
    intro w' hS'
    have hl := (SetM.kept (w := w2.drew) (HS2.out.2.2.1.of_block rfl) hS' (Nat.le_refl _)).look hh
    go_simp
  clear hD; intro hD
  simp only [Act.put, List.setIfInBounds_toArray, List.set_cons_zero, List.set_cons_succ]
  refine wpAnyK_pure (i := 7) (v := ?v10_7b14) (fuel := 5) rfl (by kernel_rfl) (fun _ _ _ h => h) hD (Below.refl _ _) (.inl ⟨by kernel_rfl, ?y10_7b14⟩) ?n10_7b14
  case y10_7b14 => intro w' _; go_simp; with_reducible rfl
  clear hD; intro hD
  simp only [Act.put, List.setIfInBounds_toArray, List.set_cons_zero, List.set_cons_succ]
  refine wpAnyK_pure (i := 8) (v := ?v10_8b14) (fuel := 4) rfl (by kernel_rfl) (fun _ _ _ h => h) hD (Below.refl _ _) (.inl ⟨by kernel_rfl, ?y10_8b14⟩) ?n10_8b14
  case y10_8b14 => intro w' _; go_simp; with_reducible rfl
  clear hD; intro hD
  simp only [Act.put, List.setIfInBounds_toArray, List.set_cons_zero, List.set_cons_succ]
  refine wpAnyK_pure (i := 9) (v := ?v10_9b14) (fuel := 3) rfl (by kernel_rfl) (fun _ _ _ h => h) hD (Below.refl _ _) (.inl ⟨by kernel_rfl, ?y10_9b14⟩) ?n10_9b14
  case y10_9b14 => intro w' _; go_simp; with_reducible rfl
  clear hD; intro hD
  simp only [Act.put, List.setIfInBounds_toArray, List.set_cons_zero, List.set_cons_succ]
  refine wpAnyK_one (i := 10) (fuel := 2) (by kernel_rfl) rfl hD ?_
  clear hD; intro K10 hK10
  go_wp2
  refine hK10 _ _ (by exact (Below.refl _ _).alloc (Nat.le_refl _) _) ?_; clear hK10; intro hS_10_10 hD
  refine wpAnyK_one (i := 11) (fuel := 1) (by kernel_rfl) rfl hD ?_
  clear hD; intro K11 hK11
  go_wp2
  refine hK11 _ _ (by exact hS_10_10) ?_; clear hK11; intro hS_10_11 hD
  refine wpAnyK_one (i := 12) (fuel := 0) (by kernel_rfl) rfl hD ?_
  clear hD; intro K12 hK12
  go_wp2
  refine hK12 _ _ (by exact hS_10_11) ?_; clear hK12; intro hS_10_12 hD
  refine wpAnyK_done (by kernel_rfl) ?_ 0
  clear hD
  have HX := Lib.hid hS_10_12
  obtain ⟨w3, hw2⟩ : ∃ w3, (w2.alloc (.cells #[] 74)).drew = w3 := ⟨_, rfl⟩
  rw [hw2] at HX ⊢
  have e0 := cell_kept HX.out (Nat.le_refl _) d0
  have e1 := cell_kept HX.out (Nat.le_refl _) d1
  have e2 := cell_kept HX.out (Nat.le_refl _) d2
  have e3 := cell_kept HX.out (Nat.le_refl _) d3
  have HS3 := Lib.hid (StAt.kept (w := w2.drew) ⟨HS2.out.1, HS2.out.2.1.of_block rfl, HS2.out.2.2.1.of_block rfl, HS2.out.2.2.2⟩ HX.out (Nat.le_refl _))
  have HA3 := Lib.hid (HA2.out.drew.trans (HX.out.mono (by simp; omega)))
  have hz3 : w.heap.size + 1 ≤ w3.heap.size := Nat.le_trans hz2 HX.out.size
  clear d0 d1 d2 d3 s0 s1 s2 s3 hw2 HX
  have d0 := e0
  have d1 := e1
  have d2 := e2
  have d3 := e3
  clear e0 e1 e2 e3
  obtain ⟨s0, s1, s2, s3⟩ := four_cells HS3.out.1
  go_wp2
  go_ret
  exact ⟨rfl, HA3.out⟩

set_option maxRecDepth 100000 in
set_option maxHeartbeats 4000000 in
theorem st_follows_1r (sb n m bi br : Nat) (I R : ByteArray → Bool) (q p : Int) (h s : ByteArray) (w : World) (hst : StAt w sb n m bi br I R) (hh : h.size ≤ maxLen) (hsc : s.size ≤ 9223372036854775807) (ms : ByteArray) (f : Int) (hm : msgS ⟨q, h, s, p⟩ = (ms, f)) (hf : f = 0) (hn : n < 4096) (hmm : m ≤ 4611686018427387903) (hq : (q == 2) = false) (hq0 : (q == 0) = false) (hq1 : (q == 1) = true) (hp : (p != (m : Int)) = false) (h0 : I h = true) (h1 : R h = true) : Calls Try.prog 38 #[.pointer (some ⟨sb, 0, none⟩), .agg #[.int .i64 q, .string h, .string s, .int .i64 p]] w (Ret (.int .i64 20) w) := by
  subst hf
  have HM := Lib.hid hm
  clear hm
  obtain ⟨W0, hW0⟩ : ∃ W0, w.alloc (.cells #[.int .i64 q, .string h, .string s, .int .i64 p] 24) = W0 := ⟨_, rfl⟩
  have hbox : W0.heap[w.heap.size]? = some (.cells #[.int .i64 q, .string h, .string s, .int .i64 p] 24 (0, 0)) := by rw [← hW0]; exact heap_alloc_new _ _
  have hb0 : Below w.heap.size w W0 := by rw [← hW0]; exact (Below.refl _ _).alloc (Nat.le_refl _) _
  have hz : w.heap.size + 1 ≤ W0.heap.size := block_lt hbox
  obtain ⟨b0, b1, b2, b3⟩ := four_cells hbox
  have HW0 := Lib.hid hW0
  have HA0 := Lib.hid hb0
  have HS0 := Lib.hid (hst.kept hb0 (Nat.le_refl _))
  clear hW0 hbox hb0 hst
  go_enter Try.func38, Try.ntmps38
  go_wp2_with fail
  rw [HW0.out]
  refine (led_Message ⟨q, h, s, p⟩ _ (by unfold maxLen at hh; omega) hsc).mono ?_
  rintro e w1 ⟨rfl, hb1⟩
  have d0 := cell_kept hb1 (Nat.le_refl _) b0
  have d1 := cell_kept hb1 (Nat.le_refl _) b1
  have d2 := cell_kept hb1 (Nat.le_refl _) b2
  have d3 := cell_kept hb1 (Nat.le_refl _) b3
  have hz1 : w.heap.size + 1 ≤ w1.heap.size := Nat.le_trans hz hb1.size
  have HA1 := Lib.hid (HA0.out.trans (hb1.mono (by omega)))
  have hst1 := HS0.out.kept hb1 (Nat.le_refl _)
  obtain ⟨s0, s1, s2, s3⟩ := four_cells hst1.1
  have HS1 := Lib.hid hst1
  rw [HM.out]
  clear b0 b1 b2 b3 HA0 HS0 HW0 hb1 hz hst1
  go_wp2
  refine wp_region_K 13 (Below (w1.drew).heap.size (w1.drew)) (by kernel_rfl) ?_
  intro hD
  refine wpAnyK_pure (i := 0) (v := ?v9_0b15) (fuel := 12) rfl (by kernel_rfl) (fun _ _ _ h => h) hD (Below.refl _ _) (.inl ⟨by kernel_rfl, ?y9_0b15⟩) ?n9_0b15
  case y9_0b15 => intro w' _; go_simp; with_reducible rfl
  clear hD; intro hD
  simp only [Act.put, List.setIfInBounds_toArray, List.set_cons_zero, List.set_cons_succ]
  refine wpAnyK_pure (i := 1) (v := ?v9_1b15) (fuel := 11) rfl (by kernel_rfl) (fun _ _ _ h => h) hD (Below.refl _ _) (.inl ⟨by kernel_rfl, ?y9_1b15⟩) ?n9_1b15
  case y9_1b15 => intro w' _; go_simp; with_reducible rfl
  clear hD; intro hD
  simp only [Act.put, List.setIfInBounds_toArray, List.set_cons_zero, List.set_cons_succ]
  refine wpAnyK_pure (i := 2) (v := ?v9_2b15) (fuel := 10) rfl (by kernel_rfl) (fun _ _ _ h => h) hD (Below.refl _ _) (.inl ⟨by kernel_rfl, ?y9_2b15⟩) ?n9_2b15
  case y9_2b15 => intro w' _; go_simp; with_reducible rfl
  clear hD; intro hD
  simp only [Act.put, List.setIfInBounds_toArray, List.set_cons_zero, List.set_cons_succ]
  refine wpAnyK_takeS (i := 3) (v := ?v9_3b15) (fuel := 9) rfl (by kernel_rfl) (by kernel_rfl) (fun _ _ _ h => h) hD (Below.refl _ _) (.inl ⟨by kernel_rfl, ?y9_3b15⟩) ?n9_3b15
  case y9_3b15 => intro w' hS'; have e0 := cell_kept hS' (Nat.le_refl _) s2; have e1 := cell_kept hS' (Nat.le_refl _) s3; have e2 := cell_kept hS' (Nat.le_refl _) d1; go_simp; with_reducible rfl
  clear hD; intro hD
  simp only [Act.put, List.setIfInBounds_toArray, List.set_cons_zero, List.set_cons_succ]
  refine wpAnyK_pure (i := 4) (v := ?v9_4b15) (fuel := 8) rfl (by kernel_rfl) (fun _ _ _ h => h) hD (Below.refl _ _) (.inl ⟨by kernel_rfl, ?y9_4b15⟩) ?n9_4b15
  case y9_4b15 => intro w' _; go_simp; with_reducible rfl
  clear hD; intro hD
  simp only [Act.put, List.setIfInBounds_toArray, List.set_cons_zero, List.set_cons_succ]
  refine wpAnyK_takeS (i := 5) (v := ?v9_5b15) (fuel := 7) rfl (by kernel_rfl) (by kernel_rfl) (fun _ _ _ h => h) hD (Below.refl _ _) (.inl ⟨by kernel_rfl, ?y9_5b15⟩) ?n9_5b15
  case y9_5b15 => intro w' hS'; have e0 := cell_kept hS' (Nat.le_refl _) s2; have e1 := cell_kept hS' (Nat.le_refl _) s3; have e2 := cell_kept hS' (Nat.le_refl _) d1; go_simp; with_reducible rfl
  clear hD; intro hD
  simp only [Act.put, List.setIfInBounds_toArray, List.set_cons_zero, List.set_cons_succ]
  refine wpAnyK_takeS (i := 6) (v := (.tuple #[.agg #[], .bool (I h)])) (fuel := 6) rfl (by kernel_rfl) (by kernel_rfl) (fun _ _ _ h => h) hD (Below.refl _ _) (.inl ⟨by kernel_rfl, ?y9_6b15⟩) ?n9_6b15
  case y9_6b15 =>
    intro w' hS'
    have hl := (SetM.kept (w := w1.drew) (HS1.out.2.1.of_block rfl) hS' (Nat.le_refl _)).look hh
    go_simp
  clear hD; intro hD
  simp only [Act.put, List.setIfInBounds_toArray, List.set_cons_zero, List.set_cons_succ]
  refine wpAnyK_pure (i := 7) (v := ?v9_7b15) (fuel := 5) rfl (by kernel_rfl) (fun _ _ _ h => h) hD (Below.refl _ _) (.inl ⟨by kernel_rfl, ?y9_7b15⟩) ?n9_7b15
  case y9_7b15 => intro w' _; go_simp; with_reducible rfl
  clear hD; intro hD
  simp only [Act.put, List.setIfInBounds_toArray, List.set_cons_zero, List.set_cons_succ]
  refine wpAnyK_pure (i := 8) (v := ?v9_8b15) (fuel := 4) rfl (by kernel_rfl) (fun _ _ _ h => h) hD (Below.refl _ _) (.inl ⟨by kernel_rfl, ?y9_8b15⟩) ?n9_8b15
  case y9_8b15 => intro w' _; go_simp; with_reducible rfl
  clear hD; intro hD
  simp only [Act.put, List.setIfInBounds_toArray, List.set_cons_zero, List.set_cons_succ]
  refine wpAnyK_pure (i := 9) (v := ?v9_9b15) (fuel := 3) rfl (by kernel_rfl) (fun _ _ _ h => h) hD (Below.refl _ _) (.inl ⟨by kernel_rfl, ?y9_9b15⟩) ?n9_9b15
  case y9_9b15 => intro w' _; go_simp; with_reducible rfl
  clear hD; intro hD
  simp only [Act.put, List.setIfInBounds_toArray, List.set_cons_zero, List.set_cons_succ]
  refine wpAnyK_one (i := 10) (fuel := 2) (by kernel_rfl) rfl hD ?_
  clear hD; intro K10 hK10
  go_wp2
  refine hK10 _ _ (by exact (Below.refl _ _).alloc (Nat.le_refl _) _) ?_; clear hK10; intro hS_9_10 hD
  refine wpAnyK_one (i := 11) (fuel := 1) (by kernel_rfl) rfl hD ?_
  clear hD; intro K11 hK11
  go_wp2
  refine hK11 _ _ (by exact hS_9_10) ?_; clear hK11; intro hS_9_11 hD
  refine wpAnyK_one (i := 12) (fuel := 0) (by kernel_rfl) rfl hD ?_
  clear hD; intro K12 hK12
  go_wp2
  refine hK12 _ _ (by exact hS_9_11) ?_; clear hK12; intro hS_9_12 hD
  refine wpAnyK_done (by kernel_rfl) ?_ 0
  clear hD
  have HX := Lib.hid hS_9_12
  obtain ⟨w2, hw2⟩ : ∃ w2, (w1.alloc (.cells #[] 74)).drew = w2 := ⟨_, rfl⟩
  rw [hw2] at HX ⊢
  have e0 := cell_kept HX.out (Nat.le_refl _) d0
  have e1 := cell_kept HX.out (Nat.le_refl _) d1
  have e2 := cell_kept HX.out (Nat.le_refl _) d2
  have e3 := cell_kept HX.out (Nat.le_refl _) d3
  have HS2 := Lib.hid (StAt.kept (w := w1.drew) ⟨HS1.out.1, HS1.out.2.1.of_block rfl, HS1.out.2.2.1.of_block rfl, HS1.out.2.2.2⟩ HX.out (Nat.le_refl _))
  have HA2 := Lib.hid (HA1.out.drew.trans (HX.out.mono (by simp; omega)))
  have hz2 : w.heap.size + 1 ≤ w2.heap.size := Nat.le_trans hz1 HX.out.size
  clear d0 d1 d2 d3 s0 s1 s2 s3 hw2 HX
  have d0 := e0
  have d1 := e1
  have d2 := e2
  have d3 := e3
  clear e0 e1 e2 e3
  obtain ⟨s0, s1, s2, s3⟩ := four_cells HS2.out.1
  go_wp2
  refine wp_region_K 13 (Below (w2.drew).heap.size (w2.drew)) (by kernel_rfl) ?_
  intro hD
  refine wpAnyK_pure (i := 0) (v := ?v10_0b16) (fuel := 12) rfl (by kernel_rfl) (fun _ _ _ h => h) hD (Below.refl _ _) (.inl ⟨by kernel_rfl, ?y10_0b16⟩) ?n10_0b16
  case y10_0b16 => intro w' _; go_simp; with_reducible rfl
  clear hD; intro hD
  simp only [Act.put, List.setIfInBounds_toArray, List.set_cons_zero, List.set_cons_succ]
  refine wpAnyK_pure (i := 1) (v := ?v10_1b16) (fuel := 11) rfl (by kernel_rfl) (fun _ _ _ h => h) hD (Below.refl _ _) (.inl ⟨by kernel_rfl, ?y10_1b16⟩) ?n10_1b16
  case y10_1b16 => intro w' _; go_simp; with_reducible rfl
  clear hD; intro hD
  simp only [Act.put, List.setIfInBounds_toArray, List.set_cons_zero, List.set_cons_succ]
  refine wpAnyK_pure (i := 2) (v := ?v10_2b16) (fuel := 10) rfl (by kernel_rfl) (fun _ _ _ h => h) hD (Below.refl _ _) (.inl ⟨by kernel_rfl, ?y10_2b16⟩) ?n10_2b16
  case y10_2b16 => intro w' _; go_simp; with_reducible rfl
  clear hD; intro hD
  simp only [Act.put, List.setIfInBounds_toArray, List.set_cons_zero, List.set_cons_succ]
  refine wpAnyK_takeS (i := 3) (v := ?v10_3b16) (fuel := 9) rfl (by kernel_rfl) (by kernel_rfl) (fun _ _ _ h => h) hD (Below.refl _ _) (.inl ⟨by kernel_rfl, ?y10_3b16⟩) ?n10_3b16
  case y10_3b16 => intro w' hS'; have e0 := cell_kept hS' (Nat.le_refl _) s2; have e1 := cell_kept hS' (Nat.le_refl _) s3; have e2 := cell_kept hS' (Nat.le_refl _) d1; go_simp; with_reducible rfl
  clear hD; intro hD
  simp only [Act.put, List.setIfInBounds_toArray, List.set_cons_zero, List.set_cons_succ]
  refine wpAnyK_pure (i := 4) (v := ?v10_4b16) (fuel := 8) rfl (by kernel_rfl) (fun _ _ _ h => h) hD (Below.refl _ _) (.inl ⟨by kernel_rfl, ?y10_4b16⟩) ?n10_4b16
  case y10_4b16 => intro w' _; go_simp; with_reducible rfl
  clear hD; intro hD
  simp only [Act.put, List.setIfInBounds_toArray, List.set_cons_zero, List.set_cons_succ]
  refine wpAnyK_takeS (i := 5) (v := ?v10_5b16) (fuel := 7) rfl (by kernel_rfl) (by kernel_rfl) (fun _ _ _ h => h) hD (Below.refl _ _) (.inl ⟨by kernel_rfl, ?y10_5b16⟩) ?n10_5b16
  case y10_5b16 => intro w' hS'; have e0 := cell_kept hS' (Nat.le_refl _) s2; have e1 := cell_kept hS' (Nat.le_refl _) s3; have e2 := cell_kept hS' (Nat.le_refl _) d1; go_simp; with_reducible rfl
  clear hD; intro hD
  simp only [Act.put, List.setIfInBounds_toArray, List.set_cons_zero, List.set_cons_succ]
  refine wpAnyK_takeS (i := 6) (v := (.tuple #[.agg #[], .bool (R h)])) (fuel := 6) rfl (by kernel_rfl) (by kernel_rfl) (fun _ _ _ h => h) hD (Below.refl _ _) (.inl ⟨by kernel_rfl, ?y10_6b16⟩) ?n10_6b16
  case y10_6b16 =>
    intro w' hS'
    have hl := (SetM.kept (w := w2.drew) (HS2.out.2.2.1.of_block rfl) hS' (Nat.le_refl _)).look hh
    go_simp
  clear hD; intro hD
  simp only [Act.put, List.setIfInBounds_toArray, List.set_cons_zero, List.set_cons_succ]
  refine wpAnyK_pure (i := 7) (v := ?v10_7b16) (fuel := 5) rfl (by kernel_rfl) (fun _ _ _ h => h) hD (Below.refl _ _) (.inl ⟨by kernel_rfl, ?y10_7b16⟩) ?n10_7b16
  case y10_7b16 => intro w' _; go_simp; with_reducible rfl
  clear hD; intro hD
  simp only [Act.put, List.setIfInBounds_toArray, List.set_cons_zero, List.set_cons_succ]
  refine wpAnyK_pure (i := 8) (v := ?v10_8b16) (fuel := 4) rfl (by kernel_rfl) (fun _ _ _ h => h) hD (Below.refl _ _) (.inl ⟨by kernel_rfl, ?y10_8b16⟩) ?n10_8b16
  case y10_8b16 => intro w' _; go_simp; with_reducible rfl
  clear hD; intro hD
  simp only [Act.put, List.setIfInBounds_toArray, List.set_cons_zero, List.set_cons_succ]
  refine wpAnyK_pure (i := 9) (v := ?v10_9b16) (fuel := 3) rfl (by kernel_rfl) (fun _ _ _ h => h) hD (Below.refl _ _) (.inl ⟨by kernel_rfl, ?y10_9b16⟩) ?n10_9b16
  case y10_9b16 => intro w' _; go_simp; with_reducible rfl
  clear hD; intro hD
  simp only [Act.put, List.setIfInBounds_toArray, List.set_cons_zero, List.set_cons_succ]
  refine wpAnyK_one (i := 10) (fuel := 2) (by kernel_rfl) rfl hD ?_
  clear hD; intro K10 hK10
  go_wp2
  refine hK10 _ _ (by exact (Below.refl _ _).alloc (Nat.le_refl _) _) ?_; clear hK10; intro hS_10_10 hD
  refine wpAnyK_one (i := 11) (fuel := 1) (by kernel_rfl) rfl hD ?_
  clear hD; intro K11 hK11
  go_wp2
  refine hK11 _ _ (by exact hS_10_10) ?_; clear hK11; intro hS_10_11 hD
  refine wpAnyK_one (i := 12) (fuel := 0) (by kernel_rfl) rfl hD ?_
  clear hD; intro K12 hK12
  go_wp2
  refine hK12 _ _ (by exact hS_10_11) ?_; clear hK12; intro hS_10_12 hD
  refine wpAnyK_done (by kernel_rfl) ?_ 0
  clear hD
  have HX := Lib.hid hS_10_12
  obtain ⟨w3, hw2⟩ : ∃ w3, (w2.alloc (.cells #[] 74)).drew = w3 := ⟨_, rfl⟩
  rw [hw2] at HX ⊢
  have e0 := cell_kept HX.out (Nat.le_refl _) d0
  have e1 := cell_kept HX.out (Nat.le_refl _) d1
  have e2 := cell_kept HX.out (Nat.le_refl _) d2
  have e3 := cell_kept HX.out (Nat.le_refl _) d3
  have HS3 := Lib.hid (StAt.kept (w := w2.drew) ⟨HS2.out.1, HS2.out.2.1.of_block rfl, HS2.out.2.2.1.of_block rfl, HS2.out.2.2.2⟩ HX.out (Nat.le_refl _))
  have HA3 := Lib.hid (HA2.out.drew.trans (HX.out.mono (by simp; omega)))
  have hz3 : w.heap.size + 1 ≤ w3.heap.size := Nat.le_trans hz2 HX.out.size
  clear d0 d1 d2 d3 s0 s1 s2 s3 hw2 HX
  have d0 := e0
  have d1 := e1
  have d2 := e2
  have d3 := e3
  clear e0 e1 e2 e3
  obtain ⟨s0, s1, s2, s3⟩ := four_cells HS3.out.1
  go_wp2
  go_ret
  exact ⟨rfl, HA3.out⟩

set_option maxRecDepth 100000 in
set_option maxHeartbeats 4000000 in
theorem st_follows_1ok (sb n m bi br : Nat) (I R : ByteArray → Bool) (q p : Int) (h s : ByteArray) (w : World) (hst : StAt w sb n m bi br I R) (hh : h.size ≤ maxLen) (hsc : s.size ≤ 9223372036854775807) (ms : ByteArray) (f : Int) (hm : msgS ⟨q, h, s, p⟩ = (ms, f)) (hf : f = 0) (hn : n < 4096) (hmm : m ≤ 4611686018427387903) (hq : (q == 2) = false) (hq0 : (q == 0) = false) (hq1 : (q == 1) = true) (hp : (p != (m : Int)) = false) (h0 : I h = true) (h1 : R h = false) : Calls Try.prog 38 #[.pointer (some ⟨sb, 0, none⟩), .agg #[.int .i64 q, .string h, .string s, .int .i64 p]] w (Ret (.int .i64 0) w) := by
  subst hf
  have HM := Lib.hid hm
  clear hm
  obtain ⟨W0, hW0⟩ : ∃ W0, w.alloc (.cells #[.int .i64 q, .string h, .string s, .int .i64 p] 24) = W0 := ⟨_, rfl⟩
  have hbox : W0.heap[w.heap.size]? = some (.cells #[.int .i64 q, .string h, .string s, .int .i64 p] 24 (0, 0)) := by rw [← hW0]; exact heap_alloc_new _ _
  have hb0 : Below w.heap.size w W0 := by rw [← hW0]; exact (Below.refl _ _).alloc (Nat.le_refl _) _
  have hz : w.heap.size + 1 ≤ W0.heap.size := block_lt hbox
  obtain ⟨b0, b1, b2, b3⟩ := four_cells hbox
  have HW0 := Lib.hid hW0
  have HA0 := Lib.hid hb0
  have HS0 := Lib.hid (hst.kept hb0 (Nat.le_refl _))
  clear hW0 hbox hb0 hst
  go_enter Try.func38, Try.ntmps38
  go_wp2_with fail
  rw [HW0.out]
  refine (led_Message ⟨q, h, s, p⟩ _ (by unfold maxLen at hh; omega) hsc).mono ?_
  rintro e w1 ⟨rfl, hb1⟩
  have d0 := cell_kept hb1 (Nat.le_refl _) b0
  have d1 := cell_kept hb1 (Nat.le_refl _) b1
  have d2 := cell_kept hb1 (Nat.le_refl _) b2
  have d3 := cell_kept hb1 (Nat.le_refl _) b3
  have hz1 : w.heap.size + 1 ≤ w1.heap.size := Nat.le_trans hz hb1.size
  have HA1 := Lib.hid (HA0.out.trans (hb1.mono (by omega)))
  have hst1 := HS0.out.kept hb1 (Nat.le_refl _)
  obtain ⟨s0, s1, s2, s3⟩ := four_cells hst1.1
  have HS1 := Lib.hid hst1
  rw [HM.out]
  clear b0 b1 b2 b3 HA0 HS0 HW0 hb1 hz hst1
  go_wp2
  refine wp_region_K 13 (Below (w1.drew).heap.size (w1.drew)) (by kernel_rfl) ?_
  intro hD
  refine wpAnyK_pure (i := 0) (v := ?v9_0b17) (fuel := 12) rfl (by kernel_rfl) (fun _ _ _ h => h) hD (Below.refl _ _) (.inl ⟨by kernel_rfl, ?y9_0b17⟩) ?n9_0b17
  case y9_0b17 => intro w' _; go_simp; with_reducible rfl
  clear hD; intro hD
  simp only [Act.put, List.setIfInBounds_toArray, List.set_cons_zero, List.set_cons_succ]
  refine wpAnyK_pure (i := 1) (v := ?v9_1b17) (fuel := 11) rfl (by kernel_rfl) (fun _ _ _ h => h) hD (Below.refl _ _) (.inl ⟨by kernel_rfl, ?y9_1b17⟩) ?n9_1b17
  case y9_1b17 => intro w' _; go_simp; with_reducible rfl
  clear hD; intro hD
  simp only [Act.put, List.setIfInBounds_toArray, List.set_cons_zero, List.set_cons_succ]
  refine wpAnyK_pure (i := 2) (v := ?v9_2b17) (fuel := 10) rfl (by kernel_rfl) (fun _ _ _ h => h) hD (Below.refl _ _) (.inl ⟨by kernel_rfl, ?y9_2b17⟩) ?n9_2b17
  case y9_2b17 => intro w' _; go_simp; with_reducible rfl
  clear hD; intro hD
  simp only [Act.put, List.setIfInBounds_toArray, List.set_cons_zero, List.set_cons_succ]
  refine wpAnyK_takeS (i := 3) (v := ?v9_3b17) (fuel := 9) rfl (by kernel_rfl) (by kernel_rfl) (fun _ _ _ h => h) hD (Below.refl _ _) (.inl ⟨by kernel_rfl, ?y9_3b17⟩) ?n9_3b17
  case y9_3b17 => intro w' hS'; have e0 := cell_kept hS' (Nat.le_refl _) s2; have e1 := cell_kept hS' (Nat.le_refl _) s3; have e2 := cell_kept hS' (Nat.le_refl _) d1; go_simp; with_reducible rfl
  clear hD; intro hD
  simp only [Act.put, List.setIfInBounds_toArray, List.set_cons_zero, List.set_cons_succ]
  refine wpAnyK_pure (i := 4) (v := ?v9_4b17) (fuel := 8) rfl (by kernel_rfl) (fun _ _ _ h => h) hD (Below.refl _ _) (.inl ⟨by kernel_rfl, ?y9_4b17⟩) ?n9_4b17
  case y9_4b17 => intro w' _; go_simp; with_reducible rfl
  clear hD; intro hD
  simp only [Act.put, List.setIfInBounds_toArray, List.set_cons_zero, List.set_cons_succ]
  refine wpAnyK_takeS (i := 5) (v := ?v9_5b17) (fuel := 7) rfl (by kernel_rfl) (by kernel_rfl) (fun _ _ _ h => h) hD (Below.refl _ _) (.inl ⟨by kernel_rfl, ?y9_5b17⟩) ?n9_5b17
  case y9_5b17 => intro w' hS'; have e0 := cell_kept hS' (Nat.le_refl _) s2; have e1 := cell_kept hS' (Nat.le_refl _) s3; have e2 := cell_kept hS' (Nat.le_refl _) d1; go_simp; with_reducible rfl
  clear hD; intro hD
  simp only [Act.put, List.setIfInBounds_toArray, List.set_cons_zero, List.set_cons_succ]
  refine wpAnyK_takeS (i := 6) (v := (.tuple #[.agg #[], .bool (I h)])) (fuel := 6) rfl (by kernel_rfl) (by kernel_rfl) (fun _ _ _ h => h) hD (Below.refl _ _) (.inl ⟨by kernel_rfl, ?y9_6b17⟩) ?n9_6b17
  case y9_6b17 =>
    intro w' hS'
    have hl := (SetM.kept (w := w1.drew) (HS1.out.2.1.of_block rfl) hS' (Nat.le_refl _)).look hh
    go_simp
  clear hD; intro hD
  simp only [Act.put, List.setIfInBounds_toArray, List.set_cons_zero, List.set_cons_succ]
  refine wpAnyK_pure (i := 7) (v := ?v9_7b17) (fuel := 5) rfl (by kernel_rfl) (fun _ _ _ h => h) hD (Below.refl _ _) (.inl ⟨by kernel_rfl, ?y9_7b17⟩) ?n9_7b17
  case y9_7b17 => intro w' _; go_simp; with_reducible rfl
  clear hD; intro hD
  simp only [Act.put, List.setIfInBounds_toArray, List.set_cons_zero, List.set_cons_succ]
  refine wpAnyK_pure (i := 8) (v := ?v9_8b17) (fuel := 4) rfl (by kernel_rfl) (fun _ _ _ h => h) hD (Below.refl _ _) (.inl ⟨by kernel_rfl, ?y9_8b17⟩) ?n9_8b17
  case y9_8b17 => intro w' _; go_simp; with_reducible rfl
  clear hD; intro hD
  simp only [Act.put, List.setIfInBounds_toArray, List.set_cons_zero, List.set_cons_succ]
  refine wpAnyK_pure (i := 9) (v := ?v9_9b17) (fuel := 3) rfl (by kernel_rfl) (fun _ _ _ h => h) hD (Below.refl _ _) (.inl ⟨by kernel_rfl, ?y9_9b17⟩) ?n9_9b17
  case y9_9b17 => intro w' _; go_simp; with_reducible rfl
  clear hD; intro hD
  simp only [Act.put, List.setIfInBounds_toArray, List.set_cons_zero, List.set_cons_succ]
  refine wpAnyK_one (i := 10) (fuel := 2) (by kernel_rfl) rfl hD ?_
  clear hD; intro K10 hK10
  go_wp2
  refine hK10 _ _ (by exact (Below.refl _ _).alloc (Nat.le_refl _) _) ?_; clear hK10; intro hS_9_10 hD
  refine wpAnyK_one (i := 11) (fuel := 1) (by kernel_rfl) rfl hD ?_
  clear hD; intro K11 hK11
  go_wp2
  refine hK11 _ _ (by exact hS_9_10) ?_; clear hK11; intro hS_9_11 hD
  refine wpAnyK_one (i := 12) (fuel := 0) (by kernel_rfl) rfl hD ?_
  clear hD; intro K12 hK12
  go_wp2
  refine hK12 _ _ (by exact hS_9_11) ?_; clear hK12; intro hS_9_12 hD
  refine wpAnyK_done (by kernel_rfl) ?_ 0
  clear hD
  have HX := Lib.hid hS_9_12
  obtain ⟨w2, hw2⟩ : ∃ w2, (w1.alloc (.cells #[] 74)).drew = w2 := ⟨_, rfl⟩
  rw [hw2] at HX ⊢
  have e0 := cell_kept HX.out (Nat.le_refl _) d0
  have e1 := cell_kept HX.out (Nat.le_refl _) d1
  have e2 := cell_kept HX.out (Nat.le_refl _) d2
  have e3 := cell_kept HX.out (Nat.le_refl _) d3
  have HS2 := Lib.hid (StAt.kept (w := w1.drew) ⟨HS1.out.1, HS1.out.2.1.of_block rfl, HS1.out.2.2.1.of_block rfl, HS1.out.2.2.2⟩ HX.out (Nat.le_refl _))
  have HA2 := Lib.hid (HA1.out.drew.trans (HX.out.mono (by simp; omega)))
  have hz2 : w.heap.size + 1 ≤ w2.heap.size := Nat.le_trans hz1 HX.out.size
  clear d0 d1 d2 d3 s0 s1 s2 s3 hw2 HX
  have d0 := e0
  have d1 := e1
  have d2 := e2
  have d3 := e3
  clear e0 e1 e2 e3
  obtain ⟨s0, s1, s2, s3⟩ := four_cells HS2.out.1
  go_wp2
  refine wp_region_K 13 (Below (w2.drew).heap.size (w2.drew)) (by kernel_rfl) ?_
  intro hD
  refine wpAnyK_pure (i := 0) (v := ?v10_0b18) (fuel := 12) rfl (by kernel_rfl) (fun _ _ _ h => h) hD (Below.refl _ _) (.inl ⟨by kernel_rfl, ?y10_0b18⟩) ?n10_0b18
  case y10_0b18 => intro w' _; go_simp; with_reducible rfl
  clear hD; intro hD
  simp only [Act.put, List.setIfInBounds_toArray, List.set_cons_zero, List.set_cons_succ]
  refine wpAnyK_pure (i := 1) (v := ?v10_1b18) (fuel := 11) rfl (by kernel_rfl) (fun _ _ _ h => h) hD (Below.refl _ _) (.inl ⟨by kernel_rfl, ?y10_1b18⟩) ?n10_1b18
  case y10_1b18 => intro w' _; go_simp; with_reducible rfl
  clear hD; intro hD
  simp only [Act.put, List.setIfInBounds_toArray, List.set_cons_zero, List.set_cons_succ]
  refine wpAnyK_pure (i := 2) (v := ?v10_2b18) (fuel := 10) rfl (by kernel_rfl) (fun _ _ _ h => h) hD (Below.refl _ _) (.inl ⟨by kernel_rfl, ?y10_2b18⟩) ?n10_2b18
  case y10_2b18 => intro w' _; go_simp; with_reducible rfl
  clear hD; intro hD
  simp only [Act.put, List.setIfInBounds_toArray, List.set_cons_zero, List.set_cons_succ]
  refine wpAnyK_takeS (i := 3) (v := ?v10_3b18) (fuel := 9) rfl (by kernel_rfl) (by kernel_rfl) (fun _ _ _ h => h) hD (Below.refl _ _) (.inl ⟨by kernel_rfl, ?y10_3b18⟩) ?n10_3b18
  case y10_3b18 => intro w' hS'; have e0 := cell_kept hS' (Nat.le_refl _) s2; have e1 := cell_kept hS' (Nat.le_refl _) s3; have e2 := cell_kept hS' (Nat.le_refl _) d1; go_simp; with_reducible rfl
  clear hD; intro hD
  simp only [Act.put, List.setIfInBounds_toArray, List.set_cons_zero, List.set_cons_succ]
  refine wpAnyK_pure (i := 4) (v := ?v10_4b18) (fuel := 8) rfl (by kernel_rfl) (fun _ _ _ h => h) hD (Below.refl _ _) (.inl ⟨by kernel_rfl, ?y10_4b18⟩) ?n10_4b18
  case y10_4b18 => intro w' _; go_simp; with_reducible rfl
  clear hD; intro hD
  simp only [Act.put, List.setIfInBounds_toArray, List.set_cons_zero, List.set_cons_succ]
  refine wpAnyK_takeS (i := 5) (v := ?v10_5b18) (fuel := 7) rfl (by kernel_rfl) (by kernel_rfl) (fun _ _ _ h => h) hD (Below.refl _ _) (.inl ⟨by kernel_rfl, ?y10_5b18⟩) ?n10_5b18
  case y10_5b18 => intro w' hS'; have e0 := cell_kept hS' (Nat.le_refl _) s2; have e1 := cell_kept hS' (Nat.le_refl _) s3; have e2 := cell_kept hS' (Nat.le_refl _) d1; go_simp; with_reducible rfl
  clear hD; intro hD
  simp only [Act.put, List.setIfInBounds_toArray, List.set_cons_zero, List.set_cons_succ]
  refine wpAnyK_takeS (i := 6) (v := (.tuple #[.agg #[], .bool (R h)])) (fuel := 6) rfl (by kernel_rfl) (by kernel_rfl) (fun _ _ _ h => h) hD (Below.refl _ _) (.inl ⟨by kernel_rfl, ?y10_6b18⟩) ?n10_6b18
  case y10_6b18 =>
    intro w' hS'
    have hl := (SetM.kept (w := w2.drew) (HS2.out.2.2.1.of_block rfl) hS' (Nat.le_refl _)).look hh
    go_simp
  clear hD; intro hD
  simp only [Act.put, List.setIfInBounds_toArray, List.set_cons_zero, List.set_cons_succ]
  refine wpAnyK_pure (i := 7) (v := ?v10_7b18) (fuel := 5) rfl (by kernel_rfl) (fun _ _ _ h => h) hD (Below.refl _ _) (.inl ⟨by kernel_rfl, ?y10_7b18⟩) ?n10_7b18
  case y10_7b18 => intro w' _; go_simp; with_reducible rfl
  clear hD; intro hD
  simp only [Act.put, List.setIfInBounds_toArray, List.set_cons_zero, List.set_cons_succ]
  refine wpAnyK_pure (i := 8) (v := ?v10_8b18) (fuel := 4) rfl (by kernel_rfl) (fun _ _ _ h => h) hD (Below.refl _ _) (.inl ⟨by kernel_rfl, ?y10_8b18⟩) ?n10_8b18
  case y10_8b18 => intro w' _; go_simp; with_reducible rfl
  clear hD; intro hD
  simp only [Act.put, List.setIfInBounds_toArray, List.set_cons_zero, List.set_cons_succ]
  refine wpAnyK_pure (i := 9) (v := ?v10_9b18) (fuel := 3) rfl (by kernel_rfl) (fun _ _ _ h => h) hD (Below.refl _ _) (.inl ⟨by kernel_rfl, ?y10_9b18⟩) ?n10_9b18
  case y10_9b18 => intro w' _; go_simp; with_reducible rfl
  clear hD; intro hD
  simp only [Act.put, List.setIfInBounds_toArray, List.set_cons_zero, List.set_cons_succ]
  refine wpAnyK_one (i := 10) (fuel := 2) (by kernel_rfl) rfl hD ?_
  clear hD; intro K10 hK10
  go_wp2
  refine hK10 _ _ (by exact (Below.refl _ _).alloc (Nat.le_refl _) _) ?_; clear hK10; intro hS_10_10 hD
  refine wpAnyK_one (i := 11) (fuel := 1) (by kernel_rfl) rfl hD ?_
  clear hD; intro K11 hK11
  go_wp2
  refine hK11 _ _ (by exact hS_10_10) ?_; clear hK11; intro hS_10_11 hD
  refine wpAnyK_one (i := 12) (fuel := 0) (by kernel_rfl) rfl hD ?_
  clear hD; intro K12 hK12
  go_wp2
  refine hK12 _ _ (by exact hS_10_11) ?_; clear hK12; intro hS_10_12 hD
  refine wpAnyK_done (by kernel_rfl) ?_ 0
  clear hD
  have HX := Lib.hid hS_10_12
  obtain ⟨w3, hw2⟩ : ∃ w3, (w2.alloc (.cells #[] 74)).drew = w3 := ⟨_, rfl⟩
  rw [hw2] at HX ⊢
  have e0 := cell_kept HX.out (Nat.le_refl _) d0
  have e1 := cell_kept HX.out (Nat.le_refl _) d1
  have e2 := cell_kept HX.out (Nat.le_refl _) d2
  have e3 := cell_kept HX.out (Nat.le_refl _) d3
  have HS3 := Lib.hid (StAt.kept (w := w2.drew) ⟨HS2.out.1, HS2.out.2.1.of_block rfl, HS2.out.2.2.1.of_block rfl, HS2.out.2.2.2⟩ HX.out (Nat.le_refl _))
  have HA3 := Lib.hid (HA2.out.drew.trans (HX.out.mono (by simp; omega)))
  have hz3 : w.heap.size + 1 ≤ w3.heap.size := Nat.le_trans hz2 HX.out.size
  clear d0 d1 d2 d3 s0 s1 s2 s3 hw2 HX
  have d0 := e0
  have d1 := e1
  have d2 := e2
  have d3 := e3
  clear e0 e1 e2 e3
  obtain ⟨s0, s1, s2, s3⟩ := four_cells HS3.out.1
  go_wp2
  go_ret
  exact ⟨rfl, HA3.out⟩

end Go.Proofs.Ythidhgniondkgaa

/- Walks: ledger.Append, dominoref57.Append. -/
import Derived.Test.YthidhgniondkgaaRow
import Derived.Test.YthidhgniondkgaaStOf
import Derived.Test.YthidhgniondkgaaFolC
set_option linter.unusedVariables false
set_option linter.unusedSimpArgs false
namespace Go.Proofs.Ythidhgniondkgaa
open Go.RowKit

/-- What Append returns. -/
def appS (l : List En) (e : En) : List En × Int := if followsS l e = 0 then (l ++ [e], 0) else ([], followsS l e)

/-- Sizes are those of strings. -/
def SzE (l : List En) : Prop := ∀ (k : Nat) (e : En), l[k]? = some e → e.handle.size ≤ maxLen


set_option maxRecDepth 100000 in
set_option maxHeartbeats 2000000 in
theorem led_Append_no (l : List En) (A : Option Addr) (len cap : Nat) (e : En) (w : World) (hs : SlE w A len cap l) (hlb : len ≤ 1000000000) (hsz : SzE l) (hh : e.handle.size ≤ maxLen) (hsc : e.schema.size ≤ 9223372036854775807) (f : Int) (hf : followsS l e = f) (hne : (f != 0) = true) (hll : l.length ≤ 1000000000) :
    Calls Try.prog 10 #[.slice A len cap, e.val] w (RetEs [] .i64 f w) := by
  obtain ⟨q, h, s, p⟩ := e
  show Calls Try.prog _ #[.slice A len cap, .agg #[.int .i64 q, .string h, .string s, .int .i64 p]] w _
  obtain ⟨W0, hW0⟩ : ∃ W0, w.alloc (.cells #[.int .i64 q, .string h, .string s, .int .i64 p] 24) = W0 := ⟨_, rfl⟩
  have hb0 : Below w.heap.size w W0 := by rw [← hW0]; exact (Below.refl _ _).alloc (Nat.le_refl _) _
  have hbox : W0.heap[w.heap.size]? = some (.cells #[.int .i64 q, .string h, .string s, .int .i64 p] 24 (0, 0)) := by rw [← hW0]; exact heap_alloc_new _ _
  obtain ⟨c0, c1, c2, c3⟩ := four_cells hbox
  have hz0 := block_lt hbox
  have HS0 := Lib.hid (hs.kept hb0 (Nat.le_refl _))
  have HB0 := Lib.hid hb0
  have HW0 := Lib.hid hW0
  have HF := Lib.hid hf
  have HSZ := Lib.hid hsz
  clear hb0 hW0 hf hsz hs hbox
  go_enter Try.func10, Try.ntmps10
  go_wp2
  rw [HW0.out]
  refine wp_region_K 3 (Below (W0.drew).heap.size (W0.drew)) (by kernel_rfl) ?_
  intro hD
  refine wpAnyK_pure (i := 0) (v := ?v1_0b1) (fuel := 4) rfl (by kernel_rfl) (fun _ _ _ h => h) hD (Below.refl _ _) (.inl ⟨by kernel_rfl, ?y1_0b1⟩) ?n1_0b1
  case y1_0b1 => intro w' _; go_simp; with_reducible rfl
  clear hD; intro hD
  simp only [Act.put, List.setIfInBounds_toArray, List.set_cons_zero, List.set_cons_succ]
  refine wpAnyK_take (i := 2) (v := ?v1_2b1) (fuel := 3) rfl (by kernel_rfl) (by kernel_rfl) (fun _ _ _ h => h) hD (Below.refl _ _) (.inl ⟨by kernel_rfl, ?y1_2b1⟩) ?n1_2b1
  case y1_2b1 => intro w' hS'; have e0 := cell_kept hS' (Nat.le_refl _) c0; have e1 := cell_kept hS' (Nat.le_refl _) c1; have e2 := cell_kept hS' (Nat.le_refl _) c2; have e3 := cell_kept hS' (Nat.le_refl _) c3; go_simp; with_reducible rfl
  clear hD; intro hD
  simp only [Act.put, List.setIfInBounds_toArray, List.set_cons_zero, List.set_cons_succ]
  refine wpAnyK_one (i := 1) (fuel := 2) (by kernel_rfl) rfl hD ?_
  clear hD; intro K1 hK1
  go_wp2_with fail
  refine (led_stateOf l A len cap _ (HS0.out.kept (Below.refl _ _).drew (Nat.le_refl _)) (by omega) HSZ.out).mono ?_
  rintro e1 w1 ⟨sb, bi, br, rfl, hst, hB1, hB2, hB3, hb1⟩
  have HB1 := Lib.hid hb1
  have HST := Lib.hid hst
  clear hst hB1 hB2 hB3 hb1
  go_wp2
  refine hK1 _ _ (by exact HB1.out) ?_; clear hK1; intro hS_1_1 hD
  refine wpAnyK_oneT (i := 3) (fuel := 1) (by kernel_rfl) rfl hD (by kernel_rfl) ?_
  clear hD; intro K3 hK3
  go_wp2_with fail
  refine (st_follows sb _ _ bi br _ _ ⟨q, h, s, p⟩ _ HST.out hh hsc (by have := epochN_le l; omega)).mono ?_
  rintro e2 w2 ⟨rfl, hb2⟩
  have HB3 := Lib.hid hb2
  clear hb2
  rw [show folF (msgS ⟨q, h, s, p⟩).2 l.length (epochN l) (hasB l 0 (En.mk q h s p).handle) (hasB l 1 (En.mk q h s p).handle) (En.mk q h s p).kind (En.mk q h s p).epoch = followsS l ⟨q, h, s, p⟩ from rfl, HF.out]
  go_wp2
  refine hK3 _ _ ?_; clear hK3; intro hD
  refine wpAnyK_oneT (i := 4) (fuel := 0) (by kernel_rfl) rfl hD (by kernel_rfl) ?_
  clear hD; intro K4 hK4
  go_wp2
  refine hK4 _ _ ?_; clear hK4; intro hD
  refine wpAnyK_done (by kernel_rfl) ?_ 0
  clear hD
  have HX := Lib.hid (Below.trans hS_1_1 (Below.mono HB3.out (Below.size hS_1_1)))
  go_wp2
  go_ret2
  exact ⟨none, 0, rfl, SlE.nil _ _ (by omega) _, HB0.out.drew.trans (HX.out.mono (by simp; omega))⟩

set_option maxRecDepth 100000 in
set_option maxHeartbeats 2000000 in
theorem led_Append_yes (l : List En) (A : Option Addr) (len cap : Nat) (e : En) (w : World) (hs : SlE w A len cap l) (hlb : len ≤ 1000000000) (hsz : SzE l) (hh : e.handle.size ≤ maxLen) (hsc : e.schema.size ≤ 9223372036854775807) (hf : followsS l e = 0) (hll : l.length ≤ 1000000000) :
    Calls Try.prog 10 #[.slice A len cap, e.val] w (RetEs (l ++ [e]) .i64 0 w) := by
  obtain ⟨i0, hi, iz0, iz1, iz2⟩ := info_parts en_info
  obtain ⟨q, h, s, p⟩ := e
  show Calls Try.prog _ #[.slice A len cap, .agg #[.int .i64 q, .string h, .string s, .int .i64 p]] w _
  obtain ⟨W0, hW0⟩ : ∃ W0, w.alloc (.cells #[.int .i64 q, .string h, .string s, .int .i64 p] 24) = W0 := ⟨_, rfl⟩
  have hb0 : Below w.heap.size w W0 := by rw [← hW0]; exact (Below.refl _ _).alloc (Nat.le_refl _) _
  have hbox : W0.heap[w.heap.size]? = some (.cells #[.int .i64 q, .string h, .string s, .int .i64 p] 24 (0, 0)) := by rw [← hW0]; exact heap_alloc_new _ _
  obtain ⟨c0, c1, c2, c3⟩ := four_cells hbox
  have hz0 := block_lt hbox
  have HS0 := Lib.hid (hs.kept hb0 (Nat.le_refl _))
  have HB0 := Lib.hid hb0
  have HW0 := Lib.hid hW0
  have HF := Lib.hid hf
  have HSZ := Lib.hid hsz
  clear hb0 hW0 hf hsz hs hbox
  go_enter Try.func10, Try.ntmps10
  go_wp2
  rw [HW0.out]
  refine wp_region_K 3 (Below (W0.drew).heap.size (W0.drew)) (by kernel_rfl) ?_
  intro hD
  refine wpAnyK_pure (i := 0) (v := ?v1_0b2) (fuel := 4) rfl (by kernel_rfl) (fun _ _ _ h => h) hD (Below.refl _ _) (.inl ⟨by kernel_rfl, ?y1_0b2⟩) ?n1_0b2
  case y1_0b2 => intro w' _; go_simp; with_reducible rfl
  clear hD; intro hD
  simp only [Act.put, List.setIfInBounds_toArray, List.set_cons_zero, List.set_cons_succ]
  refine wpAnyK_take (i := 2) (v := ?v1_2b2) (fuel := 3) rfl (by kernel_rfl) (by kernel_rfl) (fun _ _ _ h => h) hD (Below.refl _ _) (.inl ⟨by kernel_rfl, ?y1_2b2⟩) ?n1_2b2
  case y1_2b2 => intro w' hS'; have e0 := cell_kept hS' (Nat.le_refl _) c0; have e1 := cell_kept hS' (Nat.le_refl _) c1; have e2 := cell_kept hS' (Nat.le_refl _) c2; have e3 := cell_kept hS' (Nat.le_refl _) c3; go_simp; with_reducible rfl
  clear hD; intro hD
  simp only [Act.put, List.setIfInBounds_toArray, List.set_cons_zero, List.set_cons_succ]
  refine wpAnyK_one (i := 1) (fuel := 2) (by kernel_rfl) rfl hD ?_
  clear hD; intro K1 hK1
  go_wp2_with fail
  refine (led_stateOf l A len cap _ (HS0.out.kept (Below.refl _ _).drew (Nat.le_refl _)) (by omega) HSZ.out).mono ?_
  rintro e1 w1 ⟨sb, bi, br, rfl, hst, hB1, hB2, hB3, hb1⟩
  have HB1 := Lib.hid hb1
  have HST := Lib.hid hst
  clear hst hB1 hB2 hB3 hb1
  go_wp2
  refine hK1 _ _ (by exact HB1.out) ?_; clear hK1; intro hS_1_1 hD
  refine wpAnyK_oneT (i := 3) (fuel := 1) (by kernel_rfl) rfl hD (by kernel_rfl) ?_
  clear hD; intro K3 hK3
  go_wp2_with fail
  refine (st_follows sb _ _ bi br _ _ ⟨q, h, s, p⟩ _ HST.out hh hsc (by have := epochN_le l; omega)).mono ?_
  rintro e2 w2 ⟨rfl, hb2⟩
  have HB3 := Lib.hid hb2
  clear hb2
  rw [show folF (msgS ⟨q, h, s, p⟩).2 l.length (epochN l) (hasB l 0 (En.mk q h s p).handle) (hasB l 1 (En.mk q h s p).handle) (En.mk q h s p).kind (En.mk q h s p).epoch = followsS l ⟨q, h, s, p⟩ from rfl, HF.out]
  go_wp2
  refine hK3 _ _ ?_; clear hK3; intro hD
  refine wpAnyK_oneT (i := 4) (fuel := 0) (by kernel_rfl) rfl hD (by kernel_rfl) ?_
  clear hD; intro K4 hK4
  go_wp2
  refine hK4 _ _ ?_; clear hK4; intro hD
  refine wpAnyK_done (by kernel_rfl) ?_ 0
  clear hD
  have HX := Lib.hid (Below.trans hS_1_1 (Below.mono HB3.out (Below.size hS_1_1)))
  have d0 := cell_kept HX.out (Nat.le_refl _) c0
  have d1 := cell_kept HX.out (Nat.le_refl _) c1
  have d2 := cell_kept HX.out (Nat.le_refl _) c2
  have d3 := cell_kept HX.out (Nat.le_refl _) c3
  have HS2 := Lib.hid (SlE.kept (w := W0.drew) HX.out (Nat.le_refl _) (HS0.out.kept (Below.refl _ _).drew (Nat.le_refl _)))
  have HB2 := Lib.hid (HB0.out.drew.trans (HX.out.mono (by simp; omega)))
  have hz2' : w.heap.size < w2.heap.size := Nat.lt_of_lt_of_le hz0 HX.out.size
  clear c0 c1 c2 c3 HS0 HX HW0 HB3 HB1 HST
  go_wp2
  refine wp_region_K 7 (Below (w2.drew).heap.size (w2.drew)) (by kernel_rfl) ?_
  intro hD
  refine wpAnyK_pure (i := 0) (v := ?v4_0b3) (fuel := 6) rfl (by kernel_rfl) (fun _ _ _ h => h) hD (Below.refl _ _) (.inl ⟨by kernel_rfl, ?y4_0b3⟩) ?n4_0b3
  case y4_0b3 => intro w' _; go_simp; with_reducible rfl
  clear hD; intro hD
  simp only [Act.put, List.setIfInBounds_toArray, List.set_cons_zero, List.set_cons_succ]
  refine wpAnyK_takeS (i := 2) (v := ?v4_2b3) (fuel := 5) rfl (by kernel_rfl) (by kernel_rfl) (fun _ _ _ h => h) hD (Below.refl _ _) (.inl ⟨by kernel_rfl, ?y4_2b3⟩) ?n4_2b3
  case y4_2b3 => intro w' hS'; have e0 := cell_kept hS' (Nat.le_refl _) d0; have e1 := cell_kept hS' (Nat.le_refl _) d1; have e2 := cell_kept hS' (Nat.le_refl _) d2; have e3 := cell_kept hS' (Nat.le_refl _) d3; go_simp; with_reducible rfl
  clear hD; intro hD
  simp only [Act.put, List.setIfInBounds_toArray, List.set_cons_zero, List.set_cons_succ]
  refine wpAnyK_two (i := 1) (i' := 3) (fuel := 4) (by kernel_rfl) rfl rfl hD ?_ ?_ 
  · unfold StepK
    clear hD; intro K1 hK1
    go_wp2_with fail
    first
    | (refine (cl_entries l A len cap w2.drew (HS2.out.kept (Below.refl _ _).drew (Nat.le_refl _)) (by omega)).mono ?_)
    | (refine (cl_entries l A len cap (w2.drew.alloc _) ((HS2.out.kept (Below.refl _ _).drew (Nat.le_refl _)).kept ((Below.refl _ _).alloc (Nat.le_refl _) _) (Nat.le_refl _)) (by omega)).mono ?_)
    rintro e1 w3 ⟨v3, rfl, hown1, hb1⟩
    have HB1 := Lib.hid hb1
    have HOWN1 := Lib.hid hown1
    clear hown1 hb1
    go_wp2
    refine hK1 _ _ (by exact HB1.out) ?_; clear hK1; intro hS_4_1 hD
    refine wpAnyK_one (i := 3) (fuel := 3) (by kernel_rfl) rfl hD ?_
    clear hD; intro K3 hK3
    go_wp2
    refine hK3 _ _ (by exact Below.alloc hS_4_1 (Below.size hS_4_1) _) ?_; clear hK3; intro hS_4_3_1 hD
    refine wpAnyK_one (i := 4) (fuel := 2) (by kernel_rfl) rfl hD ?_
    clear hD; intro K4 hK4
    first
    | have hown : (w3.alloc (.cells #[.int .i64 q, .string h, .string s, .int .i64 p] 24)).ownsRow w2.drew.heap.size 24 4 v3 len (enVals l) := HOWN1.out.alloc _
      refine (wpList_append_lies _ rfl (.tmp 15) (.tmp 17) 33 rfl _ 24 i0 _ 4 48 Try.underlying33 hi iz0 iz1 iz2 rfl (by decide) v3 len (enVals l) rfl hown ⟨w3.heap.size, 0, none⟩ 1 1 (En.cells ⟨q, h, s, p⟩) rfl rfl (World.news_of_block (heap_alloc_new _ _)) (fun u hu => enVals_one [⟨q, h, s, p⟩] u (by simpa [enVals] using hu)) (by decide) (by unfold maxLen; omega) (by omega) (by have := HB1.out.size; simp at this ⊢; omega) _ rfl ?_)
      intro g cap7 w7 hown7 hgrow7 hat7 hlt7
      have HLT := Lib.hid (fun k (e : v3.ownBlock = some k) => (hown.lt k e).1)
      have HOWN7 := Lib.hid hown7
      have HG4 := Lib.hid hgrow7
      clear hown7 hgrow7 hat7 hlt7 hown
    | have hown : w3.ownsRow (w2.drew.alloc (.cells #[.int .i64 q, .string h, .string s, .int .i64 p] 24)).heap.size 24 4 v3 len (enVals l) := HOWN1.out
      refine (wpList_append_lies _ rfl (.tmp 15) (.tmp 17) 33 rfl _ 24 i0 _ 4 48 Try.underlying33 hi iz0 iz1 iz2 rfl (by decide) v3 len (enVals l) rfl hown ⟨w2.heap.size, 0, none⟩ 1 1 (En.cells ⟨q, h, s, p⟩) rfl rfl (World.news_of_block (block_kept HB1.out (Nat.le_refl _) (heap_alloc_new w2.drew _))) (fun u hu => enVals_one [⟨q, h, s, p⟩] u (by simpa [enVals] using hu)) (by decide) (by unfold maxLen; omega) (by omega) HB1.out.size _ rfl ?_)
      intro g cap7 w7 hown7 hgrow7 hat7 hlt7
      have HLT := Lib.hid (fun k (e : v3.ownBlock = some k) => (hown.lt k e).1)
      have HOWN7 := Lib.hid hown7
      have HG4 := Lib.hid hgrow7
      clear hown7 hgrow7 hat7 hlt7 hown
    go_wp2
    refine hK4 _ _ (by exact Below.grown hS_4_3_1 HG4.out (Below.size hS_4_3_1) (fun k e => by have := HLT.out k e; simp at this ⊢; omega)) ?_; clear hK4; intro hS_4_4_1 hD
    refine wpAnyK_one (i := 5) (fuel := 1) (by kernel_rfl) rfl hD ?_
    clear hD; intro K5 hK5
    go_wp2
    refine hK5 _ _ (by exact hS_4_4_1) ?_; clear hK5; intro hS_4_5_1 hD
    refine wpAnyK_one (i := 6) (fuel := 0) (by kernel_rfl) rfl hD ?_
    clear hD; intro K6 hK6
    go_wp2
    refine hK6 _ _ (by exact hS_4_5_1) ?_; clear hK6; intro hS_4_6_1 hD
    refine wpAnyK_done (by kernel_rfl) ?_ 0
    clear hD
    have HX := Lib.hid hS_4_6_1
    go_wp2
    go_ret2
    exact RetEs.mk' (by have := HOWN7.out; rw [enVals_snoc] at this; exact this) (HB2.out.drew.trans (HX.out.mono (by simp; omega)))
  · unfold StepK
    clear hD; intro K3 hK3
    go_wp2
    refine hK3 _ _ (by exact (Below.refl _ _).alloc (Nat.le_refl _) _) ?_; clear hK3; intro hS_4_3 hD
    refine wpAnyK_one (i := 1) (fuel := 3) (by kernel_rfl) rfl hD ?_
    clear hD; intro K1 hK1
    go_wp2_with fail
    first
    | (refine (cl_entries l A len cap w2.drew (HS2.out.kept (Below.refl _ _).drew (Nat.le_refl _)) (by omega)).mono ?_)
    | (refine (cl_entries l A len cap (w2.drew.alloc _) ((HS2.out.kept (Below.refl _ _).drew (Nat.le_refl _)).kept ((Below.refl _ _).alloc (Nat.le_refl _) _) (Nat.le_refl _)) (by omega)).mono ?_)
    rintro e1 w3 ⟨v3, rfl, hown1, hb1⟩
    have HB1 := Lib.hid hb1
    have HOWN1 := Lib.hid hown1
    clear hown1 hb1
    go_wp2
    refine hK1 _ _ (by exact Below.trans hS_4_3 (Below.mono HB1.out (Below.size hS_4_3))) ?_; clear hK1; intro hS_4_1_3 hD
    refine wpAnyK_one (i := 4) (fuel := 2) (by kernel_rfl) rfl hD ?_
    clear hD; intro K4 hK4
    first
    | have hown : (w3.alloc (.cells #[.int .i64 q, .string h, .string s, .int .i64 p] 24)).ownsRow w2.drew.heap.size 24 4 v3 len (enVals l) := HOWN1.out.alloc _
      refine (wpList_append_lies _ rfl (.tmp 15) (.tmp 17) 33 rfl _ 24 i0 _ 4 48 Try.underlying33 hi iz0 iz1 iz2 rfl (by decide) v3 len (enVals l) rfl hown ⟨w3.heap.size, 0, none⟩ 1 1 (En.cells ⟨q, h, s, p⟩) rfl rfl (World.news_of_block (heap_alloc_new _ _)) (fun u hu => enVals_one [⟨q, h, s, p⟩] u (by simpa [enVals] using hu)) (by decide) (by unfold maxLen; omega) (by omega) (by have := HB1.out.size; simp at this ⊢; omega) _ rfl ?_)
      intro g cap7 w7 hown7 hgrow7 hat7 hlt7
      have HLT := Lib.hid (fun k (e : v3.ownBlock = some k) => (hown.lt k e).1)
      have HOWN7 := Lib.hid hown7
      have HG4 := Lib.hid hgrow7
      clear hown7 hgrow7 hat7 hlt7 hown
    | have hown : w3.ownsRow (w2.drew.alloc (.cells #[.int .i64 q, .string h, .string s, .int .i64 p] 24)).heap.size 24 4 v3 len (enVals l) := HOWN1.out
      refine (wpList_append_lies _ rfl (.tmp 15) (.tmp 17) 33 rfl _ 24 i0 _ 4 48 Try.underlying33 hi iz0 iz1 iz2 rfl (by decide) v3 len (enVals l) rfl hown ⟨w2.heap.size, 0, none⟩ 1 1 (En.cells ⟨q, h, s, p⟩) rfl rfl (World.news_of_block (block_kept HB1.out (Nat.le_refl _) (heap_alloc_new w2.drew _))) (fun u hu => enVals_one [⟨q, h, s, p⟩] u (by simpa [enVals] using hu)) (by decide) (by unfold maxLen; omega) (by omega) HB1.out.size _ rfl ?_)
      intro g cap7 w7 hown7 hgrow7 hat7 hlt7
      have HLT := Lib.hid (fun k (e : v3.ownBlock = some k) => (hown.lt k e).1)
      have HOWN7 := Lib.hid hown7
      have HG4 := Lib.hid hgrow7
      clear hown7 hgrow7 hat7 hlt7 hown
    go_wp2
    refine hK4 _ _ (by exact Below.grown hS_4_1_3 HG4.out (Below.size hS_4_1_3) (fun k e => by have := HLT.out k e; simp at this ⊢; omega)) ?_; clear hK4; intro hS_4_4_3 hD
    refine wpAnyK_one (i := 5) (fuel := 1) (by kernel_rfl) rfl hD ?_
    clear hD; intro K5 hK5
    go_wp2
    refine hK5 _ _ (by exact hS_4_4_3) ?_; clear hK5; intro hS_4_5_3 hD
    refine wpAnyK_one (i := 6) (fuel := 0) (by kernel_rfl) rfl hD ?_
    clear hD; intro K6 hK6
    go_wp2
    refine hK6 _ _ (by exact hS_4_5_3) ?_; clear hK6; intro hS_4_6_3 hD
    refine wpAnyK_done (by kernel_rfl) ?_ 0
    clear hD
    have HX := Lib.hid hS_4_6_3
    go_wp2
    go_ret2
    exact RetEs.mk' (by have := HOWN7.out; rw [enVals_snoc] at this; exact this) (HB2.out.drew.trans (HX.out.mono (by simp; omega)))

theorem led_Append (l : List En) (A : Option Addr) (len cap : Nat) (e : En) (w : World) (hs : SlE w A len cap l) (hlb : len ≤ 1000000000) (hsz : SzE l) (hh : e.handle.size ≤ maxLen) (hsc : e.schema.size ≤ 9223372036854775807) :
    Calls Try.prog 10 #[.slice A len cap, e.val] w (RetEs (appS l e).1 .i64 (appS l e).2 w) := by
  have hll : l.length ≤ 1000000000 := by rw [hs.1]; exact hlb
  unfold appS
  by_cases h : followsS l e = 0
  · rw [if_pos h]
    exact led_Append_yes l A len cap e w hs hlb hsz hh hsc h hll
  · rw [if_neg h]
    exact led_Append_no l A len cap e w hs hlb hsz hh hsc _ rfl (bnT h) hll

end Go.Proofs.Ythidhgniondkgaa

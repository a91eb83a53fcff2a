/- Walk: dominoref57.Append. -/
import Derived.Test.YthidhgniondkgaaApp
set_option linter.unusedVariables false
set_option linter.unusedSimpArgs false
namespace Go.Proofs.Ythidhgniondkgaa
open Go.RowKit

set_option maxRecDepth 100000 in
set_option maxHeartbeats 2000000 in
theorem r57_Append_no (l : List En) (A : Option Addr) (len cap : Nat) (e : En) (w : World) (hs : SlE w A len cap l) (hlb : len ≤ 1000000000) (hh : e.handle.size ≤ 9223372036854775807) (hsc : e.schema.size ≤ 9223372036854775807) (f : Int) (hf : followsS l e = f) (hne : (f != 0) = true) :
    Calls Try.prog 11 #[.slice A len cap, e.val] w (RetEs [] .i64 f w) := by
  obtain ⟨i0, hi, iz0, iz1, iz2⟩ := info_parts en_info
  obtain ⟨q, h, s, p⟩ := e
  show Calls Try.prog _ #[_, .agg #[.int .i64 q, .string h, .string s, .int .i64 p]] w _
  obtain ⟨W0, hW0⟩ : ∃ W0, w.alloc (.cells #[.int .i64 q, .string h, .string s, .int .i64 p] 24) = W0 := ⟨_, rfl⟩
  have hb0 : Below w.heap.size w W0 := by rw [← hW0]; exact (Below.refl _ _).alloc (Nat.le_refl _) _
  have hbox : W0.heap[w.heap.size]? = some (.cells #[.int .i64 q, .string h, .string s, .int .i64 p] 24 (0, 0)) := by rw [← hW0]; exact heap_alloc_new _ _
  obtain ⟨c0, c1, c2, c3⟩ := four_cells hbox
  have hz0 := block_lt hbox
  have HS0 := Lib.hid (hs.kept hb0 (Nat.le_refl _))
  have HB0 := Lib.hid hb0
  have HW0 := Lib.hid hW0
  have HF := Lib.hid hf
  clear hb0 hW0 hf hs hbox
  go_enter Try.func11, Try.ntmps11
  go_wp2_with fail
  rw [HW0.out]
  refine (r57_follows _ _ _ cap ⟨q, h, s, p⟩ _ HS0.out hh hsc).mono ?_
  rintro e1 w1 ⟨rfl, hb1⟩
  have HB1 := Lib.hid (HB0.out.trans (hb1.mono (by omega)))
  have HS1 := Lib.hid (HS0.out.kept hb1 (Nat.le_refl _))
  have d0 := cell_kept hb1 (Nat.le_refl _) c0
  have d1 := cell_kept hb1 (Nat.le_refl _) c1
  have d2 := cell_kept hb1 (Nat.le_refl _) c2
  have d3 := cell_kept hb1 (Nat.le_refl _) c3
  rw [HF.out]
  clear c0 c1 c2 c3 HB0 HS0 HW0 hb1
  go_wp2
  go_ret2
  exact ⟨none, 0, rfl, SlE.nil _ _ (by omega) _, HB1.out⟩

set_option maxRecDepth 100000 in
set_option maxHeartbeats 2000000 in
theorem r57_Append_0 (A : Option Addr) (cap : Nat) (e : En) (w : World) (hs : SlE w A 0 cap []) (hh : e.handle.size ≤ 9223372036854775807) (hsc : e.schema.size ≤ 9223372036854775807) (hf : followsS [] e = 0) :
    Calls Try.prog 11 #[.slice A 0 cap, e.val] w (RetEs [e] .i64 0 w) := by
  cases A with
  | none =>
    obtain ⟨i0, hi, iz0, iz1, iz2⟩ := info_parts en_info
    obtain ⟨q, h, s, p⟩ := e
    show Calls Try.prog _ #[_, .agg #[.int .i64 q, .string h, .string s, .int .i64 p]] w _
    obtain ⟨W0, hW0⟩ : ∃ W0, w.alloc (.cells #[.int .i64 q, .string h, .string s, .int .i64 p] 24) = W0 := ⟨_, rfl⟩
    have hb0 : Below w.heap.size w W0 := by rw [← hW0]; exact (Below.refl _ _).alloc (Nat.le_refl _) _
    have hbox : W0.heap[w.heap.size]? = some (.cells #[.int .i64 q, .string h, .string s, .int .i64 p] 24 (0, 0)) := by rw [← hW0]; exact heap_alloc_new _ _
    obtain ⟨c0, c1, c2, c3⟩ := four_cells hbox
    have hz0 := block_lt hbox
    have HS0 := Lib.hid (hs.kept hb0 (Nat.le_refl _))
    have HB0 := Lib.hid hb0
    have HW0 := Lib.hid hW0
    have HF := Lib.hid hf
    clear hb0 hW0 hf hs hbox
    go_enter Try.func11, Try.ntmps11
    go_wp2_with fail
    rw [HW0.out]
    refine (r57_follows _ _ _ cap ⟨q, h, s, p⟩ _ HS0.out hh hsc).mono ?_
    rintro e1 w1 ⟨rfl, hb1⟩
    have HB1 := Lib.hid (HB0.out.trans (hb1.mono (by omega)))
    have HS1 := Lib.hid (HS0.out.kept hb1 (Nat.le_refl _))
    have d0 := cell_kept hb1 (Nat.le_refl _) c0
    have d1 := cell_kept hb1 (Nat.le_refl _) c1
    have d2 := cell_kept hb1 (Nat.le_refl _) c2
    have d3 := cell_kept hb1 (Nat.le_refl _) c3
    rw [HF.out]
    clear c0 c1 c2 c3 HB0 HS0 HW0 hb1
    go_wp2_with (at_builtin; refine wpList_append_lies _ rfl (.tmp 17) (.tmp 19) 33 rfl w.heap.size 24 i0 _ 4 48 Try.underlying33 hi iz0 iz1 iz2 rfl (by decide) _ 0 [] rfl (World.ownsRow_nil _ _ _ _) ⟨w1.heap.size, 0, none⟩ 1 1 (En.cells ⟨q, h, s, p⟩) rfl rfl ?n1 ?n2 (by decide) ?n3 ?n4 ?n5 _ rfl ?_)
    case n1 => exact World.news_of_block (heap_alloc_new _ _)
    case n2 => exact fun u hu => enVals_one [⟨q, h, s, p⟩] u (by simpa [enVals] using hu)
    case n3 => unfold maxLen; omega
    case n4 => omega
    case n5 => have := HB1.out.size; simp at this ⊢; omega
    intro g cap7 w7 hown7 hgrow7 hat7 hlt7
    have HB7 := Lib.hid ((HB1.out.alloc HB1.out.size _).grown hgrow7 (by have := HB1.out.size; simp at this ⊢; omega) (fun k e => by cases e))
    have HOWN7 := Lib.hid hown7
    clear hown7 hgrow7 hat7 hlt7
    go_wp2
    go_ret2
    exact RetEs.mk' (l := [⟨q, h, s, p⟩]) HOWN7.out HB7.out
  | some ad =>
    have hlc := fun (w : World) => (run_loadCells_list (P := Try.prog) w ad [] (by intro j v hj; simp at hj))
    obtain ⟨i0, hi, iz0, iz1, iz2⟩ := info_parts en_info
    obtain ⟨q, h, s, p⟩ := e
    show Calls Try.prog _ #[_, .agg #[.int .i64 q, .string h, .string s, .int .i64 p]] w _
    obtain ⟨W0, hW0⟩ : ∃ W0, w.alloc (.cells #[.int .i64 q, .string h, .string s, .int .i64 p] 24) = W0 := ⟨_, rfl⟩
    have hb0 : Below w.heap.size w W0 := by rw [← hW0]; exact (Below.refl _ _).alloc (Nat.le_refl _) _
    have hbox : W0.heap[w.heap.size]? = some (.cells #[.int .i64 q, .string h, .string s, .int .i64 p] 24 (0, 0)) := by rw [← hW0]; exact heap_alloc_new _ _
    obtain ⟨c0, c1, c2, c3⟩ := four_cells hbox
    have hz0 := block_lt hbox
    have HS0 := Lib.hid (hs.kept hb0 (Nat.le_refl _))
    have HB0 := Lib.hid hb0
    have HW0 := Lib.hid hW0
    have HF := Lib.hid hf
    clear hb0 hW0 hf hs hbox
    go_enter Try.func11, Try.ntmps11
    go_wp2_with fail
    rw [HW0.out]
    refine (r57_follows _ _ _ cap ⟨q, h, s, p⟩ _ HS0.out hh hsc).mono ?_
    rintro e1 w1 ⟨rfl, hb1⟩
    have HB1 := Lib.hid (HB0.out.trans (hb1.mono (by omega)))
    have HS1 := Lib.hid (HS0.out.kept hb1 (Nat.le_refl _))
    have d0 := cell_kept hb1 (Nat.le_refl _) c0
    have d1 := cell_kept hb1 (Nat.le_refl _) c1
    have d2 := cell_kept hb1 (Nat.le_refl _) c2
    have d3 := cell_kept hb1 (Nat.le_refl _) c3
    rw [HF.out]
    clear c0 c1 c2 c3 HB0 HS0 HW0 hb1
    go_wp2_with (at_builtin; refine wpList_append_lies _ rfl (.tmp 17) (.tmp 19) 33 rfl w.heap.size 24 i0 _ 4 48 Try.underlying33 hi iz0 iz1 iz2 rfl (by decide) _ 0 [] rfl (World.ownsRow_nil _ _ _ _) ⟨w1.heap.size, 0, none⟩ 1 1 (En.cells ⟨q, h, s, p⟩) rfl rfl ?n1 ?n2 (by decide) ?n3 ?n4 ?n5 _ rfl ?_)
    case n1 => exact World.news_of_block (heap_alloc_new _ _)
    case n2 => exact fun u hu => enVals_one [⟨q, h, s, p⟩] u (by simpa [enVals] using hu)
    case n3 => unfold maxLen; omega
    case n4 => omega
    case n5 => have := HB1.out.size; simp at this ⊢; omega
    intro g cap7 w7 hown7 hgrow7 hat7 hlt7
    have HB7 := Lib.hid ((HB1.out.alloc HB1.out.size _).grown hgrow7 (by have := HB1.out.size; simp at this ⊢; omega) (fun k e => by cases e))
    have HOWN7 := Lib.hid hown7
    clear hown7 hgrow7 hat7 hlt7
    go_wp2
    go_ret2
    exact RetEs.mk' (l := [⟨q, h, s, p⟩]) HOWN7.out HB7.out
set_option maxRecDepth 100000 in
set_option maxHeartbeats 2000000 in
theorem r57_Append_1 (l : List En) (A : Option Addr) (len cap : Nat) (e : En) (w : World) (hs : SlE w A len cap l) (hlb : len ≤ 1000000000) (hpos : 0 < len) (hh : e.handle.size ≤ 9223372036854775807) (hsc : e.schema.size ≤ 9223372036854775807) (hf : followsS l e = 0) :
    Calls Try.prog 11 #[.slice A len cap, e.val] w (RetEs (l ++ [e]) .i64 0 w) := by
  have hvl := enVals_length l
  rw [hs.1] at hvl
  have HV := Lib.hid hvl
  clear hvl
  cases A with
  | none => obtain ⟨b, o, e⟩ := hs.head hpos; cases e
  | some ad =>
    obtain ⟨i0, hi, iz0, iz1, iz2⟩ := info_parts en_info
    obtain ⟨q, h, s, p⟩ := e
    show Calls Try.prog _ #[_, .agg #[.int .i64 q, .string h, .string s, .int .i64 p]] w _
    obtain ⟨W0, hW0⟩ : ∃ W0, w.alloc (.cells #[.int .i64 q, .string h, .string s, .int .i64 p] 24) = W0 := ⟨_, rfl⟩
    have hb0 : Below w.heap.size w W0 := by rw [← hW0]; exact (Below.refl _ _).alloc (Nat.le_refl _) _
    have hbox : W0.heap[w.heap.size]? = some (.cells #[.int .i64 q, .string h, .string s, .int .i64 p] 24 (0, 0)) := by rw [← hW0]; exact heap_alloc_new _ _
    obtain ⟨c0, c1, c2, c3⟩ := four_cells hbox
    have hz0 := block_lt hbox
    have HS0 := Lib.hid (hs.kept hb0 (Nat.le_refl _))
    have HB0 := Lib.hid hb0
    have HW0 := Lib.hid hW0
    have HF := Lib.hid hf
    clear hb0 hW0 hf hs hbox
    go_enter Try.func11, Try.ntmps11
    go_wp2_with fail
    rw [HW0.out]
    refine (r57_follows _ _ _ cap ⟨q, h, s, p⟩ _ HS0.out hh hsc).mono ?_
    rintro e1 w1 ⟨rfl, hb1⟩
    have HB1 := Lib.hid (HB0.out.trans (hb1.mono (by omega)))
    have HS1 := Lib.hid (HS0.out.kept hb1 (Nat.le_refl _))
    have d0 := cell_kept hb1 (Nat.le_refl _) c0
    have d1 := cell_kept hb1 (Nat.le_refl _) c1
    have d2 := cell_kept hb1 (Nat.le_refl _) c2
    have d3 := cell_kept hb1 (Nat.le_refl _) c3
    rw [HF.out]
    clear c0 c1 c2 c3 HB0 HS0 HW0 hb1
    have hc1 := HS1.out.cells
    have HC := Lib.hid hc1
    have HO := Lib.hid (enVals_one l)
    clear hc1
    go_wp2_with (at_builtin; refine wpList_append_lies _ rfl (.tmp 14) (.tmp 15) 33 rfl w.heap.size 24 i0 _ 4 48 Try.underlying33 hi iz0 iz1 iz2 rfl (by decide) _ 0 [] rfl (World.ownsRow_nil _ _ _ _) ad len cap (enVals l) rfl ?m1 HC.out HO.out hpos ?m3 ?m4 ?m5 _ rfl ?_)
    case m1 => exact HV.out
    case m3 => unfold maxLen; omega
    case m4 => omega
    case m5 => exact HB1.out.size
    intro g cap6 w6 hown6 hgrow6 hat6 hlt6
    have hb6 := HB1.out.grown hgrow6 HB1.out.size (fun k e => by cases e)
    have q0 := World.cell?_of_block (a := ⟨w.heap.size, 0, none⟩) (hgrow6.block w.heap.size (World.block_lt_of_cell? _ _ d0) (fun e => by cases e))
    have q1 := World.cell?_of_block (a := ⟨w.heap.size, 1, none⟩) (hgrow6.block w.heap.size (World.block_lt_of_cell? _ _ d0) (fun e => by cases e))
    have q2 := World.cell?_of_block (a := ⟨w.heap.size, 2, none⟩) (hgrow6.block w.heap.size (World.block_lt_of_cell? _ _ d0) (fun e => by cases e))
    have q3 := World.cell?_of_block (a := ⟨w.heap.size, 3, none⟩) (hgrow6.block w.heap.size (World.block_lt_of_cell? _ _ d0) (fun e => by cases e))
    rw [d0] at q0
    rw [d1] at q1
    rw [d2] at q2
    rw [d3] at q3
    have hsz6 := hb6.size
    have HB6 := Lib.hid hb6
    have HOWN6 := Lib.hid hown6
    clear hown6 hgrow6 hat6 hlt6 hb6 d0 d1 d2 d3 HC HS1
    go_wp2_with (at_builtin; refine wpList_append_lies _ rfl (.tmp 17) (.tmp 19) 33 rfl w.heap.size 24 i0 _ 4 48 Try.underlying33 hi iz0 iz1 iz2 rfl (by decide) _ len (enVals l) rfl ?n0 ⟨w6.heap.size, 0, none⟩ 1 1 (En.cells ⟨q, h, s, p⟩) rfl rfl ?n1 ?n2 (by decide) ?n3 ?n4 ?n5 _ rfl ?_)
    case n0 => exact HOWN6.out.alloc _
    case n1 => exact World.news_of_block (heap_alloc_new _ _)
    case n2 => exact fun u hu => enVals_one [⟨q, h, s, p⟩] u (by simpa [enVals] using hu)
    case n3 => unfold maxLen; omega
    case n4 => omega
    case n5 => simp; omega
    intro g cap7 w7 hown7 hgrow7 hat7 hlt7
    have hlt6 := HOWN6.out.lt
    have HB7 := Lib.hid ((HB6.out.alloc HB6.out.size _).grown hgrow7 (by simp; omega) (fun k e => (hlt6 k e).1))
    have HOWN7 := Lib.hid hown7
    clear hown7 hgrow7 hat7 hlt7 hlt6
    go_wp2
    go_ret2
    exact RetEs.mk' (by have := HOWN7.out; rw [enVals_snoc] at this; exact this) HB7.out

theorem r57_Append (l : List En) (A : Option Addr) (len cap : Nat) (e : En) (w : World) (hs : SlE w A len cap l) (hlb : len ≤ 1000000000) (hh : e.handle.size ≤ 9223372036854775807) (hsc : e.schema.size ≤ 9223372036854775807) :
    Calls Try.prog 11 #[.slice A len cap, e.val] w (RetEs (appS l e).1 .i64 (appS l e).2 w) := by
  unfold appS
  by_cases h : followsS l e = 0
  · rw [if_pos h]
    rcases Nat.eq_zero_or_pos len with h0 | h0
    · subst h0
      have : l = [] := List.length_eq_zero_iff.1 hs.1
      subst this
      exact r57_Append_0 A cap e w hs hh hsc h
    · exact r57_Append_1 l A len cap e w hs hlb h0 hh hsc h
  · rw [if_neg h]
    exact r57_Append_no l A len cap e w hs hlb hh hsc _ rfl (bnT h)
end Go.Proofs.Ythidhgniondkgaa

/- Walks: dominoref57.Message, no form. -/
import Derived.Test.YthidhgniondkgaaLedB
set_option linter.unusedVariables false
set_option linter.unusedSimpArgs false
namespace Go.Proofs.Ythidhgniondkgaa
open Go.RowKit

theorem ord_no {h : ByteArray} (hl : lowB h = false) : ∃ c : Int, ordB h ⟨#[3]⟩ = c ∧ 0 ≤ c := ⟨_, rfl, by have := of_decide_eq_false hl; omega⟩
theorem ord_yes {h : ByteArray} (hl : lowB h = true) : ∃ c : Int, ordB h ⟨#[3]⟩ = c ∧ c < 0 := ⟨_, rfl, of_decide_eq_true hl⟩

set_option maxRecDepth 100000 in
set_option maxHeartbeats 4000000 in
theorem r57_Message_vb (q p : Int) (h s : ByteArray) (w : World) (hh : h.size ≤ 9223372036854775807) (hs : s.size ≤ 9223372036854775807)  (hv : nvalid h = false) : Calls Try.prog 9 #[.agg #[.int .i64 q, .string h, .string s, .int .i64 p]] w (RetSE (⟨#[]⟩, 3) w) := by
  obtain ⟨W0, hW0⟩ : ∃ W0, w.alloc (.cells #[.int .i64 q, .string h, .string s, .int .i64 p] 24) = W0 := ⟨_, rfl⟩
  have hbox : W0.heap[w.heap.size]? = some (.cells #[.int .i64 q, .string h, .string s, .int .i64 p] 24 (0, 0)) := by rw [← hW0]; exact heap_alloc_new _ _
  have hb0 : Below w.heap.size w W0 := by rw [← hW0]; exact (Below.refl _ _).alloc (Nat.le_refl _) _
  have hz : w.heap.size + 1 ≤ W0.heap.size := block_lt hbox
  obtain ⟨b0, b1, b2, b3⟩ := four_cells hbox
  have HW0 := Lib.hid hW0
  have HA0 := Lib.hid hb0
  clear hW0 hbox hb0
  have HV := Lib.hid hv
  clear hv
  go_enter Try.func9, Try.ntmps9
  go_wp2_with fail
  rw [HW0.out]
  refine (r01_Valid h (by omega) _).mono ?_
  rintro e w1 ⟨rfl, rfl⟩
  rw [HV.out]
  go_wp2
  go_ret2
  exact ⟨rfl, HA0.out⟩

set_option maxRecDepth 100000 in
set_option maxHeartbeats 4000000 in
theorem r57_Message_knb (q p : Int) (h s : ByteArray) (w : World) (hh : h.size ≤ 9223372036854775807) (hs : s.size ≤ 9223372036854775807) (hk : q < 0) (hv : nvalid h = true) : Calls Try.prog 9 #[.agg #[.int .i64 q, .string h, .string s, .int .i64 p]] w (RetSE (⟨#[]⟩, 3) w) := by
  obtain ⟨W0, hW0⟩ : ∃ W0, w.alloc (.cells #[.int .i64 q, .string h, .string s, .int .i64 p] 24) = W0 := ⟨_, rfl⟩
  have hbox : W0.heap[w.heap.size]? = some (.cells #[.int .i64 q, .string h, .string s, .int .i64 p] 24 (0, 0)) := by rw [← hW0]; exact heap_alloc_new _ _
  have hb0 : Below w.heap.size w W0 := by rw [← hW0]; exact (Below.refl _ _).alloc (Nat.le_refl _) _
  have hz : w.heap.size + 1 ≤ W0.heap.size := block_lt hbox
  obtain ⟨b0, b1, b2, b3⟩ := four_cells hbox
  have HW0 := Lib.hid hW0
  have HA0 := Lib.hid hb0
  clear hW0 hbox hb0
  have HV := Lib.hid hv
  clear hv
  go_enter Try.func9, Try.ntmps9
  go_wp2_with fail
  rw [HW0.out]
  refine (r01_Valid h (by omega) _).mono ?_
  rintro e w1 ⟨rfl, rfl⟩
  rw [HV.out]
  go_wp2
  go_ret2
  exact ⟨rfl, HA0.out⟩

set_option maxRecDepth 100000 in
set_option maxHeartbeats 4000000 in
theorem r57_Message_kbb (q p : Int) (h s : ByteArray) (w : World) (hh : h.size ≤ 9223372036854775807) (hs : s.size ≤ 9223372036854775807) (hk : ¬ q < 0) (hkk : 2 < q) (hv : nvalid h = true) : Calls Try.prog 9 #[.agg #[.int .i64 q, .string h, .string s, .int .i64 p]] w (RetSE (⟨#[]⟩, 3) w) := by
  obtain ⟨W0, hW0⟩ : ∃ W0, w.alloc (.cells #[.int .i64 q, .string h, .string s, .int .i64 p] 24) = W0 := ⟨_, rfl⟩
  have hbox : W0.heap[w.heap.size]? = some (.cells #[.int .i64 q, .string h, .string s, .int .i64 p] 24 (0, 0)) := by rw [← hW0]; exact heap_alloc_new _ _
  have hb0 : Below w.heap.size w W0 := by rw [← hW0]; exact (Below.refl _ _).alloc (Nat.le_refl _) _
  have hz : w.heap.size + 1 ≤ W0.heap.size := block_lt hbox
  obtain ⟨b0, b1, b2, b3⟩ := four_cells hbox
  have HW0 := Lib.hid hW0
  have HA0 := Lib.hid hb0
  clear hW0 hbox hb0
  have HV := Lib.hid hv
  clear hv
  go_enter Try.func9, Try.ntmps9
  go_wp2_with fail
  rw [HW0.out]
  refine (r01_Valid h (by omega) _).mono ?_
  rintro e w1 ⟨rfl, rfl⟩
  rw [HV.out]
  go_wp2
  go_ret2
  exact ⟨rfl, HA0.out⟩

set_option maxRecDepth 100000 in
set_option maxHeartbeats 4000000 in
theorem r57_Message_0lb (q p : Int) (h s : ByteArray) (w : World) (hh : h.size ≤ 9223372036854775807) (hs : s.size ≤ 9223372036854775807) (hq : ((q : Int) == 0) = true) (hq2 : ((q : Int) == 2) = false) (hqn : ((q : Int) != 0) = false) (hqm : ((q : Int) != 2) = true) (hk : (0 : Int) ≤ q ∧ (q : Int) ≤ 2) (hv : nvalid h = true) (hl : lowB h = true) : Calls Try.prog 9 #[.agg #[.int .i64 q, .string h, .string s, .int .i64 p]] w (RetSE (⟨#[]⟩, 3) w) := by
  obtain ⟨hk1, hk2⟩ := hk
  obtain ⟨W0, hW0⟩ : ∃ W0, w.alloc (.cells #[.int .i64 q, .string h, .string s, .int .i64 p] 24) = W0 := ⟨_, rfl⟩
  have hbox : W0.heap[w.heap.size]? = some (.cells #[.int .i64 q, .string h, .string s, .int .i64 p] 24 (0, 0)) := by rw [← hW0]; exact heap_alloc_new _ _
  have hb0 : Below w.heap.size w W0 := by rw [← hW0]; exact (Below.refl _ _).alloc (Nat.le_refl _) _
  have hz : w.heap.size + 1 ≤ W0.heap.size := block_lt hbox
  obtain ⟨b0, b1, b2, b3⟩ := four_cells hbox
  have HW0 := Lib.hid hW0
  have HA0 := Lib.hid hb0
  clear hW0 hbox hb0
  have HL := Lib.hid hl
  clear hl
  have HV := Lib.hid hv
  clear hv
  go_enter Try.func9, Try.ntmps9
  go_wp2_with fail
  rw [HW0.out]
  refine (r01_Valid h (by omega) _).mono ?_
  rintro e w1 ⟨rfl, rfl⟩
  rw [HV.out]
  go_wp2_with fail
  refine (r01_Order h _ (by omega) (by decide) _).mono ?_
  rintro e w2 ⟨rfl, hb2⟩
  obtain ⟨c, hc, hc0⟩ := ord_yes HL.out
  rw [hc]
  clear hc
  have d0 := cell_kept hb2 (Nat.le_refl _) b0
  have d1 := cell_kept hb2 (Nat.le_refl _) b1
  have d2 := cell_kept hb2 (Nat.le_refl _) b2
  have d3 := cell_kept hb2 (Nat.le_refl _) b3
  have hz2 : w.heap.size + 1 ≤ w2.heap.size := Nat.le_trans hz hb2.size
  have HA1 := Lib.hid (HA0.out.trans (hb2.mono (by omega)))
  clear b0 b1 b2 b3 HA0 HW0 hb2 hz
  go_wp2
  go_ret2
  exact ⟨rfl, HA1.out⟩

set_option maxRecDepth 100000 in
set_option maxHeartbeats 4000000 in
theorem r57_Message_1lb (q p : Int) (h s : ByteArray) (w : World) (hh : h.size ≤ 9223372036854775807) (hs : s.size ≤ 9223372036854775807) (hq : ((q : Int) == 0) = false) (hq2 : ((q : Int) == 2) = false) (hqn : ((q : Int) != 0) = true) (hqm : ((q : Int) != 2) = true) (hk : (0 : Int) ≤ q ∧ (q : Int) ≤ 2) (hv : nvalid h = true) (hl : lowB h = true) : Calls Try.prog 9 #[.agg #[.int .i64 q, .string h, .string s, .int .i64 p]] w (RetSE (⟨#[]⟩, 3) w) := by
  obtain ⟨hk1, hk2⟩ := hk
  obtain ⟨W0, hW0⟩ : ∃ W0, w.alloc (.cells #[.int .i64 q, .string h, .string s, .int .i64 p] 24) = W0 := ⟨_, rfl⟩
  have hbox : W0.heap[w.heap.size]? = some (.cells #[.int .i64 q, .string h, .string s, .int .i64 p] 24 (0, 0)) := by rw [← hW0]; exact heap_alloc_new _ _
  have hb0 : Below w.heap.size w W0 := by rw [← hW0]; exact (Below.refl _ _).alloc (Nat.le_refl _) _
  have hz : w.heap.size + 1 ≤ W0.heap.size := block_lt hbox
  obtain ⟨b0, b1, b2, b3⟩ := four_cells hbox
  have HW0 := Lib.hid hW0
  have HA0 := Lib.hid hb0
  clear hW0 hbox hb0
  have HL := Lib.hid hl
  clear hl
  have HV := Lib.hid hv
  clear hv
  go_enter Try.func9, Try.ntmps9
  go_wp2_with fail
  rw [HW0.out]
  refine (r01_Valid h (by omega) _).mono ?_
  rintro e w1 ⟨rfl, rfl⟩
  rw [HV.out]
  go_wp2_with fail
  refine (r01_Order h _ (by omega) (by decide) _).mono ?_
  rintro e w2 ⟨rfl, hb2⟩
  obtain ⟨c, hc, hc0⟩ := ord_yes HL.out
  rw [hc]
  clear hc
  have d0 := cell_kept hb2 (Nat.le_refl _) b0
  have d1 := cell_kept hb2 (Nat.le_refl _) b1
  have d2 := cell_kept hb2 (Nat.le_refl _) b2
  have d3 := cell_kept hb2 (Nat.le_refl _) b3
  have hz2 : w.heap.size + 1 ≤ w2.heap.size := Nat.le_trans hz hb2.size
  have HA1 := Lib.hid (HA0.out.trans (hb2.mono (by omega)))
  clear b0 b1 b2 b3 HA0 HW0 hb2 hz
  go_wp2
  go_ret2
  exact ⟨rfl, HA1.out⟩

set_option maxRecDepth 100000 in
set_option maxHeartbeats 4000000 in
theorem r57_Message_2hb (q p : Int) (h s : ByteArray) (w : World) (hh : h.size ≤ 9223372036854775807) (hs : s.size ≤ 9223372036854775807) (hq : ((q : Int) == 0) = false) (hq2 : ((q : Int) == 2) = true) (hqn : ((q : Int) != 0) = true) (hqm : ((q : Int) != 2) = false) (hk : (0 : Int) ≤ q ∧ (q : Int) ≤ 2) (hv : nvalid h = true) (hl : h.toList.isEmpty = false) : Calls Try.prog 9 #[.agg #[.int .i64 q, .string h, .string s, .int .i64 p]] w (RetSE (⟨#[]⟩, 3) w) := by
  obtain ⟨hk1, hk2⟩ := hk
  obtain ⟨W0, hW0⟩ : ∃ W0, w.alloc (.cells #[.int .i64 q, .string h, .string s, .int .i64 p] 24) = W0 := ⟨_, rfl⟩
  have hbox : W0.heap[w.heap.size]? = some (.cells #[.int .i64 q, .string h, .string s, .int .i64 p] 24 (0, 0)) := by rw [← hW0]; exact heap_alloc_new _ _
  have hb0 : Below w.heap.size w W0 := by rw [← hW0]; exact (Below.refl _ _).alloc (Nat.le_refl _) _
  have hz : w.heap.size + 1 ≤ W0.heap.size := block_lt hbox
  obtain ⟨b0, b1, b2, b3⟩ := four_cells hbox
  have HW0 := Lib.hid hW0
  have HA0 := Lib.hid hb0
  clear hW0 hbox hb0
  have HV := Lib.hid hv
  clear hv
  go_enter Try.func9, Try.ntmps9
  go_wp2_with fail
  rw [HW0.out]
  refine (r01_Valid h (by omega) _).mono ?_
  rintro e w1 ⟨rfl, rfl⟩
  rw [HV.out]
  go_wp2
  go_ret2
  exact ⟨rfl, HA0.out⟩

set_option maxRecDepth 100000 in
set_option maxHeartbeats 4000000 in
theorem r57_Message_0nb (q p : Int) (h s : ByteArray) (w : World) (hh : h.size ≤ 9223372036854775807) (hs : s.size ≤ 9223372036854775807) (hq : ((q : Int) == 0) = true) (hq2 : ((q : Int) == 2) = false) (hqn : ((q : Int) != 0) = false) (hqm : ((q : Int) != 2) = true) (hk : (0 : Int) ≤ q ∧ (q : Int) ≤ 2) (hv : nvalid h = true) (hl : lowB h = false) (hn : nameB s = false) : Calls Try.prog 9 #[.agg #[.int .i64 q, .string h, .string s, .int .i64 p]] w (RetSE (⟨#[]⟩, 3) w) := by
  obtain ⟨hk1, hk2⟩ := hk
  obtain ⟨W0, hW0⟩ : ∃ W0, w.alloc (.cells #[.int .i64 q, .string h, .string s, .int .i64 p] 24) = W0 := ⟨_, rfl⟩
  have hbox : W0.heap[w.heap.size]? = some (.cells #[.int .i64 q, .string h, .string s, .int .i64 p] 24 (0, 0)) := by rw [← hW0]; exact heap_alloc_new _ _
  have hb0 : Below w.heap.size w W0 := by rw [← hW0]; exact (Below.refl _ _).alloc (Nat.le_refl _) _
  have hz : w.heap.size + 1 ≤ W0.heap.size := block_lt hbox
  obtain ⟨b0, b1, b2, b3⟩ := four_cells hbox
  have HW0 := Lib.hid hW0
  have HA0 := Lib.hid hb0
  clear hW0 hbox hb0
  have HL := Lib.hid hl
  clear hl
  have HN := Lib.hid hn
  clear hn
  have HV := Lib.hid hv
  clear hv
  go_enter Try.func9, Try.ntmps9
  go_wp2_with fail
  rw [HW0.out]
  refine (r01_Valid h (by omega) _).mono ?_
  rintro e w1 ⟨rfl, rfl⟩
  rw [HV.out]
  go_wp2_with fail
  refine (r01_Order h _ (by omega) (by decide) _).mono ?_
  rintro e w2 ⟨rfl, hb2⟩
  obtain ⟨c, hc, hc0⟩ := ord_no HL.out
  rw [hc]
  clear hc
  have d0 := cell_kept hb2 (Nat.le_refl _) b0
  have d1 := cell_kept hb2 (Nat.le_refl _) b1
  have d2 := cell_kept hb2 (Nat.le_refl _) b2
  have d3 := cell_kept hb2 (Nat.le_refl _) b3
  have hz2 : w.heap.size + 1 ≤ w2.heap.size := Nat.le_trans hz hb2.size
  have HA1 := Lib.hid (HA0.out.trans (hb2.mono (by omega)))
  clear b0 b1 b2 b3 HA0 HW0 hb2 hz
  go_wp2_with fail
  refine (r41_Name s _ (by omega)).mono ?_
  rintro e w3 ⟨rfl, hb3⟩
  rw [HN.out]
  have hz := hz2
  have b0 := d0
  have b1 := d1
  have b2 := d2
  have b3 := d3
  have HA0 := HA1
  have HW0 := HA1
  clear hz2 d0 d1 d2 d3 HA1
  have d0 := cell_kept hb3 (Nat.le_refl _) b0
  have d1 := cell_kept hb3 (Nat.le_refl _) b1
  have d2 := cell_kept hb3 (Nat.le_refl _) b2
  have d3 := cell_kept hb3 (Nat.le_refl _) b3
  have hz2 : w.heap.size + 1 ≤ w3.heap.size := Nat.le_trans hz hb3.size
  have HA1 := Lib.hid (HA0.out.trans (hb3.mono (by omega)))
  clear b0 b1 b2 b3 HA0 HW0 hb3 hz
  go_wp2
  go_ret2
  exact ⟨rfl, HA1.out⟩

set_option maxRecDepth 100000 in
set_option maxHeartbeats 4000000 in
theorem r57_Message_1sb (q p : Int) (h s : ByteArray) (w : World) (hh : h.size ≤ 9223372036854775807) (hs : s.size ≤ 9223372036854775807) (hq : ((q : Int) == 0) = false) (hq2 : ((q : Int) == 2) = false) (hqn : ((q : Int) != 0) = true) (hqm : ((q : Int) != 2) = true) (hk : (0 : Int) ≤ q ∧ (q : Int) ≤ 2) (hv : nvalid h = true) (hl : lowB h = false) (hn : s.toList.isEmpty = false) : Calls Try.prog 9 #[.agg #[.int .i64 q, .string h, .string s, .int .i64 p]] w (RetSE (⟨#[]⟩, 3) w) := by
  obtain ⟨hk1, hk2⟩ := hk
  obtain ⟨W0, hW0⟩ : ∃ W0, w.alloc (.cells #[.int .i64 q, .string h, .string s, .int .i64 p] 24) = W0 := ⟨_, rfl⟩
  have hbox : W0.heap[w.heap.size]? = some (.cells #[.int .i64 q, .string h, .string s, .int .i64 p] 24 (0, 0)) := by rw [← hW0]; exact heap_alloc_new _ _
  have hb0 : Below w.heap.size w W0 := by rw [← hW0]; exact (Below.refl _ _).alloc (Nat.le_refl _) _
  have hz : w.heap.size + 1 ≤ W0.heap.size := block_lt hbox
  obtain ⟨b0, b1, b2, b3⟩ := four_cells hbox
  have HW0 := Lib.hid hW0
  have HA0 := Lib.hid hb0
  clear hW0 hbox hb0
  have HL := Lib.hid hl
  clear hl
  have HV := Lib.hid hv
  clear hv
  go_enter Try.func9, Try.ntmps9
  go_wp2_with fail
  rw [HW0.out]
  refine (r01_Valid h (by omega) _).mono ?_
  rintro e w1 ⟨rfl, rfl⟩
  rw [HV.out]
  go_wp2_with fail
  refine (r01_Order h _ (by omega) (by decide) _).mono ?_
  rintro e w2 ⟨rfl, hb2⟩
  obtain ⟨c, hc, hc0⟩ := ord_no HL.out
  rw [hc]
  clear hc
  have d0 := cell_kept hb2 (Nat.le_refl _) b0
  have d1 := cell_kept hb2 (Nat.le_refl _) b1
  have d2 := cell_kept hb2 (Nat.le_refl _) b2
  have d3 := cell_kept hb2 (Nat.le_refl _) b3
  have hz2 : w.heap.size + 1 ≤ w2.heap.size := Nat.le_trans hz hb2.size
  have HA1 := Lib.hid (HA0.out.trans (hb2.mono (by omega)))
  clear b0 b1 b2 b3 HA0 HW0 hb2 hz
  go_wp2
  go_ret2
  exact ⟨rfl, HA1.out⟩

set_option maxRecDepth 100000 in
set_option maxHeartbeats 4000000 in
theorem r57_Message_2sb (q p : Int) (h s : ByteArray) (w : World) (hh : h.size ≤ 9223372036854775807) (hs : s.size ≤ 9223372036854775807) (hq : ((q : Int) == 0) = false) (hq2 : ((q : Int) == 2) = true) (hqn : ((q : Int) != 0) = true) (hqm : ((q : Int) != 2) = false) (hk : (0 : Int) ≤ q ∧ (q : Int) ≤ 2) (hv : nvalid h = true) (hl : h.toList.isEmpty = true) (hn : s.toList.isEmpty = false) : Calls Try.prog 9 #[.agg #[.int .i64 q, .string h, .string s, .int .i64 p]] w (RetSE (⟨#[]⟩, 3) w) := by
  obtain ⟨hk1, hk2⟩ := hk
  obtain ⟨W0, hW0⟩ : ∃ W0, w.alloc (.cells #[.int .i64 q, .string h, .string s, .int .i64 p] 24) = W0 := ⟨_, rfl⟩
  have hbox : W0.heap[w.heap.size]? = some (.cells #[.int .i64 q, .string h, .string s, .int .i64 p] 24 (0, 0)) := by rw [← hW0]; exact heap_alloc_new _ _
  have hb0 : Below w.heap.size w W0 := by rw [← hW0]; exact (Below.refl _ _).alloc (Nat.le_refl _) _
  have hz : w.heap.size + 1 ≤ W0.heap.size := block_lt hbox
  obtain ⟨b0, b1, b2, b3⟩ := four_cells hbox
  have HW0 := Lib.hid hW0
  have HA0 := Lib.hid hb0
  clear hW0 hbox hb0
  have HV := Lib.hid hv
  clear hv
  go_enter Try.func9, Try.ntmps9
  go_wp2_with fail
  rw [HW0.out]
  refine (r01_Valid h (by omega) _).mono ?_
  rintro e w1 ⟨rfl, rfl⟩
  rw [HV.out]
  go_wp2
  go_ret2
  exact ⟨rfl, HA0.out⟩

end Go.Proofs.Ythidhgniondkgaa

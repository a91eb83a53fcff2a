/- Walks: the laws LedgerMessages and LedgerAppends. -/
import Derived.Test.YthidhgniondkgaaAwa
set_option linter.unusedVariables false
set_option linter.unusedSimpArgs false
namespace Go.Proofs.Ythidhgniondkgaa
open Go.RowKit

/-- A new block of entries. -/
theorem sle_alloc (w : World) (l : List En) (T : TypeId) (h : l.length ≤ 9223372036854775807 := by decide) : SlE (w.alloc (.cells (enVals l).toArray T)) (some ⟨w.heap.size, 0, none⟩) l.length l.length l := by
  refine ⟨rfl, Nat.le_refl _, h, w.heap.size, 0, fun _ => rfl, fun k e hk => ?_⟩
  have hx : ∀ r, r < 4 → ∀ u, e.cells[r]? = some u → (w.alloc (.cells (enVals l).toArray T)).cell? ⟨w.heap.size, 0 + k * 4 + r, none⟩ = some u := fun r hr u hu => by
    rw [World.cell?_alloc_at (hn := rfl), Nat.zero_add]
    simp only [List.getElem?_toArray]
    rw [enVals_get l k r e hk hr]
    exact hu
  exact ⟨hx 0 (by omega) _ rfl, hx 1 (by omega) _ rfl, hx 2 (by omega) _ rfl, hx 3 (by omega) _ rfl⟩

theorem sle_at (w : World) (l : List En) (T : TypeId) (n : Nat) (hn : n = w.heap.size) (h : l.length ≤ 9223372036854775807 := by decide) : SlE (w.alloc (.cells (enVals l).toArray T)) (some ⟨n, 0, none⟩) l.length l.length l := by
  subst hn
  exact sle_alloc w l T h


set_option maxRecDepth 100000 in
set_option maxHeartbeats 2000000 in
theorem law_messages_big (q p : Int) (h s : ByteArray) (w : World) (hf : fewB [⟨q, h, s, p⟩] = false) : Calls Try.prog 3 #[.agg #[.int .i64 q, .string h, .string s, .int .i64 p]] w (Ret (.bool true) w) := by
  have HF := Lib.hid hf
  clear hf
  obtain ⟨W0, hW0⟩ : ∃ W0, w.alloc (.cells #[.int .i64 q, .string h, .string s, .int .i64 p] 24) = W0 := ⟨_, rfl⟩
  have hb0 : Below w.heap.size w W0 := by rw [← hW0]; exact (Below.refl _ _).alloc (Nat.le_refl _) _
  have hbox : W0.heap[w.heap.size]? = some (.cells #[.int .i64 q, .string h, .string s, .int .i64 p] 24 (0, 0)) := by rw [← hW0]; exact heap_alloc_new _ _
  obtain ⟨c0, c1, c2, c3⟩ := four_cells hbox
  have hz0 := block_lt hbox
  have HB0 := Lib.hid hb0
  have HW0 := Lib.hid hW0
  have HSZ := Lib.hid (show w.heap.size + 1 = W0.heap.size from by rw [← hW0]; simp)
  clear hb0 hW0 hbox
  go_enter Try.func3, Try.ntmps3
  go_wp2_with fail
  rw [HW0.out]
  refine (few_entries [⟨q, h, s, p⟩] _ 1 1 (W0.alloc (.cells #[.int .i64 q, .string h, .string s, .int .i64 p] 24)) (sle_at W0 [⟨q, h, s, p⟩] _ _ HSZ.out (by simp))).mono ?_
  rintro e1 w1 ⟨rfl, rfl⟩
  rw [HF.out]
  go_wp2_with fail
  refine (awake_any _).mono ?_
  rintro e2 w2 ⟨rfl, hb2⟩
  have HB2 := Lib.hid ((HB0.out.alloc HB0.out.size _).trans (hb2.mono (by simp; omega)))
  clear hb2
  go_wp2
  go_ret
  exact ⟨rfl, HB2.out⟩

set_option maxRecDepth 100000 in
set_option maxHeartbeats 2000000 in
theorem law_messages_few (q p : Int) (h s : ByteArray) (w : World) (hf : fewB [⟨q, h, s, p⟩] = true) : Calls Try.prog 3 #[.agg #[.int .i64 q, .string h, .string s, .int .i64 p]] w (Ret (.bool true) w) := by
  obtain ⟨hh, hsc⟩ := (few_of hf).2 0 _ rfl
  have hh' : h.size ≤ 16 := hh
  have hsc' : s.size ≤ 60 := hsc
  clear hh hsc
  obtain ⟨m, f, hm⟩ : ∃ m f, msgS ⟨q, h, s, p⟩ = (m, f) := ⟨_, _, rfl⟩
  have HM := Lib.hid hm
  have HF := Lib.hid hf
  clear hf hm
  obtain ⟨W0, hW0⟩ : ∃ W0, w.alloc (.cells #[.int .i64 q, .string h, .string s, .int .i64 p] 24) = W0 := ⟨_, rfl⟩
  have hb0 : Below w.heap.size w W0 := by rw [← hW0]; exact (Below.refl _ _).alloc (Nat.le_refl _) _
  have hbox : W0.heap[w.heap.size]? = some (.cells #[.int .i64 q, .string h, .string s, .int .i64 p] 24 (0, 0)) := by rw [← hW0]; exact heap_alloc_new _ _
  obtain ⟨c0, c1, c2, c3⟩ := four_cells hbox
  have hz0 := block_lt hbox
  have HB0 := Lib.hid hb0
  have HW0 := Lib.hid hW0
  have HSZ := Lib.hid (show w.heap.size + 1 = W0.heap.size from by rw [← hW0]; simp)
  clear hb0 hW0 hbox
  go_enter Try.func3, Try.ntmps3
  go_wp2_with fail
  rw [HW0.out]
  refine (few_entries [⟨q, h, s, p⟩] _ 1 1 (W0.alloc (.cells #[.int .i64 q, .string h, .string s, .int .i64 p] 24)) (sle_at W0 [⟨q, h, s, p⟩] _ _ HSZ.out (by simp))).mono ?_
  rintro e1 w1 ⟨rfl, rfl⟩
  rw [HF.out]
  obtain ⟨W1, hW1⟩ : ∃ W1, W0.alloc (.cells #[.int .i64 q, .string h, .string s, .int .i64 p] 24) = W1 := ⟨_, rfl⟩
  have hk1 : Below W0.heap.size W0 W1 := by rw [← hW1]; exact (Below.refl _ _).alloc (Nat.le_refl _) _
  have HB1 := Lib.hid (HB0.out.trans (hk1.mono (by omega)))
  have d0 := cell_kept hk1 (Nat.le_refl _) c0
  have d1 := cell_kept hk1 (Nat.le_refl _) c1
  have d2 := cell_kept hk1 (Nat.le_refl _) c2
  have d3 := cell_kept hk1 (Nat.le_refl _) c3
  rw [hW1]
  clear hk1 hW1 c0 c1 c2 c3
  go_wp2_with fail
  refine (led_Message ⟨q, h, s, p⟩ _ (by show h.size ≤ _; omega) (by show s.size ≤ _; omega)).mono ?_
  rintro e2 w2 ⟨rfl, hb2⟩
  rw [HM.out]
  have g0 := cell_kept hb2 (Nat.le_refl _) d0
  have g1 := cell_kept hb2 (Nat.le_refl _) d1
  have g2 := cell_kept hb2 (Nat.le_refl _) d2
  have g3 := cell_kept hb2 (Nat.le_refl _) d3
  have HB2 := Lib.hid (HB1.out.trans (hb2.mono HB1.out.size))
  clear hb2 d0 d1 d2 d3
  go_wp2_with fail
  refine (r57_Message ⟨q, h, s, p⟩ _ (by show h.size ≤ _; omega) (by show s.size ≤ _; omega)).mono ?_
  rintro e3 w3 ⟨rfl, hb3⟩
  rw [HM.out]
  have HB3 := Lib.hid (HB2.out.trans (hb3.mono HB2.out.size))
  clear hb3 g0 g1 g2 g3
  have hmm : decide (m = m) = true := decide_eq_true rfl
  go_wp2_with fail
  refine (awake_any _).mono ?_
  rintro e4 w4 ⟨rfl, hb4⟩
  have HB4 := Lib.hid (HB3.out.trans (hb4.mono HB3.out.size))
  clear hb4
  go_wp2
  go_ret
  exact ⟨rfl, HB4.out⟩


set_option maxRecDepth 100000 in
set_option maxHeartbeats 2000000 in
theorem law_appends_big (l : List En) (A : Option Addr) (len cap : Nat) (q p P : Int) (h s : ByteArray) (w : World) (hs : SlE w A len cap l) (hf : fewB l = false) : Calls Try.prog 4 #[.slice A len cap, .agg #[.int .i64 q, .string h, .string s, .int .i64 p], .int .i64 P] w (Ret (.bool true) w) := by
  have HFL := Lib.hid hf
  clear hf
  obtain ⟨W0, hW0⟩ : ∃ W0, w.alloc (.cells #[.int .i64 q, .string h, .string s, .int .i64 p] 24) = W0 := ⟨_, rfl⟩
  have hb0 : Below w.heap.size w W0 := by rw [← hW0]; exact (Below.refl _ _).alloc (Nat.le_refl _) _
  have hbox : W0.heap[w.heap.size]? = some (.cells #[.int .i64 q, .string h, .string s, .int .i64 p] 24 (0, 0)) := by rw [← hW0]; exact heap_alloc_new _ _
  obtain ⟨c0, c1, c2, c3⟩ := four_cells hbox
  have hz0 := block_lt hbox
  have HB0 := Lib.hid hb0
  have HW0 := Lib.hid hW0
  have HSZ := Lib.hid (show w.heap.size + 1 = W0.heap.size from by rw [← hW0]; simp)
  clear hb0 hW0 hbox
  have HS0 := Lib.hid (hs.kept HB0.out (Nat.le_refl _))
  clear hs
  go_enter Try.func4, Try.ntmps4
  go_wp2_with fail
  rw [HW0.out]
  refine (few_entries l _ len cap W0 HS0.out).mono ?_
  rintro e0 w0 ⟨rfl, rfl⟩
  rw [HFL.out]
  go_wp2_with fail
  refine (awake_any _).mono ?_
  rintro e2 w2 ⟨rfl, hb2⟩
  have HB2 := Lib.hid (HB0.out.trans (hb2.mono HB0.out.size))
  clear hb2
  go_wp2
  go_ret
  exact ⟨rfl, HB2.out⟩
set_option maxRecDepth 100000 in
set_option maxHeartbeats 2000000 in
theorem law_appends_big2 (l : List En) (A : Option Addr) (len cap : Nat) (q p P : Int) (h s : ByteArray) (w : World) (hs : SlE w A len cap l) (hfl : fewB l = true) (hf : fewB [⟨q, h, s, p⟩] = false) : Calls Try.prog 4 #[.slice A len cap, .agg #[.int .i64 q, .string h, .string s, .int .i64 p], .int .i64 P] w (Ret (.bool true) w) := by
  have HFL := Lib.hid hfl
  have HF := Lib.hid hf
  clear hf hfl
  obtain ⟨W0, hW0⟩ : ∃ W0, w.alloc (.cells #[.int .i64 q, .string h, .string s, .int .i64 p] 24) = W0 := ⟨_, rfl⟩
  have hb0 : Below w.heap.size w W0 := by rw [← hW0]; exact (Below.refl _ _).alloc (Nat.le_refl _) _
  have hbox : W0.heap[w.heap.size]? = some (.cells #[.int .i64 q, .string h, .string s, .int .i64 p] 24 (0, 0)) := by rw [← hW0]; exact heap_alloc_new _ _
  obtain ⟨c0, c1, c2, c3⟩ := four_cells hbox
  have hz0 := block_lt hbox
  have HB0 := Lib.hid hb0
  have HW0 := Lib.hid hW0
  have HSZ := Lib.hid (show w.heap.size + 1 = W0.heap.size from by rw [← hW0]; simp)
  clear hb0 hW0 hbox
  have HS0 := Lib.hid (hs.kept HB0.out (Nat.le_refl _))
  clear hs
  go_enter Try.func4, Try.ntmps4
  go_wp2_with fail
  rw [HW0.out]
  refine (few_entries l _ len cap W0 HS0.out).mono ?_
  rintro e0 w0 ⟨rfl, rfl⟩
  rw [HFL.out]
  go_wp2_with fail
  refine (few_entries [⟨q, h, s, p⟩] _ 1 1 (W0.alloc (.cells #[.int .i64 q, .string h, .string s, .int .i64 p] 24)) (sle_at W0 [⟨q, h, s, p⟩] _ _ rfl (by simp))).mono ?_
  rintro e1 w1 ⟨rfl, rfl⟩
  rw [HF.out]
  go_wp2_with fail
  refine (awake_any _).mono ?_
  rintro e2 w2 ⟨rfl, hb2⟩
  have HB2 := Lib.hid ((HB0.out.alloc HB0.out.size _).trans (hb2.mono (by simp; omega)))
  clear hb2
  go_wp2
  go_ret
  exact ⟨rfl, HB2.out⟩

set_option maxRecDepth 100000 in
set_option maxHeartbeats 4000000 in
theorem law_appends_few (l : List En) (A : Option Addr) (len cap : Nat) (q p P : Int) (h s : ByteArray) (w : World) (hs : SlE w A len cap l) (hfl : fewB l = true) (hf : fewB [⟨q, h, s, p⟩] = true) (hP : P ≤ 9223372036854775807) : Calls Try.prog 4 #[.slice A len cap, .agg #[.int .i64 q, .string h, .string s, .int .i64 p], .int .i64 P] w (Ret (.bool true) w) := by
  have hl30 := (few_of hfl).1
  rw [hs.1] at hl30
  have hszl : SzE l := fun k e hk => by have := ((few_of hfl).2 k e hk).1; unfold maxLen; omega
  obtain ⟨hh, hsc⟩ := (few_of hf).2 0 _ rfl
  have hh' : h.size ≤ 16 := hh
  have hsc' : s.size ≤ 60 := hsc
  clear hh hsc
  obtain ⟨al, af, ha⟩ : ∃ al af, appS l ⟨q, h, s, p⟩ = (al, af) := ⟨_, _, rfl⟩
  obtain ⟨ml, mf, hm⟩ : ∃ ml mf, memS l P = (ml, mf) := ⟨_, _, rfl⟩
  have HSZL := Lib.hid hszl
  have HA := Lib.hid ha
  have HM := Lib.hid hm
  have HFL := Lib.hid hfl
  have HF := Lib.hid hf
  clear hf hfl hszl ha hm
  obtain ⟨W0, hW0⟩ : ∃ W0, w.alloc (.cells #[.int .i64 q, .string h, .string s, .int .i64 p] 24) = W0 := ⟨_, rfl⟩
  have hb0 : Below w.heap.size w W0 := by rw [← hW0]; exact (Below.refl _ _).alloc (Nat.le_refl _) _
  have hbox : W0.heap[w.heap.size]? = some (.cells #[.int .i64 q, .string h, .string s, .int .i64 p] 24 (0, 0)) := by rw [← hW0]; exact heap_alloc_new _ _
  obtain ⟨c0, c1, c2, c3⟩ := four_cells hbox
  have hz0 := block_lt hbox
  have HB0 := Lib.hid hb0
  have HW0 := Lib.hid hW0
  have HSZ := Lib.hid (show w.heap.size + 1 = W0.heap.size from by rw [← hW0]; simp)
  clear hb0 hW0 hbox
  have HS0 := Lib.hid (hs.kept HB0.out (Nat.le_refl _))
  clear hs
  go_enter Try.func4, Try.ntmps4
  go_wp2_with fail
  rw [HW0.out]
  refine (few_entries l _ len cap W0 HS0.out).mono ?_
  rintro e0 w0 ⟨rfl, rfl⟩
  rw [HFL.out]
  go_wp2_with fail
  refine (few_entries [⟨q, h, s, p⟩] _ 1 1 (W0.alloc (.cells #[.int .i64 q, .string h, .string s, .int .i64 p] 24)) (sle_at W0 [⟨q, h, s, p⟩] _ _ rfl (by simp))).mono ?_
  rintro e1 w1 ⟨rfl, rfl⟩
  rw [HF.out]
  obtain ⟨W1, hW1⟩ : ∃ W1, W0.alloc (.cells #[.int .i64 q, .string h, .string s, .int .i64 p] 24) = W1 := ⟨_, rfl⟩
  have hb1 : Below W0.heap.size W0 W1 := by rw [← hW1]; exact (Below.refl _ _).alloc (Nat.le_refl _) _
  rw [hW1]
  have HB1 := Lib.hid (HB0.out.trans (hb1.mono HB0.out.size))
  have HS1 := Lib.hid (HS0.out.kept hb1 (Nat.le_refl _))
  have HK1 := Lib.hid hb1
  have c0' := cell_kept hb1 (Nat.le_refl _) c0
  have c1' := cell_kept hb1 (Nat.le_refl _) c1
  have c2' := cell_kept hb1 (Nat.le_refl _) c2
  have c3' := cell_kept hb1 (Nat.le_refl _) c3
  clear c0 c1 c2 c3
  have c0 := c0'
  have c1 := c1'
  have c2 := c2'
  have c3 := c3'
  clear c0' c1' c2' c3'
  clear hb1 hW1
  go_wp2_with fail
  refine (led_Append l A len cap ⟨q, h, s, p⟩ _ HS1.out (by omega) HSZL.out (by show h.size ≤ _; unfold maxLen; omega) (by show s.size ≤ _; omega)).mono ?_
  rw [HA.out]
  rintro e2 w2 ⟨A2, cap2, rfl, hs2, hb2⟩
  have HB2 := Lib.hid (HB1.out.trans (hb2.mono HB1.out.size))
  have HS2 := Lib.hid (HS1.out.kept hb2 (Nat.le_refl _))
  have HK2 := Lib.hid hb2
  have c0' := cell_kept hb2 (Nat.le_refl _) c0
  have c1' := cell_kept hb2 (Nat.le_refl _) c1
  have c2' := cell_kept hb2 (Nat.le_refl _) c2
  have c3' := cell_kept hb2 (Nat.le_refl _) c3
  clear c0 c1 c2 c3
  have c0 := c0'
  have c1 := c1'
  have c2 := c2'
  have c3 := c3'
  clear c0' c1' c2' c3'
  have HR2 := Lib.hid hs2
  clear hb2 hs2
  go_wp2_with fail
  refine (r57_Append l A len cap ⟨q, h, s, p⟩ _ HS2.out (by omega) (by show h.size ≤ _; omega) (by show s.size ≤ _; omega)).mono ?_
  rw [HA.out]
  rintro e3 w3 ⟨A3, cap3, rfl, hs3, hb3⟩
  have HB3 := Lib.hid (HB2.out.trans (hb3.mono HB2.out.size))
  have HS3 := Lib.hid (HS2.out.kept hb3 (Nat.le_refl _))
  have HK3 := Lib.hid hb3
  have HR3 := Lib.hid hs3
  clear hb3 hs3 c0 c1 c2 c3
  go_wp2_with fail
  refine (led_Members l A len cap P _ HS3.out (by omega) HSZL.out hP).mono ?_
  rw [HM.out]
  rintro e4 w4 ⟨A4, cap4, rfl, hs4, hb4⟩
  have HB4 := Lib.hid (HB3.out.trans (hb4.mono HB3.out.size))
  have HS4 := Lib.hid (HS3.out.kept hb4 (Nat.le_refl _))
  have HK4 := Lib.hid hb4
  have HR4 := Lib.hid hs4
  clear hb4 hs4
  go_wp2_with fail
  refine (r57_Members l A len cap P _ HS4.out (by omega) hP).mono ?_
  rw [HM.out]
  rintro e5 w5 ⟨A5, cap5, rfl, hs5, hb5⟩
  have HB5 := Lib.hid (HB4.out.trans (hb5.mono HB4.out.size))
  have HS5 := Lib.hid (HS4.out.kept hb5 (Nat.le_refl _))
  have HK5 := Lib.hid hb5
  have HR5 := Lib.hid hs5
  clear hb5 hs5
  go_wp2_with fail
  refine (eq_entries al A2 A3 _ cap2 cap3 _ (((HR2.out.kept HK3.out (Nat.le_refl _)).kept HK4.out (Nat.le_refl _)).kept HK5.out (Nat.le_refl _)) ((HR3.out.kept HK4.out (Nat.le_refl _)).kept HK5.out (Nat.le_refl _))).mono ?_
  rintro e6 w6 ⟨rfl, hb6⟩
  have HB6 := Lib.hid (HB5.out.trans (hb6.mono HB5.out.size))
  have HS6 := Lib.hid (HS5.out.kept hb6 (Nat.le_refl _))
  have HK6 := Lib.hid hb6
  clear hb6
  go_wp2_with fail
  refine (eq_nats ml A4 A5 _ cap4 cap5 _ ((HR4.out.kept HK5.out (Nat.le_refl _)).kept HK6.out (Nat.le_refl _)) (HR5.out.kept HK6.out (Nat.le_refl _))).mono ?_
  rintro e7 w7 ⟨rfl, hb7⟩
  have HB7 := Lib.hid (HB6.out.trans (hb7.mono HB6.out.size))
  have HS7 := Lib.hid (HS6.out.kept hb7 (Nat.le_refl _))
  have HK7 := Lib.hid hb7
  clear hb7
  go_wp2_with fail
  refine (awake_any _).mono ?_
  rintro e8 w8 ⟨rfl, hb8⟩
  have HB8 := Lib.hid (HB7.out.trans (hb8.mono HB7.out.size))
  have HS8 := Lib.hid (HS7.out.kept hb8 (Nat.le_refl _))
  have HK8 := Lib.hid hb8
  clear hb8
  go_wp2
  go_ret
  exact ⟨rfl, HB8.out⟩
end Go.Proofs.Ythidhgniondkgaa

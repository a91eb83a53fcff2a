/- Walks: the ledger's small items: number, nat; leaves with their values. -/
import Derived.Test.YthidhgniondkgaaEncG
import Derived.Test.YthidhgniondkgaaLex
import Derived.Test.YthidhgniondkgaaOrd
set_option linter.unusedVariables false
set_option linter.unusedSimpArgs false
namespace Go.Proofs.Ythidhgniondkgaa
open Go.RowKit

set_option maxHeartbeats 400000 in
theorem enc_NatV (a : ByteArray) (w : World) : Calls Try.prog 28 #[.string a] w (Ret (.agg #[.int .i64 0, .string a, .string ⟨#[]⟩, .slice none 0 0]) w) := by
  go_enter Try.func28, Try.ntmps28
  go_wp2
  exact bodyPost_ret (v := .agg #[.int .i64 0, .string a, .string ⟨#[]⟩, .slice none 0 0]) (by simp [results, Try.results28, go_sem]) rfl ⟨rfl, (Below.refl _ _).alloc (Nat.le_refl _) _⟩
set_option maxHeartbeats 400000 in
theorem enc_TextV (a : ByteArray) (w : World) : Calls Try.prog 26 #[.string a] w (Ret (.agg #[.int .i64 1, .string ⟨#[]⟩, .string a, .slice none 0 0]) w) := by
  go_enter Try.func26, Try.ntmps26
  go_wp2
  exact bodyPost_ret (v := .agg #[.int .i64 1, .string ⟨#[]⟩, .string a, .slice none 0 0]) (by simp [results, Try.results26, go_sem]) rfl ⟨rfl, (Below.refl _ _).alloc (Nat.le_refl _) _⟩
set_option maxHeartbeats 400000 in
theorem r08_NatV (a : ByteArray) (w : World) : Calls Try.prog 36 #[.string a] w (Ret (.agg #[.int .i64 0, .string a, .string ⟨#[]⟩, .slice none 0 0]) w) := by
  go_enter Try.func36, Try.ntmps36
  go_wp2
  exact bodyPost_ret (v := .agg #[.int .i64 0, .string a, .string ⟨#[]⟩, .slice none 0 0]) (by simp [results, Try.results36, go_sem]) rfl ⟨rfl, (Below.refl _ _).alloc (Nat.le_refl _) _⟩
set_option maxHeartbeats 400000 in
theorem r08_TextV (a : ByteArray) (w : World) : Calls Try.prog 34 #[.string a] w (Ret (.agg #[.int .i64 1, .string ⟨#[]⟩, .string a, .slice none 0 0]) w) := by
  go_enter Try.func34, Try.ntmps34
  go_wp2
  exact bodyPost_ret (v := .agg #[.int .i64 1, .string ⟨#[]⟩, .string a, .slice none 0 0]) (by simp [results, Try.results34, go_sem]) rfl ⟨rfl, (Below.refl _ _).alloc (Nat.le_refl _) _⟩

set_option maxHeartbeats 800000 in
theorem led_number (n : Nat) (w : World) (h : n < 9223372036854775808) : Calls Try.prog 27 #[.int .i64 n] w (Ret (.agg #[.int .i64 0, .string (bstr (encN n)), .string ⟨#[]⟩, .slice none 0 0]) w) := by
  have h1 : (n : Int) % 18446744073709551616 = n := by omega
  have H := Lib.hid h
  clear h
  obtain ⟨W0, hW0⟩ : ∃ W0, w.alloc (.cells #[.int .i64 0, .string ⟨#[]⟩, .string ⟨#[]⟩, .slice none 0 0] 58) = W0 := ⟨_, rfl⟩
  have hres0 : W0.heap[w.heap.size]? = some (.cells #[.int .i64 0, .string ⟨#[]⟩, .string ⟨#[]⟩, .slice none 0 0] 58 (0, 0)) := by rw [← hW0]; exact heap_alloc_new _ _
  have hb0 : Below w.heap.size w W0 := by rw [← hW0]; exact (Below.refl _ _).alloc (Nat.le_refl _) _
  have HW0 := Lib.hid hW0
  have HR0 := Lib.hid hres0
  have HB0 := Lib.hid hb0
  clear hW0 hres0 hb0
  go_enter Try.func27, Try.ntmps27
  go_wp2_with fail
  rw [HW0.out]
  refine (nat_Of n (by have := H.out; omega) _).mono ?_
  rintro e w1 ⟨rfl, hb1⟩
  have HR1 := Lib.hid (block_kept hb1 (Nat.le_refl _) HR0.out)
  have HB1 := Lib.hid (HB0.out.trans (hb1.mono HB0.out.size))
  clear hb1
  go_wp2_with fail
  refine (enc_NatV _ _).mono ?_
  rintro e w2 ⟨rfl, hb2⟩
  have hres := block_kept hb2 (Nat.le_refl _) HR1.out
  have HB2 := Lib.hid (HB1.out.trans (hb2.mono HB1.out.size))
  obtain ⟨rc0, rc1, rc2, rc3⟩ := four_cells hres
  obtain ⟨rf0, rf1, rf2, rf3⟩ := four_free hres
  have HRES := Lib.hid hres
  clear hb2 hres
  go_wp2
  have HE := Lib.hid (four_cells (set4_block HRES.out (.int .i64 0) (.string (bstr (encN n))) (.string ⟨#[]⟩) (.slice none 0 0)))
  have HBE := Lib.hid (set4_below HB2.out (b := w.heap.size) (Nat.le_refl _) (.int .i64 0) (.string (bstr (encN n))) (.string ⟨#[]⟩) (.slice none 0 0))
  unfold set4 at HE HBE
  obtain ⟨wf, hwf⟩ : ∃ wf, (((w2.setCell ⟨w.heap.size, 0, none⟩ (.int .i64 0)).setCell ⟨w.heap.size, 1, none⟩ (.string (bstr (encN n)))).setCell ⟨w.heap.size, 2, none⟩ (.string ⟨#[]⟩)).setCell ⟨w.heap.size, 3, none⟩ (.slice none 0 0) = wf := ⟨_, rfl⟩
  rw [hwf] at HE HBE ⊢
  obtain ⟨q0, q1, q2, q3⟩ := HE.out
  exact bodyPost_ret (v := .agg #[.int .i64 0, .string (bstr (encN n)), .string ⟨#[]⟩, .slice none 0 0]) (by simp [results, Try.results27, go_sem, q0, q1, q2, q3]) rfl ⟨rfl, HBE.out⟩

set_option maxHeartbeats 800000 in
theorem r57_nat (n : Nat) (w : World) (h : n < 9223372036854775808) : Calls Try.prog 35 #[.int .i64 n] w (Ret (.agg #[.int .i64 0, .string (bstr (encN n)), .string ⟨#[]⟩, .slice none 0 0]) w) := by
  have h1 : (n : Int) % 18446744073709551616 = n := by omega
  have H := Lib.hid h
  clear h
  obtain ⟨W0, hW0⟩ : ∃ W0, w.alloc (.cells #[.int .i64 0, .string ⟨#[]⟩, .string ⟨#[]⟩, .slice none 0 0] 58) = W0 := ⟨_, rfl⟩
  have hres0 : W0.heap[w.heap.size]? = some (.cells #[.int .i64 0, .string ⟨#[]⟩, .string ⟨#[]⟩, .slice none 0 0] 58 (0, 0)) := by rw [← hW0]; exact heap_alloc_new _ _
  have hb0 : Below w.heap.size w W0 := by rw [← hW0]; exact (Below.refl _ _).alloc (Nat.le_refl _) _
  have HW0 := Lib.hid hW0
  have HR0 := Lib.hid hres0
  have HB0 := Lib.hid hb0
  clear hW0 hres0 hb0
  go_enter Try.func35, Try.ntmps35
  go_wp2_with fail
  rw [HW0.out]
  refine (r01_Of n (by have := H.out; omega) _).mono ?_
  rintro e w1 ⟨rfl, hb1⟩
  have HR1 := Lib.hid (block_kept hb1 (Nat.le_refl _) HR0.out)
  have HB1 := Lib.hid (HB0.out.trans (hb1.mono HB0.out.size))
  clear hb1
  go_wp2_with fail
  refine (r08_NatV _ _).mono ?_
  rintro e w2 ⟨rfl, hb2⟩
  have hres := block_kept hb2 (Nat.le_refl _) HR1.out
  have HB2 := Lib.hid (HB1.out.trans (hb2.mono HB1.out.size))
  obtain ⟨rc0, rc1, rc2, rc3⟩ := four_cells hres
  obtain ⟨rf0, rf1, rf2, rf3⟩ := four_free hres
  have HRES := Lib.hid hres
  clear hb2 hres
  go_wp2
  have HE := Lib.hid (four_cells (set4_block HRES.out (.int .i64 0) (.string (bstr (encN n))) (.string ⟨#[]⟩) (.slice none 0 0)))
  have HBE := Lib.hid (set4_below HB2.out (b := w.heap.size) (Nat.le_refl _) (.int .i64 0) (.string (bstr (encN n))) (.string ⟨#[]⟩) (.slice none 0 0))
  unfold set4 at HE HBE
  obtain ⟨wf, hwf⟩ : ∃ wf, (((w2.setCell ⟨w.heap.size, 0, none⟩ (.int .i64 0)).setCell ⟨w.heap.size, 1, none⟩ (.string (bstr (encN n)))).setCell ⟨w.heap.size, 2, none⟩ (.string ⟨#[]⟩)).setCell ⟨w.heap.size, 3, none⟩ (.slice none 0 0) = wf := ⟨_, rfl⟩
  rw [hwf] at HE HBE ⊢
  obtain ⟨q0, q1, q2, q3⟩ := HE.out
  exact bodyPost_ret (v := .agg #[.int .i64 0, .string (bstr (encN n)), .string ⟨#[]⟩, .slice none 0 0]) (by simp [results, Try.results35, go_sem, q0, q1, q2, q3]) rfl ⟨rfl, HBE.out⟩

end Go.Proofs.Ythidhgniondkgaa

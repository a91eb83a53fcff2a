/- What an entry's error behind a ledger is; walks: dominoref57.follows. -/
import Derived.Test.YthidhgniondkgaaEnt
set_option linter.unusedVariables false
set_option linter.unusedSimpArgs false
namespace Go.Proofs.Ythidhgniondkgaa
open Go.RowKit

/-- The error of an entry behind a ledger with size n, epoch m; was: issued, gone: revoked. -/
def folF (f : Int) (n m : Nat) (was gone : Bool) (q p : Int) : Int :=
  if f ≠ 0 then f else if 4096 ≤ n then 6 else if p ≠ (m : Int) + (if q = 2 then 1 else 0) then 21 else if q = 0 ∧ was = true then 8 else if q = 1 ∧ was = false then 9 else if q = 1 ∧ gone = true then 20 else 0
def followsS (l : List En) (e : En) : Int := folF (msgS e).2 l.length (epochN l) (hasB l 0 e.handle) (hasB l 1 e.handle) e.kind e.epoch

theorem folF_f {f : Int} (h : f ≠ 0) (n m : Nat) (a b : Bool) (q p : Int) : folF f n m a b q p = f := by unfold folF; rw [if_pos h]
theorem folF_n {n : Nat} (h : 4096 ≤ n) (m : Nat) (a b : Bool) (q p : Int) : folF 0 n m a b q p = 6 := by unfold folF; rw [if_neg (by simp), if_pos h]
theorem folF_p {n m : Nat} (h : n < 4096) {q p : Int} (hp : p ≠ (m : Int) + (if q = 2 then 1 else 0)) (a b : Bool) : folF 0 n m a b q p = 21 := by unfold folF; rw [if_neg (by simp), if_neg (by omega), if_pos hp]
theorem folF_s {n m : Nat} (h : n < 4096) {q p : Int} (hp : p = (m : Int) + (if q = 2 then 1 else 0)) (a b : Bool) : folF 0 n m a b q p = if q = 0 ∧ a = true then 8 else if q = 1 ∧ a = false then 9 else if q = 1 ∧ b = true then 20 else 0 := by
  unfold folF; rw [if_neg (by simp), if_neg (by omega), if_neg (by simp [hp])]
/-- An entry with a message has one of three kinds. -/
theorem msg_kind {e : En} (h : (msgS e).2 = 0) : e.kind = 0 ∨ e.kind = 1 ∨ e.kind = 2 := by
  unfold msgS formB at h
  by_cases h0 : e.kind = 0
  · exact .inl h0
  · by_cases h1 : e.kind = 1
    · exact .inr (.inl h1)
    · by_cases h2 : e.kind = 2
      · exact .inr (.inr h2)
      · simp [h0, h1, h2] at h


set_option maxRecDepth 100000 in
set_option maxHeartbeats 2000000 in
theorem r57_follows_f (l : List En) (A : Option Addr) (len cap : Nat) (q p : Int) (h s : ByteArray) (w : World) (hs : SlE w A len cap l) (hlc : len ≤ 9223372036854775807) (hh : h.size ≤ 9223372036854775807) (hsc : s.size ≤ 9223372036854775807) (m : ByteArray) (f : Int) (hm : msgS ⟨q, h, s, p⟩ = (m, f)) (hf : (f != 0) = true) : Calls Try.prog 40 #[.slice A len cap, .agg #[.int .i64 q, .string h, .string s, .int .i64 p]] w (Ret (.int .i64 f) w) := by
  have HM := Lib.hid hm
  clear hm
  obtain ⟨W0, hW0⟩ : ∃ W0, w.alloc (.cells #[.int .i64 q, .string h, .string s, .int .i64 p] 24) = W0 := ⟨_, rfl⟩
  have hbox : W0.heap[w.heap.size]? = some (.cells #[.int .i64 q, .string h, .string s, .int .i64 p] 24 (0, 0)) := by rw [← hW0]; exact heap_alloc_new _ _
  have hb0 : Below w.heap.size w W0 := by rw [← hW0]; exact (Below.refl _ _).alloc (Nat.le_refl _) _
  have hz : w.heap.size + 1 ≤ W0.heap.size := block_lt hbox
  obtain ⟨b0, b1, b2, b3⟩ := four_cells hbox
  have HW0 := Lib.hid hW0
  have HA0 := Lib.hid hb0
  have HS0 := Lib.hid (hs.kept hb0 (Nat.le_refl _))
  have hlen := hs.1
  have HLEN := Lib.hid hlen
  clear hW0 hbox hb0 hs hlen
  go_enter Try.func40, Try.ntmps40
  go_wp2_with fail
  rw [HW0.out]
  refine (r57_Message ⟨q, h, s, p⟩ _ hh hsc).mono ?_
  rintro e w1 ⟨rfl, hb1⟩
  have d0 := cell_kept hb1 (Nat.le_refl _) b0
  have d1 := cell_kept hb1 (Nat.le_refl _) b1
  have d2 := cell_kept hb1 (Nat.le_refl _) b2
  have d3 := cell_kept hb1 (Nat.le_refl _) b3
  have HA1 := Lib.hid (HA0.out.trans (hb1.mono (by omega)))
  have HS1 := Lib.hid (HS0.out.kept hb1 (Nat.le_refl _))
  rw [HM.out]
  clear b0 b1 b2 b3 HA0 HS0 HW0 hb1 hz
  go_wp2
  go_ret
  exact ⟨rfl, HA1.out⟩

set_option maxRecDepth 100000 in
set_option maxHeartbeats 2000000 in
theorem r57_follows_n (l : List En) (A : Option Addr) (len cap : Nat) (q p : Int) (h s : ByteArray) (w : World) (hs : SlE w A len cap l) (hlc : len ≤ 9223372036854775807) (hh : h.size ≤ 9223372036854775807) (hsc : s.size ≤ 9223372036854775807) (m : ByteArray) (f : Int) (hm : msgS ⟨q, h, s, p⟩ = (m, f)) (hf : f = 0) (hn : 4096 ≤ len) : Calls Try.prog 40 #[.slice A len cap, .agg #[.int .i64 q, .string h, .string s, .int .i64 p]] w (Ret (.int .i64 6) w) := by
  have HM := Lib.hid hm
  clear hm
  subst hf
  obtain ⟨W0, hW0⟩ : ∃ W0, w.alloc (.cells #[.int .i64 q, .string h, .string s, .int .i64 p] 24) = W0 := ⟨_, rfl⟩
  have hbox : W0.heap[w.heap.size]? = some (.cells #[.int .i64 q, .string h, .string s, .int .i64 p] 24 (0, 0)) := by rw [← hW0]; exact heap_alloc_new _ _
  have hb0 : Below w.heap.size w W0 := by rw [← hW0]; exact (Below.refl _ _).alloc (Nat.le_refl _) _
  have hz : w.heap.size + 1 ≤ W0.heap.size := block_lt hbox
  obtain ⟨b0, b1, b2, b3⟩ := four_cells hbox
  have HW0 := Lib.hid hW0
  have HA0 := Lib.hid hb0
  have HS0 := Lib.hid (hs.kept hb0 (Nat.le_refl _))
  have hlen := hs.1
  have HLEN := Lib.hid hlen
  clear hW0 hbox hb0 hs hlen
  go_enter Try.func40, Try.ntmps40
  go_wp2_with fail
  rw [HW0.out]
  refine (r57_Message ⟨q, h, s, p⟩ _ hh hsc).mono ?_
  rintro e w1 ⟨rfl, hb1⟩
  have d0 := cell_kept hb1 (Nat.le_refl _) b0
  have d1 := cell_kept hb1 (Nat.le_refl _) b1
  have d2 := cell_kept hb1 (Nat.le_refl _) b2
  have d3 := cell_kept hb1 (Nat.le_refl _) b3
  have HA1 := Lib.hid (HA0.out.trans (hb1.mono (by omega)))
  have HS1 := Lib.hid (HS0.out.kept hb1 (Nat.le_refl _))
  rw [HM.out]
  clear b0 b1 b2 b3 HA0 HS0 HW0 hb1 hz
  go_wp2
  go_ret
  exact ⟨rfl, HA1.out⟩

set_option maxRecDepth 100000 in
set_option maxHeartbeats 2000000 in
theorem r57_follows_2p (l : List En) (A : Option Addr) (len cap : Nat) (q p : Int) (h s : ByteArray) (w : World) (hs : SlE w A len cap l) (hlc : len ≤ 9223372036854775807) (hh : h.size ≤ 9223372036854775807) (hsc : s.size ≤ 9223372036854775807) (m : ByteArray) (f : Int) (hm : msgS ⟨q, h, s, p⟩ = (m, f)) (hf : f = 0) (hn : len < 4096) (n : Nat) (hN : epochN l = n) (hnl : n ≤ len) (hq : (q == 2) = true) (hq0 : (q == 0) = false) (hq1 : (q == 1) = false) (hp : (p != (n : Int) + 1) = true) : Calls Try.prog 40 #[.slice A len cap, .agg #[.int .i64 q, .string h, .string s, .int .i64 p]] w (Ret (.int .i64 21) w) := by
  have HM := Lib.hid hm
  clear hm
  subst hf
  have HN := Lib.hid hN
  clear hN
  obtain ⟨W0, hW0⟩ : ∃ W0, w.alloc (.cells #[.int .i64 q, .string h, .string s, .int .i64 p] 24) = W0 := ⟨_, rfl⟩
  have hbox : W0.heap[w.heap.size]? = some (.cells #[.int .i64 q, .string h, .string s, .int .i64 p] 24 (0, 0)) := by rw [← hW0]; exact heap_alloc_new _ _
  have hb0 : Below w.heap.size w W0 := by rw [← hW0]; exact (Below.refl _ _).alloc (Nat.le_refl _) _
  have hz : w.heap.size + 1 ≤ W0.heap.size := block_lt hbox
  obtain ⟨b0, b1, b2, b3⟩ := four_cells hbox
  have HW0 := Lib.hid hW0
  have HA0 := Lib.hid hb0
  have HS0 := Lib.hid (hs.kept hb0 (Nat.le_refl _))
  have hlen := hs.1
  have HLEN := Lib.hid hlen
  clear hW0 hbox hb0 hs hlen
  go_enter Try.func40, Try.ntmps40
  go_wp2_with fail
  rw [HW0.out]
  refine (r57_Message ⟨q, h, s, p⟩ _ hh hsc).mono ?_
  rintro e w1 ⟨rfl, hb1⟩
  have d0 := cell_kept hb1 (Nat.le_refl _) b0
  have d1 := cell_kept hb1 (Nat.le_refl _) b1
  have d2 := cell_kept hb1 (Nat.le_refl _) b2
  have d3 := cell_kept hb1 (Nat.le_refl _) b3
  have HA1 := Lib.hid (HA0.out.trans (hb1.mono (by omega)))
  have HS1 := Lib.hid (HS0.out.kept hb1 (Nat.le_refl _))
  rw [HM.out]
  clear b0 b1 b2 b3 HA0 HS0 HW0 hb1 hz
  go_wp2_with fail
  refine (r57_Epoch l A len cap _ HS1.out).mono ?_
  rintro e w2 ⟨rfl, rfl⟩
  rw [HN.out]
  go_wp2
  go_ret
  exact ⟨rfl, HA1.out⟩

set_option maxRecDepth 100000 in
set_option maxHeartbeats 2000000 in
theorem r57_follows_0p (l : List En) (A : Option Addr) (len cap : Nat) (q p : Int) (h s : ByteArray) (w : World) (hs : SlE w A len cap l) (hlc : len ≤ 9223372036854775807) (hh : h.size ≤ 9223372036854775807) (hsc : s.size ≤ 9223372036854775807) (m : ByteArray) (f : Int) (hm : msgS ⟨q, h, s, p⟩ = (m, f)) (hf : f = 0) (hn : len < 4096) (n : Nat) (hN : epochN l = n) (hnl : n ≤ len) (hq : (q == 2) = false) (hq0 : (q == 0) = true) (hq1 : (q == 1) = false) (hp : (p != (n : Int)) = true) : Calls Try.prog 40 #[.slice A len cap, .agg #[.int .i64 q, .string h, .string s, .int .i64 p]] w (Ret (.int .i64 21) w) := by
  have HM := Lib.hid hm
  clear hm
  subst hf
  have HN := Lib.hid hN
  clear hN
  obtain ⟨W0, hW0⟩ : ∃ W0, w.alloc (.cells #[.int .i64 q, .string h, .string s, .int .i64 p] 24) = W0 := ⟨_, rfl⟩
  have hbox : W0.heap[w.heap.size]? = some (.cells #[.int .i64 q, .string h, .string s, .int .i64 p] 24 (0, 0)) := by rw [← hW0]; exact heap_alloc_new _ _
  have hb0 : Below w.heap.size w W0 := by rw [← hW0]; exact (Below.refl _ _).alloc (Nat.le_refl _) _
  have hz : w.heap.size + 1 ≤ W0.heap.size := block_lt hbox
  obtain ⟨b0, b1, b2, b3⟩ := four_cells hbox
  have HW0 := Lib.hid hW0
  have HA0 := Lib.hid hb0
  have HS0 := Lib.hid (hs.kept hb0 (Nat.le_refl _))
  have hlen := hs.1
  have HLEN := Lib.hid hlen
  clear hW0 hbox hb0 hs hlen
  go_enter Try.func40, Try.ntmps40
  go_wp2_with fail
  rw [HW0.out]
  refine (r57_Message ⟨q, h, s, p⟩ _ hh hsc).mono ?_
  rintro e w1 ⟨rfl, hb1⟩
  have d0 := cell_kept hb1 (Nat.le_refl _) b0
  have d1 := cell_kept hb1 (Nat.le_refl _) b1
  have d2 := cell_kept hb1 (Nat.le_refl _) b2
  have d3 := cell_kept hb1 (Nat.le_refl _) b3
  have HA1 := Lib.hid (HA0.out.trans (hb1.mono (by omega)))
  have HS1 := Lib.hid (HS0.out.kept hb1 (Nat.le_refl _))
  rw [HM.out]
  clear b0 b1 b2 b3 HA0 HS0 HW0 hb1 hz
  go_wp2_with fail
  refine (r57_Epoch l A len cap _ HS1.out).mono ?_
  rintro e w2 ⟨rfl, rfl⟩
  rw [HN.out]
  go_wp2
  go_ret
  exact ⟨rfl, HA1.out⟩

set_option maxRecDepth 100000 in
set_option maxHeartbeats 2000000 in
theorem r57_follows_1p (l : List En) (A : Option Addr) (len cap : Nat) (q p : Int) (h s : ByteArray) (w : World) (hs : SlE w A len cap l) (hlc : len ≤ 9223372036854775807) (hh : h.size ≤ 9223372036854775807) (hsc : s.size ≤ 9223372036854775807) (m : ByteArray) (f : Int) (hm : msgS ⟨q, h, s, p⟩ = (m, f)) (hf : f = 0) (hn : len < 4096) (n : Nat) (hN : epochN l = n) (hnl : n ≤ len) (hq : (q == 2) = false) (hq0 : (q == 0) = false) (hq1 : (q == 1) = true) (hp : (p != (n : Int)) = true) : Calls Try.prog 40 #[.slice A len cap, .agg #[.int .i64 q, .string h, .string s, .int .i64 p]] w (Ret (.int .i64 21) w) := by
  have HM := Lib.hid hm
  clear hm
  subst hf
  have HN := Lib.hid hN
  clear hN
  obtain ⟨W0, hW0⟩ : ∃ W0, w.alloc (.cells #[.int .i64 q, .string h, .string s, .int .i64 p] 24) = W0 := ⟨_, rfl⟩
  have hbox : W0.heap[w.heap.size]? = some (.cells #[.int .i64 q, .string h, .string s, .int .i64 p] 24 (0, 0)) := by rw [← hW0]; exact heap_alloc_new _ _
  have hb0 : Below w.heap.size w W0 := by rw [← hW0]; exact (Below.refl _ _).alloc (Nat.le_refl _) _
  have hz : w.heap.size + 1 ≤ W0.heap.size := block_lt hbox
  obtain ⟨b0, b1, b2, b3⟩ := four_cells hbox
  have HW0 := Lib.hid hW0
  have HA0 := Lib.hid hb0
  have HS0 := Lib.hid (hs.kept hb0 (Nat.le_refl _))
  have hlen := hs.1
  have HLEN := Lib.hid hlen
  clear hW0 hbox hb0 hs hlen
  go_enter Try.func40, Try.ntmps40
  go_wp2_with fail
  rw [HW0.out]
  refine (r57_Message ⟨q, h, s, p⟩ _ hh hsc).mono ?_
  rintro e w1 ⟨rfl, hb1⟩
  have d0 := cell_kept hb1 (Nat.le_refl _) b0
  have d1 := cell_kept hb1 (Nat.le_refl _) b1
  have d2 := cell_kept hb1 (Nat.le_refl _) b2
  have d3 := cell_kept hb1 (Nat.le_refl _) b3
  have HA1 := Lib.hid (HA0.out.trans (hb1.mono (by omega)))
  have HS1 := Lib.hid (HS0.out.kept hb1 (Nat.le_refl _))
  rw [HM.out]
  clear b0 b1 b2 b3 HA0 HS0 HW0 hb1 hz
  go_wp2_with fail
  refine (r57_Epoch l A len cap _ HS1.out).mono ?_
  rintro e w2 ⟨rfl, rfl⟩
  rw [HN.out]
  go_wp2
  go_ret
  exact ⟨rfl, HA1.out⟩

set_option maxRecDepth 100000 in
set_option maxHeartbeats 2000000 in
theorem r57_follows_2ok (l : List En) (A : Option Addr) (len cap : Nat) (q p : Int) (h s : ByteArray) (w : World) (hs : SlE w A len cap l) (hlc : len ≤ 9223372036854775807) (hh : h.size ≤ 9223372036854775807) (hsc : s.size ≤ 9223372036854775807) (m : ByteArray) (f : Int) (hm : msgS ⟨q, h, s, p⟩ = (m, f)) (hf : f = 0) (hn : len < 4096) (n : Nat) (hN : epochN l = n) (hnl : n ≤ len) (hq : (q == 2) = true) (hq0 : (q == 0) = false) (hq1 : (q == 1) = false) (hp : (p != (n : Int) + 1) = false) : Calls Try.prog 40 #[.slice A len cap, .agg #[.int .i64 q, .string h, .string s, .int .i64 p]] w (Ret (.int .i64 0) w) := by
  have HM := Lib.hid hm
  clear hm
  subst hf
  have HN := Lib.hid hN
  clear hN
  obtain ⟨W0, hW0⟩ : ∃ W0, w.alloc (.cells #[.int .i64 q, .string h, .string s, .int .i64 p] 24) = W0 := ⟨_, rfl⟩
  have hbox : W0.heap[w.heap.size]? = some (.cells #[.int .i64 q, .string h, .string s, .int .i64 p] 24 (0, 0)) := by rw [← hW0]; exact heap_alloc_new _ _
  have hb0 : Below w.heap.size w W0 := by rw [← hW0]; exact (Below.refl _ _).alloc (Nat.le_refl _) _
  have hz : w.heap.size + 1 ≤ W0.heap.size := block_lt hbox
  obtain ⟨b0, b1, b2, b3⟩ := four_cells hbox
  have HW0 := Lib.hid hW0
  have HA0 := Lib.hid hb0
  have HS0 := Lib.hid (hs.kept hb0 (Nat.le_refl _))
  have hlen := hs.1
  have HLEN := Lib.hid hlen
  clear hW0 hbox hb0 hs hlen
  go_enter Try.func40, Try.ntmps40
  go_wp2_with fail
  rw [HW0.out]
  refine (r57_Message ⟨q, h, s, p⟩ _ hh hsc).mono ?_
  rintro e w1 ⟨rfl, hb1⟩
  have d0 := cell_kept hb1 (Nat.le_refl _) b0
  have d1 := cell_kept hb1 (Nat.le_refl _) b1
  have d2 := cell_kept hb1 (Nat.le_refl _) b2
  have d3 := cell_kept hb1 (Nat.le_refl _) b3
  have HA1 := Lib.hid (HA0.out.trans (hb1.mono (by omega)))
  have HS1 := Lib.hid (HS0.out.kept hb1 (Nat.le_refl _))
  rw [HM.out]
  clear b0 b1 b2 b3 HA0 HS0 HW0 hb1 hz
  go_wp2_with fail
  refine (r57_Epoch l A len cap _ HS1.out).mono ?_
  rintro e w2 ⟨rfl, rfl⟩
  rw [HN.out]
  go_wp2
  go_ret
  exact ⟨rfl, HA1.out⟩

set_option maxRecDepth 100000 in
set_option maxHeartbeats 2000000 in
theorem r57_follows_0t (l : List En) (A : Option Addr) (len cap : Nat) (q p : Int) (h s : ByteArray) (w : World) (hs : SlE w A len cap l) (hlc : len ≤ 9223372036854775807) (hh : h.size ≤ 9223372036854775807) (hsc : s.size ≤ 9223372036854775807) (m : ByteArray) (f : Int) (hm : msgS ⟨q, h, s, p⟩ = (m, f)) (hf : f = 0) (hn : len < 4096) (n : Nat) (hN : epochN l = n) (hnl : n ≤ len) (hq : (q == 2) = false) (hq0 : (q == 0) = true) (hq1 : (q == 1) = false) (hp : (p != (n : Int)) = false) (h0 : hasB l 0 h = true) : Calls Try.prog 40 #[.slice A len cap, .agg #[.int .i64 q, .string h, .string s, .int .i64 p]] w (Ret (.int .i64 8) w) := by
  have HM := Lib.hid hm
  clear hm
  subst hf
  have HN := Lib.hid hN
  clear hN
  have H0 := Lib.hid h0
  clear h0
  obtain ⟨W0, hW0⟩ : ∃ W0, w.alloc (.cells #[.int .i64 q, .string h, .string s, .int .i64 p] 24) = W0 := ⟨_, rfl⟩
  have hbox : W0.heap[w.heap.size]? = some (.cells #[.int .i64 q, .string h, .string s, .int .i64 p] 24 (0, 0)) := by rw [← hW0]; exact heap_alloc_new _ _
  have hb0 : Below w.heap.size w W0 := by rw [← hW0]; exact (Below.refl _ _).alloc (Nat.le_refl _) _
  have hz : w.heap.size + 1 ≤ W0.heap.size := block_lt hbox
  obtain ⟨b0, b1, b2, b3⟩ := four_cells hbox
  have HW0 := Lib.hid hW0
  have HA0 := Lib.hid hb0
  have HS0 := Lib.hid (hs.kept hb0 (Nat.le_refl _))
  have hlen := hs.1
  have HLEN := Lib.hid hlen
  clear hW0 hbox hb0 hs hlen
  go_enter Try.func40, Try.ntmps40
  go_wp2_with fail
  rw [HW0.out]
  refine (r57_Message ⟨q, h, s, p⟩ _ hh hsc).mono ?_
  rintro e w1 ⟨rfl, hb1⟩
  have d0 := cell_kept hb1 (Nat.le_refl _) b0
  have d1 := cell_kept hb1 (Nat.le_refl _) b1
  have d2 := cell_kept hb1 (Nat.le_refl _) b2
  have d3 := cell_kept hb1 (Nat.le_refl _) b3
  have HA1 := Lib.hid (HA0.out.trans (hb1.mono (by omega)))
  have HS1 := Lib.hid (HS0.out.kept hb1 (Nat.le_refl _))
  rw [HM.out]
  clear b0 b1 b2 b3 HA0 HS0 HW0 hb1 hz
  go_wp2_with fail
  refine (r57_Epoch l A len cap _ HS1.out).mono ?_
  rintro e w2 ⟨rfl, rfl⟩
  rw [HN.out]
  go_wp2_with fail
  refine (r57_has l A len cap 0 h _ HS1.out).mono ?_
  rintro e w3 ⟨rfl, rfl⟩
  rw [H0.out]
  go_wp2
  go_ret
  exact ⟨rfl, HA1.out⟩

set_option maxRecDepth 100000 in
set_option maxHeartbeats 2000000 in
theorem r57_follows_0ok (l : List En) (A : Option Addr) (len cap : Nat) (q p : Int) (h s : ByteArray) (w : World) (hs : SlE w A len cap l) (hlc : len ≤ 9223372036854775807) (hh : h.size ≤ 9223372036854775807) (hsc : s.size ≤ 9223372036854775807) (m : ByteArray) (f : Int) (hm : msgS ⟨q, h, s, p⟩ = (m, f)) (hf : f = 0) (hn : len < 4096) (n : Nat) (hN : epochN l = n) (hnl : n ≤ len) (hq : (q == 2) = false) (hq0 : (q == 0) = true) (hq1 : (q == 1) = false) (hp : (p != (n : Int)) = false) (h0 : hasB l 0 h = false) : Calls Try.prog 40 #[.slice A len cap, .agg #[.int .i64 q, .string h, .string s, .int .i64 p]] w (Ret (.int .i64 0) w) := by
  have HM := Lib.hid hm
  clear hm
  subst hf
  have HN := Lib.hid hN
  clear hN
  have H0 := Lib.hid h0
  clear h0
  obtain ⟨W0, hW0⟩ : ∃ W0, w.alloc (.cells #[.int .i64 q, .string h, .string s, .int .i64 p] 24) = W0 := ⟨_, rfl⟩
  have hbox : W0.heap[w.heap.size]? = some (.cells #[.int .i64 q, .string h, .string s, .int .i64 p] 24 (0, 0)) := by rw [← hW0]; exact heap_alloc_new _ _
  have hb0 : Below w.heap.size w W0 := by rw [← hW0]; exact (Below.refl _ _).alloc (Nat.le_refl _) _
  have hz : w.heap.size + 1 ≤ W0.heap.size := block_lt hbox
  obtain ⟨b0, b1, b2, b3⟩ := four_cells hbox
  have HW0 := Lib.hid hW0
  have HA0 := Lib.hid hb0
  have HS0 := Lib.hid (hs.kept hb0 (Nat.le_refl _))
  have hlen := hs.1
  have HLEN := Lib.hid hlen
  clear hW0 hbox hb0 hs hlen
  go_enter Try.func40, Try.ntmps40
  go_wp2_with fail
  rw [HW0.out]
  refine (r57_Message ⟨q, h, s, p⟩ _ hh hsc).mono ?_
  rintro e w1 ⟨rfl, hb1⟩
  have d0 := cell_kept hb1 (Nat.le_refl _) b0
  have d1 := cell_kept hb1 (Nat.le_refl _) b1
  have d2 := cell_kept hb1 (Nat.le_refl _) b2
  have d3 := cell_kept hb1 (Nat.le_refl _) b3
  have HA1 := Lib.hid (HA0.out.trans (hb1.mono (by omega)))
  have HS1 := Lib.hid (HS0.out.kept hb1 (Nat.le_refl _))
  rw [HM.out]
  clear b0 b1 b2 b3 HA0 HS0 HW0 hb1 hz
  go_wp2_with fail
  refine (r57_Epoch l A len cap _ HS1.out).mono ?_
  rintro e w2 ⟨rfl, rfl⟩
  rw [HN.out]
  go_wp2_with fail
  refine (r57_has l A len cap 0 h _ HS1.out).mono ?_
  rintro e w3 ⟨rfl, rfl⟩
  rw [H0.out]
  go_wp2
  go_ret
  exact ⟨rfl, HA1.out⟩

set_option maxRecDepth 100000 in
set_option maxHeartbeats 2000000 in
theorem r57_follows_1n (l : List En) (A : Option Addr) (len cap : Nat) (q p : Int) (h s : ByteArray) (w : World) (hs : SlE w A len cap l) (hlc : len ≤ 9223372036854775807) (hh : h.size ≤ 9223372036854775807) (hsc : s.size ≤ 9223372036854775807) (m : ByteArray) (f : Int) (hm : msgS ⟨q, h, s, p⟩ = (m, f)) (hf : f = 0) (hn : len < 4096) (n : Nat) (hN : epochN l = n) (hnl : n ≤ len) (hq : (q == 2) = false) (hq0 : (q == 0) = false) (hq1 : (q == 1) = true) (hp : (p != (n : Int)) = false) (h0 : hasB l 0 h = false) : Calls Try.prog 40 #[.slice A len cap, .agg #[.int .i64 q, .string h, .string s, .int .i64 p]] w (Ret (.int .i64 9) w) := by
  have HM := Lib.hid hm
  clear hm
  subst hf
  have HN := Lib.hid hN
  clear hN
  have H0 := Lib.hid h0
  clear h0
  obtain ⟨W0, hW0⟩ : ∃ W0, w.alloc (.cells #[.int .i64 q, .string h, .string s, .int .i64 p] 24) = W0 := ⟨_, rfl⟩
  have hbox : W0.heap[w.heap.size]? = some (.cells #[.int .i64 q, .string h, .string s, .int .i64 p] 24 (0, 0)) := by rw [← hW0]; exact heap_alloc_new _ _
  have hb0 : Below w.heap.size w W0 := by rw [← hW0]; exact (Below.refl _ _).alloc (Nat.le_refl _) _
  have hz : w.heap.size + 1 ≤ W0.heap.size := block_lt hbox
  obtain ⟨b0, b1, b2, b3⟩ := four_cells hbox
  have HW0 := Lib.hid hW0
  have HA0 := Lib.hid hb0
  have HS0 := Lib.hid (hs.kept hb0 (Nat.le_refl _))
  have hlen := hs.1
  have HLEN := Lib.hid hlen
  clear hW0 hbox hb0 hs hlen
  go_enter Try.func40, Try.ntmps40
  go_wp2_with fail
  rw [HW0.out]
  refine (r57_Message ⟨q, h, s, p⟩ _ hh hsc).mono ?_
  rintro e w1 ⟨rfl, hb1⟩
  have d0 := cell_kept hb1 (Nat.le_refl _) b0
  have d1 := cell_kept hb1 (Nat.le_refl _) b1
  have d2 := cell_kept hb1 (Nat.le_refl _) b2
  have d3 := cell_kept hb1 (Nat.le_refl _) b3
  have HA1 := Lib.hid (HA0.out.trans (hb1.mono (by omega)))
  have HS1 := Lib.hid (HS0.out.kept hb1 (Nat.le_refl _))
  rw [HM.out]
  clear b0 b1 b2 b3 HA0 HS0 HW0 hb1 hz
  go_wp2_with fail
  refine (r57_Epoch l A len cap _ HS1.out).mono ?_
  rintro e w2 ⟨rfl, rfl⟩
  rw [HN.out]
  go_wp2_with fail
  refine (r57_has l A len cap 0 h _ HS1.out).mono ?_
  rintro e w3 ⟨rfl, rfl⟩
  rw [H0.out]
  go_wp2
  go_ret
  exact ⟨rfl, HA1.out⟩

set_option maxRecDepth 100000 in
set_option maxHeartbeats 2000000 in
theorem r57_follows_1r (l : List En) (A : Option Addr) (len cap : Nat) (q p : Int) (h s : ByteArray) (w : World) (hs : SlE w A len cap l) (hlc : len ≤ 9223372036854775807) (hh : h.size ≤ 9223372036854775807) (hsc : s.size ≤ 9223372036854775807) (m : ByteArray) (f : Int) (hm : msgS ⟨q, h, s, p⟩ = (m, f)) (hf : f = 0) (hn : len < 4096) (n : Nat) (hN : epochN l = n) (hnl : n ≤ len) (hq : (q == 2) = false) (hq0 : (q == 0) = false) (hq1 : (q == 1) = true) (hp : (p != (n : Int)) = false) (h0 : hasB l 0 h = true) (h1 : hasB l 1 h = true) : Calls Try.prog 40 #[.slice A len cap, .agg #[.int .i64 q, .string h, .string s, .int .i64 p]] w (Ret (.int .i64 20) w) := by
  have HM := Lib.hid hm
  clear hm
  subst hf
  have HN := Lib.hid hN
  clear hN
  have H0 := Lib.hid h0
  clear h0
  have H1 := Lib.hid h1
  clear h1
  obtain ⟨W0, hW0⟩ : ∃ W0, w.alloc (.cells #[.int .i64 q, .string h, .string s, .int .i64 p] 24) = W0 := ⟨_, rfl⟩
  have hbox : W0.heap[w.heap.size]? = some (.cells #[.int .i64 q, .string h, .string s, .int .i64 p] 24 (0, 0)) := by rw [← hW0]; exact heap_alloc_new _ _
  have hb0 : Below w.heap.size w W0 := by rw [← hW0]; exact (Below.refl _ _).alloc (Nat.le_refl _) _
  have hz : w.heap.size + 1 ≤ W0.heap.size := block_lt hbox
  obtain ⟨b0, b1, b2, b3⟩ := four_cells hbox
  have HW0 := Lib.hid hW0
  have HA0 := Lib.hid hb0
  have HS0 := Lib.hid (hs.kept hb0 (Nat.le_refl _))
  have hlen := hs.1
  have HLEN := Lib.hid hlen
  clear hW0 hbox hb0 hs hlen
  go_enter Try.func40, Try.ntmps40
  go_wp2_with fail
  rw [HW0.out]
  refine (r57_Message ⟨q, h, s, p⟩ _ hh hsc).mono ?_
  rintro e w1 ⟨rfl, hb1⟩
  have d0 := cell_kept hb1 (Nat.le_refl _) b0
  have d1 := cell_kept hb1 (Nat.le_refl _) b1
  have d2 := cell_kept hb1 (Nat.le_refl _) b2
  have d3 := cell_kept hb1 (Nat.le_refl _) b3
  have HA1 := Lib.hid (HA0.out.trans (hb1.mono (by omega)))
  have HS1 := Lib.hid (HS0.out.kept hb1 (Nat.le_refl _))
  rw [HM.out]
  clear b0 b1 b2 b3 HA0 HS0 HW0 hb1 hz
  go_wp2_with fail
  refine (r57_Epoch l A len cap _ HS1.out).mono ?_
  rintro e w2 ⟨rfl, rfl⟩
  rw [HN.out]
  go_wp2_with fail
  refine (r57_has l A len cap 0 h _ HS1.out).mono ?_
  rintro e w3 ⟨rfl, rfl⟩
  rw [H0.out]
  go_wp2_with fail
  refine (r57_has l A len cap 1 h _ HS1.out).mono ?_
  rintro e w3 ⟨rfl, rfl⟩
  rw [H1.out]
  go_wp2
  go_ret
  exact ⟨rfl, HA1.out⟩

set_option maxRecDepth 100000 in
set_option maxHeartbeats 2000000 in
theorem r57_follows_1ok (l : List En) (A : Option Addr) (len cap : Nat) (q p : Int) (h s : ByteArray) (w : World) (hs : SlE w A len cap l) (hlc : len ≤ 9223372036854775807) (hh : h.size ≤ 9223372036854775807) (hsc : s.size ≤ 9223372036854775807) (m : ByteArray) (f : Int) (hm : msgS ⟨q, h, s, p⟩ = (m, f)) (hf : f = 0) (hn : len < 4096) (n : Nat) (hN : epochN l = n) (hnl : n ≤ len) (hq : (q == 2) = false) (hq0 : (q == 0) = false) (hq1 : (q == 1) = true) (hp : (p != (n : Int)) = false) (h0 : hasB l 0 h = true) (h1 : hasB l 1 h = false) : Calls Try.prog 40 #[.slice A len cap, .agg #[.int .i64 q, .string h, .string s, .int .i64 p]] w (Ret (.int .i64 0) w) := by
  have HM := Lib.hid hm
  clear hm
  subst hf
  have HN := Lib.hid hN
  clear hN
  have H0 := Lib.hid h0
  clear h0
  have H1 := Lib.hid h1
  clear h1
  obtain ⟨W0, hW0⟩ : ∃ W0, w.alloc (.cells #[.int .i64 q, .string h, .string s, .int .i64 p] 24) = W0 := ⟨_, rfl⟩
  have hbox : W0.heap[w.heap.size]? = some (.cells #[.int .i64 q, .string h, .string s, .int .i64 p] 24 (0, 0)) := by rw [← hW0]; exact heap_alloc_new _ _
  have hb0 : Below w.heap.size w W0 := by rw [← hW0]; exact (Below.refl _ _).alloc (Nat.le_refl _) _
  have hz : w.heap.size + 1 ≤ W0.heap.size := block_lt hbox
  obtain ⟨b0, b1, b2, b3⟩ := four_cells hbox
  have HW0 := Lib.hid hW0
  have HA0 := Lib.hid hb0
  have HS0 := Lib.hid (hs.kept hb0 (Nat.le_refl _))
  have hlen := hs.1
  have HLEN := Lib.hid hlen
  clear hW0 hbox hb0 hs hlen
  go_enter Try.func40, Try.ntmps40
  go_wp2_with fail
  rw [HW0.out]
  refine (r57_Message ⟨q, h, s, p⟩ _ hh hsc).mono ?_
  rintro e w1 ⟨rfl, hb1⟩
  have d0 := cell_kept hb1 (Nat.le_refl _) b0
  have d1 := cell_kept hb1 (Nat.le_refl _) b1
  have d2 := cell_kept hb1 (Nat.le_refl _) b2
  have d3 := cell_kept hb1 (Nat.le_refl _) b3
  have HA1 := Lib.hid (HA0.out.trans (hb1.mono (by omega)))
  have HS1 := Lib.hid (HS0.out.kept hb1 (Nat.le_refl _))
  rw [HM.out]
  clear b0 b1 b2 b3 HA0 HS0 HW0 hb1 hz
  go_wp2_with fail
  refine (r57_Epoch l A len cap _ HS1.out).mono ?_
  rintro e w2 ⟨rfl, rfl⟩
  rw [HN.out]
  go_wp2_with fail
  refine (r57_has l A len cap 0 h _ HS1.out).mono ?_
  rintro e w3 ⟨rfl, rfl⟩
  rw [H0.out]
  go_wp2_with fail
  refine (r57_has l A len cap 1 h _ HS1.out).mono ?_
  rintro e w3 ⟨rfl, rfl⟩
  rw [H1.out]
  go_wp2
  go_ret
  exact ⟨rfl, HA1.out⟩

theorem r57_follows (l : List En) (A : Option Addr) (len cap : Nat) (e : En) (w : World) (hs : SlE w A len cap l) (hh : e.handle.size ≤ 9223372036854775807) (hsc : e.schema.size ≤ 9223372036854775807) : Calls Try.prog 40 #[.slice A len cap, e.val] w (Ret (.int .i64 (followsS l e)) w) := by
  obtain ⟨q, h, s, p⟩ := e
  have hlc : len ≤ 9223372036854775807 := Nat.le_trans hs.2.1 hs.2.2.1
  have hlen := hs.1
  have hk := msg_kind (e := ⟨q, h, s, p⟩)
  obtain ⟨m, f, hm⟩ : ∃ m f, msgS ⟨q, h, s, p⟩ = (m, f) := ⟨_, _, rfl⟩
  have hnl := epochN_le l
  unfold followsS
  simp only [hm, hlen] at hk hnl ⊢
  by_cases hf : f = 0
  · by_cases hn : 4096 ≤ len
    · rw [hf, folF_n hn]
      exact r57_follows_n l A len cap q p h s w hs hlc hh hsc m f hm hf hn
    · have hn' : len < 4096 := by omega
      obtain ⟨n, hN⟩ : ∃ n, epochN l = n := ⟨_, rfl⟩
      rw [hf, hN]
      rw [hN] at hnl
      by_cases hp : p = (n : Int) + (if q = 2 then 1 else 0)
      · rw [folF_s hn' hp]
        rcases hk hf with k | k | k
        · have k' : q = 0 := k
          have hp' : p = (n : Int) := by rw [hp, if_neg (by omega)]; omega
          cases h0 : hasB l 0 h with
          | true => rw [if_pos ⟨k', rfl⟩]; exact r57_follows_0t l A len cap q p h s w hs hlc hh hsc m f hm hf hn' n hN hnl (neI (by omega)) (eqI k') (neI (by omega)) (bne_false hp') h0
          | false => rw [if_neg (by simp), if_neg (by omega), if_neg (by omega)]; exact r57_follows_0ok l A len cap q p h s w hs hlc hh hsc m f hm hf hn' n hN hnl (neI (by omega)) (eqI k') (neI (by omega)) (bne_false hp') h0
        · have k' : q = 1 := k
          have hp' : p = (n : Int) := by rw [hp, if_neg (by omega)]; omega
          rw [if_neg (by omega)]
          cases h0 : hasB l 0 h with
          | false => rw [if_pos ⟨k', rfl⟩]; exact r57_follows_1n l A len cap q p h s w hs hlc hh hsc m f hm hf hn' n hN hnl (neI (by omega)) (neI (by omega)) (eqI k') (bne_false hp') h0
          | true =>
            rw [if_neg (by simp)]
            cases h1 : hasB l 1 h with
            | true => rw [if_pos ⟨k', rfl⟩]; exact r57_follows_1r l A len cap q p h s w hs hlc hh hsc m f hm hf hn' n hN hnl (neI (by omega)) (neI (by omega)) (eqI k') (bne_false hp') h0 h1
            | false => rw [if_neg (by simp)]; exact r57_follows_1ok l A len cap q p h s w hs hlc hh hsc m f hm hf hn' n hN hnl (neI (by omega)) (neI (by omega)) (eqI k') (bne_false hp') h0 h1
        · have k' : q = 2 := k
          have hp' : p = (n : Int) + 1 := by rw [hp, if_pos k']
          rw [if_neg (by omega), if_neg (by omega), if_neg (by omega)]
          exact r57_follows_2ok l A len cap q p h s w hs hlc hh hsc m f hm hf hn' n hN hnl (eqI k') (neI (by omega)) (neI (by omega)) (bne_false hp')
      · rw [folF_p hn' hp]
        rcases hk hf with k | k | k
        · have k' : q = 0 := k
          rw [if_neg (by omega)] at hp
          exact r57_follows_0p l A len cap q p h s w hs hlc hh hsc m f hm hf hn' n hN hnl (neI (by omega)) (eqI k') (neI (by omega)) (bnT (by omega))
        · have k' : q = 1 := k
          rw [if_neg (by omega)] at hp
          exact r57_follows_1p l A len cap q p h s w hs hlc hh hsc m f hm hf hn' n hN hnl (neI (by omega)) (neI (by omega)) (eqI k') (bnT (by omega))
        · have k' : q = 2 := k
          rw [if_pos k'] at hp
          exact r57_follows_2p l A len cap q p h s w hs hlc hh hsc m f hm hf hn' n hN hnl (eqI k') (neI (by omega)) (neI (by omega)) (bnT (by omega))
  · rw [folF_f hf]
    exact r57_follows_f l A len cap q p h s w hs hlc hh hsc m f hm (bnT hf)
end Go.Proofs.Ythidhgniondkgaa

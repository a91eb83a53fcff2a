/- Walks: the canonical check of natural and dominoref01; the trimming of leading zeros. -/
import Derived.Test.YtndmjfkmnjejkaaGreatDoorRows
import Derived.Test.YtndmjfkmnjejkaaGreatDoorQNum2
import Derived.Test.YtndmjfkmnjejkaaGreatDoorQShelf
import Derived.Deep.QuietTactic
import Derived.BigQuiet
namespace Go.Proofs.YtndmjfkmnjejkaaGreatDoor
open Go.RowKit
set_option maxHeartbeats 400000 in
theorem nat_Valid (a : ByteArray) (h : a.size ≤ 9223372036854775807) (w : World) :
    Calls Tryz.prog 85 #[.string a] w (RetQ (.bool (nvalid a)) w) := by
  by_cases h1 : a.size ≤ 128
  · by_cases h2 : a.size = 0
    · rw [nvalid_nil h2]
      go_enter Tryz.func85, Tryz.ntmps85
      go_wp2
      go_ret
      exact ⟨rfl, rfl⟩
    · have h3 : 0 < a.size := by omega
      have h4 : ((a.size : Int) == 0) = false := beq_eq_false_iff_ne.2 (by omega)
      rw [nvalid_some h1 h3]
      go_enter Tryz.func85, Tryz.ntmps85
      go_wp2
      go_ret
      exact ⟨rfl, rfl⟩
  · rw [nvalid_long h1]
    go_enter Tryz.func85, Tryz.ntmps85
    go_wp2
    go_ret
    exact ⟨rfl, rfl⟩
def TrRel (w : World) (bs : List UInt8) (v : Value) : Prop := ∃ A len cap bs', v = .slice A len cap ∧ BytesAt w A len cap bs' ∧ trimZ bs' = trimZ bs
set_option maxRecDepth 100000 in
set_option maxHeartbeats 400000 in
theorem nat_trimmed (A : Option Addr) (len cap : Nat) (bs : List UInt8) (w : World) (h : BytesAt w A len cap bs) :
    Calls Tryz.prog 94 #[.slice A len cap] w (RetQ (.string (bstr (trimZ bs))) w) := by
  go_enter Tryz.func94, Tryz.ntmps94
  go_wp2
  go_loop [0] (fun v => TrRel w bs v) (fun v => sliceLen v)
  case atStart => exact ⟨A, len, cap, bs, rfl, h, rfl⟩
  case round =>
    clear h
    obtain ⟨A', len', cap', bs', rfl, hB, hd⟩ := hrel
    have HD := Lib.hid hd
    clear hd
    have hconv := BytesAt.conv hB 125 22 5 Tryz.underlying125 Tryz.underlying5 Tryz.underlying22
    by_cases h0 : 0 < len'
    · obtain ⟨b, o, rfl, hcel⟩ := hB.2.2.2 h0
      have hl := hB.1
      have hcap : len' ≤ cap' := hB.2.1
      have hm : cap' ≤ 9223372036854775807 := hB.2.2.1
      have hT := hB.tail h0
      have HB := Lib.hid hT
      have hc0 := hcel 0 h0
      simp only [Nat.add_zero] at hc0
      clear hcel hT hB
      by_cases hz : byteI bs' 0 = 0
      · have hr : trimZ (bs'.drop 1) = trimZ bs := by rw [← HD.out, trimZ_zero (by omega) hz]
        have HL := Lib.hid hl
        have HR := Lib.hid hr
        have hz2 : (byteI bs' 0 == 0) = true := beq_iff_eq.2 hz
        clear hl hr hconv hz
        go_wp2
        exact ⟨⟨_, _, _, _, rfl, HB.out, HR.out⟩, by show len' - 1 < len'; omega⟩
      · have hz2 : (byteI bs' 0 == 0) = false := beq_eq_false_iff_ne.2 hz
        have hr : trimZ bs = bs' := by rw [← HD.out]; exact trimZ_stop (.inr hz)
        have HL := Lib.hid hl
        have HR := Lib.hid hr
        clear hl hr hz
        go_wp2
        go_ret
        rw [HR.out]
        exact ⟨rfl, rfl⟩
    · have h00 : len' = 0 := by omega
      subst h00
      have hl := hB.1
      have hr : trimZ bs = bs' := by rw [← HD.out]; exact trimZ_stop (.inl hl)
      have HR := Lib.hid hr
      clear hr hl hB h0
      go_wp2
      go_ret
      rw [HR.out]
      exact ⟨rfl, rfl⟩
end Go.Proofs.YtndmjfkmnjejkaaGreatDoor
/- Walks: ref01.trim, Of. -/
namespace Go.Proofs.YtndmjfkmnjejkaaGreatDoor
open Go.RowKit
set_option maxRecDepth 100000 in
set_option maxHeartbeats 400000 in
theorem nat_Of (n : Nat) (hn : n < 18446744073709551616) (w : World) :
    Calls Tryz.prog 43 #[.int .u64 n] w (Ret (.string (bstr (encN n))) w) := by
  have HN := Lib.hid hn
  clear hn
  go_enter Tryz.func43, Tryz.ntmps43
  go_wp2
  refine wp_loop_rounds 9 ?_
  iterate 9 (rw [rounds_succ]; go_wp2_with fail)
  refine (nat_trimmed (some ⟨w.heap.size, 0, none⟩) 8 8 (be8 n) _ (be8_at w n _)).mono ?_
  rintro e w1 ⟨rfl, rfl⟩
  rw [be8_trim n HN.out]
  go_wp2
  go_ret
  exact ⟨rfl, (Below.refl _ _).alloc (Nat.le_refl _) _⟩
end Go.Proofs.YtndmjfkmnjejkaaGreatDoor
/- Walks: comparison (natural.compare, natural.Cmp, ref01.Order, ref01.Cmp). -/
set_option linter.unusedVariables false
namespace Go.Proofs.YtndmjfkmnjejkaaGreatDoor
open Go.RowKit
theorem compareBytes_ord {l m : List UInt8} (h : l.length = m.length) : Lib.compareBytes l m = cmpI (bnat l) (bnat m) := by
  induction l generalizing m with
  | nil => cases m with
    | nil => rfl
    | cons y m => simp at h
  | cons x l ih => cases m with
    | nil => simp at h
    | cons y m =>
      have hl : l.length = m.length := by simpa using h
      unfold Lib.compareBytes
      by_cases h1 : x < y
      · have := bnat_lt_first (p := []) (a := l) (b := m) hl (UInt8.lt_iff_toNat_lt.1 h1)
        rw [List.nil_append, List.nil_append] at this
        rw [if_pos h1, cmpI_lt this]
      · rw [if_neg h1]
        by_cases h2 : y < x
        · have := bnat_lt_first (p := []) (a := m) (b := l) hl.symm (UInt8.lt_iff_toNat_lt.1 h2)
          rw [List.nil_append, List.nil_append] at this
          rw [if_pos h2, cmpI_gt this]
        · rw [if_neg h2, ih hl]
          have : x = y := by
            apply UInt8.toNat_inj.1
            rw [UInt8.lt_iff_toNat_lt] at h1 h2
            omega
          subst this
          rw [bnat_cons, bnat_cons, hl]
          unfold cmpI
          simp
def ordB (a b : ByteArray) : Int := ordL a.data.toList b.data.toList
theorem ordB_ne {a b : ByteArray} (h : a.size ≠ b.size) : ordB a b = Lib.compareInt a.size b.size := by
  unfold ordB ordL Lib.compareInt
  rw [data_len, data_len]
  by_cases h1 : a.size < b.size
  · rw [if_pos h1, if_pos (by omega)]
  · rw [if_neg h1, if_pos (by omega), if_neg (by omega), if_pos (by omega)]
theorem ordB_eq {a b : ByteArray} (h : a.size = b.size) : ordB a b = Lib.compareBytes a.data.toList b.data.toList := by
  unfold ordB ordL
  rw [data_len, data_len, if_neg (by omega), if_neg (by omega), compareBytes_ord (by rw [data_len, data_len, h])]
theorem compareInt_ne {x y : Int} (h : x ≠ y) : (Lib.compareInt x y != 0) = true := by
  unfold Lib.compareInt
  split
  · rfl
  · rw [if_pos (by omega)]; rfl
set_option maxHeartbeats 400000 in
theorem nat_compare (a b : ByteArray) (ha : a.size ≤ 9223372036854775807) (hb : b.size ≤ 9223372036854775807) (w : World) :
    Calls Tryz.prog 87 #[.string a, .string b] w (RetQ (.int .i64 (ordB a b)) w) := by
  by_cases h : a.size = b.size
  · have H := Lib.hid h
    rw [ordB_eq h]
    have hc : Lib.compareInt a.size b.size = 0 := by unfold Lib.compareInt; rw [h]; simp
    have HC := Lib.hid hc
    clear h hc
    go_enter Tryz.func87, Tryz.ntmps87
    go_wp2_with fail
    refine (Tryz.cmp_Compare_int _ _ _).mono ?_
    rintro e w1 ⟨rfl, rfl⟩
    rw [HC.out]
    go_wp2_with fail
    refine (Tryz.strings_Compare _ _ _).mono ?_
    rintro e w1 ⟨rfl, rfl⟩
    go_wp2
    go_ret
    exact ⟨rfl, rfl⟩
  · rw [ordB_ne h]
    have hc := compareInt_ne (x := a.size) (y := b.size) (by omega)
    clear h
    go_enter Tryz.func87, Tryz.ntmps87
    go_wp2_with fail
    refine (Tryz.cmp_Compare_int _ _ _).mono ?_
    rintro e w1 ⟨rfl, rfl⟩
    go_wp2
    go_ret
    exact ⟨rfl, rfl⟩
def ncmp (a b : ByteArray) : Int := if nvalid a && nvalid b then ordB a b else 0
set_option maxHeartbeats 400000 in
theorem nat_Cmp (a b : ByteArray) (ha : a.size ≤ 9223372036854775807) (hb : b.size ≤ 9223372036854775807) (w : World) :
    Calls Tryz.prog 31 #[.string a, .string b] w (RetQ (.int .i64 (ncmp a b)) w) := by
  cases h1 : nvalid a with
  | false =>
    have hn : ncmp a b = 0 := by simp [ncmp, h1]
    rw [hn]
    have H1 := Lib.hid h1
    clear h1 hn
    go_enter Tryz.func31, Tryz.ntmps31
    go_wp2_with fail
    refine (nat_Valid _ ha _).mono ?_
    rintro e w1 ⟨rfl, rfl⟩
    rw [H1.out]
    go_wp2
    go_ret
    exact ⟨rfl, rfl⟩
  | true => cases h2 : nvalid b with
    | false =>
      have hn : ncmp a b = 0 := by simp [ncmp, h2]
      rw [hn]
      have H1 := Lib.hid h1
      have H2 := Lib.hid h2
      clear h1 h2 hn
      go_enter Tryz.func31, Tryz.ntmps31
      go_wp2_with fail
      refine (nat_Valid _ ha _).mono ?_
      rintro e w1 ⟨rfl, rfl⟩
      rw [H1.out]
      go_wp2_with fail
      refine (nat_Valid _ hb _).mono ?_
      rintro e w1 ⟨rfl, rfl⟩
      rw [H2.out]
      go_wp2
      go_ret
      exact ⟨rfl, rfl⟩
    | true =>
      have hn : ncmp a b = ordB a b := by simp [ncmp, h1, h2]
      rw [hn]
      have H1 := Lib.hid h1
      have H2 := Lib.hid h2
      clear h1 h2 hn
      go_enter Tryz.func31, Tryz.ntmps31
      go_wp2_with fail
      refine (nat_Valid _ ha _).mono ?_
      rintro e w1 ⟨rfl, rfl⟩
      rw [H1.out]
      go_wp2_with fail
      refine (nat_Valid _ hb _).mono ?_
      rintro e w1 ⟨rfl, rfl⟩
      rw [H2.out]
      go_wp2_with fail
      refine (nat_compare _ _ ha hb _).mono ?_
      rintro e w1 ⟨rfl, rfl⟩
      go_wp2
      go_ret
      exact ⟨rfl, rfl⟩
end Go.Proofs.YtndmjfkmnjejkaaGreatDoor

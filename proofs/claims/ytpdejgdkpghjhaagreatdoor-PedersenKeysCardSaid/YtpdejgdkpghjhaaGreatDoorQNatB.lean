/- Walks: the canonical check of natural and dominoref01; the trimming of leading zeros. -/
import Derived.Test.YtpdejgdkpghjhaaGreatDoorRows
import Derived.Test.YtpdejgdkpghjhaaGreatDoorQNum2
namespace Go.Proofs.YtpdejgdkpghjhaaGreatDoor
open Go.RowKit

set_option maxHeartbeats 400000 in
theorem nat_Valid (a : ByteArray) (h : a.size ≤ 9223372036854775807) (w : World) :
    Calls Tryz.prog 60 #[.string a] w (RetQ (.bool (nvalid a)) w) := by
  by_cases h1 : a.size ≤ 128
  · by_cases h2 : a.size = 0
    · rw [nvalid_nil h2]
      go_enter Tryz.func60, Tryz.ntmps60
      go_wp2
      go_ret
      exact ⟨rfl, rfl⟩
    · have h3 : 0 < a.size := by omega
      have h4 : ((a.size : Int) == 0) = false := beq_eq_false_iff_ne.2 (by omega)
      rw [nvalid_some h1 h3]
      go_enter Tryz.func60, Tryz.ntmps60
      go_wp2
      go_ret
      exact ⟨rfl, rfl⟩
  · rw [nvalid_long h1]
    go_enter Tryz.func60, Tryz.ntmps60
    go_wp2
    go_ret
    exact ⟨rfl, rfl⟩

set_option maxHeartbeats 400000 in
theorem r01_Valid (a : ByteArray) (h : a.size ≤ 9223372036854775807) (w : World) :
    Calls Tryz.prog 83 #[.string a] w (RetQ (.bool (nvalid a)) w) := by
  by_cases h1 : a.size ≤ 128
  · by_cases h2 : a.size = 0
    · rw [nvalid_nil h2]
      have h3 := sempty_true h2
      go_enter Tryz.func83, Tryz.ntmps83
      go_wp2
      go_ret
      exact ⟨rfl, rfl⟩
    · have h3 : 0 < a.size := by omega
      have h4 := sempty_false h3
      rw [nvalid_some h1 h3]
      go_enter Tryz.func83, Tryz.ntmps83
      go_wp2
      go_ret
      exact ⟨rfl, rfl⟩
  · rw [nvalid_long h1]
    go_enter Tryz.func83, Tryz.ntmps83
    go_wp2
    go_ret
    exact ⟨rfl, rfl⟩

def TrRel (w : World) (bs : List UInt8) (v : Value) : Prop := ∃ A len cap bs', v = .slice A len cap ∧ BytesAt w A len cap bs' ∧ trimZ bs' = trimZ bs

set_option maxRecDepth 100000 in
set_option maxHeartbeats 400000 in
theorem nat_trimmed (A : Option Addr) (len cap : Nat) (bs : List UInt8) (w : World) (h : BytesAt w A len cap bs) :
    Calls Tryz.prog 118 #[.slice A len cap] w (RetQ (.string (bstr (trimZ bs))) w) := by
  go_enter Tryz.func118, Tryz.ntmps118
  go_wp2
  go_loop [0] (fun v => TrRel w bs v) (fun v => sliceLen v)
  case atStart => exact ⟨A, len, cap, bs, rfl, h, rfl⟩
  case round =>
    clear h
    obtain ⟨A', len', cap', bs', rfl, hB, hd⟩ := hrel
    have HD := Lib.hid hd
    clear hd
    have hconv := BytesAt.conv hB 148 22 5 Tryz.underlying148 Tryz.underlying5 Tryz.underlying22
    by_cases h0 : 0 < len'
    · obtain ⟨b, o, rfl, hcel⟩ := hB.2.2.2 h0
      have hl := hB.1
      have hcap : len' ≤ cap' := hB.2.1
      have hm : cap' ≤ 9223372036854775807 := hB.2.2.1
      have hT := hB.tail h0
      have HB := Lib.hid hT
      have hc0 := hcel 0 h0
      simp only [Nat.add_zero] at hc0
      clear hcel hT hB
      by_cases hz : byteI bs' 0 = 0
      · have hr : trimZ (bs'.drop 1) = trimZ bs := by rw [← HD.out, trimZ_zero (by omega) hz]
        have HL := Lib.hid hl
        have HR := Lib.hid hr
        have hz2 : (byteI bs' 0 == 0) = true := beq_iff_eq.2 hz
        clear hl hr hconv hz
        go_wp2
        exact ⟨⟨_, _, _, _, rfl, HB.out, HR.out⟩, by show len' - 1 < len'; omega⟩
      · have hz2 : (byteI bs' 0 == 0) = false := beq_eq_false_iff_ne.2 hz
        have hr : trimZ bs = bs' := by rw [← HD.out]; exact trimZ_stop (.inr hz)
        have HL := Lib.hid hl
        have HR := Lib.hid hr
        clear hl hr hz
        go_wp2
        go_ret
        rw [HR.out]
        exact ⟨rfl, rfl⟩
    · have h00 : len' = 0 := by omega
      subst h00
      have hl := hB.1
      have hr : trimZ bs = bs' := by rw [← HD.out]; exact trimZ_stop (.inl hl)
      have HR := Lib.hid hr
      clear hr hl hB h0
      go_wp2
      go_ret
      rw [HR.out]
      exact ⟨rfl, rfl⟩
end Go.Proofs.YtpdejgdkpghjhaaGreatDoor
/- Walks: ref01.trim, Of. -/
namespace Go.Proofs.YtpdejgdkpghjhaaGreatDoor
open Go.RowKit

set_option maxRecDepth 100000 in
set_option maxHeartbeats 400000 in
theorem r01_trim (A : Option Addr) (len cap : Nat) (bs : List UInt8) (w : World) (h : BytesAt w A len cap bs) :
    Calls Tryz.prog 123 #[.slice A len cap] w (RetQ (.string (bstr (trimZ bs))) w) := by
  have hl := h.1
  have hcap : len ≤ cap := h.2.1
  have hm : cap ≤ 9223372036854775807 := h.2.2.1
  by_cases h0 : 0 < len
  · obtain ⟨b, o, rfl, hcel⟩ := h.2.2.2 h0
    have HL := Lib.hid hl
    have HB := Lib.hid h
    have HC := Lib.hid hcel
    clear hcel hl h
    go_enter Tryz.func123, Tryz.ntmps123
    go_wp2
    go_loop [3] (fun v => ∃ k : Nat, k ≤ len ∧ v = .int .i64 k ∧ trimZ (bs.drop k) = trimZ bs) (fun v => len - (intOf v).toNat)
    case atStart => exact ⟨0, Nat.zero_le _, rfl, rfl⟩
    case round =>
      obtain ⟨k, hk, rfl, hd⟩ := hrel
      have HD := Lib.hid hd
      clear hd
      by_cases hlt : k < len
      · have hc0 := HC.out k hlt
        by_cases hz : byteI bs k = 0
        · have hz2 : (byteI bs k == 0) = true := beq_iff_eq.2 hz
          have HZ := Lib.hid hz
          clear hz
          go_wp2
          go_round
          case rel => exact ⟨k + 1, by omega, by go_num, by rw [← HD.out]; exact (trimZ_drop (by rw [HL.out]; exact hlt) HZ.out).symm⟩
          case measure => simp [intOf]; omega
        · have hz2 : (byteI bs k == 0) = false := beq_eq_false_iff_ne.2 hz
          have hr : bs.drop k = trimZ bs := by rw [← HD.out]; exact (trimZ_stop (.inr (by rw [byteI_drop]; exact hz))).symm
          have hconv := BytesAt.conv (HB.out.from k hk) 148 22 5 Tryz.underlying148 Tryz.underlying5 Tryz.underlying22
          rw [hr] at hconv
          have HR := Lib.hid hr
          have hne : ¬ cap = k := by omega
          rw [if_neg hne] at hconv
          clear hz hr
          go_wp2
          go_ret
          exact ⟨rfl, rfl⟩
      · obtain rfl : k = len := by omega
        have hr : bs.drop k = trimZ bs := by rw [← HD.out]; exact (trimZ_stop (.inl (by simp [HL.out]))).symm
        have hconv := BytesAt.conv (HB.out.from k hk) 148 22 5 Tryz.underlying148 Tryz.underlying5 Tryz.underlying22
        rw [hr] at hconv
        clear hr
        rw [Nat.sub_self] at hconv
        by_cases hck : cap = k
        · rw [if_pos hck] at hconv
          subst hck
          rw [Nat.sub_self] at hconv
          go_wp2
          go_ret
          exact ⟨rfl, rfl⟩
        · rw [if_neg hck] at hconv
          go_wp2
          go_ret
          exact ⟨rfl, rfl⟩
  · have h00 : len = 0 := by omega
    subst h00
    have hb : trimZ bs = bs := trimZ_stop (.inl hl)
    rw [hb]
    have hconv := BytesAt.conv h 148 22 5 Tryz.underlying148 Tryz.underlying5 Tryz.underlying22
    clear hb h hl h0
    go_enter Tryz.func123, Tryz.ntmps123
    go_wp2
    refine wp_loop_rounds 1 ?_
    rw [rounds_succ]
    go_wp2
    go_ret
    exact ⟨rfl, rfl⟩

set_option maxRecDepth 100000 in
set_option maxHeartbeats 400000 in
theorem nat_Of (n : Nat) (hn : n < 18446744073709551616) (w : World) :
    Calls Tryz.prog 53 #[.int .u64 n] w (Ret (.string (bstr (encN n))) w) := by
  have HN := Lib.hid hn
  clear hn
  go_enter Tryz.func53, Tryz.ntmps53
  go_wp2
  refine wp_loop_rounds 9 ?_
  iterate 9 (rw [rounds_succ]; go_wp2_with fail)
  refine (nat_trimmed (some ⟨w.heap.size, 0, none⟩) 8 8 (be8 n) _ (be8_at w n _)).mono ?_
  rintro e w1 ⟨rfl, rfl⟩
  rw [be8_trim n HN.out]
  go_wp2
  go_ret
  exact ⟨rfl, (Below.refl _ _).alloc (Nat.le_refl _) _⟩

set_option maxRecDepth 100000 in
set_option maxHeartbeats 400000 in
theorem r01_Of (n : Nat) (hn : n < 18446744073709551616) (w : World) :
    Calls Tryz.prog 57 #[.int .u64 n] w (Ret (.string (bstr (encN n))) w) := by
  have HN := Lib.hid hn
  have hn2 : (n : Int) ≤ 18446744073709551615 := by omega
  clear hn
  have hmk : ∀ w, (Instr.makeSlice 148 (.int .i64 8) (.int .i64 8)).run Tryz.prog w = .ok (.slice (some ⟨w.heap.size, 0, none⟩) 8 8) (w.alloc (.cells #[.int .u8 0, .int .u8 0, .int .u8 0, .int .u8 0, .int .u8 0, .int .u8 0, .int .u8 0, .int .u8 0] 5)) := fun _ => by kernel_rfl
  go_enter Tryz.func57, Tryz.ntmps57
  go_wp2
  refine wp_loop_rounds 9 ?_
  iterate 9 (rw [rounds_succ]; go_wp2_with fail)
  refine (r01_trim (some ⟨w.heap.size, 0, none⟩) 8 8 (be8 n) _ (be8_at2 w n _)).mono ?_
  rintro e w1 ⟨rfl, rfl⟩
  rw [be8_trim n HN.out]
  go_wp2
  go_ret
  exact ⟨rfl, (Below.refl _ _).alloc (Nat.le_refl _) _⟩
end Go.Proofs.YtpdejgdkpghjhaaGreatDoor

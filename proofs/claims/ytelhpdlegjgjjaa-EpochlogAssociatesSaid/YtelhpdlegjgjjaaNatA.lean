/- Walks: the canonical check of natural and dominoref01; the trimming of leading zeros. -/
import Derived.Test.YtelhpdlegjgjjaaRows
import Derived.Test.YtelhpdlegjgjjaaLib
namespace Go.Proofs.Ytelhpdlegjgjjaa
open Go.RowKit

set_option maxHeartbeats 400000 in
theorem nat_Valid (a : ByteArray) (h : a.size ≤ 9223372036854775807) (w : World) :
    Calls Try.prog 43 #[.string a] w (RetQ (.bool (nvalid a)) w) := by
  by_cases h1 : a.size ≤ 128
  · by_cases h2 : a.size = 0
    · rw [nvalid_nil h2]
      go_enter Try.func43, Try.ntmps43
      go_wp2
      go_ret
      exact ⟨rfl, rfl⟩
    · have h3 : 0 < a.size := by omega
      have h4 : ((a.size : Int) == 0) = false := beq_eq_false_iff_ne.2 (by omega)
      rw [nvalid_some h1 h3]
      go_enter Try.func43, Try.ntmps43
      go_wp2
      go_ret
      exact ⟨rfl, rfl⟩
  · rw [nvalid_long h1]
    go_enter Try.func43, Try.ntmps43
    go_wp2
    go_ret
    exact ⟨rfl, rfl⟩

set_option maxHeartbeats 400000 in
theorem r01_Valid (a : ByteArray) (h : a.size ≤ 9223372036854775807) (w : World) :
    Calls Try.prog 54 #[.string a] w (RetQ (.bool (nvalid a)) w) := by
  by_cases h1 : a.size ≤ 128
  · by_cases h2 : a.size = 0
    · rw [nvalid_nil h2]
      have h3 := sempty_true h2
      go_enter Try.func54, Try.ntmps54
      go_wp2
      go_ret
      exact ⟨rfl, rfl⟩
    · have h3 : 0 < a.size := by omega
      have h4 := sempty_false h3
      rw [nvalid_some h1 h3]
      go_enter Try.func54, Try.ntmps54
      go_wp2
      go_ret
      exact ⟨rfl, rfl⟩
  · rw [nvalid_long h1]
    go_enter Try.func54, Try.ntmps54
    go_wp2
    go_ret
    exact ⟨rfl, rfl⟩

def TrRel (w : World) (bs : List UInt8) (v : Value) : Prop := ∃ A len cap bs', v = .slice A len cap ∧ BytesAt w A len cap bs' ∧ trimZ bs' = trimZ bs

set_option maxRecDepth 100000 in
set_option maxHeartbeats 400000 in
theorem nat_trimmed (A : Option Addr) (len cap : Nat) (bs : List UInt8) (w : World) (h : BytesAt w A len cap bs) :
    Calls Try.prog 49 #[.slice A len cap] w (RetQ (.string (bstr (trimZ bs))) w) := by
  go_enter Try.func49, Try.ntmps49
  go_wp2
  go_loop [0] (fun v => TrRel w bs v) (fun v => sliceLen v)
  case atStart => exact ⟨A, len, cap, bs, rfl, h, rfl⟩
  case round =>
    clear h
    obtain ⟨A', len', cap', bs', rfl, hB, hd⟩ := hrel
    have HD := Lib.hid hd
    clear hd
    have hconv := BytesAt.conv hB 82 23 5 Try.underlying82 Try.underlying5 Try.underlying23
    by_cases h0 : 0 < len'
    · obtain ⟨b, o, rfl, hcel⟩ := hB.2.2.2 h0
      have hl := hB.1
      have hcap : len' ≤ cap' := hB.2.1
      have hm : cap' ≤ 9223372036854775807 := hB.2.2.1
      have hT := hB.tail h0
      have HB := Lib.hid hT
      have hc0 := hcel 0 h0
      simp only [Nat.add_zero] at hc0
      clear hcel hT hB
      by_cases hz : byteI bs' 0 = 0
      · have hr : trimZ (bs'.drop 1) = trimZ bs := by rw [← HD.out, trimZ_zero (by omega) hz]
        have HL := Lib.hid hl
        have HR := Lib.hid hr
        have hz2 : (byteI bs' 0 == 0) = true := beq_iff_eq.2 hz
        clear hl hr hconv hz
        go_wp2
        exact ⟨⟨_, _, _, _, rfl, HB.out, HR.out⟩, by show len' - 1 < len'; omega⟩
      · have hz2 : (byteI bs' 0 == 0) = false := beq_eq_false_iff_ne.2 hz
        have hr : trimZ bs = bs' := by rw [← HD.out]; exact trimZ_stop (.inr hz)
        have HL := Lib.hid hl
        have HR := Lib.hid hr
        clear hl hr hz
        go_wp2
        go_ret
        rw [HR.out]
        exact ⟨rfl, rfl⟩
    · have h00 : len' = 0 := by omega
      subst h00
      have hl := hB.1
      have hr : trimZ bs = bs' := by rw [← HD.out]; exact trimZ_stop (.inl hl)
      have HR := Lib.hid hr
      clear hr hl hB h0
      go_wp2
      go_ret
      rw [HR.out]
      exact ⟨rfl, rfl⟩
end Go.Proofs.Ytelhpdlegjgjjaa

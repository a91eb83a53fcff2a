/- Walks: the canonical check of natural and dominoref01; the trimming of leading zeros. -/
import Derived.Test.YtnnfgphioapmnaaRows
import Derived.Test.YtnnfgphioapmnaaLib
namespace Go.Proofs.Ytnnfgphioapmnaa
open Go.RowKit

set_option maxHeartbeats 400000 in
theorem nat_Valid (a : ByteArray) (h : a.size ≤ 9223372036854775807) (w : World) :
    Calls Try.prog 28 #[.string a] w (RetQ (.bool (nvalid a)) w) := by
  by_cases h1 : a.size ≤ 128
  · by_cases h2 : a.size = 0
    · rw [nvalid_nil h2]
      go_enter Try.func28, Try.ntmps28
      go_wp2
      go_ret
      exact ⟨rfl, rfl⟩
    · have h3 : 0 < a.size := by omega
      have h4 : ((a.size : Int) == 0) = false := beq_eq_false_iff_ne.2 (by omega)
      rw [nvalid_some h1 h3]
      go_enter Try.func28, Try.ntmps28
      go_wp2
      go_ret
      exact ⟨rfl, rfl⟩
  · rw [nvalid_long h1]
    go_enter Try.func28, Try.ntmps28
    go_wp2
    go_ret
    exact ⟨rfl, rfl⟩


def TrRel (w : World) (bs : List UInt8) (v : Value) : Prop := ∃ A len cap bs', v = .slice A len cap ∧ BytesAt w A len cap bs' ∧ trimZ bs' = trimZ bs

set_option maxRecDepth 100000 in
set_option maxHeartbeats 400000 in
theorem nat_trimmed (A : Option Addr) (len cap : Nat) (bs : List UInt8) (w : World) (h : BytesAt w A len cap bs) :
    Calls Try.prog 35 #[.slice A len cap] w (RetQ (.string (bstr (trimZ bs))) w) := by
  go_enter Try.func35, Try.ntmps35
  go_wp2
  go_loop [0] (fun v => TrRel w bs v) (fun v => sliceLen v)
  case atStart => exact ⟨A, len, cap, bs, rfl, h, rfl⟩
  case round =>
    clear h
    obtain ⟨A', len', cap', bs', rfl, hB, hd⟩ := hrel
    have HD := Lib.hid hd
    clear hd
    have hconv := BytesAt.conv hB 74 22 5 Try.underlying74 Try.underlying5 Try.underlying22
    by_cases h0 : 0 < len'
    · obtain ⟨b, o, rfl, hcel⟩ := hB.2.2.2 h0
      have hl := hB.1
      have hcap : len' ≤ cap' := hB.2.1
      have hm : cap' ≤ 9223372036854775807 := hB.2.2.1
      have hT := hB.tail h0
      have HB := Lib.hid hT
      have hc0 := hcel 0 h0
      simp only [Nat.add_zero] at hc0
      clear hcel hT hB
      by_cases hz : byteI bs' 0 = 0
      · have hr : trimZ (bs'.drop 1) = trimZ bs := by rw [← HD.out, trimZ_zero (by omega) hz]
        have HL := Lib.hid hl
        have HR := Lib.hid hr
        have hz2 : (byteI bs' 0 == 0) = true := beq_iff_eq.2 hz
        clear hl hr hconv hz
        go_wp2
        exact ⟨⟨_, _, _, _, rfl, HB.out, HR.out⟩, by show len' - 1 < len'; omega⟩
      · have hz2 : (byteI bs' 0 == 0) = false := beq_eq_false_iff_ne.2 hz
        have hr : trimZ bs = bs' := by rw [← HD.out]; exact trimZ_stop (.inr hz)
        have HL := Lib.hid hl
        have HR := Lib.hid hr
        clear hl hr hz
        go_wp2
        go_ret
        rw [HR.out]
        exact ⟨rfl, rfl⟩
    · have h00 : len' = 0 := by omega
      subst h00
      have hl := hB.1
      have hr : trimZ bs = bs' := by rw [← HD.out]; exact trimZ_stop (.inl hl)
      have HR := Lib.hid hr
      clear hr hl hB h0
      go_wp2
      go_ret
      rw [HR.out]
      exact ⟨rfl, rfl⟩
end Go.Proofs.Ytnnfgphioapmnaa
/- Walks: ref01.trim, Of. -/
namespace Go.Proofs.Ytnnfgphioapmnaa
open Go.RowKit


set_option maxRecDepth 100000 in
set_option maxHeartbeats 400000 in
theorem nat_Of (n : Nat) (hn : n < 18446744073709551616) (w : World) :
    Calls Try.prog 12 #[.int .u64 n] w (Ret (.string (bstr (encN n))) w) := by
  have HN := Lib.hid hn
  clear hn
  go_enter Try.func12, Try.ntmps12
  go_wp2
  refine wp_loop_rounds 9 ?_
  iterate 9 (rw [rounds_succ]; go_wp2_with fail)
  refine (nat_trimmed (some ⟨w.heap.size, 0, none⟩) 8 8 (be8 n) _ (be8_at w n _)).mono ?_
  rintro e w1 ⟨rfl, rfl⟩
  rw [be8_trim n HN.out]
  go_wp2
  go_ret
  exact ⟨rfl, (Below.refl _ _).alloc (Nat.le_refl _) _⟩

end Go.Proofs.Ytnnfgphioapmnaa

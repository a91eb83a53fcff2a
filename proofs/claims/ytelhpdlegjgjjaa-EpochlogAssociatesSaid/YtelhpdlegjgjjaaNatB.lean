/- Walks: ref01.trim, Of. -/
import Derived.Test.YtelhpdlegjgjjaaNatA
namespace Go.Proofs.Ytelhpdlegjgjjaa
open Go.RowKit

set_option maxRecDepth 100000 in
set_option maxHeartbeats 400000 in
theorem r01_trim (A : Option Addr) (len cap : Nat) (bs : List UInt8) (w : World) (h : BytesAt w A len cap bs) :
    Calls Try.prog 57 #[.slice A len cap] w (RetQ (.string (bstr (trimZ bs))) w) := by
  have hl := h.1
  have hcap : len ≤ cap := h.2.1
  have hm : cap ≤ 9223372036854775807 := h.2.2.1
  by_cases h0 : 0 < len
  · obtain ⟨b, o, rfl, hcel⟩ := h.2.2.2 h0
    have HL := Lib.hid hl
    have HB := Lib.hid h
    have HC := Lib.hid hcel
    clear hcel hl h
    go_enter Try.func57, Try.ntmps57
    go_wp2
    go_loop [3] (fun v => ∃ k : Nat, k ≤ len ∧ v = .int .i64 k ∧ trimZ (bs.drop k) = trimZ bs) (fun v => len - (intOf v).toNat)
    case atStart => exact ⟨0, Nat.zero_le _, rfl, rfl⟩
    case round =>
      obtain ⟨k, hk, rfl, hd⟩ := hrel
      have HD := Lib.hid hd
      clear hd
      by_cases hlt : k < len
      · have hc0 := HC.out k hlt
        by_cases hz : byteI bs k = 0
        · have hz2 : (byteI bs k == 0) = true := beq_iff_eq.2 hz
          have HZ := Lib.hid hz
          clear hz
          go_wp2
          go_round
          case rel => exact ⟨k + 1, by omega, by go_num, by rw [← HD.out]; exact (trimZ_drop (by rw [HL.out]; exact hlt) HZ.out).symm⟩
          case measure => simp [intOf]; omega
        · have hz2 : (byteI bs k == 0) = false := beq_eq_false_iff_ne.2 hz
          have hr : bs.drop k = trimZ bs := by rw [← HD.out]; exact (trimZ_stop (.inr (by rw [byteI_drop]; exact hz))).symm
          have hconv := BytesAt.conv (HB.out.from k hk) 82 23 5 Try.underlying82 Try.underlying5 Try.underlying23
          rw [hr] at hconv
          have HR := Lib.hid hr
          have hne : ¬ cap = k := by omega
          rw [if_neg hne] at hconv
          clear hz hr
          go_wp2
          go_ret
          exact ⟨rfl, rfl⟩
      · obtain rfl : k = len := by omega
        have hr : bs.drop k = trimZ bs := by rw [← HD.out]; exact (trimZ_stop (.inl (by simp [HL.out]))).symm
        have hconv := BytesAt.conv (HB.out.from k hk) 82 23 5 Try.underlying82 Try.underlying5 Try.underlying23
        rw [hr] at hconv
        clear hr
        rw [Nat.sub_self] at hconv
        by_cases hck : cap = k
        · rw [if_pos hck] at hconv
          subst hck
          rw [Nat.sub_self] at hconv
          go_wp2
          go_ret
          exact ⟨rfl, rfl⟩
        · rw [if_neg hck] at hconv
          go_wp2
          go_ret
          exact ⟨rfl, rfl⟩
  · have h00 : len = 0 := by omega
    subst h00
    have hb : trimZ bs = bs := trimZ_stop (.inl hl)
    rw [hb]
    have hconv := BytesAt.conv h 82 23 5 Try.underlying82 Try.underlying5 Try.underlying23
    clear hb h hl h0
    go_enter Try.func57, Try.ntmps57
    go_wp2
    refine wp_loop_rounds 1 ?_
    rw [rounds_succ]
    go_wp2
    go_ret
    exact ⟨rfl, rfl⟩

set_option maxRecDepth 100000 in
set_option maxHeartbeats 400000 in
theorem nat_Of (n : Nat) (hn : n < 18446744073709551616) (w : World) :
    Calls Try.prog 22 #[.int .u64 n] w (Ret (.string (bstr (encN n))) w) := by
  have HN := Lib.hid hn
  clear hn
  go_enter Try.func22, Try.ntmps22
  go_wp2
  refine wp_loop_rounds 9 ?_
  iterate 9 (rw [rounds_succ]; go_wp2_with fail)
  refine (nat_trimmed (some ⟨w.heap.size, 0, none⟩) 8 8 (be8 n) _ (be8_at w n _)).mono ?_
  rintro e w1 ⟨rfl, rfl⟩
  rw [be8_trim n HN.out]
  go_wp2
  go_ret
  exact ⟨rfl, (Below.refl _ _).alloc (Nat.le_refl _) _⟩

set_option maxRecDepth 100000 in
set_option maxHeartbeats 400000 in
theorem r01_Of (n : Nat) (hn : n < 18446744073709551616) (w : World) :
    Calls Try.prog 29 #[.int .u64 n] w (Ret (.string (bstr (encN n))) w) := by
  have HN := Lib.hid hn
  have hn2 : (n : Int) ≤ 18446744073709551615 := by omega
  clear hn
  have hmk : ∀ w, (Instr.makeSlice 82 (.int .i64 8) (.int .i64 8)).run Try.prog w = .ok (.slice (some ⟨w.heap.size, 0, none⟩) 8 8) (w.alloc (.cells #[.int .u8 0, .int .u8 0, .int .u8 0, .int .u8 0, .int .u8 0, .int .u8 0, .int .u8 0, .int .u8 0] 5)) := fun _ => by kernel_rfl
  go_enter Try.func29, Try.ntmps29
  go_wp2
  refine wp_loop_rounds 9 ?_
  iterate 9 (rw [rounds_succ]; go_wp2_with fail)
  refine (r01_trim (some ⟨w.heap.size, 0, none⟩) 8 8 (be8 n) _ (be8_at2 w n _)).mono ?_
  rintro e w1 ⟨rfl, rfl⟩
  rw [be8_trim n HN.out]
  go_wp2
  go_ret
  exact ⟨rfl, (Below.refl _ _).alloc (Nat.le_refl _) _⟩
end Go.Proofs.Ytelhpdlegjgjjaa

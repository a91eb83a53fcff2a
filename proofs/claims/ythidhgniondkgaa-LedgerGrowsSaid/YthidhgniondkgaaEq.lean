/- Walks: slices.Equal on equal lists, dominolaw57.Few, example. -/
import Derived.Test.YthidhgniondkgaaMer
set_option linter.unusedVariables false
set_option linter.unusedSimpArgs false
namespace Go.Proofs.Ythidhgniondkgaa
open Go.RowKit

set_option maxRecDepth 100000 in
set_option maxHeartbeats 1000000 in
theorem eq_nats (l : List ByteArray) (A A' : Option Addr) (len cap cap' : Nat) (w : World) (hs : SlN w A len cap l) (hs' : SlN w A' len cap' l) : Calls Try.prog 15 #[.slice A len cap, .slice A' len cap'] w (Ret (.bool true) w) := by
  have hlen := hs.1
  have hlc := hs.2.1
  have hcap := hs.2.2.1
  have HS := Lib.hid hs
  have HS' := Lib.hid hs'
  have HLEN := Lib.hid hlen
  have hne : ((len : Int) != (len : Int)) = false := bne_false rfl
  clear hs hs' hlen
  go_enter Try.func15, Try.ntmps15
  go_wp2
  go_loopw [13] (fun i wr => ∃ k : Nat, k ≤ len ∧ i = .int .i64 k ∧ Below w.heap.size w wr) (fun i _ => len - (intOf i).toNat)
  case atStart => exact ⟨0, Nat.zero_le _, rfl, Below.refl _ _⟩
  case round =>
    obtain ⟨k, hk, rfl, hB⟩ := hrel
    by_cases hlt : k < len
    · obtain ⟨b, o, rfl⟩ := HS.out.head (by omega)
      obtain ⟨b', o', rfl⟩ := HS'.out.head (by omega)
      obtain ⟨s, he⟩ : ∃ s, l[k]? = some s := ⟨_, List.getElem?_eq_getElem (by rw [HLEN.out]; exact hlt)⟩
      have c0 := (HS.out.kept hB (Nat.le_refl _)).get? k he
      have c1 := (HS'.out.kept hB (Nat.le_refl _)).get? k he
      have i1 : (0 : Int) ≤ (k : Int) := by omega
      have i2 : (k : Int) < (len : Int) := by omega
      have HB := Lib.hid hB
      clear hB he
      go_wp2
      go_quiet (fail)
      go_wp2
      go_roundw
      case rel => exact ⟨k + 1, by omega, by go_num, below_dN HB.out _⟩
      case measure => simp [intOf]; omega
    · obtain rfl : k = len := by omega
      have HB := Lib.hid hB
      clear hB
      go_wp2
      go_ret
      exact ⟨rfl, HB.out⟩

set_option maxRecDepth 100000 in
set_option maxHeartbeats 1000000 in
theorem eq_entries (l : List En) (A A' : Option Addr) (len cap cap' : Nat) (w : World) (hs : SlE w A len cap l) (hs' : SlE w A' len cap' l) : Calls Try.prog 14 #[.slice A len cap, .slice A' len cap'] w (Ret (.bool true) w) := by
  have hlen := hs.1
  have hlc := hs.2.1
  have hcap := hs.2.2.1
  have HS := Lib.hid hs
  have HS' := Lib.hid hs'
  have HLEN := Lib.hid hlen
  have hne : ((len : Int) != (len : Int)) = false := bne_false rfl
  clear hs hs' hlen
  go_enter Try.func14, Try.ntmps14
  go_wp2
  go_loopw [13] (fun i wr => ∃ k : Nat, k ≤ len ∧ i = .int .i64 k ∧ Below w.heap.size w wr) (fun i _ => len - (intOf i).toNat)
  case atStart => exact ⟨0, Nat.zero_le _, rfl, Below.refl _ _⟩
  case round =>
    obtain ⟨k, hk, rfl, hB⟩ := hrel
    by_cases hlt : k < len
    · obtain ⟨b, o, rfl⟩ := HS.out.head (by omega)
      obtain ⟨b', o', rfl⟩ := HS'.out.head (by omega)
      obtain ⟨e, he⟩ : ∃ s, l[k]? = some s := ⟨_, List.getElem?_eq_getElem (by rw [HLEN.out]; exact hlt)⟩
      obtain ⟨c0, c1, c2, c3⟩ := (HS.out.kept hB (Nat.le_refl _)).get? k he
      obtain ⟨d0, d1, d2, d3⟩ := (HS'.out.kept hB (Nat.le_refl _)).get? k he
      have i1 : (0 : Int) ≤ (k : Int) := by omega
      have i2 : (k : Int) < (len : Int) := by omega
      have HB := Lib.hid hB
      clear hB he
      go_wp2
      go_quiet (fail)
      go_wp2
      go_roundw
      case rel => exact ⟨k + 1, by omega, by go_num, below_dN HB.out _⟩
      case measure => simp [intOf]; omega
    · obtain rfl : k = len := by omega
      have HB := Lib.hid hB
      clear hB
      go_wp2
      go_ret
      exact ⟨rfl, HB.out⟩
end Go.Proofs.Ythidhgniondkgaa

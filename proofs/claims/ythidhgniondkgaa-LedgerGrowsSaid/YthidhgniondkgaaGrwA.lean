/- Walks: slices.Clone, IndexFunc, DeleteFunc at lists of numbers, with the predicate of LedgerGrows. -/
import Derived.Test.YthidhgniondkgaaLawA
import Derived.Lib.SliceRun
set_option linter.unusedVariables false
set_option linter.unusedSimpArgs false
namespace Go.Proofs.Ythidhgniondkgaa
open Go.RowKit

set_option maxRecDepth 100000 in
set_option maxHeartbeats 1000000 in
theorem cl_nats (l : List ByteArray) (A : Option Addr) (len cap : Nat) (w : World) (hs : SlN w A len cap l) (hlb : len ≤ 1000000000000) : Calls Try.prog 18 #[.slice A len cap] w (RetRow 22 1 len (l.map Value.string) w) := by
  have hee := fun (w : World) (a : Option Addr) (n c : Nat) => Lib.run_eql_slice_nil (P := Try.prog) w 38 22 a n c 0 0 Try.underlying38
  cases A with
  | none =>
    have h0 : len = 0 := by
      rcases Nat.eq_zero_or_pos len with h | h
      · exact h
      · obtain ⟨b, o, e⟩ := hs.head h; cases e
    subst h0
    have hl : l = [] := List.length_eq_zero_iff.1 hs.1
    subst hl
    clear hs
    go_enter Try.func18, Try.ntmps18
    go_wp2
    go_ret
    exact ⟨_, rfl, World.ownsRow_nil _ _ _ _, Below.refl _ _⟩
  | some ad =>
    have hcells := hs.cells
    have HC := Lib.hid hcells
    have HV := Lib.hid (show (l.map Value.string).length = len * 1 from by rw [List.length_map, hs.1, Nat.mul_one])
    have HO := Lib.hid (strs_one l)
    obtain ⟨i0, hi, hz0, hz1, hz2⟩ := info_parts nat_info
    clear hs hcells
    go_enter Try.func18, Try.ntmps18
    go_wp2_with (at_builtin; refine wpList_append_own _ rfl (.tmp 5) (.tmp 6) 38 rfl w.heap.size 22 i0 _ 1 16 Try.underlying38 hi hz0 hz1 hz2 rfl (by decide) _ 0 [] rfl (World.ownsRow_made w _ _ (Nat.le_refl _) ?h0 ?h9) ad len cap (l.map Value.string) rfl ?h1 ?h2 HO.out ?h4 ?h5 ?h6 ?_)
    case h0 => unfold maxLen; omega
    case h9 => rfl
    case h1 => exact HV.out
    case h2 => exact fun j u hj => cell_kept (w := w) ((Below.refl _ _).alloc (Nat.le_refl _) _) (Nat.le_refl _) (HC.out j u hj)
    case h4 => unfold maxLen; omega
    case h5 => omega
    case h6 => simp
    intro v' w' hown hgrow _
    have hb : Below w.heap.size w w' := ((Below.refl _ _).alloc (Nat.le_refl _) _).grown hgrow (by simp) (fun k e => by simp only [Value.ownBlock, Option.some.injEq] at e; omega)
    have HOWN := Lib.hid hown
    have HB := Lib.hid hb
    clear hown hgrow hb
    go_wp2
    go_ret
    exact ⟨_, rfl, HOWN.out, HB.out⟩

theorem drop_any (s h : ByteArray) (b : Nat) (g : Bool) (w : World) (hc : w.cell? ⟨b, 1, none⟩ = some (.string h)) (hg : decide (s = h) = g) : Calls Try.prog 16 #[.string s, .pointer (some ⟨b, 0, none⟩)] w (RetQ (.bool g) w) := by
  have hq : (s.toList == h.toList) = g := by
    cases g with
    | true => exact str_beq_true (of_decide_eq_true hg)
    | false => exact str_beq_false (of_decide_eq_false hg)
  clear hg
  go_enter Try.func16, Try.ntmps16
  go_wp2
  go_ret
  exact ⟨rfl, rfl⟩

/-- The predicate's value. -/
abbrev dropV (b : Nat) : Value := .func (.func 16) #[] #[.pointer (some ⟨b, 0, none⟩)]

set_option maxRecDepth 100000 in
set_option maxHeartbeats 1000000 in
theorem idx_some (l : List ByteArray) (A : Option Addr) (len cap : Nat) (h : ByteArray) (b k0 : Nat) (w : World) (hs : SlN w A len cap l) (hc : w.cell? ⟨b, 1, none⟩ = some (.string h)) (h0 : l[k0]? = some h) (hno : ∀ j s, j < k0 → l[j]? = some s → s ≠ h) :
    Calls Try.prog 43 #[.slice A len cap, dropV b] w (RetQ (.int .i64 k0) w) := by
  have hlen := hs.1
  have hcap := hs.2.2.1
  have hlc := hs.2.1
  have hk0 := (List.getElem?_eq_some_iff.1 h0).1
  rw [hlen] at hk0
  have HS := Lib.hid hs
  have HLEN := Lib.hid hlen
  have HNO := Lib.hid hno
  have H0 := Lib.hid h0
  have HC := Lib.hid hc
  clear hs hlen hno h0 hc
  go_enter Try.func43, Try.ntmps43
  go_wp2
  go_loop [8] (fun i => ∃ k : Nat, k ≤ k0 ∧ i = .int .i64 k) (fun i => len - (intOf i).toNat)
  case atStart => exact ⟨0, Nat.zero_le _, rfl⟩
  case round =>
    obtain ⟨k, hk, rfl⟩ := hrel
    have hlt : k < len := by omega
    obtain ⟨b', o', rfl⟩ := HS.out.head (by omega)
    by_cases hkk : k < k0
    · obtain ⟨s, he⟩ : ∃ s, l[k]? = some s := ⟨_, List.getElem?_eq_getElem (by rw [HLEN.out]; exact hlt)⟩
      have c0 := HS.out.get? k he
      have HG := Lib.hid (decide_eq_false (HNO.out k s hkk he))
      clear he
      go_wp2_with fail
      refine (drop_any s h b false _ HC.out HG.out).mono ?_
      rintro e w1 ⟨rfl, rfl⟩
      go_wp2
      go_round
      case rel => exact ⟨k + 1, by omega, by go_num⟩
      case measure => simp [intOf]; omega
    · obtain rfl : k = k0 := by omega
      have c0 := HS.out.get? k H0.out
      go_wp2_with fail
      refine (drop_any h h b true _ HC.out (by simp)).mono ?_
      rintro e w1 ⟨rfl, rfl⟩
      go_wp2
      go_ret
      exact ⟨rfl, rfl⟩

set_option maxRecDepth 100000 in
set_option maxHeartbeats 1000000 in
theorem idx_none (l : List ByteArray) (A : Option Addr) (len cap : Nat) (h : ByteArray) (b : Nat) (w : World) (hs : SlN w A len cap l) (hc : w.cell? ⟨b, 1, none⟩ = some (.string h)) (hno : ∀ (j : Nat) (s : ByteArray), l[j]? = some s → s ≠ h) :
    Calls Try.prog 43 #[.slice A len cap, dropV b] w (RetQ (.int .i64 (-1)) w) := by
  have hlen := hs.1
  have hcap := hs.2.2.1
  have hlc := hs.2.1
  have HS := Lib.hid hs
  have HLEN := Lib.hid hlen
  have HNO := Lib.hid hno
  have HC := Lib.hid hc
  clear hs hlen hno hc
  go_enter Try.func43, Try.ntmps43
  go_wp2
  go_loop [8] (fun i => ∃ k : Nat, k ≤ len ∧ i = .int .i64 k) (fun i => len - (intOf i).toNat)
  case atStart => exact ⟨0, Nat.zero_le _, rfl⟩
  case round =>
    obtain ⟨k, hk, rfl⟩ := hrel
    by_cases hlt : k < len
    · obtain ⟨b', o', rfl⟩ := HS.out.head (by omega)
      obtain ⟨s, he⟩ : ∃ s, l[k]? = some s := ⟨_, List.getElem?_eq_getElem (by rw [HLEN.out]; exact hlt)⟩
      have c0 := HS.out.get? k he
      have HG := Lib.hid (decide_eq_false (HNO.out k s he))
      clear he
      go_wp2_with fail
      refine (drop_any s h b false _ HC.out HG.out).mono ?_
      rintro e w1 ⟨rfl, rfl⟩
      go_wp2
      go_round
      case rel => exact ⟨k + 1, by omega, by go_num⟩
      case measure => simp [intOf]; omega
    · obtain rfl : k = len := by omega
      go_wp2
      go_ret
      exact ⟨rfl, rfl⟩
end Go.Proofs.Ythidhgniondkgaa

/- The powers of an element, in their order; walk: dominoref09.Elements. -/
import Derived.Test.YtcbjadaghpmejaaGreatDoorPwG
set_option linter.unusedVariables false
set_option linter.unusedSimpArgs false
namespace Go.Proofs.YtcbjadaghpmejaaGreatDoor
open Go.RowKit

/-- The first number from k on, at most f of them, whose power is 1. -/
def elemF (m g : Nat) : Nat → Nat → Nat
  | 0, k => k
  | f + 1, k => if g ^ k % m = 1 then k else elemF m g f (k + 1)
theorem elemF_spec (m g : Nat) : ∀ (f k : Nat), k ≤ elemF m g f k ∧ elemF m g f k ≤ k + f ∧ (∀ j, k ≤ j → j < elemF m g f k → ¬ (g ^ j % m = 1)) ∧ (elemF m g f k < k + f → g ^ elemF m g f k % m = 1)
  | 0, k => ⟨Nat.le_refl _, Nat.le_refl _, fun j h1 h2 => by unfold elemF at h2; omega, fun h => by unfold elemF at h; omega⟩
  | f + 1, k => by
    unfold elemF
    by_cases h : g ^ k % m = 1
    · rw [if_pos h]
      exact ⟨Nat.le_refl _, by omega, fun j h1 h2 => by omega, fun _ => h⟩
    · rw [if_neg h]
      obtain ⟨h1, h2, h3, h4⟩ := elemF_spec m g f (k + 1)
      refine ⟨by omega, by omega, fun j hj hlt => ?_, fun hl => h4 (by omega)⟩
      by_cases e : j = k
      · rw [e]; exact h
      · exact h3 j (by omega) hlt
/-- How many powers there are ahead of the second 1, at most 65536. -/
def elemN (m g : Nat) : Nat := elemF m g 65535 1
theorem elemN_pos (m g : Nat) : 1 ≤ elemN m g := (elemF_spec m g 65535 1).1
theorem elemN_max (m g : Nat) : elemN m g ≤ 65536 := by have := (elemF_spec m g 65535 1).2.1; unfold elemN; omega
theorem elemN_hit {m g k : Nat} (h0 : 0 < k) (h : g ^ k % m = 1) : elemN m g ≤ k := by
  rcases Nat.lt_or_ge k (elemN m g) with hl | hl
  · exact absurd h ((elemF_spec m g 65535 1).2.2.1 k h0 hl)
  · exact hl
theorem elemN_gt {m g k : Nat} (hk : k < 65536) (h : ∀ j, 0 < j → j ≤ k → ¬ (g ^ j % m = 1)) : k < elemN m g := by
  rcases Nat.lt_or_ge k (elemN m g) with hl | hl
  · exact hl
  · have h1 := (elemF_spec m g 65535 1).2.2.2 (by unfold elemN at hl; omega)
    exact absurd h1 (h _ (elemN_pos m g) hl)
/-- The first k powers. -/
def pwL (m g k : Nat) : List Nat := (List.range k).map fun j => g ^ j % m
theorem pwL_length (m g k : Nat) : (pwL m g k).length = k := by simp [pwL]
theorem pwL_succ (m g k : Nat) : pwL m g (k + 1) = pwL m g k ++ [g ^ k % m] := by simp [pwL, List.range_succ]
theorem pwL_take {m g k n : Nat} (h : n ≤ k) : (pwL m g k).take n = pwL m g n := by
  unfold pwL
  rw [← List.map_take, List.take_range, Nat.min_eq_left h]
theorem pwL_prefix {m g k n : Nat} (h : n ≤ k) : pwL m g n <+: pwL m g k := by
  rw [← pwL_take h]; exact List.take_prefix _ _
/-- What Elements yields. -/
def elemG (M O g : ByteArray) : List Nat := if hasG M O g = true then pwL (num M) (num g) (elemN (num M) (num g)) else []
theorem elemG_in {M O g : ByteArray} (h : hasG M O g = true) : elemG M O g = pwL (num M) (num g) (elemN (num M) (num g)) := by unfold elemG; rw [if_pos h]
theorem elemG_out {M O g : ByteArray} (h : hasG M O g = false) : elemG M O g = [] := by unfold elemG; rw [if_neg (by rw [h]; decide)]
theorem elemG_take {M O g : ByteArray} {n k : Nat} (h : hasG M O g = true) (hk : k ≤ elemN (num M) (num g)) (h2 : n = k ∨ k = elemN (num M) (num g) ∧ k ≤ n) : (elemG M O g).take n = pwL (num M) (num g) k := by
  rw [elemG_in h]
  rcases h2 with rfl | ⟨rfl, h3⟩
  · exact pwL_take hk
  · exact List.take_of_length_le (by rw [pwL_length]; exact h3)

/-- The call returned a slice of numbers. -/
def RetSl (l : List ByteArray) (w : World) (e : Ending) (w' : World) : Prop := ∃ A cap, e = .returned (.slice A l.length cap) ∧ SlN w' A l.length cap l ∧ Below w.heap.size w w'
def nsL (l : List Nat) : List Value := l.map fun n => Value.string (nS n)
theorem nsL_map (l : List Nat) : nsL l = (l.map nS).map Value.string := by simp [nsL]
theorem nsL_one (l : List Nat) : ∀ u ∈ nsL l, u.oneCell' = true := by rw [nsL_map]; exact strs_one _
theorem nsL_snoc (l : List Nat) (n : Nat) : nsL (l ++ [n]) = nsL l ++ [.string (nS n)] := by simp [nsL]

set_option maxRecDepth 100000 in
set_option maxHeartbeats 2000000 in
theorem r09_Elements (M O g : ByteArray) (n : Nat) (hn : n ≤ 1000) (hM : M.size ≤ 8) (hO : O.size ≤ 1000) (hg : g.size ≤ 1000) (w : World) : Calls Tryz.prog 19 #[gV M O, .string g, .int .i64 n] w (RetSl (((elemG M O g).take n).map nS) w) := by
  have HH := Lib.hid (r09_Has M O g hM hO hg)
  have HX0 := Lib.hid (Bx2.new w (.string M) (.string O) 24)
  have HB0 := Lib.hid ((Below.refl w.heap.size w).alloc (Nat.le_refl _) (.cells #[.string M, .string O] 24))
  cases hha : hasG M O g with
  | false =>
    rw [hha] at HH
    rw [elemG_out hha, List.take_nil, List.map_nil]
    clear hha
    unfold gV at *
    go_enter Tryz.func19, Tryz.ntmps19
    go_wp2_with fail
    refine (HH.out _).mono ?_
    rintro ev w1 ⟨rfl, hb1⟩
    have HB1 := Lib.hid (HB0.out.trans (hb1.mono HB0.out.size))
    clear hb1
    go_wp2
    go_ret
    exact ⟨none, 0, rfl, SlN.nil _ 0 (by omega) none, HB1.out⟩
  | true =>
    rw [hha] at HH
    have hm8 := num_small hM
    have hgm := has_num hha
    obtain ⟨hvM, hvO, hvg⟩ := (of_decide_eq_true hha : hasP M O g).1 |> fun h1 => (⟨h1, (of_decide_eq_true hha : hasP M O g).2.1, (of_decide_eq_true hha : hasP M O g).2.2.1⟩ : nvalid M = true ∧ nvalid O = true ∧ nvalid g = true)
    have hg0 : 0 < num g := (of_decide_eq_true hha : hasP M O g).2.2.2.2.1
    have HMU := Lib.hid (fun k => r03_Mul (num g ^ k % num M) (num g) (num M) (lt128_8 (Nat.lt_trans (Nat.mod_lt _ (by omega)) hm8)) (lt128_8 (by omega)) hm8 (by omega))
    have HMO := Lib.hid (fun k => pw_one (num g) k (num M))
    rw [← nS_num hvg, ← nS_num hvM] at HMU
    have HTK := Lib.hid (fun k => elemG_take (n := n) (k := k) hha)
    have H1 := Lib.hid (show nS (num g ^ 0 % num M) = ⟨#[1]⟩ from by rw [Nat.pow_zero, Nat.mod_eq_of_lt (by omega)]; rfl)
    obtain ⟨i0, hi, iz0, iz1, iz2⟩ := info_parts nat_info
    clear hha hvM hvO hvg hg0 hgm hm8
    unfold gV at *
    go_enter Tryz.func19, Tryz.ntmps19
    go_wp2_with fail
    refine (HH.out _).mono ?_
    rintro ev w1 ⟨rfl, hb1⟩
    have HB1 := Lib.hid (HB0.out.trans (hb1.mono HB0.out.size))
    have HX1 := Lib.hid (HX0.out.next hb1)
    have hlt1 := HX1.out.lt
    clear hb1
    go_wp2
    go_loopw [7, 8] (fun v y wr => ∃ (k : Nat) (A : Option Addr) (cap : Nat), k ≤ n ∧ v = .slice A k cap ∧ wr.ownsRow (w.heap.size + 1) 22 1 v k (nsL (pwL (num M) (num g) k)) ∧ y = .string (nS (num g ^ k % num M)) ∧ (∀ j, 0 < j → j < k → ¬ (num g ^ j % num M = 1)) ∧ Bx2 wr w.heap.size (.string M) (.string O) 24 ∧ Below w.heap.size w wr) (fun v _ _ => 2000 - sliceLen v)
    case atStart => exact ⟨0, none, 0, Nat.zero_le _, rfl, World.ownsRow_nil _ _ _ _, by rw [H1.out], fun j h1 h2 => by omega, HX1.out, HB1.out⟩
    case round =>
      obtain ⟨k, A, cap, hk, rfl, hown, rfl, hno, hX, hB⟩ := hrel
      have HOWN := Lib.hid hown
      have HNO := Lib.hid hno
      have HX := Lib.hid hX
      have HB := Lib.hid hB
      have c0 := hX.c0
      have hxl := hX.lt
      clear hown hno hX hB
      have HRET := Lib.hid (fun (h : (List.take n (elemG M O g)) = pwL (num M) (num g) k) => (show RetSl (((elemG M O g).take n).map nS) w (.returned (.slice A k cap)) wr from by
        have h1 := HOWN.out
        rw [nsL_map] at h1
        obtain ⟨hl, A', cap', hv, hs⟩ := SlN.of_owns h1
        cases hv
        rw [h]
        refine ⟨A, cap, ?_, ?_, HB.out⟩
        · rw [hl]
        · rw [hl]; exact hs))
      by_cases hlt : k < n
      · have hk6 : k < 65536 := by omega
        by_cases h0 : k = 0
        · subst h0
          have HMM := Lib.hid (HMU.out 0)
          rw [HMO.out] at HMM
          go_wp2_with (at_builtin; refine wpList_append_lies _ rfl (.tmp 31) (.tmp 33) 42 rfl (w.heap.size + 1) 22 i0 _ 1 16 Tryz.underlying42 hi iz0 iz1 iz2 rfl (by decide) _ 0 (nsL (pwL (num M) (num g) 0)) rfl (HOWN.out.alloc _) ⟨wr.heap.size, 0, none⟩ 1 1 (nsL [num g ^ 0 % num M]) rfl rfl ?n1 ?n2 (by decide) ?n3 ?n4 ?n5 _ rfl ?_)
          case n1 => exact World.news_of_block (heap_alloc_new _ _)
          case n2 => exact nsL_one _
          case n3 => unfold maxLen; omega
          case n4 => omega
          case n5 => simp; omega
          intro G cap2 w2 hown2 hgrow2 hat2 hlt2
          have hbb : Below w.heap.size w w2 := (HB.out.alloc HB.out.size _).grown hgrow2 (by have := HB.out.size; simp; omega) (fun q e => by have := (HOWN.out.lt q e).1; omega)
          have hx2 : Bx2 w2 w.heap.size (.string M) (.string O) 24 := (hgrow2.block w.heap.size (by simp; omega) (fun e => by have := (HOWN.out.lt _ e.symm).1; omega)).trans (HX.out.next ((Below.refl _ _).alloc (Nat.le_refl _) _))
          have HB2 := Lib.hid hbb
          have HX2 := Lib.hid hx2
          have HOWN2 := Lib.hid hown2
          have hsz2 := hx2.lt
          clear hown2 hgrow2 hat2 hlt2 hbb hx2 c0
          have c0 := HX2.out.c0
          go_wp2_with fail
          refine (HMM.out _).mono ?_
          rintro ev w3 ⟨rfl, hb3⟩
          have HB3 := Lib.hid (HB2.out.trans (hb3.mono HB2.out.size))
          have HX3 := Lib.hid (HX2.out.next hb3)
          have HOWN3 := Lib.hid (owns_kept HOWN2.out hb3 (Nat.le_refl _))
          clear hb3
          go_wp2
          go_roundw
          case rel =>
            refine ⟨0 + 1, _, _, by omega, rfl, ?_, by first | rfl | simp, fun j a b => ?_, HX3.out, HB3.out⟩
            · rw [pwL_succ, nsL_snoc]; exact HOWN3.out
            · omega
          case measure => simp [sliceLen] <;> omega
        · by_cases h1 : num g ^ k % num M = 1
          · have HK := Lib.hid (show elemN (num M) (num g) = k from by
              have e1 := elemN_hit (by omega) h1
              have e2 := elemN_gt (m := num M) (g := num g) (k := k - 1) (by omega) (fun j a b => HNO.out j a (by omega))
              omega)
            have HTT := Lib.hid (HRET.out (HTK.out k (by rw [HK.out]; exact Nat.le_refl _) (.inr ⟨HK.out.symm, by omega⟩)))
            have hy : ((nS (num g ^ k % num M)).toList == [1]) = true := by rw [nS_is1]; exact decide_eq_true h1
            have hkz : ((k : Int) == 0) = false := by rw [beq_eq_false_iff_ne]; omega
            clear h0 hk6
            have hk6 : (k : Int) < 65536 := by omega
            clear h1
            go_wp2
            go_ret
            exact HTT.out
          · have HMM := Lib.hid (HMU.out k)
            rw [HMO.out] at HMM
            have hy : ((nS (num g ^ k % num M)).toList == [1]) = false := by rw [nS_is1]; exact decide_eq_false h1
            have hkz : ((k : Int) == 0) = false := by rw [beq_eq_false_iff_ne]; omega
            have HN1 := Lib.hid h1
            clear h1 h0 hk6
            have hk6 : (k : Int) < 65536 := by omega
            go_wp2_with (at_builtin; refine wpList_append_lies _ rfl (.tmp 31) (.tmp 33) 42 rfl (w.heap.size + 1) 22 i0 _ 1 16 Tryz.underlying42 hi iz0 iz1 iz2 rfl (by decide) _ k (nsL (pwL (num M) (num g) k)) rfl (HOWN.out.alloc _) ⟨wr.heap.size, 0, none⟩ 1 1 (nsL [num g ^ k % num M]) rfl rfl ?n1 ?n2 (by decide) ?n3 ?n4 ?n5 _ rfl ?_)
            case n1 => exact World.news_of_block (heap_alloc_new _ _)
            case n2 => exact nsL_one _
            case n3 => unfold maxLen; omega
            case n4 => omega
            case n5 => simp; omega
            intro G cap2 w2 hown2 hgrow2 hat2 hlt2
            have hbb : Below w.heap.size w w2 := (HB.out.alloc HB.out.size _).grown hgrow2 (by have := HB.out.size; simp; omega) (fun q e => by have := (HOWN.out.lt q e).1; omega)
            have hx2 : Bx2 w2 w.heap.size (.string M) (.string O) 24 := (hgrow2.block w.heap.size (by simp; omega) (fun e => by have := (HOWN.out.lt _ e.symm).1; omega)).trans (HX.out.next ((Below.refl _ _).alloc (Nat.le_refl _) _))
            have HB2 := Lib.hid hbb
            have HX2 := Lib.hid hx2
            have HOWN2 := Lib.hid hown2
            have hsz2 := hx2.lt
            clear hown2 hgrow2 hat2 hlt2 hbb hx2 c0
            have c0 := HX2.out.c0
            go_wp2_with fail
            refine (HMM.out _).mono ?_
            rintro ev w3 ⟨rfl, hb3⟩
            have HB3 := Lib.hid (HB2.out.trans (hb3.mono HB2.out.size))
            have HX3 := Lib.hid (HX2.out.next hb3)
            have HOWN3 := Lib.hid (owns_kept HOWN2.out hb3 (Nat.le_refl _))
            clear hb3
            go_wp2
            go_roundw
            case rel =>
              refine ⟨k + 1, _, _, by omega, rfl, ?_, by first | rfl | simp, fun j a b => ?_, HX3.out, HB3.out⟩
              · rw [pwL_succ, nsL_snoc]; exact HOWN3.out
              · (by_cases e : j = k; (rw [e]; exact HN1.out); exact HNO.out j a (by omega))
            case measure => simp [sliceLen] <;> omega
      · obtain rfl : k = n := by omega
        have HTT := Lib.hid (HRET.out (HTK.out k (by
          rcases Nat.eq_zero_or_pos k with e | e
          · rw [e]; exact Nat.zero_le _
          · have e2 := elemN_gt (m := num M) (g := num g) (k := k - 1) (by omega) (fun j a b => HNO.out j a (by omega))
            omega) (.inl rfl)))
        go_wp2
        go_ret
        exact HTT.out
end Go.Proofs.YtcbjadaghpmejaaGreatDoor

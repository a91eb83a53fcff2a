/- Walk: dominoref57.Members. -/
import Derived.Test.YthidhgniondkgaaMem
import Derived.Deep.QuietTactic
import Derived.BigQuiet
set_option linter.unusedVariables false
set_option linter.unusedSimpArgs false
namespace Go.Proofs.Ythidhgniondkgaa
open Go.RowKit

theorem led_Members (l : List En) (A : Option Addr) (len cap : Nat) (p : Int) (w : World) (hs : SlE w A len cap l) (hlb : len ≤ 1000000000) (hsz : SzE l) (hp : p ≤ 9223372036854775807) :
    Calls Try.prog 12 #[.slice A len cap, .int .i64 p] w (RetNs (memS l p).1 .i64 (memS l p).2 w) := by
  by_cases h : p < 0
  · have := led_Members_neg A len cap p h w
    unfold memS
    rw [if_pos (.inl h)]
    exact this
  · obtain ⟨P, rfl⟩ := Int.eq_ofNat_of_zero_le (Int.not_lt.1 h)
    exact led_Members_pos l A len cap P w hs hlb hsz (by omega) _ rfl

set_option maxRecDepth 100000 in
set_option maxHeartbeats 2000000 in
theorem r57_Members_neg (A : Option Addr) (len cap : Nat) (p : Int) (hp : p < 0) (w : World) :
    Calls Try.prog 13 #[.slice A len cap, .int .i64 p] w (RetNs [] .i64 2 w) := by
  go_enter Try.func13, Try.ntmps13
  go_wp2
  go_ret2
  exact ⟨none, 0, rfl, SlN.nil _ _ (by omega) _, Below.refl _ _⟩

set_option maxRecDepth 100000 in
set_option maxHeartbeats 2000000 in
theorem r57_Members_hi (l : List En) (A : Option Addr) (len cap : Nat) (P E : Nat) (w : World) (hs : SlE w A len cap l) (hE : epochN l = E) (hP : E < P) :
    Calls Try.prog 13 #[.slice A len cap, .int .i64 P] w (RetNs [] .i64 2 w) := by
  have HS := Lib.hid hs
  have HE := Lib.hid hE
  have hP0 : ¬ ((P : Int) < 0) := by omega
  clear hs hE
  go_enter Try.func13, Try.ntmps13
  go_wp2_with fail
  refine (r57_Epoch l A len cap _ HS.out).mono ?_
  rintro e w1 ⟨rfl, rfl⟩
  rw [HE.out]
  go_wp2
  go_ret2
  exact ⟨none, 0, rfl, SlN.nil _ _ (by omega) _, Below.refl _ _⟩

theorem own_drewN {w : World} {B : Nat} {T : TypeId} {sz : Nat} {v : Value} {n : Nat} {xs : List Value} (h : w.ownsRow B T sz v n xs) (q : Nat) : (w.drewN q).ownsRow B T sz v n xs := by
  induction q generalizing w with
  | zero => exact h
  | succ q ih => exact ih h.drew
theorem below_dN {B : Nat} {w0 w : World} (h : Below B w0 w) (q : Nat) : Below B w0 (w.drewN q) := h.trans ⟨rfl, rfl, rfl, Nat.le_refl _, fun _ _ => rfl⟩
theorem endN_lt {l : List En} {k c P : Nat} (h : epochN (l.take k) = c) (hc : c < P) (hP : P ≤ epochN l) : k < l.length := by
  rcases Nat.lt_or_ge k l.length with h' | h'
  · exact h'
  · rw [List.take_of_length_le h'] at h; omega

theorem has_q (l : List En) (A : Option Addr) (len cap : Nat) (q : Int) (u : ByteArray) (g : Bool) (w : World) (n : Nat) (hs : SlE (w.drewN n) A len cap l) (hg : hasB l q u = g) : Calls Try.prog 42 #[.slice A len cap, .int .i64 q, .string u] (w.drewN n) fun e w' => e = .returned (.bool g) ∧ w' = w.drewN n :=
  (r57_has l A len cap q u _ hs).mono fun e w' ⟨h1, h2⟩ => ⟨by rw [h1, hg], h2.symm⟩

set_option maxRecDepth 100000 in
set_option maxHeartbeats 4000000 in
theorem r57_Members_pos (l : List En) (A : Option Addr) (len cap : Nat) (P E : Nat) (w : World) (hs : SlE w A len cap l) (hlb : len ≤ 1000000000) (hE : epochN l = E) (hPE : P ≤ E) (hP : P ≤ 9223372036854775807) :
    Calls Try.prog 13 #[.slice A len cap, .int .i64 P] w (RetNs (memH (l.take (endN l P))) .i64 0 w) := by
  have hlen := hs.1
  have hlc := hs.2.1
  have HS := Lib.hid hs
  have HLEN := Lib.hid hlen
  have HE := Lib.hid hE
  have hP0 : ¬ ((P : Int) < 0) := by omega
  clear hs hlen hE
  go_enter Try.func13, Try.ntmps13
  go_wp2_with fail
  refine (r57_Epoch l A len cap _ HS.out).mono ?_
  rintro e w1 ⟨rfl, rfl⟩
  rw [HE.out]
  go_wp2
  go_loop [6, 7] (fun e n => EndRel l len P e n) (fun e _ => len - (intOf e).toNat)
  case atStart => exact ⟨0, 0, Nat.zero_le _, rfl, rfl, rfl, Nat.zero_le _, by simp⟩
  case round =>
    obtain ⟨k, c, hk, rfl, rfl, hc, hcP, hi⟩ := hrel
    have HC := Lib.hid hc
    have HI := Lib.hid hi
    clear hc hi
    by_cases hlt : c < P
    · have hkl : k < len := by have := endN_lt HC.out hlt (by rw [HE.out]; exact hPE); have := HLEN.out; omega
      obtain ⟨b, o, rfl⟩ := HS.out.head (by omega)
      obtain ⟨e, he⟩ : ∃ e, l[k]? = some e := ⟨_, List.getElem?_eq_getElem (by rw [HLEN.out]; exact hkl)⟩
      obtain ⟨c0, c1, c2, c3⟩ := HS.out.get? k he
      have HEE := Lib.hid he
      clear he
      by_cases h2 : e.kind = 2
      · have e2 := eqI h2
        have H2 := Lib.hid h2
        clear h2
        go_wp2
        go_round
        case rel =>
          have h1 := epochN_snoc HEE.out
          have h3 := endN_step HEE.out hlt HI.out
          rw [if_pos H2.out] at h1 h3
          exact ⟨k + 1, c + 1, by omega, by go_num, by go_num, by rw [h1, HC.out], by omega, h3⟩
        case measure => simp [intOf]; omega
      · have e2 := neI h2
        have H2 := Lib.hid h2
        clear h2
        go_wp2
        go_round
        case rel =>
          have h1 := epochN_snoc HEE.out
          have h3 := endN_step HEE.out hlt HI.out
          rw [if_neg H2.out] at h1 h3
          exact ⟨k + 1, c, by omega, by go_num, rfl, by rw [h1, HC.out, Nat.add_zero], by omega, h3⟩
        case measure => simp [intOf]; omega
    · obtain rfl : c = P := by omega
      have hi := HI.out
      rw [Nat.sub_self, endN_zero, Nat.add_zero] at hi
      have hst := HS.out.take k hk
      obtain ⟨t, ht⟩ : ∃ t, l.take k = t := ⟨_, rfl⟩
      rw [ht] at hst
      have HST := Lib.hid hst
      have HI2 := Lib.hid hi
      have HT := Lib.hid ht
      have hkc : k ≤ cap := by omega
      clear hi hst HI HC HS ht HE
      go_wp2
      go_loopw [8, 9] (fun out i wr => MemRel (hasB t 1) t w.heap.size w out i wr) (fun _ i _ => k - (intOf i).toNat)
      case atStart => exact ⟨0, 0, Nat.zero_le _, Nat.le_refl _, rfl, World.ownsRow_nil _ _ _ _, Below.refl _ _⟩
      case round =>
        obtain ⟨j, m, hj, hm, rfl, hown, hB⟩ := hrel
        have htl : t.length = k := HST.out.1
        rw [htl] at hj
        have HTL := Lib.hid htl
        clear htl
        have HOWN := Lib.hid hown
        have HB := Lib.hid hB
        clear hown hB
        by_cases hjk : j < k
        · obtain ⟨b, o, rfl⟩ := HST.out.head (by omega)
          obtain ⟨e, he⟩ : ∃ e, t[j]? = some e := ⟨_, List.getElem?_eq_getElem (by rw [HTL.out]; exact hjk)⟩
          obtain ⟨c0, c1, c2, c3⟩ := (HST.out.kept HB.out (Nat.le_refl _)).get? j he
          have HE := Lib.hid he
          clear he
          have hms := memF_snoc (R := hasB t 1) HE.out
          have i1 : (0 : Int) ≤ (j : Int) := by omega
          have i2 : (j : Int) < (len : Int) := by omega
          have i3 : (k : Int) ≤ (cap : Int) := by omega
          by_cases h0 : e.kind = 0
          · have e0 := eqI h0
            obtain ⟨g, hg⟩ : ∃ g, hasB t 1 e.handle = g := ⟨_, rfl⟩
            rw [hg] at hms
            have HG := Lib.hid hg
            cases g with
            | true =>
              rw [if_neg (by simp), List.append_nil] at hms
              have HMS := Lib.hid hms
              clear h0 hms hg
              go_wp2
              go_quiet ((go_at_call 42; exact Calls.quiet_of_same (has_q t _ k cap 1 e.handle true _ _ (HST.out.kept (below_dN HB.out _) (Nat.le_refl _)) HG.out)))
              go_wp2
              go_roundw
              case rel => exact ⟨j + 1, m, by rw [HTL.out]; omega, by omega, by go_num, by rw [HMS.out]; exact own_drewN HOWN.out _, below_dN HB.out _⟩
              case measure => simp [intOf]; omega
            | false =>
              rw [if_pos ⟨h0, rfl⟩] at hms
              have HMS := Lib.hid hms
              clear h0 hms hg
              obtain ⟨i0, hi, iz0, iz1, iz2⟩ := info_parts nat_info
              go_wp2
              go_quiet ((go_at_call 42; exact Calls.quiet_of_same (has_q t _ k cap 1 e.handle false _ _ (HST.out.kept (below_dN HB.out _) (Nat.le_refl _)) HG.out)))
              rename_i nq
              go_wp2_with (at_builtin; refine wpList_append_lies _ rfl (.tmp 54) (.tmp 60) 38 rfl w.heap.size 22 i0 _ 1 16 Try.underlying38 hi iz0 iz1 iz2 rfl (by decide) _ m ((memF (hasB t 1) (t.take j)).map Value.string) rfl ?n0 ⟨wr.heap.size, 0, none⟩ 1 1 [.string e.handle] rfl rfl ?n1 ?n2 (by decide) ?n3 ?n4 ?n5 _ rfl ?_)
              case n0 => exact (own_drewN HOWN.out _).alloc _
              case n1 => exact World.news_of_block (heap_alloc_new _ _)
              case n2 => intro u hu; simp only [List.mem_cons, List.mem_nil_iff, or_false] at hu; subst hu; rfl
              case n3 => unfold maxLen; omega
              case n4 => omega
              case n5 => have := HB.out.size; simp; omega
              intro g' cap7 w7 hown7 hgrow7 hat7 hlt7
              have hlt6 := HOWN.out.lt
              have HB7 := Lib.hid (((below_dN HB.out _).alloc HB.out.size _).grown hgrow7 (by have := HB.out.size; simp; omega) (fun k e => (hlt6 k e).1))
              have HOWN7 := Lib.hid hown7
              clear hown7 hgrow7 hat7 hlt7 hlt6
              go_wp2
              go_roundw
              case rel => exact ⟨j + 1, m + 1, by rw [HTL.out]; omega, by omega, by go_num, by rw [HMS.out, List.map_append]; exact HOWN7.out, HB7.out⟩
              case measure => simp [intOf]; omega
          · have e0 := neI h0
            rw [if_neg (by simp [h0]), List.append_nil] at hms
            have HMS := Lib.hid hms
            clear h0 hms
            go_wp2
            go_quiet (fail)
            go_wp2
            go_roundw
            case rel => exact ⟨j + 1, m, by rw [HTL.out]; omega, by omega, by go_num, by rw [HMS.out]; exact own_drewN HOWN.out _, below_dN HB.out _⟩
            case measure => simp [intOf]; omega
        · obtain rfl : j = k := by omega
          have hown := HOWN.out
          rw [List.take_of_length_le (by have := HTL.out; omega)] at hown
          have HOWN2 := Lib.hid hown
          clear hown
          go_wp2
          go_ret2
          rw [← HI2.out, HT.out]
          exact RetNs.mk' (l := memF (hasB t 1) t) HOWN2.out HB.out

theorem r57_Members (l : List En) (A : Option Addr) (len cap : Nat) (p : Int) (w : World) (hs : SlE w A len cap l) (hlb : len ≤ 1000000000) (hp : p ≤ 9223372036854775807) :
    Calls Try.prog 13 #[.slice A len cap, .int .i64 p] w (RetNs (memS l p).1 .i64 (memS l p).2 w) := by
  unfold memS
  by_cases h : p < 0
  · rw [if_pos (.inl h)]
    exact r57_Members_neg A len cap p h w
  · obtain ⟨P, rfl⟩ := Int.eq_ofNat_of_zero_le (Int.not_lt.1 h)
    by_cases h2 : (epochN l : Int) < P
    · rw [if_pos (.inr h2)]
      exact r57_Members_hi l A len cap P _ w hs rfl (by omega)
    · rw [if_neg (by omega), Int.toNat_natCast]
      exact r57_Members_pos l A len cap P _ w hs hlb rfl (by omega) (by omega)
end Go.Proofs.Ythidhgniondkgaa

/- Walks: ledger.Members, dominoref57.Members. -/
import Derived.Test.YthidhgniondkgaaApp
set_option linter.unusedVariables false
set_option linter.unusedSimpArgs false
namespace Go.Proofs.Ythidhgniondkgaa
open Go.RowKit

/-- How many entries stand up to the closing of epoch n. -/
def endN : List En → Nat → Nat
  | [], _ => 0
  | _ :: _, 0 => 0
  | e :: l, n + 1 => endN l (if e.kind = 2 then n else n + 1) + 1
theorem endN_zero (l : List En) : endN l 0 = 0 := by cases l <;> rfl
theorem endN_le (l : List En) : ∀ n, endN l n ≤ l.length := by
  induction l with
  | nil => intro n; simp [endN]
  | cons e l ih =>
    intro n
    cases n with
    | zero => simp [endN]
    | succ n => have := ih (if e.kind = 2 then n else n + 1); simp only [endN, List.length_cons]; omega
/-- One entry more. -/
theorem endN_step {l : List En} {k c P : Nat} {e : En} (h : l[k]? = some e) (hc : c < P) (hi : k + endN (l.drop k) (P - c) = endN l P) :
    k + 1 + endN (l.drop (k + 1)) (P - (c + if e.kind = 2 then 1 else 0)) = endN l P := by
  have hk := (List.getElem?_eq_some_iff.1 h).1
  have hx := (List.getElem?_eq_some_iff.1 h).2
  rw [List.drop_eq_getElem_cons hk, hx, show P - c = (P - c - 1) + 1 from by omega, endN] at hi
  rw [← hi]
  by_cases h2 : e.kind = 2
  · rw [if_pos h2, if_pos h2, show P - (c + 1) = P - c - 1 from by omega]; omega
  · rw [if_neg h2, if_neg h2, show P - (c + 0) = P - c - 1 + 1 from by omega]; omega
theorem epochN_take_le (l : List En) (k : Nat) : epochN (l.take k) ≤ epochN l := by
  unfold epochN
  exact List.Sublist.countP_le (List.take_sublist _ _)

/-- The handles that were issued and are not among the others. -/
def memF (R : ByteArray → Bool) (l : List En) : List ByteArray := (l.filter fun e => e.kind == 0 && !R e.handle).map (·.handle)
def memH (l : List En) : List ByteArray := memF (hasB l 1) l
/-- What Members returns. -/
def memS (l : List En) (p : Int) : List ByteArray × Int := if p < 0 ∨ (epochN l : Int) < p then ([], 2) else (memH (l.take (endN l p.toNat)), 0)
theorem memF_snoc {R : ByteArray → Bool} {l : List En} {k : Nat} {e : En} (h : l[k]? = some e) : memF R (l.take (k + 1)) = memF R (l.take k) ++ (if e.kind = 0 ∧ R e.handle = false then [e.handle] else []) := by
  unfold memF
  rw [take_snoc h, List.filter_append, List.map_append]
  congr 1
  by_cases h1 : e.kind = 0 <;> cases h2 : R e.handle <;> simp [List.filter_cons, h1, h2]
theorem memF_le (R : ByteArray → Bool) (l : List En) : (memF R l).length ≤ l.length := by
  unfold memF; rw [List.length_map]; exact List.length_filter_le _ _

/-- The first loop's relation. -/
def EndRel (l : List En) (len P : Nat) (end' n : Value) : Prop := ∃ k c : Nat, k ≤ len ∧ end' = .int .i64 k ∧ n = .int .i64 c ∧ epochN (l.take k) = c ∧ c ≤ P ∧ k + endN (l.drop k) (P - c) = endN l P

set_option maxRecDepth 100000 in
set_option maxHeartbeats 2000000 in
theorem led_Members_neg (A : Option Addr) (len cap : Nat) (p : Int) (hp : p < 0) (w : World) :
    Calls Try.prog 12 #[.slice A len cap, .int .i64 p] w (RetNs [] .i64 2 w) := by
  go_enter Try.func12, Try.ntmps12
  go_wp2
  go_ret2
  exact ⟨none, 0, rfl, SlN.nil _ _ (by omega) _, Below.refl _ _⟩

/-- The second loop's relation. -/
def MemRel (R : ByteArray → Bool) (t : List En) (B : Nat) (W : World) (out i : Value) (wr : World) : Prop :=
  ∃ (j m : Nat), j ≤ t.length ∧ m ≤ j ∧ i = .int .i64 j ∧ wr.ownsRow B 22 1 out m ((memF R (t.take j)).map Value.string) ∧ Below B W wr

set_option maxRecDepth 100000 in
set_option maxHeartbeats 4000000 in
theorem led_Members_pos (l : List En) (A : Option Addr) (len cap : Nat) (P : Nat) (w : World) (hs : SlE w A len cap l) (hlb : len ≤ 1000000000) (hsz : SzE l) (hP : P ≤ 9223372036854775807) (r : List ByteArray × Int) (hr : memS l P = r) :
    Calls Try.prog 12 #[.slice A len cap, .int .i64 P] w (RetNs r.1 .i64 r.2 w) := by
  have hlen := hs.1
  have hlc := hs.2.1
  have HS := Lib.hid hs
  have HLEN := Lib.hid hlen
  have HR := Lib.hid hr
  have HSZ := Lib.hid hsz
  have hP0 : ¬ ((P : Int) < 0) := by omega
  clear hs hlen hr hsz
  go_enter Try.func12, Try.ntmps12
  go_wp2
  go_loop [6, 7] (fun e n => EndRel l len P e n) (fun e _ => len - (intOf e).toNat)
  case atStart => exact ⟨0, 0, Nat.zero_le _, rfl, rfl, rfl, Nat.zero_le _, by simp⟩
  case round =>
    obtain ⟨k, c, hk, rfl, rfl, hc, hcP, hi⟩ := hrel
    have HC := Lib.hid hc
    have HI := Lib.hid hi
    clear hc hi
    by_cases hlt : c < P
    · by_cases hkl : k < len
      · obtain ⟨b, o, rfl⟩ := HS.out.head (by omega)
        obtain ⟨e, he⟩ : ∃ e, l[k]? = some e := ⟨_, List.getElem?_eq_getElem (by rw [HLEN.out]; exact hkl)⟩
        obtain ⟨c0, c1, c2, c3⟩ := HS.out.get? k he
        have hne : ((k : Int) == (len : Int)) = false := neI (by omega)
        have HE := Lib.hid he
        clear he
        by_cases h2 : e.kind = 2
        · have e2 := eqI h2
          have H2 := Lib.hid h2
          clear h2
          go_wp2
          go_round
          case rel =>
            have h1 := epochN_snoc HE.out
            have h3 := endN_step HE.out hlt HI.out
            rw [if_pos H2.out] at h1 h3
            exact ⟨k + 1, c + 1, by omega, by go_num, by go_num, by rw [h1, HC.out], by omega, h3⟩
          case measure => simp [intOf]; omega
        · have e2 := neI h2
          have H2 := Lib.hid h2
          clear h2
          go_wp2
          go_round
          case rel =>
            have h1 := epochN_snoc HE.out
            have h3 := endN_step HE.out hlt HI.out
            rw [if_neg H2.out] at h1 h3
            exact ⟨k + 1, c, by omega, by go_num, rfl, by rw [h1, HC.out, Nat.add_zero], by omega, h3⟩
          case measure => simp [intOf]; omega
      · obtain rfl : k = len := by omega
        have hne : ((k : Int) == (k : Int)) = true := eqI rfl
        have hr := HR.out
        unfold memS at hr
        have hcc := HC.out
        rw [List.take_of_length_le (by have := HLEN.out; omega)] at hcc
        rw [if_pos (.inr (by omega))] at hr
        clear hcc
        have HR2 := Lib.hid hr
        clear hr
        go_wp2
        go_ret2
        rw [← HR2.out]
        exact ⟨none, 0, rfl, SlN.nil _ _ (by omega) _, Below.refl _ _⟩
    · obtain rfl : c = P := by omega
      have hi := HI.out
      rw [Nat.sub_self, endN_zero, Nat.add_zero] at hi
      have hcc := HC.out
      have hle := epochN_take_le l k
      have hr := HR.out
      unfold memS at hr
      rw [if_neg (by omega), Int.toNat_natCast, ← hi] at hr
      have HR2 := Lib.hid hr
      have hst := HS.out.take k hk
      have hszt : SzE (l.take k) := fun j e he => HSZ.out j e (by rw [List.getElem?_take] at he; split at he; exact he; cases he)
      obtain ⟨t, ht⟩ : ∃ t, l.take k = t := ⟨_, rfl⟩
      rw [ht] at hst hszt
      have HT := Lib.hid ht
      have HST := Lib.hid hst
      have HSZT := Lib.hid hszt
      have hkc : k ≤ cap := by omega
      clear hi hcc hle hr hst hszt HI HC HR HS HSZ ht
      go_wp2_with fail
      refine (led_stateOf t A k cap _ HST.out (by omega) HSZT.out).mono ?_
      rintro e1 w1 ⟨sb, bi, br, rfl, hst1, hB1, hB2, hB3, hb1⟩
      obtain ⟨s0, s1, s2, s3⟩ := four_cells hst1.1
      have HSET := Lib.hid hst1.2.2.1
      have HB1 := Lib.hid hb1
      clear hst1 hB1 hB2 hB3 hb1
      go_wp2
      clear s0 s1 s2 s3
      go_loopw [9, 44] (fun out i wr => MemRel (hasB t 1) t w1.heap.size w1 out i wr) (fun _ i _ => k - (intOf i).toNat)
      case atStart => exact ⟨0, 0, Nat.zero_le _, Nat.le_refl _, rfl, World.ownsRow_nil _ _ _ _, Below.refl _ _⟩
      case round =>
        obtain ⟨j, m, hj, hm, rfl, hown, hB⟩ := hrel
        have htl : t.length = k := HST.out.1
        rw [htl] at hj
        have HTL := Lib.hid htl
        clear htl
        have HOWN := Lib.hid hown
        have HB := Lib.hid hB
        clear hown hB
        by_cases hjk : j < k
        · obtain ⟨b, o, rfl⟩ := HST.out.head (by omega)
          obtain ⟨e, he⟩ : ∃ e, t[j]? = some e := ⟨_, List.getElem?_eq_getElem (by rw [HTL.out]; exact hjk)⟩
          obtain ⟨c0, c1, c2, c3⟩ := ((HST.out.kept HB1.out (Nat.le_refl _)).kept HB.out (Nat.le_refl _)).get? j he
          have hh : e.handle.size ≤ maxLen := HSZT.out j e he
          have hl := SetM.look ((HSET.out.kept HB.out (Nat.le_refl _)).kept ((Below.refl wr.heap.size wr).alloc (Nat.le_refl _) (.cells #[.int .i64 e.kind, .string e.handle, .string e.schema, .int .i64 e.epoch] 24)) (Nat.le_refl _)) hh
          have HE := Lib.hid he
          have HH := Lib.hid hh
          clear he hh
          have hms := memF_snoc (R := hasB t 1) HE.out
          obtain ⟨g, hg⟩ : ∃ g, hasB t 1 e.handle = g := ⟨_, rfl⟩
          rw [hg] at hl hms
          by_cases h0 : e.kind = 0
          · have e0 := eqI h0
            cases g with
            | true =>
              rw [if_neg (by simp), List.append_nil] at hms
              have HMS := Lib.hid hms
              clear h0 hms hg
              go_wp2
              go_roundw
              case rel => exact ⟨j + 1, m, by rw [HTL.out]; omega, by omega, by go_num, by rw [HMS.out]; exact (HOWN.out.alloc _).alloc _, (HB.out.alloc HB.out.size _).alloc (by have := HB.out.size; simp; omega) _⟩
              case measure => simp [intOf]; omega
            | false =>
              rw [if_pos ⟨h0, rfl⟩] at hms
              have HMS := Lib.hid hms
              clear h0 hms hg
              obtain ⟨i0, hi, iz0, iz1, iz2⟩ := info_parts nat_info
              go_wp2_with (at_builtin; refine (wpList_append_lies _ rfl (.tmp 62) (.tmp 65) 38 rfl w1.heap.size 22 i0 _ 1 16 Try.underlying38 hi iz0 iz1 iz2 rfl (by decide) _ m ((memF (hasB t 1) (t.take j)).map Value.string) rfl ?n0 ⟨wr.heap.size + 1 + 1, 0, none⟩ 1 1 [.string e.handle] rfl rfl ?n1 ?n2 (by decide) ?n3 ?n4 ?n5 _ rfl ?_))
              case n0 => exact ((HOWN.out.alloc _).alloc _).alloc _
              case n1 => rw [show wr.heap.size + 1 + 1 = ((wr.alloc (.cells #[.int .i64 e.kind, .string e.handle, .string e.schema, .int .i64 e.epoch] 24)).alloc (.cells #[] 74)).heap.size from by simp]; exact World.news_of_block (heap_alloc_new _ _)
              case n2 => intro u hu; simp only [List.mem_cons, List.mem_nil_iff, or_false] at hu; subst hu; rfl
              case n3 => unfold maxLen; omega
              case n4 => omega
              case n5 => have := HB.out.size; simp; omega
              intro g' cap7 w7 hown7 hgrow7 hat7 hlt7
              have hlt6 := HOWN.out.lt
              have HB7 := Lib.hid ((((HB.out.alloc HB.out.size (.cells #[.int .i64 e.kind, .string e.handle, .string e.schema, .int .i64 e.epoch] 24)).alloc (by have := HB.out.size; simp; omega) (.cells #[] 74)).alloc (by have := HB.out.size; simp; omega) _).grown hgrow7 (by have := HB.out.size; simp; omega) (fun k e => (hlt6 k e).1))
              have HOWN7 := Lib.hid hown7
              clear hown7 hgrow7 hat7 hlt7 hlt6
              go_wp2
              go_roundw
              case rel => exact ⟨j + 1, m + 1, by rw [HTL.out]; omega, by omega, by go_num, by rw [HMS.out, List.map_append]; exact HOWN7.out, HB7.out⟩
              case measure => simp [intOf]; omega
          · have e0 := neI h0
            rw [if_neg (by simp [h0]), List.append_nil] at hms
            have HMS := Lib.hid hms
            clear h0 hms hg
            go_wp2
            go_roundw
            case rel => exact ⟨j + 1, m, by rw [HTL.out]; omega, by omega, by go_num, by rw [HMS.out]; exact (HOWN.out.alloc _).alloc _, (HB.out.alloc HB.out.size _).alloc (by have := HB.out.size; simp; omega) _⟩
            case measure => simp [intOf]; omega
        · obtain rfl : j = k := by omega
          have hown := HOWN.out
          rw [List.take_of_length_le (by have := HTL.out; omega)] at hown
          have HOWN2 := Lib.hid hown
          clear hown
          go_wp2
          go_ret2
          rw [← HR2.out, HT.out]
          exact RetNs.mk' HOWN2.out (HB1.out.trans (HB.out.mono HB1.out.size))
end Go.Proofs.Ythidhgniondkgaa

/- Walk: slices.DeleteFunc at an owned list of numbers, with the predicate of LedgerGrows. -/
import Derived.Test.YthidhgniondkgaaGrwA
set_option linter.unusedVariables false
set_option linter.unusedSimpArgs false
namespace Go.Proofs.Ythidhgniondkgaa
open Go.RowKit

/-- The list without a number. -/
def keepF (h : ByteArray) (l : List ByteArray) : List ByteArray := l.filter fun s => !decide (s = h)
theorem keepF_none {h : ByteArray} {l : List ByteArray} (hno : ∀ (j : Nat) (s : ByteArray), l[j]? = some s → s ≠ h) : keepF h l = l := by
  unfold keepF
  rw [List.filter_eq_self]
  intro s hs
  obtain ⟨j, hj⟩ := List.mem_iff_getElem?.1 hs
  simp [hno j s hj]
theorem keepF_snoc {h : ByteArray} {l : List ByteArray} {j : Nat} {s : ByteArray} (hj : l[j]? = some s) : keepF h (l.take (j + 1)) = keepF h (l.take j) ++ (if s = h then [] else [s]) := by
  unfold keepF
  rw [take_snoc hj, List.filter_append]
  congr 1
  by_cases e : s = h <;> simp [List.filter_cons, e]
/-- The first place of a number, or none. -/
theorem first_of (h : ByteArray) (l : List ByteArray) : (∀ (j : Nat) (s : ByteArray), l[j]? = some s → s ≠ h) ∨ ∃ k : Nat, l[k]? = some h ∧ ∀ (j : Nat) (s : ByteArray), j < k → l[j]? = some s → s ≠ h := by
  induction l with
  | nil => exact .inl fun j s hj => by simp at hj
  | cons x l ih =>
    by_cases e : x = h
    · exact .inr ⟨0, by simp [e], fun j s hj => by omega⟩
    · rcases ih with ih | ⟨k, hk, ih⟩
      · refine .inl fun j s hj => ?_
        cases j with
        | zero => simp at hj; rw [← hj]; exact e
        | succ j => exact ih j s (by simpa using hj)
      · refine .inr ⟨k + 1, by simpa using hk, fun j s hjk hj => ?_⟩
        cases j with
        | zero => simp at hj; rw [← hj]; exact e
        | succ j => exact ih j s (by omega) (by simpa using hj)

/-- The head of a round of DeleteFunc. -/
def DelRel (l : List ByteArray) (h : ByteArray) (g len cap B : Nat) (w : World) (i' j' : Value) (wr : World) : Prop :=
  ∃ (j : Nat) (D : List ByteArray) (cur : Array Value), j ≤ len ∧ j' = .int .i64 j ∧ i' = .int .i64 D.length ∧ D = keepF h (l.take j) ∧ D.length < j ∧ wr.heap[g]? = some (.cells cur 22 (0, 0)) ∧ cur.size = cap ∧
    (∀ (m : Nat) (s : ByteArray), D[m]? = some s → cur[m]? = some (Value.string s)) ∧ (∀ (m : Nat) (s : ByteArray), j ≤ m → l[m]? = some s → cur[m]? = some (Value.string s)) ∧ Below B w wr

theorem del_keep {l : List ByteArray} {h s : ByteArray} {g len cap B j n : Nat} {w wr : World} {cur : Array Value} (hB : B ≤ g) (hj : j < len) (hlc : len ≤ cap) (hs : l[j]? = some s) (hne : s ≠ h) (hDl : (keepF h (l.take j)).length = n) (hn : n < j)
    (hcur : wr.heap[g]? = some (.cells cur 22 (0, 0))) (hsz : cur.size = cap) (hD : ∀ (m : Nat) (s : ByteArray), (keepF h (l.take j))[m]? = some s → cur[m]? = some (Value.string s)) (hR : ∀ (m : Nat) (s : ByteArray), j ≤ m → l[m]? = some s → cur[m]? = some (Value.string s)) (hb : Below B w wr) (i' j' : Value) (hi' : i' = .int .i64 ((n + 1 : Nat) : Int)) (hj' : j' = .int .i64 ((j + 1 : Nat) : Int)) :
    DelRel l h g len cap B w i' j' (wr.setCell ⟨g, n, none⟩ (.string s)) := by
  have hk := keepF_snoc (h := h) hs
  rw [if_neg hne] at hk
  refine ⟨j + 1, keepF h (l.take (j + 1)), cur.setIfInBounds n (.string s), hj, hj', by rw [hi', hk, List.length_append, hDl]; rfl, rfl, by rw [hk, List.length_append, hDl]; simp; omega, block_setCell hcur _, by rw [Array.size_setIfInBounds, hsz], fun m u hm => ?_, fun m u hm hu => ?_, hb.setCell (p := ⟨g, n, none⟩) hB _⟩
  · rw [hk] at hm
    rw [Array.getElem?_setIfInBounds]
    by_cases e : n = m
    · subst e
      rw [if_pos rfl, if_pos (by omega)]
      rw [List.getElem?_append_right (by omega), hDl, Nat.sub_self] at hm
      simp only [List.getElem?_cons_zero, Option.some.injEq] at hm
      rw [hm]
    · rw [if_neg e]
      have hlt := (List.getElem?_eq_some_iff.1 hm).1
      rw [List.length_append, hDl, List.length_singleton] at hlt
      rw [List.getElem?_append_left (by omega)] at hm
      exact hD m u hm
  · rw [Array.getElem?_setIfInBounds, if_neg (by omega)]
    exact hR m u (by omega) hu

/-- The block behind the clearing. -/
theorem setCells_block {T : TypeId} {fr : Nat × Nat} (g : Nat) : ∀ (vs : List Value) (o : Nat) (w : World) (cur : Array Value), w.heap[g]? = some (.cells cur T fr) → ∃ cur', (w.setCells g o vs).heap[g]? = some (.cells cur' T fr) ∧ cur'.size = cur.size ∧ ∀ m, m < o → cur'[m]? = cur[m]?
  | [], o, w, cur, h => ⟨cur, h, rfl, fun _ _ => rfl⟩
  | v :: vs, o, w, cur, h => by
    obtain ⟨cur', h1, h2, h3⟩ := setCells_block g vs (o + 1) (w.setCell ⟨g, o, none⟩ v) _ (block_setCell h v)
    refine ⟨cur', h1, by rw [h2, Array.size_setIfInBounds], fun m hm => ?_⟩
    rw [h3 m (by omega), Array.getElem?_setIfInBounds, if_neg (by omega)]
theorem below_setCells' {B g : Nat} {a : World} (hb : B ≤ g) : ∀ (vs : List Value) (o : Nat) (w : World), Below B a w → Below B a (w.setCells g o vs)
  | [], _, _, h => h
  | v :: vs, o, w, h => below_setCells' hb vs (o + 1) _ (h.setCell (p := ⟨g, o, none⟩) hb v)
/-- What is owned behind it. -/
theorem del_owns {w : World} {B g n cap : Nat} {cur : Array Value} {D : List ByteArray} (hB : B ≤ g) (hcur : w.heap[g]? = some (.cells cur 22 (0, 0))) (hsz : cur.size = cap) (hn : D.length = n) (hnc : n ≤ cap) (hcap : cap ≤ maxLen) (hD : ∀ (m : Nat) (s : ByteArray), D[m]? = some s → cur[m]? = some (Value.string s)) :
    w.ownsRow B 22 1 (.slice (some ⟨g, 0, none⟩) n cap) n (D.map Value.string) := by
  refine ⟨by rw [List.length_map, hn, Nat.mul_one], .inr ⟨g, cap, cur, rfl, hB, hcur, hnc, hcap, by rw [hsz, Nat.mul_one], ?_⟩⟩
  rw [Nat.mul_one]
  apply List.ext_getElem?
  intro m
  rw [List.getElem?_take, List.getElem?_map]
  by_cases hm : m < n
  · rw [if_pos hm]
    obtain ⟨s, hs⟩ : ∃ s, D[m]? = some s := ⟨_, List.getElem?_eq_getElem (by omega)⟩
    rw [hs, Array.getElem?_toList]
    exact hD m s hs
  · rw [if_neg hm, List.getElem?_eq_none (by omega)]
    rfl

/-- What DeleteFunc returns. -/
def RetDel (B : Nat) (l : List ByteArray) (w : World) (e : Ending) (w' : World) : Prop := ∃ A n cap, e = .returned (.slice A n cap) ∧ l.length = n ∧ w'.ownsRow B 22 1 (.slice A n cap) n (l.map Value.string) ∧ Below B w w'

set_option maxRecDepth 100000 in
set_option maxHeartbeats 2000000 in
theorem del_none (l : List ByteArray) (A : Option Addr) (len cap : Nat) (h : ByteArray) (b B : Nat) (w : World) (hown : w.ownsRow B 22 1 (.slice A len cap) len (l.map Value.string)) (hc : w.cell? ⟨b, 1, none⟩ = some (.string h)) (hno : ∀ (j : Nat) (s : ByteArray), l[j]? = some s → s ≠ h) :
    Calls Try.prog 17 #[.slice A len cap, dropV b] w (RetDel B (keepF h l) w) := by
  rw [keepF_none hno]
  obtain ⟨hl, A', cap', hv, hs⟩ := SlN.of_owns hown
  simp only [Value.slice.injEq, true_and] at hv
  obtain ⟨rfl, rfl⟩ := hv
  have HS := Lib.hid hs
  have HC := Lib.hid hc
  have HNO := Lib.hid hno
  have HOWN := Lib.hid hown
  have HL := Lib.hid hl
  clear hs hc hno hown hl
  go_enter Try.func17, Try.ntmps17
  go_wp2_with fail
  refine (idx_none l A len cap h b _ HS.out HC.out HNO.out).mono ?_
  rintro e w1 ⟨rfl, rfl⟩
  go_wp2
  go_ret
  exact ⟨_, _, _, rfl, HL.out, HOWN.out, Below.refl _ _⟩

set_option maxRecDepth 100000 in
set_option maxHeartbeats 4000000 in
theorem del_some (l : List ByteArray) (A : Option Addr) (len cap : Nat) (h : ByteArray) (b B k0 : Nat) (w : World) (hown : w.ownsRow B 22 1 (.slice A len cap) len (l.map Value.string)) (hbB : b < B) (hBw : B ≤ w.heap.size) (hc : w.cell? ⟨b, 1, none⟩ = some (.string h)) (h0 : l[k0]? = some h) (hno : ∀ (j : Nat) (s : ByteArray), j < k0 → l[j]? = some s → s ≠ h) :
    Calls Try.prog 17 #[.slice A len cap, dropV b] w (RetDel B (keepF h l) w) := by
  obtain ⟨hl, A', cap', hv, hs⟩ := SlN.of_owns hown
  simp only [Value.slice.injEq, true_and] at hv
  obtain ⟨rfl, rfl⟩ := hv
  have hk0 := (List.getElem?_eq_some_iff.1 h0).1
  rw [hl] at hk0
  have hst : ∃ g cur, A = some ⟨g, 0, none⟩ ∧ B ≤ g ∧ w.heap[g]? = some (.cells cur 22 (0, 0)) ∧ len ≤ cap ∧ cap ≤ maxLen ∧ cur.size = cap ∧ ∀ (m : Nat) (s : ByteArray), l[m]? = some s → cur[m]? = some (Value.string s) := by
    rcases hown.2 with ⟨_, h0⟩ | ⟨g, cap', cur, hv, hb, hh, hc', hm, hz, ht⟩
    · omega
    · simp only [Value.slice.injEq, true_and] at hv
      obtain ⟨rfl, rfl⟩ := hv
      rw [Nat.mul_one] at hz ht
      refine ⟨g, cur, rfl, hb, hh, hc', hm, hz, fun m s hms => ?_⟩
      have h1 : (l.map Value.string)[m]? = some (.string s) := by rw [List.getElem?_map, hms]; rfl
      rw [← ht, List.getElem?_take] at h1
      split at h1
      · rw [Array.getElem?_toList] at h1; exact h1
      · cases h1
  obtain ⟨g, cur0, rfl, hgB, hcur0, hlc, hcap, hcz0, hall⟩ := hst
  have hcap' : cap ≤ 9223372036854775807 := by unfold maxLen at hcap; exact hcap
  have HS := Lib.hid hs
  have HC := Lib.hid hc
  have HNO := Lib.hid hno
  have H0 := Lib.hid h0
  have HL := Lib.hid hl
  have HCUR0 := Lib.hid hcur0
  have HALL := Lib.hid hall
  have HZ0 := Lib.hid hcz0
  have hmax := hcap
  have HMAX := Lib.hid hmax
  clear hs hc hno h0 hl hown hcur0 hall hcz0 hcap hmax
  go_enter Try.func17, Try.ntmps17
  go_wp2_with fail
  refine (idx_some l _ len cap h b k0 _ HS.out HC.out H0.out HNO.out).mono ?_
  rintro e w1 ⟨rfl, rfl⟩
  have hne : ((k0 : Int) == -1) = false := neI (by omega)
  go_wp2
  go_loopw [5, 6] (fun i j wr => DelRel l h g len cap B w i j wr) (fun _ j _ => len - (intOf j).toNat)
  case atStart =>
    have hk := keepF_snoc (h := h) H0.out
    have hk0l : keepF h (l.take k0) = l.take k0 := keepF_none (fun j s hj => HNO.out j s (by have := (List.getElem?_eq_some_iff.1 hj).1; rw [List.length_take] at this; omega) (by rw [List.getElem?_take] at hj; split at hj; exact hj; cases hj))
    rw [if_pos rfl, List.append_nil, hk0l] at hk
    have hlen : (l.take k0).length = k0 := by rw [List.length_take]; have := HL.out; omega
    refine ⟨k0 + 1, keepF h (l.take (k0 + 1)), cur0, by omega, by go_num, by rw [hk, hlen], rfl, by rw [hk, hlen]; omega, HCUR0.out, HZ0.out, fun m s hm => ?_, fun m s _ hm => HALL.out m s hm, Below.refl _ _⟩
    rw [hk, List.getElem?_take] at hm
    split at hm
    · exact HALL.out m s hm
    · cases hm
  case round =>
    obtain ⟨j, D, cur, hj, rfl, rfl, hD, hDj, hcur, hcz, hDc, hRc, hB⟩ := hrel
    obtain ⟨n, hn⟩ : ∃ n, D.length = n := ⟨_, rfl⟩
    rw [hn] at hDj ⊢
    have HD := Lib.hid hD
    have HN := Lib.hid hn
    have HCUR := Lib.hid hcur
    have HCZ := Lib.hid hcz
    have HDC := Lib.hid hDc
    have HRC := Lib.hid hRc
    have HB := Lib.hid hB
    have hgsz : g < wr.heap.size := block_lt hcur
    clear hD hn hcur hcz hDc hRc hB
    by_cases hlt : j < len
    · obtain ⟨s, he⟩ : ∃ s, l[j]? = some s := ⟨_, List.getElem?_eq_getElem (by have := HL.out; omega)⟩
      have c0 : wr.cell? ⟨g, j, none⟩ = some (.string s) := by rw [Lib.cell_of_heap HCUR.out]; exact HRC.out j s (Nat.le_refl _) he
      have hcb : wr.cell? ⟨b, 1, none⟩ = some (.string h) := by rw [HB.out.cell (p := ⟨b, 1, none⟩) hbB]; exact HC.out
      have HCB := Lib.hid hcb
      have HE := Lib.hid he
      clear he hcb
      by_cases hsh : s = h
      · have HG := Lib.hid (decide_eq_true hsh)
        have HSH := Lib.hid hsh
        clear hsh
        go_wp2_with fail
        refine (drop_any s h b true _ HCB.out HG.out).mono ?_
        rintro e w1 ⟨rfl, rfl⟩
        go_wp2
        go_roundw
        case rel =>
          have hk := keepF_snoc (h := h) HE.out
          rw [if_pos HSH.out, List.append_nil, ← HD.out] at hk
          exact ⟨j + 1, D, cur, by omega, by go_num, by rw [HN.out], hk.symm, by rw [HN.out]; omega, HCUR.out, HCZ.out, HDC.out, fun m s hm hs => HRC.out m s (by omega) hs, HB.out⟩
        case measure => simp [intOf]; omega
      · have HG := Lib.hid (decide_eq_false hsh)
        have HSH := Lib.hid hsh
        clear hsh
        have i1 : n < len := by omega
        have f0 : wr.frozen? ⟨g, n, none⟩ = false := Lib.frozen_of_heap HCUR.out n
        have hcn : ∃ u, wr.cell? ⟨g, n, none⟩ = some u := ⟨_, by rw [Lib.cell_of_heap HCUR.out]; exact Array.getElem?_eq_getElem (by have := HCZ.out; omega)⟩
        obtain ⟨u, cn⟩ := hcn
        go_wp2_with fail
        refine (drop_any s h b false _ HCB.out HG.out).mono ?_
        rintro e w1 ⟨rfl, rfl⟩
        have hfin := fun i' j' hi' hj' => del_keep (l := l) (h := h) (s := s) (g := g) (len := len) (cap := cap) (B := B) (j := j) (n := n) (w := w) (wr := wr) (cur := cur) hgB hlt hlc HE.out HSH.out (by rw [← HD.out, HN.out]) hDj HCUR.out HCZ.out (by rw [← HD.out]; exact HDC.out) HRC.out HB.out i' j' hi' hj'
        have HFIN := Lib.hid hfin
        clear hfin
        go_wp2
        go_roundw
        case rel => exact HFIN.out _ _ (by go_num) (by go_num)
        case measure => simp [intOf]; omega
    · obtain rfl : j = len := by omega
      have i1 : n < j := hDj
      have hcl := fun ty => Lib.run_clear_slice (P := Try.prog) wr 38 22 ty (.string ⟨#[]⟩) Try.underlying38 (fun w => by kernel_rfl) rfl rfl g n (j - n) (cap - n) (by omega) (fun m hm => by rw [Lib.cell_of_heap HCUR.out]; rw [Array.getElem?_eq_getElem (by have := HCZ.out; omega)]; rfl) (fun m _ => Lib.frozen_of_heap HCUR.out _)
      obtain ⟨wf, hwf⟩ : ∃ wf, wr.setCells g n (List.replicate (j - n) (.string ⟨#[]⟩)) = wf := ⟨_, rfl⟩
      simp only [hwf] at hcl
      obtain ⟨cur', h1, h2, h3⟩ := setCells_block g (List.replicate (j - n) (.string ⟨#[]⟩)) n wr cur HCUR.out
      have hbf := below_setCells' hgB (List.replicate (j - n) (.string ⟨#[]⟩)) n wr HB.out
      rw [hwf] at h1 hbf
      have hfin := del_owns (D := D) (n := n) (cap := cap) hgB h1 (h2.trans HCZ.out) HN.out (by omega) HMAX.out (fun m s hm => by rw [h3 m (by have := (List.getElem?_eq_some_iff.1 hm).1; have := HN.out; omega)]; exact HDC.out m s hm)
      have hDl : D = keepF h l := by rw [HD.out, List.take_of_length_le (by have := HL.out; omega)]
      rw [hDl] at hfin
      have HFIN := Lib.hid hfin
      have HBF := Lib.hid hbf
      have HNL := Lib.hid (show (keepF h l).length = n from by rw [← hDl]; exact HN.out)
      clear hfin hbf h1 h2 h3 hwf hDl
      have i2 : ¬ (cap = n) := by omega
      go_wp2
      go_ret
      exact ⟨_, _, _, rfl, HNL.out, HFIN.out, HBF.out⟩

theorem del_any (l : List ByteArray) (A : Option Addr) (len cap : Nat) (h : ByteArray) (b B : Nat) (w : World) (hown : w.ownsRow B 22 1 (.slice A len cap) len (l.map Value.string)) (hbB : b < B) (hBw : B ≤ w.heap.size) (hc : w.cell? ⟨b, 1, none⟩ = some (.string h)) :
    Calls Try.prog 17 #[.slice A len cap, dropV b] w (RetDel B (keepF h l) w) := by
  rcases first_of h l with hno | ⟨k, hk, hno⟩
  · exact del_none l A len cap h b B w hown hc hno
  · exact del_some l A len cap h b B k w hown hbB hBw hc hk hno
end Go.Proofs.Ythidhgniondkgaa

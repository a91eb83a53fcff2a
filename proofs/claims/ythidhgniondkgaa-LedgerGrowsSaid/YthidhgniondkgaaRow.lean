/- Rows of entries and of numbers as values: what an owned row reads as. -/
import Derived.Test.YthidhgniondkgaaEnt
import Derived.Test.YthidhgniondkgaaEncA
set_option linter.unusedVariables false
set_option linter.unusedSimpArgs false
namespace Go.Proofs.Ythidhgniondkgaa
open Go.RowKit

theorem addr_add (b o j : Nat) : (⟨b, o, none⟩ : Addr).add j = ⟨b, o + j, none⟩ := by unfold Addr.add; split <;> simp_all

/-- An entry's cells. -/
def En.cells (e : En) : List Value := [.int .i64 e.kind, .string e.handle, .string e.schema, .int .i64 e.epoch]
def enVals : List En → List Value
  | [] => []
  | e :: l => e.cells ++ enVals l
theorem enVals_append (l m : List En) : enVals (l ++ m) = enVals l ++ enVals m := by
  induction l with
  | nil => rfl
  | cons e l ih => simp [enVals, ih]
theorem enVals_length (l : List En) : (enVals l).length = l.length * 4 := by
  induction l with
  | nil => rfl
  | cons e l ih => simp only [enVals, List.length_append, ih, List.length_cons, En.cells, List.length_nil]; omega
theorem enVals_get : ∀ (l : List En) (k r : Nat) (e : En), l[k]? = some e → r < 4 → (enVals l)[k * 4 + r]? = e.cells[r]?
  | [], k, r, e, h, _ => by simp at h
  | x :: l, 0, r, e, h, hr => by
    simp only [List.getElem?_cons_zero, Option.some.injEq] at h
    subst h
    rw [enVals, Nat.zero_mul, Nat.zero_add, List.getElem?_append_left (by simp [En.cells]; omega)]
  | x :: l, k + 1, r, e, h, hr => by
    rw [List.getElem?_cons_succ] at h
    have := enVals_get l k r e h hr
    rw [enVals, List.getElem?_append_right (by simp [En.cells]; omega)]
    rw [← this]
    congr 1
    simp only [En.cells, List.length_cons, List.length_nil]; omega
theorem enVals_one (l : List En) : ∀ u ∈ enVals l, u.oneCell' = true := by
  induction l with
  | nil => intro u h; cases h
  | cons e l ih =>
    intro u h
    rcases List.mem_append.1 h with h | h
    · simp only [En.cells, List.mem_cons, List.mem_nil_iff, or_false] at h
      rcases h with rfl | rfl | rfl | rfl <;> rfl
    · exact ih u h

/-- The cells of a slice of entries. -/
theorem SlE.cells {w : World} {ad : Addr} {len cap : Nat} {l : List En} (h : SlE w (some ad) len cap l) : ∀ j u, (enVals l)[j]? = some u → w.cell? (ad.add j) = some u := by
  intro j u hj
  have hlt := (List.getElem?_eq_some_iff.1 hj).1
  rw [enVals_length] at hlt
  obtain ⟨b, o, e⟩ := h.head (by have := h.1; omega)
  cases e
  obtain ⟨e, he⟩ : ∃ e, l[j / 4]? = some e := ⟨_, List.getElem?_eq_getElem (by omega)⟩
  have hc := h.get? _ he
  have hg := enVals_get l (j / 4) (j % 4) e he (by omega)
  rw [show j / 4 * 4 + j % 4 = j from by omega, hj] at hg
  rw [addr_add, show o + j = o + j / 4 * 4 + j % 4 from by omega]
  have h4 : j % 4 < 4 := by omega
  revert hg
  generalize j % 4 = r at h4
  match r, h4 with
  | 0, _ => intro hg; rw [hg]; exact hc.1
  | 1, _ => intro hg; rw [hg]; exact hc.2.1
  | 2, _ => intro hg; rw [hg]; exact hc.2.2.1
  | 3, _ => intro hg; rw [hg]; exact hc.2.2.2
/-- What is owned reads as a slice of entries. -/
theorem SlE.of_owns {w : World} {base : Nat} {T : TypeId} {v : Value} {n : Nat} {l : List En} (h : w.ownsRow base T 4 v n (enVals l)) : l.length = n ∧ ∃ A cap, v = .slice A n cap ∧ SlE w A n cap l := by
  have hl := h.1
  rw [enVals_length] at hl
  have hln : l.length = n := by omega
  refine ⟨hln, ?_⟩
  rcases h.2 with ⟨hv, h0⟩ | ⟨g, cap, cur, hv, hb, hh, hc, hm, hs, ht⟩
  · subst h0
    have : l = [] := List.length_eq_zero_iff.1 hln
    subst this
    exact ⟨none, 0, hv, rfl, Nat.le_refl _, by omega, 0, 0, fun h => by omega, fun k e h => by simp at h⟩
  · refine ⟨_, cap, hv, hln, hc, by unfold maxLen at hm; exact hm, g, 0, fun _ => rfl, fun k e he => ?_⟩
    have hcell := h.cells (g := g) (by rw [hv]; rfl)
    have hx : ∀ r, r < 4 → ∀ u, e.cells[r]? = some u → w.cell? ⟨g, 0 + k * 4 + r, none⟩ = some u := fun r hr u hu => by
      have := hcell (k * 4 + r) u (by rw [enVals_get l k r e he hr]; exact hu)
      rw [addr_add] at this
      rw [show 0 + k * 4 + r = 0 + (k * 4 + r) from by omega]
      exact this
    exact ⟨hx 0 (by omega) _ rfl, hx 1 (by omega) _ rfl, hx 2 (by omega) _ rfl, hx 3 (by omega) _ rfl⟩
theorem SlE.nil (w : World) (cap : Nat) (h : cap ≤ 9223372036854775807) (A : Option Addr) : SlE w A 0 cap [] := ⟨rfl, Nat.zero_le _, h, 0, 0, fun h => by omega, fun k e h => by simp at h⟩

/-- A slice of numbers (byte strings), as they lie in memory. -/
def SlN (w : World) (A : Option Addr) (len cap : Nat) (l : List ByteArray) : Prop :=
  l.length = len ∧ len ≤ cap ∧ cap ≤ 9223372036854775807 ∧ ∃ b o, (0 < len → A = some ⟨b, o, none⟩) ∧ ∀ k s, l[k]? = some s → w.cell? ⟨b, o + k, none⟩ = some (.string s)
theorem SlN.kept {B : Nat} {w w' : World} (hb : Below B w w') (hB : w.heap.size ≤ B) {A : Option Addr} {len cap : Nat} {l : List ByteArray} (h : SlN w A len cap l) : SlN w' A len cap l :=
  let ⟨h1, h2, h3, b, o, h4, h5⟩ := h
  ⟨h1, h2, h3, b, o, h4, fun k e hk => cell_kept hb hB (h5 k e hk)⟩
theorem SlN.head {w : World} {A : Option Addr} {len cap : Nat} {l : List ByteArray} (h : SlN w A len cap l) (h0 : 0 < len) : ∃ b o, A = some ⟨b, o, none⟩ :=
  let ⟨_, _, _, b, o, h4, _⟩ := h
  ⟨b, o, h4 h0⟩
theorem SlN.get? {w : World} {b o len cap : Nat} {l : List ByteArray} (h : SlN w (some ⟨b, o, none⟩) len cap l) (k : Nat) {s : ByteArray} (hk : l[k]? = some s) : w.cell? ⟨b, o + k, none⟩ = some (.string s) := by
  obtain ⟨h1, h2, h3, b', o', h4, h5⟩ := h
  have hl := (List.getElem?_eq_some_iff.1 hk).1
  have := h4 (by omega)
  simp only [Option.some.injEq, Addr.mk.injEq, and_true] at this
  obtain ⟨rfl, rfl⟩ := this
  exact h5 k s hk
theorem SlN.cells {w : World} {ad : Addr} {len cap : Nat} {l : List ByteArray} (h : SlN w (some ad) len cap l) : ∀ j u, (l.map Value.string)[j]? = some u → w.cell? (ad.add j) = some u := by
  intro j u hj
  rw [List.getElem?_map, Option.map_eq_some_iff] at hj
  obtain ⟨s, hs, rfl⟩ := hj
  have hlt := (List.getElem?_eq_some_iff.1 hs).1
  obtain ⟨b, o, e⟩ := h.head (by have := h.1; omega)
  cases e
  rw [addr_add]
  exact h.get? j hs
theorem SlN.of_owns {w : World} {base : Nat} {T : TypeId} {v : Value} {n : Nat} {l : List ByteArray} (h : w.ownsRow base T 1 v n (l.map Value.string)) : l.length = n ∧ ∃ A cap, v = .slice A n cap ∧ SlN w A n cap l := by
  have hl := h.1
  rw [List.length_map] at hl
  have hln : l.length = n := by omega
  refine ⟨hln, ?_⟩
  rcases h.2 with ⟨hv, h0⟩ | ⟨g, cap, cur, hv, hb, hh, hc, hm, hs, ht⟩
  · subst h0
    have : l = [] := List.length_eq_zero_iff.1 hln
    subst this
    exact ⟨none, 0, hv, rfl, Nat.le_refl _, by omega, 0, 0, fun h => by omega, fun k e h => by simp at h⟩
  · refine ⟨_, cap, hv, hln, hc, by unfold maxLen at hm; exact hm, g, 0, fun _ => rfl, fun k s hk => ?_⟩
    have hcell := h.cells (g := g) (by rw [hv]; rfl) k (.string s) (by rw [List.getElem?_map, hk]; rfl)
    rw [addr_add] at hcell
    exact hcell
theorem SlN.nil (w : World) (cap : Nat) (h : cap ≤ 9223372036854775807) (A : Option Addr) : SlN w A 0 cap [] := ⟨rfl, Nat.zero_le _, h, 0, 0, fun h => by omega, fun k e h => by simp at h⟩
theorem strs_one (l : List ByteArray) : ∀ u ∈ l.map Value.string, u.oneCell' = true := by
  intro u h
  obtain ⟨s, _, rfl⟩ := List.mem_map.1 h
  rfl

/-- The call returned a row of its own. -/
def RetRow (T : TypeId) (size n : Nat) (vs : List Value) (w : World) (e : Ending) (w' : World) : Prop := ∃ v, e = .returned v ∧ w'.ownsRow w.heap.size T size v n vs ∧ Below w.heap.size w w'
/-- The call returned a slice of entries and an error. -/
def RetEs (l : List En) (k : IntKind) (f : Int) (w : World) (e : Ending) (w' : World) : Prop := ∃ A cap, e = .returned (.tuple #[.slice A l.length cap, .int k f]) ∧ SlE w' A l.length cap l ∧ Below w.heap.size w w'
/-- The call returned a slice of numbers and an error. -/
def RetNs (l : List ByteArray) (k : IntKind) (f : Int) (w : World) (e : Ending) (w' : World) : Prop := ∃ A cap, e = .returned (.tuple #[.slice A l.length cap, .int k f]) ∧ SlN w' A l.length cap l ∧ Below w.heap.size w w'

theorem RetEs.mk' {w w' : World} {v : Value} {n B : Nat} {T : TypeId} {l : List En} {f : Int} (h : w'.ownsRow B T 4 v n (enVals l)) (hb : Below w.heap.size w w') : RetEs l .i64 f w (.returned (.tuple #[v, .int .i64 f])) w' := by
  obtain ⟨hl, A, cap, rfl, hs⟩ := SlE.of_owns h
  subst hl
  exact ⟨A, cap, rfl, hs, hb⟩
theorem RetNs.mk' {w w' : World} {v : Value} {n B : Nat} {T : TypeId} {l : List ByteArray} {f : Int} (h : w'.ownsRow B T 1 v n (l.map Value.string)) (hb : Below w.heap.size w w') : RetNs l .i64 f w (.returned (.tuple #[v, .int .i64 f])) w' := by
  obtain ⟨hl, A, cap, rfl, hs⟩ := SlN.of_owns h
  subst hl
  exact ⟨A, cap, rfl, hs, hb⟩
theorem enVals_snoc (l : List En) (e : En) : enVals l ++ e.cells = enVals (l ++ [e]) := by rw [enVals_append]; simp [enVals]

theorem en_info : (Try.prog.info? 24).map (fun i => (i.zero, i.size, i.bytes)) = some (some (.agg #[.int .i64 0, .string ⟨#[]⟩, .string ⟨#[]⟩, .int .i64 0]), 4, 48) := by kernel_rfl
theorem nat_info : (Try.prog.info? 22).map (fun i => (i.zero, i.size, i.bytes)) = some (some (.string ⟨#[]⟩), 1, 16) := by kernel_rfl

set_option maxRecDepth 100000 in
set_option maxHeartbeats 1000000 in
theorem cl_entries (l : List En) (A : Option Addr) (len cap : Nat) (w : World) (hs : SlE w A len cap l) (hlb : len ≤ 1000000000000) : Calls Try.prog 39 #[.slice A len cap] w (RetRow 24 4 len (enVals l) w) := by
  have hee := fun (w : World) (a : Option Addr) (n c : Nat) => Lib.run_eql_slice_nil (P := Try.prog) w 33 24 a n c 0 0 Try.underlying33
  cases A with
  | none =>
    have h0 : len = 0 := by
      rcases Nat.eq_zero_or_pos len with h | h
      · exact h
      · obtain ⟨b, o, e⟩ := hs.head h; cases e
    subst h0
    have hl : l = [] := List.length_eq_zero_iff.1 hs.1
    subst hl
    clear hs
    go_enter Try.func39, Try.ntmps39
    go_wp2
    go_ret
    exact ⟨_, rfl, World.ownsRow_nil _ _ _ _, Below.refl _ _⟩
  | some ad =>
    have hcells := hs.cells
    have hvl := enVals_length l
    rw [hs.1] at hvl
    have HC := Lib.hid hcells
    have HV := Lib.hid hvl
    have HO := Lib.hid (enVals_one l)
    obtain ⟨i0, hi, hz0, hz1, hz2⟩ := info_parts en_info
    clear hs hcells hvl
    go_enter Try.func39, Try.ntmps39
    go_wp2_with (at_builtin; refine wpList_append_own _ rfl (.tmp 5) (.tmp 6) 33 rfl w.heap.size 24 i0 _ 4 48 Try.underlying33 hi hz0 hz1 hz2 rfl (by decide) _ 0 [] rfl (World.ownsRow_made w _ _ (Nat.le_refl _) ?h0 ?h9) ad len cap (enVals l) rfl ?h1 ?h2 HO.out ?h4 ?h5 ?h6 ?_)
    case h0 => unfold maxLen; omega
    case h9 => rfl
    case h1 => exact HV.out
    case h2 => exact fun j u hj => cell_kept (w := w) ((Below.refl _ _).alloc (Nat.le_refl _) _) (Nat.le_refl _) (HC.out j u hj)
    case h4 => unfold maxLen; omega
    case h5 => omega
    case h6 => simp
    intro v' w' hown hgrow _
    have hb : Below w.heap.size w w' := ((Below.refl _ _).alloc (Nat.le_refl _) _).grown hgrow (by simp) (fun k e => by simp only [Value.ownBlock, Option.some.injEq] at e; omega)
    have HOWN := Lib.hid hown
    have HB := Lib.hid hb
    clear hown hgrow hb
    go_wp2
    go_ret
    exact ⟨_, rfl, HOWN.out, HB.out⟩
end Go.Proofs.Ythidhgniondkgaa

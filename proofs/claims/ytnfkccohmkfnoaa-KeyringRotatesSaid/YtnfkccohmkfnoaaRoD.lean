/- Walk: dominoref58.Rotate. -/
import Derived.Test.YtnfkccohmkfnoaaKyU
import Derived.Test.YtnfkccohmkfnoaaRoC
set_option linter.unusedVariables false
set_option linter.unusedSimpArgs false
namespace Go.Proofs.Ytnfkccohmkfnoaa
open Go.RowKit
open Go.Maps Go.WideMaps

/-- A slice of bases that lies in blocks below a place. -/
def SlB (w : World) (B : Nat) (A : Option Addr) (n c : Nat) (l : List ByteArray) : Prop := SlN w A n c l ∧ (0 < n → ∀ a, A = some a → a.block < B)
/-- The cells of a row of versions; the slices of their bases lie below a place. -/
def VRowB (w : World) (B : Nat) : List Value → List Ver → Prop
  | vs, [] => vs = []
  | vs, v :: l => ∃ A n c rest, vs = v.vals (.slice A n c) ++ rest ∧ SlB w B A n c v.kr ∧ VRowB w B rest l
theorem VRowB.row {w : World} {B : Nat} : ∀ {vs : List Value} {l : List Ver}, VRowB w B vs l → VRow w vs l
  | _, [], h => h
  | _, _ :: _, ⟨A, n, c, rest, h1, h2, h3⟩ => ⟨A, n, c, rest, h1, h2.1, h3.row⟩
theorem VRowB.kept {B C : Nat} {w w' : World} (hb : Below C w w') (hC : w.heap.size ≤ C) : ∀ {vs : List Value} {l : List Ver}, VRowB w B vs l → VRowB w' B vs l
  | _, [], h => h
  | _, _ :: _, ⟨A, n, c, rest, h1, h2, h3⟩ => ⟨A, n, c, rest, h1, ⟨h2.1.kept hb hC, h2.2⟩, h3.kept hb hC⟩
theorem VRowB.get {w : World} {B : Nat} : ∀ {vs : List Value} {l : List Ver} {k : Nat} {v : Ver}, VRowB w B vs l → l[k]? = some v → ∃ A n c, SlB w B A n c v.kr ∧ ∀ j u, (v.vals (.slice A n c))[j]? = some u → vs[k * 18 + j]? = some u
  | _, [], _, _, _, hk => by simp at hk
  | _, v' :: l, 0, v, ⟨A, n, c, rest, h1, h2, h3⟩, hk => by
    simp only [List.getElem?_cons_zero, Option.some.injEq] at hk
    subst hk
    refine ⟨A, n, c, h2, fun j u hu => ?_⟩
    have hj := (List.getElem?_eq_some_iff.1 hu).1
    rw [h1, Nat.zero_mul, Nat.zero_add, List.getElem?_append_left hj]
    exact hu
  | _, v' :: l, k + 1, v, ⟨A, n, c, rest, h1, h2, h3⟩, hk => by
    obtain ⟨A', n', c', h4, h5⟩ := h3.get (k := k) (by simpa using hk)
    refine ⟨A', n', c', h4, fun j u hu => ?_⟩
    rw [h1, List.getElem?_append_right (by rw [Ver.vals_length]; omega), Ver.vals_length, show (k + 1) * 18 + j - 18 = k * 18 + j from by omega]
    exact h5 j u hu
theorem rowB_of {w : World} {b : Nat} : ∀ (l : List Ver) (o : Nat), (∀ k v, l[k]? = some v → VIn w b (o + k * 18) v) → ∃ vs, VRowB w w.heap.size vs l ∧ ∀ j u, vs[j]? = some u → w.cell? ⟨b, o + j, none⟩ = some u
  | [], o, _ => ⟨[], rfl, fun j u h => by simp at h⟩
  | v :: l, o, h => by
    obtain ⟨vs, h1, h2⟩ := rowB_of l (o + 18) (fun k x hk => by
      have := h (k + 1) x (by simpa using hk)
      rw [show o + (k + 1) * 18 = o + 18 + k * 18 from by omega] at this
      exact this)
    obtain ⟨A, n, c, h3, h4⟩ := h 0 v rfl
    refine ⟨v.vals (.slice A n c) ++ vs, ⟨A, n, c, vs, rfl, ⟨h4, fun hn a e => ?_⟩, h1⟩, fun j u hu => ?_⟩
    · subst e
      exact h4.lt hn
    · rcases Nat.lt_or_ge j 18 with hj | hj
      · rw [List.getElem?_append_left (by rw [Ver.vals_length]; exact hj)] at hu
        have := h3 j u hu
        rw [show o + 0 * 18 + j = o + j from by omega] at this
        exact this
      · rw [List.getElem?_append_right (by rw [Ver.vals_length]; exact hj), Ver.vals_length] at hu
        have := h2 (j - 18) u hu
        rw [show o + 18 + (j - 18) = o + j from by omega] at this
        exact this
theorem SlV.rowB {w : World} {A : Option Addr} {len cap : Nat} {l : List Ver} (h : SlV w A len cap l) : ∃ vs, VRowB w w.heap.size vs l ∧ ∀ b o, A = some ⟨b, o, none⟩ → ∀ j u, vs[j]? = some u → w.cell? ⟨b, o + j, none⟩ = some u := by
  obtain ⟨h1, _, _, b, o, h4, h5⟩ := h
  obtain ⟨vs, h6, h7⟩ := rowB_of l o h5
  refine ⟨vs, h6, fun b' o' e j u hj => ?_⟩
  have hl := (List.getElem?_eq_some_iff.1 hj).1
  rw [h6.row.length] at hl
  have := h4 (by omega)
  rw [e] at this
  simp only [Option.some.injEq, Addr.mk.injEq, and_true] at this
  obtain ⟨rfl, rfl⟩ := this
  exact h7 j u hj
/-- A row of versions in which one was ended; its bases lie in old blocks. -/
theorem ended_rowB {w w4 : World} {B g n cap i base : Nat} {vs : List Value} {l : List Ver} {u : Ver} (e : Int) (hown : w.ownsRow base 38 18 (.slice (some ⟨g, 0, none⟩) n cap) n vs) (hr : VRowB w B vs l) (hgB : B ≤ g) (hi : l[i]? = some u) (hw4 : ∀ b, b < B ∨ b = g → w4.heap[b]? = (((w.setCell ⟨g, i * 18 + 15, none⟩ (.int .i64 e)).setCell ⟨g, i * 18 + 16, none⟩ (.string ⟨#[]⟩)).setCell ⟨g, i * 18 + 17, none⟩ (.string ⟨#[]⟩)).heap[b]?) :
    SlV w4 (some ⟨g, 0, none⟩) n cap (l.set i (u.ended e)) := by
  have hln := hr.row.len hown
  have hil := (List.getElem?_eq_some_iff.1 hi).1
  rcases hown.2 with ⟨h, _⟩ | ⟨g', cap', cur, hv, hb, hh, hc, hm, hs, ht⟩
  · cases h
  · cases hv
    have hh3 := block_setCell (block_setCell (block_setCell hh (j := i * 18 + 15) (.int .i64 e)) (j := i * 18 + 16) (.string ⟨#[]⟩)) (j := i * 18 + 17) (.string ⟨#[]⟩)
    obtain ⟨w3, hw3⟩ : ∃ w3, ((w.setCell ⟨g, i * 18 + 15, none⟩ (.int .i64 e)).setCell ⟨g, i * 18 + 16, none⟩ (.string ⟨#[]⟩)).setCell ⟨g, i * 18 + 17, none⟩ (.string ⟨#[]⟩) = w3 := ⟨_, rfl⟩
    have hoth : ∀ b, b ≠ g → w3.heap[b]? = w.heap[b]? := fun b hb => by
      rw [← hw3, heap_setCell_other _ _ _ _ hb, heap_setCell_other _ _ _ _ hb, heap_setCell_other _ _ _ _ hb]
    rw [hw3] at hh3 hw4
    have hh3 := (hw4 g (.inr rfl)).trans hh3
    refine ⟨by rw [List.length_set]; exact hln.symm, hc, by unfold maxLen at hm; exact hm, g, 0, fun _ => rfl, fun k v' hk => ?_⟩
    have hcell : ∀ j x, vs[j]? = some x → cur[j]? = some x := fun j x hj => by
      have hjl := (List.getElem?_eq_some_iff.1 hj).1
      have hvl := hown.1
      rw [← ht] at hj
      rw [List.getElem?_take_of_lt (by omega)] at hj
      simpa using hj
    have hget : ∀ k v, l[k]? = some v → ∃ A m c, SlB w B A m c v.kr ∧ ∀ j x, (v.vals (.slice A m c))[j]? = some x → cur[k * 18 + j]? = some x := fun k v h => by
      obtain ⟨A, m, c, h1, h2⟩ := hr.get h
      exact ⟨A, m, c, h1, fun j x hx => hcell _ _ (h2 j x hx)⟩
    have hsl : ∀ A m c l', SlB w B A m c l' → SlN w4 A m c l' := fun A m c l' h => h.1.of_blocks fun h0 a ha => (hw4 _ (.inl (h.2 h0 a ha))).trans (hoth _ (by have := h.2 h0 a ha; omega))
    have hsz : cur.size = cap * 18 := hs
    by_cases hki : k = i
    · subst hki
      rw [List.getElem?_set_self hil] at hk
      cases hk
      obtain ⟨A, m, c, h1, h2⟩ := hget k u hi
      refine ⟨A, m, c, fun j x hx => ?_, hsl _ _ _ _ h1⟩
      have hj : j < 18 := (List.getElem?_eq_some_iff.1 hx).1
      rw [Nat.zero_add, Lib.cell_of_heap hh3]
      have hb17 : k * 18 + 17 < cur.size := by rw [hsz]; omega
      by_cases h17 : j = 17
      · subst h17
        cases hx
        rw [Array.getElem?_setIfInBounds_self_of_lt (by simp; exact hb17)]
        rfl
      · rw [Array.getElem?_setIfInBounds_ne (by omega)]
        by_cases h16 : j = 16
        · subst h16
          cases hx
          rw [Array.getElem?_setIfInBounds_self_of_lt (by simp; omega)]
          rfl
        · rw [Array.getElem?_setIfInBounds_ne (by omega)]
          by_cases h15 : j = 15
          · subst h15
            cases hx
            rw [Array.getElem?_setIfInBounds_self_of_lt (by omega)]
            rfl
          · rw [Array.getElem?_setIfInBounds_ne (by omega)]
            refine h2 j x ?_
            rcases (show j = 0 ∨ j = 1 ∨ j = 2 ∨ j = 3 ∨ j = 4 ∨ j = 5 ∨ j = 6 ∨ j = 7 ∨ j = 8 ∨ j = 9 ∨ j = 10 ∨ j = 11 ∨ j = 12 ∨ j = 13 ∨ j = 14 from by omega) with rfl | rfl | rfl | rfl | rfl | rfl | rfl | rfl | rfl | rfl | rfl | rfl | rfl | rfl | rfl <;> exact hx
    · rw [List.getElem?_set_ne (by omega)] at hk
      obtain ⟨A, m, c, h1, h2⟩ := hget k v' hk
      refine ⟨A, m, c, fun j x hx => ?_, hsl _ _ _ _ h1⟩
      have hj : j < 18 := (List.getElem?_eq_some_iff.1 hx).1
      rw [Nat.zero_add, Lib.cell_of_heap hh3, Array.getElem?_setIfInBounds_ne (by omega), Array.getElem?_setIfInBounds_ne (by omega), Array.getElem?_setIfInBounds_ne (by omega)]
      exact h2 j x hx


/-- A row of versions as it was; its bases lie in old blocks. -/
theorem plain_rowB {w w4 : World} {B g n cap base : Nat} {vs : List Value} {l : List Ver} (hown : w.ownsRow base 38 18 (.slice (some ⟨g, 0, none⟩) n cap) n vs) (hr : VRowB w B vs l) (hw4 : ∀ b, b < B ∨ b = g → w4.heap[b]? = w.heap[b]?) : SlV w4 (some ⟨g, 0, none⟩) n cap l := by
  have hln := hr.row.len hown
  have hcl := hown.cells (g := g) rfl
  rcases hown.2 with ⟨h, _⟩ | ⟨g', cap', cur, hv, hb, hh, hc, hm, hs, ht⟩
  · cases h
  · cases hv
    refine ⟨hln.symm, hc, by unfold maxLen at hm; exact hm, g, 0, fun _ => rfl, fun k v hk => ?_⟩
    obtain ⟨A, m, c, h1, h2⟩ := hr.get hk
    refine ⟨A, m, c, fun j x hx => ?_, h1.1.of_blocks fun h0 a ha => hw4 _ (.inl (h1.2 h0 a ha))⟩
    have := hcl _ x (h2 j x hx)
    rw [addr_add] at this
    rw [World.cell?_of_block (w := w) (hw4 g (.inr rfl)), show 0 + k * 18 + j = 0 + (k * 18 + j) from by omega]
    exact this


set_option maxRecDepth 100000 in
set_option maxHeartbeats 4000000 in
theorem r58_Rotate (l : List Ver) (A : Option Addr) (len cap : Nat) (v : Ver) (A1 : Option Addr) (n1 c1 : Nat) (o : Int) (w : World) (hs : SlV w A len cap l) (hlen : len ≤ 4096) (hz : SzV l) (hfw : FwV l) (hv : SlN w A1 n1 c1 v.kr) (hn1 : n1 ≤ 100) (hvz : SzL v.str) (hnm : v.name.size ≤ maxLen) (hcl : CalmL l) (hcv : v.calm) :
    Calls Try.prog 14 #[.slice A len cap, .agg (v.arr (.slice A1 n1 c1)), .int .i64 o] w (RetRot l v o w) := by
  obtain ⟨cs, hcs⟩ : ∃ cs, v.arr (.slice A1 n1 c1) = cs := ⟨_, rfl⟩
  rw [hcs]
  have HVA := Lib.hid hcs
  have HCS := Lib.hid (show cs.size = 18 from by rw [← hcs]; rfl)
  obtain ⟨W0, hW0⟩ : ∃ W0, (w.alloc (.cells cs 38)).alloc (.cells (ver0.arr (.slice none 0 0)) 38) = W0 := ⟨_, rfl⟩
  have HX0 := Lib.hid (show BxC W0 w.heap.size cs 38 from by rw [← hW0]; exact (BxC.new w _ _).alloc _)
  have HY0 := Lib.hid (show BxC W0 (w.heap.size + 1) (ver0.arr (.slice none 0 0)) 38 from by rw [← hW0]; exact BxC.new1 w _ _ _)
  have HB0 := Lib.hid (show Below w.heap.size w W0 from by rw [← hW0]; exact ((Below.refl _ _).alloc (Nat.le_refl _) _).alloc (by simp) _)
  have HSW := Lib.hid hs
  have HSL := Lib.hid hv
  have HZ := Lib.hid hz
  have HFW := Lib.hid hfw
  have HNM := Lib.hid hnm
  have HCL := Lib.hid hcl
  have HCV := Lib.hid hcv
  have HVZ := Lib.hid hvz
  have HLEN := Lib.hid hs.1
  have hcap := hs.2.1
  have hcap2 := hs.2.2.1
  unfold ver0 Ver.arr at hW0
  clear hs hz hfw hnm hcl hcv hvz hcs hv
  by_cases ho : o < 0 ∨ 4096 < o
  · have HO := Lib.hid ho
    go_enter Try.func14, Try.ntmps14
    by_cases h1 : o < 0
    · go_upto_region 2 with fail
      try rw [hW0]
      clear hW0
      refine wp_region_lit ?_
      iterate 4 go_step
      refine wp_store_row 38 _ _ rfl (w.heap.size + 1) (ver0.arr (.slice none 0 0)) rfl rfl 38 (ver0.arr (.slice none 0 0)) HY0.out (by kernel_rfl) rfl ver0.arr_one ?_
      have HYe := Lib.hid (setRow_heap W0 (w.heap.size + 1) _ (ver0.arr (.slice none 0 0)) _ _ HY0.out)
      have HBe := Lib.hid (below_setRow HB0.out (g := w.heap.size + 1) (by omega) (ver0.arr (.slice none 0 0)))
      obtain ⟨we, hwe⟩ : ∃ we, World.setRow W0 (w.heap.size + 1) (ver0.arr (.slice none 0 0)) = we := ⟨_, rfl⟩
      rw [hwe] at HYe HBe ⊢
      clear hwe
      go_wp2
      refine bodyPost_ret (v := .tuple #[.agg (ver0.arr (.slice none 0 0)), .slice none 0 0, .int .i64 2]) (Eq.trans (results_row_tmp2 rfl _ _ (w.heap.size + 1) 38 (ver0.arr (.slice none 0 0)) (0, 0) _ rfl HYe.out Try.underlying38 rfl (by kernel_rfl)) (by rfl)) rfl ?_
      have HRR := Lib.hid (show RetR .i64 ver0 [] 2 w (.returned (.tuple #[.agg (ver0.arr (.slice none 0 0)), .slice none 0 0, .int .i64 2])) we from ⟨none, 0, 0, none, 0, rfl, ⟨rfl, Nat.le_refl _, Nat.zero_le _, 0, 0, fun h => absurd h (Nat.lt_irrefl _), fun k s h => by simp [ver0] at h⟩, SlV.nil _ 0 (by omega) none, HBe.out⟩)
      exact .inl ⟨HO.out, HRR.out⟩
    · have h2 : 4096 < o := by omega
      go_upto_region 2 with fail
      try rw [hW0]
      clear hW0
      refine wp_region_lit ?_
      iterate 4 go_step
      refine wp_store_row 38 _ _ rfl (w.heap.size + 1) (ver0.arr (.slice none 0 0)) rfl rfl 38 (ver0.arr (.slice none 0 0)) HY0.out (by kernel_rfl) rfl ver0.arr_one ?_
      have HYe := Lib.hid (setRow_heap W0 (w.heap.size + 1) _ (ver0.arr (.slice none 0 0)) _ _ HY0.out)
      have HBe := Lib.hid (below_setRow HB0.out (g := w.heap.size + 1) (by omega) (ver0.arr (.slice none 0 0)))
      obtain ⟨we, hwe⟩ : ∃ we, World.setRow W0 (w.heap.size + 1) (ver0.arr (.slice none 0 0)) = we := ⟨_, rfl⟩
      rw [hwe] at HYe HBe ⊢
      clear hwe
      go_wp2
      refine bodyPost_ret (v := .tuple #[.agg (ver0.arr (.slice none 0 0)), .slice none 0 0, .int .i64 2]) (Eq.trans (results_row_tmp2 rfl _ _ (w.heap.size + 1) 38 (ver0.arr (.slice none 0 0)) (0, 0) _ rfl HYe.out Try.underlying38 rfl (by kernel_rfl)) (by rfl)) rfl ?_
      have HRR := Lib.hid (show RetR .i64 ver0 [] 2 w (.returned (.tuple #[.agg (ver0.arr (.slice none 0 0)), .slice none 0 0, .int .i64 2])) we from ⟨none, 0, 0, none, 0, rfl, ⟨rfl, Nat.le_refl _, Nat.zero_le _, 0, 0, fun h => absurd h (Nat.lt_irrefl _), fun k s h => by simp [ver0] at h⟩, SlV.nil _ 0 (by omega) none, HBe.out⟩)
      exact .inl ⟨HO.out, HRR.out⟩
  · have HO := Lib.hid ho
    have ho1 : ¬ o < 0 := fun h => ho (.inl h)
    have ho2 : ¬ 4096 < o := fun h => ho (.inr h)
    clear ho
    have x0 : W0.cell? ⟨w.heap.size, 0, none⟩ = some (.string v.name) := (HX0.out.cell 0).trans (by rw [← HVA.out]; rfl)
    go_enter Try.func14, Try.ntmps14
    go_upto_region 3 with fail
    try rw [hW0]
    clear hW0
    go_wp2_with fail
    refine (r58_Last l A len cap v.name _ (HSW.out.kept HB0.out (Nat.le_refl _)) hlen).mono ?_
    rintro e w1 ⟨rfl, hb1⟩
    have hb01 : Below W0.heap.size W0 w1 := hb1
    have HX1 := Lib.hid (HX0.out.next hb01)
    have HY1 := Lib.hid (HY0.out.next hb01)
    have HB1 := Lib.hid (HB0.out.trans (hb01.mono HB0.out.size))
    have HB1d := Lib.hid HB1.out.drew
    clear hb01 hb1
    cases hi : lastI l v.name with
    | none =>
      have HI := Lib.hid hi
      rw [show idxI none = (-1) from rfl]
      clear hi
      go_upto_region 5 with fail
      refine wp_region_lit ?_
      iterate 4 go_step
      refine wp_store_row 38 _ _ rfl (w.heap.size + 1) (ver0.arr (.slice none 0 0)) rfl rfl 38 (ver0.arr (.slice none 0 0)) HY1.out (by kernel_rfl) rfl ver0.arr_one ?_
      have HYe := Lib.hid (setRow_heap w1 (w.heap.size + 1) _ (ver0.arr (.slice none 0 0)) _ _ HY1.out)
      have HBe := Lib.hid (below_setRow HB1.out (g := w.heap.size + 1) (by omega) (ver0.arr (.slice none 0 0)))
      obtain ⟨we, hwe⟩ : ∃ we, World.setRow w1 (w.heap.size + 1) (ver0.arr (.slice none 0 0)) = we := ⟨_, rfl⟩
      rw [hwe] at HYe HBe ⊢
      clear hwe
      go_wp2
      refine bodyPost_ret (v := .tuple #[.agg (ver0.arr (.slice none 0 0)), .slice none 0 0, .int .i64 22]) (Eq.trans (results_row_tmp2 rfl _ _ (w.heap.size + 1) 38 (ver0.arr (.slice none 0 0)) (0, 0) _ rfl HYe.out Try.underlying38 rfl (by kernel_rfl)) (by rfl)) rfl ?_
      have HRR := Lib.hid (show RetR .i64 ver0 [] 22 w (.returned (.tuple #[.agg (ver0.arr (.slice none 0 0)), .slice none 0 0, .int .i64 22])) we from ⟨none, 0, 0, none, 0, rfl, ⟨rfl, Nat.le_refl _, Nat.zero_le _, 0, 0, fun h => absurd h (Nat.lt_irrefl _), fun k s h => by simp [ver0] at h⟩, SlV.nil _ 0 (by omega) none, HBe.out⟩)
      exact .inr (.inl ⟨HO.out, HI.out, HRR.out⟩)
    | some i =>
      obtain ⟨hil, u, hu, _⟩ := bestI_lt hi
      rw [show idxI (some i) = (i : Int) from rfl]
      have HI := Lib.hid hi
      have HU := Lib.hid hu
      have hll : i < len := by rw [← HLEN.out]; exact hil
      obtain ⟨b, p, rfl⟩ := HSW.out.head (by omega)
      obtain ⟨A2, n2, c2, hvc, _⟩ := (HSW.out.kept HB1.out (Nat.le_refl _)).get? i hu
      have y14 : w1.drew.cell? ⟨b, p + i * 18 + 14, none⟩ = some (.int .i64 u.fr) := hvc.open.2.2.2.2.2.2.2.2.2.2.2.2.2.2.1
      have y15 : w1.drew.cell? ⟨b, p + i * 18 + 15, none⟩ = some (.int .i64 u.to) := hvc.open.2.2.2.2.2.2.2.2.2.2.2.2.2.2.2.1
      have x14 : w1.drew.cell? ⟨w.heap.size, 14, none⟩ = some (.int .i64 v.fr) := (HX1.out.cell 14).trans (by rw [← HVA.out]; rfl)
      obtain ⟨v1, v2, v3, v4, v5, v6⟩ := HCV.out
      have h40 : decide ((i : Int) < 0) = false := decide_eq_false (by omega)
      clear hi hu hvc hil
      by_cases g1 : v.fr ≤ u.fr
      · have HG := Lib.hid (show v.fr ≤ u.fr ∨ u.to < v.fr - 1 from .inl g1)
        have g1' : decide (v.fr ≤ u.fr) = true := decide_eq_true g1
        clear g1
        go_wp2
        go_region
        go_upto_region 7 with fail
        refine wp_region_lit ?_
        iterate 4 go_step
        refine wp_store_row 38 _ _ rfl (w.heap.size + 1) (ver0.arr (.slice none 0 0)) rfl rfl 38 (ver0.arr (.slice none 0 0)) HY1.out (by kernel_rfl) rfl ver0.arr_one ?_
        have HYe := Lib.hid (setRow_heap w1.drew (w.heap.size + 1) _ (ver0.arr (.slice none 0 0)) _ _ HY1.out)
        have HBe := Lib.hid (below_setRow HB1d.out (g := w.heap.size + 1) (by omega) (ver0.arr (.slice none 0 0)))
        obtain ⟨we, hwe⟩ : ∃ we, World.setRow w1.drew (w.heap.size + 1) (ver0.arr (.slice none 0 0)) = we := ⟨_, rfl⟩
        rw [hwe] at HYe HBe ⊢
        clear hwe
        go_wp2
        refine bodyPost_ret (v := .tuple #[.agg (ver0.arr (.slice none 0 0)), .slice none 0 0, .int .i64 21]) (Eq.trans (results_row_tmp2 rfl _ _ (w.heap.size + 1) 38 (ver0.arr (.slice none 0 0)) (0, 0) _ rfl HYe.out Try.underlying38 rfl (by kernel_rfl)) (by rfl)) rfl ?_
        have HRR := Lib.hid (show RetR .i64 ver0 [] 21 w (.returned (.tuple #[.agg (ver0.arr (.slice none 0 0)), .slice none 0 0, .int .i64 21])) we from ⟨none, 0, 0, none, 0, rfl, ⟨rfl, Nat.le_refl _, Nat.zero_le _, 0, 0, fun h => absurd h (Nat.lt_irrefl _), fun k s h => by simp [ver0] at h⟩, SlV.nil _ 0 (by omega) none, HBe.out⟩)
        exact .inr (.inr ⟨i, u, HO.out, HI.out, HU.out, .inl ⟨HG.out, HRR.out⟩⟩)
      · by_cases g2 : u.to < v.fr - 1
        · have HG := Lib.hid (show v.fr ≤ u.fr ∨ u.to < v.fr - 1 from .inr g2)
          have g1' : decide (v.fr ≤ u.fr) = false := decide_eq_false g1
          have g2' : decide (u.to < v.fr - 1) = true := decide_eq_true g2
          clear g1 g2
          go_wp2
          go_region
          go_upto_region 7 with fail
          refine wp_region_lit ?_
          iterate 4 go_step
          refine wp_store_row 38 _ _ rfl (w.heap.size + 1) (ver0.arr (.slice none 0 0)) rfl rfl 38 (ver0.arr (.slice none 0 0)) HY1.out (by kernel_rfl) rfl ver0.arr_one ?_
          have HYe := Lib.hid (setRow_heap w1.drew (w.heap.size + 1) _ (ver0.arr (.slice none 0 0)) _ _ HY1.out)
          have HBe := Lib.hid (below_setRow HB1d.out (g := w.heap.size + 1) (by omega) (ver0.arr (.slice none 0 0)))
          obtain ⟨we, hwe⟩ : ∃ we, World.setRow w1.drew (w.heap.size + 1) (ver0.arr (.slice none 0 0)) = we := ⟨_, rfl⟩
          rw [hwe] at HYe HBe ⊢
          clear hwe
          go_wp2
          refine bodyPost_ret (v := .tuple #[.agg (ver0.arr (.slice none 0 0)), .slice none 0 0, .int .i64 21]) (Eq.trans (results_row_tmp2 rfl _ _ (w.heap.size + 1) 38 (ver0.arr (.slice none 0 0)) (0, 0) _ rfl HYe.out Try.underlying38 rfl (by kernel_rfl)) (by rfl)) rfl ?_
          have HRR := Lib.hid (show RetR .i64 ver0 [] 21 w (.returned (.tuple #[.agg (ver0.arr (.slice none 0 0)), .slice none 0 0, .int .i64 21])) we from ⟨none, 0, 0, none, 0, rfl, ⟨rfl, Nat.le_refl _, Nat.zero_le _, 0, 0, fun h => absurd h (Nat.lt_irrefl _), fun k s h => by simp [ver0] at h⟩, SlV.nil _ 0 (by omega) none, HBe.out⟩)
          exact .inr (.inr ⟨i, u, HO.out, HI.out, HU.out, .inl ⟨HG.out, HRR.out⟩⟩)
        · have HG := Lib.hid (show ¬ (v.fr ≤ u.fr ∨ u.to < v.fr - 1) from fun h => h.elim g1 g2)
          have g1' : decide (v.fr ≤ u.fr) = false := decide_eq_false g1
          have g2' : decide (u.to < v.fr - 1) = false := decide_eq_false g2
          clear g1 g2
          go_wp2
          go_region
          have HX4 := Lib.hid (show BxC w1.drew w.heap.size (v.arr (.slice A1 n1 c1)) 38 from by rw [HVA.out]; exact HX1.out)
          have HY4 := Lib.hid (show BxC w1.drew (w.heap.size + 1) (ver0.arr (.slice none 0 0)) 38 from HY1.out)
          have HB4 := Lib.hid HB1d.out
          clear x14 y14 y15 HX1 HY1
          obtain ⟨w4, hw4⟩ : ∃ w4, w1.drew = w4 := ⟨_, rfl⟩
          rw [hw4] at HX4 HY4 HB4 ⊢
          clear hw4
          obtain ⟨A5, n5, c5, hvc5, _⟩ := (HSW.out.kept HB4.out (Nat.le_refl _)).get? i HU.out
          have y1 : w4.cell? ⟨b, p + i * 18 + 1, none⟩ = some (.int .i64 u.num) := hvc5.open.2.1
          obtain ⟨_, _, _, _, u5, u6⟩ := HCL.out i u HU.out
          have f1 := HX4.out.free 1
          have f15 := HX4.out.free 15
          have f16 := HX4.out.free 16
          have f17 := HX4.out.free 17
          have z1 : w4.cell? ⟨w.heap.size, 1, none⟩ = some (.int .i64 v.num) := HX4.out.cell 1
          have z15 : w4.cell? ⟨w.heap.size, 15, none⟩ = some (.int .i64 v.to) := HX4.out.cell 15
          have z16 : w4.cell? ⟨w.heap.size, 16, none⟩ = some (.string v.sc) := HX4.out.cell 16
          have z17 : w4.cell? ⟨w.heap.size, 17, none⟩ = some (.string v.sr) := HX4.out.cell 17
          have HX5 := Lib.hid ((((HX4.out.set (k := 1) (.int .i64 (u.num + 1))).set (k := 15) (.int .i64 4096)).set (k := 16) (.string ⟨#[]⟩)).set (k := 17) (.string ⟨#[]⟩))
          rw [arr_next] at HX5
          have HY5 := Lib.hid ((((HY4.out.other (C := w.heap.size) (k := 1) (by omega) (.int .i64 (u.num + 1))).other (C := w.heap.size) (k := 15) (by omega) (.int .i64 4096)).other (C := w.heap.size) (k := 16) (by omega) (.string ⟨#[]⟩)).other (C := w.heap.size) (k := 17) (by omega) (.string ⟨#[]⟩))
          have HB5 := Lib.hid ((((HB4.out.setCell (p := ⟨w.heap.size, 1, none⟩) (Nat.le_refl _) (.int .i64 (u.num + 1))).setCell (p := ⟨w.heap.size, 15, none⟩) (Nat.le_refl _) (.int .i64 4096)).setCell (p := ⟨w.heap.size, 16, none⟩) (Nat.le_refl _) (.string ⟨#[]⟩)).setCell (p := ⟨w.heap.size, 17, none⟩) (Nat.le_refl _) (.string ⟨#[]⟩))
          clear hvc5
          go_upto_region 9 with fail
          obtain ⟨w5, hw5⟩ : ∃ w5, (((w4.setCell ⟨w.heap.size, 1, none⟩ (.int .i64 (u.num + 1))).setCell ⟨w.heap.size, 15, none⟩ (.int .i64 4096)).setCell ⟨w.heap.size, 16, none⟩ (.string ⟨#[]⟩)).setCell ⟨w.heap.size, 17, none⟩ (.string ⟨#[]⟩) = w5 := ⟨_, rfl⟩
          rw [hw5] at HX5 HY5 HB5 ⊢
          clear hw5 y1 f1 f15 f16 f17 z1 z15 z16 z17
          have HME := Lib.hid (r58_Message (v.next u) A1 n1 c1 w5 (HSL.out.kept HB5.out (Nat.le_refl _)) hn1 (next_sz HVZ.out))
          obtain ⟨rr, hrr⟩ : ∃ rr, (v.next u).arr (.slice A1 n1 c1) = rr := ⟨_, rfl⟩
          have hrs : rr.size = 18 := by rw [← hrr]; rfl
          have hro : rr.all (·.oneCell') = true := by rw [← hrr]; exact (v.next u).arr_one
          have h14 : rr[14]? = some (.int .i64 v.fr) := by rw [← hrr]; rfl
          rw [hrr] at HX5 HME
          have HRV := Lib.hid hrr
          have HRS := Lib.hid hrs
          have HRO := Lib.hid hro
          have H14 := Lib.hid h14
          clear hrr hrs hro h14
          refine wp_region_lit ?_
          refine wpList_load_row rfl 38 _ rfl w.heap.size rfl 38 rr (0, 0) _ HX5.out Try.underlying38 rfl (by rw [HRS.out]; kernel_rfl) ?_
          go_wp2_with fail
          refine HME.out.mono ?_
          rintro ev w6 ⟨rfl, hb6⟩
          have HX6 := Lib.hid (HX5.out.next hb6)
          have HY6 := Lib.hid (HY5.out.next hb6)
          have HB6 := Lib.hid (HB5.out.trans (hb6.mono HB5.out.size))
          clear hb6
          obtain ⟨r1, r2, hr⟩ : ∃ r1 r2, (v.next u).msg = (r1, r2) := ⟨_, _, rfl⟩
          rw [hr]
          have HR := Lib.hid hr
          clear hr
          by_cases h0 : r2 = 0
          · have HR0 := Lib.hid (show (v.next u).msg.2 = 0 from by rw [HR.out]; exact h0)
            rw [h0]
            clear h0
            obtain ⟨vs, hvb, hcl7⟩ := HSW.out.rowB
            have HVB := Lib.hid hvb
            have hvl : vs.length = len * 18 := by rw [hvb.row.length, HLEN.out]
            have HVL := Lib.hid hvl
            have HONE := Lib.hid hvb.row.one
            have HNEWS := Lib.hid (show ∀ j x, vs[j]? = some x → w6.cell? ((⟨b, p, none⟩ : Addr).add j) = some x from fun j x hj => by
              have e : (⟨b, p, none⟩ : Addr).add j = ⟨b, p + j, none⟩ := by unfold Addr.add; split <;> simp_all
              rw [e]
              exact cell_kept HB6.out (Nat.le_refl _) (hcl7 b p rfl j x hj))
            clear hvb hcl7 hvl
            obtain ⟨i0, hi, iz0, iz1, iz2⟩ := info_parts ver_info
            go_wp2_with (at_builtin; refine wpList_append_lies _ rfl (.tmp 67) (.tmp 68) 22 rfl w6.heap.size 38 i0 _ 18 272 Try.underlying22 hi iz0 iz1 iz2 rfl (by decide) _ 0 [] rfl (World.ownsRow_nil _ _ _ _) ⟨b, p, none⟩ len cap vs rfl ?h1 ?h2 HONE.out (by omega) ?h4 ?h5 ?h6 _ rfl ?_)
            case h1 => exact HVL.out
            case h2 => exact HNEWS.out
            case h4 => unfold maxLen; omega
            case h5 => omega
            case h6 => exact Nat.le_refl _
            intro g cap7 w7 hown0 hgrow7 hat7 hg7
            have hb7 : Below w6.heap.size w6 w7 := (Below.refl _ _).grown hgrow7 (Nat.le_refl _) (fun k e => by cases e)
            have hown : w7.ownsRow w6.heap.size 38 18 (.slice (some ⟨g, 0, none⟩) l.length cap7) l.length vs := by
              rw [HLEN.out]; exact hown0
            have hg6 : w6.heap.size ≤ g := (hown0.lt g rfl).1
            obtain ⟨cur, hcur⟩ : ∃ cur, w7.heap[g]? = some (.cells cur 38 (0, 0)) := by
              rcases hown.2 with ⟨h0, _⟩ | ⟨g', cap', cur, hv, hb, hh, _⟩
              · cases h0
              · cases hv
                exact ⟨cur, hh⟩
            have hvr' : VRowB w7 w.heap.size vs l := HVB.out.kept (HB6.out.trans (hb7.mono HB6.out.size)) (Nat.le_refl _)
            have hcp0 : l.length ≤ cap7 ∧ cap7 ≤ 9223372036854775807 := (SlV.of_owns hown hvr'.row).2 |> fun ⟨_, _, h1, h2⟩ => by cases h1; exact ⟨h2.2.1, h2.2.2.1⟩
            obtain ⟨A8, n8, c8, _, hvs⟩ := hvr'.get HU.out
            rw [show (Value.slice (some ⟨g, 0, none⟩) len cap7) = .slice (some ⟨g, 0, none⟩) l.length cap7 from by rw [HLEN.out]]
            clear hown0 hgrow7 hat7 hi iz0 iz1 iz2
            have y15 : w7.cell? ⟨g, i * 18 + 15, none⟩ = some (.int .i64 u.to) := by
              have := hown.cells (g := g) rfl (i * 18 + 15) _ (hvs 15 _ rfl)
              rw [addr_add, Nat.zero_add] at this
              exact this
            have y16 : w7.cell? ⟨g, i * 18 + 16, none⟩ = some (.string u.sc) := by
              have := hown.cells (g := g) rfl (i * 18 + 16) _ (hvs 16 _ rfl)
              rw [addr_add, Nat.zero_add] at this
              exact this
            have y17 : w7.cell? ⟨g, i * 18 + 17, none⟩ = some (.string u.sr) := by
              have := hown.cells (g := g) rfl (i * 18 + 17) _ (hvs 17 _ rfl)
              rw [addr_add, Nat.zero_add] at this
              exact this
            have f15 : w7.frozen? ⟨g, i * 18 + 15, none⟩ = false := Lib.frozen_of_heap hcur _
            have f16 : w7.frozen? ⟨g, i * 18 + 16, none⟩ = false := Lib.frozen_of_heap hcur _
            have f17 : w7.frozen? ⟨g, i * 18 + 17, none⟩ = false := Lib.frozen_of_heap hcur _
            have HX7 := Lib.hid (HX6.out.next hb7)
            have HY7 := Lib.hid (HY6.out.next hb7)
            have HB7 := Lib.hid (HB6.out.trans (hb7.mono HB6.out.size))
            have x14 : w7.cell? ⟨w.heap.size, 14, none⟩ = some (.int .i64 v.fr) := (HX7.out.cell 14).trans H14.out
            have HOW := Lib.hid hown
            have HVR := Lib.hid hvr'
            have hX6l := HX6.out.lt
            have hY6l := HY6.out.lt
            have hgw : w.heap.size + 1 < g := by omega
            have hll2 : i < l.length := by rw [HLEN.out]; exact hll
            have hln2 : l.length ≤ 4096 := by rw [HLEN.out]; exact hlen
            have hcp2 := hcp0.1
            have hcp3 := hcp0.2
            have HG6 := Lib.hid hg6
            clear hown hvr' hcp0 hb7 hvs hcur hg6 hg7
            by_cases h9 : v.fr + o - 1 < u.to
            · have h9' : decide (v.fr + o - 1 < u.to) = true := decide_eq_true h9
              have hrl : rotL l i u (v.fr + o - 1) = l.set i (u.ended (v.fr + o - 1)) := by unfold rotL; rw [if_pos h9]
              have HRL := Lib.hid hrl
              have HX9 := Lib.hid (((HX7.out.other (C := g) (k := i * 18 + 15) (by omega) (.int .i64 (v.fr + o - 1))).other (C := g) (k := i * 18 + 16) (by omega) (.string ⟨#[]⟩)).other (C := g) (k := i * 18 + 17) (by omega) (.string ⟨#[]⟩))
              have HY9 := Lib.hid (((HY7.out.other (C := g) (k := i * 18 + 15) (by omega) (.int .i64 (v.fr + o - 1))).other (C := g) (k := i * 18 + 16) (by omega) (.string ⟨#[]⟩)).other (C := g) (k := i * 18 + 17) (by omega) (.string ⟨#[]⟩))
              have HB9 := Lib.hid (((HB7.out.setCell (p := ⟨g, i * 18 + 15, none⟩) (by simp only []; omega) (.int .i64 (v.fr + o - 1))).setCell (p := ⟨g, i * 18 + 16, none⟩) (by simp only []; omega) (.string ⟨#[]⟩)).setCell (p := ⟨g, i * 18 + 17, none⟩) (by simp only []; omega) (.string ⟨#[]⟩))
              have HEN := Lib.hid (fun (w4 : World) hw => ended_rowB (w4 := w4) (v.fr + o - 1) HOW.out HVR.out (by omega) HU.out hw)
              clear h9 hrl
              go_upto_region 18 with fail
              obtain ⟨w9, hw9⟩ : ∃ w9, ((w7.setCell ⟨g, i * 18 + 15, none⟩ (.int .i64 (v.fr + o - 1))).setCell ⟨g, i * 18 + 16, none⟩ (.string ⟨#[]⟩)).setCell ⟨g, i * 18 + 17, none⟩ (.string ⟨#[]⟩) = w9 := ⟨_, rfl⟩
              rw [hw9] at HX9 HY9 HB9 HEN ⊢
              clear hw9
              refine wp_region_lit ?_
              refine wpList_load_row rfl 38 _ rfl w.heap.size rfl 38 rr (0, 0) _ HX9.out Try.underlying38 rfl (by rw [HRS.out]; kernel_rfl) ?_
              iterate 3 go_step
              refine wpList_store_rowTo rfl 38 _ _ rfl rfl (w.heap.size + 1) rr rfl rfl 38 (ver0.arr (.slice none 0 0)) HY9.out (by rw [HRS.out]; kernel_rfl) (by rw [HRS.out]; rfl) HRO.out ?_
              have hg6 := HG6.out
              have HYA := Lib.hid (setRow_heap w9 (w.heap.size + 1) _ rr _ _ HY9.out)
              have HBA := Lib.hid (below_setRow HB9.out (g := w.heap.size + 1) (by omega) rr)
              have HSA := Lib.hid (show SlN (World.setRow w9 (w.heap.size + 1) rr) A1 n1 c1 v.kr from HSL.out.kept HBA.out (Nat.le_refl _))
              have HLA := Lib.hid (show SlV (World.setRow w9 (w.heap.size + 1) rr) (some ⟨g, 0, none⟩) l.length cap7 (rotL l i u (v.fr + o - 1)) from by rw [HRL.out]; exact HEN.out _ (fun b hb => setRow_other _ _ _ _ (hb.elim (fun h => by omega) (fun h => by omega))))
              obtain ⟨wa, hwa⟩ : ∃ wa, World.setRow w9 (w.heap.size + 1) rr = wa := ⟨_, rfl⟩
              rw [hwa] at HYA HBA HSA HLA ⊢
              clear hwa
              go_wp2
              refine bodyPost_ret (v := .tuple #[.agg rr, .slice (some ⟨g, 0, none⟩) l.length cap7, .int .i64 0]) (Eq.trans (results_row_tmp2 rfl _ _ (w.heap.size + 1) 38 rr (0, 0) _ rfl HYA.out Try.underlying38 rfl (by rw [HRS.out]; kernel_rfl)) (by rfl)) rfl ?_
              have hrln : (rotL l i u (v.fr + o - 1)).length = l.length := (by rw [HRL.out, List.length_set])
              exact .inr (.inr ⟨i, u, HO.out, HI.out, HU.out, .inr ⟨HG.out, .inr ⟨HR0.out, A1, n1, c1, _, cap7, by rw [← HRV.out, hrln]; rfl, HSA.out, by rw [hrln]; exact HLA.out, HBA.out⟩⟩⟩)
            · have h9' : decide (v.fr + o - 1 < u.to) = false := decide_eq_false h9
              have HRL := Lib.hid (show rotL l i u (v.fr + o - 1) = l from by unfold rotL; rw [if_neg h9])
              have HX9 := HX7
              have HY9 := HY7
              have HB9 := HB7
              have HEN := Lib.hid (fun (w4 : World) hw => plain_rowB (w4 := w4) HOW.out HVR.out hw)
              clear h9
              go_upto_region 18 with fail
              refine wp_region_lit ?_
              refine wpList_load_row rfl 38 _ rfl w.heap.size rfl 38 rr (0, 0) _ HX9.out Try.underlying38 rfl (by rw [HRS.out]; kernel_rfl) ?_
              iterate 3 go_step
              refine wpList_store_rowTo rfl 38 _ _ rfl rfl (w.heap.size + 1) rr rfl rfl 38 (ver0.arr (.slice none 0 0)) HY9.out (by rw [HRS.out]; kernel_rfl) (by rw [HRS.out]; rfl) HRO.out ?_
              have hg6 := HG6.out
              have HYA := Lib.hid (setRow_heap w7 (w.heap.size + 1) _ rr _ _ HY9.out)
              have HBA := Lib.hid (below_setRow HB9.out (g := w.heap.size + 1) (by omega) rr)
              have HSA := Lib.hid (show SlN (World.setRow w7 (w.heap.size + 1) rr) A1 n1 c1 v.kr from HSL.out.kept HBA.out (Nat.le_refl _))
              have HLA := Lib.hid (show SlV (World.setRow w7 (w.heap.size + 1) rr) (some ⟨g, 0, none⟩) l.length cap7 (rotL l i u (v.fr + o - 1)) from by rw [HRL.out]; exact HEN.out _ (fun b hb => setRow_other _ _ _ _ (hb.elim (fun h => by omega) (fun h => by omega))))
              obtain ⟨wa, hwa⟩ : ∃ wa, World.setRow w7 (w.heap.size + 1) rr = wa := ⟨_, rfl⟩
              rw [hwa] at HYA HBA HSA HLA ⊢
              clear hwa
              go_wp2
              refine bodyPost_ret (v := .tuple #[.agg rr, .slice (some ⟨g, 0, none⟩) l.length cap7, .int .i64 0]) (Eq.trans (results_row_tmp2 rfl _ _ (w.heap.size + 1) 38 rr (0, 0) _ rfl HYA.out Try.underlying38 rfl (by rw [HRS.out]; kernel_rfl)) (by rfl)) rfl ?_
              have hrln : (rotL l i u (v.fr + o - 1)).length = l.length := (by rw [HRL.out])
              exact .inr (.inr ⟨i, u, HO.out, HI.out, HU.out, .inr ⟨HG.out, .inr ⟨HR0.out, A1, n1, c1, _, cap7, by rw [← HRV.out, hrln]; rfl, HSA.out, by rw [hrln]; exact HLA.out, HBA.out⟩⟩⟩)
          · have HR0 := Lib.hid (show (v.next u).msg.2 ≠ 0 from by rw [HR.out]; exact h0)
            have h0' : (r2 != 0) = true := by simpa using h0
            have HE2 := Lib.hid (show (v.next u).msg.2 = r2 from by rw [HR.out])
            clear h0
            go_upto_region 11 with fail
            refine wp_region_lit ?_
            iterate 7 go_step
            refine wp_store_row 38 _ _ rfl (w.heap.size + 1) (ver0.arr (.slice none 0 0)) rfl rfl 38 (ver0.arr (.slice none 0 0)) HY6.out (by kernel_rfl) rfl ver0.arr_one ?_
            have HYe := Lib.hid (setRow_heap w6 (w.heap.size + 1) _ (ver0.arr (.slice none 0 0)) _ _ HY6.out)
            have HBe := Lib.hid (below_setRow HB6.out (g := w.heap.size + 1) (by omega) (ver0.arr (.slice none 0 0)))
            obtain ⟨we, hwe⟩ : ∃ we, World.setRow w6 (w.heap.size + 1) (ver0.arr (.slice none 0 0)) = we := ⟨_, rfl⟩
            rw [hwe] at HYe HBe ⊢
            clear hwe
            go_wp2
            refine bodyPost_ret (v := .tuple #[.agg (ver0.arr (.slice none 0 0)), .slice none 0 0, .int .i64 r2]) (Eq.trans (results_row_tmp2 rfl _ _ (w.heap.size + 1) 38 (ver0.arr (.slice none 0 0)) (0, 0) _ rfl HYe.out Try.underlying38 rfl (by kernel_rfl)) (by rfl)) rfl ?_
            have HRR := Lib.hid (show RetR .i64 ver0 [] r2 w (.returned (.tuple #[.agg (ver0.arr (.slice none 0 0)), .slice none 0 0, .int .i64 r2])) we from ⟨none, 0, 0, none, 0, rfl, ⟨rfl, Nat.le_refl _, Nat.zero_le _, 0, 0, fun h => absurd h (Nat.lt_irrefl _), fun k s h => by simp [ver0] at h⟩, SlV.nil _ 0 (by omega) none, HBe.out⟩)
            exact .inr (.inr ⟨i, u, HO.out, HI.out, HU.out, .inr ⟨HG.out, .inl ⟨HR0.out, by rw [HE2.out]; exact HRR.out⟩⟩⟩)
end Go.Proofs.Ytnfkccohmkfnoaa

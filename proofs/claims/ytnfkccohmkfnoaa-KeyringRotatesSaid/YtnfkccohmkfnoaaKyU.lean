/- Walk: keyring.Rotate. -/
import Derived.Test.YtnfkccohmkfnoaaKyT
set_option linter.unusedVariables false
set_option linter.unusedSimpArgs false
namespace Go.Proofs.Ytnfkccohmkfnoaa
open Go.RowKit
open Go.Maps Go.WideMaps

/-- The version that comes next. -/
def Ver.next (v u : Ver) : Ver := ⟨v.name, u.num + 1, v.kn, v.km, v.ko, v.kz, v.ks, v.kr, v.ku, v.kh, v.sm, v.so, v.sg, v.sy, v.fr, 4096, ⟨#[]⟩, ⟨#[]⟩⟩
/-- A version that ends. -/
def Ver.ended (u : Ver) (e : Int) : Ver := ⟨u.name, u.num, u.kn, u.km, u.ko, u.kz, u.ks, u.kr, u.ku, u.kh, u.sm, u.so, u.sg, u.sy, u.fr, e, ⟨#[]⟩, ⟨#[]⟩⟩
/-- The list behind a rotation. -/
def rotL (l : List Ver) (i : Nat) (u : Ver) (e : Int) : List Ver := if e < u.to then l.set i (u.ended e) else l
/-- Far from the limits of int. -/
def Ver.calm (v : Ver) : Prop := -1099511627776 ≤ v.fr ∧ v.fr ≤ 1099511627776 ∧ -1099511627776 ≤ v.to ∧ v.to ≤ 1099511627776 ∧ -9223372036854775808 ≤ v.num ∧ v.num ≤ 1099511627776
def CalmL (l : List Ver) : Prop := ∀ (k : Nat) (v : Ver), l[k]? = some v → v.calm
/-- The call returned a version, a list and an error. -/
def RetR (k : IntKind) (v : Ver) (l : List Ver) (f : Int) (w : World) (e : Ending) (w' : World) : Prop := ∃ A n c A2 c2, e = .returned (.tuple #[v.val (.slice A n c), .slice A2 l.length c2, .int k f]) ∧ SlN w' A n c v.kr ∧ SlV w' A2 l.length c2 l ∧ Below w.heap.size w w'
/-- What Rotate returns. -/
def RetRot (l : List Ver) (v : Ver) (o : Int) (w : World) (e : Ending) (w' : World) : Prop :=
  ((o < 0 ∨ 4096 < o) ∧ RetR .i64 ver0 [] 2 w e w') ∨ (¬ (o < 0 ∨ 4096 < o) ∧ lastI l v.name = none ∧ RetR .i64 ver0 [] 22 w e w') ∨
  ∃ i u, ¬ (o < 0 ∨ 4096 < o) ∧ lastI l v.name = some i ∧ l[i]? = some u ∧
    (((v.fr ≤ u.fr ∨ u.to < v.fr - 1) ∧ RetR .i64 ver0 [] 21 w e w') ∨ (¬ (v.fr ≤ u.fr ∨ u.to < v.fr - 1) ∧
      (((v.next u).msg.2 ≠ 0 ∧ RetR .i64 ver0 [] (v.next u).msg.2 w e w') ∨ ((v.next u).msg.2 = 0 ∧ RetR .i64 (v.next u) (rotL l i u (v.fr + o - 1)) 0 w e w'))))

theorem arr_next (v u : Ver) (A : Option Addr) (n c : Nat) : ((((v.arr (.slice A n c)).setIfInBounds 1 (.int .i64 (u.num + 1))).setIfInBounds 15 (.int .i64 4096)).setIfInBounds 16 (.string ⟨#[]⟩)).setIfInBounds 17 (.string ⟨#[]⟩) = (v.next u).arr (.slice A n c) := by
  unfold Ver.arr Ver.next
  simp only [List.setIfInBounds_toArray, List.set_cons_zero, List.set_cons_succ]
/-- A row of versions in which one was ended. -/
theorem ended_row {w w4 : World} {g n cap i base : Nat} {vs : List Value} {l : List Ver} {u : Ver} (e : Int) (hown : w.ownsRow base 38 18 (.slice (some ⟨g, 0, none⟩) n cap) n vs) (hr : VRowO w (some g) base vs l) (hi : l[i]? = some u) (hw4 : ∀ b, base ≤ b → w4.heap[b]? = (((w.setCell ⟨g, i * 18 + 15, none⟩ (.int .i64 e)).setCell ⟨g, i * 18 + 16, none⟩ (.string ⟨#[]⟩)).setCell ⟨g, i * 18 + 17, none⟩ (.string ⟨#[]⟩)).heap[b]?) :
    SlV w4 (some ⟨g, 0, none⟩) n cap (l.set i (u.ended e)) := by
  have hln := hr.len hown
  have hil := (List.getElem?_eq_some_iff.1 hi).1
  rcases hown.2 with ⟨h, _⟩ | ⟨g', cap', cur, hv, hb, hh, hc, hm, hs, ht⟩
  · cases h
  · cases hv
    have hh3 := block_setCell (block_setCell (block_setCell hh (j := i * 18 + 15) (.int .i64 e)) (j := i * 18 + 16) (.string ⟨#[]⟩)) (j := i * 18 + 17) (.string ⟨#[]⟩)
    obtain ⟨w3, hw3⟩ : ∃ w3, ((w.setCell ⟨g, i * 18 + 15, none⟩ (.int .i64 e)).setCell ⟨g, i * 18 + 16, none⟩ (.string ⟨#[]⟩)).setCell ⟨g, i * 18 + 17, none⟩ (.string ⟨#[]⟩) = w3 := ⟨_, rfl⟩
    have hoth : ∀ b, b ≠ g → w3.heap[b]? = w.heap[b]? := fun b hb => by
      rw [← hw3, heap_setCell_other _ _ _ _ hb, heap_setCell_other _ _ _ _ hb, heap_setCell_other _ _ _ _ hb]
    rw [hw3] at hh3 hw4
    have hh3 := (hw4 g hb).trans hh3
    refine ⟨by rw [List.length_set]; exact hln.symm, hc, by unfold maxLen at hm; exact hm, g, 0, fun _ => rfl, fun k v' hk => ?_⟩
    have hcell : ∀ j x, vs[j]? = some x → cur[j]? = some x := fun j x hj => by
      have hjl := (List.getElem?_eq_some_iff.1 hj).1
      have hvl := hown.1
      rw [← ht] at hj
      rw [List.getElem?_take_of_lt (by omega)] at hj
      simpa using hj
    have hget : ∀ k v, l[k]? = some v → ∃ A m c, SlO w (some g) base A m c v.kr ∧ ∀ j x, (v.vals (.slice A m c))[j]? = some x → cur[k * 18 + j]? = some x := fun k v h => by
      obtain ⟨A, m, c, h1, h2⟩ := hr.get h
      exact ⟨A, m, c, h1, fun j x hx => hcell _ _ (h2 j x hx)⟩
    have hsl : ∀ A m c l', SlO w (some g) base A m c l' → SlN w4 A m c l' := fun A m c l' h => h.1.of_blocks fun h0 a ha => (hw4 _ (h.2 h0 a ha).2).trans (hoth _ (fun e => by have := (h.2 h0 a ha).1; rw [e] at this; exact this rfl))
    have hsz : cur.size = cap * 18 := hs
    by_cases hki : k = i
    · subst hki
      rw [List.getElem?_set_self hil] at hk
      cases hk
      obtain ⟨A, m, c, h1, h2⟩ := hget k u hi
      refine ⟨A, m, c, fun j x hx => ?_, hsl _ _ _ _ h1⟩
      have hj : j < 18 := (List.getElem?_eq_some_iff.1 hx).1
      rw [Nat.zero_add, Lib.cell_of_heap hh3]
      have hb17 : k * 18 + 17 < cur.size := by rw [hsz]; omega
      by_cases h17 : j = 17
      · subst h17
        cases hx
        rw [Array.getElem?_setIfInBounds_self_of_lt (by simp; exact hb17)]
        rfl
      · rw [Array.getElem?_setIfInBounds_ne (by omega)]
        by_cases h16 : j = 16
        · subst h16
          cases hx
          rw [Array.getElem?_setIfInBounds_self_of_lt (by simp; omega)]
          rfl
        · rw [Array.getElem?_setIfInBounds_ne (by omega)]
          by_cases h15 : j = 15
          · subst h15
            cases hx
            rw [Array.getElem?_setIfInBounds_self_of_lt (by omega)]
            rfl
          · rw [Array.getElem?_setIfInBounds_ne (by omega)]
            refine h2 j x ?_
            rcases (show j = 0 ∨ j = 1 ∨ j = 2 ∨ j = 3 ∨ j = 4 ∨ j = 5 ∨ j = 6 ∨ j = 7 ∨ j = 8 ∨ j = 9 ∨ j = 10 ∨ j = 11 ∨ j = 12 ∨ j = 13 ∨ j = 14 from by omega) with rfl | rfl | rfl | rfl | rfl | rfl | rfl | rfl | rfl | rfl | rfl | rfl | rfl | rfl | rfl <;> exact hx
    · rw [List.getElem?_set_ne (by omega)] at hk
      obtain ⟨A, m, c, h1, h2⟩ := hget k v' hk
      refine ⟨A, m, c, fun j x hx => ?_, hsl _ _ _ _ h1⟩
      have hj : j < 18 := (List.getElem?_eq_some_iff.1 hx).1
      rw [Nat.zero_add, Lib.cell_of_heap hh3, Array.getElem?_setIfInBounds_ne (by omega), Array.getElem?_setIfInBounds_ne (by omega), Array.getElem?_setIfInBounds_ne (by omega)]
      exact h2 j x hx

/-- A row of versions as it was. -/
theorem plain_row {w w4 : World} {g n cap base : Nat} {vs : List Value} {l : List Ver} (hown : w.ownsRow base 38 18 (.slice (some ⟨g, 0, none⟩) n cap) n vs) (hr : VRowO w (some g) base vs l) (hw4 : ∀ b, base ≤ b → w4.heap[b]? = w.heap[b]?) : SlV w4 (some ⟨g, 0, none⟩) n cap l := by
  have hln := hr.len hown
  have hcl := hown.cells (g := g) rfl
  rcases hown.2 with ⟨h, _⟩ | ⟨g', cap', cur, hv, hb, hh, hc, hm, hs, ht⟩
  · cases h
  · cases hv
    refine ⟨hln.symm, hc, by unfold maxLen at hm; exact hm, g, 0, fun _ => rfl, fun k v hk => ?_⟩
    obtain ⟨A, m, c, h1, h2⟩ := hr.get hk
    refine ⟨A, m, c, fun j x hx => ?_, h1.1.of_blocks fun h0 a ha => hw4 _ (h1.2 h0 a ha).2⟩
    have := hcl _ x (h2 j x hx)
    rw [addr_add] at this
    rw [World.cell?_of_block (w := w) (hw4 g hb), show 0 + k * 18 + j = 0 + (k * 18 + j) from by omega]
    exact this
theorem SlO.set {w : World} {g k lo : Nat} {A : Option Addr} {n c : Nat} {l : List ByteArray} (h : SlO w (some g) lo A n c l) (u : Value) : SlO (w.setCell ⟨g, k, none⟩ u) (some g) lo A n c l :=
  ⟨h.1.of_blocks fun hn a e => heap_setCell_other _ _ _ _ (fun e' => (h.2 hn a e).1 (by rw [e'])), h.2⟩
theorem SlO.rowset {w : World} {g lo : Nat} {A : Option Addr} {n c : Nat} {l : List ByteArray} (h : SlO w (some g) lo A n c l) (cs : Array Value) : SlO (w.setRow g cs) (some g) lo A n c l :=
  ⟨h.1.of_blocks fun hn a e => setRow_other _ _ _ _ (fun e' => (h.2 hn a e).1 (by rw [e'])), h.2⟩
theorem next_sz {v u : Ver} (h : SzL v.str) : SzL (v.next u).str := fun s hs => by
  have : s = ⟨#[]⟩ ∨ s ∈ v.str := by
    simp only [Ver.str, Ver.keyStr, Ver.next, List.mem_append, List.mem_cons, List.mem_nil_iff, or_false] at hs ⊢
    rcases hs with (h | h | h | h | h | h | h) | (h | h | h | h | h | h | h) | h <;> simp [h]
  rcases this with rfl | h1
  · decide
  · exact h s h1
theorem results_row_tmp2 {P : Program} {fn : Func} {p q r : Tmp} {ty : TypeId} (h : fn.results = #[.cell p ty, .tmp q, .tmp r]) (tmps : Array Value) (w : World) (g : Nat) (t : TypeId) (cs : Array Value) (fr : Nat × Nat) (d : TypeDesc)
    (hp : tmps.getD p undef = .pointer (some ⟨g, 0, none⟩)) (hg : w.heap[g]? = some (.cells cs t fr))
    (hu : P.underlying ty = some d) (hd : (match d with | .struct _ | .array _ _ => true | _ => false) = true) (hi : (P.info? ty).map (·.size) = some cs.size) :
    (results fn tmps).run P w = .ok (.tuple #[.agg cs, tmps.getD q undef, tmps.getD r undef]) w := by
  have hp' : tmps[p]?.getD undef = .pointer (some ⟨g, 0, none⟩) := by simpa using hp
  simp [results, h, hp', asAddr, run_loadVar_row w g t ty cs fr d hg hu hd hi]
set_option maxRecDepth 100000 in
set_option maxHeartbeats 4000000 in
theorem ky_Rotate (l : List Ver) (A : Option Addr) (len cap : Nat) (v : Ver) (A1 : Option Addr) (n1 c1 : Nat) (o : Int) (w : World) (hs : SlV w A len cap l) (hlen : len ≤ 4096) (hz : SzV l) (hfw : FwV l) (hv : SlN w A1 n1 c1 v.kr) (hn1 : n1 ≤ 100) (hvz : SzL v.str) (hnm : v.name.size ≤ maxLen) (hcl : CalmL l) (hcv : v.calm) :
    Calls Try.prog 13 #[.slice A len cap, .agg (v.arr (.slice A1 n1 c1)), .int .i64 o] w (RetRot l v o w) := by
  obtain ⟨cs, hcs⟩ : ∃ cs, v.arr (.slice A1 n1 c1) = cs := ⟨_, rfl⟩
  rw [hcs]
  have HVA := Lib.hid hcs
  have HCS := Lib.hid (show cs.size = 18 from by rw [← hcs]; rfl)
  obtain ⟨W0, hW0⟩ : ∃ W0, (w.alloc (.cells cs 38)).alloc (.cells (ver0.arr (.slice none 0 0)) 38) = W0 := ⟨_, rfl⟩
  have HX0 := Lib.hid (show BxC W0 w.heap.size cs 38 from by rw [← hW0]; exact (BxC.new w _ _).alloc _)
  have HY0 := Lib.hid (show BxC W0 (w.heap.size + 1) (ver0.arr (.slice none 0 0)) 38 from by rw [← hW0]; exact BxC.new1 w _ _ _)
  have HB0 := Lib.hid (show Below w.heap.size w W0 from by rw [← hW0]; exact ((Below.refl _ _).alloc (Nat.le_refl _) _).alloc (by simp) _)
  have HSW := Lib.hid hs
  have HSL := Lib.hid hv
  have HZ := Lib.hid hz
  have HFW := Lib.hid hfw
  have HNM := Lib.hid hnm
  have HCL := Lib.hid hcl
  have HCV := Lib.hid hcv
  have HVZ := Lib.hid hvz
  have HLEN := Lib.hid hs.1
  have hcap := hs.2.1
  have hcap2 := hs.2.2.1
  unfold ver0 Ver.arr at hW0
  clear hs hz hfw hnm hcl hcv hvz hcs hv
  by_cases ho : o < 0 ∨ 4096 < o
  · have HO := Lib.hid ho
    go_enter Try.func13, Try.ntmps13
    by_cases h1 : o < 0
    · go_upto_region 2 with fail
      try rw [hW0]
      clear hW0
      refine wp_region_lit ?_
      iterate 4 go_step
      refine wp_store_row 38 _ _ rfl (w.heap.size + 1) (ver0.arr (.slice none 0 0)) rfl rfl 38 (ver0.arr (.slice none 0 0)) HY0.out (by kernel_rfl) rfl ver0.arr_one ?_
      have HYe := Lib.hid (setRow_heap W0 (w.heap.size + 1) _ (ver0.arr (.slice none 0 0)) _ _ HY0.out)
      have HBe := Lib.hid (below_setRow HB0.out (g := w.heap.size + 1) (by omega) (ver0.arr (.slice none 0 0)))
      obtain ⟨we, hwe⟩ : ∃ we, World.setRow W0 (w.heap.size + 1) (ver0.arr (.slice none 0 0)) = we := ⟨_, rfl⟩
      rw [hwe] at HYe HBe ⊢
      clear hwe
      go_wp2
      refine bodyPost_ret (v := .tuple #[.agg (ver0.arr (.slice none 0 0)), .slice none 0 0, .int .i64 2]) (Eq.trans (results_row_tmp2 rfl _ _ (w.heap.size + 1) 38 (ver0.arr (.slice none 0 0)) (0, 0) _ rfl HYe.out Try.underlying38 rfl (by kernel_rfl)) (by rfl)) rfl ?_
      have HRR := Lib.hid (show RetR .i64 ver0 [] 2 w (.returned (.tuple #[.agg (ver0.arr (.slice none 0 0)), .slice none 0 0, .int .i64 2])) we from ⟨none, 0, 0, none, 0, rfl, ⟨rfl, Nat.le_refl _, Nat.zero_le _, 0, 0, fun h => absurd h (Nat.lt_irrefl _), fun k s h => by simp [ver0] at h⟩, SlV.nil _ 0 (by omega) none, HBe.out⟩)
      exact .inl ⟨HO.out, HRR.out⟩
    · have h2 : 4096 < o := by omega
      go_upto_region 2 with fail
      try rw [hW0]
      clear hW0
      refine wp_region_lit ?_
      iterate 4 go_step
      refine wp_store_row 38 _ _ rfl (w.heap.size + 1) (ver0.arr (.slice none 0 0)) rfl rfl 38 (ver0.arr (.slice none 0 0)) HY0.out (by kernel_rfl) rfl ver0.arr_one ?_
      have HYe := Lib.hid (setRow_heap W0 (w.heap.size + 1) _ (ver0.arr (.slice none 0 0)) _ _ HY0.out)
      have HBe := Lib.hid (below_setRow HB0.out (g := w.heap.size + 1) (by omega) (ver0.arr (.slice none 0 0)))
      obtain ⟨we, hwe⟩ : ∃ we, World.setRow W0 (w.heap.size + 1) (ver0.arr (.slice none 0 0)) = we := ⟨_, rfl⟩
      rw [hwe] at HYe HBe ⊢
      clear hwe
      go_wp2
      refine bodyPost_ret (v := .tuple #[.agg (ver0.arr (.slice none 0 0)), .slice none 0 0, .int .i64 2]) (Eq.trans (results_row_tmp2 rfl _ _ (w.heap.size + 1) 38 (ver0.arr (.slice none 0 0)) (0, 0) _ rfl HYe.out Try.underlying38 rfl (by kernel_rfl)) (by rfl)) rfl ?_
      have HRR := Lib.hid (show RetR .i64 ver0 [] 2 w (.returned (.tuple #[.agg (ver0.arr (.slice none 0 0)), .slice none 0 0, .int .i64 2])) we from ⟨none, 0, 0, none, 0, rfl, ⟨rfl, Nat.le_refl _, Nat.zero_le _, 0, 0, fun h => absurd h (Nat.lt_irrefl _), fun k s h => by simp [ver0] at h⟩, SlV.nil _ 0 (by omega) none, HBe.out⟩)
      exact .inl ⟨HO.out, HRR.out⟩
  · have HO := Lib.hid ho
    have ho1 : ¬ o < 0 := fun h => ho (.inl h)
    have ho2 : ¬ 4096 < o := fun h => ho (.inr h)
    clear ho
    have x0 : W0.drew.cell? ⟨w.heap.size, 0, none⟩ = some (.string v.name) := (HX0.out.cell 0).trans (by rw [← HVA.out]; rfl)
    go_enter Try.func13, Try.ntmps13
    go_wp2
    try rw [hW0]
    clear hW0
    refine wp_region_K 10 (Below (W0.drew).heap.size (W0.drew)) (by kernel_rfl) ?_
    intro hD
    refine wpAnyK_pure (i := 0) (v := ?v3_0b1) (fuel := 9) rfl (by kernel_rfl) (fun _ _ _ h => h) hD (Below.refl _ _) (.inl ⟨by kernel_rfl, ?y3_0b1⟩) ?n3_0b1
    case y3_0b1 => intro w' _; go_simp; with_reducible rfl
    clear hD; intro hD
    simp only [Act.put, List.setIfInBounds_toArray, List.set_cons_zero, List.set_cons_succ]
    refine wpAnyK_pure (i := 2) (v := ?v3_2b1) (fuel := 8) rfl (by kernel_rfl) (fun _ _ _ h => h) hD (Below.refl _ _) (.inl ⟨by kernel_rfl, ?y3_2b1⟩) ?n3_2b1
    case y3_2b1 => intro w' _; go_simp; with_reducible rfl
    clear hD; intro hD
    simp only [Act.put, List.setIfInBounds_toArray, List.set_cons_zero, List.set_cons_succ]
    refine wpAnyK_takeS (i := 3) (v := ?v3_3b1) (fuel := 7) rfl (by kernel_rfl) (by kernel_rfl) (fun _ _ _ h => h) hD (Below.refl _ _) (.inl ⟨by kernel_rfl, ?y3_3b1⟩) ?n3_3b1
    case y3_3b1 => intro w' hS'; have e0 := cell_kept hS' (Nat.le_refl _) x0; go_simp; with_reducible rfl
    clear hD; intro hD
    simp only [Act.put, List.setIfInBounds_toArray, List.set_cons_zero, List.set_cons_succ]
    refine wpAnyK_one (i := 1) (fuel := 6) (by kernel_rfl) rfl hD ?_
    clear hD; intro K1 hK1
    go_wp2_with fail
    refine (ky_last l A len cap _ ((HSW.out.kept HB0.out (Nat.le_refl _)).kept (Below.refl _ _).drew (Nat.le_refl _)) hlen HZ.out).mono ?_
    rintro e w1 ⟨mb, rfl, hmb, ⟨D, hD, hF⟩, hb1⟩
    have HB1 := Lib.hid hb1
    have HOWN1 := Lib.hid hD
    have HF := Lib.hid hF
    clear hb1 hD hF
    go_wp2
    refine hK1 _ _ (by exact HB1.out) ?_; clear hK1; intro hS_3_1 hD
    refine wpAnyK_one (i := 4) (fuel := 5) (by kernel_rfl) rfl hD ?_
    clear hD; intro K4 hK4
    refine wpList_lookup_own_ok_int _ rfl _ _ 58 rfl 9 3 .i64 lawS Try.underlying58 Try.underlying3 (zeroI _) mb l.length D rfl HOWN1.out (.string v.name) (.string v.name.data.toList) rfl (keyS HNM.out) ?_
    intro c hat hwc
    go_wp2
    refine hK4 _ _ (by exact hS_3_1) ?_; clear hK4; intro hS_3_4 hD
    refine wpAnyK_pure (i := 5) (v := ?v3_5b1) (fuel := 4) rfl (by kernel_rfl) (fun _ _ _ h => h) hD hS_3_4 (.inl ⟨by kernel_rfl, ?y3_5b1⟩) ?n3_5b1
    case y3_5b1 => intro w' _; go_simp; with_reducible rfl
    clear hD; intro hD
    simp only [Act.put, List.setIfInBounds_toArray, List.set_cons_zero, List.set_cons_succ]
    refine wpAnyK_pure (i := 6) (v := ?v3_6b1) (fuel := 3) rfl (by kernel_rfl) (fun _ _ _ h => h) hD hS_3_4 (.inl ⟨by kernel_rfl, ?y3_6b1⟩) ?n3_6b1
    case y3_6b1 => intro w' _; go_simp; with_reducible rfl
    clear hD; intro hD
    simp only [Act.put, List.setIfInBounds_toArray, List.set_cons_zero, List.set_cons_succ]
    refine wpAnyK_pure (i := 7) (v := ?v3_7b1) (fuel := 2) rfl (by kernel_rfl) (fun _ _ _ h => h) hD hS_3_4 (.inl ⟨by kernel_rfl, ?y3_7b1⟩) ?n3_7b1
    case y3_7b1 => intro w' _; go_simp; with_reducible rfl
    clear hD; intro hD
    simp only [Act.put, List.setIfInBounds_toArray, List.set_cons_zero, List.set_cons_succ]
    refine wpAnyK_one (i := 8) (fuel := 1) (by kernel_rfl) rfl hD ?_
    clear hD; intro K8 hK8
    go_wp2
    refine hK8 _ _ (by exact hS_3_4) ?_; clear hK8; intro hS_3_8 hD
    refine wpAnyK_one (i := 9) (fuel := 0) (by kernel_rfl) rfl hD ?_
    clear hD; intro K9 hK9
    go_wp2
    refine hK9 _ _ (by exact hS_3_8) ?_; clear hK9; intro hS_3_9 hD
    have HL1 := Lib.hid hS_3_8
    refine wpAnyK_done (by kernel_rfl) ?_ 0
    clear hD
    have hb01 : Below W0.heap.size W0 w1 := ((Below.refl _ _).drew).trans HL1.out
    have HX1 := Lib.hid (HX0.out.next hb01)
    have HY1 := Lib.hid (HY0.out.next hb01)
    have HB1 := Lib.hid (HB0.out.trans (hb01.mono HB0.out.size))
    have HB1d := Lib.hid HB1.out.drew
    clear hb01
    cases hi : lastI l v.name with
    | none =>
      rw [show Maps.has D (.string v.name.data.toList) = false from by rw [(HF.out v.name).1, hi]; rfl]
      have HI := Lib.hid hi
      clear hi hat hwc
      go_upto_region 5 with fail
      refine wp_region_lit ?_
      iterate 4 go_step
      refine wp_store_row 38 _ _ rfl (w.heap.size + 1) (ver0.arr (.slice none 0 0)) rfl rfl 38 (ver0.arr (.slice none 0 0)) HY1.out (by kernel_rfl) rfl ver0.arr_one ?_
      have HYe := Lib.hid (setRow_heap w1 (w.heap.size + 1) _ (ver0.arr (.slice none 0 0)) _ _ HY1.out)
      have HBe := Lib.hid (below_setRow HB1.out (g := w.heap.size + 1) (by omega) (ver0.arr (.slice none 0 0)))
      obtain ⟨we, hwe⟩ : ∃ we, World.setRow w1 (w.heap.size + 1) (ver0.arr (.slice none 0 0)) = we := ⟨_, rfl⟩
      rw [hwe] at HYe HBe ⊢
      clear hwe
      go_wp2
      refine bodyPost_ret (v := .tuple #[.agg (ver0.arr (.slice none 0 0)), .slice none 0 0, .int .i64 22]) (Eq.trans (results_row_tmp2 rfl _ _ (w.heap.size + 1) 38 (ver0.arr (.slice none 0 0)) (0, 0) _ rfl HYe.out Try.underlying38 rfl (by kernel_rfl)) (by rfl)) rfl ?_
      have HRR := Lib.hid (show RetR .i64 ver0 [] 22 w (.returned (.tuple #[.agg (ver0.arr (.slice none 0 0)), .slice none 0 0, .int .i64 22])) we from ⟨none, 0, 0, none, 0, rfl, ⟨rfl, Nat.le_refl _, Nat.zero_le _, 0, 0, fun h => absurd h (Nat.lt_irrefl _), fun k s h => by simp [ver0] at h⟩, SlV.nil _ 0 (by omega) none, HBe.out⟩)
      exact .inr (.inl ⟨HO.out, HI.out, HRR.out⟩)
    | some i =>
      obtain ⟨hil, u, hu, _⟩ := bestI_lt hi
      obtain rfl : c = (i : Int) := by
        rw [(HF.out v.name).2 i hi] at hat
        injection hat with h1
        injection h1 with _ h2
        exact h2.symm
      rw [show Maps.has D (.string v.name.data.toList) = true from by rw [(HF.out v.name).1, hi]; rfl]
      have HI := Lib.hid hi
      have HU := Lib.hid hu
      have hll : i < len := by rw [← HLEN.out]; exact hil
      obtain ⟨b, p, rfl⟩ := HSW.out.head (by omega)
      obtain ⟨A2, n2, c2, hvc, _⟩ := (HSW.out.kept HB1.out (Nat.le_refl _)).get? i hu
      have y14 : w1.drew.cell? ⟨b, p + i * 18 + 14, none⟩ = some (.int .i64 u.fr) := hvc.open.2.2.2.2.2.2.2.2.2.2.2.2.2.2.1
      have y15 : w1.drew.cell? ⟨b, p + i * 18 + 15, none⟩ = some (.int .i64 u.to) := hvc.open.2.2.2.2.2.2.2.2.2.2.2.2.2.2.2.1
      have x14 : w1.drew.cell? ⟨w.heap.size, 14, none⟩ = some (.int .i64 v.fr) := (HX1.out.cell 14).trans (by rw [← HVA.out]; rfl)
      obtain ⟨v1, v2, v3, v4, v5, v6⟩ := HCV.out
      clear hi hu hvc hat hwc hil
      by_cases g1 : v.fr ≤ u.fr
      · have HG := Lib.hid (show v.fr ≤ u.fr ∨ u.to < v.fr - 1 from .inl g1)
        have g1' : decide (v.fr ≤ u.fr) = true := decide_eq_true g1
        clear g1
        go_wp2
        go_region
        go_upto_region 7 with fail
        refine wp_region_lit ?_
        iterate 4 go_step
        refine wp_store_row 38 _ _ rfl (w.heap.size + 1) (ver0.arr (.slice none 0 0)) rfl rfl 38 (ver0.arr (.slice none 0 0)) HY1.out (by kernel_rfl) rfl ver0.arr_one ?_
        have HYe := Lib.hid (setRow_heap w1.drew (w.heap.size + 1) _ (ver0.arr (.slice none 0 0)) _ _ HY1.out)
        have HBe := Lib.hid (below_setRow HB1d.out (g := w.heap.size + 1) (by omega) (ver0.arr (.slice none 0 0)))
        obtain ⟨we, hwe⟩ : ∃ we, World.setRow w1.drew (w.heap.size + 1) (ver0.arr (.slice none 0 0)) = we := ⟨_, rfl⟩
        rw [hwe] at HYe HBe ⊢
        clear hwe
        go_wp2
        refine bodyPost_ret (v := .tuple #[.agg (ver0.arr (.slice none 0 0)), .slice none 0 0, .int .i64 21]) (Eq.trans (results_row_tmp2 rfl _ _ (w.heap.size + 1) 38 (ver0.arr (.slice none 0 0)) (0, 0) _ rfl HYe.out Try.underlying38 rfl (by kernel_rfl)) (by rfl)) rfl ?_
        have HRR := Lib.hid (show RetR .i64 ver0 [] 21 w (.returned (.tuple #[.agg (ver0.arr (.slice none 0 0)), .slice none 0 0, .int .i64 21])) we from ⟨none, 0, 0, none, 0, rfl, ⟨rfl, Nat.le_refl _, Nat.zero_le _, 0, 0, fun h => absurd h (Nat.lt_irrefl _), fun k s h => by simp [ver0] at h⟩, SlV.nil _ 0 (by omega) none, HBe.out⟩)
        exact .inr (.inr ⟨i, u, HO.out, HI.out, HU.out, .inl ⟨HG.out, HRR.out⟩⟩)
      · by_cases g2 : u.to < v.fr - 1
        · have HG := Lib.hid (show v.fr ≤ u.fr ∨ u.to < v.fr - 1 from .inr g2)
          have g1' : decide (v.fr ≤ u.fr) = false := decide_eq_false g1
          have g2' : decide (u.to < v.fr - 1) = true := decide_eq_true g2
          clear g1 g2
          go_wp2
          go_region
          go_upto_region 7 with fail
          refine wp_region_lit ?_
          iterate 4 go_step
          refine wp_store_row 38 _ _ rfl (w.heap.size + 1) (ver0.arr (.slice none 0 0)) rfl rfl 38 (ver0.arr (.slice none 0 0)) HY1.out (by kernel_rfl) rfl ver0.arr_one ?_
          have HYe := Lib.hid (setRow_heap w1.drew (w.heap.size + 1) _ (ver0.arr (.slice none 0 0)) _ _ HY1.out)
          have HBe := Lib.hid (below_setRow HB1d.out (g := w.heap.size + 1) (by omega) (ver0.arr (.slice none 0 0)))
          obtain ⟨we, hwe⟩ : ∃ we, World.setRow w1.drew (w.heap.size + 1) (ver0.arr (.slice none 0 0)) = we := ⟨_, rfl⟩
          rw [hwe] at HYe HBe ⊢
          clear hwe
          go_wp2
          refine bodyPost_ret (v := .tuple #[.agg (ver0.arr (.slice none 0 0)), .slice none 0 0, .int .i64 21]) (Eq.trans (results_row_tmp2 rfl _ _ (w.heap.size + 1) 38 (ver0.arr (.slice none 0 0)) (0, 0) _ rfl HYe.out Try.underlying38 rfl (by kernel_rfl)) (by rfl)) rfl ?_
          have HRR := Lib.hid (show RetR .i64 ver0 [] 21 w (.returned (.tuple #[.agg (ver0.arr (.slice none 0 0)), .slice none 0 0, .int .i64 21])) we from ⟨none, 0, 0, none, 0, rfl, ⟨rfl, Nat.le_refl _, Nat.zero_le _, 0, 0, fun h => absurd h (Nat.lt_irrefl _), fun k s h => by simp [ver0] at h⟩, SlV.nil _ 0 (by omega) none, HBe.out⟩)
          exact .inr (.inr ⟨i, u, HO.out, HI.out, HU.out, .inl ⟨HG.out, HRR.out⟩⟩)
        · have HG := Lib.hid (show ¬ (v.fr ≤ u.fr ∨ u.to < v.fr - 1) from fun h => h.elim g1 g2)
          have g1' : decide (v.fr ≤ u.fr) = false := decide_eq_false g1
          have g2' : decide (u.to < v.fr - 1) = false := decide_eq_false g2
          clear g1 g2
          go_wp2
          go_region
          have HBD := Lib.hid HB1d.out
          have hsl8 := HSL.out.kept HBD.out (Nat.le_refl _)
          have HCO := Lib.hid (show Calls Try.prog 20 #[.agg cs] w1.drew (RetVV v w1.drew) from by rw [← HVA.out]; exact ky_copied v A1 n1 c1 w1.drew hsl8 (by omega))
          have HX8 := Lib.hid (show BxC w1.drew w.heap.size cs 38 from HX1.out)
          have HY8 := Lib.hid (show BxC w1.drew (w.heap.size + 1) (ver0.arr (.slice none 0 0)) 38 from HY1.out)
          have hnn1 := HSL.out.1
          clear x14 y14 y15 hsl8 HX1 HY1
          go_upto_region 8 with fail
          refine wp_region_lit ?_
          refine wpList_load_row rfl 38 _ rfl w.heap.size rfl 38 cs (0, 0) _ HX8.out Try.underlying38 rfl (by rw [HCS.out]; kernel_rfl) ?_
          go_wp2_with fail
          refine HCO.out.mono ?_
          rintro ev w3 ⟨A3, n3, c3, rfl, ⟨B3, hB3, hown⟩, hb3⟩
          have HX3 := Lib.hid (HX8.out.next hb3)
          have HY3 := Lib.hid (HY8.out.next hb3)
          have HB3 := Lib.hid (HBD.out.trans (hb3.mono HBD.out.size))
          have hlt8 : w.heap.size < w1.drew.heap.size := HX8.out.lt
          obtain ⟨hl4, A4, c4, e4, hs4⟩ := SlN.of_owns (ownsRow_below_row hown (g := w.heap.size) (by omega) (v.arr (.slice A3 n3 c3)))
          cases e4
          have HX4 := Lib.hid (show BxC _ w.heap.size (v.arr (.slice A3 n3 c3)) 38 from setRow_heap w3 w.heap.size _ (v.arr (.slice A3 n3 c3)) _ _ HX3.out)
          have HY4 := Lib.hid (HY3.out.row (C := w.heap.size) (ds := v.arr (.slice A3 n3 c3)) (by omega))
          have HB4 := Lib.hid (below_setRow HB3.out (Nat.le_refl _) (v.arr (.slice A3 n3 c3)))
          have HS4 := Lib.hid hs4
          have hn34 : n3 ≤ 100 := by rw [← hs4.1, hnn1]; exact hn1
          have HSO4 := Lib.hid (show SlO _ (some w.heap.size) (w.heap.size + 1 + 1) A3 n3 c3 v.kr from ⟨hs4, fun hn a e => by
            have h2 := (hown.lt a.block (by rw [e]; rfl)).1
            have h3 := HY8.out.lt
            exact ⟨fun h => by simp only [Option.some.injEq] at h; omega, by omega⟩⟩)
          clear hb3 hown hB3 hs4 hl4 hlt8
          rw [show v.val (.slice A3 n3 c3) = .agg (v.arr (.slice A3 n3 c3)) from rfl]
          dsimp only
          iterate 2 go_step
          refine wp_store_row 38 _ _ rfl (w.heap.size) (v.arr (.slice A3 n3 c3)) rfl rfl 38 cs HX3.out (by kernel_rfl) (by rw [HCS.out]; rfl) v.arr_one ?_
          obtain ⟨w4, hw4⟩ : ∃ w4, w3.setRow (w.heap.size) (v.arr (.slice A3 n3 c3)) = w4 := ⟨_, rfl⟩
          rw [hw4] at HX4 HY4 HB4 HS4 HSO4 ⊢
          clear hw4
          obtain ⟨A5, n5, c5, hvc5, _⟩ := (HSW.out.kept HB4.out (Nat.le_refl _)).get? i HU.out
          have y1 : w4.cell? ⟨b, p + i * 18 + 1, none⟩ = some (.int .i64 u.num) := hvc5.open.2.1
          obtain ⟨_, _, _, _, u5, u6⟩ := HCL.out i u HU.out
          have f1 := HX4.out.free 1
          have f15 := HX4.out.free 15
          have f16 := HX4.out.free 16
          have f17 := HX4.out.free 17
          have z1 : w4.cell? ⟨w.heap.size, 1, none⟩ = some (.int .i64 v.num) := HX4.out.cell 1
          have z15 : w4.cell? ⟨w.heap.size, 15, none⟩ = some (.int .i64 v.to) := HX4.out.cell 15
          have z16 : w4.cell? ⟨w.heap.size, 16, none⟩ = some (.string v.sc) := HX4.out.cell 16
          have z17 : w4.cell? ⟨w.heap.size, 17, none⟩ = some (.string v.sr) := HX4.out.cell 17
          have HX5 := Lib.hid ((((HX4.out.set (k := 1) (.int .i64 (u.num + 1))).set (k := 15) (.int .i64 4096)).set (k := 16) (.string ⟨#[]⟩)).set (k := 17) (.string ⟨#[]⟩))
          rw [arr_next] at HX5
          have HY5 := Lib.hid ((((HY4.out.other (C := w.heap.size) (k := 1) (by omega) (.int .i64 (u.num + 1))).other (C := w.heap.size) (k := 15) (by omega) (.int .i64 4096)).other (C := w.heap.size) (k := 16) (by omega) (.string ⟨#[]⟩)).other (C := w.heap.size) (k := 17) (by omega) (.string ⟨#[]⟩))
          have HB5 := Lib.hid ((((HB4.out.setCell (p := ⟨w.heap.size, 1, none⟩) (Nat.le_refl _) (.int .i64 (u.num + 1))).setCell (p := ⟨w.heap.size, 15, none⟩) (Nat.le_refl _) (.int .i64 4096)).setCell (p := ⟨w.heap.size, 16, none⟩) (Nat.le_refl _) (.string ⟨#[]⟩)).setCell (p := ⟨w.heap.size, 17, none⟩) (Nat.le_refl _) (.string ⟨#[]⟩))
          clear hvc5
          go_upto_region 10 with fail
          obtain ⟨w5, hw5⟩ : ∃ w5, (((w4.setCell ⟨w.heap.size, 1, none⟩ (.int .i64 (u.num + 1))).setCell ⟨w.heap.size, 15, none⟩ (.int .i64 4096)).setCell ⟨w.heap.size, 16, none⟩ (.string ⟨#[]⟩)).setCell ⟨w.heap.size, 17, none⟩ (.string ⟨#[]⟩) = w5 := ⟨_, rfl⟩
          have HSO5 := Lib.hid ((((HSO4.out.set (k := 1) (.int .i64 (u.num + 1))).set (k := 15) (.int .i64 4096)).set (k := 16) (.string ⟨#[]⟩)).set (k := 17) (.string ⟨#[]⟩))
          rw [hw5] at HX5 HY5 HB5 HSO5 ⊢
          clear hw5 y1 f1 f15 f16 f17 z1 z15 z16 z17
          have HME := Lib.hid (ky_Message (v.next u) A3 n3 c3 w5 HSO5.out.1 hn34 (next_sz HVZ.out))
          obtain ⟨rr, hrr⟩ : ∃ rr, (v.next u).arr (.slice A3 n3 c3) = rr := ⟨_, rfl⟩
          have hrs : rr.size = 18 := by rw [← hrr]; rfl
          have hro : rr.all (·.oneCell') = true := by rw [← hrr]; exact (v.next u).arr_one
          have h14 : rr[14]? = some (.int .i64 v.fr) := by rw [← hrr]; rfl
          rw [hrr] at HX5 HME
          have HRV := Lib.hid hrr
          have HRS := Lib.hid hrs
          have HRO := Lib.hid hro
          have H14 := Lib.hid h14
          clear hrr hrs hro h14
          refine wp_region_lit ?_
          refine wpList_load_row rfl 38 _ rfl w.heap.size rfl 38 rr (0, 0) _ HX5.out Try.underlying38 rfl (by rw [HRS.out]; kernel_rfl) ?_
          go_wp2_with fail
          refine HME.out.mono ?_
          rintro ev w6 ⟨rfl, hb6⟩
          have HX6 := Lib.hid (HX5.out.next hb6)
          have HY6 := Lib.hid (HY5.out.next hb6)
          have HB6 := Lib.hid (HB5.out.trans (hb6.mono HB5.out.size))
          have HSO6 := Lib.hid (HSO5.out.kept hb6 (Nat.le_refl _))
          clear hb6
          obtain ⟨r1, r2, hr⟩ : ∃ r1 r2, (v.next u).msg = (r1, r2) := ⟨_, _, rfl⟩
          rw [hr]
          have HR := Lib.hid hr
          clear hr
          by_cases h0 : r2 = 0
          · have HR0 := Lib.hid (show (v.next u).msg.2 = 0 from by rw [HR.out]; exact h0)
            rw [h0]
            clear h0
            go_wp2_with fail
            refine (ky_all l _ len cap w6 (HSW.out.kept HB6.out (Nat.le_refl _)) hlen HFW.out).mono ?_
            rintro ev w7 ⟨rv, vs, rfl, hown, hvr, hb7⟩
            obtain ⟨g, cap7, rfl, hg6, hgh, hg7⟩ : ∃ g cap7, rv = .slice (some ⟨g, 0, none⟩) l.length cap7 ∧ w6.heap.size ≤ g ∧ (∃ cur, w7.heap[g]? = some (.cells cur 38 (0, 0))) ∧ g < w7.heap.size := by
              have hlt := hown.lt
              rcases hown.2 with ⟨_, h0⟩ | ⟨g, cap, cur, hv, hb, hh, _⟩
              · rw [HLEN.out] at h0; omega
              · exact ⟨g, cap, hv, hb, ⟨cur, hh⟩, block_lt hh⟩
            obtain ⟨cur, hcur⟩ := hgh
            have hvr' : VRowO w7 (some g) w6.heap.size vs l := hvr
            obtain ⟨A8, n8, c8, _, hvs⟩ := hvr'.get HU.out
            have y15 : w7.cell? ⟨g, i * 18 + 15, none⟩ = some (.int .i64 u.to) := by
              have := hown.cells (g := g) rfl (i * 18 + 15) _ (hvs 15 _ rfl)
              rw [addr_add, Nat.zero_add] at this
              exact this
            have y16 : w7.cell? ⟨g, i * 18 + 16, none⟩ = some (.string u.sc) := by
              have := hown.cells (g := g) rfl (i * 18 + 16) _ (hvs 16 _ rfl)
              rw [addr_add, Nat.zero_add] at this
              exact this
            have y17 : w7.cell? ⟨g, i * 18 + 17, none⟩ = some (.string u.sr) := by
              have := hown.cells (g := g) rfl (i * 18 + 17) _ (hvs 17 _ rfl)
              rw [addr_add, Nat.zero_add] at this
              exact this
            have f15 : w7.frozen? ⟨g, i * 18 + 15, none⟩ = false := Lib.frozen_of_heap hcur _
            have f16 : w7.frozen? ⟨g, i * 18 + 16, none⟩ = false := Lib.frozen_of_heap hcur _
            have f17 : w7.frozen? ⟨g, i * 18 + 17, none⟩ = false := Lib.frozen_of_heap hcur _
            have HX7 := Lib.hid (HX6.out.next hb7)
            have HY7 := Lib.hid (HY6.out.next hb7)
            have HB7 := Lib.hid (HB6.out.trans (hb7.mono HB6.out.size))
            have HSO7 := Lib.hid (HSO6.out.kept hb7 (Nat.le_refl _))
            have x14 : w7.cell? ⟨w.heap.size, 14, none⟩ = some (.int .i64 v.fr) := (HX7.out.cell 14).trans H14.out
            have HOW := Lib.hid hown
            have HVR := Lib.hid hvr'
            have hX6l := HX6.out.lt
            have hY6l := HY6.out.lt
            have hgw : w.heap.size + 1 < g := by omega
            have hll2 : i < l.length := by rw [HLEN.out]; exact hll
            have hln2 : l.length ≤ 4096 := by rw [HLEN.out]; exact hlen
            have hcp2 : l.length ≤ cap7 := (SlV.of_owns hown hvr'.row).2 |> fun ⟨_, _, h1, h2⟩ => by cases h1; exact h2.2.1
            have hcp3 : cap7 ≤ 9223372036854775807 := (SlV.of_owns hown hvr'.row).2 |> fun ⟨_, _, h1, h2⟩ => by cases h1; exact h2.2.2.1
            have HG6 := Lib.hid hg6
            clear hown hvr hvr' hb7 hvs hcur hg6 hg7
            by_cases h9 : v.fr + o - 1 < u.to
            · have h9' : decide (v.fr + o - 1 < u.to) = true := decide_eq_true h9
              have hrl : rotL l i u (v.fr + o - 1) = l.set i (u.ended (v.fr + o - 1)) := by unfold rotL; rw [if_pos h9]
              have HRL := Lib.hid hrl
              have HX9 := Lib.hid (((HX7.out.other (C := g) (k := i * 18 + 15) (by omega) (.int .i64 (v.fr + o - 1))).other (C := g) (k := i * 18 + 16) (by omega) (.string ⟨#[]⟩)).other (C := g) (k := i * 18 + 17) (by omega) (.string ⟨#[]⟩))
              have HY9 := Lib.hid (((HY7.out.other (C := g) (k := i * 18 + 15) (by omega) (.int .i64 (v.fr + o - 1))).other (C := g) (k := i * 18 + 16) (by omega) (.string ⟨#[]⟩)).other (C := g) (k := i * 18 + 17) (by omega) (.string ⟨#[]⟩))
              have HB9 := Lib.hid (((HB7.out.setCell (p := ⟨g, i * 18 + 15, none⟩) (by simp only []; omega) (.int .i64 (v.fr + o - 1))).setCell (p := ⟨g, i * 18 + 16, none⟩) (by simp only []; omega) (.string ⟨#[]⟩)).setCell (p := ⟨g, i * 18 + 17, none⟩) (by simp only []; omega) (.string ⟨#[]⟩))
              have hq : ∀ b, b ≠ g → (((w7.setCell ⟨g, i * 18 + 15, none⟩ (.int .i64 (v.fr + o - 1))).setCell ⟨g, i * 18 + 16, none⟩ (.string ⟨#[]⟩)).setCell ⟨g, i * 18 + 17, none⟩ (.string ⟨#[]⟩)).heap[b]? = w7.heap[b]? := fun b hb => by
                rw [heap_setCell_other _ _ _ _ hb, heap_setCell_other _ _ _ _ hb, heap_setCell_other _ _ _ _ hb]
              have HS9 := Lib.hid (show SlN (((w7.setCell ⟨g, i * 18 + 15, none⟩ (.int .i64 (v.fr + o - 1))).setCell ⟨g, i * 18 + 16, none⟩ (.string ⟨#[]⟩)).setCell ⟨g, i * 18 + 17, none⟩ (.string ⟨#[]⟩)) A3 n3 c3 v.kr from HSO7.out.1.of_blocks fun h0 a ha => hq _ (by
                have h1 := ha ▸ HSO6.out.1
                have := h1.lt h0
                have := HG6.out
                omega))
              have HEN := Lib.hid (fun (w4 : World) hw => ended_row (w4 := w4) (v.fr + o - 1) HOW.out HVR.out HU.out hw)
              clear h9 hrl hq
              go_upto_region 17 with fail
              obtain ⟨w9, hw9⟩ : ∃ w9, ((w7.setCell ⟨g, i * 18 + 15, none⟩ (.int .i64 (v.fr + o - 1))).setCell ⟨g, i * 18 + 16, none⟩ (.string ⟨#[]⟩)).setCell ⟨g, i * 18 + 17, none⟩ (.string ⟨#[]⟩) = w9 := ⟨_, rfl⟩
              rw [hw9] at HX9 HY9 HB9 HS9 HEN ⊢
              clear hw9
              refine wp_region_lit ?_
              refine wpList_load_row rfl 38 _ rfl w.heap.size rfl 38 rr (0, 0) _ HX9.out Try.underlying38 rfl (by rw [HRS.out]; kernel_rfl) ?_
              iterate 3 go_step
              refine wpList_store_rowTo rfl 38 _ _ rfl rfl (w.heap.size + 1) rr rfl rfl 38 (ver0.arr (.slice none 0 0)) HY9.out (by rw [HRS.out]; kernel_rfl) (by rw [HRS.out]; rfl) HRO.out ?_
              have hg6 := HG6.out
              have HYA := Lib.hid (setRow_heap w9 (w.heap.size + 1) _ rr _ _ HY9.out)
              have HBA := Lib.hid (below_setRow HB9.out (g := w.heap.size + 1) (by omega) rr)
              have HSA := Lib.hid (show SlN (World.setRow w9 (w.heap.size + 1) rr) A3 n3 c3 v.kr from HS9.out.of_blocks fun h0 a ha => setRow_other _ _ _ _ (by have := (HSO6.out.2 h0 a ha).2; omega))
              have HLA := Lib.hid (show SlV (World.setRow w9 (w.heap.size + 1) rr) (some ⟨g, 0, none⟩) l.length cap7 (rotL l i u (v.fr + o - 1)) from by rw [HRL.out]; exact HEN.out _ (fun b hb => setRow_other _ _ _ _ (by omega)))
              obtain ⟨wa, hwa⟩ : ∃ wa, World.setRow w9 (w.heap.size + 1) rr = wa := ⟨_, rfl⟩
              rw [hwa] at HYA HBA HSA HLA ⊢
              clear hwa
              go_wp2
              refine bodyPost_ret (v := .tuple #[.agg rr, .slice (some ⟨g, 0, none⟩) l.length cap7, .int .i64 0]) (Eq.trans (results_row_tmp2 rfl _ _ (w.heap.size + 1) 38 rr (0, 0) _ rfl HYA.out Try.underlying38 rfl (by rw [HRS.out]; kernel_rfl)) (by rfl)) rfl ?_
              have hrln : (rotL l i u (v.fr + o - 1)).length = l.length := (by rw [HRL.out, List.length_set])
              exact .inr (.inr ⟨i, u, HO.out, HI.out, HU.out, .inr ⟨HG.out, .inr ⟨HR0.out, A3, n3, c3, _, cap7, by rw [← HRV.out, hrln]; rfl, HSA.out, by rw [hrln]; exact HLA.out, HBA.out⟩⟩⟩)
            · have h9' : decide (v.fr + o - 1 < u.to) = false := decide_eq_false h9
              have HRL := Lib.hid (show rotL l i u (v.fr + o - 1) = l from by unfold rotL; rw [if_neg h9])
              have HX9 := HX7
              have HY9 := HY7
              have HB9 := HB7
              have HS9 := Lib.hid HSO7.out.1
              have HEN := Lib.hid (fun (w4 : World) hw => plain_row (w4 := w4) HOW.out HVR.out hw)
              clear h9
              go_upto_region 17 with fail
              refine wp_region_lit ?_
              refine wpList_load_row rfl 38 _ rfl w.heap.size rfl 38 rr (0, 0) _ HX9.out Try.underlying38 rfl (by rw [HRS.out]; kernel_rfl) ?_
              iterate 3 go_step
              refine wpList_store_rowTo rfl 38 _ _ rfl rfl (w.heap.size + 1) rr rfl rfl 38 (ver0.arr (.slice none 0 0)) HY9.out (by rw [HRS.out]; kernel_rfl) (by rw [HRS.out]; rfl) HRO.out ?_
              have hg6 := HG6.out
              have HYA := Lib.hid (setRow_heap w7 (w.heap.size + 1) _ rr _ _ HY9.out)
              have HBA := Lib.hid (below_setRow HB9.out (g := w.heap.size + 1) (by omega) rr)
              have HSA := Lib.hid (show SlN (World.setRow w7 (w.heap.size + 1) rr) A3 n3 c3 v.kr from HS9.out.of_blocks fun h0 a ha => setRow_other _ _ _ _ (by have := (HSO6.out.2 h0 a ha).2; omega))
              have HLA := Lib.hid (show SlV (World.setRow w7 (w.heap.size + 1) rr) (some ⟨g, 0, none⟩) l.length cap7 (rotL l i u (v.fr + o - 1)) from by rw [HRL.out]; exact HEN.out _ (fun b hb => setRow_other _ _ _ _ (by omega)))
              obtain ⟨wa, hwa⟩ : ∃ wa, World.setRow w7 (w.heap.size + 1) rr = wa := ⟨_, rfl⟩
              rw [hwa] at HYA HBA HSA HLA ⊢
              clear hwa
              go_wp2
              refine bodyPost_ret (v := .tuple #[.agg rr, .slice (some ⟨g, 0, none⟩) l.length cap7, .int .i64 0]) (Eq.trans (results_row_tmp2 rfl _ _ (w.heap.size + 1) 38 rr (0, 0) _ rfl HYA.out Try.underlying38 rfl (by rw [HRS.out]; kernel_rfl)) (by rfl)) rfl ?_
              have hrln : (rotL l i u (v.fr + o - 1)).length = l.length := (by rw [HRL.out])
              exact .inr (.inr ⟨i, u, HO.out, HI.out, HU.out, .inr ⟨HG.out, .inr ⟨HR0.out, A3, n3, c3, _, cap7, by rw [← HRV.out, hrln]; rfl, HSA.out, by rw [hrln]; exact HLA.out, HBA.out⟩⟩⟩)
          · have HR0 := Lib.hid (show (v.next u).msg.2 ≠ 0 from by rw [HR.out]; exact h0)
            have h0' : (r2 != 0) = true := by simpa using h0
            have HE2 := Lib.hid (show (v.next u).msg.2 = r2 from by rw [HR.out])
            clear h0
            go_upto_region 12 with fail
            refine wp_region_lit ?_
            iterate 7 go_step
            refine wp_store_row 38 _ _ rfl (w.heap.size + 1) (ver0.arr (.slice none 0 0)) rfl rfl 38 (ver0.arr (.slice none 0 0)) HY6.out (by kernel_rfl) rfl ver0.arr_one ?_
            have HYe := Lib.hid (setRow_heap w6 (w.heap.size + 1) _ (ver0.arr (.slice none 0 0)) _ _ HY6.out)
            have HBe := Lib.hid (below_setRow HB6.out (g := w.heap.size + 1) (by omega) (ver0.arr (.slice none 0 0)))
            obtain ⟨we, hwe⟩ : ∃ we, World.setRow w6 (w.heap.size + 1) (ver0.arr (.slice none 0 0)) = we := ⟨_, rfl⟩
            rw [hwe] at HYe HBe ⊢
            clear hwe
            go_wp2
            refine bodyPost_ret (v := .tuple #[.agg (ver0.arr (.slice none 0 0)), .slice none 0 0, .int .i64 r2]) (Eq.trans (results_row_tmp2 rfl _ _ (w.heap.size + 1) 38 (ver0.arr (.slice none 0 0)) (0, 0) _ rfl HYe.out Try.underlying38 rfl (by kernel_rfl)) (by rfl)) rfl ?_
            have HRR := Lib.hid (show RetR .i64 ver0 [] r2 w (.returned (.tuple #[.agg (ver0.arr (.slice none 0 0)), .slice none 0 0, .int .i64 r2])) we from ⟨none, 0, 0, none, 0, rfl, ⟨rfl, Nat.le_refl _, Nat.zero_le _, 0, 0, fun h => absurd h (Nat.lt_irrefl _), fun k s h => by simp [ver0] at h⟩, SlV.nil _ 0 (by omega) none, HBe.out⟩)
            exact .inr (.inr ⟨i, u, HO.out, HI.out, HU.out, .inr ⟨HG.out, .inl ⟨HR0.out, by rw [HE2.out]; exact HRR.out⟩⟩⟩)
end Go.Proofs.Ytnfkccohmkfnoaa

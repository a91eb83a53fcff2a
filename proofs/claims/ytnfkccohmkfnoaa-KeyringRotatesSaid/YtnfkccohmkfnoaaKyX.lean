/- Walk: the law KeyringFinds. -/
import Derived.Test.YtnfkccohmkfnoaaKyW
set_option linter.unusedVariables false
set_option linter.unusedSimpArgs false
namespace Go.Proofs.Ytnfkccohmkfnoaa
open Go.RowKit

/-- What Current returns. -/
def curR (o : Option Ver) : Ver × Int := match o with
  | some v => (v, 0)
  | none => (ver0, 22)
theorem RetC.pair {o : Option Ver} {w w' : World} {x : Ending} (hr : RetC o w x w') : RetV (curR o).1 (curR o).2 w x w' := by
  rcases hr with ⟨u, h1, h2⟩ | ⟨h1, h2⟩
  · rw [h1]; exact h2
  · rw [h1]; exact h2
/-- What Find returns. -/
def findR (l : List Ver) (name : ByteArray) (k e : Int) : Ver × Int := match findV l name k with
  | none => (ver0, 9)
  | some i => match l[i]? with
    | none => (ver0, 9)
    | some v => if vvalid v e = true then (v, 0) else (ver0, 22)
theorem findV_spec {l : List Ver} {name : ByteArray} {k : Int} {i : Nat} (h : findV l name k = some i) : ∃ v, l[i]? = some v ∧ hitV name k v = true ∧ ∀ (j : Nat) u, j < i → l[j]? = some u → hitV name k u = false := by
  obtain ⟨v, hv⟩ := findV_at h
  unfold findV at h
  rw [List.find?_range_eq_some] at h
  obtain ⟨h1, h2, h3⟩ := h
  refine ⟨v, hv, by rw [hv] at h1; simpa using h1, fun j u hj hu => ?_⟩
  have := h3 j hj
  rw [hu] at this
  simpa using this
theorem findV_none' {l : List Ver} {name : ByteArray} {k : Int} (h : findV l name k = none) (i : Nat) (u : Ver) (hu : l[i]? = some u) : hitV name k u = false := by
  unfold findV at h
  rw [List.find?_eq_none] at h
  have := h i (List.mem_range.2 (List.getElem?_eq_some_iff.1 hu).1)
  rw [hu] at this
  simpa using this
theorem RetF.pair {l : List Ver} {name : ByteArray} {k e : Int} {i : Nat} {v : Ver} {w w' : World} {x : Ending} (h : findV l name k = some i) (hv : l[i]? = some v) (hr : RetF v e w x w') : RetV (findR l name k e).1 (findR l name k e).2 w x w' := by
  unfold findR
  rw [h]
  simp only [hv]
  rcases hr with ⟨h1, h2⟩ | ⟨h1, h2⟩
  · rw [if_pos h1]; exact h2
  · rw [if_neg (by rw [h1]; decide)]; exact h2
theorem ky_Find (l : List Ver) (A : Option Addr) (len cap : Nat) (name : ByteArray) (k e : Int) (w : World) (hs : SlV w A len cap l) (hlen : len ≤ 4096) (hf : FwV l) : Calls Try.prog 9 #[.slice A len cap, .string name, .int .i64 k, .int .i64 e] w (RetV (findR l name k e).1 (findR l name k e).2 w) := by
  cases h : findV l name k with
  | none =>
    refine (ky_Find_none l A len cap name k e w hs hlen h).mono fun _ _ hr => ?_
    unfold findR; rw [h]; exact hr
  | some i =>
    obtain ⟨v, hv, hh, hall⟩ := findV_spec h
    exact (ky_Find_hit l A len cap name k e w hs hlen i v hv hh hall (hf i v hv)).mono fun _ _ hr => RetF.pair h hv hr
theorem r58_Find (l : List Ver) (A : Option Addr) (len cap : Nat) (name : ByteArray) (k e : Int) (w : World) (hs : SlV w A len cap l) (hlen : len ≤ 4096) : Calls Try.prog 10 #[.slice A len cap, .string name, .int .i64 k, .int .i64 e] w (RetV (findR l name k e).1 (findR l name k e).2 w) := by
  cases h : findV l name k with
  | none =>
    refine (r58_Find_none l A len cap name k e w hs hlen (findV_none' h)).mono fun _ _ hr => ?_
    unfold findR; rw [h]; exact hr
  | some i =>
    obtain ⟨v, hv, hh, hall⟩ := findV_spec h
    obtain ⟨b, o, rfl⟩ := hs.head (by rw [← hs.1]; exact Nat.lt_of_le_of_lt (Nat.zero_le _) (List.getElem?_eq_some_iff.1 hv).1)
    exact (r58_Find_hit l b o len cap name k e w hs hlen i v hv hh hall).mono fun _ _ hr => RetF.pair h hv hr
/-- What comes back is one of the list, or empty. -/
theorem curR_few {l : List Ver} {p : Ver → Bool} (h : FwV l) : (curR (bestV p l)).1.kr.length ≤ 1000000 := by
  rw [bestV_all]
  cases hb : bestI p l l.length with
  | none => simp [curR, ver0]
  | some i =>
    obtain ⟨_, u, hu, _⟩ := bestI_lt hb
    simp only [Option.bind_some, hu, curR]
    exact h i u hu
theorem findR_few {l : List Ver} {name : ByteArray} {k e : Int} (h : FwV l) : (findR l name k e).1.kr.length ≤ 1000000 := by
  unfold findR
  cases hb : findV l name k with
  | none => simp [ver0]
  | some i =>
    cases hv : l[i]? with
    | none => simp [hv, ver0]
    | some v =>
      simp only [hv]
      split
      · exact h i v hv
      · simp [ver0]
theorem few_open {l : List Ver} (h : fewL l = true) : l.length ≤ 12 ∧ ∀ (k : Nat) (v : Ver), l[k]? = some v → v.name.size ≤ 60 ∧ v.kr.length ≤ 6 := by
  unfold fewL at h
  rw [Bool.and_eq_true] at h
  obtain ⟨h1, h2⟩ := h
  have hl := of_decide_eq_true h2
  refine ⟨hl, fun k v hk => ?_⟩
  rw [List.take_of_length_le hl, List.all_eq_true] at h1
  have := h1 v (List.mem_of_getElem? hk)
  unfold fewV fewKeyB at this
  simp only [Bool.and_eq_true, decide_eq_true_eq] at this
  exact ⟨this.1, this.2.1.2.2.1⟩
theorem wpList_load_rowG {P : Program} {ops : Array Oper} {rest : List Oper} {o : Oper} {a : Act} {w : World} {Q : Exit → Act → World → Prop} (hw : Region.wanted o (yielded ops a.tmps) = true) (ty : TypeId) (x : Operand) (ho : o.op = .load ty x)
    (g : Nat) (hx : a.eval x = .pointer (some ⟨g, 0, none⟩)) (t : TypeId) (cs : Array Value) (fr : Nat × Nat) (d : TypeDesc) (hg : w.heap[g]? = some (.cells cs t fr))
    (hu : P.underlying ty = some d) (hd : (match d with | .struct _ | .array _ _ => true | _ => false) = true) (hi : (P.info? ty).map (·.size) = some cs.size)
    (h : wpList P ops Q rest (a.put o.dst (.agg cs)) w) : wpList P ops Q (o :: rest) a w :=
  wpList_step fun K hK => by
    rw [if_pos hw]
    exact wp_load_row ty x ho g hx t cs fr d hg hu hd hi (hK _ _ h)
set_option maxRecDepth 100000 in
set_option maxHeartbeats 4000000 in
theorem law_Finds (l : List Ver) (A : Option Addr) (len cap : Nat) (qn : ByteArray) (qk qe : Int) (w : World) (hs : SlV w A len cap l) (hz : SzVs l) (hq : qn.size ≤ 9223372036854775807) : Calls Try.prog 3 #[.slice A len cap, .agg #[.string qn, .int .i64 qk, .int .i64 qe]] w (Ret (.bool true) w) := by
  obtain ⟨W0, hW0⟩ : ∃ W0, w.alloc (.cells #[.string qn, .int .i64 qk, .int .i64 qe] 24) = W0 := ⟨_, rfl⟩
  have HQ0 := Lib.hid (show BxC W0 w.heap.size #[.string qn, .int .i64 qk, .int .i64 qe] 24 from by rw [← hW0]; exact BxC.new w _ _)
  have HB0 := Lib.hid (show Below w.heap.size w W0 from by rw [← hW0]; exact (Below.refl _ _).alloc (Nat.le_refl _) _)
  have HS := Lib.hid hs
  have HFE := Lib.hid (law_Few l A len cap W0 (hs.kept HB0.out (Nat.le_refl _)) hz)
  have c0 : W0.cell? ⟨w.heap.size, 0, none⟩ = some (.string qn) := HQ0.out.cell 0
  have hlen := hs.1
  have hcap := hs.2.1
  have hcap2 := hs.2.2.1
  have HLEN := Lib.hid hlen
  clear hs hz hlen
  go_enter Try.func3, Try.ntmps3
  go_wp2_with fail
  try rw [hW0]
  clear hW0
  refine HFE.out.mono ?_
  rintro e w1 ⟨rfl, hb1⟩
  have HQ1 := Lib.hid (HQ0.out.next hb1)
  have HB1 := Lib.hid (HB0.out.trans (hb1.mono HB0.out.size))
  clear hb1 c0
  have c0 : w1.cell? ⟨w.heap.size, 0, none⟩ = some (.string qn) := HQ1.out.cell 0
  cases hf : fewL l with
  | false =>
    clear hf
    go_wp2_with fail
    refine (law_awake _).mono ?_
    rintro e w3 ⟨rfl, hb3⟩
    have HB3 := Lib.hid (HB1.out.trans (hb3.mono HB1.out.size))
    clear hb3
    go_wp2
    go_ret
    exact ⟨rfl, HB3.out⟩
  | true =>
    have HFW := Lib.hid (few_open hf)
    clear hf
    by_cases h60 : qn.size ≤ 60
    · have hd : decide (60 < (qn.size : Int)) = false := decide_eq_false (by omega)
      have hl12 : len ≤ 4096 := by have := HFW.out.1; rw [HLEN.out] at this; omega
      have HSZ := Lib.hid (show SzV l from fun k v hk => by have := (HFW.out.2 k v hk).1; unfold maxLen; omega)
      have HFV := Lib.hid (show FwV l from fun k v hk => by have := (HFW.out.2 k v hk).2; omega)
      have c2 : w1.cell? ⟨w.heap.size, 2, none⟩ = some (.int .i64 qe) := HQ1.out.cell 2
      obtain ⟨vf, hvf⟩ : ∃ vf, curR (bestV (curP qn qe) l) = vf := ⟨_, rfl⟩
      obtain ⟨ug, hug⟩ : ∃ ug, findR l qn qk qe = ug := ⟨_, rfl⟩
      have HC1 := Lib.hid (fun (W : World) (hb : Below w.heap.size w W) => (ky_Current l A len cap qn qe W (HS.out.kept hb (Nat.le_refl _)) hl12 HSZ.out HFV.out (by unfold maxLen; omega)).mono fun _ _ h => RetC.pair h)
      have HC2 := Lib.hid (fun (W : World) (hb : Below w.heap.size w W) => (r58_Current l A len cap qn qe W (HS.out.kept hb (Nat.le_refl _)) hl12).mono fun _ _ h => RetC.pair h)
      have HC3 := Lib.hid (fun (W : World) (hb : Below w.heap.size w W) => ky_Find l A len cap qn qk qe W (HS.out.kept hb (Nat.le_refl _)) hl12 HFV.out)
      have HC4 := Lib.hid (fun (W : World) (hb : Below w.heap.size w W) => r58_Find l A len cap qn qk qe W (HS.out.kept hb (Nat.le_refl _)) hl12)
      have HK1 := Lib.hid (curR_few (p := curP qn qe) HFV.out)
      have HK2 := Lib.hid (findR_few (name := qn) (k := qk) (e := qe) HFV.out)
      rw [hvf] at HC1 HC2 HK1
      rw [hug] at HC3 HC4 HK2
      obtain ⟨v, f⟩ := vf
      obtain ⟨u, g⟩ := ug
      clear hvf hug
      go_wp2_with fail
      refine (HC1.out w1 HB1.out).mono ?_
      rintro e w2 ⟨A2, n2, c2', rfl, hsw, hbw⟩
      try dsimp only at hsw
      rw [val_arr]
      have c1 := HQ1.out.cell 1
      dsimp only
      iterate 10 go_step
      refine Great.wpList_allocTo rfl _ rfl (.pointer (some ⟨w2.heap.size, 0, none⟩)) (.cells (ver0.arr (.slice none 0 0)) 38) (by kernel_rfl) ?_
      refine wpList_store_rowTo rfl 38 _ _ rfl rfl w2.heap.size (v.arr (.slice A2 n2 c2')) rfl rfl 38 (ver0.arr (.slice none 0 0)) (BxC.new w2 _ _) (by kernel_rfl) rfl (Ver.arr_one _) ?_
      have HX3 := Lib.hid (box_row w2 (ver0.arr (.slice none 0 0)) (v.arr (.slice A2 n2 c2')) 38)
      have hbb := box_below w2 (ver0.arr (.slice none 0 0)) (v.arr (.slice A2 n2 c2')) 38
      obtain ⟨W3, hww⟩ : ∃ W3, (w2.alloc (.cells (ver0.arr (.slice none 0 0)) 38)).setRow w2.heap.size (v.arr (.slice A2 n2 c2')) = W3 := ⟨_, rfl⟩
      rw [hww] at HX3 hbb ⊢
      clear hww
      have hbk := hbw.trans (hbb.mono hbw.size)
      have HB3 := Lib.hid (HB1.out.trans (hbk.mono HB1.out.size))
      have HQ3 := Lib.hid (HQ1.out.next hbk)
      have hsn := hsw.kept hbb (Nat.le_refl _)
      have HN3 := Lib.hid hsn
      clear hsw hbw hbb hsn c0 c1 c2
      have c0 : W3.cell? ⟨w.heap.size, 0, none⟩ = some (.string qn) := HQ3.out.cell 0
      have c1 : W3.cell? ⟨w.heap.size, 1, none⟩ = some (.int .i64 qk) := HQ3.out.cell 1
      have c2 : W3.cell? ⟨w.heap.size, 2, none⟩ = some (.int .i64 qe) := HQ3.out.cell 2
      clear hbk
      go_wp2_with fail
      refine (HC2.out W3 HB3.out).mono ?_
      rintro e w4 ⟨A4, n4, c4, rfl, hsw, hbw⟩
      try dsimp only at hsw
      rw [val_arr]
      dsimp only
      iterate 10 go_step
      refine Great.wpList_allocTo rfl _ rfl (.pointer (some ⟨w4.heap.size, 0, none⟩)) (.cells (ver0.arr (.slice none 0 0)) 38) (by kernel_rfl) ?_
      refine wpList_store_rowTo rfl 38 _ _ rfl rfl w4.heap.size (v.arr (.slice A4 n4 c4)) rfl rfl 38 (ver0.arr (.slice none 0 0)) (BxC.new w4 _ _) (by kernel_rfl) rfl (Ver.arr_one _) ?_
      have HX5 := Lib.hid (box_row w4 (ver0.arr (.slice none 0 0)) (v.arr (.slice A4 n4 c4)) 38)
      have hbb := box_below w4 (ver0.arr (.slice none 0 0)) (v.arr (.slice A4 n4 c4)) 38
      obtain ⟨W5, hww⟩ : ∃ W5, (w4.alloc (.cells (ver0.arr (.slice none 0 0)) 38)).setRow w4.heap.size (v.arr (.slice A4 n4 c4)) = W5 := ⟨_, rfl⟩
      rw [hww] at HX5 hbb ⊢
      clear hww
      have hbk := hbw.trans (hbb.mono hbw.size)
      have HB5 := Lib.hid (HB3.out.trans (hbk.mono HB3.out.size))
      have HQ5 := Lib.hid (HQ3.out.next hbk)
      have hsn := hsw.kept hbb (Nat.le_refl _)
      have HN5 := Lib.hid hsn
      clear hsw hbw hbb hsn c0 c1 c2
      have c0 : W5.cell? ⟨w.heap.size, 0, none⟩ = some (.string qn) := HQ5.out.cell 0
      have c1 : W5.cell? ⟨w.heap.size, 1, none⟩ = some (.int .i64 qk) := HQ5.out.cell 1
      have c2 : W5.cell? ⟨w.heap.size, 2, none⟩ = some (.int .i64 qe) := HQ5.out.cell 2
      have HX3 := Lib.hid (HX3.out.next hbk)
      have HN3 := Lib.hid (HN3.out.kept hbk (Nat.le_refl _))
      clear hbk
      go_wp2_with fail
      refine (HC3.out W5 HB5.out).mono ?_
      rintro e w6 ⟨A6, n6, c6, rfl, hsw, hbw⟩
      try dsimp only at hsw
      rw [val_arr]
      dsimp only
      iterate 10 go_step
      refine Great.wpList_allocTo rfl _ rfl (.pointer (some ⟨w6.heap.size, 0, none⟩)) (.cells (ver0.arr (.slice none 0 0)) 38) (by kernel_rfl) ?_
      refine wpList_store_rowTo rfl 38 _ _ rfl rfl w6.heap.size (u.arr (.slice A6 n6 c6)) rfl rfl 38 (ver0.arr (.slice none 0 0)) (BxC.new w6 _ _) (by kernel_rfl) rfl (Ver.arr_one _) ?_
      have HX7 := Lib.hid (box_row w6 (ver0.arr (.slice none 0 0)) (u.arr (.slice A6 n6 c6)) 38)
      have hbb := box_below w6 (ver0.arr (.slice none 0 0)) (u.arr (.slice A6 n6 c6)) 38
      obtain ⟨W7, hww⟩ : ∃ W7, (w6.alloc (.cells (ver0.arr (.slice none 0 0)) 38)).setRow w6.heap.size (u.arr (.slice A6 n6 c6)) = W7 := ⟨_, rfl⟩
      rw [hww] at HX7 hbb ⊢
      clear hww
      have hbk := hbw.trans (hbb.mono hbw.size)
      have HB7 := Lib.hid (HB5.out.trans (hbk.mono HB5.out.size))
      have HQ7 := Lib.hid (HQ5.out.next hbk)
      have hsn := hsw.kept hbb (Nat.le_refl _)
      have HN7 := Lib.hid hsn
      clear hsw hbw hbb hsn c0 c1 c2
      have c0 : W7.cell? ⟨w.heap.size, 0, none⟩ = some (.string qn) := HQ7.out.cell 0
      have c1 : W7.cell? ⟨w.heap.size, 1, none⟩ = some (.int .i64 qk) := HQ7.out.cell 1
      have c2 : W7.cell? ⟨w.heap.size, 2, none⟩ = some (.int .i64 qe) := HQ7.out.cell 2
      have HX3 := Lib.hid (HX3.out.next hbk)
      have HN3 := Lib.hid (HN3.out.kept hbk (Nat.le_refl _))
      have HX5 := Lib.hid (HX5.out.next hbk)
      have HN5 := Lib.hid (HN5.out.kept hbk (Nat.le_refl _))
      clear hbk
      go_wp2_with fail
      refine (HC4.out W7 HB7.out).mono ?_
      rintro e w8 ⟨A8, n8, c8, rfl, hsw, hbw⟩
      try dsimp only at hsw
      rw [val_arr]
      dsimp only
      iterate 10 go_step
      refine Great.wpList_allocTo rfl _ rfl (.pointer (some ⟨w8.heap.size, 0, none⟩)) (.cells (ver0.arr (.slice none 0 0)) 38) (by kernel_rfl) ?_
      refine wpList_store_rowTo rfl 38 _ _ rfl rfl w8.heap.size (u.arr (.slice A8 n8 c8)) rfl rfl 38 (ver0.arr (.slice none 0 0)) (BxC.new w8 _ _) (by kernel_rfl) rfl (Ver.arr_one _) ?_
      have HX9 := Lib.hid (box_row w8 (ver0.arr (.slice none 0 0)) (u.arr (.slice A8 n8 c8)) 38)
      have hbb := box_below w8 (ver0.arr (.slice none 0 0)) (u.arr (.slice A8 n8 c8)) 38
      obtain ⟨W9, hww⟩ : ∃ W9, (w8.alloc (.cells (ver0.arr (.slice none 0 0)) 38)).setRow w8.heap.size (u.arr (.slice A8 n8 c8)) = W9 := ⟨_, rfl⟩
      rw [hww] at HX9 hbb ⊢
      clear hww
      have hbk := hbw.trans (hbb.mono hbw.size)
      have HB9 := Lib.hid (HB7.out.trans (hbk.mono HB7.out.size))
      have HQ9 := Lib.hid (HQ7.out.next hbk)
      have hsn := hsw.kept hbb (Nat.le_refl _)
      have HN9 := Lib.hid hsn
      clear hsw hbw hbb hsn c0 c1 c2
      have c0 : W9.cell? ⟨w.heap.size, 0, none⟩ = some (.string qn) := HQ9.out.cell 0
      have c1 : W9.cell? ⟨w.heap.size, 1, none⟩ = some (.int .i64 qk) := HQ9.out.cell 1
      have c2 : W9.cell? ⟨w.heap.size, 2, none⟩ = some (.int .i64 qe) := HQ9.out.cell 2
      have HX3 := Lib.hid (HX3.out.next hbk)
      have HN3 := Lib.hid (HN3.out.kept hbk (Nat.le_refl _))
      have HX5 := Lib.hid (HX5.out.next hbk)
      have HN5 := Lib.hid (HN5.out.kept hbk (Nat.le_refl _))
      have HX7 := Lib.hid (HX7.out.next hbk)
      have HN7 := Lib.hid (HN7.out.kept hbk (Nat.le_refl _))
      clear hbk
      go_wp2_with fail
      refine (law_awake W9).mono ?_
      rintro e w10 ⟨rfl, hb10⟩
      have HX3 := Lib.hid (HX3.out.next hb10)
      have HN3 := Lib.hid (HN3.out.kept hb10 (Nat.le_refl _))
      have HX5 := Lib.hid (HX5.out.next hb10)
      have HN5 := Lib.hid (HN5.out.kept hb10 (Nat.le_refl _))
      have HX7 := Lib.hid (HX7.out.next hb10)
      have HN7 := Lib.hid (HN7.out.kept hb10 (Nat.le_refl _))
      have HX9 := Lib.hid (HX9.out.next hb10)
      have HN9 := Lib.hid (HN9.out.kept hb10 (Nat.le_refl _))
      have HB10 := Lib.hid (HB9.out.trans (hb10.mono HB9.out.size))
      clear hb10 c0 c1 c2
      dsimp only
      iterate 4 go_step
      refine wpList_load_rowG (by kernel_rfl) 38 _ rfl w2.heap.size rfl 38 (v.arr (.slice A2 n2 c2')) (0, 0) _ HX3.out Try.underlying38 rfl (by kernel_rfl) ?_
      refine wpList_load_rowG (by kernel_rfl) 38 _ rfl w4.heap.size rfl 38 (v.arr (.slice A4 n4 c4)) (0, 0) _ HX5.out Try.underlying38 rfl (by kernel_rfl) ?_
      go_wp2_with fail
      refine (r58_Same v A2 A4 n2 c2' n4 c4 w10 HN3.out HN5.out (by rw [← HN3.out.1]; exact HK1.out)).mono ?_
      rintro e w11 ⟨rfl, hb11⟩
      have HX7 := Lib.hid (HX7.out.next hb11)
      have HN7 := Lib.hid (HN7.out.kept hb11 (Nat.le_refl _))
      have HX9 := Lib.hid (HX9.out.next hb11)
      have HN9 := Lib.hid (HN9.out.kept hb11 (Nat.le_refl _))
      have HB11 := Lib.hid (HB10.out.trans (hb11.mono HB10.out.size))
      clear hb11 HX3 HX5
      have hff : (f == f) = true := beq_self_eq_true f
      have hgg : (g == g) = true := beq_self_eq_true g
      dsimp only
      iterate 19 go_step
      refine wpList_load_rowG (by kernel_rfl) 38 _ rfl w6.heap.size rfl 38 (u.arr (.slice A6 n6 c6)) (0, 0) _ HX7.out Try.underlying38 rfl (by kernel_rfl) ?_
      refine wpList_load_rowG (by kernel_rfl) 38 _ rfl w8.heap.size rfl 38 (u.arr (.slice A8 n8 c8)) (0, 0) _ HX9.out Try.underlying38 rfl (by kernel_rfl) ?_
      go_wp2_with fail
      refine (r58_Same u A6 A8 n6 c6 n8 c8 w11 HN7.out HN9.out (by rw [← HN7.out.1]; exact HK2.out)).mono ?_
      rintro e w12 ⟨rfl, hb12⟩
      have HB12 := Lib.hid (HB11.out.trans (hb12.mono HB11.out.size))
      clear hb12 HX7 HX9
      go_wp2
      go_ret
      exact ⟨rfl, HB12.out⟩
    · have hd : decide (60 < (qn.size : Int)) = true := decide_eq_true (by omega)
      go_wp2_with fail
      refine (law_awake _).mono ?_
      rintro e w3 ⟨rfl, hb3⟩
      have HB3 := Lib.hid (HB1.out.trans (hb3.mono HB1.out.size))
      clear hb3
      go_wp2
      go_ret
      exact ⟨rfl, HB3.out⟩
end Go.Proofs.Ytnfkccohmkfnoaa

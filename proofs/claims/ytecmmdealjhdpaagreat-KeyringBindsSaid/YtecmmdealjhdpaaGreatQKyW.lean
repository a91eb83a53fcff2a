/- Walk: dominolaw58.awake. -/
import Derived.Test.YtecmmdealjhdpaaGreatQKyV
set_option linter.unusedVariables false
set_option linter.unusedSimpArgs false
namespace Go.Proofs.YtecmmdealjhdpaaGreat
open Go.RowKit
theorem RetCv.some' {o : Option Ver} {v : Ver} {w w' : World} {x : Ending} (h : o = some v) (hr : RetCv o w x w') : RetV v 0 w x w' := by
  rcases hr with ⟨u, h1, h2⟩ | ⟨h1, _⟩
  · rw [h] at h1; cases h1; exact h2
  · rw [h] at h1; cases h1
theorem RetCv.none' {o : Option Ver} {w w' : World} {x : Ending} (h : o = none) (hr : RetCv o w x w') : RetV ver0 22 w x w' := by
  rcases hr with ⟨u, h1, h2⟩ | ⟨_, h2⟩
  · rw [h] at h1; cases h1
  · exact h2
theorem RetF.far' {v : Ver} {e : Int} {w w' : World} {x : Ending} (h : vvalid v e = false) (hr : RetF v e w x w') : RetV ver0 22 w x w' := by
  rcases hr with ⟨h1, h2⟩ | ⟨_, h2⟩
  · rw [h] at h1; cases h1
  · exact h2
theorem ex_all (i : Nat) (u : Ver) (h : exL[i]? = some u) : u = mkV 1 0 9 ∨ u = mkV 2 5 20 := by
  have hl := (List.getElem?_eq_some_iff.1 h).1
  rcases (show i = 0 ∨ i = 1 from by simp [exL] at hl; omega) with rfl | rfl <;> (cases h; simp)
theorem ex_sz : SzV exL := fun i u h => by rcases ex_all i u h with rfl | rfl <;> decide
theorem ex_fw : FwV exL := fun i u h => by rcases ex_all i u h with rfl | rfl <;> simp [mkV]
theorem ex_calm : CalmL exL := fun i u h => by rcases ex_all i u h with rfl | rfl <;> simp [Ver.calm, mkV]
def exCells : Array Value := ((mkV 1 0 9).vals (.slice none 0 0) ++ (mkV 2 5 20).vals (.slice none 0 0)).toArray
theorem ex_slice {W : World} {g : Nat} {T : TypeId} (h : BxC W g exCells T) : SlV W (some ⟨g, 0, none⟩) 2 2 exL := by
  refine ⟨rfl, Nat.le_refl _, by omega, g, 0, fun _ => rfl, fun k v hk => ?_⟩
  have hn : SlN W none 0 0 [] := ⟨rfl, Nat.le_refl _, Nat.zero_le _, 0, 0, fun h => absurd h (Nat.lt_irrefl _), fun k s h => by simp at h⟩
  have hl := (List.getElem?_eq_some_iff.1 hk).1
  rcases (show k = 0 ∨ k = 1 from by simp [exL] at hl; omega) with rfl | rfl
  · cases hk
    refine ⟨none, 0, 0, fun j u hu => ?_, hn⟩
    have hj := (List.getElem?_eq_some_iff.1 hu).1
    rw [show 0 + 0 * 18 + j = j from by omega, h.cell]
    unfold exCells
    rw [List.getElem?_toArray, List.getElem?_append_left hj]
    exact hu
  · cases hk
    refine ⟨none, 0, 0, fun j u hu => ?_, hn⟩
    rw [h.cell]
    unfold exCells
    rw [List.getElem?_toArray, List.getElem?_append_right (by rw [Ver.vals_length]; omega), Ver.vals_length, show 0 + 1 * 18 + j - 18 = j from by omega]
    exact hu
theorem ex_fill : Instr.fill (fun i => some (i * 18, 18)) ((Array.range (2 * 18)).map ((Value.agg (ver0.arr (.slice none 0 0))).cells[· % (Value.agg (ver0.arr (.slice none 0 0))).cells.size]!)) [(0, .agg ((mkV 1 0 9).arr (.slice none 0 0))), (1, .agg ((mkV 2 5 20).arr (.slice none 0 0)))] = some exCells := by kernel_rfl
theorem wpList_build_ex {ops : Array Oper} {rest : List Oper} {o : Oper} {a : Act} {w : World} {Q : Exit → Act → World → Prop} (hg : o.guard = none) (x y : Operand) (ho : o.op = .buildSlice 45 2 #[(0, x), (1, y)]) (hx : a.eval x = .agg ((mkV 1 0 9).arr (.slice none 0 0))) (hy : a.eval y = .agg ((mkV 2 5 20).arr (.slice none 0 0)))
    (h : wpList Tryz.prog ops Q rest (a.put o.dst (.slice (some ⟨w.heap.size, 0, none⟩) 2 2)) (w.alloc (.cells exCells 35))) : wpList Tryz.prog ops Q (o :: rest) a w := by
  obtain ⟨i0, hi, iz0, iz1, iz2⟩ := info_parts ver_info
  refine wpList_buildSlice hg _ 35 2 _ ho exCells i0 _ Tryz.underlying45 hi iz0 (by rw [iz1]; decide) (by rw [iz1]; decide) ?_ h
  rw [iz1]
  have e : (Array.map (fun x => (x.1, a.eval x.2)) #[(0, x), (1, y)]).toList = [(0, .agg ((mkV 1 0 9).arr (.slice none 0 0))), (1, .agg ((mkV 2 5 20).arr (.slice none 0 0)))] := by simp [hx, hy]
  show Instr.fill _ _ (Array.map (fun x => (x.1, a.eval x.2)) #[(0, x), (1, y)]).toList = _
  rw [e]
  exact ex_fill
theorem ex_Rotate (A : Option Addr) (w : World) (hs : SlV w A 2 2 exL) : Calls Tryz.prog 14 #[.slice A 2 2, .agg ((mkV 0 12 0).arr (.slice none 0 0)), .int .i64 3] w (RetRv .i64 (mkV 3 12 4096) [mkV 1 0 9, mkV 2 5 14] 0 w) := by
  refine (ky_Rotate exL A 2 2 (mkV 0 12 0) none 0 0 3 w hs (by omega) ex_sz ex_fw ⟨rfl, Nat.le_refl _, Nat.zero_le _, 0, 0, fun h => absurd h (Nat.lt_irrefl _), fun k s h => by simp [mkV] at h⟩ (by omega) (fun s hs => by simp [Ver.str, Ver.keyStr, mkV] at hs; rcases hs with rfl | rfl | rfl <;> decide) (by decide) ex_calm (by simp [Ver.calm, mkV])).mono ?_
  intro x w' hr
  rcases hr with ⟨h, _⟩ | ⟨_, h, _⟩ | ⟨i, u, _, h1, h2, hr⟩
  · omega
  · rw [show (mkV 0 12 0).name = ⟨#[97]⟩ from rfl, ex_last] at h; cases h
  · rw [show (mkV 0 12 0).name = ⟨#[97]⟩ from rfl, ex_last] at h1
    cases h1
    cases h2
    have hm : ((mkV 0 12 0).next (mkV 2 5 20)).msg.2 = 0 := by rw [ex_next]; exact ex_msg
    rcases hr with ⟨h, _⟩ | ⟨_, ⟨h, _⟩ | ⟨_, h⟩⟩
    · simp [mkV] at h
    · exact absurd hm h
    · rw [ex_next, show (mkV 0 12 0).fr + 3 - 1 = 14 from rfl, ex_rot] at h
      exact h
set_option maxRecDepth 100000 in
set_option maxHeartbeats 4000000 in
theorem law_awake (w : World) : Calls Tryz.prog 6 #[] w (Ret (.bool true) w) := by
  go_enter Tryz.func6, Tryz.ntmps6
  go_wp2_with fail
  refine (law_version 1 0 9 w).mono ?_
  rintro e w1 ⟨rfl, hb1⟩
  go_wp2_with fail
  refine (law_version 2 5 20 w1).mono ?_
  rintro e w2 ⟨rfl, hb2⟩
  dsimp only
  iterate 1 go_step
  refine wpList_build_ex rfl _ _ rfl rfl rfl ?_
  have HE3 := Lib.hid (BxC.new w2 exCells 35)
  have HB3 := Lib.hid (((hb1.trans (hb2.mono hb1.size))).alloc (Nat.le_trans hb1.size hb2.size) (.cells exCells 35))
  obtain ⟨W3, hW3⟩ : ∃ W3, w2.alloc (.cells exCells 35) = W3 := ⟨_, rfl⟩
  obtain ⟨g, hg⟩ : ∃ g, w2.heap.size = g := ⟨_, rfl⟩
  rw [hW3] at HE3 HB3 ⊢
  rw [hg] at HE3 ⊢
  clear hW3 hg hb1 hb2
  go_wp2_with fail
  refine ((ky_Current exL (some ⟨g, 0, none⟩) 2 2 ⟨#[97]⟩ 4 W3 (ex_slice HE3.out) (by omega) ex_sz ex_fw (by decide)).mono fun _ _ h => RetCv.some' ex_cur4 h).mono ?_
  rintro e w4 ⟨A4, n4, c4, rfl, hs4, hb4⟩
  rw [val_arr]
  dsimp only
  iterate 10 go_step
  refine Great.wpList_allocTo rfl _ rfl (.pointer (some ⟨w4.heap.size, 0, none⟩)) (.cells (ver0.arr (.slice none 0 0)) 35) (by kernel_rfl) ?_
  refine wpList_store_rowTo rfl 35 _ _ rfl rfl w4.heap.size ((mkV 1 0 9).arr (.slice A4 n4 c4)) rfl rfl 35 (ver0.arr (.slice none 0 0)) (BxC.new w4 _ _) (by kernel_rfl) rfl (Ver.arr_one _) ?_
  have HX5 := Lib.hid (box_row w4 (ver0.arr (.slice none 0 0)) ((mkV 1 0 9).arr (.slice A4 n4 c4)) 35)
  have hbb := box_below w4 (ver0.arr (.slice none 0 0)) ((mkV 1 0 9).arr (.slice A4 n4 c4)) 35
  obtain ⟨W5, hww⟩ : ∃ W5, (w4.alloc (.cells (ver0.arr (.slice none 0 0)) 35)).setRow w4.heap.size ((mkV 1 0 9).arr (.slice A4 n4 c4)) = W5 := ⟨_, rfl⟩
  rw [hww] at HX5 hbb ⊢
  clear hww
  have HB5 := Lib.hid (HB3.out.trans ((hb4.trans (hbb.mono hb4.size)).mono HB3.out.size))
  have HE5 := Lib.hid (HE3.out.next (hb4.trans (hbb.mono hb4.size)))
  clear hs4 hb4 hbb
  go_wp2_with fail
  refine ((ky_Current exL (some ⟨g, 0, none⟩) 2 2 ⟨#[97]⟩ 5 W5 (ex_slice HE5.out) (by omega) ex_sz ex_fw (by decide)).mono fun _ _ h => RetCv.some' ex_cur5 h).mono ?_
  rintro e w6 ⟨A6, n6, c6, rfl, hsw, hbw⟩
  rw [val_arr]
  dsimp only
  iterate 10 go_step
  refine Great.wpList_allocTo rfl _ rfl (.pointer (some ⟨w6.heap.size, 0, none⟩)) (.cells (ver0.arr (.slice none 0 0)) 35) (by kernel_rfl) ?_
  refine wpList_store_rowTo rfl 35 _ _ rfl rfl w6.heap.size ((mkV 2 5 20).arr (.slice A6 n6 c6)) rfl rfl 35 (ver0.arr (.slice none 0 0)) (BxC.new w6 _ _) (by kernel_rfl) rfl (Ver.arr_one _) ?_
  have HX7 := Lib.hid (box_row w6 (ver0.arr (.slice none 0 0)) ((mkV 2 5 20).arr (.slice A6 n6 c6)) 35)
  have hbb := box_below w6 (ver0.arr (.slice none 0 0)) ((mkV 2 5 20).arr (.slice A6 n6 c6)) 35
  obtain ⟨W7, hww⟩ : ∃ W7, (w6.alloc (.cells (ver0.arr (.slice none 0 0)) 35)).setRow w6.heap.size ((mkV 2 5 20).arr (.slice A6 n6 c6)) = W7 := ⟨_, rfl⟩
  rw [hww] at HX7 hbb ⊢
  clear hww
  have hbk := hbw.trans (hbb.mono hbw.size)
  have HB7 := Lib.hid (HB5.out.trans (hbk.mono HB5.out.size))
  have HE7 := Lib.hid (HE5.out.next hbk)
  have HX5 := Lib.hid (HX5.out.next hbk)
  clear hsw hbw hbb hbk
  go_wp2_with fail
  refine ((ky_Current exL (some ⟨g, 0, none⟩) 2 2 ⟨#[97]⟩ 21 W7 (ex_slice HE7.out) (by omega) ex_sz ex_fw (by decide)).mono fun _ _ h => RetCv.none' ex_cur21 h).mono ?_
  rintro e w8 ⟨A8, n8, c8, rfl, hsw, hbw⟩
  rw [val_arr]
  dsimp only
  iterate 10 go_step
  refine Great.wpList_allocTo rfl _ rfl (.pointer (some ⟨w8.heap.size, 0, none⟩)) (.cells (ver0.arr (.slice none 0 0)) 35) (by kernel_rfl) ?_
  refine wpList_store_rowTo rfl 35 _ _ rfl rfl w8.heap.size (ver0.arr (.slice A8 n8 c8)) rfl rfl 35 (ver0.arr (.slice none 0 0)) (BxC.new w8 _ _) (by kernel_rfl) rfl (Ver.arr_one _) ?_
  have HX9 := Lib.hid (box_row w8 (ver0.arr (.slice none 0 0)) (ver0.arr (.slice A8 n8 c8)) 35)
  have hbb := box_below w8 (ver0.arr (.slice none 0 0)) (ver0.arr (.slice A8 n8 c8)) 35
  obtain ⟨W9, hww⟩ : ∃ W9, (w8.alloc (.cells (ver0.arr (.slice none 0 0)) 35)).setRow w8.heap.size (ver0.arr (.slice A8 n8 c8)) = W9 := ⟨_, rfl⟩
  rw [hww] at HX9 hbb ⊢
  clear hww
  have hbk := hbw.trans (hbb.mono hbw.size)
  have HB9 := Lib.hid (HB7.out.trans (hbk.mono HB7.out.size))
  have HE9 := Lib.hid (HE7.out.next hbk)
  have HX5 := Lib.hid (HX5.out.next hbk)
  have HX7 := Lib.hid (HX7.out.next hbk)
  clear hsw hbw hbb hbk
  go_wp2_with fail
  refine ((ky_Find_hit exL (some ⟨g, 0, none⟩) 2 2 ⟨#[97]⟩ 1 10 W9 (ex_slice HE9.out) (by omega) 0 (mkV 1 0 9) rfl ex_hit (fun i u h => absurd h (Nat.not_lt_zero _)) (by simp [mkV])).mono fun _ _ h => RetF.far' ex_far h).mono ?_
  rintro e w10 ⟨A10, n10, c10, rfl, hsw, hbw⟩
  rw [val_arr]
  dsimp only
  iterate 10 go_step
  refine Great.wpList_allocTo rfl _ rfl (.pointer (some ⟨w10.heap.size, 0, none⟩)) (.cells (ver0.arr (.slice none 0 0)) 35) (by kernel_rfl) ?_
  refine wpList_store_rowTo rfl 35 _ _ rfl rfl w10.heap.size (ver0.arr (.slice A10 n10 c10)) rfl rfl 35 (ver0.arr (.slice none 0 0)) (BxC.new w10 _ _) (by kernel_rfl) rfl (Ver.arr_one _) ?_
  have HX11 := Lib.hid (box_row w10 (ver0.arr (.slice none 0 0)) (ver0.arr (.slice A10 n10 c10)) 35)
  have hbb := box_below w10 (ver0.arr (.slice none 0 0)) (ver0.arr (.slice A10 n10 c10)) 35
  obtain ⟨W11, hww⟩ : ∃ W11, (w10.alloc (.cells (ver0.arr (.slice none 0 0)) 35)).setRow w10.heap.size (ver0.arr (.slice A10 n10 c10)) = W11 := ⟨_, rfl⟩
  rw [hww] at HX11 hbb ⊢
  clear hww
  have hbk := hbw.trans (hbb.mono hbw.size)
  have HB11 := Lib.hid (HB9.out.trans (hbk.mono HB9.out.size))
  have HE11 := Lib.hid (HE9.out.next hbk)
  have HX5 := Lib.hid (HX5.out.next hbk)
  have HX7 := Lib.hid (HX7.out.next hbk)
  clear hsw hbw hbb hbk
  go_wp2_with fail
  refine (ky_Find_none exL (some ⟨g, 0, none⟩) 2 2 ⟨#[97]⟩ 3 10 W11 (ex_slice HE11.out) (by omega) ex_none).mono ?_
  rintro e w12 ⟨A12, n12, c12, rfl, hsw, hbw⟩
  rw [val_arr]
  dsimp only
  iterate 10 go_step
  refine Great.wpList_allocTo rfl _ rfl (.pointer (some ⟨w12.heap.size, 0, none⟩)) (.cells (ver0.arr (.slice none 0 0)) 35) (by kernel_rfl) ?_
  refine wpList_store_rowTo rfl 35 _ _ rfl rfl w12.heap.size (ver0.arr (.slice A12 n12 c12)) rfl rfl 35 (ver0.arr (.slice none 0 0)) (BxC.new w12 _ _) (by kernel_rfl) rfl (Ver.arr_one _) ?_
  have HX13 := Lib.hid (box_row w12 (ver0.arr (.slice none 0 0)) (ver0.arr (.slice A12 n12 c12)) 35)
  have hbb := box_below w12 (ver0.arr (.slice none 0 0)) (ver0.arr (.slice A12 n12 c12)) 35
  obtain ⟨W13, hww⟩ : ∃ W13, (w12.alloc (.cells (ver0.arr (.slice none 0 0)) 35)).setRow w12.heap.size (ver0.arr (.slice A12 n12 c12)) = W13 := ⟨_, rfl⟩
  rw [hww] at HX13 hbb ⊢
  clear hww
  have hbk := hbw.trans (hbb.mono hbw.size)
  have HB13 := Lib.hid (HB11.out.trans (hbk.mono HB11.out.size))
  have HE13 := Lib.hid (HE11.out.next hbk)
  have HX5 := Lib.hid (HX5.out.next hbk)
  have HX7 := Lib.hid (HX7.out.next hbk)
  clear hsw hbw hbb hbk
  go_wp2_with fail
  refine (law_version 0 12 0 W13).mono ?_
  rintro e w14 ⟨rfl, hb14⟩
  have HB14 := Lib.hid (HB13.out.trans (hb14.mono HB13.out.size))
  have HE14 := Lib.hid (HE13.out.next hb14)
  have HX5 := Lib.hid (HX5.out.next hb14)
  have HX7 := Lib.hid (HX7.out.next hb14)
  clear hb14
  go_wp2_with fail
  refine (ex_Rotate (some ⟨g, 0, none⟩) w14 (ex_slice HE14.out)).mono ?_
  rintro e w15 ⟨A15, n15, c15, A16, c16, rfl, hs15, hl15, hb15⟩
  rw [val_arr]
  dsimp only
  iterate 13 go_step
  refine Great.wpList_allocTo rfl _ rfl (.pointer (some ⟨w15.heap.size, 0, none⟩)) (.cells (ver0.arr (.slice none 0 0)) 35) (by kernel_rfl) ?_
  refine wpList_store_rowTo rfl 35 _ _ rfl rfl w15.heap.size ((mkV 3 12 4096).arr (.slice A15 n15 c15)) rfl rfl 35 (ver0.arr (.slice none 0 0)) (BxC.new w15 _ _) (by kernel_rfl) rfl (Ver.arr_one _) ?_
  have HX16 := Lib.hid (box_row w15 (ver0.arr (.slice none 0 0)) ((mkV 3 12 4096).arr (.slice A15 n15 c15)) 35)
  have hbb := box_below w15 (ver0.arr (.slice none 0 0)) ((mkV 3 12 4096).arr (.slice A15 n15 c15)) 35
  obtain ⟨W16, hww⟩ : ∃ W16, (w15.alloc (.cells (ver0.arr (.slice none 0 0)) 35)).setRow w15.heap.size ((mkV 3 12 4096).arr (.slice A15 n15 c15)) = W16 := ⟨_, rfl⟩
  rw [hww] at HX16 hbb ⊢
  clear hww
  have hbk := hb15.trans (hbb.mono hb15.size)
  have HB16 := Lib.hid (HB14.out.trans (hbk.mono HB14.out.size))
  have HX5 := Lib.hid (HX5.out.next hbk)
  have HX7 := Lib.hid (HX7.out.next hbk)
  have hl16 := hl15.kept hbb (Nat.le_refl _)
  obtain ⟨b, o, rfl⟩ := hl16.head (by simp)
  obtain ⟨A17, n17, c17, hvc, _⟩ := hl16.get? 1 (v := mkV 2 5 14) rfl
  have hto : W16.cell? ⟨b, o + 1 * 18 + 15, none⟩ = some (.int .i64 14) := hvc.open.2.2.2.2.2.2.2.2.2.2.2.2.2.2.2.1
  have hto' : W16.cell? ⟨b, o + 18 + 15, none⟩ = some (.int .i64 14) := hto
  have hto'' : W16.cell? ⟨b, o + 33, none⟩ = some (.int .i64 14) := by
    rw [show o + 33 = o + 1 * 18 + 15 from by omega]; exact hto
  have hcp := hl16.2.1
  have y1 : W16.cell? ⟨w4.heap.size, 1, none⟩ = some (.int .i64 1) := HX5.out.cell 1
  have y2 : W16.cell? ⟨w6.heap.size, 1, none⟩ = some (.int .i64 2) := HX7.out.cell 1
  have z1 : W16.cell? ⟨w15.heap.size, 1, none⟩ = some (.int .i64 3) := HX16.out.cell 1
  have z14 : W16.cell? ⟨w15.heap.size, 14, none⟩ = some (.int .i64 12) := HX16.out.cell 14
  have z15 : W16.cell? ⟨w15.heap.size, 15, none⟩ = some (.int .i64 4096) := HX16.out.cell 15
  clear hs15 hl15 hb15 hbb hbk hl16 hvc
  rw [show ([mkV 1 0 9, mkV 2 5 14] : List Ver).length = 2 from rfl] at *
  go_wp2
  go_ret
  exact ⟨rfl, HB16.out⟩
end Go.Proofs.YtecmmdealjhdpaaGreat

/- Walk: the law KeyringRotates. -/
import Derived.Test.YtnfkccohmkfnoaaRoA
import Derived.Test.YtnfkccohmkfnoaaRoD
set_option linter.unusedVariables false
set_option linter.unusedSimpArgs false
namespace Go.Proofs.Ytnfkccohmkfnoaa
open Go.RowKit

/-- What Rotate returns. -/
def rotR (l : List Ver) (v : Ver) (o : Int) : Ver × List Ver × Int :=
  if o < 0 ∨ 4096 < o then (ver0, [], 2) else match lastI l v.name with
  | none => (ver0, [], 22)
  | some i => match l[i]? with
    | none => (ver0, [], 22)
    | some u => if v.fr ≤ u.fr ∨ u.to < v.fr - 1 then (ver0, [], 21) else if (v.next u).msg.2 ≠ 0 then (ver0, [], (v.next u).msg.2) else (v.next u, rotL l i u (v.fr + o - 1), 0)
theorem RetRot.pair {l : List Ver} {v : Ver} {o : Int} {w w' : World} {x : Ending} (h : RetRot l v o w x w') : RetR .i64 (rotR l v o).1 (rotR l v o).2.1 (rotR l v o).2.2 w x w' := by
  unfold rotR
  rcases h with ⟨h1, h2⟩ | ⟨h1, h2, h3⟩ | ⟨i, u, h1, h2, h3, h4⟩
  · rw [if_pos h1]; exact h2
  · rw [if_neg h1, h2]; exact h3
  · rw [if_neg h1, h2]
    simp only [h3]
    rcases h4 with ⟨h5, h6⟩ | ⟨h5, h6⟩
    · rw [if_pos h5]; exact h6
    · rw [if_neg h5]
      rcases h6 with ⟨h7, h8⟩ | ⟨h7, h8⟩
      · rw [if_pos h7]; exact h8
      · rw [if_neg (by rw [h7]; decide)]; exact h8
theorem rotL_few {l : List Ver} {i : Nat} {u : Ver} {e : Int} (hu : l[i]? = some u) (h : FwV l) : FwV (rotL l i u e) := by
  unfold rotL
  split
  · intro k v hk
    by_cases hki : i = k
    · subst hki
      rw [List.getElem?_set_self (List.getElem?_eq_some_iff.1 hu).1] at hk
      cases hk
      exact h i u hu
    · rw [List.getElem?_set_ne hki] at hk
      exact h k v hk
  · exact h
theorem rotL_length {l : List Ver} {i : Nat} {u : Ver} {e : Int} : (rotL l i u e).length = l.length := by
  unfold rotL
  split
  · rw [List.length_set]
  · rfl
theorem rotR_few {l : List Ver} {v : Ver} {o : Int} (h : FwV l) (hv : v.kr.length ≤ 1000000) (hl : l.length ≤ 4096) : (rotR l v o).1.kr.length ≤ 1000000 ∧ FwV (rotR l v o).2.1 ∧ (rotR l v o).2.1.length ≤ 4096 := by
  have h0 : ver0.kr.length ≤ 1000000 ∧ FwV [] ∧ ([] : List Ver).length ≤ 4096 := ⟨by simp [ver0], fun k v h => by simp at h, by simp⟩
  unfold rotR
  split
  · exact h0
  · split
    · exact h0
    · split
      · exact h0
      · rename_i u hu
        split
        · exact h0
        · split
          · exact h0
          · exact ⟨hv, rotL_few hu h, by rw [rotL_length]; exact hl⟩
theorem plain_open {l : List Ver} (h : plainB l = true) (hn : ∀ (k : Nat) (v : Ver), l[k]? = some v → -9223372036854775808 ≤ v.num) : CalmL l := by
  unfold plainB at h
  rw [List.all_eq_true] at h
  intro k v hk
  have h1 : v.tame := of_decide_eq_true (h v (List.mem_of_getElem? hk))
  have h2 := hn k v hk
  obtain ⟨a, b, c, d, e⟩ := h1
  exact ⟨by omega, by omega, by omega, by omega, by omega, by omega⟩
/-- A slice of one version. -/
theorem SlV.single {w : World} {g : Nat} {v : Ver} {A : Option Addr} {n c : Nat} {T : TypeId} (h : BxC w g (v.arr (.slice A n c)) T) (hs : SlN w A n c v.kr) : SlV w (some ⟨g, 0, none⟩) 1 1 [v] := by
  refine ⟨rfl, Nat.le_refl _, by omega, g, 0, fun _ => rfl, fun k x hk => ?_⟩
  match k, hk with
  | 0, hk =>
    cases hk
    refine ⟨A, n, c, ?_, hs⟩
    have := h.ver
    exact this
theorem wpList_build_verG {ops : Array Oper} {rest : List Oper} {o : Oper} {a : Act} {w : World} {Q : Exit → Act → World → Prop} (hw : Region.wanted o (yielded ops a.tmps) = true) (x : Operand) (ho : o.op = .buildSlice 22 1 #[(0, x)]) (v : Ver) (A : Option Addr) (n c : Nat) (hx : a.eval x = .agg (v.arr (.slice A n c)))
    (h : wpList Try.prog ops Q rest (a.put o.dst (.slice (some ⟨w.heap.size, 0, none⟩) 1 1)) (w.alloc (.cells (v.arr (.slice A n c)) 38))) : wpList Try.prog ops Q (o :: rest) a w := by
  obtain ⟨i0, hi, iz0, iz1, iz2⟩ := info_parts ver_info
  refine wpList_step fun K hK => ?_
  rw [if_pos hw]
  refine wp_buildSlice _ 38 1 _ ho (v.arr (.slice A n c)) i0 _ Try.underlying22 hi iz0 (by rw [iz1]; decide) (by rw [iz1]; decide) ?_ (hK _ _ h)
  rw [iz1]
  have e : (Array.map (fun x => (x.1, a.eval x.2)) #[(0, x)]).toList = [(0, .agg (v.arr (.slice A n c)))] := by simp [hx]
  show Instr.fill _ _ (Array.map (fun x => (x.1, a.eval x.2)) #[(0, x)]).toList = _
  rw [e]
  exact ver_fill v A n c
set_option maxRecDepth 100000 in
set_option maxHeartbeats 4000000 in
theorem law_Rotates (l : List Ver) (A : Option Addr) (len cap : Nat) (v : Ver) (A1 : Option Addr) (n1 c1 : Nat) (o : Int) (w : World) (hs : SlV w A len cap l) (hz : SzVs l) (hv : SlN w A1 n1 c1 v.kr) (hvz : SzL v.str) (hln : ∀ (k : Nat) (v : Ver), l[k]? = some v → -9223372036854775808 ≤ v.num) (hvn : -9223372036854775808 ≤ v.num) :
    Calls Try.prog 4 #[.slice A len cap, .agg (v.arr (.slice A1 n1 c1)), .int .i64 o] w (Ret (.bool true) w) := by
  obtain ⟨cs, hcs⟩ : ∃ cs, v.arr (.slice A1 n1 c1) = cs := ⟨_, rfl⟩
  rw [hcs]
  have HCS := Lib.hid (show cs.size = 18 from by rw [← hcs]; rfl)
  have HVA := Lib.hid hcs
  have HVE := Lib.hid (show Value.agg cs = .agg (v.arr (.slice A1 n1 c1)) from by rw [hcs])
  obtain ⟨W0, hW0⟩ : ∃ W0, w.alloc (.cells cs 38) = W0 := ⟨_, rfl⟩
  have HX0 := Lib.hid (show BxC W0 w.heap.size cs 38 from by rw [← hW0]; exact BxC.new w _ _)
  have HB0 := Lib.hid (show Below w.heap.size w W0 from by rw [← hW0]; exact (Below.refl _ _).alloc (Nat.le_refl _) _)
  have HS := Lib.hid hs
  have HSL := Lib.hid hv
  have HZS := Lib.hid hz
  have HVZ := Lib.hid hvz
  have HLN := Lib.hid hln
  have HVN := Lib.hid hvn
  have hlen := hs.1
  have hcap := hs.2.1
  have hcap2 := hs.2.2.1
  have HLEN := Lib.hid hlen
  clear hs hz hlen hv hvz hln hvn hcs
  go_enter Try.func4, Try.ntmps4
  go_wp2_with fail
  try rw [hW0]
  clear hW0
  refine (law_Few l A len cap W0 (HS.out.kept HB0.out (Nat.le_refl _)) HZS.out).mono ?_
  rintro e w1 ⟨rfl, hb1⟩
  have HX1 := Lib.hid (HX0.out.next hb1)
  have HB1 := Lib.hid (HB0.out.trans (hb1.mono HB0.out.size))
  clear hb1
  cases hf : fewL l with
  | false =>
    clear hf
    go_wp2_with fail
    refine (law_awake _).mono ?_
    rintro e wa ⟨rfl, hba⟩
    have HBA := Lib.hid (HB1.out.trans (hba.mono HB1.out.size))
    clear hba
    go_wp2
    go_ret
    exact ⟨rfl, HBA.out⟩
  | true =>
    have HFW := Lib.hid (few_open hf)
    clear hf
    have hl12 : len ≤ 4096 := by have := HFW.out.1; rw [HLEN.out] at this; omega
    have HSZ := Lib.hid (show SzV l from fun k v hk => by have := (HFW.out.2 k v hk).1; unfold maxLen; omega)
    have HFV := Lib.hid (show FwV l from fun k v hk => by have := (HFW.out.2 k v hk).2; omega)
    dsimp only
    iterate 7 go_step
    refine wpList_load_rowG (by kernel_rfl) 38 _ rfl w.heap.size rfl 38 cs (0, 0) _ HX1.out Try.underlying38 rfl (by rw [HCS.out]; kernel_rfl) ?_
    refine wpList_build_verG (by kernel_rfl) _ rfl v A1 n1 c1 HVE.out ?_
    have HXn := Lib.hid (BxC.new w1 (v.arr (.slice A1 n1 c1)) 38)
    have hbn : Below w1.heap.size w1 (w1.alloc (.cells (v.arr (.slice A1 n1 c1)) 38)) := (Below.refl _ _).alloc (Nat.le_refl _) _
    have HSn := Lib.hid (SlV.single HXn.out (HSL.out.kept (HB1.out.trans (hbn.mono HB1.out.size)) (Nat.le_refl _)))
    have HX2 := Lib.hid (HX1.out.next hbn)
    have HB2 := Lib.hid (HB1.out.trans (hbn.mono HB1.out.size))
    obtain ⟨W2, hww⟩ : ∃ W2, w1.alloc (.cells (v.arr (.slice A1 n1 c1)) 38) = W2 := ⟨_, rfl⟩
    rw [hww] at HX2 HB2 HSn ⊢
    clear hww hbn HXn
    go_wp2_with fail
    refine (law_Few [v] _ 1 1 W2 HSn.out (fun k x hk => by
      match k, hk with
      | 0, hk => cases hk; exact HVZ.out)).mono ?_
    rintro e w3 ⟨rfl, hb3⟩
    have HX3 := Lib.hid (HX2.out.next hb3)
    have HB3 := Lib.hid (HB2.out.trans (hb3.mono HB2.out.size))
    clear hb3 HSn
    cases hf : fewL [v] with
    | false =>
      clear hf
      go_wp2_with fail
      refine (law_awake _).mono ?_
      rintro e wa ⟨rfl, hba⟩
      have HBA := Lib.hid (HB3.out.trans (hba.mono HB3.out.size))
      clear hba
      go_wp2
      go_ret
      exact ⟨rfl, HBA.out⟩
    | true =>
      have HFv := Lib.hid ((few_open hf).2 0 v rfl)
      clear hf
      go_wp2_with fail
      refine (law_plain l A len cap w3 (HS.out.kept HB3.out (Nat.le_refl _))).mono ?_
      rintro e w4 ⟨rfl, hb4⟩
      have HX4 := Lib.hid (HX3.out.next hb4)
      have HB4 := Lib.hid (HB3.out.trans (hb4.mono HB3.out.size))
      clear hb4
      cases hf : plainB l with
      | false =>
        clear hf
        go_wp2_with fail
        refine (law_awake _).mono ?_
        rintro e wa ⟨rfl, hba⟩
        have HBA := Lib.hid (HB4.out.trans (hba.mono HB4.out.size))
        clear hba
        go_wp2
        go_ret
        exact ⟨rfl, HBA.out⟩
      | true =>
        have HCL := Lib.hid (plain_open hf HLN.out)
        clear hf
        dsimp only
        iterate 9 go_step
        refine wpList_load_rowG (by kernel_rfl) 38 _ rfl w.heap.size rfl 38 cs (0, 0) _ HX4.out Try.underlying38 rfl (by rw [HCS.out]; kernel_rfl) ?_
        refine wpList_build_verG (by kernel_rfl) _ rfl v A1 n1 c1 HVE.out ?_
        have HXn := Lib.hid (BxC.new w4 (v.arr (.slice A1 n1 c1)) 38)
        have hbn : Below w4.heap.size w4 (w4.alloc (.cells (v.arr (.slice A1 n1 c1)) 38)) := (Below.refl _ _).alloc (Nat.le_refl _) _
        have HSn := Lib.hid (SlV.single HXn.out (HSL.out.kept (HB4.out.trans (hbn.mono HB4.out.size)) (Nat.le_refl _)))
        have HX5 := Lib.hid (HX4.out.next hbn)
        have HB5 := Lib.hid (HB4.out.trans (hbn.mono HB4.out.size))
        obtain ⟨W5, hww⟩ : ∃ W5, w4.alloc (.cells (v.arr (.slice A1 n1 c1)) 38) = W5 := ⟨_, rfl⟩
        rw [hww] at HX5 HB5 HSn ⊢
        clear hww hbn HXn
        go_wp2_with fail
        refine (law_plain [v] _ 1 1 W5 HSn.out).mono ?_
        rintro e w6 ⟨rfl, hb6⟩
        have HX6 := Lib.hid (HX5.out.next hb6)
        have HB6 := Lib.hid (HB5.out.trans (hb6.mono HB5.out.size))
        clear hb6 HSn
        cases hf : plainB [v] with
        | false =>
          clear hf
          go_wp2_with fail
          refine (law_awake _).mono ?_
          rintro e wa ⟨rfl, hba⟩
          have HBA := Lib.hid (HB6.out.trans (hba.mono HB6.out.size))
          clear hba
          go_wp2
          go_ret
          exact ⟨rfl, HBA.out⟩
        | true =>
          have HCV := Lib.hid (plain_open hf (fun k x hk => by
            match k, hk with
            | 0, hk => cases hk; exact HVN.out) 0 v rfl)
          clear hf
          obtain ⟨vr, hvr⟩ : ∃ vr, rotR l v o = vr := ⟨_, rfl⟩
          have hkn : v.kr.length ≤ 100 := by have := HFv.out.2; omega
          have hn1 : n1 ≤ 100 := by rw [← HSL.out.1]; exact hkn
          have HC1 := Lib.hid (fun (W : World) (hb : Below w.heap.size w W) => (ky_Rotate l A len cap v A1 n1 c1 o W (HS.out.kept hb (Nat.le_refl _)) hl12 HSZ.out HFV.out (HSL.out.kept hb (Nat.le_refl _)) hn1 HVZ.out (by have := HFv.out.1; unfold maxLen; omega) HCL.out HCV.out).mono fun _ _ h => RetRot.pair h)
          have HC2 := Lib.hid (fun (W : World) (hb : Below w.heap.size w W) => (r58_Rotate l A len cap v A1 n1 c1 o W (HS.out.kept hb (Nat.le_refl _)) hl12 HSZ.out HFV.out (HSL.out.kept hb (Nat.le_refl _)) hn1 HVZ.out (by have := HFv.out.1; unfold maxLen; omega) HCL.out HCV.out).mono fun _ _ h => RetRot.pair h)
          have HK := Lib.hid (rotR_few (o := o) HFV.out (show v.kr.length ≤ 1000000 by omega) (by rw [HLEN.out]; exact hl12))
          rw [hvr, HVA.out] at HC1 HC2
          rw [hvr] at HK
          obtain ⟨vv, ll, f⟩ := vr
          clear hvr
          go_upto_region 3 with fail
          refine wp_region_lit ?_
          iterate 3 go_step
          refine wpList_load_row rfl 38 _ rfl w.heap.size rfl 38 cs (0, 0) _ HX6.out Try.underlying38 rfl (by rw [HCS.out]; kernel_rfl) ?_
          go_wp2_with fail
          refine (HC1.out w6 HB6.out).mono ?_
          rintro e w7 ⟨A7, n7, c7, L7, cp7, rfl, hsw, hlw, hbw⟩
          try dsimp only at hsw hlw
          rw [val_arr]
          dsimp only
          iterate 13 go_step
          refine Great.wpList_allocTo rfl _ rfl (.pointer (some ⟨w7.heap.size, 0, none⟩)) (.cells (ver0.arr (.slice none 0 0)) 38) (by kernel_rfl) ?_
          refine wpList_store_rowTo rfl 38 _ _ rfl rfl w7.heap.size (vv.arr (.slice A7 n7 c7)) rfl rfl 38 (ver0.arr (.slice none 0 0)) (BxC.new w7 _ _) (by kernel_rfl) rfl (Ver.arr_one _) ?_
          have HX8 := Lib.hid (box_row w7 (ver0.arr (.slice none 0 0)) (vv.arr (.slice A7 n7 c7)) 38)
          have hbb := box_below w7 (ver0.arr (.slice none 0 0)) (vv.arr (.slice A7 n7 c7)) 38
          obtain ⟨W8, hww⟩ : ∃ W8, (w7.alloc (.cells (ver0.arr (.slice none 0 0)) 38)).setRow w7.heap.size (vv.arr (.slice A7 n7 c7)) = W8 := ⟨_, rfl⟩
          rw [hww] at HX8 hbb ⊢
          clear hww
          have hbk := hbw.trans (hbb.mono hbw.size)
          have HB8 := Lib.hid (HB6.out.trans (hbk.mono HB6.out.size))
          have HX_8 := Lib.hid (HX6.out.next hbk)
          have HN8 := Lib.hid (hsw.kept hbb (Nat.le_refl _))
          have HL8 := Lib.hid (hlw.kept hbb (Nat.le_refl _))
          clear hsw hlw hbw hbb hbk
          go_upto_region 4 with fail
          refine wp_region_lit ?_
          iterate 3 go_step
          refine wpList_load_row rfl 38 _ rfl w.heap.size rfl 38 cs (0, 0) _ HX_8.out Try.underlying38 rfl (by rw [HCS.out]; kernel_rfl) ?_
          go_wp2_with fail
          refine (HC2.out W8 HB8.out).mono ?_
          rintro e w9 ⟨A9, n9, c9, L9, cp9, rfl, hsw, hlw, hbw⟩
          try dsimp only at hsw hlw
          rw [val_arr]
          dsimp only
          iterate 13 go_step
          refine Great.wpList_allocTo rfl _ rfl (.pointer (some ⟨w9.heap.size, 0, none⟩)) (.cells (ver0.arr (.slice none 0 0)) 38) (by kernel_rfl) ?_
          refine wpList_store_rowTo rfl 38 _ _ rfl rfl w9.heap.size (vv.arr (.slice A9 n9 c9)) rfl rfl 38 (ver0.arr (.slice none 0 0)) (BxC.new w9 _ _) (by kernel_rfl) rfl (Ver.arr_one _) ?_
          have HX10 := Lib.hid (box_row w9 (ver0.arr (.slice none 0 0)) (vv.arr (.slice A9 n9 c9)) 38)
          have hbb := box_below w9 (ver0.arr (.slice none 0 0)) (vv.arr (.slice A9 n9 c9)) 38
          obtain ⟨W10, hww⟩ : ∃ W10, (w9.alloc (.cells (ver0.arr (.slice none 0 0)) 38)).setRow w9.heap.size (vv.arr (.slice A9 n9 c9)) = W10 := ⟨_, rfl⟩
          rw [hww] at HX10 hbb ⊢
          clear hww
          have hbk := hbw.trans (hbb.mono hbw.size)
          have HB10 := Lib.hid (HB8.out.trans (hbk.mono HB8.out.size))
          have HX8 := Lib.hid (HX8.out.next hbk)
          have HN8 := Lib.hid (HN8.out.kept hbk (Nat.le_refl _))
          have HL8 := Lib.hid (HL8.out.kept hbk (Nat.le_refl _))
          have HN10 := Lib.hid (hsw.kept hbb (Nat.le_refl _))
          have HL10 := Lib.hid (hlw.kept hbb (Nat.le_refl _))
          clear hsw hlw hbw hbb hbk
          go_upto_region 5 with fail
          refine wp_region_lit ?_
          go_wp2_with fail
          refine (law_awake W10).mono ?_
          rintro e w11 ⟨rfl, hb11⟩
          have HX8 := Lib.hid (HX8.out.next hb11)
          have HN8 := Lib.hid (HN8.out.kept hb11 (Nat.le_refl _))
          have HL8 := Lib.hid (HL8.out.kept hb11 (Nat.le_refl _))
          have HX10 := Lib.hid (HX10.out.next hb11)
          have HN10 := Lib.hid (HN10.out.kept hb11 (Nat.le_refl _))
          have HL10 := Lib.hid (HL10.out.kept hb11 (Nat.le_refl _))
          have HB11 := Lib.hid (HB10.out.trans (hb11.mono HB10.out.size))
          clear hb11
          dsimp only
          iterate 4 go_step
          refine wpList_load_rowG (by kernel_rfl) 38 _ rfl w7.heap.size rfl 38 (vv.arr (.slice A7 n7 c7)) (0, 0) _ HX8.out Try.underlying38 rfl (by kernel_rfl) ?_
          refine wpList_load_rowG (by kernel_rfl) 38 _ rfl w9.heap.size rfl 38 (vv.arr (.slice A9 n9 c9)) (0, 0) _ HX10.out Try.underlying38 rfl (by kernel_rfl) ?_
          go_wp2_with fail
          refine (r58_Same vv A7 A9 n7 c7 n9 c9 w11 HN8.out HN10.out (by rw [← HN8.out.1]; exact HK.out.1)).mono ?_
          rintro e w12 ⟨rfl, hb12⟩
          have HL8 := Lib.hid (HL8.out.kept hb12 (Nat.le_refl _))
          have HL10 := Lib.hid (HL10.out.kept hb12 (Nat.le_refl _))
          have HB12 := Lib.hid (HB11.out.trans (hb12.mono HB11.out.size))
          clear hb12 HX8 HX10
          have hff : (f == f) = true := beq_self_eq_true f
          go_wp2_with fail
          refine (r58_SameList ll L7 L9 ll.length cp7 ll.length cp9 w12 HL8.out HL10.out HK.out.2.2 HK.out.2.1).mono ?_
          rintro e w13 ⟨rfl, hb13⟩
          have HB13 := Lib.hid (HB12.out.trans (hb13.mono HB12.out.size))
          clear hb13
          go_wp2
          go_ret
          exact ⟨rfl, HB13.out⟩
end Go.Proofs.Ytnfkccohmkfnoaa

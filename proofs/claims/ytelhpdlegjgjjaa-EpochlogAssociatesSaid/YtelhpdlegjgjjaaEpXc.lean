/- Walk: epochlog.Between. -/
import Derived.Test.YtelhpdlegjgjjaaEpXb
set_option linter.unusedVariables false
set_option linter.unusedSimpArgs false
namespace Go.Proofs.Ytelhpdlegjgjjaa
open Go.RowKit Go.Shelf
attribute [local go_sem] Oper.semAt_some

/-- The deltas of a list joined. -/
def btF : List Dl → Dl × Int
  | [] => (Dl.zero, 0)
  | d :: l => foldJ d.strip l
theorem bt_eq {l : List Dl} {F T : Nat} (hFT : F < T) (hT : T ≤ l.length) : bt l F T = (if T = F + 1 ∧ (btF ((l.drop F).take (T - F))).1.msg.2 ≠ 0 then (Dl.zero, (btF ((l.drop F).take (T - F))).1.msg.2) else btF ((l.drop F).take (T - F))) := by
  unfold bt
  rw [if_neg (by omega)]
  simp only [Int.toNat_natCast]
  obtain ⟨d, he⟩ : ∃ d, l[F]? = some d := ⟨_, List.getElem?_eq_getElem (by omega)⟩
  unfold btw
  rw [he, rest_cons he hFT]
  show (if T = F + 1 ∧ d.strip.msg.2 ≠ 0 then (Dl.zero, d.strip.msg.2) else foldJ d.strip ((l.drop (F + 1)).take (T - (F + 1)))) = (if T = F + 1 ∧ (foldJ d.strip ((l.drop (F + 1)).take (T - (F + 1)))).1.msg.2 ≠ 0 then (Dl.zero, (foldJ d.strip ((l.drop (F + 1)).take (T - (F + 1)))).1.msg.2) else foldJ d.strip ((l.drop (F + 1)).take (T - (F + 1))))
  by_cases h1 : T = F + 1
  · have h2 : (l.drop (F + 1)).take (T - (F + 1)) = [] := by rw [h1, Nat.sub_self, List.take_zero]
    rw [h2, show foldJ d.strip [] = (d.strip, 0) from rfl]
  · rw [if_neg (fun h => h1 h.1), if_neg (fun h => h1 h.1)]
abbrev zcs : Array Value := Dl.zero.arr (.slice none 0 0) (.slice none 0 0)
/-- What the box of the joined delta holds. -/
def St (P : Nat) {w : World} (pre : List (DX w)) (W : World) : Prop :=
  (pre = [] ∧ BxC W (P + 2) #[.bool true] 4 ∧ BxC W (P + 3) itD 27) ∨
  (pre ≠ [] ∧ BxC W (P + 2) #[.bool false] 4 ∧ ∃ D A1 n1 c1 A2 n2 c2, BxC W (P + 3) (D.arr (.slice A1 n1 c1) (.slice A2 n2 c2)) 27 ∧ SlN W A1 n1 c1 D.ad ∧ SlN W A2 n2 c2 D.rm ∧
    (0 < n1 → ∀ ad, A1 = some ad → P + 4 ≤ ad.block) ∧ (0 < n2 → ∀ ad, A2 = some ad → P + 4 ≤ ad.block) ∧ n1 ≤ 20 * pre.length ∧ n2 ≤ 20 * pre.length ∧ SzL D.str ∧ ∀ rest, btF (pre.map (·.val.d) ++ rest) = foldJ D rest)
def BI (P : Nat) (w : World) (pre : List (DX w)) (W : World) : Prop := (BxC W P zcs 27 ∧ BxC W (P + 1) #[.int .i64 0] 30) ∧ Below P w W ∧ St P pre W
def BX (P : Nat) (w : World) (c : Code) (pre : List (DX w)) (W : World) : Prop := c = .ret ∧ Below P w W ∧ ∃ e : Int, e ≠ 0 ∧ (BxC W P zcs 27 ∧ BxC W (P + 1) #[.int .i64 e] 30) ∧ ∀ rest, btF (pre.map (·.val.d) ++ rest) = (Dl.zero, e)
theorem bi_own {P B : Nat} {w : World} (hP : P ≤ w.heap.size) (hB : P ≤ B) : OwnFrom B (BI P w) := by
  rintro pre X Y row ⟨⟨h1, h2⟩, h3, h4⟩ hg hr
  have hr' : ∀ r, row = some r → ∃ o : Obj, X.heap[r]? = some o ∧ o.isCells = false := fun r e => (hr r e).2
  refine ⟨⟨bxC_own _ _ _ pre X Y row h1 hg hr', bxC_own _ _ _ pre X Y row h2 hg hr'⟩, ownFrom_below hP hB pre X Y row h3 hg hr, ?_⟩
  rcases h4 with ⟨a, b, c⟩ | ⟨a, b, D, A1, n1, c1, A2, n2, c2, d, e, f, g⟩
  · exact .inl ⟨a, bxC_own _ _ _ pre X Y row b hg hr', bxC_own _ _ _ pre X Y row c hg hr'⟩
  · exact .inr ⟨a, bxC_own _ _ _ pre X Y row b hg hr', D, A1, n1, c1, A2, n2, c2, bxC_own _ _ _ pre X Y row d hg hr', slN_own _ _ _ _ pre X Y row e hg hr', slN_own _ _ _ _ pre X Y row f hg hr', g⟩
theorem bx_own {P B : Nat} {w : World} (hP : P ≤ w.heap.size) (hB : P ≤ B) (c : Code) : OwnFrom B (BX P w c) := by
  rintro pre X Y row ⟨h0, h1, e, h2, ⟨h3, h4⟩, h5⟩ hg hr
  have hr' : ∀ r, row = some r → ∃ o : Obj, X.heap[r]? = some o ∧ o.isCells = false := fun r e => (hr r e).2
  exact ⟨h0, ownFrom_below hP hB pre X Y row h1 hg hr, e, h2, ⟨bxC_own _ _ _ pre X Y row h3 hg hr', bxC_own _ _ _ pre X Y row h4 hg hr'⟩, h5⟩
theorem lastX {P : Nat} {w : World} {pre : List (DX w)} {D : Dl} (x : DX w) (h : ∀ rest, btF (pre.map (·.val.d) ++ rest) = foldJ D rest) (hj : (jn D x.val.d).2 = 0) : ∀ rest, btF ((pre ++ [x]).map (·.val.d) ++ rest) = foldJ (jn D x.val.d).1 rest := by
  intro rest
  rw [List.map_append, List.append_assoc, h]
  show foldJ D (x.val.d :: rest) = _
  rw [foldJ, if_pos hj]
theorem lastE {P : Nat} {w : World} {pre : List (DX w)} {D : Dl} (x : DX w) (h : ∀ rest, btF (pre.map (·.val.d) ++ rest) = foldJ D rest) (hj : (jn D x.val.d).2 ≠ 0) : ∀ rest, btF ((pre ++ [x]).map (·.val.d) ++ rest) = (Dl.zero, (jn D x.val.d).2) := by
  intro rest
  rw [List.map_append, List.append_assoc, h]
  show foldJ D (x.val.d :: rest) = _
  rw [foldJ, if_neg hj]
theorem bodyM_ret {F : Fence} {n : Nat} {P : Program} {fn : Func} {R : Ending → World → Prop} {a : Act} {w : World} {v : Value} (hr : (results fn a.tmps).run P w = .ok v w) (hd : a.defers = []) (hR : R (.returned v) w) : bodyPostM F n P fn R .ret a w := by
  show LeavesInM F n P fn a.tmps R a.defers .returning w
  rw [hd]
  exact ⟨v, hr, hR⟩
theorem bodyM_mark {F : Fence} {n : Nat} {P : Program} {fn : Func} {R : Ending → World → Prop} {a : Act} {w : World} {v : Value} {D : Nat} (hk : w.heap[D]? = some (.deferred (some []))) (hd : a.defers = [{ target := .collected D, args := #[] }]) (hr : (results fn a.tmps).run P (w.putObj D (.deferred none)) = .ok v (w.putObj D (.deferred none))) (hR : R (.returned v) (w.putObj D (.deferred none))) : bodyPostM F n P fn R .ret a w := by
  show LeavesInM F n P fn a.tmps R a.defers .returning w
  rw [hd]
  exact ⟨by simp, .inl ⟨_, _, rfl, run_takeDeferred hk, v, hr, hR⟩⟩
set_option maxRecDepth 100000 in
set_option maxHeartbeats 8000000 in
theorem ep_Between (l : List Dl) (A : Option Addr) (n c : Nat) (f t : Int) (w : World) (hs : SlD w A n c l) (hn : n ≤ 12) (hf : ∀ d ∈ l, FewD d) (hz : SzD l) :
    Calls Try.prog 14 #[.slice A n c, .int .i64 f, .int .i64 t] w (RetDl (bt l f t) w) := by
  obtain ⟨P, hP⟩ : ∃ P, w.heap.size = P := ⟨_, rfl⟩
  obtain ⟨W0, hW0⟩ : ∃ W0, (w.alloc (.cells zcs 27)).alloc (.cells #[.int .i64 0] 30) = W0 := ⟨_, rfl⟩
  have HR0 := Lib.hid (show BxC W0 P zcs 27 from by rw [← hW0, ← hP]; exact (BxC.new w _ _).alloc _)
  have HE0 := Lib.hid (show BxC W0 (P + 1) #[.int .i64 0] 30 from by rw [← hW0, ← hP]; exact BxC.new1 w _ _ _)
  have HB0 := Lib.hid (show Below P w W0 from by rw [← hW0, ← hP]; exact ((Below.refl _ _).alloc (Nat.le_refl _) _).alloc (by simp) _)
  have HW0 := Lib.hid (show W0.heap.size = P + 2 from by rw [← hW0, ← hP]; simp)
  have HPE := Lib.hid hP
  have HSW := Lib.hid hs
  have HLEN := Lib.hid hs.1
  have HF := Lib.hid hf
  have HZ := Lib.hid hz
  have hcap := hs.2.1
  have hcap2 := hs.2.2.1
  clear hs hf hz
  unfold zcs Dl.arr Dl.zero at hW0
  dsimp only at hW0
  refine (callsIn_wide (n := 3)).1 ?_
  refine callsIn_of_wp_marks Try.func14 rfl trivial ?_ rfl
  simp only [Try.ntmps14, List.size_toArray, List.length_cons, List.length_nil, Nat.reduceAdd, Nat.reduceSub, Array.replicate_succ, Array.replicate_zero, List.push_toArray, List.append_toArray, List.nil_append, List.cons_append]
  refine wpIn_wide.2 ?_
  by_cases h1 : f < 0
  · have g1 : decide (f < 0) = true := decide_eq_true h1
    have HJ := Lib.hid (show bt l f t = (Dl.zero, 2) from if_pos (.inl h1))
    have HRZ := Lib.hid (show BxC (W0.setRow P zcs) P zcs 27 from setRow_heap _ _ _ zcs _ _ HR0.out)
    have HEZ := Lib.hid (show BxC (W0.setRow P zcs) (P + 1) _ 30 from HE0.out.row (by omega))
    have HBZ := Lib.hid (below_setRow HB0.out (g := P) (Nat.le_refl _) zcs)
    have cE : (W0.setRow P zcs).cell? ⟨P + 1, 0, none⟩ = some (.int .i64 0) := HEZ.out.cell 0
    have fE := HEZ.out.free 0
    go_wp2_with (refine wpList_store_rowTo rfl 27 _ _ rfl rfl P zcs rfl rfl 27 zcs HR0.out (by kernel_rfl) rfl (Dl.zero.one _ _ _ _ _ _) ?_)
    have HR2 := Lib.hid (HRZ.out.other (C := P + 1) (k := 0) (by omega) (.int .i64 2))
    have HE2 := Lib.hid (HEZ.out.set (k := 0) (.int .i64 2))
    have y0 : ((W0.setRow P zcs).setCell ⟨P + 1, 0, none⟩ (.int .i64 2)).cell? ⟨P, 0, none⟩ = some (.int .i64 0) := HR2.out.cell 0
    have y1 : ((W0.setRow P zcs).setCell ⟨P + 1, 0, none⟩ (.int .i64 2)).cell? ⟨P, 1, none⟩ = some (.int .i64 0) := HR2.out.cell 1
    have y2 : ((W0.setRow P zcs).setCell ⟨P + 1, 0, none⟩ (.int .i64 2)).cell? ⟨P, 2, none⟩ = some (.slice none 0 0) := HR2.out.cell 2
    have y3 : ((W0.setRow P zcs).setCell ⟨P + 1, 0, none⟩ (.int .i64 2)).cell? ⟨P, 3, none⟩ = some (.slice none 0 0) := HR2.out.cell 3
    have y4 : ((W0.setRow P zcs).setCell ⟨P + 1, 0, none⟩ (.int .i64 2)).cell? ⟨P, 4, none⟩ = some (.string ⟨#[]⟩) := HR2.out.cell 4
    have y5 : ((W0.setRow P zcs).setCell ⟨P + 1, 0, none⟩ (.int .i64 2)).cell? ⟨P, 5, none⟩ = some (.string ⟨#[]⟩) := HR2.out.cell 5
    have y6 : ((W0.setRow P zcs).setCell ⟨P + 1, 0, none⟩ (.int .i64 2)).cell? ⟨P, 6, none⟩ = some (.string ⟨#[]⟩) := HR2.out.cell 6
    have y7 : ((W0.setRow P zcs).setCell ⟨P + 1, 0, none⟩ (.int .i64 2)).cell? ⟨P, 7, none⟩ = some (.string ⟨#[]⟩) := HR2.out.cell 7
    have yE : ((W0.setRow P zcs).setCell ⟨P + 1, 0, none⟩ (.int .i64 2)).cell? ⟨P + 1, 0, none⟩ = some (.int .i64 2) := HE2.out.cell 0
    refine bodyM_ret (P := Try.prog) (fn := Try.f14) (v := .tuple #[.agg #[.int .i64 0, .int .i64 0, .slice none 0 0, .slice none 0 0, .string ⟨#[]⟩, .string ⟨#[]⟩, .string ⟨#[]⟩, .string ⟨#[]⟩], .int .i64 2]) (by simp [results, Try.results14, go_sem, y0, y1, y2, y3, y4, y5, y6, y7, yE]) rfl ?_
    exact ⟨none, 0, 0, none, 0, 0, by rw [HJ.out]; rfl, by rw [HJ.out]; exact SlN.nil _ _ (by omega) _, by rw [HJ.out]; exact SlN.nil _ _ (by omega) _, by rw [HPE.out]; exact HBZ.out.setCell (p := ⟨P + 1, 0, none⟩) (by simp only []; omega) _⟩
  · have g1 : decide (f < 0) = false := decide_eq_false h1
    by_cases h2 : t ≤ f
    · have g2 : decide (t ≤ f) = true := decide_eq_true h2
      have HJ := Lib.hid (show bt l f t = (Dl.zero, 2) from if_pos (.inr (.inl h2)))
      have HRZ := Lib.hid (show BxC (W0.setRow P zcs) P zcs 27 from setRow_heap _ _ _ zcs _ _ HR0.out)
      have HEZ := Lib.hid (show BxC (W0.setRow P zcs) (P + 1) _ 30 from HE0.out.row (by omega))
      have HBZ := Lib.hid (below_setRow HB0.out (g := P) (Nat.le_refl _) zcs)
      have cE : (W0.setRow P zcs).cell? ⟨P + 1, 0, none⟩ = some (.int .i64 0) := HEZ.out.cell 0
      have fE := HEZ.out.free 0
      go_wp2_with (refine wpList_store_rowTo rfl 27 _ _ rfl rfl P zcs rfl rfl 27 zcs HR0.out (by kernel_rfl) rfl (Dl.zero.one _ _ _ _ _ _) ?_)
      have HR2 := Lib.hid (HRZ.out.other (C := P + 1) (k := 0) (by omega) (.int .i64 2))
      have HE2 := Lib.hid (HEZ.out.set (k := 0) (.int .i64 2))
      have y0 : ((W0.setRow P zcs).setCell ⟨P + 1, 0, none⟩ (.int .i64 2)).cell? ⟨P, 0, none⟩ = some (.int .i64 0) := HR2.out.cell 0
      have y1 : ((W0.setRow P zcs).setCell ⟨P + 1, 0, none⟩ (.int .i64 2)).cell? ⟨P, 1, none⟩ = some (.int .i64 0) := HR2.out.cell 1
      have y2 : ((W0.setRow P zcs).setCell ⟨P + 1, 0, none⟩ (.int .i64 2)).cell? ⟨P, 2, none⟩ = some (.slice none 0 0) := HR2.out.cell 2
      have y3 : ((W0.setRow P zcs).setCell ⟨P + 1, 0, none⟩ (.int .i64 2)).cell? ⟨P, 3, none⟩ = some (.slice none 0 0) := HR2.out.cell 3
      have y4 : ((W0.setRow P zcs).setCell ⟨P + 1, 0, none⟩ (.int .i64 2)).cell? ⟨P, 4, none⟩ = some (.string ⟨#[]⟩) := HR2.out.cell 4
      have y5 : ((W0.setRow P zcs).setCell ⟨P + 1, 0, none⟩ (.int .i64 2)).cell? ⟨P, 5, none⟩ = some (.string ⟨#[]⟩) := HR2.out.cell 5
      have y6 : ((W0.setRow P zcs).setCell ⟨P + 1, 0, none⟩ (.int .i64 2)).cell? ⟨P, 6, none⟩ = some (.string ⟨#[]⟩) := HR2.out.cell 6
      have y7 : ((W0.setRow P zcs).setCell ⟨P + 1, 0, none⟩ (.int .i64 2)).cell? ⟨P, 7, none⟩ = some (.string ⟨#[]⟩) := HR2.out.cell 7
      have yE : ((W0.setRow P zcs).setCell ⟨P + 1, 0, none⟩ (.int .i64 2)).cell? ⟨P + 1, 0, none⟩ = some (.int .i64 2) := HE2.out.cell 0
      refine bodyM_ret (P := Try.prog) (fn := Try.f14) (v := .tuple #[.agg #[.int .i64 0, .int .i64 0, .slice none 0 0, .slice none 0 0, .string ⟨#[]⟩, .string ⟨#[]⟩, .string ⟨#[]⟩, .string ⟨#[]⟩], .int .i64 2]) (by simp [results, Try.results14, go_sem, y0, y1, y2, y3, y4, y5, y6, y7, yE]) rfl ?_
      exact ⟨none, 0, 0, none, 0, 0, by rw [HJ.out]; rfl, by rw [HJ.out]; exact SlN.nil _ _ (by omega) _, by rw [HJ.out]; exact SlN.nil _ _ (by omega) _, by rw [HPE.out]; exact HBZ.out.setCell (p := ⟨P + 1, 0, none⟩) (by simp only []; omega) _⟩
    · have g2 : decide (t ≤ f) = false := decide_eq_false h2
      by_cases h3 : (n : Int) < t
      · have g3 : decide ((n : Int) < t) = true := decide_eq_true h3
        have HJ := Lib.hid (show bt l f t = (Dl.zero, 2) from if_pos (.inr (.inr (by rw [HLEN.out]; exact h3))))
        have HRZ := Lib.hid (show BxC (W0.setRow P zcs) P zcs 27 from setRow_heap _ _ _ zcs _ _ HR0.out)
        have HEZ := Lib.hid (show BxC (W0.setRow P zcs) (P + 1) _ 30 from HE0.out.row (by omega))
        have HBZ := Lib.hid (below_setRow HB0.out (g := P) (Nat.le_refl _) zcs)
        have cE : (W0.setRow P zcs).cell? ⟨P + 1, 0, none⟩ = some (.int .i64 0) := HEZ.out.cell 0
        have fE := HEZ.out.free 0
        go_wp2_with (refine wpList_store_rowTo rfl 27 _ _ rfl rfl P zcs rfl rfl 27 zcs HR0.out (by kernel_rfl) rfl (Dl.zero.one _ _ _ _ _ _) ?_)
        have HR2 := Lib.hid (HRZ.out.other (C := P + 1) (k := 0) (by omega) (.int .i64 2))
        have HE2 := Lib.hid (HEZ.out.set (k := 0) (.int .i64 2))
        have y0 : ((W0.setRow P zcs).setCell ⟨P + 1, 0, none⟩ (.int .i64 2)).cell? ⟨P, 0, none⟩ = some (.int .i64 0) := HR2.out.cell 0
        have y1 : ((W0.setRow P zcs).setCell ⟨P + 1, 0, none⟩ (.int .i64 2)).cell? ⟨P, 1, none⟩ = some (.int .i64 0) := HR2.out.cell 1
        have y2 : ((W0.setRow P zcs).setCell ⟨P + 1, 0, none⟩ (.int .i64 2)).cell? ⟨P, 2, none⟩ = some (.slice none 0 0) := HR2.out.cell 2
        have y3 : ((W0.setRow P zcs).setCell ⟨P + 1, 0, none⟩ (.int .i64 2)).cell? ⟨P, 3, none⟩ = some (.slice none 0 0) := HR2.out.cell 3
        have y4 : ((W0.setRow P zcs).setCell ⟨P + 1, 0, none⟩ (.int .i64 2)).cell? ⟨P, 4, none⟩ = some (.string ⟨#[]⟩) := HR2.out.cell 4
        have y5 : ((W0.setRow P zcs).setCell ⟨P + 1, 0, none⟩ (.int .i64 2)).cell? ⟨P, 5, none⟩ = some (.string ⟨#[]⟩) := HR2.out.cell 5
        have y6 : ((W0.setRow P zcs).setCell ⟨P + 1, 0, none⟩ (.int .i64 2)).cell? ⟨P, 6, none⟩ = some (.string ⟨#[]⟩) := HR2.out.cell 6
        have y7 : ((W0.setRow P zcs).setCell ⟨P + 1, 0, none⟩ (.int .i64 2)).cell? ⟨P, 7, none⟩ = some (.string ⟨#[]⟩) := HR2.out.cell 7
        have yE : ((W0.setRow P zcs).setCell ⟨P + 1, 0, none⟩ (.int .i64 2)).cell? ⟨P + 1, 0, none⟩ = some (.int .i64 2) := HE2.out.cell 0
        refine bodyM_ret (P := Try.prog) (fn := Try.f14) (v := .tuple #[.agg #[.int .i64 0, .int .i64 0, .slice none 0 0, .slice none 0 0, .string ⟨#[]⟩, .string ⟨#[]⟩, .string ⟨#[]⟩, .string ⟨#[]⟩], .int .i64 2]) (by simp [results, Try.results14, go_sem, y0, y1, y2, y3, y4, y5, y6, y7, yE]) rfl ?_
        exact ⟨none, 0, 0, none, 0, 0, by rw [HJ.out]; rfl, by rw [HJ.out]; exact SlN.nil _ _ (by omega) _, by rw [HJ.out]; exact SlN.nil _ _ (by omega) _, by rw [HPE.out]; exact HBZ.out.setCell (p := ⟨P + 1, 0, none⟩) (by simp only []; omega) _⟩
      · obtain ⟨F, rfl⟩ : ∃ F : Nat, f = (F : Int) := ⟨f.toNat, by omega⟩
        obtain ⟨T, rfl⟩ : ∃ T : Nat, t = (T : Int) := ⟨t.toNat, by omega⟩
        have hFT : F < T := by omega
        have hTn : T ≤ n := by omega
        have g3 : decide ((n : Int) < (T : Int)) = false := decide_eq_false h3
        have g3' : decide (n < T) = false := decide_eq_false (by omega)
        have g2' : decide (T ≤ F) = false := decide_eq_false (by omega)
        clear h1 h2 h3
        go_wp2_with fail
        refine (ep_deltas A n c F T _).mono ?_
        rintro e w1 ⟨rfl, rfl⟩
        have hsz1 : ((W0.alloc (.cells #[.bool true] 4)).alloc (.cells itD 27)).heap.size = P + 4 := by rw [World.size_alloc, World.size_alloc, HW0.out]
        have hb1 : Below W0.heap.size W0 ((((((W0.alloc (.cells #[.bool true] 4)).alloc (.cells itD 27)).alloc (.cells #[.slice A n c] 41)).alloc (.cells #[.int .i64 F] 3)).alloc (.cells #[.int .i64 T] 3))) := (((((Below.refl _ _).alloc (Nat.le_refl _) _).alloc (by simp) _).alloc (by simp; omega) _).alloc (by simp; omega) _).alloc (by simp; omega) _
        have k2 : BxC ((((((W0.alloc (.cells #[.bool true] 4)).alloc (.cells itD 27)).alloc (.cells #[.slice A n c] 41)).alloc (.cells #[.int .i64 F] 3)).alloc (.cells #[.int .i64 T] 3))) (P + 2) #[.bool true] 4 := by
          have := ((((BxC.new W0 #[.bool true] 4).alloc (.cells itD 27)).alloc (.cells #[.slice A n c] 41)).alloc (.cells #[.int .i64 F] 3)).alloc (.cells #[.int .i64 T] 3)
          rwa [HW0.out] at this
        have k3 : BxC ((((((W0.alloc (.cells #[.bool true] 4)).alloc (.cells itD 27)).alloc (.cells #[.slice A n c] 41)).alloc (.cells #[.int .i64 F] 3)).alloc (.cells #[.int .i64 T] 3))) (P + 3) itD 27 := by
          have := (((BxC.new (W0.alloc (.cells #[.bool true] 4)) itD 27).alloc (.cells #[.slice A n c] 41)).alloc (.cells #[.int .i64 F] 3)).alloc (.cells #[.int .i64 T] 3)
          rwa [World.size_alloc, HW0.out] at this
        have hz1 : ((((((W0.alloc (.cells #[.bool true] 4)).alloc (.cells itD 27)).alloc (.cells #[.slice A n c] 41)).alloc (.cells #[.int .i64 F] 3)).alloc (.cells #[.int .i64 T] 3))).heap.size = P + 7 := by simp only [World.size_alloc, HW0.out]
        obtain ⟨Wa, hWa⟩ : ∃ Wa, (W0.alloc (.cells #[.bool true] 4)).alloc (.cells itD 27) = Wa := ⟨_, rfl⟩
        have k4 : BxC (((Wa.alloc (.cells #[.slice A n c] 41)).alloc (.cells #[.int .i64 F] 3)).alloc (.cells #[.int .i64 T] 3)) (P + 4) #[.slice A n c] 41 := by
          have := ((BxC.new Wa #[.slice A n c] 41).alloc (.cells #[.int .i64 F] 3)).alloc (.cells #[.int .i64 T] 3)
          rwa [← hWa, hsz1, hWa] at this
        have k5 : BxC (((Wa.alloc (.cells #[.slice A n c] 41)).alloc (.cells #[.int .i64 F] 3)).alloc (.cells #[.int .i64 T] 3)) (P + 5) #[.int .i64 F] 3 := by
          have := (BxC.new (Wa.alloc (.cells #[.slice A n c] 41)) #[.int .i64 F] 3).alloc (.cells #[.int .i64 T] 3)
          rwa [World.size_alloc, ← hWa, hsz1, hWa] at this
        have k6 : BxC (((Wa.alloc (.cells #[.slice A n c] 41)).alloc (.cells #[.int .i64 F] 3)).alloc (.cells #[.int .i64 T] 3)) (P + 6) #[.int .i64 T] 3 := by
          have := BxC.new ((Wa.alloc (.cells #[.slice A n c] 41)).alloc (.cells #[.int .i64 F] 3)) #[.int .i64 T] 3
          rwa [World.size_alloc, World.size_alloc, ← hWa, hsz1, hWa] at this
        rw [hWa] at hb1 k2 k3 hz1 hsz1
        dsimp only
        unfold itD at hWa
        rw [hWa]
        simp only [hsz1, HW0.out, Nat.add_assoc, Nat.reduceAdd]
        obtain ⟨W1, hW1⟩ : ∃ W1, (((Wa.alloc (.cells #[.slice A n c] 41)).alloc (.cells #[.int .i64 F] 3)).alloc (.cells #[.int .i64 T] 3)) = W1 := ⟨_, rfl⟩
        rw [hW1] at hb1 k2 k3 k4 k5 k6 hz1 ⊢
        have HST := Lib.hid (deltas_stops 2 (by omega) w l A n c HSW.out HF.out HZ.out F T hFT hTn W1 (by rw [HPE.out]; exact HB0.out.trans (hb1.mono (by rw [HW0.out]; omega))) (P + 4) (P + 5) (P + 6) k4 k5 k6)
        have HI0 := Lib.hid (show BI P w [] W1 from ⟨⟨HR0.out.next hb1, HE0.out.next hb1⟩, HB0.out.trans (hb1.mono (by rw [HW0.out]; omega)), .inl ⟨rfl, k2, k3⟩⟩)
        have HSZ1 := Lib.hid hz1
        have HB1 := Lib.hid (show Below w.heap.size w W1 from by rw [HPE.out]; exact HB0.out.trans (hb1.mono (by rw [HW0.out]; omega)))
        clear hWa hW1 hb1 k2 k3 k4 k5 k6 hz1 hsz1 HR0 HE0 HB0 HW0 hW0
        go_wp2
        rename_i K5 hK5
        refine (wpIn_wide (n := 3)).1 ?_
        refine rangeFunc_own rfl (by omega) (gf := 65) (lb := #[.pointer (some ⟨P + 4, 0, none⟩), .pointer (some ⟨P + 5, 0, none⟩), .pointer (some ⟨P + 6, 0, none⟩)]) rfl trivial (enters_of Try.func65 (by kernel_rfl) rfl)
          HST.out (fun h k => KpB.trans h k) (fun W l o o' hl _ _ _ => ⟨by simp, fun k hk => World.putObj_heap_other (by have := HSZ1.out; have := HPE.out; omega)⟩) (fun W W' h1 h2 => KpB.of_below (h2.mono (by have := HSZ1.out; have := HPE.out; omega))) (Below.refl _ _) (fun _ => rfl)
          (BI P w) (BX P w) (bi_own (by have := HPE.out; omega) (by have := HSZ1.out; omega)) (fun c => bx_own (by have := HPE.out; omega) (by have := HSZ1.out; omega) c) HI0.out
          (fun (p : DX w × Act) W => ∃ B, P + 7 ≤ B ∧ p.2 = { tmps := (fun (x : DX w) => #[.slice A n c, .int .i64 F, .int .i64 T, undef, undef, undef, .pointer (some ⟨P, 0, none⟩), .pointer (some ⟨P + 1, 0, none⟩), .pointer (some ⟨P + 2, 0, none⟩), .pointer (some ⟨P + 3, 0, none⟩), .pointer (some ⟨B, 0, none⟩), undef, undef, undef, undef, .int .i64 F, .bool false, .bool false, .int .i64 T, .int .i64 F, .bool false, .bool false, .bool false, .int .i64 T, .slice A n c, .int .i64 n, .bool false, .bool false, undef, .slice A n c, .int .i64 F, .int .i64 T, .func (.func 65) #[] #[.pointer (some ⟨P + 4, 0, none⟩), .pointer (some ⟨P + 5, 0, none⟩), .pointer (some ⟨P + 6, 0, none⟩)], .agg (x.val.d.arr (.slice x.val.A1 x.val.n1 x.val.c1) (.slice x.val.A2 x.val.n2 x.val.c2)), undef, undef, undef, undef, undef, undef, undef, undef, undef, undef, undef, undef, undef, undef, undef, undef, undef, undef, undef, undef, undef, undef, undef, undef, undef, undef, undef, undef, undef, undef]) p.1, defers := [] } ∧ BxC W B (p.1.val.d.arr (.slice p.1.val.A1 p.1.val.n1 p.1.val.c1) (.slice p.1.val.A2 p.1.val.n2 p.1.val.c2)) 27)
          (fun p X Y row ⟨B, h1, h2, h3⟩ hg hr => ⟨B, h1, h2, bxC_own _ _ _ p X Y row h3 hg (fun r e => (hr r e).2)⟩) ?assign ?body ?done ?stop
        case assign =>
          intro lp x W K hsz hK
          obtain ⟨⟨d, A1, n1, c1, A2, n2, c2⟩, hok⟩ := x
          have HKK := Lib.hid hK
          have HSZ := Lib.hid hsz
          clear hK hsz
          refine region_inF rfl ?_
          unfold DX.enc Dl.arr
          dsimp only
          go_wp2
          refine HKK.out _ _ ((Below.refl _ _).alloc (Nat.le_refl _) _) ⟨W.heap.size, by have := HSZ.out; have := HSZ1.out; omega, rfl, BxC.new _ _ _⟩
        case body =>
          intro lp pre x a' W hI hM hlen
          obtain ⟨⟨d, A1, n1, c1, A2, n2, c2⟩, hok⟩ := x
          obtain ⟨B, hB, hact, hX⟩ := hM
          dsimp only at hact hX
          subst hact
          obtain ⟨xx, hxx⟩ : ∃ xx : DX w, (⟨⟨d, A1, n1, c1, A2, n2, c2⟩, hok⟩ : DX w) = xx := ⟨_, rfl⟩
          have HXD := Lib.hid (show xx.val.d = d from by rw [← hxx])
          rw [hxx]
          clear hxx
          obtain ⟨⟨hZ, hE⟩, hBel, hcase⟩ := hI
          have HOK := Lib.hid hok
          have HPW := Lib.hid (show P ≤ W.heap.size from Nat.le_trans (Nat.le_of_eq HPE.out.symm) hBel.size)
          have HX := Lib.hid hX
          have HZ0 := Lib.hid hZ
          have HE0 := Lib.hid hE
          have HBW := Lib.hid hBel
          have HSN1 := Lib.hid (show SlN W A1 n1 c1 d.ad from hok.s1.kept hBel (Nat.le_of_eq HPE.out))
          have HSN2 := Lib.hid (show SlN W A2 n2 c2 d.rm from hok.s2.kept hBel (Nat.le_of_eq HPE.out))
          have hn1 : n1 ≤ 20 := by have := hok.few.ad.1; have := hok.s1.1; simp only [] at *; omega
          have hn2 : n2 ≤ 20 := by have := hok.few.rm.1; have := hok.s2.1; simp only [] at *; omega
          rcases hcase with ⟨rfl, hF2, hO⟩ | ⟨hne, hF2, D, A5, n5, c5, A6, n6, c6, hO, hs5, hs6, hf5, hf6, hl5, hl6, hzD, hfold⟩
          · have HF2 := Lib.hid hF2
            have HO := Lib.hid hO
            have HCL := Lib.hid (show ∀ k, P ≤ k → k < P + 4 → ∃ cs T fr, W.heap[k]? = some (.cells cs T fr) from fun k h1 h2 => by
              obtain rfl | rfl | rfl | rfl : k = P ∨ k = P + 1 ∨ k = P + 2 ∨ k = P + 3 := by omega
              · exact ⟨_, _, _, hZ⟩
              · exact ⟨_, _, _, hE⟩
              · exact ⟨_, _, _, hF2⟩
              · exact ⟨_, _, _, hO⟩)
            have p2 : W.cell? ⟨P + 2, 0, none⟩ = some (.bool true) := hF2.cell 0
            have x0 : W.cell? ⟨B, 0, none⟩ = some (.int .i64 d.fr) := hX.cell 0
            have x1 : W.cell? ⟨B, 1, none⟩ = some (.int .i64 d.to) := hX.cell 1
            have x2 : W.cell? ⟨B, 2, none⟩ = some (.slice A1 n1 c1) := hX.cell 2
            have x3 : W.cell? ⟨B, 3, none⟩ = some (.slice A2 n2 c2) := hX.cell 3
            have x4 : W.cell? ⟨B, 4, none⟩ = some (.string d.be) := hX.cell 4
            have x5 : W.cell? ⟨B, 5, none⟩ = some (.string d.af) := hX.cell 5
            have x6 : W.cell? ⟨B, 6, none⟩ = some (.string d.sc) := hX.cell 6
            have x7 : W.cell? ⟨B, 7, none⟩ = some (.string d.sr) := hX.cell 7
            clear hX hZ hE hBel hF2 hO hok
            try dsimp only
            gi_step
            gi_step
            gi_step
            refine region_in (by with_reducible first | exact letsOut_block (letsOut_own (KpB w.heap.size) (BI P w) (BX P w) _ _) | exact letsOut_then (letsOut_block (letsOut_own (KpB w.heap.size) (BI P w) (BX P w) _ _)) | exact letsOut_then (letsOut_then (letsOut_block (letsOut_own (KpB w.heap.size) (BI P w) (BX P w) _ _))) | exact letsOut_then (letsOut_then (letsOut_then (letsOut_block (letsOut_own (KpB w.heap.size) (BI P w) (BX P w) _ _))))) rfl ?_
            go_wp2
            gi_step
            gi_step
            refine region_in (by with_reducible first | exact letsOut_block (letsOut_own (KpB w.heap.size) (BI P w) (BX P w) _ _) | exact letsOut_then (letsOut_block (letsOut_own (KpB w.heap.size) (BI P w) (BX P w) _ _)) | exact letsOut_then (letsOut_then (letsOut_block (letsOut_own (KpB w.heap.size) (BI P w) (BX P w) _ _))) | exact letsOut_then (letsOut_then (letsOut_then (letsOut_block (letsOut_own (KpB w.heap.size) (BI P w) (BX P w) _ _))))) rfl ?_
            go_wp2_with fail
            refine (ep_copied d A1 A2 n1 c1 n2 c2 _ HSN1.out HSN2.out (by omega) (by omega)).mono ?_
            rintro e w2 ⟨A3, n3, c3, A4, n4, c4, rfl, hs3, hs4, hf3, hf4, hb⟩
            unfold Dl.arr
            dsimp only
            have HO3 := Lib.hid (show BxC w2 (P + 3) itD 27 from HO.out.next hb)
            have HO4 := Lib.hid (show BxC (w2.setRow (P + 3) #[.int .i64 d.fr, .int .i64 d.to, .slice A3 n3 c3, .slice A4 n4 c4, .string d.be, .string d.af, .string d.sc, .string d.sr]) (P + 3) #[.int .i64 d.fr, .int .i64 d.to, .slice A3 n3 c3, .slice A4 n4 c4, .string d.be, .string d.af, .string d.sc, .string d.sr] 27 from setRow_heap _ _ _ _ _ _ HO3.out)
            have HF4 := Lib.hid (show BxC (w2.setRow (P + 3) #[.int .i64 d.fr, .int .i64 d.to, .slice A3 n3 c3, .slice A4 n4 c4, .string d.be, .string d.af, .string d.sc, .string d.sr]) (P + 2) #[.bool true] 4 from (HF2.out.next hb).row (by omega))
            have HZ4 := Lib.hid (show BxC (w2.setRow (P + 3) #[.int .i64 d.fr, .int .i64 d.to, .slice A3 n3 c3, .slice A4 n4 c4, .string d.be, .string d.af, .string d.sc, .string d.sr]) P zcs 27 from (HZ0.out.next hb).row (by omega))
            have HE4 := Lib.hid (show BxC (w2.setRow (P + 3) #[.int .i64 d.fr, .int .i64 d.to, .slice A3 n3 c3, .slice A4 n4 c4, .string d.be, .string d.af, .string d.sc, .string d.sr]) (P + 1) _ 30 from (HE0.out.next hb).row (by omega))
            have HB4 := Lib.hid (show Below P w (w2.setRow (P + 3) #[.int .i64 d.fr, .int .i64 d.to, .slice A3 n3 c3, .slice A4 n4 c4, .string d.be, .string d.af, .string d.sc, .string d.sr]) from below_setRow (HBW.out.trans (hb.mono HPW.out)) (by omega) _)
            have HD4 := Lib.hid (show Bnd P (P + 4) W (w2.setRow (P + 3) #[.int .i64 d.fr, .int .i64 d.to, .slice A3 n3 c3, .slice A4 n4 c4, .string d.be, .string d.af, .string d.sc, .string d.sr]) from (Bnd.below hb).row (.inl (by omega)) _)
            have HG3 := Lib.hid (show 0 < n3 → ∀ ad, A3 = some ad → P + 4 ≤ ad.block from fun h0 ad he => by have := hf3 h0 ad he; have := HO.out.lt; omega)
            have HG4 := Lib.hid (show 0 < n4 → ∀ ad, A4 = some ad → P + 4 ≤ ad.block from fun h0 ad he => by have := hf4 h0 ad he; have := HO.out.lt; omega)
            have HS3 := Lib.hid (show SlN (w2.setRow (P + 3) #[.int .i64 d.fr, .int .i64 d.to, .slice A3 n3 c3, .slice A4 n4 c4, .string d.be, .string d.af, .string d.sc, .string d.sr]) A3 n3 c3 d.ad from hs3.of_blocks (fun h0 ad he => setRow_other _ _ _ _ (by have := HG3.out h0 ad he; omega)))
            have HS4 := Lib.hid (show SlN (w2.setRow (P + 3) #[.int .i64 d.fr, .int .i64 d.to, .slice A3 n3 c3, .slice A4 n4 c4, .string d.be, .string d.af, .string d.sc, .string d.sr]) A4 n4 c4 d.rm from hs4.of_blocks (fun h0 ad he => setRow_other _ _ _ _ (by have := HG4.out h0 ad he; omega)))
            have cE : (w2.setRow (P + 3) #[.int .i64 d.fr, .int .i64 d.to, .slice A3 n3 c3, .slice A4 n4 c4, .string d.be, .string d.af, .string d.sc, .string d.sr]).cell? ⟨P + 2, 0, none⟩ = some (.bool true) := HF4.out.cell 0
            have fE := HF4.out.free 0
            clear hs3 hs4 hf3 hf4 hb p2 x0 x1 x2 x3 x4 x5 x6 x7
            go_wp2_with (refine wpList_store_rowTo rfl 27 _ _ rfl rfl (P + 3) #[.int .i64 d.fr, .int .i64 d.to, .slice A3 n3 c3, .slice A4 n4 c4, .string d.be, .string d.af, .string d.sc, .string d.sr] rfl rfl 27 itD HO3.out (by kernel_rfl) rfl (by simp [Value.oneCell']) ?_)
            obtain ⟨w4, hw4⟩ : ∃ w4, (w2.setRow (P + 3) #[.int .i64 d.fr, .int .i64 d.to, .slice A3 n3 c3, .slice A4 n4 c4, .string d.be, .string d.af, .string d.sc, .string d.sr]) = w4 := ⟨_, rfl⟩
            rw [hw4] at HO4 HF4 HZ4 HE4 HB4 HD4 HS3 HS4 ⊢
            clear hw4 cE fE HO3
            have HO5 := Lib.hid (HO4.out.other (C := P + 2) (k := 0) (by omega) (.bool false))
            have k6 : (w4.setCell ⟨P + 2, 0, none⟩ (.bool false)).cell? ⟨P + 3, 6, none⟩ = some (.string d.sc) := HO5.out.cell 6
            have f6 := HO5.out.free 6
            have HO6 := Lib.hid (HO5.out.set (k := 6) (.string ⟨#[]⟩))
            have k7 : ((w4.setCell ⟨P + 2, 0, none⟩ (.bool false)).setCell ⟨P + 3, 6, none⟩ (.string ⟨#[]⟩)).cell? ⟨P + 3, 7, none⟩ = some (.string d.sr) := HO6.out.cell 7
            have f7 := HO6.out.free 7
            have k7' : (w4.setCell ⟨P + 2, 0, none⟩ (.bool false)).cell? ⟨P + 3, 7, none⟩ = some (.string d.sr) := HO5.out.cell 7
            have f7' := HO5.out.free 7
            gi_step
            refine region_in (by with_reducible first | exact letsOut_block (letsOut_own (KpB w.heap.size) (BI P w) (BX P w) _ _) | exact letsOut_then (letsOut_block (letsOut_own (KpB w.heap.size) (BI P w) (BX P w) _ _)) | exact letsOut_then (letsOut_then (letsOut_block (letsOut_own (KpB w.heap.size) (BI P w) (BX P w) _ _))) | exact letsOut_then (letsOut_then (letsOut_then (letsOut_block (letsOut_own (KpB w.heap.size) (BI P w) (BX P w) _ _))))) rfl ?_
            go_wp2
            gi_step
            simp only [Exit.then, Exit.inBlock, ↓reduceIte]
            exact ⟨((((HD4.out.set (a := ⟨P + 2, 0, none⟩) (.inl (by simp only []; omega)) (.bool false)).set (a := ⟨P + 3, 6, none⟩) (.inl (by simp only []; omega)) (.string ⟨#[]⟩)).set (a := ⟨P + 3, 7, none⟩) (.inl (by simp only []; omega)) (.string ⟨#[]⟩))).others HCL.out,
              (by rw [HPE.out]; exact ((((HD4.out.set (a := ⟨P + 2, 0, none⟩) (.inl (by simp only []; omega)) (.bool false)).set (a := ⟨P + 3, 6, none⟩) (.inl (by simp only []; omega)) (.string ⟨#[]⟩)).set (a := ⟨P + 3, 7, none⟩) (.inl (by simp only []; omega)) (.string ⟨#[]⟩))).kp HPW.out),
              ⟨(((HZ4.out.other (C := P + 2) (k := 0) (by omega) _).other (C := P + 3) (k := 6) (by omega) _).other (C := P + 3) (k := 7) (by omega) _), (((HE4.out.other (C := P + 2) (k := 0) (by omega) _).other (C := P + 3) (k := 6) (by omega) _).other (C := P + 3) (k := 7) (by omega) _)⟩,
              (((HB4.out.setCell (p := ⟨P + 2, 0, none⟩) (by simp only []; omega) _).setCell (p := ⟨P + 3, 6, none⟩) (by simp only []; omega) _).setCell (p := ⟨P + 3, 7, none⟩) (by simp only []; omega) _),
              .inr ⟨by simp, (((HF4.out.set (k := 0) (.bool false)).other (C := P + 3) (k := 6) (by omega) _).other (C := P + 3) (k := 7) (by omega) _), d.strip, A3, n3, c3, A4, n4, c4, HO6.out.set (k := 7) (.string ⟨#[]⟩),
                HS3.out.of_blocks (fun h0 ad he => by have := HG3.out h0 ad he; rw [heap_setCell_other _ _ _ _ (show ad.block ≠ P + 3 from by omega), heap_setCell_other _ _ _ _ (show ad.block ≠ P + 3 from by omega), heap_setCell_other _ _ _ _ (show ad.block ≠ P + 2 from by omega)]),
                HS4.out.of_blocks (fun h0 ad he => by have := HG4.out h0 ad he; rw [heap_setCell_other _ _ _ _ (show ad.block ≠ P + 3 from by omega), heap_setCell_other _ _ _ _ (show ad.block ≠ P + 3 from by omega), heap_setCell_other _ _ _ _ (show ad.block ≠ P + 2 from by omega)]),
                HG3.out, HG4.out, (by have := HS3.out.1; have := HSN1.out.1; simp; omega), (by have := HS4.out.1; have := HSN2.out.1; simp; omega), strip_sz HOK.out.sz, (fun rest => by rw [List.nil_append]; show btF (xx.val.d :: rest) = _; rw [HXD.out]; rfl)⟩⟩
          · have HF2 := Lib.hid hF2
            have HO := Lib.hid (show BxC W (P + 3) #[.int .i64 D.fr, .int .i64 D.to, .slice A5 n5 c5, .slice A6 n6 c6, .string D.be, .string D.af, .string D.sc, .string D.sr] 27 from hO)
            have HCL := Lib.hid (show ∀ k, P ≤ k → k < P + 4 → ∃ cs T fr, W.heap[k]? = some (.cells cs T fr) from fun k h1 h2 => by
              obtain rfl | rfl | rfl | rfl : k = P ∨ k = P + 1 ∨ k = P + 2 ∨ k = P + 3 := by omega
              · exact ⟨_, _, _, hZ⟩
              · exact ⟨_, _, _, hE⟩
              · exact ⟨_, _, _, hF2⟩
              · exact ⟨_, _, _, hO⟩)
            have HS5 := Lib.hid hs5
            have HS6 := Lib.hid hs6
            have HZD := Lib.hid hzD
            have HFO := Lib.hid hfold
            have HL5 := Lib.hid hl5
            have HL6 := Lib.hid hl6
            have HPL := Lib.hid hlen
            have p2 : W.cell? ⟨P + 2, 0, none⟩ = some (.bool false) := hF2.cell 0
            have x0 : W.cell? ⟨B, 0, none⟩ = some (.int .i64 d.fr) := hX.cell 0
            have x1 : W.cell? ⟨B, 1, none⟩ = some (.int .i64 d.to) := hX.cell 1
            have x2 : W.cell? ⟨B, 2, none⟩ = some (.slice A1 n1 c1) := hX.cell 2
            have x3 : W.cell? ⟨B, 3, none⟩ = some (.slice A2 n2 c2) := hX.cell 3
            have x4 : W.cell? ⟨B, 4, none⟩ = some (.string d.be) := hX.cell 4
            have x5 : W.cell? ⟨B, 5, none⟩ = some (.string d.af) := hX.cell 5
            have x6 : W.cell? ⟨B, 6, none⟩ = some (.string d.sc) := hX.cell 6
            have x7 : W.cell? ⟨B, 7, none⟩ = some (.string d.sr) := hX.cell 7
            have o0 : W.cell? ⟨P + 3, 0, none⟩ = some (.int .i64 D.fr) := hO.cell 0
            have o1 : W.cell? ⟨P + 3, 1, none⟩ = some (.int .i64 D.to) := hO.cell 1
            have o2 : W.cell? ⟨P + 3, 2, none⟩ = some (.slice A5 n5 c5) := hO.cell 2
            have o3 : W.cell? ⟨P + 3, 3, none⟩ = some (.slice A6 n6 c6) := hO.cell 3
            have o4 : W.cell? ⟨P + 3, 4, none⟩ = some (.string D.be) := hO.cell 4
            have o5 : W.cell? ⟨P + 3, 5, none⟩ = some (.string D.af) := hO.cell 5
            have o6 : W.cell? ⟨P + 3, 6, none⟩ = some (.string D.sc) := hO.cell 6
            have o7 : W.cell? ⟨P + 3, 7, none⟩ = some (.string D.sr) := hO.cell 7
            have q5 : n5 ≤ 240 := by omega
            have q6 : n6 ≤ 240 := by omega
            clear hX hZ hE hBel hF2 hO hok hs5 hs6 hf5 hf6 hzD hfold hl5 hl6 hlen hne
            try dsimp only
            gi_step
            gi_step
            gi_step
            refine region_in (by with_reducible first | exact letsOut_block (letsOut_own (KpB w.heap.size) (BI P w) (BX P w) _ _) | exact letsOut_then (letsOut_block (letsOut_own (KpB w.heap.size) (BI P w) (BX P w) _ _)) | exact letsOut_then (letsOut_then (letsOut_block (letsOut_own (KpB w.heap.size) (BI P w) (BX P w) _ _))) | exact letsOut_then (letsOut_then (letsOut_then (letsOut_block (letsOut_own (KpB w.heap.size) (BI P w) (BX P w) _ _))))) rfl ?_
            go_wp2
            gi_step
            gi_step
            gi_step
            gi_step
            gi_step
            refine region_in (by with_reducible first | exact letsOut_block (letsOut_own (KpB w.heap.size) (BI P w) (BX P w) _ _) | exact letsOut_then (letsOut_block (letsOut_own (KpB w.heap.size) (BI P w) (BX P w) _ _)) | exact letsOut_then (letsOut_then (letsOut_block (letsOut_own (KpB w.heap.size) (BI P w) (BX P w) _ _))) | exact letsOut_then (letsOut_then (letsOut_then (letsOut_block (letsOut_own (KpB w.heap.size) (BI P w) (BX P w) _ _))))) rfl ?_
            go_wp2_with fail
            refine (ep_JoinF D d A5 A6 A1 A2 n5 c5 n6 c6 n1 c1 n2 c2 _ HS5.out HS6.out HSN1.out HSN2.out (by omega) (by omega) (by omega) (by omega) HZD.out HOK.out.sz).mono ?_
            rintro e w2 ⟨A7, n7, c7, A8, n8, c8, rfl, hs7, hs8, hf7, hf8, hb⟩
            obtain ⟨⟨D2, e2⟩, hjj⟩ : ∃ p, jn D d = p := ⟨_, rfl⟩
            rw [hjj] at hs7 hs8 ⊢
            have HJJ := Lib.hid hjj
            unfold Dl.arr
            dsimp only at hs7 hs8 ⊢
            have hb3 : Below W.heap.size W (w2.alloc (.cells #[.int .i64 D2.fr, .int .i64 D2.to, .slice A7 n7 c7, .slice A8 n8 c8, .string D2.be, .string D2.af, .string D2.sc, .string D2.sr] 27)) := hb.alloc hb.size _
            have HZ3 := Lib.hid (HZ0.out.next hb3)
            have HE3 := Lib.hid (HE0.out.next hb3)
            have HF3 := Lib.hid (HF2.out.next hb3)
            have HO3 := Lib.hid (HO.out.next hb3)
            have HB3 := Lib.hid (show Below P w (w2.alloc (.cells #[.int .i64 D2.fr, .int .i64 D2.to, .slice A7 n7 c7, .slice A8 n8 c8, .string D2.be, .string D2.af, .string D2.sc, .string D2.sr] 27)) from HBW.out.trans (hb3.mono HPW.out))
            have HD3 := Lib.hid (show Bnd P (P + 4) W (w2.alloc (.cells #[.int .i64 D2.fr, .int .i64 D2.to, .slice A7 n7 c7, .slice A8 n8 c8, .string D2.be, .string D2.af, .string D2.sc, .string D2.sr] 27)) from Bnd.below hb3)
            have HN3 := Lib.hid (BxC.new w2 #[.int .i64 D2.fr, .int .i64 D2.to, .slice A7 n7 c7, .slice A8 n8 c8, .string D2.be, .string D2.af, .string D2.sc, .string D2.sr] 27)
            have HS7 := Lib.hid (hs7.kept ((Below.refl _ _).alloc (Nat.le_refl _) (.cells #[.int .i64 D2.fr, .int .i64 D2.to, .slice A7 n7 c7, .slice A8 n8 c8, .string D2.be, .string D2.af, .string D2.sc, .string D2.sr] 27)) (Nat.le_refl _))
            have HS8 := Lib.hid (hs8.kept ((Below.refl _ _).alloc (Nat.le_refl _) (.cells #[.int .i64 D2.fr, .int .i64 D2.to, .slice A7 n7 c7, .slice A8 n8 c8, .string D2.be, .string D2.af, .string D2.sc, .string D2.sr] 27)) (Nat.le_refl _))
            have HG7 := Lib.hid (show 0 < n7 → ∀ ad, A7 = some ad → P + 4 ≤ ad.block from fun h0 ad he => by have := hf7 h0 ad he; have := HO.out.lt; omega)
            have HG8 := Lib.hid (show 0 < n8 → ∀ ad, A8 = some ad → P + 4 ≤ ad.block from fun h0 ad he => by have := hf8 h0 ad he; have := HO.out.lt; omega)
            have HW2 := Lib.hid (show P + 4 ≤ w2.heap.size from by have := HO.out.lt; have := hb.size; omega)
            clear hs7 hs8 hf7 hf8 hb hb3 hjj p2
            clear x0 o0 x1 o1 x2 o2 x3 o3 x4 o4 x5 o5 x6 o6 x7 o7
            go_wp2
            obtain ⟨w3, hw3⟩ : ∃ w3, (w2.alloc (.cells #[.int .i64 D2.fr, .int .i64 D2.to, .slice A7 n7 c7, .slice A8 n8 c8, .string D2.be, .string D2.af, .string D2.sc, .string D2.sr] 27)) = w3 := ⟨_, rfl⟩
            obtain ⟨B3, hB3⟩ : ∃ B3, w2.heap.size = B3 := ⟨_, rfl⟩
            rw [hw3] at HZ3 HE3 HF3 HO3 HB3 HD3 HN3 HS7 HS8 ⊢
            rw [hB3] at HN3 HW2 ⊢
            clear hw3 hB3
            gi_step
            gi_step
            by_cases he2 : e2 = 0
            · subst he2
              refine region_in (by with_reducible first | exact letsOut_block (letsOut_own (KpB w.heap.size) (BI P w) (BX P w) _ _) | exact letsOut_then (letsOut_block (letsOut_own (KpB w.heap.size) (BI P w) (BX P w) _ _)) | exact letsOut_then (letsOut_then (letsOut_block (letsOut_own (KpB w.heap.size) (BI P w) (BX P w) _ _))) | exact letsOut_then (letsOut_then (letsOut_then (letsOut_block (letsOut_own (KpB w.heap.size) (BI P w) (BX P w) _ _))))) rfl ?_
              go_wp2
              gi_step
              gi_step
              gi_step
              gi_step
              have HFN := Lib.hid (show ∀ rest, btF ((pre ++ [xx]).map (·.val.d) ++ rest) = foldJ D2 rest from by
                have h := lastX (P := P) xx HFO.out (by rw [HXD.out, HJJ.out])
                rw [HXD.out, HJJ.out] at h
                exact h)
              have HLN := Lib.hid (show n7 ≤ 20 * pre.length + 20 ∧ n8 ≤ 20 * pre.length + 20 from by
                have h := jn_len (a := D) (b := d)
                rw [HJJ.out] at h
                have h1 := HS7.out.1; have h2 := HS8.out.1; have h3 := HS5.out.1; have h4 := HS6.out.1; have h5 := HSN1.out.1; have h6 := HSN2.out.1; have h7 := HL5.out; have h8 := HL6.out
                simp only [] at h
                omega)
              have HZN := Lib.hid (show SzL D2.str from by
                have h := jn_sz HZD.out HOK.out.sz
                rw [HJJ.out] at h
                exact h)
              have HO4 := Lib.hid (show BxC (w3.setRow (P + 3) #[.int .i64 D2.fr, .int .i64 D2.to, .slice A7 n7 c7, .slice A8 n8 c8, .string D2.be, .string D2.af, .string D2.sc, .string D2.sr]) (P + 3) #[.int .i64 D2.fr, .int .i64 D2.to, .slice A7 n7 c7, .slice A8 n8 c8, .string D2.be, .string D2.af, .string D2.sc, .string D2.sr] 27 from setRow_heap _ _ _ _ _ _ HO3.out)
              have y0 : w3.cell? ⟨B3, 0, none⟩ = some (.int .i64 D2.fr) := (show BxC w3 B3 #[.int .i64 D2.fr, .int .i64 D2.to, .slice A7 n7 c7, .slice A8 n8 c8, .string D2.be, .string D2.af, .string D2.sc, .string D2.sr] 27 from HN3.out).cell 0
              have y1 : w3.cell? ⟨B3, 1, none⟩ = some (.int .i64 D2.to) := (show BxC w3 B3 #[.int .i64 D2.fr, .int .i64 D2.to, .slice A7 n7 c7, .slice A8 n8 c8, .string D2.be, .string D2.af, .string D2.sc, .string D2.sr] 27 from HN3.out).cell 1
              have y2 : w3.cell? ⟨B3, 2, none⟩ = some (.slice A7 n7 c7) := (show BxC w3 B3 #[.int .i64 D2.fr, .int .i64 D2.to, .slice A7 n7 c7, .slice A8 n8 c8, .string D2.be, .string D2.af, .string D2.sc, .string D2.sr] 27 from HN3.out).cell 2
              have y3 : w3.cell? ⟨B3, 3, none⟩ = some (.slice A8 n8 c8) := (show BxC w3 B3 #[.int .i64 D2.fr, .int .i64 D2.to, .slice A7 n7 c7, .slice A8 n8 c8, .string D2.be, .string D2.af, .string D2.sc, .string D2.sr] 27 from HN3.out).cell 3
              have y4 : w3.cell? ⟨B3, 4, none⟩ = some (.string D2.be) := (show BxC w3 B3 #[.int .i64 D2.fr, .int .i64 D2.to, .slice A7 n7 c7, .slice A8 n8 c8, .string D2.be, .string D2.af, .string D2.sc, .string D2.sr] 27 from HN3.out).cell 4
              have y5 : w3.cell? ⟨B3, 5, none⟩ = some (.string D2.af) := (show BxC w3 B3 #[.int .i64 D2.fr, .int .i64 D2.to, .slice A7 n7 c7, .slice A8 n8 c8, .string D2.be, .string D2.af, .string D2.sc, .string D2.sr] 27 from HN3.out).cell 5
              have y6 : w3.cell? ⟨B3, 6, none⟩ = some (.string D2.sc) := (show BxC w3 B3 #[.int .i64 D2.fr, .int .i64 D2.to, .slice A7 n7 c7, .slice A8 n8 c8, .string D2.be, .string D2.af, .string D2.sc, .string D2.sr] 27 from HN3.out).cell 6
              have y7 : w3.cell? ⟨B3, 7, none⟩ = some (.string D2.sr) := (show BxC w3 B3 #[.int .i64 D2.fr, .int .i64 D2.to, .slice A7 n7 c7, .slice A8 n8 c8, .string D2.be, .string D2.af, .string D2.sc, .string D2.sr] 27 from HN3.out).cell 7
              refine region_in (by with_reducible first | exact letsOut_block (letsOut_own (KpB w.heap.size) (BI P w) (BX P w) _ _) | exact letsOut_then (letsOut_block (letsOut_own (KpB w.heap.size) (BI P w) (BX P w) _ _)) | exact letsOut_then (letsOut_then (letsOut_block (letsOut_own (KpB w.heap.size) (BI P w) (BX P w) _ _))) | exact letsOut_then (letsOut_then (letsOut_then (letsOut_block (letsOut_own (KpB w.heap.size) (BI P w) (BX P w) _ _))))) rfl ?_
              go_wp2_with (refine wpList_store_rowTo rfl 27 _ _ rfl rfl (P + 3) #[.int .i64 D2.fr, .int .i64 D2.to, .slice A7 n7 c7, .slice A8 n8 c8, .string D2.be, .string D2.af, .string D2.sc, .string D2.sr] rfl rfl 27 #[.int .i64 D.fr, .int .i64 D.to, .slice A5 n5 c5, .slice A6 n6 c6, .string D.be, .string D.af, .string D.sc, .string D.sr] HO3.out (by kernel_rfl) rfl (by simp [Value.oneCell']) ?_)
              exact ⟨(HD3.out.row (g := P + 3) (.inl (by omega)) _).others HCL.out, (by rw [HPE.out]; exact (HD3.out.row (g := P + 3) (.inl (by omega)) _).kp HPW.out),
                ⟨HZ3.out.row (by omega), HE3.out.row (by omega)⟩, below_setRow HB3.out (g := P + 3) (by omega) _,
                .inr ⟨by simp, HF3.out.row (by omega), D2, A7, n7, c7, A8, n8, c8, HO4.out,
                  HS7.out.of_blocks (fun h0 ad he => setRow_other _ _ _ _ (by have := HG7.out h0 ad he; omega)), HS8.out.of_blocks (fun h0 ad he => setRow_other _ _ _ _ (by have := HG8.out h0 ad he; omega)), HG7.out, HG8.out, (by have := HLN.out.1; simp; omega), (by have := HLN.out.2; simp; omega), HZN.out, HFN.out⟩⟩
            · have hd : (e2 != 0) = true := by simpa using he2
              refine region_in (by with_reducible first | exact letsOut_block (letsOut_own (KpB w.heap.size) (BI P w) (BX P w) _ _) | exact letsOut_then (letsOut_block (letsOut_own (KpB w.heap.size) (BI P w) (BX P w) _ _)) | exact letsOut_then (letsOut_then (letsOut_block (letsOut_own (KpB w.heap.size) (BI P w) (BX P w) _ _))) | exact letsOut_then (letsOut_then (letsOut_then (letsOut_block (letsOut_own (KpB w.heap.size) (BI P w) (BX P w) _ _))))) rfl ?_
              go_wp2
              gi_step
              have HRZ := Lib.hid (show BxC (w3.setRow P zcs) P zcs 27 from setRow_heap _ _ _ zcs _ _ HZ3.out)
              have HEZ := Lib.hid (show BxC (w3.setRow P zcs) (P + 1) _ 30 from HE3.out.row (by omega))
              have cE : (w3.setRow P zcs).cell? ⟨P + 1, 0, none⟩ = some (.int .i64 0) := HEZ.out.cell 0
              have fE := HEZ.out.free 0
              have HFN := Lib.hid (show ∀ rest, btF ((pre ++ [xx]).map (·.val.d) ++ rest) = (Dl.zero, e2) from by
                have h := lastE (P := P) xx HFO.out (by rw [HXD.out, HJJ.out]; exact he2)
                rw [HXD.out, HJJ.out] at h
                exact h)
              have HE2 := Lib.hid he2
              gi_step
              refine region_in (by with_reducible first | exact letsOut_block (letsOut_own (KpB w.heap.size) (BI P w) (BX P w) _ _) | exact letsOut_then (letsOut_block (letsOut_own (KpB w.heap.size) (BI P w) (BX P w) _ _)) | exact letsOut_then (letsOut_then (letsOut_block (letsOut_own (KpB w.heap.size) (BI P w) (BX P w) _ _))) | exact letsOut_then (letsOut_then (letsOut_then (letsOut_block (letsOut_own (KpB w.heap.size) (BI P w) (BX P w) _ _))))) rfl ?_
              go_wp2_with (refine wpList_store_rowTo rfl 27 _ _ rfl rfl P zcs rfl rfl 27 zcs HZ3.out (by kernel_rfl) rfl (Dl.zero.one _ _ _ _ _ _) ?_)
              gi_step
              simp only [Exit.then, Exit.inBlock, ↓reduceIte]
              exact ⟨((HD3.out.row (g := P) (.inl (by omega)) zcs).set (a := ⟨P + 1, 0, none⟩) (.inl (by simp only []; omega)) (.int .i64 e2)).others HCL.out, rfl, (below_setRow HB3.out (g := P) (Nat.le_refl _) zcs).setCell (p := ⟨P + 1, 0, none⟩) (by simp only []; omega) _, e2, HE2.out, ⟨HRZ.out.other (C := P + 1) (k := 0) (by omega) _, HEZ.out.set (k := 0) (.int .i64 e2)⟩, HFN.out⟩
        case done =>
          rintro D' xs W hD' hxs ⟨⟨hZ, hE⟩, hB, hcase⟩ hK
          have hll : ((l.drop F).take (T - F)).length = T - F := by rw [List.length_take, List.length_drop, Nat.min_eq_left (by rw [HLEN.out]; omega)]
          have hxl : xs.length = T - F := by rw [← hll, ← hxs, List.length_map]
          have HZ0 := Lib.hid hZ
          have HE0 := Lib.hid hE
          have HB := Lib.hid hB
          have HK := Lib.hid hK
          have hdl := block_lt hK
          have hpd : P + 7 ≤ D' := by rw [← HSZ1.out]; exact hD'
          have hpw := HPE.out
          rcases hcase with ⟨rfl, _⟩ | ⟨_, hF2, D, A5, n5, c5, A6, n6, c6, hO, hs5, hs6, hf5, hf6, hl5, hl6, hzD, hfold⟩
          · exact absurd hxl (by simp; omega)
          · have HBT := Lib.hid (show bt l F T = (if T = F + 1 ∧ D.msg.2 ≠ 0 then (Dl.zero, D.msg.2) else (D, 0)) from by
              have hb : btF ((l.drop F).take (T - F)) = (D, 0) := by rw [← hxs, ← List.append_nil (xs.map _)]; exact hfold []
              rw [bt_eq hFT (by rw [HLEN.out]; exact hTn), hb])
            have HO := Lib.hid (show BxC W (P + 3) #[.int .i64 D.fr, .int .i64 D.to, .slice A5 n5 c5, .slice A6 n6 c6, .string D.be, .string D.af, .string D.sc, .string D.sr] 27 from hO)
            have HS5 := Lib.hid hs5
            have HS6 := Lib.hid hs6
            have HG5 := Lib.hid hf5
            have HG6 := Lib.hid hf6
            have HZD := Lib.hid hzD
            have q5 : n5 ≤ 240 := by omega
            have q6 : n6 ≤ 240 := by omega
            have hT12 : T ≤ 12 := by omega
            clear hZ hE hB hK hO hs5 hs6 hf5 hf6 hzD hfold hl5 hl6 hxs hD' hF2 hll hxl
            refine hK5 _ _ ?_
            by_cases hT1 : T = F + 1
            · have ht : ((T : Int) == (F : Int) + 1) = true := by simp only [beq_iff_eq]; omega
              have ht' : (T == F + 1) = true := by simp only [beq_iff_eq]; omega
              have o0 : W.cell? ⟨P + 3, 0, none⟩ = some (.int .i64 D.fr) := HO.out.cell 0
              have o1 : W.cell? ⟨P + 3, 1, none⟩ = some (.int .i64 D.to) := HO.out.cell 1
              have o2 : W.cell? ⟨P + 3, 2, none⟩ = some (.slice A5 n5 c5) := HO.out.cell 2
              have o3 : W.cell? ⟨P + 3, 3, none⟩ = some (.slice A6 n6 c6) := HO.out.cell 3
              have o4 : W.cell? ⟨P + 3, 4, none⟩ = some (.string D.be) := HO.out.cell 4
              have o5 : W.cell? ⟨P + 3, 5, none⟩ = some (.string D.af) := HO.out.cell 5
              have o6 : W.cell? ⟨P + 3, 6, none⟩ = some (.string D.sc) := HO.out.cell 6
              have o7 : W.cell? ⟨P + 3, 7, none⟩ = some (.string D.sr) := HO.out.cell 7
              have HT1 := Lib.hid hT1
              clear hT1
              go_wp2_with fail
              refine (show Calls _ _ _ _ _ from ep_Message D A5 A6 n5 c5 n6 c6 W HS5.out HS6.out (by omega) (by omega) HZD.out).mono ?_
              rintro e w8 ⟨rfl, hb⟩
              obtain ⟨⟨r1, e1⟩, hm⟩ : ∃ p, D.msg = p := ⟨_, rfl⟩
              rw [hm]
              have HZ8 := Lib.hid (HZ0.out.next hb)
              have HE8 := Lib.hid (HE0.out.next hb)
              have HO8 := Lib.hid (HO.out.next hb)
              have HK8 := Lib.hid ((hb.block D' hdl).trans HK.out)
              have HB8 := Lib.hid (show Below P w w8 from HB.out.trans (hb.mono (Nat.le_trans (by omega) HB.out.size)))
              have HS58 := Lib.hid (HS5.out.kept hb (Nat.le_refl _))
              have HS68 := Lib.hid (HS6.out.kept hb (Nat.le_refl _))
              have hdl8 : D' < w8.heap.size := Nat.lt_of_lt_of_le hdl hb.size
              clear hb o0 o1 o2 o3 o4 o5 o6 o7
              dsimp only
              by_cases he1 : e1 = 0
              · subst he1
                have HJ := Lib.hid (show bt l F T = (D, 0) from by rw [HBT.out, hm]; exact if_neg (fun h => h.2 rfl))
                clear hm
                have z0 : w8.cell? ⟨P + 3, 0, none⟩ = some (.int .i64 D.fr) := HO8.out.cell 0
                have z1 : w8.cell? ⟨P + 3, 1, none⟩ = some (.int .i64 D.to) := HO8.out.cell 1
                have z2 : w8.cell? ⟨P + 3, 2, none⟩ = some (.slice A5 n5 c5) := HO8.out.cell 2
                have z3 : w8.cell? ⟨P + 3, 3, none⟩ = some (.slice A6 n6 c6) := HO8.out.cell 3
                have z4 : w8.cell? ⟨P + 3, 4, none⟩ = some (.string D.be) := HO8.out.cell 4
                have z5 : w8.cell? ⟨P + 3, 5, none⟩ = some (.string D.af) := HO8.out.cell 5
                have z6 : w8.cell? ⟨P + 3, 6, none⟩ = some (.string D.sc) := HO8.out.cell 6
                have z7 : w8.cell? ⟨P + 3, 7, none⟩ = some (.string D.sr) := HO8.out.cell 7
                have HRZ := Lib.hid (show BxC ((w8).setRow P #[.int .i64 D.fr, .int .i64 D.to, .slice A5 n5 c5, .slice A6 n6 c6, .string D.be, .string D.af, .string D.sc, .string D.sr]) P #[.int .i64 D.fr, .int .i64 D.to, .slice A5 n5 c5, .slice A6 n6 c6, .string D.be, .string D.af, .string D.sc, .string D.sr] 27 from setRow_heap _ _ _ _ _ _ HZ8.out)
                have HEZ := Lib.hid (show BxC ((w8).setRow P #[.int .i64 D.fr, .int .i64 D.to, .slice A5 n5 c5, .slice A6 n6 c6, .string D.be, .string D.af, .string D.sc, .string D.sr]) (P + 1) #[.int .i64 0] 30 from HE8.out.row (by omega))
                have HKZ := Lib.hid (show (((w8).setRow P #[.int .i64 D.fr, .int .i64 D.to, .slice A5 n5 c5, .slice A6 n6 c6, .string D.be, .string D.af, .string D.sc, .string D.sr]).setCell ⟨P + 1, 0, none⟩ (.int .i64 0)).heap[D']? = some (.deferred (some [])) from (heap_setCell_other _ _ _ _ (by simp only []; omega)).trans ((setRow_other _ _ _ _ (by omega)).trans HK8.out))
                have cE : ((w8).setRow P #[.int .i64 D.fr, .int .i64 D.to, .slice A5 n5 c5, .slice A6 n6 c6, .string D.be, .string D.af, .string D.sc, .string D.sr]).cell? ⟨P + 1, 0, none⟩ = some (.int .i64 0) := HEZ.out.cell 0
                have fE := HEZ.out.free 0
                go_wp2_with (refine wpList_store_rowTo rfl 27 _ _ rfl rfl P #[.int .i64 D.fr, .int .i64 D.to, .slice A5 n5 c5, .slice A6 n6 c6, .string D.be, .string D.af, .string D.sc, .string D.sr] rfl rfl 27 zcs HZ8.out (by kernel_rfl) rfl (by simp [Value.oneCell']) ?_)
                have HR2 := Lib.hid (HRZ.out.other (C := P + 1) (k := 0) (by omega) (.int .i64 0))
                have HE2 := Lib.hid (HEZ.out.set (k := 0) (.int .i64 0))
                have HB2 := Lib.hid (show Below P w (((w8).setRow P #[.int .i64 D.fr, .int .i64 D.to, .slice A5 n5 c5, .slice A6 n6 c6, .string D.be, .string D.af, .string D.sc, .string D.sr]).setCell ⟨P + 1, 0, none⟩ (.int .i64 0)) from (below_setRow HB8.out (g := P) (Nat.le_refl _) #[.int .i64 D.fr, .int .i64 D.to, .slice A5 n5 c5, .slice A6 n6 c6, .string D.be, .string D.af, .string D.sc, .string D.sr]).setCell (p := ⟨P + 1, 0, none⟩) (by simp only []; omega) _)
                have HT5 := Lib.hid (show SlN (((w8).setRow P #[.int .i64 D.fr, .int .i64 D.to, .slice A5 n5 c5, .slice A6 n6 c6, .string D.be, .string D.af, .string D.sc, .string D.sr]).setCell ⟨P + 1, 0, none⟩ (.int .i64 0)) A5 n5 c5 D.ad from HS58.out.of_blocks (fun h0 ad he => by have := HG5.out h0 ad he; rw [heap_setCell_other _ _ _ _ (show ad.block ≠ P + 1 from by omega)]; exact setRow_other _ _ _ _ (by omega)))
                have HT6 := Lib.hid (show SlN (((w8).setRow P #[.int .i64 D.fr, .int .i64 D.to, .slice A5 n5 c5, .slice A6 n6 c6, .string D.be, .string D.af, .string D.sc, .string D.sr]).setCell ⟨P + 1, 0, none⟩ (.int .i64 0)) A6 n6 c6 D.rm from HS68.out.of_blocks (fun h0 ad he => by have := HG6.out h0 ad he; rw [heap_setCell_other _ _ _ _ (show ad.block ≠ P + 1 from by omega)]; exact setRow_other _ _ _ _ (by omega)))
                obtain ⟨w9, hw9⟩ : ∃ w9, ((w8).setRow P #[.int .i64 D.fr, .int .i64 D.to, .slice A5 n5 c5, .slice A6 n6 c6, .string D.be, .string D.af, .string D.sc, .string D.sr]).setCell ⟨P + 1, 0, none⟩ (.int .i64 0) = w9 := ⟨_, rfl⟩
                rw [hw9] at HR2 HE2 HB2 HT5 HT6 HKZ ⊢
                clear hw9 z0 z1 z2 z3 z4 z5 z6 z7 cE fE
                have ee0 : (w9.putObj D' (.deferred none)).cell? ⟨P, 0, none⟩ = some (.int .i64 D.fr) := (putObj_cell (k := 0) _ HR2.out (by omega)).trans rfl
                have ee1 : (w9.putObj D' (.deferred none)).cell? ⟨P, 1, none⟩ = some (.int .i64 D.to) := (putObj_cell (k := 1) _ HR2.out (by omega)).trans rfl
                have ee2 : (w9.putObj D' (.deferred none)).cell? ⟨P, 2, none⟩ = some (.slice A5 n5 c5) := (putObj_cell (k := 2) _ HR2.out (by omega)).trans rfl
                have ee3 : (w9.putObj D' (.deferred none)).cell? ⟨P, 3, none⟩ = some (.slice A6 n6 c6) := (putObj_cell (k := 3) _ HR2.out (by omega)).trans rfl
                have ee4 : (w9.putObj D' (.deferred none)).cell? ⟨P, 4, none⟩ = some (.string D.be) := (putObj_cell (k := 4) _ HR2.out (by omega)).trans rfl
                have ee5 : (w9.putObj D' (.deferred none)).cell? ⟨P, 5, none⟩ = some (.string D.af) := (putObj_cell (k := 5) _ HR2.out (by omega)).trans rfl
                have ee6 : (w9.putObj D' (.deferred none)).cell? ⟨P, 6, none⟩ = some (.string D.sc) := (putObj_cell (k := 6) _ HR2.out (by omega)).trans rfl
                have ee7 : (w9.putObj D' (.deferred none)).cell? ⟨P, 7, none⟩ = some (.string D.sr) := (putObj_cell (k := 7) _ HR2.out (by omega)).trans rfl
                have eE : (w9.putObj D' (.deferred none)).cell? ⟨P + 1, 0, none⟩ = some (.int .i64 0) := (putObj_cell (k := 0) _ HE2.out (by omega)).trans rfl
                refine bodyM_mark (P := Try.prog) (fn := Try.f14) (v := .tuple #[.agg #[.int .i64 D.fr, .int .i64 D.to, .slice A5 n5 c5, .slice A6 n6 c6, .string D.be, .string D.af, .string D.sc, .string D.sr], .int .i64 0]) HKZ.out rfl (by simp [results, Try.results14, go_sem, ee0, ee1, ee2, ee3, ee4, ee5, ee6, ee7, eE]) ?_
                have HP := Lib.hid (show ∀ (A : Option Addr) (n c : Nat) (l : List ByteArray), SlN w9 A n c l → SlN (w9.putObj D' (.deferred none)) A n c l from fun A n c l h => slN_own (β := Unit) _ _ _ _ () w9 _ (some D') h (grownBy_putObj' _ _ _) (fun r e => by cases e; exact ⟨_, HKZ.out, rfl⟩))
                exact ⟨A5, n5, c5, A6, n6, c6, by rw [HJ.out]; rfl, by rw [HJ.out]; exact HP.out _ _ _ _ HT5.out, by rw [HJ.out]; exact HP.out _ _ _ _ HT6.out, by rw [HPE.out]; exact HB2.out.trans (belowK_b (w := w) (by omega) _ D' _ _ (by omega) HKZ.out rfl rfl)⟩
              · have hd : (e1 != 0) = true := by simpa using he1
                have HJ := Lib.hid (show bt l F T = (Dl.zero, e1) from by rw [HBT.out, hm]; exact if_pos ⟨HT1.out, he1⟩)
                have HRZ := Lib.hid (show BxC (w8.setRow P zcs) P zcs 27 from setRow_heap _ _ _ zcs _ _ HZ8.out)
                have HEZ := Lib.hid (show BxC (w8.setRow P zcs) (P + 1) #[.int .i64 0] 30 from HE8.out.row (by omega))
                have HKZ := Lib.hid (show ((w8.setRow P zcs).setCell ⟨P + 1, 0, none⟩ (.int .i64 e1)).heap[D']? = some (.deferred (some [])) from (heap_setCell_other _ _ _ _ (by simp only []; omega)).trans ((setRow_other _ _ _ _ (by omega)).trans HK8.out))
                have cE : (w8.setRow P zcs).cell? ⟨P + 1, 0, none⟩ = some (.int .i64 0) := HEZ.out.cell 0
                have fE := HEZ.out.free 0
                clear hm he1
                go_wp2_with (refine wpList_store_rowTo rfl 27 _ _ rfl rfl P zcs rfl rfl 27 zcs HZ8.out (by kernel_rfl) rfl (Dl.zero.one _ _ _ _ _ _) ?_)
                have HR2 := Lib.hid (HRZ.out.other (C := P + 1) (k := 0) (by omega) (.int .i64 e1))
                have HE2 := Lib.hid (HEZ.out.set (k := 0) (.int .i64 e1))
                have HB2 := Lib.hid (show Below P w ((w8.setRow P zcs).setCell ⟨P + 1, 0, none⟩ (.int .i64 e1)) from (below_setRow HB8.out (g := P) (Nat.le_refl _) zcs).setCell (p := ⟨P + 1, 0, none⟩) (by simp only []; omega) _)
                obtain ⟨w9, hw9⟩ : ∃ w9, (w8.setRow P zcs).setCell ⟨P + 1, 0, none⟩ (.int .i64 e1) = w9 := ⟨_, rfl⟩
                rw [hw9] at HR2 HE2 HB2 HKZ ⊢
                clear hw9 cE fE
                have ee0 : (w9.putObj D' (.deferred none)).cell? ⟨P, 0, none⟩ = some (.int .i64 0) := (putObj_cell (k := 0) _ HR2.out (by omega)).trans rfl
                have ee1 : (w9.putObj D' (.deferred none)).cell? ⟨P, 1, none⟩ = some (.int .i64 0) := (putObj_cell (k := 1) _ HR2.out (by omega)).trans rfl
                have ee2 : (w9.putObj D' (.deferred none)).cell? ⟨P, 2, none⟩ = some (.slice none 0 0) := (putObj_cell (k := 2) _ HR2.out (by omega)).trans rfl
                have ee3 : (w9.putObj D' (.deferred none)).cell? ⟨P, 3, none⟩ = some (.slice none 0 0) := (putObj_cell (k := 3) _ HR2.out (by omega)).trans rfl
                have ee4 : (w9.putObj D' (.deferred none)).cell? ⟨P, 4, none⟩ = some (.string ⟨#[]⟩) := (putObj_cell (k := 4) _ HR2.out (by omega)).trans rfl
                have ee5 : (w9.putObj D' (.deferred none)).cell? ⟨P, 5, none⟩ = some (.string ⟨#[]⟩) := (putObj_cell (k := 5) _ HR2.out (by omega)).trans rfl
                have ee6 : (w9.putObj D' (.deferred none)).cell? ⟨P, 6, none⟩ = some (.string ⟨#[]⟩) := (putObj_cell (k := 6) _ HR2.out (by omega)).trans rfl
                have ee7 : (w9.putObj D' (.deferred none)).cell? ⟨P, 7, none⟩ = some (.string ⟨#[]⟩) := (putObj_cell (k := 7) _ HR2.out (by omega)).trans rfl
                have eE : (w9.putObj D' (.deferred none)).cell? ⟨P + 1, 0, none⟩ = some (.int .i64 e1) := (putObj_cell (k := 0) _ HE2.out (by omega)).trans rfl
                refine bodyM_mark (P := Try.prog) (fn := Try.f14) (v := .tuple #[.agg #[.int .i64 0, .int .i64 0, .slice none 0 0, .slice none 0 0, .string ⟨#[]⟩, .string ⟨#[]⟩, .string ⟨#[]⟩, .string ⟨#[]⟩], .int .i64 e1]) HKZ.out rfl (by simp [results, Try.results14, go_sem, ee0, ee1, ee2, ee3, ee4, ee5, ee6, ee7, eE]) ?_
                exact ⟨none, 0, 0, none, 0, 0, by rw [HJ.out]; rfl, by rw [HJ.out]; exact SlN.nil _ _ (by omega) _, by rw [HJ.out]; exact SlN.nil _ _ (by omega) _, by rw [HPE.out]; exact HB2.out.trans (belowK_b (w := w) (by omega) _ D' _ _ (by omega) HKZ.out rfl rfl)⟩
            · have ht : ((T : Int) == (F : Int) + 1) = false := by simp only [beq_eq_false_iff_ne]; omega
              have ht' : (T == F + 1) = false := by simp only [beq_eq_false_iff_ne]; omega
              have HJ := Lib.hid (show bt l F T = (D, 0) from by rw [HBT.out]; exact if_neg (fun h => hT1 h.1))
              clear hT1
              have z0 : W.cell? ⟨P + 3, 0, none⟩ = some (.int .i64 D.fr) := HO.out.cell 0
              have z1 : W.cell? ⟨P + 3, 1, none⟩ = some (.int .i64 D.to) := HO.out.cell 1
              have z2 : W.cell? ⟨P + 3, 2, none⟩ = some (.slice A5 n5 c5) := HO.out.cell 2
              have z3 : W.cell? ⟨P + 3, 3, none⟩ = some (.slice A6 n6 c6) := HO.out.cell 3
              have z4 : W.cell? ⟨P + 3, 4, none⟩ = some (.string D.be) := HO.out.cell 4
              have z5 : W.cell? ⟨P + 3, 5, none⟩ = some (.string D.af) := HO.out.cell 5
              have z6 : W.cell? ⟨P + 3, 6, none⟩ = some (.string D.sc) := HO.out.cell 6
              have z7 : W.cell? ⟨P + 3, 7, none⟩ = some (.string D.sr) := HO.out.cell 7
              have HRZ := Lib.hid (show BxC ((W).setRow P #[.int .i64 D.fr, .int .i64 D.to, .slice A5 n5 c5, .slice A6 n6 c6, .string D.be, .string D.af, .string D.sc, .string D.sr]) P #[.int .i64 D.fr, .int .i64 D.to, .slice A5 n5 c5, .slice A6 n6 c6, .string D.be, .string D.af, .string D.sc, .string D.sr] 27 from setRow_heap _ _ _ _ _ _ HZ0.out)
              have HEZ := Lib.hid (show BxC ((W).setRow P #[.int .i64 D.fr, .int .i64 D.to, .slice A5 n5 c5, .slice A6 n6 c6, .string D.be, .string D.af, .string D.sc, .string D.sr]) (P + 1) #[.int .i64 0] 30 from HE0.out.row (by omega))
              have HKZ := Lib.hid (show (((W).setRow P #[.int .i64 D.fr, .int .i64 D.to, .slice A5 n5 c5, .slice A6 n6 c6, .string D.be, .string D.af, .string D.sc, .string D.sr]).setCell ⟨P + 1, 0, none⟩ (.int .i64 0)).heap[D']? = some (.deferred (some [])) from (heap_setCell_other _ _ _ _ (by simp only []; omega)).trans ((setRow_other _ _ _ _ (by omega)).trans HK.out))
              have cE : ((W).setRow P #[.int .i64 D.fr, .int .i64 D.to, .slice A5 n5 c5, .slice A6 n6 c6, .string D.be, .string D.af, .string D.sc, .string D.sr]).cell? ⟨P + 1, 0, none⟩ = some (.int .i64 0) := HEZ.out.cell 0
              have fE := HEZ.out.free 0
              go_wp2_with (refine wpList_store_rowTo rfl 27 _ _ rfl rfl P #[.int .i64 D.fr, .int .i64 D.to, .slice A5 n5 c5, .slice A6 n6 c6, .string D.be, .string D.af, .string D.sc, .string D.sr] rfl rfl 27 zcs HZ0.out (by kernel_rfl) rfl (by simp [Value.oneCell']) ?_)
              have HR2 := Lib.hid (HRZ.out.other (C := P + 1) (k := 0) (by omega) (.int .i64 0))
              have HE2 := Lib.hid (HEZ.out.set (k := 0) (.int .i64 0))
              have HB2 := Lib.hid (show Below P w (((W).setRow P #[.int .i64 D.fr, .int .i64 D.to, .slice A5 n5 c5, .slice A6 n6 c6, .string D.be, .string D.af, .string D.sc, .string D.sr]).setCell ⟨P + 1, 0, none⟩ (.int .i64 0)) from (below_setRow HB.out (g := P) (Nat.le_refl _) #[.int .i64 D.fr, .int .i64 D.to, .slice A5 n5 c5, .slice A6 n6 c6, .string D.be, .string D.af, .string D.sc, .string D.sr]).setCell (p := ⟨P + 1, 0, none⟩) (by simp only []; omega) _)
              have HT5 := Lib.hid (show SlN (((W).setRow P #[.int .i64 D.fr, .int .i64 D.to, .slice A5 n5 c5, .slice A6 n6 c6, .string D.be, .string D.af, .string D.sc, .string D.sr]).setCell ⟨P + 1, 0, none⟩ (.int .i64 0)) A5 n5 c5 D.ad from HS5.out.of_blocks (fun h0 ad he => by have := HG5.out h0 ad he; rw [heap_setCell_other _ _ _ _ (show ad.block ≠ P + 1 from by omega)]; exact setRow_other _ _ _ _ (by omega)))
              have HT6 := Lib.hid (show SlN (((W).setRow P #[.int .i64 D.fr, .int .i64 D.to, .slice A5 n5 c5, .slice A6 n6 c6, .string D.be, .string D.af, .string D.sc, .string D.sr]).setCell ⟨P + 1, 0, none⟩ (.int .i64 0)) A6 n6 c6 D.rm from HS6.out.of_blocks (fun h0 ad he => by have := HG6.out h0 ad he; rw [heap_setCell_other _ _ _ _ (show ad.block ≠ P + 1 from by omega)]; exact setRow_other _ _ _ _ (by omega)))
              obtain ⟨w9, hw9⟩ : ∃ w9, ((W).setRow P #[.int .i64 D.fr, .int .i64 D.to, .slice A5 n5 c5, .slice A6 n6 c6, .string D.be, .string D.af, .string D.sc, .string D.sr]).setCell ⟨P + 1, 0, none⟩ (.int .i64 0) = w9 := ⟨_, rfl⟩
              rw [hw9] at HR2 HE2 HB2 HT5 HT6 HKZ ⊢
              clear hw9 z0 z1 z2 z3 z4 z5 z6 z7 cE fE
              have ee0 : (w9.putObj D' (.deferred none)).cell? ⟨P, 0, none⟩ = some (.int .i64 D.fr) := (putObj_cell (k := 0) _ HR2.out (by omega)).trans rfl
              have ee1 : (w9.putObj D' (.deferred none)).cell? ⟨P, 1, none⟩ = some (.int .i64 D.to) := (putObj_cell (k := 1) _ HR2.out (by omega)).trans rfl
              have ee2 : (w9.putObj D' (.deferred none)).cell? ⟨P, 2, none⟩ = some (.slice A5 n5 c5) := (putObj_cell (k := 2) _ HR2.out (by omega)).trans rfl
              have ee3 : (w9.putObj D' (.deferred none)).cell? ⟨P, 3, none⟩ = some (.slice A6 n6 c6) := (putObj_cell (k := 3) _ HR2.out (by omega)).trans rfl
              have ee4 : (w9.putObj D' (.deferred none)).cell? ⟨P, 4, none⟩ = some (.string D.be) := (putObj_cell (k := 4) _ HR2.out (by omega)).trans rfl
              have ee5 : (w9.putObj D' (.deferred none)).cell? ⟨P, 5, none⟩ = some (.string D.af) := (putObj_cell (k := 5) _ HR2.out (by omega)).trans rfl
              have ee6 : (w9.putObj D' (.deferred none)).cell? ⟨P, 6, none⟩ = some (.string D.sc) := (putObj_cell (k := 6) _ HR2.out (by omega)).trans rfl
              have ee7 : (w9.putObj D' (.deferred none)).cell? ⟨P, 7, none⟩ = some (.string D.sr) := (putObj_cell (k := 7) _ HR2.out (by omega)).trans rfl
              have eE : (w9.putObj D' (.deferred none)).cell? ⟨P + 1, 0, none⟩ = some (.int .i64 0) := (putObj_cell (k := 0) _ HE2.out (by omega)).trans rfl
              refine bodyM_mark (P := Try.prog) (fn := Try.f14) (v := .tuple #[.agg #[.int .i64 D.fr, .int .i64 D.to, .slice A5 n5 c5, .slice A6 n6 c6, .string D.be, .string D.af, .string D.sc, .string D.sr], .int .i64 0]) HKZ.out rfl (by simp [results, Try.results14, go_sem, ee0, ee1, ee2, ee3, ee4, ee5, ee6, ee7, eE]) ?_
              have HP := Lib.hid (show ∀ (A : Option Addr) (n c : Nat) (l : List ByteArray), SlN w9 A n c l → SlN (w9.putObj D' (.deferred none)) A n c l from fun A n c l h => slN_own (β := Unit) _ _ _ _ () w9 _ (some D') h (grownBy_putObj' _ _ _) (fun r e => by cases e; exact ⟨_, HKZ.out, rfl⟩))
              exact ⟨A5, n5, c5, A6, n6, c6, by rw [HJ.out]; rfl, by rw [HJ.out]; exact HP.out _ _ _ _ HT5.out, by rw [HJ.out]; exact HP.out _ _ _ _ HT6.out, by rw [HPE.out]; exact HB2.out.trans (belowK_b (w := w) (by omega) _ D' _ _ (by omega) HKZ.out rfl rfl)⟩
        case stop =>
          rintro D' c' pre W hD' ⟨rest, hrest⟩ ⟨rfl, hB, e, he, ⟨hZ, hE⟩, hfold⟩ hK
          have HJ := Lib.hid (show bt l F T = (Dl.zero, e) from by
            have hb : btF ((l.drop F).take (T - F)) = (Dl.zero, e) := by rw [← hrest]; exact hfold rest
            rw [bt_eq hFT (by rw [HLEN.out]; exact hTn), hb, if_neg]
            rintro ⟨h1, _⟩
            obtain ⟨d, hd⟩ : ∃ d, l[F]? = some d := ⟨_, List.getElem?_eq_getElem (by rw [HLEN.out]; omega)⟩
            rw [rest_cons hd hFT, h1, Nat.sub_self, List.take_zero] at hb
            exact he (congrArg Prod.snd hb).symm)
          have HZ0 := Lib.hid hZ
          have HE0 := Lib.hid hE
          have HB := Lib.hid hB
          have HK := Lib.hid hK
          have hdl := block_lt hK
          have hpd : P + 7 ≤ D' := by rw [← HSZ1.out]; exact hD'
          have hpw := HPE.out
          clear hB hK hfold hrest hD' hZ hE he
          gi_step
          simp only [Exit.then, Exit.inBlock]
          have ee0 : (W.putObj D' (.deferred none)).cell? ⟨P, 0, none⟩ = some (.int .i64 0) := (putObj_cell (k := 0) _ HZ0.out (by omega)).trans rfl
          have ee1 : (W.putObj D' (.deferred none)).cell? ⟨P, 1, none⟩ = some (.int .i64 0) := (putObj_cell (k := 1) _ HZ0.out (by omega)).trans rfl
          have ee2 : (W.putObj D' (.deferred none)).cell? ⟨P, 2, none⟩ = some (.slice none 0 0) := (putObj_cell (k := 2) _ HZ0.out (by omega)).trans rfl
          have ee3 : (W.putObj D' (.deferred none)).cell? ⟨P, 3, none⟩ = some (.slice none 0 0) := (putObj_cell (k := 3) _ HZ0.out (by omega)).trans rfl
          have ee4 : (W.putObj D' (.deferred none)).cell? ⟨P, 4, none⟩ = some (.string ⟨#[]⟩) := (putObj_cell (k := 4) _ HZ0.out (by omega)).trans rfl
          have ee5 : (W.putObj D' (.deferred none)).cell? ⟨P, 5, none⟩ = some (.string ⟨#[]⟩) := (putObj_cell (k := 5) _ HZ0.out (by omega)).trans rfl
          have ee6 : (W.putObj D' (.deferred none)).cell? ⟨P, 6, none⟩ = some (.string ⟨#[]⟩) := (putObj_cell (k := 6) _ HZ0.out (by omega)).trans rfl
          have ee7 : (W.putObj D' (.deferred none)).cell? ⟨P, 7, none⟩ = some (.string ⟨#[]⟩) := (putObj_cell (k := 7) _ HZ0.out (by omega)).trans rfl
          have eE : (W.putObj D' (.deferred none)).cell? ⟨P + 1, 0, none⟩ = some (.int .i64 e) := (putObj_cell (k := 0) _ HE0.out (by omega)).trans rfl
          refine bodyM_mark (P := Try.prog) (fn := Try.f14) (v := .tuple #[.agg #[.int .i64 0, .int .i64 0, .slice none 0 0, .slice none 0 0, .string ⟨#[]⟩, .string ⟨#[]⟩, .string ⟨#[]⟩, .string ⟨#[]⟩], .int .i64 e]) HK.out rfl (by simp [results, Try.results14, go_sem, ee0, ee1, ee2, ee3, ee4, ee5, ee6, ee7, eE]) ?_
          exact ⟨none, 0, 0, none, 0, 0, by rw [HJ.out]; rfl, by rw [HJ.out]; exact SlN.nil _ _ (by omega) _, by rw [HJ.out]; exact SlN.nil _ _ (by omega) _, by rw [HPE.out]; exact HB.out.trans (belowK_b (w := w) (by omega) _ D' _ _ (by omega) HK.out rfl rfl)⟩
end Go.Proofs.Ytelhpdlegjgjjaa

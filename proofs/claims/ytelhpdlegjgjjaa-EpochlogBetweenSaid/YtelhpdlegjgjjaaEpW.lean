/- Walk: dominoref37.Between. -/
import Derived.Test.YtelhpdlegjgjjaaEpV
set_option linter.unusedVariables false
set_option linter.unusedSimpArgs false
namespace Go.Proofs.Ytelhpdlegjgjjaa
open Go.RowKit

def itD : Array Value := #[.int .i64 0, .int .i64 0, .slice none 0 0, .slice none 0 0, .string ⟨#[]⟩, .string ⟨#[]⟩, .string ⟨#[]⟩, .string ⟨#[]⟩]
theorem wpList_alloc_dl {ops : Array Oper} {rest : List Oper} {o : Oper} {a : Act} {w : World} {Q : Exit → Act → World → Prop} (hg : o.guard = none) (d : Option Tmp) (hd : o.dst = d) (hop : ∀ ρ : Operand → Value, (execOp ρ o).run Try.prog w = .ok (.value (.pointer (some ⟨w.heap.size, 0, none⟩))) (w.alloc (.cells itD 27)))
    (h : ∀ (B : Nat) (W' : World), B = w.heap.size → BxC W' B itD 27 → Below w.heap.size w W' → wpList Try.prog ops Q rest (a.put d (.pointer (some ⟨B, 0, none⟩))) W') : wpList Try.prog ops Q (o :: rest) a w :=
  Great.wpList_allocTo hg d hd _ _ (hop a.eval) (h w.heap.size _ rfl (BxC.new _ _ _) ((Below.refl _ _).alloc (Nat.le_refl _) _))
theorem wpList_name {ops : Array Oper} {rest : List Oper} {a : Act} {w : World} {Q : Exit → Act → World → Prop} (h : ∀ W, W = w → wpList Try.prog ops Q rest a W) : wpList Try.prog ops Q rest a w := h w rfl
/-- A slice lies in neither of two blocks. -/
def Far (A : Option Addr) (n P B : Nat) : Prop := 0 < n → ∀ ad, A = some ad → ad.block ≠ P ∧ ad.block ≠ B
set_option maxRecDepth 100000 in
set_option maxHeartbeats 8000000 in
theorem r37_Between (l : List Dl) (A : Option Addr) (n c : Nat) (f t : Int) (w : World) (hs : SlD w A n c l) (hn : n ≤ 12) (hf : ∀ d ∈ l, FewD d) (hz : SzD l) :
    Calls Try.prog 15 #[.slice A n c, .int .i64 f, .int .i64 t] w (RetDl (bt l f t) w) := by
  obtain ⟨P, hP⟩ : ∃ P, w.heap.size = P := ⟨_, rfl⟩
  obtain ⟨W0, hW0⟩ : ∃ W0, w.alloc (.cells #[.int .i64 0, .int .i64 0, .slice none 0 0, .slice none 0 0, .string ⟨#[]⟩, .string ⟨#[]⟩, .string ⟨#[]⟩, .string ⟨#[]⟩] 27) = W0 := ⟨_, rfl⟩
  have HR0 := Lib.hid (show BxC W0 P (Dl.zero.arr (.slice none 0 0) (.slice none 0 0)) 27 from by rw [← hW0, ← hP]; exact BxC.new w _ _)
  have HB0 := Lib.hid (show Below P w W0 from by rw [← hW0, ← hP]; exact (Below.refl _ _).alloc (Nat.le_refl _) _)
  have HW0 := Lib.hid (show P + 1 = W0.heap.size from by rw [← hW0, ← hP]; simp)
  have HPE := Lib.hid hP
  have HS := Lib.hid (hs.kept HB0.out (Nat.le_of_eq hP))
  have HSW := Lib.hid hs
  have HLEN := Lib.hid hs.1
  have HF := Lib.hid hf
  have HZ := Lib.hid hz
  have hcap := hs.2.1
  have hcap2 := hs.2.2.1
  clear hs hf hz
  go_enter Try.func15, Try.ntmps15
  by_cases h1 : f < 0
  · have g1 : decide (f < 0) = true := decide_eq_true h1
    have HJ := Lib.hid (show bt l f t = (Dl.zero, 2) from if_pos (.inl h1))
    have HRB := Lib.hid HR0.out
    have HBB := Lib.hid HB0.out
    go_wp2_with (refine wpList_store_rowTo rfl 27 _ _ rfl rfl P (Dl.zero.arr (.slice none 0 0) (.slice none 0 0)) rfl rfl 27 (Dl.zero.arr (.slice none 0 0) (.slice none 0 0)) HRB.out (by kernel_rfl) rfl (Dl.zero.one _ _ _ _ _ _) ?_)
    have HRZ := Lib.hid (show BxC (W0.setRow P (Dl.zero.arr (.slice none 0 0) (.slice none 0 0))) P (Dl.zero.arr (.slice none 0 0) (.slice none 0 0)) 27 from setRow_heap _ _ _ (Dl.zero.arr (.slice none 0 0) (.slice none 0 0)) _ _ HRB.out)
    have HBZ := Lib.hid (below_setRow HBB.out (g := P) (Nat.le_refl _) (Dl.zero.arr (.slice none 0 0) (.slice none 0 0)))
    go_wp2
    have y0 : (W0.setRow P (Dl.zero.arr (.slice none 0 0) (.slice none 0 0))).cell? ⟨P, 0, none⟩ = some (.int .i64 0) := HRZ.out.cell 0
    have y1 : (W0.setRow P (Dl.zero.arr (.slice none 0 0) (.slice none 0 0))).cell? ⟨P, 1, none⟩ = some (.int .i64 0) := HRZ.out.cell 1
    have y2 : (W0.setRow P (Dl.zero.arr (.slice none 0 0) (.slice none 0 0))).cell? ⟨P, 2, none⟩ = some (.slice none 0 0) := HRZ.out.cell 2
    have y3 : (W0.setRow P (Dl.zero.arr (.slice none 0 0) (.slice none 0 0))).cell? ⟨P, 3, none⟩ = some (.slice none 0 0) := HRZ.out.cell 3
    have y4 : (W0.setRow P (Dl.zero.arr (.slice none 0 0) (.slice none 0 0))).cell? ⟨P, 4, none⟩ = some (.string ⟨#[]⟩) := HRZ.out.cell 4
    have y5 : (W0.setRow P (Dl.zero.arr (.slice none 0 0) (.slice none 0 0))).cell? ⟨P, 5, none⟩ = some (.string ⟨#[]⟩) := HRZ.out.cell 5
    have y6 : (W0.setRow P (Dl.zero.arr (.slice none 0 0) (.slice none 0 0))).cell? ⟨P, 6, none⟩ = some (.string ⟨#[]⟩) := HRZ.out.cell 6
    have y7 : (W0.setRow P (Dl.zero.arr (.slice none 0 0) (.slice none 0 0))).cell? ⟨P, 7, none⟩ = some (.string ⟨#[]⟩) := HRZ.out.cell 7
    exact bodyPost_ret (v := .tuple #[.agg #[.int .i64 0, .int .i64 0, .slice none 0 0, .slice none 0 0, .string ⟨#[]⟩, .string ⟨#[]⟩, .string ⟨#[]⟩, .string ⟨#[]⟩], .int .i64 2]) (by simp [results, Try.results15, go_sem, y0, y1, y2, y3, y4, y5, y6, y7]) rfl ⟨none, 0, 0, none, 0, 0, by rw [HJ.out]; rfl, by rw [HJ.out]; exact SlN.nil _ _ (by omega) _, by rw [HJ.out]; exact SlN.nil _ _ (by omega) _, by rw [HPE.out]; exact HBZ.out⟩
  · have g1 : decide (f < 0) = false := decide_eq_false h1
    by_cases h2 : t ≤ f
    · have g2 : decide (t ≤ f) = true := decide_eq_true h2
      have HJ := Lib.hid (show bt l f t = (Dl.zero, 2) from if_pos (.inr (.inl h2)))
      have HRB := Lib.hid HR0.out
      have HBB := Lib.hid HB0.out
      go_wp2_with (refine wpList_store_rowTo rfl 27 _ _ rfl rfl P (Dl.zero.arr (.slice none 0 0) (.slice none 0 0)) rfl rfl 27 (Dl.zero.arr (.slice none 0 0) (.slice none 0 0)) HRB.out (by kernel_rfl) rfl (Dl.zero.one _ _ _ _ _ _) ?_)
      have HRZ := Lib.hid (show BxC (W0.setRow P (Dl.zero.arr (.slice none 0 0) (.slice none 0 0))) P (Dl.zero.arr (.slice none 0 0) (.slice none 0 0)) 27 from setRow_heap _ _ _ (Dl.zero.arr (.slice none 0 0) (.slice none 0 0)) _ _ HRB.out)
      have HBZ := Lib.hid (below_setRow HBB.out (g := P) (Nat.le_refl _) (Dl.zero.arr (.slice none 0 0) (.slice none 0 0)))
      go_wp2
      have y0 : (W0.setRow P (Dl.zero.arr (.slice none 0 0) (.slice none 0 0))).cell? ⟨P, 0, none⟩ = some (.int .i64 0) := HRZ.out.cell 0
      have y1 : (W0.setRow P (Dl.zero.arr (.slice none 0 0) (.slice none 0 0))).cell? ⟨P, 1, none⟩ = some (.int .i64 0) := HRZ.out.cell 1
      have y2 : (W0.setRow P (Dl.zero.arr (.slice none 0 0) (.slice none 0 0))).cell? ⟨P, 2, none⟩ = some (.slice none 0 0) := HRZ.out.cell 2
      have y3 : (W0.setRow P (Dl.zero.arr (.slice none 0 0) (.slice none 0 0))).cell? ⟨P, 3, none⟩ = some (.slice none 0 0) := HRZ.out.cell 3
      have y4 : (W0.setRow P (Dl.zero.arr (.slice none 0 0) (.slice none 0 0))).cell? ⟨P, 4, none⟩ = some (.string ⟨#[]⟩) := HRZ.out.cell 4
      have y5 : (W0.setRow P (Dl.zero.arr (.slice none 0 0) (.slice none 0 0))).cell? ⟨P, 5, none⟩ = some (.string ⟨#[]⟩) := HRZ.out.cell 5
      have y6 : (W0.setRow P (Dl.zero.arr (.slice none 0 0) (.slice none 0 0))).cell? ⟨P, 6, none⟩ = some (.string ⟨#[]⟩) := HRZ.out.cell 6
      have y7 : (W0.setRow P (Dl.zero.arr (.slice none 0 0) (.slice none 0 0))).cell? ⟨P, 7, none⟩ = some (.string ⟨#[]⟩) := HRZ.out.cell 7
      exact bodyPost_ret (v := .tuple #[.agg #[.int .i64 0, .int .i64 0, .slice none 0 0, .slice none 0 0, .string ⟨#[]⟩, .string ⟨#[]⟩, .string ⟨#[]⟩, .string ⟨#[]⟩], .int .i64 2]) (by simp [results, Try.results15, go_sem, y0, y1, y2, y3, y4, y5, y6, y7]) rfl ⟨none, 0, 0, none, 0, 0, by rw [HJ.out]; rfl, by rw [HJ.out]; exact SlN.nil _ _ (by omega) _, by rw [HJ.out]; exact SlN.nil _ _ (by omega) _, by rw [HPE.out]; exact HBZ.out⟩
    · have g2 : decide (t ≤ f) = false := decide_eq_false h2
      by_cases h3 : (n : Int) < t
      · have g3 : decide ((n : Int) < t) = true := decide_eq_true h3
        have HJ := Lib.hid (show bt l f t = (Dl.zero, 2) from if_pos (.inr (.inr (by rw [HLEN.out]; exact h3))))
        have HRB := Lib.hid HR0.out
        have HBB := Lib.hid HB0.out
        go_wp2_with (refine wpList_store_rowTo rfl 27 _ _ rfl rfl P (Dl.zero.arr (.slice none 0 0) (.slice none 0 0)) rfl rfl 27 (Dl.zero.arr (.slice none 0 0) (.slice none 0 0)) HRB.out (by kernel_rfl) rfl (Dl.zero.one _ _ _ _ _ _) ?_)
        have HRZ := Lib.hid (show BxC (W0.setRow P (Dl.zero.arr (.slice none 0 0) (.slice none 0 0))) P (Dl.zero.arr (.slice none 0 0) (.slice none 0 0)) 27 from setRow_heap _ _ _ (Dl.zero.arr (.slice none 0 0) (.slice none 0 0)) _ _ HRB.out)
        have HBZ := Lib.hid (below_setRow HBB.out (g := P) (Nat.le_refl _) (Dl.zero.arr (.slice none 0 0) (.slice none 0 0)))
        go_wp2
        have y0 : (W0.setRow P (Dl.zero.arr (.slice none 0 0) (.slice none 0 0))).cell? ⟨P, 0, none⟩ = some (.int .i64 0) := HRZ.out.cell 0
        have y1 : (W0.setRow P (Dl.zero.arr (.slice none 0 0) (.slice none 0 0))).cell? ⟨P, 1, none⟩ = some (.int .i64 0) := HRZ.out.cell 1
        have y2 : (W0.setRow P (Dl.zero.arr (.slice none 0 0) (.slice none 0 0))).cell? ⟨P, 2, none⟩ = some (.slice none 0 0) := HRZ.out.cell 2
        have y3 : (W0.setRow P (Dl.zero.arr (.slice none 0 0) (.slice none 0 0))).cell? ⟨P, 3, none⟩ = some (.slice none 0 0) := HRZ.out.cell 3
        have y4 : (W0.setRow P (Dl.zero.arr (.slice none 0 0) (.slice none 0 0))).cell? ⟨P, 4, none⟩ = some (.string ⟨#[]⟩) := HRZ.out.cell 4
        have y5 : (W0.setRow P (Dl.zero.arr (.slice none 0 0) (.slice none 0 0))).cell? ⟨P, 5, none⟩ = some (.string ⟨#[]⟩) := HRZ.out.cell 5
        have y6 : (W0.setRow P (Dl.zero.arr (.slice none 0 0) (.slice none 0 0))).cell? ⟨P, 6, none⟩ = some (.string ⟨#[]⟩) := HRZ.out.cell 6
        have y7 : (W0.setRow P (Dl.zero.arr (.slice none 0 0) (.slice none 0 0))).cell? ⟨P, 7, none⟩ = some (.string ⟨#[]⟩) := HRZ.out.cell 7
        exact bodyPost_ret (v := .tuple #[.agg #[.int .i64 0, .int .i64 0, .slice none 0 0, .slice none 0 0, .string ⟨#[]⟩, .string ⟨#[]⟩, .string ⟨#[]⟩, .string ⟨#[]⟩], .int .i64 2]) (by simp [results, Try.results15, go_sem, y0, y1, y2, y3, y4, y5, y6, y7]) rfl ⟨none, 0, 0, none, 0, 0, by rw [HJ.out]; rfl, by rw [HJ.out]; exact SlN.nil _ _ (by omega) _, by rw [HJ.out]; exact SlN.nil _ _ (by omega) _, by rw [HPE.out]; exact HBZ.out⟩
      · obtain ⟨F, rfl⟩ : ∃ F : Nat, f = (F : Int) := ⟨f.toNat, by omega⟩
        obtain ⟨T, rfl⟩ : ∃ T : Nat, t = (T : Int) := ⟨t.toNat, by omega⟩
        have HBT := Lib.hid (show bt l F T = btw l F T from if_neg (by rw [HLEN.out]; omega))
        have hFT : F < T := by omega
        have hTn : T ≤ n := by omega
        have g3 : decide ((n : Int) < (T : Int)) = false := decide_eq_false h3
        have g3' : decide (n < T) = false := decide_eq_false (by omega)
        have g2' : decide (T ≤ F) = false := decide_eq_false (by omega)
        obtain ⟨d, he⟩ : ∃ d, l[F]? = some d := ⟨_, List.getElem?_eq_getElem (by rw [HLEN.out]; omega)⟩
        obtain ⟨b, o, rfl, A1, n1, c1, A2, n2, c2, hin⟩ := HSW.out.get he
        have HIN0 := Lib.hid hin
        have HIN := Lib.hid (hin.kept HB0.out (Nat.le_of_eq hP))
        have HE := Lib.hid he
        clear he hin h1 h2 h3
        have x0 : W0.cell? ⟨b, o + F * 8, none⟩ = some (.int .i64 d.fr) := HIN.out.cell 0 rfl
        have x1 : W0.cell? ⟨b, o + F * 8 + 1, none⟩ = some (.int .i64 d.to) := HIN.out.cell 1 rfl
        have x2 : W0.cell? ⟨b, o + F * 8 + 2, none⟩ = some (.slice A1 n1 c1) := HIN.out.cell 2 rfl
        have x3 : W0.cell? ⟨b, o + F * 8 + 3, none⟩ = some (.slice A2 n2 c2) := HIN.out.cell 3 rfl
        have x4 : W0.cell? ⟨b, o + F * 8 + 4, none⟩ = some (.string d.be) := HIN.out.cell 4 rfl
        have x5 : W0.cell? ⟨b, o + F * 8 + 5, none⟩ = some (.string d.af) := HIN.out.cell 5 rfl
        have x6 : W0.cell? ⟨b, o + F * 8 + 6, none⟩ = some (.string d.sc) := HIN.out.cell 6 rfl
        have x7 : W0.cell? ⟨b, o + F * 8 + 7, none⟩ = some (.string d.sr) := HIN.out.cell 7 rfl
        obtain ⟨B, hB⟩ : ∃ B, W0.heap.size = B := ⟨_, rfl⟩
        have HBP := Lib.hid (show B = P + 1 from by rw [← hB, HW0.out])
        have hbs : Below W0.heap.size W0 (W0.alloc (.cells #[.int .i64 d.fr, .int .i64 d.to, .slice A1 n1 c1, .slice A2 n2 c2, .string d.be, .string d.af, .string ⟨#[]⟩, .string ⟨#[]⟩] 27)) := (Below.refl _ _).alloc (Nat.le_refl _) _
        have hX : BxC (W0.alloc (.cells #[.int .i64 d.fr, .int .i64 d.to, .slice A1 n1 c1, .slice A2 n2 c2, .string d.be, .string d.af, .string ⟨#[]⟩, .string ⟨#[]⟩] 27)) B #[.int .i64 d.fr, .int .i64 d.to, .slice A1 n1 c1, .slice A2 n2 c2, .string d.be, .string d.af, .string ⟨#[]⟩, .string ⟨#[]⟩] 27 := by rw [← hB]; exact BxC.new _ _ _
        have hfd := HF.out d (List.mem_of_getElem? HE.out)
        have HSD := Lib.hid (strip_sz (HZ.out d (List.mem_of_getElem? HE.out)))
        have hn1 : n1 ≤ 20 := by have := hfd.ad.1; have := HIN.out.2.1.1; omega
        have hn2 : n2 ≤ 20 := by have := hfd.rm.1; have := HIN.out.2.2.1; omega
        have HS1 := Lib.hid (HIN.out.2.1.kept hbs (Nat.le_refl _))
        have HS2 := Lib.hid (HIN.out.2.2.kept hbs (Nat.le_refl _))
        have hRs := HR0.out.next hbs
        have HBs := Lib.hid (HB0.out.trans (hbs.mono (by have := HW0.out; omega)))
        have HF1 := Lib.hid (show Far A1 n1 P B from fun h0 ad he => by subst he; have := HIN0.out.2.1.lt h0; have := HBP.out; omega)
        have HF2 := Lib.hid (show Far A2 n2 P B from fun h0 ad he => by subst he; have := HIN0.out.2.2.lt h0; have := HBP.out; omega)
        by_cases hT : T = F + 1
        · have ht : ((T : Int) == (F : Int) + 1) = true := by simp only [beq_iff_eq]; omega
          have HM := Lib.hid (r37_Message d.strip A1 A2 n1 c1 n2 c2 (W0.alloc (.cells #[.int .i64 d.fr, .int .i64 d.to, .slice A1 n1 c1, .slice A2 n2 c2, .string d.be, .string d.af, .string ⟨#[]⟩, .string ⟨#[]⟩] 27)) HS1.out HS2.out (by omega) (by omega) HSD.out)
          have HX := Lib.hid hX
          have HRs := Lib.hid hRs
          have HTT := Lib.hid hT
          clear hX hRs hbs hfd hT
          go_wp2_with fail
          refine (show Calls _ _ _ _ _ from HM.out).mono ?_
          rintro e w1 ⟨rfl, hb⟩
          have HX1 := Lib.hid (HX.out.next hb)
          have HRB := Lib.hid (HRs.out.next hb)
          have HBB := Lib.hid (HBs.out.trans (hb.mono (by have := HRs.out.lt; omega)))
          have HS11 := Lib.hid (HS1.out.kept hb (Nat.le_refl _))
          have HS21 := Lib.hid (HS2.out.kept hb (Nat.le_refl _))
          obtain ⟨r1, e1, hr⟩ : ∃ r1 e1, d.strip.msg = (r1, e1) := ⟨_, _, rfl⟩
          rw [hr]
          clear hb x0 x1 x2 x3 x4 x5 x6 x7 HM
          by_cases he1 : e1 = 0
          · subst he1
            have HJ := Lib.hid (show bt l F T = (d.strip, 0) from by
              rw [HBT.out, btw, HE.out]
              dsimp only
              rw [if_neg (by rw [hr]; simp), HTT.out, Nat.sub_self, List.take_zero, foldJ])
            clear hr
            have hlt : decide ((F : Int) + 1 < (T : Int)) = false := decide_eq_false (by have := HTT.out; omega)
            have hlt' : decide (F + 1 < T) = false := decide_eq_false (by have := HTT.out; omega)
            have z0 : w1.cell? ⟨B, 0, none⟩ = some (.int .i64 d.fr) := BxC.cell HX1.out 0
            have z1 : w1.cell? ⟨B, 1, none⟩ = some (.int .i64 d.to) := BxC.cell HX1.out 1
            have z2 : w1.cell? ⟨B, 2, none⟩ = some (.slice A1 n1 c1) := BxC.cell HX1.out 2
            have z3 : w1.cell? ⟨B, 3, none⟩ = some (.slice A2 n2 c2) := BxC.cell HX1.out 3
            have z4 : w1.cell? ⟨B, 4, none⟩ = some (.string d.be) := BxC.cell HX1.out 4
            have z5 : w1.cell? ⟨B, 5, none⟩ = some (.string d.af) := BxC.cell HX1.out 5
            have z6 : w1.cell? ⟨B, 6, none⟩ = some (.string ⟨#[]⟩) := BxC.cell HX1.out 6
            have z7 : w1.cell? ⟨B, 7, none⟩ = some (.string ⟨#[]⟩) := BxC.cell HX1.out 7
            go_wp2
            refine wp_loop_rounds 1 ?_
            rw [rounds_succ]
            go_wp2_with (refine wpList_store_rowTo rfl 27 _ _ rfl rfl P #[.int .i64 d.fr, .int .i64 d.to, .slice A1 n1 c1, .slice A2 n2 c2, .string d.be, .string d.af, .string ⟨#[]⟩, .string ⟨#[]⟩] rfl rfl 27 (Dl.zero.arr (.slice none 0 0) (.slice none 0 0)) HRB.out (by kernel_rfl) rfl (by simp [Value.oneCell']) ?_)
            have HRZ := Lib.hid (show BxC (w1.setRow P #[.int .i64 d.fr, .int .i64 d.to, .slice A1 n1 c1, .slice A2 n2 c2, .string d.be, .string d.af, .string ⟨#[]⟩, .string ⟨#[]⟩]) P #[.int .i64 d.fr, .int .i64 d.to, .slice A1 n1 c1, .slice A2 n2 c2, .string d.be, .string d.af, .string ⟨#[]⟩, .string ⟨#[]⟩] 27 from setRow_heap _ _ _ _ _ _ HRB.out)
            have HBZ := Lib.hid (below_setRow HBB.out (g := P) (Nat.le_refl _) #[.int .i64 d.fr, .int .i64 d.to, .slice A1 n1 c1, .slice A2 n2 c2, .string d.be, .string d.af, .string ⟨#[]⟩, .string ⟨#[]⟩])
            go_wp2
            have y0 : (w1.setRow P #[.int .i64 d.fr, .int .i64 d.to, .slice A1 n1 c1, .slice A2 n2 c2, .string d.be, .string d.af, .string ⟨#[]⟩, .string ⟨#[]⟩]).cell? ⟨P, 0, none⟩ = some (.int .i64 d.fr) := HRZ.out.cell 0
            have y1 : (w1.setRow P #[.int .i64 d.fr, .int .i64 d.to, .slice A1 n1 c1, .slice A2 n2 c2, .string d.be, .string d.af, .string ⟨#[]⟩, .string ⟨#[]⟩]).cell? ⟨P, 1, none⟩ = some (.int .i64 d.to) := HRZ.out.cell 1
            have y2 : (w1.setRow P #[.int .i64 d.fr, .int .i64 d.to, .slice A1 n1 c1, .slice A2 n2 c2, .string d.be, .string d.af, .string ⟨#[]⟩, .string ⟨#[]⟩]).cell? ⟨P, 2, none⟩ = some (.slice A1 n1 c1) := HRZ.out.cell 2
            have y3 : (w1.setRow P #[.int .i64 d.fr, .int .i64 d.to, .slice A1 n1 c1, .slice A2 n2 c2, .string d.be, .string d.af, .string ⟨#[]⟩, .string ⟨#[]⟩]).cell? ⟨P, 3, none⟩ = some (.slice A2 n2 c2) := HRZ.out.cell 3
            have y4 : (w1.setRow P #[.int .i64 d.fr, .int .i64 d.to, .slice A1 n1 c1, .slice A2 n2 c2, .string d.be, .string d.af, .string ⟨#[]⟩, .string ⟨#[]⟩]).cell? ⟨P, 4, none⟩ = some (.string d.be) := HRZ.out.cell 4
            have y5 : (w1.setRow P #[.int .i64 d.fr, .int .i64 d.to, .slice A1 n1 c1, .slice A2 n2 c2, .string d.be, .string d.af, .string ⟨#[]⟩, .string ⟨#[]⟩]).cell? ⟨P, 5, none⟩ = some (.string d.af) := HRZ.out.cell 5
            have y6 : (w1.setRow P #[.int .i64 d.fr, .int .i64 d.to, .slice A1 n1 c1, .slice A2 n2 c2, .string d.be, .string d.af, .string ⟨#[]⟩, .string ⟨#[]⟩]).cell? ⟨P, 6, none⟩ = some (.string ⟨#[]⟩) := HRZ.out.cell 6
            have y7 : (w1.setRow P #[.int .i64 d.fr, .int .i64 d.to, .slice A1 n1 c1, .slice A2 n2 c2, .string d.be, .string d.af, .string ⟨#[]⟩, .string ⟨#[]⟩]).cell? ⟨P, 7, none⟩ = some (.string ⟨#[]⟩) := HRZ.out.cell 7
            exact bodyPost_ret (v := .tuple #[.agg #[.int .i64 d.fr, .int .i64 d.to, .slice A1 n1 c1, .slice A2 n2 c2, .string d.be, .string d.af, .string ⟨#[]⟩, .string ⟨#[]⟩], .int .i64 0]) (by simp [results, Try.results15, go_sem, y0, y1, y2, y3, y4, y5, y6, y7]) rfl ⟨A1, n1, c1, A2, n2, c2, by rw [HJ.out]; rfl, by rw [HJ.out]; exact HS11.out.of_blocks (fun h0 ad he => setRow_other _ _ _ _ (HF1.out h0 ad he).1), by rw [HJ.out]; exact HS21.out.of_blocks (fun h0 ad he => setRow_other _ _ _ _ (HF2.out h0 ad he).1), by rw [HPE.out]; exact HBZ.out⟩
          · have hd : (e1 != 0) = true := by simpa using he1
            have HJ := Lib.hid (show bt l F T = (Dl.zero, e1) from by
              rw [HBT.out, btw, HE.out]
              dsimp only
              rw [if_pos ⟨HTT.out, by rw [hr]; exact he1⟩, hr])
            clear hr
            go_wp2_with (refine wpList_store_rowTo rfl 27 _ _ rfl rfl P (Dl.zero.arr (.slice none 0 0) (.slice none 0 0)) rfl rfl 27 (Dl.zero.arr (.slice none 0 0) (.slice none 0 0)) HRB.out (by kernel_rfl) rfl (Dl.zero.one _ _ _ _ _ _) ?_)
            have HRZ := Lib.hid (show BxC (w1.setRow P (Dl.zero.arr (.slice none 0 0) (.slice none 0 0))) P (Dl.zero.arr (.slice none 0 0) (.slice none 0 0)) 27 from setRow_heap _ _ _ (Dl.zero.arr (.slice none 0 0) (.slice none 0 0)) _ _ HRB.out)
            have HBZ := Lib.hid (below_setRow HBB.out (g := P) (Nat.le_refl _) (Dl.zero.arr (.slice none 0 0) (.slice none 0 0)))
            go_wp2
            have y0 : (w1.setRow P (Dl.zero.arr (.slice none 0 0) (.slice none 0 0))).cell? ⟨P, 0, none⟩ = some (.int .i64 0) := HRZ.out.cell 0
            have y1 : (w1.setRow P (Dl.zero.arr (.slice none 0 0) (.slice none 0 0))).cell? ⟨P, 1, none⟩ = some (.int .i64 0) := HRZ.out.cell 1
            have y2 : (w1.setRow P (Dl.zero.arr (.slice none 0 0) (.slice none 0 0))).cell? ⟨P, 2, none⟩ = some (.slice none 0 0) := HRZ.out.cell 2
            have y3 : (w1.setRow P (Dl.zero.arr (.slice none 0 0) (.slice none 0 0))).cell? ⟨P, 3, none⟩ = some (.slice none 0 0) := HRZ.out.cell 3
            have y4 : (w1.setRow P (Dl.zero.arr (.slice none 0 0) (.slice none 0 0))).cell? ⟨P, 4, none⟩ = some (.string ⟨#[]⟩) := HRZ.out.cell 4
            have y5 : (w1.setRow P (Dl.zero.arr (.slice none 0 0) (.slice none 0 0))).cell? ⟨P, 5, none⟩ = some (.string ⟨#[]⟩) := HRZ.out.cell 5
            have y6 : (w1.setRow P (Dl.zero.arr (.slice none 0 0) (.slice none 0 0))).cell? ⟨P, 6, none⟩ = some (.string ⟨#[]⟩) := HRZ.out.cell 6
            have y7 : (w1.setRow P (Dl.zero.arr (.slice none 0 0) (.slice none 0 0))).cell? ⟨P, 7, none⟩ = some (.string ⟨#[]⟩) := HRZ.out.cell 7
            exact bodyPost_ret (v := .tuple #[.agg #[.int .i64 0, .int .i64 0, .slice none 0 0, .slice none 0 0, .string ⟨#[]⟩, .string ⟨#[]⟩, .string ⟨#[]⟩, .string ⟨#[]⟩], .int .i64 e1]) (by simp [results, Try.results15, go_sem, y0, y1, y2, y3, y4, y5, y6, y7]) rfl ⟨none, 0, 0, none, 0, 0, by rw [HJ.out]; rfl, by rw [HJ.out]; exact SlN.nil _ _ (by omega) _, by rw [HJ.out]; exact SlN.nil _ _ (by omega) _, by rw [HPE.out]; exact HBZ.out⟩
        · have ht : ((T : Int) == (F : Int) + 1) = false := by simp only [beq_eq_false_iff_ne]; omega
          have ht' : (T == F + 1) = false := by simp only [beq_eq_false_iff_ne]; omega
          have HBR := Lib.hid (show bt l F T = foldJ d.strip ((l.drop (F + 1)).take (T - (F + 1))) from by
            rw [HBT.out, btw, HE.out]
            dsimp only
            rw [if_neg (fun h => hT h.1)])
          have HX := Lib.hid hX
          have HRs := Lib.hid hRs
          clear hX hRs hbs hfd hT
          go_wp2
          clear ht ht' x0 x1 x2 x3 x4 x5 x6 x7
          go_loopw [11] (fun k wr => ∃ (i : Nat) (D : Dl) (A5 : Option Addr) (n5 c5 : Nat) (A6 : Option Addr) (n6 c6 : Nat), F + 1 ≤ i ∧ i ≤ T ∧ k = .int .i64 i ∧ BxC wr B #[.int .i64 D.fr, .int .i64 D.to, .slice A5 n5 c5, .slice A6 n6 c6, .string D.be, .string D.af, .string D.sc, .string D.sr] 27 ∧ SlN wr A5 n5 c5 D.ad ∧ SlN wr A6 n6 c6 D.rm ∧ Far A5 n5 P B ∧ Far A6 n6 P B ∧ n5 ≤ 20 * i ∧ n6 ≤ 20 * i ∧ SzL D.str ∧ foldJ D ((l.drop i).take (T - i)) = bt l F T ∧ BxC wr P (Dl.zero.arr (.slice none 0 0) (.slice none 0 0)) 27 ∧ Below P w wr) (fun k _ => T - (intOf k).toNat)
          case atStart => exact ⟨F + 1, d.strip, A1, n1, c1, A2, n2, c2, Nat.le_refl _, hFT, by go_num, HX.out, HS1.out, HS2.out, HF1.out, HF2.out, by omega, by omega, HSD.out, HBR.out.symm, HRs.out, HBs.out⟩
          case round =>
            obtain ⟨i, D, A5, n5, c5, A6, n6, c6, hi1, hi2, rfl, hbx, hs5, hs6, hf5, hf6, hn5, hn6, hsz, hfo, hrz, hbb⟩ := hrel
            have HX5 := Lib.hid hbx
            have HS5 := Lib.hid hs5
            have HS6 := Lib.hid hs6
            have HF5 := Lib.hid hf5
            have HF6 := Lib.hid hf6
            have HZ5 := Lib.hid hsz
            have HFO := Lib.hid hfo
            have HRR := Lib.hid hrz
            have HBQ5 := Lib.hid hbb
            clear hbx hs5 hs6 hf5 hf6 hsz hfo hrz hbb
            by_cases hlt : i < T
            · obtain ⟨x, hx⟩ : ∃ x, l[i]? = some x := ⟨_, List.getElem?_eq_getElem (by rw [HLEN.out]; omega)⟩
              obtain ⟨b2, o2, he2, A3, n3, c3, A4, n4, c4, hin⟩ := HSW.out.get hx
              obtain ⟨rfl, rfl⟩ : b = b2 ∧ o = o2 := by simpa using he2
              have HIX := Lib.hid (hin.kept HBQ5.out (Nat.le_of_eq HPE.out))
              have HEX := Lib.hid hx
              have hfx := HF.out x (List.mem_of_getElem? hx)
              have hn3 : n3 ≤ 20 := by have := hfx.ad.1; have := hin.2.1.1; omega
              have hn4 : n4 ≤ 20 := by have := hfx.rm.1; have := hin.2.2.1; omega
              have HZX := Lib.hid (HZ.out x (List.mem_of_getElem? hx))
              have hin2 : i < n := by omega
              have HPL := Lib.hid HRR.out.lt
              have HBL := Lib.hid HX5.out.lt
              clear hx hin he2 hfx
              obtain ⟨D2, e2, hj⟩ : ∃ D2 e2, jn D x = (D2, e2) := ⟨_, _, rfl⟩
              have HJF := Lib.hid (show ∀ W, Below wr.drew.heap.size wr.drew W → Calls Try.prog 12 #[.agg #[.int .i64 D.fr, .int .i64 D.to, .slice A5 n5 c5, .slice A6 n6 c6, .string D.be, .string D.af, .string D.sc, .string D.sr], .agg #[.int .i64 x.fr, .int .i64 x.to, .slice A3 n3 c3, .slice A4 n4 c4, .string x.be, .string x.af, .string x.sc, .string x.sr]] W (RetDlF (D2, e2) W) from fun W hW => by
                have hb : Below wr.heap.size wr W := ((Below.refl wr.heap.size wr).drew).trans hW
                have := r37_JoinF D x A5 A6 A3 A4 n5 c5 n6 c6 n3 c3 n4 c4 W (HS5.out.kept hb (Nat.le_refl _)) (HS6.out.kept hb (Nat.le_refl _)) (HIX.out.2.1.kept hb (Nat.le_refl _)) (HIX.out.2.2.kept hb (Nat.le_refl _)) (by omega) (by omega) (by omega) (by omega) HZ5.out HZX.out
                rwa [hj] at this)
              have HJJ := Lib.hid hj
              clear hj
              have u0 : wr.drew.cell? ⟨B, 0, none⟩ = some (.int .i64 D.fr) := BxC.cell HX5.out 0
              have u1 : wr.drew.cell? ⟨B, 1, none⟩ = some (.int .i64 D.to) := BxC.cell HX5.out 1
              have u2 : wr.drew.cell? ⟨B, 2, none⟩ = some (.slice A5 n5 c5) := BxC.cell HX5.out 2
              have u3 : wr.drew.cell? ⟨B, 3, none⟩ = some (.slice A6 n6 c6) := BxC.cell HX5.out 3
              have u4 : wr.drew.cell? ⟨B, 4, none⟩ = some (.string D.be) := BxC.cell HX5.out 4
              have u5 : wr.drew.cell? ⟨B, 5, none⟩ = some (.string D.af) := BxC.cell HX5.out 5
              have u6 : wr.drew.cell? ⟨B, 6, none⟩ = some (.string D.sc) := BxC.cell HX5.out 6
              have u7 : wr.drew.cell? ⟨B, 7, none⟩ = some (.string D.sr) := BxC.cell HX5.out 7
              have v0 : wr.drew.cell? ⟨b, o + i * 8, none⟩ = some (.int .i64 x.fr) := HIX.out.cell 0 rfl
              have v1 : wr.drew.cell? ⟨b, o + i * 8 + 1, none⟩ = some (.int .i64 x.to) := HIX.out.cell 1 rfl
              have v2 : wr.drew.cell? ⟨b, o + i * 8 + 2, none⟩ = some (.slice A3 n3 c3) := HIX.out.cell 2 rfl
              have v3 : wr.drew.cell? ⟨b, o + i * 8 + 3, none⟩ = some (.slice A4 n4 c4) := HIX.out.cell 3 rfl
              have v4 : wr.drew.cell? ⟨b, o + i * 8 + 4, none⟩ = some (.string x.be) := HIX.out.cell 4 rfl
              have v5 : wr.drew.cell? ⟨b, o + i * 8 + 5, none⟩ = some (.string x.af) := HIX.out.cell 5 rfl
              have v6 : wr.drew.cell? ⟨b, o + i * 8 + 6, none⟩ = some (.string x.sc) := HIX.out.cell 6 rfl
              have v7 : wr.drew.cell? ⟨b, o + i * 8 + 7, none⟩ = some (.string x.sr) := HIX.out.cell 7 rfl
              go_wp2
              have HN := True.intro
              have HS7 := True.intro
              refine wp_region_K 12 (Below (wr.drew).heap.size (wr.drew)) (by kernel_rfl) ?_
              intro hD
              refine wpAnyK_takeSD (i := 0) (d := some 55) (v := ?v12_0b1) (fuel := 11) rfl (by kernel_rfl) (by kernel_rfl) (by kernel_rfl) (fun _ _ _ h => h) hD (Below.refl _ _) (.inl ⟨by kernel_rfl, ?y12_0b1⟩) ?n12_0b1
              case y12_0b1 => intro w' hS'; have e0 := cell_kept hS' (Nat.le_refl _) u0; have e1 := cell_kept hS' (Nat.le_refl _) u1; have e2 := cell_kept hS' (Nat.le_refl _) u2; have e3 := cell_kept hS' (Nat.le_refl _) u3; have e4 := cell_kept hS' (Nat.le_refl _) u4; have e5 := cell_kept hS' (Nat.le_refl _) u5; have e6 := cell_kept hS' (Nat.le_refl _) u6; have e7 := cell_kept hS' (Nat.le_refl _) u7; have e8 := cell_kept hS' (Nat.le_refl _) v0; have e9 := cell_kept hS' (Nat.le_refl _) v1; have e10 := cell_kept hS' (Nat.le_refl _) v2; have e11 := cell_kept hS' (Nat.le_refl _) v3; have e12 := cell_kept hS' (Nat.le_refl _) v4; have e13 := cell_kept hS' (Nat.le_refl _) v5; have e14 := cell_kept hS' (Nat.le_refl _) v6; have e15 := cell_kept hS' (Nat.le_refl _) v7; go_simp; with_reducible rfl
              clear hD; intro hD
              simp only [Act.put, List.setIfInBounds_toArray, List.set_cons_zero, List.set_cons_succ]
              refine wpAnyK_pureD (i := 1) (d := some 56) (v := ?v12_1b1) (fuel := 10) rfl (by kernel_rfl) (by kernel_rfl) (fun _ _ _ h => h) hD (Below.refl _ _) (.inl ⟨by kernel_rfl, ?y12_1b1⟩) ?n12_1b1
              case y12_1b1 => intro w' _; go_simp; with_reducible rfl
              clear hD; intro hD
              simp only [Act.put, List.setIfInBounds_toArray, List.set_cons_zero, List.set_cons_succ]
              refine wpAnyK_pureD (i := 2) (d := some 57) (v := ?v12_2b1) (fuel := 9) rfl (by kernel_rfl) (by kernel_rfl) (fun _ _ _ h => h) hD (Below.refl _ _) (.inl ⟨by kernel_rfl, ?y12_2b1⟩) ?n12_2b1
              case y12_2b1 => intro w' _; go_simp; with_reducible rfl
              clear hD; intro hD
              simp only [Act.put, List.setIfInBounds_toArray, List.set_cons_zero, List.set_cons_succ]
              refine wpAnyK_pureD (i := 3) (d := some 58) (v := ?v12_3b1) (fuel := 8) rfl (by kernel_rfl) (by kernel_rfl) (fun _ _ _ h => h) hD (Below.refl _ _) (.inl ⟨by kernel_rfl, ?y12_3b1⟩) ?n12_3b1
              case y12_3b1 => intro w' _; go_simp; with_reducible rfl
              clear hD; intro hD
              simp only [Act.put, List.setIfInBounds_toArray, List.set_cons_zero, List.set_cons_succ]
              refine wpAnyK_takeSD (i := 4) (d := some 59) (v := ?v12_4b1) (fuel := 7) rfl (by kernel_rfl) (by kernel_rfl) (by kernel_rfl) (fun _ _ _ h => h) hD (Below.refl _ _) (.inl ⟨by kernel_rfl, ?y12_4b1⟩) ?n12_4b1
              case y12_4b1 => intro w' hS'; have e0 := cell_kept hS' (Nat.le_refl _) u0; have e1 := cell_kept hS' (Nat.le_refl _) u1; have e2 := cell_kept hS' (Nat.le_refl _) u2; have e3 := cell_kept hS' (Nat.le_refl _) u3; have e4 := cell_kept hS' (Nat.le_refl _) u4; have e5 := cell_kept hS' (Nat.le_refl _) u5; have e6 := cell_kept hS' (Nat.le_refl _) u6; have e7 := cell_kept hS' (Nat.le_refl _) u7; have e8 := cell_kept hS' (Nat.le_refl _) v0; have e9 := cell_kept hS' (Nat.le_refl _) v1; have e10 := cell_kept hS' (Nat.le_refl _) v2; have e11 := cell_kept hS' (Nat.le_refl _) v3; have e12 := cell_kept hS' (Nat.le_refl _) v4; have e13 := cell_kept hS' (Nat.le_refl _) v5; have e14 := cell_kept hS' (Nat.le_refl _) v6; have e15 := cell_kept hS' (Nat.le_refl _) v7; go_simp; with_reducible rfl
              clear hD; intro hD
              simp only [Act.put, List.setIfInBounds_toArray, List.set_cons_zero, List.set_cons_succ]
              refine wpAnyK_two (i := 5) (i' := 9) (fuel := 6) (by kernel_rfl) rfl rfl hD ?_ ?_ 
              · unfold StepK
                clear hD; intro K5 hK5
                go_wp2_with fail
                refine (HJF.out _ (Below.refl _ _)).mono ?_
                rintro e wc ⟨A7, n7, c7, A8, n8, c8, rfl, hs7, hs8, hf7, hf8, hb⟩
                rw [show (D2, e2).1.arr (.slice A7 n7 c7) (.slice A8 n8 c8) = #[.int .i64 D2.fr, .int .i64 D2.to, .slice A7 n7 c7, .slice A8 n8 c8, .string D2.be, .string D2.af, .string D2.sc, .string D2.sr] from rfl, show (D2, e2).2 = e2 from rfl]
                have HG7 := Lib.hid (show 0 < n7 → ∀ ad, A7 = some ad → wr.heap.size ≤ ad.block from fun h0 ad he => Nat.le_trans (show wr.drew.heap.size ≤ _ from Below.size (show Below wr.drew.heap.size wr.drew _ from (Below.refl _ _))) (hf7 h0 ad he))
                have HG8 := Lib.hid (show 0 < n8 → ∀ ad, A8 = some ad → wr.heap.size ≤ ad.block from fun h0 ad he => Nat.le_trans (show wr.drew.heap.size ≤ _ from Below.size (show Below wr.drew.heap.size wr.drew _ from (Below.refl _ _))) (hf8 h0 ad he))
                try (have HNE := Lib.hid (show (0 < n7 → ∀ ad, A7 = some ad → ad.block ≠ B12) ∧ (0 < n8 → ∀ ad, A8 = some ad → ad.block ≠ B12) from ⟨fun h0 ad he => by have := hf7 h0 ad he; have := HN.out.lt; omega, fun h0 ad he => by have := hf8 h0 ad he; have := HN.out.lt; omega⟩))
                try (have HN := Lib.hid (HN.out.next hb))
                have HS7 := Lib.hid hs7
                have HS8 := Lib.hid hs8
                have HB5 := Lib.hid hb
                clear hb hs7 hs8 hf7 hf8
                go_wp2
                refine hK5 _ _ (by exact HB5.out) ?_; clear hK5; intro hS_12_5 hD
                refine wpAnyK_pureD (i := 6) (d := some 54) (v := ?v12_6_5b1) (fuel := 5) rfl (by kernel_rfl) (by kernel_rfl) (fun _ _ _ h => h) hD hS_12_5 (.inl ⟨by kernel_rfl, ?y12_6_5b1⟩) ?n12_6_5b1
                case y12_6_5b1 => intro w' _; go_simp; with_reducible rfl
                clear hD; intro hD
                simp only [Act.put, List.setIfInBounds_toArray, List.set_cons_zero, List.set_cons_succ]
                refine wpAnyK_pureD (i := 7) (d := some 61) (v := ?v12_7_5b1) (fuel := 4) rfl (by kernel_rfl) (by kernel_rfl) (fun _ _ _ h => h) hD hS_12_5 (.inl ⟨by kernel_rfl, ?y12_7_5b1⟩) ?n12_7_5b1
                case y12_7_5b1 => intro w' _; go_simp; with_reducible rfl
                clear hD; intro hD
                simp only [Act.put, List.setIfInBounds_toArray, List.set_cons_zero, List.set_cons_succ]
                refine wpAnyK_pureD (i := 8) (d := some 62) (v := ?v12_8_5b1) (fuel := 3) rfl (by kernel_rfl) (by kernel_rfl) (fun _ _ _ h => h) hD hS_12_5 (.inl ⟨by kernel_rfl, ?y12_8_5b1⟩) ?n12_8_5b1
                case y12_8_5b1 => intro w' _; go_simp; with_reducible rfl
                clear hD; intro hD
                simp only [Act.put, List.setIfInBounds_toArray, List.set_cons_zero, List.set_cons_succ]
                refine wpAnyK_one (i := 9) (fuel := 2) (by kernel_rfl) rfl hD ?_
                clear hD; intro K9 hK9
                refine wpList_alloc_dl rfl (some 12) rfl (fun _ => by kernel_rfl) ?_
                intro B12 wn hB12 hz hb
                try (have HNE := Lib.hid (show (0 < n7 → ∀ ad, A7 = some ad → ad.block ≠ B12) ∧ (0 < n8 → ∀ ad, A8 = some ad → ad.block ≠ B12) from ⟨fun h0 ad he => by subst he; have := HS7.out.lt h0; omega, fun h0 ad he => by subst he; have := HS8.out.lt h0; omega⟩))
                try (have HS7 := Lib.hid (HS7.out.kept hb (Nat.le_refl _)))
                try (have HS8 := Lib.hid (HS8.out.kept hb (Nat.le_refl _)))
                have HN := Lib.hid hz
                have HB9 := Lib.hid hb
                have HGE := Lib.hid (show wr.heap.size ≤ B12 from by rw [hB12]; exact show wr.drew.heap.size ≤ _ from Below.size (show Below wr.drew.heap.size wr.drew _ from hS_12_5))
                clear hB12 hz hb
                go_wp2
                refine hK9 _ _ (by first | exact Below.trans hS_12_5 (Below.mono HB9.out (Below.size (show Below wr.drew.heap.size wr.drew _ from hS_12_5))) | exact HB9.out) ?_; clear hK9; intro hS_12_9_5 hD
                refine wpAnyK_one (i := 10) (fuel := 1) (by kernel_rfl) rfl hD ?_
                clear hD; intro K10 hK10
                refine wpList_store_rowTo rfl 27 _ _ rfl rfl B12 #[.int .i64 D2.fr, .int .i64 D2.to, .slice A7 n7 c7, .slice A8 n8 c8, .string D2.be, .string D2.af, .string D2.sc, .string D2.sr] rfl rfl 27 itD HN.out (by kernel_rfl) rfl (by simp [Value.oneCell']) ?_
                refine wpList_name ?_
                intro wE hwE
                have HL10 := Lib.hid (show Below wr.drew.heap.size wr.drew wE from by rw [hwE]; exact below_setRow hS_12_9_5 HGE.out #[.int .i64 D2.fr, .int .i64 D2.to, .slice A7 n7 c7, .slice A8 n8 c8, .string D2.be, .string D2.af, .string D2.sc, .string D2.sr])
                have HS7 := Lib.hid (show SlN wE A7 n7 c7 D2.ad from HS7.out.of_blocks (fun h0 ad he => by rw [hwE]; exact setRow_other _ _ _ _ (HNE.out.1 h0 ad he)))
                have HS8 := Lib.hid (show SlN wE A8 n8 c8 D2.rm from HS8.out.of_blocks (fun h0 ad he => by rw [hwE]; exact setRow_other _ _ _ _ (HNE.out.2 h0 ad he)))
                have HN := Lib.hid (show BxC wE B12 #[.int .i64 D2.fr, .int .i64 D2.to, .slice A7 n7 c7, .slice A8 n8 c8, .string D2.be, .string D2.af, .string D2.sc, .string D2.sr] 27 from by rw [hwE]; exact setRow_heap _ _ _ _ _ _ HN.out)
                clear hwE
                go_wp2
                refine hK10 _ _ (by exact HL10.out) ?_; clear hK10; intro hS_12_10_5 hD
                refine wpAnyK_one (i := 11) (fuel := 0) (by kernel_rfl) rfl hD ?_
                clear hD; intro K11 hK11
                go_wp2
                refine hK11 _ _ (by exact hS_12_10_5) ?_; clear hK11; intro hS_12_11_5 hD
                refine wpAnyK_done (by kernel_rfl) ?_ 0
                clear hD
                have HBE := Lib.hid (show Below wr.heap.size wr wE from ((Below.refl wr.heap.size wr).drew).trans HL10.out)
                have HXE := Lib.hid (HX5.out.next HBE.out)
                have HRB := Lib.hid (HRR.out.next HBE.out)
                have HBB := Lib.hid (HBQ5.out.trans (HBE.out.mono (by have := HPL.out; omega)))
                clear u0 u1 u2 u3 u4 u5 u6 u7 v0 v1 v2 v3 v4 v5 v6 v7
                by_cases he2 : e2 = 0
                · subst he2
                  have HFN := Lib.hid (show foldJ D2 ((l.drop (i + 1)).take (T - (i + 1))) = bt l F T from by
                    have h := foldJ_step HEX.out hlt (d := D) (congrArg Prod.snd HJJ.out)
                    rw [HJJ.out] at h
                    rw [← h]; exact HFO.out)
                  have hln := jn_len (a := D) (b := x)
                  have hzz := jn_sz HZ5.out HZX.out
                  rw [HJJ.out] at hln hzz
                  have HZZ := Lib.hid hzz
                  have q7 : n7 ≤ 20 * (i + 1) := by have := hln.1; have := HS7.out.1; have := HS5.out.1; have := HIX.out.2.1.1; simp only [] at *; omega
                  have q8 : n8 ≤ 20 * (i + 1) := by have := hln.2; have := HS8.out.1; have := HS6.out.1; have := HIX.out.2.2.1; simp only [] at *; omega
                  clear hln hzz
                  have k0 : wE.cell? ⟨B12, 0, none⟩ = some (.int .i64 D2.fr) := BxC.cell HN.out 0
                  have k1 : wE.cell? ⟨B12, 1, none⟩ = some (.int .i64 D2.to) := BxC.cell HN.out 1
                  have k2 : wE.cell? ⟨B12, 2, none⟩ = some (.slice A7 n7 c7) := BxC.cell HN.out 2
                  have k3 : wE.cell? ⟨B12, 3, none⟩ = some (.slice A8 n8 c8) := BxC.cell HN.out 3
                  have k4 : wE.cell? ⟨B12, 4, none⟩ = some (.string D2.be) := BxC.cell HN.out 4
                  have k5 : wE.cell? ⟨B12, 5, none⟩ = some (.string D2.af) := BxC.cell HN.out 5
                  have k6 : wE.cell? ⟨B12, 6, none⟩ = some (.string D2.sc) := BxC.cell HN.out 6
                  have k7 : wE.cell? ⟨B12, 7, none⟩ = some (.string D2.sr) := BxC.cell HN.out 7
                  go_wp2_with (refine wpList_store_rowTo rfl 27 _ _ rfl rfl B #[.int .i64 D2.fr, .int .i64 D2.to, .slice A7 n7 c7, .slice A8 n8 c8, .string D2.be, .string D2.af, .string D2.sc, .string D2.sr] rfl rfl 27 #[.int .i64 D.fr, .int .i64 D.to, .slice A5 n5 c5, .slice A6 n6 c6, .string D.be, .string D.af, .string D.sc, .string D.sr] HXE.out (by kernel_rfl) rfl (by simp [Value.oneCell']) ?_)
                  clear k0 k1 k2 k3 k4 k5 k6 k7
                  have HXN := Lib.hid (show BxC (wE.setRow B #[.int .i64 D2.fr, .int .i64 D2.to, .slice A7 n7 c7, .slice A8 n8 c8, .string D2.be, .string D2.af, .string D2.sc, .string D2.sr]) B #[.int .i64 D2.fr, .int .i64 D2.to, .slice A7 n7 c7, .slice A8 n8 c8, .string D2.be, .string D2.af, .string D2.sc, .string D2.sr] 27 from setRow_heap _ _ _ _ _ _ HXE.out)
                  have HSN7 := Lib.hid (show SlN (wE.setRow B #[.int .i64 D2.fr, .int .i64 D2.to, .slice A7 n7 c7, .slice A8 n8 c8, .string D2.be, .string D2.af, .string D2.sc, .string D2.sr]) A7 n7 c7 D2.ad from HS7.out.of_blocks (fun h0 ad he => setRow_other _ _ _ _ (by have := HG7.out h0 ad he; have := HBL.out; omega)))
                  have HSN8 := Lib.hid (show SlN (wE.setRow B #[.int .i64 D2.fr, .int .i64 D2.to, .slice A7 n7 c7, .slice A8 n8 c8, .string D2.be, .string D2.af, .string D2.sc, .string D2.sr]) A8 n8 c8 D2.rm from HS8.out.of_blocks (fun h0 ad he => setRow_other _ _ _ _ (by have := HG8.out h0 ad he; have := HBL.out; omega)))
                  have HRN := Lib.hid (show BxC (wE.setRow B #[.int .i64 D2.fr, .int .i64 D2.to, .slice A7 n7 c7, .slice A8 n8 c8, .string D2.be, .string D2.af, .string D2.sc, .string D2.sr]) P _ 27 from HRB.out.row (by have := HBP.out; omega))
                  have HBN := Lib.hid (below_setRow HBB.out (g := B) (by have := HBP.out; omega) #[.int .i64 D2.fr, .int .i64 D2.to, .slice A7 n7 c7, .slice A8 n8 c8, .string D2.be, .string D2.af, .string D2.sc, .string D2.sr])
                  go_roundw
                  case rel => exact ⟨i + 1, D2, A7, n7, c7, A8, n8, c8, by omega, hlt, by go_num, HXN.out, HSN7.out, HSN8.out, (fun h0 ad he => by have := HG7.out h0 ad he; have := HBL.out; have := HPL.out; omega), (fun h0 ad he => by have := HG8.out h0 ad he; have := HBL.out; have := HPL.out; omega), q7, q8, HZZ.out, HFN.out, HRN.out, HBN.out⟩
                  case measure => simp [intOf]; omega
                · have hd : (e2 != 0) = true := by simpa using he2
                  have HJ := Lib.hid (show bt l F T = (Dl.zero, e2) from by
                    have h := foldJ_err HEX.out hlt (d := D) (by rw [HJJ.out]; exact he2)
                    rw [HJJ.out] at h
                    rw [← h]; exact HFO.out.symm)
                  go_wp2_with (refine wpList_store_rowTo rfl 27 _ _ rfl rfl P (Dl.zero.arr (.slice none 0 0) (.slice none 0 0)) rfl rfl 27 (Dl.zero.arr (.slice none 0 0) (.slice none 0 0)) HRB.out (by kernel_rfl) rfl (Dl.zero.one _ _ _ _ _ _) ?_)
                  have HRZ := Lib.hid (show BxC (wE.setRow P (Dl.zero.arr (.slice none 0 0) (.slice none 0 0))) P (Dl.zero.arr (.slice none 0 0) (.slice none 0 0)) 27 from setRow_heap _ _ _ (Dl.zero.arr (.slice none 0 0) (.slice none 0 0)) _ _ HRB.out)
                  have HBZ := Lib.hid (below_setRow HBB.out (g := P) (Nat.le_refl _) (Dl.zero.arr (.slice none 0 0) (.slice none 0 0)))
                  go_wp2
                  have y0 : (wE.setRow P (Dl.zero.arr (.slice none 0 0) (.slice none 0 0))).cell? ⟨P, 0, none⟩ = some (.int .i64 0) := HRZ.out.cell 0
                  have y1 : (wE.setRow P (Dl.zero.arr (.slice none 0 0) (.slice none 0 0))).cell? ⟨P, 1, none⟩ = some (.int .i64 0) := HRZ.out.cell 1
                  have y2 : (wE.setRow P (Dl.zero.arr (.slice none 0 0) (.slice none 0 0))).cell? ⟨P, 2, none⟩ = some (.slice none 0 0) := HRZ.out.cell 2
                  have y3 : (wE.setRow P (Dl.zero.arr (.slice none 0 0) (.slice none 0 0))).cell? ⟨P, 3, none⟩ = some (.slice none 0 0) := HRZ.out.cell 3
                  have y4 : (wE.setRow P (Dl.zero.arr (.slice none 0 0) (.slice none 0 0))).cell? ⟨P, 4, none⟩ = some (.string ⟨#[]⟩) := HRZ.out.cell 4
                  have y5 : (wE.setRow P (Dl.zero.arr (.slice none 0 0) (.slice none 0 0))).cell? ⟨P, 5, none⟩ = some (.string ⟨#[]⟩) := HRZ.out.cell 5
                  have y6 : (wE.setRow P (Dl.zero.arr (.slice none 0 0) (.slice none 0 0))).cell? ⟨P, 6, none⟩ = some (.string ⟨#[]⟩) := HRZ.out.cell 6
                  have y7 : (wE.setRow P (Dl.zero.arr (.slice none 0 0) (.slice none 0 0))).cell? ⟨P, 7, none⟩ = some (.string ⟨#[]⟩) := HRZ.out.cell 7
                  exact bodyPost_ret (v := .tuple #[.agg #[.int .i64 0, .int .i64 0, .slice none 0 0, .slice none 0 0, .string ⟨#[]⟩, .string ⟨#[]⟩, .string ⟨#[]⟩, .string ⟨#[]⟩], .int .i64 e2]) (by simp [results, Try.results15, go_sem, y0, y1, y2, y3, y4, y5, y6, y7]) rfl ⟨none, 0, 0, none, 0, 0, by rw [HJ.out]; rfl, by rw [HJ.out]; exact SlN.nil _ _ (by omega) _, by rw [HJ.out]; exact SlN.nil _ _ (by omega) _, by rw [HPE.out]; exact HBZ.out⟩
              · unfold StepK
                clear hD; intro K9 hK9
                refine wpList_alloc_dl rfl (some 12) rfl (fun _ => by kernel_rfl) ?_
                intro B12 wn hB12 hz hb
                try (have HNE := Lib.hid (show (0 < n7 → ∀ ad, A7 = some ad → ad.block ≠ B12) ∧ (0 < n8 → ∀ ad, A8 = some ad → ad.block ≠ B12) from ⟨fun h0 ad he => by subst he; have := HS7.out.lt h0; omega, fun h0 ad he => by subst he; have := HS8.out.lt h0; omega⟩))
                try (have HS7 := Lib.hid (HS7.out.kept hb (Nat.le_refl _)))
                try (have HS8 := Lib.hid (HS8.out.kept hb (Nat.le_refl _)))
                have HN := Lib.hid hz
                have HB9 := Lib.hid hb
                have HGE := Lib.hid (show wr.heap.size ≤ B12 from by rw [hB12]; exact show wr.drew.heap.size ≤ _ from Below.size (show Below wr.drew.heap.size wr.drew _ from (Below.refl _ _)))
                clear hB12 hz hb
                go_wp2
                refine hK9 _ _ (by first | exact Below.trans (Below.refl _ _) (Below.mono HB9.out (Below.size (show Below wr.drew.heap.size wr.drew _ from (Below.refl _ _)))) | exact HB9.out) ?_; clear hK9; intro hS_12_9 hD
                refine wpAnyK_one (i := 5) (fuel := 5) (by kernel_rfl) rfl hD ?_
                clear hD; intro K5 hK5
                go_wp2_with fail
                refine (HJF.out _ hS_12_9).mono ?_
                rintro e wc ⟨A7, n7, c7, A8, n8, c8, rfl, hs7, hs8, hf7, hf8, hb⟩
                rw [show (D2, e2).1.arr (.slice A7 n7 c7) (.slice A8 n8 c8) = #[.int .i64 D2.fr, .int .i64 D2.to, .slice A7 n7 c7, .slice A8 n8 c8, .string D2.be, .string D2.af, .string D2.sc, .string D2.sr] from rfl, show (D2, e2).2 = e2 from rfl]
                have HG7 := Lib.hid (show 0 < n7 → ∀ ad, A7 = some ad → wr.heap.size ≤ ad.block from fun h0 ad he => Nat.le_trans (show wr.drew.heap.size ≤ _ from Below.size (show Below wr.drew.heap.size wr.drew _ from hS_12_9)) (hf7 h0 ad he))
                have HG8 := Lib.hid (show 0 < n8 → ∀ ad, A8 = some ad → wr.heap.size ≤ ad.block from fun h0 ad he => Nat.le_trans (show wr.drew.heap.size ≤ _ from Below.size (show Below wr.drew.heap.size wr.drew _ from hS_12_9)) (hf8 h0 ad he))
                try (have HNE := Lib.hid (show (0 < n7 → ∀ ad, A7 = some ad → ad.block ≠ B12) ∧ (0 < n8 → ∀ ad, A8 = some ad → ad.block ≠ B12) from ⟨fun h0 ad he => by have := hf7 h0 ad he; have := HN.out.lt; omega, fun h0 ad he => by have := hf8 h0 ad he; have := HN.out.lt; omega⟩))
                try (have HN := Lib.hid (HN.out.next hb))
                have HS7 := Lib.hid hs7
                have HS8 := Lib.hid hs8
                have HB5 := Lib.hid hb
                clear hb hs7 hs8 hf7 hf8
                go_wp2
                refine hK5 _ _ (by exact Below.trans hS_12_9 (Below.mono HB5.out (Below.size hS_12_9))) ?_; clear hK5; intro hS_12_5_9 hD
                refine wpAnyK_pureD (i := 6) (d := some 54) (v := ?v12_6_9b1) (fuel := 4) rfl (by kernel_rfl) (by kernel_rfl) (fun _ _ _ h => h) hD hS_12_5_9 (.inl ⟨by kernel_rfl, ?y12_6_9b1⟩) ?n12_6_9b1
                case y12_6_9b1 => intro w' _; go_simp; with_reducible rfl
                clear hD; intro hD
                simp only [Act.put, List.setIfInBounds_toArray, List.set_cons_zero, List.set_cons_succ]
                refine wpAnyK_pureD (i := 7) (d := some 61) (v := ?v12_7_9b1) (fuel := 3) rfl (by kernel_rfl) (by kernel_rfl) (fun _ _ _ h => h) hD hS_12_5_9 (.inl ⟨by kernel_rfl, ?y12_7_9b1⟩) ?n12_7_9b1
                case y12_7_9b1 => intro w' _; go_simp; with_reducible rfl
                clear hD; intro hD
                simp only [Act.put, List.setIfInBounds_toArray, List.set_cons_zero, List.set_cons_succ]
                refine wpAnyK_pureD (i := 8) (d := some 62) (v := ?v12_8_9b1) (fuel := 2) rfl (by kernel_rfl) (by kernel_rfl) (fun _ _ _ h => h) hD hS_12_5_9 (.inl ⟨by kernel_rfl, ?y12_8_9b1⟩) ?n12_8_9b1
                case y12_8_9b1 => intro w' _; go_simp; with_reducible rfl
                clear hD; intro hD
                simp only [Act.put, List.setIfInBounds_toArray, List.set_cons_zero, List.set_cons_succ]
                refine wpAnyK_one (i := 10) (fuel := 1) (by kernel_rfl) rfl hD ?_
                clear hD; intro K10 hK10
                refine wpList_store_rowTo rfl 27 _ _ rfl rfl B12 #[.int .i64 D2.fr, .int .i64 D2.to, .slice A7 n7 c7, .slice A8 n8 c8, .string D2.be, .string D2.af, .string D2.sc, .string D2.sr] rfl rfl 27 itD HN.out (by kernel_rfl) rfl (by simp [Value.oneCell']) ?_
                refine wpList_name ?_
                intro wE hwE
                have HL10 := Lib.hid (show Below wr.drew.heap.size wr.drew wE from by rw [hwE]; exact below_setRow hS_12_5_9 HGE.out #[.int .i64 D2.fr, .int .i64 D2.to, .slice A7 n7 c7, .slice A8 n8 c8, .string D2.be, .string D2.af, .string D2.sc, .string D2.sr])
                have HS7 := Lib.hid (show SlN wE A7 n7 c7 D2.ad from HS7.out.of_blocks (fun h0 ad he => by rw [hwE]; exact setRow_other _ _ _ _ (HNE.out.1 h0 ad he)))
                have HS8 := Lib.hid (show SlN wE A8 n8 c8 D2.rm from HS8.out.of_blocks (fun h0 ad he => by rw [hwE]; exact setRow_other _ _ _ _ (HNE.out.2 h0 ad he)))
                have HN := Lib.hid (show BxC wE B12 #[.int .i64 D2.fr, .int .i64 D2.to, .slice A7 n7 c7, .slice A8 n8 c8, .string D2.be, .string D2.af, .string D2.sc, .string D2.sr] 27 from by rw [hwE]; exact setRow_heap _ _ _ _ _ _ HN.out)
                clear hwE
                go_wp2
                refine hK10 _ _ (by exact HL10.out) ?_; clear hK10; intro hS_12_10_9 hD
                refine wpAnyK_one (i := 11) (fuel := 0) (by kernel_rfl) rfl hD ?_
                clear hD; intro K11 hK11
                go_wp2
                refine hK11 _ _ (by exact hS_12_10_9) ?_; clear hK11; intro hS_12_11_9 hD
                refine wpAnyK_done (by kernel_rfl) ?_ 0
                clear hD
                have HBE := Lib.hid (show Below wr.heap.size wr wE from ((Below.refl wr.heap.size wr).drew).trans HL10.out)
                have HXE := Lib.hid (HX5.out.next HBE.out)
                have HRB := Lib.hid (HRR.out.next HBE.out)
                have HBB := Lib.hid (HBQ5.out.trans (HBE.out.mono (by have := HPL.out; omega)))
                clear u0 u1 u2 u3 u4 u5 u6 u7 v0 v1 v2 v3 v4 v5 v6 v7
                by_cases he2 : e2 = 0
                · subst he2
                  have HFN := Lib.hid (show foldJ D2 ((l.drop (i + 1)).take (T - (i + 1))) = bt l F T from by
                    have h := foldJ_step HEX.out hlt (d := D) (congrArg Prod.snd HJJ.out)
                    rw [HJJ.out] at h
                    rw [← h]; exact HFO.out)
                  have hln := jn_len (a := D) (b := x)
                  have hzz := jn_sz HZ5.out HZX.out
                  rw [HJJ.out] at hln hzz
                  have HZZ := Lib.hid hzz
                  have q7 : n7 ≤ 20 * (i + 1) := by have := hln.1; have := HS7.out.1; have := HS5.out.1; have := HIX.out.2.1.1; simp only [] at *; omega
                  have q8 : n8 ≤ 20 * (i + 1) := by have := hln.2; have := HS8.out.1; have := HS6.out.1; have := HIX.out.2.2.1; simp only [] at *; omega
                  clear hln hzz
                  have k0 : wE.cell? ⟨B12, 0, none⟩ = some (.int .i64 D2.fr) := BxC.cell HN.out 0
                  have k1 : wE.cell? ⟨B12, 1, none⟩ = some (.int .i64 D2.to) := BxC.cell HN.out 1
                  have k2 : wE.cell? ⟨B12, 2, none⟩ = some (.slice A7 n7 c7) := BxC.cell HN.out 2
                  have k3 : wE.cell? ⟨B12, 3, none⟩ = some (.slice A8 n8 c8) := BxC.cell HN.out 3
                  have k4 : wE.cell? ⟨B12, 4, none⟩ = some (.string D2.be) := BxC.cell HN.out 4
                  have k5 : wE.cell? ⟨B12, 5, none⟩ = some (.string D2.af) := BxC.cell HN.out 5
                  have k6 : wE.cell? ⟨B12, 6, none⟩ = some (.string D2.sc) := BxC.cell HN.out 6
                  have k7 : wE.cell? ⟨B12, 7, none⟩ = some (.string D2.sr) := BxC.cell HN.out 7
                  go_wp2_with (refine wpList_store_rowTo rfl 27 _ _ rfl rfl B #[.int .i64 D2.fr, .int .i64 D2.to, .slice A7 n7 c7, .slice A8 n8 c8, .string D2.be, .string D2.af, .string D2.sc, .string D2.sr] rfl rfl 27 #[.int .i64 D.fr, .int .i64 D.to, .slice A5 n5 c5, .slice A6 n6 c6, .string D.be, .string D.af, .string D.sc, .string D.sr] HXE.out (by kernel_rfl) rfl (by simp [Value.oneCell']) ?_)
                  clear k0 k1 k2 k3 k4 k5 k6 k7
                  have HXN := Lib.hid (show BxC (wE.setRow B #[.int .i64 D2.fr, .int .i64 D2.to, .slice A7 n7 c7, .slice A8 n8 c8, .string D2.be, .string D2.af, .string D2.sc, .string D2.sr]) B #[.int .i64 D2.fr, .int .i64 D2.to, .slice A7 n7 c7, .slice A8 n8 c8, .string D2.be, .string D2.af, .string D2.sc, .string D2.sr] 27 from setRow_heap _ _ _ _ _ _ HXE.out)
                  have HSN7 := Lib.hid (show SlN (wE.setRow B #[.int .i64 D2.fr, .int .i64 D2.to, .slice A7 n7 c7, .slice A8 n8 c8, .string D2.be, .string D2.af, .string D2.sc, .string D2.sr]) A7 n7 c7 D2.ad from HS7.out.of_blocks (fun h0 ad he => setRow_other _ _ _ _ (by have := HG7.out h0 ad he; have := HBL.out; omega)))
                  have HSN8 := Lib.hid (show SlN (wE.setRow B #[.int .i64 D2.fr, .int .i64 D2.to, .slice A7 n7 c7, .slice A8 n8 c8, .string D2.be, .string D2.af, .string D2.sc, .string D2.sr]) A8 n8 c8 D2.rm from HS8.out.of_blocks (fun h0 ad he => setRow_other _ _ _ _ (by have := HG8.out h0 ad he; have := HBL.out; omega)))
                  have HRN := Lib.hid (show BxC (wE.setRow B #[.int .i64 D2.fr, .int .i64 D2.to, .slice A7 n7 c7, .slice A8 n8 c8, .string D2.be, .string D2.af, .string D2.sc, .string D2.sr]) P _ 27 from HRB.out.row (by have := HBP.out; omega))
                  have HBN := Lib.hid (below_setRow HBB.out (g := B) (by have := HBP.out; omega) #[.int .i64 D2.fr, .int .i64 D2.to, .slice A7 n7 c7, .slice A8 n8 c8, .string D2.be, .string D2.af, .string D2.sc, .string D2.sr])
                  go_roundw
                  case rel => exact ⟨i + 1, D2, A7, n7, c7, A8, n8, c8, by omega, hlt, by go_num, HXN.out, HSN7.out, HSN8.out, (fun h0 ad he => by have := HG7.out h0 ad he; have := HBL.out; have := HPL.out; omega), (fun h0 ad he => by have := HG8.out h0 ad he; have := HBL.out; have := HPL.out; omega), q7, q8, HZZ.out, HFN.out, HRN.out, HBN.out⟩
                  case measure => simp [intOf]; omega
                · have hd : (e2 != 0) = true := by simpa using he2
                  have HJ := Lib.hid (show bt l F T = (Dl.zero, e2) from by
                    have h := foldJ_err HEX.out hlt (d := D) (by rw [HJJ.out]; exact he2)
                    rw [HJJ.out] at h
                    rw [← h]; exact HFO.out.symm)
                  go_wp2_with (refine wpList_store_rowTo rfl 27 _ _ rfl rfl P (Dl.zero.arr (.slice none 0 0) (.slice none 0 0)) rfl rfl 27 (Dl.zero.arr (.slice none 0 0) (.slice none 0 0)) HRB.out (by kernel_rfl) rfl (Dl.zero.one _ _ _ _ _ _) ?_)
                  have HRZ := Lib.hid (show BxC (wE.setRow P (Dl.zero.arr (.slice none 0 0) (.slice none 0 0))) P (Dl.zero.arr (.slice none 0 0) (.slice none 0 0)) 27 from setRow_heap _ _ _ (Dl.zero.arr (.slice none 0 0) (.slice none 0 0)) _ _ HRB.out)
                  have HBZ := Lib.hid (below_setRow HBB.out (g := P) (Nat.le_refl _) (Dl.zero.arr (.slice none 0 0) (.slice none 0 0)))
                  go_wp2
                  have y0 : (wE.setRow P (Dl.zero.arr (.slice none 0 0) (.slice none 0 0))).cell? ⟨P, 0, none⟩ = some (.int .i64 0) := HRZ.out.cell 0
                  have y1 : (wE.setRow P (Dl.zero.arr (.slice none 0 0) (.slice none 0 0))).cell? ⟨P, 1, none⟩ = some (.int .i64 0) := HRZ.out.cell 1
                  have y2 : (wE.setRow P (Dl.zero.arr (.slice none 0 0) (.slice none 0 0))).cell? ⟨P, 2, none⟩ = some (.slice none 0 0) := HRZ.out.cell 2
                  have y3 : (wE.setRow P (Dl.zero.arr (.slice none 0 0) (.slice none 0 0))).cell? ⟨P, 3, none⟩ = some (.slice none 0 0) := HRZ.out.cell 3
                  have y4 : (wE.setRow P (Dl.zero.arr (.slice none 0 0) (.slice none 0 0))).cell? ⟨P, 4, none⟩ = some (.string ⟨#[]⟩) := HRZ.out.cell 4
                  have y5 : (wE.setRow P (Dl.zero.arr (.slice none 0 0) (.slice none 0 0))).cell? ⟨P, 5, none⟩ = some (.string ⟨#[]⟩) := HRZ.out.cell 5
                  have y6 : (wE.setRow P (Dl.zero.arr (.slice none 0 0) (.slice none 0 0))).cell? ⟨P, 6, none⟩ = some (.string ⟨#[]⟩) := HRZ.out.cell 6
                  have y7 : (wE.setRow P (Dl.zero.arr (.slice none 0 0) (.slice none 0 0))).cell? ⟨P, 7, none⟩ = some (.string ⟨#[]⟩) := HRZ.out.cell 7
                  exact bodyPost_ret (v := .tuple #[.agg #[.int .i64 0, .int .i64 0, .slice none 0 0, .slice none 0 0, .string ⟨#[]⟩, .string ⟨#[]⟩, .string ⟨#[]⟩, .string ⟨#[]⟩], .int .i64 e2]) (by simp [results, Try.results15, go_sem, y0, y1, y2, y3, y4, y5, y6, y7]) rfl ⟨none, 0, 0, none, 0, 0, by rw [HJ.out]; rfl, by rw [HJ.out]; exact SlN.nil _ _ (by omega) _, by rw [HJ.out]; exact SlN.nil _ _ (by omega) _, by rw [HPE.out]; exact HBZ.out⟩
            · have hiT : T = i := by omega
              subst hiT
              have HJ := Lib.hid (show bt l F T = (D, 0) from by rw [← HFO.out]; exact foldJ_end D l T)
              have HRB := Lib.hid HRR.out
              have HBB := Lib.hid HBQ5.out
              clear hlt
              have z0 : wr.cell? ⟨B, 0, none⟩ = some (.int .i64 D.fr) := BxC.cell HX5.out 0
              have z1 : wr.cell? ⟨B, 1, none⟩ = some (.int .i64 D.to) := BxC.cell HX5.out 1
              have z2 : wr.cell? ⟨B, 2, none⟩ = some (.slice A5 n5 c5) := BxC.cell HX5.out 2
              have z3 : wr.cell? ⟨B, 3, none⟩ = some (.slice A6 n6 c6) := BxC.cell HX5.out 3
              have z4 : wr.cell? ⟨B, 4, none⟩ = some (.string D.be) := BxC.cell HX5.out 4
              have z5 : wr.cell? ⟨B, 5, none⟩ = some (.string D.af) := BxC.cell HX5.out 5
              have z6 : wr.cell? ⟨B, 6, none⟩ = some (.string D.sc) := BxC.cell HX5.out 6
              have z7 : wr.cell? ⟨B, 7, none⟩ = some (.string D.sr) := BxC.cell HX5.out 7
              go_wp2_with (refine wpList_store_rowTo rfl 27 _ _ rfl rfl P #[.int .i64 D.fr, .int .i64 D.to, .slice A5 n5 c5, .slice A6 n6 c6, .string D.be, .string D.af, .string D.sc, .string D.sr] rfl rfl 27 (Dl.zero.arr (.slice none 0 0) (.slice none 0 0)) HRB.out (by kernel_rfl) rfl (by simp [Value.oneCell']) ?_)
              have HRZ := Lib.hid (show BxC (wr.setRow P #[.int .i64 D.fr, .int .i64 D.to, .slice A5 n5 c5, .slice A6 n6 c6, .string D.be, .string D.af, .string D.sc, .string D.sr]) P #[.int .i64 D.fr, .int .i64 D.to, .slice A5 n5 c5, .slice A6 n6 c6, .string D.be, .string D.af, .string D.sc, .string D.sr] 27 from setRow_heap _ _ _ _ _ _ HRB.out)
              have HBZ := Lib.hid (below_setRow HBB.out (g := P) (Nat.le_refl _) #[.int .i64 D.fr, .int .i64 D.to, .slice A5 n5 c5, .slice A6 n6 c6, .string D.be, .string D.af, .string D.sc, .string D.sr])
              go_wp2
              have y0 : (wr.setRow P #[.int .i64 D.fr, .int .i64 D.to, .slice A5 n5 c5, .slice A6 n6 c6, .string D.be, .string D.af, .string D.sc, .string D.sr]).cell? ⟨P, 0, none⟩ = some (.int .i64 D.fr) := HRZ.out.cell 0
              have y1 : (wr.setRow P #[.int .i64 D.fr, .int .i64 D.to, .slice A5 n5 c5, .slice A6 n6 c6, .string D.be, .string D.af, .string D.sc, .string D.sr]).cell? ⟨P, 1, none⟩ = some (.int .i64 D.to) := HRZ.out.cell 1
              have y2 : (wr.setRow P #[.int .i64 D.fr, .int .i64 D.to, .slice A5 n5 c5, .slice A6 n6 c6, .string D.be, .string D.af, .string D.sc, .string D.sr]).cell? ⟨P, 2, none⟩ = some (.slice A5 n5 c5) := HRZ.out.cell 2
              have y3 : (wr.setRow P #[.int .i64 D.fr, .int .i64 D.to, .slice A5 n5 c5, .slice A6 n6 c6, .string D.be, .string D.af, .string D.sc, .string D.sr]).cell? ⟨P, 3, none⟩ = some (.slice A6 n6 c6) := HRZ.out.cell 3
              have y4 : (wr.setRow P #[.int .i64 D.fr, .int .i64 D.to, .slice A5 n5 c5, .slice A6 n6 c6, .string D.be, .string D.af, .string D.sc, .string D.sr]).cell? ⟨P, 4, none⟩ = some (.string D.be) := HRZ.out.cell 4
              have y5 : (wr.setRow P #[.int .i64 D.fr, .int .i64 D.to, .slice A5 n5 c5, .slice A6 n6 c6, .string D.be, .string D.af, .string D.sc, .string D.sr]).cell? ⟨P, 5, none⟩ = some (.string D.af) := HRZ.out.cell 5
              have y6 : (wr.setRow P #[.int .i64 D.fr, .int .i64 D.to, .slice A5 n5 c5, .slice A6 n6 c6, .string D.be, .string D.af, .string D.sc, .string D.sr]).cell? ⟨P, 6, none⟩ = some (.string D.sc) := HRZ.out.cell 6
              have y7 : (wr.setRow P #[.int .i64 D.fr, .int .i64 D.to, .slice A5 n5 c5, .slice A6 n6 c6, .string D.be, .string D.af, .string D.sc, .string D.sr]).cell? ⟨P, 7, none⟩ = some (.string D.sr) := HRZ.out.cell 7
              exact bodyPost_ret (v := .tuple #[.agg #[.int .i64 D.fr, .int .i64 D.to, .slice A5 n5 c5, .slice A6 n6 c6, .string D.be, .string D.af, .string D.sc, .string D.sr], .int .i64 0]) (by simp [results, Try.results15, go_sem, y0, y1, y2, y3, y4, y5, y6, y7]) rfl ⟨A5, n5, c5, A6, n6, c6, by rw [HJ.out]; rfl, by rw [HJ.out]; exact HS5.out.of_blocks (fun h0 ad he => setRow_other _ _ _ _ (HF5.out h0 ad he).1), by rw [HJ.out]; exact HS6.out.of_blocks (fun h0 ad he => setRow_other _ _ _ _ (HF6.out h0 ad he).1), by rw [HPE.out]; exact HBZ.out⟩
end Go.Proofs.Ytelhpdlegjgjjaa

import Derived.Test.YtehflcnjnnhojaaGreatQGh2
import Derived.Deep.MidRow
import Derived.Great.Walk
import Derived.Great.BuildSlice
import Derived.Deep.DeepCutAuto
set_option linter.unusedVariables false
set_option linter.unusedSimpArgs false
namespace Go.Proofs.YtehflcnjnnhojaaGreat
set_option maxRecDepth 100000
set_option maxHeartbeats 16000000
open Go.RowKit Go.Shelf
theorem below_setRow {B : Nat} {w w' : World} (h : Below B w w') {g : Nat} (hg : B ≤ g) (cs : Array Value) : Below B w (w'.setRow g cs) :=
 ⟨h.os, h.tape, h.output, by rw [size_setRow]; exact h.size, fun k hk => (setRow_other _ _ _ _ (by omega)).trans (h.block k hk)⟩
def itZ : Array Value := #[.int .i64 0, .string ⟨#[]⟩, .string ⟨#[]⟩, .slice none 0 0]
theorem wpList_alloc_item {ops : Array Oper} {rest : List Oper} {o : Oper} {a : Act} {w : World} {Q : Exit → Act → World → Prop} (hg : o.guard = none) (d : Option Tmp) (hd : o.dst = d) (hop : ∀ ρ : Operand → Value, (execOp ρ o).run Tryz.prog w = .ok (.value (.pointer (some ⟨w.heap.size, 0, none⟩))) (w.alloc (.cells itZ 62)))
 (h : ∀ (B : Nat) (W' : World), B = w.heap.size → BxC W' B itZ 62 → Below w.heap.size w W' → wpList Tryz.prog ops Q rest (a.put d (.pointer (some ⟨B, 0, none⟩))) W') : wpList Tryz.prog ops Q (o :: rest) a w :=
 Great.wpList_allocTo hg d hd _ _ (hop a.eval) (h w.heap.size _ rfl (BxC.new _ _ _) ((Below.refl _ _).alloc (Nat.le_refl _) _))
theorem BxC.row {W : World} {B C : Nat} {cs ds : Array Value} {T : TypeId} (h : BxC W B cs T) (hne : B ≠ C) : BxC (W.setRow C ds) B cs T := (setRow_other _ _ _ _ hne).trans h
def G2 (W0 : World) (cs1 cs2 : Array Value) (b : Bool) (x : Value) (c : Bool) (y : Value) (w : World) : Prop :=
 Below W0.heap.size W0 w ∧ (b = true → ∃ B, x = .pointer (some ⟨B, 0, none⟩) ∧ W0.heap.size ≤ B ∧ BxC w B cs1 62) ∧ (c = true → ∃ B, y = .pointer (some ⟨B, 0, none⟩) ∧ W0.heap.size ≤ B ∧ BxC w B cs2 62) ∧ (b = true → c = true → x ≠ y)
theorem G2.step {W0 w w' : World} {cs1 cs2 : Array Value} {b c : Bool} {x y : Value} (h : G2 W0 cs1 cs2 b x c y w) (hb : Below w.heap.size w w') : G2 W0 cs1 cs2 b x c y w' :=
 ⟨h.1.trans (hb.mono h.1.size), fun e => let ⟨B, h1, h2, h3⟩ := h.2.1 e; ⟨B, h1, h2, h3.next hb⟩, fun e => let ⟨B, h1, h2, h3⟩ := h.2.2.1 e; ⟨B, h1, h2, h3.next hb⟩, h.2.2.2⟩
theorem G2.all {W0 w : World} {cs1 cs2 : Array Value} {x y : Value} (h : G2 W0 cs1 cs2 true x true y w) : Below W0.heap.size W0 w ∧ (∃ B, x = .pointer (some ⟨B, 0, none⟩) ∧ W0.heap.size ≤ B ∧ BxC w B cs1 62) ∧ (∃ B, y = .pointer (some ⟨B, 0, none⟩) ∧ W0.heap.size ≤ B ∧ BxC w B cs2 62) ∧ x ≠ y :=
 ⟨h.1, h.2.1 rfl, h.2.2.1 rfl, h.2.2.2 rfl rfl⟩
theorem g2_al1 {ops : Array Oper} {o : Oper} {a : Act} {Q : Exit → Act → World → Prop} {d1 d2 : Tmp} {W0 : World} {cs2 : Array Value} (hg : o.guard = none) (hd : o.dst = some d1) (hop : ∀ (w : World) (ρ : Operand → Value), (execOp ρ o).run Tryz.prog w = .ok (.value (.pointer (some ⟨w.heap.size, 0, none⟩))) (w.alloc (.cells itZ 62))) :
 ∀ c y w, G2 W0 itZ cs2 false undef c y w → ∀ K : Act → World → Prop, (∀ x w', G2 W0 itZ cs2 true x c y w' → K ((a.put (some d2) y).put (some d1) x) w') → wpList Tryz.prog ops (EndK K Q) [o] (a.put (some d2) y) w := fun c y w h K hK =>
 wpList_alloc_item hg (some d1) hd (hop w) fun B w' hB hz hb => hK _ w' ⟨h.1.trans (hb.mono h.1.size), fun _ => ⟨B, rfl, by rw [hB]; exact h.1.size, hz⟩, (h.step hb).2.2.1, fun _ e he => by
  obtain ⟨B', h1, _, h3⟩ := h.2.2.1 e
  rw [h1] at he
  cases he
  have := h3.lt
  omega⟩
theorem g2_al2 {ops : Array Oper} {o : Oper} {a : Act} {Q : Exit → Act → World → Prop} {d1 d2 : Tmp} {W0 : World} {cs1 : Array Value} (hg : o.guard = none) (hd : o.dst = some d2) (hop : ∀ (w : World) (ρ : Operand → Value), (execOp ρ o).run Tryz.prog w = .ok (.value (.pointer (some ⟨w.heap.size, 0, none⟩))) (w.alloc (.cells itZ 62))) :
 ∀ b x w, G2 W0 cs1 itZ b x false undef w → ∀ K : Act → World → Prop, (∀ y w', G2 W0 cs1 itZ b x true y w' → K ((a.put (some d1) x).put (some d2) y) w') → wpList Tryz.prog ops (EndK K Q) [o] (a.put (some d1) x) w := fun b x w h K hK =>
 wpList_alloc_item hg (some d2) hd (hop w) fun B w' hB hz hb => hK _ w' ⟨h.1.trans (hb.mono h.1.size), (h.step hb).2.1, fun _ => ⟨B, rfl, by rw [hB]; exact h.1.size, hz⟩, fun e _ he => by
  obtain ⟨B', h1, _, h3⟩ := h.2.1 e
  rw [h1] at he
  cases he
  have := h3.lt
  omega⟩
theorem G2.set1 {W0 w : World} {cs1 cs2 cs : Array Value} {B : Nat} {c : Bool} {y : Value} (h : G2 W0 cs1 cs2 true (.pointer (some ⟨B, 0, none⟩)) c y w) (hT : True = True) : G2 W0 cs cs2 true (.pointer (some ⟨B, 0, none⟩)) c y (w.setRow B cs) := by
 obtain ⟨B', h1, h2, h3⟩ := h.2.1 rfl
 cases h1
 refine ⟨below_setRow h.1 h2 _, fun _ => ⟨B, rfl, h2, setRow_heap _ _ _ _ _ _ h3⟩, fun e => ?_, h.2.2.2⟩
 obtain ⟨B2, g1, g2, g3⟩ := h.2.2.1 e
 exact ⟨B2, g1, g2, g3.row (fun he => h.2.2.2 rfl e (by rw [g1, he]))⟩
theorem G2.set2 {W0 w : World} {cs1 cs2 cs : Array Value} {B : Nat} {b : Bool} {x : Value} (h : G2 W0 cs1 cs2 b x true (.pointer (some ⟨B, 0, none⟩)) w) (hT : True = True) : G2 W0 cs1 cs b x true (.pointer (some ⟨B, 0, none⟩)) (w.setRow B cs) := by
 obtain ⟨B', h1, h2, h3⟩ := h.2.2.1 rfl
 cases h1
 refine ⟨below_setRow h.1 h2 _, fun e => ?_, fun _ => ⟨B, rfl, h2, setRow_heap _ _ _ _ _ _ h3⟩, h.2.2.2⟩
 obtain ⟨B2, g1, g2, g3⟩ := h.2.1 e
 exact ⟨B2, g1, g2, g3.row (fun he => h.2.2.2 e rfl (by rw [g1, he]))⟩
theorem r37_Message (d : Dl) (A A' : Option Addr) (n c n' c' : Nat) (w : World) (hs : SlN w A n c d.ad) (hs' : SlN w A' n' c' d.rm) (hn : n ≤ 400000) (hn' : n' ≤ 400000) (hz : SzL d.str) : Calls Tryz.prog 16 #[.agg (d.arr (.slice A n c) (.slice A' n' c'))] w (RetSE d.msg w) := by
 obtain ⟨W0, hW0⟩ : ∃ W0, w.alloc (.cells (d.arr (.slice A n c) (.slice A' n' c')) 31) = W0 := ⟨_, rfl⟩
 have HX0 := Hq (show BxC W0 w.heap.size (d.arr (.slice A n c) (.slice A' n' c')) 31 from by rw [← hW0]; exact BxC.new w _ _)
 have HB0 := Hq (show Below w.heap.size w W0 from by rw [← hW0]; exact (Below.refl _ _).alloc (Nat.le_refl _) _)
 have HW0 := Hq (show w.heap.size + 1 = W0.heap.size from by rw [← hW0]; simp)
 have HS := Hq (hs.kept HB0.out (Nat.le_refl _))
 have HS' := Hq (hs'.kept HB0.out (Nat.le_refl _))
 have HZ := Hq hz
 have hc := hs.2.1
 have hc2 := hs.2.2.1
 have hc' := hs'.2.1
 have hc2' := hs'.2.2.1
 have HN := Hq hs.1
 have HN' := Hq hs'.1
 have x0 : W0.cell? ⟨w.heap.size, 0, none⟩ = some (.int .i64 d.fr) := HX0.out.cell 0
 have x1 : W0.cell? ⟨w.heap.size, 1, none⟩ = some (.int .i64 d.to) := HX0.out.cell 1
 have x2 : W0.cell? ⟨w.heap.size, 2, none⟩ = some (.slice A n c) := HX0.out.cell 2
 have x3 : W0.cell? ⟨w.heap.size, 3, none⟩ = some (.slice A' n' c') := HX0.out.cell 3
 have x4 : W0.cell? ⟨w.heap.size, 4, none⟩ = some (.string d.be) := HX0.out.cell 4
 have x5 : W0.cell? ⟨w.heap.size, 5, none⟩ = some (.string d.af) := HX0.out.cell 5
 have x6 : W0.cell? ⟨w.heap.size, 6, none⟩ = some (.string d.sc) := HX0.out.cell 6
 have x7 : W0.cell? ⟨w.heap.size, 7, none⟩ = some (.string d.sr) := HX0.out.cell 7
 have HC := Hq (r37_Form d A A' n c n' c' W0 HS.out HS'.out (by omega) (by omega) hz)
 clear hs hs' hz
 unfold Dl.arr at hW0 ⊢
 go_enter Tryz.func16, Tryz.ntmps16
 go_wp2_with fail
 refine (show Calls _ _ _ _ _ from HC.out).mono ?_
 rintro e w1 ⟨rfl, hb⟩
 have HX1 := Hq (HX0.out.kept hb HX0.out.lt)
 have HB1 := Hq (HB0.out.trans (hb.mono HB0.out.size))
 have HSA := Hq (HS.out.kept hb (Nat.le_refl _))
 have HSR := Hq (HS'.out.kept hb (Nat.le_refl _))
 clear hb x0 x1 x2 x3 x4 x5 x6 x7 hW0 HC
 obtain ⟨F, hF⟩ : ∃ F, d.form = F := ⟨_, rfl⟩
 rw [hF]
 by_cases h0 : F = 0
 · subst h0
   have HFO := Hq hF
   have HM := Hq (show d.msg = encS d.it from by unfold Dl.msg; rw [if_pos hF])
   obtain ⟨hv, hr, _⟩ := d.form_ok hF
   have hwn := d.it_weight hF (by rw [HN.out]; exact hn) (by rw [HN'.out]; exact hn')
   obtain ⟨N, hN⟩ : ∃ N, d.fr.toNat = N := ⟨_, rfl⟩
   obtain ⟨T, hT⟩ : ∃ T, d.to.toNat = T := ⟨_, rfl⟩
   unfold Dl.rng at hr
   have hN4 : N ≤ 4096 := by omega
   have hT4 : T ≤ 4096 := by omega
   have hNe : d.fr = (N : Int) := by omega
   have hTe : d.to = (T : Int) := by omega
   have HIE := Hq (show It.mk 2 ⟨#[]⟩ ⟨#[]⟩ [.mk 1 ⟨#[]⟩ ⟨#[100, 101, 108, 116, 97]⟩ [], .mk 0 (bstr (encN N)) ⟨#[]⟩ [], .mk 0 (bstr (encN T)) ⟨#[]⟩ [], .mk 2 ⟨#[]⟩ ⟨#[]⟩ (d.ad.map natIt), .mk 2 ⟨#[]⟩ ⟨#[]⟩ (d.rm.map natIt), .mk 0 d.be ⟨#[]⟩ [], .mk 0 d.af ⟨#[]⟩ []] = d.it from by rw [← hN, ← hT]; rfl)
   have HWE := Hq hwn.1
   have HNO := Hq hwn.2
   rw [← HIE.out] at HWE HNO
   have b0 : w1.drew.cell? ⟨w.heap.size, 0, none⟩ = some (.int .i64 (N : Int)) := (HX1.out.cell 0).trans (by rw [← hNe]; rfl)
   have b1 : w1.drew.cell? ⟨w.heap.size, 1, none⟩ = some (.int .i64 (T : Int)) := (HX1.out.cell 1).trans (by rw [← hTe]; rfl)
   have b2 : w1.drew.cell? ⟨w.heap.size, 2, none⟩ = some (.slice A n c) := HX1.out.cell 2
   have b3 : w1.drew.cell? ⟨w.heap.size, 3, none⟩ = some (.slice A' n' c') := HX1.out.cell 3
   have b4 : w1.drew.cell? ⟨w.heap.size, 4, none⟩ = some (.string d.be) := HX1.out.cell 4
   have b5 : w1.drew.cell? ⟨w.heap.size, 5, none⟩ = some (.string d.af) := HX1.out.cell 5
   have HSAd := Hq (show SlN w1.drew A n c d.ad from HSA.out.kept (Below.refl _ _).drew (Nat.le_refl _))
   have HSRd := Hq (show SlN w1.drew A' n' c' d.rm from HSR.out.kept (Below.refl _ _).drew (Nat.le_refl _))
   clear hF hv hr hwn hN hT
   obtain ⟨aw, haw⟩ : ∃ aw : Array Value, aw = #[.int .i64 d.fr, .int .i64 d.to, .slice A n c, .slice A' n' c', .string d.be, .string d.af, .string d.sc, .string d.sr] := ⟨_, rfl⟩
   rw [← haw]
   clear haw hNe hTe
   go_wp2
   rename_i K4 hK4
   have rest : ∀ (B5 B6 : Nat) (W8 : World), BxC W8 B5 #[.int .i64 0, .string (bstr (encN N)), .string ⟨#[]⟩, .slice none 0 0] 62 → BxC W8 B6 #[.int .i64 0, .string (bstr (encN T)), .string ⟨#[]⟩, .slice none 0 0] 62 → Below w1.drew.heap.size w1.drew W8 → ∀ (z0 z2 z3 z4 z7 z8 z9 z10 z11 z12 z13 z14 z15 z16 z17 z18 z19 z20 z21 z22 z23 z24 z25 z26 z27 z28 z29 z30 z31 z32 z33 z34 z35 z36 z37 z38 z39 z40 z41 : Value), K4 { tmps := #[z0, .pointer (some ⟨w.heap.size, 0, none⟩), z2, z3, z4, .pointer (some ⟨B5, 0, none⟩), .pointer (some ⟨B6, 0, none⟩), z7, z8, z9, z10, z11, z12, z13, z14, z15, z16, z17, z18, z19, z20, z21, z22, z23, z24, z25, z26, z27, z28, z29, z30, z31, z32, z33, z34, z35, z36, z37, z38, z39, z40, z41], defers := [] } W8 := by
    intro B5 B6 W8 hP hQ hL z0 z2 z3 z4 z7 z8 z9 z10 z11 z12 z13 z14 z15 z16 z17 z18 z19 z20 z21 z22 z23 z24 z25 z26 z27 z28 z29 z30 z31 z32 z33 z34 z35 z36 z37 z38 z39 z40 z41
    clear b0 b1 b2 b3 b4 b5
    have hb8 : Below w1.heap.size w1 W8 := ((Below.refl _ _).drew).trans hL
    have HX8 := Hq (HX1.out.next hb8)
    have HBB8 := Hq (HB1.out.trans (hb8.mono HB1.out.size))
    have b2 : W8.drew.cell? ⟨w.heap.size, 2, none⟩ = some (.slice A n c) := HX8.out.cell 2
    have b3 : W8.drew.cell? ⟨w.heap.size, 3, none⟩ = some (.slice A' n' c') := HX8.out.cell 3
    have b4 : W8.drew.cell? ⟨w.heap.size, 4, none⟩ = some (.string d.be) := HX8.out.cell 4
    have b5 : W8.drew.cell? ⟨w.heap.size, 5, none⟩ = some (.string d.af) := HX8.out.cell 5
    have HSAd := Hq (show SlN W8.drew A n c d.ad from (HSA.out.kept hb8 (Nat.le_refl _)).kept (Below.refl _ _).drew (Nat.le_refl _))
    have HSRd := Hq (show SlN W8.drew A' n' c' d.rm from (HSR.out.kept hb8 (Nat.le_refl _)).kept (Below.refl _ _).drew (Nat.le_refl _))
    have t0 : W8.drew.cell? ⟨B5, 0, none⟩ = some (.int .i64 0) := BxC.cell hP 0
    have t1 : W8.drew.cell? ⟨B5, 1, none⟩ = some (.string (bstr (encN N))) := BxC.cell hP 1
    have t2 : W8.drew.cell? ⟨B5, 2, none⟩ = some (.string ⟨#[]⟩) := BxC.cell hP 2
    have t3 : W8.drew.cell? ⟨B5, 3, none⟩ = some (.slice none 0 0) := BxC.cell hP 3
    have u0 : W8.drew.cell? ⟨B6, 0, none⟩ = some (.int .i64 0) := BxC.cell hQ 0
    have u1 : W8.drew.cell? ⟨B6, 1, none⟩ = some (.string (bstr (encN T))) := BxC.cell hQ 1
    have u2 : W8.drew.cell? ⟨B6, 2, none⟩ = some (.string ⟨#[]⟩) := BxC.cell hQ 2
    have u3 : W8.drew.cell? ⟨B6, 3, none⟩ = some (.slice none 0 0) := BxC.cell hQ 3
    clear hb8 hL hP hQ
    refine hK4 _ _ ?_
    clear hK4
    go_wp2
    refine wp_region_K 17 (Below (W8.drew).heap.size (W8.drew)) (by kernel_rfl) ?_
    intro hD
    refine qTD 1 23 21 rfl hD (Below.refl _ _) (by intro w' hS'; have e0 := cell_kept hS' (Nat.le_refl _) b2; have e1 := cell_kept hS' (Nat.le_refl _) b3; have e2 := cell_kept hS' (Nat.le_refl _) b4; have e3 := cell_kept hS' (Nat.le_refl _) b5; have e4 := cell_kept hS' (Nat.le_refl _) t0; have e5 := cell_kept hS' (Nat.le_refl _) t1; have e6 := cell_kept hS' (Nat.le_refl _) t2; have e7 := cell_kept hS' (Nat.le_refl _) t3; have e8 := cell_kept hS' (Nat.le_refl _) u0; have e9 := cell_kept hS' (Nat.le_refl _) u1; have e10 := cell_kept hS' (Nat.le_refl _) u2; have e11 := cell_kept hS' (Nat.le_refl _) u3; go_simp; with_reducible rfl) ?_
    clear hD; intro hD
    simp only [Act.put, sqA, sqB, sqC]
    refine qTD 2 24 20 rfl hD (Below.refl _ _) (by intro w' hS'; have e0 := cell_kept hS' (Nat.le_refl _) b2; have e1 := cell_kept hS' (Nat.le_refl _) b3; have e2 := cell_kept hS' (Nat.le_refl _) b4; have e3 := cell_kept hS' (Nat.le_refl _) b5; have e4 := cell_kept hS' (Nat.le_refl _) t0; have e5 := cell_kept hS' (Nat.le_refl _) t1; have e6 := cell_kept hS' (Nat.le_refl _) t2; have e7 := cell_kept hS' (Nat.le_refl _) t3; have e8 := cell_kept hS' (Nat.le_refl _) u0; have e9 := cell_kept hS' (Nat.le_refl _) u1; have e10 := cell_kept hS' (Nat.le_refl _) u2; have e11 := cell_kept hS' (Nat.le_refl _) u3; go_simp; with_reducible rfl) ?_
    clear hD; intro hD
    simp only [Act.put, sqA, sqB, sqC]
    refine qPD 3 25 19 rfl hD (Below.refl _ _) ?_
    clear hD; intro hD
    simp only [Act.put, sqA, sqB, sqC]
    refine qTD 4 26 18 rfl hD (Below.refl _ _) (by intro w' hS'; have e0 := cell_kept hS' (Nat.le_refl _) b2; have e1 := cell_kept hS' (Nat.le_refl _) b3; have e2 := cell_kept hS' (Nat.le_refl _) b4; have e3 := cell_kept hS' (Nat.le_refl _) b5; have e4 := cell_kept hS' (Nat.le_refl _) t0; have e5 := cell_kept hS' (Nat.le_refl _) t1; have e6 := cell_kept hS' (Nat.le_refl _) t2; have e7 := cell_kept hS' (Nat.le_refl _) t3; have e8 := cell_kept hS' (Nat.le_refl _) u0; have e9 := cell_kept hS' (Nat.le_refl _) u1; have e10 := cell_kept hS' (Nat.le_refl _) u2; have e11 := cell_kept hS' (Nat.le_refl _) u3; go_simp; with_reducible rfl) ?_
    clear hD; intro hD
    simp only [Act.put, sqA, sqB, sqC]
    refine qPD 6 28 17 rfl hD (Below.refl _ _) ?_
    clear hD; intro hD
    simp only [Act.put, sqA, sqB, sqC]
    refine qTD 7 29 16 rfl hD (Below.refl _ _) (by intro w' hS'; have e0 := cell_kept hS' (Nat.le_refl _) b2; have e1 := cell_kept hS' (Nat.le_refl _) b3; have e2 := cell_kept hS' (Nat.le_refl _) b4; have e3 := cell_kept hS' (Nat.le_refl _) b5; have e4 := cell_kept hS' (Nat.le_refl _) t0; have e5 := cell_kept hS' (Nat.le_refl _) t1; have e6 := cell_kept hS' (Nat.le_refl _) t2; have e7 := cell_kept hS' (Nat.le_refl _) t3; have e8 := cell_kept hS' (Nat.le_refl _) u0; have e9 := cell_kept hS' (Nat.le_refl _) u1; have e10 := cell_kept hS' (Nat.le_refl _) u2; have e11 := cell_kept hS' (Nat.le_refl _) u3; go_simp; with_reducible rfl) ?_
    clear hD; intro hD
    simp only [Act.put, sqA, sqB, sqC]
    refine qPD 9 31 15 rfl hD (Below.refl _ _) ?_
    clear hD; intro hD
    simp only [Act.put, sqA, sqB, sqC]
    refine qTD 10 32 14 rfl hD (Below.refl _ _) (by intro w' hS'; have e0 := cell_kept hS' (Nat.le_refl _) b2; have e1 := cell_kept hS' (Nat.le_refl _) b3; have e2 := cell_kept hS' (Nat.le_refl _) b4; have e3 := cell_kept hS' (Nat.le_refl _) b5; have e4 := cell_kept hS' (Nat.le_refl _) t0; have e5 := cell_kept hS' (Nat.le_refl _) t1; have e6 := cell_kept hS' (Nat.le_refl _) t2; have e7 := cell_kept hS' (Nat.le_refl _) t3; have e8 := cell_kept hS' (Nat.le_refl _) u0; have e9 := cell_kept hS' (Nat.le_refl _) u1; have e10 := cell_kept hS' (Nat.le_refl _) u2; have e11 := cell_kept hS' (Nat.le_refl _) u3; go_simp; with_reducible rfl) ?_
    clear hD; intro hD
    simp only [Act.put, sqA, sqB, sqC]
    refine qPD 12 34 13 rfl hD (Below.refl _ _) ?_
    clear hD; intro hD
    simp only [Act.put, sqA, sqB, sqC]
    refine qTD 13 35 12 rfl hD (Below.refl _ _) (by intro w' hS'; have e0 := cell_kept hS' (Nat.le_refl _) b2; have e1 := cell_kept hS' (Nat.le_refl _) b3; have e2 := cell_kept hS' (Nat.le_refl _) b4; have e3 := cell_kept hS' (Nat.le_refl _) b5; have e4 := cell_kept hS' (Nat.le_refl _) t0; have e5 := cell_kept hS' (Nat.le_refl _) t1; have e6 := cell_kept hS' (Nat.le_refl _) t2; have e7 := cell_kept hS' (Nat.le_refl _) t3; have e8 := cell_kept hS' (Nat.le_refl _) u0; have e9 := cell_kept hS' (Nat.le_refl _) u1; have e10 := cell_kept hS' (Nat.le_refl _) u2; have e11 := cell_kept hS' (Nat.le_refl _) u3; go_simp; with_reducible rfl) ?_
    clear hD; intro hD
    simp only [Act.put, sqA, sqB, sqC]
    refine wpAnyK_one (i := 0) (fuel := 11) (by kernel_rfl) rfl hD ?_
    clear hD; intro K0 hK0
    go_wp2_with fail
    refine (r08_TextV _ _).mono ?_
    rintro e wz0 ⟨rfl, hb⟩
    have HB0 := Hq hb
    clear hb
    go_wp2
    refine hK0 _ _ (by exact HB0.out) ?_; clear hK0; intro hS_5_0 hD
    refine wpAnyK_one (i := 5) (fuel := 10) (by kernel_rfl) rfl hD ?_
    clear hD; intro K5 hK5
    go_wp2_with fail
    refine (r37_items d.ad A n c _ (HSAd.out.kept hS_5_0 (Nat.le_refl _)) (by omega)).mono ?_
    rintro e wz11 ⟨v11, rfl, ⟨A11, l11, c11, rfl, hs11⟩, hb⟩
    have HB5 := Hq hb
    have HI11 := Hq hs11
    clear hb hs11
    go_wp2
    refine hK5 _ _ (by exact Below.trans hS_5_0 (Below.mono HB5.out (Below.size hS_5_0))) ?_; clear hK5; intro hS_5_5 hD
    refine wpAnyK_one (i := 8) (fuel := 9) (by kernel_rfl) rfl hD ?_
    clear hD; intro K8 hK8
    go_wp2_with fail
    refine (r37_items d.rm A' n' c' _ (HSRd.out.kept hS_5_5 (Nat.le_refl _)) (by omega)).mono ?_
    rintro e wz14 ⟨v14, rfl, ⟨A14, l14, c14, rfl, hs14⟩, hb⟩
    have HB8 := Hq hb
    have HI14 := Hq hs14
    clear hb hs14
    go_wp2
    refine hK8 _ _ (by exact Below.trans hS_5_5 (Below.mono HB8.out (Below.size hS_5_5))) ?_; clear hK8; intro hS_5_8 hD
    refine wpAnyK_one (i := 11) (fuel := 8) (by kernel_rfl) rfl hD ?_
    clear hD; intro K11 hK11
    go_wp2_with fail
    refine (r08_NatV _ _).mono ?_
    rintro e wz11 ⟨rfl, hb⟩
    have HB11 := Hq hb
    clear hb
    go_wp2
    refine hK11 _ _ (by exact Below.trans hS_5_8 (Below.mono HB11.out (Below.size hS_5_8))) ?_; clear hK11; intro hS_5_11 hD
    refine wpAnyK_one (i := 14) (fuel := 7) (by kernel_rfl) rfl hD ?_
    clear hD; intro K14 hK14
    go_wp2_with fail
    refine (r08_NatV _ _).mono ?_
    rintro e wz14 ⟨rfl, hb⟩
    have HB14 := Hq hb
    clear hb
    go_wp2
    refine hK14 _ _ (by exact Below.trans hS_5_11 (Below.mono HB14.out (Below.size hS_5_11))) ?_; clear hK14; intro hS_5_14 hD
    refine wpAnyK_one (i := 15) (fuel := 6) (by kernel_rfl) rfl hD ?_
    clear hD; intro K15 hK15
    go_wp2
    refine name_world ?_
    intro w23 hw23
    have hb := below_allocE hw23
    have HR23 := Hq (row7 (bxc_alloc hw23) ((((HI11.out.below HB8.out (Nat.le_refl _)).below HB11.out (Nat.le_refl _)).below HB14.out (Nat.le_refl _)).below hb (Nat.le_refl _)) (((HI14.out.below HB11.out (Nat.le_refl _)).below HB14.out (Nat.le_refl _)).below hb (Nat.le_refl _)))
    have HB15 := Hq hb
    clear hb hw23
    refine hK15 _ _ (by exact Below.trans hS_5_14 (Below.mono HB15.out (Below.size hS_5_14))) ?_; clear hK15; intro hS_5_15 hD
    refine wpAnyK_one (i := 16) (fuel := 5) (by kernel_rfl) rfl hD ?_
    clear hD; intro K16 hK16
    go_wp2_with fail
    refine (r08_ListK _ _ 7 7 _ _ (by simp) HR23.out).mono ?_
    rintro e w24 ⟨v24, rfl, hi24, hb⟩
    have HI24 := Hq hi24
    have HB16 := Hq hb
    clear hb hi24
    go_wp2
    refine hK16 _ _ (by exact Below.trans hS_5_15 (Below.mono HB16.out (Below.size hS_5_15))) ?_; clear hK16; intro hS_5_16 hD
    refine wpAnyK_oneT (i := 17) (fuel := 4) (by kernel_rfl) rfl hD (by kernel_rfl) ?_
    clear hD; intro K17 hK17
    go_wp2_with fail
    refine (r08_Encode _ v24 _ _ HWE.out HI24.out).mono ?_
    rintro e w25 ⟨rfl, hb⟩
    rw [HIE.out]
    have hbl := Below.trans hS_5_16 (Below.mono hb (Below.size hS_5_16))
    have HB25 := Hq (HBB8.out.trans ((((Below.refl _ _).drew).trans hbl).mono HBB8.out.size))
    obtain ⟨r1, r2, hr⟩ : ∃ r1 r2, encS d.it = (r1, r2) := ⟨_, _, rfl⟩
    rw [hr]
    have HMR := Hq hr
    clear hb hbl hr
    go_wp2
    refine hK17 _ _ ?_; clear hK17; intro hD
    refine wpAnyK_pureTD (i := 18) (d := some 40) (v := ?v5_18b1) (fuel := 3) rfl (by kernel_rfl) (by kernel_rfl) (by kernel_rfl) (fun _ _ _ h => h) hD (.inl ⟨by kernel_rfl, ?y5_18b1⟩) ?n5_18b1
    case y5_18b1 => intro w' _; go_simp; with_reducible rfl
    clear hD; intro hD
    simp only [Act.put, sqA, sqB, sqC]
    refine wpAnyK_pureTD (i := 19) (d := some 41) (v := ?v5_19b1) (fuel := 2) rfl (by kernel_rfl) (by kernel_rfl) (by kernel_rfl) (fun _ _ _ h => h) hD (.inl ⟨by kernel_rfl, ?y5_19b1⟩) ?n5_19b1
    case y5_19b1 => intro w' _; go_simp; with_reducible rfl
    clear hD; intro hD
    simp only [Act.put, sqA, sqB, sqC]
    refine wpAnyK_oneT (i := 20) (fuel := 1) (by kernel_rfl) rfl hD (by kernel_rfl) ?_
    clear hD; intro K20 hK20
    go_wp2
    refine hK20 _ _ ?_; clear hK20; intro hD
    refine wpAnyK_oneT (i := 21) (fuel := 0) (by kernel_rfl) rfl hD (by kernel_rfl) ?_
    clear hD; intro K21 hK21
    go_wp2
    refine hK21 _ _ ?_; clear hK21; intro hD
    refine wpAnyK_done (by kernel_rfl) ?_ 0
    clear hD
    go_wp2
    go_ret2
    exact ⟨by show Ending.returned (.tuple #[.string r1, .int .i64 r2]) = _; rw [HM.out, HMR.out], HB25.out⟩
   refine wp_region_K 14 (Below (w1.drew).heap.size (w1.drew)) (by kernel_rfl) ?_
   intro hD
   refine qPD 0 12 13 rfl hD (Below.refl _ _) ?_
   clear hD; intro hD
   simp only [Act.put, List.setIfInBounds_toArray, set_cons_9]; try simp only [List.set_cons_zero, List.set_cons_succ]
   refine qSD 1 13 12 rfl hD (Below.refl _ _) (by intro w' hS'; have e0 := cell_kept hS' (Nat.le_refl _) b0; have e1 := cell_kept hS' (Nat.le_refl _) b1; go_simp; with_reducible rfl) ?_
   clear hD; intro hD
   simp only [Act.put, List.setIfInBounds_toArray, set_cons_9]; try simp only [List.set_cons_zero, List.set_cons_succ]
   refine qPD 2 14 11 rfl hD (Below.refl _ _) ?_
   clear hD; intro hD
   simp only [Act.put, List.setIfInBounds_toArray, set_cons_9]; try simp only [List.set_cons_zero, List.set_cons_succ]
   refine qPD 5 17 10 rfl hD (Below.refl _ _) ?_
   clear hD; intro hD
   simp only [Act.put, List.setIfInBounds_toArray, set_cons_9]; try simp only [List.set_cons_zero, List.set_cons_succ]
   refine qSD 6 18 9 rfl hD (Below.refl _ _) (by intro w' hS'; have e0 := cell_kept hS' (Nat.le_refl _) b0; have e1 := cell_kept hS' (Nat.le_refl _) b1; go_simp; with_reducible rfl) ?_
   clear hD; intro hD
   simp only [Act.put, List.setIfInBounds_toArray, set_cons_9]; try simp only [List.set_cons_zero, List.set_cons_succ]
   refine qPD 7 19 8 rfl hD (Below.refl _ _) ?_
   clear hD; intro hD
   simp only [Act.put, List.setIfInBounds_toArray, set_cons_9]; try simp only [List.set_cons_zero, List.set_cons_succ]
   rw [show IntKind.u64.wrap (N : Int) = N from by simp [IntKind.wrap, IntKind.bits, IntKind.signed]; omega, show IntKind.u64.wrap (T : Int) = T from by simp [IntKind.wrap, IntKind.bits, IntKind.signed]; omega]
   refine (show Ghost2 _ _ _ _ _ _ 10 11 5 6 6 _ _ (G2 w1.drew itZ itZ) from ?_).2.2 _ ⟨Below.refl _ _, (fun h => by cases h), (fun h => by cases h), fun h => by cases h⟩
   refine ghost2_step (i1 := 10) (i2 := 11) (j := 3) (d1 := 5) (d2 := 6) (dj := 15) (fuel := 5) (fun (_ : Unit) => .string (bstr (encN N))) (fun _ => G2 w1.drew itZ itZ) (by kernel_rfl) (by kernel_rfl) (by kernel_rfl) (by kernel_rfl) rfl rfl rfl hD (by kernel_rfl) (by kernel_rfl) (by decide) (by decide) (by decide) (by decide) (by decide) (by decide) (fun _ _ _ _ _ h => h.1) (fun _ _ _ _ _ _ h => h.1) (g2_al1 rfl rfl (fun _ _ => by kernel_rfl)) (g2_al2 rfl rfl (fun _ _ => by kernel_rfl)) ?_ ?_
   · intro b x c y wv hI K hK
     simp only [Act.put, List.setIfInBounds_toArray, set_cons_9] at hK ⊢
     try simp only [List.set_cons_zero, List.set_cons_succ] at hK ⊢
     have HK := Hq hK
     have HGI := Hq hI
     clear hK hI hD
     go_wp2_with fail
     refine (r01_Of N (by omega) _).mono ?_
     rintro e wu ⟨rfl, hb⟩
     have HG2 := Hq (HGI.out.step hb)
     clear hb
     go_wp2
     exact HK.out () _ HG2.out
   intro _ hD
   simp only [Act.put, List.setIfInBounds_toArray, set_cons_9]
   try simp only [List.set_cons_zero, List.set_cons_succ]
   refine ghost2_step (i1 := 10) (i2 := 11) (j := 4) (d1 := 5) (d2 := 6) (dj := 16) (fuel := 4) (fun (_ : Unit) => .agg #[.int .i64 0, .string (bstr (encN N)), .string ⟨#[]⟩, .slice none 0 0]) (fun _ => G2 w1.drew itZ itZ) (by kernel_rfl) (by kernel_rfl) (by kernel_rfl) (by kernel_rfl) rfl rfl rfl hD (by kernel_rfl) (by kernel_rfl) (by decide) (by decide) (by decide) (by decide) (by decide) (by decide) (fun _ _ _ _ _ h => h.1) (fun _ _ _ _ _ _ h => h.1) (g2_al1 rfl rfl (fun _ _ => by kernel_rfl)) (g2_al2 rfl rfl (fun _ _ => by kernel_rfl)) ?_ ?_
   · intro b x c y wv hI K hK
     simp only [Act.put, List.setIfInBounds_toArray, set_cons_9] at hK ⊢
     try simp only [List.set_cons_zero, List.set_cons_succ] at hK ⊢
     have HK := Hq hK
     have HGI := Hq hI
     clear hK hI hD
     go_wp2_with fail
     refine (r08_NatV _ _).mono ?_
     rintro e wu ⟨rfl, hb⟩
     have HG2 := Hq (HGI.out.step hb)
     clear hb
     go_wp2
     exact HK.out () _ HG2.out
   intro _ hD
   simp only [Act.put, List.setIfInBounds_toArray, set_cons_9]
   try simp only [List.set_cons_zero, List.set_cons_succ]
   refine ghost2_step (i1 := 10) (i2 := 11) (j := 8) (d1 := 5) (d2 := 6) (dj := 20) (fuel := 3) (fun (_ : Unit) => .string (bstr (encN T))) (fun _ => G2 w1.drew itZ itZ) (by kernel_rfl) (by kernel_rfl) (by kernel_rfl) (by kernel_rfl) rfl rfl rfl hD (by kernel_rfl) (by kernel_rfl) (by decide) (by decide) (by decide) (by decide) (by decide) (by decide) (fun _ _ _ _ _ h => h.1) (fun _ _ _ _ _ _ h => h.1) (g2_al1 rfl rfl (fun _ _ => by kernel_rfl)) (g2_al2 rfl rfl (fun _ _ => by kernel_rfl)) ?_ ?_
   · intro b x c y wv hI K hK
     simp only [Act.put, List.setIfInBounds_toArray, set_cons_9] at hK ⊢
     try simp only [List.set_cons_zero, List.set_cons_succ] at hK ⊢
     have HK := Hq hK
     have HGI := Hq hI
     clear hK hI hD
     go_wp2_with fail
     refine (r01_Of T (by omega) _).mono ?_
     rintro e wu ⟨rfl, hb⟩
     have HG2 := Hq (HGI.out.step hb)
     clear hb
     go_wp2
     exact HK.out () _ HG2.out
   intro _ hD
   simp only [Act.put, List.setIfInBounds_toArray, set_cons_9]
   try simp only [List.set_cons_zero, List.set_cons_succ]
   refine ghost2_step (i1 := 10) (i2 := 11) (j := 9) (d1 := 5) (d2 := 6) (dj := 21) (fuel := 2) (fun (_ : Unit) => .agg #[.int .i64 0, .string (bstr (encN T)), .string ⟨#[]⟩, .slice none 0 0]) (fun _ => G2 w1.drew itZ itZ) (by kernel_rfl) (by kernel_rfl) (by kernel_rfl) (by kernel_rfl) rfl rfl rfl hD (by kernel_rfl) (by kernel_rfl) (by decide) (by decide) (by decide) (by decide) (by decide) (by decide) (fun _ _ _ _ _ h => h.1) (fun _ _ _ _ _ _ h => h.1) (g2_al1 rfl rfl (fun _ _ => by kernel_rfl)) (g2_al2 rfl rfl (fun _ _ => by kernel_rfl)) ?_ ?_
   · intro b x c y wv hI K hK
     simp only [Act.put, List.setIfInBounds_toArray, set_cons_9] at hK ⊢
     try simp only [List.set_cons_zero, List.set_cons_succ] at hK ⊢
     have HK := Hq hK
     have HGI := Hq hI
     clear hK hI hD
     go_wp2_with fail
     refine (r08_NatV _ _).mono ?_
     rintro e wu ⟨rfl, hb⟩
     have HG2 := Hq (HGI.out.step hb)
     clear hb
     go_wp2
     exact HK.out () _ HG2.out
   intro _ hD
   simp only [Act.put, List.setIfInBounds_toArray, set_cons_9]
   try simp only [List.set_cons_zero, List.set_cons_succ]
   refine ghost2_end (i1 := 10) (i2 := 11) (d1 := 5) (d2 := 6) (fuel := 2) (by kernel_rfl) (by kernel_rfl) rfl rfl hD (by kernel_rfl) (by kernel_rfl) (by decide) (by decide) (fun _ _ _ _ _ h => h.1) (g2_al1 rfl rfl (fun _ _ => by kernel_rfl)) (g2_al2 rfl rfl (fun _ _ => by kernel_rfl)) ?_
   intro x hD
   refine ghost_end (i := 11) (d := 6) (fuel := 2) (by kernel_rfl) rfl hD (fun _ _ _ h => h.1) (fun wv h K hK => g2_al2 rfl rfl (fun _ _ => by kernel_rfl) true x wv h K hK) ?_
   intro y wv hI hD
   obtain ⟨B6, rfl, hge6, hbx6⟩ := hI.2.2.1 rfl
   obtain ⟨B5, rfl, hge5, hbx5⟩ := hI.2.1 rfl
   have HBX5 := Hq hbx5
   have HG1 := Hq (hI.set1 (cs := #[.int .i64 0, .string (bstr (encN N)), .string ⟨#[]⟩, .slice none 0 0]) rfl)
   simp only [Act.put, List.setIfInBounds_toArray, set_cons_9]
   try simp only [List.set_cons_zero, List.set_cons_succ]
   clear hI hbx6 hbx5
   refine wpAnyK_one (i := 12) (fuel := 1) (by kernel_rfl) rfl hD ?_
   clear hD; intro K12 hK12
   refine wpList_store_rowTo rfl 62 _ _ rfl rfl B5 #[.int .i64 0, .string (bstr (encN N)), .string ⟨#[]⟩, .slice none 0 0] rfl rfl 62 itZ HBX5.out (by kernel_rfl) rfl (by simp [Value.oneCell']) ?_
   go_wp2
   refine hK12 _ _ (by exact HG1.out.1) ?_; clear hK12; intro hS12 hD
   obtain ⟨B6', e6, _, hbx6⟩ := HG1.out.2.2.1 rfl
   cases e6
   have HBX6 := Hq hbx6
   have HG2 := Hq (HG1.out.set2 (cs := #[.int .i64 0, .string (bstr (encN T)), .string ⟨#[]⟩, .slice none 0 0]) rfl)
   clear hbx6
   refine wpAnyK_one (i := 13) (fuel := 0) (by kernel_rfl) rfl hD ?_
   clear hD; intro K13 hK13
   refine wpList_store_rowTo rfl 62 _ _ rfl rfl B6 #[.int .i64 0, .string (bstr (encN T)), .string ⟨#[]⟩, .slice none 0 0] rfl rfl 62 itZ HBX6.out (by kernel_rfl) rfl (by simp [Value.oneCell']) ?_
   go_wp2
   refine hK13 _ _ (by exact HG2.out.1) ?_; clear hK13; intro hS13 hD
   refine wpAnyK_done (by kernel_rfl) ?_ 0
   clear hD
   obtain ⟨_, ⟨B5', e5, _, h5⟩, ⟨B6', e6, _, h6⟩, _⟩ := HG2.out.all
   cases e5
   cases e6
   exact rest B5 B6 _ h5 h6 hS13 _ _ _ _ _ _ _ _ _ _ _ _ _ _ _ _ _ _ _ _ _ _ _ _ _ _ _ _ _ _ _ _ _ _ _ _ _ _ _
 · have HM := Hq (show d.msg = (⟨#[]⟩, F) from by unfold Dl.msg; rw [if_neg (by rw [hF]; exact h0), hF])
   have hd : (F != 0) = true := by simpa using h0
   clear hF
   go_wp2
   go_ret2
   exact ⟨by show Ending.returned (.tuple #[.string ⟨#[]⟩, .int .i64 F]) = _; rw [HM.out], HB1.out⟩
end Go.Proofs.YtehflcnjnnhojaaGreat

/- Walk: epochlog.copied. -/
import Derived.Test.YtelhpdlegjgjjaaEpW
import Derived.Test.YtelhpdlegjgjjaaCln
set_option linter.unusedVariables false
set_option linter.unusedSimpArgs false
namespace Go.Proofs.Ytelhpdlegjgjjaa
open Go.RowKit

/-- The call returned a delta of its own. -/
def RetCp (d : Dl) (w : World) (e : Ending) (w' : World) : Prop := ∃ A n c A' n' c', e = .returned (.agg (d.arr (.slice A n c) (.slice A' n' c'))) ∧ SlN w' A n c d.ad ∧ SlN w' A' n' c' d.rm ∧ Frs w A n ∧ Frs w A' n' ∧ Below w.heap.size w w'
set_option maxRecDepth 100000 in
set_option maxHeartbeats 4000000 in
theorem ep_copied (d : Dl) (A1 A2 : Option Addr) (n1 c1 n2 c2 : Nat) (w : World) (h1 : SlN w A1 n1 c1 d.ad) (h2 : SlN w A2 n2 c2 d.rm) (g1 : n1 ≤ 400000) (g2 : n2 ≤ 400000) : Calls Try.prog 41 #[.agg (d.arr (.slice A1 n1 c1) (.slice A2 n2 c2))] w (RetCp d w) := by
  obtain ⟨P, hP⟩ : ∃ P, w.heap.size = P := ⟨_, rfl⟩
  obtain ⟨W0, hW0⟩ : ∃ W0, (w.alloc (.cells (d.arr (.slice A1 n1 c1) (.slice A2 n2 c2)) 27)).alloc (.cells itD 27) = W0 := ⟨_, rfl⟩
  have HP0 := Lib.hid (show BxC W0 P #[.int .i64 d.fr, .int .i64 d.to, .slice A1 n1 c1, .slice A2 n2 c2, .string d.be, .string d.af, .string d.sc, .string d.sr] 27 from by rw [← hW0, ← hP]; exact (BxC.new w _ _).alloc _)
  have HR0 := Lib.hid (show BxC W0 (P + 1) itD 27 from by rw [← hW0, ← hP]; exact BxC.new1 w _ _ _)
  have HB0 := Lib.hid (show Below P w W0 from by rw [← hW0, ← hP]; exact ((Below.refl _ _).alloc (Nat.le_refl _) _).alloc (by simp) _)
  have HW0 := Lib.hid (show P + 2 = W0.heap.size from by rw [← hW0, ← hP]; simp)
  have HPE := Lib.hid hP
  have H1 := Lib.hid (h1.kept HB0.out (Nat.le_of_eq hP))
  have H2 := Lib.hid (h2.kept HB0.out (Nat.le_of_eq hP))
  have x2 : W0.drew.cell? ⟨P, 2, none⟩ = some (.slice A1 n1 c1) := HP0.out.cell 2
  have x3 : W0.drew.cell? ⟨P, 3, none⟩ = some (.slice A2 n2 c2) := HP0.out.cell 3
  have H1d := Lib.hid (show SlN W0.drew A1 n1 c1 d.ad from H1.out.kept (Below.refl _ _).drew (Nat.le_refl _))
  have H2d := Lib.hid (show SlN W0.drew A2 n2 c2 d.rm from H2.out.kept (Below.refl _ _).drew (Nat.le_refl _))
  clear h1 h2
  unfold Dl.arr itD at hW0
  unfold Dl.arr
  go_enter Try.func41, Try.ntmps41
  go_wp2
  refine wp_region_K 7 (Below (W0.drew).heap.size (W0.drew)) (by kernel_rfl) ?_
  intro hD
  refine wpAnyK_pureD (i := 0) (d := some 3) (v := ?v1_0b1) (fuel := 9) rfl (by kernel_rfl) (by kernel_rfl) (fun _ _ _ h => h) hD (Below.refl _ _) (.inl ⟨by kernel_rfl, ?y1_0b1⟩) ?n1_0b1
  case y1_0b1 => intro w' _; go_simp; with_reducible rfl
  clear hD; intro hD
  simp only [Act.put, List.setIfInBounds_toArray, List.set_cons_zero, List.set_cons_succ]
  refine wpAnyK_takeD (i := 1) (d := some 4) (v := ?v1_1b1) (fuel := 8) rfl (by kernel_rfl) (by kernel_rfl) (by kernel_rfl) (fun _ _ _ h => h) hD (Below.refl _ _) (.inl ⟨by kernel_rfl, ?y1_1b1⟩) ?n1_1b1
  case y1_1b1 => intro w' hS'; have e0 := cell_kept hS' (Nat.le_refl _) x2; have e1 := cell_kept hS' (Nat.le_refl _) x3; go_simp; with_reducible rfl
  clear hD; intro hD
  simp only [Act.put, List.setIfInBounds_toArray, List.set_cons_zero, List.set_cons_succ]
  refine wpAnyK_pureD (i := 3) (d := some 6) (v := ?v1_3b1) (fuel := 7) rfl (by kernel_rfl) (by kernel_rfl) (fun _ _ _ h => h) hD (Below.refl _ _) (.inl ⟨by kernel_rfl, ?y1_3b1⟩) ?n1_3b1
  case y1_3b1 => intro w' _; go_simp; with_reducible rfl
  clear hD; intro hD
  simp only [Act.put, List.setIfInBounds_toArray, List.set_cons_zero, List.set_cons_succ]
  refine wpAnyK_takeD (i := 4) (d := some 7) (v := ?v1_4b1) (fuel := 6) rfl (by kernel_rfl) (by kernel_rfl) (by kernel_rfl) (fun _ _ _ h => h) hD (Below.refl _ _) (.inl ⟨by kernel_rfl, ?y1_4b1⟩) ?n1_4b1
  case y1_4b1 => intro w' hS'; have e0 := cell_kept hS' (Nat.le_refl _) x2; have e1 := cell_kept hS' (Nat.le_refl _) x3; go_simp; with_reducible rfl
  clear hD; intro hD
  simp only [Act.put, List.setIfInBounds_toArray, List.set_cons_zero, List.set_cons_succ]
  refine wpAnyK_one (i := 2) (fuel := 5) (by kernel_rfl) rfl hD ?_
  clear hD; intro K2 hK2
  go_wp2_with fail
  refine (cl_nats d.ad A1 n1 c1 _ (H1d.out.kept (Below.refl _ _) (Nat.le_refl _)) (by omega)).mono ?_
  rintro e w1 ⟨v3, rfl, hown, hb⟩
  obtain ⟨A3, c3, rfl, hs3, hf3⟩ := own_sln hown
  have HB2 := Lib.hid hb
  have HS3 := Lib.hid hs3
  have HF3 := Lib.hid hf3
  clear hown hb hs3 hf3
  go_wp2
  refine hK2 _ _ (by exact HB2.out) ?_; clear hK2; intro hS_1_2 hD
  refine wpAnyK_pureD (i := 6) (d := some 9) (v := ?v1_6b1) (fuel := 4) rfl (by kernel_rfl) (by kernel_rfl) (fun _ _ _ h => h) hD hS_1_2 (.inl ⟨by kernel_rfl, ?y1_6b1⟩) ?n1_6b1
  case y1_6b1 => intro w' _; go_simp; with_reducible rfl
  clear hD; intro hD
  simp only [Act.put, List.setIfInBounds_toArray, List.set_cons_zero, List.set_cons_succ]
  refine wpAnyK_one (i := 5) (fuel := 3) (by kernel_rfl) rfl hD ?_
  clear hD; intro K5 hK5
  go_wp2_with fail
  refine (cl_nats d.rm A2 n2 c2 _ (H2d.out.kept hS_1_2 (Nat.le_refl _)) (by omega)).mono ?_
  rintro e w2 ⟨v4, rfl, hown, hb⟩
  obtain ⟨A4, c4, rfl, hs4, hf4⟩ := own_sln hown
  have HB5 := Lib.hid hb
  have HS4 := Lib.hid hs4
  have HF4 := Lib.hid hf4
  have hbl := Below.trans hS_1_2 (Below.mono hb (Below.size hS_1_2))
  have HS32 := Lib.hid (HS3.out.kept hb (Nat.le_refl _))
  have HP2 := Lib.hid (show BxC w2 P _ _ from (show BxC W0.drew P _ _ from HP0.out).next hbl)
  have HR2 := Lib.hid (show BxC w2 (P + 1) _ _ from (show BxC W0.drew (P + 1) _ _ from HR0.out).next hbl)
  have HG := Lib.hid (show W0.heap.size ≤ w1.heap.size from HB2.out.size)
  have HL2 := Lib.hid (show Below P w w2 from HB0.out.trans ((((Below.refl _ _).drew).trans hbl).mono (show P ≤ W0.heap.size from by have := HW0.out; omega)))
  have y2 : w2.cell? ⟨P, 2, none⟩ = some (.slice A1 n1 c1) := HP2.out.cell 2
  have f2 := HP2.out.free 2
  clear hown hb hs4 hf4 hbl x2 x3
  go_wp2
  refine hK5 _ _ (by exact Below.trans hS_1_2 (Below.mono HB5.out (Below.size hS_1_2))) ?_; clear hK5; intro hS_1_5 hD
  refine wpAnyK_oneT (i := 7) (fuel := 2) (by kernel_rfl) rfl hD (by kernel_rfl) ?_
  clear hD; intro K7 hK7
  go_wp2
  refine hK7 _ _ ?_; clear hK7; intro hD
  refine wpAnyK_pureTD (i := 8) (d := some 10) (v := ?v1_8b1) (fuel := 1) rfl (by kernel_rfl) (by kernel_rfl) (by kernel_rfl) (fun _ _ _ h => h) hD (.inl ⟨by kernel_rfl, ?y1_8b1⟩) ?n1_8b1
  case y1_8b1 => intro w' _; go_simp; with_reducible rfl
  clear hD; intro hD
  simp only [Act.put, List.setIfInBounds_toArray, List.set_cons_zero, List.set_cons_succ]
  refine wpAnyK_oneT (i := 9) (fuel := 0) (by kernel_rfl) rfl hD (by kernel_rfl) ?_
  clear hD; intro K9 hK9
  have y3 : (w2.setCell ⟨P, 2, none⟩ (.slice A3 n1 c3)).cell? ⟨P, 3, none⟩ = some (.slice A2 n2 c2) := (HP2.out.set (k := 2) (.slice A3 n1 c3)).cell 3
  have f3 := (HP2.out.set (k := 2) (.slice A3 n1 c3)).free 3
  go_wp2
  refine hK9 _ _ ?_; clear hK9; intro hD
  refine wpAnyK_done (by kernel_rfl) ?_ 0
  clear hD
  have HP3 := Lib.hid (show BxC ((w2.setCell ⟨P, 2, none⟩ (.slice A3 n1 c3)).setCell ⟨P, 3, none⟩ (.slice A4 n2 c4)) P #[.int .i64 d.fr, .int .i64 d.to, .slice A3 n1 c3, .slice A4 n2 c4, .string d.be, .string d.af, .string d.sc, .string d.sr] 27 from (HP2.out.set (k := 2) (.slice A3 n1 c3)).set (k := 3) (.slice A4 n2 c4))
  have HR3 := Lib.hid (show BxC ((w2.setCell ⟨P, 2, none⟩ (.slice A3 n1 c3)).setCell ⟨P, 3, none⟩ (.slice A4 n2 c4)) (P + 1) itD 27 from (HR2.out.other (C := P) (k := 2) (by omega) (.slice A3 n1 c3)).other (C := P) (k := 3) (by omega) (.slice A4 n2 c4))
  have HB3 := Lib.hid (show Below P w ((w2.setCell ⟨P, 2, none⟩ (.slice A3 n1 c3)).setCell ⟨P, 3, none⟩ (.slice A4 n2 c4)) from (HL2.out.setCell (p := ⟨P, 2, none⟩) (Nat.le_refl _) _).setCell (p := ⟨P, 3, none⟩) (Nat.le_refl _) _)
  have HG3 := Lib.hid (show 0 < n1 → ∀ ad, A3 = some ad → P + 2 ≤ ad.block from fun h0 ad he => by have : W0.heap.size ≤ ad.block := (HF3.out h0 ad he).1; have := HW0.out; omega)
  have HG4 := Lib.hid (show 0 < n2 → ∀ ad, A4 = some ad → P + 2 ≤ ad.block from fun h0 ad he => by have := (HF4.out h0 ad he).1; have := HG.out; have := HW0.out; omega)
  have HS3' := Lib.hid (show SlN ((w2.setCell ⟨P, 2, none⟩ (.slice A3 n1 c3)).setCell ⟨P, 3, none⟩ (.slice A4 n2 c4)) A3 n1 c3 d.ad from HS32.out.of_blocks (fun h0 ad he => by
    have := HG3.out h0 ad he
    rw [heap_setCell_other _ _ _ _ (show ad.block ≠ P from by omega), heap_setCell_other _ _ _ _ (show ad.block ≠ P from by omega)]))
  have HS4' := Lib.hid (show SlN ((w2.setCell ⟨P, 2, none⟩ (.slice A3 n1 c3)).setCell ⟨P, 3, none⟩ (.slice A4 n2 c4)) A4 n2 c4 d.rm from HS4.out.of_blocks (fun h0 ad he => by
    have := HG4.out h0 ad he
    rw [heap_setCell_other _ _ _ _ (show ad.block ≠ P from by omega), heap_setCell_other _ _ _ _ (show ad.block ≠ P from by omega)]))
  obtain ⟨W3, hW3⟩ : ∃ W3, ((w2.setCell ⟨P, 2, none⟩ (.slice A3 n1 c3)).setCell ⟨P, 3, none⟩ (.slice A4 n2 c4)) = W3 := ⟨_, rfl⟩
  rw [hW3] at HP3 HR3 HB3 HS3' HS4' ⊢
  clear hW3 y2 f2
  have k0 : W3.cell? ⟨P, 0, none⟩ = some (.int .i64 d.fr) := HP3.out.cell 0
  have k1 : W3.cell? ⟨P, 1, none⟩ = some (.int .i64 d.to) := HP3.out.cell 1
  have k2 : W3.cell? ⟨P, 2, none⟩ = some (.slice A3 n1 c3) := HP3.out.cell 2
  have k3 : W3.cell? ⟨P, 3, none⟩ = some (.slice A4 n2 c4) := HP3.out.cell 3
  have k4 : W3.cell? ⟨P, 4, none⟩ = some (.string d.be) := HP3.out.cell 4
  have k5 : W3.cell? ⟨P, 5, none⟩ = some (.string d.af) := HP3.out.cell 5
  have k6 : W3.cell? ⟨P, 6, none⟩ = some (.string d.sc) := HP3.out.cell 6
  have k7 : W3.cell? ⟨P, 7, none⟩ = some (.string d.sr) := HP3.out.cell 7
  go_wp2_with (refine wpList_store_rowTo rfl 27 _ _ rfl rfl (P + 1) #[.int .i64 d.fr, .int .i64 d.to, .slice A3 n1 c3, .slice A4 n2 c4, .string d.be, .string d.af, .string d.sc, .string d.sr] rfl rfl 27 itD HR3.out (by kernel_rfl) rfl (by simp [Value.oneCell']) ?_)
  have HRZ := Lib.hid (show BxC (W3.setRow (P + 1) #[.int .i64 d.fr, .int .i64 d.to, .slice A3 n1 c3, .slice A4 n2 c4, .string d.be, .string d.af, .string d.sc, .string d.sr]) (P + 1) #[.int .i64 d.fr, .int .i64 d.to, .slice A3 n1 c3, .slice A4 n2 c4, .string d.be, .string d.af, .string d.sc, .string d.sr] 27 from setRow_heap _ _ _ _ _ _ HR3.out)
  have HBZ := Lib.hid (below_setRow HB3.out (g := P + 1) (by omega) #[.int .i64 d.fr, .int .i64 d.to, .slice A3 n1 c3, .slice A4 n2 c4, .string d.be, .string d.af, .string d.sc, .string d.sr])
  have z0 : (W3.setRow (P + 1) #[.int .i64 d.fr, .int .i64 d.to, .slice A3 n1 c3, .slice A4 n2 c4, .string d.be, .string d.af, .string d.sc, .string d.sr]).cell? ⟨P + 1, 0, none⟩ = some (.int .i64 d.fr) := HRZ.out.cell 0
  have z1 : (W3.setRow (P + 1) #[.int .i64 d.fr, .int .i64 d.to, .slice A3 n1 c3, .slice A4 n2 c4, .string d.be, .string d.af, .string d.sc, .string d.sr]).cell? ⟨P + 1, 1, none⟩ = some (.int .i64 d.to) := HRZ.out.cell 1
  have z2 : (W3.setRow (P + 1) #[.int .i64 d.fr, .int .i64 d.to, .slice A3 n1 c3, .slice A4 n2 c4, .string d.be, .string d.af, .string d.sc, .string d.sr]).cell? ⟨P + 1, 2, none⟩ = some (.slice A3 n1 c3) := HRZ.out.cell 2
  have z3 : (W3.setRow (P + 1) #[.int .i64 d.fr, .int .i64 d.to, .slice A3 n1 c3, .slice A4 n2 c4, .string d.be, .string d.af, .string d.sc, .string d.sr]).cell? ⟨P + 1, 3, none⟩ = some (.slice A4 n2 c4) := HRZ.out.cell 3
  have z4 : (W3.setRow (P + 1) #[.int .i64 d.fr, .int .i64 d.to, .slice A3 n1 c3, .slice A4 n2 c4, .string d.be, .string d.af, .string d.sc, .string d.sr]).cell? ⟨P + 1, 4, none⟩ = some (.string d.be) := HRZ.out.cell 4
  have z5 : (W3.setRow (P + 1) #[.int .i64 d.fr, .int .i64 d.to, .slice A3 n1 c3, .slice A4 n2 c4, .string d.be, .string d.af, .string d.sc, .string d.sr]).cell? ⟨P + 1, 5, none⟩ = some (.string d.af) := HRZ.out.cell 5
  have z6 : (W3.setRow (P + 1) #[.int .i64 d.fr, .int .i64 d.to, .slice A3 n1 c3, .slice A4 n2 c4, .string d.be, .string d.af, .string d.sc, .string d.sr]).cell? ⟨P + 1, 6, none⟩ = some (.string d.sc) := HRZ.out.cell 6
  have z7 : (W3.setRow (P + 1) #[.int .i64 d.fr, .int .i64 d.to, .slice A3 n1 c3, .slice A4 n2 c4, .string d.be, .string d.af, .string d.sc, .string d.sr]).cell? ⟨P + 1, 7, none⟩ = some (.string d.sr) := HRZ.out.cell 7
  exact bodyPost_ret (v := .agg #[.int .i64 d.fr, .int .i64 d.to, .slice A3 n1 c3, .slice A4 n2 c4, .string d.be, .string d.af, .string d.sc, .string d.sr]) (by simp [results, Try.results41, go_sem, z0, z1, z2, z3, z4, z5, z6, z7]) rfl ⟨A3, n1, c3, A4, n2, c4, rfl, HS3'.out.of_blocks (fun h0 ad he => setRow_other _ _ _ _ (by have := HG3.out h0 ad he; omega)), HS4'.out.of_blocks (fun h0 ad he => setRow_other _ _ _ _ (by have := HG4.out h0 ad he; omega)), (fun h0 ad he => by have := HG3.out h0 ad he; have := HPE.out; omega), (fun h0 ad he => by have := HG4.out h0 ad he; have := HPE.out; omega), by rw [HPE.out]; exact HBZ.out⟩
end Go.Proofs.Ytelhpdlegjgjjaa

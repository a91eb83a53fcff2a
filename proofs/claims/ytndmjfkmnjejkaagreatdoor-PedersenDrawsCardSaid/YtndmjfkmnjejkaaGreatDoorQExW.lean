import Derived.Test.YtndmjfkmnjejkaaGreatDoorQInB
import Derived.Test.YtndmjfkmnjejkaaGreatDoorQNatA
set_option linter.unusedVariables false
set_option linter.unusedSimpArgs false
namespace Go.Proofs.YtndmjfkmnjejkaaGreatDoor
set_option maxRecDepth 100000
set_option maxHeartbeats 2000000
open Go.RowKit
def arV (x y : Int) : Value := .agg #[.bool (decide (x < 0)), .string (nS x.natAbs), .bool (decide (y < 0)), .string (nS y.natAbs)]
def Bx4 (W : World) (B : Nat) (x y z u : Value) (T : TypeId) : Prop := W.heap[B]? = some (.cells #[x, y, z, u] T (0, 0))
theorem Bx4.new (W : World) (x y z u : Value) (T : TypeId) : Bx4 (W.alloc (.cells #[x, y, z, u] T)) W.heap.size x y z u T := heap_alloc_new _ _
theorem Bx4.kept {W W' : World} {K B : Nat} {x y z u : Value} {T : TypeId} (h : Bx4 W B x y z u T) (hb : Below K W W') (hB : B < K) : Bx4 W' B x y z u T := (hb.block B hB).trans h
theorem Bx4.lt {W : World} {B : Nat} {x y z u : Value} {T : TypeId} (h : Bx4 W B x y z u T) : B < W.heap.size := block_lt h
theorem Bx4.next {W W' : World} {B : Nat} {x y z u : Value} {T : TypeId} (h : Bx4 W B x y z u T) (hb : Below W.heap.size W W') : Bx4 W' B x y z u T := h.kept hb h.lt
theorem Bx4.cells {W : World} {B : Nat} {x y z u : Value} {T : TypeId} (h : Bx4 W B x y z u T) : W.cell? ⟨B, 0, none⟩ = some x ∧ W.cell? ⟨B, 1, none⟩ = some y ∧ W.cell? ⟨B, 2, none⟩ = some z ∧ W.cell? ⟨B, 3, none⟩ = some u := by
 refine ⟨?_, ?_, ?_, ?_⟩ <;> rw [Lib.cell_of_heap h] <;> rfl
theorem Bx4.free {W : World} {B : Nat} {x y z u : Value} {T : TypeId} (h : Bx4 W B x y z u T) (k : Nat) : W.frozen? ⟨B, k, none⟩ = false := Lib.frozen_of_heap h k
theorem Bx4.other {W : World} {B C k : Nat} {x y z u : Value} {T : TypeId} (h : Bx4 W B x y z u T) (hne : B ≠ C) (v : Value) : Bx4 (W.setCell ⟨C, k, none⟩ v) B x y z u T := (heap_setCell_other _ _ _ _ hne).trans h
theorem Bx4.set4 {W : World} {B : Nat} {x y z u a b c d : Value} {T : TypeId} (h : Bx4 W B x y z u T) : Bx4 ((((W.setCell ⟨B, 0, none⟩ a).setCell ⟨B, 1, none⟩ b).setCell ⟨B, 2, none⟩ c).setCell ⟨B, 3, none⟩ d) B a b c d T := block_setCell (block_setCell (block_setCell (block_setCell h a) b) c) d
theorem below_undrew {W W' : World} (h : Below W.drew.heap.size W.drew W') : Below W.heap.size W W' := (Below.refl W.heap.size W).drew.trans h
theorem bx_of_alloc {K : Nat} {W w : World} {x y : Value} {T : TypeId} (h : Below K W (w.alloc (.cells #[x, y] T))) : Bx2 (w.alloc (.cells #[x, y] T)) w.heap.size x y T := Bx2.new _ _ _ _
theorem bx_of_alloc' {K : Nat} {W w : World} {x y : Value} {T : TypeId} (h : Below K W (w.alloc (.cells #[x, y] T)).drew) : Bx2 (w.alloc (.cells #[x, y] T)).drew w.heap.size x y T := Bx2.new w x y T
theorem ext_step (x y : Int) (q Q : Nat) (hx : x.natAbs < 18446744073709551616) (hy : y.natAbs < 18446744073709551616) (hq : q < 18446744073709551616) (hqy : ((q : Int) * y).natAbs < 18446744073709551616) (w : World) (hQ : w.cell? ⟨Q, 0, none⟩ = some (.string (nS q))) : Calls Tryz.prog 155 #[arV x y, .pointer (some ⟨Q, 0, none⟩)] w (Ret (arV y (x - q * y)) w) := by
 have HFR := Hq (int_From q (lt128_of_lt8 hq))
 have HMU := Hq (int_Mul q y (by omega) hy hqy)
 have HSU := Hq (int_Sub x (q * y) hx hqy)
 unfold arV intV zV at *
 obtain ⟨z, hz⟩ : ∃ z : Int, (q : Int) * y = z := ⟨_, rfl⟩
 rw [hz] at HMU HSU ⊢
 obtain ⟨a, ha⟩ : ∃ a, decide (x < 0) = a := ⟨_, rfl⟩
 obtain ⟨b, hb⟩ : ∃ b, decide (y < 0) = b := ⟨_, rfl⟩
 obtain ⟨s, hs⟩ : ∃ s, nS x.natAbs = s := ⟨_, rfl⟩
 obtain ⟨t, ht⟩ : ∃ t, nS y.natAbs = t := ⟨_, rfl⟩
 obtain ⟨c, hc⟩ : ∃ c, decide (z < 0) = c := ⟨_, rfl⟩
 obtain ⟨r, hr⟩ : ∃ r, nS z.natAbs = r := ⟨_, rfl⟩
 obtain ⟨d, hd⟩ : ∃ d, decide (x - z < 0) = d := ⟨_, rfl⟩
 obtain ⟨v, hv⟩ : ∃ v, nS (x - z).natAbs = v := ⟨_, rfl⟩
 obtain ⟨k, hk⟩ : ∃ k, nS q = k := ⟨_, rfl⟩
 obtain ⟨e, he⟩ : ∃ e, decide ((q : Int) < 0) = e := ⟨_, rfl⟩
 rw [Int.natAbs_natCast] at HFR HMU
 rw [hk, he] at HFR
 rw [hk, he, hb, ht, hc, hr] at HMU
 rw [ha, hs, hc, hr, hd, hv] at HSU
 rw [hk] at hQ
 rw [ha, hs, hb, ht, hd, hv]
 have hQlt := World.block_lt_of_cell? _ _ hQ
 clear ha hs hb ht hc hr hd hv hk he hz hx hy hq hqy
 go_enter Tryz.func155, Tryz.ntmps155
 go_wp2
 obtain ⟨W0, hW0⟩ : ∃ W0, (w.alloc (.cells #[.bool a, .string s, .bool b, .string t] 165)).alloc (.cells #[.bool false, .string ⟨#[]⟩, .bool false, .string ⟨#[]⟩] 165) = W0 := ⟨_, rfl⟩
 have HX0 := Hq (show Bx4 W0 w.heap.size (.bool a) (.string s) (.bool b) (.string t) 165 from by
  rw [← hW0]
  exact (Bx4.new w _ _ _ _ _).kept ((Below.refl _ _).alloc (Nat.le_refl _) _) (by simp))
 have HY0 := Hq (show Bx4 W0 (w.heap.size + 1) (.bool false) (.string ⟨#[]⟩) (.bool false) (.string ⟨#[]⟩) 165 from by
  rw [← hW0]
  have := Bx4.new (w.alloc (.cells #[.bool a, .string s, .bool b, .string t] 165)) (.bool false) (.string ⟨#[]⟩) (.bool false) (.string ⟨#[]⟩) 165
  rw [World.size_alloc] at this
  exact this)
 have hB0 : Below w.heap.size w W0 := by
  rw [← hW0]
  exact ((Below.refl w.heap.size w).alloc (Nat.le_refl _) _).alloc (by simp) _
 have HB0 := Hq hB0
 have hQ0 : W0.drew.cell? ⟨Q, 0, none⟩ = some (.string k) := (hB0.cell (p := ⟨Q, 0, none⟩) hQlt).trans hQ
 obtain ⟨d0, d1, d2, d3⟩ := (show Bx4 W0.drew w.heap.size (.bool a) (.string s) (.bool b) (.string t) 165 from HX0.out).cells
 rw [hW0]
 clear hW0 hB0 hQ
 refine wp_region_K 11 (Below (W0.drew).heap.size (W0.drew)) (by kernel_rfl) ?_
 intro hD
 refine wpAnyK_takeS (i := 0) (v := ?v1_0b1) (fuel := 10) rfl (by kernel_rfl) (by kernel_rfl) (fun _ _ _ h => h) hD (Below.refl _ _) (.inl ⟨by kernel_rfl, ?y1_0b1⟩) ?n1_0b1
 case y1_0b1 => intro w' hS'; have e0 := cell_kept hS' (Nat.le_refl _) hQ0; have e1 := cell_kept hS' (Nat.le_refl _) d0; have e2 := cell_kept hS' (Nat.le_refl _) d1; have e3 := cell_kept hS' (Nat.le_refl _) d2; have e4 := cell_kept hS' (Nat.le_refl _) d3; go_simp; with_reducible rfl
 clear hD; intro hD
 simp only [Act.put, sqA, sqB, sqC]
 refine wpAnyK_pure (i := 2) (v := ?v1_2b1) (fuel := 9) rfl (by kernel_rfl) (fun _ _ _ h => h) hD (Below.refl _ _) (.inl ⟨by kernel_rfl, ?y1_2b1⟩) ?n1_2b1
 case y1_2b1 => intro w' _; go_simp; with_reducible rfl
 clear hD; intro hD
 simp only [Act.put, sqA, sqB, sqC]
 refine wpAnyK_takeS (i := 3) (v := ?v1_3b1) (fuel := 8) rfl (by kernel_rfl) (by kernel_rfl) (fun _ _ _ h => h) hD (Below.refl _ _) (.inl ⟨by kernel_rfl, ?y1_3b1⟩) ?n1_3b1
 case y1_3b1 => intro w' hS'; have e0 := cell_kept hS' (Nat.le_refl _) hQ0; have e1 := cell_kept hS' (Nat.le_refl _) d0; have e2 := cell_kept hS' (Nat.le_refl _) d1; have e3 := cell_kept hS' (Nat.le_refl _) d2; have e4 := cell_kept hS' (Nat.le_refl _) d3; go_simp; with_reducible rfl
 clear hD; intro hD
 simp only [Act.put, sqA, sqB, sqC]
 refine wpAnyK_two (i := 1) (i' := 8) (fuel := 7) (by kernel_rfl) rfl rfl hD ?_ ?_ 
 · unfold StepK
   clear hD; intro K1 hK1
   go_wp2_with fail
   refine (HFR.out _).mono ?_
   rintro ev w1 ⟨rfl, hb1⟩
   try (have HP := Hq (HP.out.next hb1))
   have HB1 := Hq hb1
   clear hb1
   go_wp2
   refine hK1 _ _ (by exact HB1.out) ?_; clear hK1; intro hS_1_1 hD
   refine wpAnyK_two (i := 4) (i' := 8) (fuel := 6) (by kernel_rfl) rfl rfl hD ?_ ?_ 
   · unfold StepK
     clear hD; intro K4 hK4
     go_wp2_with fail
     refine (HMU.out _).mono ?_
     rintro ev w4 ⟨rfl, hb4⟩
     try (have HP := Hq (HP.out.next hb4))
     have HB4 := Hq hb4
     clear hb4
     go_wp2
     refine hK4 _ _ (by exact Below.trans hS_1_1 (Below.mono HB4.out (Below.size hS_1_1))) ?_; clear hK4; intro hS_1_4_1 hD
     refine wpAnyK_pure (i := 5) (v := ?v1_5_1_4b1) (fuel := 5) rfl (by kernel_rfl) (fun _ _ _ h => h) hD hS_1_4_1 (.inl ⟨by kernel_rfl, ?y1_5_1_4b1⟩) ?n1_5_1_4b1
     case y1_5_1_4b1 => intro w' _; go_simp; with_reducible rfl
     clear hD; intro hD
     simp only [Act.put, sqA, sqB, sqC]
     refine wpAnyK_pure (i := 6) (v := ?v1_6_1_4b1) (fuel := 4) rfl (by kernel_rfl) (fun _ _ _ h => h) hD hS_1_4_1 (.inl ⟨by kernel_rfl, ?y1_6_1_4b1⟩) ?n1_6_1_4b1
     case y1_6_1_4b1 => intro w' _; go_simp; with_reducible rfl
     clear hD; intro hD
     simp only [Act.put, sqA, sqB, sqC]
     refine wpAnyK_pure (i := 7) (v := ?v1_7_1_4b1) (fuel := 3) rfl (by kernel_rfl) (fun _ _ _ h => h) hD hS_1_4_1 (.inl ⟨by kernel_rfl, ?y1_7_1_4b1⟩) ?n1_7_1_4b1
     case y1_7_1_4b1 => intro w' _; go_simp; with_reducible rfl
     clear hD; intro hD
     simp only [Act.put, sqA, sqB, sqC]
     refine wpAnyK_one (i := 8) (fuel := 2) (by kernel_rfl) rfl hD ?_; clear hD; intro K8 hK8
     first | (have HPB := Hq (Below.size hS_1_4_1)) | (have HPB := Hq (Nat.le_refl W0.drew.heap.size))
     go_wp2
     refine hK8 _ _ (by exact Below.alloc hS_1_4_1 (Below.size hS_1_4_1) _) ?_; clear hK8; intro hS_1_8_1_4 hD
     first | (have HP := Hq (bx_of_alloc hS_1_8_1_4)) | (have HP := Hq (bx_of_alloc' hS_1_8_1_4))
     refine wpAnyK_one (i := 9) (fuel := 1) (by kernel_rfl) rfl hD ?_; clear hD; intro K9 hK9
     have hP := HP.out
     have p0 := hP.c0
     have p1 := hP.c1
     have pf0 := hP.f0
     have pf1 := hP.f1
     clear hP
     go_wp2
     refine hK9 _ _ (by first | exact (Below.setCell hS_1_8_1_4 (p := ⟨_, 0, none⟩) HPB.out _).setCell (p := ⟨_, 1, none⟩) HPB.out _ | exact Below.alloc (HB1.out.trans (HB4.out.mono HB1.out.size)) (Nat.le_trans HB1.out.size HB4.out.size) _) ?_; clear hK9; intro hS_1_9_1_4 hD
     clear p0 p1 pf0 pf1
     first | (have HP := Hq (bx_of_alloc hS_1_9_1_4)) | (have HP := Hq (HP.out.set2 (u := .bool c) (v := .string r)))
     refine wpAnyK_one (i := 10) (fuel := 0) (by kernel_rfl) rfl hD ?_; clear hD; intro K10 hK10
     go_wp2
     refine hK10 _ _ (by exact hS_1_9_1_4) ?_; clear hK10; intro hS_1_10_1_4 hD
     refine wpAnyK_done (by kernel_rfl) ?_ 0
     clear hD
     have HSX := Hq hS_1_10_1_4
     have HX5 := Hq (HX0.out.kept (below_undrew HSX.out) HX0.out.lt)
     have HY5 := Hq (HY0.out.kept (below_undrew HSX.out) HY0.out.lt)
     have HB5 := Hq (HB0.out.trans ((below_undrew HSX.out).mono HB0.out.size))
     have hP := HP.out
     have p0 := hP.c0
     have p1 := hP.c1
     clear hP d0 d1 d2 d3 hQ0
     obtain ⟨x0, x1, x2, x3⟩ := HX5.out.cells
     go_wp2_with fail
     refine (HSU.out _).mono ?_
     rintro ev w6 ⟨rfl, hb6⟩
     have HX6 := Hq (HX5.out.next hb6)
     have HY6 := Hq (HY5.out.next hb6)
     have HB6 := Hq (HB5.out.trans (hb6.mono HB5.out.size))
     clear hb6 x0 x1 x2 x3 p0 p1
     obtain ⟨x0, x1, x2, x3⟩ := HX6.out.cells
     obtain ⟨y0, y1, y2, y3⟩ := HY6.out.cells
     have yf0 := HY6.out.free 0
     have yf1 := HY6.out.free 1
     have yf2 := HY6.out.free 2
     have yf3 := HY6.out.free 3
     have hxl := HX6.out.lt
     have hyl := HY6.out.lt
     go_wp2
     have hY7 := HY6.out.set4 (a := .bool b) (b := .string t) (c := .bool d) (d := .string v)
     have hZ := hY7.kept ((Below.refl _ _).alloc (Nat.le_refl _) (.cells #[.bool d, .string v] 28)) hY7.lt
     obtain ⟨q0, q1, q2, q3⟩ := hZ.cells
     have hBB := ((((HB6.out.setCell (p := ⟨w.heap.size + 1, 0, none⟩) (by simp) (.bool b)).setCell (p := ⟨w.heap.size + 1, 1, none⟩) (by simp) (.string t)).setCell (p := ⟨w.heap.size + 1, 2, none⟩) (by simp) (.bool d)).setCell (p := ⟨w.heap.size + 1, 3, none⟩) (by simp) (.string v))
     exact bodyPost_ret (v := .agg #[.bool b, .string t, .bool d, .string v]) (by simp [results, Tryz.results155, go_sem, q0, q1, q2, q3]) rfl ⟨rfl, hBB.alloc hBB.size _⟩
   · unfold StepK
     clear hD; intro K8 hK8
     first | (have HPB := Hq (Below.size hS_1_1)) | (have HPB := Hq (Nat.le_refl W0.drew.heap.size))
     go_wp2
     refine hK8 _ _ (by exact Below.alloc hS_1_1 (Below.size hS_1_1) _) ?_; clear hK8; intro hS_1_8_1 hD
     first | (have HP := Hq (bx_of_alloc hS_1_8_1)) | (have HP := Hq (bx_of_alloc' hS_1_8_1))
     refine wpAnyK_one (i := 4) (fuel := 5) (by kernel_rfl) rfl hD ?_; clear hD; intro K4 hK4
     go_wp2_with fail
     refine (HMU.out _).mono ?_
     rintro ev w4 ⟨rfl, hb4⟩
     try (have HP := Hq (HP.out.next hb4))
     have HB4 := Hq hb4
     clear hb4
     go_wp2
     refine hK4 _ _ (by exact Below.trans hS_1_8_1 (Below.mono HB4.out (Below.size hS_1_8_1))) ?_; clear hK4; intro hS_1_4_1_8 hD
     refine wpAnyK_pure (i := 5) (v := ?v1_5_1_8b1) (fuel := 4) rfl (by kernel_rfl) (fun _ _ _ h => h) hD hS_1_4_1_8 (.inl ⟨by kernel_rfl, ?y1_5_1_8b1⟩) ?n1_5_1_8b1
     case y1_5_1_8b1 => intro w' _; go_simp; with_reducible rfl
     clear hD; intro hD
     simp only [Act.put, sqA, sqB, sqC]
     refine wpAnyK_pure (i := 6) (v := ?v1_6_1_8b1) (fuel := 3) rfl (by kernel_rfl) (fun _ _ _ h => h) hD hS_1_4_1_8 (.inl ⟨by kernel_rfl, ?y1_6_1_8b1⟩) ?n1_6_1_8b1
     case y1_6_1_8b1 => intro w' _; go_simp; with_reducible rfl
     clear hD; intro hD
     simp only [Act.put, sqA, sqB, sqC]
     refine wpAnyK_pure (i := 7) (v := ?v1_7_1_8b1) (fuel := 2) rfl (by kernel_rfl) (fun _ _ _ h => h) hD hS_1_4_1_8 (.inl ⟨by kernel_rfl, ?y1_7_1_8b1⟩) ?n1_7_1_8b1
     case y1_7_1_8b1 => intro w' _; go_simp; with_reducible rfl
     clear hD; intro hD
     simp only [Act.put, sqA, sqB, sqC]
     refine wpAnyK_one (i := 9) (fuel := 1) (by kernel_rfl) rfl hD ?_; clear hD; intro K9 hK9
     have hP := HP.out
     have p0 := hP.c0
     have p1 := hP.c1
     have pf0 := hP.f0
     have pf1 := hP.f1
     clear hP
     go_wp2
     refine hK9 _ _ (by first | exact (Below.setCell hS_1_4_1_8 (p := ⟨_, 0, none⟩) HPB.out _).setCell (p := ⟨_, 1, none⟩) HPB.out _ | exact Below.alloc (HB1.out.trans (HB4.out.mono HB1.out.size)) (Nat.le_trans HB1.out.size HB4.out.size) _) ?_; clear hK9; intro hS_1_9_1_8 hD
     clear p0 p1 pf0 pf1
     first | (have HP := Hq (bx_of_alloc hS_1_9_1_8)) | (have HP := Hq (HP.out.set2 (u := .bool c) (v := .string r)))
     refine wpAnyK_one (i := 10) (fuel := 0) (by kernel_rfl) rfl hD ?_; clear hD; intro K10 hK10
     go_wp2
     refine hK10 _ _ (by exact hS_1_9_1_8) ?_; clear hK10; intro hS_1_10_1_8 hD
     refine wpAnyK_done (by kernel_rfl) ?_ 0
     clear hD
     have HSX := Hq hS_1_10_1_8
     have HX5 := Hq (HX0.out.kept (below_undrew HSX.out) HX0.out.lt)
     have HY5 := Hq (HY0.out.kept (below_undrew HSX.out) HY0.out.lt)
     have HB5 := Hq (HB0.out.trans ((below_undrew HSX.out).mono HB0.out.size))
     have hP := HP.out
     have p0 := hP.c0
     have p1 := hP.c1
     clear hP d0 d1 d2 d3 hQ0
     obtain ⟨x0, x1, x2, x3⟩ := HX5.out.cells
     go_wp2_with fail
     refine (HSU.out _).mono ?_
     rintro ev w6 ⟨rfl, hb6⟩
     have HX6 := Hq (HX5.out.next hb6)
     have HY6 := Hq (HY5.out.next hb6)
     have HB6 := Hq (HB5.out.trans (hb6.mono HB5.out.size))
     clear hb6 x0 x1 x2 x3 p0 p1
     obtain ⟨x0, x1, x2, x3⟩ := HX6.out.cells
     obtain ⟨y0, y1, y2, y3⟩ := HY6.out.cells
     have yf0 := HY6.out.free 0
     have yf1 := HY6.out.free 1
     have yf2 := HY6.out.free 2
     have yf3 := HY6.out.free 3
     have hxl := HX6.out.lt
     have hyl := HY6.out.lt
     go_wp2
     have hY7 := HY6.out.set4 (a := .bool b) (b := .string t) (c := .bool d) (d := .string v)
     have hZ := hY7.kept ((Below.refl _ _).alloc (Nat.le_refl _) (.cells #[.bool d, .string v] 28)) hY7.lt
     obtain ⟨q0, q1, q2, q3⟩ := hZ.cells
     have hBB := ((((HB6.out.setCell (p := ⟨w.heap.size + 1, 0, none⟩) (by simp) (.bool b)).setCell (p := ⟨w.heap.size + 1, 1, none⟩) (by simp) (.string t)).setCell (p := ⟨w.heap.size + 1, 2, none⟩) (by simp) (.bool d)).setCell (p := ⟨w.heap.size + 1, 3, none⟩) (by simp) (.string v))
     exact bodyPost_ret (v := .agg #[.bool b, .string t, .bool d, .string v]) (by simp [results, Tryz.results155, go_sem, q0, q1, q2, q3]) rfl ⟨rfl, hBB.alloc hBB.size _⟩
 · unfold StepK
   clear hD; intro K8 hK8
   first | (have HPB := Hq (Below.size (Below.refl _ _))) | (have HPB := Hq (Nat.le_refl W0.drew.heap.size))
   go_wp2
   refine hK8 _ _ (by exact (Below.refl _ _).alloc (Nat.le_refl _) _) ?_; clear hK8; intro hS_1_8 hD
   first | (have HP := Hq (bx_of_alloc hS_1_8)) | (have HP := Hq (bx_of_alloc' hS_1_8))
   refine wpAnyK_one (i := 1) (fuel := 6) (by kernel_rfl) rfl hD ?_; clear hD; intro K1 hK1
   go_wp2_with fail
   refine (HFR.out _).mono ?_
   rintro ev w1 ⟨rfl, hb1⟩
   try (have HP := Hq (HP.out.next hb1))
   have HB1 := Hq hb1
   clear hb1
   go_wp2
   refine hK1 _ _ (by exact Below.trans hS_1_8 (Below.mono HB1.out (Below.size hS_1_8))) ?_; clear hK1; intro hS_1_1_8 hD
   refine wpAnyK_one (i := 4) (fuel := 5) (by kernel_rfl) rfl hD ?_; clear hD; intro K4 hK4
   go_wp2_with fail
   refine (HMU.out _).mono ?_
   rintro ev w4 ⟨rfl, hb4⟩
   try (have HP := Hq (HP.out.next hb4))
   have HB4 := Hq hb4
   clear hb4
   go_wp2
   refine hK4 _ _ (by exact Below.trans hS_1_1_8 (Below.mono HB4.out (Below.size hS_1_1_8))) ?_; clear hK4; intro hS_1_4_8 hD
   refine wpAnyK_pure (i := 5) (v := ?v1_5_8b1) (fuel := 4) rfl (by kernel_rfl) (fun _ _ _ h => h) hD hS_1_4_8 (.inl ⟨by kernel_rfl, ?y1_5_8b1⟩) ?n1_5_8b1
   case y1_5_8b1 => intro w' _; go_simp; with_reducible rfl
   clear hD; intro hD
   simp only [Act.put, sqA, sqB, sqC]
   refine wpAnyK_pure (i := 6) (v := ?v1_6_8b1) (fuel := 3) rfl (by kernel_rfl) (fun _ _ _ h => h) hD hS_1_4_8 (.inl ⟨by kernel_rfl, ?y1_6_8b1⟩) ?n1_6_8b1
   case y1_6_8b1 => intro w' _; go_simp; with_reducible rfl
   clear hD; intro hD
   simp only [Act.put, sqA, sqB, sqC]
   refine wpAnyK_pure (i := 7) (v := ?v1_7_8b1) (fuel := 2) rfl (by kernel_rfl) (fun _ _ _ h => h) hD hS_1_4_8 (.inl ⟨by kernel_rfl, ?y1_7_8b1⟩) ?n1_7_8b1
   case y1_7_8b1 => intro w' _; go_simp; with_reducible rfl
   clear hD; intro hD
   simp only [Act.put, sqA, sqB, sqC]
   refine wpAnyK_one (i := 9) (fuel := 1) (by kernel_rfl) rfl hD ?_; clear hD; intro K9 hK9
   have hP := HP.out
   have p0 := hP.c0
   have p1 := hP.c1
   have pf0 := hP.f0
   have pf1 := hP.f1
   clear hP
   go_wp2
   refine hK9 _ _ (by first | exact (Below.setCell hS_1_4_8 (p := ⟨_, 0, none⟩) HPB.out _).setCell (p := ⟨_, 1, none⟩) HPB.out _ | exact Below.alloc (HB1.out.trans (HB4.out.mono HB1.out.size)) (Nat.le_trans HB1.out.size HB4.out.size) _) ?_; clear hK9; intro hS_1_9_8 hD
   clear p0 p1 pf0 pf1
   first | (have HP := Hq (bx_of_alloc hS_1_9_8)) | (have HP := Hq (HP.out.set2 (u := .bool c) (v := .string r)))
   refine wpAnyK_one (i := 10) (fuel := 0) (by kernel_rfl) rfl hD ?_; clear hD; intro K10 hK10
   go_wp2
   refine hK10 _ _ (by exact hS_1_9_8) ?_; clear hK10; intro hS_1_10_8 hD
   refine wpAnyK_done (by kernel_rfl) ?_ 0
   clear hD
   have HSX := Hq hS_1_10_8
   have HX5 := Hq (HX0.out.kept (below_undrew HSX.out) HX0.out.lt)
   have HY5 := Hq (HY0.out.kept (below_undrew HSX.out) HY0.out.lt)
   have HB5 := Hq (HB0.out.trans ((below_undrew HSX.out).mono HB0.out.size))
   have hP := HP.out
   have p0 := hP.c0
   have p1 := hP.c1
   clear hP d0 d1 d2 d3 hQ0
   obtain ⟨x0, x1, x2, x3⟩ := HX5.out.cells
   go_wp2_with fail
   refine (HSU.out _).mono ?_
   rintro ev w6 ⟨rfl, hb6⟩
   have HX6 := Hq (HX5.out.next hb6)
   have HY6 := Hq (HY5.out.next hb6)
   have HB6 := Hq (HB5.out.trans (hb6.mono HB5.out.size))
   clear hb6 x0 x1 x2 x3 p0 p1
   obtain ⟨x0, x1, x2, x3⟩ := HX6.out.cells
   obtain ⟨y0, y1, y2, y3⟩ := HY6.out.cells
   have yf0 := HY6.out.free 0
   have yf1 := HY6.out.free 1
   have yf2 := HY6.out.free 2
   have yf3 := HY6.out.free 3
   have hxl := HX6.out.lt
   have hyl := HY6.out.lt
   go_wp2
   have hY7 := HY6.out.set4 (a := .bool b) (b := .string t) (c := .bool d) (d := .string v)
   have hZ := hY7.kept ((Below.refl _ _).alloc (Nat.le_refl _) (.cells #[.bool d, .string v] 28)) hY7.lt
   obtain ⟨q0, q1, q2, q3⟩ := hZ.cells
   have hBB := ((((HB6.out.setCell (p := ⟨w.heap.size + 1, 0, none⟩) (by simp) (.bool b)).setCell (p := ⟨w.heap.size + 1, 1, none⟩) (by simp) (.string t)).setCell (p := ⟨w.heap.size + 1, 2, none⟩) (by simp) (.bool d)).setCell (p := ⟨w.heap.size + 1, 3, none⟩) (by simp) (.string v))
   exact bodyPost_ret (v := .agg #[.bool b, .string t, .bool d, .string v]) (by simp [results, Tryz.results155, go_sem, q0, q1, q2, q3]) rfl ⟨rfl, hBB.alloc hBB.size _⟩
end Go.Proofs.YtndmjfkmnjejkaaGreatDoor
namespace Go.Proofs.YtndmjfkmnjejkaaGreatDoor
structure EInv (a b r0 r1 : Nat) (x0 x1 y0 y1 : Int) : Prop where
 e0 : (a : Int) * x0 + b * y0 = r0
 e1 : (a : Int) * x1 + b * y1 = r1
 bx : x1.natAbs * r0 + x0.natAbs * r1 = b
 bY : y1.natAbs * r0 + y0.natAbs * r1 = a
 sx : (x0 ≤ 0 ∧ 0 ≤ x1) ∨ (0 ≤ x0 ∧ x1 ≤ 0)
 sy : (y0 ≤ 0 ∧ 0 ≤ y1) ∨ (0 ≤ y0 ∧ y1 ≤ 0)
 gc : Nat.gcd r0 r1 = Nat.gcd a b
 pos : 0 < r0 ∨ 0 < r1
 lx : x0.natAbs * r0 ≤ b
 lt : x1 = 0 ∨ r1 < r0
 one : r0 = 0 → y1.natAbs ≤ 1
theorem EInv.start {a b : Nat} (hb : 0 < b) (hab : a ≤ b) : EInv a b a b 1 0 0 1 := by
 refine ⟨by simp, by simp, by simp, by simp, .inr ⟨by decide, by decide⟩, .inl ⟨by decide, by decide⟩, rfl, .inr hb, by simpa using hab, .inl rfl, fun _ => by decide⟩
theorem abs_step {x0 x1 : Int} {q : Nat} (h : (x0 ≤ 0 ∧ 0 ≤ x1) ∨ (0 ≤ x0 ∧ x1 ≤ 0)) : (x0 - q * x1).natAbs = x0.natAbs + q * x1.natAbs ∧ ((x1 ≤ 0 ∧ 0 ≤ x0 - q * x1) ∨ (0 ≤ x1 ∧ x0 - q * x1 ≤ 0)) := by
 rcases h with ⟨h0, h1⟩ | ⟨h0, h1⟩
 · have hp : 0 ≤ (q : Int) * x1 := Int.mul_nonneg (by omega) h1
   have e : ((q * x1.natAbs : Nat) : Int) = q * x1 := by rw [Int.natCast_mul]; congr 1; omega
   exact ⟨by omega, .inr ⟨h1, by omega⟩⟩
 · have hp : (q : Int) * x1 ≤ 0 := Int.mul_nonpos_of_nonneg_of_nonpos (by omega) h1
   have e : ((q * x1.natAbs : Nat) : Int) = -(q * x1) := by rw [Int.natCast_mul, ← Int.mul_neg]; congr 1; omega
   exact ⟨by omega, .inl ⟨h1, by omega⟩⟩
theorem bez_step {r0 r1 s0 s1 : Nat} (h : 0 < r1) : (s0 + r0 / r1 * s1) * r1 + s1 * (r0 % r1) = s1 * r0 + s0 * r1 := by
 have e := Nat.div_add_mod r0 r1
 have e2 : s1 * r0 = s1 * (r1 * (r0 / r1)) + s1 * (r0 % r1) := by rw [← Nat.mul_add, e]
 have e3 : s1 * (r1 * (r0 / r1)) = r0 / r1 * s1 * r1 := by rw [Nat.mul_comm r1, ← Nat.mul_assoc, Nat.mul_comm s1]
 rw [e2, e3, Nat.add_mul]
 omega
theorem EInv.step {a b r0 r1 : Nat} {x0 x1 y0 y1 : Int} (h : EInv a b r0 r1 x0 x1 y0 y1) (h1 : 0 < r1) : EInv a b r1 (r0 % r1) x1 (x0 - (r0 / r1 : Nat) * x1) y1 (y0 - (r0 / r1 : Nat) * y1) := by
 have ax := abs_step (q := r0 / r1) h.sx
 have ay := abs_step (q := r0 / r1) h.sy
 have em : ((r0 % r1 : Nat) : Int) = r0 - (r0 / r1 : Nat) * r1 := by
  have := Nat.div_add_mod r0 r1
  have e : ((r1 * (r0 / r1) + r0 % r1 : Nat) : Int) = r0 := by rw [this]
  rw [Int.natCast_add, Int.natCast_mul] at e
  rw [Int.mul_comm] at e
  omega
 refine ⟨h.e1, ?_, ?_, ?_, ax.2, ay.2, ?_, .inl h1, ?_, .inr (Nat.mod_lt _ h1), fun e => by omega⟩
 · rw [em, ← h.e0, ← h.e1, Int.mul_sub, Int.mul_sub, Int.mul_add]
   rw [← Int.mul_assoc (a : Int), Int.mul_comm (a : Int) ((r0 / r1 : Nat) : Int), Int.mul_assoc, ← Int.mul_assoc (b : Int), Int.mul_comm (b : Int) ((r0 / r1 : Nat) : Int), Int.mul_assoc]
   omega
 · rw [ax.1, bez_step h1]; exact h.bx
 · rw [ay.1, bez_step h1]; exact h.bY
 · rw [← h.gc, Nat.gcd_comm r1, ← Nat.gcd_rec, Nat.gcd_comm]
 · have hb := h.bx
   rcases h.lt with e | e
   · rw [e]; simp
   · have := Nat.mul_le_mul_left x1.natAbs (Nat.le_of_lt e)
     omega
theorem EInv.small {a b r0 r1 : Nat} {x0 x1 y0 y1 : Int} (h : EInv a b r0 r1 x0 x1 y0 y1) (h1 : 0 < r1) (N : Nat) (ha : a < N) (hb : b < N) (hN : 1 < N) :
 x0.natAbs < N ∧ x1.natAbs < N ∧ y0.natAbs < N ∧ y1.natAbs < N ∧ ((r0 / r1 : Nat) * x1).natAbs < N ∧ ((r0 / r1 : Nat) * y1).natAbs < N := by
 have hbx := h.bx
 have hby := h.bY
 have m0 : x0.natAbs ≤ x0.natAbs * r1 := Nat.le_mul_of_pos_right _ h1
 have n0 : y0.natAbs ≤ y0.natAbs * r1 := Nat.le_mul_of_pos_right _ h1
 have hq : ∀ s : Nat, r0 / r1 * s ≤ s * r0 := fun s => by
  rw [Nat.mul_comm]
  exact Nat.mul_le_mul_left s (Nat.div_le_self _ _)
 have q1 := hq x1.natAbs
 have q2 := hq y1.natAbs
 have a1 : ((r0 / r1 : Nat) * x1 : Int).natAbs = r0 / r1 * x1.natAbs := by rw [Int.natAbs_mul, Int.natAbs_natCast]
 have a2 : ((r0 / r1 : Nat) * y1 : Int).natAbs = r0 / r1 * y1.natAbs := by rw [Int.natAbs_mul, Int.natAbs_natCast]
 rw [a1, a2]
 rcases Nat.eq_zero_or_pos r0 with e | e
 · have hx1 : x1.natAbs = 0 := by
    rcases h.lt with e' | e'
    · rw [e']; rfl
    · omega
   have hy1 := h.one e
   refine ⟨by omega, by omega, by omega, by omega, by omega, by omega⟩
 · have m1 : x1.natAbs ≤ x1.natAbs * r0 := Nat.le_mul_of_pos_right _ e
   have n1 : y1.natAbs ≤ y1.natAbs * r0 := Nat.le_mul_of_pos_right _ e
   refine ⟨by omega, by omega, by omega, by omega, by omega, by omega⟩
theorem EInv.last {a b r0 : Nat} {x0 x1 y0 y1 : Int} (h : EInv a b r0 0 x0 x1 y0 y1) (hb : 0 < b) : r0 = Nat.gcd a b ∧ 0 < r0 ∧ x0.natAbs ≤ b / r0 ∧ (a : Int) * x0 + b * y0 = r0 := by
 have hp : 0 < r0 := by rcases h.pos with e | e <;> omega
 refine ⟨by rw [← h.gc, Nat.gcd_zero_right], hp, (Nat.le_div_iff_mul_le hp).2 h.lx, h.e0⟩
end Go.Proofs.YtndmjfkmnjejkaaGreatDoor
namespace Go.Proofs.YtndmjfkmnjejkaaGreatDoor
theorem gcd_of_pw {a q m : Nat} (h : a ^ q % m = 1) (hq : 0 < q) : Nat.gcd a m = 1 := by
 have h1 : Nat.gcd a m ∣ a ^ q := by
  obtain ⟨r, rfl⟩ : ∃ r, q = r + 1 := ⟨q - 1, by omega⟩
  rw [Nat.pow_succ]
  exact Nat.dvd_trans (Nat.gcd_dvd_left a m) (Nat.dvd_mul_left _ _)
 have h2 : Nat.gcd a m ∣ m * (a ^ q / m) := Nat.dvd_trans (Nat.gcd_dvd_right a m) (Nat.dvd_mul_right _ _)
 have h3 := Nat.div_add_mod (a ^ q) m
 rw [h] at h3
 rw [← h3] at h1
 exact Nat.dvd_one.1 ((Nat.dvd_add_right h2).1 h1)
theorem inv_of_bez {a m : Nat} {x y : Int} (hx : 0 ≤ x) (h : (a : Int) * x + m * y = 1) (hm : 1 < m) : a * x.natAbs % m = 1 := by
 have e : ((a * x.natAbs : Nat) : Int) = 1 + m * (-y) := by
  rw [Int.natCast_mul, Int.natAbs_of_nonneg hx, Int.mul_neg]; omega
 have e2 : ((a * x.natAbs % m : Nat) : Int) = 1 := by
  rw [Int.natCast_emod, e, Int.add_mul_emod_self_left]
  exact Int.emod_eq_of_lt (by omega) (by omega)
 omega
theorem inv_red {a m x : Nat} (h : a * x % m = 1) : a * (x % m) % m = 1 := by rw [Nat.mul_mod, Nat.mod_mod, ← Nat.mul_mod, h]
theorem emod_pos {e : Int} {q : Nat} (he : 0 ≤ e) : (e % q).toNat = e.natAbs % q := by
 have : e = (e.natAbs : Int) := by omega
 conv => lhs; rw [this]
 omega
theorem ext_y_bound {a b r0 : Nat} {x0 y0 : Int} (he : (a : Int) * x0 + b * y0 = r0) (hx : x0.natAbs * r0 ≤ b) (hr : 0 < r0) (hrb : r0 ≤ b) (hab : a < b) : y0.natAbs ≤ b := by
 have hxb : x0.natAbs ≤ b := Nat.le_trans (Nat.le_mul_of_pos_right _ hr) hx
 have h1 : (b * y0.natAbs : Nat) ≤ r0 + a * x0.natAbs := by
  have e : (b : Int) * y0 = r0 - a * x0 := by omega
  have e2 : ((b : Int) * y0).natAbs = b * y0.natAbs := by rw [Int.natAbs_mul, Int.natAbs_natCast]
  have e3 : ((a : Int) * x0).natAbs = a * x0.natAbs := by rw [Int.natAbs_mul, Int.natAbs_natCast]
  omega
 have h2 : a * x0.natAbs ≤ (b - 1) * b := Nat.mul_le_mul (by omega) hxb
 have h3 : (b - 1) * b + b = b * b := by
  obtain ⟨c, rfl⟩ : ∃ c, b = c + 1 := ⟨b - 1, by omega⟩
  rw [Nat.add_sub_cancel, Nat.add_mul c 1 (c+1), Nat.one_mul]
 have h4 : b * y0.natAbs ≤ b * b := by omega
 exact Nat.le_of_mul_le_mul_left h4 (by omega)
end Go.Proofs.YtndmjfkmnjejkaaGreatDoor
namespace Go.Proofs.YtndmjfkmnjejkaaGreatDoor
set_option maxRecDepth 100000
set_option maxHeartbeats 4000000
open Go.RowKit
def RetE (a b : Nat) (w : World) (e : Ending) (w' : World) : Prop := ∃ x y : Int, e = .returned (.tuple #[.string (nS (Nat.gcd a b)), intV x, intV y, .int .i64 0]) ∧ Below w.heap.size w w' ∧ 0 ≤ x ∧ x.natAbs < 18446744073709551616 ∧ (a : Int) * x + b * y = Nat.gcd a b
def EIB (W : World) (B : Nat) (x y : Int) : Prop := Bx4 W B (.bool (decide (x < 0))) (.string (nS x.natAbs)) (.bool (decide (y < 0))) (.string (nS y.natAbs)) 165
def msr (W : World) (B : Nat) : Nat := match W.cell? ⟨B, 1, none⟩ with
 | some (.string s) => num s
 | _ => 0
theorem msr_bx {W : World} {B n : Nat} {x : Value} {T : TypeId} (h : Bx2 W B x (.string (nS n)) T) : msr W B = n := by
 unfold msr
 rw [h.c1]
 exact num_nS n
def Off2 (B : Nat) (W W' : World) : Prop := ∀ k, k ≠ B → k ≠ B + 1 → W'.heap[k]? = W.heap[k]?
theorem Off2.refl (B : Nat) (W : World) : Off2 B W W := fun _ _ _ => rfl
theorem Off2.cell {B : Nat} {W W' : World} (h : Off2 B W W') {p : Addr} {v : Value} (h1 : p.block ≠ B) (h2 : p.block ≠ B + 1) (hc : W.cell? p = some v) : W'.cell? p = some v := (World.cell?_of_block (h _ h1 h2)).trans hc
theorem Off2.set {B : Nat} {W W' : World} (h : Off2 B W W') {C k : Nat} (hC : C = B ∨ C = B + 1) (v : Value) : Off2 B W (W'.setCell ⟨C, k, none⟩ v) := fun j h1 h2 => (heap_setCell_other _ _ _ _ (by rcases hC with e | e <;> (simp only; omega))).trans (h j h1 h2)
theorem Bx4.set2 {W : World} {B : Nat} {x y z u a b : Value} {T : TypeId} (h : Bx4 W B x y z u T) : Bx4 ((W.setCell ⟨B, 0, none⟩ a).setCell ⟨B, 1, none⟩ b) B a b z u T := block_setCell (block_setCell h a) b
theorem ext_y_small {a b r0 : Nat} {x0 x1 y0 y1 : Int} (h : EInv a b r0 0 x0 x1 y0 y1) (hab : a < b) : y0.natAbs ≤ b := by
 obtain ⟨h1, h2, h3, h4⟩ := h.last (by omega)
 exact ext_y_bound h4 h.lx h2 (by rw [h1]; exact Nat.le_of_dvd (by omega) (Nat.gcd_dvd_right a b)) hab
theorem ext_shift {a b g : Nat} {x y : Int} (hg : g = Nat.gcd a b) (h0 : 0 < g) (hx : x.natAbs ≤ b / g) (hn : x < 0) (h : (a : Int) * x + b * y = g) :
 0 ≤ x + (b / g : Nat) ∧ (x + (b / g : Nat)).natAbs ≤ b ∧ (a : Int) * (x + (b / g : Nat)) + b * (y - (a / g : Nat)) = g := by
 have h1 : b / g ≤ b := Nat.div_le_self _ _
 refine ⟨by omega, by omega, ?_⟩
 have ea : a / g * g = a := Nat.div_mul_cancel (by rw [hg]; exact Nat.gcd_dvd_left a b)
 have eb : b / g * g = b := Nat.div_mul_cancel (by rw [hg]; exact Nat.gcd_dvd_right a b)
 have e : a * (b / g) = b * (a / g) := by
  conv => lhs; rw [← ea]
  conv => rhs; rw [← eb]
  rw [Nat.mul_assoc, Nat.mul_assoc, Nat.mul_comm g, Nat.mul_comm g (a / g), ← Nat.mul_assoc, ← Nat.mul_assoc, Nat.mul_comm (a / g)]
 have e2 : (a : Int) * (b / g : Nat) = b * (a / g : Nat) := by rw [← Int.natCast_mul, ← Int.natCast_mul, e]
 rw [Int.mul_add, Int.mul_sub, e2]
 omega
theorem int_Extended (a b : Nat) (hab : a < b) (hb8 : b < 18446744073709551616) (w : World) : Calls Tryz.prog 113 #[.string (nS a), .string (nS b)] w (RetE a b w) := by
 have ha8 : a < 18446744073709551616 := by omega
 have HV1 := Hq (nS_valid_small ha8)
 have HV2 := Hq (nS_valid_small hb8)
 have hz1 := nS_small_size ha8
 have hz2 := nS_small_size hb8
 have hem := empty_nS (n := b) (by omega)
 have HI0 := Hq (int_Of 0 (by decide))
 have HI1 := Hq (int_Of 1 (by decide))
 rw [show intV ((0 : Nat) : Int) = .agg #[.bool false, .string ⟨#[]⟩] from rfl, show ((0 : Nat) : Int) = 0 from rfl] at HI0
 rw [show intV ((1 : Nat) : Int) = .agg #[.bool false, .string ⟨#[1]⟩] from rfl, show ((1 : Nat) : Int) = 1 from rfl] at HI1
 have HST := Hq (EInv.start (a := a) (b := b) (by omega) (by omega))
 have HB8 := Hq hb8
 have HAB := Hq hab
 obtain ⟨s, hs⟩ : ∃ s, nS a = s := ⟨_, rfl⟩
 obtain ⟨t, ht⟩ : ∃ t, nS b = t := ⟨_, rfl⟩
 rw [hs] at HV1 hz1 ⊢
 rw [ht] at HV2 hz2 hem ⊢
 have HS := Hq hs
 have HT := Hq ht
 clear hs ht ha8 hb8 hab
 go_enter Tryz.func113, Tryz.ntmps113
 go_wp2_with fail
 refine (nat_Valid s (by omega) _).mono ?_
 rintro e w1 ⟨rfl, rfl⟩
 rw [HV1.out]
 go_wp2_with fail
 refine (nat_Valid t (by omega) _).mono ?_
 rintro e w1 ⟨rfl, rfl⟩
 rw [HV2.out]
 go_wp2_with fail
 obtain ⟨W0, hW0⟩ : ∃ W0, ((w.alloc (.cells #[.bool false, .string ⟨#[]⟩] 28)).alloc (.cells #[.bool false, .string ⟨#[]⟩] 28)).alloc (.cells #[.string s, .string t] 164) = W0 := ⟨_, rfl⟩
 have HX0 := Hq (show Bx2 W0 w.heap.size (.bool false) (.string ⟨#[]⟩) 28 from by
  rw [← hW0]
  exact ((Bx2.new w _ _ _).kept ((Below.refl _ _).alloc (Nat.le_refl _) _) (by simp)).kept ((Below.refl _ _).alloc (Nat.le_refl _) _) (by simp; omega))
 have HY0 := Hq (show Bx2 W0 (w.heap.size + 1) (.bool false) (.string ⟨#[]⟩) 28 from by
  rw [← hW0]
  have := Bx2.new (w.alloc (.cells #[.bool false, .string ⟨#[]⟩] 28)) (.bool false) (.string ⟨#[]⟩) 28
  rw [World.size_alloc] at this
  exact this.kept ((Below.refl _ _).alloc (Nat.le_refl _) _) (by simp))
 have HR0 := Hq (show Bx2 W0 (w.heap.size + 1 + 1) (.string s) (.string t) 164 from by
  rw [← hW0]
  have := Bx2.new ((w.alloc (.cells #[.bool false, .string ⟨#[]⟩] 28)).alloc (.cells #[.bool false, .string ⟨#[]⟩] 28)) (.string s) (.string t) 164
  rw [World.size_alloc, World.size_alloc] at this
  exact this)
 have HB0 := Hq (show Below w.heap.size w W0 from by
  rw [← hW0]
  exact (((Below.refl w.heap.size w).alloc (Nat.le_refl _) _).alloc (by simp) _).alloc (by simp; omega) _)
 rw [hW0]
 clear hW0
 refine (HI1.out _).mono ?_
 rintro e w1 ⟨rfl, hb1⟩
 have HU1 := Hq hb1
 clear hb1
 go_wp2_with fail
 refine (HI0.out _).mono ?_
 rintro e w2 ⟨rfl, hb2⟩
 have HU2 := Hq (HU1.out.trans (hb2.mono HU1.out.size))
 clear hb2
 go_wp2_with fail
 refine (HI0.out _).mono ?_
 rintro e w3 ⟨rfl, hb3⟩
 have HU3 := Hq (HU2.out.trans (hb3.mono HU2.out.size))
 clear hb3
 go_wp2_with fail
 refine (HI1.out _).mono ?_
 rintro e w4 ⟨rfl, hb4⟩
 have HU4 := Hq (HU3.out.trans (hb4.mono HU3.out.size))
 clear hb4
 go_wp2
 obtain ⟨P, hP⟩ : ∃ P, w4.heap.size = P := ⟨_, rfl⟩
 obtain ⟨W5, hW5⟩ : ∃ W5, (w4.alloc (.cells #[.bool false, .string ⟨#[1]⟩, .bool false, .string ⟨#[]⟩] 165)).alloc (.cells #[.bool false, .string ⟨#[]⟩, .bool false, .string ⟨#[1]⟩] 165) = W5 := ⟨_, rfl⟩
 have hU5 : Below W0.heap.size W0 W5 := by
  rw [← hW5]
  exact (HU4.out.alloc HU4.out.size _).alloc (by have := HU4.out.size; simp; omega) _
 have HX5 := Hq (HX0.out.next hU5)
 have HY5 := Hq (HY0.out.next hU5)
 have HR5 := Hq (HR0.out.next hU5)
 have HB5 := Hq (HB0.out.trans (hU5.mono HB0.out.size))
 have HS5 := Hq (show Bx4 W5 P (.bool false) (.string ⟨#[1]⟩) (.bool false) (.string ⟨#[]⟩) 165 from by
  rw [← hW5, ← hP]
  exact (Bx4.new w4 _ _ _ _ _).kept ((Below.refl _ _).alloc (Nat.le_refl _) _) (by simp))
 have HT5 := Hq (show Bx4 W5 (P + 1) (.bool false) (.string ⟨#[]⟩) (.bool false) (.string ⟨#[1]⟩) 165 from by
  rw [← hW5, ← hP]
  have := Bx4.new (w4.alloc (.cells #[.bool false, .string ⟨#[1]⟩, .bool false, .string ⟨#[]⟩] 165)) (.bool false) (.string ⟨#[]⟩) (.bool false) (.string ⟨#[1]⟩) 165
  rw [World.size_alloc] at this
  exact this)
 have hPR : w.heap.size + 1 + 1 < P := by
  rw [← hP]
  exact Nat.lt_of_lt_of_le HR0.out.lt HU4.out.size
 rw [hW5, hP]
 clear hW5 hP hU5 HU1 HU2 HU3 HU4
 go_loopw [13] (fun _ wr => ∃ (r0 r1 : Nat) (x0 x1 y0 y1 : Int), EInv a b r0 r1 x0 x1 y0 y1 ∧ r0 < 18446744073709551616 ∧ r1 < 18446744073709551616 ∧ Bx2 wr (w.heap.size + 1 + 1) (.string (nS r0)) (.string (nS r1)) 164 ∧ EIB wr P x0 x1 ∧ EIB wr (P + 1) y0 y1 ∧ Bx2 wr w.heap.size (.bool false) (.string ⟨#[]⟩) 28 ∧ Bx2 wr (w.heap.size + 1) (.bool false) (.string ⟨#[]⟩) 28 ∧ Below w.heap.size w wr) (fun _ wr => msr wr (w.heap.size + 1 + 1))
 case atStart => exact ⟨a, b, 1, 0, 0, 1, HST.out, Nat.lt_trans HAB.out HB8.out, HB8.out, by rw [HS.out, HT.out]; exact HR5.out, HS5.out, HT5.out, HX5.out, HY5.out, HB5.out⟩
 case round =>
  obtain ⟨r0, r1, x0, x1, y0, y1, hinv, hr0, hr1, hR, hS, hT, hX, hY, hB⟩ := hrel
  have HINV := Hq hinv
  have HR := Hq hR
  have HSB := Hq hS
  have HTB := Hq hT
  have HX := Hq hX
  have HY := Hq hY
  have HB := Hq hB
  have HR0 := Hq hr0
  have HR1 := Hq hr1
  have c0 := hR.c0
  have c1 := hR.c1
  clear hinv hR hS hT hX hY hB hr0 hr1
  by_cases h1 : 0 < r1
  · have hem1 := empty_nS h1
    have HSM := Hq (HINV.out.small h1 18446744073709551616 (Nat.lt_trans HAB.out HB8.out) HB8.out (by decide))
    have HNX := Hq (HINV.out.step h1)
    have HDM := Hq (nat_DivMod r0 r1 HR0.out (lt128_of_lt8 HR1.out) h1)
    have HQ8 := Hq (show r0 / r1 < 18446744073709551616 from Nat.lt_of_le_of_lt (Nat.div_le_self _ _) HR0.out)
    go_wp2_with fail
    refine (HDM.out _).mono ?_
    rintro ev w6 ⟨rfl, hb6⟩
    have HR6 := Hq (HR.out.next hb6)
    have HS6 := Hq (show EIB w6 P x0 x1 from HSB.out.next hb6)
    have HT6 := Hq (show EIB w6 (P + 1) y0 y1 from HTB.out.next hb6)
    have HX6 := Hq (HX.out.next hb6)
    have HY6 := Hq (HY.out.next hb6)
    have HB6 := Hq (HB.out.trans (hb6.mono HB.out.size))
    clear hb6 c0 c1
    have c0 := HR6.out.c0
    have c1 := HR6.out.c1
    have f0 := HR6.out.f0
    have f1 := HR6.out.f1
    have hlt6 := HR6.out.lt
    go_wp2
    obtain ⟨Q, hQ⟩ : ∃ Q, w6.heap.size = Q := ⟨_, rfl⟩
    obtain ⟨W7, hW7⟩ : ∃ W7, (((w6.setCell ⟨w.heap.size + 1 + 1, 0, none⟩ (.string (nS r1))).setCell ⟨w.heap.size + 1 + 1, 1, none⟩ (.string (nS (r0 % r1)))).alloc (.cells #[.string (nS (r0 / r1))] 22)) = W7 := ⟨_, rfl⟩
    have hQ7 : W7.heap[Q]? = some (.cells #[.string (nS (r0 / r1))] 22 (0, 0)) := by
     rw [← hW7, ← hQ]
     have := heap_alloc_new ((w6.setCell ⟨w.heap.size + 1 + 1, 0, none⟩ (.string (nS r1))).setCell ⟨w.heap.size + 1 + 1, 1, none⟩ (.string (nS (r0 % r1)))) (.cells #[.string (nS (r0 / r1))] 22)
     simpa using this
    have HR7 := Hq (show Bx2 W7 (w.heap.size + 1 + 1) (.string (nS r1)) (.string (nS (r0 % r1))) 164 from by
     rw [← hW7]
     exact HR6.out.set2.next ((Below.refl _ _).alloc (Nat.le_refl _) _))
    have HS7 := Hq (show EIB W7 P x0 x1 from by
     rw [← hW7]
     exact ((Bx4.other HS6.out (by omega) _).other (by omega) _).next ((Below.refl _ _).alloc (Nat.le_refl _) _))
    have HT7 := Hq (show EIB W7 (P + 1) y0 y1 from by
     rw [← hW7]
     exact ((Bx4.other HT6.out (by omega) _).other (by omega) _).next ((Below.refl _ _).alloc (Nat.le_refl _) _))
    have HX7 := Hq (show Bx2 W7 w.heap.size (.bool false) (.string ⟨#[]⟩) 28 from by
     rw [← hW7]
     exact ((HX6.out.other (by omega) _).other (by omega) _).next ((Below.refl _ _).alloc (Nat.le_refl _) _))
    have HY7 := Hq (show Bx2 W7 (w.heap.size + 1) (.bool false) (.string ⟨#[]⟩) 28 from by
     rw [← hW7]
     exact ((HY6.out.other (by omega) _).other (by omega) _).next ((Below.refl _ _).alloc (Nat.le_refl _) _))
    have HB7 := Hq (show Below w.heap.size w W7 from by
     rw [← hW7]
     have h := (HB6.out.setCell (p := ⟨w.heap.size + 1 + 1, 0, none⟩) (by simp; omega) (.string (nS r1))).setCell (p := ⟨w.heap.size + 1 + 1, 1, none⟩) (by simp; omega) (.string (nS (r0 % r1)))
     exact h.alloc h.size _)
    rw [hW7, hQ]
    clear hW7 hQ c0 c1 f0 f1 hlt6
    obtain ⟨s0, s1, s2, s3⟩ := (show Bx4 W7.drew P _ _ _ _ _ from HS7.out).cells
    obtain ⟨t0, t1, t2, t3⟩ := (show Bx4 W7.drew (P + 1) _ _ _ _ _ from HT7.out).cells
    have hqc : W7.drew.cell? ⟨Q, 0, none⟩ = some (.string (nS (r0 / r1))) := by
     have h : W7.drew.heap[Q]? = some (.cells #[.string (nS (r0 / r1))] 22 (0, 0)) := hQ7
     rw [Lib.cell_of_heap h]; rfl
    have HE1 := Hq (ext_step x0 x1 (r0 / r1) Q HSM.out.1 HSM.out.2.1 HQ8.out HSM.out.2.2.2.2.1 W7.drew hqc)
    have HQ7 := Hq hQ7
    unfold arV at HE1
    clear hQ7 hqc
    refine wp_region_K 6 (Below (W7.drew).heap.size (W7.drew)) (by kernel_rfl) ?_
    intro hD
    refine wpAnyK_pure (i := 0) (v := ?v11_0b1) (fuel := 7) rfl (by kernel_rfl) (fun _ _ _ h => h) hD (Below.refl _ _) (.inl ⟨by kernel_rfl, ?y11_0b1⟩) ?n11_0b1
    case y11_0b1 => intro w' _; go_simp; with_reducible rfl
    clear hD; intro hD
    simp only [Act.put, sqA, sqB, sqC]
    refine wpAnyK_take (i := 1) (v := ?v11_1b1) (fuel := 6) rfl (by kernel_rfl) (by kernel_rfl) (fun _ _ _ h => h) hD (Below.refl _ _) (.inl ⟨by kernel_rfl, ?y11_1b1⟩) ?n11_1b1
    case y11_1b1 => intro w' hS'; have e0 := cell_kept hS' (Nat.le_refl _) s0; have e1 := cell_kept hS' (Nat.le_refl _) s1; have e2 := cell_kept hS' (Nat.le_refl _) s2; have e3 := cell_kept hS' (Nat.le_refl _) s3; have e4 := cell_kept hS' (Nat.le_refl _) t0; have e5 := cell_kept hS' (Nat.le_refl _) t1; have e6 := cell_kept hS' (Nat.le_refl _) t2; have e7 := cell_kept hS' (Nat.le_refl _) t3; go_simp; with_reducible rfl
    clear hD; intro hD
    simp only [Act.put, sqA, sqB, sqC]
    refine wpAnyK_pure (i := 3) (v := ?v11_3b1) (fuel := 5) rfl (by kernel_rfl) (fun _ _ _ h => h) hD (Below.refl _ _) (.inl ⟨by kernel_rfl, ?y11_3b1⟩) ?n11_3b1
    case y11_3b1 => intro w' _; go_simp; with_reducible rfl
    clear hD; intro hD
    simp only [Act.put, sqA, sqB, sqC]
    refine wpAnyK_take (i := 4) (v := ?v11_4b1) (fuel := 4) rfl (by kernel_rfl) (by kernel_rfl) (fun _ _ _ h => h) hD (Below.refl _ _) (.inl ⟨by kernel_rfl, ?y11_4b1⟩) ?n11_4b1
    case y11_4b1 => intro w' hS'; have e0 := cell_kept hS' (Nat.le_refl _) s0; have e1 := cell_kept hS' (Nat.le_refl _) s1; have e2 := cell_kept hS' (Nat.le_refl _) s2; have e3 := cell_kept hS' (Nat.le_refl _) s3; have e4 := cell_kept hS' (Nat.le_refl _) t0; have e5 := cell_kept hS' (Nat.le_refl _) t1; have e6 := cell_kept hS' (Nat.le_refl _) t2; have e7 := cell_kept hS' (Nat.le_refl _) t3; go_simp; with_reducible rfl
    clear hD; intro hD
    simp only [Act.put, sqA, sqB, sqC]
    refine wpAnyK_one (i := 2) (fuel := 3) (by kernel_rfl) rfl hD ?_; clear hD; intro K2 hK2
    go_wp2_with fail
    refine HE1.out.mono ?_
    rintro ev w8 ⟨rfl, hb8⟩
    have HB2 := Hq hb8
    have hqc8 : w8.cell? ⟨Q, 0, none⟩ = some (.string (nS (r0 / r1))) := by
     have h : w8.heap[Q]? = some (.cells #[.string (nS (r0 / r1))] 22 (0, 0)) := (hb8.block Q (block_lt HQ7.out)).trans HQ7.out
     rw [Lib.cell_of_heap h]; rfl
    have HE2 := Hq (ext_step y0 y1 (r0 / r1) Q HSM.out.2.2.1 HSM.out.2.2.2.1 HQ8.out HSM.out.2.2.2.2.2 w8 hqc8)
    unfold arV at HE2
    clear hb8 hqc8
    go_wp2
    refine hK2 _ _ (by exact HB2.out) ?_; clear hK2; intro hS_11_2 hD
    refine wpAnyK_one (i := 5) (fuel := 2) (by kernel_rfl) rfl hD ?_; clear hD; intro K5 hK5
    go_wp2_with fail
    refine HE2.out.mono ?_
    rintro ev w9 ⟨rfl, hb9⟩
    have HB5 := Hq hb9
    have HS9 := Hq (show EIB w9 P x0 x1 from Bx4.next (Bx4.next (show Bx4 W7.drew P _ _ _ _ _ from HS7.out) HB2.out) hb9)
    have HT9 := Hq (show EIB w9 (P + 1) y0 y1 from Bx4.next (Bx4.next (show Bx4 W7.drew (P + 1) _ _ _ _ _ from HT7.out) HB2.out) hb9)
    clear hb9
    obtain ⟨a0, a1, a2, a3⟩ := HS9.out.cells
    obtain ⟨b0, b1, b2, b3⟩ := HT9.out.cells
    have af0 := HS9.out.free 0
    have af1 := HS9.out.free 1
    have af2 := HS9.out.free 2
    have af3 := HS9.out.free 3
    have bf0 := HT9.out.free 0
    have bf1 := HT9.out.free 1
    have bf2 := HT9.out.free 2
    have bf3 := HT9.out.free 3
    go_wp2
    refine hK5 _ _ (by exact Below.trans hS_11_2 (Below.mono HB5.out (Below.size hS_11_2))) ?_; clear hK5; intro hS_11_5 hD
    refine wpAnyK_oneT (i := 6) (fuel := 1) (by kernel_rfl) rfl hD (by kernel_rfl) ?_; clear hD; intro K6 hK6
    go_wp2
    refine hK6 _ _ ?_; clear hK6; intro hD
    refine wpAnyK_oneT (i := 7) (fuel := 0) (by kernel_rfl) rfl hD (by kernel_rfl) ?_; clear hD; intro K7 hK7
    go_wp2
    refine hK7 _ _ ?_; clear hK7; intro hD
    refine wpAnyK_done (by kernel_rfl) ?_ 0
    clear hD
    have hn := HNX.out
    rw [Int.natCast_ediv] at hn
    have HN := Hq hn
    have hb9 : Below W7.heap.size W7 w9 := (below_undrew HB2.out).trans (HB5.out.mono (below_undrew HB2.out).size)
    have HR9 := Hq (HR7.out.next hb9)
    have HX9 := Hq (HX7.out.next hb9)
    have HY9 := Hq (HY7.out.next hb9)
    have HB9 := Hq (HB7.out.trans (hb9.mono HB7.out.size))
    have hPw : w.heap.size ≤ P := by omega
    clear hn hb9 s0 s1 s2 s3 t0 t1 t2 t3 a0 a1 a2 a3 b0 b1 b2 b3 af0 af1 af2 af3 bf0 bf1 bf2 bf3
    go_wp2
    go_roundw
    case rel =>
     refine ⟨r1, r0 % r1, x1, _, y1, _, HN.out, HR1.out, Nat.lt_trans (Nat.mod_lt _ h1) HR1.out, ?_, ?_, ?_, ?_, ?_, ?_⟩
     · exact ((((((((HR9.out.other (by omega) _).other (by omega) _).other (by omega) _).other (by omega) _).other (by omega) _).other (by omega) _).other (by omega) _).other (by omega) _)
     · exact ((((Bx4.set4 HS9.out).other (by omega) _).other (by omega) _).other (by omega) _).other (by omega) _
     · exact Bx4.set4 ((((Bx4.other HT9.out (by omega) _).other (by omega) _).other (by omega) _).other (by omega) _)
     · exact ((((((((HX9.out.other (by omega) _).other (by omega) _).other (by omega) _).other (by omega) _).other (by omega) _).other (by omega) _).other (by omega) _).other (by omega) _)
     · exact ((((((((HY9.out.other (by omega) _).other (by omega) _).other (by omega) _).other (by omega) _).other (by omega) _).other (by omega) _).other (by omega) _).other (by omega) _)
     · exact (((((((HB9.out.setCell (p := ⟨P, 0, none⟩) hPw _).setCell (p := ⟨P, 1, none⟩) hPw _).setCell (p := ⟨P, 2, none⟩) hPw _).setCell (p := ⟨P, 3, none⟩) hPw _).setCell (p := ⟨P + 1, 0, none⟩) (by simp; omega) _).setCell (p := ⟨P + 1, 1, none⟩) (by simp; omega) _).setCell (p := ⟨P + 1, 2, none⟩) (by simp; omega) _).setCell (p := ⟨P + 1, 3, none⟩) (by simp; omega) _
    case measure =>
     rw [msr_bx HR.out, msr_bx ((((((((HR9.out.other (by omega) _).other (by omega) _).other (by omega) _).other (by omega) _).other (by omega) _).other (by omega) _).other (by omega) _).other (by omega) _)]
     exact Nat.mod_lt _ h1
  · obtain rfl : r1 = 0 := by omega
    obtain ⟨hg, hg0, hxb, hbz⟩ := HINV.out.last (show 0 < b by have := HAB.out; omega)
    have hem0 : (nS 0).toList.isEmpty = true := sempty_true rfl
    have HG := Hq hg
    have HG0 := Hq hg0
    have HXB := Hq hxb
    have HBZ := Hq hbz
    obtain ⟨s0, s1, s2, s3⟩ := (show Bx4 wr P _ _ _ _ _ from HSB.out).cells
    clear hg hg0 hxb hbz
    by_cases hneg : x0 < 0
    · have hd : decide (x0 < 0) = true := decide_eq_true hneg
      have HDM1 := Hq (nat_DivMod b r0 HB8.out (lt128_of_lt8 HR0.out) HG0.out)
      have HDM2 := Hq (nat_DivMod a r0 (Nat.lt_trans HAB.out HB8.out) (lt128_of_lt8 HR0.out) HG0.out)
      rw [HT.out] at HDM1
      rw [HS.out] at HDM2
      rw [hd] at s0
      go_wp2_with fail
      refine (HDM1.out _).mono ?_
      rintro ev w6 ⟨rfl, hb6⟩
      have HU6 := Hq hb6
      clear hb6
      go_wp2_with fail
      refine (HDM2.out _).mono ?_
      rintro ev w7 ⟨rfl, hb7⟩
      have HU7 := Hq (HU6.out.trans (hb7.mono HU6.out.size))
      clear hb7 s0 s1 s2 s3 c0 c1
      go_wp2
      have HSW := Hq (show Bx4 w7 P (.bool (decide (x0 < 0))) (.string (nS x0.natAbs)) (.bool (decide (x1 < 0))) (.string (nS x1.natAbs)) 165 from Bx4.next HSB.out HU7.out)
      have HTW := Hq (show Bx4 w7 (P + 1) (.bool (decide (y0 < 0))) (.string (nS y0.natAbs)) (.bool (decide (y1 < 0))) (.string (nS y1.natAbs)) 165 from Bx4.next HTB.out HU7.out)
      have HXW := Hq (HX.out.next HU7.out)
      have HYW := Hq (HY.out.next HU7.out)
      have HBW := Hq (HB.out.trans (HU7.out.mono HB.out.size))
      have HSH := Hq (ext_shift HG.out HG0.out HXB.out hneg HBZ.out)
      have HYS := Hq (ext_y_small HINV.out HAB.out)
      have hqb : b / r0 < 18446744073709551616 := Nat.lt_of_le_of_lt (Nat.div_le_self _ _) HB8.out
      have hqa : a / r0 < 18446744073709551616 := Nat.lt_of_le_of_lt (Nat.div_le_self _ _) (Nat.lt_trans HAB.out HB8.out)
      have HFX := Hq (int_From (b / r0) (lt128_of_lt8 hqb))
      have HFY := Hq (int_From (a / r0) (lt128_of_lt8 hqa))
      have HAX := Hq (int_Add x0 (b / r0 : Nat) (Nat.lt_of_le_of_lt (Nat.le_trans HXB.out (Nat.div_le_self _ _)) HB8.out) (by rw [Int.natAbs_natCast]; exact hqb))
      have HAY := Hq (int_Sub y0 (a / r0 : Nat) (Nat.lt_of_le_of_lt HYS.out HB8.out) (by rw [Int.natAbs_natCast]; exact hqa))
      have e1 : decide (((b / r0 : Nat) : Int) < 0) = false := decide_eq_false (Int.not_lt.2 (Int.natCast_nonneg _))
      have e2 : decide (((a / r0 : Nat) : Int) < 0) = false := decide_eq_false (Int.not_lt.2 (Int.natCast_nonneg _))
      have e3 : decide (x0 + ((b / r0 : Nat) : Int) < 0) = false := decide_eq_false (by have := HSH.out.1; omega)
      unfold intV zV at HFX HAX HFY HAY
      rw [e1, Int.natAbs_natCast] at HFX HAX
      rw [e2, Int.natAbs_natCast] at HFY HAY
      rw [e3] at HAX
      have HZ := Hq HSH.out.1
      have HXS := Hq (Nat.lt_of_le_of_lt HSH.out.2.1 HB8.out)
      have HBE := Hq HSH.out.2.2
      clear e1 e2 e3 hqb hqa hneg hd HSB HTB HX HY HB HU6 HU7 HSH HYS HDM1 HDM2 HXB HBZ HINV HI0 HI1 HST
      obtain ⟨xe, hxe⟩ : ∃ xe : Int, x0 + ((b / r0 : Nat) : Int) = xe := ⟨_, rfl⟩
      obtain ⟨ye, hye⟩ : ∃ ye : Int, y0 - ((a / r0 : Nat) : Int) = ye := ⟨_, rfl⟩
      rw [hxe] at HAX HZ HXS HBE
      rw [hye] at HAY HBE
      clear hxe hye
      obtain ⟨rx, hrx⟩ : ∃ rx, nS xe.natAbs = rx := ⟨_, rfl⟩
      obtain ⟨ry, hry⟩ : ∃ ry, nS ye.natAbs = ry := ⟨_, rfl⟩
      obtain ⟨cy, hcy⟩ : ∃ cy, decide (ye < 0) = cy := ⟨_, rfl⟩
      obtain ⟨ax, hax⟩ : ∃ ax, decide (x0 < 0) = ax := ⟨_, rfl⟩
      obtain ⟨ay, hay⟩ : ∃ ay, decide (y0 < 0) = ay := ⟨_, rfl⟩
      obtain ⟨sx, hsx⟩ : ∃ sx, nS x0.natAbs = sx := ⟨_, rfl⟩
      obtain ⟨sy, hsy⟩ : ∃ sy, nS y0.natAbs = sy := ⟨_, rfl⟩
      rw [hrx] at HAX
      rw [hry, hcy] at HAY
      rw [hax, hsx] at HAX HSW
      rw [hay, hsy] at HAY HTW
      have HRX := Hq hrx
      have HRY := Hq hry
      have HCY := Hq hcy
      clear hrx hry hcy hax hay hsx hsy
      obtain ⟨wdx, hwdx⟩ : ∃ wd, w7.drew = wd := ⟨_, rfl⟩
      have hqx := HSW.out
      replace hqx := (show Bx4 w7.drew (P) _ _ _ _ _ from hqx)
      rw [hwdx] at hqx
      have HQx := Hq hqx
      obtain ⟨s0, s1, _, _⟩ := hqx.cells
      clear hqx
      refine wp_region_K 9 (Below (wdx).heap.size (wdx)) (by kernel_rfl) ?_
      intro hD
      rw [hwdx]
      refine wpAnyK_pure (i := 0) (v := ?v16_0b2) (fuel := 9) rfl (by kernel_rfl) (fun _ _ _ h => h) hD (Below.refl _ _) (.inl ⟨by kernel_rfl, ?y16_0b2⟩) ?n16_0b2
      case y16_0b2 => intro w' _; go_simp; with_reducible rfl
      clear hD; intro hD
      simp only [Act.put, sqA, sqB, sqC]
      refine wpAnyK_take (i := 1) (v := ?v16_1b2) (fuel := 8) rfl (by kernel_rfl) (by kernel_rfl) (fun _ _ _ h => h) hD (Below.refl _ _) (.inl ⟨by kernel_rfl, ?y16_1b2⟩) ?n16_1b2
      case y16_1b2 => intro w' hS'; have e0 := cell_kept hS' (Nat.le_refl _) s0; have e1 := cell_kept hS' (Nat.le_refl _) s1; go_simp; with_reducible rfl
      clear hD; intro hD
      simp only [Act.put, sqA, sqB, sqC]
      refine wpAnyK_pure (i := 2) (v := ?v16_2b2) (fuel := 7) rfl (by kernel_rfl) (fun _ _ _ h => h) hD (Below.refl _ _) (.inl ⟨by kernel_rfl, ?y16_2b2⟩) ?n16_2b2
      case y16_2b2 => intro w' _; go_simp; with_reducible rfl
      clear hD; intro hD
      simp only [Act.put, sqA, sqB, sqC]
      refine wpAnyK_one (i := 3) (fuel := 6) (by kernel_rfl) rfl hD ?_; clear hD; intro K3 hK3
      go_wp2_with fail
      refine (HFX.out _).mono ?_
      rintro ev wfx ⟨rfl, hbf⟩
      have HB3 := Hq hbf
      clear hbf
      go_wp2
      refine hK3 _ _ (by exact HB3.out) ?_; clear hK3; intro hS_16_3 hD
      refine wpAnyK_one (i := 4) (fuel := 5) (by kernel_rfl) rfl hD ?_; clear hD; intro K4 hK4
      go_wp2_with fail
      refine (HAX.out _).mono ?_
      rintro ev wgx ⟨rfl, hbg⟩
      have HB4 := Hq hbg
      have HUx := Hq (HB3.out.trans (hbg.mono HB3.out.size))
      have HRx := Hq (HQx.out.kept HUx.out HQx.out.lt)
      clear hbg
      obtain ⟨a0, a1, _, _⟩ := HRx.out.cells
      have af0 := HRx.out.free 0
      have af1 := HRx.out.free 1
      go_wp2
      refine hK4 _ _ (by exact Below.trans hS_16_3 (Below.mono HB4.out (Below.size hS_16_3))) ?_; clear hK4; intro hS_16_4 hD
      refine wpAnyK_pure (i := 5) (v := ?v16_5b2) (fuel := 4) rfl (by kernel_rfl) (fun _ _ _ h => h) hD hS_16_4 (.inl ⟨by kernel_rfl, ?y16_5b2⟩) ?n16_5b2
      case y16_5b2 => intro w' _; go_simp; with_reducible rfl
      clear hD; intro hD
      simp only [Act.put, sqA, sqB, sqC]
      refine wpAnyK_pure (i := 6) (v := ?v16_6b2) (fuel := 3) rfl (by kernel_rfl) (fun _ _ _ h => h) hD hS_16_4 (.inl ⟨by kernel_rfl, ?y16_6b2⟩) ?n16_6b2
      case y16_6b2 => intro w' _; go_simp; with_reducible rfl
      clear hD; intro hD
      simp only [Act.put, sqA, sqB, sqC]
      refine wpAnyK_pure (i := 7) (v := ?v16_7b2) (fuel := 2) rfl (by kernel_rfl) (fun _ _ _ h => h) hD hS_16_4 (.inl ⟨by kernel_rfl, ?y16_7b2⟩) ?n16_7b2
      case y16_7b2 => intro w' _; go_simp; with_reducible rfl
      clear hD; intro hD
      simp only [Act.put, sqA, sqB, sqC]
      refine wpAnyK_pure (i := 8) (v := ?v16_8b2) (fuel := 1) rfl (by kernel_rfl) (fun _ _ _ h => h) hD hS_16_4 (.inl ⟨by kernel_rfl, ?y16_8b2⟩) ?n16_8b2
      case y16_8b2 => intro w' _; go_simp; with_reducible rfl
      clear hD; intro hD
      simp only [Act.put, sqA, sqB, sqC]
      refine wpAnyK_oneT (i := 9) (fuel := 0) (by kernel_rfl) rfl hD (by kernel_rfl) ?_; clear hD; intro K9 hK9
      go_wp2
      refine hK9 _ _ ?_; clear hK9; intro hD
      refine wpAnyK_done (by kernel_rfl) ?_ 0
      clear hD
      go_wp2
      obtain ⟨W8, hW8⟩ : ∃ W8, (wgx.setCell ⟨P, 0, none⟩ (.bool false)).setCell ⟨P, 1, none⟩ (.string rx) = W8 := ⟨_, rfl⟩
      have HS8 := Hq (show Bx4 W8 P (.bool false) (.string rx) _ _ _ from by rw [← hW8]; exact HRx.out.set2)
      have HT8 := Hq (show Bx4 W8 (P + 1) (.bool ay) (.string sy) (.bool (decide (y1 < 0))) (.string (nS y1.natAbs)) 165 from by rw [← hW8]; exact ((Bx4.next (show Bx4 wdx (P + 1) _ _ _ _ _ from by rw [← hwdx]; exact HTW.out) HUx.out).other (by omega) _).other (by omega) _)
      have HX8 := Hq (show Bx2 W8 w.heap.size (.bool false) (.string ⟨#[]⟩) 28 from by rw [← hW8]; exact ((Bx2.next (show Bx2 wdx _ _ _ _ from by rw [← hwdx]; exact HXW.out) HUx.out).other (by omega) _).other (by omega) _)
      have HY8 := Hq (show Bx2 W8 (w.heap.size + 1) (.bool false) (.string ⟨#[]⟩) 28 from by rw [← hW8]; exact ((Bx2.next (show Bx2 wdx _ _ _ _ from by rw [← hwdx]; exact HYW.out) HUx.out).other (by omega) _).other (by omega) _)
      have HB8' := Hq (show Below w.heap.size w W8 from by
       rw [← hW8]
       have hbd : Below w.heap.size w wdx := by rw [← hwdx]; exact HBW.out.drew
       exact ((hbd.trans (HUx.out.mono hbd.size)).setCell (p := ⟨P, 0, none⟩) (by simp; omega) _).setCell (p := ⟨P, 1, none⟩) (by simp; omega) _)
      rw [hW8]
      clear hW8 HSW HTW HXW HYW HBW HRx HUx HQx HB3 HB4 s0 s1 a0 a1 af0 af1 hwdx
      obtain ⟨wdy, hwdy⟩ : ∃ wd, W8.drew = wd := ⟨_, rfl⟩
      have hqy := HT8.out
      replace hqy := (show Bx4 W8.drew (P + 1) _ _ _ _ _ from hqy)
      rw [hwdy] at hqy
      have HQy := Hq hqy
      obtain ⟨s0, s1, _, _⟩ := hqy.cells
      clear hqy
      refine wp_region_K 9 (Below (wdy).heap.size (wdy)) (by kernel_rfl) ?_
      intro hD
      rw [hwdy]
      refine wpAnyK_pure (i := 0) (v := ?v17_0b3) (fuel := 9) rfl (by kernel_rfl) (fun _ _ _ h => h) hD (Below.refl _ _) (.inl ⟨by kernel_rfl, ?y17_0b3⟩) ?n17_0b3
      case y17_0b3 => intro w' _; go_simp; with_reducible rfl
      clear hD; intro hD
      simp only [Act.put, sqA, sqB, sqC]
      refine wpAnyK_take (i := 1) (v := ?v17_1b3) (fuel := 8) rfl (by kernel_rfl) (by kernel_rfl) (fun _ _ _ h => h) hD (Below.refl _ _) (.inl ⟨by kernel_rfl, ?y17_1b3⟩) ?n17_1b3
      case y17_1b3 => intro w' hS'; have e0 := cell_kept hS' (Nat.le_refl _) s0; have e1 := cell_kept hS' (Nat.le_refl _) s1; go_simp; with_reducible rfl
      clear hD; intro hD
      simp only [Act.put, sqA, sqB, sqC]
      refine wpAnyK_pure (i := 2) (v := ?v17_2b3) (fuel := 7) rfl (by kernel_rfl) (fun _ _ _ h => h) hD (Below.refl _ _) (.inl ⟨by kernel_rfl, ?y17_2b3⟩) ?n17_2b3
      case y17_2b3 => intro w' _; go_simp; with_reducible rfl
      clear hD; intro hD
      simp only [Act.put, sqA, sqB, sqC]
      refine wpAnyK_one (i := 3) (fuel := 6) (by kernel_rfl) rfl hD ?_; clear hD; intro K3 hK3
      go_wp2_with fail
      refine (HFY.out _).mono ?_
      rintro ev wfy ⟨rfl, hbf⟩
      have HB3 := Hq hbf
      clear hbf
      go_wp2
      refine hK3 _ _ (by exact HB3.out) ?_; clear hK3; intro hS_17_3 hD
      refine wpAnyK_one (i := 4) (fuel := 5) (by kernel_rfl) rfl hD ?_; clear hD; intro K4 hK4
      go_wp2_with fail
      refine (HAY.out _).mono ?_
      rintro ev wgy ⟨rfl, hbg⟩
      have HB4 := Hq hbg
      have HUy := Hq (HB3.out.trans (hbg.mono HB3.out.size))
      have HRy := Hq (HQy.out.kept HUy.out HQy.out.lt)
      clear hbg
      obtain ⟨a0, a1, _, _⟩ := HRy.out.cells
      have af0 := HRy.out.free 0
      have af1 := HRy.out.free 1
      go_wp2
      refine hK4 _ _ (by exact Below.trans hS_17_3 (Below.mono HB4.out (Below.size hS_17_3))) ?_; clear hK4; intro hS_17_4 hD
      refine wpAnyK_pure (i := 5) (v := ?v17_5b3) (fuel := 4) rfl (by kernel_rfl) (fun _ _ _ h => h) hD hS_17_4 (.inl ⟨by kernel_rfl, ?y17_5b3⟩) ?n17_5b3
      case y17_5b3 => intro w' _; go_simp; with_reducible rfl
      clear hD; intro hD
      simp only [Act.put, sqA, sqB, sqC]
      refine wpAnyK_pure (i := 6) (v := ?v17_6b3) (fuel := 3) rfl (by kernel_rfl) (fun _ _ _ h => h) hD hS_17_4 (.inl ⟨by kernel_rfl, ?y17_6b3⟩) ?n17_6b3
      case y17_6b3 => intro w' _; go_simp; with_reducible rfl
      clear hD; intro hD
      simp only [Act.put, sqA, sqB, sqC]
      refine wpAnyK_pure (i := 7) (v := ?v17_7b3) (fuel := 2) rfl (by kernel_rfl) (fun _ _ _ h => h) hD hS_17_4 (.inl ⟨by kernel_rfl, ?y17_7b3⟩) ?n17_7b3
      case y17_7b3 => intro w' _; go_simp; with_reducible rfl
      clear hD; intro hD
      simp only [Act.put, sqA, sqB, sqC]
      refine wpAnyK_pure (i := 8) (v := ?v17_8b3) (fuel := 1) rfl (by kernel_rfl) (fun _ _ _ h => h) hD hS_17_4 (.inl ⟨by kernel_rfl, ?y17_8b3⟩) ?n17_8b3
      case y17_8b3 => intro w' _; go_simp; with_reducible rfl
      clear hD; intro hD
      simp only [Act.put, sqA, sqB, sqC]
      refine wpAnyK_oneT (i := 9) (fuel := 0) (by kernel_rfl) rfl hD (by kernel_rfl) ?_; clear hD; intro K9 hK9
      go_wp2
      refine hK9 _ _ ?_; clear hK9; intro hD
      refine wpAnyK_done (by kernel_rfl) ?_ 0
      clear hD
      go_wp2
      obtain ⟨W9, hW9⟩ : ∃ W9, (wgy.setCell ⟨P + 1, 0, none⟩ (.bool cy)).setCell ⟨P + 1, 1, none⟩ (.string ry) = W9 := ⟨_, rfl⟩
      have HT9 := Hq (show Bx4 W9 (P + 1) (.bool cy) (.string ry) _ _ _ from by rw [← hW9]; exact HRy.out.set2)
      have HS9 := Hq (show Bx4 W9 P (.bool false) (.string rx) (.bool (decide (x1 < 0))) (.string (nS x1.natAbs)) 165 from by rw [← hW9]; exact ((Bx4.next (show Bx4 wdy P _ _ _ _ _ from by rw [← hwdy]; exact HS8.out) HUy.out).other (by omega) _).other (by omega) _)
      have HX9 := Hq (show Bx2 W9 w.heap.size (.bool false) (.string ⟨#[]⟩) 28 from by rw [← hW9]; exact ((Bx2.next (show Bx2 wdy _ _ _ _ from by rw [← hwdy]; exact HX8.out) HUy.out).other (by omega) _).other (by omega) _)
      have HY9 := Hq (show Bx2 W9 (w.heap.size + 1) (.bool false) (.string ⟨#[]⟩) 28 from by rw [← hW9]; exact ((Bx2.next (show Bx2 wdy _ _ _ _ from by rw [← hwdy]; exact HY8.out) HUy.out).other (by omega) _).other (by omega) _)
      have HB9 := Hq (show Below w.heap.size w W9 from by
       rw [← hW9]
       have hbd : Below w.heap.size w wdy := by rw [← hwdy]; exact HB8'.out.drew
       exact ((hbd.trans (HUy.out.mono hbd.size)).setCell (p := ⟨P + 1, 0, none⟩) (by simp; omega) _).setCell (p := ⟨P + 1, 1, none⟩) (by simp; omega) _)
      rw [hW9]
      clear hW9 HS8 HT8 HX8 HY8 HB8' HRy HUy HQy HB3 HB4 s0 s1 a0 a1 af0 af1 hwdy
      have erx := HRX.out
      have ery := HRY.out
      have ecy := HCY.out
      subst erx ery ecy
      obtain ⟨wd, hwd⟩ : ∃ wd, W9.drew = wd := ⟨_, rfl⟩
      obtain ⟨s0, s1, s2, s3⟩ := (show Bx4 wd P _ _ _ _ _ from by rw [← hwd]; exact HS9.out).cells
      obtain ⟨t0, t1, t2, t3⟩ := (show Bx4 wd (P + 1) _ _ _ _ _ from by rw [← hwd]; exact HT9.out).cells
      have HXd := Hq (show Bx2 wd w.heap.size (.bool false) (.string ⟨#[]⟩) 28 from by rw [← hwd]; exact HX9.out)
      have HYd := Hq (show Bx2 wd (w.heap.size + 1) (.bool false) (.string ⟨#[]⟩) 28 from by rw [← hwd]; exact HY9.out)
      have HBd := Hq (show Below w.heap.size w wd from by rw [← hwd]; exact HB9.out.drew)
      have xf0 := HXd.out.f0
      have xf1 := HXd.out.f1
      have yf0 := HYd.out.f0
      have yf1 := HYd.out.f1
      have xc0 := HXd.out.c0
      have xc1 := HXd.out.c1
      have yc0 := HYd.out.c0
      have yc1 := HYd.out.c1
      refine wp_region_K 9 (Off2 w.heap.size wd) (by kernel_rfl) ?_
      intro hD
      rw [hwd]
      refine wpAnyK_pure (i := 0) (v := ?v18_0b4) (fuel := 8) rfl (by kernel_rfl) (fun _ _ _ h => h) hD (Off2.refl _ _) (.inl ⟨by kernel_rfl, ?y18_0b4⟩) ?n18_0b4
      case y18_0b4 => intro w' _; go_simp; with_reducible rfl
      clear hD; intro hD
      simp only [Act.put, sqA, sqB, sqC]
      refine wpAnyK_pure (i := 1) (v := ?v18_1b4) (fuel := 7) rfl (by kernel_rfl) (fun _ _ _ h => h) hD (Off2.refl _ _) (.inl ⟨by kernel_rfl, ?y18_1b4⟩) ?n18_1b4
      case y18_1b4 => intro w' _; go_simp; with_reducible rfl
      clear hD; intro hD
      simp only [Act.put, sqA, sqB, sqC]
      refine wpAnyK_takeS (i := 2) (v := ?v18_2b4) (fuel := 6) rfl (by kernel_rfl) (by kernel_rfl) (fun _ _ _ h => h) hD (Off2.refl _ _) (.inl ⟨by kernel_rfl, ?y18_2b4⟩) ?n18_2b4
      case y18_2b4 => intro w' hS'; have e0 := hS'.cell (by simp; omega) (by simp; omega) s0; have e1 := hS'.cell (by simp; omega) (by simp; omega) s1; have e2 := hS'.cell (by simp; omega) (by simp; omega) t0; have e3 := hS'.cell (by simp; omega) (by simp; omega) t1; go_simp; with_reducible rfl
      clear hD; intro hD
      simp only [Act.put, sqA, sqB, sqC]
      refine wpAnyK_pure (i := 3) (v := ?v18_3b4) (fuel := 5) rfl (by kernel_rfl) (fun _ _ _ h => h) hD (Off2.refl _ _) (.inl ⟨by kernel_rfl, ?y18_3b4⟩) ?n18_3b4
      case y18_3b4 => intro w' _; go_simp; with_reducible rfl
      clear hD; intro hD
      simp only [Act.put, sqA, sqB, sqC]
      refine wpAnyK_takeS (i := 4) (v := ?v18_4b4) (fuel := 4) rfl (by kernel_rfl) (by kernel_rfl) (fun _ _ _ h => h) hD (Off2.refl _ _) (.inl ⟨by kernel_rfl, ?y18_4b4⟩) ?n18_4b4
      case y18_4b4 => intro w' hS'; have e0 := hS'.cell (by simp; omega) (by simp; omega) s0; have e1 := hS'.cell (by simp; omega) (by simp; omega) s1; have e2 := hS'.cell (by simp; omega) (by simp; omega) t0; have e3 := hS'.cell (by simp; omega) (by simp; omega) t1; go_simp; with_reducible rfl
      clear hD; intro hD
      simp only [Act.put, sqA, sqB, sqC]
      refine wpAnyK_one (i := 5) (fuel := 3) (by kernel_rfl) rfl hD ?_; clear hD; intro K5 hK5
      go_wp2
      refine hK5 _ _ (by exact (Off2.refl _ _)) ?_; clear hK5; intro hS_18_5 hD
      refine wpAnyK_one (i := 6) (fuel := 2) (by kernel_rfl) rfl hD ?_; clear hD; intro K6 hK6
      go_wp2
      refine hK6 _ _ (by exact (Off2.set hS_18_5 (.inl rfl) _).set (.inl rfl) _) ?_; clear hK6; intro hS_18_6 hD
      refine wpAnyK_one (i := 7) (fuel := 1) (by kernel_rfl) rfl hD ?_; clear hD; intro K7 hK7
      go_wp2
      refine hK7 _ _ (by exact (Off2.set hS_18_6 (.inr rfl) _).set (.inr rfl) _) ?_; clear hK7; intro hS_18_7 hD
      refine wpAnyK_one (i := 8) (fuel := 0) (by kernel_rfl) rfl hD ?_; clear hD; intro K8 hK8
      go_wp2
      refine hK8 _ _ (by exact hS_18_7) ?_; clear hK8; intro hS_18_8 hD
      refine wpAnyK_done (by kernel_rfl) ?_ 0
      clear hD
      go_wp2
      obtain ⟨q0, q1⟩ : _ ∧ _ := ⟨(((HXd.out.set2 (u := .bool false) (v := .string (nS (xe).natAbs))).other (C := w.heap.size + 1) (k := 0) (by omega) (.bool (decide (ye < 0)))).other (C := w.heap.size + 1) (k := 1) (by omega) (.string (nS (ye).natAbs))).c0, (((HXd.out.set2 (u := .bool false) (v := .string (nS (xe).natAbs))).other (C := w.heap.size + 1) (k := 0) (by omega) (.bool (decide (ye < 0)))).other (C := w.heap.size + 1) (k := 1) (by omega) (.string (nS (ye).natAbs))).c1⟩
      obtain ⟨q2, q3⟩ : _ ∧ _ := ⟨(((HYd.out.other (C := w.heap.size) (k := 0) (by omega) (.bool false)).other (C := w.heap.size) (k := 1) (by omega) (.string (nS (xe).natAbs))).set2 (u := .bool (decide (ye < 0))) (v := .string (nS (ye).natAbs))).c0, (((HYd.out.other (C := w.heap.size) (k := 0) (by omega) (.bool false)).other (C := w.heap.size) (k := 1) (by omega) (.string (nS (xe).natAbs))).set2 (u := .bool (decide (ye < 0))) (v := .string (nS (ye).natAbs))).c1⟩
      have HBf := (((HBd.out.setCell (p := ⟨w.heap.size, 0, none⟩) (Nat.le_refl _) (.bool false)).setCell (p := ⟨w.heap.size, 1, none⟩) (Nat.le_refl _) (.string (nS (xe).natAbs))).setCell (p := ⟨w.heap.size + 1, 0, none⟩) (by simp) (.bool (decide (ye < 0)))).setCell (p := ⟨w.heap.size + 1, 1, none⟩) (by simp) (.string (nS (ye).natAbs))
      refine bodyPost_ret (v := .tuple #[.string (nS r0), .agg #[.bool false, .string (nS (xe).natAbs)], .agg #[.bool (decide (ye < 0)), .string (nS (ye).natAbs)], .int .i64 0]) (by simp [results, Tryz.results113, go_sem, q0, q1, q2, q3]) rfl ⟨xe, ye, ?_, HBf, HZ.out, HXS.out, ?_⟩
      · rw [← HG.out, intV_zV, intV_zV, show decide (xe < 0) = false from decide_eq_false (by have := HZ.out; omega)]; rfl
      · rw [← HG.out]; exact HBE.out
    · have hd : decide (x0 < 0) = false := decide_eq_false hneg
      rw [hd] at s0
      go_wp2
      have HZ := Hq (show 0 ≤ x0 by omega)
      have HBE := Hq HBZ.out
      have HXS := Hq (show x0.natAbs < 18446744073709551616 from Nat.lt_of_le_of_lt (Nat.le_trans HXB.out (Nat.div_le_self _ _)) HB8.out)
      obtain ⟨wd, hwd⟩ : ∃ wd, wr.drew = wd := ⟨_, rfl⟩
      obtain ⟨s0, s1, s2, s3⟩ := (show Bx4 wd P _ _ _ _ _ from by rw [← hwd]; exact HSB.out).cells
      obtain ⟨t0, t1, t2, t3⟩ := (show Bx4 wd (P + 1) _ _ _ _ _ from by rw [← hwd]; exact HTB.out).cells
      have HXd := Hq (show Bx2 wd w.heap.size (.bool false) (.string ⟨#[]⟩) 28 from by rw [← hwd]; exact HX.out)
      have HYd := Hq (show Bx2 wd (w.heap.size + 1) (.bool false) (.string ⟨#[]⟩) 28 from by rw [← hwd]; exact HY.out)
      have HBd := Hq (show Below w.heap.size w wd from by rw [← hwd]; exact HB.out.drew)
      have xf0 := HXd.out.f0
      have xf1 := HXd.out.f1
      have yf0 := HYd.out.f0
      have yf1 := HYd.out.f1
      have xc0 := HXd.out.c0
      have xc1 := HXd.out.c1
      have yc0 := HYd.out.c0
      have yc1 := HYd.out.c1
      refine wp_region_K 9 (Off2 w.heap.size wd) (by kernel_rfl) ?_
      intro hD
      rw [hwd]
      refine wpAnyK_pure (i := 0) (v := ?v18_0b5) (fuel := 8) rfl (by kernel_rfl) (fun _ _ _ h => h) hD (Off2.refl _ _) (.inl ⟨by kernel_rfl, ?y18_0b5⟩) ?n18_0b5
      case y18_0b5 => intro w' _; go_simp; with_reducible rfl
      clear hD; intro hD
      simp only [Act.put, sqA, sqB, sqC]
      refine wpAnyK_pure (i := 1) (v := ?v18_1b5) (fuel := 7) rfl (by kernel_rfl) (fun _ _ _ h => h) hD (Off2.refl _ _) (.inl ⟨by kernel_rfl, ?y18_1b5⟩) ?n18_1b5
      case y18_1b5 => intro w' _; go_simp; with_reducible rfl
      clear hD; intro hD
      simp only [Act.put, sqA, sqB, sqC]
      refine wpAnyK_takeS (i := 2) (v := ?v18_2b5) (fuel := 6) rfl (by kernel_rfl) (by kernel_rfl) (fun _ _ _ h => h) hD (Off2.refl _ _) (.inl ⟨by kernel_rfl, ?y18_2b5⟩) ?n18_2b5
      case y18_2b5 => intro w' hS'; have e0 := hS'.cell (by simp; omega) (by simp; omega) s0; have e1 := hS'.cell (by simp; omega) (by simp; omega) s1; have e2 := hS'.cell (by simp; omega) (by simp; omega) t0; have e3 := hS'.cell (by simp; omega) (by simp; omega) t1; go_simp; with_reducible rfl
      clear hD; intro hD
      simp only [Act.put, sqA, sqB, sqC]
      refine wpAnyK_pure (i := 3) (v := ?v18_3b5) (fuel := 5) rfl (by kernel_rfl) (fun _ _ _ h => h) hD (Off2.refl _ _) (.inl ⟨by kernel_rfl, ?y18_3b5⟩) ?n18_3b5
      case y18_3b5 => intro w' _; go_simp; with_reducible rfl
      clear hD; intro hD
      simp only [Act.put, sqA, sqB, sqC]
      refine wpAnyK_takeS (i := 4) (v := ?v18_4b5) (fuel := 4) rfl (by kernel_rfl) (by kernel_rfl) (fun _ _ _ h => h) hD (Off2.refl _ _) (.inl ⟨by kernel_rfl, ?y18_4b5⟩) ?n18_4b5
      case y18_4b5 => intro w' hS'; have e0 := hS'.cell (by simp; omega) (by simp; omega) s0; have e1 := hS'.cell (by simp; omega) (by simp; omega) s1; have e2 := hS'.cell (by simp; omega) (by simp; omega) t0; have e3 := hS'.cell (by simp; omega) (by simp; omega) t1; go_simp; with_reducible rfl
      clear hD; intro hD
      simp only [Act.put, sqA, sqB, sqC]
      refine wpAnyK_one (i := 5) (fuel := 3) (by kernel_rfl) rfl hD ?_; clear hD; intro K5 hK5
      go_wp2
      refine hK5 _ _ (by exact (Off2.refl _ _)) ?_; clear hK5; intro hS_18_5 hD
      refine wpAnyK_one (i := 6) (fuel := 2) (by kernel_rfl) rfl hD ?_; clear hD; intro K6 hK6
      go_wp2
      refine hK6 _ _ (by exact (Off2.set hS_18_5 (.inl rfl) _).set (.inl rfl) _) ?_; clear hK6; intro hS_18_6 hD
      refine wpAnyK_one (i := 7) (fuel := 1) (by kernel_rfl) rfl hD ?_; clear hD; intro K7 hK7
      go_wp2
      refine hK7 _ _ (by exact (Off2.set hS_18_6 (.inr rfl) _).set (.inr rfl) _) ?_; clear hK7; intro hS_18_7 hD
      refine wpAnyK_one (i := 8) (fuel := 0) (by kernel_rfl) rfl hD ?_; clear hD; intro K8 hK8
      go_wp2
      refine hK8 _ _ (by exact hS_18_7) ?_; clear hK8; intro hS_18_8 hD
      refine wpAnyK_done (by kernel_rfl) ?_ 0
      clear hD
      go_wp2
      obtain ⟨q0, q1⟩ : _ ∧ _ := ⟨(((HXd.out.set2 (u := .bool false) (v := .string (nS (x0).natAbs))).other (C := w.heap.size + 1) (k := 0) (by omega) (.bool (decide (y0 < 0)))).other (C := w.heap.size + 1) (k := 1) (by omega) (.string (nS (y0).natAbs))).c0, (((HXd.out.set2 (u := .bool false) (v := .string (nS (x0).natAbs))).other (C := w.heap.size + 1) (k := 0) (by omega) (.bool (decide (y0 < 0)))).other (C := w.heap.size + 1) (k := 1) (by omega) (.string (nS (y0).natAbs))).c1⟩
      obtain ⟨q2, q3⟩ : _ ∧ _ := ⟨(((HYd.out.other (C := w.heap.size) (k := 0) (by omega) (.bool false)).other (C := w.heap.size) (k := 1) (by omega) (.string (nS (x0).natAbs))).set2 (u := .bool (decide (y0 < 0))) (v := .string (nS (y0).natAbs))).c0, (((HYd.out.other (C := w.heap.size) (k := 0) (by omega) (.bool false)).other (C := w.heap.size) (k := 1) (by omega) (.string (nS (x0).natAbs))).set2 (u := .bool (decide (y0 < 0))) (v := .string (nS (y0).natAbs))).c1⟩
      have HBf := (((HBd.out.setCell (p := ⟨w.heap.size, 0, none⟩) (Nat.le_refl _) (.bool false)).setCell (p := ⟨w.heap.size, 1, none⟩) (Nat.le_refl _) (.string (nS (x0).natAbs))).setCell (p := ⟨w.heap.size + 1, 0, none⟩) (by simp) (.bool (decide (y0 < 0)))).setCell (p := ⟨w.heap.size + 1, 1, none⟩) (by simp) (.string (nS (y0).natAbs))
      refine bodyPost_ret (v := .tuple #[.string (nS r0), .agg #[.bool false, .string (nS (x0).natAbs)], .agg #[.bool (decide (y0 < 0)), .string (nS (y0).natAbs)], .int .i64 0]) (by simp [results, Tryz.results113, go_sem, q0, q1, q2, q3]) rfl ⟨x0, y0, ?_, HBf, HZ.out, HXS.out, ?_⟩
      · rw [← HG.out, intV_zV, intV_zV, show decide (x0 < 0) = false from decide_eq_false (by have := HZ.out; omega)]; rfl
      · rw [← HG.out]; exact HBE.out
end Go.Proofs.YtndmjfkmnjejkaaGreatDoor

/- Walks: dominoref14.Add, Scale. -/
import Derived.Test.YtnnfgphioapmnaaGreatPeBF
import Derived.Test.YtnnfgphioapmnaaGreatPeY
set_option linter.unusedVariables false
set_option linter.unusedSimpArgs false
namespace Go.Proofs.YtnnfgphioapmnaaGreat
open Go.RowKit


set_option maxRecDepth 100000 in
set_option maxHeartbeats 4000000 in
theorem r14_Add (M O G H a b : ByteArray) (hM : M.size ≤ 8) (hO : O.size ≤ 8) (hG : G.size ≤ 1000) (hH : H.size ≤ 1000) (ha : a.size ≤ 1000) (hb : b.size ≤ 1000) (w : World) : Calls Tryz.prog 18 #[kV M O G H, .string a, .string b] w (Ret (adR M O G H a b) w) := by
  have HVB := Lib.hid (r01_Valid b (by omega))
  have HEL := Lib.hid (r14_element M O G H a (nvalid b) hM hO hG hH (by omega))
  have HPR := Lib.hid (r13_Mul M O a b hM hO ha hb)
  rw [ad_el]
  obtain ⟨rs, rc, hpr⟩ : ∃ s k, mlR M O a b = .tuple #[.string s, .int .i64 k] := mlR_form M O a b
  rw [hpr] at HPR ⊢
  obtain ⟨ee, hee⟩ : ∃ ee, elR M O G H a (nvalid b) = ee := ⟨_, rfl⟩
  rw [hee] at HEL ⊢
  obtain ⟨ob, hob⟩ : ∃ ob, nvalid b = ob := ⟨_, rfl⟩
  rw [hob] at HVB HEL
  clear hM hO hG hH ha hb hpr hee hob
  unfold kV gV at *
  by_cases h0 : ee = 0
  · rw [if_pos h0]
    rw [h0] at HEL
    clear h0
    go_enter Tryz.func18, Tryz.ntmps18
    have hx0 := Bx4.new w (.string M) (.string O) (.string G) (.string H) 26
    have hb0 := (Below.refl w.heap.size w).alloc (Nat.le_refl _) (.cells #[.string M, .string O, .string G, .string H] 26)
    obtain ⟨W0, hW0⟩ : ∃ W, w.alloc (.cells #[.string M, .string O, .string G, .string H] 26) = W := ⟨_, rfl⟩
    rw [hW0] at hx0 hb0
    have HX0 := Lib.hid hx0
    have HB0 := Lib.hid hb0
    obtain ⟨g0, g1, g2, g3⟩ := (show Bx4 W0.drew w.heap.size (.string M) (.string O) (.string G) (.string H) 26 from hx0).cells
    clear hx0 hb0
    go_wp2
    try rw [hW0]
    clear hW0
    rename_i K1 hK1
    refine wp_onlyN ?_
    refine wp_region_K 6 (Below (W0.drew).heap.size (W0.drew)) (by kernel_rfl) ?_
    intro hD
    refine wpAnyK_takeSD (i := 0) (d := some 9) (v := ?v1_0b1) (fuel := 5) rfl (by kernel_rfl) (by kernel_rfl) (by kernel_rfl) (fun _ _ _ h => h) hD (Below.refl _ _) (.inl ⟨by kernel_rfl, ?y1_0b1⟩) ?n1_0b1
    case y1_0b1 => intro w' hS'; have e0 := cell_kept hS' (Nat.le_refl _) g0; have e1 := cell_kept hS' (Nat.le_refl _) g1; have e2 := cell_kept hS' (Nat.le_refl _) g2; have e3 := cell_kept hS' (Nat.le_refl _) g3; go_simp; with_reducible rfl
    clear hD; intro hD
    simp only [Act.put, List.setIfInBounds_toArray, List.set_cons_zero, List.set_cons_succ]
    refine wpAnyK_pureD (i := 1) (d := some 10) (v := ?v1_1b1) (fuel := 4) rfl (by kernel_rfl) (by kernel_rfl) (fun _ _ _ h => h) hD (Below.refl _ _) (.inl ⟨by kernel_rfl, ?y1_1b1⟩) ?n1_1b1
    case y1_1b1 => intro w' _; go_simp; with_reducible rfl
    clear hD; intro hD
    simp only [Act.put, List.setIfInBounds_toArray, List.set_cons_zero, List.set_cons_succ]
    refine wpAnyK_pureD (i := 2) (d := some 11) (v := ?v1_2b1) (fuel := 3) rfl (by kernel_rfl) (by kernel_rfl) (fun _ _ _ h => h) hD (Below.refl _ _) (.inl ⟨by kernel_rfl, ?y1_2b1⟩) ?n1_2b1
    case y1_2b1 => intro w' _; go_simp; with_reducible rfl
    clear hD; intro hD
    simp only [Act.put, List.setIfInBounds_toArray, List.set_cons_zero, List.set_cons_succ]
    refine wpAnyK_one (i := 3) (fuel := 2) (by kernel_rfl) rfl hD ?_
    clear hD; intro K3 hK3
    go_wp2_with fail
    refine (HVB.out _).mono ?_
    rintro ev v3 ⟨rfl, rfl⟩
    have HB3 := Lib.hid (Below.refl W0.drew.heap.size W0.drew)
    go_wp2
    refine hK3 _ _ (by exact HB3.out) ?_; clear hK3; intro hS_1_3 hD
    refine wpAnyK_one (i := 4) (fuel := 1) (by kernel_rfl) rfl hD ?_
    clear hD; intro K4 hK4
    go_wp2_with fail
    refine (HEL.out _).mono ?_
    rintro ev v4 ⟨rfl, hb⟩
    have HB4 := Lib.hid hb
    clear hb
    go_wp2
    refine hK4 _ _ (by exact Below.trans hS_1_3 (Below.mono HB4.out (Below.size hS_1_3))) ?_; clear hK4; intro hS_1_4 hD
    refine wpAnyK_one (i := 5) (fuel := 0) (by kernel_rfl) rfl hD ?_
    clear hD; intro K5 hK5
    go_wp2
    refine hK5 _ _ (by exact hS_1_4) ?_; clear hK5; intro hS_1_5 hD
    refine wpAnyK_done (by kernel_rfl) ?_ 0
    clear hD g0 g1 g2 g3
    have hb5 := ((Below.refl W0.heap.size W0).drew).trans hS_1_5
    refine hK1 _ _ ?_
    have HX5 := HX0.out.next hb5
    obtain ⟨c0, c1, c2, c3⟩ := HX5.cells
    have HB5 := Lib.hid ((HB0.out).trans (hb5.mono (HB0.out).size))
    clear hb5
    go_wp2_with fail
    refine (HPR.out _).mono ?_
    rintro ev v6 ⟨rfl, hb⟩
    have HB6 := Lib.hid (HB5.out.trans (hb.mono HB5.out.size))
    clear hb
    go_wp2
    go_ret2
    exact ⟨rfl, HB6.out⟩
  · rw [if_neg h0]
    have hcb : (ee == 0) = false := by rw [beq_eq_false_iff_ne]; exact h0
    have hcb2 : (ee != 0) = true := by rw [bne, hcb]; rfl
    clear h0
    go_enter Tryz.func18, Tryz.ntmps18
    have hx0 := Bx4.new w (.string M) (.string O) (.string G) (.string H) 26
    have hb0 := (Below.refl w.heap.size w).alloc (Nat.le_refl _) (.cells #[.string M, .string O, .string G, .string H] 26)
    obtain ⟨W0, hW0⟩ : ∃ W, w.alloc (.cells #[.string M, .string O, .string G, .string H] 26) = W := ⟨_, rfl⟩
    rw [hW0] at hx0 hb0
    have HX0 := Lib.hid hx0
    have HB0 := Lib.hid hb0
    obtain ⟨g0, g1, g2, g3⟩ := (show Bx4 W0.drew w.heap.size (.string M) (.string O) (.string G) (.string H) 26 from hx0).cells
    clear hx0 hb0
    go_wp2
    try rw [hW0]
    clear hW0
    rename_i K1 hK1
    refine wp_onlyN ?_
    refine wp_region_K 6 (Below (W0.drew).heap.size (W0.drew)) (by kernel_rfl) ?_
    intro hD
    refine wpAnyK_takeSD (i := 0) (d := some 9) (v := ?v1_0b2) (fuel := 5) rfl (by kernel_rfl) (by kernel_rfl) (by kernel_rfl) (fun _ _ _ h => h) hD (Below.refl _ _) (.inl ⟨by kernel_rfl, ?y1_0b2⟩) ?n1_0b2
    case y1_0b2 => intro w' hS'; have e0 := cell_kept hS' (Nat.le_refl _) g0; have e1 := cell_kept hS' (Nat.le_refl _) g1; have e2 := cell_kept hS' (Nat.le_refl _) g2; have e3 := cell_kept hS' (Nat.le_refl _) g3; go_simp; with_reducible rfl
    clear hD; intro hD
    simp only [Act.put, List.setIfInBounds_toArray, List.set_cons_zero, List.set_cons_succ]
    refine wpAnyK_pureD (i := 1) (d := some 10) (v := ?v1_1b2) (fuel := 4) rfl (by kernel_rfl) (by kernel_rfl) (fun _ _ _ h => h) hD (Below.refl _ _) (.inl ⟨by kernel_rfl, ?y1_1b2⟩) ?n1_1b2
    case y1_1b2 => intro w' _; go_simp; with_reducible rfl
    clear hD; intro hD
    simp only [Act.put, List.setIfInBounds_toArray, List.set_cons_zero, List.set_cons_succ]
    refine wpAnyK_pureD (i := 2) (d := some 11) (v := ?v1_2b2) (fuel := 3) rfl (by kernel_rfl) (by kernel_rfl) (fun _ _ _ h => h) hD (Below.refl _ _) (.inl ⟨by kernel_rfl, ?y1_2b2⟩) ?n1_2b2
    case y1_2b2 => intro w' _; go_simp; with_reducible rfl
    clear hD; intro hD
    simp only [Act.put, List.setIfInBounds_toArray, List.set_cons_zero, List.set_cons_succ]
    refine wpAnyK_one (i := 3) (fuel := 2) (by kernel_rfl) rfl hD ?_
    clear hD; intro K3 hK3
    go_wp2_with fail
    refine (HVB.out _).mono ?_
    rintro ev v3 ⟨rfl, rfl⟩
    have HB3 := Lib.hid (Below.refl W0.drew.heap.size W0.drew)
    go_wp2
    refine hK3 _ _ (by exact HB3.out) ?_; clear hK3; intro hS_1_3 hD
    refine wpAnyK_one (i := 4) (fuel := 1) (by kernel_rfl) rfl hD ?_
    clear hD; intro K4 hK4
    go_wp2_with fail
    refine (HEL.out _).mono ?_
    rintro ev v4 ⟨rfl, hb⟩
    have HB4 := Lib.hid hb
    clear hb
    go_wp2
    refine hK4 _ _ (by exact Below.trans hS_1_3 (Below.mono HB4.out (Below.size hS_1_3))) ?_; clear hK4; intro hS_1_4 hD
    refine wpAnyK_one (i := 5) (fuel := 0) (by kernel_rfl) rfl hD ?_
    clear hD; intro K5 hK5
    go_wp2
    refine hK5 _ _ (by exact hS_1_4) ?_; clear hK5; intro hS_1_5 hD
    refine wpAnyK_done (by kernel_rfl) ?_ 0
    clear hD g0 g1 g2 g3
    have hb5 := ((Below.refl W0.heap.size W0).drew).trans hS_1_5
    refine hK1 _ _ ?_
    have HB5 := Lib.hid ((HB0.out).trans (hb5.mono (HB0.out).size))
    clear hb5
    go_wp2
    go_ret2
    exact ⟨rfl, HB5.out⟩

set_option maxRecDepth 100000 in
set_option maxHeartbeats 4000000 in
theorem r14_Scale (M O G H c : ByteArray) (bb : Bool) (bt : ByteArray) (hM : M.size ≤ 8) (hO : O.size ≤ 8) (hG : G.size ≤ 1000) (hH : H.size ≤ 1000) (hc : c.size ≤ 1000) (hb : bt.size ≤ 1000) (w : World) : Calls Tryz.prog 20 #[kV M O G H, .string c, zV bb bt] w (Ret (scR M O G H c bb bt) w) := by
  have HVB := Lib.hid (r02_Valid bb bt (by omega))
  have HEL := Lib.hid (r14_element M O G H c (zvalid bb bt) hM hO hG hH (by omega))
  have HPR := Lib.hid (r13_Exp M O c bb bt hM hO hc hb)
  rw [sc_el]
  obtain ⟨rs, rc, hpr⟩ : ∃ s k, prR M O [c] [(bb, bt)] = .tuple #[.string s, .int .i64 k] := prR_form M O [c] [(bb, bt)]
  rw [hpr] at HPR ⊢
  obtain ⟨ee, hee⟩ : ∃ ee, elR M O G H c (zvalid bb bt) = ee := ⟨_, rfl⟩
  rw [hee] at HEL ⊢
  obtain ⟨ob, hob⟩ : ∃ ob, zvalid bb bt = ob := ⟨_, rfl⟩
  rw [hob] at HVB HEL
  clear hM hO hG hH hc hb hpr hee hob
  unfold kV gV zV at *
  by_cases h0 : ee = 0
  · rw [if_pos h0]
    rw [h0] at HEL
    clear h0
    go_enter Tryz.func20, Tryz.ntmps20
    have hk := KI.new w M O G H bb bt
    obtain ⟨W0, hW0⟩ : ∃ W, (w.alloc (.cells #[.string M, .string O, .string G, .string H] 26)).alloc (.cells #[.bool bb, .string bt] 28) = W := ⟨_, rfl⟩
    rw [hW0] at hk
    have HK := Lib.hid hk
    obtain ⟨g0, g1, g2, g3⟩ := (show Bx4 W0.drew w.heap.size (.string M) (.string O) (.string G) (.string H) 26 from hk.1).cells
    have k0 : W0.drew.cell? ⟨w.heap.size + 1, 0, none⟩ = some (.bool bb) := hk.2.1.c0
    have k1 : W0.drew.cell? ⟨w.heap.size + 1, 1, none⟩ = some (.string bt) := hk.2.1.c1
    clear hk
    go_wp2
    try rw [hW0]
    clear hW0
    rename_i K1 hK1
    refine wp_onlyN ?_
    refine wp_region_K 6 (Below (W0.drew).heap.size (W0.drew)) (by kernel_rfl) ?_
    intro hD
    refine wpAnyK_takeSD (i := 0) (d := some 9) (v := ?v1_0b3) (fuel := 5) rfl (by kernel_rfl) (by kernel_rfl) (by kernel_rfl) (fun _ _ _ h => h) hD (Below.refl _ _) (.inl ⟨by kernel_rfl, ?y1_0b3⟩) ?n1_0b3
    case y1_0b3 => intro w' hS'; have e0 := cell_kept hS' (Nat.le_refl _) g0; have e1 := cell_kept hS' (Nat.le_refl _) g1; have e2 := cell_kept hS' (Nat.le_refl _) g2; have e3 := cell_kept hS' (Nat.le_refl _) g3; have e4 := cell_kept hS' (Nat.le_refl _) k0; have e5 := cell_kept hS' (Nat.le_refl _) k1; go_simp; with_reducible rfl
    clear hD; intro hD
    simp only [Act.put, List.setIfInBounds_toArray, List.set_cons_zero, List.set_cons_succ]
    refine wpAnyK_pureD (i := 1) (d := some 10) (v := ?v1_1b3) (fuel := 4) rfl (by kernel_rfl) (by kernel_rfl) (fun _ _ _ h => h) hD (Below.refl _ _) (.inl ⟨by kernel_rfl, ?y1_1b3⟩) ?n1_1b3
    case y1_1b3 => intro w' _; go_simp; with_reducible rfl
    clear hD; intro hD
    simp only [Act.put, List.setIfInBounds_toArray, List.set_cons_zero, List.set_cons_succ]
    refine wpAnyK_takeSD (i := 2) (d := some 11) (v := ?v1_2b3) (fuel := 3) rfl (by kernel_rfl) (by kernel_rfl) (by kernel_rfl) (fun _ _ _ h => h) hD (Below.refl _ _) (.inl ⟨by kernel_rfl, ?y1_2b3⟩) ?n1_2b3
    case y1_2b3 => intro w' hS'; have e0 := cell_kept hS' (Nat.le_refl _) g0; have e1 := cell_kept hS' (Nat.le_refl _) g1; have e2 := cell_kept hS' (Nat.le_refl _) g2; have e3 := cell_kept hS' (Nat.le_refl _) g3; have e4 := cell_kept hS' (Nat.le_refl _) k0; have e5 := cell_kept hS' (Nat.le_refl _) k1; go_simp; with_reducible rfl
    clear hD; intro hD
    simp only [Act.put, List.setIfInBounds_toArray, List.set_cons_zero, List.set_cons_succ]
    refine wpAnyK_one (i := 3) (fuel := 2) (by kernel_rfl) rfl hD ?_
    clear hD; intro K3 hK3
    go_wp2_with fail
    refine (HVB.out _).mono ?_
    rintro ev v3 ⟨rfl, hb⟩
    have HB3 := Lib.hid hb
    clear hb
    go_wp2
    refine hK3 _ _ (by exact HB3.out) ?_; clear hK3; intro hS_1_3 hD
    refine wpAnyK_one (i := 4) (fuel := 1) (by kernel_rfl) rfl hD ?_
    clear hD; intro K4 hK4
    go_wp2_with fail
    refine (HEL.out _).mono ?_
    rintro ev v4 ⟨rfl, hb⟩
    have HB4 := Lib.hid hb
    clear hb
    go_wp2
    refine hK4 _ _ (by exact Below.trans hS_1_3 (Below.mono HB4.out (Below.size hS_1_3))) ?_; clear hK4; intro hS_1_4 hD
    refine wpAnyK_one (i := 5) (fuel := 0) (by kernel_rfl) rfl hD ?_
    clear hD; intro K5 hK5
    go_wp2
    refine hK5 _ _ (by exact hS_1_4) ?_; clear hK5; intro hS_1_5 hD
    refine wpAnyK_done (by kernel_rfl) ?_ 0
    clear hD g0 g1 g2 g3 k0 k1
    have hb5 := ((Below.refl W0.heap.size W0).drew).trans hS_1_5
    refine hK1 _ _ ?_
    have hk5 := HK.out.next hb5
    obtain ⟨c0, c1, c2, c3⟩ := hk5.1.cells
    have b0 := hk5.2.1.c0
    have b1 := hk5.2.1.c1
    have HB5 := Lib.hid ((HK.out.2.2).trans (hb5.mono (HK.out.2.2).size))
    clear hb5
    go_wp2_with fail
    refine (HPR.out _).mono ?_
    rintro ev v6 ⟨rfl, hb⟩
    have HB6 := Lib.hid (HB5.out.trans (hb.mono HB5.out.size))
    clear hb
    go_wp2
    go_ret2
    exact ⟨rfl, HB6.out⟩
  · rw [if_neg h0]
    have hcb : (ee == 0) = false := by rw [beq_eq_false_iff_ne]; exact h0
    have hcb2 : (ee != 0) = true := by rw [bne, hcb]; rfl
    clear h0
    go_enter Tryz.func20, Tryz.ntmps20
    have hk := KI.new w M O G H bb bt
    obtain ⟨W0, hW0⟩ : ∃ W, (w.alloc (.cells #[.string M, .string O, .string G, .string H] 26)).alloc (.cells #[.bool bb, .string bt] 28) = W := ⟨_, rfl⟩
    rw [hW0] at hk
    have HK := Lib.hid hk
    obtain ⟨g0, g1, g2, g3⟩ := (show Bx4 W0.drew w.heap.size (.string M) (.string O) (.string G) (.string H) 26 from hk.1).cells
    have k0 : W0.drew.cell? ⟨w.heap.size + 1, 0, none⟩ = some (.bool bb) := hk.2.1.c0
    have k1 : W0.drew.cell? ⟨w.heap.size + 1, 1, none⟩ = some (.string bt) := hk.2.1.c1
    clear hk
    go_wp2
    try rw [hW0]
    clear hW0
    rename_i K1 hK1
    refine wp_onlyN ?_
    refine wp_region_K 6 (Below (W0.drew).heap.size (W0.drew)) (by kernel_rfl) ?_
    intro hD
    refine wpAnyK_takeSD (i := 0) (d := some 9) (v := ?v1_0b4) (fuel := 5) rfl (by kernel_rfl) (by kernel_rfl) (by kernel_rfl) (fun _ _ _ h => h) hD (Below.refl _ _) (.inl ⟨by kernel_rfl, ?y1_0b4⟩) ?n1_0b4
    case y1_0b4 => intro w' hS'; have e0 := cell_kept hS' (Nat.le_refl _) g0; have e1 := cell_kept hS' (Nat.le_refl _) g1; have e2 := cell_kept hS' (Nat.le_refl _) g2; have e3 := cell_kept hS' (Nat.le_refl _) g3; have e4 := cell_kept hS' (Nat.le_refl _) k0; have e5 := cell_kept hS' (Nat.le_refl _) k1; go_simp; with_reducible rfl
    clear hD; intro hD
    simp only [Act.put, List.setIfInBounds_toArray, List.set_cons_zero, List.set_cons_succ]
    refine wpAnyK_pureD (i := 1) (d := some 10) (v := ?v1_1b4) (fuel := 4) rfl (by kernel_rfl) (by kernel_rfl) (fun _ _ _ h => h) hD (Below.refl _ _) (.inl ⟨by kernel_rfl, ?y1_1b4⟩) ?n1_1b4
    case y1_1b4 => intro w' _; go_simp; with_reducible rfl
    clear hD; intro hD
    simp only [Act.put, List.setIfInBounds_toArray, List.set_cons_zero, List.set_cons_succ]
    refine wpAnyK_takeSD (i := 2) (d := some 11) (v := ?v1_2b4) (fuel := 3) rfl (by kernel_rfl) (by kernel_rfl) (by kernel_rfl) (fun _ _ _ h => h) hD (Below.refl _ _) (.inl ⟨by kernel_rfl, ?y1_2b4⟩) ?n1_2b4
    case y1_2b4 => intro w' hS'; have e0 := cell_kept hS' (Nat.le_refl _) g0; have e1 := cell_kept hS' (Nat.le_refl _) g1; have e2 := cell_kept hS' (Nat.le_refl _) g2; have e3 := cell_kept hS' (Nat.le_refl _) g3; have e4 := cell_kept hS' (Nat.le_refl _) k0; have e5 := cell_kept hS' (Nat.le_refl _) k1; go_simp; with_reducible rfl
    clear hD; intro hD
    simp only [Act.put, List.setIfInBounds_toArray, List.set_cons_zero, List.set_cons_succ]
    refine wpAnyK_one (i := 3) (fuel := 2) (by kernel_rfl) rfl hD ?_
    clear hD; intro K3 hK3
    go_wp2_with fail
    refine (HVB.out _).mono ?_
    rintro ev v3 ⟨rfl, hb⟩
    have HB3 := Lib.hid hb
    clear hb
    go_wp2
    refine hK3 _ _ (by exact HB3.out) ?_; clear hK3; intro hS_1_3 hD
    refine wpAnyK_one (i := 4) (fuel := 1) (by kernel_rfl) rfl hD ?_
    clear hD; intro K4 hK4
    go_wp2_with fail
    refine (HEL.out _).mono ?_
    rintro ev v4 ⟨rfl, hb⟩
    have HB4 := Lib.hid hb
    clear hb
    go_wp2
    refine hK4 _ _ (by exact Below.trans hS_1_3 (Below.mono HB4.out (Below.size hS_1_3))) ?_; clear hK4; intro hS_1_4 hD
    refine wpAnyK_one (i := 5) (fuel := 0) (by kernel_rfl) rfl hD ?_
    clear hD; intro K5 hK5
    go_wp2
    refine hK5 _ _ (by exact hS_1_4) ?_; clear hK5; intro hS_1_5 hD
    refine wpAnyK_done (by kernel_rfl) ?_ 0
    clear hD g0 g1 g2 g3 k0 k1
    have hb5 := ((Below.refl W0.heap.size W0).drew).trans hS_1_5
    refine hK1 _ _ ?_
    have HB5 := Lib.hid ((HK.out.2.2).trans (hb5.mono (HK.out.2.2).size))
    clear hb5
    go_wp2
    go_ret2
    exact ⟨rfl, HB5.out⟩
end Go.Proofs.YtnnfgphioapmnaaGreat
/- Walk: dominoref14.Shift. -/
set_option linter.unusedVariables false
set_option linter.unusedSimpArgs false
namespace Go.Proofs.YtnnfgphioapmnaaGreat
open Go.RowKit


set_option maxRecDepth 100000 in
set_option maxHeartbeats 4000000 in
theorem r14_Shift (M O G H c : ByteArray) (bb : Bool) (bt : ByteArray) (hM : M.size ≤ 8) (hO : O.size ≤ 8) (hG : G.size ≤ 1000) (hH : H.size ≤ 1000) (hc : c.size ≤ 1000) (hb : bt.size ≤ 1000) (w : World) : Calls Tryz.prog 22 #[kV M O G H, .string c, zV bb bt] w (Ret (sfR M O G H c bb bt) w) := by
  have HVB := Lib.hid (r02_Valid bb bt (by omega))
  have HEL := Lib.hid (r14_element M O G H c (zvalid bb bt) hM hO hG hH (by omega))
  have HO1 := Lib.hid (r02_Of 1 (by decide))
  rw [intV_nat] at HO1
  have HPR := Lib.hid (fun (A B : Option Addr) (w : World) (hl : SlN w A 2 2 [c, G]) (hz : SlZ w B 2 2 [(false, nS 1), (bb, bt)]) => r13_Product M O [c, G] [(false, nS 1), (bb, bt)] A B 2 2 2 2 hM hO (by intro s hs; simp only [List.mem_cons, List.mem_nil_iff, or_false] at hs; rcases hs with rfl | rfl; exact hc; exact hG) (by intro z hz; simp only [List.mem_cons, List.mem_nil_iff, or_false] at hz; rcases hz with rfl | rfl; exact (by decide); exact hb) (by omega) (by omega) w hl hz)
  rw [sf_el]
  obtain ⟨rs, rc, hpr⟩ : ∃ s k, prR M O [c, G] [(false, nS 1), (bb, bt)] = .tuple #[.string s, .int .i64 k] := prR_form M O [c, G] [(false, nS 1), (bb, bt)]
  rw [hpr] at HPR ⊢
  obtain ⟨one, hone⟩ : ∃ x, nS 1 = x := ⟨_, rfl⟩
  rw [hone] at HPR HO1
  have HO1 := Lib.hid (fun w => show Calls Tryz.prog 50 #[.int .i64 1] w (Ret (.agg #[.bool false, .string one]) w) from HO1.out w)
  obtain ⟨ee, hee⟩ : ∃ ee, elR M O G H c (zvalid bb bt) = ee := ⟨_, rfl⟩
  rw [hee] at HEL ⊢
  obtain ⟨ob, hob⟩ : ∃ ob, zvalid bb bt = ob := ⟨_, rfl⟩
  rw [hob] at HVB HEL
  clear hM hO hG hH hc hb hpr hee hob hone
  unfold kV gV zV at *
  by_cases h0 : ee = 0
  · rw [if_pos h0]
    rw [h0] at HEL
    clear h0
    go_enter Tryz.func22, Tryz.ntmps22
    have hk := KI.new w M O G H bb bt
    obtain ⟨W0, hW0⟩ : ∃ W, (w.alloc (.cells #[.string M, .string O, .string G, .string H] 26)).alloc (.cells #[.bool bb, .string bt] 28) = W := ⟨_, rfl⟩
    rw [hW0] at hk
    have HK := Lib.hid hk
    obtain ⟨g0, g1, g2, g3⟩ := (show Bx4 W0.drew w.heap.size (.string M) (.string O) (.string G) (.string H) 26 from hk.1).cells
    have k0 : W0.drew.cell? ⟨w.heap.size + 1, 0, none⟩ = some (.bool bb) := hk.2.1.c0
    have k1 : W0.drew.cell? ⟨w.heap.size + 1, 1, none⟩ = some (.string bt) := hk.2.1.c1
    clear hk
    go_wp2
    try rw [hW0]
    clear hW0
    rename_i K1 hK1
    refine wp_onlyN ?_
    refine wp_region_K 6 (Below (W0.drew).heap.size (W0.drew)) (by kernel_rfl) ?_
    intro hD
    refine wpAnyK_takeSD (i := 0) (d := some 9) (v := ?v1_0b1) (fuel := 5) rfl (by kernel_rfl) (by kernel_rfl) (by kernel_rfl) (fun _ _ _ h => h) hD (Below.refl _ _) (.inl ⟨by kernel_rfl, ?y1_0b1⟩) ?n1_0b1
    case y1_0b1 => intro w' hS'; have e0 := cell_kept hS' (Nat.le_refl _) g0; have e1 := cell_kept hS' (Nat.le_refl _) g1; have e2 := cell_kept hS' (Nat.le_refl _) g2; have e3 := cell_kept hS' (Nat.le_refl _) g3; have e4 := cell_kept hS' (Nat.le_refl _) k0; have e5 := cell_kept hS' (Nat.le_refl _) k1; go_simp; with_reducible rfl
    clear hD; intro hD
    simp only [Act.put, List.setIfInBounds_toArray, List.set_cons_zero, List.set_cons_succ]
    refine wpAnyK_pureD (i := 1) (d := some 10) (v := ?v1_1b1) (fuel := 4) rfl (by kernel_rfl) (by kernel_rfl) (fun _ _ _ h => h) hD (Below.refl _ _) (.inl ⟨by kernel_rfl, ?y1_1b1⟩) ?n1_1b1
    case y1_1b1 => intro w' _; go_simp; with_reducible rfl
    clear hD; intro hD
    simp only [Act.put, List.setIfInBounds_toArray, List.set_cons_zero, List.set_cons_succ]
    refine wpAnyK_takeSD (i := 2) (d := some 11) (v := ?v1_2b1) (fuel := 3) rfl (by kernel_rfl) (by kernel_rfl) (by kernel_rfl) (fun _ _ _ h => h) hD (Below.refl _ _) (.inl ⟨by kernel_rfl, ?y1_2b1⟩) ?n1_2b1
    case y1_2b1 => intro w' hS'; have e0 := cell_kept hS' (Nat.le_refl _) g0; have e1 := cell_kept hS' (Nat.le_refl _) g1; have e2 := cell_kept hS' (Nat.le_refl _) g2; have e3 := cell_kept hS' (Nat.le_refl _) g3; have e4 := cell_kept hS' (Nat.le_refl _) k0; have e5 := cell_kept hS' (Nat.le_refl _) k1; go_simp; with_reducible rfl
    clear hD; intro hD
    simp only [Act.put, List.setIfInBounds_toArray, List.set_cons_zero, List.set_cons_succ]
    refine wpAnyK_one (i := 3) (fuel := 2) (by kernel_rfl) rfl hD ?_
    clear hD; intro K3 hK3
    go_wp2_with fail
    refine (HVB.out _).mono ?_
    rintro ev v3 ⟨rfl, hb⟩
    have HB3 := Lib.hid hb
    clear hb
    go_wp2
    refine hK3 _ _ (by exact HB3.out) ?_; clear hK3; intro hS_1_3 hD
    refine wpAnyK_one (i := 4) (fuel := 1) (by kernel_rfl) rfl hD ?_
    clear hD; intro K4 hK4
    go_wp2_with fail
    refine (HEL.out _).mono ?_
    rintro ev v4 ⟨rfl, hb⟩
    have HB4 := Lib.hid hb
    clear hb
    go_wp2
    refine hK4 _ _ (by exact Below.trans hS_1_3 (Below.mono HB4.out (Below.size hS_1_3))) ?_; clear hK4; intro hS_1_4 hD
    refine wpAnyK_one (i := 5) (fuel := 0) (by kernel_rfl) rfl hD ?_
    clear hD; intro K5 hK5
    go_wp2
    refine hK5 _ _ (by exact hS_1_4) ?_; clear hK5; intro hS_1_5 hD
    refine wpAnyK_done (by kernel_rfl) ?_ 0
    clear hD g0 g1 g2 g3 k0 k1
    have hb5 := ((Below.refl W0.heap.size W0).drew).trans hS_1_5
    refine hK1 _ _ ?_
    have hk5 := HK.out.next hb5
    obtain ⟨c0, c1, c2, c3⟩ := hk5.1.cells
    have b0 := hk5.2.1.c0
    have b1 := hk5.2.1.c1
    have HB5 := Lib.hid ((HK.out.2.2).trans (hb5.mono (HK.out.2.2).size))
    clear hb5
    go_wp2
    rename_i K4 hK4
    obtain ⟨wd, hwd⟩ : ∃ wd, v4.drew = wd := ⟨_, rfl⟩
    have e0 : v4.drew.cell? ⟨w.heap.size, 0, none⟩ = some (.string M) := c0
    have e1 : v4.drew.cell? ⟨w.heap.size, 1, none⟩ = some (.string O) := c1
    have e2 : v4.drew.cell? ⟨w.heap.size, 2, none⟩ = some (.string G) := c2
    have e3 : v4.drew.cell? ⟨w.heap.size + 1, 0, none⟩ = some (.bool bb) := b0
    have e4 : v4.drew.cell? ⟨w.heap.size + 1, 1, none⟩ = some (.string bt) := b1
    have HBD := Lib.hid HB5.out.drew
    rw [hwd] at e0 e1 e2 e3 e4 HBD
    clear c0 c1 c2 c3 b0 b1
    refine wp_region_K 14 (Below (wd).heap.size (wd)) (by kernel_rfl) ?_
    intro hD
    rw [hwd]
    refine wpAnyK_pureD (i := 0) (d := some 17) (v := ?v4_0b2) (fuel := 13) rfl (by kernel_rfl) (by kernel_rfl) (fun _ _ _ h => h) hD (Below.refl _ _) (.inl ⟨by kernel_rfl, ?y4_0b2⟩) ?n4_0b2
    case y4_0b2 => intro w' _; go_simp; with_reducible rfl
    clear hD; intro hD
    simp only [Act.put, List.setIfInBounds_toArray, List.set_cons_zero, List.set_cons_succ]
    refine wpAnyK_takeSD (i := 1) (d := some 18) (v := ?v4_1b2) (fuel := 12) rfl (by kernel_rfl) (by kernel_rfl) (by kernel_rfl) (fun _ _ _ h => h) hD (Below.refl _ _) (.inl ⟨by kernel_rfl, ?y4_1b2⟩) ?n4_1b2
    case y4_1b2 => intro w' hS'; have e0 := cell_kept hS' (Nat.le_refl _) e0; have e1 := cell_kept hS' (Nat.le_refl _) e1; have e2 := cell_kept hS' (Nat.le_refl _) e2; have e3 := cell_kept hS' (Nat.le_refl _) e3; have e4 := cell_kept hS' (Nat.le_refl _) e4; go_simp; with_reducible rfl
    clear hD; intro hD
    simp only [Act.put, List.setIfInBounds_toArray, List.set_cons_zero, List.set_cons_succ]
    refine wpAnyK_pureD (i := 2) (d := some 19) (v := ?v4_2b2) (fuel := 11) rfl (by kernel_rfl) (by kernel_rfl) (fun _ _ _ h => h) hD (Below.refl _ _) (.inl ⟨by kernel_rfl, ?y4_2b2⟩) ?n4_2b2
    case y4_2b2 => intro w' _; go_simp; with_reducible rfl
    clear hD; intro hD
    simp only [Act.put, List.setIfInBounds_toArray, List.set_cons_zero, List.set_cons_succ]
    refine wpAnyK_pureD (i := 3) (d := some 20) (v := ?v4_3b2) (fuel := 10) rfl (by kernel_rfl) (by kernel_rfl) (fun _ _ _ h => h) hD (Below.refl _ _) (.inl ⟨by kernel_rfl, ?y4_3b2⟩) ?n4_3b2
    case y4_3b2 => intro w' _; go_simp; with_reducible rfl
    clear hD; intro hD
    simp only [Act.put, List.setIfInBounds_toArray, List.set_cons_zero, List.set_cons_succ]
    refine wpAnyK_takeSD (i := 4) (d := some 21) (v := ?v4_4b2) (fuel := 9) rfl (by kernel_rfl) (by kernel_rfl) (by kernel_rfl) (fun _ _ _ h => h) hD (Below.refl _ _) (.inl ⟨by kernel_rfl, ?y4_4b2⟩) ?n4_4b2
    case y4_4b2 => intro w' hS'; have e0 := cell_kept hS' (Nat.le_refl _) e0; have e1 := cell_kept hS' (Nat.le_refl _) e1; have e2 := cell_kept hS' (Nat.le_refl _) e2; have e3 := cell_kept hS' (Nat.le_refl _) e3; have e4 := cell_kept hS' (Nat.le_refl _) e4; go_simp; with_reducible rfl
    clear hD; intro hD
    simp only [Act.put, List.setIfInBounds_toArray, List.set_cons_zero, List.set_cons_succ]
    refine wpAnyK_takeSD (i := 7) (d := some 24) (v := ?v4_7b2) (fuel := 8) rfl (by kernel_rfl) (by kernel_rfl) (by kernel_rfl) (fun _ _ _ h => h) hD (Below.refl _ _) (.inl ⟨by kernel_rfl, ?y4_7b2⟩) ?n4_7b2
    case y4_7b2 => intro w' hS'; have e0 := cell_kept hS' (Nat.le_refl _) e0; have e1 := cell_kept hS' (Nat.le_refl _) e1; have e2 := cell_kept hS' (Nat.le_refl _) e2; have e3 := cell_kept hS' (Nat.le_refl _) e3; have e4 := cell_kept hS' (Nat.le_refl _) e4; go_simp; with_reducible rfl
    clear hD; intro hD
    simp only [Act.put, List.setIfInBounds_toArray, List.set_cons_zero, List.set_cons_succ]
    refine wpAnyK_two (i := 5) (i' := 6) (fuel := 7) (by kernel_rfl) rfl rfl hD ?_ ?_ 
    · unfold StepK
      clear hD; intro K5 hK5
      go_wp2
      refine name_world ?_
      intro w5 hw5
      have hb := below_alloc hw5
      have HS5 := Lib.hid (sln_two hw5)
      try (have HS8 := Lib.hid (SlZ.kept hb (Nat.le_refl _) HS8.out))
      have HB5 := Lib.hid hb
      clear hb hw5
      refine hK5 _ _ (by exact Below.trans (B := wd.heap.size) (Below.refl _ _) (Below.mono HB5.out (Below.size (B := wd.heap.size) (Below.refl _ _)))) ?_; clear hK5; intro hS_4_5 hD
      refine wpAnyK_one (i := 6) (fuel := 6) (by kernel_rfl) rfl hD ?_
      clear hD; intro K6 hK6
      go_wp2_with fail
      refine (HO1.out _).mono ?_
      rintro ev w6 ⟨rfl, hb⟩
      try (have HS5 := Lib.hid (SlN.kept hb (Nat.le_refl _) HS5.out))
      have HB6 := Lib.hid hb
      clear hb
      go_wp2
      refine hK6 _ _ (by exact Below.trans (B := wd.heap.size) hS_4_5 (Below.mono HB6.out (Below.size (B := wd.heap.size) hS_4_5))) ?_; clear hK6; intro hS_4_6_5 hD
      refine wpAnyK_one (i := 8) (fuel := 5) (by kernel_rfl) rfl hD ?_
      clear hD; intro K8 hK8
      go_wp2
      refine name_world ?_
      intro w8 hw8
      have hb := below_alloc hw8
      have HS8 := Lib.hid (slz_two hw8)
      try (have HS5 := Lib.hid (SlN.kept hb (Nat.le_refl _) HS5.out))
      have HB8 := Lib.hid hb
      clear hb hw8
      refine hK8 _ _ (by exact Below.trans (B := wd.heap.size) hS_4_6_5 (Below.mono HB8.out (Below.size (B := wd.heap.size) hS_4_6_5))) ?_; clear hK8; intro hS_4_8_5 hD
      refine wpAnyK_one (i := 9) (fuel := 4) (by kernel_rfl) rfl hD ?_
      clear hD; intro K9 hK9
      go_wp2_with fail
      refine (HPR.out _ _ _ HS5.out HS8.out).mono ?_
      rintro ev w9 ⟨rfl, hb⟩
      have HB9 := Lib.hid hb
      clear hb
      go_wp2
      refine hK9 _ _ (by exact Below.trans (B := wd.heap.size) hS_4_8_5 (Below.mono HB9.out (Below.size (B := wd.heap.size) hS_4_8_5))) ?_; clear hK9; intro hS_4_9_5 hD
      refine wpAnyK_pureD (i := 10) (d := some 27) (v := ?v4_10_5b2) (fuel := 3) rfl (by kernel_rfl) (by kernel_rfl) (fun _ _ _ h => h) hD hS_4_9_5 (.inl ⟨by kernel_rfl, ?y4_10_5b2⟩) ?n4_10_5b2
      case y4_10_5b2 => intro w' _; go_simp; with_reducible rfl
      clear hD; intro hD
      simp only [Act.put, List.setIfInBounds_toArray, List.set_cons_zero, List.set_cons_succ]
      refine wpAnyK_pureD (i := 11) (d := some 28) (v := ?v4_11_5b2) (fuel := 2) rfl (by kernel_rfl) (by kernel_rfl) (fun _ _ _ h => h) hD hS_4_9_5 (.inl ⟨by kernel_rfl, ?y4_11_5b2⟩) ?n4_11_5b2
      case y4_11_5b2 => intro w' _; go_simp; with_reducible rfl
      clear hD; intro hD
      simp only [Act.put, List.setIfInBounds_toArray, List.set_cons_zero, List.set_cons_succ]
      refine wpAnyK_one (i := 12) (fuel := 1) (by kernel_rfl) rfl hD ?_
      clear hD; intro K12 hK12
      go_wp2
      refine hK12 _ _ (by exact hS_4_9_5) ?_; clear hK12; intro hS_4_12_5 hD
      refine wpAnyK_one (i := 13) (fuel := 0) (by kernel_rfl) rfl hD ?_
      clear hD; intro K13 hK13
      go_wp2
      refine hK13 _ _ (by exact hS_4_12_5) ?_; clear hK13; intro hS_4_13_5 hD
      refine wpAnyK_done (by kernel_rfl) ?_ 0
      clear hD
      have HBF := Lib.hid (HBD.out.trans (Below.mono hS_4_13_5 HBD.out.size))
      go_wp2
      go_ret2
      exact ⟨rfl, HBF.out⟩
    · unfold StepK
      clear hD; intro K6 hK6
      go_wp2_with fail
      refine (HO1.out _).mono ?_
      rintro ev w6 ⟨rfl, hb⟩
      try (have HS5 := Lib.hid (SlN.kept hb (Nat.le_refl _) HS5.out))
      have HB6 := Lib.hid hb
      clear hb
      go_wp2
      refine hK6 _ _ (by exact Below.trans (B := wd.heap.size) (Below.refl _ _) (Below.mono HB6.out (Below.size (B := wd.heap.size) (Below.refl _ _)))) ?_; clear hK6; intro hS_4_6 hD
      refine wpAnyK_two (i := 5) (i' := 8) (fuel := 6) (by kernel_rfl) rfl rfl hD ?_ ?_ 
      · unfold StepK
        clear hD; intro K5 hK5
        go_wp2
        refine name_world ?_
        intro w5 hw5
        have hb := below_alloc hw5
        have HS5 := Lib.hid (sln_two hw5)
        try (have HS8 := Lib.hid (SlZ.kept hb (Nat.le_refl _) HS8.out))
        have HB5 := Lib.hid hb
        clear hb hw5
        refine hK5 _ _ (by exact Below.trans (B := wd.heap.size) hS_4_6 (Below.mono HB5.out (Below.size (B := wd.heap.size) hS_4_6))) ?_; clear hK5; intro hS_4_5_6 hD
        refine wpAnyK_one (i := 8) (fuel := 5) (by kernel_rfl) rfl hD ?_
        clear hD; intro K8 hK8
        go_wp2
        refine name_world ?_
        intro w8 hw8
        have hb := below_alloc hw8
        have HS8 := Lib.hid (slz_two hw8)
        try (have HS5 := Lib.hid (SlN.kept hb (Nat.le_refl _) HS5.out))
        have HB8 := Lib.hid hb
        clear hb hw8
        refine hK8 _ _ (by exact Below.trans (B := wd.heap.size) hS_4_5_6 (Below.mono HB8.out (Below.size (B := wd.heap.size) hS_4_5_6))) ?_; clear hK8; intro hS_4_8_6_5 hD
        refine wpAnyK_one (i := 9) (fuel := 4) (by kernel_rfl) rfl hD ?_
        clear hD; intro K9 hK9
        go_wp2_with fail
        refine (HPR.out _ _ _ HS5.out HS8.out).mono ?_
        rintro ev w9 ⟨rfl, hb⟩
        have HB9 := Lib.hid hb
        clear hb
        go_wp2
        refine hK9 _ _ (by exact Below.trans (B := wd.heap.size) hS_4_8_6_5 (Below.mono HB9.out (Below.size (B := wd.heap.size) hS_4_8_6_5))) ?_; clear hK9; intro hS_4_9_6_5 hD
        refine wpAnyK_pureD (i := 10) (d := some 27) (v := ?v4_10_6_5b2) (fuel := 3) rfl (by kernel_rfl) (by kernel_rfl) (fun _ _ _ h => h) hD hS_4_9_6_5 (.inl ⟨by kernel_rfl, ?y4_10_6_5b2⟩) ?n4_10_6_5b2
        case y4_10_6_5b2 => intro w' _; go_simp; with_reducible rfl
        clear hD; intro hD
        simp only [Act.put, List.setIfInBounds_toArray, List.set_cons_zero, List.set_cons_succ]
        refine wpAnyK_pureD (i := 11) (d := some 28) (v := ?v4_11_6_5b2) (fuel := 2) rfl (by kernel_rfl) (by kernel_rfl) (fun _ _ _ h => h) hD hS_4_9_6_5 (.inl ⟨by kernel_rfl, ?y4_11_6_5b2⟩) ?n4_11_6_5b2
        case y4_11_6_5b2 => intro w' _; go_simp; with_reducible rfl
        clear hD; intro hD
        simp only [Act.put, List.setIfInBounds_toArray, List.set_cons_zero, List.set_cons_succ]
        refine wpAnyK_one (i := 12) (fuel := 1) (by kernel_rfl) rfl hD ?_
        clear hD; intro K12 hK12
        go_wp2
        refine hK12 _ _ (by exact hS_4_9_6_5) ?_; clear hK12; intro hS_4_12_6_5 hD
        refine wpAnyK_one (i := 13) (fuel := 0) (by kernel_rfl) rfl hD ?_
        clear hD; intro K13 hK13
        go_wp2
        refine hK13 _ _ (by exact hS_4_12_6_5) ?_; clear hK13; intro hS_4_13_6_5 hD
        refine wpAnyK_done (by kernel_rfl) ?_ 0
        clear hD
        have HBF := Lib.hid (HBD.out.trans (Below.mono hS_4_13_6_5 HBD.out.size))
        go_wp2
        go_ret2
        exact ⟨rfl, HBF.out⟩
      · unfold StepK
        clear hD; intro K8 hK8
        go_wp2
        refine name_world ?_
        intro w8 hw8
        have hb := below_alloc hw8
        have HS8 := Lib.hid (slz_two hw8)
        try (have HS5 := Lib.hid (SlN.kept hb (Nat.le_refl _) HS5.out))
        have HB8 := Lib.hid hb
        clear hb hw8
        refine hK8 _ _ (by exact Below.trans (B := wd.heap.size) hS_4_6 (Below.mono HB8.out (Below.size (B := wd.heap.size) hS_4_6))) ?_; clear hK8; intro hS_4_8_6 hD
        refine wpAnyK_one (i := 5) (fuel := 5) (by kernel_rfl) rfl hD ?_
        clear hD; intro K5 hK5
        go_wp2
        refine name_world ?_
        intro w5 hw5
        have hb := below_alloc hw5
        have HS5 := Lib.hid (sln_two hw5)
        try (have HS8 := Lib.hid (SlZ.kept hb (Nat.le_refl _) HS8.out))
        have HB5 := Lib.hid hb
        clear hb hw5
        refine hK5 _ _ (by exact Below.trans (B := wd.heap.size) hS_4_8_6 (Below.mono HB5.out (Below.size (B := wd.heap.size) hS_4_8_6))) ?_; clear hK5; intro hS_4_5_6_8 hD
        refine wpAnyK_one (i := 9) (fuel := 4) (by kernel_rfl) rfl hD ?_
        clear hD; intro K9 hK9
        go_wp2_with fail
        refine (HPR.out _ _ _ HS5.out HS8.out).mono ?_
        rintro ev w9 ⟨rfl, hb⟩
        have HB9 := Lib.hid hb
        clear hb
        go_wp2
        refine hK9 _ _ (by exact Below.trans (B := wd.heap.size) hS_4_5_6_8 (Below.mono HB9.out (Below.size (B := wd.heap.size) hS_4_5_6_8))) ?_; clear hK9; intro hS_4_9_6_8 hD
        refine wpAnyK_pureD (i := 10) (d := some 27) (v := ?v4_10_6_8b2) (fuel := 3) rfl (by kernel_rfl) (by kernel_rfl) (fun _ _ _ h => h) hD hS_4_9_6_8 (.inl ⟨by kernel_rfl, ?y4_10_6_8b2⟩) ?n4_10_6_8b2
        case y4_10_6_8b2 => intro w' _; go_simp; with_reducible rfl
        clear hD; intro hD
        simp only [Act.put, List.setIfInBounds_toArray, List.set_cons_zero, List.set_cons_succ]
        refine wpAnyK_pureD (i := 11) (d := some 28) (v := ?v4_11_6_8b2) (fuel := 2) rfl (by kernel_rfl) (by kernel_rfl) (fun _ _ _ h => h) hD hS_4_9_6_8 (.inl ⟨by kernel_rfl, ?y4_11_6_8b2⟩) ?n4_11_6_8b2
        case y4_11_6_8b2 => intro w' _; go_simp; with_reducible rfl
        clear hD; intro hD
        simp only [Act.put, List.setIfInBounds_toArray, List.set_cons_zero, List.set_cons_succ]
        refine wpAnyK_one (i := 12) (fuel := 1) (by kernel_rfl) rfl hD ?_
        clear hD; intro K12 hK12
        go_wp2
        refine hK12 _ _ (by exact hS_4_9_6_8) ?_; clear hK12; intro hS_4_12_6_8 hD
        refine wpAnyK_one (i := 13) (fuel := 0) (by kernel_rfl) rfl hD ?_
        clear hD; intro K13 hK13
        go_wp2
        refine hK13 _ _ (by exact hS_4_12_6_8) ?_; clear hK13; intro hS_4_13_6_8 hD
        refine wpAnyK_done (by kernel_rfl) ?_ 0
        clear hD
        have HBF := Lib.hid (HBD.out.trans (Below.mono hS_4_13_6_8 HBD.out.size))
        go_wp2
        go_ret2
        exact ⟨rfl, HBF.out⟩
  · rw [if_neg h0]
    have hcb : (ee == 0) = false := by rw [beq_eq_false_iff_ne]; exact h0
    have hcb2 : (ee != 0) = true := by rw [bne, hcb]; rfl
    clear h0
    go_enter Tryz.func22, Tryz.ntmps22
    have hk := KI.new w M O G H bb bt
    obtain ⟨W0, hW0⟩ : ∃ W, (w.alloc (.cells #[.string M, .string O, .string G, .string H] 26)).alloc (.cells #[.bool bb, .string bt] 28) = W := ⟨_, rfl⟩
    rw [hW0] at hk
    have HK := Lib.hid hk
    obtain ⟨g0, g1, g2, g3⟩ := (show Bx4 W0.drew w.heap.size (.string M) (.string O) (.string G) (.string H) 26 from hk.1).cells
    have k0 : W0.drew.cell? ⟨w.heap.size + 1, 0, none⟩ = some (.bool bb) := hk.2.1.c0
    have k1 : W0.drew.cell? ⟨w.heap.size + 1, 1, none⟩ = some (.string bt) := hk.2.1.c1
    clear hk
    go_wp2
    try rw [hW0]
    clear hW0
    rename_i K1 hK1
    refine wp_onlyN ?_
    refine wp_region_K 6 (Below (W0.drew).heap.size (W0.drew)) (by kernel_rfl) ?_
    intro hD
    refine wpAnyK_takeSD (i := 0) (d := some 9) (v := ?v1_0b3) (fuel := 5) rfl (by kernel_rfl) (by kernel_rfl) (by kernel_rfl) (fun _ _ _ h => h) hD (Below.refl _ _) (.inl ⟨by kernel_rfl, ?y1_0b3⟩) ?n1_0b3
    case y1_0b3 => intro w' hS'; have e0 := cell_kept hS' (Nat.le_refl _) g0; have e1 := cell_kept hS' (Nat.le_refl _) g1; have e2 := cell_kept hS' (Nat.le_refl _) g2; have e3 := cell_kept hS' (Nat.le_refl _) g3; have e4 := cell_kept hS' (Nat.le_refl _) k0; have e5 := cell_kept hS' (Nat.le_refl _) k1; go_simp; with_reducible rfl
    clear hD; intro hD
    simp only [Act.put, List.setIfInBounds_toArray, List.set_cons_zero, List.set_cons_succ]
    refine wpAnyK_pureD (i := 1) (d := some 10) (v := ?v1_1b3) (fuel := 4) rfl (by kernel_rfl) (by kernel_rfl) (fun _ _ _ h => h) hD (Below.refl _ _) (.inl ⟨by kernel_rfl, ?y1_1b3⟩) ?n1_1b3
    case y1_1b3 => intro w' _; go_simp; with_reducible rfl
    clear hD; intro hD
    simp only [Act.put, List.setIfInBounds_toArray, List.set_cons_zero, List.set_cons_succ]
    refine wpAnyK_takeSD (i := 2) (d := some 11) (v := ?v1_2b3) (fuel := 3) rfl (by kernel_rfl) (by kernel_rfl) (by kernel_rfl) (fun _ _ _ h => h) hD (Below.refl _ _) (.inl ⟨by kernel_rfl, ?y1_2b3⟩) ?n1_2b3
    case y1_2b3 => intro w' hS'; have e0 := cell_kept hS' (Nat.le_refl _) g0; have e1 := cell_kept hS' (Nat.le_refl _) g1; have e2 := cell_kept hS' (Nat.le_refl _) g2; have e3 := cell_kept hS' (Nat.le_refl _) g3; have e4 := cell_kept hS' (Nat.le_refl _) k0; have e5 := cell_kept hS' (Nat.le_refl _) k1; go_simp; with_reducible rfl
    clear hD; intro hD
    simp only [Act.put, List.setIfInBounds_toArray, List.set_cons_zero, List.set_cons_succ]
    refine wpAnyK_one (i := 3) (fuel := 2) (by kernel_rfl) rfl hD ?_
    clear hD; intro K3 hK3
    go_wp2_with fail
    refine (HVB.out _).mono ?_
    rintro ev v3 ⟨rfl, hb⟩
    have HB3 := Lib.hid hb
    clear hb
    go_wp2
    refine hK3 _ _ (by exact HB3.out) ?_; clear hK3; intro hS_1_3 hD
    refine wpAnyK_one (i := 4) (fuel := 1) (by kernel_rfl) rfl hD ?_
    clear hD; intro K4 hK4
    go_wp2_with fail
    refine (HEL.out _).mono ?_
    rintro ev v4 ⟨rfl, hb⟩
    have HB4 := Lib.hid hb
    clear hb
    go_wp2
    refine hK4 _ _ (by exact Below.trans hS_1_3 (Below.mono HB4.out (Below.size hS_1_3))) ?_; clear hK4; intro hS_1_4 hD
    refine wpAnyK_one (i := 5) (fuel := 0) (by kernel_rfl) rfl hD ?_
    clear hD; intro K5 hK5
    go_wp2
    refine hK5 _ _ (by exact hS_1_4) ?_; clear hK5; intro hS_1_5 hD
    refine wpAnyK_done (by kernel_rfl) ?_ 0
    clear hD g0 g1 g2 g3 k0 k1
    have hb5 := ((Below.refl W0.heap.size W0).drew).trans hS_1_5
    refine hK1 _ _ ?_
    have HB5 := Lib.hid ((HK.out.2.2).trans (hb5.mono (HK.out.2.2).size))
    clear hb5
    go_wp2
    go_ret2
    exact ⟨rfl, HB5.out⟩
end Go.Proofs.YtnnfgphioapmnaaGreat
/- The law PedersenAdds. -/
set_option linter.unusedVariables false
set_option linter.unusedSimpArgs false
namespace Go.Proofs.YtnnfgphioapmnaaGreat
open Go.RowKit

theorem few14_of' {M O G H : ByteArray} (h : few14 M O G H = true) : M.size ≤ 8 ∧ O.size ≤ 8 ∧ G.size ≤ 9 ∧ H.size ≤ 9 := by
  unfold few14 at h
  simp only [Bool.and_eq_true, decide_eq_true_eq] at h
  exact h
theorem shortZ_one {b1 : Bool} {s1 : ByteArray} (h : shortZ [(b1, s1)] = true) : s1.size ≤ 16 := by
  unfold shortZ at h
  simp only [List.all_cons, List.all_nil, Bool.and_true, decide_eq_true_eq] at h
  exact h
theorem adR_form (M O G H a b : ByteArray) : ∃ s c, adR M O G H a b = .tuple #[.string s, .int .i64 c] := by
  unfold adR
  split
  · exact ⟨_, _, rfl⟩
  · split
    · exact mlR_form _ _ _ _
    · exact ⟨_, _, rfl⟩
theorem scR_form (M O G H c : ByteArray) (bb : Bool) (bt : ByteArray) : ∃ s k, scR M O G H c bb bt = .tuple #[.string s, .int .i64 k] := by
  unfold scR
  split
  · exact ⟨_, _, rfl⟩
  · split
    · exact prR_form _ _ _ _
    · exact ⟨_, _, rfl⟩
theorem sfR_form (M O G H c : ByteArray) (bb : Bool) (bt : ByteArray) : ∃ s k, sfR M O G H c bb bt = .tuple #[.string s, .int .i64 k] := by
  unfold sfR
  split
  · exact ⟨_, _, rfl⟩
  · split
    · exact prR_form _ _ _ _
    · exact ⟨_, _, rfl⟩
/-- A key, two numbers and an integer. -/
def KA (w W : World) (M O G H a b : ByteArray) (bb : Bool) (bt : ByteArray) : Prop :=
  Bx4 W w.heap.size (.string M) (.string O) (.string G) (.string H) 26 ∧ Bx2 W (w.heap.size + 1) (.string a) (.string b) 48 ∧ Bx2 W (w.heap.size + 1 + 1) (.bool bb) (.string bt) 28 ∧ Below w.heap.size w W
theorem KA.new (w : World) (M O G H a b : ByteArray) (bb : Bool) (bt : ByteArray) : KA w (((w.alloc (.cells #[.string M, .string O, .string G, .string H] 26)).alloc (.cells #[.string a, .string b] 48)).alloc (.cells #[.bool bb, .string bt] 28)) M O G H a b bb bt := by
  have h1 : Below (w.alloc (.cells #[.string M, .string O, .string G, .string H] 26)).heap.size (w.alloc (.cells #[.string M, .string O, .string G, .string H] 26)) ((w.alloc (.cells #[.string M, .string O, .string G, .string H] 26)).alloc (.cells #[.string a, .string b] 48)) := (Below.refl _ _).alloc (Nat.le_refl _) _
  have h2 : Below ((w.alloc (.cells #[.string M, .string O, .string G, .string H] 26)).alloc (.cells #[.string a, .string b] 48)).heap.size ((w.alloc (.cells #[.string M, .string O, .string G, .string H] 26)).alloc (.cells #[.string a, .string b] 48)) (((w.alloc (.cells #[.string M, .string O, .string G, .string H] 26)).alloc (.cells #[.string a, .string b] 48)).alloc (.cells #[.bool bb, .string bt] 28)) := (Below.refl _ _).alloc (Nat.le_refl _) _
  refine ⟨((Bx4.new w _ _ _ _ _).next h1).next h2, ?_, ?_, (((Below.refl w.heap.size w).alloc (Nat.le_refl _) _).alloc (by simp) _).alloc (by simp; omega) _⟩
  · have := (Bx2.new (w.alloc (.cells #[.string M, .string O, .string G, .string H] 26)) (.string a) (.string b) 48).next h2
    rwa [World.size_alloc] at this
  · have := Bx2.new ((w.alloc (.cells #[.string M, .string O, .string G, .string H] 26)).alloc (.cells #[.string a, .string b] 48)) (.bool bb) (.string bt) 28
    rwa [World.size_alloc, World.size_alloc] at this
theorem KA.next {w W W' : World} {M O G H a b : ByteArray} {bb : Bool} {bt : ByteArray} (h : KA w W M O G H a b bb bt) (hb : Below W.heap.size W W') : KA w W' M O G H a b bb bt :=
  ⟨h.1.next hb, h.2.1.next hb, h.2.2.1.next hb, h.2.2.2.trans (hb.mono (Nat.le_of_lt h.1.lt))⟩
set_option maxRecDepth 100000 in
set_option maxHeartbeats 4000000 in
theorem walk_adds (M O G H a b : ByteArray) (bb : Bool) (bt : ByteArray) (w : World) : Calls Tryz.prog 5 #[kV M O G H, .agg #[.string a, .string b], zV bb bt] w (Ret (.bool true) w) := by
  have HAW := Lib.hid law14_awake
  have HFW := Lib.hid (law14_Few M O G H)
  cases hf : few14 M O G H with
  | false =>
    rw [hf] at HFW
    unfold kV zV at *
    clear hf
    go_enter Tryz.func5, Tryz.ntmps5
    have hk := KA.new w M O G H a b bb bt
    obtain ⟨W0, hW0⟩ : ∃ W, ((w.alloc (.cells #[.string M, .string O, .string G, .string H] 26)).alloc (.cells #[.string a, .string b] 48)).alloc (.cells #[.bool bb, .string bt] 28) = W := ⟨_, rfl⟩
    rw [hW0] at hk
    have HK := Lib.hid hk
    obtain ⟨c0, c1, c2, c3⟩ := hk.1.cells
    have d0 := hk.2.1.c0
    have d1 := hk.2.1.c1
    have b0 := hk.2.2.1.c0
    have b1 := hk.2.2.1.c1
    clear hk
    go_wp2_with fail
    try rw [hW0]
    clear hW0
    refine (HFW.out _).mono ?_
    rintro ev w1 ⟨rfl, hb⟩
    have hk := HK.out.next hb
    have HK := Lib.hid hk
    clear hb c0 c1 c2 c3 d0 d1 b0 b1
    obtain ⟨c0, c1, c2, c3⟩ := hk.1.cells
    have d0 := hk.2.1.c0
    have d1 := hk.2.1.c1
    have b0 := hk.2.2.1.c0
    have b1 := hk.2.2.1.c1
    clear hk
    go_wp2_with fail
    refine (HAW.out _).mono ?_
    rintro ev w2 ⟨rfl, hb⟩
    have hk := HK.out.next hb
    have HK := Lib.hid hk
    clear hb c0 c1 c2 c3 d0 d1 b0 b1
    obtain ⟨c0, c1, c2, c3⟩ := hk.1.cells
    have d0 := hk.2.1.c0
    have d1 := hk.2.1.c1
    have b0 := hk.2.2.1.c0
    have b1 := hk.2.2.1.c1
    clear hk
    go_wp2
    go_ret
    exact ⟨rfl, HK.out.2.2.2⟩
  | true =>
    rw [hf] at HFW
    obtain ⟨h1, h2, h3, h4⟩ := few14_of' hf
    clear hf
    by_cases ha : 9 < a.size
    · have i1 : decide ((9 : Int) < (a.size : Int)) = true := decide_eq_true (by omega)
      unfold kV zV at *
      clear h1 h2 h3 h4 ha
      go_enter Tryz.func5, Tryz.ntmps5
      have hk := KA.new w M O G H a b bb bt
      obtain ⟨W0, hW0⟩ : ∃ W, ((w.alloc (.cells #[.string M, .string O, .string G, .string H] 26)).alloc (.cells #[.string a, .string b] 48)).alloc (.cells #[.bool bb, .string bt] 28) = W := ⟨_, rfl⟩
      rw [hW0] at hk
      have HK := Lib.hid hk
      obtain ⟨c0, c1, c2, c3⟩ := hk.1.cells
      have d0 := hk.2.1.c0
      have d1 := hk.2.1.c1
      have b0 := hk.2.2.1.c0
      have b1 := hk.2.2.1.c1
      clear hk
      go_wp2_with fail
      try rw [hW0]
      clear hW0
      refine (HFW.out _).mono ?_
      rintro ev w1 ⟨rfl, hb⟩
      have hk := HK.out.next hb
      have HK := Lib.hid hk
      clear hb c0 c1 c2 c3 d0 d1 b0 b1
      obtain ⟨c0, c1, c2, c3⟩ := hk.1.cells
      have d0 := hk.2.1.c0
      have d1 := hk.2.1.c1
      have b0 := hk.2.2.1.c0
      have b1 := hk.2.2.1.c1
      clear hk
      go_wp2_with fail
      refine (HAW.out _).mono ?_
      rintro ev w2 ⟨rfl, hb⟩
      have hk := HK.out.next hb
      have HK := Lib.hid hk
      clear hb c0 c1 c2 c3 d0 d1 b0 b1
      obtain ⟨c0, c1, c2, c3⟩ := hk.1.cells
      have d0 := hk.2.1.c0
      have d1 := hk.2.1.c1
      have b0 := hk.2.2.1.c0
      have b1 := hk.2.2.1.c1
      clear hk
      go_wp2
      go_ret
      exact ⟨rfl, HK.out.2.2.2⟩
    · have i1 : decide ((9 : Int) < (a.size : Int)) = false := decide_eq_false (by omega)
      by_cases hbb : 9 < b.size
      · have i2 : decide ((9 : Int) < (b.size : Int)) = true := decide_eq_true (by omega)
        unfold kV zV at *
        clear h1 h2 h3 h4 ha hbb
        go_enter Tryz.func5, Tryz.ntmps5
        have hk := KA.new w M O G H a b bb bt
        obtain ⟨W0, hW0⟩ : ∃ W, ((w.alloc (.cells #[.string M, .string O, .string G, .string H] 26)).alloc (.cells #[.string a, .string b] 48)).alloc (.cells #[.bool bb, .string bt] 28) = W := ⟨_, rfl⟩
        rw [hW0] at hk
        have HK := Lib.hid hk
        obtain ⟨c0, c1, c2, c3⟩ := hk.1.cells
        have d0 := hk.2.1.c0
        have d1 := hk.2.1.c1
        have b0 := hk.2.2.1.c0
        have b1 := hk.2.2.1.c1
        clear hk
        go_wp2_with fail
        try rw [hW0]
        clear hW0
        refine (HFW.out _).mono ?_
        rintro ev w1 ⟨rfl, hb⟩
        have hk := HK.out.next hb
        have HK := Lib.hid hk
        clear hb c0 c1 c2 c3 d0 d1 b0 b1
        obtain ⟨c0, c1, c2, c3⟩ := hk.1.cells
        have d0 := hk.2.1.c0
        have d1 := hk.2.1.c1
        have b0 := hk.2.2.1.c0
        have b1 := hk.2.2.1.c1
        clear hk
        go_wp2_with fail
        refine (HAW.out _).mono ?_
        rintro ev w2 ⟨rfl, hb⟩
        have hk := HK.out.next hb
        have HK := Lib.hid hk
        clear hb c0 c1 c2 c3 d0 d1 b0 b1
        obtain ⟨c0, c1, c2, c3⟩ := hk.1.cells
        have d0 := hk.2.1.c0
        have d1 := hk.2.1.c1
        have b0 := hk.2.2.1.c0
        have b1 := hk.2.2.1.c1
        clear hk
        go_wp2
        go_ret
        exact ⟨rfl, HK.out.2.2.2⟩
      · have i2 : decide ((9 : Int) < (b.size : Int)) = false := decide_eq_false (by omega)
        have HSW := Lib.hid (fun (A : Option Addr) (w : World) (hz : SlZ w A 1 1 [(bb, bt)]) => law14_short [(bb, bt)] A 1 1 (by omega) w hz)
        cases hs : shortZ [(bb, bt)] with
        | false =>
          rw [hs] at HSW
          unfold kV zV at *
          clear h1 h2 h3 h4 ha hbb hs
          go_enter Tryz.func5, Tryz.ntmps5
          have hk := KA.new w M O G H a b bb bt
          obtain ⟨W0, hW0⟩ : ∃ W, ((w.alloc (.cells #[.string M, .string O, .string G, .string H] 26)).alloc (.cells #[.string a, .string b] 48)).alloc (.cells #[.bool bb, .string bt] 28) = W := ⟨_, rfl⟩
          rw [hW0] at hk
          have HK := Lib.hid hk
          obtain ⟨c0, c1, c2, c3⟩ := hk.1.cells
          have d0 := hk.2.1.c0
          have d1 := hk.2.1.c1
          have b0 := hk.2.2.1.c0
          have b1 := hk.2.2.1.c1
          clear hk
          go_wp2_with fail
          try rw [hW0]
          clear hW0
          refine (HFW.out _).mono ?_
          rintro ev w1 ⟨rfl, hb⟩
          have hk := HK.out.next hb
          have HK := Lib.hid hk
          clear hb c0 c1 c2 c3 d0 d1 b0 b1
          obtain ⟨c0, c1, c2, c3⟩ := hk.1.cells
          have d0 := hk.2.1.c0
          have d1 := hk.2.1.c1
          have b0 := hk.2.2.1.c0
          have b1 := hk.2.2.1.c1
          clear hk
          go_wp2_with fail
          have hs2 := slz_alloc1 w1 bb bt 28
          have hb : Below w1.heap.size w1 (w1.alloc (.cells #[.bool bb, .string bt] 28)) := (Below.refl _ _).alloc (Nat.le_refl _) _
          have HSS := Lib.hid (HSW.out _ _ hs2)
          have hkk := HK.out.next hb
          clear hs2 hb
          try go_wp2_with fail
          refine HSS.out.mono ?_
          rintro ev w2 ⟨rfl, hb⟩
          have hk := hkk.next hb
          have HK := Lib.hid hk
          clear hb hkk c0 c1 c2 c3 d0 d1 b0 b1
          obtain ⟨c0, c1, c2, c3⟩ := hk.1.cells
          have d0 := hk.2.1.c0
          have d1 := hk.2.1.c1
          have b0 := hk.2.2.1.c0
          have b1 := hk.2.2.1.c1
          clear hk
          go_wp2_with fail
          refine (HAW.out _).mono ?_
          rintro ev w3 ⟨rfl, hb⟩
          have hk := HK.out.next hb
          have HK := Lib.hid hk
          clear hb c0 c1 c2 c3 d0 d1 b0 b1
          obtain ⟨c0, c1, c2, c3⟩ := hk.1.cells
          have d0 := hk.2.1.c0
          have d1 := hk.2.1.c1
          have b0 := hk.2.2.1.c0
          have b1 := hk.2.2.1.c1
          clear hk
          go_wp2
          go_ret
          exact ⟨rfl, HK.out.2.2.2⟩
        | true =>
          rw [hs] at HSW
          have h5 := shortZ_one hs
          have HA1 := Lib.hid (pk_Add M O G H a b h1 h2 (by omega) (by omega) (by omega) (by omega))
          have HA2 := Lib.hid (r14_Add M O G H a b h1 h2 (by omega) (by omega) (by omega) (by omega))
          have HS1 := Lib.hid (pk_Scale M O G H a bb bt h1 h2 (by omega) (by omega) (by omega) (by omega))
          have HS2 := Lib.hid (r14_Scale M O G H a bb bt h1 h2 (by omega) (by omega) (by omega) (by omega))
          have HT1 := Lib.hid (pk_Shift M O G H a bb bt h1 h2 (by omega) (by omega) (by omega) (by omega))
          have HT2 := Lib.hid (r14_Shift M O G H a bb bt h1 h2 (by omega) (by omega) (by omega) (by omega))
          obtain ⟨s1, e1, q1⟩ := adR_form M O G H a b
          obtain ⟨s2, e2, q2⟩ := scR_form M O G H a bb bt
          obtain ⟨s3, e3, q3⟩ := sfR_form M O G H a bb bt
          rw [q1] at HA1 HA2
          rw [q2] at HS1 HS2
          rw [q3] at HT1 HT2
          unfold kV zV at *
          clear h1 h2 h3 h4 h5 ha hbb hs q1 q2 q3
          go_enter Tryz.func5, Tryz.ntmps5
          have hk := KA.new w M O G H a b bb bt
          obtain ⟨W0, hW0⟩ : ∃ W, ((w.alloc (.cells #[.string M, .string O, .string G, .string H] 26)).alloc (.cells #[.string a, .string b] 48)).alloc (.cells #[.bool bb, .string bt] 28) = W := ⟨_, rfl⟩
          rw [hW0] at hk
          have HK := Lib.hid hk
          obtain ⟨c0, c1, c2, c3⟩ := hk.1.cells
          have d0 := hk.2.1.c0
          have d1 := hk.2.1.c1
          have b0 := hk.2.2.1.c0
          have b1 := hk.2.2.1.c1
          clear hk
          go_wp2_with fail
          try rw [hW0]
          clear hW0
          refine (HFW.out _).mono ?_
          rintro ev w1 ⟨rfl, hb⟩
          have hk := HK.out.next hb
          have HK := Lib.hid hk
          clear hb c0 c1 c2 c3 d0 d1 b0 b1
          obtain ⟨c0, c1, c2, c3⟩ := hk.1.cells
          have d0 := hk.2.1.c0
          have d1 := hk.2.1.c1
          have b0 := hk.2.2.1.c0
          have b1 := hk.2.2.1.c1
          clear hk
          go_wp2_with fail
          have hs2 := slz_alloc1 w1 bb bt 28
          have hb : Below w1.heap.size w1 (w1.alloc (.cells #[.bool bb, .string bt] 28)) := (Below.refl _ _).alloc (Nat.le_refl _) _
          have HSS := Lib.hid (HSW.out _ _ hs2)
          have hkk := HK.out.next hb
          clear hs2 hb
          try go_wp2_with fail
          refine HSS.out.mono ?_
          rintro ev w2 ⟨rfl, hb⟩
          have hk := hkk.next hb
          have HK := Lib.hid hk
          clear hb hkk c0 c1 c2 c3 d0 d1 b0 b1
          obtain ⟨c0, c1, c2, c3⟩ := hk.1.cells
          have d0 := hk.2.1.c0
          have d1 := hk.2.1.c1
          have b0 := hk.2.2.1.c0
          have b1 := hk.2.2.1.c1
          clear hk
          go_wp2_with fail
          refine (HA1.out _).mono ?_
          rintro ev w3 ⟨rfl, hb⟩
          have hk := HK.out.next hb
          have HK := Lib.hid hk
          clear hb c0 c1 c2 c3 d0 d1 b0 b1
          obtain ⟨c0, c1, c2, c3⟩ := hk.1.cells
          have d0 := hk.2.1.c0
          have d1 := hk.2.1.c1
          have b0 := hk.2.2.1.c0
          have b1 := hk.2.2.1.c1
          clear hk
          go_wp2_with fail
          refine (HA2.out _).mono ?_
          rintro ev w4 ⟨rfl, hb⟩
          have hk := HK.out.next hb
          have HK := Lib.hid hk
          clear hb c0 c1 c2 c3 d0 d1 b0 b1
          obtain ⟨c0, c1, c2, c3⟩ := hk.1.cells
          have d0 := hk.2.1.c0
          have d1 := hk.2.1.c1
          have b0 := hk.2.2.1.c0
          have b1 := hk.2.2.1.c1
          clear hk
          go_wp2_with fail
          refine (HS1.out _).mono ?_
          rintro ev w5 ⟨rfl, hb⟩
          have hk := HK.out.next hb
          have HK := Lib.hid hk
          clear hb c0 c1 c2 c3 d0 d1 b0 b1
          obtain ⟨c0, c1, c2, c3⟩ := hk.1.cells
          have d0 := hk.2.1.c0
          have d1 := hk.2.1.c1
          have b0 := hk.2.2.1.c0
          have b1 := hk.2.2.1.c1
          clear hk
          go_wp2_with fail
          refine (HS2.out _).mono ?_
          rintro ev w6 ⟨rfl, hb⟩
          have hk := HK.out.next hb
          have HK := Lib.hid hk
          clear hb c0 c1 c2 c3 d0 d1 b0 b1
          obtain ⟨c0, c1, c2, c3⟩ := hk.1.cells
          have d0 := hk.2.1.c0
          have d1 := hk.2.1.c1
          have b0 := hk.2.2.1.c0
          have b1 := hk.2.2.1.c1
          clear hk
          go_wp2_with fail
          refine (HT1.out _).mono ?_
          rintro ev w7 ⟨rfl, hb⟩
          have hk := HK.out.next hb
          have HK := Lib.hid hk
          clear hb c0 c1 c2 c3 d0 d1 b0 b1
          obtain ⟨c0, c1, c2, c3⟩ := hk.1.cells
          have d0 := hk.2.1.c0
          have d1 := hk.2.1.c1
          have b0 := hk.2.2.1.c0
          have b1 := hk.2.2.1.c1
          clear hk
          go_wp2_with fail
          refine (HT2.out _).mono ?_
          rintro ev w8 ⟨rfl, hb⟩
          have hk := HK.out.next hb
          have HK := Lib.hid hk
          clear hb c0 c1 c2 c3 d0 d1 b0 b1
          obtain ⟨c0, c1, c2, c3⟩ := hk.1.cells
          have d0 := hk.2.1.c0
          have d1 := hk.2.1.c1
          have b0 := hk.2.2.1.c0
          have b1 := hk.2.2.1.c1
          clear hk
          go_wp2_with fail
          refine (HAW.out _).mono ?_
          rintro ev w9 ⟨rfl, hb⟩
          have hk := HK.out.next hb
          have HK := Lib.hid hk
          clear hb c0 c1 c2 c3 d0 d1 b0 b1
          obtain ⟨c0, c1, c2, c3⟩ := hk.1.cells
          have d0 := hk.2.1.c0
          have d1 := hk.2.1.c1
          have b0 := hk.2.2.1.c0
          have b1 := hk.2.2.1.c1
          clear hk
          go_wp2
          go_ret
          exact ⟨rfl, HK.out.2.2.2⟩
end Go.Proofs.YtnnfgphioapmnaaGreat

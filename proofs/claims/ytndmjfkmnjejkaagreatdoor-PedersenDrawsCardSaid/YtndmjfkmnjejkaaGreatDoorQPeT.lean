import Derived.Test.YtndmjfkmnjejkaaGreatDoorQOpT
set_option linter.unusedVariables false
set_option linter.unusedSimpArgs false
namespace Go.Proofs.YtndmjfkmnjejkaaGreatDoor
set_option maxRecDepth 100000
set_option maxHeartbeats 4000000
open Go.RowKit
theorem pk_Check (M O G H : ByteArray) (hM : M.size ≤ 8) (hO : O.size ≤ 8) (hG : G.size ≤ 1000) (hH : H.size ≤ 1000) (w : World) : Calls Tryz.prog 48 #[kV M O G H] w (Ret (.int .i64 (pkC M O G H)) w) := by
 have HF := Hq (pk_formed M O G H (by omega) (by omega) hG hH)
 have HCK := Hq (pw_Check M O hM hO)
 have HHG := Hq (fun h => pw_Has M O G hM hO h)
 have HHH := Hq (fun h => pw_Has M O H hM hO h)
 have HO1 := Hq (nat_Of 1 (by decide))
 obtain ⟨one, hone⟩ : ∃ v, nS 1 = v := ⟨_, rfl⟩
 have HO1 := Hq (fun w => show Calls Tryz.prog 43 #[.int .u64 1] w (Ret (.string one) w) from by have := HO1.out w; rw [show bstr (encN 1) = one from hone] at this; exact this)
 have HOL := Hq (show one.toList = [1] from by rw [← hone]; exact one_list)
 clear hone hM hO hG hH
 unfold kV gV at *
 go_enter Tryz.func48, Tryz.ntmps48
 have hx0 := Bx4.new w (.string M) (.string O) (.string G) (.string H) 26
 have hb0 := (Below.refl w.heap.size w).alloc (Nat.le_refl _) (.cells #[.string M, .string O, .string G, .string H] 26)
 obtain ⟨W0, hW0⟩ : ∃ W, w.alloc (.cells #[.string M, .string O, .string G, .string H] 26) = W := ⟨_, rfl⟩
 rw [hW0] at hx0 hb0
 have HX0 := Hq hx0
 have HB0 := Hq hb0
 obtain ⟨c0, c1, c2, c3⟩ := hx0.cells
 clear hx0 hb0
 go_wp2_with fail
 try rw [hW0]
 clear hW0
 refine (HF.out _).mono ?_
 rintro ev w1 ⟨rfl, hb⟩
 have hx := HX0.out.next hb
 have HX1 := Hq hx
 have HB1 := Hq (HB0.out.trans (hb.mono HB0.out.size))
 clear hb c0 c1 c2 c3
 obtain ⟨c0, c1, c2, c3⟩ := hx.cells
 clear hx
 cases hf : kF M O G H with
 | false =>
  have HR := Hq (show pkC M O G H = 3 from by unfold pkC; rw [if_pos hf])
  clear hf
  go_wp2
  go_ret
  exact ⟨by rw [HR.out]; rfl, HB1.out⟩
 | true =>
  have hv := hf
  unfold kF at hv
  simp only [Bool.and_eq_true] at hv
  have HHG := Hq (HHG.out hv.1.2)
  have HHH := Hq (HHH.out hv.2)
  have HFF := Hq hf
  clear hv hf
  go_wp2_with fail
  refine (HCK.out _).mono ?_
  rintro ev w2 ⟨rfl, hb⟩
  have hx := HX1.out.next hb
  have HX2 := Hq hx
  have HB2 := Hq (HB1.out.trans (hb.mono HB1.out.size))
  clear hb c0 c1 c2 c3
  obtain ⟨c0, c1, c2, c3⟩ := hx.cells
  clear hx
  by_cases hck : chkK M O = 0
  · have HRV := Hq (show pkC M O G H = if (!hasK M O G || !hasK M O H || (G.toList == [1]) || (H.toList == [1]) || (G.toList == H.toList)) = true then 13 else 0 from by unfold pkC; rw [if_neg (by rw [HFF.out]; decide), if_pos hck])
    rw [hck]
    clear hck
    go_wp2_with fail
    refine (HO1.out _).mono ?_
    rintro ev w3 ⟨rfl, hb⟩
    have hx := HX2.out.next hb
    have HX3 := Hq hx
    have HB3 := Hq (HB2.out.trans (hb.mono HB2.out.size))
    clear hb c0 c1 c2 c3
    obtain ⟨c0, c1, c2, c3⟩ := hx.cells
    clear hx
    go_wp2_with fail
    refine (HHG.out _).mono ?_
    rintro ev w4 ⟨rfl, hb⟩
    have hx := HX3.out.next hb
    have HX4 := Hq hx
    have HB4 := Hq (HB3.out.trans (hb.mono HB3.out.size))
    clear hb c0 c1 c2 c3
    obtain ⟨c0, c1, c2, c3⟩ := hx.cells
    clear hx
    cases hg : hasK M O G with
    | false =>
     have HR := Hq (show pkC M O G H = 13 from by rw [HRV.out, hg]; rfl)
     clear hg
     go_wp2
     go_ret
     exact ⟨by rw [HR.out]; rfl, HB4.out⟩
    | true =>
     have HG1 := Hq hg
     clear hg
     go_wp2_with fail
     refine (HHH.out _).mono ?_
     rintro ev w5 ⟨rfl, hb⟩
     have hx := HX4.out.next hb
     have HX5 := Hq hx
     have HB5 := Hq (HB4.out.trans (hb.mono HB4.out.size))
     clear hb c0 c1 c2 c3
     obtain ⟨c0, c1, c2, c3⟩ := hx.cells
     clear hx
     cases hh : hasK M O H with
     | false =>
      have HR := Hq (show pkC M O G H = 13 from by rw [HRV.out, HG1.out, hh]; rfl)
      clear hh
      go_wp2
      go_ret
      exact ⟨by rw [HR.out]; rfl, HB5.out⟩
     | true =>
      have HRE := Hq (show pkC M O G H = if (!true || !true || (G.toList == one.toList) || (H.toList == one.toList) || (G.toList == H.toList)) = true then 13 else 0 from by rw [HRV.out, HG1.out, hh, HOL.out])
      clear hh HOL HRV
      cases hb1 : (G.toList == one.toList) <;> cases hb2 : (H.toList == one.toList) <;> cases hb3 : (G.toList == H.toList) <;>
      · go_wp2
        go_ret
        exact ⟨by rw [HRE.out, hb1, hb2, hb3]; rfl, HB5.out⟩
  · obtain ⟨cc, hcc⟩ : ∃ cc, chkK M O = cc := ⟨_, rfl⟩
    have HR := Hq (show pkC M O G H = cc from by unfold pkC; rw [if_neg (by rw [HFF.out]; decide), if_neg hck, hcc])
    rw [hcc] at hck ⊢
    have hcb : (cc == 0) = false := by rw [beq_eq_false_iff_ne]; exact hck
    have hcb2 : (cc != 0) = true := by rw [bne, hcb]; rfl
    clear hck hcc
    go_wp2
    go_ret
    exact ⟨by rw [HR.out]; rfl, HB2.out⟩
theorem r14_Check (M O G H : ByteArray) (hM : M.size ≤ 8) (hO : O.size ≤ 8) (hG : G.size ≤ 1000) (hH : H.size ≤ 1000) (w : World) : Calls Tryz.prog 54 #[kV M O G H] w (Ret (.int .i64 (pkC M O G H)) w) := by
 have HF := Hq (r14_form M O G H (by omega) (by omega) hG hH)
 have HCK := Hq (r13_Check M O hM hO)
 have HHG := Hq (fun h => r13_Has M O G hM hO h)
 have HHH := Hq (fun h => r13_Has M O H hM hO h)
 have HO1 := Hq (r01_Of 1 (by decide))
 obtain ⟨one, hone⟩ : ∃ v, nS 1 = v := ⟨_, rfl⟩
 have HO1 := Hq (fun w => show Calls Tryz.prog 101 #[.int .u64 1] w (Ret (.string one) w) from by have := HO1.out w; rw [show bstr (encN 1) = one from hone] at this; exact this)
 have HOL := Hq (show one.toList = [1] from by rw [← hone]; exact one_list)
 clear hone hM hO hG hH
 unfold kV gV at *
 go_enter Tryz.func54, Tryz.ntmps54
 have hx0 := Bx4.new w (.string M) (.string O) (.string G) (.string H) 26
 have hb0 := (Below.refl w.heap.size w).alloc (Nat.le_refl _) (.cells #[.string M, .string O, .string G, .string H] 26)
 obtain ⟨W0, hW0⟩ : ∃ W, w.alloc (.cells #[.string M, .string O, .string G, .string H] 26) = W := ⟨_, rfl⟩
 rw [hW0] at hx0 hb0
 have HX0 := Hq hx0
 have HB0 := Hq hb0
 obtain ⟨c0, c1, c2, c3⟩ := hx0.cells
 clear hx0 hb0
 go_wp2_with fail
 try rw [hW0]
 clear hW0
 refine (HF.out _).mono ?_
 rintro ev w1 ⟨rfl, hb⟩
 have hx := HX0.out.next hb
 have HX1 := Hq hx
 have HB1 := Hq (HB0.out.trans (hb.mono HB0.out.size))
 clear hb c0 c1 c2 c3
 obtain ⟨c0, c1, c2, c3⟩ := hx.cells
 clear hx
 cases hf : kF M O G H with
 | false =>
  have HR := Hq (show pkC M O G H = 3 from by unfold pkC; rw [if_pos hf])
  clear hf
  go_wp2
  go_ret
  exact ⟨by rw [HR.out]; rfl, HB1.out⟩
 | true =>
  have hv := hf
  unfold kF at hv
  simp only [Bool.and_eq_true] at hv
  have HHG := Hq (HHG.out hv.1.2)
  have HHH := Hq (HHH.out hv.2)
  have HFF := Hq hf
  clear hv hf
  go_wp2_with fail
  refine (HCK.out _).mono ?_
  rintro ev w2 ⟨rfl, hb⟩
  have hx := HX1.out.next hb
  have HX2 := Hq hx
  have HB2 := Hq (HB1.out.trans (hb.mono HB1.out.size))
  clear hb c0 c1 c2 c3
  obtain ⟨c0, c1, c2, c3⟩ := hx.cells
  clear hx
  by_cases hck : chkK M O = 0
  · have HRV := Hq (show pkC M O G H = if (!hasK M O G || !hasK M O H || (G.toList == [1]) || (H.toList == [1]) || (G.toList == H.toList)) = true then 13 else 0 from by unfold pkC; rw [if_neg (by rw [HFF.out]; decide), if_pos hck])
    rw [hck]
    clear hck
    go_wp2
    have d0 : w2.drew.cell? ⟨w.heap.size, 0, none⟩ = some (.string M) := c0
    have d1 : w2.drew.cell? ⟨w.heap.size, 1, none⟩ = some (.string O) := c1
    have d2 : w2.drew.cell? ⟨w.heap.size, 2, none⟩ = some (.string G) := c2
    have d3 : w2.drew.cell? ⟨w.heap.size, 3, none⟩ = some (.string H) := c3
    clear c0 c1 c2 c3
    rw [← HOL.out] at HRV
    cases hg : hasK M O G with
    | false =>
     rw [hg] at HHG
     have HR := Hq (show pkC M O G H = 13 from by rw [HRV.out, hg]; rfl)
     clear hg
     refine wp_region_K 33 (Below (w2.drew).heap.size (w2.drew)) (by kernel_rfl) ?_
     intro hD
     have KK1 := Hq (fun w' (hS' : (Below (w2.drew).heap.size (w2.drew)) w') => And.intro (kC hS' d0) (And.intro (kC hS' d1) (And.intro (kC hS' d2) (kC hS' d3))))
     refine rP 0 13 32 rfl hD (Below.refl _ _) ?_; clear hD; intro hD; simp only [Act.put, sqA, sqB, sqC]
     refine rT 1 14 31 rfl hD (Below.refl _ _) (by intro w' hS'; obtain ⟨e0, e1, e2, e3⟩ := KK1.out w' hS'; go_simp; with_reducible rfl) ?_; clear hD; intro hD; simp only [Act.put, sqA, sqB, sqC]
     refine rP 2 15 30 rfl hD (Below.refl _ _) ?_; clear hD; intro hD; simp only [Act.put, sqA, sqB, sqC]
     refine rT 3 16 29 rfl hD (Below.refl _ _) (by intro w' hS'; obtain ⟨e0, e1, e2, e3⟩ := KK1.out w' hS'; go_simp; with_reducible rfl) ?_; clear hD; intro hD; simp only [Act.put, sqA, sqB, sqC]
     refine rO 4 28 rfl hD ?_; clear hD; intro K4 hK4
     go_wp2_with fail
     refine (HHG.out _).mono ?_
     rintro ev v4 ⟨rfl, hb⟩
     have HB4 := Hq hb
     clear hb
     go_wp2
     refine hK4 _ _ (by exact HB4.out) ?_; clear hK4; intro hS_6_4 hD
     refine rP 5 18 27 rfl hD hS_6_4 ?_; clear hD; intro hD; simp only [Act.put, sqA, sqB, sqC]
     refine rP 6 19 26 rfl hD hS_6_4 ?_; clear hD; intro hD; simp only [Act.put, sqA, sqB, sqC]
     refine rU 7 20 25 rfl hD hS_6_4 ?_; clear hD; intro hD; simp only [Act.put, sqA, sqB, sqC]
     refine rU 8 21 24 rfl hD hS_6_4 ?_; clear hD; intro hD; simp only [Act.put, sqA, sqB, sqC]
     refine rU 9 22 23 rfl hD hS_6_4 ?_; clear hD; intro hD; simp only [Act.put, sqA, sqB, sqC]
     refine rU 10 23 22 rfl hD hS_6_4 ?_; clear hD; intro hD; simp only [Act.put, sqA, sqB, sqC]
     refine rU 11 24 21 rfl hD hS_6_4 ?_; clear hD; intro hD; simp only [Act.put, sqA, sqB, sqC]
     refine rU 12 25 20 rfl hD hS_6_4 ?_; clear hD; intro hD; simp only [Act.put, sqA, sqB, sqC]
     refine rP 13 26 19 rfl hD hS_6_4 ?_; clear hD; intro hD; simp only [Act.put, sqA, sqB, sqC]
     refine rP 14 27 18 rfl hD hS_6_4 ?_; clear hD; intro hD; simp only [Act.put, sqA, sqB, sqC]
     refine rU 15 28 17 rfl hD hS_6_4 ?_; clear hD; intro hD; simp only [Act.put, sqA, sqB, sqC]
     refine rU 16 29 16 rfl hD hS_6_4 ?_; clear hD; intro hD; simp only [Act.put, sqA, sqB, sqC]
     refine rU 17 30 15 rfl hD hS_6_4 ?_; clear hD; intro hD; simp only [Act.put, sqA, sqB, sqC]
     refine rU 18 31 14 rfl hD hS_6_4 ?_; clear hD; intro hD; simp only [Act.put, sqA, sqB, sqC]
     refine rP 19 32 13 rfl hD hS_6_4 ?_; clear hD; intro hD; simp only [Act.put, sqA, sqB, sqC]
     refine rP 20 33 12 rfl hD hS_6_4 ?_; clear hD; intro hD; simp only [Act.put, sqA, sqB, sqC]
     refine rU 21 34 11 rfl hD hS_6_4 ?_; clear hD; intro hD; simp only [Act.put, sqA, sqB, sqC]
     refine rU 22 35 10 rfl hD hS_6_4 ?_; clear hD; intro hD; simp only [Act.put, sqA, sqB, sqC]
     refine rU 23 36 9 rfl hD hS_6_4 ?_; clear hD; intro hD; simp only [Act.put, sqA, sqB, sqC]
     refine rU 24 37 8 rfl hD hS_6_4 ?_; clear hD; intro hD; simp only [Act.put, sqA, sqB, sqC]
     refine rP 25 38 7 rfl hD hS_6_4 ?_; clear hD; intro hD; simp only [Act.put, sqA, sqB, sqC]
     refine rP 26 39 6 rfl hD hS_6_4 ?_; clear hD; intro hD; simp only [Act.put, sqA, sqB, sqC]
     refine rU 27 40 5 rfl hD hS_6_4 ?_; clear hD; intro hD; simp only [Act.put, sqA, sqB, sqC]
     refine rU 28 41 4 rfl hD hS_6_4 ?_; clear hD; intro hD; simp only [Act.put, sqA, sqB, sqC]
     refine rU 29 42 3 rfl hD hS_6_4 ?_; clear hD; intro hD; simp only [Act.put, sqA, sqB, sqC]
     refine rU 30 43 2 rfl hD hS_6_4 ?_; clear hD; intro hD; simp only [Act.put, sqA, sqB, sqC]
     refine rU 31 44 1 rfl hD hS_6_4 ?_; clear hD; intro hD; simp only [Act.put, sqA, sqB, sqC]
     refine rP 32 45 0 rfl hD hS_6_4 ?_; clear hD; intro hD; simp only [Act.put, sqA, sqB, sqC]
     refine wpAnyK_done (by kernel_rfl) ?_ 0
     clear hD d0 d1 d2 d3
     have HB9 := Hq (HB2.out.trans (((Below.refl w2.heap.size w2).drew.trans hS_6_4).mono HB2.out.size))
     go_wp2
     go_ret
     exact ⟨by rw [HR.out]; rfl, HB9.out⟩
    | true =>
     rw [hg] at HHG
     cases hh : hasK M O H with
     | false =>
      rw [hh] at HHH
      have HR := Hq (show pkC M O G H = 13 from by rw [HRV.out, hg, hh]; rfl)
      clear hg hh
      refine wp_region_K 33 (Below (w2.drew).heap.size (w2.drew)) (by kernel_rfl) ?_
      intro hD
      have KK2 := Hq (fun w' (hS' : (Below (w2.drew).heap.size (w2.drew)) w') => And.intro (kC hS' d0) (And.intro (kC hS' d1) (And.intro (kC hS' d2) (kC hS' d3))))
      refine rP 0 13 32 rfl hD (Below.refl _ _) ?_; clear hD; intro hD; simp only [Act.put, sqA, sqB, sqC]
      refine rT 1 14 31 rfl hD (Below.refl _ _) (by intro w' hS'; obtain ⟨e0, e1, e2, e3⟩ := KK2.out w' hS'; go_simp; with_reducible rfl) ?_; clear hD; intro hD; simp only [Act.put, sqA, sqB, sqC]
      refine rP 2 15 30 rfl hD (Below.refl _ _) ?_; clear hD; intro hD; simp only [Act.put, sqA, sqB, sqC]
      refine rT 3 16 29 rfl hD (Below.refl _ _) (by intro w' hS'; obtain ⟨e0, e1, e2, e3⟩ := KK2.out w' hS'; go_simp; with_reducible rfl) ?_; clear hD; intro hD; simp only [Act.put, sqA, sqB, sqC]
      refine rO 4 28 rfl hD ?_; clear hD; intro K4 hK4
      go_wp2_with fail
      refine (HHG.out _).mono ?_
      rintro ev v4 ⟨rfl, hb⟩
      have HB4 := Hq hb
      clear hb
      go_wp2
      refine hK4 _ _ (by exact HB4.out) ?_; clear hK4; intro hS_6_4 hD
      refine rP 5 18 27 rfl hD hS_6_4 ?_; clear hD; intro hD; simp only [Act.put, sqA, sqB, sqC]
      refine rP 6 19 26 rfl hD hS_6_4 ?_; clear hD; intro hD; simp only [Act.put, sqA, sqB, sqC]
      refine rP 7 20 25 rfl hD hS_6_4 ?_; clear hD; intro hD; simp only [Act.put, sqA, sqB, sqC]
      refine rT 8 21 24 rfl hD hS_6_4 (by intro w' hS'; obtain ⟨e0, e1, e2, e3⟩ := KK2.out w' hS'; go_simp; with_reducible rfl) ?_; clear hD; intro hD; simp only [Act.put, sqA, sqB, sqC]
      refine rP 9 22 23 rfl hD hS_6_4 ?_; clear hD; intro hD; simp only [Act.put, sqA, sqB, sqC]
      refine rT 10 23 22 rfl hD hS_6_4 (by intro w' hS'; obtain ⟨e0, e1, e2, e3⟩ := KK2.out w' hS'; go_simp; with_reducible rfl) ?_; clear hD; intro hD; simp only [Act.put, sqA, sqB, sqC]
      refine rO 11 21 rfl hD ?_; clear hD; intro K11 hK11
      go_wp2_with fail
      refine (HHH.out _).mono ?_
      rintro ev v11 ⟨rfl, hb⟩
      have HB11 := Hq hb
      clear hb
      go_wp2
      refine hK11 _ _ (by exact Below.trans hS_6_4 (Below.mono HB11.out (Below.size hS_6_4))) ?_; clear hK11; intro hS_6_11 hD
      refine rP 12 25 20 rfl hD hS_6_11 ?_; clear hD; intro hD; simp only [Act.put, sqA, sqB, sqC]
      refine rP 13 26 19 rfl hD hS_6_11 ?_; clear hD; intro hD; simp only [Act.put, sqA, sqB, sqC]
      refine rP 14 27 18 rfl hD hS_6_11 ?_; clear hD; intro hD; simp only [Act.put, sqA, sqB, sqC]
      refine rU 15 28 17 rfl hD hS_6_11 ?_; clear hD; intro hD; simp only [Act.put, sqA, sqB, sqC]
      refine rU 16 29 16 rfl hD hS_6_11 ?_; clear hD; intro hD; simp only [Act.put, sqA, sqB, sqC]
      refine rU 17 30 15 rfl hD hS_6_11 ?_; clear hD; intro hD; simp only [Act.put, sqA, sqB, sqC]
      refine rU 18 31 14 rfl hD hS_6_11 ?_; clear hD; intro hD; simp only [Act.put, sqA, sqB, sqC]
      refine rP 19 32 13 rfl hD hS_6_11 ?_; clear hD; intro hD; simp only [Act.put, sqA, sqB, sqC]
      refine rP 20 33 12 rfl hD hS_6_11 ?_; clear hD; intro hD; simp only [Act.put, sqA, sqB, sqC]
      refine rU 21 34 11 rfl hD hS_6_11 ?_; clear hD; intro hD; simp only [Act.put, sqA, sqB, sqC]
      refine rU 22 35 10 rfl hD hS_6_11 ?_; clear hD; intro hD; simp only [Act.put, sqA, sqB, sqC]
      refine rU 23 36 9 rfl hD hS_6_11 ?_; clear hD; intro hD; simp only [Act.put, sqA, sqB, sqC]
      refine rU 24 37 8 rfl hD hS_6_11 ?_; clear hD; intro hD; simp only [Act.put, sqA, sqB, sqC]
      refine rP 25 38 7 rfl hD hS_6_11 ?_; clear hD; intro hD; simp only [Act.put, sqA, sqB, sqC]
      refine rP 26 39 6 rfl hD hS_6_11 ?_; clear hD; intro hD; simp only [Act.put, sqA, sqB, sqC]
      refine rU 27 40 5 rfl hD hS_6_11 ?_; clear hD; intro hD; simp only [Act.put, sqA, sqB, sqC]
      refine rU 28 41 4 rfl hD hS_6_11 ?_; clear hD; intro hD; simp only [Act.put, sqA, sqB, sqC]
      refine rU 29 42 3 rfl hD hS_6_11 ?_; clear hD; intro hD; simp only [Act.put, sqA, sqB, sqC]
      refine rU 30 43 2 rfl hD hS_6_11 ?_; clear hD; intro hD; simp only [Act.put, sqA, sqB, sqC]
      refine rU 31 44 1 rfl hD hS_6_11 ?_; clear hD; intro hD; simp only [Act.put, sqA, sqB, sqC]
      refine rP 32 45 0 rfl hD hS_6_11 ?_; clear hD; intro hD; simp only [Act.put, sqA, sqB, sqC]
      refine wpAnyK_done (by kernel_rfl) ?_ 0
      clear hD d0 d1 d2 d3
      have HB9 := Hq (HB2.out.trans (((Below.refl w2.heap.size w2).drew.trans hS_6_11).mono HB2.out.size))
      go_wp2
      go_ret
      exact ⟨by rw [HR.out]; rfl, HB9.out⟩
     | true =>
      rw [hh] at HHH
      have HRE := Hq (show pkC M O G H = if (!true || !true || (G.toList == one.toList) || (H.toList == one.toList) || (G.toList == H.toList)) = true then 13 else 0 from by rw [HRV.out, hg, hh])
      clear hg hh
      cases hb1 : (G.toList == one.toList) with
      | true =>
       have HR := Hq (show pkC M O G H = 13 from by rw [HRE.out, hb1]; rfl)
       refine wp_region_K 33 (Below (w2.drew).heap.size (w2.drew)) (by kernel_rfl) ?_
       intro hD
       have KK3 := Hq (fun w' (hS' : (Below (w2.drew).heap.size (w2.drew)) w') => And.intro (kC hS' d0) (And.intro (kC hS' d1) (And.intro (kC hS' d2) (kC hS' d3))))
       refine rP 0 13 32 rfl hD (Below.refl _ _) ?_; clear hD; intro hD; simp only [Act.put, sqA, sqB, sqC]
       refine rT 1 14 31 rfl hD (Below.refl _ _) (by intro w' hS'; obtain ⟨e0, e1, e2, e3⟩ := KK3.out w' hS'; go_simp; with_reducible rfl) ?_; clear hD; intro hD; simp only [Act.put, sqA, sqB, sqC]
       refine rP 2 15 30 rfl hD (Below.refl _ _) ?_; clear hD; intro hD; simp only [Act.put, sqA, sqB, sqC]
       refine rT 3 16 29 rfl hD (Below.refl _ _) (by intro w' hS'; obtain ⟨e0, e1, e2, e3⟩ := KK3.out w' hS'; go_simp; with_reducible rfl) ?_; clear hD; intro hD; simp only [Act.put, sqA, sqB, sqC]
       refine rO 4 28 rfl hD ?_; clear hD; intro K4 hK4
       go_wp2_with fail
       refine (HHG.out _).mono ?_
       rintro ev v4 ⟨rfl, hb⟩
       have HB4 := Hq hb
       clear hb
       go_wp2
       refine hK4 _ _ (by exact HB4.out) ?_; clear hK4; intro hS_6_4 hD
       refine rP 5 18 27 rfl hD hS_6_4 ?_; clear hD; intro hD; simp only [Act.put, sqA, sqB, sqC]
       refine rP 6 19 26 rfl hD hS_6_4 ?_; clear hD; intro hD; simp only [Act.put, sqA, sqB, sqC]
       refine rP 7 20 25 rfl hD hS_6_4 ?_; clear hD; intro hD; simp only [Act.put, sqA, sqB, sqC]
       refine rT 8 21 24 rfl hD hS_6_4 (by intro w' hS'; obtain ⟨e0, e1, e2, e3⟩ := KK3.out w' hS'; go_simp; with_reducible rfl) ?_; clear hD; intro hD; simp only [Act.put, sqA, sqB, sqC]
       refine rP 9 22 23 rfl hD hS_6_4 ?_; clear hD; intro hD; simp only [Act.put, sqA, sqB, sqC]
       refine rT 10 23 22 rfl hD hS_6_4 (by intro w' hS'; obtain ⟨e0, e1, e2, e3⟩ := KK3.out w' hS'; go_simp; with_reducible rfl) ?_; clear hD; intro hD; simp only [Act.put, sqA, sqB, sqC]
       refine rO 11 21 rfl hD ?_; clear hD; intro K11 hK11
       go_wp2_with fail
       refine (HHH.out _).mono ?_
       rintro ev v11 ⟨rfl, hb⟩
       have HB11 := Hq hb
       clear hb
       go_wp2
       refine hK11 _ _ (by exact Below.trans hS_6_4 (Below.mono HB11.out (Below.size hS_6_4))) ?_; clear hK11; intro hS_6_11 hD
       refine rP 12 25 20 rfl hD hS_6_11 ?_; clear hD; intro hD; simp only [Act.put, sqA, sqB, sqC]
       refine rP 13 26 19 rfl hD hS_6_11 ?_; clear hD; intro hD; simp only [Act.put, sqA, sqB, sqC]
       refine rP 14 27 18 rfl hD hS_6_11 ?_; clear hD; intro hD; simp only [Act.put, sqA, sqB, sqC]
       refine rP 15 28 17 rfl hD hS_6_11 ?_; clear hD; intro hD; simp only [Act.put, sqA, sqB, sqC]
       refine rT 16 29 16 rfl hD hS_6_11 (by intro w' hS'; obtain ⟨e0, e1, e2, e3⟩ := KK3.out w' hS'; go_simp; with_reducible rfl) ?_; clear hD; intro hD; simp only [Act.put, sqA, sqB, sqC]
       refine rO 17 15 rfl hD ?_; clear hD; intro K17 hK17
       go_wp2_with fail
       refine (HO1.out _).mono ?_
       rintro ev v17 ⟨rfl, hb⟩
       have HB17 := Hq hb
       clear hb
       go_wp2
       refine hK17 _ _ (by exact Below.trans hS_6_11 (Below.mono HB17.out (Below.size hS_6_11))) ?_; clear hK17; intro hS_6_17 hD
       refine rP 18 31 14 rfl hD hS_6_17 ?_; clear hD; intro hD; simp only [Act.put, sqA, sqB, sqC]
       refine rP 19 32 13 rfl hD hS_6_17 ?_; clear hD; intro hD; simp only [Act.put, sqA, sqB, sqC]
       refine rP 20 33 12 rfl hD hS_6_17 ?_; clear hD; intro hD; simp only [Act.put, sqA, sqB, sqC]
       refine rU 21 34 11 rfl hD hS_6_17 ?_; clear hD; intro hD; simp only [Act.put, sqA, sqB, sqC]
       refine rU 22 35 10 rfl hD hS_6_17 ?_; clear hD; intro hD; simp only [Act.put, sqA, sqB, sqC]
       refine rU 23 36 9 rfl hD hS_6_17 ?_; clear hD; intro hD; simp only [Act.put, sqA, sqB, sqC]
       refine rU 24 37 8 rfl hD hS_6_17 ?_; clear hD; intro hD; simp only [Act.put, sqA, sqB, sqC]
       refine rP 25 38 7 rfl hD hS_6_17 ?_; clear hD; intro hD; simp only [Act.put, sqA, sqB, sqC]
       refine rP 26 39 6 rfl hD hS_6_17 ?_; clear hD; intro hD; simp only [Act.put, sqA, sqB, sqC]
       refine rU 27 40 5 rfl hD hS_6_17 ?_; clear hD; intro hD; simp only [Act.put, sqA, sqB, sqC]
       refine rU 28 41 4 rfl hD hS_6_17 ?_; clear hD; intro hD; simp only [Act.put, sqA, sqB, sqC]
       refine rU 29 42 3 rfl hD hS_6_17 ?_; clear hD; intro hD; simp only [Act.put, sqA, sqB, sqC]
       refine rU 30 43 2 rfl hD hS_6_17 ?_; clear hD; intro hD; simp only [Act.put, sqA, sqB, sqC]
       refine rU 31 44 1 rfl hD hS_6_17 ?_; clear hD; intro hD; simp only [Act.put, sqA, sqB, sqC]
       refine rP 32 45 0 rfl hD hS_6_17 ?_; clear hD; intro hD; simp only [Act.put, sqA, sqB, sqC]
       refine wpAnyK_done (by kernel_rfl) ?_ 0
       clear hD d0 d1 d2 d3
       have HB9 := Hq (HB2.out.trans (((Below.refl w2.heap.size w2).drew.trans hS_6_17).mono HB2.out.size))
       go_wp2
       go_ret
       exact ⟨by rw [HR.out]; rfl, HB9.out⟩
      | false =>
       cases hb2 : (H.toList == one.toList) with
       | true =>
        have HR := Hq (show pkC M O G H = 13 from by rw [HRE.out, hb1, hb2]; rfl)
        refine wp_region_K 33 (Below (w2.drew).heap.size (w2.drew)) (by kernel_rfl) ?_
        intro hD
        have KK4 := Hq (fun w' (hS' : (Below (w2.drew).heap.size (w2.drew)) w') => And.intro (kC hS' d0) (And.intro (kC hS' d1) (And.intro (kC hS' d2) (kC hS' d3))))
        refine rP 0 13 32 rfl hD (Below.refl _ _) ?_; clear hD; intro hD; simp only [Act.put, sqA, sqB, sqC]
        refine rT 1 14 31 rfl hD (Below.refl _ _) (by intro w' hS'; obtain ⟨e0, e1, e2, e3⟩ := KK4.out w' hS'; go_simp; with_reducible rfl) ?_; clear hD; intro hD; simp only [Act.put, sqA, sqB, sqC]
        refine rP 2 15 30 rfl hD (Below.refl _ _) ?_; clear hD; intro hD; simp only [Act.put, sqA, sqB, sqC]
        refine rT 3 16 29 rfl hD (Below.refl _ _) (by intro w' hS'; obtain ⟨e0, e1, e2, e3⟩ := KK4.out w' hS'; go_simp; with_reducible rfl) ?_; clear hD; intro hD; simp only [Act.put, sqA, sqB, sqC]
        refine rO 4 28 rfl hD ?_; clear hD; intro K4 hK4
        go_wp2_with fail
        refine (HHG.out _).mono ?_
        rintro ev v4 ⟨rfl, hb⟩
        have HB4 := Hq hb
        clear hb
        go_wp2
        refine hK4 _ _ (by exact HB4.out) ?_; clear hK4; intro hS_6_4 hD
        refine rP 5 18 27 rfl hD hS_6_4 ?_; clear hD; intro hD; simp only [Act.put, sqA, sqB, sqC]
        refine rP 6 19 26 rfl hD hS_6_4 ?_; clear hD; intro hD; simp only [Act.put, sqA, sqB, sqC]
        refine rP 7 20 25 rfl hD hS_6_4 ?_; clear hD; intro hD; simp only [Act.put, sqA, sqB, sqC]
        refine rT 8 21 24 rfl hD hS_6_4 (by intro w' hS'; obtain ⟨e0, e1, e2, e3⟩ := KK4.out w' hS'; go_simp; with_reducible rfl) ?_; clear hD; intro hD; simp only [Act.put, sqA, sqB, sqC]
        refine rP 9 22 23 rfl hD hS_6_4 ?_; clear hD; intro hD; simp only [Act.put, sqA, sqB, sqC]
        refine rT 10 23 22 rfl hD hS_6_4 (by intro w' hS'; obtain ⟨e0, e1, e2, e3⟩ := KK4.out w' hS'; go_simp; with_reducible rfl) ?_; clear hD; intro hD; simp only [Act.put, sqA, sqB, sqC]
        refine rO 11 21 rfl hD ?_; clear hD; intro K11 hK11
        go_wp2_with fail
        refine (HHH.out _).mono ?_
        rintro ev v11 ⟨rfl, hb⟩
        have HB11 := Hq hb
        clear hb
        go_wp2
        refine hK11 _ _ (by exact Below.trans hS_6_4 (Below.mono HB11.out (Below.size hS_6_4))) ?_; clear hK11; intro hS_6_11 hD
        refine rP 12 25 20 rfl hD hS_6_11 ?_; clear hD; intro hD; simp only [Act.put, sqA, sqB, sqC]
        refine rP 13 26 19 rfl hD hS_6_11 ?_; clear hD; intro hD; simp only [Act.put, sqA, sqB, sqC]
        refine rP 14 27 18 rfl hD hS_6_11 ?_; clear hD; intro hD; simp only [Act.put, sqA, sqB, sqC]
        refine rP 15 28 17 rfl hD hS_6_11 ?_; clear hD; intro hD; simp only [Act.put, sqA, sqB, sqC]
        refine rT 16 29 16 rfl hD hS_6_11 (by intro w' hS'; obtain ⟨e0, e1, e2, e3⟩ := KK4.out w' hS'; go_simp; with_reducible rfl) ?_; clear hD; intro hD; simp only [Act.put, sqA, sqB, sqC]
        refine rO 17 15 rfl hD ?_; clear hD; intro K17 hK17
        go_wp2_with fail
        refine (HO1.out _).mono ?_
        rintro ev v17 ⟨rfl, hb⟩
        have HB17 := Hq hb
        clear hb
        go_wp2
        refine hK17 _ _ (by exact Below.trans hS_6_11 (Below.mono HB17.out (Below.size hS_6_11))) ?_; clear hK17; intro hS_6_17 hD
        refine rP 18 31 14 rfl hD hS_6_17 ?_; clear hD; intro hD; simp only [Act.put, sqA, sqB, sqC]
        refine rP 19 32 13 rfl hD hS_6_17 ?_; clear hD; intro hD; simp only [Act.put, sqA, sqB, sqC]
        refine rP 20 33 12 rfl hD hS_6_17 ?_; clear hD; intro hD; simp only [Act.put, sqA, sqB, sqC]
        refine rP 21 34 11 rfl hD hS_6_17 ?_; clear hD; intro hD; simp only [Act.put, sqA, sqB, sqC]
        refine rT 22 35 10 rfl hD hS_6_17 (by intro w' hS'; obtain ⟨e0, e1, e2, e3⟩ := KK4.out w' hS'; go_simp; with_reducible rfl) ?_; clear hD; intro hD; simp only [Act.put, sqA, sqB, sqC]
        refine rO 23 9 rfl hD ?_; clear hD; intro K23 hK23
        go_wp2_with fail
        refine (HO1.out _).mono ?_
        rintro ev v23 ⟨rfl, hb⟩
        have HB23 := Hq hb
        clear hb
        go_wp2
        refine hK23 _ _ (by exact Below.trans hS_6_17 (Below.mono HB23.out (Below.size hS_6_17))) ?_; clear hK23; intro hS_6_23 hD
        refine rP 24 37 8 rfl hD hS_6_23 ?_; clear hD; intro hD; simp only [Act.put, sqA, sqB, sqC]
        refine rP 25 38 7 rfl hD hS_6_23 ?_; clear hD; intro hD; simp only [Act.put, sqA, sqB, sqC]
        refine rP 26 39 6 rfl hD hS_6_23 ?_; clear hD; intro hD; simp only [Act.put, sqA, sqB, sqC]
        refine rU 27 40 5 rfl hD hS_6_23 ?_; clear hD; intro hD; simp only [Act.put, sqA, sqB, sqC]
        refine rU 28 41 4 rfl hD hS_6_23 ?_; clear hD; intro hD; simp only [Act.put, sqA, sqB, sqC]
        refine rU 29 42 3 rfl hD hS_6_23 ?_; clear hD; intro hD; simp only [Act.put, sqA, sqB, sqC]
        refine rU 30 43 2 rfl hD hS_6_23 ?_; clear hD; intro hD; simp only [Act.put, sqA, sqB, sqC]
        refine rU 31 44 1 rfl hD hS_6_23 ?_; clear hD; intro hD; simp only [Act.put, sqA, sqB, sqC]
        refine rP 32 45 0 rfl hD hS_6_23 ?_; clear hD; intro hD; simp only [Act.put, sqA, sqB, sqC]
        refine wpAnyK_done (by kernel_rfl) ?_ 0
        clear hD d0 d1 d2 d3
        have HB9 := Hq (HB2.out.trans (((Below.refl w2.heap.size w2).drew.trans hS_6_23).mono HB2.out.size))
        go_wp2
        go_ret
        exact ⟨by rw [HR.out]; rfl, HB9.out⟩
       | false =>
        cases hb3 : (G.toList == H.toList) with
        | true =>
         have HR := Hq (show pkC M O G H = 13 from by rw [HRE.out, hb1, hb2, hb3]; rfl)
         refine wp_region_K 33 (Below (w2.drew).heap.size (w2.drew)) (by kernel_rfl) ?_
         intro hD
         have KK5 := Hq (fun w' (hS' : (Below (w2.drew).heap.size (w2.drew)) w') => And.intro (kC hS' d0) (And.intro (kC hS' d1) (And.intro (kC hS' d2) (kC hS' d3))))
         refine rP 0 13 32 rfl hD (Below.refl _ _) ?_; clear hD; intro hD; simp only [Act.put, sqA, sqB, sqC]
         refine rT 1 14 31 rfl hD (Below.refl _ _) (by intro w' hS'; obtain ⟨e0, e1, e2, e3⟩ := KK5.out w' hS'; go_simp; with_reducible rfl) ?_; clear hD; intro hD; simp only [Act.put, sqA, sqB, sqC]
         refine rP 2 15 30 rfl hD (Below.refl _ _) ?_; clear hD; intro hD; simp only [Act.put, sqA, sqB, sqC]
         refine rT 3 16 29 rfl hD (Below.refl _ _) (by intro w' hS'; obtain ⟨e0, e1, e2, e3⟩ := KK5.out w' hS'; go_simp; with_reducible rfl) ?_; clear hD; intro hD; simp only [Act.put, sqA, sqB, sqC]
         refine rO 4 28 rfl hD ?_; clear hD; intro K4 hK4
         go_wp2_with fail
         refine (HHG.out _).mono ?_
         rintro ev v4 ⟨rfl, hb⟩
         have HB4 := Hq hb
         clear hb
         go_wp2
         refine hK4 _ _ (by exact HB4.out) ?_; clear hK4; intro hS_6_4 hD
         refine rP 5 18 27 rfl hD hS_6_4 ?_; clear hD; intro hD; simp only [Act.put, sqA, sqB, sqC]
         refine rP 6 19 26 rfl hD hS_6_4 ?_; clear hD; intro hD; simp only [Act.put, sqA, sqB, sqC]
         refine rP 7 20 25 rfl hD hS_6_4 ?_; clear hD; intro hD; simp only [Act.put, sqA, sqB, sqC]
         refine rT 8 21 24 rfl hD hS_6_4 (by intro w' hS'; obtain ⟨e0, e1, e2, e3⟩ := KK5.out w' hS'; go_simp; with_reducible rfl) ?_; clear hD; intro hD; simp only [Act.put, sqA, sqB, sqC]
         refine rP 9 22 23 rfl hD hS_6_4 ?_; clear hD; intro hD; simp only [Act.put, sqA, sqB, sqC]
         refine rT 10 23 22 rfl hD hS_6_4 (by intro w' hS'; obtain ⟨e0, e1, e2, e3⟩ := KK5.out w' hS'; go_simp; with_reducible rfl) ?_; clear hD; intro hD; simp only [Act.put, sqA, sqB, sqC]
         refine rO 11 21 rfl hD ?_; clear hD; intro K11 hK11
         go_wp2_with fail
         refine (HHH.out _).mono ?_
         rintro ev v11 ⟨rfl, hb⟩
         have HB11 := Hq hb
         clear hb
         go_wp2
         refine hK11 _ _ (by exact Below.trans hS_6_4 (Below.mono HB11.out (Below.size hS_6_4))) ?_; clear hK11; intro hS_6_11 hD
         refine rP 12 25 20 rfl hD hS_6_11 ?_; clear hD; intro hD; simp only [Act.put, sqA, sqB, sqC]
         refine rP 13 26 19 rfl hD hS_6_11 ?_; clear hD; intro hD; simp only [Act.put, sqA, sqB, sqC]
         refine rP 14 27 18 rfl hD hS_6_11 ?_; clear hD; intro hD; simp only [Act.put, sqA, sqB, sqC]
         refine rP 15 28 17 rfl hD hS_6_11 ?_; clear hD; intro hD; simp only [Act.put, sqA, sqB, sqC]
         refine rT 16 29 16 rfl hD hS_6_11 (by intro w' hS'; obtain ⟨e0, e1, e2, e3⟩ := KK5.out w' hS'; go_simp; with_reducible rfl) ?_; clear hD; intro hD; simp only [Act.put, sqA, sqB, sqC]
         refine rO 17 15 rfl hD ?_; clear hD; intro K17 hK17
         go_wp2_with fail
         refine (HO1.out _).mono ?_
         rintro ev v17 ⟨rfl, hb⟩
         have HB17 := Hq hb
         clear hb
         go_wp2
         refine hK17 _ _ (by exact Below.trans hS_6_11 (Below.mono HB17.out (Below.size hS_6_11))) ?_; clear hK17; intro hS_6_17 hD
         refine rP 18 31 14 rfl hD hS_6_17 ?_; clear hD; intro hD; simp only [Act.put, sqA, sqB, sqC]
         refine rP 19 32 13 rfl hD hS_6_17 ?_; clear hD; intro hD; simp only [Act.put, sqA, sqB, sqC]
         refine rP 20 33 12 rfl hD hS_6_17 ?_; clear hD; intro hD; simp only [Act.put, sqA, sqB, sqC]
         refine rP 21 34 11 rfl hD hS_6_17 ?_; clear hD; intro hD; simp only [Act.put, sqA, sqB, sqC]
         refine rT 22 35 10 rfl hD hS_6_17 (by intro w' hS'; obtain ⟨e0, e1, e2, e3⟩ := KK5.out w' hS'; go_simp; with_reducible rfl) ?_; clear hD; intro hD; simp only [Act.put, sqA, sqB, sqC]
         refine rO 23 9 rfl hD ?_; clear hD; intro K23 hK23
         go_wp2_with fail
         refine (HO1.out _).mono ?_
         rintro ev v23 ⟨rfl, hb⟩
         have HB23 := Hq hb
         clear hb
         go_wp2
         refine hK23 _ _ (by exact Below.trans hS_6_17 (Below.mono HB23.out (Below.size hS_6_17))) ?_; clear hK23; intro hS_6_23 hD
         refine rP 24 37 8 rfl hD hS_6_23 ?_; clear hD; intro hD; simp only [Act.put, sqA, sqB, sqC]
         refine rP 25 38 7 rfl hD hS_6_23 ?_; clear hD; intro hD; simp only [Act.put, sqA, sqB, sqC]
         refine rP 26 39 6 rfl hD hS_6_23 ?_; clear hD; intro hD; simp only [Act.put, sqA, sqB, sqC]
         refine rP 27 40 5 rfl hD hS_6_23 ?_; clear hD; intro hD; simp only [Act.put, sqA, sqB, sqC]
         refine rT 28 41 4 rfl hD hS_6_23 (by intro w' hS'; obtain ⟨e0, e1, e2, e3⟩ := KK5.out w' hS'; go_simp; with_reducible rfl) ?_; clear hD; intro hD; simp only [Act.put, sqA, sqB, sqC]
         refine rP 29 42 3 rfl hD hS_6_23 ?_; clear hD; intro hD; simp only [Act.put, sqA, sqB, sqC]
         refine rT 30 43 2 rfl hD hS_6_23 (by intro w' hS'; obtain ⟨e0, e1, e2, e3⟩ := KK5.out w' hS'; go_simp; with_reducible rfl) ?_; clear hD; intro hD; simp only [Act.put, sqA, sqB, sqC]
         refine rP 31 44 1 rfl hD hS_6_23 ?_; clear hD; intro hD; simp only [Act.put, sqA, sqB, sqC]
         refine rP 32 45 0 rfl hD hS_6_23 ?_; clear hD; intro hD; simp only [Act.put, sqA, sqB, sqC]
         refine wpAnyK_done (by kernel_rfl) ?_ 0
         clear hD d0 d1 d2 d3
         have HB9 := Hq (HB2.out.trans (((Below.refl w2.heap.size w2).drew.trans hS_6_23).mono HB2.out.size))
         go_wp2
         go_ret
         exact ⟨by rw [HR.out]; rfl, HB9.out⟩
        | false =>
         have HR := Hq (show pkC M O G H = 0 from by rw [HRE.out, hb1, hb2, hb3]; rfl)
         refine wp_region_K 33 (Below (w2.drew).heap.size (w2.drew)) (by kernel_rfl) ?_
         intro hD
         have KK6 := Hq (fun w' (hS' : (Below (w2.drew).heap.size (w2.drew)) w') => And.intro (kC hS' d0) (And.intro (kC hS' d1) (And.intro (kC hS' d2) (kC hS' d3))))
         refine rP 0 13 32 rfl hD (Below.refl _ _) ?_; clear hD; intro hD; simp only [Act.put, sqA, sqB, sqC]
         refine rT 1 14 31 rfl hD (Below.refl _ _) (by intro w' hS'; obtain ⟨e0, e1, e2, e3⟩ := KK6.out w' hS'; go_simp; with_reducible rfl) ?_; clear hD; intro hD; simp only [Act.put, sqA, sqB, sqC]
         refine rP 2 15 30 rfl hD (Below.refl _ _) ?_; clear hD; intro hD; simp only [Act.put, sqA, sqB, sqC]
         refine rT 3 16 29 rfl hD (Below.refl _ _) (by intro w' hS'; obtain ⟨e0, e1, e2, e3⟩ := KK6.out w' hS'; go_simp; with_reducible rfl) ?_; clear hD; intro hD; simp only [Act.put, sqA, sqB, sqC]
         refine rO 4 28 rfl hD ?_; clear hD; intro K4 hK4
         go_wp2_with fail
         refine (HHG.out _).mono ?_
         rintro ev v4 ⟨rfl, hb⟩
         have HB4 := Hq hb
         clear hb
         go_wp2
         refine hK4 _ _ (by exact HB4.out) ?_; clear hK4; intro hS_6_4 hD
         refine rP 5 18 27 rfl hD hS_6_4 ?_; clear hD; intro hD; simp only [Act.put, sqA, sqB, sqC]
         refine rP 6 19 26 rfl hD hS_6_4 ?_; clear hD; intro hD; simp only [Act.put, sqA, sqB, sqC]
         refine rP 7 20 25 rfl hD hS_6_4 ?_; clear hD; intro hD; simp only [Act.put, sqA, sqB, sqC]
         refine rT 8 21 24 rfl hD hS_6_4 (by intro w' hS'; obtain ⟨e0, e1, e2, e3⟩ := KK6.out w' hS'; go_simp; with_reducible rfl) ?_; clear hD; intro hD; simp only [Act.put, sqA, sqB, sqC]
         refine rP 9 22 23 rfl hD hS_6_4 ?_; clear hD; intro hD; simp only [Act.put, sqA, sqB, sqC]
         refine rT 10 23 22 rfl hD hS_6_4 (by intro w' hS'; obtain ⟨e0, e1, e2, e3⟩ := KK6.out w' hS'; go_simp; with_reducible rfl) ?_; clear hD; intro hD; simp only [Act.put, sqA, sqB, sqC]
         refine rO 11 21 rfl hD ?_; clear hD; intro K11 hK11
         go_wp2_with fail
         refine (HHH.out _).mono ?_
         rintro ev v11 ⟨rfl, hb⟩
         have HB11 := Hq hb
         clear hb
         go_wp2
         refine hK11 _ _ (by exact Below.trans hS_6_4 (Below.mono HB11.out (Below.size hS_6_4))) ?_; clear hK11; intro hS_6_11 hD
         refine rP 12 25 20 rfl hD hS_6_11 ?_; clear hD; intro hD; simp only [Act.put, sqA, sqB, sqC]
         refine rP 13 26 19 rfl hD hS_6_11 ?_; clear hD; intro hD; simp only [Act.put, sqA, sqB, sqC]
         refine rP 14 27 18 rfl hD hS_6_11 ?_; clear hD; intro hD; simp only [Act.put, sqA, sqB, sqC]
         refine rP 15 28 17 rfl hD hS_6_11 ?_; clear hD; intro hD; simp only [Act.put, sqA, sqB, sqC]
         refine rT 16 29 16 rfl hD hS_6_11 (by intro w' hS'; obtain ⟨e0, e1, e2, e3⟩ := KK6.out w' hS'; go_simp; with_reducible rfl) ?_; clear hD; intro hD; simp only [Act.put, sqA, sqB, sqC]
         refine rO 17 15 rfl hD ?_; clear hD; intro K17 hK17
         go_wp2_with fail
         refine (HO1.out _).mono ?_
         rintro ev v17 ⟨rfl, hb⟩
         have HB17 := Hq hb
         clear hb
         go_wp2
         refine hK17 _ _ (by exact Below.trans hS_6_11 (Below.mono HB17.out (Below.size hS_6_11))) ?_; clear hK17; intro hS_6_17 hD
         refine rP 18 31 14 rfl hD hS_6_17 ?_; clear hD; intro hD; simp only [Act.put, sqA, sqB, sqC]
         refine rP 19 32 13 rfl hD hS_6_17 ?_; clear hD; intro hD; simp only [Act.put, sqA, sqB, sqC]
         refine rP 20 33 12 rfl hD hS_6_17 ?_; clear hD; intro hD; simp only [Act.put, sqA, sqB, sqC]
         refine rP 21 34 11 rfl hD hS_6_17 ?_; clear hD; intro hD; simp only [Act.put, sqA, sqB, sqC]
         refine rT 22 35 10 rfl hD hS_6_17 (by intro w' hS'; obtain ⟨e0, e1, e2, e3⟩ := KK6.out w' hS'; go_simp; with_reducible rfl) ?_; clear hD; intro hD; simp only [Act.put, sqA, sqB, sqC]
         refine rO 23 9 rfl hD ?_; clear hD; intro K23 hK23
         go_wp2_with fail
         refine (HO1.out _).mono ?_
         rintro ev v23 ⟨rfl, hb⟩
         have HB23 := Hq hb
         clear hb
         go_wp2
         refine hK23 _ _ (by exact Below.trans hS_6_17 (Below.mono HB23.out (Below.size hS_6_17))) ?_; clear hK23; intro hS_6_23 hD
         refine rP 24 37 8 rfl hD hS_6_23 ?_; clear hD; intro hD; simp only [Act.put, sqA, sqB, sqC]
         refine rP 25 38 7 rfl hD hS_6_23 ?_; clear hD; intro hD; simp only [Act.put, sqA, sqB, sqC]
         refine rP 26 39 6 rfl hD hS_6_23 ?_; clear hD; intro hD; simp only [Act.put, sqA, sqB, sqC]
         refine rP 27 40 5 rfl hD hS_6_23 ?_; clear hD; intro hD; simp only [Act.put, sqA, sqB, sqC]
         refine rT 28 41 4 rfl hD hS_6_23 (by intro w' hS'; obtain ⟨e0, e1, e2, e3⟩ := KK6.out w' hS'; go_simp; with_reducible rfl) ?_; clear hD; intro hD; simp only [Act.put, sqA, sqB, sqC]
         refine rP 29 42 3 rfl hD hS_6_23 ?_; clear hD; intro hD; simp only [Act.put, sqA, sqB, sqC]
         refine rT 30 43 2 rfl hD hS_6_23 (by intro w' hS'; obtain ⟨e0, e1, e2, e3⟩ := KK6.out w' hS'; go_simp; with_reducible rfl) ?_; clear hD; intro hD; simp only [Act.put, sqA, sqB, sqC]
         refine rP 31 44 1 rfl hD hS_6_23 ?_; clear hD; intro hD; simp only [Act.put, sqA, sqB, sqC]
         refine rP 32 45 0 rfl hD hS_6_23 ?_; clear hD; intro hD; simp only [Act.put, sqA, sqB, sqC]
         refine wpAnyK_done (by kernel_rfl) ?_ 0
         clear hD d0 d1 d2 d3
         have HB9 := Hq (HB2.out.trans (((Below.refl w2.heap.size w2).drew.trans hS_6_23).mono HB2.out.size))
         go_wp2
         go_ret
         exact ⟨by rw [HR.out]; rfl, HB9.out⟩
  · obtain ⟨cc, hcc⟩ : ∃ cc, chkK M O = cc := ⟨_, rfl⟩
    have HR := Hq (show pkC M O G H = cc from by unfold pkC; rw [if_neg (by rw [HFF.out]; decide), if_neg hck, hcc])
    rw [hcc] at hck ⊢
    have hcb : (cc == 0) = false := by rw [beq_eq_false_iff_ne]; exact hck
    have hcb2 : (cc != 0) = true := by rw [bne, hcb]; rfl
    clear hck hcc
    go_wp2
    go_ret
    exact ⟨by rw [HR.out]; rfl, HB2.out⟩
end Go.Proofs.YtndmjfkmnjejkaaGreatDoor
namespace Go.Proofs.YtndmjfkmnjejkaaGreatDoor
set_option maxRecDepth 100000
set_option maxHeartbeats 4000000
open Go.RowKit
theorem prR_form (M O : ByteArray) (l : List ByteArray) (zs : List (Bool × ByteArray)) : ∃ s c, prR M O l zs = .tuple #[.string s, .int .i64 c] := by
 unfold prR
 split
 · exact ⟨_, _, rfl⟩
 · exact ⟨_, _, rfl⟩
theorem slz_alloc2 (w : World) (b1 b2 : Bool) (s1 s2 : ByteArray) (T : TypeId) : SlZ (w.alloc (.cells #[.bool b1, .string s1, .bool b2, .string s2] T)) (some ⟨w.heap.size, 0, none⟩) 2 2 [(b1, s1), (b2, s2)] := by
 have h := Bx4.new w (.bool b1) (.string s1) (.bool b2) (.string s2) T
 obtain ⟨c0, c1, c2, c3⟩ := h.cells
 refine ⟨rfl, Nat.le_refl _, by omega, w.heap.size, 0, fun _ => rfl, fun k z hk => ?_⟩
 match k, hk with
 | 0, hk => cases hk; exact ⟨c0, c1⟩
 | 1, hk => cases hk; exact ⟨c2, c3⟩
def cmR (M O G H : ByteArray) (vb : Bool) (vt : ByteArray) (rb : Bool) (rt : ByteArray) : Value :=
 if (kF M O G H && (zvalid vb vt && zvalid rb rt)) = false then .tuple #[.string ⟨#[]⟩, .int .i64 3] else if pkC M O G H = 0 then prR M O [G, H] [(vb, vt), (rb, rt)] else .tuple #[.string ⟨#[]⟩, .int .i64 (pkC M O G H)]
theorem cmR_form (M O G H : ByteArray) (vb : Bool) (vt : ByteArray) (rb : Bool) (rt : ByteArray) : ∃ s c, cmR M O G H vb vt rb rt = .tuple #[.string s, .int .i64 c] := by
 unfold cmR
 split
 · exact ⟨_, _, rfl⟩
 · split
   · exact prR_form _ _ _ _
   · exact ⟨_, _, rfl⟩
def opR (M O G H c : ByteArray) (vb : Bool) (vt : ByteArray) (rb : Bool) (rt : ByteArray) : Bool :=
 match cmR M O G H vb vt rb rt with
 | .tuple ⟨[.string s, .int .i64 e]⟩ => (e == 0) && (s.toList == c.toList)
 | _ => false
theorem opR_of {M O G H c : ByteArray} {vb : Bool} {vt : ByteArray} {rb : Bool} {rt s : ByteArray} {e : Int} (h : cmR M O G H vb vt rb rt = .tuple #[.string s, .int .i64 e]) : opR M O G H c vb vt rb rt = ((e == 0) && (s.toList == c.toList)) := by
 unfold opR
 rw [h]
def KO (w W : World) (M O G H : ByteArray) (vb : Bool) (vt : ByteArray) (rb : Bool) (rt : ByteArray) : Prop :=
 Bx4 W w.heap.size (.string M) (.string O) (.string G) (.string H) 26 ∧ Bx4 W (w.heap.size + 1) (.bool vb) (.string vt) (.bool rb) (.string rt) 37 ∧ Below w.heap.size w W
theorem KO.new (w : World) (M O G H : ByteArray) (vb : Bool) (vt : ByteArray) (rb : Bool) (rt : ByteArray) : KO w ((w.alloc (.cells #[.string M, .string O, .string G, .string H] 26)).alloc (.cells #[.bool vb, .string vt, .bool rb, .string rt] 37)) M O G H vb vt rb rt := by
 refine ⟨(Bx4.new w _ _ _ _ _).next ((Below.refl _ _).alloc (Nat.le_refl _) _), ?_, ((Below.refl w.heap.size w).alloc (Nat.le_refl _) _).alloc (by simp) _⟩
 have := Bx4.new (w.alloc (.cells #[.string M, .string O, .string G, .string H] 26)) (.bool vb) (.string vt) (.bool rb) (.string rt) 37
 rwa [World.size_alloc] at this
theorem KO.next {w W W' : World} {M O G H : ByteArray} {vb : Bool} {vt : ByteArray} {rb : Bool} {rt : ByteArray} (h : KO w W M O G H vb vt rb rt) (hb : Below W.heap.size W W') : KO w W' M O G H vb vt rb rt :=
 ⟨h.1.next hb, h.2.1.next hb, h.2.2.trans (hb.mono (Nat.le_of_lt h.1.lt))⟩
theorem KO.cells {w W : World} {M O G H : ByteArray} {vb : Bool} {vt : ByteArray} {rb : Bool} {rt : ByteArray} (h : KO w W M O G H vb vt rb rt) : (W.cell? ⟨w.heap.size, 0, none⟩ = some (.string M) ∧ W.cell? ⟨w.heap.size, 1, none⟩ = some (.string O) ∧ W.cell? ⟨w.heap.size, 2, none⟩ = some (.string G) ∧ W.cell? ⟨w.heap.size, 3, none⟩ = some (.string H)) ∧ W.cell? ⟨w.heap.size + 1, 0, none⟩ = some (.bool vb) ∧ W.cell? ⟨w.heap.size + 1, 1, none⟩ = some (.string vt) ∧ W.cell? ⟨w.heap.size + 1, 2, none⟩ = some (.bool rb) ∧ W.cell? ⟨w.heap.size + 1, 3, none⟩ = some (.string rt) := ⟨h.1.cells, h.2.1.cells⟩
theorem pk_Commit (M O G H : ByteArray) (vb : Bool) (vt : ByteArray) (rb : Bool) (rt : ByteArray) (hM : M.size ≤ 8) (hO : O.size ≤ 8) (hG : G.size ≤ 1000) (hH : H.size ≤ 1000) (hv : vt.size ≤ 1000) (hr : rt.size ≤ 1000) (w : World) : Calls Tryz.prog 38 #[kV M O G H, oV vb vt rb rt] w (Ret (cmR M O G H vb vt rb rt) w) := by
 have HF := Hq (pk_formed M O G H (by omega) (by omega) hG hH)
 have HVA := Hq (pk_valid vb vt rb rt hv hr)
 have HCK := Hq (pk_Check M O G H hM hO hG hH)
 have HPR := Hq (fun (A B : Option Addr) (w : World) (hl : SlN w A 2 2 [G, H]) (hz : SlZ w B 2 2 [(vb, vt), (rb, rt)]) => pw_Product M O [G, H] [(vb, vt), (rb, rt)] A B 2 2 2 2 hM hO (by intro s hs; simp only [List.mem_cons, List.mem_nil_iff, or_false] at hs; rcases hs with rfl | rfl; exact hG; exact hH) (by intro z hz; simp only [List.mem_cons, List.mem_nil_iff, or_false] at hz; rcases hz with rfl | rfl; exact hv; exact hr) (by omega) (by omega) w hl hz)
 have HRV := Hq (show ∃ R, cmR M O G H vb vt rb rt = R from ⟨_, rfl⟩)
 obtain ⟨R, hR⟩ := HRV.out
 have HRR := Hq hR
 rw [hR]
 clear hM hO hG hH hv hr hR HRV
 unfold kV oV gV at *
 cases hf : kF M O G H with
 | false =>
  have HR := Hq (show R = .tuple #[.string ⟨#[]⟩, .int .i64 3] from by rw [← HRR.out]; unfold cmR; rw [hf]; rfl)
  rw [hf] at HF
  rw [HR.out]
  clear hf
  go_enter Tryz.func38, Tryz.ntmps38
  have hk := KO.new w M O G H vb vt rb rt
  obtain ⟨W0, hW0⟩ : ∃ W, (w.alloc (.cells #[.string M, .string O, .string G, .string H] 26)).alloc (.cells #[.bool vb, .string vt, .bool rb, .string rt] 37) = W := ⟨_, rfl⟩
  rw [hW0] at hk
  have HK := Hq hk
  obtain ⟨⟨c0, c1, c2, c3⟩, d0, d1, d2, d3⟩ := hk.cells
  clear hk
  go_wp2_with fail
  try rw [hW0]
  clear hW0
  refine (HF.out _).mono ?_
  rintro ev w1 ⟨rfl, hb⟩
  have hk := HK.out.next hb
  have HK := Hq hk
  clear hb c0 c1 c2 c3 d0 d1 d2 d3
  obtain ⟨⟨c0, c1, c2, c3⟩, d0, d1, d2, d3⟩ := hk.cells
  clear hk
  go_wp2
  go_ret2
  exact ⟨rfl, HK.out.2.2⟩
 | true =>
  rw [hf] at HF
  cases hz : (zvalid vb vt && zvalid rb rt) with
  | false =>
   have HR := Hq (show R = .tuple #[.string ⟨#[]⟩, .int .i64 3] from by rw [← HRR.out]; unfold cmR; rw [hf, hz]; rfl)
   rw [hz] at HVA
   rw [HR.out]
   clear hf hz
   go_enter Tryz.func38, Tryz.ntmps38
   have hk := KO.new w M O G H vb vt rb rt
   obtain ⟨W0, hW0⟩ : ∃ W, (w.alloc (.cells #[.string M, .string O, .string G, .string H] 26)).alloc (.cells #[.bool vb, .string vt, .bool rb, .string rt] 37) = W := ⟨_, rfl⟩
   rw [hW0] at hk
   have HK := Hq hk
   obtain ⟨⟨c0, c1, c2, c3⟩, d0, d1, d2, d3⟩ := hk.cells
   clear hk
   go_wp2_with fail
   try rw [hW0]
   clear hW0
   refine (HF.out _).mono ?_
   rintro ev w1 ⟨rfl, hb⟩
   have hk := HK.out.next hb
   have HK := Hq hk
   clear hb c0 c1 c2 c3 d0 d1 d2 d3
   obtain ⟨⟨c0, c1, c2, c3⟩, d0, d1, d2, d3⟩ := hk.cells
   clear hk
   go_wp2_with fail
   refine (HVA.out _).mono ?_
   rintro ev w2 ⟨rfl, hb⟩
   have hk := HK.out.next hb
   have HK := Hq hk
   clear hb c0 c1 c2 c3 d0 d1 d2 d3
   obtain ⟨⟨c0, c1, c2, c3⟩, d0, d1, d2, d3⟩ := hk.cells
   clear hk
   go_wp2
   go_ret2
   exact ⟨rfl, HK.out.2.2⟩
  | true =>
   rw [hz] at HVA
   by_cases hc : pkC M O G H = 0
   · have HR := Hq (show R = prR M O [G, H] [(vb, vt), (rb, rt)] from by rw [← HRR.out]; unfold cmR; rw [hf, hz, if_neg (by decide), if_pos hc])
     rw [hc] at HCK
     obtain ⟨rs, rc, hpr⟩ := prR_form M O [G, H] [(vb, vt), (rb, rt)]
     rw [hpr] at HPR
     rw [HR.out, hpr]
     clear hf hz hc hpr
     go_enter Tryz.func38, Tryz.ntmps38
     have hk := KO.new w M O G H vb vt rb rt
     obtain ⟨W0, hW0⟩ : ∃ W, (w.alloc (.cells #[.string M, .string O, .string G, .string H] 26)).alloc (.cells #[.bool vb, .string vt, .bool rb, .string rt] 37) = W := ⟨_, rfl⟩
     rw [hW0] at hk
     have HK := Hq hk
     obtain ⟨⟨c0, c1, c2, c3⟩, d0, d1, d2, d3⟩ := hk.cells
     clear hk
     go_wp2_with fail
     try rw [hW0]
     clear hW0
     refine (HF.out _).mono ?_
     rintro ev w1 ⟨rfl, hb⟩
     have hk := HK.out.next hb
     have HK := Hq hk
     clear hb c0 c1 c2 c3 d0 d1 d2 d3
     obtain ⟨⟨c0, c1, c2, c3⟩, d0, d1, d2, d3⟩ := hk.cells
     clear hk
     go_wp2_with fail
     refine (HVA.out _).mono ?_
     rintro ev w2 ⟨rfl, hb⟩
     have hk := HK.out.next hb
     have HK := Hq hk
     clear hb c0 c1 c2 c3 d0 d1 d2 d3
     obtain ⟨⟨c0, c1, c2, c3⟩, d0, d1, d2, d3⟩ := hk.cells
     clear hk
     go_wp2_with fail
     refine (HCK.out _).mono ?_
     rintro ev w3 ⟨rfl, hb⟩
     have hk := HK.out.next hb
     have HK := Hq hk
     clear hb c0 c1 c2 c3 d0 d1 d2 d3
     obtain ⟨⟨c0, c1, c2, c3⟩, d0, d1, d2, d3⟩ := hk.cells
     clear hk
     have hs1 := sln_alloc w3 [G, H] 22 (by simp)
     have hb1 : Below w3.heap.size w3 (w3.alloc (.cells #[.string G, .string H] 22)) := (Below.refl _ _).alloc (Nat.le_refl _) _
     have hs2 := slz_alloc2 (w3.alloc (.cells #[.string G, .string H] 22)) vb rb vt rt 28
     have hb2 : Below (w3.alloc (.cells #[.string G, .string H] 22)).heap.size (w3.alloc (.cells #[.string G, .string H] 22)) ((w3.alloc (.cells #[.string G, .string H] 22)).alloc (.cells #[.bool vb, .string vt, .bool rb, .string rt] 28)) := (Below.refl _ _).alloc (Nat.le_refl _) _
     have HPP := Hq (HPR.out _ _ _ (SlN.kept hb2 (Nat.le_refl _) hs1) hs2)
     have HBB := Hq (HK.out.2.2.trans ((hb1.trans (hb2.mono hb1.size)).mono HK.out.2.2.size))
     rw [World.size_alloc] at HPP
     obtain ⟨_, g0, g1, g2, g3⟩ := (HK.out.next hb1).cells
     clear hs1 hb1 hs2 hb2
     go_wp2_with fail
     refine HPP.out.mono ?_
     rintro ev w4 ⟨rfl, hb⟩
     have HB4 := Hq (HBB.out.trans (hb.mono HBB.out.size))
     clear hb
     go_wp2
     go_ret2
     exact ⟨rfl, HB4.out⟩
   · have HR := Hq (show R = .tuple #[.string ⟨#[]⟩, .int .i64 (pkC M O G H)] from by rw [← HRR.out]; unfold cmR; rw [hf, hz, if_neg (by decide), if_neg hc])
     rw [HR.out]
     obtain ⟨cc, hcc⟩ : ∃ cc, pkC M O G H = cc := ⟨_, rfl⟩
     rw [hcc] at HCK hc ⊢
     have hcb : (cc == 0) = false := by rw [beq_eq_false_iff_ne]; exact hc
     have hcb2 : (cc != 0) = true := by rw [bne, hcb]; rfl
     clear hf hz hc hcc
     go_enter Tryz.func38, Tryz.ntmps38
     have hk := KO.new w M O G H vb vt rb rt
     obtain ⟨W0, hW0⟩ : ∃ W, (w.alloc (.cells #[.string M, .string O, .string G, .string H] 26)).alloc (.cells #[.bool vb, .string vt, .bool rb, .string rt] 37) = W := ⟨_, rfl⟩
     rw [hW0] at hk
     have HK := Hq hk
     obtain ⟨⟨c0, c1, c2, c3⟩, d0, d1, d2, d3⟩ := hk.cells
     clear hk
     go_wp2_with fail
     try rw [hW0]
     clear hW0
     refine (HF.out _).mono ?_
     rintro ev w1 ⟨rfl, hb⟩
     have hk := HK.out.next hb
     have HK := Hq hk
     clear hb c0 c1 c2 c3 d0 d1 d2 d3
     obtain ⟨⟨c0, c1, c2, c3⟩, d0, d1, d2, d3⟩ := hk.cells
     clear hk
     go_wp2_with fail
     refine (HVA.out _).mono ?_
     rintro ev w2 ⟨rfl, hb⟩
     have hk := HK.out.next hb
     have HK := Hq hk
     clear hb c0 c1 c2 c3 d0 d1 d2 d3
     obtain ⟨⟨c0, c1, c2, c3⟩, d0, d1, d2, d3⟩ := hk.cells
     clear hk
     go_wp2_with fail
     refine (HCK.out _).mono ?_
     rintro ev w3 ⟨rfl, hb⟩
     have hk := HK.out.next hb
     have HK := Hq hk
     clear hb c0 c1 c2 c3 d0 d1 d2 d3
     obtain ⟨⟨c0, c1, c2, c3⟩, d0, d1, d2, d3⟩ := hk.cells
     clear hk
     go_wp2
     go_ret2
     exact ⟨rfl, HK.out.2.2⟩
theorem r14_Commit (M O G H : ByteArray) (vb : Bool) (vt : ByteArray) (rb : Bool) (rt : ByteArray) (hM : M.size ≤ 8) (hO : O.size ≤ 8) (hG : G.size ≤ 1000) (hH : H.size ≤ 1000) (hv : vt.size ≤ 1000) (hr : rt.size ≤ 1000) (w : World) : Calls Tryz.prog 58 #[kV M O G H, oV vb vt rb rt] w (Ret (cmR M O G H vb vt rb rt) w) := by
 have HF := Hq (r14_form M O G H (by omega) (by omega) hG hH)
 have HVA := Hq (r14_valid vb vt rb rt hv hr)
 have HCK := Hq (r14_Check M O G H hM hO hG hH)
 have HPR := Hq (fun (A B : Option Addr) (w : World) (hl : SlN w A 2 2 [G, H]) (hz : SlZ w B 2 2 [(vb, vt), (rb, rt)]) => r13_Product M O [G, H] [(vb, vt), (rb, rt)] A B 2 2 2 2 hM hO (by intro s hs; simp only [List.mem_cons, List.mem_nil_iff, or_false] at hs; rcases hs with rfl | rfl; exact hG; exact hH) (by intro z hz; simp only [List.mem_cons, List.mem_nil_iff, or_false] at hz; rcases hz with rfl | rfl; exact hv; exact hr) (by omega) (by omega) w hl hz)
 have HRV := Hq (show ∃ R, cmR M O G H vb vt rb rt = R from ⟨_, rfl⟩)
 obtain ⟨R, hR⟩ := HRV.out
 have HRR := Hq hR
 rw [hR]
 clear hM hO hG hH hv hr hR HRV
 unfold kV oV gV at *
 cases hf : kF M O G H with
 | false =>
  have HR := Hq (show R = .tuple #[.string ⟨#[]⟩, .int .i64 3] from by rw [← HRR.out]; unfold cmR; rw [hf]; rfl)
  rw [hf] at HF
  rw [HR.out]
  clear hf
  go_enter Tryz.func58, Tryz.ntmps58
  have hk := KO.new w M O G H vb vt rb rt
  obtain ⟨W0, hW0⟩ : ∃ W, (w.alloc (.cells #[.string M, .string O, .string G, .string H] 26)).alloc (.cells #[.bool vb, .string vt, .bool rb, .string rt] 37) = W := ⟨_, rfl⟩
  rw [hW0] at hk
  have HK := Hq hk
  obtain ⟨⟨c0, c1, c2, c3⟩, d0, d1, d2, d3⟩ := hk.cells
  clear hk
  go_wp2_with fail
  try rw [hW0]
  clear hW0
  refine (HF.out _).mono ?_
  rintro ev w1 ⟨rfl, hb⟩
  have hk := HK.out.next hb
  have HK := Hq hk
  clear hb c0 c1 c2 c3 d0 d1 d2 d3
  obtain ⟨⟨c0, c1, c2, c3⟩, d0, d1, d2, d3⟩ := hk.cells
  clear hk
  go_wp2
  go_ret2
  exact ⟨rfl, HK.out.2.2⟩
 | true =>
  rw [hf] at HF
  cases hz : (zvalid vb vt && zvalid rb rt) with
  | false =>
   have HR := Hq (show R = .tuple #[.string ⟨#[]⟩, .int .i64 3] from by rw [← HRR.out]; unfold cmR; rw [hf, hz]; rfl)
   rw [hz] at HVA
   rw [HR.out]
   clear hf hz
   go_enter Tryz.func58, Tryz.ntmps58
   have hk := KO.new w M O G H vb vt rb rt
   obtain ⟨W0, hW0⟩ : ∃ W, (w.alloc (.cells #[.string M, .string O, .string G, .string H] 26)).alloc (.cells #[.bool vb, .string vt, .bool rb, .string rt] 37) = W := ⟨_, rfl⟩
   rw [hW0] at hk
   have HK := Hq hk
   obtain ⟨⟨c0, c1, c2, c3⟩, d0, d1, d2, d3⟩ := hk.cells
   clear hk
   go_wp2_with fail
   try rw [hW0]
   clear hW0
   refine (HF.out _).mono ?_
   rintro ev w1 ⟨rfl, hb⟩
   have hk := HK.out.next hb
   have HK := Hq hk
   clear hb c0 c1 c2 c3 d0 d1 d2 d3
   obtain ⟨⟨c0, c1, c2, c3⟩, d0, d1, d2, d3⟩ := hk.cells
   clear hk
   go_wp2_with fail
   refine (HVA.out _).mono ?_
   rintro ev w2 ⟨rfl, hb⟩
   have hk := HK.out.next hb
   have HK := Hq hk
   clear hb c0 c1 c2 c3 d0 d1 d2 d3
   obtain ⟨⟨c0, c1, c2, c3⟩, d0, d1, d2, d3⟩ := hk.cells
   clear hk
   go_wp2
   go_ret2
   exact ⟨rfl, HK.out.2.2⟩
  | true =>
   rw [hz] at HVA
   by_cases hc : pkC M O G H = 0
   · have HR := Hq (show R = prR M O [G, H] [(vb, vt), (rb, rt)] from by rw [← HRR.out]; unfold cmR; rw [hf, hz, if_neg (by decide), if_pos hc])
     rw [hc] at HCK
     obtain ⟨rs, rc, hpr⟩ := prR_form M O [G, H] [(vb, vt), (rb, rt)]
     rw [hpr] at HPR
     rw [HR.out, hpr]
     clear hf hz hc hpr
     go_enter Tryz.func58, Tryz.ntmps58
     have hk := KO.new w M O G H vb vt rb rt
     obtain ⟨W0, hW0⟩ : ∃ W, (w.alloc (.cells #[.string M, .string O, .string G, .string H] 26)).alloc (.cells #[.bool vb, .string vt, .bool rb, .string rt] 37) = W := ⟨_, rfl⟩
     rw [hW0] at hk
     have HK := Hq hk
     obtain ⟨⟨c0, c1, c2, c3⟩, d0, d1, d2, d3⟩ := hk.cells
     clear hk
     go_wp2_with fail
     try rw [hW0]
     clear hW0
     refine (HF.out _).mono ?_
     rintro ev w1 ⟨rfl, hb⟩
     have hk := HK.out.next hb
     have HK := Hq hk
     clear hb c0 c1 c2 c3 d0 d1 d2 d3
     obtain ⟨⟨c0, c1, c2, c3⟩, d0, d1, d2, d3⟩ := hk.cells
     clear hk
     go_wp2_with fail
     refine (HVA.out _).mono ?_
     rintro ev w2 ⟨rfl, hb⟩
     have hk := HK.out.next hb
     have HK := Hq hk
     clear hb c0 c1 c2 c3 d0 d1 d2 d3
     obtain ⟨⟨c0, c1, c2, c3⟩, d0, d1, d2, d3⟩ := hk.cells
     clear hk
     go_wp2_with fail
     refine (HCK.out _).mono ?_
     rintro ev w3 ⟨rfl, hb⟩
     have hk := HK.out.next hb
     have HK := Hq hk
     clear hb c0 c1 c2 c3 d0 d1 d2 d3
     obtain ⟨⟨c0, c1, c2, c3⟩, d0, d1, d2, d3⟩ := hk.cells
     clear hk
     have hs1 := sln_alloc w3 [G, H] 22 (by simp)
     have hb1 : Below w3.heap.size w3 (w3.alloc (.cells #[.string G, .string H] 22)) := (Below.refl _ _).alloc (Nat.le_refl _) _
     have hs2 := slz_alloc2 (w3.alloc (.cells #[.string G, .string H] 22)) vb rb vt rt 28
     have hb2 : Below (w3.alloc (.cells #[.string G, .string H] 22)).heap.size (w3.alloc (.cells #[.string G, .string H] 22)) ((w3.alloc (.cells #[.string G, .string H] 22)).alloc (.cells #[.bool vb, .string vt, .bool rb, .string rt] 28)) := (Below.refl _ _).alloc (Nat.le_refl _) _
     have HPP := Hq (HPR.out _ _ _ (SlN.kept hb2 (Nat.le_refl _) hs1) hs2)
     have HBB := Hq (HK.out.2.2.trans ((hb1.trans (hb2.mono hb1.size)).mono HK.out.2.2.size))
     rw [World.size_alloc] at HPP
     obtain ⟨_, g0, g1, g2, g3⟩ := (HK.out.next hb1).cells
     clear hs1 hb1 hs2 hb2
     go_wp2_with fail
     refine HPP.out.mono ?_
     rintro ev w4 ⟨rfl, hb⟩
     have HB4 := Hq (HBB.out.trans (hb.mono HBB.out.size))
     clear hb
     go_wp2
     go_ret2
     exact ⟨rfl, HB4.out⟩
   · have HR := Hq (show R = .tuple #[.string ⟨#[]⟩, .int .i64 (pkC M O G H)] from by rw [← HRR.out]; unfold cmR; rw [hf, hz, if_neg (by decide), if_neg hc])
     rw [HR.out]
     obtain ⟨cc, hcc⟩ : ∃ cc, pkC M O G H = cc := ⟨_, rfl⟩
     rw [hcc] at HCK hc ⊢
     have hcb : (cc == 0) = false := by rw [beq_eq_false_iff_ne]; exact hc
     have hcb2 : (cc != 0) = true := by rw [bne, hcb]; rfl
     clear hf hz hc hcc
     go_enter Tryz.func58, Tryz.ntmps58
     have hk := KO.new w M O G H vb vt rb rt
     obtain ⟨W0, hW0⟩ : ∃ W, (w.alloc (.cells #[.string M, .string O, .string G, .string H] 26)).alloc (.cells #[.bool vb, .string vt, .bool rb, .string rt] 37) = W := ⟨_, rfl⟩
     rw [hW0] at hk
     have HK := Hq hk
     obtain ⟨⟨c0, c1, c2, c3⟩, d0, d1, d2, d3⟩ := hk.cells
     clear hk
     go_wp2_with fail
     try rw [hW0]
     clear hW0
     refine (HF.out _).mono ?_
     rintro ev w1 ⟨rfl, hb⟩
     have hk := HK.out.next hb
     have HK := Hq hk
     clear hb c0 c1 c2 c3 d0 d1 d2 d3
     obtain ⟨⟨c0, c1, c2, c3⟩, d0, d1, d2, d3⟩ := hk.cells
     clear hk
     go_wp2_with fail
     refine (HVA.out _).mono ?_
     rintro ev w2 ⟨rfl, hb⟩
     have hk := HK.out.next hb
     have HK := Hq hk
     clear hb c0 c1 c2 c3 d0 d1 d2 d3
     obtain ⟨⟨c0, c1, c2, c3⟩, d0, d1, d2, d3⟩ := hk.cells
     clear hk
     go_wp2_with fail
     refine (HCK.out _).mono ?_
     rintro ev w3 ⟨rfl, hb⟩
     have hk := HK.out.next hb
     have HK := Hq hk
     clear hb c0 c1 c2 c3 d0 d1 d2 d3
     obtain ⟨⟨c0, c1, c2, c3⟩, d0, d1, d2, d3⟩ := hk.cells
     clear hk
     go_wp2
     go_ret2
     exact ⟨rfl, HK.out.2.2⟩
theorem pk_Opens (M O G H c : ByteArray) (vb : Bool) (vt : ByteArray) (rb : Bool) (rt : ByteArray) (hM : M.size ≤ 8) (hO : O.size ≤ 8) (hG : G.size ≤ 1000) (hH : H.size ≤ 1000) (hv : vt.size ≤ 1000) (hr : rt.size ≤ 1000) (w : World) : Calls Tryz.prog 44 #[kV M O G H, .string c, oV vb vt rb rt] w (Ret (.bool (opR M O G H c vb vt rb rt)) w) := by
 have HC := Hq (pk_Commit M O G H vb vt rb rt hM hO hG hH hv hr)
 obtain ⟨s, e, hcm⟩ := cmR_form M O G H vb vt rb rt
 have hop := opR_of (c := c) hcm
 rw [hcm] at HC
 rw [hop]
 clear hM hO hG hH hv hr hcm hop
 unfold kV oV at *
 have HK := Hq (KO.new w M O G H vb vt rb rt)
 obtain ⟨b, hb⟩ : ∃ b, (s.toList == c.toList) = b := ⟨_, rfl⟩
 rw [hb]
 by_cases he : e = 0
 · subst he
   rw [show ((0 : Int) == 0) = true from rfl, Bool.true_and]
   go_enter Tryz.func44, Tryz.ntmps44
   go_wp2_with fail
   refine (HC.out _).mono ?_
   rintro ev w1 ⟨rfl, hb1⟩
   have HB1 := Hq (HK.out.2.2.trans (hb1.mono HK.out.2.2.size))
   clear hb1
   go_wp2
   go_ret
   exact ⟨rfl, HB1.out⟩
 · have hcb : (e == 0) = false := by rw [beq_eq_false_iff_ne]; exact he
   rw [hcb, Bool.false_and]
   clear he
   go_enter Tryz.func44, Tryz.ntmps44
   go_wp2_with fail
   refine (HC.out _).mono ?_
   rintro ev w1 ⟨rfl, hb1⟩
   have HB1 := Hq (HK.out.2.2.trans (hb1.mono HK.out.2.2.size))
   clear hb1
   go_wp2
   go_ret
   exact ⟨rfl, HB1.out⟩
end Go.Proofs.YtndmjfkmnjejkaaGreatDoor
namespace Go.Proofs.YtndmjfkmnjejkaaGreatDoor
set_option maxRecDepth 100000
set_option maxHeartbeats 1000000
open Go.RowKit
theorem int_MulG (a b : Int) (ha : a.natAbs < 256 ^ 128) (hb : b.natAbs < 256 ^ 128) (hnm : ∀ w, Calls Tryz.prog 141 #[.string (nS a.natAbs), .string (nS b.natAbs)] w (Ret (fitR (a.natAbs * b.natAbs)) w)) (w : World) : Calls Tryz.prog 93 #[intV a, intV b] w (Ret (fitZ (a * b)) w) := by
 have HVA := Hq (int_both a b ha hb)
 have HM := Hq hnm
 obtain ⟨k, rc, hk1, hk2⟩ := fitR_cut (a.natAbs * b.natAbs)
 have hsg : sg (decide (a < 0) != decide (b < 0)) (a.natAbs * b.natAbs) = a * b := by
  unfold sg
  by_cases h1 : a < 0
  · by_cases h2 : b < 0
    · rw [decide_eq_true h1, decide_eq_true h2, if_neg (by decide), Int.natCast_mul, Int.ofNat_natAbs_of_nonpos (by omega), Int.ofNat_natAbs_of_nonpos (by omega), Int.neg_mul_neg]
    · rw [decide_eq_true h1, decide_eq_false h2, if_pos (by decide), Int.natCast_mul, Int.ofNat_natAbs_of_nonpos (by omega), Int.natAbs_of_nonneg (by omega), Int.neg_mul, Int.neg_neg]
  · by_cases h2 : b < 0
    · rw [decide_eq_false h1, decide_eq_true h2, if_pos (by decide), Int.natCast_mul, Int.natAbs_of_nonneg (by omega), Int.ofNat_natAbs_of_nonpos (by omega), Int.mul_neg, Int.neg_neg]
    · rw [decide_eq_false h1, decide_eq_false h2, if_neg (by decide), Int.natCast_mul, Int.natAbs_of_nonneg (by omega), Int.natAbs_of_nonneg (by omega)]
 rw [hk2 (a * b) _ (Int.natAbs_mul a b) hsg]
 rw [hk1] at HM
 have HMK := Hq (int_made_n (decide (a < 0) != decide (b < 0)) k)
 unfold intV zV at HVA
 obtain ⟨p, hp⟩ : ∃ p, decide (a < 0) = p := ⟨_, rfl⟩
 obtain ⟨q, hq⟩ : ∃ q, decide (b < 0) = q := ⟨_, rfl⟩
 obtain ⟨s, hs⟩ : ∃ s, nS a.natAbs = s := ⟨_, rfl⟩
 obtain ⟨t, ht⟩ : ∃ t, nS b.natAbs = t := ⟨_, rfl⟩
 rw [hp, hs, hq, ht] at HVA
 rw [show intV a = .agg #[.bool p, .string s] from by rw [← hp, ← hs]; rfl, show intV b = .agg #[.bool q, .string t] from by rw [← hq, ← ht]; rfl]
 rw [hp, hq] at HMK
 rw [hp, hq]
 rw [hs, ht] at HM
 obtain ⟨kk, hkk⟩ : ∃ kk, nS k = kk := ⟨_, rfl⟩
 rw [hkk] at HM HMK
 unfold intV zV at HMK ⊢
 obtain ⟨u, hu⟩ : ∃ u, decide (sg (p != q) k < 0) = u := ⟨_, rfl⟩
 obtain ⟨v, hv⟩ : ∃ v, nS (sg (p != q) k).natAbs = v := ⟨_, rfl⟩
 rw [hu, hv] at HMK ⊢
 clear hnm hp hq hs ht hkk hu hv hk1 hk2 hsg ha hb
 go_enter Tryz.func93, Tryz.ntmps93
 have hi := I3.new w (.bool p) (.string s) (.bool q) (.string t) (.bool false) (.string ⟨#[]⟩)
 obtain ⟨W0, hW0⟩ : ∃ W0, ((w.alloc (.cells #[.bool p, .string s] 28)).alloc (.cells #[.bool q, .string t] 28)).alloc (.cells #[.bool false, .string ⟨#[]⟩] 28) = W0 := ⟨_, rfl⟩
 rw [hW0] at hi
 have HI := Hq hi
 obtain ⟨c0, c1, d0, d1, e0, e1, f0, f1⟩ := hi.cells
 clear hi
 go_wp2_with fail
 try rw [hW0]
 clear hW0
 refine (HVA.out _).mono ?_
 rintro ev w1 ⟨rfl, hb⟩
 have hi := HI.out.next hb
 have HI := Hq hi
 clear hb c0 c1 d0 d1 e0 e1 f0 f1
 obtain ⟨c0, c1, d0, d1, e0, e1, f0, f1⟩ := hi.cells
 clear hi
 go_wp2_with fail
 refine (HM.out _).mono ?_
 rintro ev w3 ⟨rfl, hb⟩
 have hi := HI.out.next hb
 have HI := Hq hi
 clear hb c0 c1 d0 d1 e0 e1 f0 f1
 obtain ⟨c0, c1, d0, d1, e0, e1, f0, f1⟩ := hi.cells
 clear hi
 go_wp2_with fail
 refine (HMK.out _).mono ?_
 rintro ev w4 ⟨rfl, hb⟩
 have hi := HI.out.next hb
 have HI := Hq hi
 clear hb c0 c1 d0 d1 e0 e1 f0 f1
 obtain ⟨c0, c1, d0, d1, e0, e1, f0, f1⟩ := hi.cells
 clear hi
 go_wp2
 obtain ⟨q0, q1, qb⟩ := HI.out.done (.bool u) (.string v)
 exact bodyPost_ret (v := .tuple #[.agg #[.bool u, .string v], .int .i64 rc]) (by simp [results, Tryz.results93, go_sem, q0, q1]) rfl ⟨rfl, qb⟩
theorem int_ModG (z : Int) (m : Nat) (hz : z.natAbs < 256 ^ 128) (hm : m < 256 ^ 128) (h0 : 0 < m) (hdm : ∀ w, Calls Tryz.prog 108 #[.string (nS z.natAbs), .string (nS m)] w (Ret (.tuple #[.string (nS (z.natAbs / m)), .string (nS (z.natAbs % m)), .int .i64 0]) w)) (w : World) : Calls Tryz.prog 99 #[intV z, .string (nS m)] w (Ret (.tuple #[.string (nS (z % m).toNat), .int .i64 0]) w) := by
 have HVZ := Hq (int_Valid_n z hz)
 have HVM := Hq (nat_Valid (nS m) (nS_size63 hm))
 rw [nvalid_nS.2 hm] at HVM
 have HDM := Hq hdm
 have hrr : z.natAbs % m < 256 ^ 128 := Nat.lt_trans (Nat.mod_lt _ h0) hm
 have HSB := Hq (nat_Sub_ge m (z.natAbs % m) hm hrr (Nat.le_of_lt (Nat.mod_lt _ h0)))
 have hem := empty_nS h0
 unfold intV zV at *
 have HB0 := Hq ((Below.refl w.heap.size w).alloc (Nat.le_refl _) (.cells #[.bool (decide (z < 0)), .string (nS z.natAbs)] 28))
 have HX0 := Hq (Bx2.new w (.bool (decide (z < 0))) (.string (nS z.natAbs)) 28)
 obtain ⟨t, ht⟩ : ∃ t, nS m = t := ⟨_, rfl⟩
 obtain ⟨s, hs⟩ : ∃ s, nS z.natAbs = s := ⟨_, rfl⟩
 obtain ⟨q, hq⟩ : ∃ q, nS (z.natAbs / m) = q := ⟨_, rfl⟩
 by_cases hneg : z < 0
 · have hd : decide (z < 0) = true := decide_eq_true hneg
   by_cases hr : z.natAbs % m = 0
   · have HRR := Hq (emod_of_zero hr)
     rw [hr, nS_zero] at HDM
     rw [HRR.out, nS_zero]
     rw [ht, hs, hq] at HDM
     rw [ht] at HVM hem
     rw [hs, hd] at HVZ HB0 HX0
     rw [hs, hd, ht]
     clear ht hs hq hd hneg hr HSB hrr hz hm h0 hdm
     go_enter Tryz.func99, Tryz.ntmps99
     go_wp2_with fail
     refine (HVZ.out _).mono ?_
     rintro ev w1 ⟨rfl, hb⟩
     have HB1 := Hq (HB0.out.trans (hb.mono HB0.out.size))
     have hx := HX0.out.next hb
     have c0 := hx.c0
     have c1 := hx.c1
     have HX1 := Hq hx
     clear hb hx
     go_wp2_with fail
     refine (HVM.out _).mono ?_
     rintro ev w2 ⟨rfl, rfl⟩
     go_wp2_with fail
     refine (HDM.out _).mono ?_
     rintro ev w2 ⟨rfl, hb⟩
     have HB2 := Hq (HB1.out.trans (hb.mono HB1.out.size))
     have hx := HX1.out.next hb
     clear c0 c1
     have c0 := hx.c0
     have c1 := hx.c1
     clear hb hx
     go_wp2
     go_ret2
     exact ⟨rfl, HB2.out⟩
   · have HRR := Hq (emod_of_neg h0 hneg (by omega))
     have her := empty_nS (n := z.natAbs % m) (by omega)
     rw [HRR.out]
     obtain ⟨r, hr'⟩ : ∃ r, nS (z.natAbs % m) = r := ⟨_, rfl⟩
     obtain ⟨r2, hr2⟩ : ∃ r, nS (m - z.natAbs % m) = r := ⟨_, rfl⟩
     rw [ht, hs, hq, hr'] at HDM
     rw [ht, hr', hr2] at HSB
     rw [hr'] at her
     rw [ht] at HVM hem
     rw [hs, hd] at HVZ HB0 HX0
     rw [hs, hd, ht, hr2]
     clear ht hs hq hd hneg hr hr' hr2 hrr hz hm h0 hdm HRR
     go_enter Tryz.func99, Tryz.ntmps99
     go_wp2_with fail
     refine (HVZ.out _).mono ?_
     rintro ev w1 ⟨rfl, hb⟩
     have HB1 := Hq (HB0.out.trans (hb.mono HB0.out.size))
     have hx := HX0.out.next hb
     have c0 := hx.c0
     have c1 := hx.c1
     have HX1 := Hq hx
     clear hb hx
     go_wp2_with fail
     refine (HVM.out _).mono ?_
     rintro ev w2 ⟨rfl, rfl⟩
     go_wp2_with fail
     refine (HDM.out _).mono ?_
     rintro ev w2 ⟨rfl, hb⟩
     have HB2 := Hq (HB1.out.trans (hb.mono HB1.out.size))
     have hx := HX1.out.next hb
     clear c0 c1
     have c0 := hx.c0
     have c1 := hx.c1
     clear hb hx
     go_wp2_with fail
     refine (HSB.out _).mono ?_
     rintro ev w3 ⟨rfl, hb⟩
     have HB3 := Hq (HB2.out.trans (hb.mono HB2.out.size))
     clear hb
     go_wp2
     go_ret2
     exact ⟨rfl, HB3.out⟩
 · have hd : decide (z < 0) = false := decide_eq_false hneg
   have HRR := Hq (emod_of_pos (z := z) (m := m) (by omega))
   rw [HRR.out]
   obtain ⟨r, hr'⟩ : ∃ r, nS (z.natAbs % m) = r := ⟨_, rfl⟩
   rw [ht, hs, hq, hr'] at HDM
   rw [ht] at HVM hem
   rw [hs, hd] at HVZ HB0 HX0
   rw [hs, hd, ht, hr']
   clear ht hs hq hd hneg hr' hrr HSB hz hm h0 hdm HRR
   go_enter Tryz.func99, Tryz.ntmps99
   go_wp2_with fail
   refine (HVZ.out _).mono ?_
   rintro ev w1 ⟨rfl, hb⟩
   have HB1 := Hq (HB0.out.trans (hb.mono HB0.out.size))
   have hx := HX0.out.next hb
   have c0 := hx.c0
   have c1 := hx.c1
   have HX1 := Hq hx
   clear hb hx
   go_wp2_with fail
   refine (HVM.out _).mono ?_
   rintro ev w2 ⟨rfl, rfl⟩
   go_wp2_with fail
   refine (HDM.out _).mono ?_
   rintro ev w2 ⟨rfl, hb⟩
   have HB2 := Hq (HB1.out.trans (hb.mono HB1.out.size))
   have hx := HX1.out.next hb
   clear c0 c1
   have c0 := hx.c0
   have c1 := hx.c1
   clear hb hx
   go_wp2
   go_ret2
   exact ⟨rfl, HB2.out⟩
theorem int_Of_m3 (w : World) : Calls Tryz.prog 41 #[.int .i64 (-3)] w (Ret (intV (-3)) w) := by
 have HO := Hq (nat_Of 3 (by decide))
 have HM := Hq (int_made_n true 3)
 rw [show sg true 3 = (-3 : Int) from rfl] at HM
 have HO' := Hq (fun w => show Calls Tryz.prog 43 #[.int .u64 3] w (Ret (.string (nS 3)) w) from HO.out w)
 have HB0 := Hq ((Below.refl w.heap.size w).alloc (Nat.le_refl _) (.cells #[.bool false, .string ⟨#[]⟩] 28))
 have HX0 := Hq (Bx2.new w (.bool false) (.string ⟨#[]⟩) 28)
 unfold intV zV at HM ⊢
 obtain ⟨s, hs⟩ : ∃ s, nS 3 = s := ⟨_, rfl⟩
 obtain ⟨u, hu⟩ : ∃ u, decide ((-3 : Int) < 0) = u := ⟨_, rfl⟩
 obtain ⟨v, hv⟩ : ∃ v, nS ((-3 : Int)).natAbs = v := ⟨_, rfl⟩
 rw [hs] at HO' HM
 rw [hu, hv] at HM ⊢
 clear hs hv HO hu
 go_enter Tryz.func41, Tryz.ntmps41
 go_wp2_with fail
 refine (HO'.out _).mono ?_
 rintro e w1 ⟨rfl, hb1⟩
 have HX1 := Hq (HX0.out.next hb1)
 have HB1 := Hq (HB0.out.trans (hb1.mono HB0.out.size))
 clear hb1
 go_wp2_with fail
 refine (HM.out _).mono ?_
 rintro e w2 ⟨rfl, hb2⟩
 have hX := HX1.out.next hb2
 have HX2 := Hq hX
 have HB2 := Hq (HB1.out.trans (hb2.mono HB1.out.size))
 have c0 := hX.c0
 have c1 := hX.c1
 have f0 := hX.f0
 have f1 := hX.f1
 clear hb2 hX
 go_wp2
 have hY := HX2.out.set2 (u := .bool u) (v := .string v)
 have q0 := hY.c0
 have q1 := hY.c1
 exact bodyPost_ret (v := .agg #[.bool u, .string v]) (by simp [results, Tryz.results41, go_sem, q0, q1]) rfl ⟨rfl, (HB2.out.setCell (p := ⟨w.heap.size, 0, none⟩) (Nat.le_refl _) _).setCell (p := ⟨w.heap.size, 1, none⟩) (Nat.le_refl _) _⟩
end Go.Proofs.YtndmjfkmnjejkaaGreatDoor
namespace Go.Proofs.YtndmjfkmnjejkaaGreatDoor
set_option maxRecDepth 100000
set_option maxHeartbeats 2000000
open Go.RowKit
def redZ (o : Nat) (z : Int) : Int := if o = 0 then z else ((z % o).toNat : Int)
theorem pk_red1 (K m : Nat) (M G H : ByteArray) (z : Int) (hm : m < 256 ^ 128) (h0 : 0 < m) (hmd : ∀ w, Calls Tryz.prog 99 #[intV z, .string (nS m)] w (Ret (.tuple #[.string (nS (z % m).toNat), .int .i64 0]) w)) (w : World) (hk : Bx4 w K (.string M) (.string (nS m)) (.string G) (.string H) 26) :
 Calls Tryz.prog 98 #[intV z, .pointer (some ⟨K, 0, none⟩)] w (Ret (intV (redZ m z)) w) := by
 have HMD := Hq hmd
 have hlt : (z % m).toNat < 256 ^ 128 := by
  have := Int.emod_lt_of_pos z (show (0 : Int) < m by omega)
  have := Int.emod_nonneg z (show (m : Int) ≠ 0 by omega)
  omega
 have HFR := Hq (int_From (z % m).toNat hlt)
 have hrz : redZ m z = ((z % m).toNat : Int) := by unfold redZ; rw [if_neg (by omega)]
 rw [hrz]
 obtain ⟨R, hR⟩ : ∃ R, (z % m).toNat = R := ⟨_, rfl⟩
 rw [hR] at HMD HFR ⊢
 rw [intV_nat R] at HFR ⊢
 unfold intV zV at HMD ⊢
 obtain ⟨p, hp⟩ : ∃ p, decide (z < 0) = p := ⟨_, rfl⟩
 obtain ⟨s, hs⟩ : ∃ p, nS z.natAbs = p := ⟨_, rfl⟩
 obtain ⟨t, ht⟩ : ∃ p, nS m = p := ⟨_, rfl⟩
 obtain ⟨r, hr⟩ : ∃ p, nS R = p := ⟨_, rfl⟩
 rw [hp, hs, ht, hr] at HMD
 rw [hr] at HFR
 rw [ht] at hk
 rw [hp, hs, hr]
 clear hp hs ht hr hR hrz hlt hmd hm h0
 obtain ⟨hx0, hy0, hb0⟩ := bx2_at w (.bool p) (.string s) (.bool false) (.string ⟨#[]⟩) 28
 obtain ⟨W0, hW0⟩ : ∃ W0, (w.alloc (.cells #[.bool p, .string s] 28)).alloc (.cells #[.bool false, .string ⟨#[]⟩] 28) = W0 := ⟨_, rfl⟩
 rw [hW0] at hx0 hy0 hb0
 have hk0 := hk.next hb0
 obtain ⟨k0, k1, k2, k3⟩ := hk0.cells
 have x0 := hx0.c0
 have x1 := hx0.c1
 have HY0 := Hq hy0
 have HB0 := Hq hb0
 clear hx0 hy0 hb0 hk0 hk
 go_enter Tryz.func98, Tryz.ntmps98
 go_wp2_with fail
 try rw [hW0]
 clear hW0
 refine (HMD.out _).mono ?_
 rintro ev w1 ⟨rfl, hb⟩
 have HY1 := Hq (HY0.out.next hb)
 have HB1 := Hq (HB0.out.trans (hb.mono HB0.out.size))
 clear hb k0 k1 k2 k3 x0 x1
 go_wp2_with fail
 refine (HFR.out _).mono ?_
 rintro ev w2 ⟨rfl, hb⟩
 have hy2 := HY1.out.next hb
 have HY2 := Hq hy2
 have HB2 := Hq (HB1.out.trans (hb.mono HB1.out.size))
 have d0 := hy2.c0
 have d1 := hy2.c1
 have f0 := hy2.f0
 have f1 := hy2.f1
 clear hb hy2
 go_wp2
 have hY := HY2.out.set2 (u := .bool false) (v := .string r)
 have q0 := hY.c0
 have q1 := hY.c1
 exact bodyPost_ret (v := .agg #[.bool false, .string r]) (by simp [results, Tryz.results98, go_sem, q0, q1]) rfl ⟨rfl, below_set2 HB2.out (Nat.le_add_right _ _) _ _⟩
theorem bx4_third (w : World) (a b c d a' b' c' d' a2 b2 c2 d2 : Value) (T T' T2 : TypeId) : Bx4 (((w.alloc (.cells #[a, b, c, d] T)).alloc (.cells #[a', b', c', d'] T')).alloc (.cells #[a2, b2, c2, d2] T2)) (w.heap.size + 1 + 1) a2 b2 c2 d2 T2 := by
 have := Bx4.new ((w.alloc (.cells #[a, b, c, d] T)).alloc (.cells #[a', b', c', d'] T')) a2 b2 c2 d2 T2
 rwa [World.size_alloc, World.size_alloc] at this
theorem below_set4 {B : Nat} {w W : World} (h : Below B w W) {C : Nat} (hC : B ≤ C) (a b c d : Value) : Below B w ((((W.setCell ⟨C, 0, none⟩ a).setCell ⟨C, 1, none⟩ b).setCell ⟨C, 2, none⟩ c).setCell ⟨C, 3, none⟩ d) :=
 (((h.setCell (p := ⟨C, 0, none⟩) hC a).setCell (p := ⟨C, 1, none⟩) hC b).setCell (p := ⟨C, 2, none⟩) hC c).setCell (p := ⟨C, 3, none⟩) hC d
theorem pk_reduced (o : Nat) (M G H : ByteArray) (v r : Int) (ho : o < 256 ^ 128) (hmd : 0 < o → ∀ w, Calls Tryz.prog 99 #[intV v, .string (nS o)] w (Ret (.tuple #[.string (nS (v % o).toNat), .int .i64 0]) w)) (hmd2 : 0 < o → ∀ w, Calls Tryz.prog 99 #[intV r, .string (nS o)] w (Ret (.tuple #[.string (nS (r % o).toNat), .int .i64 0]) w)) (w : World) :
 Calls Tryz.prog 50 #[kV M (nS o) G H, arV v r] w (Ret (arV (redZ o v) (redZ o r)) w) := by
 have hko := KO.new w M (nS o) G H (decide (v < 0)) (nS v.natAbs) (decide (r < 0)) (nS r.natAbs)
 have hr0 := bx4_third w (.string M) (.string (nS o)) (.string G) (.string H) (.bool (decide (v < 0))) (.string (nS v.natAbs)) (.bool (decide (r < 0))) (.string (nS r.natAbs)) (.bool false) (.string ⟨#[]⟩) (.bool false) (.string ⟨#[]⟩) 26 37 37
 have hko := hko.next ((Below.refl _ _).alloc (Nat.le_refl _) (.cells #[.bool false, .string ⟨#[]⟩, .bool false, .string ⟨#[]⟩] 37))
 rcases Nat.eq_zero_or_pos o with h0 | h0
 · subst h0
   rw [show redZ 0 v = v from rfl, show redZ 0 r = r from rfl]
   have he : (nS 0).toList.isEmpty = true := sempty_true rfl
   unfold kV arV
   obtain ⟨t, ht⟩ : ∃ t, nS 0 = t := ⟨_, rfl⟩
   obtain ⟨vb, hvb⟩ : ∃ t, decide (v < 0) = t := ⟨_, rfl⟩
   obtain ⟨vs, hvs⟩ : ∃ t, nS v.natAbs = t := ⟨_, rfl⟩
   obtain ⟨rb, hrb⟩ : ∃ t, decide (r < 0) = t := ⟨_, rfl⟩
   obtain ⟨rs, hrs⟩ : ∃ t, nS r.natAbs = t := ⟨_, rfl⟩
   rw [ht] at he
   rw [ht, hvb, hvs, hrb, hrs] at hko hr0
   rw [ht, hvb, hvs, hrb, hrs]
   clear ht hvb hvs hrb hrs hmd hmd2 ho
   obtain ⟨W0, hW0⟩ : ∃ W, ((w.alloc (.cells #[.string M, .string t, .string G, .string H] 26)).alloc (.cells #[.bool vb, .string vs, .bool rb, .string rs] 37)).alloc (.cells #[.bool false, .string ⟨#[]⟩, .bool false, .string ⟨#[]⟩] 37) = W := ⟨_, rfl⟩
   rw [hW0] at hko hr0
   obtain ⟨⟨c0, c1, c2, c3⟩, d0, d1, d2, d3⟩ := hko.cells
   obtain ⟨r0, r1, r2, r3⟩ := hr0.cells
   have f0 := hr0.free 0
   have f1 := hr0.free 1
   have f2 := hr0.free 2
   have f3 := hr0.free 3
   have HR0 := Hq hr0
   have HB0 := Hq hko.2.2
   clear hko hr0
   go_enter Tryz.func50, Tryz.ntmps50
   go_wp2
   try rw [hW0]
   obtain ⟨q0, q1, q2, q3⟩ := (HR0.out.set4 (a := .bool vb) (b := .string vs) (c := .bool rb) (d := .string rs)).cells
   exact bodyPost_ret (v := .agg #[.bool vb, .string vs, .bool rb, .string rs]) (by simp [results, Tryz.results50, go_sem, q0, q1, q2, q3]) rfl ⟨rfl, below_set4 HB0.out (by omega) _ _ _ _⟩
 · have he := empty_nS h0
   have HC1 := Hq (fun (K : Nat) w hk => pk_red1 K o M G H v ho h0 (hmd h0) w hk)
   have HC2 := Hq (fun (K : Nat) w hk => pk_red1 K o M G H r ho h0 (hmd2 h0) w hk)
   have hres : arV (redZ o v) (redZ o r) = .agg #[.bool false, .string (nS (v % o).toNat), .bool false, .string (nS (r % o).toNat)] := by
    have e1 : redZ o v = ((v % o).toNat : Int) := by unfold redZ; rw [if_neg (by omega)]
    have e2 : redZ o r = ((r % o).toNat : Int) := by unfold redZ; rw [if_neg (by omega)]
    unfold arV
    rw [e1, e2, decide_eq_false (Int.not_lt.2 (Int.natCast_nonneg _)), decide_eq_false (Int.not_lt.2 (Int.natCast_nonneg _)), Int.natAbs_natCast, Int.natAbs_natCast]
   rw [hres]
   have e1 : intV (redZ o v) = .agg #[.bool false, .string (nS (v % o).toNat)] := by rw [show redZ o v = ((v % o).toNat : Int) from by unfold redZ; rw [if_neg (by omega)], intV_nat]
   have e2 : intV (redZ o r) = .agg #[.bool false, .string (nS (r % o).toNat)] := by rw [show redZ o r = ((r % o).toNat : Int) from by unfold redZ; rw [if_neg (by omega)], intV_nat]
   rw [e1] at HC1
   rw [e2] at HC2
   unfold intV zV at HC1 HC2
   unfold kV arV
   obtain ⟨t, ht⟩ : ∃ t, nS o = t := ⟨_, rfl⟩
   obtain ⟨vb, hvb⟩ : ∃ t, decide (v < 0) = t := ⟨_, rfl⟩
   obtain ⟨vs, hvs⟩ : ∃ t, nS v.natAbs = t := ⟨_, rfl⟩
   obtain ⟨rb, hrb⟩ : ∃ t, decide (r < 0) = t := ⟨_, rfl⟩
   obtain ⟨rs, hrs⟩ : ∃ t, nS r.natAbs = t := ⟨_, rfl⟩
   obtain ⟨a1, ha1⟩ : ∃ t, nS (v % o).toNat = t := ⟨_, rfl⟩
   obtain ⟨a2, ha2⟩ : ∃ t, nS (r % o).toNat = t := ⟨_, rfl⟩
   rw [ht, hvb, hvs, ha1] at HC1
   rw [ht, hrb, hrs, ha2] at HC2
   rw [ht] at he
   rw [ht, hvb, hvs, hrb, hrs] at hko hr0
   rw [ht, hvb, hvs, hrb, hrs, ha1, ha2]
   clear ht hvb hvs hrb hrs ha1 ha2 e1 e2 hres hmd hmd2 ho h0
   obtain ⟨W0, hW0⟩ : ∃ W, ((w.alloc (.cells #[.string M, .string t, .string G, .string H] 26)).alloc (.cells #[.bool vb, .string vs, .bool rb, .string rs] 37)).alloc (.cells #[.bool false, .string ⟨#[]⟩, .bool false, .string ⟨#[]⟩] 37) = W := ⟨_, rfl⟩
   rw [hW0] at hko hr0
   obtain ⟨⟨c0, c1, c2, c3⟩, d0, d1, d2, d3⟩ := hko.cells
   have HR0 := Hq hr0
   have HK0 := Hq hko
   clear hko hr0
   go_enter Tryz.func50, Tryz.ntmps50
   go_wp2
   try rw [hW0]
   clear hW0
   have g0 : W0.drew.cell? ⟨w.heap.size + 1, 0, none⟩ = some (.bool vb) := d0
   have g1 : W0.drew.cell? ⟨w.heap.size + 1, 1, none⟩ = some (.string vs) := d1
   have g2 : W0.drew.cell? ⟨w.heap.size + 1, 2, none⟩ = some (.bool rb) := d2
   have g3 : W0.drew.cell? ⟨w.heap.size + 1, 3, none⟩ = some (.string rs) := d3
   clear c0 c1 c2 c3 d0 d1 d2 d3
   have HKD := Hq (show Bx4 W0.drew w.heap.size (.string M) (.string t) (.string G) (.string H) 26 from HK0.out.1)
   have HRD := Hq (show Bx4 W0.drew (w.heap.size + 1 + 1) (.bool false) (.string ⟨#[]⟩) (.bool false) (.string ⟨#[]⟩) 37 from HR0.out)
   have HLE := Hq (show w.heap.size + 1 + 1 ≤ W0.drew.heap.size from Nat.le_of_lt HRD.out.lt)
   refine wp_region_K 10 (Below (w.heap.size + 1 + 1) W0.drew) (by kernel_rfl) ?_
   intro hD
   have KK1 := Hq (fun w' (hS' : (Below (w.heap.size + 1 + 1) W0.drew) w') => And.intro (below_cell hS' (by simp only []; omega) g0) (And.intro (below_cell hS' (by simp only []; omega) g1) (And.intro (below_cell hS' (by simp only []; omega) g2) (below_cell hS' (by simp only []; omega) g3))))
   refine rP 0 12 9 rfl hD (Below.refl _ _) ?_; clear hD; intro hD; simp only [Act.put, sqA, sqB, sqC]
   refine rP 1 13 8 rfl hD (Below.refl _ _) ?_; clear hD; intro hD; simp only [Act.put, sqA, sqB, sqC]
   refine rT 2 14 7 rfl hD (Below.refl _ _) (by intro w' hS'; obtain ⟨e0, e1, e2, e3⟩ := KK1.out w' hS'; go_simp; with_reducible rfl) ?_; clear hD; intro hD; simp only [Act.put, sqA, sqB, sqC]
   refine rP 4 16 6 rfl hD (Below.refl _ _) ?_; clear hD; intro hD; simp only [Act.put, sqA, sqB, sqC]
   refine rP 5 17 5 rfl hD (Below.refl _ _) ?_; clear hD; intro hD; simp only [Act.put, sqA, sqB, sqC]
   refine rT 6 18 4 rfl hD (Below.refl _ _) (by intro w' hS'; obtain ⟨e0, e1, e2, e3⟩ := KK1.out w' hS'; go_simp; with_reducible rfl) ?_; clear hD; intro hD; simp only [Act.put, sqA, sqB, sqC]
   refine rO 3 3 rfl hD ?_; clear hD; intro K3 hK3
   go_wp2_with fail
   refine (HC1.out _ _ HKD.out).mono ?_
   rintro ev w3 ⟨rfl, hb⟩
   have HK3 := Hq (HKD.out.next hb)
   have HR3 := Hq (HRD.out.next hb)
   have HB3 := Hq hb
   clear hb
   go_wp2
   refine hK3 _ _ (by exact HB3.out.mono HLE.out) ?_; clear hK3; intro hS_4_3 hD
   refine rO 7 2 rfl hD ?_; clear hD; intro K7 hK7
   go_wp2_with fail
   refine (HC2.out _ _ HK3.out).mono ?_
   rintro ev w4 ⟨rfl, hb⟩
   have HLE3 := Hq (Nat.le_of_lt HR3.out.lt)
   have hr4 := HR3.out.next hb
   have HR4 := Hq hr4
   have HB4 := Hq hb
   obtain ⟨r0, r1, r2, r3⟩ := hr4.cells
   have f0 := hr4.free 0
   have f1 := hr4.free 1
   have f2 := hr4.free 2
   have f3 := hr4.free 3
   clear hb hr4
   go_wp2
   refine hK7 _ _ (by exact Below.trans hS_4_3 (HB4.out.mono HLE3.out)) ?_; clear hK7; intro hS_4_7 hD
   refine rP 8 20 1 rfl hD hS_4_7 ?_; clear hD; intro hD; simp only [Act.put, sqA, sqB, sqC]
   refine rO 9 0 rfl hD ?_; clear hD; intro K9 hK9
   go_wp2
   refine hK9 _ _ (by exact below_set4 hS_4_7 (Nat.le_refl _) _ _ _ _) ?_; clear hK9; intro hS_4_9 hD
   refine wpAnyK_done (by kernel_rfl) ?_ 0
   clear hD
   obtain ⟨q0, q1, q2, q3⟩ := (HR4.out.set4 (a := .bool false) (b := .string a1) (c := .bool false) (d := .string a2)).cells
   have HBF := Hq ((HK0.out.2.2.trans (((Below.refl W0.heap.size W0).drew).mono HK0.out.2.2.size)).trans (Below.mono hS_4_9 (by omega)))
   go_wp2
   exact bodyPost_ret (v := .agg #[.bool false, .string a1, .bool false, .string a2]) (by simp [results, Tryz.results50, go_sem, q0, q1, q2, q3]) rfl ⟨rfl, HBF.out⟩
end Go.Proofs.YtndmjfkmnjejkaaGreatDoor

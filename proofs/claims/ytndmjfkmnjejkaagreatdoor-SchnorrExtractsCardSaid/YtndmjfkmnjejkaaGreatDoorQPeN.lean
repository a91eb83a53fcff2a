/- Walks: dominoref02.Extended of numbers without a common divisor. -/
import Derived.Test.YtndmjfkmnjejkaaGreatDoorQPeK
set_option linter.unusedVariables false
set_option linter.unusedSimpArgs false
namespace Go.Proofs.YtndmjfkmnjejkaaGreatDoor
open Go.RowKit
def RetEx (a b : Nat) (w : World) (e : Ending) (w' : World) : Prop := ∃ (x : Nat) (y : Int), e = .returned (.tuple #[.string (nS 1), intV x, intV y, .int .i64 0]) ∧ Below w.heap.size w w' ∧ x < b ∧ a * x % b = 1
theorem intV_nat (n : Nat) : intV (n : Int) = .agg #[.bool false, .string (nS n)] := by unfold intV zV; rw [decide_eq_false (Int.not_lt.2 (Int.natCast_nonneg _)), Int.natAbs_natCast]
theorem ex_law {a b : Nat} {x y : Int} (hb : 1 < b) (h : (a : Int) * x + b * y = 1) : a * (x % b).toNat % b = 1 := by
  have h0 : 0 ≤ x % (b : Int) := Int.emod_nonneg _ (by omega)
  have e1 : ((a * (x % b).toNat % b : Nat) : Int) = 1 := by
    rw [Int.natCast_emod, Int.natCast_mul, Int.toNat_of_nonneg h0, Int.mul_emod, Int.emod_emod, ← Int.mul_emod]
    have e2 : (a : Int) * x = 1 + b * (-y) := by rw [Int.mul_neg]; omega
    rw [e2, Int.add_mul_emod_self_left]
    exact Int.emod_eq_of_lt (by omega) (by omega)
  omega
theorem ediv_abs (x : Int) (b : Nat) (hb : 0 < b) : (x / b).natAbs ≤ x.natAbs := by
  by_cases h : 0 ≤ x
  · rw [ediv_c h, Int.natAbs_natCast]; exact Nat.div_le_self _ _
  · rcases Nat.eq_zero_or_pos (x.natAbs % b) with hr | hr
    · rw [ediv_a hb (by omega) hr, Int.natAbs_neg, Int.natAbs_natCast]; exact Nat.div_le_self _ _
    · rw [ediv_b hb (by omega) hr, Int.natAbs_neg, Int.natAbs_natCast]
      rcases Nat.eq_or_lt_of_le (show 1 ≤ b from hb) with h1 | h1
      · rw [← h1, Nat.mod_one] at hr; omega
      · have := Nat.div_lt_self (show 0 < x.natAbs by omega) h1
        omega
set_option maxRecDepth 100000 in
set_option maxHeartbeats 4000000 in
theorem r02_Extended (a b : Nat) (hab : a < b) (hb : b < 18446744073709551616) (h1 : 1 < b) (hg : Nat.gcd a b = 1) (w : World) : Calls Tryz.prog 119 #[.string (nS a), .string (nS b)] w (RetEx a b w) := by
  have ha : a < 18446744073709551616 := by omega
  have HV1 := Lib.hid (r01_Valid (nS a) (by have := nS_small_size ha; omega))
  have HV2 := Lib.hid (r01_Valid (nS b) (by have := nS_small_size hb; omega))
  rw [nvalid_nS.2 (lt128_of_lt8 ha)] at HV1
  rw [nvalid_nS.2 (lt128_of_lt8 hb)] at HV2
  have HBZ := Lib.hid (r02_bezout (b + 1) a b (by omega) ha hb)
  have HD1 := Lib.hid (r01_DivMod b 1 (lt128_of_lt8 hb) (by decide) (by decide))
  have HD2 := Lib.hid (r01_DivMod a 1 (lt128_of_lt8 ha) (by decide) (by decide))
  rw [Nat.div_one, Nat.mod_one] at HD1 HD2
  have HF1 := Lib.hid (r02_From b (lt128_of_lt8 hb))
  have HF2 := Lib.hid (r02_From a (lt128_of_lt8 ha))
  have p100 : (256 : Nat) ^ 100 < 256 ^ 128 := Nat.pow_lt_pow_right (by omega) (by omega)
  have p16 : (18446744073709551616 : Nat) * 18446744073709551616 + 18446744073709551616 < 256 ^ 100 := by decide +kernel
  have hx100 : ∀ x : Int, x.natAbs ≤ max 1 b → x.natAbs < 256 ^ 100 := fun x hx => by omega
  have hqa : ∀ x : Int, x.natAbs ≤ max 1 b → ((x / b) * a).natAbs ≤ 18446744073709551616 * 18446744073709551616 := fun x hx => by
    rw [Int.natAbs_mul, Int.natAbs_natCast]
    have := ediv_abs x b (by omega)
    exact Nat.mul_le_mul (by omega) (by omega)
  have HDM := Lib.hid (fun (x : Int) (hx : x.natAbs ≤ max 1 b) => r02_DivModQ x b (hx100 x hx) (lt128_of_lt8 hb) (by omega))
  have HMU := Lib.hid (fun (x : Int) (hx : x.natAbs ≤ max 1 b) (w : World) => show Calls Tryz.prog 169 #[intV (x / b), intV a] w (Ret (.tuple #[intV (x / b * a), .int .i64 0]) w) from by
    have hh := r02_Mul (x / b) a (by have := ediv_abs x b (by omega); have := hx100 x hx; omega) (by rw [Int.natAbs_natCast]; exact lt128_of_lt8 ha) w
    rw [fitZ_in (by have := hqa x hx; omega)] at hh
    exact hh)
  have HAD := Lib.hid (fun (x y : Int) (hx : x.natAbs ≤ max 1 b) (hy : y.natAbs ≤ max 1 a) (w : World) => show Calls Tryz.prog 170 #[intV y, intV (x / b * a)] w (Ret (.tuple #[intV (y + x / b * a), .int .i64 0]) w) from by
    have h3 := hqa x hx
    have hh := r02_Add y (x / b * a) (by omega) (by omega) w
    rw [fitZ_in (by omega)] at hh
    exact hh)
  have HFR := Lib.hid (fun (x : Int) => r02_From (x % b).toNat (lt128_of_lt8 (by
    have := Int.emod_lt_of_pos x (show (0 : Int) < b by omega)
    have := Int.emod_nonneg x (show (b : Int) ≠ 0 by omega)
    omega)))
  have HLAW := Lib.hid (fun (x y : Int) (h : (a : Int) * x + b * y = Nat.gcd a b) => show (x % b).toNat < b ∧ a * (x % b).toNat % b = 1 from by
    have := Int.emod_lt_of_pos x (show (0 : Int) < b by omega)
    have := Int.emod_nonneg x (show (b : Int) ≠ 0 by omega)
    rw [hg] at h
    exact ⟨by omega, ex_law h1 h⟩)
  have he := empty_nS (show 0 < b by omega)
  have HGG := Lib.hid hg
  rw [intV_nat] at HF1 HF2
  obtain ⟨hx0, hy0, hb0⟩ := bx2_at w (.bool false) (.string ⟨#[]⟩) (.bool false) (.string ⟨#[]⟩) 28
  obtain ⟨W0, hW0⟩ : ∃ W0, (w.alloc (.cells #[.bool false, .string ⟨#[]⟩] 28)).alloc (.cells #[.bool false, .string ⟨#[]⟩] 28) = W0 := ⟨_, rfl⟩
  rw [hW0] at hx0 hy0 hb0
  have HX0 := Lib.hid hx0
  have HY0 := Lib.hid hy0
  have HB0 := Lib.hid hb0
  have HIB := Lib.hid (intV_nat b)
  have HIA := Lib.hid (intV_nat a)
  obtain ⟨s, hs⟩ : ∃ s, nS a = s := ⟨_, rfl⟩
  obtain ⟨t, ht⟩ : ∃ t, nS b = t := ⟨_, rfl⟩
  rw [hs] at HV1 HBZ HD2 HF2 HIA ⊢
  rw [ht] at HV2 HBZ HD1 HF1 HIB he ⊢
  have hg1 : (nS 0) = ⟨#[]⟩ := rfl
  rw [hg1] at HD1 HD2
  obtain ⟨one, hone⟩ : ∃ u, nS 1 = u := ⟨_, rfl⟩
  rw [hone] at HD1 HD2
  have HONE := Lib.hid hone
  clear hs ht hone hg1 hx0 hy0 hb0 hg ha hab hb h1 p100 p16 hx100 hqa
  go_enter Tryz.func119, Tryz.ntmps119
  go_wp2_with fail
  try rw [hW0]
  clear hW0
  refine (HV1.out _).mono ?_
  rintro e w1 ⟨rfl, rfl⟩
  go_wp2_with fail
  refine (HV2.out _).mono ?_
  rintro e w1 ⟨rfl, rfl⟩
  go_wp2_with fail
  refine (HBZ.out _).mono ?_
  rintro e w1 ⟨x, y, rfl, hb1, hlaw, hbx, hby, _⟩
  have HL := Lib.hid (HLAW.out x y hlaw)
  have HX1 := Lib.hid (HX0.out.next hb1)
  have HY1 := Lib.hid (HY0.out.next hb1)
  have HB1 := Lib.hid (HB0.out.trans (hb1.mono HB0.out.size))
  have HDX := Lib.hid (HDM.out x hbx)
  have HMX := Lib.hid (HMU.out x hbx)
  have HAX := Lib.hid (HAD.out x y hbx hby)
  have HFX := Lib.hid (HFR.out x)
  rw [HGG.out]
  clear hb1 hlaw hbx hby
  obtain ⟨R, hR⟩ : ∃ R, (x % b).toNat = R := ⟨_, rfl⟩
  rw [hR] at HL HDX HFX
  obtain ⟨Q, hQ⟩ : ∃ Q, x / (b : Int) = Q := ⟨_, rfl⟩
  rw [hQ] at HDX HMX HAX
  obtain ⟨P, hP⟩ : ∃ P, Q * (a : Int) = P := ⟨_, rfl⟩
  rw [hP] at HMX HAX
  obtain ⟨Z, hZ⟩ : ∃ Z, y + P = Z := ⟨_, rfl⟩
  rw [hZ] at HAX
  have HRES := Lib.hid (show ∀ w', Below w.heap.size w w' → RetEx a b w (.returned (.tuple #[.string (nS 1), intV R, intV Z, .int .i64 0])) w' from fun w' hb => ⟨R, Z, rfl, hb, HL.out⟩)
  rw [intV_nat R] at HFX HRES
  rw [HIB.out] at HDX
  rw [HIA.out] at HMX
  rw [HONE.out] at HRES ⊢
  unfold intV zV at HDX HMX HAX HRES ⊢
  obtain ⟨xb, hxb⟩ : ∃ u, decide (x < 0) = u := ⟨_, rfl⟩
  obtain ⟨xs, hxs⟩ : ∃ u, nS x.natAbs = u := ⟨_, rfl⟩
  obtain ⟨yb, hyb⟩ : ∃ u, decide (y < 0) = u := ⟨_, rfl⟩
  obtain ⟨ys, hys⟩ : ∃ u, nS y.natAbs = u := ⟨_, rfl⟩
  obtain ⟨qb, hqb⟩ : ∃ u, decide (Q < 0) = u := ⟨_, rfl⟩
  obtain ⟨qs, hqs⟩ : ∃ u, nS Q.natAbs = u := ⟨_, rfl⟩
  obtain ⟨pb, hpb⟩ : ∃ u, decide (P < 0) = u := ⟨_, rfl⟩
  obtain ⟨ps, hps⟩ : ∃ u, nS P.natAbs = u := ⟨_, rfl⟩
  obtain ⟨zb, hzb⟩ : ∃ u, decide (Z < 0) = u := ⟨_, rfl⟩
  obtain ⟨zs, hzs⟩ : ∃ u, nS Z.natAbs = u := ⟨_, rfl⟩
  obtain ⟨rs, hrs⟩ : ∃ u, nS R = u := ⟨_, rfl⟩
  rw [hxb, hxs, hqb, hqs, hrs] at HDX
  rw [hqb, hqs, hpb, hps] at HMX
  rw [hyb, hys, hpb, hps, hzb, hzs] at HAX
  rw [hrs] at HFX
  rw [hrs, hzb, hzs] at HRES
  rw [hxb, hxs, hyb, hys]
  clear hxb hxs hyb hys hqb hqs hpb hps hzb hzs hrs hR hQ hP hZ HDM HMU HAD HFR HLAW HL HBZ
  obtain ⟨hx3, hy3, hb3⟩ := bx2_at w1 (.bool xb) (.string xs) (.bool yb) (.string ys) 28
  obtain ⟨W3, hW3⟩ : ∃ W3, (w1.alloc (.cells #[.bool xb, .string xs] 28)).alloc (.cells #[.bool yb, .string ys] 28) = W3 := ⟨_, rfl⟩
  obtain ⟨B9, hB9⟩ : ∃ B, w1.heap.size = B := ⟨_, rfl⟩
  rw [hW3, hB9] at hx3 hy3
  rw [hW3] at hb3
  have HLT := Lib.hid (show w.heap.size + 1 < B9 from by rw [← hB9]; exact HY1.out.lt)
  have HX3 := Lib.hid (HX1.out.next hb3)
  have HY3 := Lib.hid (HY1.out.next hb3)
  have HB3 := Lib.hid (HB1.out.trans (hb3.mono HB1.out.size))
  have HP3 := Lib.hid hx3
  have HQ3 := Lib.hid hy3
  clear hx3 hy3 hb3
  go_wp2_with fail
  try rw [hW3]
  try rw [hB9]
  clear hW3 hB9
  refine (HD1.out _).mono ?_
  rintro e w4 ⟨rfl, hb4⟩
  have HX4 := Lib.hid (HX3.out.next hb4)
  have HY4 := Lib.hid (HY3.out.next hb4)
  have HB4 := Lib.hid (HB3.out.trans (hb4.mono HB3.out.size))
  have HP4 := Lib.hid (HP3.out.next hb4)
  have HQ4 := Lib.hid (HQ3.out.next hb4)
  clear hb4
  go_wp2_with fail
  refine (HD2.out _).mono ?_
  rintro e w5 ⟨rfl, hb5⟩
  have HX5 := Lib.hid (HX4.out.next hb5)
  have HY5 := Lib.hid (HY4.out.next hb5)
  have HB5 := Lib.hid (HB4.out.trans (hb5.mono HB4.out.size))
  have HP5 := Lib.hid (HP4.out.next hb5)
  have HQ5 := Lib.hid (HQ4.out.next hb5)
  clear hb5
  go_wp2
  have e0 : w5.drew.cell? ⟨B9, 0, none⟩ = some (.bool xb) := HP5.out.c0
  have e1 : w5.drew.cell? ⟨B9, 1, none⟩ = some (.string xs) := HP5.out.c1
  rename_i K8 hK8
  refine wp_onlyN ?_
  refine wp_region_K 12 (Below (w5.drew).heap.size (w5.drew)) (by kernel_rfl) ?_
  intro hD
  refine wpAnyK_takeSD (i := 0) (d := some 59) (v := ?v8_0b1) (fuel := 11) rfl (by kernel_rfl) (by kernel_rfl) (by kernel_rfl) (fun _ _ _ h => h) hD (Below.refl _ _) (.inl ⟨by kernel_rfl, ?y8_0b1⟩) ?n8_0b1
  case y8_0b1 => intro w' hS'; have e0 := cell_kept hS' (Nat.le_refl _) e0; have e1 := cell_kept hS' (Nat.le_refl _) e1; go_simp; with_reducible rfl
  clear hD; intro hD
  simp only [Act.put, sqA, sqB, sqC]
  refine wpAnyK_pureD (i := 1) (d := some 60) (v := ?v8_1b1) (fuel := 10) rfl (by kernel_rfl) (by kernel_rfl) (fun _ _ _ h => h) hD (Below.refl _ _) (.inl ⟨by kernel_rfl, ?y8_1b1⟩) ?n8_1b1
  case y8_1b1 => intro w' _; go_simp; with_reducible rfl
  clear hD; intro hD
  simp only [Act.put, sqA, sqB, sqC]
  refine (show GhostK _ _ _ _ _ _ 8 17 9 _ _ (GIz (w5.drew) (#[.bool false, .string ⟨#[]⟩]) (28)) from ?_).2 _ (GIz.start (Below.refl _ _))
  refine ghost_step (i := 8) (j := 2) (d := 17) (dj := 61) (fuel := 8) (fun (y : Unit) => .agg #[.bool false, .string t]) (fun y => GIz (w5.drew) (#[.bool false, .string ⟨#[]⟩]) (28)) (by kernel_rfl) (by kernel_rfl) rfl rfl hD (by kernel_rfl) (by decide) (fun _ _ _ _ h => h.1) (fun _ _ _ h => h.1) (alloc_zK rfl rfl (fun _ _ => by kernel_rfl)) ?hs8_2b1 ?hn8_2b1
  case hs8_2b1 =>
    intro gb gx gw hI K hK
    try simp only [Act.put, sqA, sqB, sqC] at hK ⊢
    have HK := Lib.hid hK
    have HGI := Lib.hid hI
    clear hK hI hD
    go_wp2_with fail
    refine (HF1.out _).mono ?_
    rintro ev w6 ⟨rfl, hb⟩
    have HG2 := Lib.hid (HGI.out.step hb)
    clear hb
    go_wp2
    exact HK.out () _ HG2.out
  intro _ hD
  simp only [Act.put, sqA, sqB, sqC]
  refine ghost_step (i := 8) (j := 3) (d := 17) (dj := 62) (fuel := 7) (fun (y : Unit) => .tuple #[.agg #[.bool qb, .string qs], .string rs, .int .i64 0]) (fun y => GIz (w5.drew) (#[.bool false, .string ⟨#[]⟩]) (28)) (by kernel_rfl) (by kernel_rfl) rfl rfl hD (by kernel_rfl) (by decide) (fun _ _ _ _ h => h.1) (fun _ _ _ h => h.1) (alloc_zK rfl rfl (fun _ _ => by kernel_rfl)) ?hs8_3b1 ?hn8_3b1
  case hs8_3b1 =>
    intro gb gx gw hI K hK
    try simp only [Act.put, sqA, sqB, sqC] at hK ⊢
    have HK := Lib.hid hK
    have HGI := Lib.hid hI
    clear hK hI hD
    go_wp2_with fail
    refine (HDX.out _).mono ?_
    rintro ev w6 ⟨rfl, hb⟩
    have HG2 := Lib.hid (HGI.out.step hb)
    clear hb
    go_wp2
    exact HK.out () _ HG2.out
  intro _ hD
  simp only [Act.put, sqA, sqB, sqC]
  refine ghost_pure (i := 8) (j := 4) (d := 17) (dj := 58) (v := ?v8_4b1) (fuel := 6) rfl (by kernel_rfl) (by kernel_rfl) (by kernel_rfl) (by kernel_rfl) (fun _ _ _ h => h) hD (by kernel_rfl) (by decide) (by decide) (fun _ _ _ h => h.1) (fun x => .inl ⟨by kernel_rfl, ?y8_4b1⟩) ?n8_4b1
  case y8_4b1 => intro w' _; go_simp; with_reducible rfl
  clear hD; intro hD
  simp only [Act.put, sqA, sqB, sqC]
  refine ghost_pure (i := 8) (j := 5) (d := 17) (dj := 63) (v := ?v8_5b1) (fuel := 5) rfl (by kernel_rfl) (by kernel_rfl) (by kernel_rfl) (by kernel_rfl) (fun _ _ _ h => h) hD (by kernel_rfl) (by decide) (by decide) (fun _ _ _ h => h.1) (fun x => .inl ⟨by kernel_rfl, ?y8_5b1⟩) ?n8_5b1
  case y8_5b1 => intro w' _; go_simp; with_reducible rfl
  clear hD; intro hD
  simp only [Act.put, sqA, sqB, sqC]
  refine ghost_pure (i := 8) (j := 6) (d := 17) (dj := 64) (v := ?v8_6b1) (fuel := 4) rfl (by kernel_rfl) (by kernel_rfl) (by kernel_rfl) (by kernel_rfl) (fun _ _ _ h => h) hD (by kernel_rfl) (by decide) (by decide) (fun _ _ _ h => h.1) (fun x => .inl ⟨by kernel_rfl, ?y8_6b1⟩) ?n8_6b1
  case y8_6b1 => intro w' _; go_simp; with_reducible rfl
  clear hD; intro hD
  simp only [Act.put, sqA, sqB, sqC]
  refine ghost_pure (i := 8) (j := 7) (d := 17) (dj := 65) (v := ?v8_7b1) (fuel := 3) rfl (by kernel_rfl) (by kernel_rfl) (by kernel_rfl) (by kernel_rfl) (fun _ _ _ h => h) hD (by kernel_rfl) (by decide) (by decide) (fun _ _ _ h => h.1) (fun x => .inl ⟨by kernel_rfl, ?y8_7b1⟩) ?n8_7b1
  case y8_7b1 => intro w' _; go_simp; with_reducible rfl
  clear hD; intro hD
  simp only [Act.put, sqA, sqB, sqC]
  refine ghost_end (by kernel_rfl) rfl hD (fun _ _ _ h => h.1) (alloc_zK rfl rfl (fun _ _ => by kernel_rfl)) ?_
  intro gx gw hI hD
  obtain ⟨hSG, hx⟩ := hI
  obtain ⟨GB, rfl, hBG, hZG⟩ := hx rfl
  have HSG := Lib.hid hSG
  have HBG := Lib.hid hBG
  have HZG := Lib.hid hZG
  clear hx hSG hBG hZG
  simp only [Act.put, sqA, sqB, sqC]
  refine wpAnyK_one (i := 9) (fuel := 2) (by kernel_rfl) rfl hD ?_
  clear hD; intro K9 hK9
  have hz : Bx2 gw GB (.bool false) (.string ⟨#[]⟩) 28 := HZG.out
  have p0 := hz.c0
  have p1 := hz.c1
  have pf0 := hz.f0
  have pf1 := hz.f1
  clear hz
  go_wp2
  refine hK9 _ _ (by exact below_set2 HSG.out HBG.out _ _) ?_; clear hK9; intro hS_8_9_g hD
  refine wpAnyK_one (i := 10) (fuel := 1) (by kernel_rfl) rfl hD ?_
  clear hD; intro K10 hK10
  go_wp2
  refine hK10 _ _ (by exact hS_8_9_g) ?_; clear hK10; intro hS_8_10_g hD
  refine wpAnyK_one (i := 11) (fuel := 0) (by kernel_rfl) rfl hD ?_
  clear hD; intro K11 hK11
  go_wp2
  refine hK11 _ _ (by exact hS_8_10_g) ?_; clear hK11; intro hS_8_11_g hD
  refine wpAnyK_done (by kernel_rfl) ?_ 0
  clear hD p0 p1 pf0 pf1 e0 e1
  have hz8 : Bx2 _ GB (.bool qb) (.string qs) 28 := Bx2.set2 (show Bx2 gw GB (.bool false) (.string ⟨#[]⟩) 28 from HZG.out)
  have hb8 := ((Below.refl w5.heap.size w5).drew).trans hS_8_11_g
  refine hK8 _ _ ?_
  obtain ⟨w8, hw8⟩ : ∃ W8, (gw.setCell ⟨GB, 0, none⟩ (.bool qb)).setCell ⟨GB, 1, none⟩ (.string qs) = W8 := ⟨_, rfl⟩
  obtain ⟨B17, hB17⟩ : ∃ B, GB = B := ⟨_, rfl⟩
  rw [hw8] at hz8 hb8 ⊢
  rw [hB17] at hz8 ⊢
  have HX8 := Lib.hid (HX5.out.next hb8)
  have HY8 := Lib.hid (HY5.out.next hb8)
  have HB8 := Lib.hid (HB5.out.trans (hb8.mono HB5.out.size))
  have HQ8 := Lib.hid (HQ5.out.next hb8)
  have HZ8 := Lib.hid hz8
  clear hw8 hB17 hz8 hb8 HZG HBG HSG
  go_wp2
  have e0 : w8.drew.cell? ⟨B17, 0, none⟩ = some (.bool qb) := HZ8.out.c0
  have e1 : w8.drew.cell? ⟨B17, 1, none⟩ = some (.string qs) := HZ8.out.c1
  rename_i K9 hK9
  refine wp_onlyN ?_
  refine wp_region_K 10 (Below (w8.drew).heap.size (w8.drew)) (by kernel_rfl) ?_
  intro hD
  refine wpAnyK_takeSD (i := 0) (d := some 67) (v := ?v9_0b2) (fuel := 9) rfl (by kernel_rfl) (by kernel_rfl) (by kernel_rfl) (fun _ _ _ h => h) hD (Below.refl _ _) (.inl ⟨by kernel_rfl, ?y9_0b2⟩) ?n9_0b2
  case y9_0b2 => intro w' hS'; have e0 := cell_kept hS' (Nat.le_refl _) e0; have e1 := cell_kept hS' (Nat.le_refl _) e1; go_simp; with_reducible rfl
  clear hD; intro hD
  simp only [Act.put, sqA, sqB, sqC]
  refine wpAnyK_pureD (i := 1) (d := some 68) (v := ?v9_1b2) (fuel := 8) rfl (by kernel_rfl) (by kernel_rfl) (fun _ _ _ h => h) hD (Below.refl _ _) (.inl ⟨by kernel_rfl, ?y9_1b2⟩) ?n9_1b2
  case y9_1b2 => intro w' _; go_simp; with_reducible rfl
  clear hD; intro hD
  simp only [Act.put, sqA, sqB, sqC]
  refine (show GhostK _ _ _ _ _ _ 7 20 7 _ _ (GIz (w8.drew) (#[.bool false, .string ⟨#[]⟩]) (28)) from ?_).2 _ (GIz.start (Below.refl _ _))
  refine ghost_step (i := 7) (j := 2) (d := 20) (dj := 69) (fuel := 6) (fun (y : Unit) => .agg #[.bool false, .string s]) (fun y => GIz (w8.drew) (#[.bool false, .string ⟨#[]⟩]) (28)) (by kernel_rfl) (by kernel_rfl) rfl rfl hD (by kernel_rfl) (by decide) (fun _ _ _ _ h => h.1) (fun _ _ _ h => h.1) (alloc_zK rfl rfl (fun _ _ => by kernel_rfl)) ?hs9_2b2 ?hn9_2b2
  case hs9_2b2 =>
    intro gb gx gw hI K hK
    try simp only [Act.put, sqA, sqB, sqC] at hK ⊢
    have HK := Lib.hid hK
    have HGI := Lib.hid hI
    clear hK hI hD
    go_wp2_with fail
    refine (HF2.out _).mono ?_
    rintro ev w6 ⟨rfl, hb⟩
    have HG2 := Lib.hid (HGI.out.step hb)
    clear hb
    go_wp2
    exact HK.out () _ HG2.out
  intro _ hD
  simp only [Act.put, sqA, sqB, sqC]
  refine ghost_step (i := 7) (j := 3) (d := 20) (dj := 70) (fuel := 5) (fun (y : Unit) => .tuple #[.agg #[.bool pb, .string ps], .int .i64 0]) (fun y => GIz (w8.drew) (#[.bool false, .string ⟨#[]⟩]) (28)) (by kernel_rfl) (by kernel_rfl) rfl rfl hD (by kernel_rfl) (by decide) (fun _ _ _ _ h => h.1) (fun _ _ _ h => h.1) (alloc_zK rfl rfl (fun _ _ => by kernel_rfl)) ?hs9_3b2 ?hn9_3b2
  case hs9_3b2 =>
    intro gb gx gw hI K hK
    try simp only [Act.put, sqA, sqB, sqC] at hK ⊢
    have HK := Lib.hid hK
    have HGI := Lib.hid hI
    clear hK hI hD
    go_wp2_with fail
    refine (HMX.out _).mono ?_
    rintro ev w6 ⟨rfl, hb⟩
    have HG2 := Lib.hid (HGI.out.step hb)
    clear hb
    go_wp2
    exact HK.out () _ HG2.out
  intro _ hD
  simp only [Act.put, sqA, sqB, sqC]
  refine ghost_pure (i := 7) (j := 4) (d := 20) (dj := 66) (v := ?v9_4b2) (fuel := 4) rfl (by kernel_rfl) (by kernel_rfl) (by kernel_rfl) (by kernel_rfl) (fun _ _ _ h => h) hD (by kernel_rfl) (by decide) (by decide) (fun _ _ _ h => h.1) (fun x => .inl ⟨by kernel_rfl, ?y9_4b2⟩) ?n9_4b2
  case y9_4b2 => intro w' _; go_simp; with_reducible rfl
  clear hD; intro hD
  simp only [Act.put, sqA, sqB, sqC]
  refine ghost_pure (i := 7) (j := 5) (d := 20) (dj := 71) (v := ?v9_5b2) (fuel := 3) rfl (by kernel_rfl) (by kernel_rfl) (by kernel_rfl) (by kernel_rfl) (fun _ _ _ h => h) hD (by kernel_rfl) (by decide) (by decide) (fun _ _ _ h => h.1) (fun x => .inl ⟨by kernel_rfl, ?y9_5b2⟩) ?n9_5b2
  case y9_5b2 => intro w' _; go_simp; with_reducible rfl
  clear hD; intro hD
  simp only [Act.put, sqA, sqB, sqC]
  refine ghost_pure (i := 7) (j := 6) (d := 20) (dj := 72) (v := ?v9_6b2) (fuel := 2) rfl (by kernel_rfl) (by kernel_rfl) (by kernel_rfl) (by kernel_rfl) (fun _ _ _ h => h) hD (by kernel_rfl) (by decide) (by decide) (fun _ _ _ h => h.1) (fun x => .inl ⟨by kernel_rfl, ?y9_6b2⟩) ?n9_6b2
  case y9_6b2 => intro w' _; go_simp; with_reducible rfl
  clear hD; intro hD
  simp only [Act.put, sqA, sqB, sqC]
  refine ghost_end (by kernel_rfl) rfl hD (fun _ _ _ h => h.1) (alloc_zK rfl rfl (fun _ _ => by kernel_rfl)) ?_
  intro gx gw hI hD
  obtain ⟨hSG, hx⟩ := hI
  obtain ⟨GB, rfl, hBG, hZG⟩ := hx rfl
  have HSG := Lib.hid hSG
  have HBG := Lib.hid hBG
  have HZG := Lib.hid hZG
  clear hx hSG hBG hZG
  simp only [Act.put, sqA, sqB, sqC]
  refine wpAnyK_one (i := 8) (fuel := 1) (by kernel_rfl) rfl hD ?_
  clear hD; intro K8 hK8
  have hz : Bx2 gw GB (.bool false) (.string ⟨#[]⟩) 28 := HZG.out
  have p0 := hz.c0
  have p1 := hz.c1
  have pf0 := hz.f0
  have pf1 := hz.f1
  clear hz
  go_wp2
  refine hK8 _ _ (by exact below_set2 HSG.out HBG.out _ _) ?_; clear hK8; intro hS_9_8_g hD
  refine wpAnyK_one (i := 9) (fuel := 0) (by kernel_rfl) rfl hD ?_
  clear hD; intro K9 hK9
  go_wp2
  refine hK9 _ _ (by exact hS_9_8_g) ?_; clear hK9; intro hS_9_9_g hD
  refine wpAnyK_done (by kernel_rfl) ?_ 0
  clear hD p0 p1 pf0 pf1 e0 e1
  have hz9 : Bx2 _ GB (.bool pb) (.string ps) 28 := Bx2.set2 (show Bx2 gw GB (.bool false) (.string ⟨#[]⟩) 28 from HZG.out)
  have hb9 := ((Below.refl w8.heap.size w8).drew).trans hS_9_9_g
  refine hK9 _ _ ?_
  obtain ⟨w9, hw9⟩ : ∃ W8, (gw.setCell ⟨GB, 0, none⟩ (.bool pb)).setCell ⟨GB, 1, none⟩ (.string ps) = W8 := ⟨_, rfl⟩
  rw [hw9] at hz9 hb9 ⊢
  have HX9 := Lib.hid (HX8.out.next hb9)
  have HY9 := Lib.hid (HY8.out.next hb9)
  have HB9 := Lib.hid (HB8.out.trans (hb9.mono HB8.out.size))
  have hq9 := HQ8.out.next hb9
  have HQ9 := Lib.hid hq9
  have z0 := hz9.c0
  have z1 := hz9.c1
  have x0 := hq9.c0
  have x1 := hq9.c1
  clear hw9 hb9 hz9 hq9
  go_wp2_with fail
  refine (HAX.out _).mono ?_
  rintro ev w10 ⟨rfl, hb10⟩
  have HX10 := Lib.hid (HX9.out.next hb10)
  have HY10 := Lib.hid (HY9.out.next hb10)
  have HB10 := Lib.hid (HB9.out.trans (hb10.mono HB9.out.size))
  have hq10 := HQ9.out.next hb10
  have HQ10 := Lib.hid hq10
  clear hb10 z0 z1 x0 x1
  have x0 := hq10.c0
  have x1 := hq10.c1
  have xf0 := hq10.f0
  have xf1 := hq10.f1
  clear hq10
  go_wp2
  have hne := HLT.out
  obtain ⟨w11, hw11⟩ : ∃ W8, (w10.setCell ⟨B9 + 1, 0, none⟩ (.bool zb)).setCell ⟨B9 + 1, 1, none⟩ (.string zs) = W8 := ⟨_, rfl⟩
  have hq11 := HQ10.out.set2 (u := .bool zb) (v := .string zs)
  have hx11 := bx2_off (u := .bool zb) (v := .string zs) HX10.out (C := B9 + 1) (by omega)
  have hy11 := bx2_off (u := .bool zb) (v := .string zs) HY10.out (C := B9 + 1) (by omega)
  have hb11 := below_set2 HB10.out (C := B9 + 1) (by omega) (.bool zb) (.string zs)
  rw [hw11] at hq11 hx11 hy11 hb11
  try rw [hw11]
  have HWX := Lib.hid (show Bx2 w11.drew w.heap.size (.bool false) (.string ⟨#[]⟩) 28 from hx11)
  have HWY := Lib.hid (show Bx2 w11.drew (w.heap.size + 1) (.bool false) (.string ⟨#[]⟩) 28 from hy11)
  have HS0 := Lib.hid (show Bx2 w11.drew (B9 + 1) (.bool zb) (.string zs) 28 from hq11)
  have HBD := Lib.hid hb11.drew
  clear hw11 hq11 hx11 hy11 hb11 hne x0 x1 xf0 xf1
  go_wp2
  obtain ⟨wd, hwd⟩ : ∃ wd, w11.drew = wd := ⟨_, rfl⟩
  rw [hwd] at HS0 HWX HWY HBD
  refine wp_region_K 8 (fun W' => Bx2 W' (B9 + 1) (.bool zb) (.string zs) 28) (by kernel_rfl) ?_
  intro hD
  rw [hwd]
  refine wpAnyK_pureD (i := 0) (d := some 79) (v := ?v11_0b3) (fuel := 7) rfl (by kernel_rfl) (by kernel_rfl) (fun _ _ _ h => h) hD HS0.out (.inl ⟨by kernel_rfl, ?y11_0b3⟩) ?n11_0b3
  case y11_0b3 => intro w' _; go_simp; with_reducible rfl
  clear hD; intro hD
  simp only [Act.put, sqA, sqB, sqC]
  refine wpAnyK_pureD (i := 1) (d := some 80) (v := ?v11_1b3) (fuel := 6) rfl (by kernel_rfl) (by kernel_rfl) (fun _ _ _ h => h) hD HS0.out (.inl ⟨by kernel_rfl, ?y11_1b3⟩) ?n11_1b3
  case y11_1b3 => intro w' _; go_simp; with_reducible rfl
  clear hD; intro hD
  simp only [Act.put, sqA, sqB, sqC]
  refine wpAnyK_takeSD (i := 3) (d := some 82) (v := ?v11_3b3) (fuel := 5) rfl (by kernel_rfl) (by kernel_rfl) (by kernel_rfl) (fun _ _ _ h => h) hD HS0.out (.inl ⟨by kernel_rfl, ?y11_3b3⟩) ?n11_3b3
  case y11_3b3 => intro w' hS'; have e0 := hS'.c0; have e1 := hS'.c1; go_simp; with_reducible rfl
  clear hD; intro hD
  simp only [Act.put, sqA, sqB, sqC]
  refine wpAnyK_one (i := 2) (fuel := 4) (by kernel_rfl) rfl hD ?_
  clear hD; intro K2 hK2
  go_wp2_with fail
  refine (HFX.out _).mono ?_
  rintro ev w12 ⟨rfl, hb⟩
  have HWX2 := Lib.hid (HWX.out.next hb)
  have HWY2 := Lib.hid (HWY.out.next hb)
  have HS2 := Lib.hid (HS0.out.next hb)
  have HBD2 := Lib.hid (HBD.out.trans (hb.mono HBD.out.size))
  clear hb
  go_wp2
  refine hK2 _ _ (by exact HS2.out) ?_; clear hK2; intro hS_11_2 hD
  refine wpAnyK_one (i := 4) (fuel := 3) (by kernel_rfl) rfl hD ?_
  clear hD; intro K4 hK4
  have m0 := HWX2.out.c0
  have m1 := HWX2.out.c1
  have mf0 := HWX2.out.f0
  have mf1 := HWX2.out.f1
  have hy7 : Bx2 ((w12.setCell ⟨w.heap.size, 0, none⟩ (.bool false)).setCell ⟨w.heap.size, 1, none⟩ (.string rs)) (w.heap.size + 1) (.bool false) (.string ⟨#[]⟩) 28 := bx2_off HWY2.out (by omega)
  have HY7 := Lib.hid hy7
  have n0 := hy7.c0
  have n1 := hy7.c1
  have nf0 := hy7.f0
  have nf1 := hy7.f1
  clear hy7
  go_wp2
  refine hK4 _ _ (by exact hS_11_2) ?_; clear hK4; intro hS_11_4 hD
  refine wpAnyK_one (i := 5) (fuel := 2) (by kernel_rfl) rfl hD ?_
  clear hD; intro K5 hK5
  go_wp2
  refine hK5 _ _ (by exact bx2_off hS_11_4 (C := w.heap.size) (by have := HLT.out; omega)) ?_; clear hK5; intro hS_11_5 hD
  refine wpAnyK_one (i := 6) (fuel := 1) (by kernel_rfl) rfl hD ?_
  clear hD; intro K6 hK6
  go_wp2
  refine hK6 _ _ (by exact bx2_off hS_11_5 (C := w.heap.size + 1) (by have := HLT.out; omega)) ?_; clear hK6; intro hS_11_6 hD
  refine wpAnyK_one (i := 7) (fuel := 0) (by kernel_rfl) rfl hD ?_
  clear hD; intro K7 hK7
  go_wp2
  refine hK7 _ _ (by exact hS_11_6) ?_; clear hK7; intro hS_11_7 hD
  refine wpAnyK_done (by kernel_rfl) ?_ 0
  clear hD m0 m1 mf0 mf1 n0 n1 nf0 nf1
  have hx6 := bx2_off (u := .bool zb) (v := .string zs) (HWX2.out.set2 (u := .bool false) (v := .string rs)) (show w.heap.size ≠ w.heap.size + 1 by omega)
  have hy6 := HY7.out.set2 (u := .bool zb) (v := .string zs)
  have q0 := hx6.c0
  have q1 := hx6.c1
  have q2 := hy6.c0
  have q3 := hy6.c1
  go_wp2
  exact bodyPost_ret (v := .tuple #[.string one, .agg #[.bool false, .string rs], .agg #[.bool zb, .string zs], .int .i64 0]) (by simp [results, Tryz.results119, go_sem, q0, q1, q2, q3]) rfl (HRES.out _ (below_set2 (below_set2 HBD2.out (Nat.le_refl _) _ _) (Nat.le_add_right _ _) _ _))
end Go.Proofs.YtndmjfkmnjejkaaGreatDoor
/- Walks: dominoref03.Inverse, Power, dominoref13.raw. -/
set_option linter.unusedVariables false
set_option linter.unusedSimpArgs false
namespace Go.Proofs.YtndmjfkmnjejkaaGreatDoor
open Go.RowKit
theorem r03_check2 (w : World) (a m : ByteArray) (n : Nat) (hn : n = w.heap.size) (ha : nvalid a = true) (hm : nvalid m = true) (h0 : m.toList.isEmpty = false) :
    Calls Tryz.prog 115 #[.slice (some ⟨n, 0, none⟩) 2 2] (w.alloc (.cells #[.string a, .string m] 22)) (RetQ (.int .i64 0) (w.alloc (.cells #[.string a, .string m] 22))) := by
  subst hn
  have h2 := sln_alloc w [a, m] 22 (by simp)
  refine r03_check [a, m] _ 2 2 _ h2 (by omega) (by omega) ?_ ?_
  · intro k s hk
    have := List.mem_of_getElem? hk
    simp only [List.mem_cons, List.mem_nil_iff, or_false] at this
    rcases this with rfl | rfl
    · exact ha
    · exact hm
  · intro s hk
    simp only [List.getElem?_cons_succ, List.getElem?_cons_zero, Option.some.injEq] at hk
    rw [← hk]; exact h0
set_option maxRecDepth 100000 in
set_option maxHeartbeats 2000000 in
theorem r03_Inverse (a m : Nat) (ham : a < m) (hm8 : m < 18446744073709551616) (h1 : 1 < m) (hg : Nat.gcd a m = 1) (w : World) : Calls Tryz.prog 74 #[.string (nS a), .string (nS m)] w (Ret (.tuple #[.string (nS (invN a m)), .int .i64 0]) w) := by
  have ha8 : a < 18446744073709551616 := by omega
  have HC := Lib.hid (fun w => r03_check2 w (nS a) (nS m) _ rfl (nS_valid_small ha8) (nS_valid_small hm8) (empty_nS (by omega)))
  have HR := Lib.hid (r03_Mod a m (lt128_of_lt8 ha8) (lt128_of_lt8 hm8) (by omega))
  rw [Nat.mod_eq_of_lt ham] at HR
  have HE := Lib.hid (r02_Extended a m ham hm8 h1 hg)
  have HO1 := Lib.hid (r01_Of 1 (by decide))
  have HRX := Lib.hid (fun x (hx : x < m) (hi : a * x % m = 1) (w : World) => show Calls Tryz.prog 103 #[intV (x : Nat), .string (nS m)] w (Ret (.tuple #[.string (nS (invN a m)), .int .i64 0]) w) from by
    have := r02_Mod (x : Nat) m (by rw [Int.natAbs_natCast]; exact lt128_of_lt8 (by omega)) (lt128_of_lt8 hm8) (by omega) w
    rw [← Int.natCast_emod, Int.toNat_natCast, Nat.mod_eq_of_lt hx] at this
    rw [invN_of hx hi]
    exact this)
  obtain ⟨s, hs⟩ : ∃ s, nS a = s := ⟨_, rfl⟩
  obtain ⟨t, ht⟩ : ∃ t, nS m = t := ⟨_, rfl⟩
  obtain ⟨v, hv⟩ : ∃ v, nS (invN a m) = v := ⟨_, rfl⟩
  obtain ⟨one, hone⟩ : ∃ v, nS 1 = v := ⟨_, rfl⟩
  have HONE := Lib.hid hone
  have HO1 := Lib.hid (fun w => show Calls Tryz.prog 101 #[.int .u64 1] w (Ret (.string one) w) from by have := HO1.out w; rw [show bstr (encN 1) = one from hone] at this; exact this)
  rw [hs, ht] at HC HR HE
  rw [ht, hv] at HRX
  rw [hs, ht, hv]
  clear hs ht hv hone ham hm8 h1 hg ha8
  go_enter Tryz.func74, Tryz.ntmps74
  go_wp2_with fail
  refine (HC.out w).mono ?_
  rintro e w1 ⟨rfl, rfl⟩
  have HB1 := Lib.hid ((Below.refl w.heap.size w).alloc (Nat.le_refl _) (.cells #[.string s, .string t] 22))
  go_wp2_with fail
  refine (HR.out _).mono ?_
  rintro e w2 ⟨rfl, hb2⟩
  have HB2 := Lib.hid (HB1.out.trans (hb2.mono HB1.out.size))
  clear hb2
  go_wp2_with fail
  refine (HE.out _).mono ?_
  rintro e w3 ⟨x, y, rfl, hb3, hxm, hax⟩
  have HB3 := Lib.hid (HB2.out.trans (hb3.mono HB2.out.size))
  have HXX := Lib.hid (HRX.out x hxm hax)
  rw [intV_nat] at HXX ⊢
  rw [HONE.out]
  unfold intV zV
  obtain ⟨u, hu⟩ : ∃ u, nS x = u := ⟨_, rfl⟩
  rw [hu] at HXX ⊢
  obtain ⟨yb, hyb⟩ : ∃ u, decide (y < 0) = u := ⟨_, rfl⟩
  obtain ⟨ys, hys⟩ : ∃ u, nS y.natAbs = u := ⟨_, rfl⟩
  rw [hyb, hys]
  clear hb3 hxm hax hu hyb hys
  obtain ⟨hx3, hy3, hb3⟩ := bx2_at w3 (.bool false) (.string u) (.bool yb) (.string ys) 28
  obtain ⟨W3, hW3⟩ : ∃ W3, (w3.alloc (.cells #[.bool false, .string u] 28)).alloc (.cells #[.bool yb, .string ys] 28) = W3 := ⟨_, rfl⟩
  rw [hW3] at hx3 hb3
  have HX3 := Lib.hid hx3
  have HB4 := Lib.hid (HB3.out.trans (hb3.mono HB3.out.size))
  clear hx3 hy3 hb3
  go_wp2_with fail
  try rw [hW3]
  clear hW3
  refine (HO1.out _).mono ?_
  rintro e w4 ⟨rfl, hb4⟩
  have HB5 := Lib.hid (HB4.out.trans (hb4.mono HB4.out.size))
  have hx4 := HX3.out.next hb4
  have c0 := hx4.c0
  have c1 := hx4.c1
  clear hb4 hx4
  go_wp2_with fail
  refine (HXX.out _).mono ?_
  rintro e w5 ⟨rfl, hb5⟩
  have HB6 := Lib.hid (HB5.out.trans (hb5.mono HB5.out.size))
  clear hb5
  go_wp2
  go_ret2
  exact ⟨rfl, HB6.out⟩
end Go.Proofs.YtndmjfkmnjejkaaGreatDoor

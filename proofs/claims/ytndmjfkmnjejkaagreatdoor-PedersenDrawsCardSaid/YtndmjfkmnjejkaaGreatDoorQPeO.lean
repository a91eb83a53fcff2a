import Derived.Test.YtndmjfkmnjejkaaGreatDoorQGsa
set_option linter.unusedVariables false
set_option linter.unusedSimpArgs false
namespace Go.Proofs.YtndmjfkmnjejkaaGreatDoor
set_option maxRecDepth 100000
set_option maxHeartbeats 4000000
open Go.RowKit
def RetBz (a b : Nat) (w : World) (e : Ending) (w' : World) : Prop := ∃ x y : Int, e = .returned (.tuple #[.string (nS (Nat.gcd a b)), intV x, intV y]) ∧ Below w.heap.size w w' ∧ (a : Int) * x + b * y = Nat.gcd a b ∧ x.natAbs ≤ max 1 b ∧ y.natAbs ≤ max 1 a ∧ (b = 0 → y = 0 ∧ x = 1)
theorem bz_law {a b g : Nat} {x y : Int} (h : (b : Int) * x + (a % b : Nat) * y = g) : (a : Int) * y + b * (x - (a / b : Nat) * y) = g := by
 have e : (a : Int) = b * (a / b : Nat) + (a % b : Nat) := by rw [← Int.natCast_mul, ← Int.natCast_add, Nat.div_add_mod]
 rw [← h]
 conv => lhs; rw [e]
 rw [Int.add_mul, Int.mul_sub, Int.mul_assoc]
 omega
theorem bz_bound {a b : Nat} {x y : Int} (hb : 0 < b) (hx : x.natAbs ≤ max 1 (a % b)) (hy : y.natAbs ≤ max 1 b) (h0 : a % b = 0 → y = 0 ∧ x = 1) : (x - (a / b : Nat) * y).natAbs ≤ max 1 a := by
 rcases Nat.eq_zero_or_pos (a % b) with h | h
 · obtain ⟨rfl, rfl⟩ := h0 h
   rw [Int.mul_zero]; omega
 · have e := Nat.div_add_mod a b
   have h1 : ((a / b : Nat) * y).natAbs ≤ a / b * b := by
    rw [Int.natAbs_mul, Int.natAbs_natCast]
    exact Nat.mul_le_mul_left _ (by omega)
   have h2 : a / b * b = b * (a / b) := Nat.mul_comm _ _
   omega
theorem bx2_off {W : World} {B C : Nat} {x y u v : Value} {T : TypeId} (h : Bx2 W B x y T) (hne : B ≠ C) : Bx2 ((W.setCell ⟨C, 0, none⟩ u).setCell ⟨C, 1, none⟩ v) B x y T := by
 unfold Bx2
 rw [heap_setCell_other _ _ _ _ hne, heap_setCell_other _ _ _ _ hne]
 exact h
theorem below_set2 {B : Nat} {w W : World} (h : Below B w W) {C : Nat} (hC : B ≤ C) (u v : Value) : Below B w ((W.setCell ⟨C, 0, none⟩ u).setCell ⟨C, 1, none⟩ v) :=
 (h.setCell (p := ⟨C, 0, none⟩) hC u).setCell (p := ⟨C, 1, none⟩) hC v
theorem bx2_at (w : World) (x0 x1 y0 y1 : Value) (T : TypeId) : Bx2 ((w.alloc (.cells #[x0, x1] T)).alloc (.cells #[y0, y1] T)) w.heap.size x0 x1 T ∧ Bx2 ((w.alloc (.cells #[x0, x1] T)).alloc (.cells #[y0, y1] T)) (w.heap.size + 1) y0 y1 T ∧ Below w.heap.size w ((w.alloc (.cells #[x0, x1] T)).alloc (.cells #[y0, y1] T)) := by
 refine ⟨(Bx2.new w x0 x1 T).next ((Below.refl _ _).alloc (Nat.le_refl _) _), ?_, ((Below.refl w.heap.size w).alloc (Nat.le_refl _) _).alloc (by simp) _⟩
 have := Bx2.new (w.alloc (.cells #[x0, x1] T)) y0 y1 T
 rwa [World.size_alloc] at this
theorem r02_bezout : ∀ (n a b : Nat), b < n → a < 18446744073709551616 → b < 18446744073709551616 → ∀ w : World, Calls Tryz.prog 168 #[.string (nS a), .string (nS b)] w (RetBz a b w) := by
 intro n
 induction n with
 | zero => intro a b h; omega
 | succ n ih =>
  intro a b hn ha hb w
  have HB0 := Hq (((Below.refl w.heap.size w).alloc (Nat.le_refl _) (.cells #[.bool false, .string ⟨#[]⟩] 28)).alloc (by simp) (.cells #[.bool false, .string ⟨#[]⟩] 28))
  have HX0 := Hq (((Bx2.new w (.bool false) (.string ⟨#[]⟩) 28).next ((Below.refl _ _).alloc (Nat.le_refl _) (.cells #[.bool false, .string ⟨#[]⟩] 28))))
  have HY0 := Hq (show Bx2 ((w.alloc (.cells #[.bool false, .string ⟨#[]⟩] 28)).alloc (.cells #[.bool false, .string ⟨#[]⟩] 28)) (w.heap.size + 1) (.bool false) (.string ⟨#[]⟩) 28 from by
   have := Bx2.new (w.alloc (.cells #[.bool false, .string ⟨#[]⟩] 28)) (.bool false) (.string ⟨#[]⟩) 28
   rwa [World.size_alloc] at this)
  obtain ⟨W0, hW0⟩ : ∃ W0, (w.alloc (.cells #[.bool false, .string ⟨#[]⟩] 28)).alloc (.cells #[.bool false, .string ⟨#[]⟩] 28) = W0 := ⟨_, rfl⟩
  rw [hW0] at HB0 HX0 HY0
  rcases Nat.eq_zero_or_pos b with h0 | h0
  · subst h0
    have he : (nS 0).toList.isEmpty = true := sempty_true rfl
    have HO1 := Hq (r02_Of 1 (by decide))
    have HO0 := Hq (r02_Of 0 (by decide))
    have HI1 := Hq (show intV ((1 : Nat) : Int) = .agg #[.bool false, .string (nS 1)] from rfl)
    have HI0 := Hq (show intV ((0 : Nat) : Int) = .agg #[.bool false, .string (nS 0)] from rfl)
    rw [HI1.out] at HO1
    rw [HI0.out] at HO0
    have HRES := Hq (show ∀ w', Below w.heap.size w w' → RetBz a 0 w (.returned (.tuple #[.string (nS a), .agg #[.bool false, .string (nS 1)], .agg #[.bool false, .string (nS 0)]])) w' from fun w' hb => ⟨1, 0, by rw [Nat.gcd_zero_right]; rfl, hb, by rw [Nat.gcd_zero_right]; omega, by decide, by omega, fun _ => ⟨rfl, rfl⟩⟩)
    obtain ⟨s, hs⟩ : ∃ s, nS a = s := ⟨_, rfl⟩
    obtain ⟨t, ht⟩ : ∃ t, nS 0 = t := ⟨_, rfl⟩
    obtain ⟨u, hu⟩ : ∃ u, nS 1 = u := ⟨_, rfl⟩
    rw [hs, ht, hu] at HRES
    rw [hu] at HO1
    rw [ht] at HO0 he
    rw [hs, ht]
    clear hs ht hu ih hn ha hb HI1 HI0
    have HO1' := Hq (fun w => show Calls Tryz.prog 167 #[.int .i64 1] w (Ret (.agg #[.bool false, .string u]) w) from HO1.out w)
    have HO0' := Hq (fun w => show Calls Tryz.prog 167 #[.int .i64 0] w (Ret (.agg #[.bool false, .string t]) w) from HO0.out w)
    go_enter Tryz.func168, Tryz.ntmps168
    go_wp2_with fail
    try rw [hW0]
    clear hW0
    refine (HO1'.out _).mono ?_
    rintro e w1 ⟨rfl, hb1⟩
    have HX1 := Hq (HX0.out.next hb1)
    have HY1 := Hq (HY0.out.next hb1)
    have HB1 := Hq (HB0.out.trans (hb1.mono HB0.out.size))
    clear hb1
    go_wp2_with fail
    refine (HO0'.out _).mono ?_
    rintro e w2 ⟨rfl, hb2⟩
    have hX := HX1.out.next hb2
    have hY := HY1.out.next hb2
    have HX2 := Hq hX
    have HY2 := Hq hY
    have HB2 := Hq (HB1.out.trans (hb2.mono HB1.out.size))
    have c0 := hX.c0
    have c1 := hX.c1
    have d0 := hY.c0
    have d1 := hY.c1
    have f0 := hX.f0
    have f1 := hX.f1
    have k0 := hY.f0
    have k1 := hY.f1
    clear hb2 hX hY
    go_wp2
    have hx5 := HX2.out.set2 (u := .bool false) (v := .string u)
    have hy5 := bx2_off (u := .bool false) (v := .string u) HY2.out (show w.heap.size + 1 ≠ w.heap.size by omega)
    have hx6 := bx2_off (u := .bool false) (v := .string t) hx5 (show w.heap.size ≠ w.heap.size + 1 by omega)
    have hy6 := hy5.set2 (u := .bool false) (v := .string t)
    have q0 := hx6.c0
    have q1 := hx6.c1
    have q2 := hy6.c0
    have q3 := hy6.c1
    exact bodyPost_ret (v := .tuple #[.string s, .agg #[.bool false, .string u], .agg #[.bool false, .string t]]) (by simp [results, Tryz.results168, go_sem, q0, q1, q2, q3]) rfl (HRES.out _ (below_set2 (below_set2 HB2.out (Nat.le_refl _) _ _) (Nat.le_add_right _ _) _ _))
  · have he := empty_nS h0
    have hqa : a / b ≤ a := Nat.div_le_self _ _
    have hrb : a % b < b := Nat.mod_lt _ h0
    have HDM := Hq (r01_DivMod a b (lt128_of_lt8 ha) (lt128_of_lt8 hb) h0)
    have HIH := Hq (ih b (a % b) (by omega) hb (by omega))
    have HFR := Hq (r02_From (a / b) (lt128_of_lt8 (by omega)))
    have HLAW := Hq (fun (x y : Int) (h : (b : Int) * x + (a % b : Nat) * y = Nat.gcd b (a % b)) => bz_law (a := a) h)
    have HBD := Hq (fun (x y : Int) => bz_bound (a := a) (b := b) (x := x) (y := y) h0)
    have HGC := Hq (show Nat.gcd b (a % b) = Nat.gcd a b from gcd_next rfl)
    have hp16 : (18446744073709551616 : Nat) * 18446744073709551616 < 256 ^ 128 := by decide +kernel
    have HP16 := Hq hp16
    have hqy : ∀ y : Int, y.natAbs ≤ max 1 b → (((a / b : Nat) : Int) * y).natAbs < 256 ^ 100 := by
     intro y hy
     have h1 : (((a / b : Nat) : Int) * y).natAbs ≤ 18446744073709551616 * 18446744073709551616 := by
      rw [Int.natAbs_mul, Int.natAbs_natCast]
      exact Nat.mul_le_mul (by omega) (by omega)
     have h2 : (18446744073709551616 : Nat) * 18446744073709551616 < 256 ^ 100 := by decide +kernel
     omega
    have HQY := Hq hqy
    have h100 : (256 : Nat) ^ 100 < 256 ^ 128 := Nat.pow_lt_pow_right (by omega) (by omega)
    have H100 := Hq h100
    have HMU := Hq (fun (y : Int) (hy : y.natAbs ≤ max 1 b) (w : World) => show Calls Tryz.prog 169 #[intV (a / b : Nat), intV y] w (Ret (.tuple #[intV ((a / b : Nat) * y), .int .i64 0]) w) from by
     have hh := r02_Mul (a / b : Nat) y (by rw [Int.natAbs_natCast]; exact lt128_of_lt8 (by omega)) (lt128_of_lt8 (by omega)) w
     rw [fitZ_in (by have := hqy y hy; omega)] at hh
     exact hh)
    have HSU := Hq (fun (x y : Int) (hx : x.natAbs ≤ max 1 (a % b)) (hy : y.natAbs ≤ max 1 b) (h1 : a % b = 0 → y = 0 ∧ x = 1) => r02_Sub x ((a / b : Nat) * y) (lt128_of_lt8 (by omega)) (by have := hqy y hy; omega) (lt128_of_lt8 (by have := bz_bound (a := a) h0 hx hy h1; omega)))
    have HB8 := Hq (show a < 18446744073709551616 ∧ b < 18446744073709551616 ∧ a % b < b from ⟨ha, hb, hrb⟩)
    obtain ⟨Q, hQ⟩ : ∃ Q, a / b = Q := ⟨_, rfl⟩
    rw [hQ] at HDM HFR HMU HSU HLAW HBD
    obtain ⟨s, hs⟩ : ∃ s, nS a = s := ⟨_, rfl⟩
    obtain ⟨t, ht⟩ : ∃ t, nS b = t := ⟨_, rfl⟩
    obtain ⟨qs, hqs⟩ : ∃ t, nS Q = t := ⟨_, rfl⟩
    obtain ⟨rs, hrs⟩ : ∃ t, nS (a % b) = t := ⟨_, rfl⟩
    have HIQ := Hq (show intV (Q : Int) = .agg #[.bool false, .string qs] from by unfold intV zV; rw [decide_eq_false (Int.not_lt.2 (Int.natCast_nonneg _)), Int.natAbs_natCast, hqs])
    rw [hs, ht, hqs, hrs] at HDM
    rw [hqs, HIQ.out] at HFR
    rw [HIQ.out] at HMU
    rw [ht, hrs] at HIH
    rw [ht] at he
    rw [hs, ht]
    clear hs ht hqs hrs hQ ih hn ha hb hqa hrb hp16 hqy h100 h0
    go_enter Tryz.func168, Tryz.ntmps168
    go_wp2_with fail
    try rw [hW0]
    clear hW0
    refine (HDM.out _).mono ?_
    rintro e w1 ⟨rfl, hb1⟩
    have HX1 := Hq (HX0.out.next hb1)
    have HY1 := Hq (HY0.out.next hb1)
    have HB1 := Hq (HB0.out.trans (hb1.mono HB0.out.size))
    clear hb1
    go_wp2_with fail
    refine (HIH.out _).mono ?_
    rintro e w2 ⟨x, y, rfl, hb2, hlaw, hbx, hby, hb0⟩
    have HX2 := Hq (HX1.out.next hb2)
    have HY2 := Hq (HY1.out.next hb2)
    have HB2 := Hq (HB1.out.trans (hb2.mono HB1.out.size))
    have HMY := Hq (HMU.out y hby)
    have HSY := Hq (HSU.out x y hbx hby hb0)
    have HLW := Hq (HLAW.out x y hlaw)
    have HBB := Hq (HBD.out x y hbx hby hb0)
    have HBY := Hq hby
    rw [HGC.out] at HLW ⊢
    clear hb2 hlaw hbx hby hb0
    have HRES := Hq (show ∀ w', Below w.heap.size w w' → RetBz a b w (.returned (.tuple #[.string (nS (Nat.gcd a b)), intV y, intV (x - Q * y)])) w' from fun w' hb => ⟨y, x - Q * y, rfl, hb, HLW.out, HBY.out, HBB.out, fun h => by have := HB8.out.2.2; omega⟩)
    obtain ⟨P, hP⟩ : ∃ P : Int, Q * y = P := ⟨_, rfl⟩
    rw [hP] at HMY HSY HRES
    obtain ⟨Z, hZ⟩ : ∃ Z : Int, x - P = Z := ⟨_, rfl⟩
    rw [hZ] at HSY HRES
    unfold intV zV at HMY HSY HRES ⊢
    obtain ⟨g, hg⟩ : ∃ g, nS (Nat.gcd a b) = g := ⟨_, rfl⟩
    obtain ⟨xb, hxb⟩ : ∃ u, decide (x < 0) = u := ⟨_, rfl⟩
    obtain ⟨xs, hxs⟩ : ∃ u, nS x.natAbs = u := ⟨_, rfl⟩
    obtain ⟨yb, hyb⟩ : ∃ u, decide (y < 0) = u := ⟨_, rfl⟩
    obtain ⟨ys, hys⟩ : ∃ u, nS y.natAbs = u := ⟨_, rfl⟩
    obtain ⟨pb, hpb⟩ : ∃ u, decide (P < 0) = u := ⟨_, rfl⟩
    obtain ⟨ps, hps⟩ : ∃ u, nS P.natAbs = u := ⟨_, rfl⟩
    obtain ⟨zb, hzb⟩ : ∃ u, decide (Z < 0) = u := ⟨_, rfl⟩
    obtain ⟨zs, hzs⟩ : ∃ u, nS Z.natAbs = u := ⟨_, rfl⟩
    rw [hyb, hys, hpb, hps] at HMY
    rw [hxb, hxs, hpb, hps, hzb, hzs] at HSY
    rw [hg, hyb, hys, hzb, hzs] at HRES
    rw [hg, hxb, hxs, hyb, hys]
    clear hg hxb hxs hyb hys hpb hps hzb hzs hP hZ HLW HBB HBY HLAW HBD HMU HSU HIH
    go_wp2
    obtain ⟨hx3, hy3, hb3⟩ := bx2_at w2 (.bool xb) (.string xs) (.bool yb) (.string ys) 28
    obtain ⟨W3, hW3⟩ : ∃ W3, (w2.alloc (.cells #[.bool xb, .string xs] 28)).alloc (.cells #[.bool yb, .string ys] 28) = W3 := ⟨_, rfl⟩
    obtain ⟨B11, hB11⟩ : ∃ B, w2.heap.size = B := ⟨_, rfl⟩
    rw [hW3, hB11] at hx3 hy3
    rw [hW3] at hb3
    try rw [hW3]
    try rw [hB11]
    have HLT := Hq (show w.heap.size + 1 < B11 from by rw [← hB11]; exact HY2.out.lt)
    have HX3 := Hq (HX2.out.next hb3)
    have HY3 := Hq (HY2.out.next hb3)
    have HB3 := Hq (HB2.out.trans (hb3.mono HB2.out.size))
    have HP3 := Hq hx3
    have HQ3 := Hq hy3
    have e0 : W3.drew.cell? ⟨B11 + 1, 0, none⟩ = some (.bool yb) := hy3.c0
    have e1 : W3.drew.cell? ⟨B11 + 1, 1, none⟩ = some (.string ys) := hy3.c1
    clear hW3 hB11 hx3 hy3 hb3
    rename_i K5 hK5
    refine wp_onlyN ?_
    refine wp_region_K 10 (Below (W3.drew).heap.size (W3.drew)) (by kernel_rfl) ?_
    intro hD
    refine rP 0 37 9 rfl hD (Below.refl _ _) ?_; clear hD; intro hD; simp only [Act.put, sqA, sqB, sqC]
    refine rT 2 39 8 rfl hD (Below.refl _ _) (by intro w' hS'; have e0 := kC hS' e0; have e1 := kC hS' e1; go_simp; with_reducible rfl) ?_; clear hD; intro hD; simp only [Act.put, sqA, sqB, sqC]
    refine (show GhostK _ _ _ _ _ _ 7 13 7 _ _ (GIz (W3.drew) (#[.bool false, .string ⟨#[]⟩]) (28)) from ?_).2 _ (GIz.start (Below.refl _ _))
    refine ghost_step (i := 7) (j := 1) (d := 13) (dj := 38) (fuel := 6) (fun (y : Unit) => .agg #[.bool false, .string qs]) (fun y => GIz (W3.drew) (#[.bool false, .string ⟨#[]⟩]) (28)) (by kernel_rfl) (by kernel_rfl) rfl rfl hD (by kernel_rfl) (by decide) (fun _ _ _ _ h => h.1) (fun _ _ _ h => h.1) (alloc_zK rfl rfl (fun _ _ => by kernel_rfl)) ?hs5_1b1 ?hn5_1b1
    case hs5_1b1 =>
     intro gb gx gw hI K hK
     try simp only [Act.put, sqA, sqB, sqC] at hK ⊢
     have HK := Hq hK
     have HGI := Hq hI
     clear hK hI hD
     go_wp2_with fail
     refine (HFR.out _).mono ?_
     rintro ev w4 ⟨rfl, hb⟩
     have HG2 := Hq (HGI.out.step hb)
     clear hb
     go_wp2
     exact HK.out () _ HG2.out
    intro _ hD
    simp only [Act.put, sqA, sqB, sqC]
    refine ghost_step (i := 7) (j := 3) (d := 13) (dj := 40) (fuel := 5) (fun (y : Unit) => .tuple #[.agg #[.bool pb, .string ps], .int .i64 0]) (fun y => GIz (W3.drew) (#[.bool false, .string ⟨#[]⟩]) (28)) (by kernel_rfl) (by kernel_rfl) rfl rfl hD (by kernel_rfl) (by decide) (fun _ _ _ _ h => h.1) (fun _ _ _ h => h.1) (alloc_zK rfl rfl (fun _ _ => by kernel_rfl)) ?hs5_3b1 ?hn5_3b1
    case hs5_3b1 =>
     intro gb gx gw hI K hK
     try simp only [Act.put, sqA, sqB, sqC] at hK ⊢
     have HK := Hq hK
     have HGI := Hq hI
     clear hK hI hD
     go_wp2_with fail
     refine (HMY.out _).mono ?_
     rintro ev w4 ⟨rfl, hb⟩
     have HG2 := Hq (HGI.out.step hb)
     clear hb
     go_wp2
     exact HK.out () _ HG2.out
    intro _ hD
    simp only [Act.put, sqA, sqB, sqC]
    refine ghost_pure (i := 7) (j := 4) (d := 13) (dj := 36) (v := ?v5_4b1) (fuel := 4) rfl (by kernel_rfl) (by kernel_rfl) (by kernel_rfl) (by kernel_rfl) (fun _ _ _ h => h) hD (by kernel_rfl) (by decide) (by decide) (fun _ _ _ h => h.1) (fun x => .inl ⟨by kernel_rfl, ?y5_4b1⟩) ?n5_4b1
    case y5_4b1 => intro w' _; go_simp; with_reducible rfl
    clear hD; intro hD
    simp only [Act.put, sqA, sqB, sqC]
    refine ghost_pure (i := 7) (j := 5) (d := 13) (dj := 41) (v := ?v5_5b1) (fuel := 3) rfl (by kernel_rfl) (by kernel_rfl) (by kernel_rfl) (by kernel_rfl) (fun _ _ _ h => h) hD (by kernel_rfl) (by decide) (by decide) (fun _ _ _ h => h.1) (fun x => .inl ⟨by kernel_rfl, ?y5_5b1⟩) ?n5_5b1
    case y5_5b1 => intro w' _; go_simp; with_reducible rfl
    clear hD; intro hD
    simp only [Act.put, sqA, sqB, sqC]
    refine ghost_pure (i := 7) (j := 6) (d := 13) (dj := 42) (v := ?v5_6b1) (fuel := 2) rfl (by kernel_rfl) (by kernel_rfl) (by kernel_rfl) (by kernel_rfl) (fun _ _ _ h => h) hD (by kernel_rfl) (by decide) (by decide) (fun _ _ _ h => h.1) (fun x => .inl ⟨by kernel_rfl, ?y5_6b1⟩) ?n5_6b1
    case y5_6b1 => intro w' _; go_simp; with_reducible rfl
    clear hD; intro hD
    simp only [Act.put, sqA, sqB, sqC]
    refine ghost_end (by kernel_rfl) rfl hD (fun _ _ _ h => h.1) (alloc_zK rfl rfl (fun _ _ => by kernel_rfl)) ?_
    intro gx gw hI hD
    obtain ⟨hSG, hx⟩ := hI
    obtain ⟨GB, rfl, hBG, hZG⟩ := hx rfl
    have HSG := Hq hSG
    have HBG := Hq hBG
    have HZG := Hq hZG
    clear hx hSG hBG hZG
    simp only [Act.put, sqA, sqB, sqC]
    refine rO 8 1 rfl hD ?_; clear hD; intro K8 hK8
    have hz : Bx2 gw GB (.bool false) (.string ⟨#[]⟩) 28 := HZG.out
    have p0 := hz.c0
    have p1 := hz.c1
    have pf0 := hz.f0
    have pf1 := hz.f1
    clear hz
    go_wp2
    refine hK8 _ _ (by exact below_set2 HSG.out HBG.out _ _) ?_; clear hK8; intro hS_5_8_g hD
    refine rO 9 0 rfl hD ?_; clear hD; intro K9 hK9
    go_wp2
    refine hK9 _ _ (by exact hS_5_8_g) ?_; clear hK9; intro hS_5_9_g hD
    refine wpAnyK_done (by kernel_rfl) ?_ 0
    clear hD p0 p1 pf0 pf1
    have hz8 : Bx2 _ GB (.bool pb) (.string ps) 28 := Bx2.set2 (show Bx2 gw GB (.bool false) (.string ⟨#[]⟩) 28 from HZG.out)
    have hb8 := ((Below.refl W3.heap.size W3).drew).trans hS_5_9_g
    refine hK5 _ _ ?_
    obtain ⟨W8, hW8⟩ : ∃ W8, (gw.setCell ⟨GB, 0, none⟩ (.bool pb)).setCell ⟨GB, 1, none⟩ (.string ps) = W8 := ⟨_, rfl⟩
    rw [hW8] at hz8 hb8 ⊢
    clear hW8
    have HX8 := Hq (HX3.out.next hb8)
    have HY8 := Hq (HY3.out.next hb8)
    have HB8' := Hq (HB3.out.trans (hb8.mono HB3.out.size))
    have hp8 := HP3.out.next hb8
    have HQ8 := Hq (HQ3.out.next hb8)
    have HZ8 := Hq hz8
    have z0 := hz8.c0
    have z1 := hz8.c1
    have x0 := hp8.c0
    have x1 := hp8.c1
    clear hb8 hz8 hp8 e0 e1
    go_wp2_with fail
    refine (HSY.out _).mono ?_
    rintro ev w9 ⟨rfl, hb9⟩
    have HX9 := Hq (HX8.out.next hb9)
    have HY9 := Hq (HY8.out.next hb9)
    have HB9 := Hq (HB8'.out.trans (hb9.mono HB8'.out.size))
    have HQ9 := Hq (HQ8.out.next hb9)
    clear hb9 z0 z1 x0 x1
    go_wp2
    obtain ⟨B15, hB15⟩ : ∃ B, w9.heap.size = B := ⟨_, rfl⟩
    obtain ⟨W10, hW10⟩ : ∃ W, w9.alloc (.cells #[.bool zb, .string zs] 28) = W := ⟨_, rfl⟩
    have hba : Below w9.heap.size w9 W10 := by rw [← hW10]; exact (Below.refl _ _).alloc (Nat.le_refl _) _
    have hz10 : Bx2 W10 B15 (.bool zb) (.string zs) 28 := by rw [← hW10, ← hB15]; exact Bx2.new _ _ _ _
    have hq10 := HQ9.out.next hba
    have HX10 := Hq (HX9.out.next hba)
    have HY10 := Hq (HY9.out.next hba)
    have HB10 := Hq (HB9.out.trans (hba.mono HB9.out.size))
    have HLT15 := Hq (show w.heap.size + 1 < B15 from by rw [← hB15]; exact HY9.out.lt)
    try rw [hW10]
    try rw [hB15]
    have HWX := Hq (show Bx2 W10.drew w.heap.size (.bool false) (.string ⟨#[]⟩) 28 from HX10.out)
    have HWY := Hq (show Bx2 W10.drew (w.heap.size + 1) (.bool false) (.string ⟨#[]⟩) 28 from HY10.out)
    have HS0 := Hq (show Bx2 W10.drew (B11 + 1) (.bool yb) (.string ys) 28 ∧ Bx2 W10.drew B15 (.bool zb) (.string zs) 28 from ⟨hq10, hz10⟩)
    have HBD := Hq (HB10.out.drew)
    clear hba hz10 hq10 hW10 hB15
    obtain ⟨wd, hwd⟩ : ∃ wd, W10.drew = wd := ⟨_, rfl⟩
    rw [hwd] at HS0 HWX HWY HBD
    have m0 := HWX.out.c0
    have m1 := HWX.out.c1
    have mf0 := HWX.out.f0
    have mf1 := HWX.out.f1
    have hy7 : Bx2 ((wd.setCell ⟨w.heap.size, 0, none⟩ (.bool yb)).setCell ⟨w.heap.size, 1, none⟩ (.string ys)) (w.heap.size + 1) (.bool false) (.string ⟨#[]⟩) 28 := bx2_off HWY.out (by omega)
    have HY7 := Hq hy7
    have n0 := hy7.c0
    have n1 := hy7.c1
    have nf0 := hy7.f0
    have nf1 := hy7.f1
    clear hy7
    refine wp_region_K 6 (fun W' => Bx2 W' (B11 + 1) (.bool yb) (.string ys) 28 ∧ Bx2 W' B15 (.bool zb) (.string zs) 28) (by kernel_rfl) ?_
    intro hD
    rw [hwd]
    have KK2 := Hq (fun w' (hS' : (fun W' => Bx2 W' (B11 + 1) (.bool yb) (.string ys) 28 ∧ Bx2 W' B15 (.bool zb) (.string zs) 28) w') => And.intro (hS'.1.c0) (And.intro (hS'.1.c1) (And.intro (hS'.2.c0) (hS'.2.c1))))
    refine rP 0 49 5 rfl hD HS0.out ?_; clear hD; intro hD; simp only [Act.put, sqA, sqB, sqC]
    refine rT 1 50 4 rfl hD HS0.out (by intro w' hS'; obtain ⟨e0, e1, e2, e3⟩ := KK2.out w' hS'; go_simp; with_reducible rfl) ?_; clear hD; intro hD; simp only [Act.put, sqA, sqB, sqC]
    refine rT 2 51 3 rfl hD HS0.out (by intro w' hS'; obtain ⟨e0, e1, e2, e3⟩ := KK2.out w' hS'; go_simp; with_reducible rfl) ?_; clear hD; intro hD; simp only [Act.put, sqA, sqB, sqC]
    refine rO 3 2 rfl hD ?_; clear hD; intro K3 hK3
    go_wp2
    refine hK3 _ _ (by exact HS0.out) ?_; clear hK3; intro hS_7_3 hD
    refine rO 4 1 rfl hD ?_; clear hD; intro K4 hK4
    go_wp2
    refine hK4 _ _ (by exact ⟨bx2_off (hS_7_3).1 (C := w.heap.size) (by have := HLT.out; omega), bx2_off (hS_7_3).2 (C := w.heap.size) (by have := HLT15.out; omega)⟩) ?_; clear hK4; intro hS_7_4 hD
    refine rO 5 0 rfl hD ?_; clear hD; intro K5 hK5
    go_wp2
    refine hK5 _ _ (by exact ⟨bx2_off (hS_7_4).1 (C := w.heap.size + 1) (by have := HLT.out; omega), bx2_off (hS_7_4).2 (C := w.heap.size + 1) (by have := HLT15.out; omega)⟩) ?_; clear hK5; intro hS_7_5 hD
    refine wpAnyK_done (by kernel_rfl) ?_ 0
    clear hD m0 m1 mf0 mf1 n0 n1 nf0 nf1
    have hx6 := bx2_off (u := .bool zb) (v := .string zs) (HWX.out.set2 (u := .bool yb) (v := .string ys)) (show w.heap.size ≠ w.heap.size + 1 by omega)
    have hy6 := HY7.out.set2 (u := .bool zb) (v := .string zs)
    have q0 := hx6.c0
    have q1 := hx6.c1
    have q2 := hy6.c0
    have q3 := hy6.c1
    go_wp2
    exact bodyPost_ret (v := .tuple #[.string g, .agg #[.bool yb, .string ys], .agg #[.bool zb, .string zs]]) (by simp [results, Tryz.results168, go_sem, q0, q1, q2, q3]) rfl (HRES.out _ (below_set2 (below_set2 HBD.out (Nat.le_refl _) _ _) (Nat.le_add_right _ _) _ _))
end Go.Proofs.YtndmjfkmnjejkaaGreatDoor
namespace Go.Proofs.YtndmjfkmnjejkaaGreatDoor
set_option maxRecDepth 100000
set_option maxHeartbeats 4000000
open Go.RowKit
def RetEx (a b : Nat) (w : World) (e : Ending) (w' : World) : Prop := ∃ (x : Nat) (y : Int), e = .returned (.tuple #[.string (nS 1), intV x, intV y, .int .i64 0]) ∧ Below w.heap.size w w' ∧ x < b ∧ a * x % b = 1
theorem intV_nat (n : Nat) : intV (n : Int) = .agg #[.bool false, .string (nS n)] := by unfold intV zV; rw [decide_eq_false (Int.not_lt.2 (Int.natCast_nonneg _)), Int.natAbs_natCast]
theorem ex_law {a b : Nat} {x y : Int} (hb : 1 < b) (h : (a : Int) * x + b * y = 1) : a * (x % b).toNat % b = 1 := by
 have h0 : 0 ≤ x % (b : Int) := Int.emod_nonneg _ (by omega)
 have e1 : ((a * (x % b).toNat % b : Nat) : Int) = 1 := by
  rw [Int.natCast_emod, Int.natCast_mul, Int.toNat_of_nonneg h0, Int.mul_emod, Int.emod_emod, ← Int.mul_emod]
  have e2 : (a : Int) * x = 1 + b * (-y) := by rw [Int.mul_neg]; omega
  rw [e2, Int.add_mul_emod_self_left]
  exact Int.emod_eq_of_lt (by omega) (by omega)
 omega
theorem ediv_abs (x : Int) (b : Nat) (hb : 0 < b) : (x / b).natAbs ≤ x.natAbs := by
 by_cases h : 0 ≤ x
 · rw [ediv_c h, Int.natAbs_natCast]; exact Nat.div_le_self _ _
 · rcases Nat.eq_zero_or_pos (x.natAbs % b) with hr | hr
   · rw [ediv_a hb (by omega) hr, Int.natAbs_neg, Int.natAbs_natCast]; exact Nat.div_le_self _ _
   · rw [ediv_b hb (by omega) hr, Int.natAbs_neg, Int.natAbs_natCast]
     rcases Nat.eq_or_lt_of_le (show 1 ≤ b from hb) with h1 | h1
     · rw [← h1, Nat.mod_one] at hr; omega
     · have := Nat.div_lt_self (show 0 < x.natAbs by omega) h1
       omega
theorem r02_Extended (a b : Nat) (hab : a < b) (hb : b < 18446744073709551616) (h1 : 1 < b) (hg : Nat.gcd a b = 1) (w : World) : Calls Tryz.prog 119 #[.string (nS a), .string (nS b)] w (RetEx a b w) := by
 have ha : a < 18446744073709551616 := by omega
 have HV1 := Hq (r01_Valid (nS a) (by have := nS_small_size ha; omega))
 have HV2 := Hq (r01_Valid (nS b) (by have := nS_small_size hb; omega))
 rw [nvalid_nS.2 (lt128_of_lt8 ha)] at HV1
 rw [nvalid_nS.2 (lt128_of_lt8 hb)] at HV2
 have HBZ := Hq (r02_bezout (b + 1) a b (by omega) ha hb)
 have HD1 := Hq (r01_DivMod b 1 (lt128_of_lt8 hb) (by decide) (by decide))
 have HD2 := Hq (r01_DivMod a 1 (lt128_of_lt8 ha) (by decide) (by decide))
 rw [Nat.div_one, Nat.mod_one] at HD1 HD2
 have HF1 := Hq (r02_From b (lt128_of_lt8 hb))
 have HF2 := Hq (r02_From a (lt128_of_lt8 ha))
 have p100 : (256 : Nat) ^ 100 < 256 ^ 128 := Nat.pow_lt_pow_right (by omega) (by omega)
 have p16 : (18446744073709551616 : Nat) * 18446744073709551616 + 18446744073709551616 < 256 ^ 100 := by decide +kernel
 have hx100 : ∀ x : Int, x.natAbs ≤ max 1 b → x.natAbs < 256 ^ 100 := fun x hx => by omega
 have hqa : ∀ x : Int, x.natAbs ≤ max 1 b → ((x / b) * a).natAbs ≤ 18446744073709551616 * 18446744073709551616 := fun x hx => by
  rw [Int.natAbs_mul, Int.natAbs_natCast]
  have := ediv_abs x b (by omega)
  exact Nat.mul_le_mul (by omega) (by omega)
 have HDM := Hq (fun (x : Int) (hx : x.natAbs ≤ max 1 b) => r02_DivModQ x b (hx100 x hx) (lt128_of_lt8 hb) (by omega))
 have HMU := Hq (fun (x : Int) (hx : x.natAbs ≤ max 1 b) (w : World) => show Calls Tryz.prog 169 #[intV (x / b), intV a] w (Ret (.tuple #[intV (x / b * a), .int .i64 0]) w) from by
  have hh := r02_Mul (x / b) a (by have := ediv_abs x b (by omega); have := hx100 x hx; omega) (by rw [Int.natAbs_natCast]; exact lt128_of_lt8 ha) w
  rw [fitZ_in (by have := hqa x hx; omega)] at hh
  exact hh)
 have HAD := Hq (fun (x y : Int) (hx : x.natAbs ≤ max 1 b) (hy : y.natAbs ≤ max 1 a) (w : World) => show Calls Tryz.prog 170 #[intV y, intV (x / b * a)] w (Ret (.tuple #[intV (y + x / b * a), .int .i64 0]) w) from by
  have h3 := hqa x hx
  have hh := r02_Add y (x / b * a) (by omega) (by omega) w
  rw [fitZ_in (by omega)] at hh
  exact hh)
 have HFR := Hq (fun (x : Int) => r02_From (x % b).toNat (lt128_of_lt8 (by
  have := Int.emod_lt_of_pos x (show (0 : Int) < b by omega)
  have := Int.emod_nonneg x (show (b : Int) ≠ 0 by omega)
  omega)))
 have HLAW := Hq (fun (x y : Int) (h : (a : Int) * x + b * y = Nat.gcd a b) => show (x % b).toNat < b ∧ a * (x % b).toNat % b = 1 from by
  have := Int.emod_lt_of_pos x (show (0 : Int) < b by omega)
  have := Int.emod_nonneg x (show (b : Int) ≠ 0 by omega)
  rw [hg] at h
  exact ⟨by omega, ex_law h1 h⟩)
 have he := empty_nS (show 0 < b by omega)
 have HGG := Hq hg
 rw [intV_nat] at HF1 HF2
 obtain ⟨hx0, hy0, hb0⟩ := bx2_at w (.bool false) (.string ⟨#[]⟩) (.bool false) (.string ⟨#[]⟩) 28
 obtain ⟨W0, hW0⟩ : ∃ W0, (w.alloc (.cells #[.bool false, .string ⟨#[]⟩] 28)).alloc (.cells #[.bool false, .string ⟨#[]⟩] 28) = W0 := ⟨_, rfl⟩
 rw [hW0] at hx0 hy0 hb0
 have HX0 := Hq hx0
 have HY0 := Hq hy0
 have HB0 := Hq hb0
 have HIB := Hq (intV_nat b)
 have HIA := Hq (intV_nat a)
 obtain ⟨s, hs⟩ : ∃ s, nS a = s := ⟨_, rfl⟩
 obtain ⟨t, ht⟩ : ∃ t, nS b = t := ⟨_, rfl⟩
 rw [hs] at HV1 HBZ HD2 HF2 HIA ⊢
 rw [ht] at HV2 HBZ HD1 HF1 HIB he ⊢
 have hg1 : (nS 0) = ⟨#[]⟩ := rfl
 rw [hg1] at HD1 HD2
 obtain ⟨one, hone⟩ : ∃ u, nS 1 = u := ⟨_, rfl⟩
 rw [hone] at HD1 HD2
 have HONE := Hq hone
 clear hs ht hone hg1 hx0 hy0 hb0 hg ha hab hb h1 p100 p16 hx100 hqa
 go_enter Tryz.func119, Tryz.ntmps119
 go_wp2_with fail
 try rw [hW0]
 clear hW0
 refine (HV1.out _).mono ?_
 rintro e w1 ⟨rfl, rfl⟩
 go_wp2_with fail
 refine (HV2.out _).mono ?_
 rintro e w1 ⟨rfl, rfl⟩
 go_wp2_with fail
 refine (HBZ.out _).mono ?_
 rintro e w1 ⟨x, y, rfl, hb1, hlaw, hbx, hby, _⟩
 have HL := Hq (HLAW.out x y hlaw)
 have HX1 := Hq (HX0.out.next hb1)
 have HY1 := Hq (HY0.out.next hb1)
 have HB1 := Hq (HB0.out.trans (hb1.mono HB0.out.size))
 have HDX := Hq (HDM.out x hbx)
 have HMX := Hq (HMU.out x hbx)
 have HAX := Hq (HAD.out x y hbx hby)
 have HFX := Hq (HFR.out x)
 rw [HGG.out]
 clear hb1 hlaw hbx hby
 obtain ⟨R, hR⟩ : ∃ R, (x % b).toNat = R := ⟨_, rfl⟩
 rw [hR] at HL HDX HFX
 obtain ⟨Q, hQ⟩ : ∃ Q, x / (b : Int) = Q := ⟨_, rfl⟩
 rw [hQ] at HDX HMX HAX
 obtain ⟨P, hP⟩ : ∃ P, Q * (a : Int) = P := ⟨_, rfl⟩
 rw [hP] at HMX HAX
 obtain ⟨Z, hZ⟩ : ∃ Z, y + P = Z := ⟨_, rfl⟩
 rw [hZ] at HAX
 have HRES := Hq (show ∀ w', Below w.heap.size w w' → RetEx a b w (.returned (.tuple #[.string (nS 1), intV R, intV Z, .int .i64 0])) w' from fun w' hb => ⟨R, Z, rfl, hb, HL.out⟩)
 rw [intV_nat R] at HFX HRES
 rw [HIB.out] at HDX
 rw [HIA.out] at HMX
 rw [HONE.out] at HRES ⊢
 unfold intV zV at HDX HMX HAX HRES ⊢
 obtain ⟨xb, hxb⟩ : ∃ u, decide (x < 0) = u := ⟨_, rfl⟩
 obtain ⟨xs, hxs⟩ : ∃ u, nS x.natAbs = u := ⟨_, rfl⟩
 obtain ⟨yb, hyb⟩ : ∃ u, decide (y < 0) = u := ⟨_, rfl⟩
 obtain ⟨ys, hys⟩ : ∃ u, nS y.natAbs = u := ⟨_, rfl⟩
 obtain ⟨qb, hqb⟩ : ∃ u, decide (Q < 0) = u := ⟨_, rfl⟩
 obtain ⟨qs, hqs⟩ : ∃ u, nS Q.natAbs = u := ⟨_, rfl⟩
 obtain ⟨pb, hpb⟩ : ∃ u, decide (P < 0) = u := ⟨_, rfl⟩
 obtain ⟨ps, hps⟩ : ∃ u, nS P.natAbs = u := ⟨_, rfl⟩
 obtain ⟨zb, hzb⟩ : ∃ u, decide (Z < 0) = u := ⟨_, rfl⟩
 obtain ⟨zs, hzs⟩ : ∃ u, nS Z.natAbs = u := ⟨_, rfl⟩
 obtain ⟨rs, hrs⟩ : ∃ u, nS R = u := ⟨_, rfl⟩
 rw [hxb, hxs, hqb, hqs, hrs] at HDX
 rw [hqb, hqs, hpb, hps] at HMX
 rw [hyb, hys, hpb, hps, hzb, hzs] at HAX
 rw [hrs] at HFX
 rw [hrs, hzb, hzs] at HRES
 rw [hxb, hxs, hyb, hys]
 clear hxb hxs hyb hys hqb hqs hpb hps hzb hzs hrs hR hQ hP hZ HDM HMU HAD HFR HLAW HL HBZ
 obtain ⟨hx3, hy3, hb3⟩ := bx2_at w1 (.bool xb) (.string xs) (.bool yb) (.string ys) 28
 obtain ⟨W3, hW3⟩ : ∃ W3, (w1.alloc (.cells #[.bool xb, .string xs] 28)).alloc (.cells #[.bool yb, .string ys] 28) = W3 := ⟨_, rfl⟩
 obtain ⟨B9, hB9⟩ : ∃ B, w1.heap.size = B := ⟨_, rfl⟩
 rw [hW3, hB9] at hx3 hy3
 rw [hW3] at hb3
 have HLT := Hq (show w.heap.size + 1 < B9 from by rw [← hB9]; exact HY1.out.lt)
 have HX3 := Hq (HX1.out.next hb3)
 have HY3 := Hq (HY1.out.next hb3)
 have HB3 := Hq (HB1.out.trans (hb3.mono HB1.out.size))
 have HP3 := Hq hx3
 have HQ3 := Hq hy3
 clear hx3 hy3 hb3
 go_wp2_with fail
 try rw [hW3]
 try rw [hB9]
 clear hW3 hB9
 refine (HD1.out _).mono ?_
 rintro e w4 ⟨rfl, hb4⟩
 have HX4 := Hq (HX3.out.next hb4)
 have HY4 := Hq (HY3.out.next hb4)
 have HB4 := Hq (HB3.out.trans (hb4.mono HB3.out.size))
 have HP4 := Hq (HP3.out.next hb4)
 have HQ4 := Hq (HQ3.out.next hb4)
 clear hb4
 go_wp2_with fail
 refine (HD2.out _).mono ?_
 rintro e w5 ⟨rfl, hb5⟩
 have HX5 := Hq (HX4.out.next hb5)
 have HY5 := Hq (HY4.out.next hb5)
 have HB5 := Hq (HB4.out.trans (hb5.mono HB4.out.size))
 have HP5 := Hq (HP4.out.next hb5)
 have HQ5 := Hq (HQ4.out.next hb5)
 clear hb5
 go_wp2
 have e0 : w5.drew.cell? ⟨B9, 0, none⟩ = some (.bool xb) := HP5.out.c0
 have e1 : w5.drew.cell? ⟨B9, 1, none⟩ = some (.string xs) := HP5.out.c1
 rename_i K8 hK8
 refine wp_onlyN ?_
 refine wp_region_K 12 (Below (w5.drew).heap.size (w5.drew)) (by kernel_rfl) ?_
 intro hD
 refine rT 0 59 11 rfl hD (Below.refl _ _) (by intro w' hS'; have e0 := kC hS' e0; have e1 := kC hS' e1; go_simp; with_reducible rfl) ?_; clear hD; intro hD; simp only [Act.put, sqA, sqB, sqC]
 refine rP 1 60 10 rfl hD (Below.refl _ _) ?_; clear hD; intro hD; simp only [Act.put, sqA, sqB, sqC]
 refine (show GhostK _ _ _ _ _ _ 8 17 9 _ _ (GIz (w5.drew) (#[.bool false, .string ⟨#[]⟩]) (28)) from ?_).2 _ (GIz.start (Below.refl _ _))
 refine ghost_step (i := 8) (j := 2) (d := 17) (dj := 61) (fuel := 8) (fun (y : Unit) => .agg #[.bool false, .string t]) (fun y => GIz (w5.drew) (#[.bool false, .string ⟨#[]⟩]) (28)) (by kernel_rfl) (by kernel_rfl) rfl rfl hD (by kernel_rfl) (by decide) (fun _ _ _ _ h => h.1) (fun _ _ _ h => h.1) (alloc_zK rfl rfl (fun _ _ => by kernel_rfl)) ?hs8_2b1 ?hn8_2b1
 case hs8_2b1 =>
  intro gb gx gw hI K hK
  try simp only [Act.put, sqA, sqB, sqC] at hK ⊢
  have HK := Hq hK
  have HGI := Hq hI
  clear hK hI hD
  go_wp2_with fail
  refine (HF1.out _).mono ?_
  rintro ev w6 ⟨rfl, hb⟩
  have HG2 := Hq (HGI.out.step hb)
  clear hb
  go_wp2
  exact HK.out () _ HG2.out
 intro _ hD
 simp only [Act.put, sqA, sqB, sqC]
 refine ghost_step (i := 8) (j := 3) (d := 17) (dj := 62) (fuel := 7) (fun (y : Unit) => .tuple #[.agg #[.bool qb, .string qs], .string rs, .int .i64 0]) (fun y => GIz (w5.drew) (#[.bool false, .string ⟨#[]⟩]) (28)) (by kernel_rfl) (by kernel_rfl) rfl rfl hD (by kernel_rfl) (by decide) (fun _ _ _ _ h => h.1) (fun _ _ _ h => h.1) (alloc_zK rfl rfl (fun _ _ => by kernel_rfl)) ?hs8_3b1 ?hn8_3b1
 case hs8_3b1 =>
  intro gb gx gw hI K hK
  try simp only [Act.put, sqA, sqB, sqC] at hK ⊢
  have HK := Hq hK
  have HGI := Hq hI
  clear hK hI hD
  go_wp2_with fail
  refine (HDX.out _).mono ?_
  rintro ev w6 ⟨rfl, hb⟩
  have HG2 := Hq (HGI.out.step hb)
  clear hb
  go_wp2
  exact HK.out () _ HG2.out
 intro _ hD
 simp only [Act.put, sqA, sqB, sqC]
 refine ghost_pure (i := 8) (j := 4) (d := 17) (dj := 58) (v := ?v8_4b1) (fuel := 6) rfl (by kernel_rfl) (by kernel_rfl) (by kernel_rfl) (by kernel_rfl) (fun _ _ _ h => h) hD (by kernel_rfl) (by decide) (by decide) (fun _ _ _ h => h.1) (fun x => .inl ⟨by kernel_rfl, ?y8_4b1⟩) ?n8_4b1
 case y8_4b1 => intro w' _; go_simp; with_reducible rfl
 clear hD; intro hD
 simp only [Act.put, sqA, sqB, sqC]
 refine ghost_pure (i := 8) (j := 5) (d := 17) (dj := 63) (v := ?v8_5b1) (fuel := 5) rfl (by kernel_rfl) (by kernel_rfl) (by kernel_rfl) (by kernel_rfl) (fun _ _ _ h => h) hD (by kernel_rfl) (by decide) (by decide) (fun _ _ _ h => h.1) (fun x => .inl ⟨by kernel_rfl, ?y8_5b1⟩) ?n8_5b1
 case y8_5b1 => intro w' _; go_simp; with_reducible rfl
 clear hD; intro hD
 simp only [Act.put, sqA, sqB, sqC]
 refine ghost_pure (i := 8) (j := 6) (d := 17) (dj := 64) (v := ?v8_6b1) (fuel := 4) rfl (by kernel_rfl) (by kernel_rfl) (by kernel_rfl) (by kernel_rfl) (fun _ _ _ h => h) hD (by kernel_rfl) (by decide) (by decide) (fun _ _ _ h => h.1) (fun x => .inl ⟨by kernel_rfl, ?y8_6b1⟩) ?n8_6b1
 case y8_6b1 => intro w' _; go_simp; with_reducible rfl
 clear hD; intro hD
 simp only [Act.put, sqA, sqB, sqC]
 refine ghost_pure (i := 8) (j := 7) (d := 17) (dj := 65) (v := ?v8_7b1) (fuel := 3) rfl (by kernel_rfl) (by kernel_rfl) (by kernel_rfl) (by kernel_rfl) (fun _ _ _ h => h) hD (by kernel_rfl) (by decide) (by decide) (fun _ _ _ h => h.1) (fun x => .inl ⟨by kernel_rfl, ?y8_7b1⟩) ?n8_7b1
 case y8_7b1 => intro w' _; go_simp; with_reducible rfl
 clear hD; intro hD
 simp only [Act.put, sqA, sqB, sqC]
 refine ghost_end (by kernel_rfl) rfl hD (fun _ _ _ h => h.1) (alloc_zK rfl rfl (fun _ _ => by kernel_rfl)) ?_
 intro gx gw hI hD
 obtain ⟨hSG, hx⟩ := hI
 obtain ⟨GB, rfl, hBG, hZG⟩ := hx rfl
 have HSG := Hq hSG
 have HBG := Hq hBG
 have HZG := Hq hZG
 clear hx hSG hBG hZG
 simp only [Act.put, sqA, sqB, sqC]
 refine rO 9 2 rfl hD ?_; clear hD; intro K9 hK9
 have hz : Bx2 gw GB (.bool false) (.string ⟨#[]⟩) 28 := HZG.out
 have p0 := hz.c0
 have p1 := hz.c1
 have pf0 := hz.f0
 have pf1 := hz.f1
 clear hz
 go_wp2
 refine hK9 _ _ (by exact below_set2 HSG.out HBG.out _ _) ?_; clear hK9; intro hS_8_9_g hD
 refine rO 10 1 rfl hD ?_; clear hD; intro K10 hK10
 go_wp2
 refine hK10 _ _ (by exact hS_8_9_g) ?_; clear hK10; intro hS_8_10_g hD
 refine rO 11 0 rfl hD ?_; clear hD; intro K11 hK11
 go_wp2
 refine hK11 _ _ (by exact hS_8_10_g) ?_; clear hK11; intro hS_8_11_g hD
 refine wpAnyK_done (by kernel_rfl) ?_ 0
 clear hD p0 p1 pf0 pf1 e0 e1
 have hz8 : Bx2 _ GB (.bool qb) (.string qs) 28 := Bx2.set2 (show Bx2 gw GB (.bool false) (.string ⟨#[]⟩) 28 from HZG.out)
 have hb8 := ((Below.refl w5.heap.size w5).drew).trans hS_8_11_g
 refine hK8 _ _ ?_
 obtain ⟨w8, hw8⟩ : ∃ W8, (gw.setCell ⟨GB, 0, none⟩ (.bool qb)).setCell ⟨GB, 1, none⟩ (.string qs) = W8 := ⟨_, rfl⟩
 obtain ⟨B17, hB17⟩ : ∃ B, GB = B := ⟨_, rfl⟩
 rw [hw8] at hz8 hb8 ⊢
 rw [hB17] at hz8 ⊢
 have HX8 := Hq (HX5.out.next hb8)
 have HY8 := Hq (HY5.out.next hb8)
 have HB8 := Hq (HB5.out.trans (hb8.mono HB5.out.size))
 have HQ8 := Hq (HQ5.out.next hb8)
 have HZ8 := Hq hz8
 clear hw8 hB17 hz8 hb8 HZG HBG HSG
 go_wp2
 have e0 : w8.drew.cell? ⟨B17, 0, none⟩ = some (.bool qb) := HZ8.out.c0
 have e1 : w8.drew.cell? ⟨B17, 1, none⟩ = some (.string qs) := HZ8.out.c1
 rename_i K9 hK9
 refine wp_onlyN ?_
 refine wp_region_K 10 (Below (w8.drew).heap.size (w8.drew)) (by kernel_rfl) ?_
 intro hD
 refine rT 0 67 9 rfl hD (Below.refl _ _) (by intro w' hS'; have e0 := kC hS' e0; have e1 := kC hS' e1; go_simp; with_reducible rfl) ?_; clear hD; intro hD; simp only [Act.put, sqA, sqB, sqC]
 refine rP 1 68 8 rfl hD (Below.refl _ _) ?_; clear hD; intro hD; simp only [Act.put, sqA, sqB, sqC]
 refine (show GhostK _ _ _ _ _ _ 7 20 7 _ _ (GIz (w8.drew) (#[.bool false, .string ⟨#[]⟩]) (28)) from ?_).2 _ (GIz.start (Below.refl _ _))
 refine ghost_step (i := 7) (j := 2) (d := 20) (dj := 69) (fuel := 6) (fun (y : Unit) => .agg #[.bool false, .string s]) (fun y => GIz (w8.drew) (#[.bool false, .string ⟨#[]⟩]) (28)) (by kernel_rfl) (by kernel_rfl) rfl rfl hD (by kernel_rfl) (by decide) (fun _ _ _ _ h => h.1) (fun _ _ _ h => h.1) (alloc_zK rfl rfl (fun _ _ => by kernel_rfl)) ?hs9_2b2 ?hn9_2b2
 case hs9_2b2 =>
  intro gb gx gw hI K hK
  try simp only [Act.put, sqA, sqB, sqC] at hK ⊢
  have HK := Hq hK
  have HGI := Hq hI
  clear hK hI hD
  go_wp2_with fail
  refine (HF2.out _).mono ?_
  rintro ev w6 ⟨rfl, hb⟩
  have HG2 := Hq (HGI.out.step hb)
  clear hb
  go_wp2
  exact HK.out () _ HG2.out
 intro _ hD
 simp only [Act.put, sqA, sqB, sqC]
 refine ghost_step (i := 7) (j := 3) (d := 20) (dj := 70) (fuel := 5) (fun (y : Unit) => .tuple #[.agg #[.bool pb, .string ps], .int .i64 0]) (fun y => GIz (w8.drew) (#[.bool false, .string ⟨#[]⟩]) (28)) (by kernel_rfl) (by kernel_rfl) rfl rfl hD (by kernel_rfl) (by decide) (fun _ _ _ _ h => h.1) (fun _ _ _ h => h.1) (alloc_zK rfl rfl (fun _ _ => by kernel_rfl)) ?hs9_3b2 ?hn9_3b2
 case hs9_3b2 =>
  intro gb gx gw hI K hK
  try simp only [Act.put, sqA, sqB, sqC] at hK ⊢
  have HK := Hq hK
  have HGI := Hq hI
  clear hK hI hD
  go_wp2_with fail
  refine (HMX.out _).mono ?_
  rintro ev w6 ⟨rfl, hb⟩
  have HG2 := Hq (HGI.out.step hb)
  clear hb
  go_wp2
  exact HK.out () _ HG2.out
 intro _ hD
 simp only [Act.put, sqA, sqB, sqC]
 refine ghost_pure (i := 7) (j := 4) (d := 20) (dj := 66) (v := ?v9_4b2) (fuel := 4) rfl (by kernel_rfl) (by kernel_rfl) (by kernel_rfl) (by kernel_rfl) (fun _ _ _ h => h) hD (by kernel_rfl) (by decide) (by decide) (fun _ _ _ h => h.1) (fun x => .inl ⟨by kernel_rfl, ?y9_4b2⟩) ?n9_4b2
 case y9_4b2 => intro w' _; go_simp; with_reducible rfl
 clear hD; intro hD
 simp only [Act.put, sqA, sqB, sqC]
 refine ghost_pure (i := 7) (j := 5) (d := 20) (dj := 71) (v := ?v9_5b2) (fuel := 3) rfl (by kernel_rfl) (by kernel_rfl) (by kernel_rfl) (by kernel_rfl) (fun _ _ _ h => h) hD (by kernel_rfl) (by decide) (by decide) (fun _ _ _ h => h.1) (fun x => .inl ⟨by kernel_rfl, ?y9_5b2⟩) ?n9_5b2
 case y9_5b2 => intro w' _; go_simp; with_reducible rfl
 clear hD; intro hD
 simp only [Act.put, sqA, sqB, sqC]
 refine ghost_pure (i := 7) (j := 6) (d := 20) (dj := 72) (v := ?v9_6b2) (fuel := 2) rfl (by kernel_rfl) (by kernel_rfl) (by kernel_rfl) (by kernel_rfl) (fun _ _ _ h => h) hD (by kernel_rfl) (by decide) (by decide) (fun _ _ _ h => h.1) (fun x => .inl ⟨by kernel_rfl, ?y9_6b2⟩) ?n9_6b2
 case y9_6b2 => intro w' _; go_simp; with_reducible rfl
 clear hD; intro hD
 simp only [Act.put, sqA, sqB, sqC]
 refine ghost_end (by kernel_rfl) rfl hD (fun _ _ _ h => h.1) (alloc_zK rfl rfl (fun _ _ => by kernel_rfl)) ?_
 intro gx gw hI hD
 obtain ⟨hSG, hx⟩ := hI
 obtain ⟨GB, rfl, hBG, hZG⟩ := hx rfl
 have HSG := Hq hSG
 have HBG := Hq hBG
 have HZG := Hq hZG
 clear hx hSG hBG hZG
 simp only [Act.put, sqA, sqB, sqC]
 refine rO 8 1 rfl hD ?_; clear hD; intro K8 hK8
 have hz : Bx2 gw GB (.bool false) (.string ⟨#[]⟩) 28 := HZG.out
 have p0 := hz.c0
 have p1 := hz.c1
 have pf0 := hz.f0
 have pf1 := hz.f1
 clear hz
 go_wp2
 refine hK8 _ _ (by exact below_set2 HSG.out HBG.out _ _) ?_; clear hK8; intro hS_9_8_g hD
 refine rO 9 0 rfl hD ?_; clear hD; intro K9 hK9
 go_wp2
 refine hK9 _ _ (by exact hS_9_8_g) ?_; clear hK9; intro hS_9_9_g hD
 refine wpAnyK_done (by kernel_rfl) ?_ 0
 clear hD p0 p1 pf0 pf1 e0 e1
 have hz9 : Bx2 _ GB (.bool pb) (.string ps) 28 := Bx2.set2 (show Bx2 gw GB (.bool false) (.string ⟨#[]⟩) 28 from HZG.out)
 have hb9 := ((Below.refl w8.heap.size w8).drew).trans hS_9_9_g
 refine hK9 _ _ ?_
 obtain ⟨w9, hw9⟩ : ∃ W8, (gw.setCell ⟨GB, 0, none⟩ (.bool pb)).setCell ⟨GB, 1, none⟩ (.string ps) = W8 := ⟨_, rfl⟩
 rw [hw9] at hz9 hb9 ⊢
 have HX9 := Hq (HX8.out.next hb9)
 have HY9 := Hq (HY8.out.next hb9)
 have HB9 := Hq (HB8.out.trans (hb9.mono HB8.out.size))
 have hq9 := HQ8.out.next hb9
 have HQ9 := Hq hq9
 have z0 := hz9.c0
 have z1 := hz9.c1
 have x0 := hq9.c0
 have x1 := hq9.c1
 clear hw9 hb9 hz9 hq9
 go_wp2_with fail
 refine (HAX.out _).mono ?_
 rintro ev w10 ⟨rfl, hb10⟩
 have HX10 := Hq (HX9.out.next hb10)
 have HY10 := Hq (HY9.out.next hb10)
 have HB10 := Hq (HB9.out.trans (hb10.mono HB9.out.size))
 have hq10 := HQ9.out.next hb10
 have HQ10 := Hq hq10
 clear hb10 z0 z1 x0 x1
 have x0 := hq10.c0
 have x1 := hq10.c1
 have xf0 := hq10.f0
 have xf1 := hq10.f1
 clear hq10
 go_wp2
 have hne := HLT.out
 obtain ⟨w11, hw11⟩ : ∃ W8, (w10.setCell ⟨B9 + 1, 0, none⟩ (.bool zb)).setCell ⟨B9 + 1, 1, none⟩ (.string zs) = W8 := ⟨_, rfl⟩
 have hq11 := HQ10.out.set2 (u := .bool zb) (v := .string zs)
 have hx11 := bx2_off (u := .bool zb) (v := .string zs) HX10.out (C := B9 + 1) (by omega)
 have hy11 := bx2_off (u := .bool zb) (v := .string zs) HY10.out (C := B9 + 1) (by omega)
 have hb11 := below_set2 HB10.out (C := B9 + 1) (by omega) (.bool zb) (.string zs)
 rw [hw11] at hq11 hx11 hy11 hb11
 try rw [hw11]
 have HWX := Hq (show Bx2 w11.drew w.heap.size (.bool false) (.string ⟨#[]⟩) 28 from hx11)
 have HWY := Hq (show Bx2 w11.drew (w.heap.size + 1) (.bool false) (.string ⟨#[]⟩) 28 from hy11)
 have HS0 := Hq (show Bx2 w11.drew (B9 + 1) (.bool zb) (.string zs) 28 from hq11)
 have HBD := Hq hb11.drew
 clear hw11 hq11 hx11 hy11 hb11 hne x0 x1 xf0 xf1
 go_wp2
 obtain ⟨wd, hwd⟩ : ∃ wd, w11.drew = wd := ⟨_, rfl⟩
 rw [hwd] at HS0 HWX HWY HBD
 refine wp_region_K 8 (fun W' => Bx2 W' (B9 + 1) (.bool zb) (.string zs) 28) (by kernel_rfl) ?_
 intro hD
 rw [hwd]
 refine rP 0 79 7 rfl hD HS0.out ?_; clear hD; intro hD; simp only [Act.put, sqA, sqB, sqC]
 refine rP 1 80 6 rfl hD HS0.out ?_; clear hD; intro hD; simp only [Act.put, sqA, sqB, sqC]
 refine rT 3 82 5 rfl hD HS0.out (by intro w' hS'; have e0 := hS'.c0; have e1 := hS'.c1; go_simp; with_reducible rfl) ?_; clear hD; intro hD; simp only [Act.put, sqA, sqB, sqC]
 refine rO 2 4 rfl hD ?_; clear hD; intro K2 hK2
 go_wp2_with fail
 refine (HFX.out _).mono ?_
 rintro ev w12 ⟨rfl, hb⟩
 have HWX2 := Hq (HWX.out.next hb)
 have HWY2 := Hq (HWY.out.next hb)
 have HS2 := Hq (HS0.out.next hb)
 have HBD2 := Hq (HBD.out.trans (hb.mono HBD.out.size))
 clear hb
 go_wp2
 refine hK2 _ _ (by exact HS2.out) ?_; clear hK2; intro hS_11_2 hD
 refine rO 4 3 rfl hD ?_; clear hD; intro K4 hK4
 have m0 := HWX2.out.c0
 have m1 := HWX2.out.c1
 have mf0 := HWX2.out.f0
 have mf1 := HWX2.out.f1
 have hy7 : Bx2 ((w12.setCell ⟨w.heap.size, 0, none⟩ (.bool false)).setCell ⟨w.heap.size, 1, none⟩ (.string rs)) (w.heap.size + 1) (.bool false) (.string ⟨#[]⟩) 28 := bx2_off HWY2.out (by omega)
 have HY7 := Hq hy7
 have n0 := hy7.c0
 have n1 := hy7.c1
 have nf0 := hy7.f0
 have nf1 := hy7.f1
 clear hy7
 go_wp2
 refine hK4 _ _ (by exact hS_11_2) ?_; clear hK4; intro hS_11_4 hD
 refine rO 5 2 rfl hD ?_; clear hD; intro K5 hK5
 go_wp2
 refine hK5 _ _ (by exact bx2_off hS_11_4 (C := w.heap.size) (by have := HLT.out; omega)) ?_; clear hK5; intro hS_11_5 hD
 refine rO 6 1 rfl hD ?_; clear hD; intro K6 hK6
 go_wp2
 refine hK6 _ _ (by exact bx2_off hS_11_5 (C := w.heap.size + 1) (by have := HLT.out; omega)) ?_; clear hK6; intro hS_11_6 hD
 refine rO 7 0 rfl hD ?_; clear hD; intro K7 hK7
 go_wp2
 refine hK7 _ _ (by exact hS_11_6) ?_; clear hK7; intro hS_11_7 hD
 refine wpAnyK_done (by kernel_rfl) ?_ 0
 clear hD m0 m1 mf0 mf1 n0 n1 nf0 nf1
 have hx6 := bx2_off (u := .bool zb) (v := .string zs) (HWX2.out.set2 (u := .bool false) (v := .string rs)) (show w.heap.size ≠ w.heap.size + 1 by omega)
 have hy6 := HY7.out.set2 (u := .bool zb) (v := .string zs)
 have q0 := hx6.c0
 have q1 := hx6.c1
 have q2 := hy6.c0
 have q3 := hy6.c1
 go_wp2
 exact bodyPost_ret (v := .tuple #[.string one, .agg #[.bool false, .string rs], .agg #[.bool zb, .string zs], .int .i64 0]) (by simp [results, Tryz.results119, go_sem, q0, q1, q2, q3]) rfl (HRES.out _ (below_set2 (below_set2 HBD2.out (Nat.le_refl _) _ _) (Nat.le_add_right _ _) _ _))
end Go.Proofs.YtndmjfkmnjejkaaGreatDoor
namespace Go.Proofs.YtndmjfkmnjejkaaGreatDoor
set_option maxRecDepth 100000
set_option maxHeartbeats 2000000
open Go.RowKit
theorem r03_check2 (w : World) (a m : ByteArray) (n : Nat) (hn : n = w.heap.size) (ha : nvalid a = true) (hm : nvalid m = true) (h0 : m.toList.isEmpty = false) :
 Calls Tryz.prog 115 #[.slice (some ⟨n, 0, none⟩) 2 2] (w.alloc (.cells #[.string a, .string m] 22)) (RetQ (.int .i64 0) (w.alloc (.cells #[.string a, .string m] 22))) := by
 subst hn
 have h2 := sln_alloc w [a, m] 22 (by simp)
 refine r03_check [a, m] _ 2 2 _ h2 (by omega) (by omega) ?_ ?_
 · intro k s hk
   have := List.mem_of_getElem? hk
   simp only [List.mem_cons, List.mem_nil_iff, or_false] at this
   rcases this with rfl | rfl
   · exact ha
   · exact hm
 · intro s hk
   simp only [List.getElem?_cons_succ, List.getElem?_cons_zero, Option.some.injEq] at hk
   rw [← hk]; exact h0
theorem r03_Inverse (a m : Nat) (ham : a < m) (hm8 : m < 18446744073709551616) (h1 : 1 < m) (hg : Nat.gcd a m = 1) (w : World) : Calls Tryz.prog 74 #[.string (nS a), .string (nS m)] w (Ret (.tuple #[.string (nS (invN a m)), .int .i64 0]) w) := by
 have ha8 : a < 18446744073709551616 := by omega
 have HC := Hq (fun w => r03_check2 w (nS a) (nS m) _ rfl (nS_valid_small ha8) (nS_valid_small hm8) (empty_nS (by omega)))
 have HR := Hq (r03_Mod a m (lt128_of_lt8 ha8) (lt128_of_lt8 hm8) (by omega))
 rw [Nat.mod_eq_of_lt ham] at HR
 have HE := Hq (r02_Extended a m ham hm8 h1 hg)
 have HO1 := Hq (r01_Of 1 (by decide))
 have HRX := Hq (fun x (hx : x < m) (hi : a * x % m = 1) (w : World) => show Calls Tryz.prog 103 #[intV (x : Nat), .string (nS m)] w (Ret (.tuple #[.string (nS (invN a m)), .int .i64 0]) w) from by
  have := r02_Mod (x : Nat) m (by rw [Int.natAbs_natCast]; exact lt128_of_lt8 (by omega)) (lt128_of_lt8 hm8) (by omega) w
  rw [← Int.natCast_emod, Int.toNat_natCast, Nat.mod_eq_of_lt hx] at this
  rw [invN_of hx hi]
  exact this)
 obtain ⟨s, hs⟩ : ∃ s, nS a = s := ⟨_, rfl⟩
 obtain ⟨t, ht⟩ : ∃ t, nS m = t := ⟨_, rfl⟩
 obtain ⟨v, hv⟩ : ∃ v, nS (invN a m) = v := ⟨_, rfl⟩
 obtain ⟨one, hone⟩ : ∃ v, nS 1 = v := ⟨_, rfl⟩
 have HONE := Hq hone
 have HO1 := Hq (fun w => show Calls Tryz.prog 101 #[.int .u64 1] w (Ret (.string one) w) from by have := HO1.out w; rw [show bstr (encN 1) = one from hone] at this; exact this)
 rw [hs, ht] at HC HR HE
 rw [ht, hv] at HRX
 rw [hs, ht, hv]
 clear hs ht hv hone ham hm8 h1 hg ha8
 go_enter Tryz.func74, Tryz.ntmps74
 go_wp2_with fail
 refine (HC.out w).mono ?_
 rintro e w1 ⟨rfl, rfl⟩
 have HB1 := Hq ((Below.refl w.heap.size w).alloc (Nat.le_refl _) (.cells #[.string s, .string t] 22))
 go_wp2_with fail
 refine (HR.out _).mono ?_
 rintro e w2 ⟨rfl, hb2⟩
 have HB2 := Hq (HB1.out.trans (hb2.mono HB1.out.size))
 clear hb2
 go_wp2_with fail
 refine (HE.out _).mono ?_
 rintro e w3 ⟨x, y, rfl, hb3, hxm, hax⟩
 have HB3 := Hq (HB2.out.trans (hb3.mono HB2.out.size))
 have HXX := Hq (HRX.out x hxm hax)
 rw [intV_nat] at HXX ⊢
 rw [HONE.out]
 unfold intV zV
 obtain ⟨u, hu⟩ : ∃ u, nS x = u := ⟨_, rfl⟩
 rw [hu] at HXX ⊢
 obtain ⟨yb, hyb⟩ : ∃ u, decide (y < 0) = u := ⟨_, rfl⟩
 obtain ⟨ys, hys⟩ : ∃ u, nS y.natAbs = u := ⟨_, rfl⟩
 rw [hyb, hys]
 clear hb3 hxm hax hu hyb hys
 obtain ⟨hx3, hy3, hb3⟩ := bx2_at w3 (.bool false) (.string u) (.bool yb) (.string ys) 28
 obtain ⟨W3, hW3⟩ : ∃ W3, (w3.alloc (.cells #[.bool false, .string u] 28)).alloc (.cells #[.bool yb, .string ys] 28) = W3 := ⟨_, rfl⟩
 rw [hW3] at hx3 hb3
 have HX3 := Hq hx3
 have HB4 := Hq (HB3.out.trans (hb3.mono HB3.out.size))
 clear hx3 hy3 hb3
 go_wp2_with fail
 try rw [hW3]
 clear hW3
 refine (HO1.out _).mono ?_
 rintro e w4 ⟨rfl, hb4⟩
 have HB5 := Hq (HB4.out.trans (hb4.mono HB4.out.size))
 have hx4 := HX3.out.next hb4
 have c0 := hx4.c0
 have c1 := hx4.c1
 clear hb4 hx4
 go_wp2_with fail
 refine (HXX.out _).mono ?_
 rintro e w5 ⟨rfl, hb5⟩
 have HB6 := Hq (HB5.out.trans (hb5.mono HB5.out.size))
 clear hb5
 go_wp2
 go_ret2
 exact ⟨rfl, HB6.out⟩
theorem r03_Power (a m : Nat) (zb : Bool) (zt : ByteArray) (ham : a < m) (hm8 : m < 18446744073709551616) (h1 : 1 < m) (hg : Nat.gcd a m = 1) (hz : zvalid zb zt = true) (w : World) : Calls Tryz.prog 197 #[.string (nS a), zV zb zt, .string (nS m)] w (Ret (.tuple #[.string (nS (pwN a zb (num zt) m)), .int .i64 0]) w) := by
 have ha8 : a < 18446744073709551616 := by omega
 have hzv := zvalid_nv hz
 have HV1 := Hq (r01_Valid (nS a) (by have := nS_small_size ha8; omega))
 have HV2 := Hq (r01_Valid (nS m) (by have := nS_small_size hm8; omega))
 rw [nvalid_nS.2 (lt128_of_lt8 ha8)] at HV1
 rw [nvalid_nS.2 (lt128_of_lt8 hm8)] at HV2
 have HVZ := Hq (r02_Valid zb zt (by unfold nvalid at hzv; simp at hzv; omega))
 rw [hz] at HVZ
 have hem := empty_nS (n := m) (by omega)
 have HI := Hq (r03_Inverse a m ham hm8 h1 hg)
 have HRA := Hq (fun b (hb : b < m) (w : World) => show Calls Tryz.prog 173 #[.string (nS b), .string zt, .string (nS m)] w (Ret (.string (nS (b ^ num zt % m))) w) from by
  have := r03_raise b (num zt) m (lt128_of_lt8 (by omega)) (nvalid_lt hzv) hm8 (by omega) w
  rwa [← nS_num hzv] at this)
 have HB0 := Hq ((Below.refl w.heap.size w).alloc (Nat.le_refl _) (.cells #[.bool zb, .string zt] 28))
 have hx0 := Bx2.new w (.bool zb) (.string zt) 28
 obtain ⟨W0, hW0⟩ : ∃ W, w.alloc (.cells #[.bool zb, .string zt] 28) = W := ⟨_, rfl⟩
 rw [hW0] at HB0 hx0
 have HX0 := Hq hx0
 obtain ⟨s, hs⟩ : ∃ s, nS a = s := ⟨_, rfl⟩
 obtain ⟨t, ht⟩ : ∃ t, nS m = t := ⟨_, rfl⟩
 unfold zV at *
 cases zb with
 | false =>
  have HR := Hq (HRA.out a ham)
  rw [show pwN a false (num zt) m = a ^ num zt % m from rfl]
  obtain ⟨r, hr⟩ : ∃ r, nS (a ^ num zt % m) = r := ⟨_, rfl⟩
  rw [hr, hs, ht] at HR
  rw [hs] at HV1
  rw [ht] at HV2 hem
  rw [hr, hs, ht]
  clear hs ht hr HRA HI ham hm8 h1 hg hz hzv ha8 hx0
  go_enter Tryz.func197, Tryz.ntmps197
  go_wp2_with fail
  try rw [hW0]
  clear hW0
  refine (HV1.out _).mono ?_
  rintro e w1 ⟨rfl, rfl⟩
  have c0 := HX0.out.c0
  have c1 := HX0.out.c1
  go_wp2_with fail
  refine (HVZ.out _).mono ?_
  rintro e w1 ⟨rfl, hb1⟩
  have HB1 := Hq (HB0.out.trans (hb1.mono HB0.out.size))
  have hx1 := HX0.out.next hb1
  clear hb1 c0 c1
  have c0 := hx1.c0
  have c1 := hx1.c1
  clear hx1
  go_wp2_with fail
  refine (HV2.out _).mono ?_
  rintro e w2 ⟨rfl, rfl⟩
  go_wp2_with fail
  refine (HR.out _).mono ?_
  rintro e w2 ⟨rfl, hb2⟩
  have HB2 := Hq (HB1.out.trans (hb2.mono HB1.out.size))
  clear hb2
  go_wp2
  go_ret2
  exact ⟨rfl, HB2.out⟩
 | true =>
  have HR := Hq (HRA.out (invN a m) (invN_lt (by omega)))
  rw [show pwN a true (num zt) m = invN a m ^ num zt % m from rfl]
  obtain ⟨r, hr⟩ : ∃ r, nS (invN a m ^ num zt % m) = r := ⟨_, rfl⟩
  obtain ⟨v, hv⟩ : ∃ r, nS (invN a m) = r := ⟨_, rfl⟩
  rw [hr, hv, ht] at HR
  rw [hs, ht, hv] at HI
  rw [hs] at HV1
  rw [ht] at HV2 hem
  rw [hr, hs, ht]
  clear hs ht hr hv HRA ham hm8 h1 hg hz hzv ha8 hx0
  go_enter Tryz.func197, Tryz.ntmps197
  go_wp2_with fail
  try rw [hW0]
  clear hW0
  refine (HV1.out _).mono ?_
  rintro e w1 ⟨rfl, rfl⟩
  have c0 := HX0.out.c0
  have c1 := HX0.out.c1
  go_wp2_with fail
  refine (HVZ.out _).mono ?_
  rintro e w1 ⟨rfl, hb1⟩
  have HB1 := Hq (HB0.out.trans (hb1.mono HB0.out.size))
  have hx1 := HX0.out.next hb1
  have HX1 := Hq hx1
  clear hb1 c0 c1
  have c0 := hx1.c0
  have c1 := hx1.c1
  clear hx1
  go_wp2_with fail
  refine (HV2.out _).mono ?_
  rintro e w2 ⟨rfl, rfl⟩
  go_wp2_with fail
  refine (HI.out _).mono ?_
  rintro e w2 ⟨rfl, hb2⟩
  have HB2 := Hq (HB1.out.trans (hb2.mono HB1.out.size))
  have hx2 := HX1.out.next hb2
  clear hb2 c0 c1
  have c0 := hx2.c0
  have c1 := hx2.c1
  clear hx2
  go_wp2_with fail
  refine (HR.out _).mono ?_
  rintro e w3 ⟨rfl, hb3⟩
  have HB3 := Hq (HB2.out.trans (hb3.mono HB2.out.size))
  clear hb3
  go_wp2
  go_ret2
  exact ⟨rfl, HB3.out⟩
theorem r13_raw (a m : Nat) (O : ByteArray) (zb : Bool) (zt : ByteArray) (ham : a < m) (hm8 : m < 18446744073709551616) (h1 : 1 < m) (hg : Nat.gcd a m = 1) (hz : zvalid zb zt = true) (w : World) : Calls Tryz.prog 150 #[gV (nS m) O, .string (nS a), zV zb zt] w (Ret (.string (nS (pwN a zb (num zt) m))) w) := by
 have HP := Hq (r03_Power a m zb zt ham hm8 h1 hg hz)
 obtain ⟨s, hs⟩ : ∃ s, nS a = s := ⟨_, rfl⟩
 obtain ⟨t, ht⟩ : ∃ t, nS m = t := ⟨_, rfl⟩
 obtain ⟨r, hr⟩ : ∃ t, nS (pwN a zb (num zt) m) = t := ⟨_, rfl⟩
 rw [hs, ht, hr] at HP
 rw [hs, ht, hr]
 clear hs ht hr ham hm8 h1 hg hz
 unfold gV
 unfold zV at *
 have HB0 := Hq (((Below.refl w.heap.size w).alloc (Nat.le_refl _) (.cells #[.string t, .string O] 24)).alloc (by simp) (.cells #[.bool zb, .string zt] 28))
 go_enter Tryz.func150, Tryz.ntmps150
 go_wp2_with fail
 refine (HP.out _).mono ?_
 rintro e w1 ⟨rfl, hb1⟩
 have HB1 := Hq (HB0.out.trans (hb1.mono HB0.out.size))
 clear hb1
 go_wp2
 go_ret
 exact ⟨rfl, HB1.out⟩
end Go.Proofs.YtndmjfkmnjejkaaGreatDoor
namespace Go.Proofs.YtndmjfkmnjejkaaGreatDoor
set_option maxRecDepth 100000
set_option maxHeartbeats 8000000
open Go.RowKit
theorem prR_bad {M O : ByteArray} {l : List ByteArray} {zs : List (Bool × ByteArray)} {c : Int} (h : ckR M O l zs (decide (l.length = zs.length)) = c) (hc : c ≠ 0) : prR M O l zs = .tuple #[.string ⟨#[]⟩, .int .i64 c] := by
 unfold prR
 rw [if_neg (by rw [h]; exact hc), h]
theorem r13_Product (M O : ByteArray) (l : List ByteArray) (zs : List (Bool × ByteArray)) (A B : Option Addr) (n c m d : Nat) (hM : M.size ≤ 8) (hO : O.size ≤ 8) (hls : ∀ s ∈ l, s.size ≤ 1000) (hzs : ∀ z ∈ zs, z.2.size ≤ 1000) (hn : n ≤ 100) (hm : m ≤ 100) (w : World) (hl : SlN w A n c l) (hz : SlZ w B m d zs) :
 Calls Tryz.prog 106 #[gV M O, .slice A n c, .slice B m d] w (Ret (prR M O l zs) w) := by
 have HLS := Hq hls
 have HZS := Hq hzs
 have HCK := Hq (r13_Check M O hM hO)
 have HSN := Hq hl
 have HSZ := Hq hz
 have HNL := Hq hl.1
 have HML := Hq hz.1
 have HMU := Hq hM
 have HOU := Hq hO
 obtain ⟨sm, hsm⟩ : ∃ sm, decide (l.length = zs.length) = sm := ⟨_, rfl⟩
 have hsmi : (((n : Nat) : Int) != ((m : Nat) : Int)) = !sm := by rw [← hsm, hl.1, hz.1, bne, Bool.eq_iff_iff]; simp; omega
 have HSM := Hq hsm
 have HBAD := Hq (fun (c : Int) (h : ckR M O l zs sm = c) (hc : c ≠ 0) => prR_bad (by rw [hsm]; exact h) hc)
 have HR := Hq (show ∃ R, prR M O l zs = R from ⟨_, rfl⟩)
 obtain ⟨R, hR⟩ := HR.out
 rw [hR] at HBAD ⊢
 have HRR := Hq hR
 have HB0 := Hq ((Below.refl w.heap.size w).alloc (Nat.le_refl _) (.cells #[.string M, .string O] 24))
 have HX0 := Hq (Bx2.new w (.string M) (.string O) 24)
 obtain ⟨W0, hW0⟩ : ∃ W0, w.alloc (.cells #[.string M, .string O] 24) = W0 := ⟨_, rfl⟩
 rw [hW0] at HB0 HX0
 have HW0 := Hq hW0
 clear hl hz hls hzs hR hW0 hM hO HR hsm
 unfold gV at *
 go_enter Tryz.func106, Tryz.ntmps106
 go_wp2
 try rw [HW0.out]
 go_loopw [8] (fun i wr => ∃ k : Nat, k ≤ n ∧ i = .int .i64 k ∧ (l.take k).all nvalid = true ∧ wr = W0) (fun i _ => n - (intOf i).toNat)
 case atStart => exact ⟨0, Nat.zero_le _, rfl, by simp, rfl⟩
 case round =>
  obtain ⟨k, hk, rfl, hall, hwr⟩ := hrel
  have hwr := hwr.symm
  subst hwr
  have HALL := Hq hall
  clear hall
  by_cases hlt : k < n
  · obtain ⟨s, he⟩ : ∃ s, l[k]? = some s := ⟨_, List.getElem?_eq_getElem (by rw [HNL.out]; exact hlt)⟩
    obtain ⟨b, o, rfl⟩ := HSN.out.head (by omega)
    have c0 := (HSN.out.kept HB0.out (Nat.le_refl _)).get? k he
    have hsz := HLS.out s (List.mem_of_getElem? he)
    have HV := Hq (r01_Valid s (by omega))
    have HE := Hq he
    clear he
    cases hv : nvalid s with
    | true =>
     have HVS := Hq hv
     rw [hv] at HV
     clear hv
     go_wp2_with fail
     refine (HV.out _).mono ?_
     rintro e w1 ⟨rfl, rfl⟩
     go_wp2
     go_roundw
     case rel => exact ⟨k + 1, by omega, by go_num, all_take HALL.out HE.out HVS.out, (by first | rfl | trivial)⟩
     case measure => simp [intOf]; omega
    | false =>
     have HVS := Hq hv
     rw [hv] at HV
     clear hv
     go_wp2_with fail
     refine (HV.out _).mono ?_
     rintro e w1 ⟨rfl, rfl⟩
     go_wp2
     go_ret2
     exact ⟨by rw [HBAD.out 3 (by unfold ckR; rw [if_pos (all_false HE.out HVS.out)]) (by decide)]; rfl, HB0.out⟩
  · obtain rfl : k = n := by omega
    have HLV := Hq (all_len HALL.out HNL.out)
    clear HALL
    go_wp2
    go_loopw [9] (fun i wr => ∃ k : Nat, k ≤ m ∧ i = .int .i64 k ∧ (zs.take k).all (fun z => zvalid z.1 z.2) = true ∧ Below W0.heap.size W0 wr) (fun i _ => m - (intOf i).toNat)
    case atStart => exact ⟨0, Nat.zero_le _, rfl, by simp, Below.refl _ _⟩
    case round =>
     obtain ⟨j, hj, rfl, hall, hbw⟩ := hrel
     have HALL := Hq hall
     have HBW := Hq hbw
     clear hall hbw
     by_cases hlt2 : j < m
     · obtain ⟨z, he⟩ : ∃ z, zs[j]? = some z := ⟨_, List.getElem?_eq_getElem (by rw [HML.out]; exact hlt2)⟩
       obtain ⟨b, o, rfl⟩ := HSZ.out.head (by omega)
       obtain ⟨c0, c1⟩ := ((HSZ.out.kept HB0.out (Nat.le_refl _)).kept HBW.out (Nat.le_refl _)).get? j he
       have hsz := HZS.out z (List.mem_of_getElem? he)
       obtain ⟨zb, zt⟩ := z
       dsimp only at c0 c1 hsz
       have HV := Hq (r02_Valid zb zt (by omega))
       have HE := Hq he
       unfold zV at HV
       clear he
       cases hv : zvalid zb zt with
       | true =>
        have HVS := Hq hv
        rw [hv] at HV
        clear hv
        go_wp2_with fail
        refine (HV.out _).mono ?_
        rintro e w1 ⟨rfl, hb⟩
        have HB1 := Hq (HBW.out.trans (hb.mono HBW.out.size))
        clear hb
        go_wp2
        go_roundw
        case rel => exact ⟨j + 1, by omega, by go_num, all_take HALL.out HE.out HVS.out, HB1.out⟩
        case measure => simp [intOf]; omega
       | false =>
        have HVS := Hq hv
        rw [hv] at HV
        clear hv
        go_wp2_with fail
        refine (HV.out _).mono ?_
        rintro e w1 ⟨rfl, hb⟩
        have HB1 := Hq (HBW.out.trans (hb.mono HBW.out.size))
        clear hb
        go_wp2
        go_ret2
        exact ⟨by rw [HBAD.out 3 (by unfold ckR; rw [if_neg (by rw [HLV.out]; decide), if_pos (all_false HE.out HVS.out)]) (by decide)]; rfl, HB0.out.trans (HB1.out.mono HB0.out.size)⟩
     · obtain rfl : j = m := by omega
       have HZV := Hq (all_len HALL.out HML.out)
       have HX1 := Hq (HX0.out.next HBW.out)
       have HBB := Hq (HB0.out.trans (HBW.out.mono HB0.out.size))
       have c0 := HX1.out.c0
       have c1 := HX1.out.c1
       clear HALL
       by_cases hck : chkK M O = 0
       · have HCC := Hq hck
         rw [hck] at HCK
         clear hck
         cases sm with
         | false =>
          rw [Bool.not_false] at hsmi
          go_wp2_with fail
          refine (HCK.out _).mono ?_
          rintro e w2 ⟨rfl, hb⟩
          have HB2 := Hq (HBB.out.trans (hb.mono HBB.out.size))
          clear hb c0 c1
          go_wp2
          go_ret2
          exact ⟨by rw [HBAD.out 6 (by unfold ckR; rw [if_neg (by rw [HLV.out]; decide), if_neg (by rw [HZV.out]; decide), if_pos HCC.out, if_pos rfl]) (by decide)]; rfl, HB2.out⟩
         | true =>
          rw [Bool.not_true] at hsmi
          have hlen := of_decide_eq_true HSM.out
          rw [HNL.out, HML.out] at hlen
          go_wp2_with fail
          refine (HCK.out _).mono ?_
          rintro e w2 ⟨rfl, hb⟩
          have HB2 := Hq (HBB.out.trans (hb.mono HBB.out.size))
          have HX2 := Hq (HX1.out.next hb)
          clear hb c0 c1
          have HMe := Hq (nS_num (chkK_parts HCC.out).1)
          have HOe := Hq (nS_num (chkK_parts HCC.out).2.1)
          have HHS := Hq (fun (x : ByteArray) (hv : nvalid x = true) => show ∀ w, Calls Tryz.prog 145 #[.agg #[.string M, .string O], .string x] w (Ret (.bool (hasN (num M) (num O) (num x))) w) from by
           have := r13_has (num M) (num O) (num x) (num_small HMU.out) (num_small HOU.out) (nvalid_lt hv)
           rwa [← HMe.out, ← HOe.out, ← nS_num hv] at this)
          have HCN := Hq (chkK_parts HCC.out).2.2
          have HPM := Hq (chkN_one (chkK_parts HCC.out).2.2)
          have HM8 := Hq (num_small HMU.out)
          have HLEN := Hq hlen
          clear hlen
          go_wp2
          go_loopw [11] (fun i wr => ∃ q : Nat, q ≤ k ∧ i = .int .i64 q ∧ (l.take q).all (fun s => hasN (num M) (num O) (num s)) = true ∧ Below w2.heap.size w2 wr) (fun i _ => k - (intOf i).toNat)
          case atStart => exact ⟨0, Nat.zero_le _, rfl, by simp, Below.refl _ _⟩
          case round =>
           obtain ⟨q, hq, rfl, hall, hbw⟩ := hrel
           have HALL := Hq hall
           have HBW3 := Hq hbw
           have HX3 := Hq (HX2.out.next hbw)
           have HB3 := Hq (HB2.out.trans (hbw.mono HB2.out.size))
           clear hall hbw
           by_cases hlt3 : q < k
           · obtain ⟨s, he⟩ : ∃ s, l[q]? = some s := ⟨_, List.getElem?_eq_getElem (by rw [HNL.out]; exact hlt3)⟩
             obtain ⟨b, o, rfl⟩ := HSN.out.head (by omega)
             have HH := Hq (HHS.out s (all_get HLV.out he))
             have HE := Hq he
             clear he
             cases hv : hasN (num M) (num O) (num s) with
             | true =>
              have HVS := Hq hv
              rw [hv] at HH
              clear hv
              go_wp2
              have d0 : wr.drew.cell? ⟨w.heap.size, 0, none⟩ = some (.string M) := HX3.out.c0
              have d1 : wr.drew.cell? ⟨w.heap.size, 1, none⟩ = some (.string O) := HX3.out.c1
              have d2 : wr.drew.cell? ⟨b, o + q, none⟩ = some (.string s) := (HSN.out.kept HB3.out (Nat.le_refl _)).get? q HE.out
              refine wp_region_K 7 (Below (wr.drew).heap.size (wr.drew)) (by kernel_rfl) ?_
              intro hD
              refine rT 0 54 6 rfl hD (Below.refl _ _) (by intro w' hS'; have e0 := kC hS' d0; have e1 := kC hS' d1; have e2 := kC hS' d2; go_simp; with_reducible rfl) ?_; clear hD; intro hD; simp only [Act.put, sqA, sqB, sqC]
              refine rP 1 55 5 rfl hD (Below.refl _ _) ?_; clear hD; intro hD; simp only [Act.put, sqA, sqB, sqC]
              refine rP 2 56 4 rfl hD (Below.refl _ _) ?_; clear hD; intro hD; simp only [Act.put, sqA, sqB, sqC]
              refine rP 3 57 3 rfl hD (Below.refl _ _) ?_; clear hD; intro hD; simp only [Act.put, sqA, sqB, sqC]
              refine rT 4 58 2 rfl hD (Below.refl _ _) (by intro w' hS'; have e0 := kC hS' d0; have e1 := kC hS' d1; have e2 := kC hS' d2; go_simp; with_reducible rfl) ?_; clear hD; intro hD; simp only [Act.put, sqA, sqB, sqC]
              refine rO 5 1 rfl hD ?_; clear hD; intro K5 hK5
              go_wp2_with fail
              refine (HH.out _).mono ?_
              rintro e w4 ⟨rfl, hb⟩
              have HB5 := Hq hb
              have HB4 := Hq (HBW3.out.trans (((Below.refl wr.heap.size wr).drew.trans hb).mono HBW3.out.size))
              clear hb
              go_wp2
              refine hK5 _ _ (by exact HB5.out) ?_; clear hK5; intro hS_19_5 hD
              refine rP 6 60 0 rfl hD hS_19_5 ?_; clear hD; intro hD; simp only [Act.put, sqA, sqB, sqC]
              refine wpAnyK_done (by kernel_rfl) ?_ 0
              clear hD d0 d1 d2
              go_wp2
              go_roundw
              case rel => exact ⟨q + 1, by omega, by go_num, all_take HALL.out HE.out HVS.out, HB4.out⟩
              case measure => simp [intOf]; omega
             | false =>
              have HVS := Hq hv
              rw [hv] at HH
              clear hv
              go_wp2
              have d0 : wr.drew.cell? ⟨w.heap.size, 0, none⟩ = some (.string M) := HX3.out.c0
              have d1 : wr.drew.cell? ⟨w.heap.size, 1, none⟩ = some (.string O) := HX3.out.c1
              have d2 : wr.drew.cell? ⟨b, o + q, none⟩ = some (.string s) := (HSN.out.kept HB3.out (Nat.le_refl _)).get? q HE.out
              refine wp_region_K 7 (Below (wr.drew).heap.size (wr.drew)) (by kernel_rfl) ?_
              intro hD
              refine rT 0 54 6 rfl hD (Below.refl _ _) (by intro w' hS'; have e0 := kC hS' d0; have e1 := kC hS' d1; have e2 := kC hS' d2; go_simp; with_reducible rfl) ?_; clear hD; intro hD; simp only [Act.put, sqA, sqB, sqC]
              refine rP 1 55 5 rfl hD (Below.refl _ _) ?_; clear hD; intro hD; simp only [Act.put, sqA, sqB, sqC]
              refine rP 2 56 4 rfl hD (Below.refl _ _) ?_; clear hD; intro hD; simp only [Act.put, sqA, sqB, sqC]
              refine rP 3 57 3 rfl hD (Below.refl _ _) ?_; clear hD; intro hD; simp only [Act.put, sqA, sqB, sqC]
              refine rT 4 58 2 rfl hD (Below.refl _ _) (by intro w' hS'; have e0 := kC hS' d0; have e1 := kC hS' d1; have e2 := kC hS' d2; go_simp; with_reducible rfl) ?_; clear hD; intro hD; simp only [Act.put, sqA, sqB, sqC]
              refine rO 5 1 rfl hD ?_; clear hD; intro K5 hK5
              go_wp2_with fail
              refine (HH.out _).mono ?_
              rintro e w4 ⟨rfl, hb⟩
              have HB5 := Hq hb
              have HB4 := Hq (HB3.out.trans (((Below.refl wr.heap.size wr).drew.trans hb).mono HB3.out.size))
              clear hb
              go_wp2
              refine hK5 _ _ (by exact HB5.out) ?_; clear hK5; intro hS_19_5 hD
              refine rP 6 60 0 rfl hD hS_19_5 ?_; clear hD; intro hD; simp only [Act.put, sqA, sqB, sqC]
              refine wpAnyK_done (by kernel_rfl) ?_ 0
              clear hD d0 d1 d2
              go_wp2
              go_ret2
              exact ⟨by rw [HBAD.out 13 (by unfold ckR; rw [if_neg (by rw [HLV.out]; decide), if_neg (by rw [HZV.out]; decide), if_pos HCC.out, if_neg (by decide), if_pos (all_false (p := fun s => hasN (num M) (num O) (num s)) HE.out HVS.out)]) (by decide)]; rfl, HB4.out⟩
           · obtain rfl : q = k := by omega
             have HHV := Hq (all_len HALL.out HNL.out)
             have HVAL := Hq (show R = .tuple #[.string (nS (prV (num M) l zs)), .int .i64 0] from by
              rw [← HRR.out]
              unfold prR
              rw [HSM.out, if_pos (by unfold ckR; rw [if_neg (by rw [HLV.out]; decide), if_neg (by rw [HZV.out]; decide), if_pos HCC.out, if_neg (by decide), if_neg (by rw [HHV.out]; decide)])])
             have HUN := Hq (fun (s : ByteArray) (k : Nat) (hs : l[k]? = some s) => show num s < num M ∧ Nat.gcd (num s) (num M) = 1 ∧ s = nS (num s) from by
              have h1 := hasN_unit (all_get (l := l) (p := fun s => hasN (num M) (num O) (num s)) HHV.out hs) HCN.out
              exact ⟨h1.1, h1.2.2, nS_num (all_get (l := l) HLV.out hs)⟩)
             have HZVV := Hq (fun (z : Bool × ByteArray) (k : Nat) (hs : zs[k]? = some z) => all_get (l := zs) (p := fun z => zvalid z.1 z.2) HZV.out hs)
             obtain ⟨LL, hLL⟩ : ∃ LL, bL (num M) l zs = LL := ⟨_, rfl⟩
             have HLL := Hq (fun (k : Nat) (s : ByteArray) (z : Bool × ByteArray) (h1 : l[k]? = some s) (h2 : zs[k]? = some z) => show LL[k]? = some (baseN (num s) z.1 (num M), num z.2) from by rw [← hLL]; exact bL_get h1 h2)
             have HPV := Hq (show prV (num M) l zs = pp LL 0 % num M from by unfold prV; rw [hLL])
             have HLN := Hq (show LL.length = q from by rw [← hLL]; unfold bL; rw [List.length_zipWith, HNL.out, HML.out, ← HLEN.out, Nat.min_self])
             have H1M := Hq (show (nS (pp (LL.take 0) 0 % num M)) = ⟨#[1]⟩ from by rw [List.take_zero]; show nS (1 % num M) = _; rw [Nat.mod_eq_of_lt HPM.out]; exact nS_one)
             clear hLL HALL
             go_wp2
             go_loopw [12, 13] (fun x i wr => ∃ q' : Nat, q' ≤ q ∧ i = .int .i64 q' ∧ x = .string (nS (pp (LL.take q') 0 % num M)) ∧ Below w2.heap.size w2 wr) (fun _ i _ => q - (intOf i).toNat)
             case atStart => exact ⟨0, Nat.zero_le _, rfl, by rw [H1M.out], HBW3.out⟩
             case round =>
              obtain ⟨q', hq', rfl, rfl, hbw⟩ := hrel
              have HBW4 := Hq hbw
              have HX4 := Hq (HX2.out.next hbw)
              have HB4 := Hq (HB2.out.trans (hbw.mono HB2.out.size))
              clear hbw
              by_cases hlt4 : q' < q
              · obtain ⟨s, hs⟩ : ∃ s, l[q']? = some s := ⟨_, List.getElem?_eq_getElem (by rw [HNL.out]; exact hlt4)⟩
                obtain ⟨z, hz⟩ : ∃ z, zs[q']? = some z := ⟨_, List.getElem?_eq_getElem (by rw [HML.out, ← HLEN.out]; exact hlt4)⟩
                have hqj : q' < j := by rw [← HLEN.out]; exact hlt4
                obtain ⟨bA, oA, rfl⟩ := HSN.out.head (by omega)
                obtain ⟨bZ, oZ, rfl⟩ := HSZ.out.head (by rw [← HLEN.out]; omega)
                have HSk := Hq (HUN.out s q' hs)
                have HZk := Hq (HZVV.out z q' hz)
                have HLk := Hq (HLL.out q' s z hs hz)
                have d2 := (HSN.out.kept HB4.out (Nat.le_refl _)).get? q' hs
                obtain ⟨d3, d4⟩ := (HSZ.out.kept HB4.out (Nat.le_refl _)).get? q' hz
                obtain ⟨zb, zt⟩ := z
                dsimp only at d3 d4 HLk HZk
                have HRA := Hq (fun w => show Calls Tryz.prog 150 #[.agg #[.string M, .string O], .string s, .agg #[.bool zb, .string zt]] w (Ret (.string (nS (pwN (num s) zb (num zt) (num M)))) w) from by
                 have := r13_raw (num s) (num M) O zb zt HSk.out.1 HM8.out HPM.out HSk.out.2.1 HZk.out w
                 rwa [← HMe.out, ← HSk.out.2.2] at this)
                have HPT := Hq (pp_take HLk.out 0)
                obtain ⟨X, hX⟩ : ∃ X, pp (LL.take q') 0 = X := ⟨_, rfl⟩
                rw [hX] at HPT ⊢
                have hpos : 0 < num M := by have := HPM.out; omega
                have HMM := Hq (fun w => show Calls Tryz.prog 75 #[.string (nS (X % num M)), .string (nS (pwN (num s) zb (num zt) (num M))), .string M] w (Ret (.tuple #[.string (nS (pp (LL.take (q' + 1)) 0 % num M)), .int .i64 0]) w) from by
                 have h8 := HM8.out
                 have := r03_Mul (X % num M) (pwN (num s) zb (num zt) (num M)) (num M) (lt128_of_lt8 (Nat.lt_trans (Nat.mod_lt _ hpos) h8)) (lt128_of_lt8 (Nat.lt_trans (Nat.mod_lt _ hpos) h8)) h8 hpos w
                 rw [← HMe.out] at this
                 rw [HPT.out, Nat.pow_zero, Nat.div_one, Nat.mul_mod]
                 exact this)
                obtain ⟨xs, hxs⟩ : ∃ xs, nS (X % num M) = xs := ⟨_, rfl⟩
                obtain ⟨ps, hps⟩ : ∃ xs, nS (pwN (num s) zb (num zt) (num M)) = xs := ⟨_, rfl⟩
                rw [hps] at HRA
                rw [hps, hxs] at HMM
                rw [hxs]
                clear hs hz hX hpos hxs hps
                go_wp2
                have e0 : wr.drew.cell? ⟨w.heap.size, 0, none⟩ = some (.string M) := HX4.out.c0
                have e1 : wr.drew.cell? ⟨w.heap.size, 1, none⟩ = some (.string O) := HX4.out.c1
                have e2 : wr.drew.cell? ⟨bA, oA + q', none⟩ = some (.string s) := d2
                have e3 : wr.drew.cell? ⟨bZ, oZ + q' * 2, none⟩ = some (.bool zb) := d3
                have e4 : wr.drew.cell? ⟨bZ, oZ + q' * 2 + 1, none⟩ = some (.string zt) := d4
                clear d2 d3 d4
                refine wp_region_K 18 (Below (wr.drew).heap.size (wr.drew)) (by kernel_rfl) ?_
                intro hD
                have KK3 := Hq (fun w' (hS' : (Below (wr.drew).heap.size (wr.drew)) w') => And.intro (kC hS' e0) (And.intro (kC hS' e1) (And.intro (kC hS' e2) (And.intro (kC hS' e3) (kC hS' e4)))))
                refine rP 0 68 17 rfl hD (Below.refl _ _) ?_; clear hD; intro hD; simp only [Act.put, sqA, sqB, sqC]
                refine rT 1 69 16 rfl hD (Below.refl _ _) (by intro w' hS'; obtain ⟨e0, e1, e2, e3, e4⟩ := KK3.out w' hS'; go_simp; with_reducible rfl) ?_; clear hD; intro hD; simp only [Act.put, sqA, sqB, sqC]
                refine rP 2 70 15 rfl hD (Below.refl _ _) ?_; clear hD; intro hD; simp only [Act.put, sqA, sqB, sqC]
                refine rP 3 71 14 rfl hD (Below.refl _ _) ?_; clear hD; intro hD; simp only [Act.put, sqA, sqB, sqC]
                refine rP 4 72 13 rfl hD (Below.refl _ _) ?_; clear hD; intro hD; simp only [Act.put, sqA, sqB, sqC]
                refine rT 5 73 12 rfl hD (Below.refl _ _) (by intro w' hS'; obtain ⟨e0, e1, e2, e3, e4⟩ := KK3.out w' hS'; go_simp; with_reducible rfl) ?_; clear hD; intro hD; simp only [Act.put, sqA, sqB, sqC]
                refine rP 6 74 11 rfl hD (Below.refl _ _) ?_; clear hD; intro hD; simp only [Act.put, sqA, sqB, sqC]
                refine rP 7 75 10 rfl hD (Below.refl _ _) ?_; clear hD; intro hD; simp only [Act.put, sqA, sqB, sqC]
                refine rP 8 76 9 rfl hD (Below.refl _ _) ?_; clear hD; intro hD; simp only [Act.put, sqA, sqB, sqC]
                refine rT 9 77 8 rfl hD (Below.refl _ _) (by intro w' hS'; obtain ⟨e0, e1, e2, e3, e4⟩ := KK3.out w' hS'; go_simp; with_reducible rfl) ?_; clear hD; intro hD; simp only [Act.put, sqA, sqB, sqC]
                refine rP 11 79 7 rfl hD (Below.refl _ _) ?_; clear hD; intro hD; simp only [Act.put, sqA, sqB, sqC]
                refine rT 12 80 6 rfl hD (Below.refl _ _) (by intro w' hS'; obtain ⟨e0, e1, e2, e3, e4⟩ := KK3.out w' hS'; go_simp; with_reducible rfl) ?_; clear hD; intro hD; simp only [Act.put, sqA, sqB, sqC]
                refine rO 10 5 rfl hD ?_; clear hD; intro K10 hK10
                go_wp2_with fail
                refine (HRA.out _).mono ?_
                rintro e w5 ⟨rfl, hb⟩
                have HB10 := Hq hb
                clear hb
                go_wp2
                refine hK10 _ _ (by exact HB10.out) ?_; clear hK10; intro hS_25_10 hD
                refine rO 13 4 rfl hD ?_; clear hD; intro K13 hK13
                go_wp2_with fail
                refine (HMM.out _).mono ?_
                rintro e w6 ⟨rfl, hb⟩
                have HB13 := Hq hb
                clear hb
                go_wp2
                refine hK13 _ _ (by exact Below.trans hS_25_10 (Below.mono HB13.out (Below.size hS_25_10))) ?_; clear hK13; intro hS_25_13 hD
                refine rP 14 67 3 rfl hD hS_25_13 ?_; clear hD; intro hD; simp only [Act.put, sqA, sqB, sqC]
                refine rP 15 82 2 rfl hD hS_25_13 ?_; clear hD; intro hD; simp only [Act.put, sqA, sqB, sqC]
                refine rP 16 83 1 rfl hD hS_25_13 ?_; clear hD; intro hD; simp only [Act.put, sqA, sqB, sqC]
                refine rO 17 0 rfl hD ?_; clear hD; intro K17 hK17
                go_wp2
                refine hK17 _ _ (by exact hS_25_13) ?_; clear hK17; intro hS_25_17 hD
                refine wpAnyK_done (by kernel_rfl) ?_ 0
                clear hD e0 e1 e2 e3 e4
                have HB6 := Hq (HBW4.out.trans (((Below.refl wr.heap.size wr).drew.trans hS_25_17).mono HBW4.out.size))
                go_wp2
                go_roundw
                case rel => exact ⟨q' + 1, by omega, by go_num, rfl, HB6.out⟩
                case measure => simp [intOf]; omega
              · obtain rfl : q' = q := by omega
                have HT := Hq (show LL.take q' = LL from by rw [← HLN.out, List.take_length])
                rw [HT.out, ← HPV.out]
                go_wp2
                go_ret2
                exact ⟨by rw [HVAL.out]; rfl, HB4.out⟩
       · have HCC := Hq hck
         obtain ⟨cc, hcc⟩ : ∃ cc, chkK M O = cc := ⟨_, rfl⟩
         have HCE := Hq hcc
         rw [hcc] at HCK hck
         have hcb : (cc == 0) = false := by rw [beq_eq_false_iff_ne]; exact hck
         have hcb2 : (cc != 0) = true := by rw [bne, hcb]; rfl
         have HCN := Hq hck
         clear hck hcc
         go_wp2_with fail
         refine (HCK.out _).mono ?_
         rintro e w2 ⟨rfl, hb⟩
         have HB2 := Hq (HBB.out.trans (hb.mono HBB.out.size))
         clear hb c0 c1
         go_wp2
         go_ret2
         exact ⟨by rw [HBAD.out cc (by unfold ckR; rw [if_neg (by rw [HLV.out]; decide), if_neg (by rw [HZV.out]; decide), if_neg HCC.out, HCE.out]) HCN.out]; rfl, HB2.out⟩
end Go.Proofs.YtndmjfkmnjejkaaGreatDoor

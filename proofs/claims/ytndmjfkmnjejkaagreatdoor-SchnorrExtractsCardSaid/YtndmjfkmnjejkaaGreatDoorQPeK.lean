/- The ghost law for the alloc of a struct: the block is there or not. -/
import Derived.Test.YtndmjfkmnjejkaaGreatDoorQGst
import Derived.Test.YtndmjfkmnjejkaaGreatDoorQLib
import Derived.Great.Walk
import Derived.Test.YtndmjfkmnjejkaaGreatDoorQPeJ
namespace Go.Proofs.YtndmjfkmnjejkaaGreatDoor
open Go.RowKit
set_option linter.unusedVariables false
def GIz (W0 : World) (cs : Array Value) (T : TypeId) (b : Bool) (x : Value) (w : World) : Prop :=
  Below W0.heap.size W0 w ∧ (b = true → ∃ B, x = .pointer (some ⟨B, 0, none⟩) ∧ W0.heap.size ≤ B ∧ w.heap[B]? = some (.cells cs T (0, 0)))
theorem GIz.start {W0 : World} {cs : Array Value} {T : TypeId} {x : Value} {w : World} (h : Below W0.heap.size W0 w) : GIz W0 cs T false x w := ⟨h, fun e => by cases e⟩
theorem GIz.step {W0 w w' : World} {cs : Array Value} {T : TypeId} {b : Bool} {x : Value} (h : GIz W0 cs T b x w) (hb : Below w.heap.size w w') : GIz W0 cs T b x w' := by
  refine ⟨h.1.trans (hb.mono h.1.size), fun e => ?_⟩
  obtain ⟨B, rfl, hB, hz⟩ := h.2 e
  exact ⟨B, rfl, hB, (hb.block B (block_lt hz)).trans hz⟩
theorem alloc_zK {P : Program} {ops : Array Oper} {o : Oper} {a : Act} {Q : Exit → Act → World → Prop} {d : Tmp} {cs : Array Value} {T : TypeId} (hg : o.guard = none) (hd : o.dst = some d) (hop : ∀ (w : World) (ρ : Operand → Value), (execOp ρ o).run P w = .ok (.value (.pointer (some ⟨w.heap.size, 0, none⟩))) (w.alloc (.cells cs T))) {W0 : World} :
    ∀ w, GIz W0 cs T false undef w → ∀ K : Act → World → Prop, (∀ x w', GIz W0 cs T true x w' → K (a.put (some d) x) w') → wpList P ops (EndK K Q) [o] a w := fun w h K hK =>
  Great.wpList_allocTo hg (some d) hd _ _ (hop w a.eval) (hK _ _ ⟨h.1.alloc h.1.size _, fun _ => ⟨_, rfl, h.1.size, heap_alloc_new _ _⟩⟩)
end Go.Proofs.YtndmjfkmnjejkaaGreatDoor
/- Walk: dominoref02.bezout. -/
set_option linter.unusedVariables false
set_option linter.unusedSimpArgs false
namespace Go.Proofs.YtndmjfkmnjejkaaGreatDoor
open Go.RowKit
def RetBz (a b : Nat) (w : World) (e : Ending) (w' : World) : Prop := ∃ x y : Int, e = .returned (.tuple #[.string (nS (Nat.gcd a b)), intV x, intV y]) ∧ Below w.heap.size w w' ∧ (a : Int) * x + b * y = Nat.gcd a b ∧ x.natAbs ≤ max 1 b ∧ y.natAbs ≤ max 1 a ∧ (b = 0 → y = 0 ∧ x = 1)
theorem bz_law {a b g : Nat} {x y : Int} (h : (b : Int) * x + (a % b : Nat) * y = g) : (a : Int) * y + b * (x - (a / b : Nat) * y) = g := by
  have e : (a : Int) = b * (a / b : Nat) + (a % b : Nat) := by rw [← Int.natCast_mul, ← Int.natCast_add, Nat.div_add_mod]
  rw [← h]
  conv => lhs; rw [e]
  rw [Int.add_mul, Int.mul_sub, Int.mul_assoc]
  omega
theorem bz_bound {a b : Nat} {x y : Int} (hb : 0 < b) (hx : x.natAbs ≤ max 1 (a % b)) (hy : y.natAbs ≤ max 1 b) (h0 : a % b = 0 → y = 0 ∧ x = 1) : (x - (a / b : Nat) * y).natAbs ≤ max 1 a := by
  rcases Nat.eq_zero_or_pos (a % b) with h | h
  · obtain ⟨rfl, rfl⟩ := h0 h
    rw [Int.mul_zero]; omega
  · have e := Nat.div_add_mod a b
    have h1 : ((a / b : Nat) * y).natAbs ≤ a / b * b := by
      rw [Int.natAbs_mul, Int.natAbs_natCast]
      exact Nat.mul_le_mul_left _ (by omega)
    have h2 : a / b * b = b * (a / b) := Nat.mul_comm _ _
    omega
theorem bx2_off {W : World} {B C : Nat} {x y u v : Value} {T : TypeId} (h : Bx2 W B x y T) (hne : B ≠ C) : Bx2 ((W.setCell ⟨C, 0, none⟩ u).setCell ⟨C, 1, none⟩ v) B x y T := by
  unfold Bx2
  rw [heap_setCell_other _ _ _ _ hne, heap_setCell_other _ _ _ _ hne]
  exact h
theorem below_set2 {B : Nat} {w W : World} (h : Below B w W) {C : Nat} (hC : B ≤ C) (u v : Value) : Below B w ((W.setCell ⟨C, 0, none⟩ u).setCell ⟨C, 1, none⟩ v) :=
  (h.setCell (p := ⟨C, 0, none⟩) hC u).setCell (p := ⟨C, 1, none⟩) hC v
theorem bx2_at (w : World) (x0 x1 y0 y1 : Value) (T : TypeId) : Bx2 ((w.alloc (.cells #[x0, x1] T)).alloc (.cells #[y0, y1] T)) w.heap.size x0 x1 T ∧ Bx2 ((w.alloc (.cells #[x0, x1] T)).alloc (.cells #[y0, y1] T)) (w.heap.size + 1) y0 y1 T ∧ Below w.heap.size w ((w.alloc (.cells #[x0, x1] T)).alloc (.cells #[y0, y1] T)) := by
  refine ⟨(Bx2.new w x0 x1 T).next ((Below.refl _ _).alloc (Nat.le_refl _) _), ?_, ((Below.refl w.heap.size w).alloc (Nat.le_refl _) _).alloc (by simp) _⟩
  have := Bx2.new (w.alloc (.cells #[x0, x1] T)) y0 y1 T
  rwa [World.size_alloc] at this
set_option maxRecDepth 100000 in
set_option maxHeartbeats 4000000 in
theorem r02_bezout : ∀ (n a b : Nat), b < n → a < 18446744073709551616 → b < 18446744073709551616 → ∀ w : World, Calls Tryz.prog 168 #[.string (nS a), .string (nS b)] w (RetBz a b w) := by
  intro n
  induction n with
  | zero => intro a b h; omega
  | succ n ih =>
    intro a b hn ha hb w
    have HB0 := Lib.hid (((Below.refl w.heap.size w).alloc (Nat.le_refl _) (.cells #[.bool false, .string ⟨#[]⟩] 28)).alloc (by simp) (.cells #[.bool false, .string ⟨#[]⟩] 28))
    have HX0 := Lib.hid (((Bx2.new w (.bool false) (.string ⟨#[]⟩) 28).next ((Below.refl _ _).alloc (Nat.le_refl _) (.cells #[.bool false, .string ⟨#[]⟩] 28))))
    have HY0 := Lib.hid (show Bx2 ((w.alloc (.cells #[.bool false, .string ⟨#[]⟩] 28)).alloc (.cells #[.bool false, .string ⟨#[]⟩] 28)) (w.heap.size + 1) (.bool false) (.string ⟨#[]⟩) 28 from by
      have := Bx2.new (w.alloc (.cells #[.bool false, .string ⟨#[]⟩] 28)) (.bool false) (.string ⟨#[]⟩) 28
      rwa [World.size_alloc] at this)
    obtain ⟨W0, hW0⟩ : ∃ W0, (w.alloc (.cells #[.bool false, .string ⟨#[]⟩] 28)).alloc (.cells #[.bool false, .string ⟨#[]⟩] 28) = W0 := ⟨_, rfl⟩
    rw [hW0] at HB0 HX0 HY0
    rcases Nat.eq_zero_or_pos b with h0 | h0
    · subst h0
      have he : (nS 0).toList.isEmpty = true := sempty_true rfl
      have HO1 := Lib.hid (r02_Of 1 (by decide))
      have HO0 := Lib.hid (r02_Of 0 (by decide))
      have HI1 := Lib.hid (show intV ((1 : Nat) : Int) = .agg #[.bool false, .string (nS 1)] from rfl)
      have HI0 := Lib.hid (show intV ((0 : Nat) : Int) = .agg #[.bool false, .string (nS 0)] from rfl)
      rw [HI1.out] at HO1
      rw [HI0.out] at HO0
      have HRES := Lib.hid (show ∀ w', Below w.heap.size w w' → RetBz a 0 w (.returned (.tuple #[.string (nS a), .agg #[.bool false, .string (nS 1)], .agg #[.bool false, .string (nS 0)]])) w' from fun w' hb => ⟨1, 0, by rw [Nat.gcd_zero_right]; rfl, hb, by rw [Nat.gcd_zero_right]; omega, by decide, by omega, fun _ => ⟨rfl, rfl⟩⟩)
      obtain ⟨s, hs⟩ : ∃ s, nS a = s := ⟨_, rfl⟩
      obtain ⟨t, ht⟩ : ∃ t, nS 0 = t := ⟨_, rfl⟩
      obtain ⟨u, hu⟩ : ∃ u, nS 1 = u := ⟨_, rfl⟩
      rw [hs, ht, hu] at HRES
      rw [hu] at HO1
      rw [ht] at HO0 he
      rw [hs, ht]
      clear hs ht hu ih hn ha hb HI1 HI0
      have HO1' := Lib.hid (fun w => show Calls Tryz.prog 167 #[.int .i64 1] w (Ret (.agg #[.bool false, .string u]) w) from HO1.out w)
      have HO0' := Lib.hid (fun w => show Calls Tryz.prog 167 #[.int .i64 0] w (Ret (.agg #[.bool false, .string t]) w) from HO0.out w)
      go_enter Tryz.func168, Tryz.ntmps168
      go_wp2_with fail
      try rw [hW0]
      clear hW0
      refine (HO1'.out _).mono ?_
      rintro e w1 ⟨rfl, hb1⟩
      have HX1 := Lib.hid (HX0.out.next hb1)
      have HY1 := Lib.hid (HY0.out.next hb1)
      have HB1 := Lib.hid (HB0.out.trans (hb1.mono HB0.out.size))
      clear hb1
      go_wp2_with fail
      refine (HO0'.out _).mono ?_
      rintro e w2 ⟨rfl, hb2⟩
      have hX := HX1.out.next hb2
      have hY := HY1.out.next hb2
      have HX2 := Lib.hid hX
      have HY2 := Lib.hid hY
      have HB2 := Lib.hid (HB1.out.trans (hb2.mono HB1.out.size))
      have c0 := hX.c0
      have c1 := hX.c1
      have d0 := hY.c0
      have d1 := hY.c1
      have f0 := hX.f0
      have f1 := hX.f1
      have k0 := hY.f0
      have k1 := hY.f1
      clear hb2 hX hY
      go_wp2
      have hx5 := HX2.out.set2 (u := .bool false) (v := .string u)
      have hy5 := bx2_off (u := .bool false) (v := .string u) HY2.out (show w.heap.size + 1 ≠ w.heap.size by omega)
      have hx6 := bx2_off (u := .bool false) (v := .string t) hx5 (show w.heap.size ≠ w.heap.size + 1 by omega)
      have hy6 := hy5.set2 (u := .bool false) (v := .string t)
      have q0 := hx6.c0
      have q1 := hx6.c1
      have q2 := hy6.c0
      have q3 := hy6.c1
      exact bodyPost_ret (v := .tuple #[.string s, .agg #[.bool false, .string u], .agg #[.bool false, .string t]]) (by simp [results, Tryz.results168, go_sem, q0, q1, q2, q3]) rfl (HRES.out _ (below_set2 (below_set2 HB2.out (Nat.le_refl _) _ _) (Nat.le_add_right _ _) _ _))
    · have he := empty_nS h0
      have hqa : a / b ≤ a := Nat.div_le_self _ _
      have hrb : a % b < b := Nat.mod_lt _ h0
      have HDM := Lib.hid (r01_DivMod a b (lt128_of_lt8 ha) (lt128_of_lt8 hb) h0)
      have HIH := Lib.hid (ih b (a % b) (by omega) hb (by omega))
      have HFR := Lib.hid (r02_From (a / b) (lt128_of_lt8 (by omega)))
      have HLAW := Lib.hid (fun (x y : Int) (h : (b : Int) * x + (a % b : Nat) * y = Nat.gcd b (a % b)) => bz_law (a := a) h)
      have HBD := Lib.hid (fun (x y : Int) => bz_bound (a := a) (b := b) (x := x) (y := y) h0)
      have HGC := Lib.hid (show Nat.gcd b (a % b) = Nat.gcd a b from gcd_next rfl)
      have hp16 : (18446744073709551616 : Nat) * 18446744073709551616 < 256 ^ 128 := by decide +kernel
      have HP16 := Lib.hid hp16
      have hqy : ∀ y : Int, y.natAbs ≤ max 1 b → (((a / b : Nat) : Int) * y).natAbs < 256 ^ 100 := by
        intro y hy
        have h1 : (((a / b : Nat) : Int) * y).natAbs ≤ 18446744073709551616 * 18446744073709551616 := by
          rw [Int.natAbs_mul, Int.natAbs_natCast]
          exact Nat.mul_le_mul (by omega) (by omega)
        have h2 : (18446744073709551616 : Nat) * 18446744073709551616 < 256 ^ 100 := by decide +kernel
        omega
      have HQY := Lib.hid hqy
      have h100 : (256 : Nat) ^ 100 < 256 ^ 128 := Nat.pow_lt_pow_right (by omega) (by omega)
      have H100 := Lib.hid h100
      have HMU := Lib.hid (fun (y : Int) (hy : y.natAbs ≤ max 1 b) (w : World) => show Calls Tryz.prog 169 #[intV (a / b : Nat), intV y] w (Ret (.tuple #[intV ((a / b : Nat) * y), .int .i64 0]) w) from by
        have hh := r02_Mul (a / b : Nat) y (by rw [Int.natAbs_natCast]; exact lt128_of_lt8 (by omega)) (lt128_of_lt8 (by omega)) w
        rw [fitZ_in (by have := hqy y hy; omega)] at hh
        exact hh)
      have HSU := Lib.hid (fun (x y : Int) (hx : x.natAbs ≤ max 1 (a % b)) (hy : y.natAbs ≤ max 1 b) (h1 : a % b = 0 → y = 0 ∧ x = 1) => r02_Sub x ((a / b : Nat) * y) (lt128_of_lt8 (by omega)) (by have := hqy y hy; omega) (lt128_of_lt8 (by have := bz_bound (a := a) h0 hx hy h1; omega)))
      have HB8 := Lib.hid (show a < 18446744073709551616 ∧ b < 18446744073709551616 ∧ a % b < b from ⟨ha, hb, hrb⟩)
      obtain ⟨Q, hQ⟩ : ∃ Q, a / b = Q := ⟨_, rfl⟩
      rw [hQ] at HDM HFR HMU HSU HLAW HBD
      obtain ⟨s, hs⟩ : ∃ s, nS a = s := ⟨_, rfl⟩
      obtain ⟨t, ht⟩ : ∃ t, nS b = t := ⟨_, rfl⟩
      obtain ⟨qs, hqs⟩ : ∃ t, nS Q = t := ⟨_, rfl⟩
      obtain ⟨rs, hrs⟩ : ∃ t, nS (a % b) = t := ⟨_, rfl⟩
      have HIQ := Lib.hid (show intV (Q : Int) = .agg #[.bool false, .string qs] from by unfold intV zV; rw [decide_eq_false (Int.not_lt.2 (Int.natCast_nonneg _)), Int.natAbs_natCast, hqs])
      rw [hs, ht, hqs, hrs] at HDM
      rw [hqs, HIQ.out] at HFR
      rw [HIQ.out] at HMU
      rw [ht, hrs] at HIH
      rw [ht] at he
      rw [hs, ht]
      clear hs ht hqs hrs hQ ih hn ha hb hqa hrb hp16 hqy h100 h0
      go_enter Tryz.func168, Tryz.ntmps168
      go_wp2_with fail
      try rw [hW0]
      clear hW0
      refine (HDM.out _).mono ?_
      rintro e w1 ⟨rfl, hb1⟩
      have HX1 := Lib.hid (HX0.out.next hb1)
      have HY1 := Lib.hid (HY0.out.next hb1)
      have HB1 := Lib.hid (HB0.out.trans (hb1.mono HB0.out.size))
      clear hb1
      go_wp2_with fail
      refine (HIH.out _).mono ?_
      rintro e w2 ⟨x, y, rfl, hb2, hlaw, hbx, hby, hb0⟩
      have HX2 := Lib.hid (HX1.out.next hb2)
      have HY2 := Lib.hid (HY1.out.next hb2)
      have HB2 := Lib.hid (HB1.out.trans (hb2.mono HB1.out.size))
      have HMY := Lib.hid (HMU.out y hby)
      have HSY := Lib.hid (HSU.out x y hbx hby hb0)
      have HLW := Lib.hid (HLAW.out x y hlaw)
      have HBB := Lib.hid (HBD.out x y hbx hby hb0)
      have HBY := Lib.hid hby
      rw [HGC.out] at HLW ⊢
      clear hb2 hlaw hbx hby hb0
      have HRES := Lib.hid (show ∀ w', Below w.heap.size w w' → RetBz a b w (.returned (.tuple #[.string (nS (Nat.gcd a b)), intV y, intV (x - Q * y)])) w' from fun w' hb => ⟨y, x - Q * y, rfl, hb, HLW.out, HBY.out, HBB.out, fun h => by have := HB8.out.2.2; omega⟩)
      obtain ⟨P, hP⟩ : ∃ P : Int, Q * y = P := ⟨_, rfl⟩
      rw [hP] at HMY HSY HRES
      obtain ⟨Z, hZ⟩ : ∃ Z : Int, x - P = Z := ⟨_, rfl⟩
      rw [hZ] at HSY HRES
      unfold intV zV at HMY HSY HRES ⊢
      obtain ⟨g, hg⟩ : ∃ g, nS (Nat.gcd a b) = g := ⟨_, rfl⟩
      obtain ⟨xb, hxb⟩ : ∃ u, decide (x < 0) = u := ⟨_, rfl⟩
      obtain ⟨xs, hxs⟩ : ∃ u, nS x.natAbs = u := ⟨_, rfl⟩
      obtain ⟨yb, hyb⟩ : ∃ u, decide (y < 0) = u := ⟨_, rfl⟩
      obtain ⟨ys, hys⟩ : ∃ u, nS y.natAbs = u := ⟨_, rfl⟩
      obtain ⟨pb, hpb⟩ : ∃ u, decide (P < 0) = u := ⟨_, rfl⟩
      obtain ⟨ps, hps⟩ : ∃ u, nS P.natAbs = u := ⟨_, rfl⟩
      obtain ⟨zb, hzb⟩ : ∃ u, decide (Z < 0) = u := ⟨_, rfl⟩
      obtain ⟨zs, hzs⟩ : ∃ u, nS Z.natAbs = u := ⟨_, rfl⟩
      rw [hyb, hys, hpb, hps] at HMY
      rw [hxb, hxs, hpb, hps, hzb, hzs] at HSY
      rw [hg, hyb, hys, hzb, hzs] at HRES
      rw [hg, hxb, hxs, hyb, hys]
      clear hg hxb hxs hyb hys hpb hps hzb hzs hP hZ HLW HBB HBY HLAW HBD HMU HSU HIH
      go_wp2
      obtain ⟨hx3, hy3, hb3⟩ := bx2_at w2 (.bool xb) (.string xs) (.bool yb) (.string ys) 28
      obtain ⟨W3, hW3⟩ : ∃ W3, (w2.alloc (.cells #[.bool xb, .string xs] 28)).alloc (.cells #[.bool yb, .string ys] 28) = W3 := ⟨_, rfl⟩
      obtain ⟨B11, hB11⟩ : ∃ B, w2.heap.size = B := ⟨_, rfl⟩
      rw [hW3, hB11] at hx3 hy3
      rw [hW3] at hb3
      try rw [hW3]
      try rw [hB11]
      have HLT := Lib.hid (show w.heap.size + 1 < B11 from by rw [← hB11]; exact HY2.out.lt)
      have HX3 := Lib.hid (HX2.out.next hb3)
      have HY3 := Lib.hid (HY2.out.next hb3)
      have HB3 := Lib.hid (HB2.out.trans (hb3.mono HB2.out.size))
      have HP3 := Lib.hid hx3
      have HQ3 := Lib.hid hy3
      have e0 : W3.drew.cell? ⟨B11 + 1, 0, none⟩ = some (.bool yb) := hy3.c0
      have e1 : W3.drew.cell? ⟨B11 + 1, 1, none⟩ = some (.string ys) := hy3.c1
      clear hW3 hB11 hx3 hy3 hb3
      rename_i K5 hK5
      refine wp_onlyN ?_
      refine wp_region_K 10 (Below (W3.drew).heap.size (W3.drew)) (by kernel_rfl) ?_
      intro hD
      refine wpAnyK_pureD (i := 0) (d := some 37) (v := ?v5_0b1) (fuel := 9) rfl (by kernel_rfl) (by kernel_rfl) (fun _ _ _ h => h) hD (Below.refl _ _) (.inl ⟨by kernel_rfl, ?y5_0b1⟩) ?n5_0b1
      case y5_0b1 => intro w' _; go_simp; with_reducible rfl
      clear hD; intro hD
      simp only [Act.put, sqA, sqB, sqC]
      refine wpAnyK_takeSD (i := 2) (d := some 39) (v := ?v5_2b1) (fuel := 8) rfl (by kernel_rfl) (by kernel_rfl) (by kernel_rfl) (fun _ _ _ h => h) hD (Below.refl _ _) (.inl ⟨by kernel_rfl, ?y5_2b1⟩) ?n5_2b1
      case y5_2b1 => intro w' hS'; have e0 := cell_kept hS' (Nat.le_refl _) e0; have e1 := cell_kept hS' (Nat.le_refl _) e1; go_simp; with_reducible rfl
      clear hD; intro hD
      simp only [Act.put, sqA, sqB, sqC]
      refine (show GhostK _ _ _ _ _ _ 7 13 7 _ _ (GIz (W3.drew) (#[.bool false, .string ⟨#[]⟩]) (28)) from ?_).2 _ (GIz.start (Below.refl _ _))
      refine ghost_step (i := 7) (j := 1) (d := 13) (dj := 38) (fuel := 6) (fun (y : Unit) => .agg #[.bool false, .string qs]) (fun y => GIz (W3.drew) (#[.bool false, .string ⟨#[]⟩]) (28)) (by kernel_rfl) (by kernel_rfl) rfl rfl hD (by kernel_rfl) (by decide) (fun _ _ _ _ h => h.1) (fun _ _ _ h => h.1) (alloc_zK rfl rfl (fun _ _ => by kernel_rfl)) ?hs5_1b1 ?hn5_1b1
      case hs5_1b1 =>
        intro gb gx gw hI K hK
        try simp only [Act.put, sqA, sqB, sqC] at hK ⊢
        have HK := Lib.hid hK
        have HGI := Lib.hid hI
        clear hK hI hD
        go_wp2_with fail
        refine (HFR.out _).mono ?_
        rintro ev w4 ⟨rfl, hb⟩
        have HG2 := Lib.hid (HGI.out.step hb)
        clear hb
        go_wp2
        exact HK.out () _ HG2.out
      intro _ hD
      simp only [Act.put, sqA, sqB, sqC]
      refine ghost_step (i := 7) (j := 3) (d := 13) (dj := 40) (fuel := 5) (fun (y : Unit) => .tuple #[.agg #[.bool pb, .string ps], .int .i64 0]) (fun y => GIz (W3.drew) (#[.bool false, .string ⟨#[]⟩]) (28)) (by kernel_rfl) (by kernel_rfl) rfl rfl hD (by kernel_rfl) (by decide) (fun _ _ _ _ h => h.1) (fun _ _ _ h => h.1) (alloc_zK rfl rfl (fun _ _ => by kernel_rfl)) ?hs5_3b1 ?hn5_3b1
      case hs5_3b1 =>
        intro gb gx gw hI K hK
        try simp only [Act.put, sqA, sqB, sqC] at hK ⊢
        have HK := Lib.hid hK
        have HGI := Lib.hid hI
        clear hK hI hD
        go_wp2_with fail
        refine (HMY.out _).mono ?_
        rintro ev w4 ⟨rfl, hb⟩
        have HG2 := Lib.hid (HGI.out.step hb)
        clear hb
        go_wp2
        exact HK.out () _ HG2.out
      intro _ hD
      simp only [Act.put, sqA, sqB, sqC]
      refine ghost_pure (i := 7) (j := 4) (d := 13) (dj := 36) (v := ?v5_4b1) (fuel := 4) rfl (by kernel_rfl) (by kernel_rfl) (by kernel_rfl) (by kernel_rfl) (fun _ _ _ h => h) hD (by kernel_rfl) (by decide) (by decide) (fun _ _ _ h => h.1) (fun x => .inl ⟨by kernel_rfl, ?y5_4b1⟩) ?n5_4b1
      case y5_4b1 => intro w' _; go_simp; with_reducible rfl
      clear hD; intro hD
      simp only [Act.put, sqA, sqB, sqC]
      refine ghost_pure (i := 7) (j := 5) (d := 13) (dj := 41) (v := ?v5_5b1) (fuel := 3) rfl (by kernel_rfl) (by kernel_rfl) (by kernel_rfl) (by kernel_rfl) (fun _ _ _ h => h) hD (by kernel_rfl) (by decide) (by decide) (fun _ _ _ h => h.1) (fun x => .inl ⟨by kernel_rfl, ?y5_5b1⟩) ?n5_5b1
      case y5_5b1 => intro w' _; go_simp; with_reducible rfl
      clear hD; intro hD
      simp only [Act.put, sqA, sqB, sqC]
      refine ghost_pure (i := 7) (j := 6) (d := 13) (dj := 42) (v := ?v5_6b1) (fuel := 2) rfl (by kernel_rfl) (by kernel_rfl) (by kernel_rfl) (by kernel_rfl) (fun _ _ _ h => h) hD (by kernel_rfl) (by decide) (by decide) (fun _ _ _ h => h.1) (fun x => .inl ⟨by kernel_rfl, ?y5_6b1⟩) ?n5_6b1
      case y5_6b1 => intro w' _; go_simp; with_reducible rfl
      clear hD; intro hD
      simp only [Act.put, sqA, sqB, sqC]
      refine ghost_end (by kernel_rfl) rfl hD (fun _ _ _ h => h.1) (alloc_zK rfl rfl (fun _ _ => by kernel_rfl)) ?_
      intro gx gw hI hD
      obtain ⟨hSG, hx⟩ := hI
      obtain ⟨GB, rfl, hBG, hZG⟩ := hx rfl
      have HSG := Lib.hid hSG
      have HBG := Lib.hid hBG
      have HZG := Lib.hid hZG
      clear hx hSG hBG hZG
      simp only [Act.put, sqA, sqB, sqC]
      refine wpAnyK_one (i := 8) (fuel := 1) (by kernel_rfl) rfl hD ?_
      clear hD; intro K8 hK8
      have hz : Bx2 gw GB (.bool false) (.string ⟨#[]⟩) 28 := HZG.out
      have p0 := hz.c0
      have p1 := hz.c1
      have pf0 := hz.f0
      have pf1 := hz.f1
      clear hz
      go_wp2
      refine hK8 _ _ (by exact below_set2 HSG.out HBG.out _ _) ?_; clear hK8; intro hS_5_8_g hD
      refine wpAnyK_one (i := 9) (fuel := 0) (by kernel_rfl) rfl hD ?_
      clear hD; intro K9 hK9
      go_wp2
      refine hK9 _ _ (by exact hS_5_8_g) ?_; clear hK9; intro hS_5_9_g hD
      refine wpAnyK_done (by kernel_rfl) ?_ 0
      clear hD p0 p1 pf0 pf1
      have hz8 : Bx2 _ GB (.bool pb) (.string ps) 28 := Bx2.set2 (show Bx2 gw GB (.bool false) (.string ⟨#[]⟩) 28 from HZG.out)
      have hb8 := ((Below.refl W3.heap.size W3).drew).trans hS_5_9_g
      refine hK5 _ _ ?_
      obtain ⟨W8, hW8⟩ : ∃ W8, (gw.setCell ⟨GB, 0, none⟩ (.bool pb)).setCell ⟨GB, 1, none⟩ (.string ps) = W8 := ⟨_, rfl⟩
      rw [hW8] at hz8 hb8 ⊢
      clear hW8
      have HX8 := Lib.hid (HX3.out.next hb8)
      have HY8 := Lib.hid (HY3.out.next hb8)
      have HB8' := Lib.hid (HB3.out.trans (hb8.mono HB3.out.size))
      have hp8 := HP3.out.next hb8
      have HQ8 := Lib.hid (HQ3.out.next hb8)
      have HZ8 := Lib.hid hz8
      have z0 := hz8.c0
      have z1 := hz8.c1
      have x0 := hp8.c0
      have x1 := hp8.c1
      clear hb8 hz8 hp8 e0 e1
      go_wp2_with fail
      refine (HSY.out _).mono ?_
      rintro ev w9 ⟨rfl, hb9⟩
      have HX9 := Lib.hid (HX8.out.next hb9)
      have HY9 := Lib.hid (HY8.out.next hb9)
      have HB9 := Lib.hid (HB8'.out.trans (hb9.mono HB8'.out.size))
      have HQ9 := Lib.hid (HQ8.out.next hb9)
      clear hb9 z0 z1 x0 x1
      go_wp2
      obtain ⟨B15, hB15⟩ : ∃ B, w9.heap.size = B := ⟨_, rfl⟩
      obtain ⟨W10, hW10⟩ : ∃ W, w9.alloc (.cells #[.bool zb, .string zs] 28) = W := ⟨_, rfl⟩
      have hba : Below w9.heap.size w9 W10 := by rw [← hW10]; exact (Below.refl _ _).alloc (Nat.le_refl _) _
      have hz10 : Bx2 W10 B15 (.bool zb) (.string zs) 28 := by rw [← hW10, ← hB15]; exact Bx2.new _ _ _ _
      have hq10 := HQ9.out.next hba
      have HX10 := Lib.hid (HX9.out.next hba)
      have HY10 := Lib.hid (HY9.out.next hba)
      have HB10 := Lib.hid (HB9.out.trans (hba.mono HB9.out.size))
      have HLT15 := Lib.hid (show w.heap.size + 1 < B15 from by rw [← hB15]; exact HY9.out.lt)
      try rw [hW10]
      try rw [hB15]
      have HWX := Lib.hid (show Bx2 W10.drew w.heap.size (.bool false) (.string ⟨#[]⟩) 28 from HX10.out)
      have HWY := Lib.hid (show Bx2 W10.drew (w.heap.size + 1) (.bool false) (.string ⟨#[]⟩) 28 from HY10.out)
      have HS0 := Lib.hid (show Bx2 W10.drew (B11 + 1) (.bool yb) (.string ys) 28 ∧ Bx2 W10.drew B15 (.bool zb) (.string zs) 28 from ⟨hq10, hz10⟩)
      have HBD := Lib.hid (HB10.out.drew)
      clear hba hz10 hq10 hW10 hB15
      obtain ⟨wd, hwd⟩ : ∃ wd, W10.drew = wd := ⟨_, rfl⟩
      rw [hwd] at HS0 HWX HWY HBD
      have m0 := HWX.out.c0
      have m1 := HWX.out.c1
      have mf0 := HWX.out.f0
      have mf1 := HWX.out.f1
      have hy7 : Bx2 ((wd.setCell ⟨w.heap.size, 0, none⟩ (.bool yb)).setCell ⟨w.heap.size, 1, none⟩ (.string ys)) (w.heap.size + 1) (.bool false) (.string ⟨#[]⟩) 28 := bx2_off HWY.out (by omega)
      have HY7 := Lib.hid hy7
      have n0 := hy7.c0
      have n1 := hy7.c1
      have nf0 := hy7.f0
      have nf1 := hy7.f1
      clear hy7
      refine wp_region_K 6 (fun W' => Bx2 W' (B11 + 1) (.bool yb) (.string ys) 28 ∧ Bx2 W' B15 (.bool zb) (.string zs) 28) (by kernel_rfl) ?_
      intro hD
      rw [hwd]
      refine wpAnyK_pureD (i := 0) (d := some 49) (v := ?v7_0b2) (fuel := 5) rfl (by kernel_rfl) (by kernel_rfl) (fun _ _ _ h => h) hD HS0.out (.inl ⟨by kernel_rfl, ?y7_0b2⟩) ?n7_0b2
      case y7_0b2 => intro w' _; go_simp; with_reducible rfl
      clear hD; intro hD
      simp only [Act.put, sqA, sqB, sqC]
      refine wpAnyK_takeSD (i := 1) (d := some 50) (v := ?v7_1b2) (fuel := 4) rfl (by kernel_rfl) (by kernel_rfl) (by kernel_rfl) (fun _ _ _ h => h) hD HS0.out (.inl ⟨by kernel_rfl, ?y7_1b2⟩) ?n7_1b2
      case y7_1b2 => intro w' hS'; have e0 := hS'.1.c0; have e1 := hS'.1.c1; have e2 := hS'.2.c0; have e3 := hS'.2.c1; go_simp; with_reducible rfl
      clear hD; intro hD
      simp only [Act.put, sqA, sqB, sqC]
      refine wpAnyK_takeSD (i := 2) (d := some 51) (v := ?v7_2b2) (fuel := 3) rfl (by kernel_rfl) (by kernel_rfl) (by kernel_rfl) (fun _ _ _ h => h) hD HS0.out (.inl ⟨by kernel_rfl, ?y7_2b2⟩) ?n7_2b2
      case y7_2b2 => intro w' hS'; have e0 := hS'.1.c0; have e1 := hS'.1.c1; have e2 := hS'.2.c0; have e3 := hS'.2.c1; go_simp; with_reducible rfl
      clear hD; intro hD
      simp only [Act.put, sqA, sqB, sqC]
      refine wpAnyK_one (i := 3) (fuel := 2) (by kernel_rfl) rfl hD ?_
      clear hD; intro K3 hK3
      go_wp2
      refine hK3 _ _ (by exact HS0.out) ?_; clear hK3; intro hS_7_3 hD
      refine wpAnyK_one (i := 4) (fuel := 1) (by kernel_rfl) rfl hD ?_
      clear hD; intro K4 hK4
      go_wp2
      refine hK4 _ _ (by exact ⟨bx2_off (hS_7_3).1 (C := w.heap.size) (by have := HLT.out; omega), bx2_off (hS_7_3).2 (C := w.heap.size) (by have := HLT15.out; omega)⟩) ?_; clear hK4; intro hS_7_4 hD
      refine wpAnyK_one (i := 5) (fuel := 0) (by kernel_rfl) rfl hD ?_
      clear hD; intro K5 hK5
      go_wp2
      refine hK5 _ _ (by exact ⟨bx2_off (hS_7_4).1 (C := w.heap.size + 1) (by have := HLT.out; omega), bx2_off (hS_7_4).2 (C := w.heap.size + 1) (by have := HLT15.out; omega)⟩) ?_; clear hK5; intro hS_7_5 hD
      refine wpAnyK_done (by kernel_rfl) ?_ 0
      clear hD m0 m1 mf0 mf1 n0 n1 nf0 nf1
      have hx6 := bx2_off (u := .bool zb) (v := .string zs) (HWX.out.set2 (u := .bool yb) (v := .string ys)) (show w.heap.size ≠ w.heap.size + 1 by omega)
      have hy6 := HY7.out.set2 (u := .bool zb) (v := .string zs)
      have q0 := hx6.c0
      have q1 := hx6.c1
      have q2 := hy6.c0
      have q3 := hy6.c1
      go_wp2
      exact bodyPost_ret (v := .tuple #[.string g, .agg #[.bool yb, .string ys], .agg #[.bool zb, .string zs]]) (by simp [results, Tryz.results168, go_sem, q0, q1, q2, q3]) rfl (HRES.out _ (below_set2 (below_set2 HBD.out (Nat.le_refl _) _ _) (Nat.le_add_right _ _) _ _))
end Go.Proofs.YtndmjfkmnjejkaaGreatDoor

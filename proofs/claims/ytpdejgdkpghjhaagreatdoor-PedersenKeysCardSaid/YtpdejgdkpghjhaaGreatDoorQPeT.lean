/- Walks: pedersen.reduced. -/
import Derived.Test.YtpdejgdkpghjhaaGreatDoorQPeS
set_option linter.unusedVariables false
set_option linter.unusedSimpArgs false
namespace Go.Proofs.YtpdejgdkpghjhaaGreatDoor
open Go.RowKit

/-- A number modulo the order, if there is one. -/
def redZ (o : Nat) (z : Int) : Int := if o = 0 then z else ((z % o).toNat : Int)
set_option maxRecDepth 100000 in
set_option maxHeartbeats 1000000 in
theorem pk_red1 (K m : Nat) (M G H : ByteArray) (z : Int) (hm : m < 256 ^ 128) (h0 : 0 < m) (hmd : ∀ w, Calls Tryz.prog 153 #[intV z, .string (nS m)] w (Ret (.tuple #[.string (nS (z % m).toNat), .int .i64 0]) w)) (w : World) (hk : Bx4 w K (.string M) (.string (nS m)) (.string G) (.string H) 26) :
    Calls Tryz.prog 152 #[intV z, .pointer (some ⟨K, 0, none⟩)] w (Ret (intV (redZ m z)) w) := by
  have HMD := Lib.hid hmd
  have hlt : (z % m).toNat < 256 ^ 128 := by
    have := Int.emod_lt_of_pos z (show (0 : Int) < m by omega)
    have := Int.emod_nonneg z (show (m : Int) ≠ 0 by omega)
    omega
  have HFR := Lib.hid (int_From (z % m).toNat hlt)
  have hrz : redZ m z = ((z % m).toNat : Int) := by unfold redZ; rw [if_neg (by omega)]
  rw [hrz]
  obtain ⟨R, hR⟩ : ∃ R, (z % m).toNat = R := ⟨_, rfl⟩
  rw [hR] at HMD HFR ⊢
  rw [intV_nat R] at HFR ⊢
  unfold intV zV at HMD ⊢
  obtain ⟨p, hp⟩ : ∃ p, decide (z < 0) = p := ⟨_, rfl⟩
  obtain ⟨s, hs⟩ : ∃ p, nS z.natAbs = p := ⟨_, rfl⟩
  obtain ⟨t, ht⟩ : ∃ p, nS m = p := ⟨_, rfl⟩
  obtain ⟨r, hr⟩ : ∃ p, nS R = p := ⟨_, rfl⟩
  rw [hp, hs, ht, hr] at HMD
  rw [hr] at HFR
  rw [ht] at hk
  rw [hp, hs, hr]
  clear hp hs ht hr hR hrz hlt hmd hm h0
  obtain ⟨hx0, hy0, hb0⟩ := bx2_at w (.bool p) (.string s) (.bool false) (.string ⟨#[]⟩) 67
  obtain ⟨W0, hW0⟩ : ∃ W0, (w.alloc (.cells #[.bool p, .string s] 67)).alloc (.cells #[.bool false, .string ⟨#[]⟩] 67) = W0 := ⟨_, rfl⟩
  rw [hW0] at hx0 hy0 hb0
  have hk0 := hk.next hb0
  obtain ⟨k0, k1, k2, k3⟩ := hk0.cells
  have x0 := hx0.c0
  have x1 := hx0.c1
  have HY0 := Lib.hid hy0
  have HB0 := Lib.hid hb0
  clear hx0 hy0 hb0 hk0 hk
  go_enter Tryz.func152, Tryz.ntmps152
  go_wp2_with fail
  try rw [hW0]
  clear hW0
  refine (HMD.out _).mono ?_
  rintro ev w1 ⟨rfl, hb⟩
  have HY1 := Lib.hid (HY0.out.next hb)
  have HB1 := Lib.hid (HB0.out.trans (hb.mono HB0.out.size))
  clear hb k0 k1 k2 k3 x0 x1
  go_wp2_with fail
  refine (HFR.out _).mono ?_
  rintro ev w2 ⟨rfl, hb⟩
  have hy2 := HY1.out.next hb
  have HY2 := Lib.hid hy2
  have HB2 := Lib.hid (HB1.out.trans (hb.mono HB1.out.size))
  have d0 := hy2.c0
  have d1 := hy2.c1
  have f0 := hy2.f0
  have f1 := hy2.f1
  clear hb hy2
  go_wp2
  have hY := HY2.out.set2 (u := .bool false) (v := .string r)
  have q0 := hY.c0
  have q1 := hY.c1
  exact bodyPost_ret (v := .agg #[.bool false, .string r]) (by simp [results, Tryz.results152, go_sem, q0, q1]) rfl ⟨rfl, below_set2 HB2.out (Nat.le_add_right _ _) _ _⟩

theorem bx4_third (w : World) (a b c d a' b' c' d' a2 b2 c2 d2 : Value) (T T' T2 : TypeId) : Bx4 (((w.alloc (.cells #[a, b, c, d] T)).alloc (.cells #[a', b', c', d'] T')).alloc (.cells #[a2, b2, c2, d2] T2)) (w.heap.size + 1 + 1) a2 b2 c2 d2 T2 := by
  have := Bx4.new ((w.alloc (.cells #[a, b, c, d] T)).alloc (.cells #[a', b', c', d'] T')) a2 b2 c2 d2 T2
  rwa [World.size_alloc, World.size_alloc] at this
theorem below_set4 {B : Nat} {w W : World} (h : Below B w W) {C : Nat} (hC : B ≤ C) (a b c d : Value) : Below B w ((((W.setCell ⟨C, 0, none⟩ a).setCell ⟨C, 1, none⟩ b).setCell ⟨C, 2, none⟩ c).setCell ⟨C, 3, none⟩ d) :=
  (((h.setCell (p := ⟨C, 0, none⟩) hC a).setCell (p := ⟨C, 1, none⟩) hC b).setCell (p := ⟨C, 2, none⟩) hC c).setCell (p := ⟨C, 3, none⟩) hC d
set_option maxRecDepth 100000 in
set_option maxHeartbeats 2000000 in
theorem pk_reduced (o : Nat) (M G H : ByteArray) (v r : Int) (ho : o < 256 ^ 128) (hmd : 0 < o → ∀ w, Calls Tryz.prog 153 #[intV v, .string (nS o)] w (Ret (.tuple #[.string (nS (v % o).toNat), .int .i64 0]) w)) (hmd2 : 0 < o → ∀ w, Calls Tryz.prog 153 #[intV r, .string (nS o)] w (Ret (.tuple #[.string (nS (r % o).toNat), .int .i64 0]) w)) (w : World) :
    Calls Tryz.prog 98 #[kV M (nS o) G H, arV v r] w (Ret (arV (redZ o v) (redZ o r)) w) := by
  have hko := KO.new w M (nS o) G H (decide (v < 0)) (nS v.natAbs) (decide (r < 0)) (nS r.natAbs)
  have hr0 := bx4_third w (.string M) (.string (nS o)) (.string G) (.string H) (.bool (decide (v < 0))) (.string (nS v.natAbs)) (.bool (decide (r < 0))) (.string (nS r.natAbs)) (.bool false) (.string ⟨#[]⟩) (.bool false) (.string ⟨#[]⟩) 26 73 73
  have hko := hko.next ((Below.refl _ _).alloc (Nat.le_refl _) (.cells #[.bool false, .string ⟨#[]⟩, .bool false, .string ⟨#[]⟩] 73))
  rcases Nat.eq_zero_or_pos o with h0 | h0
  · subst h0
    rw [show redZ 0 v = v from rfl, show redZ 0 r = r from rfl]
    have he : (nS 0).toList.isEmpty = true := sempty_true rfl
    unfold kV arV
    obtain ⟨t, ht⟩ : ∃ t, nS 0 = t := ⟨_, rfl⟩
    obtain ⟨vb, hvb⟩ : ∃ t, decide (v < 0) = t := ⟨_, rfl⟩
    obtain ⟨vs, hvs⟩ : ∃ t, nS v.natAbs = t := ⟨_, rfl⟩
    obtain ⟨rb, hrb⟩ : ∃ t, decide (r < 0) = t := ⟨_, rfl⟩
    obtain ⟨rs, hrs⟩ : ∃ t, nS r.natAbs = t := ⟨_, rfl⟩
    rw [ht] at he
    rw [ht, hvb, hvs, hrb, hrs] at hko hr0
    rw [ht, hvb, hvs, hrb, hrs]
    clear ht hvb hvs hrb hrs hmd hmd2 ho
    obtain ⟨W0, hW0⟩ : ∃ W, ((w.alloc (.cells #[.string M, .string t, .string G, .string H] 26)).alloc (.cells #[.bool vb, .string vs, .bool rb, .string rs] 73)).alloc (.cells #[.bool false, .string ⟨#[]⟩, .bool false, .string ⟨#[]⟩] 73) = W := ⟨_, rfl⟩
    rw [hW0] at hko hr0
    obtain ⟨⟨c0, c1, c2, c3⟩, d0, d1, d2, d3⟩ := hko.cells
    obtain ⟨r0, r1, r2, r3⟩ := hr0.cells
    have f0 := hr0.free 0
    have f1 := hr0.free 1
    have f2 := hr0.free 2
    have f3 := hr0.free 3
    have HR0 := Lib.hid hr0
    have HB0 := Lib.hid hko.2.2
    clear hko hr0
    go_enter Tryz.func98, Tryz.ntmps98
    go_wp2
    try rw [hW0]
    obtain ⟨q0, q1, q2, q3⟩ := (HR0.out.set4 (a := .bool vb) (b := .string vs) (c := .bool rb) (d := .string rs)).cells
    exact bodyPost_ret (v := .agg #[.bool vb, .string vs, .bool rb, .string rs]) (by simp [results, Tryz.results98, go_sem, q0, q1, q2, q3]) rfl ⟨rfl, below_set4 HB0.out (by omega) _ _ _ _⟩
  · have he := empty_nS h0
    have HC1 := Lib.hid (fun (K : Nat) w hk => pk_red1 K o M G H v ho h0 (hmd h0) w hk)
    have HC2 := Lib.hid (fun (K : Nat) w hk => pk_red1 K o M G H r ho h0 (hmd2 h0) w hk)
    have hres : arV (redZ o v) (redZ o r) = .agg #[.bool false, .string (nS (v % o).toNat), .bool false, .string (nS (r % o).toNat)] := by
      have e1 : redZ o v = ((v % o).toNat : Int) := by unfold redZ; rw [if_neg (by omega)]
      have e2 : redZ o r = ((r % o).toNat : Int) := by unfold redZ; rw [if_neg (by omega)]
      unfold arV
      rw [e1, e2, decide_eq_false (Int.not_lt.2 (Int.natCast_nonneg _)), decide_eq_false (Int.not_lt.2 (Int.natCast_nonneg _)), Int.natAbs_natCast, Int.natAbs_natCast]
    rw [hres]
    have e1 : intV (redZ o v) = .agg #[.bool false, .string (nS (v % o).toNat)] := by rw [show redZ o v = ((v % o).toNat : Int) from by unfold redZ; rw [if_neg (by omega)], intV_nat]
    have e2 : intV (redZ o r) = .agg #[.bool false, .string (nS (r % o).toNat)] := by rw [show redZ o r = ((r % o).toNat : Int) from by unfold redZ; rw [if_neg (by omega)], intV_nat]
    rw [e1] at HC1
    rw [e2] at HC2
    unfold intV zV at HC1 HC2
    unfold kV arV
    obtain ⟨t, ht⟩ : ∃ t, nS o = t := ⟨_, rfl⟩
    obtain ⟨vb, hvb⟩ : ∃ t, decide (v < 0) = t := ⟨_, rfl⟩
    obtain ⟨vs, hvs⟩ : ∃ t, nS v.natAbs = t := ⟨_, rfl⟩
    obtain ⟨rb, hrb⟩ : ∃ t, decide (r < 0) = t := ⟨_, rfl⟩
    obtain ⟨rs, hrs⟩ : ∃ t, nS r.natAbs = t := ⟨_, rfl⟩
    obtain ⟨a1, ha1⟩ : ∃ t, nS (v % o).toNat = t := ⟨_, rfl⟩
    obtain ⟨a2, ha2⟩ : ∃ t, nS (r % o).toNat = t := ⟨_, rfl⟩
    rw [ht, hvb, hvs, ha1] at HC1
    rw [ht, hrb, hrs, ha2] at HC2
    rw [ht] at he
    rw [ht, hvb, hvs, hrb, hrs] at hko hr0
    rw [ht, hvb, hvs, hrb, hrs, ha1, ha2]
    clear ht hvb hvs hrb hrs ha1 ha2 e1 e2 hres hmd hmd2 ho h0
    obtain ⟨W0, hW0⟩ : ∃ W, ((w.alloc (.cells #[.string M, .string t, .string G, .string H] 26)).alloc (.cells #[.bool vb, .string vs, .bool rb, .string rs] 73)).alloc (.cells #[.bool false, .string ⟨#[]⟩, .bool false, .string ⟨#[]⟩] 73) = W := ⟨_, rfl⟩
    rw [hW0] at hko hr0
    obtain ⟨⟨c0, c1, c2, c3⟩, d0, d1, d2, d3⟩ := hko.cells
    have HR0 := Lib.hid hr0
    have HK0 := Lib.hid hko
    clear hko hr0
    go_enter Tryz.func98, Tryz.ntmps98
    go_wp2
    try rw [hW0]
    clear hW0
    have g0 : W0.drew.cell? ⟨w.heap.size + 1, 0, none⟩ = some (.bool vb) := d0
    have g1 : W0.drew.cell? ⟨w.heap.size + 1, 1, none⟩ = some (.string vs) := d1
    have g2 : W0.drew.cell? ⟨w.heap.size + 1, 2, none⟩ = some (.bool rb) := d2
    have g3 : W0.drew.cell? ⟨w.heap.size + 1, 3, none⟩ = some (.string rs) := d3
    clear c0 c1 c2 c3 d0 d1 d2 d3
    have HKD := Lib.hid (show Bx4 W0.drew w.heap.size (.string M) (.string t) (.string G) (.string H) 26 from HK0.out.1)
    have HRD := Lib.hid (show Bx4 W0.drew (w.heap.size + 1 + 1) (.bool false) (.string ⟨#[]⟩) (.bool false) (.string ⟨#[]⟩) 73 from HR0.out)
    have HLE := Lib.hid (show w.heap.size + 1 + 1 ≤ W0.drew.heap.size from Nat.le_of_lt HRD.out.lt)
    refine wp_region_K 10 (Below (w.heap.size + 1 + 1) W0.drew) (by kernel_rfl) ?_
    intro hD
    refine wpAnyK_pureD (i := 0) (d := some 12) (v := ?v4_0b1) (fuel := 9) rfl (by kernel_rfl) (by kernel_rfl) (fun _ _ _ h => h) hD (Below.refl _ _) (.inl ⟨by kernel_rfl, ?y4_0b1⟩) ?n4_0b1
    case y4_0b1 => intro w' _; go_simp; with_reducible rfl
    clear hD; intro hD
    simp only [Act.put, List.setIfInBounds_toArray, List.set_cons_zero, List.set_cons_succ]
    refine wpAnyK_pureD (i := 1) (d := some 13) (v := ?v4_1b1) (fuel := 8) rfl (by kernel_rfl) (by kernel_rfl) (fun _ _ _ h => h) hD (Below.refl _ _) (.inl ⟨by kernel_rfl, ?y4_1b1⟩) ?n4_1b1
    case y4_1b1 => intro w' _; go_simp; with_reducible rfl
    clear hD; intro hD
    simp only [Act.put, List.setIfInBounds_toArray, List.set_cons_zero, List.set_cons_succ]
    refine wpAnyK_takeSD (i := 2) (d := some 14) (v := ?v4_2b1) (fuel := 7) rfl (by kernel_rfl) (by kernel_rfl) (by kernel_rfl) (fun _ _ _ h => h) hD (Below.refl _ _) (.inl ⟨by kernel_rfl, ?y4_2b1⟩) ?n4_2b1
    case y4_2b1 => intro w' hS'; have e0 := below_cell hS' (by simp only []; omega) g0; have e1 := below_cell hS' (by simp only []; omega) g1; have e2 := below_cell hS' (by simp only []; omega) g2; have e3 := below_cell hS' (by simp only []; omega) g3; go_simp; with_reducible rfl
    clear hD; intro hD
    simp only [Act.put, List.setIfInBounds_toArray, List.set_cons_zero, List.set_cons_succ]
    refine wpAnyK_pureD (i := 4) (d := some 16) (v := ?v4_4b1) (fuel := 6) rfl (by kernel_rfl) (by kernel_rfl) (fun _ _ _ h => h) hD (Below.refl _ _) (.inl ⟨by kernel_rfl, ?y4_4b1⟩) ?n4_4b1
    case y4_4b1 => intro w' _; go_simp; with_reducible rfl
    clear hD; intro hD
    simp only [Act.put, List.setIfInBounds_toArray, List.set_cons_zero, List.set_cons_succ]
    refine wpAnyK_pureD (i := 5) (d := some 17) (v := ?v4_5b1) (fuel := 5) rfl (by kernel_rfl) (by kernel_rfl) (fun _ _ _ h => h) hD (Below.refl _ _) (.inl ⟨by kernel_rfl, ?y4_5b1⟩) ?n4_5b1
    case y4_5b1 => intro w' _; go_simp; with_reducible rfl
    clear hD; intro hD
    simp only [Act.put, List.setIfInBounds_toArray, List.set_cons_zero, List.set_cons_succ]
    refine wpAnyK_takeSD (i := 6) (d := some 18) (v := ?v4_6b1) (fuel := 4) rfl (by kernel_rfl) (by kernel_rfl) (by kernel_rfl) (fun _ _ _ h => h) hD (Below.refl _ _) (.inl ⟨by kernel_rfl, ?y4_6b1⟩) ?n4_6b1
    case y4_6b1 => intro w' hS'; have e0 := below_cell hS' (by simp only []; omega) g0; have e1 := below_cell hS' (by simp only []; omega) g1; have e2 := below_cell hS' (by simp only []; omega) g2; have e3 := below_cell hS' (by simp only []; omega) g3; go_simp; with_reducible rfl
    clear hD; intro hD
    simp only [Act.put, List.setIfInBounds_toArray, List.set_cons_zero, List.set_cons_succ]
    refine wpAnyK_one (i := 3) (fuel := 3) (by kernel_rfl) rfl hD ?_
    clear hD; intro K3 hK3
    go_wp2_with fail
    refine (HC1.out _ _ HKD.out).mono ?_
    rintro ev w3 ⟨rfl, hb⟩
    have HK3 := Lib.hid (HKD.out.next hb)
    have HR3 := Lib.hid (HRD.out.next hb)
    have HB3 := Lib.hid hb
    clear hb
    go_wp2
    refine hK3 _ _ (by exact HB3.out.mono HLE.out) ?_; clear hK3; intro hS_4_3 hD
    refine wpAnyK_one (i := 7) (fuel := 2) (by kernel_rfl) rfl hD ?_
    clear hD; intro K7 hK7
    go_wp2_with fail
    refine (HC2.out _ _ HK3.out).mono ?_
    rintro ev w4 ⟨rfl, hb⟩
    have HLE3 := Lib.hid (Nat.le_of_lt HR3.out.lt)
    have hr4 := HR3.out.next hb
    have HR4 := Lib.hid hr4
    have HB4 := Lib.hid hb
    obtain ⟨r0, r1, r2, r3⟩ := hr4.cells
    have f0 := hr4.free 0
    have f1 := hr4.free 1
    have f2 := hr4.free 2
    have f3 := hr4.free 3
    clear hb hr4
    go_wp2
    refine hK7 _ _ (by exact Below.trans hS_4_3 (HB4.out.mono HLE3.out)) ?_; clear hK7; intro hS_4_7 hD
    refine wpAnyK_pureD (i := 8) (d := some 20) (v := ?v4_8b1) (fuel := 1) rfl (by kernel_rfl) (by kernel_rfl) (fun _ _ _ h => h) hD hS_4_7 (.inl ⟨by kernel_rfl, ?y4_8b1⟩) ?n4_8b1
    case y4_8b1 => intro w' _; go_simp; with_reducible rfl
    clear hD; intro hD
    simp only [Act.put, List.setIfInBounds_toArray, List.set_cons_zero, List.set_cons_succ]
    refine wpAnyK_one (i := 9) (fuel := 0) (by kernel_rfl) rfl hD ?_
    clear hD; intro K9 hK9
    go_wp2
    refine hK9 _ _ (by exact below_set4 hS_4_7 (Nat.le_refl _) _ _ _ _) ?_; clear hK9; intro hS_4_9 hD
    refine wpAnyK_done (by kernel_rfl) ?_ 0
    clear hD
    obtain ⟨q0, q1, q2, q3⟩ := (HR4.out.set4 (a := .bool false) (b := .string a1) (c := .bool false) (d := .string a2)).cells
    have HBF := Lib.hid ((HK0.out.2.2.trans (((Below.refl W0.heap.size W0).drew).mono HK0.out.2.2.size)).trans (Below.mono hS_4_9 (by omega)))
    go_wp2
    exact bodyPost_ret (v := .agg #[.bool false, .string a1, .bool false, .string a2]) (by simp [results, Tryz.results98, go_sem, q0, q1, q2, q3]) rfl ⟨rfl, HBF.out⟩
end Go.Proofs.YtpdejgdkpghjhaaGreatDoor

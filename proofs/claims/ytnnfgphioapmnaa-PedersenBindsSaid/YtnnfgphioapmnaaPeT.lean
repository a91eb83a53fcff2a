/- Walks: integer.Mul, Mod, Of. -/
import Derived.Test.YtnnfgphioapmnaaPeR
set_option linter.unusedVariables false
set_option linter.unusedSimpArgs false
namespace Go.Proofs.Ytnnfgphioapmnaa
open Go.RowKit

set_option maxRecDepth 100000 in
set_option maxHeartbeats 1000000 in
theorem int_MulG (a b : Int) (ha : a.natAbs < 256 ^ 128) (hb : b.natAbs < 256 ^ 128) (hnm : ∀ w, Calls Try.prog 67 #[.string (nS a.natAbs), .string (nS b.natAbs)] w (Ret (fitR (a.natAbs * b.natAbs)) w)) (w : World) : Calls Try.prog 48 #[intV a, intV b] w (Ret (fitZ (a * b)) w) := by
  have HVA := Lib.hid (int_both a b ha hb)
  have HM := Lib.hid hnm
  obtain ⟨k, rc, hk1, hk2⟩ := fitR_cut (a.natAbs * b.natAbs)
  have hsg : sg (decide (a < 0) != decide (b < 0)) (a.natAbs * b.natAbs) = a * b := by
    unfold sg
    by_cases h1 : a < 0
    · by_cases h2 : b < 0
      · rw [decide_eq_true h1, decide_eq_true h2, if_neg (by decide), Int.natCast_mul, Int.ofNat_natAbs_of_nonpos (by omega), Int.ofNat_natAbs_of_nonpos (by omega), Int.neg_mul_neg]
      · rw [decide_eq_true h1, decide_eq_false h2, if_pos (by decide), Int.natCast_mul, Int.ofNat_natAbs_of_nonpos (by omega), Int.natAbs_of_nonneg (by omega), Int.neg_mul, Int.neg_neg]
    · by_cases h2 : b < 0
      · rw [decide_eq_false h1, decide_eq_true h2, if_pos (by decide), Int.natCast_mul, Int.natAbs_of_nonneg (by omega), Int.ofNat_natAbs_of_nonpos (by omega), Int.mul_neg, Int.neg_neg]
      · rw [decide_eq_false h1, decide_eq_false h2, if_neg (by decide), Int.natCast_mul, Int.natAbs_of_nonneg (by omega), Int.natAbs_of_nonneg (by omega)]
  rw [hk2 (a * b) _ (Int.natAbs_mul a b) hsg]
  rw [hk1] at HM
  have HMK := Lib.hid (int_made_n (decide (a < 0) != decide (b < 0)) k)
  unfold intV zV at HVA
  obtain ⟨p, hp⟩ : ∃ p, decide (a < 0) = p := ⟨_, rfl⟩
  obtain ⟨q, hq⟩ : ∃ q, decide (b < 0) = q := ⟨_, rfl⟩
  obtain ⟨s, hs⟩ : ∃ s, nS a.natAbs = s := ⟨_, rfl⟩
  obtain ⟨t, ht⟩ : ∃ t, nS b.natAbs = t := ⟨_, rfl⟩
  rw [hp, hs, hq, ht] at HVA
  rw [show intV a = .agg #[.bool p, .string s] from by rw [← hp, ← hs]; rfl, show intV b = .agg #[.bool q, .string t] from by rw [← hq, ← ht]; rfl]
  rw [hp, hq] at HMK
  rw [hp, hq]
  rw [hs, ht] at HM
  obtain ⟨kk, hkk⟩ : ∃ kk, nS k = kk := ⟨_, rfl⟩
  rw [hkk] at HM HMK
  unfold intV zV at HMK ⊢
  obtain ⟨u, hu⟩ : ∃ u, decide (sg (p != q) k < 0) = u := ⟨_, rfl⟩
  obtain ⟨v, hv⟩ : ∃ v, nS (sg (p != q) k).natAbs = v := ⟨_, rfl⟩
  rw [hu, hv] at HMK ⊢
  clear hnm hp hq hs ht hkk hu hv hk1 hk2 hsg ha hb
  go_enter Try.func48, Try.ntmps48
  have hi := I3.new w (.bool p) (.string s) (.bool q) (.string t) (.bool false) (.string ⟨#[]⟩)
  obtain ⟨W0, hW0⟩ : ∃ W0, ((w.alloc (.cells #[.bool p, .string s] 38)).alloc (.cells #[.bool q, .string t] 38)).alloc (.cells #[.bool false, .string ⟨#[]⟩] 38) = W0 := ⟨_, rfl⟩
  rw [hW0] at hi
  have HI := Lib.hid hi
  obtain ⟨c0, c1, d0, d1, e0, e1, f0, f1⟩ := hi.cells
  clear hi
  go_wp2_with fail
  try rw [hW0]
  clear hW0
  refine (HVA.out _).mono ?_
  rintro ev w1 ⟨rfl, hb⟩
  have hi := HI.out.next hb
  have HI := Lib.hid hi
  clear hb c0 c1 d0 d1 e0 e1 f0 f1
  obtain ⟨c0, c1, d0, d1, e0, e1, f0, f1⟩ := hi.cells
  clear hi
  go_wp2_with fail
  refine (HM.out _).mono ?_
  rintro ev w3 ⟨rfl, hb⟩
  have hi := HI.out.next hb
  have HI := Lib.hid hi
  clear hb c0 c1 d0 d1 e0 e1 f0 f1
  obtain ⟨c0, c1, d0, d1, e0, e1, f0, f1⟩ := hi.cells
  clear hi
  go_wp2_with fail
  refine (HMK.out _).mono ?_
  rintro ev w4 ⟨rfl, hb⟩
  have hi := HI.out.next hb
  have HI := Lib.hid hi
  clear hb c0 c1 d0 d1 e0 e1 f0 f1
  obtain ⟨c0, c1, d0, d1, e0, e1, f0, f1⟩ := hi.cells
  clear hi
  go_wp2
  obtain ⟨q0, q1, qb⟩ := HI.out.done (.bool u) (.string v)
  exact bodyPost_ret (v := .tuple #[.agg #[.bool u, .string v], .int .i64 rc]) (by simp [results, Try.results48, go_sem, q0, q1]) rfl ⟨rfl, qb⟩

set_option maxRecDepth 100000 in
set_option maxHeartbeats 1000000 in
theorem int_ModG (z : Int) (m : Nat) (hz : z.natAbs < 256 ^ 128) (hm : m < 256 ^ 128) (h0 : 0 < m) (hdm : ∀ w, Calls Try.prog 40 #[.string (nS z.natAbs), .string (nS m)] w (Ret (.tuple #[.string (nS (z.natAbs / m)), .string (nS (z.natAbs % m)), .int .i64 0]) w)) (w : World) : Calls Try.prog 18 #[intV z, .string (nS m)] w (Ret (.tuple #[.string (nS (z % m).toNat), .int .i64 0]) w) := by
  have HVZ := Lib.hid (int_Valid_n z hz)
  have HVM := Lib.hid (nat_Valid (nS m) (nS_size63 hm))
  rw [nvalid_nS.2 hm] at HVM
  have HDM := Lib.hid hdm
  have hrr : z.natAbs % m < 256 ^ 128 := Nat.lt_trans (Nat.mod_lt _ h0) hm
  have HSB := Lib.hid (nat_Sub_ge m (z.natAbs % m) hm hrr (Nat.le_of_lt (Nat.mod_lt _ h0)))
  have hem := empty_nS h0
  unfold intV zV at *
  have HB0 := Lib.hid ((Below.refl w.heap.size w).alloc (Nat.le_refl _) (.cells #[.bool (decide (z < 0)), .string (nS z.natAbs)] 38))
  have HX0 := Lib.hid (Bx2.new w (.bool (decide (z < 0))) (.string (nS z.natAbs)) 38)
  obtain ⟨t, ht⟩ : ∃ t, nS m = t := ⟨_, rfl⟩
  obtain ⟨s, hs⟩ : ∃ s, nS z.natAbs = s := ⟨_, rfl⟩
  obtain ⟨q, hq⟩ : ∃ q, nS (z.natAbs / m) = q := ⟨_, rfl⟩
  by_cases hneg : z < 0
  · have hd : decide (z < 0) = true := decide_eq_true hneg
    by_cases hr : z.natAbs % m = 0
    · have HRR := Lib.hid (emod_of_zero hr)
      rw [hr, nS_zero] at HDM
      rw [HRR.out, nS_zero]
      rw [ht, hs, hq] at HDM
      rw [ht] at HVM hem
      rw [hs, hd] at HVZ HB0 HX0
      rw [hs, hd, ht]
      clear ht hs hq hd hneg hr HSB hrr hz hm h0 hdm
      go_enter Try.func18, Try.ntmps18
      go_wp2_with fail
      refine (HVZ.out _).mono ?_
      rintro ev w1 ⟨rfl, hb⟩
      have HB1 := Lib.hid (HB0.out.trans (hb.mono HB0.out.size))
      have hx := HX0.out.next hb
      have c0 := hx.c0
      have c1 := hx.c1
      have HX1 := Lib.hid hx
      clear hb hx
      go_wp2_with fail
      refine (HVM.out _).mono ?_
      rintro ev w2 ⟨rfl, rfl⟩
      go_wp2_with fail
      refine (HDM.out _).mono ?_
      rintro ev w2 ⟨rfl, hb⟩
      have HB2 := Lib.hid (HB1.out.trans (hb.mono HB1.out.size))
      have hx := HX1.out.next hb
      clear c0 c1
      have c0 := hx.c0
      have c1 := hx.c1
      clear hb hx
      go_wp2
      go_ret2
      exact ⟨rfl, HB2.out⟩
    · have HRR := Lib.hid (emod_of_neg h0 hneg (by omega))
      have her := empty_nS (n := z.natAbs % m) (by omega)
      rw [HRR.out]
      obtain ⟨r, hr'⟩ : ∃ r, nS (z.natAbs % m) = r := ⟨_, rfl⟩
      obtain ⟨r2, hr2⟩ : ∃ r, nS (m - z.natAbs % m) = r := ⟨_, rfl⟩
      rw [ht, hs, hq, hr'] at HDM
      rw [ht, hr', hr2] at HSB
      rw [hr'] at her
      rw [ht] at HVM hem
      rw [hs, hd] at HVZ HB0 HX0
      rw [hs, hd, ht, hr2]
      clear ht hs hq hd hneg hr hr' hr2 hrr hz hm h0 hdm HRR
      go_enter Try.func18, Try.ntmps18
      go_wp2_with fail
      refine (HVZ.out _).mono ?_
      rintro ev w1 ⟨rfl, hb⟩
      have HB1 := Lib.hid (HB0.out.trans (hb.mono HB0.out.size))
      have hx := HX0.out.next hb
      have c0 := hx.c0
      have c1 := hx.c1
      have HX1 := Lib.hid hx
      clear hb hx
      go_wp2_with fail
      refine (HVM.out _).mono ?_
      rintro ev w2 ⟨rfl, rfl⟩
      go_wp2_with fail
      refine (HDM.out _).mono ?_
      rintro ev w2 ⟨rfl, hb⟩
      have HB2 := Lib.hid (HB1.out.trans (hb.mono HB1.out.size))
      have hx := HX1.out.next hb
      clear c0 c1
      have c0 := hx.c0
      have c1 := hx.c1
      clear hb hx
      go_wp2_with fail
      refine (HSB.out _).mono ?_
      rintro ev w3 ⟨rfl, hb⟩
      have HB3 := Lib.hid (HB2.out.trans (hb.mono HB2.out.size))
      clear hb
      go_wp2
      go_ret2
      exact ⟨rfl, HB3.out⟩
  · have hd : decide (z < 0) = false := decide_eq_false hneg
    have HRR := Lib.hid (emod_of_pos (z := z) (m := m) (by omega))
    rw [HRR.out]
    obtain ⟨r, hr'⟩ : ∃ r, nS (z.natAbs % m) = r := ⟨_, rfl⟩
    rw [ht, hs, hq, hr'] at HDM
    rw [ht] at HVM hem
    rw [hs, hd] at HVZ HB0 HX0
    rw [hs, hd, ht, hr']
    clear ht hs hq hd hneg hr' hrr HSB hz hm h0 hdm HRR
    go_enter Try.func18, Try.ntmps18
    go_wp2_with fail
    refine (HVZ.out _).mono ?_
    rintro ev w1 ⟨rfl, hb⟩
    have HB1 := Lib.hid (HB0.out.trans (hb.mono HB0.out.size))
    have hx := HX0.out.next hb
    have c0 := hx.c0
    have c1 := hx.c1
    have HX1 := Lib.hid hx
    clear hb hx
    go_wp2_with fail
    refine (HVM.out _).mono ?_
    rintro ev w2 ⟨rfl, rfl⟩
    go_wp2_with fail
    refine (HDM.out _).mono ?_
    rintro ev w2 ⟨rfl, hb⟩
    have HB2 := Lib.hid (HB1.out.trans (hb.mono HB1.out.size))
    have hx := HX1.out.next hb
    clear c0 c1
    have c0 := hx.c0
    have c1 := hx.c1
    clear hb hx
    go_wp2
    go_ret2
    exact ⟨rfl, HB2.out⟩
set_option maxRecDepth 100000 in
theorem int_Of_m3 (w : World) : Calls Try.prog 11 #[.int .i64 (-3)] w (Ret (intV (-3)) w) := by
  have HO := Lib.hid (nat_Of 3 (by decide))
  have HM := Lib.hid (int_made_n true 3)
  rw [show sg true 3 = (-3 : Int) from rfl] at HM
  have HO' := Lib.hid (fun w => show Calls Try.prog 12 #[.int .u64 3] w (Ret (.string (nS 3)) w) from HO.out w)
  have HB0 := Lib.hid ((Below.refl w.heap.size w).alloc (Nat.le_refl _) (.cells #[.bool false, .string ⟨#[]⟩] 38))
  have HX0 := Lib.hid (Bx2.new w (.bool false) (.string ⟨#[]⟩) 38)
  unfold intV zV at HM ⊢
  obtain ⟨s, hs⟩ : ∃ s, nS 3 = s := ⟨_, rfl⟩
  obtain ⟨u, hu⟩ : ∃ u, decide ((-3 : Int) < 0) = u := ⟨_, rfl⟩
  obtain ⟨v, hv⟩ : ∃ v, nS ((-3 : Int)).natAbs = v := ⟨_, rfl⟩
  rw [hs] at HO' HM
  rw [hu, hv] at HM ⊢
  clear hs hv HO hu
  go_enter Try.func11, Try.ntmps11
  go_wp2_with fail
  refine (HO'.out _).mono ?_
  rintro e w1 ⟨rfl, hb1⟩
  have HX1 := Lib.hid (HX0.out.next hb1)
  have HB1 := Lib.hid (HB0.out.trans (hb1.mono HB0.out.size))
  clear hb1
  go_wp2_with fail
  refine (HM.out _).mono ?_
  rintro e w2 ⟨rfl, hb2⟩
  have hX := HX1.out.next hb2
  have HX2 := Lib.hid hX
  have HB2 := Lib.hid (HB1.out.trans (hb2.mono HB1.out.size))
  have c0 := hX.c0
  have c1 := hX.c1
  have f0 := hX.f0
  have f1 := hX.f1
  clear hb2 hX
  go_wp2
  have hY := HX2.out.set2 (u := .bool u) (v := .string v)
  have q0 := hY.c0
  have q1 := hY.c1
  exact bodyPost_ret (v := .agg #[.bool u, .string v]) (by simp [results, Try.results11, go_sem, q0, q1]) rfl ⟨rfl, (HB2.out.setCell (p := ⟨w.heap.size, 0, none⟩) (Nat.le_refl _) _).setCell (p := ⟨w.heap.size, 1, none⟩) (Nat.le_refl _) _⟩
end Go.Proofs.Ytnnfgphioapmnaa
/- Walks: pedersen.reduced. -/
set_option linter.unusedVariables false
set_option linter.unusedSimpArgs false
namespace Go.Proofs.Ytnnfgphioapmnaa
open Go.RowKit

/-- A number modulo the order, if there is one. -/
def redZ (o : Nat) (z : Int) : Int := if o = 0 then z else ((z % o).toNat : Int)
set_option maxRecDepth 100000 in
set_option maxHeartbeats 1000000 in
theorem pk_red1 (K m : Nat) (M G H : ByteArray) (z : Int) (hm : m < 256 ^ 128) (h0 : 0 < m) (hmd : ∀ w, Calls Try.prog 18 #[intV z, .string (nS m)] w (Ret (.tuple #[.string (nS (z % m).toNat), .int .i64 0]) w)) (w : World) (hk : Bx4 w K (.string M) (.string (nS m)) (.string G) (.string H) 26) :
    Calls Try.prog 66 #[intV z, .pointer (some ⟨K, 0, none⟩)] w (Ret (intV (redZ m z)) w) := by
  have HMD := Lib.hid hmd
  have hlt : (z % m).toNat < 256 ^ 128 := by
    have := Int.emod_lt_of_pos z (show (0 : Int) < m by omega)
    have := Int.emod_nonneg z (show (m : Int) ≠ 0 by omega)
    omega
  have HFR := Lib.hid (int_From (z % m).toNat hlt)
  have hrz : redZ m z = ((z % m).toNat : Int) := by unfold redZ; rw [if_neg (by omega)]
  rw [hrz]
  obtain ⟨R, hR⟩ : ∃ R, (z % m).toNat = R := ⟨_, rfl⟩
  rw [hR] at HMD HFR ⊢
  rw [intV_nat R] at HFR ⊢
  unfold intV zV at HMD ⊢
  obtain ⟨p, hp⟩ : ∃ p, decide (z < 0) = p := ⟨_, rfl⟩
  obtain ⟨s, hs⟩ : ∃ p, nS z.natAbs = p := ⟨_, rfl⟩
  obtain ⟨t, ht⟩ : ∃ p, nS m = p := ⟨_, rfl⟩
  obtain ⟨r, hr⟩ : ∃ p, nS R = p := ⟨_, rfl⟩
  rw [hp, hs, ht, hr] at HMD
  rw [hr] at HFR
  rw [ht] at hk
  rw [hp, hs, hr]
  clear hp hs ht hr hR hrz hlt hmd hm h0
  obtain ⟨hx0, hy0, hb0⟩ := bx2_at w (.bool p) (.string s) (.bool false) (.string ⟨#[]⟩) 38
  obtain ⟨W0, hW0⟩ : ∃ W0, (w.alloc (.cells #[.bool p, .string s] 38)).alloc (.cells #[.bool false, .string ⟨#[]⟩] 38) = W0 := ⟨_, rfl⟩
  rw [hW0] at hx0 hy0 hb0
  have hk0 := hk.next hb0
  obtain ⟨k0, k1, k2, k3⟩ := hk0.cells
  have x0 := hx0.c0
  have x1 := hx0.c1
  have HY0 := Lib.hid hy0
  have HB0 := Lib.hid hb0
  clear hx0 hy0 hb0 hk0 hk
  go_enter Try.func66, Try.ntmps66
  go_wp2_with fail
  try rw [hW0]
  clear hW0
  refine (HMD.out _).mono ?_
  rintro ev w1 ⟨rfl, hb⟩
  have HY1 := Lib.hid (HY0.out.next hb)
  have HB1 := Lib.hid (HB0.out.trans (hb.mono HB0.out.size))
  clear hb k0 k1 k2 k3 x0 x1
  go_wp2_with fail
  refine (HFR.out _).mono ?_
  rintro ev w2 ⟨rfl, hb⟩
  have hy2 := HY1.out.next hb
  have HY2 := Lib.hid hy2
  have HB2 := Lib.hid (HB1.out.trans (hb.mono HB1.out.size))
  have d0 := hy2.c0
  have d1 := hy2.c1
  have f0 := hy2.f0
  have f1 := hy2.f1
  clear hb hy2
  go_wp2
  have hY := HY2.out.set2 (u := .bool false) (v := .string r)
  have q0 := hY.c0
  have q1 := hY.c1
  exact bodyPost_ret (v := .agg #[.bool false, .string r]) (by simp [results, Try.results66, go_sem, q0, q1]) rfl ⟨rfl, below_set2 HB2.out (Nat.le_add_right _ _) _ _⟩

theorem bx4_third (w : World) (a b c d a' b' c' d' a2 b2 c2 d2 : Value) (T T' T2 : TypeId) : Bx4 (((w.alloc (.cells #[a, b, c, d] T)).alloc (.cells #[a', b', c', d'] T')).alloc (.cells #[a2, b2, c2, d2] T2)) (w.heap.size + 1 + 1) a2 b2 c2 d2 T2 := by
  have := Bx4.new ((w.alloc (.cells #[a, b, c, d] T)).alloc (.cells #[a', b', c', d'] T')) a2 b2 c2 d2 T2
  rwa [World.size_alloc, World.size_alloc] at this
theorem below_set4 {B : Nat} {w W : World} (h : Below B w W) {C : Nat} (hC : B ≤ C) (a b c d : Value) : Below B w ((((W.setCell ⟨C, 0, none⟩ a).setCell ⟨C, 1, none⟩ b).setCell ⟨C, 2, none⟩ c).setCell ⟨C, 3, none⟩ d) :=
  (((h.setCell (p := ⟨C, 0, none⟩) hC a).setCell (p := ⟨C, 1, none⟩) hC b).setCell (p := ⟨C, 2, none⟩) hC c).setCell (p := ⟨C, 3, none⟩) hC d
set_option maxRecDepth 100000 in
set_option maxHeartbeats 2000000 in
theorem pk_reduced (o : Nat) (M G H : ByteArray) (v r : Int) (ho : o < 256 ^ 128) (hmd : 0 < o → ∀ w, Calls Try.prog 18 #[intV v, .string (nS o)] w (Ret (.tuple #[.string (nS (v % o).toNat), .int .i64 0]) w)) (hmd2 : 0 < o → ∀ w, Calls Try.prog 18 #[intV r, .string (nS o)] w (Ret (.tuple #[.string (nS (r % o).toNat), .int .i64 0]) w)) (w : World) :
    Calls Try.prog 47 #[kV M (nS o) G H, arV v r] w (Ret (arV (redZ o v) (redZ o r)) w) := by
  have hko := KO.new w M (nS o) G H (decide (v < 0)) (nS v.natAbs) (decide (r < 0)) (nS r.natAbs)
  have hr0 := bx4_third w (.string M) (.string (nS o)) (.string G) (.string H) (.bool (decide (v < 0))) (.string (nS v.natAbs)) (.bool (decide (r < 0))) (.string (nS r.natAbs)) (.bool false) (.string ⟨#[]⟩) (.bool false) (.string ⟨#[]⟩) 26 43 43
  have hko := hko.next ((Below.refl _ _).alloc (Nat.le_refl _) (.cells #[.bool false, .string ⟨#[]⟩, .bool false, .string ⟨#[]⟩] 43))
  rcases Nat.eq_zero_or_pos o with h0 | h0
  · subst h0
    rw [show redZ 0 v = v from rfl, show redZ 0 r = r from rfl]
    have he : (nS 0).toList.isEmpty = true := sempty_true rfl
    unfold kV arV
    obtain ⟨t, ht⟩ : ∃ t, nS 0 = t := ⟨_, rfl⟩
    obtain ⟨vb, hvb⟩ : ∃ t, decide (v < 0) = t := ⟨_, rfl⟩
    obtain ⟨vs, hvs⟩ : ∃ t, nS v.natAbs = t := ⟨_, rfl⟩
    obtain ⟨rb, hrb⟩ : ∃ t, decide (r < 0) = t := ⟨_, rfl⟩
    obtain ⟨rs, hrs⟩ : ∃ t, nS r.natAbs = t := ⟨_, rfl⟩
    rw [ht] at he
    rw [ht, hvb, hvs, hrb, hrs] at hko hr0
    rw [ht, hvb, hvs, hrb, hrs]
    clear ht hvb hvs hrb hrs hmd hmd2 ho
    obtain ⟨W0, hW0⟩ : ∃ W, ((w.alloc (.cells #[.string M, .string t, .string G, .string H] 26)).alloc (.cells #[.bool vb, .string vs, .bool rb, .string rs] 43)).alloc (.cells #[.bool false, .string ⟨#[]⟩, .bool false, .string ⟨#[]⟩] 43) = W := ⟨_, rfl⟩
    rw [hW0] at hko hr0
    obtain ⟨⟨c0, c1, c2, c3⟩, d0, d1, d2, d3⟩ := hko.cells
    obtain ⟨r0, r1, r2, r3⟩ := hr0.cells
    have f0 := hr0.free 0
    have f1 := hr0.free 1
    have f2 := hr0.free 2
    have f3 := hr0.free 3
    have HR0 := Lib.hid hr0
    have HB0 := Lib.hid hko.2.2
    clear hko hr0
    go_enter Try.func47, Try.ntmps47
    go_wp2
    try rw [hW0]
    obtain ⟨q0, q1, q2, q3⟩ := (HR0.out.set4 (a := .bool vb) (b := .string vs) (c := .bool rb) (d := .string rs)).cells
    exact bodyPost_ret (v := .agg #[.bool vb, .string vs, .bool rb, .string rs]) (by simp [results, Try.results47, go_sem, q0, q1, q2, q3]) rfl ⟨rfl, below_set4 HB0.out (by omega) _ _ _ _⟩
  · have he := empty_nS h0
    have HC1 := Lib.hid (fun (K : Nat) w hk => pk_red1 K o M G H v ho h0 (hmd h0) w hk)
    have HC2 := Lib.hid (fun (K : Nat) w hk => pk_red1 K o M G H r ho h0 (hmd2 h0) w hk)
    have hres : arV (redZ o v) (redZ o r) = .agg #[.bool false, .string (nS (v % o).toNat), .bool false, .string (nS (r % o).toNat)] := by
      have e1 : redZ o v = ((v % o).toNat : Int) := by unfold redZ; rw [if_neg (by omega)]
      have e2 : redZ o r = ((r % o).toNat : Int) := by unfold redZ; rw [if_neg (by omega)]
      unfold arV
      rw [e1, e2, decide_eq_false (Int.not_lt.2 (Int.natCast_nonneg _)), decide_eq_false (Int.not_lt.2 (Int.natCast_nonneg _)), Int.natAbs_natCast, Int.natAbs_natCast]
    rw [hres]
    have e1 : intV (redZ o v) = .agg #[.bool false, .string (nS (v % o).toNat)] := by rw [show redZ o v = ((v % o).toNat : Int) from by unfold redZ; rw [if_neg (by omega)], intV_nat]
    have e2 : intV (redZ o r) = .agg #[.bool false, .string (nS (r % o).toNat)] := by rw [show redZ o r = ((r % o).toNat : Int) from by unfold redZ; rw [if_neg (by omega)], intV_nat]
    rw [e1] at HC1
    rw [e2] at HC2
    unfold intV zV at HC1 HC2
    unfold kV arV
    obtain ⟨t, ht⟩ : ∃ t, nS o = t := ⟨_, rfl⟩
    obtain ⟨vb, hvb⟩ : ∃ t, decide (v < 0) = t := ⟨_, rfl⟩
    obtain ⟨vs, hvs⟩ : ∃ t, nS v.natAbs = t := ⟨_, rfl⟩
    obtain ⟨rb, hrb⟩ : ∃ t, decide (r < 0) = t := ⟨_, rfl⟩
    obtain ⟨rs, hrs⟩ : ∃ t, nS r.natAbs = t := ⟨_, rfl⟩
    obtain ⟨a1, ha1⟩ : ∃ t, nS (v % o).toNat = t := ⟨_, rfl⟩
    obtain ⟨a2, ha2⟩ : ∃ t, nS (r % o).toNat = t := ⟨_, rfl⟩
    rw [ht, hvb, hvs, ha1] at HC1
    rw [ht, hrb, hrs, ha2] at HC2
    rw [ht] at he
    rw [ht, hvb, hvs, hrb, hrs] at hko hr0
    rw [ht, hvb, hvs, hrb, hrs, ha1, ha2]
    clear ht hvb hvs hrb hrs ha1 ha2 e1 e2 hres hmd hmd2 ho h0
    obtain ⟨W0, hW0⟩ : ∃ W, ((w.alloc (.cells #[.string M, .string t, .string G, .string H] 26)).alloc (.cells #[.bool vb, .string vs, .bool rb, .string rs] 43)).alloc (.cells #[.bool false, .string ⟨#[]⟩, .bool false, .string ⟨#[]⟩] 43) = W := ⟨_, rfl⟩
    rw [hW0] at hko hr0
    obtain ⟨⟨c0, c1, c2, c3⟩, d0, d1, d2, d3⟩ := hko.cells
    have HR0 := Lib.hid hr0
    have HK0 := Lib.hid hko
    clear hko hr0
    go_enter Try.func47, Try.ntmps47
    go_wp2
    try rw [hW0]
    clear hW0
    have g0 : W0.drew.cell? ⟨w.heap.size + 1, 0, none⟩ = some (.bool vb) := d0
    have g1 : W0.drew.cell? ⟨w.heap.size + 1, 1, none⟩ = some (.string vs) := d1
    have g2 : W0.drew.cell? ⟨w.heap.size + 1, 2, none⟩ = some (.bool rb) := d2
    have g3 : W0.drew.cell? ⟨w.heap.size + 1, 3, none⟩ = some (.string rs) := d3
    clear c0 c1 c2 c3 d0 d1 d2 d3
    have HKD := Lib.hid (show Bx4 W0.drew w.heap.size (.string M) (.string t) (.string G) (.string H) 26 from HK0.out.1)
    have HRD := Lib.hid (show Bx4 W0.drew (w.heap.size + 1 + 1) (.bool false) (.string ⟨#[]⟩) (.bool false) (.string ⟨#[]⟩) 43 from HR0.out)
    have HLE := Lib.hid (show w.heap.size + 1 + 1 ≤ W0.drew.heap.size from Nat.le_of_lt HRD.out.lt)
    refine wp_region_K 10 (Below (w.heap.size + 1 + 1) W0.drew) (by kernel_rfl) ?_
    intro hD
    refine wpAnyK_pureD (i := 0) (d := some 12) (v := ?v4_0b1) (fuel := 9) rfl (by kernel_rfl) (by kernel_rfl) (fun _ _ _ h => h) hD (Below.refl _ _) (.inl ⟨by kernel_rfl, ?y4_0b1⟩) ?n4_0b1
    case y4_0b1 => intro w' _; go_simp; with_reducible rfl
    clear hD; intro hD
    simp only [Act.put, List.setIfInBounds_toArray, List.set_cons_zero, List.set_cons_succ]
    refine wpAnyK_pureD (i := 1) (d := some 13) (v := ?v4_1b1) (fuel := 8) rfl (by kernel_rfl) (by kernel_rfl) (fun _ _ _ h => h) hD (Below.refl _ _) (.inl ⟨by kernel_rfl, ?y4_1b1⟩) ?n4_1b1
    case y4_1b1 => intro w' _; go_simp; with_reducible rfl
    clear hD; intro hD
    simp only [Act.put, List.setIfInBounds_toArray, List.set_cons_zero, List.set_cons_succ]
    refine wpAnyK_takeSD (i := 2) (d := some 14) (v := ?v4_2b1) (fuel := 7) rfl (by kernel_rfl) (by kernel_rfl) (by kernel_rfl) (fun _ _ _ h => h) hD (Below.refl _ _) (.inl ⟨by kernel_rfl, ?y4_2b1⟩) ?n4_2b1
    case y4_2b1 => intro w' hS'; have e0 := below_cell hS' (by simp only []; omega) g0; have e1 := below_cell hS' (by simp only []; omega) g1; have e2 := below_cell hS' (by simp only []; omega) g2; have e3 := below_cell hS' (by simp only []; omega) g3; go_simp; with_reducible rfl
    clear hD; intro hD
    simp only [Act.put, List.setIfInBounds_toArray, List.set_cons_zero, List.set_cons_succ]
    refine wpAnyK_pureD (i := 4) (d := some 16) (v := ?v4_4b1) (fuel := 6) rfl (by kernel_rfl) (by kernel_rfl) (fun _ _ _ h => h) hD (Below.refl _ _) (.inl ⟨by kernel_rfl, ?y4_4b1⟩) ?n4_4b1
    case y4_4b1 => intro w' _; go_simp; with_reducible rfl
    clear hD; intro hD
    simp only [Act.put, List.setIfInBounds_toArray, List.set_cons_zero, List.set_cons_succ]
    refine wpAnyK_pureD (i := 5) (d := some 17) (v := ?v4_5b1) (fuel := 5) rfl (by kernel_rfl) (by kernel_rfl) (fun _ _ _ h => h) hD (Below.refl _ _) (.inl ⟨by kernel_rfl, ?y4_5b1⟩) ?n4_5b1
    case y4_5b1 => intro w' _; go_simp; with_reducible rfl
    clear hD; intro hD
    simp only [Act.put, List.setIfInBounds_toArray, List.set_cons_zero, List.set_cons_succ]
    refine wpAnyK_takeSD (i := 6) (d := some 18) (v := ?v4_6b1) (fuel := 4) rfl (by kernel_rfl) (by kernel_rfl) (by kernel_rfl) (fun _ _ _ h => h) hD (Below.refl _ _) (.inl ⟨by kernel_rfl, ?y4_6b1⟩) ?n4_6b1
    case y4_6b1 => intro w' hS'; have e0 := below_cell hS' (by simp only []; omega) g0; have e1 := below_cell hS' (by simp only []; omega) g1; have e2 := below_cell hS' (by simp only []; omega) g2; have e3 := below_cell hS' (by simp only []; omega) g3; go_simp; with_reducible rfl
    clear hD; intro hD
    simp only [Act.put, List.setIfInBounds_toArray, List.set_cons_zero, List.set_cons_succ]
    refine wpAnyK_one (i := 3) (fuel := 3) (by kernel_rfl) rfl hD ?_
    clear hD; intro K3 hK3
    go_wp2_with fail
    refine (HC1.out _ _ HKD.out).mono ?_
    rintro ev w3 ⟨rfl, hb⟩
    have HK3 := Lib.hid (HKD.out.next hb)
    have HR3 := Lib.hid (HRD.out.next hb)
    have HB3 := Lib.hid hb
    clear hb
    go_wp2
    refine hK3 _ _ (by exact HB3.out.mono HLE.out) ?_; clear hK3; intro hS_4_3 hD
    refine wpAnyK_one (i := 7) (fuel := 2) (by kernel_rfl) rfl hD ?_
    clear hD; intro K7 hK7
    go_wp2_with fail
    refine (HC2.out _ _ HK3.out).mono ?_
    rintro ev w4 ⟨rfl, hb⟩
    have HLE3 := Lib.hid (Nat.le_of_lt HR3.out.lt)
    have hr4 := HR3.out.next hb
    have HR4 := Lib.hid hr4
    have HB4 := Lib.hid hb
    obtain ⟨r0, r1, r2, r3⟩ := hr4.cells
    have f0 := hr4.free 0
    have f1 := hr4.free 1
    have f2 := hr4.free 2
    have f3 := hr4.free 3
    clear hb hr4
    go_wp2
    refine hK7 _ _ (by exact Below.trans hS_4_3 (HB4.out.mono HLE3.out)) ?_; clear hK7; intro hS_4_7 hD
    refine wpAnyK_pureD (i := 8) (d := some 20) (v := ?v4_8b1) (fuel := 1) rfl (by kernel_rfl) (by kernel_rfl) (fun _ _ _ h => h) hD hS_4_7 (.inl ⟨by kernel_rfl, ?y4_8b1⟩) ?n4_8b1
    case y4_8b1 => intro w' _; go_simp; with_reducible rfl
    clear hD; intro hD
    simp only [Act.put, List.setIfInBounds_toArray, List.set_cons_zero, List.set_cons_succ]
    refine wpAnyK_one (i := 9) (fuel := 0) (by kernel_rfl) rfl hD ?_
    clear hD; intro K9 hK9
    go_wp2
    refine hK9 _ _ (by exact below_set4 hS_4_7 (Nat.le_refl _) _ _ _ _) ?_; clear hK9; intro hS_4_9 hD
    refine wpAnyK_done (by kernel_rfl) ?_ 0
    clear hD
    obtain ⟨q0, q1, q2, q3⟩ := (HR4.out.set4 (a := .bool false) (b := .string a1) (c := .bool false) (d := .string a2)).cells
    have HBF := Lib.hid ((HK0.out.2.2.trans (((Below.refl W0.heap.size W0).drew).mono HK0.out.2.2.size)).trans (Below.mono hS_4_9 (by omega)))
    go_wp2
    exact bodyPost_ret (v := .agg #[.bool false, .string a1, .bool false, .string a2]) (by simp [results, Try.results47, go_sem, q0, q1, q2, q3]) rfl ⟨rfl, HBF.out⟩
end Go.Proofs.Ytnnfgphioapmnaa

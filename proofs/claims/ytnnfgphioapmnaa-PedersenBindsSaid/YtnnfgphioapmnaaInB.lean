/- Walks: natural.Mul of short numbers; integer.Add, Sub, Mul. -/
import Derived.Test.YtnnfgphioapmnaaInt
set_option linter.unusedVariables false
set_option linter.unusedSimpArgs false
namespace Go.Proofs.Ytnnfgphioapmnaa
open Go.RowKit

set_option maxRecDepth 100000 in
set_option maxHeartbeats 1000000 in
theorem nat_Mul_small (x y : Nat) (hx : x < 18446744073709551616) (hy : y < 18446744073709551616) (hp : x * y < 18446744073709551616) (w : World) : Calls Try.prog 67 #[.string (nS x), .string (nS y)] w (Ret (.tuple #[.string (nS (x * y)), .int .i64 0]) w) := by
  have hz1 := nS_small_size hx
  have hz2 := nS_small_size hy
  have HV1 := Lib.hid (nS_valid_small hx)
  have HV2 := Lib.hid (nS_valid_small hy)
  have HN1 := Lib.hid (nat_Small_n x hx)
  have HN2 := Lib.hid (nat_Small_n y hy)
  have HQ := Lib.hid (Try.bits_Mul64 x y hx hy)
  have HO := Lib.hid (nat_Of (x * y) hp)
  have hh : x * y / 18446744073709551616 = 0 := Nat.div_eq_of_lt hp
  have hl : x * y % 18446744073709551616 = x * y := Nat.mod_eq_of_lt hp
  obtain ⟨p, hpe⟩ : ∃ p, x * y = p := ⟨_, rfl⟩
  rw [hpe] at hh hl HO HQ
  rw [hh, hl] at HQ
  rw [hpe]
  have HH := Lib.hid hh
  have HL := Lib.hid hl
  have HPE := Lib.hid hpe
  obtain ⟨s, hs⟩ : ∃ s, nS x = s := ⟨_, rfl⟩
  obtain ⟨t, ht⟩ : ∃ t, nS y = t := ⟨_, rfl⟩
  rw [hs] at hz1 HV1 HN1 ⊢
  rw [ht] at hz2 HV2 HN2 ⊢
  have i1 : (s.size : Int) ≤ 8 := by omega
  have i2 : (t.size : Int) ≤ 8 := by omega
  clear hs ht hx hy hp hpe hh hl
  go_enter Try.func67, Try.ntmps67
  go_wp2_with fail
  refine (nat_Valid s (by omega) _).mono ?_
  rintro e w1 ⟨rfl, rfl⟩
  rw [HV1.out]
  go_wp2_with fail
  refine (nat_Valid t (by omega) _).mono ?_
  rintro e w1 ⟨rfl, rfl⟩
  rw [HV2.out]
  go_wp2_with fail
  refine (HN1.out _).mono ?_
  rintro e w1 ⟨rfl, rfl⟩
  go_wp2_with fail
  refine (HN2.out _).mono ?_
  rintro e w1 ⟨rfl, rfl⟩
  go_wp2_with fail
  refine (HQ.out _).mono ?_
  rintro e w1 ⟨rfl, rfl⟩
  go_wp2_with fail
  refine (HO.out _).mono ?_
  rintro e w3 ⟨rfl, hb3⟩
  have HB3 := Lib.hid hb3
  clear hb3
  go_wp2
  go_ret2
  exact ⟨rfl, HB3.out⟩

theorem ncmp_n {x y : Nat} (hx : x < 256 ^ 128) (hy : y < 256 ^ 128) : ncmp (nS x) (nS y) = cmpI x y := by
  unfold ncmp
  rw [nvalid_nS.2 hx, nvalid_nS.2 hy, Bool.and_true, if_pos rfl, ordB_nS]
theorem Bx2.other {W : World} {B C k : Nat} {x y : Value} {T : TypeId} (h : Bx2 W B x y T) (hne : B ≠ C) (v : Value) : Bx2 (W.setCell ⟨C, k, none⟩ v) B x y T := (heap_setCell_other _ _ _ _ hne).trans h

set_option maxRecDepth 100000 in
set_option maxHeartbeats 1000000 in
theorem int_Mul (x y : Int) (hx : x.natAbs < 18446744073709551616) (hy : y.natAbs < 18446744073709551616) (hp : (x * y).natAbs < 18446744073709551616) (w : World) : Calls Try.prog 48 #[intV x, intV y] w (Ret (.tuple #[intV (x * y), .int .i64 0]) w) := by
  have HBO := Lib.hid (int_both x y (lt128_of_lt8 hx) (lt128_of_lt8 hy))
  have hab : x.natAbs * y.natAbs = (x * y).natAbs := Int.natAbs_mul x y ▸ rfl
  have HMM := Lib.hid (nat_Mul_small x.natAbs y.natAbs hx hy (by rw [hab]; exact hp))
  rw [hab] at HMM
  have HMD := Lib.hid (int_made_n (decide (x < 0) != decide (y < 0)) (x * y).natAbs)
  have HE := Lib.hid (show intV (sg (decide (x < 0) != decide (y < 0)) (x * y).natAbs) = intV (x * y) from by
    congr 1
    unfold sg
    by_cases h1 : x < 0
    · by_cases h2 : y < 0
      · have := Int.mul_pos_of_neg_of_neg h1 h2
        rw [decide_eq_true h1, decide_eq_true h2]
        simp
        omega
      · have := Int.mul_nonpos_of_nonpos_of_nonneg (Int.le_of_lt h1) (show 0 ≤ y by omega)
        rw [decide_eq_true h1, decide_eq_false h2]
        simp
        omega
    · by_cases h2 : y < 0
      · have := Int.mul_nonpos_of_nonneg_of_nonpos (show 0 ≤ x by omega) (Int.le_of_lt h2)
        rw [decide_eq_false h1, decide_eq_true h2]
        simp
        omega
      · have := Int.mul_nonneg (show 0 ≤ x by omega) (show 0 ≤ y by omega)
        rw [decide_eq_false h1, decide_eq_false h2]
        simp
        omega)
  rw [HE.out] at HMD
  clear HE
  unfold intV zV at *
  obtain ⟨a, ha⟩ : ∃ a, decide (x < 0) = a := ⟨_, rfl⟩
  obtain ⟨b, hb⟩ : ∃ b, decide (y < 0) = b := ⟨_, rfl⟩
  obtain ⟨s, hs⟩ : ∃ s, nS x.natAbs = s := ⟨_, rfl⟩
  obtain ⟨t, ht⟩ : ∃ t, nS y.natAbs = t := ⟨_, rfl⟩
  obtain ⟨c, hc⟩ : ∃ c, decide (x * y < 0) = c := ⟨_, rfl⟩
  obtain ⟨r, hr⟩ : ∃ r, nS (x * y).natAbs = r := ⟨_, rfl⟩
  rw [ha, hs, hb, ht] at HBO
  rw [hs, ht, hr] at HMM
  rw [ha, hb, hr, hc] at HMD
  rw [ha, hs, hb, ht, hc, hr]
  clear ha hs hb ht hc hr hab hx hy hp
  go_enter Try.func48, Try.ntmps48
  go_wp2_with fail
  obtain ⟨W0, hW0⟩ : ∃ W0, ((w.alloc (.cells #[.bool a, .string s] 38)).alloc (.cells #[.bool b, .string t] 38)).alloc (.cells #[.bool false, .string ⟨#[]⟩] 38) = W0 := ⟨_, rfl⟩
  have HX0 := Lib.hid (show Bx2 W0 w.heap.size (.bool a) (.string s) 38 from by
    rw [← hW0]
    exact ((Bx2.new w (.bool a) (.string s) 38).kept ((Below.refl _ _).alloc (Nat.le_refl _) _) (by simp)).kept ((Below.refl _ _).alloc (Nat.le_refl _) _) (by simp; omega))
  have HY0 := Lib.hid (show Bx2 W0 (w.heap.size + 1) (.bool b) (.string t) 38 from by
    rw [← hW0]
    have := Bx2.new (w.alloc (.cells #[.bool a, .string s] 38)) (.bool b) (.string t) 38
    rw [World.size_alloc] at this
    exact this.kept ((Below.refl _ _).alloc (Nat.le_refl _) _) (by simp))
  have HZ0 := Lib.hid (show Bx2 W0 (w.heap.size + 1 + 1) (.bool false) (.string ⟨#[]⟩) 38 from by
    rw [← hW0]
    have := Bx2.new ((w.alloc (.cells #[.bool a, .string s] 38)).alloc (.cells #[.bool b, .string t] 38)) (.bool false) (.string ⟨#[]⟩) 38
    rw [World.size_alloc, World.size_alloc] at this
    exact this)
  have HB0 := Lib.hid (show Below w.heap.size w W0 from by
    rw [← hW0]
    exact (((Below.refl w.heap.size w).alloc (Nat.le_refl _) _).alloc (by simp) _).alloc (by simp; omega) _)
  rw [hW0]
  clear hW0
  refine (HBO.out _).mono ?_
  rintro e w1 ⟨rfl, hb1⟩
  have hX1 := HX0.out.next hb1
  have hY1 := HY0.out.next hb1
  have hZ1 := HZ0.out.next hb1
  have HX1 := Lib.hid hX1
  have HY1 := Lib.hid hY1
  have HZ1 := Lib.hid hZ1
  have HB1 := Lib.hid (HB0.out.trans (hb1.mono HB0.out.size))
  have x0 := hX1.c0
  have x1 := hX1.c1
  have y0 := hY1.c0
  have y1 := hY1.c1
  have xf0 := hX1.f0
  have xf1 := hX1.f1
  have yf0 := hY1.f0
  have yf1 := hY1.f1
  have z0 := hZ1.c0
  have z1 := hZ1.c1
  have zf0 := hZ1.f0
  have zf1 := hZ1.f1
  clear hb1 hX1 hY1 hZ1
  go_wp2_with fail
  refine (HMM.out _).mono ?_
  rintro e w2 ⟨rfl, hb2⟩
  clear x0 x1 y0 y1 xf0 xf1 yf0 yf1 z0 z1 zf0 zf1
  have hX2 := HX1.out.next hb2
  have hY2 := HY1.out.next hb2
  have hZ2 := HZ1.out.next hb2
  have HX2 := Lib.hid hX2
  have HY2 := Lib.hid hY2
  have HZ2 := Lib.hid hZ2
  have HB2 := Lib.hid (HB1.out.trans (hb2.mono HB1.out.size))
  have x0 := hX2.c0
  have x1 := hX2.c1
  have y0 := hY2.c0
  have y1 := hY2.c1
  have xf0 := hX2.f0
  have xf1 := hX2.f1
  have yf0 := hY2.f0
  have yf1 := hY2.f1
  have z0 := hZ2.c0
  have z1 := hZ2.c1
  have zf0 := hZ2.f0
  have zf1 := hZ2.f1
  clear hb2 hX2 hY2 hZ2
  go_wp2_with fail
  refine (HMD.out _).mono ?_
  rintro e w3 ⟨rfl, hb3⟩
  clear x0 x1 y0 y1 xf0 xf1 yf0 yf1 z0 z1 zf0 zf1
  have hX3 := HX2.out.next hb3
  have hY3 := HY2.out.next hb3
  have hZ3 := HZ2.out.next hb3
  have HX3 := Lib.hid hX3
  have HY3 := Lib.hid hY3
  have HZ3 := Lib.hid hZ3
  have HB3 := Lib.hid (HB2.out.trans (hb3.mono HB2.out.size))
  have x0 := hX3.c0
  have x1 := hX3.c1
  have y0 := hY3.c0
  have y1 := hY3.c1
  have xf0 := hX3.f0
  have xf1 := hX3.f1
  have yf0 := hY3.f0
  have yf1 := hY3.f1
  have z0 := hZ3.c0
  have z1 := hZ3.c1
  have zf0 := hZ3.f0
  have zf1 := hZ3.f1
  clear hb3 hX3 hY3 hZ3
  go_wp2
  have hZz := HZ3.out.set2 (u := .bool c) (v := .string r)
  have q0 := hZz.c0
  have q1 := hZz.c1
  exact bodyPost_ret (v := .tuple #[.agg #[.bool c, .string r], .int .i64 0]) (by simp [results, Try.results48, go_sem, q0, q1]) rfl ⟨rfl, (HB3.out.setCell (p := ⟨w.heap.size + 1 + 1, 0, none⟩) (by simp; omega) _).setCell (p := ⟨w.heap.size + 1 + 1, 1, none⟩) (by simp; omega) _⟩

theorem sg_same {x y : Int} (h : (decide (x < 0) == decide (y < 0)) = true) : intV (sg (decide (x < 0)) (x.natAbs + y.natAbs)) = intV (x + y) := by
  congr 1
  unfold sg
  by_cases h1 : x < 0
  · by_cases h2 : y < 0
    · rw [decide_eq_true h1]; simp; omega
    · rw [decide_eq_true h1, decide_eq_false h2] at h; cases h
  · by_cases h2 : y < 0
    · rw [decide_eq_false h1, decide_eq_true h2] at h; cases h
    · rw [decide_eq_false h1]; simp; omega
theorem sg_diff {x y : Int} (h : (decide (x < 0) == decide (y < 0)) = false) (hge : y.natAbs ≤ x.natAbs) : intV (sg (decide (x < 0)) (x.natAbs - y.natAbs)) = intV (x + y) := by
  congr 1
  unfold sg
  by_cases h1 : x < 0
  · by_cases h2 : y < 0
    · rw [decide_eq_true h1, decide_eq_true h2] at h; cases h
    · rw [decide_eq_true h1]; simp; omega
  · by_cases h2 : y < 0
    · rw [decide_eq_false h1]; simp; omega
    · rw [decide_eq_false h1, decide_eq_false h2] at h; cases h
theorem lt128_h {n : Nat} (h : n < 256 ^ 100) : n < 256 ^ 128 := Nat.lt_of_lt_of_le h (Nat.pow_le_pow_right (by omega) (by omega))
theorem lt8_h {n : Nat} (h : n < 18446744073709551616) : n < 256 ^ 100 := Nat.lt_of_lt_of_le (show n < 256 ^ 8 from h) (Nat.pow_le_pow_right (by omega) (by omega))
theorem sum_h {m n : Nat} (h : m < 256 ^ 100) (k : n < 256 ^ 100) : m + n < 256 ^ 128 := by
  have h2 : (256 : Nat) ^ 100 * 2 ≤ 256 ^ 128 := by decide +kernel
  omega
set_option maxRecDepth 100000 in
set_option maxHeartbeats 1000000 in
theorem int_Add_sameH (x y : Int) (hx : x.natAbs < 256 ^ 100) (hy : y.natAbs < 256 ^ 100) (hsg : (decide (x < 0) == decide (y < 0)) = true) (w : World) : Calls Try.prog 38 #[intV x, intV y] w (Ret (.tuple #[intV (x + y), .int .i64 0]) w) := by
  have HBO := Lib.hid (int_both x y (lt128_h hx) (lt128_h hy))
  have hz : x.natAbs + y.natAbs < 256 ^ 128 := sum_h hx hy
  have HMM := Lib.hid (nat_Add x.natAbs y.natAbs (lt128_h hx) (lt128_h hy))
  unfold fitR at HMM
  rw [if_pos hz] at HMM
  have HMD := Lib.hid (int_made_n (decide (x < 0)) (x.natAbs + y.natAbs))
  have HE := sg_same hsg
  rw [HE] at HMD
  have HS := Lib.hid hsg
  clear HE hsg hz
  unfold intV zV at *
  obtain ⟨a, ha⟩ : ∃ a, decide (x < 0) = a := ⟨_, rfl⟩
  obtain ⟨b, hb⟩ : ∃ b, decide (y < 0) = b := ⟨_, rfl⟩
  obtain ⟨s, hs⟩ : ∃ s, nS x.natAbs = s := ⟨_, rfl⟩
  obtain ⟨t, ht⟩ : ∃ t, nS y.natAbs = t := ⟨_, rfl⟩
  obtain ⟨c, hc⟩ : ∃ c, decide (x + y < 0) = c := ⟨_, rfl⟩
  obtain ⟨r, hr⟩ : ∃ r, nS (x + y).natAbs = r := ⟨_, rfl⟩
  obtain ⟨q, hq⟩ : ∃ q, nS (x.natAbs + y.natAbs) = q := ⟨_, rfl⟩
  rw [ha, hs, hb, ht] at HBO
  rw [hs, ht, hq] at HMM
  rw [ha, hq, hr, hc] at HMD
  rw [ha, hb] at HS
  rw [ha, hs, hb, ht, hc, hr]
  have hsg := HS.out
  clear ha hs hb ht hc hr hq hx hy
  go_enter Try.func38, Try.ntmps38
  go_wp2_with fail
  obtain ⟨W0, hW0⟩ : ∃ W0, ((w.alloc (.cells #[.bool a, .string s] 38)).alloc (.cells #[.bool b, .string t] 38)).alloc (.cells #[.bool false, .string ⟨#[]⟩] 38) = W0 := ⟨_, rfl⟩
  have HX0 := Lib.hid (show Bx2 W0 w.heap.size (.bool a) (.string s) 38 from by
    rw [← hW0]
    exact ((Bx2.new w (.bool a) (.string s) 38).kept ((Below.refl _ _).alloc (Nat.le_refl _) _) (by simp)).kept ((Below.refl _ _).alloc (Nat.le_refl _) _) (by simp; omega))
  have HY0 := Lib.hid (show Bx2 W0 (w.heap.size + 1) (.bool b) (.string t) 38 from by
    rw [← hW0]
    have := Bx2.new (w.alloc (.cells #[.bool a, .string s] 38)) (.bool b) (.string t) 38
    rw [World.size_alloc] at this
    exact this.kept ((Below.refl _ _).alloc (Nat.le_refl _) _) (by simp))
  have HZ0 := Lib.hid (show Bx2 W0 (w.heap.size + 1 + 1) (.bool false) (.string ⟨#[]⟩) 38 from by
    rw [← hW0]
    have := Bx2.new ((w.alloc (.cells #[.bool a, .string s] 38)).alloc (.cells #[.bool b, .string t] 38)) (.bool false) (.string ⟨#[]⟩) 38
    rw [World.size_alloc, World.size_alloc] at this
    exact this)
  have HB0 := Lib.hid (show Below w.heap.size w W0 from by
    rw [← hW0]
    exact (((Below.refl w.heap.size w).alloc (Nat.le_refl _) _).alloc (by simp) _).alloc (by simp; omega) _)
  rw [hW0]
  clear hW0
  refine (HBO.out _).mono ?_
  rintro e w1 ⟨rfl, hb1⟩
  have hX1 := HX0.out.next hb1
  have hY1 := HY0.out.next hb1
  have hZ1 := HZ0.out.next hb1
  have HX1 := Lib.hid hX1
  have HY1 := Lib.hid hY1
  have HZ1 := Lib.hid hZ1
  have HB1 := Lib.hid (HB0.out.trans (hb1.mono HB0.out.size))
  have x0 := hX1.c0
  have x1 := hX1.c1
  have y0 := hY1.c0
  have y1 := hY1.c1
  have xf0 := hX1.f0
  have xf1 := hX1.f1
  have yf0 := hY1.f0
  have yf1 := hY1.f1
  have z0 := hZ1.c0
  have z1 := hZ1.c1
  have zf0 := hZ1.f0
  have zf1 := hZ1.f1
  clear hb1 hX1 hY1 hZ1
  go_wp2_with fail
  refine (HMM.out _).mono ?_
  rintro e w2 ⟨rfl, hb2⟩
  clear x0 x1 y0 y1 xf0 xf1 yf0 yf1 z0 z1 zf0 zf1
  have hX2 := HX1.out.next hb2
  have hY2 := HY1.out.next hb2
  have hZ2 := HZ1.out.next hb2
  have HX2 := Lib.hid hX2
  have HY2 := Lib.hid hY2
  have HZ2 := Lib.hid hZ2
  have HB2 := Lib.hid (HB1.out.trans (hb2.mono HB1.out.size))
  have x0 := hX2.c0
  have x1 := hX2.c1
  have y0 := hY2.c0
  have y1 := hY2.c1
  have xf0 := hX2.f0
  have xf1 := hX2.f1
  have yf0 := hY2.f0
  have yf1 := hY2.f1
  have z0 := hZ2.c0
  have z1 := hZ2.c1
  have zf0 := hZ2.f0
  have zf1 := hZ2.f1
  clear hb2 hX2 hY2 hZ2
  go_wp2_with fail
  refine (HMD.out _).mono ?_
  rintro e w3 ⟨rfl, hb3⟩
  clear x0 x1 y0 y1 xf0 xf1 yf0 yf1 z0 z1 zf0 zf1
  have hX3 := HX2.out.next hb3
  have hY3 := HY2.out.next hb3
  have hZ3 := HZ2.out.next hb3
  have HX3 := Lib.hid hX3
  have HY3 := Lib.hid hY3
  have HZ3 := Lib.hid hZ3
  have HB3 := Lib.hid (HB2.out.trans (hb3.mono HB2.out.size))
  have x0 := hX3.c0
  have x1 := hX3.c1
  have y0 := hY3.c0
  have y1 := hY3.c1
  have xf0 := hX3.f0
  have xf1 := hX3.f1
  have yf0 := hY3.f0
  have yf1 := hY3.f1
  have z0 := hZ3.c0
  have z1 := hZ3.c1
  have zf0 := hZ3.f0
  have zf1 := hZ3.f1
  clear hb3 hX3 hY3 hZ3
  go_wp2
  have hZz := HZ3.out.set2 (u := .bool c) (v := .string r)
  have q0 := hZz.c0
  have q1 := hZz.c1
  exact bodyPost_ret (v := .tuple #[.agg #[.bool c, .string r], .int .i64 0]) (by simp [results, Try.results38, go_sem, q0, q1]) rfl ⟨rfl, (HB3.out.setCell (p := ⟨w.heap.size + 1 + 1, 0, none⟩) (by simp; omega) _).setCell (p := ⟨w.heap.size + 1 + 1, 1, none⟩) (by simp; omega) _⟩
set_option maxRecDepth 100000 in
set_option maxHeartbeats 1000000 in
theorem int_Add_geH (x y : Int) (hx : x.natAbs < 256 ^ 100) (hy : y.natAbs < 256 ^ 100) (hsg : (decide (x < 0) == decide (y < 0)) = false) (hge : y.natAbs ≤ x.natAbs) (w : World) : Calls Try.prog 38 #[intV x, intV y] w (Ret (.tuple #[intV (x + y), .int .i64 0]) w) := by
  have HBO := Lib.hid (int_both x y (lt128_h hx) (lt128_h hy))
  have HCM := Lib.hid (nat_Cmp (nS x.natAbs) (nS y.natAbs) (by have := nS_size_le.2 hx; omega) (by have := nS_size_le.2 hy; omega))
  rw [ncmp_n (lt128_h hx) (lt128_h hy)] at HCM
  have HMM := Lib.hid (nat_Sub_ge x.natAbs y.natAbs (lt128_h hx) (lt128_h hy) hge)
  have HMD := Lib.hid (int_made_n (decide (x < 0)) (x.natAbs - y.natAbs))
  have HE := sg_diff hsg hge
  rw [HE] at HMD
  have HS := Lib.hid hsg
  have hcg := cmpI_nonneg hge
  obtain ⟨k, hk⟩ : ∃ k, cmpI x.natAbs y.natAbs = k := ⟨_, rfl⟩
  rw [hk] at HCM hcg
  clear HE hsg hge hk
  unfold intV zV at *
  obtain ⟨a, ha⟩ : ∃ a, decide (x < 0) = a := ⟨_, rfl⟩
  obtain ⟨b, hb⟩ : ∃ b, decide (y < 0) = b := ⟨_, rfl⟩
  obtain ⟨s, hs⟩ : ∃ s, nS x.natAbs = s := ⟨_, rfl⟩
  obtain ⟨t, ht⟩ : ∃ t, nS y.natAbs = t := ⟨_, rfl⟩
  obtain ⟨c, hc⟩ : ∃ c, decide (x + y < 0) = c := ⟨_, rfl⟩
  obtain ⟨r, hr⟩ : ∃ r, nS (x + y).natAbs = r := ⟨_, rfl⟩
  obtain ⟨q, hq⟩ : ∃ q, nS (x.natAbs - y.natAbs) = q := ⟨_, rfl⟩
  rw [ha, hs, hb, ht] at HBO
  rw [hs, ht] at HCM
  rw [hs, ht, hq] at HMM
  rw [ha, hq, hr, hc] at HMD
  rw [ha, hb] at HS
  rw [ha, hs, hb, ht, hc, hr]
  have hsg := HS.out
  clear ha hs hb ht hc hr hq hx hy
  go_enter Try.func38, Try.ntmps38
  go_wp2_with fail
  obtain ⟨W0, hW0⟩ : ∃ W0, ((w.alloc (.cells #[.bool a, .string s] 38)).alloc (.cells #[.bool b, .string t] 38)).alloc (.cells #[.bool false, .string ⟨#[]⟩] 38) = W0 := ⟨_, rfl⟩
  have HX0 := Lib.hid (show Bx2 W0 w.heap.size (.bool a) (.string s) 38 from by
    rw [← hW0]
    exact ((Bx2.new w (.bool a) (.string s) 38).kept ((Below.refl _ _).alloc (Nat.le_refl _) _) (by simp)).kept ((Below.refl _ _).alloc (Nat.le_refl _) _) (by simp; omega))
  have HY0 := Lib.hid (show Bx2 W0 (w.heap.size + 1) (.bool b) (.string t) 38 from by
    rw [← hW0]
    have := Bx2.new (w.alloc (.cells #[.bool a, .string s] 38)) (.bool b) (.string t) 38
    rw [World.size_alloc] at this
    exact this.kept ((Below.refl _ _).alloc (Nat.le_refl _) _) (by simp))
  have HZ0 := Lib.hid (show Bx2 W0 (w.heap.size + 1 + 1) (.bool false) (.string ⟨#[]⟩) 38 from by
    rw [← hW0]
    have := Bx2.new ((w.alloc (.cells #[.bool a, .string s] 38)).alloc (.cells #[.bool b, .string t] 38)) (.bool false) (.string ⟨#[]⟩) 38
    rw [World.size_alloc, World.size_alloc] at this
    exact this)
  have HB0 := Lib.hid (show Below w.heap.size w W0 from by
    rw [← hW0]
    exact (((Below.refl w.heap.size w).alloc (Nat.le_refl _) _).alloc (by simp) _).alloc (by simp; omega) _)
  rw [hW0]
  clear hW0
  refine (HBO.out _).mono ?_
  rintro e w1 ⟨rfl, hb1⟩
  have hX1 := HX0.out.next hb1
  have hY1 := HY0.out.next hb1
  have hZ1 := HZ0.out.next hb1
  have HX1 := Lib.hid hX1
  have HY1 := Lib.hid hY1
  have HZ1 := Lib.hid hZ1
  have HB1 := Lib.hid (HB0.out.trans (hb1.mono HB0.out.size))
  have x0 := hX1.c0
  have x1 := hX1.c1
  have y0 := hY1.c0
  have y1 := hY1.c1
  have xf0 := hX1.f0
  have xf1 := hX1.f1
  have yf0 := hY1.f0
  have yf1 := hY1.f1
  have z0 := hZ1.c0
  have z1 := hZ1.c1
  have zf0 := hZ1.f0
  have zf1 := hZ1.f1
  clear hb1 hX1 hY1 hZ1
  go_wp2_with fail
  refine (HCM.out _).mono ?_
  rintro e w2 ⟨rfl, rfl⟩
  go_wp2_with fail
  refine (HMM.out _).mono ?_
  rintro e w2 ⟨rfl, hb2⟩
  clear x0 x1 y0 y1 xf0 xf1 yf0 yf1 z0 z1 zf0 zf1
  have hX2 := HX1.out.next hb2
  have hY2 := HY1.out.next hb2
  have hZ2 := HZ1.out.next hb2
  have HX2 := Lib.hid hX2
  have HY2 := Lib.hid hY2
  have HZ2 := Lib.hid hZ2
  have HB2 := Lib.hid (HB1.out.trans (hb2.mono HB1.out.size))
  have x0 := hX2.c0
  have x1 := hX2.c1
  have y0 := hY2.c0
  have y1 := hY2.c1
  have xf0 := hX2.f0
  have xf1 := hX2.f1
  have yf0 := hY2.f0
  have yf1 := hY2.f1
  have z0 := hZ2.c0
  have z1 := hZ2.c1
  have zf0 := hZ2.f0
  have zf1 := hZ2.f1
  clear hb2 hX2 hY2 hZ2
  go_wp2_with fail
  refine (HMD.out _).mono ?_
  rintro e w3 ⟨rfl, hb3⟩
  clear x0 x1 y0 y1 xf0 xf1 yf0 yf1 z0 z1 zf0 zf1
  have hX3 := HX2.out.next hb3
  have hY3 := HY2.out.next hb3
  have hZ3 := HZ2.out.next hb3
  have HX3 := Lib.hid hX3
  have HY3 := Lib.hid hY3
  have HZ3 := Lib.hid hZ3
  have HB3 := Lib.hid (HB2.out.trans (hb3.mono HB2.out.size))
  have x0 := hX3.c0
  have x1 := hX3.c1
  have y0 := hY3.c0
  have y1 := hY3.c1
  have xf0 := hX3.f0
  have xf1 := hX3.f1
  have yf0 := hY3.f0
  have yf1 := hY3.f1
  have z0 := hZ3.c0
  have z1 := hZ3.c1
  have zf0 := hZ3.f0
  have zf1 := hZ3.f1
  clear hb3 hX3 hY3 hZ3
  go_wp2
  have hZz := HZ3.out.set2 (u := .bool c) (v := .string r)
  have q0 := hZz.c0
  have q1 := hZz.c1
  exact bodyPost_ret (v := .tuple #[.agg #[.bool c, .string r], .int .i64 0]) (by simp [results, Try.results38, go_sem, q0, q1]) rfl ⟨rfl, (HB3.out.setCell (p := ⟨w.heap.size + 1 + 1, 0, none⟩) (by simp; omega) _).setCell (p := ⟨w.heap.size + 1 + 1, 1, none⟩) (by simp; omega) _⟩
set_option maxRecDepth 100000 in
set_option maxHeartbeats 1000000 in
theorem int_Add_ltH (x y : Int) (hx : x.natAbs < 256 ^ 100) (hy : y.natAbs < 256 ^ 100) (hsg : (decide (x < 0) == decide (y < 0)) = false) (hlt : x.natAbs < y.natAbs) (w : World) : Calls Try.prog 38 #[intV x, intV y] w (Ret (.tuple #[intV (x + y), .int .i64 0]) w) := by
  have HBO := Lib.hid (int_both x y (lt128_h hx) (lt128_h hy))
  have HCM := Lib.hid (nat_Cmp (nS x.natAbs) (nS y.natAbs) (by have := nS_size_le.2 hx; omega) (by have := nS_size_le.2 hy; omega))
  rw [ncmp_n (lt128_h hx) (lt128_h hy), cmpI_lt hlt] at HCM
  have HMM := Lib.hid (nat_Sub_ge y.natAbs x.natAbs (lt128_h hy) (lt128_h hx) (Nat.le_of_lt hlt))
  have HMD := Lib.hid (int_made_n (decide (y < 0)) (y.natAbs - x.natAbs))
  have HE := sg_diff (x := y) (y := x) (by rw [Bool.beq_comm]; exact hsg) (Nat.le_of_lt hlt)
  rw [HE, Int.add_comm] at HMD
  have HS := Lib.hid hsg
  clear HE hsg hlt
  unfold intV zV at *
  obtain ⟨a, ha⟩ : ∃ a, decide (x < 0) = a := ⟨_, rfl⟩
  obtain ⟨b, hb⟩ : ∃ b, decide (y < 0) = b := ⟨_, rfl⟩
  obtain ⟨s, hs⟩ : ∃ s, nS x.natAbs = s := ⟨_, rfl⟩
  obtain ⟨t, ht⟩ : ∃ t, nS y.natAbs = t := ⟨_, rfl⟩
  obtain ⟨c, hc⟩ : ∃ c, decide (x + y < 0) = c := ⟨_, rfl⟩
  obtain ⟨r, hr⟩ : ∃ r, nS (x + y).natAbs = r := ⟨_, rfl⟩
  obtain ⟨q, hq⟩ : ∃ q, nS (y.natAbs - x.natAbs) = q := ⟨_, rfl⟩
  rw [ha, hs, hb, ht] at HBO
  rw [hs, ht] at HCM
  rw [hs, ht, hq] at HMM
  rw [hb, hq, hr, hc] at HMD
  rw [ha, hb] at HS
  rw [ha, hs, hb, ht, hc, hr]
  have hsg := HS.out
  clear ha hs hb ht hc hr hq hx hy
  go_enter Try.func38, Try.ntmps38
  go_wp2_with fail
  obtain ⟨W0, hW0⟩ : ∃ W0, ((w.alloc (.cells #[.bool a, .string s] 38)).alloc (.cells #[.bool b, .string t] 38)).alloc (.cells #[.bool false, .string ⟨#[]⟩] 38) = W0 := ⟨_, rfl⟩
  have HX0 := Lib.hid (show Bx2 W0 w.heap.size (.bool a) (.string s) 38 from by
    rw [← hW0]
    exact ((Bx2.new w (.bool a) (.string s) 38).kept ((Below.refl _ _).alloc (Nat.le_refl _) _) (by simp)).kept ((Below.refl _ _).alloc (Nat.le_refl _) _) (by simp; omega))
  have HY0 := Lib.hid (show Bx2 W0 (w.heap.size + 1) (.bool b) (.string t) 38 from by
    rw [← hW0]
    have := Bx2.new (w.alloc (.cells #[.bool a, .string s] 38)) (.bool b) (.string t) 38
    rw [World.size_alloc] at this
    exact this.kept ((Below.refl _ _).alloc (Nat.le_refl _) _) (by simp))
  have HZ0 := Lib.hid (show Bx2 W0 (w.heap.size + 1 + 1) (.bool false) (.string ⟨#[]⟩) 38 from by
    rw [← hW0]
    have := Bx2.new ((w.alloc (.cells #[.bool a, .string s] 38)).alloc (.cells #[.bool b, .string t] 38)) (.bool false) (.string ⟨#[]⟩) 38
    rw [World.size_alloc, World.size_alloc] at this
    exact this)
  have HB0 := Lib.hid (show Below w.heap.size w W0 from by
    rw [← hW0]
    exact (((Below.refl w.heap.size w).alloc (Nat.le_refl _) _).alloc (by simp) _).alloc (by simp; omega) _)
  rw [hW0]
  clear hW0
  refine (HBO.out _).mono ?_
  rintro e w1 ⟨rfl, hb1⟩
  have hX1 := HX0.out.next hb1
  have hY1 := HY0.out.next hb1
  have hZ1 := HZ0.out.next hb1
  have HX1 := Lib.hid hX1
  have HY1 := Lib.hid hY1
  have HZ1 := Lib.hid hZ1
  have HB1 := Lib.hid (HB0.out.trans (hb1.mono HB0.out.size))
  have x0 := hX1.c0
  have x1 := hX1.c1
  have y0 := hY1.c0
  have y1 := hY1.c1
  have xf0 := hX1.f0
  have xf1 := hX1.f1
  have yf0 := hY1.f0
  have yf1 := hY1.f1
  have z0 := hZ1.c0
  have z1 := hZ1.c1
  have zf0 := hZ1.f0
  have zf1 := hZ1.f1
  clear hb1 hX1 hY1 hZ1
  go_wp2_with fail
  refine (HCM.out _).mono ?_
  rintro e w2 ⟨rfl, rfl⟩
  go_wp2_with fail
  clear x0 x1 y0 y1 xf0 xf1 yf0 yf1 z0 z1 zf0 zf1
  obtain ⟨wS, hwS⟩ : ∃ wS, ((((w1.setCell ⟨w.heap.size, 0, none⟩ (.bool b)).setCell ⟨w.heap.size, 1, none⟩ (.string t)).setCell ⟨w.heap.size + 1, 0, none⟩ (.bool a)).setCell ⟨w.heap.size + 1, 1, none⟩ (.string s)) = wS := ⟨_, rfl⟩
  have HX2 := Lib.hid (show Bx2 wS w.heap.size (.bool b) (.string t) 38 from by rw [← hwS]; exact (HX1.out.set2.other (by omega) _).other (by omega) _)
  have HY2 := Lib.hid (show Bx2 wS (w.heap.size + 1) (.bool a) (.string s) 38 from by rw [← hwS]; exact ((HY1.out.other (by omega) _).other (by omega) _).set2)
  have HZ2 := Lib.hid (show Bx2 wS (w.heap.size + 1 + 1) (.bool false) (.string ⟨#[]⟩) 38 from by rw [← hwS]; exact (((HZ1.out.other (by omega) _).other (by omega) _).other (by omega) _).other (by omega) _)
  have HB2 := Lib.hid (show Below w.heap.size w wS from by rw [← hwS]; exact (((HB1.out.setCell (p := ⟨w.heap.size, 0, none⟩) (Nat.le_refl _) _).setCell (p := ⟨w.heap.size, 1, none⟩) (Nat.le_refl _) _).setCell (p := ⟨w.heap.size + 1, 0, none⟩) (by simp) _).setCell (p := ⟨w.heap.size + 1, 1, none⟩) (by simp) _)
  rw [hwS]
  clear hwS
  refine (HMM.out _).mono ?_
  rintro e w3 ⟨rfl, hb3⟩
  have hX3 := HX2.out.next hb3
  have hY3 := HY2.out.next hb3
  have hZ3 := HZ2.out.next hb3
  have HX3 := Lib.hid hX3
  have HY3 := Lib.hid hY3
  have HZ3 := Lib.hid hZ3
  have HB3 := Lib.hid (HB2.out.trans (hb3.mono HB2.out.size))
  have x0 := hX3.c0
  have x1 := hX3.c1
  have y0 := hY3.c0
  have y1 := hY3.c1
  have xf0 := hX3.f0
  have xf1 := hX3.f1
  have yf0 := hY3.f0
  have yf1 := hY3.f1
  have z0 := hZ3.c0
  have z1 := hZ3.c1
  have zf0 := hZ3.f0
  have zf1 := hZ3.f1
  clear hb3 hX3 hY3 hZ3
  go_wp2_with fail
  refine (HMD.out _).mono ?_
  rintro e w4 ⟨rfl, hb4⟩
  clear x0 x1 y0 y1 xf0 xf1 yf0 yf1 z0 z1 zf0 zf1
  have hX4 := HX3.out.next hb4
  have hY4 := HY3.out.next hb4
  have hZ4 := HZ3.out.next hb4
  have HX4 := Lib.hid hX4
  have HY4 := Lib.hid hY4
  have HZ4 := Lib.hid hZ4
  have HB4 := Lib.hid (HB3.out.trans (hb4.mono HB3.out.size))
  have x0 := hX4.c0
  have x1 := hX4.c1
  have y0 := hY4.c0
  have y1 := hY4.c1
  have xf0 := hX4.f0
  have xf1 := hX4.f1
  have yf0 := hY4.f0
  have yf1 := hY4.f1
  have z0 := hZ4.c0
  have z1 := hZ4.c1
  have zf0 := hZ4.f0
  have zf1 := hZ4.f1
  clear hb4 hX4 hY4 hZ4
  go_wp2
  have hZz := HZ4.out.set2 (u := .bool c) (v := .string r)
  have q0 := hZz.c0
  have q1 := hZz.c1
  exact bodyPost_ret (v := .tuple #[.agg #[.bool c, .string r], .int .i64 0]) (by simp [results, Try.results38, go_sem, q0, q1]) rfl ⟨rfl, (HB4.out.setCell (p := ⟨w.heap.size + 1 + 1, 0, none⟩) (by simp; omega) _).setCell (p := ⟨w.heap.size + 1 + 1, 1, none⟩) (by simp; omega) _⟩
theorem int_AddH (x y : Int) (hx : x.natAbs < 256 ^ 100) (hy : y.natAbs < 256 ^ 100) (w : World) : Calls Try.prog 38 #[intV x, intV y] w (Ret (.tuple #[intV (x + y), .int .i64 0]) w) := by
  cases h : (decide (x < 0) == decide (y < 0)) with
  | true => exact int_Add_sameH x y hx hy h w
  | false =>
    by_cases hge : y.natAbs ≤ x.natAbs
    · exact int_Add_geH x y hx hy h hge w
    · exact int_Add_ltH x y hx hy h (by omega) w
theorem int_Add (x y : Int) (hx : x.natAbs < 18446744073709551616) (hy : y.natAbs < 18446744073709551616) (w : World) : Calls Try.prog 38 #[intV x, intV y] w (Ret (.tuple #[intV (x + y), .int .i64 0]) w) := int_AddH x y (lt8_h hx) (lt8_h hy) w

set_option maxRecDepth 100000 in
set_option maxHeartbeats 1000000 in
theorem int_Sub (x y : Int) (hx : x.natAbs < 18446744073709551616) (hy : y.natAbs < 18446744073709551616) (w : World) : Calls Try.prog 17 #[intV x, intV y] w (Ret (.tuple #[intV (x - y), .int .i64 0]) w) := by
  have HBO := Lib.hid (int_both x y (lt128_of_lt8 hx) (lt128_of_lt8 hy))
  have HNG := Lib.hid (int_Neg y (lt128_of_lt8 hy))
  have HAD := Lib.hid (int_Add x (-y) hx (by rw [Int.natAbs_neg]; exact hy))
  rw [← Int.sub_eq_add_neg] at HAD
  unfold intV zV at *
  obtain ⟨a, ha⟩ : ∃ a, decide (x < 0) = a := ⟨_, rfl⟩
  obtain ⟨b, hb⟩ : ∃ b, decide (y < 0) = b := ⟨_, rfl⟩
  obtain ⟨s, hs⟩ : ∃ s, nS x.natAbs = s := ⟨_, rfl⟩
  obtain ⟨t, ht⟩ : ∃ t, nS y.natAbs = t := ⟨_, rfl⟩
  obtain ⟨c, hc⟩ : ∃ c, decide (x - y < 0) = c := ⟨_, rfl⟩
  obtain ⟨r, hr⟩ : ∃ r, nS (x - y).natAbs = r := ⟨_, rfl⟩
  obtain ⟨d, hd⟩ : ∃ d, decide (-y < 0) = d := ⟨_, rfl⟩
  obtain ⟨q, hq⟩ : ∃ q, nS (-y).natAbs = q := ⟨_, rfl⟩
  rw [ha, hs, hb, ht] at HBO
  rw [hb, ht, hd, hq] at HNG
  rw [ha, hs, hd, hq, hc, hr] at HAD
  rw [ha, hs, hb, ht, hc, hr]
  clear ha hs hb ht hc hr hq hd hx hy
  go_enter Try.func17, Try.ntmps17
  go_wp2_with fail
  obtain ⟨W0, hW0⟩ : ∃ W0, ((w.alloc (.cells #[.bool a, .string s] 38)).alloc (.cells #[.bool b, .string t] 38)).alloc (.cells #[.bool false, .string ⟨#[]⟩] 38) = W0 := ⟨_, rfl⟩
  have HX0 := Lib.hid (show Bx2 W0 w.heap.size (.bool a) (.string s) 38 from by
    rw [← hW0]
    exact ((Bx2.new w (.bool a) (.string s) 38).kept ((Below.refl _ _).alloc (Nat.le_refl _) _) (by simp)).kept ((Below.refl _ _).alloc (Nat.le_refl _) _) (by simp; omega))
  have HY0 := Lib.hid (show Bx2 W0 (w.heap.size + 1) (.bool b) (.string t) 38 from by
    rw [← hW0]
    have := Bx2.new (w.alloc (.cells #[.bool a, .string s] 38)) (.bool b) (.string t) 38
    rw [World.size_alloc] at this
    exact this.kept ((Below.refl _ _).alloc (Nat.le_refl _) _) (by simp))
  have HZ0 := Lib.hid (show Bx2 W0 (w.heap.size + 1 + 1) (.bool false) (.string ⟨#[]⟩) 38 from by
    rw [← hW0]
    have := Bx2.new ((w.alloc (.cells #[.bool a, .string s] 38)).alloc (.cells #[.bool b, .string t] 38)) (.bool false) (.string ⟨#[]⟩) 38
    rw [World.size_alloc, World.size_alloc] at this
    exact this)
  have HB0 := Lib.hid (show Below w.heap.size w W0 from by
    rw [← hW0]
    exact (((Below.refl w.heap.size w).alloc (Nat.le_refl _) _).alloc (by simp) _).alloc (by simp; omega) _)
  rw [hW0]
  clear hW0
  refine (HBO.out _).mono ?_
  rintro e w1 ⟨rfl, hb1⟩
  have hX1 := HX0.out.next hb1
  have hY1 := HY0.out.next hb1
  have hZ1 := HZ0.out.next hb1
  have HX1 := Lib.hid hX1
  have HY1 := Lib.hid hY1
  have HZ1 := Lib.hid hZ1
  have HB1 := Lib.hid (HB0.out.trans (hb1.mono HB0.out.size))
  have x0 := hX1.c0
  have x1 := hX1.c1
  have y0 := hY1.c0
  have y1 := hY1.c1
  have xf0 := hX1.f0
  have xf1 := hX1.f1
  have yf0 := hY1.f0
  have yf1 := hY1.f1
  have z0 := hZ1.c0
  have z1 := hZ1.c1
  have zf0 := hZ1.f0
  have zf1 := hZ1.f1
  clear hb1 hX1 hY1 hZ1
  go_wp2
  have hX1d : Bx2 w1.drew w.heap.size (.bool a) (.string s) 38 := HX1.out
  have hY1d : Bx2 w1.drew (w.heap.size + 1) (.bool b) (.string t) 38 := HY1.out
  have hZ1d : Bx2 w1.drew (w.heap.size + 1 + 1) (.bool false) (.string ⟨#[]⟩) 38 := HZ1.out
  clear x0 x1 y0 y1 xf0 xf1 yf0 yf1 z0 z1 zf0 zf1
  have x0 := hX1d.c0
  have x1 := hX1d.c1
  have y0 := hY1d.c0
  have y1 := hY1d.c1
  have HZD := Lib.hid hZ1d
  clear hX1d hY1d hZ1d
  refine wp_region_K 6 (Below (w1.drew).heap.size (w1.drew)) (by kernel_rfl) ?_
  intro hD
  refine wpAnyK_take (i := 0) (v := ?v3_0b1) (fuel := 7) rfl (by kernel_rfl) (by kernel_rfl) (fun _ _ _ h => h) hD (Below.refl _ _) (.inl ⟨by kernel_rfl, ?y3_0b1⟩) ?n3_0b1
  case y3_0b1 => intro w' hS'; have e0 := cell_kept hS' (Nat.le_refl _) x0; have e1 := cell_kept hS' (Nat.le_refl _) x1; have e2 := cell_kept hS' (Nat.le_refl _) y0; have e3 := cell_kept hS' (Nat.le_refl _) y1; go_simp; with_reducible rfl
  clear hD; intro hD
  simp only [Act.put, List.setIfInBounds_toArray, List.set_cons_zero, List.set_cons_succ]
  refine wpAnyK_take (i := 1) (v := ?v3_1b1) (fuel := 6) rfl (by kernel_rfl) (by kernel_rfl) (fun _ _ _ h => h) hD (Below.refl _ _) (.inl ⟨by kernel_rfl, ?y3_1b1⟩) ?n3_1b1
  case y3_1b1 => intro w' hS'; have e0 := cell_kept hS' (Nat.le_refl _) x0; have e1 := cell_kept hS' (Nat.le_refl _) x1; have e2 := cell_kept hS' (Nat.le_refl _) y0; have e3 := cell_kept hS' (Nat.le_refl _) y1; go_simp; with_reducible rfl
  clear hD; intro hD
  simp only [Act.put, List.setIfInBounds_toArray, List.set_cons_zero, List.set_cons_succ]
  refine wpAnyK_one (i := 2) (fuel := 5) (by kernel_rfl) rfl hD ?_
  clear hD; intro K2 hK2
  go_wp2_with fail
  refine (HNG.out _).mono ?_
  rintro e w2 ⟨rfl, hb2⟩
  have HB2 := Lib.hid hb2
  clear hb2
  go_wp2
  refine hK2 _ _ (by exact HB2.out) ?_; clear hK2; intro hS_3_2 hD
  refine wpAnyK_one (i := 3) (fuel := 4) (by kernel_rfl) rfl hD ?_
  clear hD; intro K3 hK3
  go_wp2_with fail
  refine (HAD.out _).mono ?_
  rintro e w3 ⟨rfl, hb3⟩
  have HB3 := Lib.hid hb3
  have hZ3 := (HZD.out.next HB2.out).next hb3
  have z0 := hZ3.c0
  have z1 := hZ3.c1
  have zf0 := hZ3.f0
  have zf1 := hZ3.f1
  have HZ3 := Lib.hid hZ3
  clear hb3 hZ3
  go_wp2
  refine hK3 _ _ (by exact Below.trans hS_3_2 (Below.mono HB3.out (Below.size hS_3_2))) ?_; clear hK3; intro hS_3_3 hD
  refine wpAnyK_pure (i := 4) (v := ?v3_4b1) (fuel := 3) rfl (by kernel_rfl) (fun _ _ _ h => h) hD hS_3_3 (.inl ⟨by kernel_rfl, ?y3_4b1⟩) ?n3_4b1
  case y3_4b1 => intro w' _; go_simp; with_reducible rfl
  clear hD; intro hD
  simp only [Act.put, List.setIfInBounds_toArray, List.set_cons_zero, List.set_cons_succ]
  refine wpAnyK_pure (i := 5) (v := ?v3_5b1) (fuel := 2) rfl (by kernel_rfl) (fun _ _ _ h => h) hD hS_3_3 (.inl ⟨by kernel_rfl, ?y3_5b1⟩) ?n3_5b1
  case y3_5b1 => intro w' _; go_simp; with_reducible rfl
  clear hD; intro hD
  simp only [Act.put, List.setIfInBounds_toArray, List.set_cons_zero, List.set_cons_succ]
  refine wpAnyK_oneT (i := 6) (fuel := 1) (by kernel_rfl) rfl hD (by kernel_rfl) ?_
  clear hD; intro K6 hK6
  go_wp2
  refine hK6 _ _ ?_; clear hK6; intro hD
  refine wpAnyK_oneT (i := 7) (fuel := 0) (by kernel_rfl) rfl hD (by kernel_rfl) ?_
  clear hD; intro K7 hK7
  go_wp2
  refine hK7 _ _ ?_; clear hK7; intro hD
  refine wpAnyK_done (by kernel_rfl) ?_ 0
  clear hD
  have HB4 := Lib.hid ((HB1.out.drew.trans (HB2.out.mono (by exact HB1.out.size))).trans (HB3.out.mono (Nat.le_trans (show w.heap.size ≤ w1.drew.heap.size from HB1.out.size) HB2.out.size)))
  go_wp2
  have HZ4 := HZ3
  have hZz := HZ4.out.set2 (u := .bool c) (v := .string r)
  have q0 := hZz.c0
  have q1 := hZz.c1
  exact bodyPost_ret (v := .tuple #[.agg #[.bool c, .string r], .int .i64 0]) (by simp [results, Try.results17, go_sem, q0, q1]) rfl ⟨rfl, (HB4.out.setCell (p := ⟨w.heap.size + 1 + 1, 0, none⟩) (by simp; omega) _).setCell (p := ⟨w.heap.size + 1 + 1, 1, none⟩) (by simp; omega) _⟩
end Go.Proofs.Ytnnfgphioapmnaa

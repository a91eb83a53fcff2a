import Derived.Test.YtehflcnjnnhojaaGreatQInt
import Derived.Test.YtehflcnjnnhojaaGreatQLdD
import Derived.Test.YtehflcnjnnhojaaGreatQNatB
import Derived.Test.YtehflcnjnnhojaaGreatQNum2
import Derived.Great.Walk
import Derived.Test.YtehflcnjnnhojaaGreatQRowN
import Derived.Lib.SliceRun
import Derived.Test.YtehflcnjnnhojaaGreatQBit
import Derived.RangeFuncNested
import Derived.RangeFuncBound
import Derived.RangeFuncCalls
import Derived.RangeFuncLeaves
import Derived.RangeFuncFrom
import Derived.Shelf.Abstract
import Derived.Shelf.RegionOpen
import Derived.WalkKit
import Derived.OwnWalkIn
import Derived.TacticsInMore
import Derived.LoopNIn
import Derived.LoopIn
set_option linter.unusedVariables false
set_option linter.unusedSimpArgs false
namespace Go.Proofs.YtehflcnjnnhojaaGreat
set_option maxRecDepth 100000
set_option maxHeartbeats 1000000
open Go.RowKit
theorem nat_Mul_small (x y : Nat) (hx : x < 18446744073709551616) (hy : y < 18446744073709551616) (hp : x * y < 18446744073709551616) (w : World) : Calls Tryz.prog 209 #[.string (nS x), .string (nS y)] w (Ret (.tuple #[.string (nS (x * y)), .int .i64 0]) w) := by
 have hz1 := nS_small_size hx
 have hz2 := nS_small_size hy
 have HV1 := Hq (nS_valid_small hx)
 have HV2 := Hq (nS_valid_small hy)
 have HN1 := Hq (nat_Small_n x hx)
 have HN2 := Hq (nat_Small_n y hy)
 have HQ := Hq (Tryz.bits_Mul64 x y hx hy)
 have HO := Hq (nat_Of (x * y) hp)
 have hh : x * y / 18446744073709551616 = 0 := Nat.div_eq_of_lt hp
 have hl : x * y % 18446744073709551616 = x * y := Nat.mod_eq_of_lt hp
 obtain ⟨p, hpe⟩ : ∃ p, x * y = p := ⟨_, rfl⟩
 rw [hpe] at hh hl HO HQ
 rw [hh, hl] at HQ
 rw [hpe]
 have HH := Hq hh
 have HL := Hq hl
 have HPE := Hq hpe
 obtain ⟨s, hs⟩ : ∃ s, nS x = s := ⟨_, rfl⟩
 obtain ⟨t, ht⟩ : ∃ t, nS y = t := ⟨_, rfl⟩
 rw [hs] at hz1 HV1 HN1 ⊢
 rw [ht] at hz2 HV2 HN2 ⊢
 have i1 : (s.size : Int) ≤ 8 := by omega
 have i2 : (t.size : Int) ≤ 8 := by omega
 clear hs ht hx hy hp hpe hh hl
 go_enter Tryz.func209, Tryz.ntmps209
 go_wp2_with fail
 refine (nat_Valid s (by omega) _).mono ?_
 rintro e w1 ⟨rfl, rfl⟩
 rw [HV1.out]
 go_wp2_with fail
 refine (nat_Valid t (by omega) _).mono ?_
 rintro e w1 ⟨rfl, rfl⟩
 rw [HV2.out]
 go_wp2_with fail
 refine (HN1.out _).mono ?_
 rintro e w1 ⟨rfl, rfl⟩
 go_wp2_with fail
 refine (HN2.out _).mono ?_
 rintro e w1 ⟨rfl, rfl⟩
 go_wp2_with fail
 refine (HQ.out _).mono ?_
 rintro e w1 ⟨rfl, rfl⟩
 go_wp2_with fail
 refine (HO.out _).mono ?_
 rintro e w3 ⟨rfl, hb3⟩
 have HB3 := Hq hb3
 clear hb3
 go_wp2
 go_ret2
 exact ⟨rfl, HB3.out⟩
theorem ncmp_n {x y : Nat} (hx : x < 256 ^ 128) (hy : y < 256 ^ 128) : ncmp (nS x) (nS y) = cmpI x y := by
 unfold ncmp
 rw [nvalid_nS.2 hx, nvalid_nS.2 hy, Bool.and_true, if_pos rfl, ordB_nS]
theorem Bx2.other {W : World} {B C k : Nat} {x y : Value} {T : TypeId} (h : Bx2 W B x y T) (hne : B ≠ C) (v : Value) : Bx2 (W.setCell ⟨C, k, none⟩ v) B x y T := (heap_setCell_other _ _ _ _ hne).trans h
theorem int_Mul (x y : Int) (hx : x.natAbs < 18446744073709551616) (hy : y.natAbs < 18446744073709551616) (hp : (x * y).natAbs < 18446744073709551616) (w : World) : Calls Tryz.prog 180 #[intV x, intV y] w (Ret (.tuple #[intV (x * y), .int .i64 0]) w) := by
 have HBO := Hq (int_both x y (lt128_of_lt8 hx) (lt128_of_lt8 hy))
 have hab : x.natAbs * y.natAbs = (x * y).natAbs := Int.natAbs_mul x y ▸ rfl
 have HMM := Hq (nat_Mul_small x.natAbs y.natAbs hx hy (by rw [hab]; exact hp))
 rw [hab] at HMM
 have HMD := Hq (int_made_n (decide (x < 0) != decide (y < 0)) (x * y).natAbs)
 have HE := Hq (show intV (sg (decide (x < 0) != decide (y < 0)) (x * y).natAbs) = intV (x * y) from by
  congr 1
  unfold sg
  by_cases h1 : x < 0
  · by_cases h2 : y < 0
    · have := Int.mul_pos_of_neg_of_neg h1 h2
      rw [decide_eq_true h1, decide_eq_true h2]
      simp
      omega
    · have := Int.mul_nonpos_of_nonpos_of_nonneg (Int.le_of_lt h1) (show 0 ≤ y by omega)
      rw [decide_eq_true h1, decide_eq_false h2]
      simp
      omega
  · by_cases h2 : y < 0
    · have := Int.mul_nonpos_of_nonneg_of_nonpos (show 0 ≤ x by omega) (Int.le_of_lt h2)
      rw [decide_eq_false h1, decide_eq_true h2]
      simp
      omega
    · have := Int.mul_nonneg (show 0 ≤ x by omega) (show 0 ≤ y by omega)
      rw [decide_eq_false h1, decide_eq_false h2]
      simp
      omega)
 rw [HE.out] at HMD
 clear HE
 unfold intV zV at *
 obtain ⟨a, ha⟩ : ∃ a, decide (x < 0) = a := ⟨_, rfl⟩
 obtain ⟨b, hb⟩ : ∃ b, decide (y < 0) = b := ⟨_, rfl⟩
 obtain ⟨s, hs⟩ : ∃ s, nS x.natAbs = s := ⟨_, rfl⟩
 obtain ⟨t, ht⟩ : ∃ t, nS y.natAbs = t := ⟨_, rfl⟩
 obtain ⟨c, hc⟩ : ∃ c, decide (x * y < 0) = c := ⟨_, rfl⟩
 obtain ⟨r, hr⟩ : ∃ r, nS (x * y).natAbs = r := ⟨_, rfl⟩
 rw [ha, hs, hb, ht] at HBO
 rw [hs, ht, hr] at HMM
 rw [ha, hb, hr, hc] at HMD
 rw [ha, hs, hb, ht, hc, hr]
 clear ha hs hb ht hc hr hab hx hy hp
 go_enter Tryz.func180, Tryz.ntmps180
 go_wp2_with fail
 obtain ⟨W0, hW0⟩ : ∃ W0, ((w.alloc (.cells #[.bool a, .string s] 104)).alloc (.cells #[.bool b, .string t] 104)).alloc (.cells #[.bool false, .string ⟨#[]⟩] 104) = W0 := ⟨_, rfl⟩
 have HX0 := Hq (show Bx2 W0 w.heap.size (.bool a) (.string s) 104 from by
  rw [← hW0]
  exact ((Bx2.new w (.bool a) (.string s) 104).kept ((Below.refl _ _).alloc (Nat.le_refl _) _) (by simp)).kept ((Below.refl _ _).alloc (Nat.le_refl _) _) (by simp; omega))
 have HY0 := Hq (show Bx2 W0 (w.heap.size + 1) (.bool b) (.string t) 104 from by
  rw [← hW0]
  have := Bx2.new (w.alloc (.cells #[.bool a, .string s] 104)) (.bool b) (.string t) 104
  rw [World.size_alloc] at this
  exact this.kept ((Below.refl _ _).alloc (Nat.le_refl _) _) (by simp))
 have HZ0 := Hq (show Bx2 W0 (w.heap.size + 1 + 1) (.bool false) (.string ⟨#[]⟩) 104 from by
  rw [← hW0]
  have := Bx2.new ((w.alloc (.cells #[.bool a, .string s] 104)).alloc (.cells #[.bool b, .string t] 104)) (.bool false) (.string ⟨#[]⟩) 104
  rw [World.size_alloc, World.size_alloc] at this
  exact this)
 have HB0 := Hq (show Below w.heap.size w W0 from by
  rw [← hW0]
  exact (((Below.refl w.heap.size w).alloc (Nat.le_refl _) _).alloc (by simp) _).alloc (by simp; omega) _)
 rw [hW0]
 clear hW0
 refine (HBO.out _).mono ?_
 rintro e w1 ⟨rfl, hb1⟩
 have hX1 := HX0.out.next hb1
 have hY1 := HY0.out.next hb1
 have hZ1 := HZ0.out.next hb1
 have HX1 := Hq hX1
 have HY1 := Hq hY1
 have HZ1 := Hq hZ1
 have HB1 := Hq (HB0.out.trans (hb1.mono HB0.out.size))
 have x0 := hX1.c0
 have x1 := hX1.c1
 have y0 := hY1.c0
 have y1 := hY1.c1
 have xf0 := hX1.f0
 have xf1 := hX1.f1
 have yf0 := hY1.f0
 have yf1 := hY1.f1
 have z0 := hZ1.c0
 have z1 := hZ1.c1
 have zf0 := hZ1.f0
 have zf1 := hZ1.f1
 clear hb1 hX1 hY1 hZ1
 go_wp2_with fail
 refine (HMM.out _).mono ?_
 rintro e w2 ⟨rfl, hb2⟩
 clear x0 x1 y0 y1 xf0 xf1 yf0 yf1 z0 z1 zf0 zf1
 have hX2 := HX1.out.next hb2
 have hY2 := HY1.out.next hb2
 have hZ2 := HZ1.out.next hb2
 have HX2 := Hq hX2
 have HY2 := Hq hY2
 have HZ2 := Hq hZ2
 have HB2 := Hq (HB1.out.trans (hb2.mono HB1.out.size))
 have x0 := hX2.c0
 have x1 := hX2.c1
 have y0 := hY2.c0
 have y1 := hY2.c1
 have xf0 := hX2.f0
 have xf1 := hX2.f1
 have yf0 := hY2.f0
 have yf1 := hY2.f1
 have z0 := hZ2.c0
 have z1 := hZ2.c1
 have zf0 := hZ2.f0
 have zf1 := hZ2.f1
 clear hb2 hX2 hY2 hZ2
 go_wp2_with fail
 refine (HMD.out _).mono ?_
 rintro e w3 ⟨rfl, hb3⟩
 clear x0 x1 y0 y1 xf0 xf1 yf0 yf1 z0 z1 zf0 zf1
 have hX3 := HX2.out.next hb3
 have hY3 := HY2.out.next hb3
 have hZ3 := HZ2.out.next hb3
 have HX3 := Hq hX3
 have HY3 := Hq hY3
 have HZ3 := Hq hZ3
 have HB3 := Hq (HB2.out.trans (hb3.mono HB2.out.size))
 have x0 := hX3.c0
 have x1 := hX3.c1
 have y0 := hY3.c0
 have y1 := hY3.c1
 have xf0 := hX3.f0
 have xf1 := hX3.f1
 have yf0 := hY3.f0
 have yf1 := hY3.f1
 have z0 := hZ3.c0
 have z1 := hZ3.c1
 have zf0 := hZ3.f0
 have zf1 := hZ3.f1
 clear hb3 hX3 hY3 hZ3
 go_wp2
 have hZz := HZ3.out.set2 (u := .bool c) (v := .string r)
 have q0 := hZz.c0
 have q1 := hZz.c1
 exact bodyPost_ret (v := .tuple #[.agg #[.bool c, .string r], .int .i64 0]) (by simp [results, Tryz.results180, go_sem, q0, q1]) rfl ⟨rfl, (HB3.out.setCell (p := ⟨w.heap.size + 1 + 1, 0, none⟩) (by simp; omega) _).setCell (p := ⟨w.heap.size + 1 + 1, 1, none⟩) (by simp; omega) _⟩
theorem sg_same {x y : Int} (h : (decide (x < 0) == decide (y < 0)) = true) : intV (sg (decide (x < 0)) (x.natAbs + y.natAbs)) = intV (x + y) := by
 congr 1
 unfold sg
 by_cases h1 : x < 0
 · by_cases h2 : y < 0
   · rw [decide_eq_true h1]; simp; omega
   · rw [decide_eq_true h1, decide_eq_false h2] at h; cases h
 · by_cases h2 : y < 0
   · rw [decide_eq_false h1, decide_eq_true h2] at h; cases h
   · rw [decide_eq_false h1]; simp; omega
theorem sg_diff {x y : Int} (h : (decide (x < 0) == decide (y < 0)) = false) (hge : y.natAbs ≤ x.natAbs) : intV (sg (decide (x < 0)) (x.natAbs - y.natAbs)) = intV (x + y) := by
 congr 1
 unfold sg
 by_cases h1 : x < 0
 · by_cases h2 : y < 0
   · rw [decide_eq_true h1, decide_eq_true h2] at h; cases h
   · rw [decide_eq_true h1]; simp; omega
 · by_cases h2 : y < 0
   · rw [decide_eq_false h1]; simp; omega
   · rw [decide_eq_false h1, decide_eq_false h2] at h; cases h
theorem lt128_h {n : Nat} (h : n < 256 ^ 100) : n < 256 ^ 128 := Nat.lt_of_lt_of_le h (Nat.pow_le_pow_right (by omega) (by omega))
theorem lt8_h {n : Nat} (h : n < 18446744073709551616) : n < 256 ^ 100 := Nat.lt_of_lt_of_le (show n < 256 ^ 8 from h) (Nat.pow_le_pow_right (by omega) (by omega))
theorem sum_h {m n : Nat} (h : m < 256 ^ 100) (k : n < 256 ^ 100) : m + n < 256 ^ 128 := by
 have h2 : (256 : Nat) ^ 100 * 2 ≤ 256 ^ 128 := by decide +kernel
 omega
theorem int_Add_sameH (x y : Int) (hx : x.natAbs < 256 ^ 100) (hy : y.natAbs < 256 ^ 100) (hsg : (decide (x < 0) == decide (y < 0)) = true) (w : World) : Calls Tryz.prog 183 #[intV x, intV y] w (Ret (.tuple #[intV (x + y), .int .i64 0]) w) := by
 have HBO := Hq (int_both x y (lt128_h hx) (lt128_h hy))
 have hz : x.natAbs + y.natAbs < 256 ^ 128 := sum_h hx hy
 have HMM := Hq (nat_Add x.natAbs y.natAbs (lt128_h hx) (lt128_h hy))
 unfold fitR at HMM
 rw [if_pos hz] at HMM
 have HMD := Hq (int_made_n (decide (x < 0)) (x.natAbs + y.natAbs))
 have HE := sg_same hsg
 rw [HE] at HMD
 have HS := Hq hsg
 clear HE hsg hz
 unfold intV zV at *
 obtain ⟨a, ha⟩ : ∃ a, decide (x < 0) = a := ⟨_, rfl⟩
 obtain ⟨b, hb⟩ : ∃ b, decide (y < 0) = b := ⟨_, rfl⟩
 obtain ⟨s, hs⟩ : ∃ s, nS x.natAbs = s := ⟨_, rfl⟩
 obtain ⟨t, ht⟩ : ∃ t, nS y.natAbs = t := ⟨_, rfl⟩
 obtain ⟨c, hc⟩ : ∃ c, decide (x + y < 0) = c := ⟨_, rfl⟩
 obtain ⟨r, hr⟩ : ∃ r, nS (x + y).natAbs = r := ⟨_, rfl⟩
 obtain ⟨q, hq⟩ : ∃ q, nS (x.natAbs + y.natAbs) = q := ⟨_, rfl⟩
 rw [ha, hs, hb, ht] at HBO
 rw [hs, ht, hq] at HMM
 rw [ha, hq, hr, hc] at HMD
 rw [ha, hb] at HS
 rw [ha, hs, hb, ht, hc, hr]
 have hsg := HS.out
 clear ha hs hb ht hc hr hq hx hy
 go_enter Tryz.func183, Tryz.ntmps183
 go_wp2_with fail
 obtain ⟨W0, hW0⟩ : ∃ W0, ((w.alloc (.cells #[.bool a, .string s] 104)).alloc (.cells #[.bool b, .string t] 104)).alloc (.cells #[.bool false, .string ⟨#[]⟩] 104) = W0 := ⟨_, rfl⟩
 have HX0 := Hq (show Bx2 W0 w.heap.size (.bool a) (.string s) 104 from by
  rw [← hW0]
  exact ((Bx2.new w (.bool a) (.string s) 104).kept ((Below.refl _ _).alloc (Nat.le_refl _) _) (by simp)).kept ((Below.refl _ _).alloc (Nat.le_refl _) _) (by simp; omega))
 have HY0 := Hq (show Bx2 W0 (w.heap.size + 1) (.bool b) (.string t) 104 from by
  rw [← hW0]
  have := Bx2.new (w.alloc (.cells #[.bool a, .string s] 104)) (.bool b) (.string t) 104
  rw [World.size_alloc] at this
  exact this.kept ((Below.refl _ _).alloc (Nat.le_refl _) _) (by simp))
 have HZ0 := Hq (show Bx2 W0 (w.heap.size + 1 + 1) (.bool false) (.string ⟨#[]⟩) 104 from by
  rw [← hW0]
  have := Bx2.new ((w.alloc (.cells #[.bool a, .string s] 104)).alloc (.cells #[.bool b, .string t] 104)) (.bool false) (.string ⟨#[]⟩) 104
  rw [World.size_alloc, World.size_alloc] at this
  exact this)
 have HB0 := Hq (show Below w.heap.size w W0 from by
  rw [← hW0]
  exact (((Below.refl w.heap.size w).alloc (Nat.le_refl _) _).alloc (by simp) _).alloc (by simp; omega) _)
 rw [hW0]
 clear hW0
 refine (HBO.out _).mono ?_
 rintro e w1 ⟨rfl, hb1⟩
 have hX1 := HX0.out.next hb1
 have hY1 := HY0.out.next hb1
 have hZ1 := HZ0.out.next hb1
 have HX1 := Hq hX1
 have HY1 := Hq hY1
 have HZ1 := Hq hZ1
 have HB1 := Hq (HB0.out.trans (hb1.mono HB0.out.size))
 have x0 := hX1.c0
 have x1 := hX1.c1
 have y0 := hY1.c0
 have y1 := hY1.c1
 have xf0 := hX1.f0
 have xf1 := hX1.f1
 have yf0 := hY1.f0
 have yf1 := hY1.f1
 have z0 := hZ1.c0
 have z1 := hZ1.c1
 have zf0 := hZ1.f0
 have zf1 := hZ1.f1
 clear hb1 hX1 hY1 hZ1
 go_wp2_with fail
 refine (HMM.out _).mono ?_
 rintro e w2 ⟨rfl, hb2⟩
 clear x0 x1 y0 y1 xf0 xf1 yf0 yf1 z0 z1 zf0 zf1
 have hX2 := HX1.out.next hb2
 have hY2 := HY1.out.next hb2
 have hZ2 := HZ1.out.next hb2
 have HX2 := Hq hX2
 have HY2 := Hq hY2
 have HZ2 := Hq hZ2
 have HB2 := Hq (HB1.out.trans (hb2.mono HB1.out.size))
 have x0 := hX2.c0
 have x1 := hX2.c1
 have y0 := hY2.c0
 have y1 := hY2.c1
 have xf0 := hX2.f0
 have xf1 := hX2.f1
 have yf0 := hY2.f0
 have yf1 := hY2.f1
 have z0 := hZ2.c0
 have z1 := hZ2.c1
 have zf0 := hZ2.f0
 have zf1 := hZ2.f1
 clear hb2 hX2 hY2 hZ2
 go_wp2_with fail
 refine (HMD.out _).mono ?_
 rintro e w3 ⟨rfl, hb3⟩
 clear x0 x1 y0 y1 xf0 xf1 yf0 yf1 z0 z1 zf0 zf1
 have hX3 := HX2.out.next hb3
 have hY3 := HY2.out.next hb3
 have hZ3 := HZ2.out.next hb3
 have HX3 := Hq hX3
 have HY3 := Hq hY3
 have HZ3 := Hq hZ3
 have HB3 := Hq (HB2.out.trans (hb3.mono HB2.out.size))
 have x0 := hX3.c0
 have x1 := hX3.c1
 have y0 := hY3.c0
 have y1 := hY3.c1
 have xf0 := hX3.f0
 have xf1 := hX3.f1
 have yf0 := hY3.f0
 have yf1 := hY3.f1
 have z0 := hZ3.c0
 have z1 := hZ3.c1
 have zf0 := hZ3.f0
 have zf1 := hZ3.f1
 clear hb3 hX3 hY3 hZ3
 go_wp2
 have hZz := HZ3.out.set2 (u := .bool c) (v := .string r)
 have q0 := hZz.c0
 have q1 := hZz.c1
 exact bodyPost_ret (v := .tuple #[.agg #[.bool c, .string r], .int .i64 0]) (by simp [results, Tryz.results183, go_sem, q0, q1]) rfl ⟨rfl, (HB3.out.setCell (p := ⟨w.heap.size + 1 + 1, 0, none⟩) (by simp; omega) _).setCell (p := ⟨w.heap.size + 1 + 1, 1, none⟩) (by simp; omega) _⟩
theorem int_Add_geH (x y : Int) (hx : x.natAbs < 256 ^ 100) (hy : y.natAbs < 256 ^ 100) (hsg : (decide (x < 0) == decide (y < 0)) = false) (hge : y.natAbs ≤ x.natAbs) (w : World) : Calls Tryz.prog 183 #[intV x, intV y] w (Ret (.tuple #[intV (x + y), .int .i64 0]) w) := by
 have HBO := Hq (int_both x y (lt128_h hx) (lt128_h hy))
 have HCM := Hq (nat_Cmp (nS x.natAbs) (nS y.natAbs) (by have := nS_size_le.2 hx; omega) (by have := nS_size_le.2 hy; omega))
 rw [ncmp_n (lt128_h hx) (lt128_h hy)] at HCM
 have HMM := Hq (nat_Sub_ge x.natAbs y.natAbs (lt128_h hx) (lt128_h hy) hge)
 have HMD := Hq (int_made_n (decide (x < 0)) (x.natAbs - y.natAbs))
 have HE := sg_diff hsg hge
 rw [HE] at HMD
 have HS := Hq hsg
 have hcg := cmpI_nonneg hge
 obtain ⟨k, hk⟩ : ∃ k, cmpI x.natAbs y.natAbs = k := ⟨_, rfl⟩
 rw [hk] at HCM hcg
 clear HE hsg hge hk
 unfold intV zV at *
 obtain ⟨a, ha⟩ : ∃ a, decide (x < 0) = a := ⟨_, rfl⟩
 obtain ⟨b, hb⟩ : ∃ b, decide (y < 0) = b := ⟨_, rfl⟩
 obtain ⟨s, hs⟩ : ∃ s, nS x.natAbs = s := ⟨_, rfl⟩
 obtain ⟨t, ht⟩ : ∃ t, nS y.natAbs = t := ⟨_, rfl⟩
 obtain ⟨c, hc⟩ : ∃ c, decide (x + y < 0) = c := ⟨_, rfl⟩
 obtain ⟨r, hr⟩ : ∃ r, nS (x + y).natAbs = r := ⟨_, rfl⟩
 obtain ⟨q, hq⟩ : ∃ q, nS (x.natAbs - y.natAbs) = q := ⟨_, rfl⟩
 rw [ha, hs, hb, ht] at HBO
 rw [hs, ht] at HCM
 rw [hs, ht, hq] at HMM
 rw [ha, hq, hr, hc] at HMD
 rw [ha, hb] at HS
 rw [ha, hs, hb, ht, hc, hr]
 have hsg := HS.out
 clear ha hs hb ht hc hr hq hx hy
 go_enter Tryz.func183, Tryz.ntmps183
 go_wp2_with fail
 obtain ⟨W0, hW0⟩ : ∃ W0, ((w.alloc (.cells #[.bool a, .string s] 104)).alloc (.cells #[.bool b, .string t] 104)).alloc (.cells #[.bool false, .string ⟨#[]⟩] 104) = W0 := ⟨_, rfl⟩
 have HX0 := Hq (show Bx2 W0 w.heap.size (.bool a) (.string s) 104 from by
  rw [← hW0]
  exact ((Bx2.new w (.bool a) (.string s) 104).kept ((Below.refl _ _).alloc (Nat.le_refl _) _) (by simp)).kept ((Below.refl _ _).alloc (Nat.le_refl _) _) (by simp; omega))
 have HY0 := Hq (show Bx2 W0 (w.heap.size + 1) (.bool b) (.string t) 104 from by
  rw [← hW0]
  have := Bx2.new (w.alloc (.cells #[.bool a, .string s] 104)) (.bool b) (.string t) 104
  rw [World.size_alloc] at this
  exact this.kept ((Below.refl _ _).alloc (Nat.le_refl _) _) (by simp))
 have HZ0 := Hq (show Bx2 W0 (w.heap.size + 1 + 1) (.bool false) (.string ⟨#[]⟩) 104 from by
  rw [← hW0]
  have := Bx2.new ((w.alloc (.cells #[.bool a, .string s] 104)).alloc (.cells #[.bool b, .string t] 104)) (.bool false) (.string ⟨#[]⟩) 104
  rw [World.size_alloc, World.size_alloc] at this
  exact this)
 have HB0 := Hq (show Below w.heap.size w W0 from by
  rw [← hW0]
  exact (((Below.refl w.heap.size w).alloc (Nat.le_refl _) _).alloc (by simp) _).alloc (by simp; omega) _)
 rw [hW0]
 clear hW0
 refine (HBO.out _).mono ?_
 rintro e w1 ⟨rfl, hb1⟩
 have hX1 := HX0.out.next hb1
 have hY1 := HY0.out.next hb1
 have hZ1 := HZ0.out.next hb1
 have HX1 := Hq hX1
 have HY1 := Hq hY1
 have HZ1 := Hq hZ1
 have HB1 := Hq (HB0.out.trans (hb1.mono HB0.out.size))
 have x0 := hX1.c0
 have x1 := hX1.c1
 have y0 := hY1.c0
 have y1 := hY1.c1
 have xf0 := hX1.f0
 have xf1 := hX1.f1
 have yf0 := hY1.f0
 have yf1 := hY1.f1
 have z0 := hZ1.c0
 have z1 := hZ1.c1
 have zf0 := hZ1.f0
 have zf1 := hZ1.f1
 clear hb1 hX1 hY1 hZ1
 go_wp2_with fail
 refine (HCM.out _).mono ?_
 rintro e w2 ⟨rfl, rfl⟩
 go_wp2_with fail
 refine (HMM.out _).mono ?_
 rintro e w2 ⟨rfl, hb2⟩
 clear x0 x1 y0 y1 xf0 xf1 yf0 yf1 z0 z1 zf0 zf1
 have hX2 := HX1.out.next hb2
 have hY2 := HY1.out.next hb2
 have hZ2 := HZ1.out.next hb2
 have HX2 := Hq hX2
 have HY2 := Hq hY2
 have HZ2 := Hq hZ2
 have HB2 := Hq (HB1.out.trans (hb2.mono HB1.out.size))
 have x0 := hX2.c0
 have x1 := hX2.c1
 have y0 := hY2.c0
 have y1 := hY2.c1
 have xf0 := hX2.f0
 have xf1 := hX2.f1
 have yf0 := hY2.f0
 have yf1 := hY2.f1
 have z0 := hZ2.c0
 have z1 := hZ2.c1
 have zf0 := hZ2.f0
 have zf1 := hZ2.f1
 clear hb2 hX2 hY2 hZ2
 go_wp2_with fail
 refine (HMD.out _).mono ?_
 rintro e w3 ⟨rfl, hb3⟩
 clear x0 x1 y0 y1 xf0 xf1 yf0 yf1 z0 z1 zf0 zf1
 have hX3 := HX2.out.next hb3
 have hY3 := HY2.out.next hb3
 have hZ3 := HZ2.out.next hb3
 have HX3 := Hq hX3
 have HY3 := Hq hY3
 have HZ3 := Hq hZ3
 have HB3 := Hq (HB2.out.trans (hb3.mono HB2.out.size))
 have x0 := hX3.c0
 have x1 := hX3.c1
 have y0 := hY3.c0
 have y1 := hY3.c1
 have xf0 := hX3.f0
 have xf1 := hX3.f1
 have yf0 := hY3.f0
 have yf1 := hY3.f1
 have z0 := hZ3.c0
 have z1 := hZ3.c1
 have zf0 := hZ3.f0
 have zf1 := hZ3.f1
 clear hb3 hX3 hY3 hZ3
 go_wp2
 have hZz := HZ3.out.set2 (u := .bool c) (v := .string r)
 have q0 := hZz.c0
 have q1 := hZz.c1
 exact bodyPost_ret (v := .tuple #[.agg #[.bool c, .string r], .int .i64 0]) (by simp [results, Tryz.results183, go_sem, q0, q1]) rfl ⟨rfl, (HB3.out.setCell (p := ⟨w.heap.size + 1 + 1, 0, none⟩) (by simp; omega) _).setCell (p := ⟨w.heap.size + 1 + 1, 1, none⟩) (by simp; omega) _⟩
theorem int_Add_ltH (x y : Int) (hx : x.natAbs < 256 ^ 100) (hy : y.natAbs < 256 ^ 100) (hsg : (decide (x < 0) == decide (y < 0)) = false) (hlt : x.natAbs < y.natAbs) (w : World) : Calls Tryz.prog 183 #[intV x, intV y] w (Ret (.tuple #[intV (x + y), .int .i64 0]) w) := by
 have HBO := Hq (int_both x y (lt128_h hx) (lt128_h hy))
 have HCM := Hq (nat_Cmp (nS x.natAbs) (nS y.natAbs) (by have := nS_size_le.2 hx; omega) (by have := nS_size_le.2 hy; omega))
 rw [ncmp_n (lt128_h hx) (lt128_h hy), cmpI_lt hlt] at HCM
 have HMM := Hq (nat_Sub_ge y.natAbs x.natAbs (lt128_h hy) (lt128_h hx) (Nat.le_of_lt hlt))
 have HMD := Hq (int_made_n (decide (y < 0)) (y.natAbs - x.natAbs))
 have HE := sg_diff (x := y) (y := x) (by rw [Bool.beq_comm]; exact hsg) (Nat.le_of_lt hlt)
 rw [HE, Int.add_comm] at HMD
 have HS := Hq hsg
 clear HE hsg hlt
 unfold intV zV at *
 obtain ⟨a, ha⟩ : ∃ a, decide (x < 0) = a := ⟨_, rfl⟩
 obtain ⟨b, hb⟩ : ∃ b, decide (y < 0) = b := ⟨_, rfl⟩
 obtain ⟨s, hs⟩ : ∃ s, nS x.natAbs = s := ⟨_, rfl⟩
 obtain ⟨t, ht⟩ : ∃ t, nS y.natAbs = t := ⟨_, rfl⟩
 obtain ⟨c, hc⟩ : ∃ c, decide (x + y < 0) = c := ⟨_, rfl⟩
 obtain ⟨r, hr⟩ : ∃ r, nS (x + y).natAbs = r := ⟨_, rfl⟩
 obtain ⟨q, hq⟩ : ∃ q, nS (y.natAbs - x.natAbs) = q := ⟨_, rfl⟩
 rw [ha, hs, hb, ht] at HBO
 rw [hs, ht] at HCM
 rw [hs, ht, hq] at HMM
 rw [hb, hq, hr, hc] at HMD
 rw [ha, hb] at HS
 rw [ha, hs, hb, ht, hc, hr]
 have hsg := HS.out
 clear ha hs hb ht hc hr hq hx hy
 go_enter Tryz.func183, Tryz.ntmps183
 go_wp2_with fail
 obtain ⟨W0, hW0⟩ : ∃ W0, ((w.alloc (.cells #[.bool a, .string s] 104)).alloc (.cells #[.bool b, .string t] 104)).alloc (.cells #[.bool false, .string ⟨#[]⟩] 104) = W0 := ⟨_, rfl⟩
 have HX0 := Hq (show Bx2 W0 w.heap.size (.bool a) (.string s) 104 from by
  rw [← hW0]
  exact ((Bx2.new w (.bool a) (.string s) 104).kept ((Below.refl _ _).alloc (Nat.le_refl _) _) (by simp)).kept ((Below.refl _ _).alloc (Nat.le_refl _) _) (by simp; omega))
 have HY0 := Hq (show Bx2 W0 (w.heap.size + 1) (.bool b) (.string t) 104 from by
  rw [← hW0]
  have := Bx2.new (w.alloc (.cells #[.bool a, .string s] 104)) (.bool b) (.string t) 104
  rw [World.size_alloc] at this
  exact this.kept ((Below.refl _ _).alloc (Nat.le_refl _) _) (by simp))
 have HZ0 := Hq (show Bx2 W0 (w.heap.size + 1 + 1) (.bool false) (.string ⟨#[]⟩) 104 from by
  rw [← hW0]
  have := Bx2.new ((w.alloc (.cells #[.bool a, .string s] 104)).alloc (.cells #[.bool b, .string t] 104)) (.bool false) (.string ⟨#[]⟩) 104
  rw [World.size_alloc, World.size_alloc] at this
  exact this)
 have HB0 := Hq (show Below w.heap.size w W0 from by
  rw [← hW0]
  exact (((Below.refl w.heap.size w).alloc (Nat.le_refl _) _).alloc (by simp) _).alloc (by simp; omega) _)
 rw [hW0]
 clear hW0
 refine (HBO.out _).mono ?_
 rintro e w1 ⟨rfl, hb1⟩
 have hX1 := HX0.out.next hb1
 have hY1 := HY0.out.next hb1
 have hZ1 := HZ0.out.next hb1
 have HX1 := Hq hX1
 have HY1 := Hq hY1
 have HZ1 := Hq hZ1
 have HB1 := Hq (HB0.out.trans (hb1.mono HB0.out.size))
 have x0 := hX1.c0
 have x1 := hX1.c1
 have y0 := hY1.c0
 have y1 := hY1.c1
 have xf0 := hX1.f0
 have xf1 := hX1.f1
 have yf0 := hY1.f0
 have yf1 := hY1.f1
 have z0 := hZ1.c0
 have z1 := hZ1.c1
 have zf0 := hZ1.f0
 have zf1 := hZ1.f1
 clear hb1 hX1 hY1 hZ1
 go_wp2_with fail
 refine (HCM.out _).mono ?_
 rintro e w2 ⟨rfl, rfl⟩
 go_wp2_with fail
 clear x0 x1 y0 y1 xf0 xf1 yf0 yf1 z0 z1 zf0 zf1
 obtain ⟨wS, hwS⟩ : ∃ wS, ((((w1.setCell ⟨w.heap.size, 0, none⟩ (.bool b)).setCell ⟨w.heap.size, 1, none⟩ (.string t)).setCell ⟨w.heap.size + 1, 0, none⟩ (.bool a)).setCell ⟨w.heap.size + 1, 1, none⟩ (.string s)) = wS := ⟨_, rfl⟩
 have HX2 := Hq (show Bx2 wS w.heap.size (.bool b) (.string t) 104 from by rw [← hwS]; exact (HX1.out.set2.other (by omega) _).other (by omega) _)
 have HY2 := Hq (show Bx2 wS (w.heap.size + 1) (.bool a) (.string s) 104 from by rw [← hwS]; exact ((HY1.out.other (by omega) _).other (by omega) _).set2)
 have HZ2 := Hq (show Bx2 wS (w.heap.size + 1 + 1) (.bool false) (.string ⟨#[]⟩) 104 from by rw [← hwS]; exact (((HZ1.out.other (by omega) _).other (by omega) _).other (by omega) _).other (by omega) _)
 have HB2 := Hq (show Below w.heap.size w wS from by rw [← hwS]; exact (((HB1.out.setCell (p := ⟨w.heap.size, 0, none⟩) (Nat.le_refl _) _).setCell (p := ⟨w.heap.size, 1, none⟩) (Nat.le_refl _) _).setCell (p := ⟨w.heap.size + 1, 0, none⟩) (by simp) _).setCell (p := ⟨w.heap.size + 1, 1, none⟩) (by simp) _)
 rw [hwS]
 clear hwS
 refine (HMM.out _).mono ?_
 rintro e w3 ⟨rfl, hb3⟩
 have hX3 := HX2.out.next hb3
 have hY3 := HY2.out.next hb3
 have hZ3 := HZ2.out.next hb3
 have HX3 := Hq hX3
 have HY3 := Hq hY3
 have HZ3 := Hq hZ3
 have HB3 := Hq (HB2.out.trans (hb3.mono HB2.out.size))
 have x0 := hX3.c0
 have x1 := hX3.c1
 have y0 := hY3.c0
 have y1 := hY3.c1
 have xf0 := hX3.f0
 have xf1 := hX3.f1
 have yf0 := hY3.f0
 have yf1 := hY3.f1
 have z0 := hZ3.c0
 have z1 := hZ3.c1
 have zf0 := hZ3.f0
 have zf1 := hZ3.f1
 clear hb3 hX3 hY3 hZ3
 go_wp2_with fail
 refine (HMD.out _).mono ?_
 rintro e w4 ⟨rfl, hb4⟩
 clear x0 x1 y0 y1 xf0 xf1 yf0 yf1 z0 z1 zf0 zf1
 have hX4 := HX3.out.next hb4
 have hY4 := HY3.out.next hb4
 have hZ4 := HZ3.out.next hb4
 have HX4 := Hq hX4
 have HY4 := Hq hY4
 have HZ4 := Hq hZ4
 have HB4 := Hq (HB3.out.trans (hb4.mono HB3.out.size))
 have x0 := hX4.c0
 have x1 := hX4.c1
 have y0 := hY4.c0
 have y1 := hY4.c1
 have xf0 := hX4.f0
 have xf1 := hX4.f1
 have yf0 := hY4.f0
 have yf1 := hY4.f1
 have z0 := hZ4.c0
 have z1 := hZ4.c1
 have zf0 := hZ4.f0
 have zf1 := hZ4.f1
 clear hb4 hX4 hY4 hZ4
 go_wp2
 have hZz := HZ4.out.set2 (u := .bool c) (v := .string r)
 have q0 := hZz.c0
 have q1 := hZz.c1
 exact bodyPost_ret (v := .tuple #[.agg #[.bool c, .string r], .int .i64 0]) (by simp [results, Tryz.results183, go_sem, q0, q1]) rfl ⟨rfl, (HB4.out.setCell (p := ⟨w.heap.size + 1 + 1, 0, none⟩) (by simp; omega) _).setCell (p := ⟨w.heap.size + 1 + 1, 1, none⟩) (by simp; omega) _⟩
theorem int_AddH (x y : Int) (hx : x.natAbs < 256 ^ 100) (hy : y.natAbs < 256 ^ 100) (w : World) : Calls Tryz.prog 183 #[intV x, intV y] w (Ret (.tuple #[intV (x + y), .int .i64 0]) w) := by
 cases h : (decide (x < 0) == decide (y < 0)) with
 | true => exact int_Add_sameH x y hx hy h w
 | false =>
  by_cases hge : y.natAbs ≤ x.natAbs
  · exact int_Add_geH x y hx hy h hge w
  · exact int_Add_ltH x y hx hy h (by omega) w
theorem int_Add (x y : Int) (hx : x.natAbs < 18446744073709551616) (hy : y.natAbs < 18446744073709551616) (w : World) : Calls Tryz.prog 183 #[intV x, intV y] w (Ret (.tuple #[intV (x + y), .int .i64 0]) w) := int_AddH x y (lt8_h hx) (lt8_h hy) w
theorem int_Sub (x y : Int) (hx : x.natAbs < 18446744073709551616) (hy : y.natAbs < 18446744073709551616) (w : World) : Calls Tryz.prog 182 #[intV x, intV y] w (Ret (.tuple #[intV (x - y), .int .i64 0]) w) := by
 have HBO := Hq (int_both x y (lt128_of_lt8 hx) (lt128_of_lt8 hy))
 have HNG := Hq (int_Neg y (lt128_of_lt8 hy))
 have HAD := Hq (int_Add x (-y) hx (by rw [Int.natAbs_neg]; exact hy))
 rw [← Int.sub_eq_add_neg] at HAD
 unfold intV zV at *
 obtain ⟨a, ha⟩ : ∃ a, decide (x < 0) = a := ⟨_, rfl⟩
 obtain ⟨b, hb⟩ : ∃ b, decide (y < 0) = b := ⟨_, rfl⟩
 obtain ⟨s, hs⟩ : ∃ s, nS x.natAbs = s := ⟨_, rfl⟩
 obtain ⟨t, ht⟩ : ∃ t, nS y.natAbs = t := ⟨_, rfl⟩
 obtain ⟨c, hc⟩ : ∃ c, decide (x - y < 0) = c := ⟨_, rfl⟩
 obtain ⟨r, hr⟩ : ∃ r, nS (x - y).natAbs = r := ⟨_, rfl⟩
 obtain ⟨d, hd⟩ : ∃ d, decide (-y < 0) = d := ⟨_, rfl⟩
 obtain ⟨q, hq⟩ : ∃ q, nS (-y).natAbs = q := ⟨_, rfl⟩
 rw [ha, hs, hb, ht] at HBO
 rw [hb, ht, hd, hq] at HNG
 rw [ha, hs, hd, hq, hc, hr] at HAD
 rw [ha, hs, hb, ht, hc, hr]
 clear ha hs hb ht hc hr hq hd hx hy
 go_enter Tryz.func182, Tryz.ntmps182
 go_wp2_with fail
 obtain ⟨W0, hW0⟩ : ∃ W0, ((w.alloc (.cells #[.bool a, .string s] 104)).alloc (.cells #[.bool b, .string t] 104)).alloc (.cells #[.bool false, .string ⟨#[]⟩] 104) = W0 := ⟨_, rfl⟩
 have HX0 := Hq (show Bx2 W0 w.heap.size (.bool a) (.string s) 104 from by
  rw [← hW0]
  exact ((Bx2.new w (.bool a) (.string s) 104).kept ((Below.refl _ _).alloc (Nat.le_refl _) _) (by simp)).kept ((Below.refl _ _).alloc (Nat.le_refl _) _) (by simp; omega))
 have HY0 := Hq (show Bx2 W0 (w.heap.size + 1) (.bool b) (.string t) 104 from by
  rw [← hW0]
  have := Bx2.new (w.alloc (.cells #[.bool a, .string s] 104)) (.bool b) (.string t) 104
  rw [World.size_alloc] at this
  exact this.kept ((Below.refl _ _).alloc (Nat.le_refl _) _) (by simp))
 have HZ0 := Hq (show Bx2 W0 (w.heap.size + 1 + 1) (.bool false) (.string ⟨#[]⟩) 104 from by
  rw [← hW0]
  have := Bx2.new ((w.alloc (.cells #[.bool a, .string s] 104)).alloc (.cells #[.bool b, .string t] 104)) (.bool false) (.string ⟨#[]⟩) 104
  rw [World.size_alloc, World.size_alloc] at this
  exact this)
 have HB0 := Hq (show Below w.heap.size w W0 from by
  rw [← hW0]
  exact (((Below.refl w.heap.size w).alloc (Nat.le_refl _) _).alloc (by simp) _).alloc (by simp; omega) _)
 rw [hW0]
 clear hW0
 refine (HBO.out _).mono ?_
 rintro e w1 ⟨rfl, hb1⟩
 have hX1 := HX0.out.next hb1
 have hY1 := HY0.out.next hb1
 have hZ1 := HZ0.out.next hb1
 have HX1 := Hq hX1
 have HY1 := Hq hY1
 have HZ1 := Hq hZ1
 have HB1 := Hq (HB0.out.trans (hb1.mono HB0.out.size))
 have x0 := hX1.c0
 have x1 := hX1.c1
 have y0 := hY1.c0
 have y1 := hY1.c1
 have xf0 := hX1.f0
 have xf1 := hX1.f1
 have yf0 := hY1.f0
 have yf1 := hY1.f1
 have z0 := hZ1.c0
 have z1 := hZ1.c1
 have zf0 := hZ1.f0
 have zf1 := hZ1.f1
 clear hb1 hX1 hY1 hZ1
 go_wp2
 have hX1d : Bx2 w1.drew w.heap.size (.bool a) (.string s) 104 := HX1.out
 have hY1d : Bx2 w1.drew (w.heap.size + 1) (.bool b) (.string t) 104 := HY1.out
 have hZ1d : Bx2 w1.drew (w.heap.size + 1 + 1) (.bool false) (.string ⟨#[]⟩) 104 := HZ1.out
 clear x0 x1 y0 y1 xf0 xf1 yf0 yf1 z0 z1 zf0 zf1
 have x0 := hX1d.c0
 have x1 := hX1d.c1
 have y0 := hY1d.c0
 have y1 := hY1d.c1
 have HZD := Hq hZ1d
 clear hX1d hY1d hZ1d
 refine wp_region_K 6 (Below (w1.drew).heap.size (w1.drew)) (by kernel_rfl) ?_
 intro hD
 refine qT 0 7 rfl hD (Below.refl _ _) (by intro w' hS'; have e0 := cell_kept hS' (Nat.le_refl _) x0; have e1 := cell_kept hS' (Nat.le_refl _) x1; have e2 := cell_kept hS' (Nat.le_refl _) y0; have e3 := cell_kept hS' (Nat.le_refl _) y1; go_simp; with_reducible rfl) ?_
 clear hD; intro hD
 simp only [Act.put, sqA, sqB, sqC]
 refine qT 1 6 rfl hD (Below.refl _ _) (by intro w' hS'; have e0 := cell_kept hS' (Nat.le_refl _) x0; have e1 := cell_kept hS' (Nat.le_refl _) x1; have e2 := cell_kept hS' (Nat.le_refl _) y0; have e3 := cell_kept hS' (Nat.le_refl _) y1; go_simp; with_reducible rfl) ?_
 clear hD; intro hD
 simp only [Act.put, sqA, sqB, sqC]
 refine wpAnyK_one (i := 2) (fuel := 5) (by kernel_rfl) rfl hD ?_; clear hD; intro K2 hK2
 go_wp2_with fail
 refine (HNG.out _).mono ?_
 rintro e w2 ⟨rfl, hb2⟩
 have HB2 := Hq hb2
 clear hb2
 go_wp2
 refine hK2 _ _ (by exact HB2.out) ?_; clear hK2; intro hS_3_2 hD
 refine wpAnyK_one (i := 3) (fuel := 4) (by kernel_rfl) rfl hD ?_; clear hD; intro K3 hK3
 go_wp2_with fail
 refine (HAD.out _).mono ?_
 rintro e w3 ⟨rfl, hb3⟩
 have HB3 := Hq hb3
 have hZ3 := (HZD.out.next HB2.out).next hb3
 have z0 := hZ3.c0
 have z1 := hZ3.c1
 have zf0 := hZ3.f0
 have zf1 := hZ3.f1
 have HZ3 := Hq hZ3
 clear hb3 hZ3
 go_wp2
 refine hK3 _ _ (by exact Below.trans hS_3_2 (Below.mono HB3.out (Below.size hS_3_2))) ?_; clear hK3; intro hS_3_3 hD
 refine qP 4 3 rfl hD hS_3_3 ?_
 clear hD; intro hD
 simp only [Act.put, sqA, sqB, sqC]
 refine qP 5 2 rfl hD hS_3_3 ?_
 clear hD; intro hD
 simp only [Act.put, sqA, sqB, sqC]
 refine wpAnyK_oneT (i := 6) (fuel := 1) (by kernel_rfl) rfl hD (by kernel_rfl) ?_; clear hD; intro K6 hK6
 go_wp2
 refine hK6 _ _ ?_; clear hK6; intro hD
 refine wpAnyK_oneT (i := 7) (fuel := 0) (by kernel_rfl) rfl hD (by kernel_rfl) ?_; clear hD; intro K7 hK7
 go_wp2
 refine hK7 _ _ ?_; clear hK7; intro hD
 refine wpAnyK_done (by kernel_rfl) ?_ 0
 clear hD
 have HB4 := Hq ((HB1.out.drew.trans (HB2.out.mono (by exact HB1.out.size))).trans (HB3.out.mono (Nat.le_trans (show w.heap.size ≤ w1.drew.heap.size from HB1.out.size) HB2.out.size)))
 go_wp2
 have HZ4 := HZ3
 have hZz := HZ4.out.set2 (u := .bool c) (v := .string r)
 have q0 := hZz.c0
 have q1 := hZz.c1
 exact bodyPost_ret (v := .tuple #[.agg #[.bool c, .string r], .int .i64 0]) (by simp [results, Tryz.results182, go_sem, q0, q1]) rfl ⟨rfl, (HB4.out.setCell (p := ⟨w.heap.size + 1 + 1, 0, none⟩) (by simp; omega) _).setCell (p := ⟨w.heap.size + 1 + 1, 1, none⟩) (by simp; omega) _⟩
end Go.Proofs.YtehflcnjnnhojaaGreat
namespace Go.Proofs.YtehflcnjnnhojaaGreat
open Go.RowKit
theorem nat_DivModA (x y : Nat) (hx : x < 256 ^ 128) (hy : y < 256 ^ 128) (h0 : 0 < y) (w : World) : Calls Tryz.prog 98 #[.string (nS x), .string (nS y)] w (Ret (.tuple #[.string (nS (x / y)), .string (nS (x % y)), .int .i64 0]) w) := by
 have HD := Hq (nat_dividedA x y hx hy h0)
 have hem := empty_nS h0
 have hs1 := nS_size_le.2 hx
 have hs2 := nS_size_le.2 hy
 have HV1 := Hq (nvalid_nS.2 hx)
 have HV2 := Hq (nvalid_nS.2 hy)
 obtain ⟨s, hs⟩ : ∃ s, nS x = s := ⟨_, rfl⟩
 obtain ⟨t, ht⟩ : ∃ t, nS y = t := ⟨_, rfl⟩
 rw [hs] at hs1 HV1 HD ⊢
 rw [ht] at hs2 HV2 hem HD ⊢
 clear hs ht hx hy
 go_enter Tryz.func98, Tryz.ntmps98
 go_wp2_with fail
 refine (nat_Valid s (by omega) _).mono ?_
 rintro e w1 ⟨rfl, rfl⟩
 rw [HV1.out]
 go_wp2_with fail
 refine (nat_Valid t (by omega) _).mono ?_
 rintro e w1 ⟨rfl, rfl⟩
 rw [HV2.out]
 go_wp2_with fail
 refine (HD.out _).mono ?_
 rintro e w1 ⟨rfl, hb⟩
 have HB := Hq hb
 clear hb
 go_wp2
 go_ret3
 exact ⟨rfl, HB.out⟩
end Go.Proofs.YtehflcnjnnhojaaGreat
namespace Go.Proofs.YtehflcnjnnhojaaGreat
set_option maxRecDepth 100000
set_option maxHeartbeats 2000000
open Go.RowKit Go.Shelf
attribute [local go_sem] Oper.semAt_some
def dv (l : List Bool) : Nat := l.foldl (fun v b => 2 * v + (if b then 1 else 0)) 0
theorem dv_snoc (l : List Bool) (b : Bool) : dv (l ++ [b]) = 2 * dv l + (if b then 1 else 0) := by simp [dv]
theorem dv_step {n e : Nat} {pre : List Bool} (h : dv pre = n / 2 ^ (e + 1)) : dv (pre ++ [bitB n e]) = n / 2 ^ e := by
 rw [dv_snoc, h]
 unfold bitB
 rw [Nat.pow_succ, ← Nat.div_div_eq_div_mul]
 simp only [beq_iff_eq]
 split <;> omega
def KpD (D : Nat) (W W' : World) : Prop := W'.heap[D]? = W.heap[D]?
theorem digits_stops (k n : Nat) (hn : n < 256 ^ 128) (hk : 1 ≤ k) (D : Nat) (w : World) (hD : w.heap[D]? = some (.cells #[.string (nS n)] 22 (0, 0))) :
 SeqStopsK Fence.wide k Tryz.prog 219 #[.pointer (some ⟨D, 0, none⟩)] (fun b : Bool => #[Value.bool b]) (KpD D) (fun xs => dv xs = n) (fun _ => True) (blen n) w := fun l J Jx W hW hJ hJx hY h0 => by
 have HBS := Hq (nat_Bits n hn)
 have hb := hW
 have HBT := Hq (fun i hi => nat_Bit n i hn hi)
 have hDW : W.heap[D]? = some (.cells #[.string (nS n)] 22 (0, 0)) := by rw [hW.block D (block_lt hD)]; exact hD
 have hcl : ∀ W' : World, W'.heap[D]? = some (.cells #[.string (nS n)] 22 (0, 0)) → W'.cell? ⟨D, 0, none⟩ = some (.string (nS n)) := fun W' h => by rw [Lib.cell_of_heap h]; rfl
 have HCL := Hq hcl
 have c0 := hcl W hDW
 have HE0 := Hq (show n / 2 ^ blen n = 0 from Nat.div_eq_of_lt (blen_lt n))
 have hbn : blen n ≤ 1024 := blen_le8 (k := 128) hn
 obtain ⟨s, hs⟩ : ∃ s, nS n = s := ⟨_, rfl⟩
 rw [hs] at HBS HBT HCL c0 hDW
 obtain ⟨B, hB⟩ : ∃ B, blen n = B := ⟨_, rfl⟩
 rw [hB] at HBS HE0 hbn hY
 have HY := Hq hY
 clear hY hcl hs hB hD hn hW hb
 refine callsIn_of_wp Tryz.func219 rfl trivial ?_ rfl
 simp only [Tryz.ntmps219, List.size_toArray, List.length_cons, List.length_nil, Nat.reduceAdd, Nat.reduceSub, Array.replicate_succ, Array.replicate_zero, List.push_toArray, List.append_toArray, List.nil_append, List.cons_append]
 gi_wp2
 refine ⟨trivial, callsIn_wide.2 ((HBS.out _).mono ?_)⟩
 rintro e w' ⟨rfl, rfl⟩
 gi_wp2
 gi_loopw [3] (fun i wr => ∃ (K : Nat) (pre : List Bool), K ≤ B ∧ i = .int .i64 ((K : Int) - 1) ∧ pre.length + K = B ∧ dv pre = n / 2 ^ K ∧ wr.heap[D]? = some (.cells #[.string s] 22 (0, 0)) ∧ J pre wr) (fun i _ => (intOf i + 1).toNat)
 case atStart => exact ⟨B, [], Nat.le_refl _, by go_num, by simp, by rw [HE0.out]; rfl, hDW, h0⟩
 case round =>
  obtain ⟨K, pre, hK, rfl, hlen, hdv, hDr, hJr⟩ := hrel
  have HDV := Hq hdv
  have HLEN := Hq hlen
  have HDR := Hq hDr
  have c1 := HCL.out _ hDr
  clear hdv hlen hDr
  by_cases hlt : 0 < K
  · obtain ⟨e, rfl⟩ : ∃ e, K = e + 1 := ⟨K - 1, by omega⟩
    rw [show ((e + 1 : Nat) : Int) - 1 = (e : Int) from by omega]
    have he0 : (0 : Int) ≤ (e : Int) := by omega
    have HST := Hq (dv_step HDV.out)
    obtain ⟨b, hbb⟩ : ∃ b, bitB n e = b := ⟨_, rfl⟩
    have HBE := Hq (HBT.out e (by omega))
    rw [hbb] at HST HBE
    clear hbb
    obtain ⟨fn, tmps, assign, body, hy, hR⟩ := HY.out pre b wr hJr (by have := HLEN.out; omega)
    have HR := Hq hR
    clear hR
    gi_wp2
    refine ⟨trivial, callsIn_wide.2 ((HBE.out _).mono ?_)⟩
    rintro ev w' ⟨rfl, rfl⟩
    gi_wp2
    refine HR.out.mono ?_
    rintro ev W' (⟨rfl, hJ', hk'⟩ | ⟨rfl, hJx'⟩)
    · have HJ' := Hq hJ'
      have HK' := Hq hk'
      clear hJ' hk'
      gi_wp2
      go_roundw
      case rel => exact ⟨e, pre ++ [b], by omega, by go_num, by have := HLEN.out; simp; omega, HST.out, by rw [HK'.out]; exact HDR.out, HJ'.out⟩
      case measure => simp [intOf] <;> omega
    · gi_wp2
      refine bodyPost_ret (results_none rfl _ _ _) rfl ?_
      exact ⟨⟨_, rfl⟩, .inr ⟨pre ++ [b], trivial, hJx'⟩⟩
  · obtain rfl : K = 0 := by omega
    have hneg : ((0 : Nat) : Int) - 1 = -1 := rfl
    rw [hneg]
    gi_wp2
    go_end0
    exact ⟨⟨_, rfl⟩, .inl ⟨pre, by rw [HDV.out, Nat.pow_zero, Nat.div_one], hJr⟩⟩
end Go.Proofs.YtehflcnjnnhojaaGreat

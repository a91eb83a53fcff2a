/- Walks: integer.Add, Mul, Mod of any numbers. -/
import Derived.Test.YtnnfgphioapmnaaLdF
import Derived.Test.YtnnfgphioapmnaaPeT
set_option linter.unusedVariables false
set_option linter.unusedSimpArgs false
namespace Go.Proofs.Ytnnfgphioapmnaa
open Go.RowKit

set_option maxRecDepth 100000 in
set_option maxHeartbeats 1000000 in
theorem int_Add_sameA (x y : Int) (hx : x.natAbs < 256 ^ 128) (hy : y.natAbs < 256 ^ 128) (hsg : (decide (x < 0) == decide (y < 0)) = true) (k : Nat) (rc : Int) (hk1 : fitR (x.natAbs + y.natAbs) = .tuple #[.string (nS k), .int .i64 rc]) (w : World) : Calls Try.prog 38 #[intV x, intV y] w (Ret (.tuple #[intV (sg (decide (x < 0)) k), .int .i64 rc]) w) := by
  have HBO := Lib.hid (int_both x y hx hy)
  have HMM := Lib.hid (nat_Add x.natAbs y.natAbs hx hy)
  rw [hk1] at HMM
  have HMD := Lib.hid (int_made_n (decide (x < 0)) k)
  have HS := Lib.hid hsg
  clear hsg hk1
  unfold intV zV at *
  obtain ⟨a, ha⟩ : ∃ a, decide (x < 0) = a := ⟨_, rfl⟩
  obtain ⟨b, hb⟩ : ∃ b, decide (y < 0) = b := ⟨_, rfl⟩
  obtain ⟨s, hs⟩ : ∃ s, nS x.natAbs = s := ⟨_, rfl⟩
  obtain ⟨t, ht⟩ : ∃ t, nS y.natAbs = t := ⟨_, rfl⟩
  obtain ⟨c, hc⟩ : ∃ c, decide (sg (decide (x < 0)) k < 0) = c := ⟨_, rfl⟩
  obtain ⟨r, hr⟩ : ∃ r, nS (sg (decide (x < 0)) k).natAbs = r := ⟨_, rfl⟩
  obtain ⟨q, hq⟩ : ∃ q, nS k = q := ⟨_, rfl⟩
  rw [ha, hs, hb, ht] at HBO
  rw [hs, ht, hq] at HMM
  rw [hq, hr, hc, ha] at HMD
  rw [ha, hb] at HS
  rw [hc, hr, ha, hs, hb, ht]
  have hsg := HS.out
  clear ha hs hb ht hc hr hq hx hy
  go_enter Try.func38, Try.ntmps38
  go_wp2_with fail
  obtain ⟨W0, hW0⟩ : ∃ W0, ((w.alloc (.cells #[.bool a, .string s] 38)).alloc (.cells #[.bool b, .string t] 38)).alloc (.cells #[.bool false, .string ⟨#[]⟩] 38) = W0 := ⟨_, rfl⟩
  have HX0 := Lib.hid (show Bx2 W0 w.heap.size (.bool a) (.string s) 38 from by
    rw [← hW0]
    exact ((Bx2.new w (.bool a) (.string s) 38).kept ((Below.refl _ _).alloc (Nat.le_refl _) _) (by simp)).kept ((Below.refl _ _).alloc (Nat.le_refl _) _) (by simp; omega))
  have HY0 := Lib.hid (show Bx2 W0 (w.heap.size + 1) (.bool b) (.string t) 38 from by
    rw [← hW0]
    have := Bx2.new (w.alloc (.cells #[.bool a, .string s] 38)) (.bool b) (.string t) 38
    rw [World.size_alloc] at this
    exact this.kept ((Below.refl _ _).alloc (Nat.le_refl _) _) (by simp))
  have HZ0 := Lib.hid (show Bx2 W0 (w.heap.size + 1 + 1) (.bool false) (.string ⟨#[]⟩) 38 from by
    rw [← hW0]
    have := Bx2.new ((w.alloc (.cells #[.bool a, .string s] 38)).alloc (.cells #[.bool b, .string t] 38)) (.bool false) (.string ⟨#[]⟩) 38
    rw [World.size_alloc, World.size_alloc] at this
    exact this)
  have HB0 := Lib.hid (show Below w.heap.size w W0 from by
    rw [← hW0]
    exact (((Below.refl w.heap.size w).alloc (Nat.le_refl _) _).alloc (by simp) _).alloc (by simp; omega) _)
  rw [hW0]
  clear hW0
  refine (HBO.out _).mono ?_
  rintro e w1 ⟨rfl, hb1⟩
  have hX1 := HX0.out.next hb1
  have hY1 := HY0.out.next hb1
  have hZ1 := HZ0.out.next hb1
  have HX1 := Lib.hid hX1
  have HY1 := Lib.hid hY1
  have HZ1 := Lib.hid hZ1
  have HB1 := Lib.hid (HB0.out.trans (hb1.mono HB0.out.size))
  have x0 := hX1.c0
  have x1 := hX1.c1
  have y0 := hY1.c0
  have y1 := hY1.c1
  have xf0 := hX1.f0
  have xf1 := hX1.f1
  have yf0 := hY1.f0
  have yf1 := hY1.f1
  have z0 := hZ1.c0
  have z1 := hZ1.c1
  have zf0 := hZ1.f0
  have zf1 := hZ1.f1
  clear hb1 hX1 hY1 hZ1
  go_wp2_with fail
  refine (HMM.out _).mono ?_
  rintro e w2 ⟨rfl, hb2⟩
  clear x0 x1 y0 y1 xf0 xf1 yf0 yf1 z0 z1 zf0 zf1
  have hX2 := HX1.out.next hb2
  have hY2 := HY1.out.next hb2
  have hZ2 := HZ1.out.next hb2
  have HX2 := Lib.hid hX2
  have HY2 := Lib.hid hY2
  have HZ2 := Lib.hid hZ2
  have HB2 := Lib.hid (HB1.out.trans (hb2.mono HB1.out.size))
  have x0 := hX2.c0
  have x1 := hX2.c1
  have y0 := hY2.c0
  have y1 := hY2.c1
  have xf0 := hX2.f0
  have xf1 := hX2.f1
  have yf0 := hY2.f0
  have yf1 := hY2.f1
  have z0 := hZ2.c0
  have z1 := hZ2.c1
  have zf0 := hZ2.f0
  have zf1 := hZ2.f1
  clear hb2 hX2 hY2 hZ2
  go_wp2_with fail
  refine (HMD.out _).mono ?_
  rintro e w3 ⟨rfl, hb3⟩
  clear x0 x1 y0 y1 xf0 xf1 yf0 yf1 z0 z1 zf0 zf1
  have hX3 := HX2.out.next hb3
  have hY3 := HY2.out.next hb3
  have hZ3 := HZ2.out.next hb3
  have HX3 := Lib.hid hX3
  have HY3 := Lib.hid hY3
  have HZ3 := Lib.hid hZ3
  have HB3 := Lib.hid (HB2.out.trans (hb3.mono HB2.out.size))
  have x0 := hX3.c0
  have x1 := hX3.c1
  have y0 := hY3.c0
  have y1 := hY3.c1
  have xf0 := hX3.f0
  have xf1 := hX3.f1
  have yf0 := hY3.f0
  have yf1 := hY3.f1
  have z0 := hZ3.c0
  have z1 := hZ3.c1
  have zf0 := hZ3.f0
  have zf1 := hZ3.f1
  clear hb3 hX3 hY3 hZ3
  go_wp2
  have hZz := HZ3.out.set2 (u := .bool c) (v := .string r)
  have q0 := hZz.c0
  have q1 := hZz.c1
  exact bodyPost_ret (v := .tuple #[.agg #[.bool c, .string r], .int .i64 rc]) (by simp [results, Try.results38, go_sem, q0, q1]) rfl ⟨rfl, (HB3.out.setCell (p := ⟨w.heap.size + 1 + 1, 0, none⟩) (by simp; omega) _).setCell (p := ⟨w.heap.size + 1 + 1, 1, none⟩) (by simp; omega) _⟩
set_option maxRecDepth 100000 in
set_option maxHeartbeats 1000000 in
theorem int_Add_geA (x y : Int) (hx : x.natAbs < 256 ^ 128) (hy : y.natAbs < 256 ^ 128) (hsg : (decide (x < 0) == decide (y < 0)) = false) (hge : y.natAbs ≤ x.natAbs) (w : World) : Calls Try.prog 38 #[intV x, intV y] w (Ret (.tuple #[intV (x + y), .int .i64 0]) w) := by
  have HBO := Lib.hid (int_both x y hx hy)
  have HCM := Lib.hid (nat_Cmp (nS x.natAbs) (nS y.natAbs) (by have := nS_size_le.2 hx; omega) (by have := nS_size_le.2 hy; omega))
  rw [ncmp_n hx hy] at HCM
  have HMM := Lib.hid (nat_Sub_ge x.natAbs y.natAbs hx hy hge)
  have HMD := Lib.hid (int_made_n (decide (x < 0)) (x.natAbs - y.natAbs))
  have HE := sg_diff hsg hge
  rw [HE] at HMD
  have HS := Lib.hid hsg
  have hcg := cmpI_nonneg hge
  obtain ⟨k, hk⟩ : ∃ k, cmpI x.natAbs y.natAbs = k := ⟨_, rfl⟩
  rw [hk] at HCM hcg
  clear HE hsg hge hk
  unfold intV zV at *
  obtain ⟨a, ha⟩ : ∃ a, decide (x < 0) = a := ⟨_, rfl⟩
  obtain ⟨b, hb⟩ : ∃ b, decide (y < 0) = b := ⟨_, rfl⟩
  obtain ⟨s, hs⟩ : ∃ s, nS x.natAbs = s := ⟨_, rfl⟩
  obtain ⟨t, ht⟩ : ∃ t, nS y.natAbs = t := ⟨_, rfl⟩
  obtain ⟨c, hc⟩ : ∃ c, decide (x + y < 0) = c := ⟨_, rfl⟩
  obtain ⟨r, hr⟩ : ∃ r, nS (x + y).natAbs = r := ⟨_, rfl⟩
  obtain ⟨q, hq⟩ : ∃ q, nS (x.natAbs - y.natAbs) = q := ⟨_, rfl⟩
  rw [ha, hs, hb, ht] at HBO
  rw [hs, ht] at HCM
  rw [hs, ht, hq] at HMM
  rw [ha, hq, hr, hc] at HMD
  rw [ha, hb] at HS
  rw [ha, hs, hb, ht, hc, hr]
  have hsg := HS.out
  clear ha hs hb ht hc hr hq hx hy
  go_enter Try.func38, Try.ntmps38
  go_wp2_with fail
  obtain ⟨W0, hW0⟩ : ∃ W0, ((w.alloc (.cells #[.bool a, .string s] 38)).alloc (.cells #[.bool b, .string t] 38)).alloc (.cells #[.bool false, .string ⟨#[]⟩] 38) = W0 := ⟨_, rfl⟩
  have HX0 := Lib.hid (show Bx2 W0 w.heap.size (.bool a) (.string s) 38 from by
    rw [← hW0]
    exact ((Bx2.new w (.bool a) (.string s) 38).kept ((Below.refl _ _).alloc (Nat.le_refl _) _) (by simp)).kept ((Below.refl _ _).alloc (Nat.le_refl _) _) (by simp; omega))
  have HY0 := Lib.hid (show Bx2 W0 (w.heap.size + 1) (.bool b) (.string t) 38 from by
    rw [← hW0]
    have := Bx2.new (w.alloc (.cells #[.bool a, .string s] 38)) (.bool b) (.string t) 38
    rw [World.size_alloc] at this
    exact this.kept ((Below.refl _ _).alloc (Nat.le_refl _) _) (by simp))
  have HZ0 := Lib.hid (show Bx2 W0 (w.heap.size + 1 + 1) (.bool false) (.string ⟨#[]⟩) 38 from by
    rw [← hW0]
    have := Bx2.new ((w.alloc (.cells #[.bool a, .string s] 38)).alloc (.cells #[.bool b, .string t] 38)) (.bool false) (.string ⟨#[]⟩) 38
    rw [World.size_alloc, World.size_alloc] at this
    exact this)
  have HB0 := Lib.hid (show Below w.heap.size w W0 from by
    rw [← hW0]
    exact (((Below.refl w.heap.size w).alloc (Nat.le_refl _) _).alloc (by simp) _).alloc (by simp; omega) _)
  rw [hW0]
  clear hW0
  refine (HBO.out _).mono ?_
  rintro e w1 ⟨rfl, hb1⟩
  have hX1 := HX0.out.next hb1
  have hY1 := HY0.out.next hb1
  have hZ1 := HZ0.out.next hb1
  have HX1 := Lib.hid hX1
  have HY1 := Lib.hid hY1
  have HZ1 := Lib.hid hZ1
  have HB1 := Lib.hid (HB0.out.trans (hb1.mono HB0.out.size))
  have x0 := hX1.c0
  have x1 := hX1.c1
  have y0 := hY1.c0
  have y1 := hY1.c1
  have xf0 := hX1.f0
  have xf1 := hX1.f1
  have yf0 := hY1.f0
  have yf1 := hY1.f1
  have z0 := hZ1.c0
  have z1 := hZ1.c1
  have zf0 := hZ1.f0
  have zf1 := hZ1.f1
  clear hb1 hX1 hY1 hZ1
  go_wp2_with fail
  refine (HCM.out _).mono ?_
  rintro e w2 ⟨rfl, rfl⟩
  go_wp2_with fail
  refine (HMM.out _).mono ?_
  rintro e w2 ⟨rfl, hb2⟩
  clear x0 x1 y0 y1 xf0 xf1 yf0 yf1 z0 z1 zf0 zf1
  have hX2 := HX1.out.next hb2
  have hY2 := HY1.out.next hb2
  have hZ2 := HZ1.out.next hb2
  have HX2 := Lib.hid hX2
  have HY2 := Lib.hid hY2
  have HZ2 := Lib.hid hZ2
  have HB2 := Lib.hid (HB1.out.trans (hb2.mono HB1.out.size))
  have x0 := hX2.c0
  have x1 := hX2.c1
  have y0 := hY2.c0
  have y1 := hY2.c1
  have xf0 := hX2.f0
  have xf1 := hX2.f1
  have yf0 := hY2.f0
  have yf1 := hY2.f1
  have z0 := hZ2.c0
  have z1 := hZ2.c1
  have zf0 := hZ2.f0
  have zf1 := hZ2.f1
  clear hb2 hX2 hY2 hZ2
  go_wp2_with fail
  refine (HMD.out _).mono ?_
  rintro e w3 ⟨rfl, hb3⟩
  clear x0 x1 y0 y1 xf0 xf1 yf0 yf1 z0 z1 zf0 zf1
  have hX3 := HX2.out.next hb3
  have hY3 := HY2.out.next hb3
  have hZ3 := HZ2.out.next hb3
  have HX3 := Lib.hid hX3
  have HY3 := Lib.hid hY3
  have HZ3 := Lib.hid hZ3
  have HB3 := Lib.hid (HB2.out.trans (hb3.mono HB2.out.size))
  have x0 := hX3.c0
  have x1 := hX3.c1
  have y0 := hY3.c0
  have y1 := hY3.c1
  have xf0 := hX3.f0
  have xf1 := hX3.f1
  have yf0 := hY3.f0
  have yf1 := hY3.f1
  have z0 := hZ3.c0
  have z1 := hZ3.c1
  have zf0 := hZ3.f0
  have zf1 := hZ3.f1
  clear hb3 hX3 hY3 hZ3
  go_wp2
  have hZz := HZ3.out.set2 (u := .bool c) (v := .string r)
  have q0 := hZz.c0
  have q1 := hZz.c1
  exact bodyPost_ret (v := .tuple #[.agg #[.bool c, .string r], .int .i64 0]) (by simp [results, Try.results38, go_sem, q0, q1]) rfl ⟨rfl, (HB3.out.setCell (p := ⟨w.heap.size + 1 + 1, 0, none⟩) (by simp; omega) _).setCell (p := ⟨w.heap.size + 1 + 1, 1, none⟩) (by simp; omega) _⟩
set_option maxRecDepth 100000 in
set_option maxHeartbeats 1000000 in
theorem int_Add_ltA (x y : Int) (hx : x.natAbs < 256 ^ 128) (hy : y.natAbs < 256 ^ 128) (hsg : (decide (x < 0) == decide (y < 0)) = false) (hlt : x.natAbs < y.natAbs) (w : World) : Calls Try.prog 38 #[intV x, intV y] w (Ret (.tuple #[intV (x + y), .int .i64 0]) w) := by
  have HBO := Lib.hid (int_both x y hx hy)
  have HCM := Lib.hid (nat_Cmp (nS x.natAbs) (nS y.natAbs) (by have := nS_size_le.2 hx; omega) (by have := nS_size_le.2 hy; omega))
  rw [ncmp_n hx hy, cmpI_lt hlt] at HCM
  have HMM := Lib.hid (nat_Sub_ge y.natAbs x.natAbs hy hx (Nat.le_of_lt hlt))
  have HMD := Lib.hid (int_made_n (decide (y < 0)) (y.natAbs - x.natAbs))
  have HE := sg_diff (x := y) (y := x) (by rw [Bool.beq_comm]; exact hsg) (Nat.le_of_lt hlt)
  rw [HE, Int.add_comm] at HMD
  have HS := Lib.hid hsg
  clear HE hsg hlt
  unfold intV zV at *
  obtain ⟨a, ha⟩ : ∃ a, decide (x < 0) = a := ⟨_, rfl⟩
  obtain ⟨b, hb⟩ : ∃ b, decide (y < 0) = b := ⟨_, rfl⟩
  obtain ⟨s, hs⟩ : ∃ s, nS x.natAbs = s := ⟨_, rfl⟩
  obtain ⟨t, ht⟩ : ∃ t, nS y.natAbs = t := ⟨_, rfl⟩
  obtain ⟨c, hc⟩ : ∃ c, decide (x + y < 0) = c := ⟨_, rfl⟩
  obtain ⟨r, hr⟩ : ∃ r, nS (x + y).natAbs = r := ⟨_, rfl⟩
  obtain ⟨q, hq⟩ : ∃ q, nS (y.natAbs - x.natAbs) = q := ⟨_, rfl⟩
  rw [ha, hs, hb, ht] at HBO
  rw [hs, ht] at HCM
  rw [hs, ht, hq] at HMM
  rw [hb, hq, hr, hc] at HMD
  rw [ha, hb] at HS
  rw [ha, hs, hb, ht, hc, hr]
  have hsg := HS.out
  clear ha hs hb ht hc hr hq hx hy
  go_enter Try.func38, Try.ntmps38
  go_wp2_with fail
  obtain ⟨W0, hW0⟩ : ∃ W0, ((w.alloc (.cells #[.bool a, .string s] 38)).alloc (.cells #[.bool b, .string t] 38)).alloc (.cells #[.bool false, .string ⟨#[]⟩] 38) = W0 := ⟨_, rfl⟩
  have HX0 := Lib.hid (show Bx2 W0 w.heap.size (.bool a) (.string s) 38 from by
    rw [← hW0]
    exact ((Bx2.new w (.bool a) (.string s) 38).kept ((Below.refl _ _).alloc (Nat.le_refl _) _) (by simp)).kept ((Below.refl _ _).alloc (Nat.le_refl _) _) (by simp; omega))
  have HY0 := Lib.hid (show Bx2 W0 (w.heap.size + 1) (.bool b) (.string t) 38 from by
    rw [← hW0]
    have := Bx2.new (w.alloc (.cells #[.bool a, .string s] 38)) (.bool b) (.string t) 38
    rw [World.size_alloc] at this
    exact this.kept ((Below.refl _ _).alloc (Nat.le_refl _) _) (by simp))
  have HZ0 := Lib.hid (show Bx2 W0 (w.heap.size + 1 + 1) (.bool false) (.string ⟨#[]⟩) 38 from by
    rw [← hW0]
    have := Bx2.new ((w.alloc (.cells #[.bool a, .string s] 38)).alloc (.cells #[.bool b, .string t] 38)) (.bool false) (.string ⟨#[]⟩) 38
    rw [World.size_alloc, World.size_alloc] at this
    exact this)
  have HB0 := Lib.hid (show Below w.heap.size w W0 from by
    rw [← hW0]
    exact (((Below.refl w.heap.size w).alloc (Nat.le_refl _) _).alloc (by simp) _).alloc (by simp; omega) _)
  rw [hW0]
  clear hW0
  refine (HBO.out _).mono ?_
  rintro e w1 ⟨rfl, hb1⟩
  have hX1 := HX0.out.next hb1
  have hY1 := HY0.out.next hb1
  have hZ1 := HZ0.out.next hb1
  have HX1 := Lib.hid hX1
  have HY1 := Lib.hid hY1
  have HZ1 := Lib.hid hZ1
  have HB1 := Lib.hid (HB0.out.trans (hb1.mono HB0.out.size))
  have x0 := hX1.c0
  have x1 := hX1.c1
  have y0 := hY1.c0
  have y1 := hY1.c1
  have xf0 := hX1.f0
  have xf1 := hX1.f1
  have yf0 := hY1.f0
  have yf1 := hY1.f1
  have z0 := hZ1.c0
  have z1 := hZ1.c1
  have zf0 := hZ1.f0
  have zf1 := hZ1.f1
  clear hb1 hX1 hY1 hZ1
  go_wp2_with fail
  refine (HCM.out _).mono ?_
  rintro e w2 ⟨rfl, rfl⟩
  go_wp2_with fail
  clear x0 x1 y0 y1 xf0 xf1 yf0 yf1 z0 z1 zf0 zf1
  obtain ⟨wS, hwS⟩ : ∃ wS, ((((w1.setCell ⟨w.heap.size, 0, none⟩ (.bool b)).setCell ⟨w.heap.size, 1, none⟩ (.string t)).setCell ⟨w.heap.size + 1, 0, none⟩ (.bool a)).setCell ⟨w.heap.size + 1, 1, none⟩ (.string s)) = wS := ⟨_, rfl⟩
  have HX2 := Lib.hid (show Bx2 wS w.heap.size (.bool b) (.string t) 38 from by rw [← hwS]; exact (HX1.out.set2.other (by omega) _).other (by omega) _)
  have HY2 := Lib.hid (show Bx2 wS (w.heap.size + 1) (.bool a) (.string s) 38 from by rw [← hwS]; exact ((HY1.out.other (by omega) _).other (by omega) _).set2)
  have HZ2 := Lib.hid (show Bx2 wS (w.heap.size + 1 + 1) (.bool false) (.string ⟨#[]⟩) 38 from by rw [← hwS]; exact (((HZ1.out.other (by omega) _).other (by omega) _).other (by omega) _).other (by omega) _)
  have HB2 := Lib.hid (show Below w.heap.size w wS from by rw [← hwS]; exact (((HB1.out.setCell (p := ⟨w.heap.size, 0, none⟩) (Nat.le_refl _) _).setCell (p := ⟨w.heap.size, 1, none⟩) (Nat.le_refl _) _).setCell (p := ⟨w.heap.size + 1, 0, none⟩) (by simp) _).setCell (p := ⟨w.heap.size + 1, 1, none⟩) (by simp) _)
  rw [hwS]
  clear hwS
  refine (HMM.out _).mono ?_
  rintro e w3 ⟨rfl, hb3⟩
  have hX3 := HX2.out.next hb3
  have hY3 := HY2.out.next hb3
  have hZ3 := HZ2.out.next hb3
  have HX3 := Lib.hid hX3
  have HY3 := Lib.hid hY3
  have HZ3 := Lib.hid hZ3
  have HB3 := Lib.hid (HB2.out.trans (hb3.mono HB2.out.size))
  have x0 := hX3.c0
  have x1 := hX3.c1
  have y0 := hY3.c0
  have y1 := hY3.c1
  have xf0 := hX3.f0
  have xf1 := hX3.f1
  have yf0 := hY3.f0
  have yf1 := hY3.f1
  have z0 := hZ3.c0
  have z1 := hZ3.c1
  have zf0 := hZ3.f0
  have zf1 := hZ3.f1
  clear hb3 hX3 hY3 hZ3
  go_wp2_with fail
  refine (HMD.out _).mono ?_
  rintro e w4 ⟨rfl, hb4⟩
  clear x0 x1 y0 y1 xf0 xf1 yf0 yf1 z0 z1 zf0 zf1
  have hX4 := HX3.out.next hb4
  have hY4 := HY3.out.next hb4
  have hZ4 := HZ3.out.next hb4
  have HX4 := Lib.hid hX4
  have HY4 := Lib.hid hY4
  have HZ4 := Lib.hid hZ4
  have HB4 := Lib.hid (HB3.out.trans (hb4.mono HB3.out.size))
  have x0 := hX4.c0
  have x1 := hX4.c1
  have y0 := hY4.c0
  have y1 := hY4.c1
  have xf0 := hX4.f0
  have xf1 := hX4.f1
  have yf0 := hY4.f0
  have yf1 := hY4.f1
  have z0 := hZ4.c0
  have z1 := hZ4.c1
  have zf0 := hZ4.f0
  have zf1 := hZ4.f1
  clear hb4 hX4 hY4 hZ4
  go_wp2
  have hZz := HZ4.out.set2 (u := .bool c) (v := .string r)
  have q0 := hZz.c0
  have q1 := hZz.c1
  exact bodyPost_ret (v := .tuple #[.agg #[.bool c, .string r], .int .i64 0]) (by simp [results, Try.results38, go_sem, q0, q1]) rfl ⟨rfl, (HB4.out.setCell (p := ⟨w.heap.size + 1 + 1, 0, none⟩) (by simp; omega) _).setCell (p := ⟨w.heap.size + 1 + 1, 1, none⟩) (by simp; omega) _⟩
/-- The sum, of any integers. -/
theorem int_AddA (x y : Int) (hx : x.natAbs < 256 ^ 128) (hy : y.natAbs < 256 ^ 128) (w : World) : Calls Try.prog 38 #[intV x, intV y] w (Ret (fitZ (x + y)) w) := by
  cases h : (decide (x < 0) == decide (y < 0)) with
  | true =>
    obtain ⟨k, rc, hk1, hk2⟩ := fitR_cut (x.natAbs + y.natAbs)
    have hab : (x < 0 ↔ y < 0) := decide_eq_decide.1 (eq_of_beq h)
    have hsg : sg (decide (x < 0)) (x.natAbs + y.natAbs) = x + y := by
      unfold sg
      by_cases h1 : x < 0
      · have := hab.1 h1
        rw [decide_eq_true h1, if_pos rfl]; omega
      · have : ¬ y < 0 := fun h => h1 (hab.2 h)
        rw [decide_eq_false h1, if_neg (by decide)]; omega
    rw [hk2 (x + y) _ (by omega) hsg]
    exact int_Add_sameA x y hx hy h k rc hk1 w
  | false =>
    have hab : ¬ (x < 0 ↔ y < 0) := fun e => by rw [decide_eq_decide.2 e, beq_self_eq_true] at h; cases h
    have hf : fitZ (x + y) = .tuple #[intV (x + y), .int .i64 0] := by
      unfold fitZ
      rw [if_pos (by omega)]
    rw [hf]
    by_cases hge : y.natAbs ≤ x.natAbs
    · exact int_Add_geA x y hx hy h hge w
    · exact int_Add_ltA x y hx hy h (by omega) w
/-- The product, of any integers. -/
theorem int_MulA (a b : Int) (ha : a.natAbs < 256 ^ 128) (hb : b.natAbs < 256 ^ 128) (w : World) : Calls Try.prog 48 #[intV a, intV b] w (Ret (fitZ (a * b)) w) := int_MulG a b ha hb (fun w => nat_MulA _ _ ha hb w) w
/-- The remainder, of any integers. -/
theorem int_ModA (z : Int) (m : Nat) (hz : z.natAbs < 256 ^ 128) (hm : m < 256 ^ 128) (h0 : 0 < m) (w : World) : Calls Try.prog 18 #[intV z, .string (nS m)] w (Ret (.tuple #[.string (nS (z % m).toNat), .int .i64 0]) w) := int_ModG z m hz hm h0 (fun w => nat_DivModA _ _ hz hm h0 w) w
end Go.Proofs.Ytnnfgphioapmnaa

/- Walks: modular.Inverse, modular.Power; dominoref02.DivMod, Mod. -/
import Derived.Test.YtndmjfkmnjejkaaGreatDoorQExW
import Derived.Test.YtndmjfkmnjejkaaGreatDoorQExp
set_option linter.unusedVariables false
set_option linter.unusedSimpArgs false
namespace Go.Proofs.YtndmjfkmnjejkaaGreatDoor
open Go.RowKit
def RetI (a m : Nat) (w : World) (e : Ending) (w' : World) : Prop := ∃ x : Nat, e = .returned (.tuple #[.string (nS x), .int .i64 0]) ∧ Below w.heap.size w w' ∧ x < m ∧ a * x % m = 1
set_option maxRecDepth 100000 in
set_option maxHeartbeats 1000000 in
theorem mod_Inverse (a m : Nat) (ham : a < m) (hm8 : m < 18446744073709551616) (h1 : 1 < m) (hg : Nat.gcd a m = 1) (w : World) : Calls Tryz.prog 68 #[.string (nS a), .string (nS m)] w (RetI a m w) := by
  have ha8 : a < 18446744073709551616 := by omega
  have HC := Lib.hid (fun w => check_one w (nS a) (nS m) _ rfl (nS_valid_small ha8) (nS_valid_small hm8) (empty_nS (by omega)) _ rfl)
  have HR := Lib.hid (mod_reduced a m ha8 (lt128_of_lt8 hm8) (by omega))
  rw [Nat.mod_eq_of_lt ham] at HR
  have HE := Lib.hid (int_Extended a m ham hm8)
  have HRX := Lib.hid (fun x (hx : x < 18446744073709551616) => mod_reduced x m hx (lt128_of_lt8 hm8) (by omega))
  have HG := Lib.hid hg
  have HM1 := Lib.hid h1
  obtain ⟨s, hs⟩ : ∃ s, nS a = s := ⟨_, rfl⟩
  obtain ⟨t, ht⟩ : ∃ t, nS m = t := ⟨_, rfl⟩
  rw [hs, ht] at HC HR HE
  rw [ht] at HRX
  rw [hs, ht]
  clear hs ht ham hm8 h1 hg ha8
  go_enter Tryz.func68, Tryz.ntmps68
  go_wp2_with fail
  refine (HC.out w).mono ?_
  rintro e w1 ⟨rfl, hb1⟩
  have HB1 := Lib.hid ((((Below.refl w.heap.size w).alloc (Nat.le_refl _) _).alloc (by simp) _).trans hb1)
  clear hb1
  go_wp2_with fail
  refine (HR.out _).mono ?_
  rintro e w2 ⟨rfl, hb2⟩
  have HB2 := Lib.hid (HB1.out.trans (hb2.mono HB1.out.size))
  clear hb2
  go_wp2_with fail
  refine (HE.out _).mono ?_
  rintro e w3 ⟨x, y, rfl, hb3, hx0, hx8, hbz⟩
  have HB3 := Lib.hid (HB2.out.trans (hb3.mono HB2.out.size))
  rw [HG.out] at hbz
  have HI := Lib.hid (inv_red (inv_of_bez hx0 hbz HM1.out))
  have HRR := Lib.hid (HRX.out x.natAbs hx8)
  rw [HG.out, nS_one]
  unfold intV zV
  have HML := Lib.hid (show x.natAbs % m < m from Nat.mod_lt _ (by have := HM1.out; omega))
  obtain ⟨X, hX⟩ : ∃ X, x.natAbs = X := ⟨_, rfl⟩
  obtain ⟨u, hu⟩ : ∃ u, nS X = u := ⟨_, rfl⟩
  rw [hX] at HI HRR HML ⊢
  rw [hu] at HRR ⊢
  obtain ⟨dx, hdx⟩ : ∃ dx, decide (x < 0) = dx := ⟨_, rfl⟩
  obtain ⟨dy, hdy⟩ : ∃ dy, decide (y < 0) = dy := ⟨_, rfl⟩
  obtain ⟨v, hv⟩ : ∃ v, nS y.natAbs = v := ⟨_, rfl⟩
  rw [hdx, hdy, hv]
  clear hb3 hbz hx0 hx8 hX hu hdx hdy hv
  go_wp2_with fail
  refine (HRR.out _).mono ?_
  rintro e w4 ⟨rfl, hb4⟩
  have HB4 := Lib.hid (((HB3.out.alloc HB3.out.size (.cells #[.bool dx, .string u] 28)).alloc (by have := HB3.out.size; simp; omega) (.cells #[.bool dy, .string v] 28)).trans (hb4.mono (by have := HB3.out.size; simp; omega)))
  clear hb4
  go_wp2
  go_ret2
  exact ⟨X % m, rfl, HB4.out, HML.out, HI.out⟩
end Go.Proofs.YtndmjfkmnjejkaaGreatDoor
/- Walks: dominoref02.DivMod, Mod. -/
set_option linter.unusedVariables false
set_option linter.unusedSimpArgs false
namespace Go.Proofs.YtndmjfkmnjejkaaGreatDoor
open Go.RowKit
theorem fitR_str (n : Nat) : ∃ s c, fitR n = .tuple #[.string s, c] := by
  unfold fitR
  split
  · exact ⟨_, _, rfl⟩
  · exact ⟨_, _, rfl⟩
theorem emod_of_pos {z : Int} {m : Nat} (hz : 0 ≤ z) : (z % m).toNat = z.natAbs % m := emod_pos hz
theorem emod_of_zero {z : Int} {m : Nat} (hr : z.natAbs % m = 0) : (z % m).toNat = 0 := by
  have h : (m : Int) ∣ z := Int.ofNat_dvd_left.2 (Nat.dvd_of_mod_eq_zero hr)
  rw [Int.emod_eq_zero_of_dvd h]; rfl
theorem emod_of_neg {z : Int} {m : Nat} (h0 : 0 < m) (hz : z < 0) (hr : 0 < z.natAbs % m) : (z % m).toNat = m - z.natAbs % m := by
  have hlt := Nat.mod_lt z.natAbs h0
  have e := Nat.div_add_mod z.natAbs m
  have e2 : ((m * (z.natAbs / m) + z.natAbs % m : Nat) : Int) = -z := by rw [e]; omega
  rw [Int.natCast_add, Int.natCast_mul] at e2
  have e3 : z = ((m - z.natAbs % m : Nat) : Int) + m * (-(z.natAbs / m : Nat) - 1) := by
    rw [Int.mul_sub, Int.mul_neg]
    omega
  have e4 : z % m = ((m - z.natAbs % m : Nat) : Int) := by
    conv => lhs; rw [e3]
    rw [Int.add_mul_emod_self_left]
    exact Int.emod_eq_of_lt (by omega) (by omega)
  rw [e4]; rfl
def RetD (r : Nat) (w : World) (e : Ending) (w' : World) : Prop := ∃ b s, e = .returned (.tuple #[.agg #[.bool b, .string s], .string (nS r), .int .i64 0]) ∧ Below w.heap.size w w'
set_option maxRecDepth 100000 in
set_option maxHeartbeats 2000000 in
theorem r02_DivMod (z : Int) (m : Nat) (hz : z.natAbs < 256 ^ 128) (hm : m < 256 ^ 128) (h0 : 0 < m) (w : World) : Calls Tryz.prog 149 #[intV z, intV m] w (RetD (z % m).toNat w) := by
  have HVZ := Lib.hid (r02_Valid_n z hz)
  have HVM := Lib.hid (r02_Valid_n m (by rw [Int.natAbs_natCast]; exact hm))
  have HD := Lib.hid (r01_DivMod z.natAbs m hz hm h0)
  have HOF := Lib.hid (r01_Of 1 (by decide))
  have hqq : z.natAbs / m < 256 ^ 128 := Nat.lt_of_le_of_lt (Nat.div_le_self _ _) hz
  have hrr : z.natAbs % m < 256 ^ 128 := Nat.lt_trans (Nat.mod_lt _ h0) hm
  have HAD := Lib.hid (r01_Add (z.natAbs / m) 1 hqq (by decide))
  have HSB := Lib.hid (r01_Sub_ge m (z.natAbs % m) hm hrr (Nat.le_of_lt (Nat.mod_lt _ h0)))
  have HMK := Lib.hid r02_Make
  have hmm := empty_nS h0
  have ed : decide ((m : Int) < 0) = false := decide_eq_false (Int.not_lt.2 (Int.natCast_nonneg _))
  unfold intV zV at HVZ HVM
  unfold intV zV
  rw [ed, Int.natAbs_natCast] at HVM
  rw [ed, Int.natAbs_natCast]
  obtain ⟨t, ht⟩ : ∃ t, nS m = t := ⟨_, rfl⟩
  obtain ⟨s, hs⟩ : ∃ s, nS z.natAbs = s := ⟨_, rfl⟩
  obtain ⟨q, hq⟩ : ∃ q, nS (z.natAbs / m) = q := ⟨_, rfl⟩
  obtain ⟨fq, cq, hfq⟩ := fitR_str (z.natAbs / m + 1)
  rw [hfq] at HAD
  rw [ht] at HVM HD HSB hmm ⊢
  rw [hs] at HVZ HD ⊢
  rw [hq] at HD HAD
  rw [show bstr (encN 1) = ⟨#[1]⟩ from rfl, show ((1 : Nat) : Int) = 1 from rfl] at HOF
  rw [nS_one] at HAD
  obtain ⟨W0, hW0⟩ : ∃ W0, ((w.alloc (.cells #[.bool (decide (z < 0)), .string s] 28)).alloc (.cells #[.bool false, .string t] 28)).alloc (.cells #[.bool false, .string ⟨#[]⟩] 28) = W0 := ⟨_, rfl⟩
  have HZX0 := Lib.hid (show Bx2 W0 w.heap.size (.bool (decide (z < 0))) (.string s) 28 from by
    rw [← hW0]
    exact ((Bx2.new w _ _ _).next ((Below.refl _ _).alloc (Nat.le_refl _) _)).next ((Below.refl _ _).alloc (Nat.le_refl _) _))
  have HMX0 := Lib.hid (show Bx2 W0 (w.heap.size + 1) (.bool false) (.string t) 28 from by
    rw [← hW0]
    have := Bx2.new (w.alloc (.cells #[.bool (decide (z < 0)), .string s] 28)) (.bool false) (.string t) 28
    rw [World.size_alloc] at this
    exact this.next ((Below.refl _ _).alloc (Nat.le_refl _) _))
  have HRX0 := Lib.hid (show Bx2 W0 (w.heap.size + 1 + 1) (.bool false) (.string ⟨#[]⟩) 28 from by
    rw [← hW0]
    have := Bx2.new ((w.alloc (.cells #[.bool (decide (z < 0)), .string s] 28)).alloc (.cells #[.bool false, .string t] 28)) (.bool false) (.string ⟨#[]⟩) 28
    rw [World.size_alloc, World.size_alloc] at this
    exact this)
  have HB0 := Lib.hid (show Below w.heap.size w W0 from by
    rw [← hW0]
    exact (((Below.refl w.heap.size w).alloc (Nat.le_refl _) _).alloc (by simp) _).alloc (by simp; omega) _)
  by_cases hneg : z < 0
  · have hd : decide (z < 0) = true := decide_eq_true hneg
    rw [hd] at HVZ HZX0 hW0 ⊢
    by_cases hr : z.natAbs % m = 0
    · have HRR := Lib.hid (emod_of_zero hr)
      rw [hr, nS_zero] at HD
      clear hs ht hq hfq hd hr hneg hqq hrr HAD HSB HOF ed hz hm h0
      go_enter Tryz.func149, Tryz.ntmps149
      have c0 := HZX0.out.c0
      have c1 := HZX0.out.c1
      have d0 := HMX0.out.c0
      have d1 := HMX0.out.c1
      go_wp2_with fail
      try rw [hW0]
      clear hW0
      refine (HVZ.out _).mono ?_
      rintro ev w1 ⟨rfl, hb1⟩
      have HZX1 := Lib.hid (HZX0.out.next hb1)
      have HMX1 := Lib.hid (HMX0.out.next hb1)
      have HRX1 := Lib.hid (HRX0.out.next hb1)
      have HB1 := Lib.hid (HB0.out.trans (hb1.mono HB0.out.size))
      clear hb1
      clear c0 c1 d0 d1
      have c0 := HZX1.out.c0
      have c1 := HZX1.out.c1
      have d0 := HMX1.out.c0
      have d1 := HMX1.out.c1
      go_wp2_with fail
      refine (HVM.out _).mono ?_
      rintro ev w2 ⟨rfl, hb2⟩
      have HZX2 := Lib.hid (HZX1.out.next hb2)
      have HMX2 := Lib.hid (HMX1.out.next hb2)
      have HRX2 := Lib.hid (HRX1.out.next hb2)
      have HB2 := Lib.hid (HB1.out.trans (hb2.mono HB1.out.size))
      clear hb2
      clear c0 c1 d0 d1
      have c0 := HZX2.out.c0
      have c1 := HZX2.out.c1
      have d0 := HMX2.out.c0
      have d1 := HMX2.out.c1
      go_wp2_with fail
      refine (HD.out _).mono ?_
      rintro ev w3 ⟨rfl, hb3⟩
      have HZX3 := Lib.hid (HZX2.out.next hb3)
      have HMX3 := Lib.hid (HMX2.out.next hb3)
      have HRX3 := Lib.hid (HRX2.out.next hb3)
      have HB3 := Lib.hid (HB2.out.trans (hb3.mono HB2.out.size))
      clear hb3
      clear c0 c1 d0 d1
      have c0 := HZX3.out.c0
      have c1 := HZX3.out.c1
      have d0 := HMX3.out.c0
      have d1 := HMX3.out.c1
      go_wp2_with fail
      refine (HMK.out _ _ _).mono ?_
      rintro ev w9 ⟨rfl, hb9⟩
      have HR9 := Lib.hid (HRX3.out.next hb9)
      have HB9 := Lib.hid (HB3.out.trans (hb9.mono HB3.out.size))
      clear hb9
      have rf0 := HR9.out.f0
      have rf1 := HR9.out.f1
      have rc0 := HR9.out.c0
      have rc1 := HR9.out.c1
      unfold zV
      go_wp2
      obtain ⟨q0, q1⟩ : _ ∧ _ := ⟨(HR9.out.set2 (u := .bool (!q.toList.isEmpty)) (v := .string q)).c0, (HR9.out.set2 (u := .bool (!q.toList.isEmpty)) (v := .string q)).c1⟩
      refine bodyPost_ret (v := .tuple #[.agg #[.bool (!q.toList.isEmpty), .string q], .string ⟨#[]⟩, .int .i64 0]) ?_ rfl ⟨_, _, by rw [HRR.out, nS_zero], ?_⟩
      · simp [results, Tryz.results149, go_sem, q0, q1]
      · exact (HB9.out.setCell (p := ⟨w.heap.size + 1 + 1, 0, none⟩) (by simp only []; omega) _).setCell (p := ⟨w.heap.size + 1 + 1, 1, none⟩) (by simp only []; omega) _
    · have HRR := Lib.hid (emod_of_neg h0 hneg (by omega))
      have her := empty_nS (n := z.natAbs % m) (by omega)
      obtain ⟨r, hr'⟩ : ∃ r, nS (z.natAbs % m) = r := ⟨_, rfl⟩
      obtain ⟨r2, hr2⟩ : ∃ r2, nS (m - z.natAbs % m) = r2 := ⟨_, rfl⟩
      rw [hr'] at HD HSB her
      rw [hr2] at HSB
      have HR2 := Lib.hid hr2
      clear hs ht hq hfq hd hr hneg hqq hrr ed hz hm h0 hr' hr2
      go_enter Tryz.func149, Tryz.ntmps149
      have c0 := HZX0.out.c0
      have c1 := HZX0.out.c1
      have d0 := HMX0.out.c0
      have d1 := HMX0.out.c1
      go_wp2_with fail
      try rw [hW0]
      clear hW0
      refine (HVZ.out _).mono ?_
      rintro ev w1 ⟨rfl, hb1⟩
      have HZX1 := Lib.hid (HZX0.out.next hb1)
      have HMX1 := Lib.hid (HMX0.out.next hb1)
      have HRX1 := Lib.hid (HRX0.out.next hb1)
      have HB1 := Lib.hid (HB0.out.trans (hb1.mono HB0.out.size))
      clear hb1
      clear c0 c1 d0 d1
      have c0 := HZX1.out.c0
      have c1 := HZX1.out.c1
      have d0 := HMX1.out.c0
      have d1 := HMX1.out.c1
      go_wp2_with fail
      refine (HVM.out _).mono ?_
      rintro ev w2 ⟨rfl, hb2⟩
      have HZX2 := Lib.hid (HZX1.out.next hb2)
      have HMX2 := Lib.hid (HMX1.out.next hb2)
      have HRX2 := Lib.hid (HRX1.out.next hb2)
      have HB2 := Lib.hid (HB1.out.trans (hb2.mono HB1.out.size))
      clear hb2
      clear c0 c1 d0 d1
      have c0 := HZX2.out.c0
      have c1 := HZX2.out.c1
      have d0 := HMX2.out.c0
      have d1 := HMX2.out.c1
      go_wp2_with fail
      refine (HD.out _).mono ?_
      rintro ev w3 ⟨rfl, hb3⟩
      have HZX3 := Lib.hid (HZX2.out.next hb3)
      have HMX3 := Lib.hid (HMX2.out.next hb3)
      have HRX3 := Lib.hid (HRX2.out.next hb3)
      have HB3 := Lib.hid (HB2.out.trans (hb3.mono HB2.out.size))
      clear hb3
      clear c0 c1 d0 d1
      have c0 := HZX3.out.c0
      have c1 := HZX3.out.c1
      have d0 := HMX3.out.c0
      have d1 := HMX3.out.c1
      go_wp2_with fail
      refine (HOF.out _).mono ?_
      rintro ev w4 ⟨rfl, hb4⟩
      have HZX4 := Lib.hid (HZX3.out.next hb4)
      have HMX4 := Lib.hid (HMX3.out.next hb4)
      have HRX4 := Lib.hid (HRX3.out.next hb4)
      have HB4 := Lib.hid (HB3.out.trans (hb4.mono HB3.out.size))
      clear hb4
      clear c0 c1 d0 d1
      have c0 := HZX4.out.c0
      have c1 := HZX4.out.c1
      have d0 := HMX4.out.c0
      have d1 := HMX4.out.c1
      go_wp2_with fail
      refine (HAD.out _).mono ?_
      rintro ev w5 ⟨rfl, hb5⟩
      have HZX5 := Lib.hid (HZX4.out.next hb5)
      have HMX5 := Lib.hid (HMX4.out.next hb5)
      have HRX5 := Lib.hid (HRX4.out.next hb5)
      have HB5 := Lib.hid (HB4.out.trans (hb5.mono HB4.out.size))
      clear hb5
      clear c0 c1 d0 d1
      have c0 := HZX5.out.c0
      have c1 := HZX5.out.c1
      have d0 := HMX5.out.c0
      have d1 := HMX5.out.c1
      go_wp2_with fail
      refine (HSB.out _).mono ?_
      rintro ev w6 ⟨rfl, hb6⟩
      have HZX6 := Lib.hid (HZX5.out.next hb6)
      have HMX6 := Lib.hid (HMX5.out.next hb6)
      have HRX6 := Lib.hid (HRX5.out.next hb6)
      have HB6 := Lib.hid (HB5.out.trans (hb6.mono HB5.out.size))
      clear hb6
      clear c0 c1 d0 d1
      have c0 := HZX6.out.c0
      have c1 := HZX6.out.c1
      have d0 := HMX6.out.c0
      have d1 := HMX6.out.c1
      go_wp2_with fail
      refine (HMK.out _ _ _).mono ?_
      rintro ev w9 ⟨rfl, hb9⟩
      have HR9 := Lib.hid (HRX6.out.next hb9)
      have HB9 := Lib.hid (HB6.out.trans (hb9.mono HB6.out.size))
      clear hb9
      have rf0 := HR9.out.f0
      have rf1 := HR9.out.f1
      have rc0 := HR9.out.c0
      have rc1 := HR9.out.c1
      unfold zV
      go_wp2
      obtain ⟨q0, q1⟩ : _ ∧ _ := ⟨(HR9.out.set2 (u := .bool (!fq.toList.isEmpty)) (v := .string fq)).c0, (HR9.out.set2 (u := .bool (!fq.toList.isEmpty)) (v := .string fq)).c1⟩
      refine bodyPost_ret (v := .tuple #[.agg #[.bool (!fq.toList.isEmpty), .string fq], .string r2, .int .i64 0]) ?_ rfl ⟨_, _, by rw [HRR.out, HR2.out], ?_⟩
      · simp [results, Tryz.results149, go_sem, q0, q1]
      · exact (HB9.out.setCell (p := ⟨w.heap.size + 1 + 1, 0, none⟩) (by simp only []; omega) _).setCell (p := ⟨w.heap.size + 1 + 1, 1, none⟩) (by simp only []; omega) _
  · have hd : decide (z < 0) = false := decide_eq_false hneg
    rw [hd] at HVZ HZX0 hW0 ⊢
    have HRR := Lib.hid (emod_of_pos (z := z) (m := m) (by omega))
    obtain ⟨r, hr'⟩ : ∃ r, nS (z.natAbs % m) = r := ⟨_, rfl⟩
    rw [hr'] at HD
    have HR2 := Lib.hid hr'
    clear hs ht hq hfq hd hneg hqq hrr HAD HSB HOF ed hz hm h0 hr'
    go_enter Tryz.func149, Tryz.ntmps149
    have c0 := HZX0.out.c0
    have c1 := HZX0.out.c1
    have d0 := HMX0.out.c0
    have d1 := HMX0.out.c1
    go_wp2_with fail
    try rw [hW0]
    clear hW0
    refine (HVZ.out _).mono ?_
    rintro ev w1 ⟨rfl, hb1⟩
    have HZX1 := Lib.hid (HZX0.out.next hb1)
    have HMX1 := Lib.hid (HMX0.out.next hb1)
    have HRX1 := Lib.hid (HRX0.out.next hb1)
    have HB1 := Lib.hid (HB0.out.trans (hb1.mono HB0.out.size))
    clear hb1
    clear c0 c1 d0 d1
    have c0 := HZX1.out.c0
    have c1 := HZX1.out.c1
    have d0 := HMX1.out.c0
    have d1 := HMX1.out.c1
    go_wp2_with fail
    refine (HVM.out _).mono ?_
    rintro ev w2 ⟨rfl, hb2⟩
    have HZX2 := Lib.hid (HZX1.out.next hb2)
    have HMX2 := Lib.hid (HMX1.out.next hb2)
    have HRX2 := Lib.hid (HRX1.out.next hb2)
    have HB2 := Lib.hid (HB1.out.trans (hb2.mono HB1.out.size))
    clear hb2
    clear c0 c1 d0 d1
    have c0 := HZX2.out.c0
    have c1 := HZX2.out.c1
    have d0 := HMX2.out.c0
    have d1 := HMX2.out.c1
    go_wp2_with fail
    refine (HD.out _).mono ?_
    rintro ev w3 ⟨rfl, hb3⟩
    have HZX3 := Lib.hid (HZX2.out.next hb3)
    have HMX3 := Lib.hid (HMX2.out.next hb3)
    have HRX3 := Lib.hid (HRX2.out.next hb3)
    have HB3 := Lib.hid (HB2.out.trans (hb3.mono HB2.out.size))
    clear hb3
    clear c0 c1 d0 d1
    have c0 := HZX3.out.c0
    have c1 := HZX3.out.c1
    have d0 := HMX3.out.c0
    have d1 := HMX3.out.c1
    go_wp2_with fail
    refine (HMK.out _ _ _).mono ?_
    rintro ev w9 ⟨rfl, hb9⟩
    have HR9 := Lib.hid (HRX3.out.next hb9)
    have HB9 := Lib.hid (HB3.out.trans (hb9.mono HB3.out.size))
    clear hb9
    have rf0 := HR9.out.f0
    have rf1 := HR9.out.f1
    have rc0 := HR9.out.c0
    have rc1 := HR9.out.c1
    unfold zV
    go_wp2
    obtain ⟨q0, q1⟩ : _ ∧ _ := ⟨(HR9.out.set2 (u := .bool (false)) (v := .string q)).c0, (HR9.out.set2 (u := .bool (false)) (v := .string q)).c1⟩
    refine bodyPost_ret (v := .tuple #[.agg #[.bool (false), .string q], .string r, .int .i64 0]) ?_ rfl ⟨_, _, by rw [HRR.out, HR2.out], ?_⟩
    · simp [results, Tryz.results149, go_sem, q0, q1]
    · exact (HB9.out.setCell (p := ⟨w.heap.size + 1 + 1, 0, none⟩) (by simp only []; omega) _).setCell (p := ⟨w.heap.size + 1 + 1, 1, none⟩) (by simp only []; omega) _
end Go.Proofs.YtndmjfkmnjejkaaGreatDoor

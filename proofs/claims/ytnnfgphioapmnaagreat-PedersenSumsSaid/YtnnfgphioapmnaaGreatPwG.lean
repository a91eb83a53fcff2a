/- Walks: dominoref02.DivMod, Mod. -/
import Derived.Test.YtnnfgphioapmnaaGreatPwI
import Derived.Test.YtnnfgphioapmnaaGreatGmu
set_option linter.unusedVariables false
set_option linter.unusedSimpArgs false
namespace Go.Proofs.YtnnfgphioapmnaaGreat
open Go.RowKit

theorem fitR_str (n : Nat) : ∃ s c, fitR n = .tuple #[.string s, c] := by
  unfold fitR
  split
  · exact ⟨_, _, rfl⟩
  · exact ⟨_, _, rfl⟩
theorem emod_of_pos {z : Int} {m : Nat} (hz : 0 ≤ z) : (z % m).toNat = z.natAbs % m := emod_pos hz
theorem emod_of_zero {z : Int} {m : Nat} (hr : z.natAbs % m = 0) : (z % m).toNat = 0 := by
  have h : (m : Int) ∣ z := Int.ofNat_dvd_left.2 (Nat.dvd_of_mod_eq_zero hr)
  rw [Int.emod_eq_zero_of_dvd h]; rfl
theorem emod_of_neg {z : Int} {m : Nat} (h0 : 0 < m) (hz : z < 0) (hr : 0 < z.natAbs % m) : (z % m).toNat = m - z.natAbs % m := by
  have hlt := Nat.mod_lt z.natAbs h0
  have e := Nat.div_add_mod z.natAbs m
  have e2 : ((m * (z.natAbs / m) + z.natAbs % m : Nat) : Int) = -z := by rw [e]; omega
  rw [Int.natCast_add, Int.natCast_mul] at e2
  have e3 : z = ((m - z.natAbs % m : Nat) : Int) + m * (-(z.natAbs / m : Nat) - 1) := by
    rw [Int.mul_sub, Int.mul_neg]
    omega
  have e4 : z % m = ((m - z.natAbs % m : Nat) : Int) := by
    conv => lhs; rw [e3]
    rw [Int.add_mul_emod_self_left]
    exact Int.emod_eq_of_lt (by omega) (by omega)
  rw [e4]; rfl

/-- What DivMod returns: a quotient, and the remainder. -/
def RetD (r : Nat) (w : World) (e : Ending) (w' : World) : Prop := ∃ b s, e = .returned (.tuple #[.agg #[.bool b, .string s], .string (nS r), .int .i64 0]) ∧ Below w.heap.size w w'
set_option maxRecDepth 100000 in
set_option maxHeartbeats 2000000 in
theorem r02_DivMod (z : Int) (m : Nat) (hz : z.natAbs < 256 ^ 128) (hm : m < 256 ^ 128) (h0 : 0 < m) (w : World) : Calls Tryz.prog 104 #[intV z, intV m] w (RetD (z % m).toNat w) := by
  have HVZ := Lib.hid (r02_Valid_n z hz)
  have HVM := Lib.hid (r02_Valid_n m (by rw [Int.natAbs_natCast]; exact hm))
  have HD := Lib.hid (r01_DivMod z.natAbs m hz hm h0)
  have HOF := Lib.hid (r01_Of 1 (by decide))
  have hqq : z.natAbs / m < 256 ^ 128 := Nat.lt_of_le_of_lt (Nat.div_le_self _ _) hz
  have hrr : z.natAbs % m < 256 ^ 128 := Nat.lt_trans (Nat.mod_lt _ h0) hm
  have HAD := Lib.hid (r01_Add (z.natAbs / m) 1 hqq (by decide))
  have HSB := Lib.hid (r01_Sub_ge m (z.natAbs % m) hm hrr (Nat.le_of_lt (Nat.mod_lt _ h0)))
  have HMK := Lib.hid r02_Make
  have hmm := empty_nS h0
  have ed : decide ((m : Int) < 0) = false := decide_eq_false (Int.not_lt.2 (Int.natCast_nonneg _))
  unfold intV zV at HVZ HVM
  unfold intV zV
  rw [ed, Int.natAbs_natCast] at HVM
  rw [ed, Int.natAbs_natCast]
  obtain ⟨t, ht⟩ : ∃ t, nS m = t := ⟨_, rfl⟩
  obtain ⟨s, hs⟩ : ∃ s, nS z.natAbs = s := ⟨_, rfl⟩
  obtain ⟨q, hq⟩ : ∃ q, nS (z.natAbs / m) = q := ⟨_, rfl⟩
  obtain ⟨fq, cq, hfq⟩ := fitR_str (z.natAbs / m + 1)
  rw [hfq] at HAD
  rw [ht] at HVM HD HSB hmm ⊢
  rw [hs] at HVZ HD ⊢
  rw [hq] at HD HAD
  rw [show bstr (encN 1) = ⟨#[1]⟩ from rfl, show ((1 : Nat) : Int) = 1 from rfl] at HOF
  rw [nS_one] at HAD
  obtain ⟨W0, hW0⟩ : ∃ W0, ((w.alloc (.cells #[.bool (decide (z < 0)), .string s] 28)).alloc (.cells #[.bool false, .string t] 28)).alloc (.cells #[.bool false, .string ⟨#[]⟩] 28) = W0 := ⟨_, rfl⟩
  have HZX0 := Lib.hid (show Bx2 W0 w.heap.size (.bool (decide (z < 0))) (.string s) 28 from by
    rw [← hW0]
    exact ((Bx2.new w _ _ _).next ((Below.refl _ _).alloc (Nat.le_refl _) _)).next ((Below.refl _ _).alloc (Nat.le_refl _) _))
  have HMX0 := Lib.hid (show Bx2 W0 (w.heap.size + 1) (.bool false) (.string t) 28 from by
    rw [← hW0]
    have := Bx2.new (w.alloc (.cells #[.bool (decide (z < 0)), .string s] 28)) (.bool false) (.string t) 28
    rw [World.size_alloc] at this
    exact this.next ((Below.refl _ _).alloc (Nat.le_refl _) _))
  have HRX0 := Lib.hid (show Bx2 W0 (w.heap.size + 1 + 1) (.bool false) (.string ⟨#[]⟩) 28 from by
    rw [← hW0]
    have := Bx2.new ((w.alloc (.cells #[.bool (decide (z < 0)), .string s] 28)).alloc (.cells #[.bool false, .string t] 28)) (.bool false) (.string ⟨#[]⟩) 28
    rw [World.size_alloc, World.size_alloc] at this
    exact this)
  have HB0 := Lib.hid (show Below w.heap.size w W0 from by
    rw [← hW0]
    exact (((Below.refl w.heap.size w).alloc (Nat.le_refl _) _).alloc (by simp) _).alloc (by simp; omega) _)
  by_cases hneg : z < 0
  · have hd : decide (z < 0) = true := decide_eq_true hneg
    rw [hd] at HVZ HZX0 hW0 ⊢
    by_cases hr : z.natAbs % m = 0
    · have HRR := Lib.hid (emod_of_zero hr)
      rw [hr, nS_zero] at HD
      clear hs ht hq hfq hd hr hneg hqq hrr HAD HSB HOF ed hz hm h0
      go_enter Tryz.func104, Tryz.ntmps104
      have c0 := HZX0.out.c0
      have c1 := HZX0.out.c1
      have d0 := HMX0.out.c0
      have d1 := HMX0.out.c1
      go_wp2_with fail
      try rw [hW0]
      clear hW0
      refine (HVZ.out _).mono ?_
      rintro ev w1 ⟨rfl, hb1⟩
      have HZX1 := Lib.hid (HZX0.out.next hb1)
      have HMX1 := Lib.hid (HMX0.out.next hb1)
      have HRX1 := Lib.hid (HRX0.out.next hb1)
      have HB1 := Lib.hid (HB0.out.trans (hb1.mono HB0.out.size))
      clear hb1
      clear c0 c1 d0 d1
      have c0 := HZX1.out.c0
      have c1 := HZX1.out.c1
      have d0 := HMX1.out.c0
      have d1 := HMX1.out.c1
      go_wp2_with fail
      refine (HVM.out _).mono ?_
      rintro ev w2 ⟨rfl, hb2⟩
      have HZX2 := Lib.hid (HZX1.out.next hb2)
      have HMX2 := Lib.hid (HMX1.out.next hb2)
      have HRX2 := Lib.hid (HRX1.out.next hb2)
      have HB2 := Lib.hid (HB1.out.trans (hb2.mono HB1.out.size))
      clear hb2
      clear c0 c1 d0 d1
      have c0 := HZX2.out.c0
      have c1 := HZX2.out.c1
      have d0 := HMX2.out.c0
      have d1 := HMX2.out.c1
      go_wp2_with fail
      refine (HD.out _).mono ?_
      rintro ev w3 ⟨rfl, hb3⟩
      have HZX3 := Lib.hid (HZX2.out.next hb3)
      have HMX3 := Lib.hid (HMX2.out.next hb3)
      have HRX3 := Lib.hid (HRX2.out.next hb3)
      have HB3 := Lib.hid (HB2.out.trans (hb3.mono HB2.out.size))
      clear hb3
      clear c0 c1 d0 d1
      have c0 := HZX3.out.c0
      have c1 := HZX3.out.c1
      have d0 := HMX3.out.c0
      have d1 := HMX3.out.c1
      go_wp2_with fail
      refine (HMK.out _ _ _).mono ?_
      rintro ev w9 ⟨rfl, hb9⟩
      have HR9 := Lib.hid (HRX3.out.next hb9)
      have HB9 := Lib.hid (HB3.out.trans (hb9.mono HB3.out.size))
      clear hb9
      have rf0 := HR9.out.f0
      have rf1 := HR9.out.f1
      have rc0 := HR9.out.c0
      have rc1 := HR9.out.c1
      unfold zV
      go_wp2
      obtain ⟨q0, q1⟩ : _ ∧ _ := ⟨(HR9.out.set2 (u := .bool (!q.toList.isEmpty)) (v := .string q)).c0, (HR9.out.set2 (u := .bool (!q.toList.isEmpty)) (v := .string q)).c1⟩
      refine bodyPost_ret (v := .tuple #[.agg #[.bool (!q.toList.isEmpty), .string q], .string ⟨#[]⟩, .int .i64 0]) ?_ rfl ⟨_, _, by rw [HRR.out, nS_zero], ?_⟩
      · simp [results, Tryz.results104, go_sem, q0, q1]
      · exact (HB9.out.setCell (p := ⟨w.heap.size + 1 + 1, 0, none⟩) (by simp only []; omega) _).setCell (p := ⟨w.heap.size + 1 + 1, 1, none⟩) (by simp only []; omega) _
    · have HRR := Lib.hid (emod_of_neg h0 hneg (by omega))
      have her := empty_nS (n := z.natAbs % m) (by omega)
      obtain ⟨r, hr'⟩ : ∃ r, nS (z.natAbs % m) = r := ⟨_, rfl⟩
      obtain ⟨r2, hr2⟩ : ∃ r2, nS (m - z.natAbs % m) = r2 := ⟨_, rfl⟩
      rw [hr'] at HD HSB her
      rw [hr2] at HSB
      have HR2 := Lib.hid hr2
      clear hs ht hq hfq hd hr hneg hqq hrr ed hz hm h0 hr' hr2
      go_enter Tryz.func104, Tryz.ntmps104
      have c0 := HZX0.out.c0
      have c1 := HZX0.out.c1
      have d0 := HMX0.out.c0
      have d1 := HMX0.out.c1
      go_wp2_with fail
      try rw [hW0]
      clear hW0
      refine (HVZ.out _).mono ?_
      rintro ev w1 ⟨rfl, hb1⟩
      have HZX1 := Lib.hid (HZX0.out.next hb1)
      have HMX1 := Lib.hid (HMX0.out.next hb1)
      have HRX1 := Lib.hid (HRX0.out.next hb1)
      have HB1 := Lib.hid (HB0.out.trans (hb1.mono HB0.out.size))
      clear hb1
      clear c0 c1 d0 d1
      have c0 := HZX1.out.c0
      have c1 := HZX1.out.c1
      have d0 := HMX1.out.c0
      have d1 := HMX1.out.c1
      go_wp2_with fail
      refine (HVM.out _).mono ?_
      rintro ev w2 ⟨rfl, hb2⟩
      have HZX2 := Lib.hid (HZX1.out.next hb2)
      have HMX2 := Lib.hid (HMX1.out.next hb2)
      have HRX2 := Lib.hid (HRX1.out.next hb2)
      have HB2 := Lib.hid (HB1.out.trans (hb2.mono HB1.out.size))
      clear hb2
      clear c0 c1 d0 d1
      have c0 := HZX2.out.c0
      have c1 := HZX2.out.c1
      have d0 := HMX2.out.c0
      have d1 := HMX2.out.c1
      go_wp2_with fail
      refine (HD.out _).mono ?_
      rintro ev w3 ⟨rfl, hb3⟩
      have HZX3 := Lib.hid (HZX2.out.next hb3)
      have HMX3 := Lib.hid (HMX2.out.next hb3)
      have HRX3 := Lib.hid (HRX2.out.next hb3)
      have HB3 := Lib.hid (HB2.out.trans (hb3.mono HB2.out.size))
      clear hb3
      clear c0 c1 d0 d1
      have c0 := HZX3.out.c0
      have c1 := HZX3.out.c1
      have d0 := HMX3.out.c0
      have d1 := HMX3.out.c1
      go_wp2_with fail
      refine (HOF.out _).mono ?_
      rintro ev w4 ⟨rfl, hb4⟩
      have HZX4 := Lib.hid (HZX3.out.next hb4)
      have HMX4 := Lib.hid (HMX3.out.next hb4)
      have HRX4 := Lib.hid (HRX3.out.next hb4)
      have HB4 := Lib.hid (HB3.out.trans (hb4.mono HB3.out.size))
      clear hb4
      clear c0 c1 d0 d1
      have c0 := HZX4.out.c0
      have c1 := HZX4.out.c1
      have d0 := HMX4.out.c0
      have d1 := HMX4.out.c1
      go_wp2_with fail
      refine (HAD.out _).mono ?_
      rintro ev w5 ⟨rfl, hb5⟩
      have HZX5 := Lib.hid (HZX4.out.next hb5)
      have HMX5 := Lib.hid (HMX4.out.next hb5)
      have HRX5 := Lib.hid (HRX4.out.next hb5)
      have HB5 := Lib.hid (HB4.out.trans (hb5.mono HB4.out.size))
      clear hb5
      clear c0 c1 d0 d1
      have c0 := HZX5.out.c0
      have c1 := HZX5.out.c1
      have d0 := HMX5.out.c0
      have d1 := HMX5.out.c1
      go_wp2_with fail
      refine (HSB.out _).mono ?_
      rintro ev w6 ⟨rfl, hb6⟩
      have HZX6 := Lib.hid (HZX5.out.next hb6)
      have HMX6 := Lib.hid (HMX5.out.next hb6)
      have HRX6 := Lib.hid (HRX5.out.next hb6)
      have HB6 := Lib.hid (HB5.out.trans (hb6.mono HB5.out.size))
      clear hb6
      clear c0 c1 d0 d1
      have c0 := HZX6.out.c0
      have c1 := HZX6.out.c1
      have d0 := HMX6.out.c0
      have d1 := HMX6.out.c1
      go_wp2_with fail
      refine (HMK.out _ _ _).mono ?_
      rintro ev w9 ⟨rfl, hb9⟩
      have HR9 := Lib.hid (HRX6.out.next hb9)
      have HB9 := Lib.hid (HB6.out.trans (hb9.mono HB6.out.size))
      clear hb9
      have rf0 := HR9.out.f0
      have rf1 := HR9.out.f1
      have rc0 := HR9.out.c0
      have rc1 := HR9.out.c1
      unfold zV
      go_wp2
      obtain ⟨q0, q1⟩ : _ ∧ _ := ⟨(HR9.out.set2 (u := .bool (!fq.toList.isEmpty)) (v := .string fq)).c0, (HR9.out.set2 (u := .bool (!fq.toList.isEmpty)) (v := .string fq)).c1⟩
      refine bodyPost_ret (v := .tuple #[.agg #[.bool (!fq.toList.isEmpty), .string fq], .string r2, .int .i64 0]) ?_ rfl ⟨_, _, by rw [HRR.out, HR2.out], ?_⟩
      · simp [results, Tryz.results104, go_sem, q0, q1]
      · exact (HB9.out.setCell (p := ⟨w.heap.size + 1 + 1, 0, none⟩) (by simp only []; omega) _).setCell (p := ⟨w.heap.size + 1 + 1, 1, none⟩) (by simp only []; omega) _
  · have hd : decide (z < 0) = false := decide_eq_false hneg
    rw [hd] at HVZ HZX0 hW0 ⊢
    have HRR := Lib.hid (emod_of_pos (z := z) (m := m) (by omega))
    obtain ⟨r, hr'⟩ : ∃ r, nS (z.natAbs % m) = r := ⟨_, rfl⟩
    rw [hr'] at HD
    have HR2 := Lib.hid hr'
    clear hs ht hq hfq hd hneg hqq hrr HAD HSB HOF ed hz hm h0 hr'
    go_enter Tryz.func104, Tryz.ntmps104
    have c0 := HZX0.out.c0
    have c1 := HZX0.out.c1
    have d0 := HMX0.out.c0
    have d1 := HMX0.out.c1
    go_wp2_with fail
    try rw [hW0]
    clear hW0
    refine (HVZ.out _).mono ?_
    rintro ev w1 ⟨rfl, hb1⟩
    have HZX1 := Lib.hid (HZX0.out.next hb1)
    have HMX1 := Lib.hid (HMX0.out.next hb1)
    have HRX1 := Lib.hid (HRX0.out.next hb1)
    have HB1 := Lib.hid (HB0.out.trans (hb1.mono HB0.out.size))
    clear hb1
    clear c0 c1 d0 d1
    have c0 := HZX1.out.c0
    have c1 := HZX1.out.c1
    have d0 := HMX1.out.c0
    have d1 := HMX1.out.c1
    go_wp2_with fail
    refine (HVM.out _).mono ?_
    rintro ev w2 ⟨rfl, hb2⟩
    have HZX2 := Lib.hid (HZX1.out.next hb2)
    have HMX2 := Lib.hid (HMX1.out.next hb2)
    have HRX2 := Lib.hid (HRX1.out.next hb2)
    have HB2 := Lib.hid (HB1.out.trans (hb2.mono HB1.out.size))
    clear hb2
    clear c0 c1 d0 d1
    have c0 := HZX2.out.c0
    have c1 := HZX2.out.c1
    have d0 := HMX2.out.c0
    have d1 := HMX2.out.c1
    go_wp2_with fail
    refine (HD.out _).mono ?_
    rintro ev w3 ⟨rfl, hb3⟩
    have HZX3 := Lib.hid (HZX2.out.next hb3)
    have HMX3 := Lib.hid (HMX2.out.next hb3)
    have HRX3 := Lib.hid (HRX2.out.next hb3)
    have HB3 := Lib.hid (HB2.out.trans (hb3.mono HB2.out.size))
    clear hb3
    clear c0 c1 d0 d1
    have c0 := HZX3.out.c0
    have c1 := HZX3.out.c1
    have d0 := HMX3.out.c0
    have d1 := HMX3.out.c1
    go_wp2_with fail
    refine (HMK.out _ _ _).mono ?_
    rintro ev w9 ⟨rfl, hb9⟩
    have HR9 := Lib.hid (HRX3.out.next hb9)
    have HB9 := Lib.hid (HB3.out.trans (hb9.mono HB3.out.size))
    clear hb9
    have rf0 := HR9.out.f0
    have rf1 := HR9.out.f1
    have rc0 := HR9.out.c0
    have rc1 := HR9.out.c1
    unfold zV
    go_wp2
    obtain ⟨q0, q1⟩ : _ ∧ _ := ⟨(HR9.out.set2 (u := .bool (false)) (v := .string q)).c0, (HR9.out.set2 (u := .bool (false)) (v := .string q)).c1⟩
    refine bodyPost_ret (v := .tuple #[.agg #[.bool (false), .string q], .string r, .int .i64 0]) ?_ rfl ⟨_, _, by rw [HRR.out, HR2.out], ?_⟩
    · simp [results, Tryz.results104, go_sem, q0, q1]
    · exact (HB9.out.setCell (p := ⟨w.heap.size + 1 + 1, 0, none⟩) (by simp only []; omega) _).setCell (p := ⟨w.heap.size + 1 + 1, 1, none⟩) (by simp only []; omega) _
end Go.Proofs.YtnnfgphioapmnaaGreat
/- Walks: dominoref02.Mod; primegroup.Power, dominoref09.Power. -/
set_option linter.unusedVariables false
set_option linter.unusedSimpArgs false
namespace Go.Proofs.YtnnfgphioapmnaaGreat
open Go.RowKit

set_option maxRecDepth 100000 in
set_option maxHeartbeats 2000000 in
theorem r02_Mod (z : Int) (m : Nat) (hz : z.natAbs < 256 ^ 128) (hm : m < 256 ^ 128) (h0 : 0 < m) (w : World) : Calls Tryz.prog 78 #[intV z, .string (nS m)] w (Ret (.tuple #[.string (nS (z % m).toNat), .int .i64 0]) w) := by
  have HVZ := Lib.hid (r02_Valid_n z hz)
  have HVM := Lib.hid (r01_Valid (nS m) (nS_size63 hm))
  rw [nvalid_nS.2 hm] at HVM
  have HFR := Lib.hid (r02_From m hm)
  have HDM := Lib.hid (r02_DivMod z m hz hm h0)
  have ed : decide ((m : Int) < 0) = false := decide_eq_false (Int.not_lt.2 (Int.natCast_nonneg _))
  unfold intV zV at *
  rw [ed, Int.natAbs_natCast] at HFR HDM
  obtain ⟨t, ht⟩ : ∃ t, nS m = t := ⟨_, rfl⟩
  obtain ⟨s, hs⟩ : ∃ s, nS z.natAbs = s := ⟨_, rfl⟩
  obtain ⟨b, hb⟩ : ∃ b, decide (z < 0) = b := ⟨_, rfl⟩
  obtain ⟨r, hr⟩ : ∃ r, (z % m).toNat = r := ⟨_, rfl⟩
  rw [ht] at HVM HFR HDM ⊢
  rw [hs, hb] at HVZ HDM ⊢
  rw [hr] at HDM ⊢
  clear ht hs hb hr ed hz hm h0
  have HX0 := Lib.hid (Bx2.new w (.bool b) (.string s) 28)
  have HB0 := Lib.hid ((Below.refl w.heap.size w).alloc (Nat.le_refl _) (.cells #[.bool b, .string s] 28))
  have c0 := HX0.out.c0
  have c1 := HX0.out.c1
  go_enter Tryz.func78, Tryz.ntmps78
  go_wp2_with fail
  refine (HVZ.out _).mono ?_
  rintro ev w1 ⟨rfl, hb1⟩
  have HX1 := Lib.hid (HX0.out.next hb1)
  have HB1 := Lib.hid (HB0.out.trans (hb1.mono HB0.out.size))
  clear hb1 c0 c1
  go_wp2_with fail
  refine (HVM.out _).mono ?_
  rintro ev w2 ⟨rfl, rfl⟩
  go_wp2
  obtain ⟨wd, hwd⟩ : ∃ wd, w1.drew = wd := ⟨_, rfl⟩
  have HBd := Lib.hid (show Below w.heap.size w wd from by rw [← hwd]; exact HB1.out.drew)
  obtain ⟨d0, d1⟩ : wd.cell? ⟨w.heap.size, 0, none⟩ = some (.bool b) ∧ wd.cell? ⟨w.heap.size, 1, none⟩ = some (.string s) := by rw [← hwd]; exact ⟨HX1.out.c0, HX1.out.c1⟩
  refine wp_region_K 12 (Below (wd).heap.size (wd)) (by kernel_rfl) ?_
  intro hD
  rw [hwd]
  refine wpAnyK_takeS (i := 0) (v := ?v3_0b1) (fuel := 11) rfl (by kernel_rfl) (by kernel_rfl) (fun _ _ _ h => h) hD (Below.refl _ _) (.inl ⟨by kernel_rfl, ?y3_0b1⟩) ?n3_0b1
  case y3_0b1 => intro w' hS'; have e0 := cell_kept hS' (Nat.le_refl _) d0; have e1 := cell_kept hS' (Nat.le_refl _) d1; go_simp; with_reducible rfl
  clear hD; intro hD
  simp only [Act.put, List.setIfInBounds_toArray, List.set_cons_zero, List.set_cons_succ]
  refine wpAnyK_pure (i := 1) (v := ?v3_1b1) (fuel := 10) rfl (by kernel_rfl) (fun _ _ _ h => h) hD (Below.refl _ _) (.inl ⟨by kernel_rfl, ?y3_1b1⟩) ?n3_1b1
  case y3_1b1 => intro w' _; go_simp; with_reducible rfl
  clear hD; intro hD
  simp only [Act.put, List.setIfInBounds_toArray, List.set_cons_zero, List.set_cons_succ]
  refine wpAnyK_two (i := 2) (i' := 8) (fuel := 9) (by kernel_rfl) rfl rfl hD ?_ ?_ 
  · unfold StepK
    clear hD; intro K2 hK2
    go_wp2_with fail
    refine (HFR.out _).mono ?_
    rintro ev w3 ⟨rfl, hb3⟩
    try (have HP := Lib.hid (HP.out.next hb3))
    have HB2 := Lib.hid hb3
    clear hb3
    go_wp2
    refine hK2 _ _ (by exact HB2.out) ?_; clear hK2; intro hS_3_2 hD
    refine wpAnyK_two (i := 3) (i' := 8) (fuel := 8) (by kernel_rfl) rfl rfl hD ?_ ?_ 
    · unfold StepK
      clear hD; intro K3 hK3
      go_wp2_with fail
      refine (HDM.out _).mono ?_
      rintro ev w4 ⟨bq, sq, rfl, hb4⟩
      try (have HP := Lib.hid (HP.out.next hb4))
      have HB3 := Lib.hid hb4
      clear hb4
      go_wp2
      refine hK3 _ _ (by exact Below.trans hS_3_2 (Below.mono HB3.out (Below.size hS_3_2))) ?_; clear hK3; intro hS_3_3_2 hD
      refine wpAnyK_pure (i := 4) (v := ?v3_4_2_3b1) (fuel := 7) rfl (by kernel_rfl) (fun _ _ _ h => h) hD hS_3_3_2 (.inl ⟨by kernel_rfl, ?y3_4_2_3b1⟩) ?n3_4_2_3b1
      case y3_4_2_3b1 => intro w' _; go_simp; with_reducible rfl
      clear hD; intro hD
      simp only [Act.put, List.setIfInBounds_toArray, List.set_cons_zero, List.set_cons_succ]
      refine wpAnyK_pure (i := 5) (v := ?v3_5_2_3b1) (fuel := 6) rfl (by kernel_rfl) (fun _ _ _ h => h) hD hS_3_3_2 (.inl ⟨by kernel_rfl, ?y3_5_2_3b1⟩) ?n3_5_2_3b1
      case y3_5_2_3b1 => intro w' _; go_simp; with_reducible rfl
      clear hD; intro hD
      simp only [Act.put, List.setIfInBounds_toArray, List.set_cons_zero, List.set_cons_succ]
      refine wpAnyK_pure (i := 6) (v := ?v3_6_2_3b1) (fuel := 5) rfl (by kernel_rfl) (fun _ _ _ h => h) hD hS_3_3_2 (.inl ⟨by kernel_rfl, ?y3_6_2_3b1⟩) ?n3_6_2_3b1
      case y3_6_2_3b1 => intro w' _; go_simp; with_reducible rfl
      clear hD; intro hD
      simp only [Act.put, List.setIfInBounds_toArray, List.set_cons_zero, List.set_cons_succ]
      refine wpAnyK_pure (i := 7) (v := ?v3_7_2_3b1) (fuel := 4) rfl (by kernel_rfl) (fun _ _ _ h => h) hD hS_3_3_2 (.inl ⟨by kernel_rfl, ?y3_7_2_3b1⟩) ?n3_7_2_3b1
      case y3_7_2_3b1 => intro w' _; go_simp; with_reducible rfl
      clear hD; intro hD
      simp only [Act.put, List.setIfInBounds_toArray, List.set_cons_zero, List.set_cons_succ]
      refine wpAnyK_one (i := 8) (fuel := 3) (by kernel_rfl) rfl hD ?_
      clear hD; intro K8 hK8
      first | (have HPB := Lib.hid (Below.size hS_3_3_2)) | (have HPB := Lib.hid (Nat.le_refl wd.heap.size))
      go_wp2
      refine hK8 _ _ (by exact Below.alloc hS_3_3_2 (Below.size hS_3_3_2) _) ?_; clear hK8; intro hS_3_8_2_3 hD
      have HP := Lib.hid (bx_of_alloc hS_3_8_2_3)
      refine wpAnyK_one (i := 9) (fuel := 2) (by kernel_rfl) rfl hD ?_
      clear hD; intro K9 hK9
      have hP := HP.out
      have p0 := hP.c0
      have p1 := hP.c1
      have pf0 := hP.f0
      have pf1 := hP.f1
      clear hP
      go_wp2
      refine hK9 _ _ (by first | exact (Below.setCell hS_3_8_2_3 (p := ⟨_, 0, none⟩) HPB.out _).setCell (p := ⟨_, 1, none⟩) HPB.out _ | exact Below.alloc (HB2.out.trans (HB3.out.mono HB2.out.size)) (Nat.le_trans HB2.out.size HB3.out.size) _) ?_; clear hK9; intro hS_3_9_2_3 hD
      clear p0 p1 pf0 pf1
      refine wpAnyK_one (i := 10) (fuel := 1) (by kernel_rfl) rfl hD ?_
      clear hD; intro K10 hK10
      go_wp2
      refine hK10 _ _ (by exact hS_3_9_2_3) ?_; clear hK10; intro hS_3_10_2_3 hD
      refine wpAnyK_one (i := 11) (fuel := 0) (by kernel_rfl) rfl hD ?_
      clear hD; intro K11 hK11
      go_wp2
      refine hK11 _ _ (by exact hS_3_10_2_3) ?_; clear hK11; intro hS_3_11_2_3 hD
      refine wpAnyK_done (by kernel_rfl) ?_ 0
      clear hD
      have HSX := Lib.hid hS_3_11_2_3
      go_wp2
      go_ret2
      exact ⟨rfl, HBd.out.trans (HSX.out.mono HBd.out.size)⟩
    · unfold StepK
      clear hD; intro K8 hK8
      first | (have HPB := Lib.hid (Below.size hS_3_2)) | (have HPB := Lib.hid (Nat.le_refl wd.heap.size))
      go_wp2
      refine hK8 _ _ (by exact Below.alloc hS_3_2 (Below.size hS_3_2) _) ?_; clear hK8; intro hS_3_8_2 hD
      have HP := Lib.hid (bx_of_alloc hS_3_8_2)
      refine wpAnyK_one (i := 3) (fuel := 7) (by kernel_rfl) rfl hD ?_
      clear hD; intro K3 hK3
      go_wp2_with fail
      refine (HDM.out _).mono ?_
      rintro ev w4 ⟨bq, sq, rfl, hb4⟩
      try (have HP := Lib.hid (HP.out.next hb4))
      have HB3 := Lib.hid hb4
      clear hb4
      go_wp2
      refine hK3 _ _ (by exact Below.trans hS_3_8_2 (Below.mono HB3.out (Below.size hS_3_8_2))) ?_; clear hK3; intro hS_3_3_2_8 hD
      refine wpAnyK_pure (i := 4) (v := ?v3_4_2_8b1) (fuel := 6) rfl (by kernel_rfl) (fun _ _ _ h => h) hD hS_3_3_2_8 (.inl ⟨by kernel_rfl, ?y3_4_2_8b1⟩) ?n3_4_2_8b1
      case y3_4_2_8b1 => intro w' _; go_simp; with_reducible rfl
      clear hD; intro hD
      simp only [Act.put, List.setIfInBounds_toArray, List.set_cons_zero, List.set_cons_succ]
      refine wpAnyK_pure (i := 5) (v := ?v3_5_2_8b1) (fuel := 5) rfl (by kernel_rfl) (fun _ _ _ h => h) hD hS_3_3_2_8 (.inl ⟨by kernel_rfl, ?y3_5_2_8b1⟩) ?n3_5_2_8b1
      case y3_5_2_8b1 => intro w' _; go_simp; with_reducible rfl
      clear hD; intro hD
      simp only [Act.put, List.setIfInBounds_toArray, List.set_cons_zero, List.set_cons_succ]
      refine wpAnyK_pure (i := 6) (v := ?v3_6_2_8b1) (fuel := 4) rfl (by kernel_rfl) (fun _ _ _ h => h) hD hS_3_3_2_8 (.inl ⟨by kernel_rfl, ?y3_6_2_8b1⟩) ?n3_6_2_8b1
      case y3_6_2_8b1 => intro w' _; go_simp; with_reducible rfl
      clear hD; intro hD
      simp only [Act.put, List.setIfInBounds_toArray, List.set_cons_zero, List.set_cons_succ]
      refine wpAnyK_pure (i := 7) (v := ?v3_7_2_8b1) (fuel := 3) rfl (by kernel_rfl) (fun _ _ _ h => h) hD hS_3_3_2_8 (.inl ⟨by kernel_rfl, ?y3_7_2_8b1⟩) ?n3_7_2_8b1
      case y3_7_2_8b1 => intro w' _; go_simp; with_reducible rfl
      clear hD; intro hD
      simp only [Act.put, List.setIfInBounds_toArray, List.set_cons_zero, List.set_cons_succ]
      refine wpAnyK_one (i := 9) (fuel := 2) (by kernel_rfl) rfl hD ?_
      clear hD; intro K9 hK9
      have hP := HP.out
      have p0 := hP.c0
      have p1 := hP.c1
      have pf0 := hP.f0
      have pf1 := hP.f1
      clear hP
      go_wp2
      refine hK9 _ _ (by first | exact (Below.setCell hS_3_3_2_8 (p := ⟨_, 0, none⟩) HPB.out _).setCell (p := ⟨_, 1, none⟩) HPB.out _ | exact Below.alloc (HB2.out.trans (HB3.out.mono HB2.out.size)) (Nat.le_trans HB2.out.size HB3.out.size) _) ?_; clear hK9; intro hS_3_9_2_8 hD
      clear p0 p1 pf0 pf1
      refine wpAnyK_one (i := 10) (fuel := 1) (by kernel_rfl) rfl hD ?_
      clear hD; intro K10 hK10
      go_wp2
      refine hK10 _ _ (by exact hS_3_9_2_8) ?_; clear hK10; intro hS_3_10_2_8 hD
      refine wpAnyK_one (i := 11) (fuel := 0) (by kernel_rfl) rfl hD ?_
      clear hD; intro K11 hK11
      go_wp2
      refine hK11 _ _ (by exact hS_3_10_2_8) ?_; clear hK11; intro hS_3_11_2_8 hD
      refine wpAnyK_done (by kernel_rfl) ?_ 0
      clear hD
      have HSX := Lib.hid hS_3_11_2_8
      go_wp2
      go_ret2
      exact ⟨rfl, HBd.out.trans (HSX.out.mono HBd.out.size)⟩
  · unfold StepK
    clear hD; intro K8 hK8
    first | (have HPB := Lib.hid (Below.size (Below.refl _ _))) | (have HPB := Lib.hid (Nat.le_refl wd.heap.size))
    go_wp2
    refine hK8 _ _ (by exact (Below.refl _ _).alloc (Nat.le_refl _) _) ?_; clear hK8; intro hS_3_8 hD
    have HP := Lib.hid (bx_of_alloc hS_3_8)
    refine wpAnyK_one (i := 2) (fuel := 8) (by kernel_rfl) rfl hD ?_
    clear hD; intro K2 hK2
    go_wp2_with fail
    refine (HFR.out _).mono ?_
    rintro ev w3 ⟨rfl, hb3⟩
    try (have HP := Lib.hid (HP.out.next hb3))
    have HB2 := Lib.hid hb3
    clear hb3
    go_wp2
    refine hK2 _ _ (by exact Below.trans hS_3_8 (Below.mono HB2.out (Below.size hS_3_8))) ?_; clear hK2; intro hS_3_2_8 hD
    refine wpAnyK_one (i := 3) (fuel := 7) (by kernel_rfl) rfl hD ?_
    clear hD; intro K3 hK3
    go_wp2_with fail
    refine (HDM.out _).mono ?_
    rintro ev w4 ⟨bq, sq, rfl, hb4⟩
    try (have HP := Lib.hid (HP.out.next hb4))
    have HB3 := Lib.hid hb4
    clear hb4
    go_wp2
    refine hK3 _ _ (by exact Below.trans hS_3_2_8 (Below.mono HB3.out (Below.size hS_3_2_8))) ?_; clear hK3; intro hS_3_3_8 hD
    refine wpAnyK_pure (i := 4) (v := ?v3_4_8b1) (fuel := 6) rfl (by kernel_rfl) (fun _ _ _ h => h) hD hS_3_3_8 (.inl ⟨by kernel_rfl, ?y3_4_8b1⟩) ?n3_4_8b1
    case y3_4_8b1 => intro w' _; go_simp; with_reducible rfl
    clear hD; intro hD
    simp only [Act.put, List.setIfInBounds_toArray, List.set_cons_zero, List.set_cons_succ]
    refine wpAnyK_pure (i := 5) (v := ?v3_5_8b1) (fuel := 5) rfl (by kernel_rfl) (fun _ _ _ h => h) hD hS_3_3_8 (.inl ⟨by kernel_rfl, ?y3_5_8b1⟩) ?n3_5_8b1
    case y3_5_8b1 => intro w' _; go_simp; with_reducible rfl
    clear hD; intro hD
    simp only [Act.put, List.setIfInBounds_toArray, List.set_cons_zero, List.set_cons_succ]
    refine wpAnyK_pure (i := 6) (v := ?v3_6_8b1) (fuel := 4) rfl (by kernel_rfl) (fun _ _ _ h => h) hD hS_3_3_8 (.inl ⟨by kernel_rfl, ?y3_6_8b1⟩) ?n3_6_8b1
    case y3_6_8b1 => intro w' _; go_simp; with_reducible rfl
    clear hD; intro hD
    simp only [Act.put, List.setIfInBounds_toArray, List.set_cons_zero, List.set_cons_succ]
    refine wpAnyK_pure (i := 7) (v := ?v3_7_8b1) (fuel := 3) rfl (by kernel_rfl) (fun _ _ _ h => h) hD hS_3_3_8 (.inl ⟨by kernel_rfl, ?y3_7_8b1⟩) ?n3_7_8b1
    case y3_7_8b1 => intro w' _; go_simp; with_reducible rfl
    clear hD; intro hD
    simp only [Act.put, List.setIfInBounds_toArray, List.set_cons_zero, List.set_cons_succ]
    refine wpAnyK_one (i := 9) (fuel := 2) (by kernel_rfl) rfl hD ?_
    clear hD; intro K9 hK9
    have hP := HP.out
    have p0 := hP.c0
    have p1 := hP.c1
    have pf0 := hP.f0
    have pf1 := hP.f1
    clear hP
    go_wp2
    refine hK9 _ _ (by first | exact (Below.setCell hS_3_3_8 (p := ⟨_, 0, none⟩) HPB.out _).setCell (p := ⟨_, 1, none⟩) HPB.out _ | exact Below.alloc (HB2.out.trans (HB3.out.mono HB2.out.size)) (Nat.le_trans HB2.out.size HB3.out.size) _) ?_; clear hK9; intro hS_3_9_8 hD
    clear p0 p1 pf0 pf1
    refine wpAnyK_one (i := 10) (fuel := 1) (by kernel_rfl) rfl hD ?_
    clear hD; intro K10 hK10
    go_wp2
    refine hK10 _ _ (by exact hS_3_9_8) ?_; clear hK10; intro hS_3_10_8 hD
    refine wpAnyK_one (i := 11) (fuel := 0) (by kernel_rfl) rfl hD ?_
    clear hD; intro K11 hK11
    go_wp2
    refine hK11 _ _ (by exact hS_3_10_8) ?_; clear hK11; intro hS_3_11_8 hD
    refine wpAnyK_done (by kernel_rfl) ?_ 0
    clear hD
    have HSX := Lib.hid hS_3_11_8
    go_wp2
    go_ret2
    exact ⟨rfl, HBd.out.trans (HSX.out.mono HBd.out.size)⟩

/-- What Power returns. -/
def powR (M O a : ByteArray) (b : Bool) (s : ByteArray) : Value :=
  if nvalid M = true ∧ nvalid O = true ∧ nvalid a = true ∧ zvalid b s = true then
    if hasG M O a = true then .tuple #[.string (nS (num a ^ (sg b (num s) % (num O : Int)).toNat % num M)), .int .i64 0] else .tuple #[.string ⟨#[]⟩, .int .i64 13]
  else .tuple #[.string ⟨#[]⟩, .int .i64 3]
theorem powR_bad {M O a s : ByteArray} {b : Bool} (h : ¬ (nvalid M = true ∧ nvalid O = true ∧ nvalid a = true ∧ zvalid b s = true)) : powR M O a b s = .tuple #[.string ⟨#[]⟩, .int .i64 3] := by unfold powR; rw [if_neg h]
theorem powR_out {M O a s : ByteArray} {b : Bool} (h : nvalid M = true ∧ nvalid O = true ∧ nvalid a = true ∧ zvalid b s = true) (h2 : ¬ (hasG M O a = true)) : powR M O a b s = .tuple #[.string ⟨#[]⟩, .int .i64 13] := by unfold powR; rw [if_pos h, if_neg h2]
theorem powR_in {M O a s : ByteArray} {b : Bool} (h : nvalid M = true ∧ nvalid O = true ∧ nvalid a = true ∧ zvalid b s = true) (h2 : hasG M O a = true) : powR M O a b s = .tuple #[.string (nS (num a ^ (sg b (num s) % (num O : Int)).toNat % num M)), .int .i64 0] := by unfold powR; rw [if_pos h, if_pos h2]
theorem sg_abs (b : Bool) (n : Nat) : (sg b n).natAbs = n := by
  unfold sg
  cases b
  · exact Int.natAbs_natCast n
  · simp
theorem zv_valid {b : Bool} {s : ByteArray} (h : zvalid b s = true) : nvalid s = true ∧ zV b s = intV (sg b (num s)) := by
  unfold zvalid at h
  rw [Bool.and_eq_true] at h
  refine ⟨h.1, ?_⟩
  have e := nS_num h.1
  rw [← intV_sg]
  rw [← e]
  have h2 := h.2
  cases b
  · rfl
  · cases hs : s.toList.isEmpty
    · rfl
    · rw [hs] at h2; cases h2

end Go.Proofs.YtnnfgphioapmnaaGreat

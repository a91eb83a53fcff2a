/- Walks: dominoref02.Mod; primegroup.Power, dominoref09.Power. -/
import Derived.Test.YtnnfgphioapmnaaGreatPwR
import Derived.Test.YtnnfgphioapmnaaGreatGmu
set_option linter.unusedVariables false
set_option linter.unusedSimpArgs false
namespace Go.Proofs.YtnnfgphioapmnaaGreat
open Go.RowKit

set_option maxRecDepth 100000 in
set_option maxHeartbeats 2000000 in
theorem r02_Mod (z : Int) (m : Nat) (hz : z.natAbs < 256 ^ 128) (hm : m < 256 ^ 128) (h0 : 0 < m) (w : World) : Calls Tryz.prog 78 #[intV z, .string (nS m)] w (Ret (.tuple #[.string (nS (z % m).toNat), .int .i64 0]) w) := by
  have HVZ := Lib.hid (r02_Valid_n z hz)
  have HVM := Lib.hid (r01_Valid (nS m) (nS_size63 hm))
  rw [nvalid_nS.2 hm] at HVM
  have HFR := Lib.hid (r02_From m hm)
  have HDM := Lib.hid (r02_DivMod z m hz hm h0)
  have ed : decide ((m : Int) < 0) = false := decide_eq_false (Int.not_lt.2 (Int.natCast_nonneg _))
  unfold intV zV at *
  rw [ed, Int.natAbs_natCast] at HFR HDM
  obtain ⟨t, ht⟩ : ∃ t, nS m = t := ⟨_, rfl⟩
  obtain ⟨s, hs⟩ : ∃ s, nS z.natAbs = s := ⟨_, rfl⟩
  obtain ⟨b, hb⟩ : ∃ b, decide (z < 0) = b := ⟨_, rfl⟩
  obtain ⟨r, hr⟩ : ∃ r, (z % m).toNat = r := ⟨_, rfl⟩
  rw [ht] at HVM HFR HDM ⊢
  rw [hs, hb] at HVZ HDM ⊢
  rw [hr] at HDM ⊢
  clear ht hs hb hr ed hz hm h0
  have HX0 := Lib.hid (Bx2.new w (.bool b) (.string s) 28)
  have HB0 := Lib.hid ((Below.refl w.heap.size w).alloc (Nat.le_refl _) (.cells #[.bool b, .string s] 28))
  have c0 := HX0.out.c0
  have c1 := HX0.out.c1
  go_enter Tryz.func78, Tryz.ntmps78
  go_wp2_with fail
  refine (HVZ.out _).mono ?_
  rintro ev w1 ⟨rfl, hb1⟩
  have HX1 := Lib.hid (HX0.out.next hb1)
  have HB1 := Lib.hid (HB0.out.trans (hb1.mono HB0.out.size))
  clear hb1 c0 c1
  go_wp2_with fail
  refine (HVM.out _).mono ?_
  rintro ev w2 ⟨rfl, rfl⟩
  go_wp2
  obtain ⟨wd, hwd⟩ : ∃ wd, w1.drew = wd := ⟨_, rfl⟩
  have HBd := Lib.hid (show Below w.heap.size w wd from by rw [← hwd]; exact HB1.out.drew)
  obtain ⟨d0, d1⟩ : wd.cell? ⟨w.heap.size, 0, none⟩ = some (.bool b) ∧ wd.cell? ⟨w.heap.size, 1, none⟩ = some (.string s) := by rw [← hwd]; exact ⟨HX1.out.c0, HX1.out.c1⟩
  refine wp_region_K 12 (Below (wd).heap.size (wd)) (by kernel_rfl) ?_
  intro hD
  rw [hwd]
  refine wpAnyK_takeS (i := 0) (v := ?v3_0b1) (fuel := 11) rfl (by kernel_rfl) (by kernel_rfl) (fun _ _ _ h => h) hD (Below.refl _ _) (.inl ⟨by kernel_rfl, ?y3_0b1⟩) ?n3_0b1
  case y3_0b1 => intro w' hS'; have e0 := cell_kept hS' (Nat.le_refl _) d0; have e1 := cell_kept hS' (Nat.le_refl _) d1; go_simp; with_reducible rfl
  clear hD; intro hD
  simp only [Act.put, List.setIfInBounds_toArray, List.set_cons_zero, List.set_cons_succ]
  refine wpAnyK_pure (i := 1) (v := ?v3_1b1) (fuel := 10) rfl (by kernel_rfl) (fun _ _ _ h => h) hD (Below.refl _ _) (.inl ⟨by kernel_rfl, ?y3_1b1⟩) ?n3_1b1
  case y3_1b1 => intro w' _; go_simp; with_reducible rfl
  clear hD; intro hD
  simp only [Act.put, List.setIfInBounds_toArray, List.set_cons_zero, List.set_cons_succ]
  refine wpAnyK_two (i := 2) (i' := 8) (fuel := 9) (by kernel_rfl) rfl rfl hD ?_ ?_ 
  · unfold StepK
    clear hD; intro K2 hK2
    go_wp2_with fail
    refine (HFR.out _).mono ?_
    rintro ev w3 ⟨rfl, hb3⟩
    try (have HP := Lib.hid (HP.out.next hb3))
    have HB2 := Lib.hid hb3
    clear hb3
    go_wp2
    refine hK2 _ _ (by exact HB2.out) ?_; clear hK2; intro hS_3_2 hD
    refine wpAnyK_two (i := 3) (i' := 8) (fuel := 8) (by kernel_rfl) rfl rfl hD ?_ ?_ 
    · unfold StepK
      clear hD; intro K3 hK3
      go_wp2_with fail
      refine (HDM.out _).mono ?_
      rintro ev w4 ⟨bq, sq, rfl, hb4⟩
      try (have HP := Lib.hid (HP.out.next hb4))
      have HB3 := Lib.hid hb4
      clear hb4
      go_wp2
      refine hK3 _ _ (by exact Below.trans hS_3_2 (Below.mono HB3.out (Below.size hS_3_2))) ?_; clear hK3; intro hS_3_3_2 hD
      refine wpAnyK_pure (i := 4) (v := ?v3_4_2_3b1) (fuel := 7) rfl (by kernel_rfl) (fun _ _ _ h => h) hD hS_3_3_2 (.inl ⟨by kernel_rfl, ?y3_4_2_3b1⟩) ?n3_4_2_3b1
      case y3_4_2_3b1 => intro w' _; go_simp; with_reducible rfl
      clear hD; intro hD
      simp only [Act.put, List.setIfInBounds_toArray, List.set_cons_zero, List.set_cons_succ]
      refine wpAnyK_pure (i := 5) (v := ?v3_5_2_3b1) (fuel := 6) rfl (by kernel_rfl) (fun _ _ _ h => h) hD hS_3_3_2 (.inl ⟨by kernel_rfl, ?y3_5_2_3b1⟩) ?n3_5_2_3b1
      case y3_5_2_3b1 => intro w' _; go_simp; with_reducible rfl
      clear hD; intro hD
      simp only [Act.put, List.setIfInBounds_toArray, List.set_cons_zero, List.set_cons_succ]
      refine wpAnyK_pure (i := 6) (v := ?v3_6_2_3b1) (fuel := 5) rfl (by kernel_rfl) (fun _ _ _ h => h) hD hS_3_3_2 (.inl ⟨by kernel_rfl, ?y3_6_2_3b1⟩) ?n3_6_2_3b1
      case y3_6_2_3b1 => intro w' _; go_simp; with_reducible rfl
      clear hD; intro hD
      simp only [Act.put, List.setIfInBounds_toArray, List.set_cons_zero, List.set_cons_succ]
      refine wpAnyK_pure (i := 7) (v := ?v3_7_2_3b1) (fuel := 4) rfl (by kernel_rfl) (fun _ _ _ h => h) hD hS_3_3_2 (.inl ⟨by kernel_rfl, ?y3_7_2_3b1⟩) ?n3_7_2_3b1
      case y3_7_2_3b1 => intro w' _; go_simp; with_reducible rfl
      clear hD; intro hD
      simp only [Act.put, List.setIfInBounds_toArray, List.set_cons_zero, List.set_cons_succ]
      refine wpAnyK_one (i := 8) (fuel := 3) (by kernel_rfl) rfl hD ?_
      clear hD; intro K8 hK8
      first | (have HPB := Lib.hid (Below.size hS_3_3_2)) | (have HPB := Lib.hid (Nat.le_refl wd.heap.size))
      go_wp2
      refine hK8 _ _ (by exact Below.alloc hS_3_3_2 (Below.size hS_3_3_2) _) ?_; clear hK8; intro hS_3_8_2_3 hD
      have HP := Lib.hid (bx_of_alloc hS_3_8_2_3)
      refine wpAnyK_one (i := 9) (fuel := 2) (by kernel_rfl) rfl hD ?_
      clear hD; intro K9 hK9
      have hP := HP.out
      have p0 := hP.c0
      have p1 := hP.c1
      have pf0 := hP.f0
      have pf1 := hP.f1
      clear hP
      go_wp2
      refine hK9 _ _ (by first | exact (Below.setCell hS_3_8_2_3 (p := ⟨_, 0, none⟩) HPB.out _).setCell (p := ⟨_, 1, none⟩) HPB.out _ | exact Below.alloc (HB2.out.trans (HB3.out.mono HB2.out.size)) (Nat.le_trans HB2.out.size HB3.out.size) _) ?_; clear hK9; intro hS_3_9_2_3 hD
      clear p0 p1 pf0 pf1
      refine wpAnyK_one (i := 10) (fuel := 1) (by kernel_rfl) rfl hD ?_
      clear hD; intro K10 hK10
      go_wp2
      refine hK10 _ _ (by exact hS_3_9_2_3) ?_; clear hK10; intro hS_3_10_2_3 hD
      refine wpAnyK_one (i := 11) (fuel := 0) (by kernel_rfl) rfl hD ?_
      clear hD; intro K11 hK11
      go_wp2
      refine hK11 _ _ (by exact hS_3_10_2_3) ?_; clear hK11; intro hS_3_11_2_3 hD
      refine wpAnyK_done (by kernel_rfl) ?_ 0
      clear hD
      have HSX := Lib.hid hS_3_11_2_3
      go_wp2
      go_ret2
      exact ⟨rfl, HBd.out.trans (HSX.out.mono HBd.out.size)⟩
    · unfold StepK
      clear hD; intro K8 hK8
      first | (have HPB := Lib.hid (Below.size hS_3_2)) | (have HPB := Lib.hid (Nat.le_refl wd.heap.size))
      go_wp2
      refine hK8 _ _ (by exact Below.alloc hS_3_2 (Below.size hS_3_2) _) ?_; clear hK8; intro hS_3_8_2 hD
      have HP := Lib.hid (bx_of_alloc hS_3_8_2)
      refine wpAnyK_one (i := 3) (fuel := 7) (by kernel_rfl) rfl hD ?_
      clear hD; intro K3 hK3
      go_wp2_with fail
      refine (HDM.out _).mono ?_
      rintro ev w4 ⟨bq, sq, rfl, hb4⟩
      try (have HP := Lib.hid (HP.out.next hb4))
      have HB3 := Lib.hid hb4
      clear hb4
      go_wp2
      refine hK3 _ _ (by exact Below.trans hS_3_8_2 (Below.mono HB3.out (Below.size hS_3_8_2))) ?_; clear hK3; intro hS_3_3_2_8 hD
      refine wpAnyK_pure (i := 4) (v := ?v3_4_2_8b1) (fuel := 6) rfl (by kernel_rfl) (fun _ _ _ h => h) hD hS_3_3_2_8 (.inl ⟨by kernel_rfl, ?y3_4_2_8b1⟩) ?n3_4_2_8b1
      case y3_4_2_8b1 => intro w' _; go_simp; with_reducible rfl
      clear hD; intro hD
      simp only [Act.put, List.setIfInBounds_toArray, List.set_cons_zero, List.set_cons_succ]
      refine wpAnyK_pure (i := 5) (v := ?v3_5_2_8b1) (fuel := 5) rfl (by kernel_rfl) (fun _ _ _ h => h) hD hS_3_3_2_8 (.inl ⟨by kernel_rfl, ?y3_5_2_8b1⟩) ?n3_5_2_8b1
      case y3_5_2_8b1 => intro w' _; go_simp; with_reducible rfl
      clear hD; intro hD
      simp only [Act.put, List.setIfInBounds_toArray, List.set_cons_zero, List.set_cons_succ]
      refine wpAnyK_pure (i := 6) (v := ?v3_6_2_8b1) (fuel := 4) rfl (by kernel_rfl) (fun _ _ _ h => h) hD hS_3_3_2_8 (.inl ⟨by kernel_rfl, ?y3_6_2_8b1⟩) ?n3_6_2_8b1
      case y3_6_2_8b1 => intro w' _; go_simp; with_reducible rfl
      clear hD; intro hD
      simp only [Act.put, List.setIfInBounds_toArray, List.set_cons_zero, List.set_cons_succ]
      refine wpAnyK_pure (i := 7) (v := ?v3_7_2_8b1) (fuel := 3) rfl (by kernel_rfl) (fun _ _ _ h => h) hD hS_3_3_2_8 (.inl ⟨by kernel_rfl, ?y3_7_2_8b1⟩) ?n3_7_2_8b1
      case y3_7_2_8b1 => intro w' _; go_simp; with_reducible rfl
      clear hD; intro hD
      simp only [Act.put, List.setIfInBounds_toArray, List.set_cons_zero, List.set_cons_succ]
      refine wpAnyK_one (i := 9) (fuel := 2) (by kernel_rfl) rfl hD ?_
      clear hD; intro K9 hK9
      have hP := HP.out
      have p0 := hP.c0
      have p1 := hP.c1
      have pf0 := hP.f0
      have pf1 := hP.f1
      clear hP
      go_wp2
      refine hK9 _ _ (by first | exact (Below.setCell hS_3_3_2_8 (p := ⟨_, 0, none⟩) HPB.out _).setCell (p := ⟨_, 1, none⟩) HPB.out _ | exact Below.alloc (HB2.out.trans (HB3.out.mono HB2.out.size)) (Nat.le_trans HB2.out.size HB3.out.size) _) ?_; clear hK9; intro hS_3_9_2_8 hD
      clear p0 p1 pf0 pf1
      refine wpAnyK_one (i := 10) (fuel := 1) (by kernel_rfl) rfl hD ?_
      clear hD; intro K10 hK10
      go_wp2
      refine hK10 _ _ (by exact hS_3_9_2_8) ?_; clear hK10; intro hS_3_10_2_8 hD
      refine wpAnyK_one (i := 11) (fuel := 0) (by kernel_rfl) rfl hD ?_
      clear hD; intro K11 hK11
      go_wp2
      refine hK11 _ _ (by exact hS_3_10_2_8) ?_; clear hK11; intro hS_3_11_2_8 hD
      refine wpAnyK_done (by kernel_rfl) ?_ 0
      clear hD
      have HSX := Lib.hid hS_3_11_2_8
      go_wp2
      go_ret2
      exact ⟨rfl, HBd.out.trans (HSX.out.mono HBd.out.size)⟩
  · unfold StepK
    clear hD; intro K8 hK8
    first | (have HPB := Lib.hid (Below.size (Below.refl _ _))) | (have HPB := Lib.hid (Nat.le_refl wd.heap.size))
    go_wp2
    refine hK8 _ _ (by exact (Below.refl _ _).alloc (Nat.le_refl _) _) ?_; clear hK8; intro hS_3_8 hD
    have HP := Lib.hid (bx_of_alloc hS_3_8)
    refine wpAnyK_one (i := 2) (fuel := 8) (by kernel_rfl) rfl hD ?_
    clear hD; intro K2 hK2
    go_wp2_with fail
    refine (HFR.out _).mono ?_
    rintro ev w3 ⟨rfl, hb3⟩
    try (have HP := Lib.hid (HP.out.next hb3))
    have HB2 := Lib.hid hb3
    clear hb3
    go_wp2
    refine hK2 _ _ (by exact Below.trans hS_3_8 (Below.mono HB2.out (Below.size hS_3_8))) ?_; clear hK2; intro hS_3_2_8 hD
    refine wpAnyK_one (i := 3) (fuel := 7) (by kernel_rfl) rfl hD ?_
    clear hD; intro K3 hK3
    go_wp2_with fail
    refine (HDM.out _).mono ?_
    rintro ev w4 ⟨bq, sq, rfl, hb4⟩
    try (have HP := Lib.hid (HP.out.next hb4))
    have HB3 := Lib.hid hb4
    clear hb4
    go_wp2
    refine hK3 _ _ (by exact Below.trans hS_3_2_8 (Below.mono HB3.out (Below.size hS_3_2_8))) ?_; clear hK3; intro hS_3_3_8 hD
    refine wpAnyK_pure (i := 4) (v := ?v3_4_8b1) (fuel := 6) rfl (by kernel_rfl) (fun _ _ _ h => h) hD hS_3_3_8 (.inl ⟨by kernel_rfl, ?y3_4_8b1⟩) ?n3_4_8b1
    case y3_4_8b1 => intro w' _; go_simp; with_reducible rfl
    clear hD; intro hD
    simp only [Act.put, List.setIfInBounds_toArray, List.set_cons_zero, List.set_cons_succ]
    refine wpAnyK_pure (i := 5) (v := ?v3_5_8b1) (fuel := 5) rfl (by kernel_rfl) (fun _ _ _ h => h) hD hS_3_3_8 (.inl ⟨by kernel_rfl, ?y3_5_8b1⟩) ?n3_5_8b1
    case y3_5_8b1 => intro w' _; go_simp; with_reducible rfl
    clear hD; intro hD
    simp only [Act.put, List.setIfInBounds_toArray, List.set_cons_zero, List.set_cons_succ]
    refine wpAnyK_pure (i := 6) (v := ?v3_6_8b1) (fuel := 4) rfl (by kernel_rfl) (fun _ _ _ h => h) hD hS_3_3_8 (.inl ⟨by kernel_rfl, ?y3_6_8b1⟩) ?n3_6_8b1
    case y3_6_8b1 => intro w' _; go_simp; with_reducible rfl
    clear hD; intro hD
    simp only [Act.put, List.setIfInBounds_toArray, List.set_cons_zero, List.set_cons_succ]
    refine wpAnyK_pure (i := 7) (v := ?v3_7_8b1) (fuel := 3) rfl (by kernel_rfl) (fun _ _ _ h => h) hD hS_3_3_8 (.inl ⟨by kernel_rfl, ?y3_7_8b1⟩) ?n3_7_8b1
    case y3_7_8b1 => intro w' _; go_simp; with_reducible rfl
    clear hD; intro hD
    simp only [Act.put, List.setIfInBounds_toArray, List.set_cons_zero, List.set_cons_succ]
    refine wpAnyK_one (i := 9) (fuel := 2) (by kernel_rfl) rfl hD ?_
    clear hD; intro K9 hK9
    have hP := HP.out
    have p0 := hP.c0
    have p1 := hP.c1
    have pf0 := hP.f0
    have pf1 := hP.f1
    clear hP
    go_wp2
    refine hK9 _ _ (by first | exact (Below.setCell hS_3_3_8 (p := ⟨_, 0, none⟩) HPB.out _).setCell (p := ⟨_, 1, none⟩) HPB.out _ | exact Below.alloc (HB2.out.trans (HB3.out.mono HB2.out.size)) (Nat.le_trans HB2.out.size HB3.out.size) _) ?_; clear hK9; intro hS_3_9_8 hD
    clear p0 p1 pf0 pf1
    refine wpAnyK_one (i := 10) (fuel := 1) (by kernel_rfl) rfl hD ?_
    clear hD; intro K10 hK10
    go_wp2
    refine hK10 _ _ (by exact hS_3_9_8) ?_; clear hK10; intro hS_3_10_8 hD
    refine wpAnyK_one (i := 11) (fuel := 0) (by kernel_rfl) rfl hD ?_
    clear hD; intro K11 hK11
    go_wp2
    refine hK11 _ _ (by exact hS_3_10_8) ?_; clear hK11; intro hS_3_11_8 hD
    refine wpAnyK_done (by kernel_rfl) ?_ 0
    clear hD
    have HSX := Lib.hid hS_3_11_8
    go_wp2
    go_ret2
    exact ⟨rfl, HBd.out.trans (HSX.out.mono HBd.out.size)⟩

/-- What Power returns. -/
def powR (M O a : ByteArray) (b : Bool) (s : ByteArray) : Value :=
  if nvalid M = true ∧ nvalid O = true ∧ nvalid a = true ∧ zvalid b s = true then
    if hasG M O a = true then .tuple #[.string (nS (num a ^ (sg b (num s) % (num O : Int)).toNat % num M)), .int .i64 0] else .tuple #[.string ⟨#[]⟩, .int .i64 13]
  else .tuple #[.string ⟨#[]⟩, .int .i64 3]
theorem powR_bad {M O a s : ByteArray} {b : Bool} (h : ¬ (nvalid M = true ∧ nvalid O = true ∧ nvalid a = true ∧ zvalid b s = true)) : powR M O a b s = .tuple #[.string ⟨#[]⟩, .int .i64 3] := by unfold powR; rw [if_neg h]
theorem powR_out {M O a s : ByteArray} {b : Bool} (h : nvalid M = true ∧ nvalid O = true ∧ nvalid a = true ∧ zvalid b s = true) (h2 : ¬ (hasG M O a = true)) : powR M O a b s = .tuple #[.string ⟨#[]⟩, .int .i64 13] := by unfold powR; rw [if_pos h, if_neg h2]
theorem powR_in {M O a s : ByteArray} {b : Bool} (h : nvalid M = true ∧ nvalid O = true ∧ nvalid a = true ∧ zvalid b s = true) (h2 : hasG M O a = true) : powR M O a b s = .tuple #[.string (nS (num a ^ (sg b (num s) % (num O : Int)).toNat % num M)), .int .i64 0] := by unfold powR; rw [if_pos h, if_pos h2]
theorem sg_abs (b : Bool) (n : Nat) : (sg b n).natAbs = n := by
  unfold sg
  cases b
  · exact Int.natAbs_natCast n
  · simp
theorem zv_valid {b : Bool} {s : ByteArray} (h : zvalid b s = true) : nvalid s = true ∧ zV b s = intV (sg b (num s)) := by
  unfold zvalid at h
  rw [Bool.and_eq_true] at h
  refine ⟨h.1, ?_⟩
  have e := nS_num h.1
  rw [← intV_sg]
  rw [← e]
  have h2 := h.2
  cases b
  · rfl
  · cases hs : s.toList.isEmpty
    · rfl
    · rw [hs] at h2; cases h2

end Go.Proofs.YtnnfgphioapmnaaGreat

/- The law PedersenCommits. -/
import Derived.Test.YtnnfgphioapmnaaGreatPeY
set_option linter.unusedVariables false
set_option linter.unusedSimpArgs false
namespace Go.Proofs.YtnnfgphioapmnaaGreat
open Go.RowKit

theorem few14_of {M O G H : ByteArray} (h : few14 M O G H = true) : M.size ≤ 8 ∧ O.size ≤ 8 ∧ G.size ≤ 9 ∧ H.size ≤ 9 := by
  unfold few14 at h
  simp only [Bool.and_eq_true, decide_eq_true_eq] at h
  exact h
theorem shortZ_of {b1 b2 : Bool} {s1 s2 : ByteArray} (h : shortZ [(b1, s1), (b2, s2)] = true) : s1.size ≤ 16 ∧ s2.size ≤ 16 := by
  unfold shortZ at h
  simp only [List.all_cons, List.all_nil, Bool.and_true, Bool.and_eq_true, decide_eq_true_eq] at h
  exact h

set_option maxRecDepth 100000 in
set_option maxHeartbeats 4000000 in
theorem walk_commits (M O G H c : ByteArray) (vb : Bool) (vt : ByteArray) (rb : Bool) (rt : ByteArray) (w : World) : Calls Tryz.prog 3 #[kV M O G H, .string c, oV vb vt rb rt] w (Ret (.bool true) w) := by
  have HAW := Lib.hid law14_awake
  have HFW := Lib.hid (law14_Few M O G H)
  cases hf : few14 M O G H with
  | false =>
    rw [hf] at HFW
    unfold kV oV at *
    clear hf
    go_enter Tryz.func3, Tryz.ntmps3
    have hk := KO.new w M O G H vb vt rb rt
    obtain ⟨W0, hW0⟩ : ∃ W, (w.alloc (.cells #[.string M, .string O, .string G, .string H] 26)).alloc (.cells #[.bool vb, .string vt, .bool rb, .string rt] 30) = W := ⟨_, rfl⟩
    rw [hW0] at hk
    have HK := Lib.hid hk
    obtain ⟨⟨c0, c1, c2, c3⟩, d0, d1, d2, d3⟩ := hk.cells
    clear hk
    go_wp2_with fail
    try rw [hW0]
    clear hW0
    refine (HFW.out _).mono ?_
    rintro ev w1 ⟨rfl, hb⟩
    have hk := HK.out.next hb
    have HK := Lib.hid hk
    clear hb c0 c1 c2 c3 d0 d1 d2 d3
    obtain ⟨⟨c0, c1, c2, c3⟩, d0, d1, d2, d3⟩ := hk.cells
    clear hk
    go_wp2_with fail
    refine (HAW.out _).mono ?_
    rintro ev w2 ⟨rfl, hb⟩
    have hk := HK.out.next hb
    have HK := Lib.hid hk
    clear hb c0 c1 c2 c3 d0 d1 d2 d3
    obtain ⟨⟨c0, c1, c2, c3⟩, d0, d1, d2, d3⟩ := hk.cells
    clear hk
    go_wp2
    go_ret
    exact ⟨rfl, HK.out.2.2⟩
  | true =>
    rw [hf] at HFW
    obtain ⟨h1, h2, h3, h4⟩ := few14_of hf
    clear hf
    by_cases hc : 9 < c.size
    · have i1 : decide ((9 : Int) < (c.size : Int)) = true := decide_eq_true (by omega)
      unfold kV oV at *
      clear h1 h2 h3 h4 hc
      go_enter Tryz.func3, Tryz.ntmps3
      have hk := KO.new w M O G H vb vt rb rt
      obtain ⟨W0, hW0⟩ : ∃ W, (w.alloc (.cells #[.string M, .string O, .string G, .string H] 26)).alloc (.cells #[.bool vb, .string vt, .bool rb, .string rt] 30) = W := ⟨_, rfl⟩
      rw [hW0] at hk
      have HK := Lib.hid hk
      obtain ⟨⟨c0, c1, c2, c3⟩, d0, d1, d2, d3⟩ := hk.cells
      clear hk
      go_wp2_with fail
      try rw [hW0]
      clear hW0
      refine (HFW.out _).mono ?_
      rintro ev w1 ⟨rfl, hb⟩
      have hk := HK.out.next hb
      have HK := Lib.hid hk
      clear hb c0 c1 c2 c3 d0 d1 d2 d3
      obtain ⟨⟨c0, c1, c2, c3⟩, d0, d1, d2, d3⟩ := hk.cells
      clear hk
      go_wp2_with fail
      refine (HAW.out _).mono ?_
      rintro ev w2 ⟨rfl, hb⟩
      have hk := HK.out.next hb
      have HK := Lib.hid hk
      clear hb c0 c1 c2 c3 d0 d1 d2 d3
      obtain ⟨⟨c0, c1, c2, c3⟩, d0, d1, d2, d3⟩ := hk.cells
      clear hk
      go_wp2
      go_ret
      exact ⟨rfl, HK.out.2.2⟩
    · have i1 : decide ((9 : Int) < (c.size : Int)) = false := decide_eq_false (by omega)
      have HSW := Lib.hid (fun (A : Option Addr) (w : World) (hz : SlZ w A 2 2 [(vb, vt), (rb, rt)]) => law14_short [(vb, vt), (rb, rt)] A 2 2 (by omega) w hz)
      cases hs : shortZ [(vb, vt), (rb, rt)] with
      | false =>
        rw [hs] at HSW
        unfold kV oV at *
        clear h1 h2 h3 h4 hc hs
        go_enter Tryz.func3, Tryz.ntmps3
        have hk := KO.new w M O G H vb vt rb rt
        obtain ⟨W0, hW0⟩ : ∃ W, (w.alloc (.cells #[.string M, .string O, .string G, .string H] 26)).alloc (.cells #[.bool vb, .string vt, .bool rb, .string rt] 30) = W := ⟨_, rfl⟩
        rw [hW0] at hk
        have HK := Lib.hid hk
        obtain ⟨⟨c0, c1, c2, c3⟩, d0, d1, d2, d3⟩ := hk.cells
        clear hk
        go_wp2_with fail
        try rw [hW0]
        clear hW0
        refine (HFW.out _).mono ?_
        rintro ev w1 ⟨rfl, hb⟩
        have hk := HK.out.next hb
        have HK := Lib.hid hk
        clear hb c0 c1 c2 c3 d0 d1 d2 d3
        obtain ⟨⟨c0, c1, c2, c3⟩, d0, d1, d2, d3⟩ := hk.cells
        clear hk
        have hs2 := slz_alloc2 w1 vb rb vt rt 28
        have hb : Below w1.heap.size w1 (w1.alloc (.cells #[.bool vb, .string vt, .bool rb, .string rt] 28)) := (Below.refl _ _).alloc (Nat.le_refl _) _
        have HSS := Lib.hid (HSW.out _ _ hs2)
        have hkk := HK.out.next hb
        clear hs2 hb
        go_wp2_with fail
        refine HSS.out.mono ?_
        rintro ev w2 ⟨rfl, hb⟩
        have hk := hkk.next hb
        have HK := Lib.hid hk
        clear hb hkk c0 c1 c2 c3 d0 d1 d2 d3
        obtain ⟨⟨c0, c1, c2, c3⟩, d0, d1, d2, d3⟩ := hk.cells
        clear hk
        go_wp2_with fail
        refine (HAW.out _).mono ?_
        rintro ev w3 ⟨rfl, hb⟩
        have hk := HK.out.next hb
        have HK := Lib.hid hk
        clear hb c0 c1 c2 c3 d0 d1 d2 d3
        obtain ⟨⟨c0, c1, c2, c3⟩, d0, d1, d2, d3⟩ := hk.cells
        clear hk
        go_wp2
        go_ret
        exact ⟨rfl, HK.out.2.2⟩
      | true =>
        rw [hs] at HSW
        obtain ⟨h5, h6⟩ := shortZ_of hs
        have HC1 := Lib.hid (pk_Commit M O G H vb vt rb rt h1 h2 (by omega) (by omega) (by omega) (by omega))
        have HC2 := Lib.hid (r14_Commit M O G H vb vt rb rt h1 h2 (by omega) (by omega) (by omega) (by omega))
        have HP1 := Lib.hid (pk_Opens M O G H c vb vt rb rt h1 h2 (by omega) (by omega) (by omega) (by omega))
        have HP2 := Lib.hid (r14_Opens M O G H c vb vt rb rt h1 h2 (by omega) (by omega) (by omega) (by omega))
        obtain ⟨s, e, hcm⟩ := cmR_form M O G H vb vt rb rt
        obtain ⟨b, hb⟩ : ∃ b, opR M O G H c vb vt rb rt = b := ⟨_, rfl⟩
        rw [hcm] at HC1 HC2
        rw [hb] at HP1 HP2
        unfold kV oV at *
        clear h1 h2 h3 h4 h5 h6 hc hs hcm hb
        go_enter Tryz.func3, Tryz.ntmps3
        have hk := KO.new w M O G H vb vt rb rt
        obtain ⟨W0, hW0⟩ : ∃ W, (w.alloc (.cells #[.string M, .string O, .string G, .string H] 26)).alloc (.cells #[.bool vb, .string vt, .bool rb, .string rt] 30) = W := ⟨_, rfl⟩
        rw [hW0] at hk
        have HK := Lib.hid hk
        obtain ⟨⟨c0, c1, c2, c3⟩, d0, d1, d2, d3⟩ := hk.cells
        clear hk
        go_wp2_with fail
        try rw [hW0]
        clear hW0
        refine (HFW.out _).mono ?_
        rintro ev w1 ⟨rfl, hb⟩
        have hk := HK.out.next hb
        have HK := Lib.hid hk
        clear hb c0 c1 c2 c3 d0 d1 d2 d3
        obtain ⟨⟨c0, c1, c2, c3⟩, d0, d1, d2, d3⟩ := hk.cells
        clear hk
        have hs2 := slz_alloc2 w1 vb rb vt rt 28
        have hb : Below w1.heap.size w1 (w1.alloc (.cells #[.bool vb, .string vt, .bool rb, .string rt] 28)) := (Below.refl _ _).alloc (Nat.le_refl _) _
        have HSS := Lib.hid (HSW.out _ _ hs2)
        have hkk := HK.out.next hb
        clear hs2 hb
        go_wp2_with fail
        refine HSS.out.mono ?_
        rintro ev w2 ⟨rfl, hb⟩
        have hk := hkk.next hb
        have HK := Lib.hid hk
        clear hb hkk c0 c1 c2 c3 d0 d1 d2 d3
        obtain ⟨⟨c0, c1, c2, c3⟩, d0, d1, d2, d3⟩ := hk.cells
        clear hk
        go_wp2_with fail
        refine (HC1.out _).mono ?_
        rintro ev w3 ⟨rfl, hb⟩
        have hk := HK.out.next hb
        have HK := Lib.hid hk
        clear hb c0 c1 c2 c3 d0 d1 d2 d3
        obtain ⟨⟨c0, c1, c2, c3⟩, d0, d1, d2, d3⟩ := hk.cells
        clear hk
        go_wp2_with fail
        refine (HC2.out _).mono ?_
        rintro ev w4 ⟨rfl, hb⟩
        have hk := HK.out.next hb
        have HK := Lib.hid hk
        clear hb c0 c1 c2 c3 d0 d1 d2 d3
        obtain ⟨⟨c0, c1, c2, c3⟩, d0, d1, d2, d3⟩ := hk.cells
        clear hk
        go_wp2
        have g0 : w4.drew.cell? ⟨w.heap.size, 0, none⟩ = some (.string M) := c0
        have g1 : w4.drew.cell? ⟨w.heap.size, 1, none⟩ = some (.string O) := c1
        have g2 : w4.drew.cell? ⟨w.heap.size, 2, none⟩ = some (.string G) := c2
        have g3 : w4.drew.cell? ⟨w.heap.size, 3, none⟩ = some (.string H) := c3
        have k0 : w4.drew.cell? ⟨w.heap.size + 1, 0, none⟩ = some (.bool vb) := d0
        have k1 : w4.drew.cell? ⟨w.heap.size + 1, 1, none⟩ = some (.string vt) := d1
        have k2 : w4.drew.cell? ⟨w.heap.size + 1, 2, none⟩ = some (.bool rb) := d2
        have k3 : w4.drew.cell? ⟨w.heap.size + 1, 3, none⟩ = some (.string rt) := d3
        clear c0 c1 c2 c3 d0 d1 d2 d3
        refine wp_region_K 23 (Below (w4.drew).heap.size (w4.drew)) (by kernel_rfl) ?_
        intro hD
        refine wpAnyK_one (i := 0) (fuel := 22) (by kernel_rfl) rfl hD ?_
        clear hD; intro K0 hK0
        go_wp2_with fail
        refine (HAW.out _).mono ?_
        rintro ev u1 ⟨rfl, hb⟩
        have HB0 := Lib.hid hb
        clear hb
        go_wp2
        refine hK0 _ _ (by exact HB0.out) ?_; clear hK0; intro hS_5_0 hD
        refine wpAnyK_pureD (i := 1) (d := some 42) (v := ?v5_1b1) (fuel := 21) rfl (by kernel_rfl) (by kernel_rfl) (fun _ _ _ h => h) hD hS_5_0 (.inl ⟨by kernel_rfl, ?y5_1b1⟩) ?n5_1b1
        case y5_1b1 => intro w' _; go_simp; with_reducible rfl
        clear hD; intro hD
        simp only [Act.put, List.setIfInBounds_toArray, List.set_cons_zero, List.set_cons_succ]
        refine wpAnyK_pureD (i := 2) (d := some 43) (v := ?v5_2b1) (fuel := 20) rfl (by kernel_rfl) (by kernel_rfl) (fun _ _ _ h => h) hD hS_5_0 (.inl ⟨by kernel_rfl, ?y5_2b1⟩) ?n5_2b1
        case y5_2b1 => intro w' _; go_simp; with_reducible rfl
        clear hD; intro hD
        simp only [Act.put, List.setIfInBounds_toArray, List.set_cons_zero, List.set_cons_succ]
        refine wpAnyK_pureD (i := 3) (d := some 44) (v := ?v5_3b1) (fuel := 19) rfl (by kernel_rfl) (by kernel_rfl) (fun _ _ _ h => h) hD hS_5_0 (.inl ⟨by kernel_rfl, ?y5_3b1⟩) ?n5_3b1
        case y5_3b1 => intro w' _; go_simp; with_reducible rfl
        clear hD; intro hD
        simp only [Act.put, List.setIfInBounds_toArray, List.set_cons_zero, List.set_cons_succ]
        refine wpAnyK_pureD (i := 4) (d := some 45) (v := ?v5_4b1) (fuel := 18) rfl (by kernel_rfl) (by kernel_rfl) (fun _ _ _ h => h) hD hS_5_0 (.inl ⟨by kernel_rfl, ?y5_4b1⟩) ?n5_4b1
        case y5_4b1 => intro w' _; go_simp; with_reducible rfl
        clear hD; intro hD
        simp only [Act.put, List.setIfInBounds_toArray, List.set_cons_zero, List.set_cons_succ]
        refine wpAnyK_pureD (i := 5) (d := some 46) (v := ?v5_5b1) (fuel := 17) rfl (by kernel_rfl) (by kernel_rfl) (fun _ _ _ h => h) hD hS_5_0 (.inl ⟨by kernel_rfl, ?y5_5b1⟩) ?n5_5b1
        case y5_5b1 => intro w' _; go_simp; with_reducible rfl
        clear hD; intro hD
        simp only [Act.put, List.setIfInBounds_toArray, List.set_cons_zero, List.set_cons_succ]
        refine wpAnyK_pureD (i := 6) (d := some 47) (v := ?v5_6b1) (fuel := 16) rfl (by kernel_rfl) (by kernel_rfl) (fun _ _ _ h => h) hD hS_5_0 (.inl ⟨by kernel_rfl, ?y5_6b1⟩) ?n5_6b1
        case y5_6b1 => intro w' _; go_simp; with_reducible rfl
        clear hD; intro hD
        simp only [Act.put, List.setIfInBounds_toArray, List.set_cons_zero, List.set_cons_succ]
        refine wpAnyK_pureD (i := 7) (d := some 48) (v := ?v5_7b1) (fuel := 15) rfl (by kernel_rfl) (by kernel_rfl) (fun _ _ _ h => h) hD hS_5_0 (.inl ⟨by kernel_rfl, ?y5_7b1⟩) ?n5_7b1
        case y5_7b1 => intro w' _; go_simp; with_reducible rfl
        clear hD; intro hD
        simp only [Act.put, List.setIfInBounds_toArray, List.set_cons_zero, List.set_cons_succ]
        refine wpAnyK_pureD (i := 8) (d := some 49) (v := ?v5_8b1) (fuel := 14) rfl (by kernel_rfl) (by kernel_rfl) (fun _ _ _ h => h) hD hS_5_0 (.inl ⟨by kernel_rfl, ?y5_8b1⟩) ?n5_8b1
        case y5_8b1 => intro w' _; go_simp; with_reducible rfl
        clear hD; intro hD
        simp only [Act.put, List.setIfInBounds_toArray, List.set_cons_zero, List.set_cons_succ]
        refine wpAnyK_pureD (i := 9) (d := some 50) (v := ?v5_9b1) (fuel := 13) rfl (by kernel_rfl) (by kernel_rfl) (fun _ _ _ h => h) hD hS_5_0 (.inl ⟨by kernel_rfl, ?y5_9b1⟩) ?n5_9b1
        case y5_9b1 => intro w' _; go_simp; with_reducible rfl
        clear hD; intro hD
        simp only [Act.put, List.setIfInBounds_toArray, List.set_cons_zero, List.set_cons_succ]
        refine wpAnyK_pureD (i := 10) (d := some 51) (v := ?v5_10b1) (fuel := 12) rfl (by kernel_rfl) (by kernel_rfl) (fun _ _ _ h => h) hD hS_5_0 (.inl ⟨by kernel_rfl, ?y5_10b1⟩) ?n5_10b1
        case y5_10b1 => intro w' _; go_simp; with_reducible rfl
        clear hD; intro hD
        simp only [Act.put, List.setIfInBounds_toArray, List.set_cons_zero, List.set_cons_succ]
        refine wpAnyK_pureD (i := 11) (d := some 52) (v := ?v5_11b1) (fuel := 11) rfl (by kernel_rfl) (by kernel_rfl) (fun _ _ _ h => h) hD hS_5_0 (.inl ⟨by kernel_rfl, ?y5_11b1⟩) ?n5_11b1
        case y5_11b1 => intro w' _; go_simp; with_reducible rfl
        clear hD; intro hD
        simp only [Act.put, List.setIfInBounds_toArray, List.set_cons_zero, List.set_cons_succ]
        refine wpAnyK_takeSD (i := 12) (d := some 53) (v := ?v5_12b1) (fuel := 10) rfl (by kernel_rfl) (by kernel_rfl) (by kernel_rfl) (fun _ _ _ h => h) hD hS_5_0 (.inl ⟨by kernel_rfl, ?y5_12b1⟩) ?n5_12b1
        case y5_12b1 => intro w' hS'; have e0 := cell_kept hS' (Nat.le_refl _) g0; have e1 := cell_kept hS' (Nat.le_refl _) g1; have e2 := cell_kept hS' (Nat.le_refl _) g2; have e3 := cell_kept hS' (Nat.le_refl _) g3; have e4 := cell_kept hS' (Nat.le_refl _) k0; have e5 := cell_kept hS' (Nat.le_refl _) k1; have e6 := cell_kept hS' (Nat.le_refl _) k2; have e7 := cell_kept hS' (Nat.le_refl _) k3; go_simp; with_reducible rfl
        clear hD; intro hD
        simp only [Act.put, List.setIfInBounds_toArray, List.set_cons_zero, List.set_cons_succ]
        refine wpAnyK_pureD (i := 13) (d := some 54) (v := ?v5_13b1) (fuel := 9) rfl (by kernel_rfl) (by kernel_rfl) (fun _ _ _ h => h) hD hS_5_0 (.inl ⟨by kernel_rfl, ?y5_13b1⟩) ?n5_13b1
        case y5_13b1 => intro w' _; go_simp; with_reducible rfl
        clear hD; intro hD
        simp only [Act.put, List.setIfInBounds_toArray, List.set_cons_zero, List.set_cons_succ]
        refine wpAnyK_takeSD (i := 14) (d := some 55) (v := ?v5_14b1) (fuel := 8) rfl (by kernel_rfl) (by kernel_rfl) (by kernel_rfl) (fun _ _ _ h => h) hD hS_5_0 (.inl ⟨by kernel_rfl, ?y5_14b1⟩) ?n5_14b1
        case y5_14b1 => intro w' hS'; have e0 := cell_kept hS' (Nat.le_refl _) g0; have e1 := cell_kept hS' (Nat.le_refl _) g1; have e2 := cell_kept hS' (Nat.le_refl _) g2; have e3 := cell_kept hS' (Nat.le_refl _) g3; have e4 := cell_kept hS' (Nat.le_refl _) k0; have e5 := cell_kept hS' (Nat.le_refl _) k1; have e6 := cell_kept hS' (Nat.le_refl _) k2; have e7 := cell_kept hS' (Nat.le_refl _) k3; go_simp; with_reducible rfl
        clear hD; intro hD
        simp only [Act.put, List.setIfInBounds_toArray, List.set_cons_zero, List.set_cons_succ]
        refine wpAnyK_takeSD (i := 16) (d := some 57) (v := ?v5_16b1) (fuel := 7) rfl (by kernel_rfl) (by kernel_rfl) (by kernel_rfl) (fun _ _ _ h => h) hD hS_5_0 (.inl ⟨by kernel_rfl, ?y5_16b1⟩) ?n5_16b1
        case y5_16b1 => intro w' hS'; have e0 := cell_kept hS' (Nat.le_refl _) g0; have e1 := cell_kept hS' (Nat.le_refl _) g1; have e2 := cell_kept hS' (Nat.le_refl _) g2; have e3 := cell_kept hS' (Nat.le_refl _) g3; have e4 := cell_kept hS' (Nat.le_refl _) k0; have e5 := cell_kept hS' (Nat.le_refl _) k1; have e6 := cell_kept hS' (Nat.le_refl _) k2; have e7 := cell_kept hS' (Nat.le_refl _) k3; go_simp; with_reducible rfl
        clear hD; intro hD
        simp only [Act.put, List.setIfInBounds_toArray, List.set_cons_zero, List.set_cons_succ]
        refine wpAnyK_pureD (i := 17) (d := some 58) (v := ?v5_17b1) (fuel := 6) rfl (by kernel_rfl) (by kernel_rfl) (fun _ _ _ h => h) hD hS_5_0 (.inl ⟨by kernel_rfl, ?y5_17b1⟩) ?n5_17b1
        case y5_17b1 => intro w' _; go_simp; with_reducible rfl
        clear hD; intro hD
        simp only [Act.put, List.setIfInBounds_toArray, List.set_cons_zero, List.set_cons_succ]
        refine wpAnyK_takeSD (i := 18) (d := some 59) (v := ?v5_18b1) (fuel := 5) rfl (by kernel_rfl) (by kernel_rfl) (by kernel_rfl) (fun _ _ _ h => h) hD hS_5_0 (.inl ⟨by kernel_rfl, ?y5_18b1⟩) ?n5_18b1
        case y5_18b1 => intro w' hS'; have e0 := cell_kept hS' (Nat.le_refl _) g0; have e1 := cell_kept hS' (Nat.le_refl _) g1; have e2 := cell_kept hS' (Nat.le_refl _) g2; have e3 := cell_kept hS' (Nat.le_refl _) g3; have e4 := cell_kept hS' (Nat.le_refl _) k0; have e5 := cell_kept hS' (Nat.le_refl _) k1; have e6 := cell_kept hS' (Nat.le_refl _) k2; have e7 := cell_kept hS' (Nat.le_refl _) k3; go_simp; with_reducible rfl
        clear hD; intro hD
        simp only [Act.put, List.setIfInBounds_toArray, List.set_cons_zero, List.set_cons_succ]
        refine wpAnyK_one (i := 15) (fuel := 4) (by kernel_rfl) rfl hD ?_
        clear hD; intro K15 hK15
        go_wp2_with fail
        refine (HP1.out _).mono ?_
        rintro ev u2 ⟨rfl, hb⟩
        have HB15 := Lib.hid hb
        clear hb
        go_wp2
        refine hK15 _ _ (by exact Below.trans hS_5_0 (Below.mono HB15.out (Below.size hS_5_0))) ?_; clear hK15; intro hS_5_15 hD
        refine wpAnyK_one (i := 19) (fuel := 3) (by kernel_rfl) rfl hD ?_
        clear hD; intro K19 hK19
        go_wp2_with fail
        refine (HP2.out _).mono ?_
        rintro ev u3 ⟨rfl, hb⟩
        have HB19 := Lib.hid hb
        clear hb
        go_wp2
        refine hK19 _ _ (by exact Below.trans hS_5_15 (Below.mono HB19.out (Below.size hS_5_15))) ?_; clear hK19; intro hS_5_19 hD
        refine wpAnyK_pureD (i := 20) (d := some 61) (v := ?v5_20b1) (fuel := 2) rfl (by kernel_rfl) (by kernel_rfl) (fun _ _ _ h => h) hD hS_5_19 (.inl ⟨by kernel_rfl, ?y5_20b1⟩) ?n5_20b1
        case y5_20b1 => intro w' _; go_simp; with_reducible rfl
        clear hD; intro hD
        simp only [Act.put, List.setIfInBounds_toArray, List.set_cons_zero, List.set_cons_succ]
        refine wpAnyK_pureD (i := 21) (d := some 62) (v := ?v5_21b1) (fuel := 1) rfl (by kernel_rfl) (by kernel_rfl) (fun _ _ _ h => h) hD hS_5_19 (.inl ⟨by kernel_rfl, ?y5_21b1⟩) ?n5_21b1
        case y5_21b1 => intro w' _; go_simp; with_reducible rfl
        clear hD; intro hD
        simp only [Act.put, List.setIfInBounds_toArray, List.set_cons_zero, List.set_cons_succ]
        refine wpAnyK_one (i := 22) (fuel := 0) (by kernel_rfl) rfl hD ?_
        clear hD; intro K22 hK22
        go_wp2
        refine hK22 _ _ (by exact hS_5_19) ?_; clear hK22; intro hS_5_22 hD
        refine wpAnyK_done (by kernel_rfl) ?_ 0
        clear hD
        have HBF := Lib.hid (HK.out.2.2.trans (((Below.refl w4.heap.size w4).drew.trans hS_5_22).mono HK.out.2.2.size))
        go_wp2
        go_ret
        exact ⟨rfl, HBF.out⟩
end Go.Proofs.YtnnfgphioapmnaaGreat

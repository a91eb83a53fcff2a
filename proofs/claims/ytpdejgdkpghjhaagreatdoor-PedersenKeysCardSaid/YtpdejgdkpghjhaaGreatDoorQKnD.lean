/- The law PedersenKeys. -/
import Derived.Test.YtpdejgdkpghjhaaGreatDoorQKnC
import Derived.Test.YtpdejgdkpghjhaaGreatDoorQPeY
import Derived.Test.YtpdejgdkpghjhaaGreatDoorQPeQ
set_option linter.unusedVariables false
set_option linter.unusedSimpArgs false
namespace Go.Proofs.YtpdejgdkpghjhaaGreatDoor
open Go.RowKit

theorem few14_parts {M O G H : ByteArray} (h : few14 M O G H = true) : M.size ≤ 8 ∧ O.size ≤ 8 ∧ G.size ≤ 9 ∧ H.size ≤ 9 := by
  unfold few14 at h
  simp only [Bool.and_eq_true, decide_eq_true_eq] at h
  exact h
/-- A key's box. -/
def KB (w W : World) (M O G H : ByteArray) : Prop := Bx4 W w.heap.size (.string M) (.string O) (.string G) (.string H) 26 ∧ Below w.heap.size w W
theorem KB.new (w : World) (M O G H : ByteArray) : KB w (w.alloc (.cells #[.string M, .string O, .string G, .string H] 26)) M O G H := ⟨Bx4.new _ _ _ _ _ _, (Below.refl _ _).alloc (Nat.le_refl _) _⟩
theorem KB.next {w W W' : World} {M O G H : ByteArray} (h : KB w W M O G H) (hb : Below W.heap.size W W') : KB w W' M O G H := ⟨h.1.next hb, h.2.trans (hb.mono h.2.size)⟩
theorem nwF_form (M O : ByteArray) (l : List UInt8) (a : Nat) : ∀ n, ∃ s1 s2 s3 s4 e, nwF M O l a n = .tuple #[.agg #[.string s1, .string s2, .string s3, .string s4], .int .i64 e]
  | 0 => ⟨_, _, _, _, _, rfl⟩
  | n + 1 => by
    unfold nwF
    split
    · exact ⟨_, _, _, _, _, rfl⟩
    · split
      · exact nwF_form M O l a n
      · exact ⟨_, _, _, _, _, rfl⟩
theorem nwR_form (M O : ByteArray) (l : List UInt8) : ∃ s1 s2 s3 s4 e, nwR M O l = .tuple #[.agg #[.string s1, .string s2, .string s3, .string s4], .int .i64 e] := by
  unfold nwR
  split
  · split
    · exact ⟨_, _, _, _, _, rfl⟩
    · split
      · exact ⟨_, _, _, _, _, rfl⟩
      · exact nwF_form _ _ _ _ _
  · exact ⟨_, _, _, _, _, rfl⟩

set_option maxRecDepth 100000 in
set_option maxHeartbeats 4000000 in
theorem walk_keys (M O G H s : ByteArray) (w : World) : Calls Tryz.prog 7 #[kV M O G H, .string s] w (Ret (.bool true) w) := by
  have HAW := Lib.hid law14_awake
  have HFW := Lib.hid (law14_Few M O G H)
  cases hf : few14 M O G H with
  | false =>
    rw [hf] at HFW
    unfold kV at *
    clear hf
    go_enter Tryz.func7, Tryz.ntmps7
    have hk := KB.new w M O G H
    obtain ⟨W0, hW0⟩ : ∃ W, w.alloc (.cells #[.string M, .string O, .string G, .string H] 26) = W := ⟨_, rfl⟩
    rw [hW0] at hk
    have HK := Lib.hid hk
    obtain ⟨c0, c1, c2, c3⟩ := hk.1.cells
    clear hk
    go_wp2_with fail
    try rw [hW0]
    clear hW0
    refine (HFW.out _).mono ?_
    rintro ev w1 ⟨rfl, hb⟩
    have hk := HK.out.next hb
    have HK := Lib.hid hk
    clear hb c0 c1 c2 c3
    obtain ⟨c0, c1, c2, c3⟩ := hk.1.cells
    clear hk
    go_wp2_with fail
    refine (HAW.out _).mono ?_
    rintro ev w2 ⟨rfl, hb⟩
    have hk := HK.out.next hb
    have HK := Lib.hid hk
    clear hb c0 c1 c2 c3
    obtain ⟨c0, c1, c2, c3⟩ := hk.1.cells
    clear hk
    go_wp2
    go_ret
    exact ⟨rfl, HK.out.2⟩
  | true =>
    rw [hf] at HFW
    obtain ⟨h1, h2, h3, h4⟩ := few14_parts hf
    clear hf
    by_cases hc : 100 < s.size
    · have i1 : decide ((100 : Int) < (s.size : Int)) = true := decide_eq_true (by omega)
      unfold kV at *
      clear h1 h2 h3 h4 hc
      go_enter Tryz.func7, Tryz.ntmps7
      have hk := KB.new w M O G H
      obtain ⟨W0, hW0⟩ : ∃ W, w.alloc (.cells #[.string M, .string O, .string G, .string H] 26) = W := ⟨_, rfl⟩
      rw [hW0] at hk
      have HK := Lib.hid hk
      obtain ⟨c0, c1, c2, c3⟩ := hk.1.cells
      clear hk
      go_wp2_with fail
      try rw [hW0]
      clear hW0
      refine (HFW.out _).mono ?_
      rintro ev w1 ⟨rfl, hb⟩
      have hk := HK.out.next hb
      have HK := Lib.hid hk
      clear hb c0 c1 c2 c3
      obtain ⟨c0, c1, c2, c3⟩ := hk.1.cells
      clear hk
      go_wp2_with fail
      refine (HAW.out _).mono ?_
      rintro ev w2 ⟨rfl, hb⟩
      have hk := HK.out.next hb
      have HK := Lib.hid hk
      clear hb c0 c1 c2 c3
      obtain ⟨c0, c1, c2, c3⟩ := hk.1.cells
      clear hk
      go_wp2
      go_ret
      exact ⟨rfl, HK.out.2⟩
    · have i1 : decide ((100 : Int) < (s.size : Int)) = false := decide_eq_false (by omega)
      have HN1 := Lib.hid (pk_New M O s h1 h2 (by omega))
      have HN2 := Lib.hid (r14_New M O s h1 h2 (by omega))
      have HP1 := Lib.hid (pk_Check M O G H h1 h2 (by omega) (by omega))
      have HP2 := Lib.hid (r14_Check M O G H h1 h2 (by omega) (by omega))
      obtain ⟨s1, s2, s3, s4, e, hnw⟩ := nwR_form M O s.data.toList
      obtain ⟨b, hb⟩ : ∃ b, pkC M O G H = b := ⟨_, rfl⟩
      rw [hnw] at HN1 HN2
      rw [hb] at HP1 HP2
      unfold kV gV at *
      clear h1 h2 h3 h4 hc hnw hb
      go_enter Tryz.func7, Tryz.ntmps7
      have hk := KB.new w M O G H
      obtain ⟨W0, hW0⟩ : ∃ W, w.alloc (.cells #[.string M, .string O, .string G, .string H] 26) = W := ⟨_, rfl⟩
      rw [hW0] at hk
      have HK := Lib.hid hk
      obtain ⟨c0, c1, c2, c3⟩ := hk.1.cells
      clear hk
      go_wp2_with fail
      try rw [hW0]
      clear hW0
      refine (HFW.out _).mono ?_
      rintro ev w1 ⟨rfl, hb⟩
      have hk := HK.out.next hb
      have HK := Lib.hid hk
      clear hb c0 c1 c2 c3
      obtain ⟨c0, c1, c2, c3⟩ := hk.1.cells
      clear hk
      go_wp2_with fail
      refine (HN1.out _).mono ?_
      rintro ev w2 ⟨rfl, hb⟩
      have hk := HK.out.next hb
      have HK := Lib.hid hk
      clear hb c0 c1 c2 c3
      obtain ⟨c0, c1, c2, c3⟩ := hk.1.cells
      clear hk
      have ha := Bx4.new w2 (.string s1) (.string s2) (.string s3) (.string s4) 26
      have hk := HK.out.next ((Below.refl _ _).alloc (Nat.le_refl _) (.cells #[.string s1, .string s2, .string s3, .string s4] 26))
      obtain ⟨W1, hW1⟩ : ∃ W, w2.alloc (.cells #[.string s1, .string s2, .string s3, .string s4] 26) = W := ⟨_, rfl⟩
      obtain ⟨X, hX⟩ : ∃ X, w2.heap.size = X := ⟨_, rfl⟩
      rw [hW1, hX] at ha
      rw [hW1] at hk
      have HK := Lib.hid hk
      have HA := Lib.hid ha
      clear c0 c1 c2 c3 ha
      obtain ⟨c0, c1, c2, c3⟩ := hk.1.cells
      clear hk
      go_wp2_with fail
      try rw [hW1]
      try rw [hX]
      clear hW1 hX
      refine (HN2.out _).mono ?_
      rintro ev w3 ⟨rfl, hb⟩
      have HA3 := Lib.hid (HA.out.next hb)
      have hk := HK.out.next hb
      have HK := Lib.hid hk
      clear hb c0 c1 c2 c3
      clear hk
      have hb := (Below.refl w3.heap.size w3).alloc (Nat.le_refl _) (.cells #[.string s1, .string s2, .string s3, .string s4] 26)
      have ha := Bx4.new w3 (.string s1) (.string s2) (.string s3) (.string s4) 26
      have HK := Lib.hid (HK.out.next hb)
      have HA4 := Lib.hid (HA3.out.next hb)
      obtain ⟨W2, hW2⟩ : ∃ W, w3.alloc (.cells #[.string s1, .string s2, .string s3, .string s4] 26) = W := ⟨_, rfl⟩
      obtain ⟨Y, hY⟩ : ∃ X, w3.heap.size = X := ⟨_, rfl⟩
      rw [hW2] at HK HA4 ha
      rw [hY] at ha
      have HA5 := Lib.hid ha
      clear ha hb
      go_wp2
      try rw [hW2]
      try rw [hY]
      clear hW2 hY
      obtain ⟨wd, hwd⟩ : ∃ wd, W2.drew = wd := ⟨_, rfl⟩
      have HKD := Lib.hid (show KB w wd M O G H from by rw [← hwd]; exact ⟨HK.out.1, HK.out.2.drew⟩)
      obtain ⟨g0, g1, g2, g3⟩ := HKD.out.1.cells
      obtain ⟨a0, a1, a2, a3⟩ := (show Bx4 wd X (.string s1) (.string s2) (.string s3) (.string s4) 26 from by rw [← hwd]; exact HA4.out).cells
      obtain ⟨b0, b1, b2, b3⟩ := (show Bx4 wd Y (.string s1) (.string s2) (.string s3) (.string s4) 26 from by rw [← hwd]; exact HA5.out).cells
      have hXlt := HA4.out.lt
      have hYlt := HA5.out.lt
      refine wp_region_K 19 (Below (wd).heap.size (wd)) (by kernel_rfl) ?_
      intro hD
      rw [hwd]
      refine wpAnyK_one (i := 0) (fuel := 18) (by kernel_rfl) rfl hD ?_
      clear hD; intro K0 hK0
      go_wp2_with fail
      refine (HAW.out _).mono ?_
      rintro ev u1 ⟨rfl, hb⟩
      have HB0 := Lib.hid hb
      clear hb
      go_wp2
      refine hK0 _ _ (by exact HB0.out) ?_; clear hK0; intro hS_5_0 hD
      refine wpAnyK_pureD (i := 1) (d := some 33) (v := ?v5_1b1) (fuel := 17) rfl (by kernel_rfl) (by kernel_rfl) (fun _ _ _ h => h) hD hS_5_0 (.inl ⟨by kernel_rfl, ?y5_1b1⟩) ?n5_1b1
      case y5_1b1 => intro w' _; go_simp; with_reducible rfl
      clear hD; intro hD
      simp only [Act.put, List.setIfInBounds_toArray, List.set_cons_zero, List.set_cons_succ]
      refine wpAnyK_takeSD (i := 2) (d := some 34) (v := ?v5_2b1) (fuel := 16) rfl (by kernel_rfl) (by kernel_rfl) (by kernel_rfl) (fun _ _ _ h => h) hD hS_5_0 (.inl ⟨by kernel_rfl, ?y5_2b1⟩) ?n5_2b1
      case y5_2b1 => intro w' hS'; have e0 := cell_kept hS' (Nat.le_refl _) g0; have e1 := cell_kept hS' (Nat.le_refl _) g1; have e2 := cell_kept hS' (Nat.le_refl _) g2; have e3 := cell_kept hS' (Nat.le_refl _) g3; have e4 := cell_kept hS' (Nat.le_refl _) a0; have e5 := cell_kept hS' (Nat.le_refl _) a1; have e6 := cell_kept hS' (Nat.le_refl _) a2; have e7 := cell_kept hS' (Nat.le_refl _) a3; have e8 := cell_kept hS' (Nat.le_refl _) b0; have e9 := cell_kept hS' (Nat.le_refl _) b1; have e10 := cell_kept hS' (Nat.le_refl _) b2; have e11 := cell_kept hS' (Nat.le_refl _) b3; go_simp; with_reducible rfl
      clear hD; intro hD
      simp only [Act.put, List.setIfInBounds_toArray, List.set_cons_zero, List.set_cons_succ]
      refine wpAnyK_takeSD (i := 4) (d := some 36) (v := ?v5_4b1) (fuel := 15) rfl (by kernel_rfl) (by kernel_rfl) (by kernel_rfl) (fun _ _ _ h => h) hD hS_5_0 (.inl ⟨by kernel_rfl, ?y5_4b1⟩) ?n5_4b1
      case y5_4b1 => intro w' hS'; have e0 := cell_kept hS' (Nat.le_refl _) g0; have e1 := cell_kept hS' (Nat.le_refl _) g1; have e2 := cell_kept hS' (Nat.le_refl _) g2; have e3 := cell_kept hS' (Nat.le_refl _) g3; have e4 := cell_kept hS' (Nat.le_refl _) a0; have e5 := cell_kept hS' (Nat.le_refl _) a1; have e6 := cell_kept hS' (Nat.le_refl _) a2; have e7 := cell_kept hS' (Nat.le_refl _) a3; have e8 := cell_kept hS' (Nat.le_refl _) b0; have e9 := cell_kept hS' (Nat.le_refl _) b1; have e10 := cell_kept hS' (Nat.le_refl _) b2; have e11 := cell_kept hS' (Nat.le_refl _) b3; go_simp; with_reducible rfl
      clear hD; intro hD
      simp only [Act.put, List.setIfInBounds_toArray, List.set_cons_zero, List.set_cons_succ]
      refine wpAnyK_one (i := 3) (fuel := 14) (by kernel_rfl) rfl hD ?_
      clear hD; intro K3 hK3
      go_wp2_with fail
      refine (HP1.out _).mono ?_
      rintro ev u2 ⟨rfl, hb⟩
      have HB3 := Lib.hid hb
      clear hb
      go_wp2
      refine hK3 _ _ (by exact Below.trans hS_5_0 (Below.mono HB3.out (Below.size hS_5_0))) ?_; clear hK3; intro hS_5_3 hD
      refine wpAnyK_one (i := 5) (fuel := 13) (by kernel_rfl) rfl hD ?_
      clear hD; intro K5 hK5
      go_wp2_with fail
      refine (HP2.out _).mono ?_
      rintro ev u3 ⟨rfl, hb⟩
      have HB5 := Lib.hid hb
      clear hb
      go_wp2
      refine hK5 _ _ (by exact Below.trans hS_5_3 (Below.mono HB5.out (Below.size hS_5_3))) ?_; clear hK5; intro hS_5_5 hD
      refine wpAnyK_pureD (i := 6) (d := some 38) (v := ?v5_6b1) (fuel := 12) rfl (by kernel_rfl) (by kernel_rfl) (fun _ _ _ h => h) hD hS_5_5 (.inl ⟨by kernel_rfl, ?y5_6b1⟩) ?n5_6b1
      case y5_6b1 => intro w' _; go_simp; with_reducible rfl
      clear hD; intro hD
      simp only [Act.put, List.setIfInBounds_toArray, List.set_cons_zero, List.set_cons_succ]
      refine wpAnyK_pureD (i := 7) (d := some 39) (v := ?v5_7b1) (fuel := 11) rfl (by kernel_rfl) (by kernel_rfl) (fun _ _ _ h => h) hD hS_5_5 (.inl ⟨by kernel_rfl, ?y5_7b1⟩) ?n5_7b1
      case y5_7b1 => intro w' _; go_simp; with_reducible rfl
      clear hD; intro hD
      simp only [Act.put, List.setIfInBounds_toArray, List.set_cons_zero, List.set_cons_succ]
      refine wpAnyK_pureD (i := 8) (d := some 40) (v := ?v5_8b1) (fuel := 10) rfl (by kernel_rfl) (by kernel_rfl) (fun _ _ _ h => h) hD hS_5_5 (.inl ⟨by kernel_rfl, ?y5_8b1⟩) ?n5_8b1
      case y5_8b1 => intro w' _; go_simp; with_reducible rfl
      clear hD; intro hD
      simp only [Act.put, List.setIfInBounds_toArray, List.set_cons_zero, List.set_cons_succ]
      refine wpAnyK_takeSD (i := 9) (d := some 41) (v := ?v5_9b1) (fuel := 9) rfl (by kernel_rfl) (by kernel_rfl) (by kernel_rfl) (fun _ _ _ h => h) hD hS_5_5 (.inl ⟨by kernel_rfl, ?y5_9b1⟩) ?n5_9b1
      case y5_9b1 => intro w' hS'; have e0 := cell_kept hS' (Nat.le_refl _) g0; have e1 := cell_kept hS' (Nat.le_refl _) g1; have e2 := cell_kept hS' (Nat.le_refl _) g2; have e3 := cell_kept hS' (Nat.le_refl _) g3; have e4 := cell_kept hS' (Nat.le_refl _) a0; have e5 := cell_kept hS' (Nat.le_refl _) a1; have e6 := cell_kept hS' (Nat.le_refl _) a2; have e7 := cell_kept hS' (Nat.le_refl _) a3; have e8 := cell_kept hS' (Nat.le_refl _) b0; have e9 := cell_kept hS' (Nat.le_refl _) b1; have e10 := cell_kept hS' (Nat.le_refl _) b2; have e11 := cell_kept hS' (Nat.le_refl _) b3; go_simp; with_reducible rfl
      clear hD; intro hD
      simp only [Act.put, List.setIfInBounds_toArray, List.set_cons_zero, List.set_cons_succ]
      refine wpAnyK_takeSD (i := 10) (d := some 42) (v := ?v5_10b1) (fuel := 8) rfl (by kernel_rfl) (by kernel_rfl) (by kernel_rfl) (fun _ _ _ h => h) hD hS_5_5 (.inl ⟨by kernel_rfl, ?y5_10b1⟩) ?n5_10b1
      case y5_10b1 => intro w' hS'; have e0 := cell_kept hS' (Nat.le_refl _) g0; have e1 := cell_kept hS' (Nat.le_refl _) g1; have e2 := cell_kept hS' (Nat.le_refl _) g2; have e3 := cell_kept hS' (Nat.le_refl _) g3; have e4 := cell_kept hS' (Nat.le_refl _) a0; have e5 := cell_kept hS' (Nat.le_refl _) a1; have e6 := cell_kept hS' (Nat.le_refl _) a2; have e7 := cell_kept hS' (Nat.le_refl _) a3; have e8 := cell_kept hS' (Nat.le_refl _) b0; have e9 := cell_kept hS' (Nat.le_refl _) b1; have e10 := cell_kept hS' (Nat.le_refl _) b2; have e11 := cell_kept hS' (Nat.le_refl _) b3; go_simp; with_reducible rfl
      clear hD; intro hD
      simp only [Act.put, List.setIfInBounds_toArray, List.set_cons_zero, List.set_cons_succ]
      refine wpAnyK_pureD (i := 11) (d := some 43) (v := ?v5_11b1) (fuel := 7) rfl (by kernel_rfl) (by kernel_rfl) (fun _ _ _ h => h) hD hS_5_5 (.inl ⟨by kernel_rfl, ?y5_11b1⟩) ?n5_11b1
      case y5_11b1 => intro w' _; go_simp; with_reducible rfl
      clear hD; intro hD
      simp only [Act.put, List.setIfInBounds_toArray, List.set_cons_zero, List.set_cons_succ]
      refine wpAnyK_pureD (i := 12) (d := some 44) (v := ?v5_12b1) (fuel := 6) rfl (by kernel_rfl) (by kernel_rfl) (fun _ _ _ h => h) hD hS_5_5 (.inl ⟨by kernel_rfl, ?y5_12b1⟩) ?n5_12b1
      case y5_12b1 => intro w' _; go_simp; with_reducible rfl
      clear hD; intro hD
      simp only [Act.put, List.setIfInBounds_toArray, List.set_cons_zero, List.set_cons_succ]
      refine wpAnyK_pureD (i := 13) (d := some 45) (v := ?v5_13b1) (fuel := 5) rfl (by kernel_rfl) (by kernel_rfl) (fun _ _ _ h => h) hD hS_5_5 (.inl ⟨by kernel_rfl, ?y5_13b1⟩) ?n5_13b1
      case y5_13b1 => intro w' _; go_simp; with_reducible rfl
      clear hD; intro hD
      simp only [Act.put, List.setIfInBounds_toArray, List.set_cons_zero, List.set_cons_succ]
      refine wpAnyK_pureD (i := 14) (d := some 46) (v := ?v5_14b1) (fuel := 4) rfl (by kernel_rfl) (by kernel_rfl) (fun _ _ _ h => h) hD hS_5_5 (.inl ⟨by kernel_rfl, ?y5_14b1⟩) ?n5_14b1
      case y5_14b1 => intro w' _; go_simp; with_reducible rfl
      clear hD; intro hD
      simp only [Act.put, List.setIfInBounds_toArray, List.set_cons_zero, List.set_cons_succ]
      refine wpAnyK_pureD (i := 15) (d := some 47) (v := ?v5_15b1) (fuel := 3) rfl (by kernel_rfl) (by kernel_rfl) (fun _ _ _ h => h) hD hS_5_5 (.inl ⟨by kernel_rfl, ?y5_15b1⟩) ?n5_15b1
      case y5_15b1 => intro w' _; go_simp; with_reducible rfl
      clear hD; intro hD
      simp only [Act.put, List.setIfInBounds_toArray, List.set_cons_zero, List.set_cons_succ]
      refine wpAnyK_pureD (i := 16) (d := some 48) (v := ?v5_16b1) (fuel := 2) rfl (by kernel_rfl) (by kernel_rfl) (fun _ _ _ h => h) hD hS_5_5 (.inl ⟨by kernel_rfl, ?y5_16b1⟩) ?n5_16b1
      case y5_16b1 => intro w' _; go_simp; with_reducible rfl
      clear hD; intro hD
      simp only [Act.put, List.setIfInBounds_toArray, List.set_cons_zero, List.set_cons_succ]
      refine wpAnyK_pureD (i := 17) (d := some 49) (v := ?v5_17b1) (fuel := 1) rfl (by kernel_rfl) (by kernel_rfl) (fun _ _ _ h => h) hD hS_5_5 (.inl ⟨by kernel_rfl, ?y5_17b1⟩) ?n5_17b1
      case y5_17b1 => intro w' _; go_simp; with_reducible rfl
      clear hD; intro hD
      simp only [Act.put, List.setIfInBounds_toArray, List.set_cons_zero, List.set_cons_succ]
      refine wpAnyK_one (i := 18) (fuel := 0) (by kernel_rfl) rfl hD ?_
      clear hD; intro K18 hK18
      go_wp2
      refine hK18 _ _ (by exact hS_5_5) ?_; clear hK18; intro hS_5_18 hD
      have HL := Lib.hid hS_5_18
      refine wpAnyK_done (by kernel_rfl) ?_ 0
      clear hD
      go_wp2
      go_ret
      exact ⟨rfl, HKD.out.2.trans (HL.out.mono HKD.out.2.size)⟩
end Go.Proofs.YtpdejgdkpghjhaaGreatDoor

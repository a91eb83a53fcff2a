/- Walks: dominoref09.Check; the law PrimegroupChecks. -/
import Derived.Test.YtcbjadaghpmejaaDoorMrE
import Derived.Test.YtcbjadaghpmejaaDoorAwL
set_option linter.unusedVariables false
set_option linter.unusedSimpArgs false
namespace Go.Proofs.YtcbjadaghpmejaaDoor
open Go.RowKit

set_option maxRecDepth 100000 in
set_option maxHeartbeats 2000000 in
theorem r09_Check (M O : ByteArray) (hM : M.size ≤ 1000) (hO : O.size ≤ 1000) (w : World) : Calls Tryd.prog 8 #[gV M O] w (Ret (.int .i64 (chkG M O)) w) := by
  have HF := Lib.hid (r09_form M O (by omega) (by omega))
  by_cases hv : nvalid M = true ∧ nvalid O = true
  · rw [hv.1, hv.2, Bool.and_true] at HF
    by_cases h8 : M.size ≤ 8
    · have hm8 := num_lt8 hv.1 h8
      have i1 : (M.size : Int) ≤ 8 := by omega
      have HI1 := Lib.hid (r04_Is_n (num M) hm8)
      rw [← nS_num hv.1] at HI1
      by_cases h9 : O.size ≤ 8
      · have hq8 := num_lt8 hv.2 h9
        have i2 : (O.size : Int) ≤ 8 := by omega
        have HI2 := Lib.hid (r04_Is_n (num O) hq8)
        rw [← nS_num hv.2] at HI2
        have HD := Lib.hid (fun h1 h2 => r09_divides (num M) (num O) h1 hm8 h2 hq8)
        rw [← nS_num hv.1, ← nS_num hv.2] at HD
        rw [chkG_in hv h8 h9]
        unfold chkN
        obtain ⟨m, hm⟩ : ∃ m, num M = m := ⟨_, rfl⟩
        obtain ⟨q, hq⟩ : ∃ q, num O = q := ⟨_, rfl⟩
        rw [hm] at HI1 HD ⊢
        rw [hq] at HI2 HD ⊢
        clear hm hq hm8 hq8 hv h8 h9
        cases hb : isN m with
        | false =>
          rw [hb] at HI1
          clear hb
          rw [if_pos rfl]
          have HX0 := Lib.hid (Bx2.new w (.string M) (.string O) 24)
          have HB0 := Lib.hid ((Below.refl w.heap.size w).alloc (Nat.le_refl _) (.cells #[.string M, .string O] 24))
          have c0 := HX0.out.c0
          have c1 := HX0.out.c1
          unfold gV at *
          go_enter Tryd.func8, Tryd.ntmps8
          go_wp2_with fail
          refine (HF.out _).mono ?_
          rintro e w1 ⟨rfl, hb1⟩
          have HX1 := Lib.hid (HX0.out.next hb1)
          have HB1 := Lib.hid (HB0.out.trans (hb1.mono HB0.out.size))
          clear hb1 c0 c1
          have c0 := HX1.out.c0
          have c1 := HX1.out.c1
          go_wp2_with fail
          refine (HI1.out _).mono ?_
          rintro e w2 ⟨rfl, hb2⟩
          have HX2 := Lib.hid (HX1.out.next hb2)
          have HB2 := Lib.hid (HB1.out.trans (hb2.mono HB1.out.size))
          clear hb2 c0 c1
          have c0 := HX2.out.c0
          have c1 := HX2.out.c1
          go_wp2
          go_ret
          exact ⟨rfl, HB2.out⟩
        | true =>
          have p1 := isN_pos hb
          rw [hb] at HI1
          clear hb
          rw [if_neg (by decide)]
          cases hc : isN q with
          | false =>
            rw [hc] at HI2
            clear hc p1
            rw [if_pos rfl]
            have HX0 := Lib.hid (Bx2.new w (.string M) (.string O) 24)
            have HB0 := Lib.hid ((Below.refl w.heap.size w).alloc (Nat.le_refl _) (.cells #[.string M, .string O] 24))
            have c0 := HX0.out.c0
            have c1 := HX0.out.c1
            unfold gV at *
            go_enter Tryd.func8, Tryd.ntmps8
            go_wp2_with fail
            refine (HF.out _).mono ?_
            rintro e w1 ⟨rfl, hb1⟩
            have HX1 := Lib.hid (HX0.out.next hb1)
            have HB1 := Lib.hid (HB0.out.trans (hb1.mono HB0.out.size))
            clear hb1 c0 c1
            have c0 := HX1.out.c0
            have c1 := HX1.out.c1
            go_wp2_with fail
            refine (HI1.out _).mono ?_
            rintro e w2 ⟨rfl, hb2⟩
            have HX2 := Lib.hid (HX1.out.next hb2)
            have HB2 := Lib.hid (HB1.out.trans (hb2.mono HB1.out.size))
            clear hb2 c0 c1
            have c0 := HX2.out.c0
            have c1 := HX2.out.c1
            go_wp2_with fail
            refine (HI2.out _).mono ?_
            rintro e w3 ⟨rfl, hb3⟩
            have HX3 := Lib.hid (HX2.out.next hb3)
            have HB3 := Lib.hid (HB2.out.trans (hb3.mono HB2.out.size))
            clear hb3 c0 c1
            have c0 := HX3.out.c0
            have c1 := HX3.out.c1
            go_wp2
            go_ret
            exact ⟨rfl, HB3.out⟩
          | true =>
            have p2 := isN_pos hc
            rw [hc] at HI2
            have HE := Lib.hid (HD.out (by omega) (by omega))
            clear hc p1 p2
            rw [if_neg (by decide)]
            by_cases hd : (m - 1) % q = 0
            · rw [decide_eq_true hd] at HE
              rw [if_pos hd]
              clear hd
              have HX0 := Lib.hid (Bx2.new w (.string M) (.string O) 24)
              have HB0 := Lib.hid ((Below.refl w.heap.size w).alloc (Nat.le_refl _) (.cells #[.string M, .string O] 24))
              have c0 := HX0.out.c0
              have c1 := HX0.out.c1
              unfold gV at *
              go_enter Tryd.func8, Tryd.ntmps8
              go_wp2_with fail
              refine (HF.out _).mono ?_
              rintro e w1 ⟨rfl, hb1⟩
              have HX1 := Lib.hid (HX0.out.next hb1)
              have HB1 := Lib.hid (HB0.out.trans (hb1.mono HB0.out.size))
              clear hb1 c0 c1
              have c0 := HX1.out.c0
              have c1 := HX1.out.c1
              go_wp2_with fail
              refine (HI1.out _).mono ?_
              rintro e w2 ⟨rfl, hb2⟩
              have HX2 := Lib.hid (HX1.out.next hb2)
              have HB2 := Lib.hid (HB1.out.trans (hb2.mono HB1.out.size))
              clear hb2 c0 c1
              have c0 := HX2.out.c0
              have c1 := HX2.out.c1
              go_wp2_with fail
              refine (HI2.out _).mono ?_
              rintro e w3 ⟨rfl, hb3⟩
              have HX3 := Lib.hid (HX2.out.next hb3)
              have HB3 := Lib.hid (HB2.out.trans (hb3.mono HB2.out.size))
              clear hb3 c0 c1
              have c0 := HX3.out.c0
              have c1 := HX3.out.c1
              go_wp2_with fail
              refine (HE.out _).mono ?_
              rintro e w4 ⟨rfl, hb4⟩
              have HX4 := Lib.hid (HX3.out.next hb4)
              have HB4 := Lib.hid (HB3.out.trans (hb4.mono HB3.out.size))
              clear hb4 c0 c1
              have c0 := HX4.out.c0
              have c1 := HX4.out.c1
              go_wp2
              go_ret
              exact ⟨rfl, HB4.out⟩
            · rw [decide_eq_false hd] at HE
              rw [if_neg hd]
              clear hd
              have HX0 := Lib.hid (Bx2.new w (.string M) (.string O) 24)
              have HB0 := Lib.hid ((Below.refl w.heap.size w).alloc (Nat.le_refl _) (.cells #[.string M, .string O] 24))
              have c0 := HX0.out.c0
              have c1 := HX0.out.c1
              unfold gV at *
              go_enter Tryd.func8, Tryd.ntmps8
              go_wp2_with fail
              refine (HF.out _).mono ?_
              rintro e w1 ⟨rfl, hb1⟩
              have HX1 := Lib.hid (HX0.out.next hb1)
              have HB1 := Lib.hid (HB0.out.trans (hb1.mono HB0.out.size))
              clear hb1 c0 c1
              have c0 := HX1.out.c0
              have c1 := HX1.out.c1
              go_wp2_with fail
              refine (HI1.out _).mono ?_
              rintro e w2 ⟨rfl, hb2⟩
              have HX2 := Lib.hid (HX1.out.next hb2)
              have HB2 := Lib.hid (HB1.out.trans (hb2.mono HB1.out.size))
              clear hb2 c0 c1
              have c0 := HX2.out.c0
              have c1 := HX2.out.c1
              go_wp2_with fail
              refine (HI2.out _).mono ?_
              rintro e w3 ⟨rfl, hb3⟩
              have HX3 := Lib.hid (HX2.out.next hb3)
              have HB3 := Lib.hid (HB2.out.trans (hb3.mono HB2.out.size))
              clear hb3 c0 c1
              have c0 := HX3.out.c0
              have c1 := HX3.out.c1
              go_wp2_with fail
              refine (HE.out _).mono ?_
              rintro e w4 ⟨rfl, hb4⟩
              have HX4 := Lib.hid (HX3.out.next hb4)
              have HB4 := Lib.hid (HB3.out.trans (hb4.mono HB3.out.size))
              clear hb4 c0 c1
              have c0 := HX4.out.c0
              have c1 := HX4.out.c1
              go_wp2
              go_ret
              exact ⟨rfl, HB4.out⟩
      · rw [chkG_wide hv h8 h9]
        have i2 : ¬ ((O.size : Int) ≤ 8) := by omega
        clear h8 hv
        cases hb : isN (num M) with
        | false =>
          rw [hb] at HI1
          clear hb
          have HX0 := Lib.hid (Bx2.new w (.string M) (.string O) 24)
          have HB0 := Lib.hid ((Below.refl w.heap.size w).alloc (Nat.le_refl _) (.cells #[.string M, .string O] 24))
          have c0 := HX0.out.c0
          have c1 := HX0.out.c1
          unfold gV at *
          go_enter Tryd.func8, Tryd.ntmps8
          go_wp2_with fail
          refine (HF.out _).mono ?_
          rintro e w1 ⟨rfl, hb1⟩
          have HX1 := Lib.hid (HX0.out.next hb1)
          have HB1 := Lib.hid (HB0.out.trans (hb1.mono HB0.out.size))
          clear hb1 c0 c1
          have c0 := HX1.out.c0
          have c1 := HX1.out.c1
          go_wp2_with fail
          refine (HI1.out _).mono ?_
          rintro e w2 ⟨rfl, hb2⟩
          have HX2 := Lib.hid (HX1.out.next hb2)
          have HB2 := Lib.hid (HB1.out.trans (hb2.mono HB1.out.size))
          clear hb2 c0 c1
          have c0 := HX2.out.c0
          have c1 := HX2.out.c1
          go_wp2
          go_ret
          exact ⟨rfl, HB2.out⟩
        | true =>
          rw [hb] at HI1
          clear hb
          have HX0 := Lib.hid (Bx2.new w (.string M) (.string O) 24)
          have HB0 := Lib.hid ((Below.refl w.heap.size w).alloc (Nat.le_refl _) (.cells #[.string M, .string O] 24))
          have c0 := HX0.out.c0
          have c1 := HX0.out.c1
          unfold gV at *
          go_enter Tryd.func8, Tryd.ntmps8
          go_wp2_with fail
          refine (HF.out _).mono ?_
          rintro e w1 ⟨rfl, hb1⟩
          have HX1 := Lib.hid (HX0.out.next hb1)
          have HB1 := Lib.hid (HB0.out.trans (hb1.mono HB0.out.size))
          clear hb1 c0 c1
          have c0 := HX1.out.c0
          have c1 := HX1.out.c1
          go_wp2_with fail
          refine (HI1.out _).mono ?_
          rintro e w2 ⟨rfl, hb2⟩
          have HX2 := Lib.hid (HX1.out.next hb2)
          have HB2 := Lib.hid (HB1.out.trans (hb2.mono HB1.out.size))
          clear hb2 c0 c1
          have c0 := HX2.out.c0
          have c1 := HX2.out.c1
          go_wp2
          go_ret
          exact ⟨rfl, HB2.out⟩
    · rw [chkG_long hv h8]
      have i1 : ¬ ((M.size : Int) ≤ 8) := by omega
      clear hv
      have HX0 := Lib.hid (Bx2.new w (.string M) (.string O) 24)
      have HB0 := Lib.hid ((Below.refl w.heap.size w).alloc (Nat.le_refl _) (.cells #[.string M, .string O] 24))
      have c0 := HX0.out.c0
      have c1 := HX0.out.c1
      unfold gV at *
      go_enter Tryd.func8, Tryd.ntmps8
      go_wp2_with fail
      refine (HF.out _).mono ?_
      rintro e w1 ⟨rfl, hb1⟩
      have HX1 := Lib.hid (HX0.out.next hb1)
      have HB1 := Lib.hid (HB0.out.trans (hb1.mono HB0.out.size))
      clear hb1 c0 c1
      have c0 := HX1.out.c0
      have c1 := HX1.out.c1
      go_wp2
      go_ret
      exact ⟨rfl, HB1.out⟩
  · rw [show (nvalid M && nvalid O) = false from by cases a : nvalid M <;> cases b : nvalid O <;> simp_all] at HF
    rw [chkG_bad hv]
    clear hv
    have HX0 := Lib.hid (Bx2.new w (.string M) (.string O) 24)
    have HB0 := Lib.hid ((Below.refl w.heap.size w).alloc (Nat.le_refl _) (.cells #[.string M, .string O] 24))
    have c0 := HX0.out.c0
    have c1 := HX0.out.c1
    unfold gV at *
    go_enter Tryd.func8, Tryd.ntmps8
    go_wp2_with fail
    refine (HF.out _).mono ?_
    rintro e w1 ⟨rfl, hb1⟩
    have HX1 := Lib.hid (HX0.out.next hb1)
    have HB1 := Lib.hid (HB0.out.trans (hb1.mono HB0.out.size))
    clear hb1 c0 c1
    have c0 := HX1.out.c0
    have c1 := HX1.out.c1
    go_wp2
    go_ret
    exact ⟨rfl, HB1.out⟩

set_option maxRecDepth 100000 in
set_option maxHeartbeats 2000000 in
theorem walk_checks (M O : ByteArray) (w : World) (ht : TabAt w) : Calls Tryd.prog 3 #[gV M O] w (Ret (.bool true) w) := by
  have HAW := Lib.hid awake9
  have HT := Lib.hid ht
  clear ht
  have HX0 := Lib.hid (Bx2.new w (.string M) (.string O) 24)
  have HB0 := Lib.hid ((Below.refl w.heap.size w).alloc (Nat.le_refl _) (.cells #[.string M, .string O] 24))
  have c0 := HX0.out.c0
  have c1 := HX0.out.c1
  by_cases h1 : M.size ≤ 12
  · have i1 : decide ((12 : Int) < (M.size : Int)) = false := decide_eq_false (by omega)
    have i1' : ¬ ((12 : Int) < (M.size : Int)) := by omega
    by_cases h2 : O.size ≤ 12
    · have i2 : decide ((12 : Int) < (O.size : Int)) = false := decide_eq_false (by omega)
      have i2' : ¬ ((12 : Int) < (O.size : Int)) := by omega
      have HA := Lib.hid (pg_Check M O (by omega) (by omega))
      have HR := Lib.hid (r09_Check M O (by omega) (by omega))
      obtain ⟨k, hk⟩ : ∃ k, chkG M O = k := ⟨_, rfl⟩
      rw [hk] at HA HR
      clear hk h1 h2
      unfold gV at *
      go_enter Tryd.func3, Tryd.ntmps3
      go_wp2
      obtain ⟨wd, hwd⟩ : ∃ wd, (w.alloc (.cells #[.string M, .string O] 24)).drew = wd := ⟨_, rfl⟩
      have HBd := Lib.hid (show Below w.heap.size w wd from by rw [← hwd]; exact HB0.out.drew)
      obtain ⟨d0, d1⟩ : wd.cell? ⟨w.heap.size, 0, none⟩ = some (.string M) ∧ wd.cell? ⟨w.heap.size, 1, none⟩ = some (.string O) := by rw [← hwd]; exact ⟨HX0.out.c0, HX0.out.c1⟩
      clear c0 c1
      refine wp_region_K 6 (Below (wd).heap.size (wd)) (by kernel_rfl) ?_
      intro hD
      rw [hwd]
      refine wpAnyK_take (i := 0) (v := ?v3_0b1) (fuel := 8) rfl (by kernel_rfl) (by kernel_rfl) (fun _ _ _ h => h) hD (Below.refl _ _) (.inl ⟨by kernel_rfl, ?y3_0b1⟩) ?n3_0b1
      case y3_0b1 => intro w' hS'; have e0 := cell_kept hS' (Nat.le_refl _) d0; have e1 := cell_kept hS' (Nat.le_refl _) d1; go_simp; with_reducible rfl
      clear hD; intro hD
      simp only [Act.put, List.setIfInBounds_toArray, List.set_cons_zero, List.set_cons_succ]
      refine wpAnyK_take (i := 2) (v := ?v3_2b1) (fuel := 7) rfl (by kernel_rfl) (by kernel_rfl) (fun _ _ _ h => h) hD (Below.refl _ _) (.inl ⟨by kernel_rfl, ?y3_2b1⟩) ?n3_2b1
      case y3_2b1 => intro w' hS'; have e0 := cell_kept hS' (Nat.le_refl _) d0; have e1 := cell_kept hS' (Nat.le_refl _) d1; go_simp; with_reducible rfl
      clear hD; intro hD
      simp only [Act.put, List.setIfInBounds_toArray, List.set_cons_zero, List.set_cons_succ]
      refine wpAnyK_one (i := 1) (fuel := 6) (by kernel_rfl) rfl hD ?_
      clear hD; intro K1 hK1
      go_wp2_with fail
      refine (HA.out _ (HT.out.kept HBd.out (Nat.le_refl _))).mono ?_
      rintro ev w2 ⟨rfl, hb2⟩
      have HB1 := Lib.hid hb2
      clear hb2
      go_wp2
      refine hK1 _ _ (by exact HB1.out) ?_; clear hK1; intro hS_3_1 hD
      refine wpAnyK_one (i := 3) (fuel := 5) (by kernel_rfl) rfl hD ?_
      clear hD; intro K3 hK3
      go_wp2_with fail
      refine (HR.out _).mono ?_
      rintro ev w3 ⟨rfl, hb3⟩
      have HB3 := Lib.hid hb3
      clear hb3
      go_wp2
      refine hK3 _ _ (by exact Below.trans hS_3_1 (Below.mono HB3.out (Below.size hS_3_1))) ?_; clear hK3; intro hS_3_3 hD
      refine wpAnyK_pure (i := 4) (v := ?v3_4b1) (fuel := 4) rfl (by kernel_rfl) (fun _ _ _ h => h) hD hS_3_3 (.inl ⟨by kernel_rfl, ?y3_4b1⟩) ?n3_4b1
      case y3_4b1 => intro w' _; go_simp; with_reducible rfl
      clear hD; intro hD
      simp only [Act.put, List.setIfInBounds_toArray, List.set_cons_zero, List.set_cons_succ]
      refine wpAnyK_pure (i := 5) (v := ?v3_5b1) (fuel := 3) rfl (by kernel_rfl) (fun _ _ _ h => h) hD hS_3_3 (.inl ⟨by kernel_rfl, ?y3_5b1⟩) ?n3_5b1
      case y3_5b1 => intro w' _; go_simp; with_reducible rfl
      clear hD; intro hD
      simp only [Act.put, List.setIfInBounds_toArray, List.set_cons_zero, List.set_cons_succ]
      refine wpAnyK_oneT (i := 6) (fuel := 2) (by kernel_rfl) rfl hD (by kernel_rfl) ?_
      clear hD; intro K6 hK6
      go_wp2_with fail
      refine (HAW.out _).mono ?_
      rintro ev w4 ⟨rfl, hb4⟩
      have HB6 := Lib.hid hb4
      clear hb4
      go_wp2
      refine hK6 _ _ ?_; clear hK6; intro hD
      refine wpAnyK_pureT (i := 7) (v := ?v3_7b1) (fuel := 1) rfl (by kernel_rfl) (by kernel_rfl) (fun _ _ _ h => h) hD  (.inl ⟨by kernel_rfl, ?y3_7b1⟩) ?n3_7b1
      case y3_7b1 => intro w' _; go_simp; with_reducible rfl
      clear hD; intro hD
      simp only [Act.put, List.setIfInBounds_toArray, List.set_cons_zero, List.set_cons_succ]
      refine wpAnyK_oneT (i := 8) (fuel := 0) (by kernel_rfl) rfl hD (by kernel_rfl) ?_
      clear hD; intro K8 hK8
      go_wp2
      refine hK8 _ _ ?_; clear hK8; intro hD
      refine wpAnyK_done (by kernel_rfl) ?_ 0
      clear hD
      go_wp2
      go_ret
      exact ⟨rfl, HBd.out.trans ((HB1.out.trans ((HB3.out.trans (HB6.out.mono HB3.out.size)).mono HB1.out.size)).mono HBd.out.size)⟩
    · have i2 : decide ((12 : Int) < (O.size : Int)) = true := decide_eq_true (by omega)
      have i2' : (12 : Int) < (O.size : Int) := by omega
      clear h1 h2
      unfold gV at *
      go_enter Tryd.func3, Tryd.ntmps3
      go_wp2_with fail
      refine (HAW.out _).mono ?_
      rintro e w1 ⟨rfl, hb1⟩
      have HB1 := Lib.hid (HB0.out.trans (hb1.mono HB0.out.size))
      clear hb1 c0 c1
      go_wp2
      go_ret
      exact ⟨rfl, HB1.out⟩
  · have i1 : decide ((12 : Int) < (M.size : Int)) = true := decide_eq_true (by omega)
    have i1' : (12 : Int) < (M.size : Int) := by omega
    clear h1
    unfold gV at *
    go_enter Tryd.func3, Tryd.ntmps3
    go_wp2_with fail
    refine (HAW.out _).mono ?_
    rintro e w1 ⟨rfl, hb1⟩
    have HB1 := Lib.hid (HB0.out.trans (hb1.mono HB0.out.size))
    clear hb1 c0 c1
    go_wp2
    go_ret
    exact ⟨rfl, HB1.out⟩
end Go.Proofs.YtcbjadaghpmejaaDoor

/- Walks: pedersen.Check and the reference's. -/
import Derived.Test.YtpdejgdkpghjhaaGreatDoorQOpQ
set_option linter.unusedVariables false
set_option linter.unusedSimpArgs false
namespace Go.Proofs.YtpdejgdkpghjhaaGreatDoor
open Go.RowKit
set_option maxRecDepth 100000 in
set_option maxHeartbeats 4000000 in
theorem pk_Check (M O G H : ByteArray) (hM : M.size ≤ 8) (hO : O.size ≤ 8) (hG : G.size ≤ 1000) (hH : H.size ≤ 1000) (w : World) : Calls Tryz.prog 27 #[kV M O G H] w (Ret (.int .i64 (pkC M O G H)) w) := by
  have HF := Lib.hid (pk_formed M O G H (by omega) (by omega) hG hH)
  have HCK := Lib.hid (pw_Check M O hM hO)
  have HHG := Lib.hid (fun h => pw_Has M O G hM hO h)
  have HHH := Lib.hid (fun h => pw_Has M O H hM hO h)
  have HO1 := Lib.hid (nat_Of 1 (by decide))
  obtain ⟨one, hone⟩ : ∃ v, nS 1 = v := ⟨_, rfl⟩
  have HO1 := Lib.hid (fun w => show Calls Tryz.prog 53 #[.int .u64 1] w (Ret (.string one) w) from by have := HO1.out w; rw [show bstr (encN 1) = one from hone] at this; exact this)
  have HOL := Lib.hid (show one.toList = [1] from by rw [← hone]; exact one_list)
  clear hone hM hO hG hH
  cases hf : kF M O G H with
  | false =>
    have HR := Lib.hid (show pkC M O G H = 3 from by unfold pkC; rw [if_pos hf])
    rw [hf] at HF
    rw [HR.out]
    unfold kV gV at *
    clear hf
    go_enter Tryz.func27, Tryz.ntmps27
    have hx0 := Bx4.new w (.string M) (.string O) (.string G) (.string H) 26
    have hb0 := (Below.refl w.heap.size w).alloc (Nat.le_refl _) (.cells #[.string M, .string O, .string G, .string H] 26)
    obtain ⟨W0, hW0⟩ : ∃ W, w.alloc (.cells #[.string M, .string O, .string G, .string H] 26) = W := ⟨_, rfl⟩
    rw [hW0] at hx0 hb0
    have HX0 := Lib.hid hx0
    have HB0 := Lib.hid hb0
    obtain ⟨c0, c1, c2, c3⟩ := hx0.cells
    clear hx0 hb0
    go_wp2_with fail
    try rw [hW0]
    clear hW0
    refine (HF.out _).mono ?_
    rintro ev w1 ⟨rfl, hb⟩
    have hx := HX0.out.next hb
    have HX1 := Lib.hid hx
    have HB1 := Lib.hid (HB0.out.trans (hb.mono HB0.out.size))
    clear hb c0 c1 c2 c3
    obtain ⟨c0, c1, c2, c3⟩ := hx.cells
    clear hx
    go_wp2
    go_ret
    exact ⟨rfl, HB1.out⟩
  | true =>
    rw [hf] at HF
    have hv := hf
    unfold kF at hv
    simp only [Bool.and_eq_true] at hv
    have HHG := Lib.hid (HHG.out hv.1.2)
    have HHH := Lib.hid (HHH.out hv.2)
    clear hv
    by_cases hck : chkK M O = 0
    · rw [hck] at HCK
      have HRV := Lib.hid (show pkC M O G H = if (!hasK M O G || !hasK M O H || (G.toList == [1]) || (H.toList == [1]) || (G.toList == H.toList)) = true then 13 else 0 from by unfold pkC; rw [if_neg (by rw [hf]; decide), if_pos hck])
      rw [HRV.out, ← HOL.out]
      obtain ⟨hg, hhg⟩ : ∃ b, hasK M O G = b := ⟨_, rfl⟩
      obtain ⟨hh, hhh⟩ : ∃ b, hasK M O H = b := ⟨_, rfl⟩
      obtain ⟨b1, hb1⟩ : ∃ b, (G.toList == one.toList) = b := ⟨_, rfl⟩
      obtain ⟨b2, hb2⟩ : ∃ b, (H.toList == one.toList) = b := ⟨_, rfl⟩
      obtain ⟨b3, hb3⟩ : ∃ b, (G.toList == H.toList) = b := ⟨_, rfl⟩
      rw [hhg] at HHG
      rw [hhh] at HHH
      rw [hhg, hhh, hb1, hb2, hb3]
      unfold kV gV at *
      clear hf hck hhg hhh HRV HOL
      cases hg with
      | false =>
        go_enter Tryz.func27, Tryz.ntmps27
        have hx0 := Bx4.new w (.string M) (.string O) (.string G) (.string H) 26
        have hb0 := (Below.refl w.heap.size w).alloc (Nat.le_refl _) (.cells #[.string M, .string O, .string G, .string H] 26)
        obtain ⟨W0, hW0⟩ : ∃ W, w.alloc (.cells #[.string M, .string O, .string G, .string H] 26) = W := ⟨_, rfl⟩
        rw [hW0] at hx0 hb0
        have HX0 := Lib.hid hx0
        have HB0 := Lib.hid hb0
        obtain ⟨c0, c1, c2, c3⟩ := hx0.cells
        clear hx0 hb0
        go_wp2_with fail
        try rw [hW0]
        clear hW0
        refine (HF.out _).mono ?_
        rintro ev w1 ⟨rfl, hb⟩
        have hx := HX0.out.next hb
        have HX1 := Lib.hid hx
        have HB1 := Lib.hid (HB0.out.trans (hb.mono HB0.out.size))
        clear hb c0 c1 c2 c3
        obtain ⟨c0, c1, c2, c3⟩ := hx.cells
        clear hx
        go_wp2_with fail
        refine (HCK.out _).mono ?_
        rintro ev w2 ⟨rfl, hb⟩
        have hx := HX1.out.next hb
        have HX2 := Lib.hid hx
        have HB2 := Lib.hid (HB1.out.trans (hb.mono HB1.out.size))
        clear hb c0 c1 c2 c3
        obtain ⟨c0, c1, c2, c3⟩ := hx.cells
        clear hx
        go_wp2_with fail
        refine (HO1.out _).mono ?_
        rintro ev w3 ⟨rfl, hb⟩
        have hx := HX2.out.next hb
        have HX3 := Lib.hid hx
        have HB3 := Lib.hid (HB2.out.trans (hb.mono HB2.out.size))
        clear hb c0 c1 c2 c3
        obtain ⟨c0, c1, c2, c3⟩ := hx.cells
        clear hx
        go_wp2_with fail
        refine (HHG.out _).mono ?_
        rintro ev w4 ⟨rfl, hb⟩
        have hx := HX3.out.next hb
        have HX4 := Lib.hid hx
        have HB4 := Lib.hid (HB3.out.trans (hb.mono HB3.out.size))
        clear hb c0 c1 c2 c3
        obtain ⟨c0, c1, c2, c3⟩ := hx.cells
        clear hx
        go_wp2
        go_ret
        exact ⟨rfl, HB4.out⟩
      | true =>
        cases hh with
        | false =>
          go_enter Tryz.func27, Tryz.ntmps27
          have hx0 := Bx4.new w (.string M) (.string O) (.string G) (.string H) 26
          have hb0 := (Below.refl w.heap.size w).alloc (Nat.le_refl _) (.cells #[.string M, .string O, .string G, .string H] 26)
          obtain ⟨W0, hW0⟩ : ∃ W, w.alloc (.cells #[.string M, .string O, .string G, .string H] 26) = W := ⟨_, rfl⟩
          rw [hW0] at hx0 hb0
          have HX0 := Lib.hid hx0
          have HB0 := Lib.hid hb0
          obtain ⟨c0, c1, c2, c3⟩ := hx0.cells
          clear hx0 hb0
          go_wp2_with fail
          try rw [hW0]
          clear hW0
          refine (HF.out _).mono ?_
          rintro ev w1 ⟨rfl, hb⟩
          have hx := HX0.out.next hb
          have HX1 := Lib.hid hx
          have HB1 := Lib.hid (HB0.out.trans (hb.mono HB0.out.size))
          clear hb c0 c1 c2 c3
          obtain ⟨c0, c1, c2, c3⟩ := hx.cells
          clear hx
          go_wp2_with fail
          refine (HCK.out _).mono ?_
          rintro ev w2 ⟨rfl, hb⟩
          have hx := HX1.out.next hb
          have HX2 := Lib.hid hx
          have HB2 := Lib.hid (HB1.out.trans (hb.mono HB1.out.size))
          clear hb c0 c1 c2 c3
          obtain ⟨c0, c1, c2, c3⟩ := hx.cells
          clear hx
          go_wp2_with fail
          refine (HO1.out _).mono ?_
          rintro ev w3 ⟨rfl, hb⟩
          have hx := HX2.out.next hb
          have HX3 := Lib.hid hx
          have HB3 := Lib.hid (HB2.out.trans (hb.mono HB2.out.size))
          clear hb c0 c1 c2 c3
          obtain ⟨c0, c1, c2, c3⟩ := hx.cells
          clear hx
          go_wp2_with fail
          refine (HHG.out _).mono ?_
          rintro ev w4 ⟨rfl, hb⟩
          have hx := HX3.out.next hb
          have HX4 := Lib.hid hx
          have HB4 := Lib.hid (HB3.out.trans (hb.mono HB3.out.size))
          clear hb c0 c1 c2 c3
          obtain ⟨c0, c1, c2, c3⟩ := hx.cells
          clear hx
          go_wp2_with fail
          refine (HHH.out _).mono ?_
          rintro ev w5 ⟨rfl, hb⟩
          have hx := HX4.out.next hb
          have HX5 := Lib.hid hx
          have HB5 := Lib.hid (HB4.out.trans (hb.mono HB4.out.size))
          clear hb c0 c1 c2 c3
          obtain ⟨c0, c1, c2, c3⟩ := hx.cells
          clear hx
          go_wp2
          go_ret
          exact ⟨rfl, HB5.out⟩
        | true =>
          obtain ⟨R, hR⟩ : ∃ R : Int, (if (!true || !true || b1 || b2 || b3) = true then 13 else 0) = R := ⟨_, rfl⟩
          rw [hR]
          have HRE := Lib.hid hR
          clear hR
          go_enter Tryz.func27, Tryz.ntmps27
          have hx0 := Bx4.new w (.string M) (.string O) (.string G) (.string H) 26
          have hb0 := (Below.refl w.heap.size w).alloc (Nat.le_refl _) (.cells #[.string M, .string O, .string G, .string H] 26)
          obtain ⟨W0, hW0⟩ : ∃ W, w.alloc (.cells #[.string M, .string O, .string G, .string H] 26) = W := ⟨_, rfl⟩
          rw [hW0] at hx0 hb0
          have HX0 := Lib.hid hx0
          have HB0 := Lib.hid hb0
          obtain ⟨c0, c1, c2, c3⟩ := hx0.cells
          clear hx0 hb0
          go_wp2_with fail
          try rw [hW0]
          clear hW0
          refine (HF.out _).mono ?_
          rintro ev w1 ⟨rfl, hb⟩
          have hx := HX0.out.next hb
          have HX1 := Lib.hid hx
          have HB1 := Lib.hid (HB0.out.trans (hb.mono HB0.out.size))
          clear hb c0 c1 c2 c3
          obtain ⟨c0, c1, c2, c3⟩ := hx.cells
          clear hx
          go_wp2_with fail
          refine (HCK.out _).mono ?_
          rintro ev w2 ⟨rfl, hb⟩
          have hx := HX1.out.next hb
          have HX2 := Lib.hid hx
          have HB2 := Lib.hid (HB1.out.trans (hb.mono HB1.out.size))
          clear hb c0 c1 c2 c3
          obtain ⟨c0, c1, c2, c3⟩ := hx.cells
          clear hx
          go_wp2_with fail
          refine (HO1.out _).mono ?_
          rintro ev w3 ⟨rfl, hb⟩
          have hx := HX2.out.next hb
          have HX3 := Lib.hid hx
          have HB3 := Lib.hid (HB2.out.trans (hb.mono HB2.out.size))
          clear hb c0 c1 c2 c3
          obtain ⟨c0, c1, c2, c3⟩ := hx.cells
          clear hx
          go_wp2_with fail
          refine (HHG.out _).mono ?_
          rintro ev w4 ⟨rfl, hb⟩
          have hx := HX3.out.next hb
          have HX4 := Lib.hid hx
          have HB4 := Lib.hid (HB3.out.trans (hb.mono HB3.out.size))
          clear hb c0 c1 c2 c3
          obtain ⟨c0, c1, c2, c3⟩ := hx.cells
          clear hx
          go_wp2_with fail
          refine (HHH.out _).mono ?_
          rintro ev w5 ⟨rfl, hb⟩
          have hx := HX4.out.next hb
          have HX5 := Lib.hid hx
          have HB5 := Lib.hid (HB4.out.trans (hb.mono HB4.out.size))
          clear hb c0 c1 c2 c3
          obtain ⟨c0, c1, c2, c3⟩ := hx.cells
          clear hx
          cases b1 <;> cases b2 <;> cases b3 <;>
          · go_wp2
            go_ret
            exact ⟨by rw [← HRE.out]; rfl, HB5.out⟩
    · have HR := Lib.hid (show pkC M O G H = chkK M O from by unfold pkC; rw [if_neg (by rw [hf]; decide), if_neg hck])
      rw [HR.out]
      obtain ⟨cc, hcc⟩ : ∃ cc, chkK M O = cc := ⟨_, rfl⟩
      rw [hcc] at HCK hck ⊢
      have hcb : (cc == 0) = false := by rw [beq_eq_false_iff_ne]; exact hck
      have hcb2 : (cc != 0) = true := by rw [bne, hcb]; rfl
      unfold kV gV at *
      clear hf hck hcc
      go_enter Tryz.func27, Tryz.ntmps27
      have hx0 := Bx4.new w (.string M) (.string O) (.string G) (.string H) 26
      have hb0 := (Below.refl w.heap.size w).alloc (Nat.le_refl _) (.cells #[.string M, .string O, .string G, .string H] 26)
      obtain ⟨W0, hW0⟩ : ∃ W, w.alloc (.cells #[.string M, .string O, .string G, .string H] 26) = W := ⟨_, rfl⟩
      rw [hW0] at hx0 hb0
      have HX0 := Lib.hid hx0
      have HB0 := Lib.hid hb0
      obtain ⟨c0, c1, c2, c3⟩ := hx0.cells
      clear hx0 hb0
      go_wp2_with fail
      try rw [hW0]
      clear hW0
      refine (HF.out _).mono ?_
      rintro ev w1 ⟨rfl, hb⟩
      have hx := HX0.out.next hb
      have HX1 := Lib.hid hx
      have HB1 := Lib.hid (HB0.out.trans (hb.mono HB0.out.size))
      clear hb c0 c1 c2 c3
      obtain ⟨c0, c1, c2, c3⟩ := hx.cells
      clear hx
      go_wp2_with fail
      refine (HCK.out _).mono ?_
      rintro ev w2 ⟨rfl, hb⟩
      have hx := HX1.out.next hb
      have HX2 := Lib.hid hx
      have HB2 := Lib.hid (HB1.out.trans (hb.mono HB1.out.size))
      clear hb c0 c1 c2 c3
      obtain ⟨c0, c1, c2, c3⟩ := hx.cells
      clear hx
      go_wp2
      go_ret
      exact ⟨rfl, HB2.out⟩
set_option maxRecDepth 100000 in
set_option maxHeartbeats 4000000 in
theorem r14_Check (M O G H : ByteArray) (hM : M.size ≤ 8) (hO : O.size ≤ 8) (hG : G.size ≤ 1000) (hH : H.size ≤ 1000) (w : World) : Calls Tryz.prog 28 #[kV M O G H] w (Ret (.int .i64 (pkC M O G H)) w) := by
  have HF := Lib.hid (r14_form M O G H (by omega) (by omega) hG hH)
  have HCK := Lib.hid (r13_Check M O hM hO)
  have HHG := Lib.hid (fun h => r13_Has M O G hM hO h)
  have HHH := Lib.hid (fun h => r13_Has M O H hM hO h)
  have HO1 := Lib.hid (r01_Of 1 (by decide))
  obtain ⟨one, hone⟩ : ∃ v, nS 1 = v := ⟨_, rfl⟩
  have HO1 := Lib.hid (fun w => show Calls Tryz.prog 57 #[.int .u64 1] w (Ret (.string one) w) from by have := HO1.out w; rw [show bstr (encN 1) = one from hone] at this; exact this)
  have HOL := Lib.hid (show one.toList = [1] from by rw [← hone]; exact one_list)
  clear hone hM hO hG hH
  cases hf : kF M O G H with
  | false =>
    have HR := Lib.hid (show pkC M O G H = 3 from by unfold pkC; rw [if_pos hf])
    rw [hf] at HF
    rw [HR.out]
    unfold kV gV at *
    clear hf
    go_enter Tryz.func28, Tryz.ntmps28
    have hx0 := Bx4.new w (.string M) (.string O) (.string G) (.string H) 26
    have hb0 := (Below.refl w.heap.size w).alloc (Nat.le_refl _) (.cells #[.string M, .string O, .string G, .string H] 26)
    obtain ⟨W0, hW0⟩ : ∃ W, w.alloc (.cells #[.string M, .string O, .string G, .string H] 26) = W := ⟨_, rfl⟩
    rw [hW0] at hx0 hb0
    have HX0 := Lib.hid hx0
    have HB0 := Lib.hid hb0
    obtain ⟨c0, c1, c2, c3⟩ := hx0.cells
    clear hx0 hb0
    go_wp2_with fail
    try rw [hW0]
    clear hW0
    refine (HF.out _).mono ?_
    rintro ev w1 ⟨rfl, hb⟩
    have hx := HX0.out.next hb
    have HX1 := Lib.hid hx
    have HB1 := Lib.hid (HB0.out.trans (hb.mono HB0.out.size))
    clear hb c0 c1 c2 c3
    obtain ⟨c0, c1, c2, c3⟩ := hx.cells
    clear hx
    go_wp2
    go_ret
    exact ⟨rfl, HB1.out⟩
  | true =>
    rw [hf] at HF
    have hv := hf
    unfold kF at hv
    simp only [Bool.and_eq_true] at hv
    have HHG := Lib.hid (HHG.out hv.1.2)
    have HHH := Lib.hid (HHH.out hv.2)
    clear hv
    by_cases hck : chkK M O = 0
    · rw [hck] at HCK
      have HRV := Lib.hid (show pkC M O G H = if (!hasK M O G || !hasK M O H || (G.toList == [1]) || (H.toList == [1]) || (G.toList == H.toList)) = true then 13 else 0 from by unfold pkC; rw [if_neg (by rw [hf]; decide), if_pos hck])
      rw [HRV.out, ← HOL.out]
      obtain ⟨hg, hhg⟩ : ∃ b, hasK M O G = b := ⟨_, rfl⟩
      obtain ⟨hh, hhh⟩ : ∃ b, hasK M O H = b := ⟨_, rfl⟩
      obtain ⟨b1, hb1⟩ : ∃ b, (G.toList == one.toList) = b := ⟨_, rfl⟩
      obtain ⟨b2, hb2⟩ : ∃ b, (H.toList == one.toList) = b := ⟨_, rfl⟩
      obtain ⟨b3, hb3⟩ : ∃ b, (G.toList == H.toList) = b := ⟨_, rfl⟩
      rw [hhg] at HHG
      rw [hhh] at HHH
      rw [hhg, hhh, hb1, hb2, hb3]
      unfold kV gV at *
      clear hf hck hhg hhh HRV HOL
      cases hg with
      | false =>
        go_enter Tryz.func28, Tryz.ntmps28
        have hx0 := Bx4.new w (.string M) (.string O) (.string G) (.string H) 26
        have hb0 := (Below.refl w.heap.size w).alloc (Nat.le_refl _) (.cells #[.string M, .string O, .string G, .string H] 26)
        obtain ⟨W0, hW0⟩ : ∃ W, w.alloc (.cells #[.string M, .string O, .string G, .string H] 26) = W := ⟨_, rfl⟩
        rw [hW0] at hx0 hb0
        have HX0 := Lib.hid hx0
        have HB0 := Lib.hid hb0
        obtain ⟨c0, c1, c2, c3⟩ := hx0.cells
        clear hx0 hb0
        go_wp2_with fail
        try rw [hW0]
        clear hW0
        refine (HF.out _).mono ?_
        rintro ev w1 ⟨rfl, hb⟩
        have hx := HX0.out.next hb
        have HX1 := Lib.hid hx
        have HB1 := Lib.hid (HB0.out.trans (hb.mono HB0.out.size))
        clear hb c0 c1 c2 c3
        obtain ⟨c0, c1, c2, c3⟩ := hx.cells
        clear hx
        go_wp2_with fail
        refine (HCK.out _).mono ?_
        rintro ev w2 ⟨rfl, hb⟩
        have hx := HX1.out.next hb
        have HX2 := Lib.hid hx
        have HB2 := Lib.hid (HB1.out.trans (hb.mono HB1.out.size))
        clear hb c0 c1 c2 c3
        obtain ⟨c0, c1, c2, c3⟩ := hx.cells
        clear hx
        go_wp2
        have d0 : w2.drew.cell? ⟨w.heap.size, 0, none⟩ = some (.string M) := c0
        have d1 : w2.drew.cell? ⟨w.heap.size, 1, none⟩ = some (.string O) := c1
        have d2 : w2.drew.cell? ⟨w.heap.size, 2, none⟩ = some (.string G) := c2
        have d3 : w2.drew.cell? ⟨w.heap.size, 3, none⟩ = some (.string H) := c3
        clear c0 c1 c2 c3
        refine wp_region_K 33 (Below (w2.drew).heap.size (w2.drew)) (by kernel_rfl) ?_
        intro hD
        refine wpAnyK_pureD (i := 0) (d := some 13) (v := ?v6_0b1) (fuel := 32) rfl (by kernel_rfl) (by kernel_rfl) (fun _ _ _ h => h) hD (Below.refl _ _) (.inl ⟨by kernel_rfl, ?y6_0b1⟩) ?n6_0b1
        case y6_0b1 => intro w' _; go_simp; with_reducible rfl
        clear hD; intro hD
        simp only [Act.put, sqA, sqB, sqC]
        refine wpAnyK_takeSD (i := 1) (d := some 14) (v := ?v6_1b1) (fuel := 31) rfl (by kernel_rfl) (by kernel_rfl) (by kernel_rfl) (fun _ _ _ h => h) hD (Below.refl _ _) (.inl ⟨by kernel_rfl, ?y6_1b1⟩) ?n6_1b1
        case y6_1b1 => intro w' hS'; have e0 := cell_kept hS' (Nat.le_refl _) d0; have e1 := cell_kept hS' (Nat.le_refl _) d1; have e2 := cell_kept hS' (Nat.le_refl _) d2; have e3 := cell_kept hS' (Nat.le_refl _) d3; go_simp; with_reducible rfl
        clear hD; intro hD
        simp only [Act.put, sqA, sqB, sqC]
        refine wpAnyK_pureD (i := 2) (d := some 15) (v := ?v6_2b1) (fuel := 30) rfl (by kernel_rfl) (by kernel_rfl) (fun _ _ _ h => h) hD (Below.refl _ _) (.inl ⟨by kernel_rfl, ?y6_2b1⟩) ?n6_2b1
        case y6_2b1 => intro w' _; go_simp; with_reducible rfl
        clear hD; intro hD
        simp only [Act.put, sqA, sqB, sqC]
        refine wpAnyK_takeSD (i := 3) (d := some 16) (v := ?v6_3b1) (fuel := 29) rfl (by kernel_rfl) (by kernel_rfl) (by kernel_rfl) (fun _ _ _ h => h) hD (Below.refl _ _) (.inl ⟨by kernel_rfl, ?y6_3b1⟩) ?n6_3b1
        case y6_3b1 => intro w' hS'; have e0 := cell_kept hS' (Nat.le_refl _) d0; have e1 := cell_kept hS' (Nat.le_refl _) d1; have e2 := cell_kept hS' (Nat.le_refl _) d2; have e3 := cell_kept hS' (Nat.le_refl _) d3; go_simp; with_reducible rfl
        clear hD; intro hD
        simp only [Act.put, sqA, sqB, sqC]
        refine wpAnyK_one (i := 4) (fuel := 28) (by kernel_rfl) rfl hD ?_
        clear hD; intro K4 hK4
        go_wp2_with fail
        refine (HHG.out _).mono ?_
        rintro ev v4 ⟨rfl, hb⟩
        have HB4 := Lib.hid hb
        clear hb
        go_wp2
        refine hK4 _ _ (by exact HB4.out) ?_; clear hK4; intro hS_6_4 hD
        refine wpAnyK_pureD (i := 5) (d := some 18) (v := ?v6_5b1) (fuel := 27) rfl (by kernel_rfl) (by kernel_rfl) (fun _ _ _ h => h) hD hS_6_4 (.inl ⟨by kernel_rfl, ?y6_5b1⟩) ?n6_5b1
        case y6_5b1 => intro w' _; go_simp; with_reducible rfl
        clear hD; intro hD
        simp only [Act.put, sqA, sqB, sqC]
        refine wpAnyK_pureD (i := 6) (d := some 19) (v := ?v6_6b1) (fuel := 26) rfl (by kernel_rfl) (by kernel_rfl) (fun _ _ _ h => h) hD hS_6_4 (.inl ⟨by kernel_rfl, ?y6_6b1⟩) ?n6_6b1
        case y6_6b1 => intro w' _; go_simp; with_reducible rfl
        clear hD; intro hD
        simp only [Act.put, sqA, sqB, sqC]
        refine wpAnyK_pureD (i := 7) (d := some 20) (v := undef) (fuel := 25) rfl (by kernel_rfl) (by kernel_rfl) (fun _ _ _ h => h) hD hS_6_4 (.inr ⟨by kernel_rfl, rfl⟩) ?_
        clear hD; intro hD
        simp only [Act.put, sqA, sqB, sqC]
        refine wpAnyK_pureD (i := 8) (d := some 21) (v := undef) (fuel := 24) rfl (by kernel_rfl) (by kernel_rfl) (fun _ _ _ h => h) hD hS_6_4 (.inr ⟨by kernel_rfl, rfl⟩) ?_
        clear hD; intro hD
        simp only [Act.put, sqA, sqB, sqC]
        refine wpAnyK_pureD (i := 9) (d := some 22) (v := undef) (fuel := 23) rfl (by kernel_rfl) (by kernel_rfl) (fun _ _ _ h => h) hD hS_6_4 (.inr ⟨by kernel_rfl, rfl⟩) ?_
        clear hD; intro hD
        simp only [Act.put, sqA, sqB, sqC]
        refine wpAnyK_pureD (i := 10) (d := some 23) (v := undef) (fuel := 22) rfl (by kernel_rfl) (by kernel_rfl) (fun _ _ _ h => h) hD hS_6_4 (.inr ⟨by kernel_rfl, rfl⟩) ?_
        clear hD; intro hD
        simp only [Act.put, sqA, sqB, sqC]
        refine wpAnyK_pureD (i := 11) (d := some 24) (v := undef) (fuel := 21) rfl (by kernel_rfl) (by kernel_rfl) (fun _ _ _ h => h) hD hS_6_4 (.inr ⟨by kernel_rfl, rfl⟩) ?_
        clear hD; intro hD
        simp only [Act.put, sqA, sqB, sqC]
        refine wpAnyK_pureD (i := 12) (d := some 25) (v := undef) (fuel := 20) rfl (by kernel_rfl) (by kernel_rfl) (fun _ _ _ h => h) hD hS_6_4 (.inr ⟨by kernel_rfl, rfl⟩) ?_
        clear hD; intro hD
        simp only [Act.put, sqA, sqB, sqC]
        refine wpAnyK_pureD (i := 13) (d := some 26) (v := ?v6_13b1) (fuel := 19) rfl (by kernel_rfl) (by kernel_rfl) (fun _ _ _ h => h) hD hS_6_4 (.inl ⟨by kernel_rfl, ?y6_13b1⟩) ?n6_13b1
        case y6_13b1 => intro w' _; go_simp; with_reducible rfl
        clear hD; intro hD
        simp only [Act.put, sqA, sqB, sqC]
        refine wpAnyK_pureD (i := 14) (d := some 27) (v := ?v6_14b1) (fuel := 18) rfl (by kernel_rfl) (by kernel_rfl) (fun _ _ _ h => h) hD hS_6_4 (.inl ⟨by kernel_rfl, ?y6_14b1⟩) ?n6_14b1
        case y6_14b1 => intro w' _; go_simp; with_reducible rfl
        clear hD; intro hD
        simp only [Act.put, sqA, sqB, sqC]
        refine wpAnyK_pureD (i := 15) (d := some 28) (v := undef) (fuel := 17) rfl (by kernel_rfl) (by kernel_rfl) (fun _ _ _ h => h) hD hS_6_4 (.inr ⟨by kernel_rfl, rfl⟩) ?_
        clear hD; intro hD
        simp only [Act.put, sqA, sqB, sqC]
        refine wpAnyK_pureD (i := 16) (d := some 29) (v := undef) (fuel := 16) rfl (by kernel_rfl) (by kernel_rfl) (fun _ _ _ h => h) hD hS_6_4 (.inr ⟨by kernel_rfl, rfl⟩) ?_
        clear hD; intro hD
        simp only [Act.put, sqA, sqB, sqC]
        refine wpAnyK_pureD (i := 17) (d := some 30) (v := undef) (fuel := 15) rfl (by kernel_rfl) (by kernel_rfl) (fun _ _ _ h => h) hD hS_6_4 (.inr ⟨by kernel_rfl, rfl⟩) ?_
        clear hD; intro hD
        simp only [Act.put, sqA, sqB, sqC]
        refine wpAnyK_pureD (i := 18) (d := some 31) (v := undef) (fuel := 14) rfl (by kernel_rfl) (by kernel_rfl) (fun _ _ _ h => h) hD hS_6_4 (.inr ⟨by kernel_rfl, rfl⟩) ?_
        clear hD; intro hD
        simp only [Act.put, sqA, sqB, sqC]
        refine wpAnyK_pureD (i := 19) (d := some 32) (v := ?v6_19b1) (fuel := 13) rfl (by kernel_rfl) (by kernel_rfl) (fun _ _ _ h => h) hD hS_6_4 (.inl ⟨by kernel_rfl, ?y6_19b1⟩) ?n6_19b1
        case y6_19b1 => intro w' _; go_simp; with_reducible rfl
        clear hD; intro hD
        simp only [Act.put, sqA, sqB, sqC]
        refine wpAnyK_pureD (i := 20) (d := some 33) (v := ?v6_20b1) (fuel := 12) rfl (by kernel_rfl) (by kernel_rfl) (fun _ _ _ h => h) hD hS_6_4 (.inl ⟨by kernel_rfl, ?y6_20b1⟩) ?n6_20b1
        case y6_20b1 => intro w' _; go_simp; with_reducible rfl
        clear hD; intro hD
        simp only [Act.put, sqA, sqB, sqC]
        refine wpAnyK_pureD (i := 21) (d := some 34) (v := undef) (fuel := 11) rfl (by kernel_rfl) (by kernel_rfl) (fun _ _ _ h => h) hD hS_6_4 (.inr ⟨by kernel_rfl, rfl⟩) ?_
        clear hD; intro hD
        simp only [Act.put, sqA, sqB, sqC]
        refine wpAnyK_pureD (i := 22) (d := some 35) (v := undef) (fuel := 10) rfl (by kernel_rfl) (by kernel_rfl) (fun _ _ _ h => h) hD hS_6_4 (.inr ⟨by kernel_rfl, rfl⟩) ?_
        clear hD; intro hD
        simp only [Act.put, sqA, sqB, sqC]
        refine wpAnyK_pureD (i := 23) (d := some 36) (v := undef) (fuel := 9) rfl (by kernel_rfl) (by kernel_rfl) (fun _ _ _ h => h) hD hS_6_4 (.inr ⟨by kernel_rfl, rfl⟩) ?_
        clear hD; intro hD
        simp only [Act.put, sqA, sqB, sqC]
        refine wpAnyK_pureD (i := 24) (d := some 37) (v := undef) (fuel := 8) rfl (by kernel_rfl) (by kernel_rfl) (fun _ _ _ h => h) hD hS_6_4 (.inr ⟨by kernel_rfl, rfl⟩) ?_
        clear hD; intro hD
        simp only [Act.put, sqA, sqB, sqC]
        refine wpAnyK_pureD (i := 25) (d := some 38) (v := ?v6_25b1) (fuel := 7) rfl (by kernel_rfl) (by kernel_rfl) (fun _ _ _ h => h) hD hS_6_4 (.inl ⟨by kernel_rfl, ?y6_25b1⟩) ?n6_25b1
        case y6_25b1 => intro w' _; go_simp; with_reducible rfl
        clear hD; intro hD
        simp only [Act.put, sqA, sqB, sqC]
        refine wpAnyK_pureD (i := 26) (d := some 39) (v := ?v6_26b1) (fuel := 6) rfl (by kernel_rfl) (by kernel_rfl) (fun _ _ _ h => h) hD hS_6_4 (.inl ⟨by kernel_rfl, ?y6_26b1⟩) ?n6_26b1
        case y6_26b1 => intro w' _; go_simp; with_reducible rfl
        clear hD; intro hD
        simp only [Act.put, sqA, sqB, sqC]
        refine wpAnyK_pureD (i := 27) (d := some 40) (v := undef) (fuel := 5) rfl (by kernel_rfl) (by kernel_rfl) (fun _ _ _ h => h) hD hS_6_4 (.inr ⟨by kernel_rfl, rfl⟩) ?_
        clear hD; intro hD
        simp only [Act.put, sqA, sqB, sqC]
        refine wpAnyK_pureD (i := 28) (d := some 41) (v := undef) (fuel := 4) rfl (by kernel_rfl) (by kernel_rfl) (fun _ _ _ h => h) hD hS_6_4 (.inr ⟨by kernel_rfl, rfl⟩) ?_
        clear hD; intro hD
        simp only [Act.put, sqA, sqB, sqC]
        refine wpAnyK_pureD (i := 29) (d := some 42) (v := undef) (fuel := 3) rfl (by kernel_rfl) (by kernel_rfl) (fun _ _ _ h => h) hD hS_6_4 (.inr ⟨by kernel_rfl, rfl⟩) ?_
        clear hD; intro hD
        simp only [Act.put, sqA, sqB, sqC]
        refine wpAnyK_pureD (i := 30) (d := some 43) (v := undef) (fuel := 2) rfl (by kernel_rfl) (by kernel_rfl) (fun _ _ _ h => h) hD hS_6_4 (.inr ⟨by kernel_rfl, rfl⟩) ?_
        clear hD; intro hD
        simp only [Act.put, sqA, sqB, sqC]
        refine wpAnyK_pureD (i := 31) (d := some 44) (v := undef) (fuel := 1) rfl (by kernel_rfl) (by kernel_rfl) (fun _ _ _ h => h) hD hS_6_4 (.inr ⟨by kernel_rfl, rfl⟩) ?_
        clear hD; intro hD
        simp only [Act.put, sqA, sqB, sqC]
        refine wpAnyK_pureD (i := 32) (d := some 45) (v := ?v6_32b1) (fuel := 0) rfl (by kernel_rfl) (by kernel_rfl) (fun _ _ _ h => h) hD hS_6_4 (.inl ⟨by kernel_rfl, ?y6_32b1⟩) ?n6_32b1
        case y6_32b1 => intro w' _; go_simp; with_reducible rfl
        clear hD; intro hD
        simp only [Act.put, sqA, sqB, sqC]
        refine wpAnyK_done (by kernel_rfl) ?_ 0
        clear hD d0 d1 d2 d3
        have HB9 := Lib.hid (HB2.out.trans (((Below.refl w2.heap.size w2).drew.trans hS_6_4).mono HB2.out.size))
        go_wp2
        go_ret
        exact ⟨rfl, HB9.out⟩
      | true =>
        cases hh with
        | false =>
          go_enter Tryz.func28, Tryz.ntmps28
          have hx0 := Bx4.new w (.string M) (.string O) (.string G) (.string H) 26
          have hb0 := (Below.refl w.heap.size w).alloc (Nat.le_refl _) (.cells #[.string M, .string O, .string G, .string H] 26)
          obtain ⟨W0, hW0⟩ : ∃ W, w.alloc (.cells #[.string M, .string O, .string G, .string H] 26) = W := ⟨_, rfl⟩
          rw [hW0] at hx0 hb0
          have HX0 := Lib.hid hx0
          have HB0 := Lib.hid hb0
          obtain ⟨c0, c1, c2, c3⟩ := hx0.cells
          clear hx0 hb0
          go_wp2_with fail
          try rw [hW0]
          clear hW0
          refine (HF.out _).mono ?_
          rintro ev w1 ⟨rfl, hb⟩
          have hx := HX0.out.next hb
          have HX1 := Lib.hid hx
          have HB1 := Lib.hid (HB0.out.trans (hb.mono HB0.out.size))
          clear hb c0 c1 c2 c3
          obtain ⟨c0, c1, c2, c3⟩ := hx.cells
          clear hx
          go_wp2_with fail
          refine (HCK.out _).mono ?_
          rintro ev w2 ⟨rfl, hb⟩
          have hx := HX1.out.next hb
          have HX2 := Lib.hid hx
          have HB2 := Lib.hid (HB1.out.trans (hb.mono HB1.out.size))
          clear hb c0 c1 c2 c3
          obtain ⟨c0, c1, c2, c3⟩ := hx.cells
          clear hx
          go_wp2
          have d0 : w2.drew.cell? ⟨w.heap.size, 0, none⟩ = some (.string M) := c0
          have d1 : w2.drew.cell? ⟨w.heap.size, 1, none⟩ = some (.string O) := c1
          have d2 : w2.drew.cell? ⟨w.heap.size, 2, none⟩ = some (.string G) := c2
          have d3 : w2.drew.cell? ⟨w.heap.size, 3, none⟩ = some (.string H) := c3
          clear c0 c1 c2 c3
          refine wp_region_K 33 (Below (w2.drew).heap.size (w2.drew)) (by kernel_rfl) ?_
          intro hD
          refine wpAnyK_pureD (i := 0) (d := some 13) (v := ?v6_0b2) (fuel := 32) rfl (by kernel_rfl) (by kernel_rfl) (fun _ _ _ h => h) hD (Below.refl _ _) (.inl ⟨by kernel_rfl, ?y6_0b2⟩) ?n6_0b2
          case y6_0b2 => intro w' _; go_simp; with_reducible rfl
          clear hD; intro hD
          simp only [Act.put, sqA, sqB, sqC]
          refine wpAnyK_takeSD (i := 1) (d := some 14) (v := ?v6_1b2) (fuel := 31) rfl (by kernel_rfl) (by kernel_rfl) (by kernel_rfl) (fun _ _ _ h => h) hD (Below.refl _ _) (.inl ⟨by kernel_rfl, ?y6_1b2⟩) ?n6_1b2
          case y6_1b2 => intro w' hS'; have e0 := cell_kept hS' (Nat.le_refl _) d0; have e1 := cell_kept hS' (Nat.le_refl _) d1; have e2 := cell_kept hS' (Nat.le_refl _) d2; have e3 := cell_kept hS' (Nat.le_refl _) d3; go_simp; with_reducible rfl
          clear hD; intro hD
          simp only [Act.put, sqA, sqB, sqC]
          refine wpAnyK_pureD (i := 2) (d := some 15) (v := ?v6_2b2) (fuel := 30) rfl (by kernel_rfl) (by kernel_rfl) (fun _ _ _ h => h) hD (Below.refl _ _) (.inl ⟨by kernel_rfl, ?y6_2b2⟩) ?n6_2b2
          case y6_2b2 => intro w' _; go_simp; with_reducible rfl
          clear hD; intro hD
          simp only [Act.put, sqA, sqB, sqC]
          refine wpAnyK_takeSD (i := 3) (d := some 16) (v := ?v6_3b2) (fuel := 29) rfl (by kernel_rfl) (by kernel_rfl) (by kernel_rfl) (fun _ _ _ h => h) hD (Below.refl _ _) (.inl ⟨by kernel_rfl, ?y6_3b2⟩) ?n6_3b2
          case y6_3b2 => intro w' hS'; have e0 := cell_kept hS' (Nat.le_refl _) d0; have e1 := cell_kept hS' (Nat.le_refl _) d1; have e2 := cell_kept hS' (Nat.le_refl _) d2; have e3 := cell_kept hS' (Nat.le_refl _) d3; go_simp; with_reducible rfl
          clear hD; intro hD
          simp only [Act.put, sqA, sqB, sqC]
          refine wpAnyK_one (i := 4) (fuel := 28) (by kernel_rfl) rfl hD ?_
          clear hD; intro K4 hK4
          go_wp2_with fail
          refine (HHG.out _).mono ?_
          rintro ev v4 ⟨rfl, hb⟩
          have HB4 := Lib.hid hb
          clear hb
          go_wp2
          refine hK4 _ _ (by exact HB4.out) ?_; clear hK4; intro hS_6_4 hD
          refine wpAnyK_pureD (i := 5) (d := some 18) (v := ?v6_5b2) (fuel := 27) rfl (by kernel_rfl) (by kernel_rfl) (fun _ _ _ h => h) hD hS_6_4 (.inl ⟨by kernel_rfl, ?y6_5b2⟩) ?n6_5b2
          case y6_5b2 => intro w' _; go_simp; with_reducible rfl
          clear hD; intro hD
          simp only [Act.put, sqA, sqB, sqC]
          refine wpAnyK_pureD (i := 6) (d := some 19) (v := ?v6_6b2) (fuel := 26) rfl (by kernel_rfl) (by kernel_rfl) (fun _ _ _ h => h) hD hS_6_4 (.inl ⟨by kernel_rfl, ?y6_6b2⟩) ?n6_6b2
          case y6_6b2 => intro w' _; go_simp; with_reducible rfl
          clear hD; intro hD
          simp only [Act.put, sqA, sqB, sqC]
          refine wpAnyK_pureD (i := 7) (d := some 20) (v := ?v6_7b2) (fuel := 25) rfl (by kernel_rfl) (by kernel_rfl) (fun _ _ _ h => h) hD hS_6_4 (.inl ⟨by kernel_rfl, ?y6_7b2⟩) ?n6_7b2
          case y6_7b2 => intro w' _; go_simp; with_reducible rfl
          clear hD; intro hD
          simp only [Act.put, sqA, sqB, sqC]
          refine wpAnyK_takeSD (i := 8) (d := some 21) (v := ?v6_8b2) (fuel := 24) rfl (by kernel_rfl) (by kernel_rfl) (by kernel_rfl) (fun _ _ _ h => h) hD hS_6_4 (.inl ⟨by kernel_rfl, ?y6_8b2⟩) ?n6_8b2
          case y6_8b2 => intro w' hS'; have e0 := cell_kept hS' (Nat.le_refl _) d0; have e1 := cell_kept hS' (Nat.le_refl _) d1; have e2 := cell_kept hS' (Nat.le_refl _) d2; have e3 := cell_kept hS' (Nat.le_refl _) d3; go_simp; with_reducible rfl
          clear hD; intro hD
          simp only [Act.put, sqA, sqB, sqC]
          refine wpAnyK_pureD (i := 9) (d := some 22) (v := ?v6_9b2) (fuel := 23) rfl (by kernel_rfl) (by kernel_rfl) (fun _ _ _ h => h) hD hS_6_4 (.inl ⟨by kernel_rfl, ?y6_9b2⟩) ?n6_9b2
          case y6_9b2 => intro w' _; go_simp; with_reducible rfl
          clear hD; intro hD
          simp only [Act.put, sqA, sqB, sqC]
          refine wpAnyK_takeSD (i := 10) (d := some 23) (v := ?v6_10b2) (fuel := 22) rfl (by kernel_rfl) (by kernel_rfl) (by kernel_rfl) (fun _ _ _ h => h) hD hS_6_4 (.inl ⟨by kernel_rfl, ?y6_10b2⟩) ?n6_10b2
          case y6_10b2 => intro w' hS'; have e0 := cell_kept hS' (Nat.le_refl _) d0; have e1 := cell_kept hS' (Nat.le_refl _) d1; have e2 := cell_kept hS' (Nat.le_refl _) d2; have e3 := cell_kept hS' (Nat.le_refl _) d3; go_simp; with_reducible rfl
          clear hD; intro hD
          simp only [Act.put, sqA, sqB, sqC]
          refine wpAnyK_one (i := 11) (fuel := 21) (by kernel_rfl) rfl hD ?_
          clear hD; intro K11 hK11
          go_wp2_with fail
          refine (HHH.out _).mono ?_
          rintro ev v11 ⟨rfl, hb⟩
          have HB11 := Lib.hid hb
          clear hb
          go_wp2
          refine hK11 _ _ (by exact Below.trans hS_6_4 (Below.mono HB11.out (Below.size hS_6_4))) ?_; clear hK11; intro hS_6_11 hD
          refine wpAnyK_pureD (i := 12) (d := some 25) (v := ?v6_12b2) (fuel := 20) rfl (by kernel_rfl) (by kernel_rfl) (fun _ _ _ h => h) hD hS_6_11 (.inl ⟨by kernel_rfl, ?y6_12b2⟩) ?n6_12b2
          case y6_12b2 => intro w' _; go_simp; with_reducible rfl
          clear hD; intro hD
          simp only [Act.put, sqA, sqB, sqC]
          refine wpAnyK_pureD (i := 13) (d := some 26) (v := ?v6_13b2) (fuel := 19) rfl (by kernel_rfl) (by kernel_rfl) (fun _ _ _ h => h) hD hS_6_11 (.inl ⟨by kernel_rfl, ?y6_13b2⟩) ?n6_13b2
          case y6_13b2 => intro w' _; go_simp; with_reducible rfl
          clear hD; intro hD
          simp only [Act.put, sqA, sqB, sqC]
          refine wpAnyK_pureD (i := 14) (d := some 27) (v := ?v6_14b2) (fuel := 18) rfl (by kernel_rfl) (by kernel_rfl) (fun _ _ _ h => h) hD hS_6_11 (.inl ⟨by kernel_rfl, ?y6_14b2⟩) ?n6_14b2
          case y6_14b2 => intro w' _; go_simp; with_reducible rfl
          clear hD; intro hD
          simp only [Act.put, sqA, sqB, sqC]
          refine wpAnyK_pureD (i := 15) (d := some 28) (v := undef) (fuel := 17) rfl (by kernel_rfl) (by kernel_rfl) (fun _ _ _ h => h) hD hS_6_11 (.inr ⟨by kernel_rfl, rfl⟩) ?_
          clear hD; intro hD
          simp only [Act.put, sqA, sqB, sqC]
          refine wpAnyK_pureD (i := 16) (d := some 29) (v := undef) (fuel := 16) rfl (by kernel_rfl) (by kernel_rfl) (fun _ _ _ h => h) hD hS_6_11 (.inr ⟨by kernel_rfl, rfl⟩) ?_
          clear hD; intro hD
          simp only [Act.put, sqA, sqB, sqC]
          refine wpAnyK_pureD (i := 17) (d := some 30) (v := undef) (fuel := 15) rfl (by kernel_rfl) (by kernel_rfl) (fun _ _ _ h => h) hD hS_6_11 (.inr ⟨by kernel_rfl, rfl⟩) ?_
          clear hD; intro hD
          simp only [Act.put, sqA, sqB, sqC]
          refine wpAnyK_pureD (i := 18) (d := some 31) (v := undef) (fuel := 14) rfl (by kernel_rfl) (by kernel_rfl) (fun _ _ _ h => h) hD hS_6_11 (.inr ⟨by kernel_rfl, rfl⟩) ?_
          clear hD; intro hD
          simp only [Act.put, sqA, sqB, sqC]
          refine wpAnyK_pureD (i := 19) (d := some 32) (v := ?v6_19b2) (fuel := 13) rfl (by kernel_rfl) (by kernel_rfl) (fun _ _ _ h => h) hD hS_6_11 (.inl ⟨by kernel_rfl, ?y6_19b2⟩) ?n6_19b2
          case y6_19b2 => intro w' _; go_simp; with_reducible rfl
          clear hD; intro hD
          simp only [Act.put, sqA, sqB, sqC]
          refine wpAnyK_pureD (i := 20) (d := some 33) (v := ?v6_20b2) (fuel := 12) rfl (by kernel_rfl) (by kernel_rfl) (fun _ _ _ h => h) hD hS_6_11 (.inl ⟨by kernel_rfl, ?y6_20b2⟩) ?n6_20b2
          case y6_20b2 => intro w' _; go_simp; with_reducible rfl
          clear hD; intro hD
          simp only [Act.put, sqA, sqB, sqC]
          refine wpAnyK_pureD (i := 21) (d := some 34) (v := undef) (fuel := 11) rfl (by kernel_rfl) (by kernel_rfl) (fun _ _ _ h => h) hD hS_6_11 (.inr ⟨by kernel_rfl, rfl⟩) ?_
          clear hD; intro hD
          simp only [Act.put, sqA, sqB, sqC]
          refine wpAnyK_pureD (i := 22) (d := some 35) (v := undef) (fuel := 10) rfl (by kernel_rfl) (by kernel_rfl) (fun _ _ _ h => h) hD hS_6_11 (.inr ⟨by kernel_rfl, rfl⟩) ?_
          clear hD; intro hD
          simp only [Act.put, sqA, sqB, sqC]
          refine wpAnyK_pureD (i := 23) (d := some 36) (v := undef) (fuel := 9) rfl (by kernel_rfl) (by kernel_rfl) (fun _ _ _ h => h) hD hS_6_11 (.inr ⟨by kernel_rfl, rfl⟩) ?_
          clear hD; intro hD
          simp only [Act.put, sqA, sqB, sqC]
          refine wpAnyK_pureD (i := 24) (d := some 37) (v := undef) (fuel := 8) rfl (by kernel_rfl) (by kernel_rfl) (fun _ _ _ h => h) hD hS_6_11 (.inr ⟨by kernel_rfl, rfl⟩) ?_
          clear hD; intro hD
          simp only [Act.put, sqA, sqB, sqC]
          refine wpAnyK_pureD (i := 25) (d := some 38) (v := ?v6_25b2) (fuel := 7) rfl (by kernel_rfl) (by kernel_rfl) (fun _ _ _ h => h) hD hS_6_11 (.inl ⟨by kernel_rfl, ?y6_25b2⟩) ?n6_25b2
          case y6_25b2 => intro w' _; go_simp; with_reducible rfl
          clear hD; intro hD
          simp only [Act.put, sqA, sqB, sqC]
          refine wpAnyK_pureD (i := 26) (d := some 39) (v := ?v6_26b2) (fuel := 6) rfl (by kernel_rfl) (by kernel_rfl) (fun _ _ _ h => h) hD hS_6_11 (.inl ⟨by kernel_rfl, ?y6_26b2⟩) ?n6_26b2
          case y6_26b2 => intro w' _; go_simp; with_reducible rfl
          clear hD; intro hD
          simp only [Act.put, sqA, sqB, sqC]
          refine wpAnyK_pureD (i := 27) (d := some 40) (v := undef) (fuel := 5) rfl (by kernel_rfl) (by kernel_rfl) (fun _ _ _ h => h) hD hS_6_11 (.inr ⟨by kernel_rfl, rfl⟩) ?_
          clear hD; intro hD
          simp only [Act.put, sqA, sqB, sqC]
          refine wpAnyK_pureD (i := 28) (d := some 41) (v := undef) (fuel := 4) rfl (by kernel_rfl) (by kernel_rfl) (fun _ _ _ h => h) hD hS_6_11 (.inr ⟨by kernel_rfl, rfl⟩) ?_
          clear hD; intro hD
          simp only [Act.put, sqA, sqB, sqC]
          refine wpAnyK_pureD (i := 29) (d := some 42) (v := undef) (fuel := 3) rfl (by kernel_rfl) (by kernel_rfl) (fun _ _ _ h => h) hD hS_6_11 (.inr ⟨by kernel_rfl, rfl⟩) ?_
          clear hD; intro hD
          simp only [Act.put, sqA, sqB, sqC]
          refine wpAnyK_pureD (i := 30) (d := some 43) (v := undef) (fuel := 2) rfl (by kernel_rfl) (by kernel_rfl) (fun _ _ _ h => h) hD hS_6_11 (.inr ⟨by kernel_rfl, rfl⟩) ?_
          clear hD; intro hD
          simp only [Act.put, sqA, sqB, sqC]
          refine wpAnyK_pureD (i := 31) (d := some 44) (v := undef) (fuel := 1) rfl (by kernel_rfl) (by kernel_rfl) (fun _ _ _ h => h) hD hS_6_11 (.inr ⟨by kernel_rfl, rfl⟩) ?_
          clear hD; intro hD
          simp only [Act.put, sqA, sqB, sqC]
          refine wpAnyK_pureD (i := 32) (d := some 45) (v := ?v6_32b2) (fuel := 0) rfl (by kernel_rfl) (by kernel_rfl) (fun _ _ _ h => h) hD hS_6_11 (.inl ⟨by kernel_rfl, ?y6_32b2⟩) ?n6_32b2
          case y6_32b2 => intro w' _; go_simp; with_reducible rfl
          clear hD; intro hD
          simp only [Act.put, sqA, sqB, sqC]
          refine wpAnyK_done (by kernel_rfl) ?_ 0
          clear hD d0 d1 d2 d3
          have HB9 := Lib.hid (HB2.out.trans (((Below.refl w2.heap.size w2).drew.trans hS_6_11).mono HB2.out.size))
          go_wp2
          go_ret
          exact ⟨rfl, HB9.out⟩
        | true =>
          cases b1 with
          | true =>
            go_enter Tryz.func28, Tryz.ntmps28
            have hx0 := Bx4.new w (.string M) (.string O) (.string G) (.string H) 26
            have hb0 := (Below.refl w.heap.size w).alloc (Nat.le_refl _) (.cells #[.string M, .string O, .string G, .string H] 26)
            obtain ⟨W0, hW0⟩ : ∃ W, w.alloc (.cells #[.string M, .string O, .string G, .string H] 26) = W := ⟨_, rfl⟩
            rw [hW0] at hx0 hb0
            have HX0 := Lib.hid hx0
            have HB0 := Lib.hid hb0
            obtain ⟨c0, c1, c2, c3⟩ := hx0.cells
            clear hx0 hb0
            go_wp2_with fail
            try rw [hW0]
            clear hW0
            refine (HF.out _).mono ?_
            rintro ev w1 ⟨rfl, hb⟩
            have hx := HX0.out.next hb
            have HX1 := Lib.hid hx
            have HB1 := Lib.hid (HB0.out.trans (hb.mono HB0.out.size))
            clear hb c0 c1 c2 c3
            obtain ⟨c0, c1, c2, c3⟩ := hx.cells
            clear hx
            go_wp2_with fail
            refine (HCK.out _).mono ?_
            rintro ev w2 ⟨rfl, hb⟩
            have hx := HX1.out.next hb
            have HX2 := Lib.hid hx
            have HB2 := Lib.hid (HB1.out.trans (hb.mono HB1.out.size))
            clear hb c0 c1 c2 c3
            obtain ⟨c0, c1, c2, c3⟩ := hx.cells
            clear hx
            go_wp2
            have d0 : w2.drew.cell? ⟨w.heap.size, 0, none⟩ = some (.string M) := c0
            have d1 : w2.drew.cell? ⟨w.heap.size, 1, none⟩ = some (.string O) := c1
            have d2 : w2.drew.cell? ⟨w.heap.size, 2, none⟩ = some (.string G) := c2
            have d3 : w2.drew.cell? ⟨w.heap.size, 3, none⟩ = some (.string H) := c3
            clear c0 c1 c2 c3
            refine wp_region_K 33 (Below (w2.drew).heap.size (w2.drew)) (by kernel_rfl) ?_
            intro hD
            refine wpAnyK_pureD (i := 0) (d := some 13) (v := ?v6_0b3) (fuel := 32) rfl (by kernel_rfl) (by kernel_rfl) (fun _ _ _ h => h) hD (Below.refl _ _) (.inl ⟨by kernel_rfl, ?y6_0b3⟩) ?n6_0b3
            case y6_0b3 => intro w' _; go_simp; with_reducible rfl
            clear hD; intro hD
            simp only [Act.put, sqA, sqB, sqC]
            refine wpAnyK_takeSD (i := 1) (d := some 14) (v := ?v6_1b3) (fuel := 31) rfl (by kernel_rfl) (by kernel_rfl) (by kernel_rfl) (fun _ _ _ h => h) hD (Below.refl _ _) (.inl ⟨by kernel_rfl, ?y6_1b3⟩) ?n6_1b3
            case y6_1b3 => intro w' hS'; have e0 := cell_kept hS' (Nat.le_refl _) d0; have e1 := cell_kept hS' (Nat.le_refl _) d1; have e2 := cell_kept hS' (Nat.le_refl _) d2; have e3 := cell_kept hS' (Nat.le_refl _) d3; go_simp; with_reducible rfl
            clear hD; intro hD
            simp only [Act.put, sqA, sqB, sqC]
            refine wpAnyK_pureD (i := 2) (d := some 15) (v := ?v6_2b3) (fuel := 30) rfl (by kernel_rfl) (by kernel_rfl) (fun _ _ _ h => h) hD (Below.refl _ _) (.inl ⟨by kernel_rfl, ?y6_2b3⟩) ?n6_2b3
            case y6_2b3 => intro w' _; go_simp; with_reducible rfl
            clear hD; intro hD
            simp only [Act.put, sqA, sqB, sqC]
            refine wpAnyK_takeSD (i := 3) (d := some 16) (v := ?v6_3b3) (fuel := 29) rfl (by kernel_rfl) (by kernel_rfl) (by kernel_rfl) (fun _ _ _ h => h) hD (Below.refl _ _) (.inl ⟨by kernel_rfl, ?y6_3b3⟩) ?n6_3b3
            case y6_3b3 => intro w' hS'; have e0 := cell_kept hS' (Nat.le_refl _) d0; have e1 := cell_kept hS' (Nat.le_refl _) d1; have e2 := cell_kept hS' (Nat.le_refl _) d2; have e3 := cell_kept hS' (Nat.le_refl _) d3; go_simp; with_reducible rfl
            clear hD; intro hD
            simp only [Act.put, sqA, sqB, sqC]
            refine wpAnyK_one (i := 4) (fuel := 28) (by kernel_rfl) rfl hD ?_
            clear hD; intro K4 hK4
            go_wp2_with fail
            refine (HHG.out _).mono ?_
            rintro ev v4 ⟨rfl, hb⟩
            have HB4 := Lib.hid hb
            clear hb
            go_wp2
            refine hK4 _ _ (by exact HB4.out) ?_; clear hK4; intro hS_6_4 hD
            refine wpAnyK_pureD (i := 5) (d := some 18) (v := ?v6_5b3) (fuel := 27) rfl (by kernel_rfl) (by kernel_rfl) (fun _ _ _ h => h) hD hS_6_4 (.inl ⟨by kernel_rfl, ?y6_5b3⟩) ?n6_5b3
            case y6_5b3 => intro w' _; go_simp; with_reducible rfl
            clear hD; intro hD
            simp only [Act.put, sqA, sqB, sqC]
            refine wpAnyK_pureD (i := 6) (d := some 19) (v := ?v6_6b3) (fuel := 26) rfl (by kernel_rfl) (by kernel_rfl) (fun _ _ _ h => h) hD hS_6_4 (.inl ⟨by kernel_rfl, ?y6_6b3⟩) ?n6_6b3
            case y6_6b3 => intro w' _; go_simp; with_reducible rfl
            clear hD; intro hD
            simp only [Act.put, sqA, sqB, sqC]
            refine wpAnyK_pureD (i := 7) (d := some 20) (v := ?v6_7b3) (fuel := 25) rfl (by kernel_rfl) (by kernel_rfl) (fun _ _ _ h => h) hD hS_6_4 (.inl ⟨by kernel_rfl, ?y6_7b3⟩) ?n6_7b3
            case y6_7b3 => intro w' _; go_simp; with_reducible rfl
            clear hD; intro hD
            simp only [Act.put, sqA, sqB, sqC]
            refine wpAnyK_takeSD (i := 8) (d := some 21) (v := ?v6_8b3) (fuel := 24) rfl (by kernel_rfl) (by kernel_rfl) (by kernel_rfl) (fun _ _ _ h => h) hD hS_6_4 (.inl ⟨by kernel_rfl, ?y6_8b3⟩) ?n6_8b3
            case y6_8b3 => intro w' hS'; have e0 := cell_kept hS' (Nat.le_refl _) d0; have e1 := cell_kept hS' (Nat.le_refl _) d1; have e2 := cell_kept hS' (Nat.le_refl _) d2; have e3 := cell_kept hS' (Nat.le_refl _) d3; go_simp; with_reducible rfl
            clear hD; intro hD
            simp only [Act.put, sqA, sqB, sqC]
            refine wpAnyK_pureD (i := 9) (d := some 22) (v := ?v6_9b3) (fuel := 23) rfl (by kernel_rfl) (by kernel_rfl) (fun _ _ _ h => h) hD hS_6_4 (.inl ⟨by kernel_rfl, ?y6_9b3⟩) ?n6_9b3
            case y6_9b3 => intro w' _; go_simp; with_reducible rfl
            clear hD; intro hD
            simp only [Act.put, sqA, sqB, sqC]
            refine wpAnyK_takeSD (i := 10) (d := some 23) (v := ?v6_10b3) (fuel := 22) rfl (by kernel_rfl) (by kernel_rfl) (by kernel_rfl) (fun _ _ _ h => h) hD hS_6_4 (.inl ⟨by kernel_rfl, ?y6_10b3⟩) ?n6_10b3
            case y6_10b3 => intro w' hS'; have e0 := cell_kept hS' (Nat.le_refl _) d0; have e1 := cell_kept hS' (Nat.le_refl _) d1; have e2 := cell_kept hS' (Nat.le_refl _) d2; have e3 := cell_kept hS' (Nat.le_refl _) d3; go_simp; with_reducible rfl
            clear hD; intro hD
            simp only [Act.put, sqA, sqB, sqC]
            refine wpAnyK_one (i := 11) (fuel := 21) (by kernel_rfl) rfl hD ?_
            clear hD; intro K11 hK11
            go_wp2_with fail
            refine (HHH.out _).mono ?_
            rintro ev v11 ⟨rfl, hb⟩
            have HB11 := Lib.hid hb
            clear hb
            go_wp2
            refine hK11 _ _ (by exact Below.trans hS_6_4 (Below.mono HB11.out (Below.size hS_6_4))) ?_; clear hK11; intro hS_6_11 hD
            refine wpAnyK_pureD (i := 12) (d := some 25) (v := ?v6_12b3) (fuel := 20) rfl (by kernel_rfl) (by kernel_rfl) (fun _ _ _ h => h) hD hS_6_11 (.inl ⟨by kernel_rfl, ?y6_12b3⟩) ?n6_12b3
            case y6_12b3 => intro w' _; go_simp; with_reducible rfl
            clear hD; intro hD
            simp only [Act.put, sqA, sqB, sqC]
            refine wpAnyK_pureD (i := 13) (d := some 26) (v := ?v6_13b3) (fuel := 19) rfl (by kernel_rfl) (by kernel_rfl) (fun _ _ _ h => h) hD hS_6_11 (.inl ⟨by kernel_rfl, ?y6_13b3⟩) ?n6_13b3
            case y6_13b3 => intro w' _; go_simp; with_reducible rfl
            clear hD; intro hD
            simp only [Act.put, sqA, sqB, sqC]
            refine wpAnyK_pureD (i := 14) (d := some 27) (v := ?v6_14b3) (fuel := 18) rfl (by kernel_rfl) (by kernel_rfl) (fun _ _ _ h => h) hD hS_6_11 (.inl ⟨by kernel_rfl, ?y6_14b3⟩) ?n6_14b3
            case y6_14b3 => intro w' _; go_simp; with_reducible rfl
            clear hD; intro hD
            simp only [Act.put, sqA, sqB, sqC]
            refine wpAnyK_pureD (i := 15) (d := some 28) (v := ?v6_15b3) (fuel := 17) rfl (by kernel_rfl) (by kernel_rfl) (fun _ _ _ h => h) hD hS_6_11 (.inl ⟨by kernel_rfl, ?y6_15b3⟩) ?n6_15b3
            case y6_15b3 => intro w' _; go_simp; with_reducible rfl
            clear hD; intro hD
            simp only [Act.put, sqA, sqB, sqC]
            refine wpAnyK_takeSD (i := 16) (d := some 29) (v := ?v6_16b3) (fuel := 16) rfl (by kernel_rfl) (by kernel_rfl) (by kernel_rfl) (fun _ _ _ h => h) hD hS_6_11 (.inl ⟨by kernel_rfl, ?y6_16b3⟩) ?n6_16b3
            case y6_16b3 => intro w' hS'; have e0 := cell_kept hS' (Nat.le_refl _) d0; have e1 := cell_kept hS' (Nat.le_refl _) d1; have e2 := cell_kept hS' (Nat.le_refl _) d2; have e3 := cell_kept hS' (Nat.le_refl _) d3; go_simp; with_reducible rfl
            clear hD; intro hD
            simp only [Act.put, sqA, sqB, sqC]
            refine wpAnyK_one (i := 17) (fuel := 15) (by kernel_rfl) rfl hD ?_
            clear hD; intro K17 hK17
            go_wp2_with fail
            refine (HO1.out _).mono ?_
            rintro ev v17 ⟨rfl, hb⟩
            have HB17 := Lib.hid hb
            clear hb
            go_wp2
            refine hK17 _ _ (by exact Below.trans hS_6_11 (Below.mono HB17.out (Below.size hS_6_11))) ?_; clear hK17; intro hS_6_17 hD
            refine wpAnyK_pureD (i := 18) (d := some 31) (v := ?v6_18b3) (fuel := 14) rfl (by kernel_rfl) (by kernel_rfl) (fun _ _ _ h => h) hD hS_6_17 (.inl ⟨by kernel_rfl, ?y6_18b3⟩) ?n6_18b3
            case y6_18b3 => intro w' _; go_simp; with_reducible rfl
            clear hD; intro hD
            simp only [Act.put, sqA, sqB, sqC]
            refine wpAnyK_pureD (i := 19) (d := some 32) (v := ?v6_19b3) (fuel := 13) rfl (by kernel_rfl) (by kernel_rfl) (fun _ _ _ h => h) hD hS_6_17 (.inl ⟨by kernel_rfl, ?y6_19b3⟩) ?n6_19b3
            case y6_19b3 => intro w' _; go_simp; with_reducible rfl
            clear hD; intro hD
            simp only [Act.put, sqA, sqB, sqC]
            refine wpAnyK_pureD (i := 20) (d := some 33) (v := ?v6_20b3) (fuel := 12) rfl (by kernel_rfl) (by kernel_rfl) (fun _ _ _ h => h) hD hS_6_17 (.inl ⟨by kernel_rfl, ?y6_20b3⟩) ?n6_20b3
            case y6_20b3 => intro w' _; go_simp; with_reducible rfl
            clear hD; intro hD
            simp only [Act.put, sqA, sqB, sqC]
            refine wpAnyK_pureD (i := 21) (d := some 34) (v := undef) (fuel := 11) rfl (by kernel_rfl) (by kernel_rfl) (fun _ _ _ h => h) hD hS_6_17 (.inr ⟨by kernel_rfl, rfl⟩) ?_
            clear hD; intro hD
            simp only [Act.put, sqA, sqB, sqC]
            refine wpAnyK_pureD (i := 22) (d := some 35) (v := undef) (fuel := 10) rfl (by kernel_rfl) (by kernel_rfl) (fun _ _ _ h => h) hD hS_6_17 (.inr ⟨by kernel_rfl, rfl⟩) ?_
            clear hD; intro hD
            simp only [Act.put, sqA, sqB, sqC]
            refine wpAnyK_pureD (i := 23) (d := some 36) (v := undef) (fuel := 9) rfl (by kernel_rfl) (by kernel_rfl) (fun _ _ _ h => h) hD hS_6_17 (.inr ⟨by kernel_rfl, rfl⟩) ?_
            clear hD; intro hD
            simp only [Act.put, sqA, sqB, sqC]
            refine wpAnyK_pureD (i := 24) (d := some 37) (v := undef) (fuel := 8) rfl (by kernel_rfl) (by kernel_rfl) (fun _ _ _ h => h) hD hS_6_17 (.inr ⟨by kernel_rfl, rfl⟩) ?_
            clear hD; intro hD
            simp only [Act.put, sqA, sqB, sqC]
            refine wpAnyK_pureD (i := 25) (d := some 38) (v := ?v6_25b3) (fuel := 7) rfl (by kernel_rfl) (by kernel_rfl) (fun _ _ _ h => h) hD hS_6_17 (.inl ⟨by kernel_rfl, ?y6_25b3⟩) ?n6_25b3
            case y6_25b3 => intro w' _; go_simp; with_reducible rfl
            clear hD; intro hD
            simp only [Act.put, sqA, sqB, sqC]
            refine wpAnyK_pureD (i := 26) (d := some 39) (v := ?v6_26b3) (fuel := 6) rfl (by kernel_rfl) (by kernel_rfl) (fun _ _ _ h => h) hD hS_6_17 (.inl ⟨by kernel_rfl, ?y6_26b3⟩) ?n6_26b3
            case y6_26b3 => intro w' _; go_simp; with_reducible rfl
            clear hD; intro hD
            simp only [Act.put, sqA, sqB, sqC]
            refine wpAnyK_pureD (i := 27) (d := some 40) (v := undef) (fuel := 5) rfl (by kernel_rfl) (by kernel_rfl) (fun _ _ _ h => h) hD hS_6_17 (.inr ⟨by kernel_rfl, rfl⟩) ?_
            clear hD; intro hD
            simp only [Act.put, sqA, sqB, sqC]
            refine wpAnyK_pureD (i := 28) (d := some 41) (v := undef) (fuel := 4) rfl (by kernel_rfl) (by kernel_rfl) (fun _ _ _ h => h) hD hS_6_17 (.inr ⟨by kernel_rfl, rfl⟩) ?_
            clear hD; intro hD
            simp only [Act.put, sqA, sqB, sqC]
            refine wpAnyK_pureD (i := 29) (d := some 42) (v := undef) (fuel := 3) rfl (by kernel_rfl) (by kernel_rfl) (fun _ _ _ h => h) hD hS_6_17 (.inr ⟨by kernel_rfl, rfl⟩) ?_
            clear hD; intro hD
            simp only [Act.put, sqA, sqB, sqC]
            refine wpAnyK_pureD (i := 30) (d := some 43) (v := undef) (fuel := 2) rfl (by kernel_rfl) (by kernel_rfl) (fun _ _ _ h => h) hD hS_6_17 (.inr ⟨by kernel_rfl, rfl⟩) ?_
            clear hD; intro hD
            simp only [Act.put, sqA, sqB, sqC]
            refine wpAnyK_pureD (i := 31) (d := some 44) (v := undef) (fuel := 1) rfl (by kernel_rfl) (by kernel_rfl) (fun _ _ _ h => h) hD hS_6_17 (.inr ⟨by kernel_rfl, rfl⟩) ?_
            clear hD; intro hD
            simp only [Act.put, sqA, sqB, sqC]
            refine wpAnyK_pureD (i := 32) (d := some 45) (v := ?v6_32b3) (fuel := 0) rfl (by kernel_rfl) (by kernel_rfl) (fun _ _ _ h => h) hD hS_6_17 (.inl ⟨by kernel_rfl, ?y6_32b3⟩) ?n6_32b3
            case y6_32b3 => intro w' _; go_simp; with_reducible rfl
            clear hD; intro hD
            simp only [Act.put, sqA, sqB, sqC]
            refine wpAnyK_done (by kernel_rfl) ?_ 0
            clear hD d0 d1 d2 d3
            have HB9 := Lib.hid (HB2.out.trans (((Below.refl w2.heap.size w2).drew.trans hS_6_17).mono HB2.out.size))
            go_wp2
            go_ret
            exact ⟨rfl, HB9.out⟩
          | false =>
            cases b2 with
            | true =>
              go_enter Tryz.func28, Tryz.ntmps28
              have hx0 := Bx4.new w (.string M) (.string O) (.string G) (.string H) 26
              have hb0 := (Below.refl w.heap.size w).alloc (Nat.le_refl _) (.cells #[.string M, .string O, .string G, .string H] 26)
              obtain ⟨W0, hW0⟩ : ∃ W, w.alloc (.cells #[.string M, .string O, .string G, .string H] 26) = W := ⟨_, rfl⟩
              rw [hW0] at hx0 hb0
              have HX0 := Lib.hid hx0
              have HB0 := Lib.hid hb0
              obtain ⟨c0, c1, c2, c3⟩ := hx0.cells
              clear hx0 hb0
              go_wp2_with fail
              try rw [hW0]
              clear hW0
              refine (HF.out _).mono ?_
              rintro ev w1 ⟨rfl, hb⟩
              have hx := HX0.out.next hb
              have HX1 := Lib.hid hx
              have HB1 := Lib.hid (HB0.out.trans (hb.mono HB0.out.size))
              clear hb c0 c1 c2 c3
              obtain ⟨c0, c1, c2, c3⟩ := hx.cells
              clear hx
              go_wp2_with fail
              refine (HCK.out _).mono ?_
              rintro ev w2 ⟨rfl, hb⟩
              have hx := HX1.out.next hb
              have HX2 := Lib.hid hx
              have HB2 := Lib.hid (HB1.out.trans (hb.mono HB1.out.size))
              clear hb c0 c1 c2 c3
              obtain ⟨c0, c1, c2, c3⟩ := hx.cells
              clear hx
              go_wp2
              have d0 : w2.drew.cell? ⟨w.heap.size, 0, none⟩ = some (.string M) := c0
              have d1 : w2.drew.cell? ⟨w.heap.size, 1, none⟩ = some (.string O) := c1
              have d2 : w2.drew.cell? ⟨w.heap.size, 2, none⟩ = some (.string G) := c2
              have d3 : w2.drew.cell? ⟨w.heap.size, 3, none⟩ = some (.string H) := c3
              clear c0 c1 c2 c3
              refine wp_region_K 33 (Below (w2.drew).heap.size (w2.drew)) (by kernel_rfl) ?_
              intro hD
              refine wpAnyK_pureD (i := 0) (d := some 13) (v := ?v6_0b4) (fuel := 32) rfl (by kernel_rfl) (by kernel_rfl) (fun _ _ _ h => h) hD (Below.refl _ _) (.inl ⟨by kernel_rfl, ?y6_0b4⟩) ?n6_0b4
              case y6_0b4 => intro w' _; go_simp; with_reducible rfl
              clear hD; intro hD
              simp only [Act.put, sqA, sqB, sqC]
              refine wpAnyK_takeSD (i := 1) (d := some 14) (v := ?v6_1b4) (fuel := 31) rfl (by kernel_rfl) (by kernel_rfl) (by kernel_rfl) (fun _ _ _ h => h) hD (Below.refl _ _) (.inl ⟨by kernel_rfl, ?y6_1b4⟩) ?n6_1b4
              case y6_1b4 => intro w' hS'; have e0 := cell_kept hS' (Nat.le_refl _) d0; have e1 := cell_kept hS' (Nat.le_refl _) d1; have e2 := cell_kept hS' (Nat.le_refl _) d2; have e3 := cell_kept hS' (Nat.le_refl _) d3; go_simp; with_reducible rfl
              clear hD; intro hD
              simp only [Act.put, sqA, sqB, sqC]
              refine wpAnyK_pureD (i := 2) (d := some 15) (v := ?v6_2b4) (fuel := 30) rfl (by kernel_rfl) (by kernel_rfl) (fun _ _ _ h => h) hD (Below.refl _ _) (.inl ⟨by kernel_rfl, ?y6_2b4⟩) ?n6_2b4
              case y6_2b4 => intro w' _; go_simp; with_reducible rfl
              clear hD; intro hD
              simp only [Act.put, sqA, sqB, sqC]
              refine wpAnyK_takeSD (i := 3) (d := some 16) (v := ?v6_3b4) (fuel := 29) rfl (by kernel_rfl) (by kernel_rfl) (by kernel_rfl) (fun _ _ _ h => h) hD (Below.refl _ _) (.inl ⟨by kernel_rfl, ?y6_3b4⟩) ?n6_3b4
              case y6_3b4 => intro w' hS'; have e0 := cell_kept hS' (Nat.le_refl _) d0; have e1 := cell_kept hS' (Nat.le_refl _) d1; have e2 := cell_kept hS' (Nat.le_refl _) d2; have e3 := cell_kept hS' (Nat.le_refl _) d3; go_simp; with_reducible rfl
              clear hD; intro hD
              simp only [Act.put, sqA, sqB, sqC]
              refine wpAnyK_one (i := 4) (fuel := 28) (by kernel_rfl) rfl hD ?_
              clear hD; intro K4 hK4
              go_wp2_with fail
              refine (HHG.out _).mono ?_
              rintro ev v4 ⟨rfl, hb⟩
              have HB4 := Lib.hid hb
              clear hb
              go_wp2
              refine hK4 _ _ (by exact HB4.out) ?_; clear hK4; intro hS_6_4 hD
              refine wpAnyK_pureD (i := 5) (d := some 18) (v := ?v6_5b4) (fuel := 27) rfl (by kernel_rfl) (by kernel_rfl) (fun _ _ _ h => h) hD hS_6_4 (.inl ⟨by kernel_rfl, ?y6_5b4⟩) ?n6_5b4
              case y6_5b4 => intro w' _; go_simp; with_reducible rfl
              clear hD; intro hD
              simp only [Act.put, sqA, sqB, sqC]
              refine wpAnyK_pureD (i := 6) (d := some 19) (v := ?v6_6b4) (fuel := 26) rfl (by kernel_rfl) (by kernel_rfl) (fun _ _ _ h => h) hD hS_6_4 (.inl ⟨by kernel_rfl, ?y6_6b4⟩) ?n6_6b4
              case y6_6b4 => intro w' _; go_simp; with_reducible rfl
              clear hD; intro hD
              simp only [Act.put, sqA, sqB, sqC]
              refine wpAnyK_pureD (i := 7) (d := some 20) (v := ?v6_7b4) (fuel := 25) rfl (by kernel_rfl) (by kernel_rfl) (fun _ _ _ h => h) hD hS_6_4 (.inl ⟨by kernel_rfl, ?y6_7b4⟩) ?n6_7b4
              case y6_7b4 => intro w' _; go_simp; with_reducible rfl
              clear hD; intro hD
              simp only [Act.put, sqA, sqB, sqC]
              refine wpAnyK_takeSD (i := 8) (d := some 21) (v := ?v6_8b4) (fuel := 24) rfl (by kernel_rfl) (by kernel_rfl) (by kernel_rfl) (fun _ _ _ h => h) hD hS_6_4 (.inl ⟨by kernel_rfl, ?y6_8b4⟩) ?n6_8b4
              case y6_8b4 => intro w' hS'; have e0 := cell_kept hS' (Nat.le_refl _) d0; have e1 := cell_kept hS' (Nat.le_refl _) d1; have e2 := cell_kept hS' (Nat.le_refl _) d2; have e3 := cell_kept hS' (Nat.le_refl _) d3; go_simp; with_reducible rfl
              clear hD; intro hD
              simp only [Act.put, sqA, sqB, sqC]
              refine wpAnyK_pureD (i := 9) (d := some 22) (v := ?v6_9b4) (fuel := 23) rfl (by kernel_rfl) (by kernel_rfl) (fun _ _ _ h => h) hD hS_6_4 (.inl ⟨by kernel_rfl, ?y6_9b4⟩) ?n6_9b4
              case y6_9b4 => intro w' _; go_simp; with_reducible rfl
              clear hD; intro hD
              simp only [Act.put, sqA, sqB, sqC]
              refine wpAnyK_takeSD (i := 10) (d := some 23) (v := ?v6_10b4) (fuel := 22) rfl (by kernel_rfl) (by kernel_rfl) (by kernel_rfl) (fun _ _ _ h => h) hD hS_6_4 (.inl ⟨by kernel_rfl, ?y6_10b4⟩) ?n6_10b4
              case y6_10b4 => intro w' hS'; have e0 := cell_kept hS' (Nat.le_refl _) d0; have e1 := cell_kept hS' (Nat.le_refl _) d1; have e2 := cell_kept hS' (Nat.le_refl _) d2; have e3 := cell_kept hS' (Nat.le_refl _) d3; go_simp; with_reducible rfl
              clear hD; intro hD
              simp only [Act.put, sqA, sqB, sqC]
              refine wpAnyK_one (i := 11) (fuel := 21) (by kernel_rfl) rfl hD ?_
              clear hD; intro K11 hK11
              go_wp2_with fail
              refine (HHH.out _).mono ?_
              rintro ev v11 ⟨rfl, hb⟩
              have HB11 := Lib.hid hb
              clear hb
              go_wp2
              refine hK11 _ _ (by exact Below.trans hS_6_4 (Below.mono HB11.out (Below.size hS_6_4))) ?_; clear hK11; intro hS_6_11 hD
              refine wpAnyK_pureD (i := 12) (d := some 25) (v := ?v6_12b4) (fuel := 20) rfl (by kernel_rfl) (by kernel_rfl) (fun _ _ _ h => h) hD hS_6_11 (.inl ⟨by kernel_rfl, ?y6_12b4⟩) ?n6_12b4
              case y6_12b4 => intro w' _; go_simp; with_reducible rfl
              clear hD; intro hD
              simp only [Act.put, sqA, sqB, sqC]
              refine wpAnyK_pureD (i := 13) (d := some 26) (v := ?v6_13b4) (fuel := 19) rfl (by kernel_rfl) (by kernel_rfl) (fun _ _ _ h => h) hD hS_6_11 (.inl ⟨by kernel_rfl, ?y6_13b4⟩) ?n6_13b4
              case y6_13b4 => intro w' _; go_simp; with_reducible rfl
              clear hD; intro hD
              simp only [Act.put, sqA, sqB, sqC]
              refine wpAnyK_pureD (i := 14) (d := some 27) (v := ?v6_14b4) (fuel := 18) rfl (by kernel_rfl) (by kernel_rfl) (fun _ _ _ h => h) hD hS_6_11 (.inl ⟨by kernel_rfl, ?y6_14b4⟩) ?n6_14b4
              case y6_14b4 => intro w' _; go_simp; with_reducible rfl
              clear hD; intro hD
              simp only [Act.put, sqA, sqB, sqC]
              refine wpAnyK_pureD (i := 15) (d := some 28) (v := ?v6_15b4) (fuel := 17) rfl (by kernel_rfl) (by kernel_rfl) (fun _ _ _ h => h) hD hS_6_11 (.inl ⟨by kernel_rfl, ?y6_15b4⟩) ?n6_15b4
              case y6_15b4 => intro w' _; go_simp; with_reducible rfl
              clear hD; intro hD
              simp only [Act.put, sqA, sqB, sqC]
              refine wpAnyK_takeSD (i := 16) (d := some 29) (v := ?v6_16b4) (fuel := 16) rfl (by kernel_rfl) (by kernel_rfl) (by kernel_rfl) (fun _ _ _ h => h) hD hS_6_11 (.inl ⟨by kernel_rfl, ?y6_16b4⟩) ?n6_16b4
              case y6_16b4 => intro w' hS'; have e0 := cell_kept hS' (Nat.le_refl _) d0; have e1 := cell_kept hS' (Nat.le_refl _) d1; have e2 := cell_kept hS' (Nat.le_refl _) d2; have e3 := cell_kept hS' (Nat.le_refl _) d3; go_simp; with_reducible rfl
              clear hD; intro hD
              simp only [Act.put, sqA, sqB, sqC]
              refine wpAnyK_one (i := 17) (fuel := 15) (by kernel_rfl) rfl hD ?_
              clear hD; intro K17 hK17
              go_wp2_with fail
              refine (HO1.out _).mono ?_
              rintro ev v17 ⟨rfl, hb⟩
              have HB17 := Lib.hid hb
              clear hb
              go_wp2
              refine hK17 _ _ (by exact Below.trans hS_6_11 (Below.mono HB17.out (Below.size hS_6_11))) ?_; clear hK17; intro hS_6_17 hD
              refine wpAnyK_pureD (i := 18) (d := some 31) (v := ?v6_18b4) (fuel := 14) rfl (by kernel_rfl) (by kernel_rfl) (fun _ _ _ h => h) hD hS_6_17 (.inl ⟨by kernel_rfl, ?y6_18b4⟩) ?n6_18b4
              case y6_18b4 => intro w' _; go_simp; with_reducible rfl
              clear hD; intro hD
              simp only [Act.put, sqA, sqB, sqC]
              refine wpAnyK_pureD (i := 19) (d := some 32) (v := ?v6_19b4) (fuel := 13) rfl (by kernel_rfl) (by kernel_rfl) (fun _ _ _ h => h) hD hS_6_17 (.inl ⟨by kernel_rfl, ?y6_19b4⟩) ?n6_19b4
              case y6_19b4 => intro w' _; go_simp; with_reducible rfl
              clear hD; intro hD
              simp only [Act.put, sqA, sqB, sqC]
              refine wpAnyK_pureD (i := 20) (d := some 33) (v := ?v6_20b4) (fuel := 12) rfl (by kernel_rfl) (by kernel_rfl) (fun _ _ _ h => h) hD hS_6_17 (.inl ⟨by kernel_rfl, ?y6_20b4⟩) ?n6_20b4
              case y6_20b4 => intro w' _; go_simp; with_reducible rfl
              clear hD; intro hD
              simp only [Act.put, sqA, sqB, sqC]
              refine wpAnyK_pureD (i := 21) (d := some 34) (v := ?v6_21b4) (fuel := 11) rfl (by kernel_rfl) (by kernel_rfl) (fun _ _ _ h => h) hD hS_6_17 (.inl ⟨by kernel_rfl, ?y6_21b4⟩) ?n6_21b4
              case y6_21b4 => intro w' _; go_simp; with_reducible rfl
              clear hD; intro hD
              simp only [Act.put, sqA, sqB, sqC]
              refine wpAnyK_takeSD (i := 22) (d := some 35) (v := ?v6_22b4) (fuel := 10) rfl (by kernel_rfl) (by kernel_rfl) (by kernel_rfl) (fun _ _ _ h => h) hD hS_6_17 (.inl ⟨by kernel_rfl, ?y6_22b4⟩) ?n6_22b4
              case y6_22b4 => intro w' hS'; have e0 := cell_kept hS' (Nat.le_refl _) d0; have e1 := cell_kept hS' (Nat.le_refl _) d1; have e2 := cell_kept hS' (Nat.le_refl _) d2; have e3 := cell_kept hS' (Nat.le_refl _) d3; go_simp; with_reducible rfl
              clear hD; intro hD
              simp only [Act.put, sqA, sqB, sqC]
              refine wpAnyK_one (i := 23) (fuel := 9) (by kernel_rfl) rfl hD ?_
              clear hD; intro K23 hK23
              go_wp2_with fail
              refine (HO1.out _).mono ?_
              rintro ev v23 ⟨rfl, hb⟩
              have HB23 := Lib.hid hb
              clear hb
              go_wp2
              refine hK23 _ _ (by exact Below.trans hS_6_17 (Below.mono HB23.out (Below.size hS_6_17))) ?_; clear hK23; intro hS_6_23 hD
              refine wpAnyK_pureD (i := 24) (d := some 37) (v := ?v6_24b4) (fuel := 8) rfl (by kernel_rfl) (by kernel_rfl) (fun _ _ _ h => h) hD hS_6_23 (.inl ⟨by kernel_rfl, ?y6_24b4⟩) ?n6_24b4
              case y6_24b4 => intro w' _; go_simp; with_reducible rfl
              clear hD; intro hD
              simp only [Act.put, sqA, sqB, sqC]
              refine wpAnyK_pureD (i := 25) (d := some 38) (v := ?v6_25b4) (fuel := 7) rfl (by kernel_rfl) (by kernel_rfl) (fun _ _ _ h => h) hD hS_6_23 (.inl ⟨by kernel_rfl, ?y6_25b4⟩) ?n6_25b4
              case y6_25b4 => intro w' _; go_simp; with_reducible rfl
              clear hD; intro hD
              simp only [Act.put, sqA, sqB, sqC]
              refine wpAnyK_pureD (i := 26) (d := some 39) (v := ?v6_26b4) (fuel := 6) rfl (by kernel_rfl) (by kernel_rfl) (fun _ _ _ h => h) hD hS_6_23 (.inl ⟨by kernel_rfl, ?y6_26b4⟩) ?n6_26b4
              case y6_26b4 => intro w' _; go_simp; with_reducible rfl
              clear hD; intro hD
              simp only [Act.put, sqA, sqB, sqC]
              refine wpAnyK_pureD (i := 27) (d := some 40) (v := undef) (fuel := 5) rfl (by kernel_rfl) (by kernel_rfl) (fun _ _ _ h => h) hD hS_6_23 (.inr ⟨by kernel_rfl, rfl⟩) ?_
              clear hD; intro hD
              simp only [Act.put, sqA, sqB, sqC]
              refine wpAnyK_pureD (i := 28) (d := some 41) (v := undef) (fuel := 4) rfl (by kernel_rfl) (by kernel_rfl) (fun _ _ _ h => h) hD hS_6_23 (.inr ⟨by kernel_rfl, rfl⟩) ?_
              clear hD; intro hD
              simp only [Act.put, sqA, sqB, sqC]
              refine wpAnyK_pureD (i := 29) (d := some 42) (v := undef) (fuel := 3) rfl (by kernel_rfl) (by kernel_rfl) (fun _ _ _ h => h) hD hS_6_23 (.inr ⟨by kernel_rfl, rfl⟩) ?_
              clear hD; intro hD
              simp only [Act.put, sqA, sqB, sqC]
              refine wpAnyK_pureD (i := 30) (d := some 43) (v := undef) (fuel := 2) rfl (by kernel_rfl) (by kernel_rfl) (fun _ _ _ h => h) hD hS_6_23 (.inr ⟨by kernel_rfl, rfl⟩) ?_
              clear hD; intro hD
              simp only [Act.put, sqA, sqB, sqC]
              refine wpAnyK_pureD (i := 31) (d := some 44) (v := undef) (fuel := 1) rfl (by kernel_rfl) (by kernel_rfl) (fun _ _ _ h => h) hD hS_6_23 (.inr ⟨by kernel_rfl, rfl⟩) ?_
              clear hD; intro hD
              simp only [Act.put, sqA, sqB, sqC]
              refine wpAnyK_pureD (i := 32) (d := some 45) (v := ?v6_32b4) (fuel := 0) rfl (by kernel_rfl) (by kernel_rfl) (fun _ _ _ h => h) hD hS_6_23 (.inl ⟨by kernel_rfl, ?y6_32b4⟩) ?n6_32b4
              case y6_32b4 => intro w' _; go_simp; with_reducible rfl
              clear hD; intro hD
              simp only [Act.put, sqA, sqB, sqC]
              refine wpAnyK_done (by kernel_rfl) ?_ 0
              clear hD d0 d1 d2 d3
              have HB9 := Lib.hid (HB2.out.trans (((Below.refl w2.heap.size w2).drew.trans hS_6_23).mono HB2.out.size))
              go_wp2
              go_ret
              exact ⟨rfl, HB9.out⟩
            | false =>
              cases b3 with
              | true =>
                go_enter Tryz.func28, Tryz.ntmps28
                have hx0 := Bx4.new w (.string M) (.string O) (.string G) (.string H) 26
                have hb0 := (Below.refl w.heap.size w).alloc (Nat.le_refl _) (.cells #[.string M, .string O, .string G, .string H] 26)
                obtain ⟨W0, hW0⟩ : ∃ W, w.alloc (.cells #[.string M, .string O, .string G, .string H] 26) = W := ⟨_, rfl⟩
                rw [hW0] at hx0 hb0
                have HX0 := Lib.hid hx0
                have HB0 := Lib.hid hb0
                obtain ⟨c0, c1, c2, c3⟩ := hx0.cells
                clear hx0 hb0
                go_wp2_with fail
                try rw [hW0]
                clear hW0
                refine (HF.out _).mono ?_
                rintro ev w1 ⟨rfl, hb⟩
                have hx := HX0.out.next hb
                have HX1 := Lib.hid hx
                have HB1 := Lib.hid (HB0.out.trans (hb.mono HB0.out.size))
                clear hb c0 c1 c2 c3
                obtain ⟨c0, c1, c2, c3⟩ := hx.cells
                clear hx
                go_wp2_with fail
                refine (HCK.out _).mono ?_
                rintro ev w2 ⟨rfl, hb⟩
                have hx := HX1.out.next hb
                have HX2 := Lib.hid hx
                have HB2 := Lib.hid (HB1.out.trans (hb.mono HB1.out.size))
                clear hb c0 c1 c2 c3
                obtain ⟨c0, c1, c2, c3⟩ := hx.cells
                clear hx
                go_wp2
                have d0 : w2.drew.cell? ⟨w.heap.size, 0, none⟩ = some (.string M) := c0
                have d1 : w2.drew.cell? ⟨w.heap.size, 1, none⟩ = some (.string O) := c1
                have d2 : w2.drew.cell? ⟨w.heap.size, 2, none⟩ = some (.string G) := c2
                have d3 : w2.drew.cell? ⟨w.heap.size, 3, none⟩ = some (.string H) := c3
                clear c0 c1 c2 c3
                refine wp_region_K 33 (Below (w2.drew).heap.size (w2.drew)) (by kernel_rfl) ?_
                intro hD
                refine wpAnyK_pureD (i := 0) (d := some 13) (v := ?v6_0b5) (fuel := 32) rfl (by kernel_rfl) (by kernel_rfl) (fun _ _ _ h => h) hD (Below.refl _ _) (.inl ⟨by kernel_rfl, ?y6_0b5⟩) ?n6_0b5
                case y6_0b5 => intro w' _; go_simp; with_reducible rfl
                clear hD; intro hD
                simp only [Act.put, sqA, sqB, sqC]
                refine wpAnyK_takeSD (i := 1) (d := some 14) (v := ?v6_1b5) (fuel := 31) rfl (by kernel_rfl) (by kernel_rfl) (by kernel_rfl) (fun _ _ _ h => h) hD (Below.refl _ _) (.inl ⟨by kernel_rfl, ?y6_1b5⟩) ?n6_1b5
                case y6_1b5 => intro w' hS'; have e0 := cell_kept hS' (Nat.le_refl _) d0; have e1 := cell_kept hS' (Nat.le_refl _) d1; have e2 := cell_kept hS' (Nat.le_refl _) d2; have e3 := cell_kept hS' (Nat.le_refl _) d3; go_simp; with_reducible rfl
                clear hD; intro hD
                simp only [Act.put, sqA, sqB, sqC]
                refine wpAnyK_pureD (i := 2) (d := some 15) (v := ?v6_2b5) (fuel := 30) rfl (by kernel_rfl) (by kernel_rfl) (fun _ _ _ h => h) hD (Below.refl _ _) (.inl ⟨by kernel_rfl, ?y6_2b5⟩) ?n6_2b5
                case y6_2b5 => intro w' _; go_simp; with_reducible rfl
                clear hD; intro hD
                simp only [Act.put, sqA, sqB, sqC]
                refine wpAnyK_takeSD (i := 3) (d := some 16) (v := ?v6_3b5) (fuel := 29) rfl (by kernel_rfl) (by kernel_rfl) (by kernel_rfl) (fun _ _ _ h => h) hD (Below.refl _ _) (.inl ⟨by kernel_rfl, ?y6_3b5⟩) ?n6_3b5
                case y6_3b5 => intro w' hS'; have e0 := cell_kept hS' (Nat.le_refl _) d0; have e1 := cell_kept hS' (Nat.le_refl _) d1; have e2 := cell_kept hS' (Nat.le_refl _) d2; have e3 := cell_kept hS' (Nat.le_refl _) d3; go_simp; with_reducible rfl
                clear hD; intro hD
                simp only [Act.put, sqA, sqB, sqC]
                refine wpAnyK_one (i := 4) (fuel := 28) (by kernel_rfl) rfl hD ?_
                clear hD; intro K4 hK4
                go_wp2_with fail
                refine (HHG.out _).mono ?_
                rintro ev v4 ⟨rfl, hb⟩
                have HB4 := Lib.hid hb
                clear hb
                go_wp2
                refine hK4 _ _ (by exact HB4.out) ?_; clear hK4; intro hS_6_4 hD
                refine wpAnyK_pureD (i := 5) (d := some 18) (v := ?v6_5b5) (fuel := 27) rfl (by kernel_rfl) (by kernel_rfl) (fun _ _ _ h => h) hD hS_6_4 (.inl ⟨by kernel_rfl, ?y6_5b5⟩) ?n6_5b5
                case y6_5b5 => intro w' _; go_simp; with_reducible rfl
                clear hD; intro hD
                simp only [Act.put, sqA, sqB, sqC]
                refine wpAnyK_pureD (i := 6) (d := some 19) (v := ?v6_6b5) (fuel := 26) rfl (by kernel_rfl) (by kernel_rfl) (fun _ _ _ h => h) hD hS_6_4 (.inl ⟨by kernel_rfl, ?y6_6b5⟩) ?n6_6b5
                case y6_6b5 => intro w' _; go_simp; with_reducible rfl
                clear hD; intro hD
                simp only [Act.put, sqA, sqB, sqC]
                refine wpAnyK_pureD (i := 7) (d := some 20) (v := ?v6_7b5) (fuel := 25) rfl (by kernel_rfl) (by kernel_rfl) (fun _ _ _ h => h) hD hS_6_4 (.inl ⟨by kernel_rfl, ?y6_7b5⟩) ?n6_7b5
                case y6_7b5 => intro w' _; go_simp; with_reducible rfl
                clear hD; intro hD
                simp only [Act.put, sqA, sqB, sqC]
                refine wpAnyK_takeSD (i := 8) (d := some 21) (v := ?v6_8b5) (fuel := 24) rfl (by kernel_rfl) (by kernel_rfl) (by kernel_rfl) (fun _ _ _ h => h) hD hS_6_4 (.inl ⟨by kernel_rfl, ?y6_8b5⟩) ?n6_8b5
                case y6_8b5 => intro w' hS'; have e0 := cell_kept hS' (Nat.le_refl _) d0; have e1 := cell_kept hS' (Nat.le_refl _) d1; have e2 := cell_kept hS' (Nat.le_refl _) d2; have e3 := cell_kept hS' (Nat.le_refl _) d3; go_simp; with_reducible rfl
                clear hD; intro hD
                simp only [Act.put, sqA, sqB, sqC]
                refine wpAnyK_pureD (i := 9) (d := some 22) (v := ?v6_9b5) (fuel := 23) rfl (by kernel_rfl) (by kernel_rfl) (fun _ _ _ h => h) hD hS_6_4 (.inl ⟨by kernel_rfl, ?y6_9b5⟩) ?n6_9b5
                case y6_9b5 => intro w' _; go_simp; with_reducible rfl
                clear hD; intro hD
                simp only [Act.put, sqA, sqB, sqC]
                refine wpAnyK_takeSD (i := 10) (d := some 23) (v := ?v6_10b5) (fuel := 22) rfl (by kernel_rfl) (by kernel_rfl) (by kernel_rfl) (fun _ _ _ h => h) hD hS_6_4 (.inl ⟨by kernel_rfl, ?y6_10b5⟩) ?n6_10b5
                case y6_10b5 => intro w' hS'; have e0 := cell_kept hS' (Nat.le_refl _) d0; have e1 := cell_kept hS' (Nat.le_refl _) d1; have e2 := cell_kept hS' (Nat.le_refl _) d2; have e3 := cell_kept hS' (Nat.le_refl _) d3; go_simp; with_reducible rfl
                clear hD; intro hD
                simp only [Act.put, sqA, sqB, sqC]
                refine wpAnyK_one (i := 11) (fuel := 21) (by kernel_rfl) rfl hD ?_
                clear hD; intro K11 hK11
                go_wp2_with fail
                refine (HHH.out _).mono ?_
                rintro ev v11 ⟨rfl, hb⟩
                have HB11 := Lib.hid hb
                clear hb
                go_wp2
                refine hK11 _ _ (by exact Below.trans hS_6_4 (Below.mono HB11.out (Below.size hS_6_4))) ?_; clear hK11; intro hS_6_11 hD
                refine wpAnyK_pureD (i := 12) (d := some 25) (v := ?v6_12b5) (fuel := 20) rfl (by kernel_rfl) (by kernel_rfl) (fun _ _ _ h => h) hD hS_6_11 (.inl ⟨by kernel_rfl, ?y6_12b5⟩) ?n6_12b5
                case y6_12b5 => intro w' _; go_simp; with_reducible rfl
                clear hD; intro hD
                simp only [Act.put, sqA, sqB, sqC]
                refine wpAnyK_pureD (i := 13) (d := some 26) (v := ?v6_13b5) (fuel := 19) rfl (by kernel_rfl) (by kernel_rfl) (fun _ _ _ h => h) hD hS_6_11 (.inl ⟨by kernel_rfl, ?y6_13b5⟩) ?n6_13b5
                case y6_13b5 => intro w' _; go_simp; with_reducible rfl
                clear hD; intro hD
                simp only [Act.put, sqA, sqB, sqC]
                refine wpAnyK_pureD (i := 14) (d := some 27) (v := ?v6_14b5) (fuel := 18) rfl (by kernel_rfl) (by kernel_rfl) (fun _ _ _ h => h) hD hS_6_11 (.inl ⟨by kernel_rfl, ?y6_14b5⟩) ?n6_14b5
                case y6_14b5 => intro w' _; go_simp; with_reducible rfl
                clear hD; intro hD
                simp only [Act.put, sqA, sqB, sqC]
                refine wpAnyK_pureD (i := 15) (d := some 28) (v := ?v6_15b5) (fuel := 17) rfl (by kernel_rfl) (by kernel_rfl) (fun _ _ _ h => h) hD hS_6_11 (.inl ⟨by kernel_rfl, ?y6_15b5⟩) ?n6_15b5
                case y6_15b5 => intro w' _; go_simp; with_reducible rfl
                clear hD; intro hD
                simp only [Act.put, sqA, sqB, sqC]
                refine wpAnyK_takeSD (i := 16) (d := some 29) (v := ?v6_16b5) (fuel := 16) rfl (by kernel_rfl) (by kernel_rfl) (by kernel_rfl) (fun _ _ _ h => h) hD hS_6_11 (.inl ⟨by kernel_rfl, ?y6_16b5⟩) ?n6_16b5
                case y6_16b5 => intro w' hS'; have e0 := cell_kept hS' (Nat.le_refl _) d0; have e1 := cell_kept hS' (Nat.le_refl _) d1; have e2 := cell_kept hS' (Nat.le_refl _) d2; have e3 := cell_kept hS' (Nat.le_refl _) d3; go_simp; with_reducible rfl
                clear hD; intro hD
                simp only [Act.put, sqA, sqB, sqC]
                refine wpAnyK_one (i := 17) (fuel := 15) (by kernel_rfl) rfl hD ?_
                clear hD; intro K17 hK17
                go_wp2_with fail
                refine (HO1.out _).mono ?_
                rintro ev v17 ⟨rfl, hb⟩
                have HB17 := Lib.hid hb
                clear hb
                go_wp2
                refine hK17 _ _ (by exact Below.trans hS_6_11 (Below.mono HB17.out (Below.size hS_6_11))) ?_; clear hK17; intro hS_6_17 hD
                refine wpAnyK_pureD (i := 18) (d := some 31) (v := ?v6_18b5) (fuel := 14) rfl (by kernel_rfl) (by kernel_rfl) (fun _ _ _ h => h) hD hS_6_17 (.inl ⟨by kernel_rfl, ?y6_18b5⟩) ?n6_18b5
                case y6_18b5 => intro w' _; go_simp; with_reducible rfl
                clear hD; intro hD
                simp only [Act.put, sqA, sqB, sqC]
                refine wpAnyK_pureD (i := 19) (d := some 32) (v := ?v6_19b5) (fuel := 13) rfl (by kernel_rfl) (by kernel_rfl) (fun _ _ _ h => h) hD hS_6_17 (.inl ⟨by kernel_rfl, ?y6_19b5⟩) ?n6_19b5
                case y6_19b5 => intro w' _; go_simp; with_reducible rfl
                clear hD; intro hD
                simp only [Act.put, sqA, sqB, sqC]
                refine wpAnyK_pureD (i := 20) (d := some 33) (v := ?v6_20b5) (fuel := 12) rfl (by kernel_rfl) (by kernel_rfl) (fun _ _ _ h => h) hD hS_6_17 (.inl ⟨by kernel_rfl, ?y6_20b5⟩) ?n6_20b5
                case y6_20b5 => intro w' _; go_simp; with_reducible rfl
                clear hD; intro hD
                simp only [Act.put, sqA, sqB, sqC]
                refine wpAnyK_pureD (i := 21) (d := some 34) (v := ?v6_21b5) (fuel := 11) rfl (by kernel_rfl) (by kernel_rfl) (fun _ _ _ h => h) hD hS_6_17 (.inl ⟨by kernel_rfl, ?y6_21b5⟩) ?n6_21b5
                case y6_21b5 => intro w' _; go_simp; with_reducible rfl
                clear hD; intro hD
                simp only [Act.put, sqA, sqB, sqC]
                refine wpAnyK_takeSD (i := 22) (d := some 35) (v := ?v6_22b5) (fuel := 10) rfl (by kernel_rfl) (by kernel_rfl) (by kernel_rfl) (fun _ _ _ h => h) hD hS_6_17 (.inl ⟨by kernel_rfl, ?y6_22b5⟩) ?n6_22b5
                case y6_22b5 => intro w' hS'; have e0 := cell_kept hS' (Nat.le_refl _) d0; have e1 := cell_kept hS' (Nat.le_refl _) d1; have e2 := cell_kept hS' (Nat.le_refl _) d2; have e3 := cell_kept hS' (Nat.le_refl _) d3; go_simp; with_reducible rfl
                clear hD; intro hD
                simp only [Act.put, sqA, sqB, sqC]
                refine wpAnyK_one (i := 23) (fuel := 9) (by kernel_rfl) rfl hD ?_
                clear hD; intro K23 hK23
                go_wp2_with fail
                refine (HO1.out _).mono ?_
                rintro ev v23 ⟨rfl, hb⟩
                have HB23 := Lib.hid hb
                clear hb
                go_wp2
                refine hK23 _ _ (by exact Below.trans hS_6_17 (Below.mono HB23.out (Below.size hS_6_17))) ?_; clear hK23; intro hS_6_23 hD
                refine wpAnyK_pureD (i := 24) (d := some 37) (v := ?v6_24b5) (fuel := 8) rfl (by kernel_rfl) (by kernel_rfl) (fun _ _ _ h => h) hD hS_6_23 (.inl ⟨by kernel_rfl, ?y6_24b5⟩) ?n6_24b5
                case y6_24b5 => intro w' _; go_simp; with_reducible rfl
                clear hD; intro hD
                simp only [Act.put, sqA, sqB, sqC]
                refine wpAnyK_pureD (i := 25) (d := some 38) (v := ?v6_25b5) (fuel := 7) rfl (by kernel_rfl) (by kernel_rfl) (fun _ _ _ h => h) hD hS_6_23 (.inl ⟨by kernel_rfl, ?y6_25b5⟩) ?n6_25b5
                case y6_25b5 => intro w' _; go_simp; with_reducible rfl
                clear hD; intro hD
                simp only [Act.put, sqA, sqB, sqC]
                refine wpAnyK_pureD (i := 26) (d := some 39) (v := ?v6_26b5) (fuel := 6) rfl (by kernel_rfl) (by kernel_rfl) (fun _ _ _ h => h) hD hS_6_23 (.inl ⟨by kernel_rfl, ?y6_26b5⟩) ?n6_26b5
                case y6_26b5 => intro w' _; go_simp; with_reducible rfl
                clear hD; intro hD
                simp only [Act.put, sqA, sqB, sqC]
                refine wpAnyK_pureD (i := 27) (d := some 40) (v := ?v6_27b5) (fuel := 5) rfl (by kernel_rfl) (by kernel_rfl) (fun _ _ _ h => h) hD hS_6_23 (.inl ⟨by kernel_rfl, ?y6_27b5⟩) ?n6_27b5
                case y6_27b5 => intro w' _; go_simp; with_reducible rfl
                clear hD; intro hD
                simp only [Act.put, sqA, sqB, sqC]
                refine wpAnyK_takeSD (i := 28) (d := some 41) (v := ?v6_28b5) (fuel := 4) rfl (by kernel_rfl) (by kernel_rfl) (by kernel_rfl) (fun _ _ _ h => h) hD hS_6_23 (.inl ⟨by kernel_rfl, ?y6_28b5⟩) ?n6_28b5
                case y6_28b5 => intro w' hS'; have e0 := cell_kept hS' (Nat.le_refl _) d0; have e1 := cell_kept hS' (Nat.le_refl _) d1; have e2 := cell_kept hS' (Nat.le_refl _) d2; have e3 := cell_kept hS' (Nat.le_refl _) d3; go_simp; with_reducible rfl
                clear hD; intro hD
                simp only [Act.put, sqA, sqB, sqC]
                refine wpAnyK_pureD (i := 29) (d := some 42) (v := ?v6_29b5) (fuel := 3) rfl (by kernel_rfl) (by kernel_rfl) (fun _ _ _ h => h) hD hS_6_23 (.inl ⟨by kernel_rfl, ?y6_29b5⟩) ?n6_29b5
                case y6_29b5 => intro w' _; go_simp; with_reducible rfl
                clear hD; intro hD
                simp only [Act.put, sqA, sqB, sqC]
                refine wpAnyK_takeSD (i := 30) (d := some 43) (v := ?v6_30b5) (fuel := 2) rfl (by kernel_rfl) (by kernel_rfl) (by kernel_rfl) (fun _ _ _ h => h) hD hS_6_23 (.inl ⟨by kernel_rfl, ?y6_30b5⟩) ?n6_30b5
                case y6_30b5 => intro w' hS'; have e0 := cell_kept hS' (Nat.le_refl _) d0; have e1 := cell_kept hS' (Nat.le_refl _) d1; have e2 := cell_kept hS' (Nat.le_refl _) d2; have e3 := cell_kept hS' (Nat.le_refl _) d3; go_simp; with_reducible rfl
                clear hD; intro hD
                simp only [Act.put, sqA, sqB, sqC]
                refine wpAnyK_pureD (i := 31) (d := some 44) (v := ?v6_31b5) (fuel := 1) rfl (by kernel_rfl) (by kernel_rfl) (fun _ _ _ h => h) hD hS_6_23 (.inl ⟨by kernel_rfl, ?y6_31b5⟩) ?n6_31b5
                case y6_31b5 => intro w' _; go_simp; with_reducible rfl
                clear hD; intro hD
                simp only [Act.put, sqA, sqB, sqC]
                refine wpAnyK_pureD (i := 32) (d := some 45) (v := ?v6_32b5) (fuel := 0) rfl (by kernel_rfl) (by kernel_rfl) (fun _ _ _ h => h) hD hS_6_23 (.inl ⟨by kernel_rfl, ?y6_32b5⟩) ?n6_32b5
                case y6_32b5 => intro w' _; go_simp; with_reducible rfl
                clear hD; intro hD
                simp only [Act.put, sqA, sqB, sqC]
                refine wpAnyK_done (by kernel_rfl) ?_ 0
                clear hD d0 d1 d2 d3
                have HB9 := Lib.hid (HB2.out.trans (((Below.refl w2.heap.size w2).drew.trans hS_6_23).mono HB2.out.size))
                go_wp2
                go_ret
                exact ⟨rfl, HB9.out⟩
              | false =>
                go_enter Tryz.func28, Tryz.ntmps28
                have hx0 := Bx4.new w (.string M) (.string O) (.string G) (.string H) 26
                have hb0 := (Below.refl w.heap.size w).alloc (Nat.le_refl _) (.cells #[.string M, .string O, .string G, .string H] 26)
                obtain ⟨W0, hW0⟩ : ∃ W, w.alloc (.cells #[.string M, .string O, .string G, .string H] 26) = W := ⟨_, rfl⟩
                rw [hW0] at hx0 hb0
                have HX0 := Lib.hid hx0
                have HB0 := Lib.hid hb0
                obtain ⟨c0, c1, c2, c3⟩ := hx0.cells
                clear hx0 hb0
                go_wp2_with fail
                try rw [hW0]
                clear hW0
                refine (HF.out _).mono ?_
                rintro ev w1 ⟨rfl, hb⟩
                have hx := HX0.out.next hb
                have HX1 := Lib.hid hx
                have HB1 := Lib.hid (HB0.out.trans (hb.mono HB0.out.size))
                clear hb c0 c1 c2 c3
                obtain ⟨c0, c1, c2, c3⟩ := hx.cells
                clear hx
                go_wp2_with fail
                refine (HCK.out _).mono ?_
                rintro ev w2 ⟨rfl, hb⟩
                have hx := HX1.out.next hb
                have HX2 := Lib.hid hx
                have HB2 := Lib.hid (HB1.out.trans (hb.mono HB1.out.size))
                clear hb c0 c1 c2 c3
                obtain ⟨c0, c1, c2, c3⟩ := hx.cells
                clear hx
                go_wp2
                have d0 : w2.drew.cell? ⟨w.heap.size, 0, none⟩ = some (.string M) := c0
                have d1 : w2.drew.cell? ⟨w.heap.size, 1, none⟩ = some (.string O) := c1
                have d2 : w2.drew.cell? ⟨w.heap.size, 2, none⟩ = some (.string G) := c2
                have d3 : w2.drew.cell? ⟨w.heap.size, 3, none⟩ = some (.string H) := c3
                clear c0 c1 c2 c3
                refine wp_region_K 33 (Below (w2.drew).heap.size (w2.drew)) (by kernel_rfl) ?_
                intro hD
                refine wpAnyK_pureD (i := 0) (d := some 13) (v := ?v6_0b6) (fuel := 32) rfl (by kernel_rfl) (by kernel_rfl) (fun _ _ _ h => h) hD (Below.refl _ _) (.inl ⟨by kernel_rfl, ?y6_0b6⟩) ?n6_0b6
                case y6_0b6 => intro w' _; go_simp; with_reducible rfl
                clear hD; intro hD
                simp only [Act.put, sqA, sqB, sqC]
                refine wpAnyK_takeSD (i := 1) (d := some 14) (v := ?v6_1b6) (fuel := 31) rfl (by kernel_rfl) (by kernel_rfl) (by kernel_rfl) (fun _ _ _ h => h) hD (Below.refl _ _) (.inl ⟨by kernel_rfl, ?y6_1b6⟩) ?n6_1b6
                case y6_1b6 => intro w' hS'; have e0 := cell_kept hS' (Nat.le_refl _) d0; have e1 := cell_kept hS' (Nat.le_refl _) d1; have e2 := cell_kept hS' (Nat.le_refl _) d2; have e3 := cell_kept hS' (Nat.le_refl _) d3; go_simp; with_reducible rfl
                clear hD; intro hD
                simp only [Act.put, sqA, sqB, sqC]
                refine wpAnyK_pureD (i := 2) (d := some 15) (v := ?v6_2b6) (fuel := 30) rfl (by kernel_rfl) (by kernel_rfl) (fun _ _ _ h => h) hD (Below.refl _ _) (.inl ⟨by kernel_rfl, ?y6_2b6⟩) ?n6_2b6
                case y6_2b6 => intro w' _; go_simp; with_reducible rfl
                clear hD; intro hD
                simp only [Act.put, sqA, sqB, sqC]
                refine wpAnyK_takeSD (i := 3) (d := some 16) (v := ?v6_3b6) (fuel := 29) rfl (by kernel_rfl) (by kernel_rfl) (by kernel_rfl) (fun _ _ _ h => h) hD (Below.refl _ _) (.inl ⟨by kernel_rfl, ?y6_3b6⟩) ?n6_3b6
                case y6_3b6 => intro w' hS'; have e0 := cell_kept hS' (Nat.le_refl _) d0; have e1 := cell_kept hS' (Nat.le_refl _) d1; have e2 := cell_kept hS' (Nat.le_refl _) d2; have e3 := cell_kept hS' (Nat.le_refl _) d3; go_simp; with_reducible rfl
                clear hD; intro hD
                simp only [Act.put, sqA, sqB, sqC]
                refine wpAnyK_one (i := 4) (fuel := 28) (by kernel_rfl) rfl hD ?_
                clear hD; intro K4 hK4
                go_wp2_with fail
                refine (HHG.out _).mono ?_
                rintro ev v4 ⟨rfl, hb⟩
                have HB4 := Lib.hid hb
                clear hb
                go_wp2
                refine hK4 _ _ (by exact HB4.out) ?_; clear hK4; intro hS_6_4 hD
                refine wpAnyK_pureD (i := 5) (d := some 18) (v := ?v6_5b6) (fuel := 27) rfl (by kernel_rfl) (by kernel_rfl) (fun _ _ _ h => h) hD hS_6_4 (.inl ⟨by kernel_rfl, ?y6_5b6⟩) ?n6_5b6
                case y6_5b6 => intro w' _; go_simp; with_reducible rfl
                clear hD; intro hD
                simp only [Act.put, sqA, sqB, sqC]
                refine wpAnyK_pureD (i := 6) (d := some 19) (v := ?v6_6b6) (fuel := 26) rfl (by kernel_rfl) (by kernel_rfl) (fun _ _ _ h => h) hD hS_6_4 (.inl ⟨by kernel_rfl, ?y6_6b6⟩) ?n6_6b6
                case y6_6b6 => intro w' _; go_simp; with_reducible rfl
                clear hD; intro hD
                simp only [Act.put, sqA, sqB, sqC]
                refine wpAnyK_pureD (i := 7) (d := some 20) (v := ?v6_7b6) (fuel := 25) rfl (by kernel_rfl) (by kernel_rfl) (fun _ _ _ h => h) hD hS_6_4 (.inl ⟨by kernel_rfl, ?y6_7b6⟩) ?n6_7b6
                case y6_7b6 => intro w' _; go_simp; with_reducible rfl
                clear hD; intro hD
                simp only [Act.put, sqA, sqB, sqC]
                refine wpAnyK_takeSD (i := 8) (d := some 21) (v := ?v6_8b6) (fuel := 24) rfl (by kernel_rfl) (by kernel_rfl) (by kernel_rfl) (fun _ _ _ h => h) hD hS_6_4 (.inl ⟨by kernel_rfl, ?y6_8b6⟩) ?n6_8b6
                case y6_8b6 => intro w' hS'; have e0 := cell_kept hS' (Nat.le_refl _) d0; have e1 := cell_kept hS' (Nat.le_refl _) d1; have e2 := cell_kept hS' (Nat.le_refl _) d2; have e3 := cell_kept hS' (Nat.le_refl _) d3; go_simp; with_reducible rfl
                clear hD; intro hD
                simp only [Act.put, sqA, sqB, sqC]
                refine wpAnyK_pureD (i := 9) (d := some 22) (v := ?v6_9b6) (fuel := 23) rfl (by kernel_rfl) (by kernel_rfl) (fun _ _ _ h => h) hD hS_6_4 (.inl ⟨by kernel_rfl, ?y6_9b6⟩) ?n6_9b6
                case y6_9b6 => intro w' _; go_simp; with_reducible rfl
                clear hD; intro hD
                simp only [Act.put, sqA, sqB, sqC]
                refine wpAnyK_takeSD (i := 10) (d := some 23) (v := ?v6_10b6) (fuel := 22) rfl (by kernel_rfl) (by kernel_rfl) (by kernel_rfl) (fun _ _ _ h => h) hD hS_6_4 (.inl ⟨by kernel_rfl, ?y6_10b6⟩) ?n6_10b6
                case y6_10b6 => intro w' hS'; have e0 := cell_kept hS' (Nat.le_refl _) d0; have e1 := cell_kept hS' (Nat.le_refl _) d1; have e2 := cell_kept hS' (Nat.le_refl _) d2; have e3 := cell_kept hS' (Nat.le_refl _) d3; go_simp; with_reducible rfl
                clear hD; intro hD
                simp only [Act.put, sqA, sqB, sqC]
                refine wpAnyK_one (i := 11) (fuel := 21) (by kernel_rfl) rfl hD ?_
                clear hD; intro K11 hK11
                go_wp2_with fail
                refine (HHH.out _).mono ?_
                rintro ev v11 ⟨rfl, hb⟩
                have HB11 := Lib.hid hb
                clear hb
                go_wp2
                refine hK11 _ _ (by exact Below.trans hS_6_4 (Below.mono HB11.out (Below.size hS_6_4))) ?_; clear hK11; intro hS_6_11 hD
                refine wpAnyK_pureD (i := 12) (d := some 25) (v := ?v6_12b6) (fuel := 20) rfl (by kernel_rfl) (by kernel_rfl) (fun _ _ _ h => h) hD hS_6_11 (.inl ⟨by kernel_rfl, ?y6_12b6⟩) ?n6_12b6
                case y6_12b6 => intro w' _; go_simp; with_reducible rfl
                clear hD; intro hD
                simp only [Act.put, sqA, sqB, sqC]
                refine wpAnyK_pureD (i := 13) (d := some 26) (v := ?v6_13b6) (fuel := 19) rfl (by kernel_rfl) (by kernel_rfl) (fun _ _ _ h => h) hD hS_6_11 (.inl ⟨by kernel_rfl, ?y6_13b6⟩) ?n6_13b6
                case y6_13b6 => intro w' _; go_simp; with_reducible rfl
                clear hD; intro hD
                simp only [Act.put, sqA, sqB, sqC]
                refine wpAnyK_pureD (i := 14) (d := some 27) (v := ?v6_14b6) (fuel := 18) rfl (by kernel_rfl) (by kernel_rfl) (fun _ _ _ h => h) hD hS_6_11 (.inl ⟨by kernel_rfl, ?y6_14b6⟩) ?n6_14b6
                case y6_14b6 => intro w' _; go_simp; with_reducible rfl
                clear hD; intro hD
                simp only [Act.put, sqA, sqB, sqC]
                refine wpAnyK_pureD (i := 15) (d := some 28) (v := ?v6_15b6) (fuel := 17) rfl (by kernel_rfl) (by kernel_rfl) (fun _ _ _ h => h) hD hS_6_11 (.inl ⟨by kernel_rfl, ?y6_15b6⟩) ?n6_15b6
                case y6_15b6 => intro w' _; go_simp; with_reducible rfl
                clear hD; intro hD
                simp only [Act.put, sqA, sqB, sqC]
                refine wpAnyK_takeSD (i := 16) (d := some 29) (v := ?v6_16b6) (fuel := 16) rfl (by kernel_rfl) (by kernel_rfl) (by kernel_rfl) (fun _ _ _ h => h) hD hS_6_11 (.inl ⟨by kernel_rfl, ?y6_16b6⟩) ?n6_16b6
                case y6_16b6 => intro w' hS'; have e0 := cell_kept hS' (Nat.le_refl _) d0; have e1 := cell_kept hS' (Nat.le_refl _) d1; have e2 := cell_kept hS' (Nat.le_refl _) d2; have e3 := cell_kept hS' (Nat.le_refl _) d3; go_simp; with_reducible rfl
                clear hD; intro hD
                simp only [Act.put, sqA, sqB, sqC]
                refine wpAnyK_one (i := 17) (fuel := 15) (by kernel_rfl) rfl hD ?_
                clear hD; intro K17 hK17
                go_wp2_with fail
                refine (HO1.out _).mono ?_
                rintro ev v17 ⟨rfl, hb⟩
                have HB17 := Lib.hid hb
                clear hb
                go_wp2
                refine hK17 _ _ (by exact Below.trans hS_6_11 (Below.mono HB17.out (Below.size hS_6_11))) ?_; clear hK17; intro hS_6_17 hD
                refine wpAnyK_pureD (i := 18) (d := some 31) (v := ?v6_18b6) (fuel := 14) rfl (by kernel_rfl) (by kernel_rfl) (fun _ _ _ h => h) hD hS_6_17 (.inl ⟨by kernel_rfl, ?y6_18b6⟩) ?n6_18b6
                case y6_18b6 => intro w' _; go_simp; with_reducible rfl
                clear hD; intro hD
                simp only [Act.put, sqA, sqB, sqC]
                refine wpAnyK_pureD (i := 19) (d := some 32) (v := ?v6_19b6) (fuel := 13) rfl (by kernel_rfl) (by kernel_rfl) (fun _ _ _ h => h) hD hS_6_17 (.inl ⟨by kernel_rfl, ?y6_19b6⟩) ?n6_19b6
                case y6_19b6 => intro w' _; go_simp; with_reducible rfl
                clear hD; intro hD
                simp only [Act.put, sqA, sqB, sqC]
                refine wpAnyK_pureD (i := 20) (d := some 33) (v := ?v6_20b6) (fuel := 12) rfl (by kernel_rfl) (by kernel_rfl) (fun _ _ _ h => h) hD hS_6_17 (.inl ⟨by kernel_rfl, ?y6_20b6⟩) ?n6_20b6
                case y6_20b6 => intro w' _; go_simp; with_reducible rfl
                clear hD; intro hD
                simp only [Act.put, sqA, sqB, sqC]
                refine wpAnyK_pureD (i := 21) (d := some 34) (v := ?v6_21b6) (fuel := 11) rfl (by kernel_rfl) (by kernel_rfl) (fun _ _ _ h => h) hD hS_6_17 (.inl ⟨by kernel_rfl, ?y6_21b6⟩) ?n6_21b6
                case y6_21b6 => intro w' _; go_simp; with_reducible rfl
                clear hD; intro hD
                simp only [Act.put, sqA, sqB, sqC]
                refine wpAnyK_takeSD (i := 22) (d := some 35) (v := ?v6_22b6) (fuel := 10) rfl (by kernel_rfl) (by kernel_rfl) (by kernel_rfl) (fun _ _ _ h => h) hD hS_6_17 (.inl ⟨by kernel_rfl, ?y6_22b6⟩) ?n6_22b6
                case y6_22b6 => intro w' hS'; have e0 := cell_kept hS' (Nat.le_refl _) d0; have e1 := cell_kept hS' (Nat.le_refl _) d1; have e2 := cell_kept hS' (Nat.le_refl _) d2; have e3 := cell_kept hS' (Nat.le_refl _) d3; go_simp; with_reducible rfl
                clear hD; intro hD
                simp only [Act.put, sqA, sqB, sqC]
                refine wpAnyK_one (i := 23) (fuel := 9) (by kernel_rfl) rfl hD ?_
                clear hD; intro K23 hK23
                go_wp2_with fail
                refine (HO1.out _).mono ?_
                rintro ev v23 ⟨rfl, hb⟩
                have HB23 := Lib.hid hb
                clear hb
                go_wp2
                refine hK23 _ _ (by exact Below.trans hS_6_17 (Below.mono HB23.out (Below.size hS_6_17))) ?_; clear hK23; intro hS_6_23 hD
                refine wpAnyK_pureD (i := 24) (d := some 37) (v := ?v6_24b6) (fuel := 8) rfl (by kernel_rfl) (by kernel_rfl) (fun _ _ _ h => h) hD hS_6_23 (.inl ⟨by kernel_rfl, ?y6_24b6⟩) ?n6_24b6
                case y6_24b6 => intro w' _; go_simp; with_reducible rfl
                clear hD; intro hD
                simp only [Act.put, sqA, sqB, sqC]
                refine wpAnyK_pureD (i := 25) (d := some 38) (v := ?v6_25b6) (fuel := 7) rfl (by kernel_rfl) (by kernel_rfl) (fun _ _ _ h => h) hD hS_6_23 (.inl ⟨by kernel_rfl, ?y6_25b6⟩) ?n6_25b6
                case y6_25b6 => intro w' _; go_simp; with_reducible rfl
                clear hD; intro hD
                simp only [Act.put, sqA, sqB, sqC]
                refine wpAnyK_pureD (i := 26) (d := some 39) (v := ?v6_26b6) (fuel := 6) rfl (by kernel_rfl) (by kernel_rfl) (fun _ _ _ h => h) hD hS_6_23 (.inl ⟨by kernel_rfl, ?y6_26b6⟩) ?n6_26b6
                case y6_26b6 => intro w' _; go_simp; with_reducible rfl
                clear hD; intro hD
                simp only [Act.put, sqA, sqB, sqC]
                refine wpAnyK_pureD (i := 27) (d := some 40) (v := ?v6_27b6) (fuel := 5) rfl (by kernel_rfl) (by kernel_rfl) (fun _ _ _ h => h) hD hS_6_23 (.inl ⟨by kernel_rfl, ?y6_27b6⟩) ?n6_27b6
                case y6_27b6 => intro w' _; go_simp; with_reducible rfl
                clear hD; intro hD
                simp only [Act.put, sqA, sqB, sqC]
                refine wpAnyK_takeSD (i := 28) (d := some 41) (v := ?v6_28b6) (fuel := 4) rfl (by kernel_rfl) (by kernel_rfl) (by kernel_rfl) (fun _ _ _ h => h) hD hS_6_23 (.inl ⟨by kernel_rfl, ?y6_28b6⟩) ?n6_28b6
                case y6_28b6 => intro w' hS'; have e0 := cell_kept hS' (Nat.le_refl _) d0; have e1 := cell_kept hS' (Nat.le_refl _) d1; have e2 := cell_kept hS' (Nat.le_refl _) d2; have e3 := cell_kept hS' (Nat.le_refl _) d3; go_simp; with_reducible rfl
                clear hD; intro hD
                simp only [Act.put, sqA, sqB, sqC]
                refine wpAnyK_pureD (i := 29) (d := some 42) (v := ?v6_29b6) (fuel := 3) rfl (by kernel_rfl) (by kernel_rfl) (fun _ _ _ h => h) hD hS_6_23 (.inl ⟨by kernel_rfl, ?y6_29b6⟩) ?n6_29b6
                case y6_29b6 => intro w' _; go_simp; with_reducible rfl
                clear hD; intro hD
                simp only [Act.put, sqA, sqB, sqC]
                refine wpAnyK_takeSD (i := 30) (d := some 43) (v := ?v6_30b6) (fuel := 2) rfl (by kernel_rfl) (by kernel_rfl) (by kernel_rfl) (fun _ _ _ h => h) hD hS_6_23 (.inl ⟨by kernel_rfl, ?y6_30b6⟩) ?n6_30b6
                case y6_30b6 => intro w' hS'; have e0 := cell_kept hS' (Nat.le_refl _) d0; have e1 := cell_kept hS' (Nat.le_refl _) d1; have e2 := cell_kept hS' (Nat.le_refl _) d2; have e3 := cell_kept hS' (Nat.le_refl _) d3; go_simp; with_reducible rfl
                clear hD; intro hD
                simp only [Act.put, sqA, sqB, sqC]
                refine wpAnyK_pureD (i := 31) (d := some 44) (v := ?v6_31b6) (fuel := 1) rfl (by kernel_rfl) (by kernel_rfl) (fun _ _ _ h => h) hD hS_6_23 (.inl ⟨by kernel_rfl, ?y6_31b6⟩) ?n6_31b6
                case y6_31b6 => intro w' _; go_simp; with_reducible rfl
                clear hD; intro hD
                simp only [Act.put, sqA, sqB, sqC]
                refine wpAnyK_pureD (i := 32) (d := some 45) (v := ?v6_32b6) (fuel := 0) rfl (by kernel_rfl) (by kernel_rfl) (fun _ _ _ h => h) hD hS_6_23 (.inl ⟨by kernel_rfl, ?y6_32b6⟩) ?n6_32b6
                case y6_32b6 => intro w' _; go_simp; with_reducible rfl
                clear hD; intro hD
                simp only [Act.put, sqA, sqB, sqC]
                refine wpAnyK_done (by kernel_rfl) ?_ 0
                clear hD d0 d1 d2 d3
                have HB9 := Lib.hid (HB2.out.trans (((Below.refl w2.heap.size w2).drew.trans hS_6_23).mono HB2.out.size))
                go_wp2
                go_ret
                exact ⟨rfl, HB9.out⟩
    · have HR := Lib.hid (show pkC M O G H = chkK M O from by unfold pkC; rw [if_neg (by rw [hf]; decide), if_neg hck])
      rw [HR.out]
      obtain ⟨cc, hcc⟩ : ∃ cc, chkK M O = cc := ⟨_, rfl⟩
      rw [hcc] at HCK hck ⊢
      have hcb : (cc == 0) = false := by rw [beq_eq_false_iff_ne]; exact hck
      have hcb2 : (cc != 0) = true := by rw [bne, hcb]; rfl
      unfold kV gV at *
      clear hf hck hcc
      go_enter Tryz.func28, Tryz.ntmps28
      have hx0 := Bx4.new w (.string M) (.string O) (.string G) (.string H) 26
      have hb0 := (Below.refl w.heap.size w).alloc (Nat.le_refl _) (.cells #[.string M, .string O, .string G, .string H] 26)
      obtain ⟨W0, hW0⟩ : ∃ W, w.alloc (.cells #[.string M, .string O, .string G, .string H] 26) = W := ⟨_, rfl⟩
      rw [hW0] at hx0 hb0
      have HX0 := Lib.hid hx0
      have HB0 := Lib.hid hb0
      obtain ⟨c0, c1, c2, c3⟩ := hx0.cells
      clear hx0 hb0
      go_wp2_with fail
      try rw [hW0]
      clear hW0
      refine (HF.out _).mono ?_
      rintro ev w1 ⟨rfl, hb⟩
      have hx := HX0.out.next hb
      have HX1 := Lib.hid hx
      have HB1 := Lib.hid (HB0.out.trans (hb.mono HB0.out.size))
      clear hb c0 c1 c2 c3
      obtain ⟨c0, c1, c2, c3⟩ := hx.cells
      clear hx
      go_wp2_with fail
      refine (HCK.out _).mono ?_
      rintro ev w2 ⟨rfl, hb⟩
      have hx := HX1.out.next hb
      have HX2 := Lib.hid hx
      have HB2 := Lib.hid (HB1.out.trans (hb.mono HB1.out.size))
      clear hb c0 c1 c2 c3
      obtain ⟨c0, c1, c2, c3⟩ := hx.cells
      clear hx
      go_wp2
      go_ret
      exact ⟨rfl, HB2.out⟩
end Go.Proofs.YtpdejgdkpghjhaaGreatDoor
/- Walks: pedersen.Check and the reference's for orders that are too long. -/
set_option linter.unusedVariables false
set_option linter.unusedSimpArgs false
namespace Go.Proofs.YtpdejgdkpghjhaaGreatDoor
open Go.RowKit
theorem chkK_long {M O G H : ByteArray} (hf : kF M O G H = true) (hM : M.size ≤ 8) (h8 : ¬ O.size ≤ 8) : chkK M O = 13 := by
  unfold kF at hf
  simp only [Bool.and_eq_true] at hf
  have v1 := hf.1.1.1
  have v2 := hf.1.1.2
  have hm := num_small hM
  have ho : 18446744073709551616 ≤ num O := by
    rcases Nat.lt_or_ge (num O) 18446744073709551616 with h | h
    · rw [nS_num v2] at h8; exact absurd (nS_small_size h) h8
    · exact h
  unfold chkK
  rw [if_pos (by rw [v1, v2]; rfl)]
  unfold chkN
  rw [if_neg (by omega)]
  by_cases h1 : num M ≤ 1
  · rw [if_pos (.inl h1)]
  · rw [if_pos (.inr (.inr (by rw [Nat.mod_eq_of_lt (by omega)]; omega)))]
theorem ord_small {M O G H : ByteArray} (hM : M.size ≤ 8) (h : pkC M O G H = 0) : O.size ≤ 8 := by
  by_cases h8 : O.size ≤ 8
  · exact h8
  · unfold pkC at h
    cases hf : kF M O G H with
    | false => rw [if_pos hf] at h; cases h
    | true =>
      have := chkK_long hf hM h8
      rw [if_neg (by rw [hf]; decide), if_neg (by rw [this]; decide), this] at h
      cases h
set_option maxRecDepth 100000 in
set_option maxHeartbeats 2000000 in
theorem pk_CheckW (M O G H : ByteArray) (hM : M.size ≤ 8) (hO : O.size ≤ 100) (hG : G.size ≤ 1000) (hH : H.size ≤ 1000) (w : World) : Calls Tryz.prog 27 #[kV M O G H] w (Ret (.int .i64 (pkC M O G H)) w) := by
  by_cases h8 : O.size ≤ 8
  · exact pk_Check M O G H hM h8 hG hH w
  · have HF := Lib.hid (pk_formed M O G H (by omega) (by omega) hG hH)
    have HCK := Lib.hid (pw_CheckW M O hM hO)
    cases hf : kF M O G H with
    | false =>
      have HR := Lib.hid (show pkC M O G H = 3 from by unfold pkC; rw [if_pos hf])
      rw [hf] at HF
      rw [HR.out]
      unfold kV gV at *
      clear hf hM hO hG hH h8
      go_enter Tryz.func27, Tryz.ntmps27
      have hx0 := Bx4.new w (.string M) (.string O) (.string G) (.string H) 26
      have hb0 := (Below.refl w.heap.size w).alloc (Nat.le_refl _) (.cells #[.string M, .string O, .string G, .string H] 26)
      obtain ⟨W0, hW0⟩ : ∃ W, w.alloc (.cells #[.string M, .string O, .string G, .string H] 26) = W := ⟨_, rfl⟩
      rw [hW0] at hx0 hb0
      have HX0 := Lib.hid hx0
      have HB0 := Lib.hid hb0
      obtain ⟨c0, c1, c2, c3⟩ := hx0.cells
      clear hx0 hb0
      go_wp2_with fail
      try rw [hW0]
      clear hW0
      refine (HF.out _).mono ?_
      rintro ev w1 ⟨rfl, hb⟩
      have hx := HX0.out.next hb
      have HX1 := Lib.hid hx
      have HB1 := Lib.hid (HB0.out.trans (hb.mono HB0.out.size))
      clear hb c0 c1 c2 c3
      obtain ⟨c0, c1, c2, c3⟩ := hx.cells
      clear hx
      go_wp2
      go_ret
      exact ⟨rfl, HB1.out⟩
    | true =>
      have hck := chkK_long hf hM h8
      have HR := Lib.hid (show pkC M O G H = 13 from by unfold pkC; rw [if_neg (by rw [hf]; decide), if_neg (by rw [hck]; decide), hck])
      rw [hf] at HF
      rw [hck] at HCK
      rw [HR.out]
      unfold kV gV at *
      clear hf hM hO hG hH h8 hck
      go_enter Tryz.func27, Tryz.ntmps27
      have hx0 := Bx4.new w (.string M) (.string O) (.string G) (.string H) 26
      have hb0 := (Below.refl w.heap.size w).alloc (Nat.le_refl _) (.cells #[.string M, .string O, .string G, .string H] 26)
      obtain ⟨W0, hW0⟩ : ∃ W, w.alloc (.cells #[.string M, .string O, .string G, .string H] 26) = W := ⟨_, rfl⟩
      rw [hW0] at hx0 hb0
      have HX0 := Lib.hid hx0
      have HB0 := Lib.hid hb0
      obtain ⟨c0, c1, c2, c3⟩ := hx0.cells
      clear hx0 hb0
      go_wp2_with fail
      try rw [hW0]
      clear hW0
      refine (HF.out _).mono ?_
      rintro ev w1 ⟨rfl, hb⟩
      have hx := HX0.out.next hb
      have HX1 := Lib.hid hx
      have HB1 := Lib.hid (HB0.out.trans (hb.mono HB0.out.size))
      clear hb c0 c1 c2 c3
      obtain ⟨c0, c1, c2, c3⟩ := hx.cells
      clear hx
      go_wp2_with fail
      refine (HCK.out _).mono ?_
      rintro ev w2 ⟨rfl, hb⟩
      have hx := HX1.out.next hb
      have HX2 := Lib.hid hx
      have HB2 := Lib.hid (HB1.out.trans (hb.mono HB1.out.size))
      clear hb c0 c1 c2 c3
      obtain ⟨c0, c1, c2, c3⟩ := hx.cells
      clear hx
      go_wp2
      go_ret
      exact ⟨rfl, HB2.out⟩
set_option maxRecDepth 100000 in
set_option maxHeartbeats 2000000 in
theorem r14_CheckW (M O G H : ByteArray) (hM : M.size ≤ 8) (hO : O.size ≤ 100) (hG : G.size ≤ 1000) (hH : H.size ≤ 1000) (w : World) : Calls Tryz.prog 28 #[kV M O G H] w (Ret (.int .i64 (pkC M O G H)) w) := by
  by_cases h8 : O.size ≤ 8
  · exact r14_Check M O G H hM h8 hG hH w
  · have HF := Lib.hid (r14_form M O G H (by omega) (by omega) hG hH)
    have HCK := Lib.hid (r13_CheckW M O hM hO)
    cases hf : kF M O G H with
    | false =>
      have HR := Lib.hid (show pkC M O G H = 3 from by unfold pkC; rw [if_pos hf])
      rw [hf] at HF
      rw [HR.out]
      unfold kV gV at *
      clear hf hM hO hG hH h8
      go_enter Tryz.func28, Tryz.ntmps28
      have hx0 := Bx4.new w (.string M) (.string O) (.string G) (.string H) 26
      have hb0 := (Below.refl w.heap.size w).alloc (Nat.le_refl _) (.cells #[.string M, .string O, .string G, .string H] 26)
      obtain ⟨W0, hW0⟩ : ∃ W, w.alloc (.cells #[.string M, .string O, .string G, .string H] 26) = W := ⟨_, rfl⟩
      rw [hW0] at hx0 hb0
      have HX0 := Lib.hid hx0
      have HB0 := Lib.hid hb0
      obtain ⟨c0, c1, c2, c3⟩ := hx0.cells
      clear hx0 hb0
      go_wp2_with fail
      try rw [hW0]
      clear hW0
      refine (HF.out _).mono ?_
      rintro ev w1 ⟨rfl, hb⟩
      have hx := HX0.out.next hb
      have HX1 := Lib.hid hx
      have HB1 := Lib.hid (HB0.out.trans (hb.mono HB0.out.size))
      clear hb c0 c1 c2 c3
      obtain ⟨c0, c1, c2, c3⟩ := hx.cells
      clear hx
      go_wp2
      go_ret
      exact ⟨rfl, HB1.out⟩
    | true =>
      have hck := chkK_long hf hM h8
      have HR := Lib.hid (show pkC M O G H = 13 from by unfold pkC; rw [if_neg (by rw [hf]; decide), if_neg (by rw [hck]; decide), hck])
      rw [hf] at HF
      rw [hck] at HCK
      rw [HR.out]
      unfold kV gV at *
      clear hf hM hO hG hH h8 hck
      go_enter Tryz.func28, Tryz.ntmps28
      have hx0 := Bx4.new w (.string M) (.string O) (.string G) (.string H) 26
      have hb0 := (Below.refl w.heap.size w).alloc (Nat.le_refl _) (.cells #[.string M, .string O, .string G, .string H] 26)
      obtain ⟨W0, hW0⟩ : ∃ W, w.alloc (.cells #[.string M, .string O, .string G, .string H] 26) = W := ⟨_, rfl⟩
      rw [hW0] at hx0 hb0
      have HX0 := Lib.hid hx0
      have HB0 := Lib.hid hb0
      obtain ⟨c0, c1, c2, c3⟩ := hx0.cells
      clear hx0 hb0
      go_wp2_with fail
      try rw [hW0]
      clear hW0
      refine (HF.out _).mono ?_
      rintro ev w1 ⟨rfl, hb⟩
      have hx := HX0.out.next hb
      have HX1 := Lib.hid hx
      have HB1 := Lib.hid (HB0.out.trans (hb.mono HB0.out.size))
      clear hb c0 c1 c2 c3
      obtain ⟨c0, c1, c2, c3⟩ := hx.cells
      clear hx
      go_wp2_with fail
      refine (HCK.out _).mono ?_
      rintro ev w2 ⟨rfl, hb⟩
      have hx := HX1.out.next hb
      have HX2 := Lib.hid hx
      have HB2 := Lib.hid (HB1.out.trans (hb.mono HB1.out.size))
      clear hb c0 c1 c2 c3
      obtain ⟨c0, c1, c2, c3⟩ := hx.cells
      clear hx
      go_wp2
      go_ret
      exact ⟨rfl, HB2.out⟩
end Go.Proofs.YtpdejgdkpghjhaaGreatDoor

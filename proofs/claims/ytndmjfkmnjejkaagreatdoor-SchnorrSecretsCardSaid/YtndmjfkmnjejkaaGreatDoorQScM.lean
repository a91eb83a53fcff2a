/- Walk: schnorr.Extract. -/
import Derived.Test.YtndmjfkmnjejkaaGreatDoorQPeFA
import Derived.Test.YtndmjfkmnjejkaaGreatDoorQGst
import Derived.Test.YtndmjfkmnjejkaaGreatDoorQInt
import Derived.Test.YtndmjfkmnjejkaaGreatDoorQRowN
import Derived.Test.YtndmjfkmnjejkaaGreatDoorQCoK
set_option linter.unusedVariables false
set_option linter.unusedSimpArgs false
namespace Go.Proofs.YtndmjfkmnjejkaaGreatDoor
open Go.RowKit Go.Lib
def exK (M O G Y ac ar bc br : ByteArray) : ByteArray × Int :=
  if scK M O G Y = 0 then
    if [ac, ar, bc, br].all nvalid = true then
      if (num ac < num O ∧ num ar < num O) ∧ (num bc < num O ∧ num br < num O) then
        if num ac = num bc ∨ ¬ cmS (num M) (num O) (num G) (num Y) (num ac) (num ar) = cmS (num M) (num O) (num G) (num Y) (num bc) (num br) then (⟨#[]⟩, 1)
        else if Nat.gcd (sbM (num ac) (num bc) (num O)) (num O) = 1 then
          if 0 < sbM (num ar) (num br) (num O) * invN (sbM (num ac) (num bc) (num O)) (num O) % num O ∧ sbM (num ar) (num br) (num O) * invN (sbM (num ac) (num bc) (num O)) (num O) % num O < num O ∧ num G ^ (sbM (num ar) (num br) (num O) * invN (sbM (num ac) (num bc) (num O)) (num O) % num O) % num M = num Y then
            (nS (sbM (num ar) (num br) (num O) * invN (sbM (num ac) (num bc) (num O)) (num O) % num O), 0)
          else (⟨#[]⟩, 17)
        else (⟨#[]⟩, 9)
      else (⟨#[]⟩, 2)
    else (⟨#[]⟩, 3)
  else (⟨#[]⟩, scK M O G Y)
def SX (w W : World) (M O G Y ac ar bc br : ByteArray) : Prop := SB w W M O G Y ∧ Bx2 W (w.heap.size + 1) (.string ac) (.string ar) 52 ∧ Bx2 W (w.heap.size + 1 + 1) (.string bc) (.string br) 52
theorem SX.new (w : World) (M O G Y ac ar bc br : ByteArray) : SX w (((w.alloc (.cells #[.string M, .string O, .string G, .string Y] 46)).alloc (.cells #[.string ac, .string ar] 52)).alloc (.cells #[.string bc, .string br] 52)) M O G Y ac ar bc br := by
  have h := (SG.new w M O G Y ac ar).next ((Below.refl _ _).alloc (Nat.le_refl _) (.cells #[.string bc, .string br] 52))
  refine ⟨h.1, h.2, ?_⟩
  have := Bx2.new ((w.alloc (.cells #[.string M, .string O, .string G, .string Y] 46)).alloc (.cells #[.string ac, .string ar] 52)) (.string bc) (.string br) 52
  rwa [World.size_alloc, World.size_alloc] at this
theorem SX.next {w W W' : World} {M O G Y ac ar bc br : ByteArray} (h : SX w W M O G Y ac ar bc br) (hb : Below W.heap.size W W') : SX w W' M O G Y ac ar bc br := ⟨h.1.next hb, h.2.1.next hb, h.2.2.next hb⟩
theorem SX.cells {w W : World} {M O G Y ac ar bc br : ByteArray} (h : SX w W M O G Y ac ar bc br) :
    W.cell? ⟨w.heap.size, 0, none⟩ = some (.string M) ∧ W.cell? ⟨w.heap.size, 1, none⟩ = some (.string O) ∧ W.cell? ⟨w.heap.size, 2, none⟩ = some (.string G) ∧ W.cell? ⟨w.heap.size, 3, none⟩ = some (.string Y) ∧ W.cell? ⟨w.heap.size + 1, 0, none⟩ = some (.string ac) ∧ W.cell? ⟨w.heap.size + 1, 1, none⟩ = some (.string ar) ∧ W.cell? ⟨w.heap.size + 1 + 1, 0, none⟩ = some (.string bc) ∧ W.cell? ⟨w.heap.size + 1 + 1, 1, none⟩ = some (.string br) := by
  obtain ⟨a, b, c, d⟩ := h.1.1.cells
  exact ⟨a, b, c, d, h.2.1.c0, h.2.1.c1, h.2.2.c0, h.2.2.c1⟩
theorem mod_InverseK (a m : Nat) (ham : a < m) (hm8 : m < 18446744073709551616) (h1 : 1 < m) (hg : Nat.gcd a m = 1) (w : World) : Calls Tryz.prog 68 #[.string (nS a), .string (nS m)] w (Ret (.tuple #[.string (nS (invN a m)), .int .i64 0]) w) := by
  refine (mod_Inverse a m ham hm8 h1 hg w).mono ?_
  rintro e w' ⟨y, rfl, hb, hy, hxy⟩
  rw [invN_of hy hxy]
  exact ⟨rfl, hb⟩
theorem exK_no {M O G Y ac ar bc br : ByteArray} (h : ¬ scK M O G Y = 0) : exK M O G Y ac ar bc br = (⟨#[]⟩, scK M O G Y) := by unfold exK; rw [if_neg h]
theorem exK_form {M O G Y ac ar bc br : ByteArray} (h : scK M O G Y = 0) (hv : [ac, ar, bc, br].all nvalid = false) : exK M O G Y ac ar bc br = (⟨#[]⟩, 3) := by unfold exK; rw [if_pos h, if_neg (by rw [hv]; decide)]
theorem exK_range {M O G Y ac ar bc br : ByteArray} (h : scK M O G Y = 0) (hv : [ac, ar, bc, br].all nvalid = true) (hr : ¬ ((num ac < num O ∧ num ar < num O) ∧ (num bc < num O ∧ num br < num O))) : exK M O G Y ac ar bc br = (⟨#[]⟩, 2) := by unfold exK; rw [if_pos h, if_pos hv, if_neg hr]
theorem exK_arg {M O G Y ac ar bc br : ByteArray} (h : scK M O G Y = 0) (hv : [ac, ar, bc, br].all nvalid = true) (hr : ((num ac < num O ∧ num ar < num O) ∧ (num bc < num O ∧ num br < num O))) (hd : num ac = num bc ∨ ¬ cmS (num M) (num O) (num G) (num Y) (num ac) (num ar) = cmS (num M) (num O) (num G) (num Y) (num bc) (num br)) : exK M O G Y ac ar bc br = (⟨#[]⟩, 1) := by unfold exK; rw [if_pos h, if_pos hv, if_pos hr, if_pos hd]
theorem exK_none {M O G Y ac ar bc br : ByteArray} (h : scK M O G Y = 0) (hv : [ac, ar, bc, br].all nvalid = true) (hr : ((num ac < num O ∧ num ar < num O) ∧ (num bc < num O ∧ num br < num O))) (hd : ¬ (num ac = num bc ∨ ¬ cmS (num M) (num O) (num G) (num Y) (num ac) (num ar) = cmS (num M) (num O) (num G) (num Y) (num bc) (num br))) (hg : ¬ Nat.gcd (sbM (num ac) (num bc) (num O)) (num O) = 1) : exK M O G Y ac ar bc br = (⟨#[]⟩, 9) := by unfold exK; rw [if_pos h, if_pos hv, if_pos hr, if_neg hd, if_neg hg]
theorem exK_end {M O G Y ac ar bc br : ByteArray} (h : scK M O G Y = 0) (hv : [ac, ar, bc, br].all nvalid = true) (hr : ((num ac < num O ∧ num ar < num O) ∧ (num bc < num O ∧ num br < num O))) (hd : ¬ (num ac = num bc ∨ ¬ cmS (num M) (num O) (num G) (num Y) (num ac) (num ar) = cmS (num M) (num O) (num G) (num Y) (num bc) (num br))) (hg : Nat.gcd (sbM (num ac) (num bc) (num O)) (num O) = 1) {x : Nat} (hx : sbM (num ar) (num br) (num O) * invN (sbM (num ac) (num bc) (num O)) (num O) % num O = x) : exK M O G Y ac ar bc br = if (decide (0 < x ∧ x < num O ∧ num G ^ x % num M = num Y)) = true then (nS x, 0) else (⟨#[]⟩, 17) := by
  unfold exK; rw [if_pos h, if_pos hv, if_pos hr, if_neg hd, if_pos hg, hx]
  by_cases hc : 0 < x ∧ x < num O ∧ num G ^ x % num M = num Y
  · rw [if_pos hc, if_pos (decide_eq_true hc)]
  · rw [if_neg hc, if_neg (by rw [decide_eq_false hc]; decide)]
set_option maxRecDepth 100000 in
set_option maxHeartbeats 8000000 in
theorem sc_Extract (M O G Y ac ar bc br : ByteArray) (hM : M.size ≤ 8) (hO : O.size ≤ 100) (hG : G.size ≤ 1000) (hY : Y.size ≤ 1000) (hac : ac.size ≤ 1000) (har : ar.size ≤ 1000) (hbc : bc.size ≤ 1000) (hbr : br.size ≤ 1000) (w : World) : Calls Tryz.prog 22 #[kV M O G Y, .agg #[.string ac, .string ar], .agg #[.string bc, .string br]] w (Ret (.tuple #[.string (exK M O G Y ac ar bc br).1, .int .i64 (exK M O G Y ac ar bc br).2]) w) := by
  have hx0 := SX.new w M O G Y ac ar bc br
  obtain ⟨W0, hW0⟩ : ∃ W, (((w.alloc (.cells #[.string M, .string O, .string G, .string Y] 46)).alloc (.cells #[.string ac, .string ar] 52)).alloc (.cells #[.string bc, .string br] 52)) = W := ⟨_, rfl⟩
  rw [hW0] at hx0
  have HX0 := Lib.hid hx0
  obtain ⟨c0, c1, c2, c3, s0, s1, t0, t1⟩ := hx0.cells
  clear hx0
  have HCK := Lib.hid (sc_Check M O G Y hM hO hG hY)
  have HFM := Lib.hid (fun W : World => sc_formed [ac, ar, bc, br] (some ⟨W.heap.size, 0, none⟩) 4 4 (by omega) (by
    intro z hz
    simp at hz
    rcases hz with h | h | h | h <;> subst h <;> omega) (W.alloc (.cells #[.string ac, .string ar, .string bc, .string br] 22)) (sln_alloc W [ac, ar, bc, br] 22 (by simp)))
  by_cases hk : scK M O G Y = 0
  · rw [hk] at HCK
    cases hv : [ac, ar, bc, br].all nvalid with
    | false =>
      rw [hv] at HFM
      rw [exK_form hk hv]
      clear hk hv hM hO hG hY hac har hbc hbr
      unfold kV at *
      go_enter Tryz.func22, Tryz.ntmps22
      go_wp2_with fail
      try rw [hW0]
      clear hW0
      refine (HCK.out _).mono ?_
      rintro ev w1 ⟨rfl, hb⟩
      have hk := HX0.out.next hb
      have HX1 := Lib.hid hk
      clear hb c0 c1 c2 c3 s0 s1 t0 t1
      obtain ⟨c0, c1, c2, c3, s0, s1, t0, t1⟩ := hk.cells
      clear hk
      go_wp2_with fail
      refine (HFM.out _).mono ?_
      rintro ev w2 ⟨rfl, rfl⟩
      have hb : Below w1.heap.size w1 (w1.alloc (.cells #[.string ac, .string ar, .string bc, .string br] 22)) := (Below.refl _ _).alloc (Nat.le_refl _) _
      have hk := HX1.out.next hb
      have HX2 := Lib.hid hk
      clear hb c0 c1 c2 c3 s0 s1 t0 t1
      obtain ⟨c0, c1, c2, c3, s0, s1, t0, t1⟩ := hk.cells
      clear hk
      go_wp2
      go_ret2
      exact ⟨rfl, HX2.out.1.2⟩
    | true =>
      rw [hv] at HFM
      obtain ⟨va, vr, vb, vs⟩ := all_four hv
      obtain ⟨hvv, hchk, hz, _, _⟩ := scK_ok hk
      obtain ⟨v1, v2, v3, v4⟩ := all_four hvv
      have h8 := num_small (chk_small hvv hM hchk)
      have HL1 := Lib.hid (sc_below M O G Y ac ar v2 va vr)
      have HL2 := Lib.hid (sc_below M O G Y bc br v2 vb vs)
      by_cases hl1 : num ac < num O ∧ num ar < num O
      · rw [decide_eq_true hl1] at HL1
        by_cases hl2 : num bc < num O ∧ num br < num O
        · rw [decide_eq_true hl2] at HL2
          have HC1 := Lib.hid (sc_commitmentOf M O G Y ac ar hM hk va vr hl1.1)
          have HC2 := Lib.hid (sc_commitmentOf M O G Y bc br hM hk vb vs hl2.1)
          have hbe := nS_beq (num ac) (num bc)
          rw [← nS_num va, ← nS_num vb] at hbe
          by_cases hab : num ac = num bc
          · rw [exK_arg hk hv ⟨hl1, hl2⟩ (.inl hab)]
            rw [decide_eq_true hab] at hbe
            clear hk hv hM hO hG hY hac har hbc hbr hl1 hl2 hab va vr vb vs v1 v2 v3 v4 h8 hvv hchk hz HC1 HC2
            unfold kV at *
            go_enter Tryz.func22, Tryz.ntmps22
            go_wp2_with fail
            try rw [hW0]
            clear hW0
            refine (HCK.out _).mono ?_
            rintro ev w1 ⟨rfl, hb⟩
            have hk := HX0.out.next hb
            have HX1 := Lib.hid hk
            clear hb c0 c1 c2 c3 s0 s1 t0 t1
            obtain ⟨c0, c1, c2, c3, s0, s1, t0, t1⟩ := hk.cells
            clear hk
            go_wp2_with fail
            refine (HFM.out _).mono ?_
            rintro ev w2 ⟨rfl, rfl⟩
            have hb : Below w1.heap.size w1 (w1.alloc (.cells #[.string ac, .string ar, .string bc, .string br] 22)) := (Below.refl _ _).alloc (Nat.le_refl _) _
            have hk := HX1.out.next hb
            have HX2 := Lib.hid hk
            clear hb c0 c1 c2 c3 s0 s1 t0 t1
            obtain ⟨c0, c1, c2, c3, s0, s1, t0, t1⟩ := hk.cells
            clear hk
            obtain ⟨w2, hw2⟩ : ∃ W, w1.alloc (.cells #[.string ac, .string ar, .string bc, .string br] 22) = W := ⟨_, rfl⟩
            rw [hw2] at HX2 c0 c1 c2 c3 s0 s1 t0 t1 ⊢
            clear hw2
            go_wp2_with fail
            refine (HL1.out _).mono ?_
            rintro ev w3 ⟨rfl, hb⟩
            have hk := HX2.out.next hb
            have HX3 := Lib.hid hk
            clear hb c0 c1 c2 c3 s0 s1 t0 t1
            obtain ⟨c0, c1, c2, c3, s0, s1, t0, t1⟩ := hk.cells
            clear hk
            go_wp2_with fail
            refine (HL2.out _).mono ?_
            rintro ev w4 ⟨rfl, hb⟩
            have hk := HX3.out.next hb
            have HX4 := Lib.hid hk
            clear hb c0 c1 c2 c3 s0 s1 t0 t1
            obtain ⟨c0, c1, c2, c3, s0, s1, t0, t1⟩ := hk.cells
            clear hk
            go_wp2
            obtain ⟨wd, hwd⟩ : ∃ wd, w4.drew = wd := ⟨_, rfl⟩
            have HXd := Lib.hid (show SX w wd M O G Y ac ar bc br from by rw [← hwd]; exact HX4.out.next (Below.refl _ _).drew)
            clear c0 c1 c2 c3 s0 s1 t0 t1
            obtain ⟨c0, c1, c2, c3, s0, s1, t0, t1⟩ := HXd.out.cells
            refine wp_region_K 14 (Below (wd).heap.size (wd)) (by kernel_rfl) ?_
            intro hD
            rw [hwd]
            refine wpAnyK_pureD (i := 0) (d := some 44) (v := ?v8_0b1) (fuel := 13) rfl (by kernel_rfl) (by kernel_rfl) (fun _ _ _ h => h) hD (Below.refl _ _) (.inl ⟨by kernel_rfl, ?y8_0b1⟩) ?n8_0b1
            case y8_0b1 => intro w' _; go_simp; with_reducible rfl
            clear hD; intro hD
            simp only [Act.put, sqA, sqB, sqC]
            refine wpAnyK_takeSD (i := 1) (d := some 45) (v := ?v8_1b1) (fuel := 12) rfl (by kernel_rfl) (by kernel_rfl) (by kernel_rfl) (fun _ _ _ h => h) hD (Below.refl _ _) (.inl ⟨by kernel_rfl, ?y8_1b1⟩) ?n8_1b1
            case y8_1b1 => intro w' hS'; have e0 := cell_kept hS' (Nat.le_refl _) c0; have e1 := cell_kept hS' (Nat.le_refl _) c1; have e2 := cell_kept hS' (Nat.le_refl _) c2; have e3 := cell_kept hS' (Nat.le_refl _) c3; have e4 := cell_kept hS' (Nat.le_refl _) s0; have e5 := cell_kept hS' (Nat.le_refl _) s1; have e6 := cell_kept hS' (Nat.le_refl _) t0; have e7 := cell_kept hS' (Nat.le_refl _) t1; go_simp; with_reducible rfl
            clear hD; intro hD
            simp only [Act.put, sqA, sqB, sqC]
            refine wpAnyK_pureD (i := 2) (d := some 46) (v := ?v8_2b1) (fuel := 11) rfl (by kernel_rfl) (by kernel_rfl) (fun _ _ _ h => h) hD (Below.refl _ _) (.inl ⟨by kernel_rfl, ?y8_2b1⟩) ?n8_2b1
            case y8_2b1 => intro w' _; go_simp; with_reducible rfl
            clear hD; intro hD
            simp only [Act.put, sqA, sqB, sqC]
            refine wpAnyK_takeSD (i := 3) (d := some 47) (v := ?v8_3b1) (fuel := 10) rfl (by kernel_rfl) (by kernel_rfl) (by kernel_rfl) (fun _ _ _ h => h) hD (Below.refl _ _) (.inl ⟨by kernel_rfl, ?y8_3b1⟩) ?n8_3b1
            case y8_3b1 => intro w' hS'; have e0 := cell_kept hS' (Nat.le_refl _) c0; have e1 := cell_kept hS' (Nat.le_refl _) c1; have e2 := cell_kept hS' (Nat.le_refl _) c2; have e3 := cell_kept hS' (Nat.le_refl _) c3; have e4 := cell_kept hS' (Nat.le_refl _) s0; have e5 := cell_kept hS' (Nat.le_refl _) s1; have e6 := cell_kept hS' (Nat.le_refl _) t0; have e7 := cell_kept hS' (Nat.le_refl _) t1; go_simp; with_reducible rfl
            clear hD; intro hD
            simp only [Act.put, sqA, sqB, sqC]
            refine wpAnyK_pureD (i := 4) (d := some 48) (v := ?v8_4b1) (fuel := 9) rfl (by kernel_rfl) (by kernel_rfl) (fun _ _ _ h => h) hD (Below.refl _ _) (.inl ⟨by kernel_rfl, ?y8_4b1⟩) ?n8_4b1
            case y8_4b1 => intro w' _; go_simp; with_reducible rfl
            clear hD; intro hD
            simp only [Act.put, sqA, sqB, sqC]
            refine wpAnyK_pureD (i := 5) (d := some 49) (v := ?v8_5b1) (fuel := 8) rfl (by kernel_rfl) (by kernel_rfl) (fun _ _ _ h => h) hD (Below.refl _ _) (.inl ⟨by kernel_rfl, ?y8_5b1⟩) ?n8_5b1
            case y8_5b1 => intro w' _; go_simp; with_reducible rfl
            clear hD; intro hD
            simp only [Act.put, sqA, sqB, sqC]
            refine wpAnyK_pureD (i := 6) (d := some 50) (v := undef) (fuel := 7) rfl (by kernel_rfl) (by kernel_rfl) (fun _ _ _ h => h) hD (Below.refl _ _) (.inr ⟨by kernel_rfl, rfl⟩) ?_
            clear hD; intro hD
            simp only [Act.put, sqA, sqB, sqC]
            refine wpAnyK_pureD (i := 7) (d := some 51) (v := undef) (fuel := 6) rfl (by kernel_rfl) (by kernel_rfl) (fun _ _ _ h => h) hD (Below.refl _ _) (.inr ⟨by kernel_rfl, rfl⟩) ?_
            clear hD; intro hD
            simp only [Act.put, sqA, sqB, sqC]
            refine wpAnyK_pureD (i := 8) (d := some 52) (v := undef) (fuel := 5) rfl (by kernel_rfl) (by kernel_rfl) (fun _ _ _ h => h) hD (Below.refl _ _) (.inr ⟨by kernel_rfl, rfl⟩) ?_
            clear hD; intro hD
            simp only [Act.put, sqA, sqB, sqC]
            refine wpAnyK_pureD (i := 9) (d := some 53) (v := undef) (fuel := 4) rfl (by kernel_rfl) (by kernel_rfl) (fun _ _ _ h => h) hD (Below.refl _ _) (.inr ⟨by kernel_rfl, rfl⟩) ?_
            clear hD; intro hD
            simp only [Act.put, sqA, sqB, sqC]
            refine wpAnyK_pureD (i := 10) (d := some 54) (v := undef) (fuel := 3) rfl (by kernel_rfl) (by kernel_rfl) (fun _ _ _ h => h) hD (Below.refl _ _) (.inr ⟨by kernel_rfl, rfl⟩) ?_
            clear hD; intro hD
            simp only [Act.put, sqA, sqB, sqC]
            refine wpAnyK_pureD (i := 11) (d := some 55) (v := undef) (fuel := 2) rfl (by kernel_rfl) (by kernel_rfl) (fun _ _ _ h => h) hD (Below.refl _ _) (.inr ⟨by kernel_rfl, rfl⟩) ?_
            clear hD; intro hD
            simp only [Act.put, sqA, sqB, sqC]
            refine wpAnyK_pureD (i := 12) (d := some 56) (v := undef) (fuel := 1) rfl (by kernel_rfl) (by kernel_rfl) (fun _ _ _ h => h) hD (Below.refl _ _) (.inr ⟨by kernel_rfl, rfl⟩) ?_
            clear hD; intro hD
            simp only [Act.put, sqA, sqB, sqC]
            refine wpAnyK_pureD (i := 13) (d := some 57) (v := ?v8_13b1) (fuel := 0) rfl (by kernel_rfl) (by kernel_rfl) (fun _ _ _ h => h) hD (Below.refl _ _) (.inl ⟨by kernel_rfl, ?y8_13b1⟩) ?n8_13b1
            case y8_13b1 => intro w' _; go_simp; with_reducible rfl
            clear hD; intro hD
            simp only [Act.put, sqA, sqB, sqC]
            refine wpAnyK_done (by kernel_rfl) ?_ 0
            clear hD
            go_wp2
            go_ret2
            exact ⟨rfl, HXd.out.1.2⟩
          · rw [decide_eq_false hab] at hbe
            obtain ⟨n1, hn1⟩ : ∃ n, cmS (num M) (num O) (num G) (num Y) (num ac) (num ar) = n := ⟨_, rfl⟩
            obtain ⟨n2, hn2⟩ : ∃ n, cmS (num M) (num O) (num G) (num Y) (num bc) (num br) = n := ⟨_, rfl⟩
            rw [hn1] at HC1
            rw [hn2] at HC2
            have hbz := nS_beq n1 n2
            by_cases h12 : n1 = n2
            · have hd : ¬ (num ac = num bc ∨ ¬ cmS (num M) (num O) (num G) (num Y) (num ac) (num ar) = cmS (num M) (num O) (num G) (num Y) (num bc) (num br)) := by
                rw [hn1, hn2]; intro h; rcases h with h | h
                · exact hab h
                · exact h h12
              have lm := lt128_of_lt8 h8
              have HS1 := Lib.hid (mod_Sub (num ac) (num bc) (num O) (nvalid_lt va) (nvalid_lt vb) lm (by omega))
              have HS2 := Lib.hid (mod_Sub (num ar) (num br) (num O) (nvalid_lt vr) (nvalid_lt vs) lm (by omega))
              have lc : sbM (num ac) (num bc) (num O) < num O := Nat.mod_lt _ (by omega)
              have lr : sbM (num ar) (num br) (num O) < num O := Nat.mod_lt _ (by omega)
              have hm1 : 1 < num O := by omega
              by_cases hg : Nat.gcd (sbM (num ac) (num bc) (num O)) (num O) = 1
              · have HIN := Lib.hid (mod_InverseK _ _ lc h8 hm1 hg)
                have li : invN (sbM (num ac) (num bc) (num O)) (num O) < 18446744073709551616 := by
                  have := invN_lt (x := sbM (num ac) (num bc) (num O)) (M := num O) (by omega)
                  omega
                have HMU := Lib.hid (mod_Mul (sbM (num ar) (num br) (num O)) (invN (sbM (num ac) (num bc) (num O)) (num O)) (num O) (by omega) li h8 (by omega))
                obtain ⟨x, hx⟩ : ∃ x, sbM (num ar) (num br) (num O) * invN (sbM (num ac) (num bc) (num O)) (num O) % num O = x := ⟨_, rfl⟩
                have lx : x < num O := by rw [← hx]; exact Nat.mod_lt _ (by omega)
                have HIS := Lib.hid (sc_isSecret M O G Y (nS x) hM hk (nvalid_nS.2 (lt128_of_lt8 (by omega))))
                rw [num_nS] at HIS
                rw [exK_end hk hv ⟨hl1, hl2⟩ hd hg hx]
                rw [hx] at HMU
                obtain ⟨gb, hgb⟩ : ∃ b, decide (0 < x ∧ x < num O ∧ num G ^ x % num M = num Y) = b := ⟨_, rfl⟩
                rw [hgb] at HIS ⊢
                rw [← nS_num va, ← nS_num vb, ← nS_num v2] at HS1
                rw [← nS_num vr, ← nS_num vs, ← nS_num v2] at HS2
                rw [← nS_num v2] at HIN HMU
                obtain ⟨z1, hz1⟩ : ∃ z, nS (sbM (num ac) (num bc) (num O)) = z := ⟨_, rfl⟩
                obtain ⟨z2, hz2⟩ : ∃ z, nS (sbM (num ar) (num br) (num O)) = z := ⟨_, rfl⟩
                obtain ⟨z3, hz3⟩ : ∃ z, nS (invN (sbM (num ac) (num bc) (num O)) (num O)) = z := ⟨_, rfl⟩
                obtain ⟨z4, hz4⟩ : ∃ z, nS x = z := ⟨_, rfl⟩
                obtain ⟨y1, hy1⟩ : ∃ z, nS n1 = z := ⟨_, rfl⟩
                obtain ⟨y2, hy2⟩ : ∃ z, nS n2 = z := ⟨_, rfl⟩
                rw [decide_eq_true h12, hy1, hy2] at hbz
                rw [hy1] at HC1
                rw [hy2] at HC2
                rw [hz1] at HS1 HIN
                rw [hz2] at HS2 HMU
                rw [hz3] at HIN HMU
                rw [hz4] at HMU HIS ⊢
                obtain ⟨R, hR⟩ : ∃ R : ByteArray × Int, (if gb = true then (z4, 0) else (⟨#[]⟩, 17)) = R := ⟨_, rfl⟩
                rw [hR]
                have HR := Lib.hid hR
                clear hR
                clear hk hv hM hO hG hY hac har hbc hbr hl1 hl2 hab va vr vb vs v1 v2 v3 v4 h8 hvv hchk hz hn1 hn2 h12 hd lm lc lr hm1 hg li hx lx hgb hz1 hz2 hz3 hz4 hy1 hy2
                unfold kV at *
                go_enter Tryz.func22, Tryz.ntmps22
                go_wp2_with fail
                try rw [hW0]
                clear hW0
                refine (HCK.out _).mono ?_
                rintro ev w1 ⟨rfl, hb⟩
                have hk := HX0.out.next hb
                have HX1 := Lib.hid hk
                clear hb c0 c1 c2 c3 s0 s1 t0 t1
                obtain ⟨c0, c1, c2, c3, s0, s1, t0, t1⟩ := hk.cells
                clear hk
                go_wp2_with fail
                refine (HFM.out _).mono ?_
                rintro ev w2 ⟨rfl, rfl⟩
                have hb : Below w1.heap.size w1 (w1.alloc (.cells #[.string ac, .string ar, .string bc, .string br] 22)) := (Below.refl _ _).alloc (Nat.le_refl _) _
                have hk := HX1.out.next hb
                have HX2 := Lib.hid hk
                clear hb c0 c1 c2 c3 s0 s1 t0 t1
                obtain ⟨c0, c1, c2, c3, s0, s1, t0, t1⟩ := hk.cells
                clear hk
                obtain ⟨w2, hw2⟩ : ∃ W, w1.alloc (.cells #[.string ac, .string ar, .string bc, .string br] 22) = W := ⟨_, rfl⟩
                rw [hw2] at HX2 c0 c1 c2 c3 s0 s1 t0 t1 ⊢
                clear hw2
                go_wp2_with fail
                refine (HL1.out _).mono ?_
                rintro ev w3 ⟨rfl, hb⟩
                have hk := HX2.out.next hb
                have HX3 := Lib.hid hk
                clear hb c0 c1 c2 c3 s0 s1 t0 t1
                obtain ⟨c0, c1, c2, c3, s0, s1, t0, t1⟩ := hk.cells
                clear hk
                go_wp2_with fail
                refine (HL2.out _).mono ?_
                rintro ev w4 ⟨rfl, hb⟩
                have hk := HX3.out.next hb
                have HX4 := Lib.hid hk
                clear hb c0 c1 c2 c3 s0 s1 t0 t1
                obtain ⟨c0, c1, c2, c3, s0, s1, t0, t1⟩ := hk.cells
                clear hk
                go_wp2
                obtain ⟨wd, hwd⟩ : ∃ wd, w4.drew = wd := ⟨_, rfl⟩
                have HXd := Lib.hid (show SX w wd M O G Y ac ar bc br from by rw [← hwd]; exact HX4.out.next (Below.refl _ _).drew)
                clear c0 c1 c2 c3 s0 s1 t0 t1
                obtain ⟨c0, c1, c2, c3, s0, s1, t0, t1⟩ := HXd.out.cells
                refine wp_region_K 14 (Below (wd).heap.size (wd)) (by kernel_rfl) ?_
                intro hD
                rw [hwd]
                refine wpAnyK_pureD (i := 0) (d := some 44) (v := ?v8_0b2) (fuel := 13) rfl (by kernel_rfl) (by kernel_rfl) (fun _ _ _ h => h) hD (Below.refl _ _) (.inl ⟨by kernel_rfl, ?y8_0b2⟩) ?n8_0b2
                case y8_0b2 => intro w' _; go_simp; with_reducible rfl
                clear hD; intro hD
                simp only [Act.put, sqA, sqB, sqC]
                refine wpAnyK_takeSD (i := 1) (d := some 45) (v := ?v8_1b2) (fuel := 12) rfl (by kernel_rfl) (by kernel_rfl) (by kernel_rfl) (fun _ _ _ h => h) hD (Below.refl _ _) (.inl ⟨by kernel_rfl, ?y8_1b2⟩) ?n8_1b2
                case y8_1b2 => intro w' hS'; have e0 := cell_kept hS' (Nat.le_refl _) c0; have e1 := cell_kept hS' (Nat.le_refl _) c1; have e2 := cell_kept hS' (Nat.le_refl _) c2; have e3 := cell_kept hS' (Nat.le_refl _) c3; have e4 := cell_kept hS' (Nat.le_refl _) s0; have e5 := cell_kept hS' (Nat.le_refl _) s1; have e6 := cell_kept hS' (Nat.le_refl _) t0; have e7 := cell_kept hS' (Nat.le_refl _) t1; go_simp; with_reducible rfl
                clear hD; intro hD
                simp only [Act.put, sqA, sqB, sqC]
                refine wpAnyK_pureD (i := 2) (d := some 46) (v := ?v8_2b2) (fuel := 11) rfl (by kernel_rfl) (by kernel_rfl) (fun _ _ _ h => h) hD (Below.refl _ _) (.inl ⟨by kernel_rfl, ?y8_2b2⟩) ?n8_2b2
                case y8_2b2 => intro w' _; go_simp; with_reducible rfl
                clear hD; intro hD
                simp only [Act.put, sqA, sqB, sqC]
                refine wpAnyK_takeSD (i := 3) (d := some 47) (v := ?v8_3b2) (fuel := 10) rfl (by kernel_rfl) (by kernel_rfl) (by kernel_rfl) (fun _ _ _ h => h) hD (Below.refl _ _) (.inl ⟨by kernel_rfl, ?y8_3b2⟩) ?n8_3b2
                case y8_3b2 => intro w' hS'; have e0 := cell_kept hS' (Nat.le_refl _) c0; have e1 := cell_kept hS' (Nat.le_refl _) c1; have e2 := cell_kept hS' (Nat.le_refl _) c2; have e3 := cell_kept hS' (Nat.le_refl _) c3; have e4 := cell_kept hS' (Nat.le_refl _) s0; have e5 := cell_kept hS' (Nat.le_refl _) s1; have e6 := cell_kept hS' (Nat.le_refl _) t0; have e7 := cell_kept hS' (Nat.le_refl _) t1; go_simp; with_reducible rfl
                clear hD; intro hD
                simp only [Act.put, sqA, sqB, sqC]
                refine wpAnyK_pureD (i := 4) (d := some 48) (v := ?v8_4b2) (fuel := 9) rfl (by kernel_rfl) (by kernel_rfl) (fun _ _ _ h => h) hD (Below.refl _ _) (.inl ⟨by kernel_rfl, ?y8_4b2⟩) ?n8_4b2
                case y8_4b2 => intro w' _; go_simp; with_reducible rfl
                clear hD; intro hD
                simp only [Act.put, sqA, sqB, sqC]
                refine wpAnyK_pureD (i := 5) (d := some 49) (v := ?v8_5b2) (fuel := 8) rfl (by kernel_rfl) (by kernel_rfl) (fun _ _ _ h => h) hD (Below.refl _ _) (.inl ⟨by kernel_rfl, ?y8_5b2⟩) ?n8_5b2
                case y8_5b2 => intro w' _; go_simp; with_reducible rfl
                clear hD; intro hD
                simp only [Act.put, sqA, sqB, sqC]
                refine wpAnyK_takeSD (i := 6) (d := some 50) (v := ?v8_6b2) (fuel := 7) rfl (by kernel_rfl) (by kernel_rfl) (by kernel_rfl) (fun _ _ _ h => h) hD (Below.refl _ _) (.inl ⟨by kernel_rfl, ?y8_6b2⟩) ?n8_6b2
                case y8_6b2 => intro w' hS'; have e0 := cell_kept hS' (Nat.le_refl _) c0; have e1 := cell_kept hS' (Nat.le_refl _) c1; have e2 := cell_kept hS' (Nat.le_refl _) c2; have e3 := cell_kept hS' (Nat.le_refl _) c3; have e4 := cell_kept hS' (Nat.le_refl _) s0; have e5 := cell_kept hS' (Nat.le_refl _) s1; have e6 := cell_kept hS' (Nat.le_refl _) t0; have e7 := cell_kept hS' (Nat.le_refl _) t1; go_simp; with_reducible rfl
                clear hD; intro hD
                simp only [Act.put, sqA, sqB, sqC]
                refine wpAnyK_takeSD (i := 7) (d := some 51) (v := ?v8_7b2) (fuel := 6) rfl (by kernel_rfl) (by kernel_rfl) (by kernel_rfl) (fun _ _ _ h => h) hD (Below.refl _ _) (.inl ⟨by kernel_rfl, ?y8_7b2⟩) ?n8_7b2
                case y8_7b2 => intro w' hS'; have e0 := cell_kept hS' (Nat.le_refl _) c0; have e1 := cell_kept hS' (Nat.le_refl _) c1; have e2 := cell_kept hS' (Nat.le_refl _) c2; have e3 := cell_kept hS' (Nat.le_refl _) c3; have e4 := cell_kept hS' (Nat.le_refl _) s0; have e5 := cell_kept hS' (Nat.le_refl _) s1; have e6 := cell_kept hS' (Nat.le_refl _) t0; have e7 := cell_kept hS' (Nat.le_refl _) t1; go_simp; with_reducible rfl
                clear hD; intro hD
                simp only [Act.put, sqA, sqB, sqC]
                refine wpAnyK_takeSD (i := 9) (d := some 53) (v := ?v8_9b2) (fuel := 5) rfl (by kernel_rfl) (by kernel_rfl) (by kernel_rfl) (fun _ _ _ h => h) hD (Below.refl _ _) (.inl ⟨by kernel_rfl, ?y8_9b2⟩) ?n8_9b2
                case y8_9b2 => intro w' hS'; have e0 := cell_kept hS' (Nat.le_refl _) c0; have e1 := cell_kept hS' (Nat.le_refl _) c1; have e2 := cell_kept hS' (Nat.le_refl _) c2; have e3 := cell_kept hS' (Nat.le_refl _) c3; have e4 := cell_kept hS' (Nat.le_refl _) s0; have e5 := cell_kept hS' (Nat.le_refl _) s1; have e6 := cell_kept hS' (Nat.le_refl _) t0; have e7 := cell_kept hS' (Nat.le_refl _) t1; go_simp; with_reducible rfl
                clear hD; intro hD
                simp only [Act.put, sqA, sqB, sqC]
                refine wpAnyK_takeSD (i := 10) (d := some 54) (v := ?v8_10b2) (fuel := 4) rfl (by kernel_rfl) (by kernel_rfl) (by kernel_rfl) (fun _ _ _ h => h) hD (Below.refl _ _) (.inl ⟨by kernel_rfl, ?y8_10b2⟩) ?n8_10b2
                case y8_10b2 => intro w' hS'; have e0 := cell_kept hS' (Nat.le_refl _) c0; have e1 := cell_kept hS' (Nat.le_refl _) c1; have e2 := cell_kept hS' (Nat.le_refl _) c2; have e3 := cell_kept hS' (Nat.le_refl _) c3; have e4 := cell_kept hS' (Nat.le_refl _) s0; have e5 := cell_kept hS' (Nat.le_refl _) s1; have e6 := cell_kept hS' (Nat.le_refl _) t0; have e7 := cell_kept hS' (Nat.le_refl _) t1; go_simp; with_reducible rfl
                clear hD; intro hD
                simp only [Act.put, sqA, sqB, sqC]
                refine wpAnyK_one (i := 8) (fuel := 3) (by kernel_rfl) rfl hD ?_
                clear hD; intro K8 hK8
                go_wp2_with fail
                refine (HC1.out _).mono ?_
                rintro ev w5 ⟨rfl, hb2⟩
                have HB8 := Lib.hid hb2
                clear hb2
                go_wp2
                refine hK8 _ _ (by exact HB8.out) ?_; clear hK8; intro hS_8_8 hD
                refine wpAnyK_one (i := 11) (fuel := 2) (by kernel_rfl) rfl hD ?_
                clear hD; intro K11 hK11
                go_wp2_with fail
                refine (HC2.out _).mono ?_
                rintro ev w6 ⟨rfl, hb3⟩
                have HB11 := Lib.hid hb3
                clear hb3
                go_wp2
                refine hK11 _ _ (by exact Below.trans hS_8_8 (Below.mono HB11.out (Below.size hS_8_8))) ?_; clear hK11; intro hS_8_11 hD
                have HL := Lib.hid hS_8_11
                refine wpAnyK_pureD (i := 12) (d := some 56) (v := ?v8_12b2) (fuel := 1) rfl (by kernel_rfl) (by kernel_rfl) (fun _ _ _ h => h) hD hS_8_11 (.inl ⟨by kernel_rfl, ?y8_12b2⟩) ?n8_12b2
                case y8_12b2 => intro w' _; go_simp; with_reducible rfl
                clear hD; intro hD
                simp only [Act.put, sqA, sqB, sqC]
                refine wpAnyK_pureD (i := 13) (d := some 57) (v := ?v8_13b2) (fuel := 0) rfl (by kernel_rfl) (by kernel_rfl) (fun _ _ _ h => h) hD hS_8_11 (.inl ⟨by kernel_rfl, ?y8_13b2⟩) ?n8_13b2
                case y8_13b2 => intro w' _; go_simp; with_reducible rfl
                clear hD; intro hD
                simp only [Act.put, sqA, sqB, sqC]
                refine wpAnyK_done (by kernel_rfl) ?_ 0
                clear hD
                have HX5 := Lib.hid (HXd.out.next HL.out)
                clear c0 c1 c2 c3 s0 s1 t0 t1
                obtain ⟨c0, c1, c2, c3, s0, s1, t0, t1⟩ := HX5.out.cells
                go_wp2_with fail
                refine (HS1.out _).mono ?_
                rintro ev w7 ⟨rfl, hb⟩
                have hk := HX5.out.next hb
                have HX7 := Lib.hid hk
                clear hb c0 c1 c2 c3 s0 s1 t0 t1
                obtain ⟨c0, c1, c2, c3, s0, s1, t0, t1⟩ := hk.cells
                clear hk
                go_wp2_with fail
                refine (HS2.out _).mono ?_
                rintro ev w8 ⟨rfl, hb⟩
                have hk := HX7.out.next hb
                have HX8 := Lib.hid hk
                clear hb c0 c1 c2 c3 s0 s1 t0 t1
                obtain ⟨c0, c1, c2, c3, s0, s1, t0, t1⟩ := hk.cells
                clear hk
                go_wp2_with fail
                refine (HIN.out _).mono ?_
                rintro ev w9 ⟨rfl, hb⟩
                have hk := HX8.out.next hb
                have HX9 := Lib.hid hk
                clear hb c0 c1 c2 c3 s0 s1 t0 t1
                obtain ⟨c0, c1, c2, c3, s0, s1, t0, t1⟩ := hk.cells
                clear hk
                go_wp2_with fail
                refine (HMU.out _).mono ?_
                rintro ev w10 ⟨rfl, hb⟩
                have hk := HX9.out.next hb
                have HX10 := Lib.hid hk
                clear hb c0 c1 c2 c3 s0 s1 t0 t1
                obtain ⟨c0, c1, c2, c3, s0, s1, t0, t1⟩ := hk.cells
                clear hk
                go_wp2_with fail
                refine (HIS.out _).mono ?_
                rintro ev w11 ⟨rfl, hb⟩
                have hk := HX10.out.next hb
                have HX11 := Lib.hid hk
                clear hb c0 c1 c2 c3 s0 s1 t0 t1
                obtain ⟨c0, c1, c2, c3, s0, s1, t0, t1⟩ := hk.cells
                clear hk
                have HG2 : gb = true ∨ gb = false := by cases gb <;> simp
                rcases HG2 with hgb | hgb
                · subst hgb
                  go_wp2
                  go_ret2
                  exact ⟨by rw [← HR.out]; rfl, HX11.out.1.2⟩
                · subst hgb
                  go_wp2
                  go_ret2
                  exact ⟨by rw [← HR.out]; rfl, HX11.out.1.2⟩
              · have HIN := Lib.hid (mod_Inverse_none _ _ lc h8 hm1 hg)
                rw [exK_none hk hv ⟨hl1, hl2⟩ hd hg]
                rw [← nS_num va, ← nS_num vb, ← nS_num v2] at HS1
                rw [← nS_num vr, ← nS_num vs, ← nS_num v2] at HS2
                rw [← nS_num v2] at HIN
                obtain ⟨z1, hz1⟩ : ∃ z, nS (sbM (num ac) (num bc) (num O)) = z := ⟨_, rfl⟩
                obtain ⟨z2, hz2⟩ : ∃ z, nS (sbM (num ar) (num br) (num O)) = z := ⟨_, rfl⟩
                obtain ⟨y1, hy1⟩ : ∃ z, nS n1 = z := ⟨_, rfl⟩
                obtain ⟨y2, hy2⟩ : ∃ z, nS n2 = z := ⟨_, rfl⟩
                rw [decide_eq_true h12, hy1, hy2] at hbz
                rw [hy1] at HC1
                rw [hy2] at HC2
                rw [hz1] at HS1 HIN
                rw [hz2] at HS2
                clear hk hv hM hO hG hY hac har hbc hbr hl1 hl2 hab va vr vb vs v1 v2 v3 v4 h8 hvv hchk hz hn1 hn2 h12 hd lm lc lr hm1 hg hz1 hz2 hy1 hy2
                unfold kV at *
                go_enter Tryz.func22, Tryz.ntmps22
                go_wp2_with fail
                try rw [hW0]
                clear hW0
                refine (HCK.out _).mono ?_
                rintro ev w1 ⟨rfl, hb⟩
                have hk := HX0.out.next hb
                have HX1 := Lib.hid hk
                clear hb c0 c1 c2 c3 s0 s1 t0 t1
                obtain ⟨c0, c1, c2, c3, s0, s1, t0, t1⟩ := hk.cells
                clear hk
                go_wp2_with fail
                refine (HFM.out _).mono ?_
                rintro ev w2 ⟨rfl, rfl⟩
                have hb : Below w1.heap.size w1 (w1.alloc (.cells #[.string ac, .string ar, .string bc, .string br] 22)) := (Below.refl _ _).alloc (Nat.le_refl _) _
                have hk := HX1.out.next hb
                have HX2 := Lib.hid hk
                clear hb c0 c1 c2 c3 s0 s1 t0 t1
                obtain ⟨c0, c1, c2, c3, s0, s1, t0, t1⟩ := hk.cells
                clear hk
                obtain ⟨w2, hw2⟩ : ∃ W, w1.alloc (.cells #[.string ac, .string ar, .string bc, .string br] 22) = W := ⟨_, rfl⟩
                rw [hw2] at HX2 c0 c1 c2 c3 s0 s1 t0 t1 ⊢
                clear hw2
                go_wp2_with fail
                refine (HL1.out _).mono ?_
                rintro ev w3 ⟨rfl, hb⟩
                have hk := HX2.out.next hb
                have HX3 := Lib.hid hk
                clear hb c0 c1 c2 c3 s0 s1 t0 t1
                obtain ⟨c0, c1, c2, c3, s0, s1, t0, t1⟩ := hk.cells
                clear hk
                go_wp2_with fail
                refine (HL2.out _).mono ?_
                rintro ev w4 ⟨rfl, hb⟩
                have hk := HX3.out.next hb
                have HX4 := Lib.hid hk
                clear hb c0 c1 c2 c3 s0 s1 t0 t1
                obtain ⟨c0, c1, c2, c3, s0, s1, t0, t1⟩ := hk.cells
                clear hk
                go_wp2
                obtain ⟨wd, hwd⟩ : ∃ wd, w4.drew = wd := ⟨_, rfl⟩
                have HXd := Lib.hid (show SX w wd M O G Y ac ar bc br from by rw [← hwd]; exact HX4.out.next (Below.refl _ _).drew)
                clear c0 c1 c2 c3 s0 s1 t0 t1
                obtain ⟨c0, c1, c2, c3, s0, s1, t0, t1⟩ := HXd.out.cells
                refine wp_region_K 14 (Below (wd).heap.size (wd)) (by kernel_rfl) ?_
                intro hD
                rw [hwd]
                refine wpAnyK_pureD (i := 0) (d := some 44) (v := ?v8_0b3) (fuel := 13) rfl (by kernel_rfl) (by kernel_rfl) (fun _ _ _ h => h) hD (Below.refl _ _) (.inl ⟨by kernel_rfl, ?y8_0b3⟩) ?n8_0b3
                case y8_0b3 => intro w' _; go_simp; with_reducible rfl
                clear hD; intro hD
                simp only [Act.put, sqA, sqB, sqC]
                refine wpAnyK_takeSD (i := 1) (d := some 45) (v := ?v8_1b3) (fuel := 12) rfl (by kernel_rfl) (by kernel_rfl) (by kernel_rfl) (fun _ _ _ h => h) hD (Below.refl _ _) (.inl ⟨by kernel_rfl, ?y8_1b3⟩) ?n8_1b3
                case y8_1b3 => intro w' hS'; have e0 := cell_kept hS' (Nat.le_refl _) c0; have e1 := cell_kept hS' (Nat.le_refl _) c1; have e2 := cell_kept hS' (Nat.le_refl _) c2; have e3 := cell_kept hS' (Nat.le_refl _) c3; have e4 := cell_kept hS' (Nat.le_refl _) s0; have e5 := cell_kept hS' (Nat.le_refl _) s1; have e6 := cell_kept hS' (Nat.le_refl _) t0; have e7 := cell_kept hS' (Nat.le_refl _) t1; go_simp; with_reducible rfl
                clear hD; intro hD
                simp only [Act.put, sqA, sqB, sqC]
                refine wpAnyK_pureD (i := 2) (d := some 46) (v := ?v8_2b3) (fuel := 11) rfl (by kernel_rfl) (by kernel_rfl) (fun _ _ _ h => h) hD (Below.refl _ _) (.inl ⟨by kernel_rfl, ?y8_2b3⟩) ?n8_2b3
                case y8_2b3 => intro w' _; go_simp; with_reducible rfl
                clear hD; intro hD
                simp only [Act.put, sqA, sqB, sqC]
                refine wpAnyK_takeSD (i := 3) (d := some 47) (v := ?v8_3b3) (fuel := 10) rfl (by kernel_rfl) (by kernel_rfl) (by kernel_rfl) (fun _ _ _ h => h) hD (Below.refl _ _) (.inl ⟨by kernel_rfl, ?y8_3b3⟩) ?n8_3b3
                case y8_3b3 => intro w' hS'; have e0 := cell_kept hS' (Nat.le_refl _) c0; have e1 := cell_kept hS' (Nat.le_refl _) c1; have e2 := cell_kept hS' (Nat.le_refl _) c2; have e3 := cell_kept hS' (Nat.le_refl _) c3; have e4 := cell_kept hS' (Nat.le_refl _) s0; have e5 := cell_kept hS' (Nat.le_refl _) s1; have e6 := cell_kept hS' (Nat.le_refl _) t0; have e7 := cell_kept hS' (Nat.le_refl _) t1; go_simp; with_reducible rfl
                clear hD; intro hD
                simp only [Act.put, sqA, sqB, sqC]
                refine wpAnyK_pureD (i := 4) (d := some 48) (v := ?v8_4b3) (fuel := 9) rfl (by kernel_rfl) (by kernel_rfl) (fun _ _ _ h => h) hD (Below.refl _ _) (.inl ⟨by kernel_rfl, ?y8_4b3⟩) ?n8_4b3
                case y8_4b3 => intro w' _; go_simp; with_reducible rfl
                clear hD; intro hD
                simp only [Act.put, sqA, sqB, sqC]
                refine wpAnyK_pureD (i := 5) (d := some 49) (v := ?v8_5b3) (fuel := 8) rfl (by kernel_rfl) (by kernel_rfl) (fun _ _ _ h => h) hD (Below.refl _ _) (.inl ⟨by kernel_rfl, ?y8_5b3⟩) ?n8_5b3
                case y8_5b3 => intro w' _; go_simp; with_reducible rfl
                clear hD; intro hD
                simp only [Act.put, sqA, sqB, sqC]
                refine wpAnyK_takeSD (i := 6) (d := some 50) (v := ?v8_6b3) (fuel := 7) rfl (by kernel_rfl) (by kernel_rfl) (by kernel_rfl) (fun _ _ _ h => h) hD (Below.refl _ _) (.inl ⟨by kernel_rfl, ?y8_6b3⟩) ?n8_6b3
                case y8_6b3 => intro w' hS'; have e0 := cell_kept hS' (Nat.le_refl _) c0; have e1 := cell_kept hS' (Nat.le_refl _) c1; have e2 := cell_kept hS' (Nat.le_refl _) c2; have e3 := cell_kept hS' (Nat.le_refl _) c3; have e4 := cell_kept hS' (Nat.le_refl _) s0; have e5 := cell_kept hS' (Nat.le_refl _) s1; have e6 := cell_kept hS' (Nat.le_refl _) t0; have e7 := cell_kept hS' (Nat.le_refl _) t1; go_simp; with_reducible rfl
                clear hD; intro hD
                simp only [Act.put, sqA, sqB, sqC]
                refine wpAnyK_takeSD (i := 7) (d := some 51) (v := ?v8_7b3) (fuel := 6) rfl (by kernel_rfl) (by kernel_rfl) (by kernel_rfl) (fun _ _ _ h => h) hD (Below.refl _ _) (.inl ⟨by kernel_rfl, ?y8_7b3⟩) ?n8_7b3
                case y8_7b3 => intro w' hS'; have e0 := cell_kept hS' (Nat.le_refl _) c0; have e1 := cell_kept hS' (Nat.le_refl _) c1; have e2 := cell_kept hS' (Nat.le_refl _) c2; have e3 := cell_kept hS' (Nat.le_refl _) c3; have e4 := cell_kept hS' (Nat.le_refl _) s0; have e5 := cell_kept hS' (Nat.le_refl _) s1; have e6 := cell_kept hS' (Nat.le_refl _) t0; have e7 := cell_kept hS' (Nat.le_refl _) t1; go_simp; with_reducible rfl
                clear hD; intro hD
                simp only [Act.put, sqA, sqB, sqC]
                refine wpAnyK_takeSD (i := 9) (d := some 53) (v := ?v8_9b3) (fuel := 5) rfl (by kernel_rfl) (by kernel_rfl) (by kernel_rfl) (fun _ _ _ h => h) hD (Below.refl _ _) (.inl ⟨by kernel_rfl, ?y8_9b3⟩) ?n8_9b3
                case y8_9b3 => intro w' hS'; have e0 := cell_kept hS' (Nat.le_refl _) c0; have e1 := cell_kept hS' (Nat.le_refl _) c1; have e2 := cell_kept hS' (Nat.le_refl _) c2; have e3 := cell_kept hS' (Nat.le_refl _) c3; have e4 := cell_kept hS' (Nat.le_refl _) s0; have e5 := cell_kept hS' (Nat.le_refl _) s1; have e6 := cell_kept hS' (Nat.le_refl _) t0; have e7 := cell_kept hS' (Nat.le_refl _) t1; go_simp; with_reducible rfl
                clear hD; intro hD
                simp only [Act.put, sqA, sqB, sqC]
                refine wpAnyK_takeSD (i := 10) (d := some 54) (v := ?v8_10b3) (fuel := 4) rfl (by kernel_rfl) (by kernel_rfl) (by kernel_rfl) (fun _ _ _ h => h) hD (Below.refl _ _) (.inl ⟨by kernel_rfl, ?y8_10b3⟩) ?n8_10b3
                case y8_10b3 => intro w' hS'; have e0 := cell_kept hS' (Nat.le_refl _) c0; have e1 := cell_kept hS' (Nat.le_refl _) c1; have e2 := cell_kept hS' (Nat.le_refl _) c2; have e3 := cell_kept hS' (Nat.le_refl _) c3; have e4 := cell_kept hS' (Nat.le_refl _) s0; have e5 := cell_kept hS' (Nat.le_refl _) s1; have e6 := cell_kept hS' (Nat.le_refl _) t0; have e7 := cell_kept hS' (Nat.le_refl _) t1; go_simp; with_reducible rfl
                clear hD; intro hD
                simp only [Act.put, sqA, sqB, sqC]
                refine wpAnyK_one (i := 8) (fuel := 3) (by kernel_rfl) rfl hD ?_
                clear hD; intro K8 hK8
                go_wp2_with fail
                refine (HC1.out _).mono ?_
                rintro ev w5 ⟨rfl, hb2⟩
                have HB8 := Lib.hid hb2
                clear hb2
                go_wp2
                refine hK8 _ _ (by exact HB8.out) ?_; clear hK8; intro hS_8_8 hD
                refine wpAnyK_one (i := 11) (fuel := 2) (by kernel_rfl) rfl hD ?_
                clear hD; intro K11 hK11
                go_wp2_with fail
                refine (HC2.out _).mono ?_
                rintro ev w6 ⟨rfl, hb3⟩
                have HB11 := Lib.hid hb3
                clear hb3
                go_wp2
                refine hK11 _ _ (by exact Below.trans hS_8_8 (Below.mono HB11.out (Below.size hS_8_8))) ?_; clear hK11; intro hS_8_11 hD
                have HL := Lib.hid hS_8_11
                refine wpAnyK_pureD (i := 12) (d := some 56) (v := ?v8_12b3) (fuel := 1) rfl (by kernel_rfl) (by kernel_rfl) (fun _ _ _ h => h) hD hS_8_11 (.inl ⟨by kernel_rfl, ?y8_12b3⟩) ?n8_12b3
                case y8_12b3 => intro w' _; go_simp; with_reducible rfl
                clear hD; intro hD
                simp only [Act.put, sqA, sqB, sqC]
                refine wpAnyK_pureD (i := 13) (d := some 57) (v := ?v8_13b3) (fuel := 0) rfl (by kernel_rfl) (by kernel_rfl) (fun _ _ _ h => h) hD hS_8_11 (.inl ⟨by kernel_rfl, ?y8_13b3⟩) ?n8_13b3
                case y8_13b3 => intro w' _; go_simp; with_reducible rfl
                clear hD; intro hD
                simp only [Act.put, sqA, sqB, sqC]
                refine wpAnyK_done (by kernel_rfl) ?_ 0
                clear hD
                have HX5 := Lib.hid (HXd.out.next HL.out)
                clear c0 c1 c2 c3 s0 s1 t0 t1
                obtain ⟨c0, c1, c2, c3, s0, s1, t0, t1⟩ := HX5.out.cells
                go_wp2_with fail
                refine (HS1.out _).mono ?_
                rintro ev w7 ⟨rfl, hb⟩
                have hk := HX5.out.next hb
                have HX7 := Lib.hid hk
                clear hb c0 c1 c2 c3 s0 s1 t0 t1
                obtain ⟨c0, c1, c2, c3, s0, s1, t0, t1⟩ := hk.cells
                clear hk
                go_wp2_with fail
                refine (HS2.out _).mono ?_
                rintro ev w8 ⟨rfl, hb⟩
                have hk := HX7.out.next hb
                have HX8 := Lib.hid hk
                clear hb c0 c1 c2 c3 s0 s1 t0 t1
                obtain ⟨c0, c1, c2, c3, s0, s1, t0, t1⟩ := hk.cells
                clear hk
                go_wp2_with fail
                refine (HIN.out _).mono ?_
                rintro ev w9 ⟨rfl, hb⟩
                have hk := HX8.out.next hb
                have HX9 := Lib.hid hk
                clear hb c0 c1 c2 c3 s0 s1 t0 t1
                obtain ⟨c0, c1, c2, c3, s0, s1, t0, t1⟩ := hk.cells
                clear hk
                go_wp2
                go_ret2
                exact ⟨rfl, HX9.out.1.2⟩
            · rw [exK_arg hk hv ⟨hl1, hl2⟩ (.inr (by rw [hn1, hn2]; exact h12))]
              obtain ⟨y1, hy1⟩ : ∃ z, nS n1 = z := ⟨_, rfl⟩
              obtain ⟨y2, hy2⟩ : ∃ z, nS n2 = z := ⟨_, rfl⟩
              rw [decide_eq_false h12, hy1, hy2] at hbz
              rw [hy1] at HC1
              rw [hy2] at HC2
              clear hk hv hM hO hG hY hac har hbc hbr hl1 hl2 hab va vr vb vs v1 v2 v3 v4 h8 hvv hchk hz hn1 hn2 h12 hy1 hy2
              unfold kV at *
              go_enter Tryz.func22, Tryz.ntmps22
              go_wp2_with fail
              try rw [hW0]
              clear hW0
              refine (HCK.out _).mono ?_
              rintro ev w1 ⟨rfl, hb⟩
              have hk := HX0.out.next hb
              have HX1 := Lib.hid hk
              clear hb c0 c1 c2 c3 s0 s1 t0 t1
              obtain ⟨c0, c1, c2, c3, s0, s1, t0, t1⟩ := hk.cells
              clear hk
              go_wp2_with fail
              refine (HFM.out _).mono ?_
              rintro ev w2 ⟨rfl, rfl⟩
              have hb : Below w1.heap.size w1 (w1.alloc (.cells #[.string ac, .string ar, .string bc, .string br] 22)) := (Below.refl _ _).alloc (Nat.le_refl _) _
              have hk := HX1.out.next hb
              have HX2 := Lib.hid hk
              clear hb c0 c1 c2 c3 s0 s1 t0 t1
              obtain ⟨c0, c1, c2, c3, s0, s1, t0, t1⟩ := hk.cells
              clear hk
              obtain ⟨w2, hw2⟩ : ∃ W, w1.alloc (.cells #[.string ac, .string ar, .string bc, .string br] 22) = W := ⟨_, rfl⟩
              rw [hw2] at HX2 c0 c1 c2 c3 s0 s1 t0 t1 ⊢
              clear hw2
              go_wp2_with fail
              refine (HL1.out _).mono ?_
              rintro ev w3 ⟨rfl, hb⟩
              have hk := HX2.out.next hb
              have HX3 := Lib.hid hk
              clear hb c0 c1 c2 c3 s0 s1 t0 t1
              obtain ⟨c0, c1, c2, c3, s0, s1, t0, t1⟩ := hk.cells
              clear hk
              go_wp2_with fail
              refine (HL2.out _).mono ?_
              rintro ev w4 ⟨rfl, hb⟩
              have hk := HX3.out.next hb
              have HX4 := Lib.hid hk
              clear hb c0 c1 c2 c3 s0 s1 t0 t1
              obtain ⟨c0, c1, c2, c3, s0, s1, t0, t1⟩ := hk.cells
              clear hk
              go_wp2
              obtain ⟨wd, hwd⟩ : ∃ wd, w4.drew = wd := ⟨_, rfl⟩
              have HXd := Lib.hid (show SX w wd M O G Y ac ar bc br from by rw [← hwd]; exact HX4.out.next (Below.refl _ _).drew)
              clear c0 c1 c2 c3 s0 s1 t0 t1
              obtain ⟨c0, c1, c2, c3, s0, s1, t0, t1⟩ := HXd.out.cells
              refine wp_region_K 14 (Below (wd).heap.size (wd)) (by kernel_rfl) ?_
              intro hD
              rw [hwd]
              refine wpAnyK_pureD (i := 0) (d := some 44) (v := ?v8_0b4) (fuel := 13) rfl (by kernel_rfl) (by kernel_rfl) (fun _ _ _ h => h) hD (Below.refl _ _) (.inl ⟨by kernel_rfl, ?y8_0b4⟩) ?n8_0b4
              case y8_0b4 => intro w' _; go_simp; with_reducible rfl
              clear hD; intro hD
              simp only [Act.put, sqA, sqB, sqC]
              refine wpAnyK_takeSD (i := 1) (d := some 45) (v := ?v8_1b4) (fuel := 12) rfl (by kernel_rfl) (by kernel_rfl) (by kernel_rfl) (fun _ _ _ h => h) hD (Below.refl _ _) (.inl ⟨by kernel_rfl, ?y8_1b4⟩) ?n8_1b4
              case y8_1b4 => intro w' hS'; have e0 := cell_kept hS' (Nat.le_refl _) c0; have e1 := cell_kept hS' (Nat.le_refl _) c1; have e2 := cell_kept hS' (Nat.le_refl _) c2; have e3 := cell_kept hS' (Nat.le_refl _) c3; have e4 := cell_kept hS' (Nat.le_refl _) s0; have e5 := cell_kept hS' (Nat.le_refl _) s1; have e6 := cell_kept hS' (Nat.le_refl _) t0; have e7 := cell_kept hS' (Nat.le_refl _) t1; go_simp; with_reducible rfl
              clear hD; intro hD
              simp only [Act.put, sqA, sqB, sqC]
              refine wpAnyK_pureD (i := 2) (d := some 46) (v := ?v8_2b4) (fuel := 11) rfl (by kernel_rfl) (by kernel_rfl) (fun _ _ _ h => h) hD (Below.refl _ _) (.inl ⟨by kernel_rfl, ?y8_2b4⟩) ?n8_2b4
              case y8_2b4 => intro w' _; go_simp; with_reducible rfl
              clear hD; intro hD
              simp only [Act.put, sqA, sqB, sqC]
              refine wpAnyK_takeSD (i := 3) (d := some 47) (v := ?v8_3b4) (fuel := 10) rfl (by kernel_rfl) (by kernel_rfl) (by kernel_rfl) (fun _ _ _ h => h) hD (Below.refl _ _) (.inl ⟨by kernel_rfl, ?y8_3b4⟩) ?n8_3b4
              case y8_3b4 => intro w' hS'; have e0 := cell_kept hS' (Nat.le_refl _) c0; have e1 := cell_kept hS' (Nat.le_refl _) c1; have e2 := cell_kept hS' (Nat.le_refl _) c2; have e3 := cell_kept hS' (Nat.le_refl _) c3; have e4 := cell_kept hS' (Nat.le_refl _) s0; have e5 := cell_kept hS' (Nat.le_refl _) s1; have e6 := cell_kept hS' (Nat.le_refl _) t0; have e7 := cell_kept hS' (Nat.le_refl _) t1; go_simp; with_reducible rfl
              clear hD; intro hD
              simp only [Act.put, sqA, sqB, sqC]
              refine wpAnyK_pureD (i := 4) (d := some 48) (v := ?v8_4b4) (fuel := 9) rfl (by kernel_rfl) (by kernel_rfl) (fun _ _ _ h => h) hD (Below.refl _ _) (.inl ⟨by kernel_rfl, ?y8_4b4⟩) ?n8_4b4
              case y8_4b4 => intro w' _; go_simp; with_reducible rfl
              clear hD; intro hD
              simp only [Act.put, sqA, sqB, sqC]
              refine wpAnyK_pureD (i := 5) (d := some 49) (v := ?v8_5b4) (fuel := 8) rfl (by kernel_rfl) (by kernel_rfl) (fun _ _ _ h => h) hD (Below.refl _ _) (.inl ⟨by kernel_rfl, ?y8_5b4⟩) ?n8_5b4
              case y8_5b4 => intro w' _; go_simp; with_reducible rfl
              clear hD; intro hD
              simp only [Act.put, sqA, sqB, sqC]
              refine wpAnyK_takeSD (i := 6) (d := some 50) (v := ?v8_6b4) (fuel := 7) rfl (by kernel_rfl) (by kernel_rfl) (by kernel_rfl) (fun _ _ _ h => h) hD (Below.refl _ _) (.inl ⟨by kernel_rfl, ?y8_6b4⟩) ?n8_6b4
              case y8_6b4 => intro w' hS'; have e0 := cell_kept hS' (Nat.le_refl _) c0; have e1 := cell_kept hS' (Nat.le_refl _) c1; have e2 := cell_kept hS' (Nat.le_refl _) c2; have e3 := cell_kept hS' (Nat.le_refl _) c3; have e4 := cell_kept hS' (Nat.le_refl _) s0; have e5 := cell_kept hS' (Nat.le_refl _) s1; have e6 := cell_kept hS' (Nat.le_refl _) t0; have e7 := cell_kept hS' (Nat.le_refl _) t1; go_simp; with_reducible rfl
              clear hD; intro hD
              simp only [Act.put, sqA, sqB, sqC]
              refine wpAnyK_takeSD (i := 7) (d := some 51) (v := ?v8_7b4) (fuel := 6) rfl (by kernel_rfl) (by kernel_rfl) (by kernel_rfl) (fun _ _ _ h => h) hD (Below.refl _ _) (.inl ⟨by kernel_rfl, ?y8_7b4⟩) ?n8_7b4
              case y8_7b4 => intro w' hS'; have e0 := cell_kept hS' (Nat.le_refl _) c0; have e1 := cell_kept hS' (Nat.le_refl _) c1; have e2 := cell_kept hS' (Nat.le_refl _) c2; have e3 := cell_kept hS' (Nat.le_refl _) c3; have e4 := cell_kept hS' (Nat.le_refl _) s0; have e5 := cell_kept hS' (Nat.le_refl _) s1; have e6 := cell_kept hS' (Nat.le_refl _) t0; have e7 := cell_kept hS' (Nat.le_refl _) t1; go_simp; with_reducible rfl
              clear hD; intro hD
              simp only [Act.put, sqA, sqB, sqC]
              refine wpAnyK_takeSD (i := 9) (d := some 53) (v := ?v8_9b4) (fuel := 5) rfl (by kernel_rfl) (by kernel_rfl) (by kernel_rfl) (fun _ _ _ h => h) hD (Below.refl _ _) (.inl ⟨by kernel_rfl, ?y8_9b4⟩) ?n8_9b4
              case y8_9b4 => intro w' hS'; have e0 := cell_kept hS' (Nat.le_refl _) c0; have e1 := cell_kept hS' (Nat.le_refl _) c1; have e2 := cell_kept hS' (Nat.le_refl _) c2; have e3 := cell_kept hS' (Nat.le_refl _) c3; have e4 := cell_kept hS' (Nat.le_refl _) s0; have e5 := cell_kept hS' (Nat.le_refl _) s1; have e6 := cell_kept hS' (Nat.le_refl _) t0; have e7 := cell_kept hS' (Nat.le_refl _) t1; go_simp; with_reducible rfl
              clear hD; intro hD
              simp only [Act.put, sqA, sqB, sqC]
              refine wpAnyK_takeSD (i := 10) (d := some 54) (v := ?v8_10b4) (fuel := 4) rfl (by kernel_rfl) (by kernel_rfl) (by kernel_rfl) (fun _ _ _ h => h) hD (Below.refl _ _) (.inl ⟨by kernel_rfl, ?y8_10b4⟩) ?n8_10b4
              case y8_10b4 => intro w' hS'; have e0 := cell_kept hS' (Nat.le_refl _) c0; have e1 := cell_kept hS' (Nat.le_refl _) c1; have e2 := cell_kept hS' (Nat.le_refl _) c2; have e3 := cell_kept hS' (Nat.le_refl _) c3; have e4 := cell_kept hS' (Nat.le_refl _) s0; have e5 := cell_kept hS' (Nat.le_refl _) s1; have e6 := cell_kept hS' (Nat.le_refl _) t0; have e7 := cell_kept hS' (Nat.le_refl _) t1; go_simp; with_reducible rfl
              clear hD; intro hD
              simp only [Act.put, sqA, sqB, sqC]
              refine wpAnyK_one (i := 8) (fuel := 3) (by kernel_rfl) rfl hD ?_
              clear hD; intro K8 hK8
              go_wp2_with fail
              refine (HC1.out _).mono ?_
              rintro ev w5 ⟨rfl, hb2⟩
              have HB8 := Lib.hid hb2
              clear hb2
              go_wp2
              refine hK8 _ _ (by exact HB8.out) ?_; clear hK8; intro hS_8_8 hD
              refine wpAnyK_one (i := 11) (fuel := 2) (by kernel_rfl) rfl hD ?_
              clear hD; intro K11 hK11
              go_wp2_with fail
              refine (HC2.out _).mono ?_
              rintro ev w6 ⟨rfl, hb3⟩
              have HB11 := Lib.hid hb3
              clear hb3
              go_wp2
              refine hK11 _ _ (by exact Below.trans hS_8_8 (Below.mono HB11.out (Below.size hS_8_8))) ?_; clear hK11; intro hS_8_11 hD
              have HL := Lib.hid hS_8_11
              refine wpAnyK_pureD (i := 12) (d := some 56) (v := ?v8_12b4) (fuel := 1) rfl (by kernel_rfl) (by kernel_rfl) (fun _ _ _ h => h) hD hS_8_11 (.inl ⟨by kernel_rfl, ?y8_12b4⟩) ?n8_12b4
              case y8_12b4 => intro w' _; go_simp; with_reducible rfl
              clear hD; intro hD
              simp only [Act.put, sqA, sqB, sqC]
              refine wpAnyK_pureD (i := 13) (d := some 57) (v := ?v8_13b4) (fuel := 0) rfl (by kernel_rfl) (by kernel_rfl) (fun _ _ _ h => h) hD hS_8_11 (.inl ⟨by kernel_rfl, ?y8_13b4⟩) ?n8_13b4
              case y8_13b4 => intro w' _; go_simp; with_reducible rfl
              clear hD; intro hD
              simp only [Act.put, sqA, sqB, sqC]
              refine wpAnyK_done (by kernel_rfl) ?_ 0
              clear hD
              have HX5 := Lib.hid (HXd.out.next HL.out)
              clear c0 c1 c2 c3 s0 s1 t0 t1
              obtain ⟨c0, c1, c2, c3, s0, s1, t0, t1⟩ := HX5.out.cells
              go_wp2
              go_ret2
              exact ⟨rfl, HX5.out.1.2⟩
        · rw [exK_range hk hv (fun h => hl2 h.2)]
          rw [decide_eq_false hl2] at HL2
          clear hk hv hM hO hG hY hac har hbc hbr hl1 hl2 va vr vb vs v1 v2 v3 v4 h8 hvv hchk hz
          unfold kV at *
          go_enter Tryz.func22, Tryz.ntmps22
          go_wp2_with fail
          try rw [hW0]
          clear hW0
          refine (HCK.out _).mono ?_
          rintro ev w1 ⟨rfl, hb⟩
          have hk := HX0.out.next hb
          have HX1 := Lib.hid hk
          clear hb c0 c1 c2 c3 s0 s1 t0 t1
          obtain ⟨c0, c1, c2, c3, s0, s1, t0, t1⟩ := hk.cells
          clear hk
          go_wp2_with fail
          refine (HFM.out _).mono ?_
          rintro ev w2 ⟨rfl, rfl⟩
          have hb : Below w1.heap.size w1 (w1.alloc (.cells #[.string ac, .string ar, .string bc, .string br] 22)) := (Below.refl _ _).alloc (Nat.le_refl _) _
          have hk := HX1.out.next hb
          have HX2 := Lib.hid hk
          clear hb c0 c1 c2 c3 s0 s1 t0 t1
          obtain ⟨c0, c1, c2, c3, s0, s1, t0, t1⟩ := hk.cells
          clear hk
          obtain ⟨w2, hw2⟩ : ∃ W, w1.alloc (.cells #[.string ac, .string ar, .string bc, .string br] 22) = W := ⟨_, rfl⟩
          rw [hw2] at HX2 c0 c1 c2 c3 s0 s1 t0 t1 ⊢
          clear hw2
          go_wp2_with fail
          refine (HL1.out _).mono ?_
          rintro ev w3 ⟨rfl, hb⟩
          have hk := HX2.out.next hb
          have HX3 := Lib.hid hk
          clear hb c0 c1 c2 c3 s0 s1 t0 t1
          obtain ⟨c0, c1, c2, c3, s0, s1, t0, t1⟩ := hk.cells
          clear hk
          go_wp2_with fail
          refine (HL2.out _).mono ?_
          rintro ev w4 ⟨rfl, hb⟩
          have hk := HX3.out.next hb
          have HX4 := Lib.hid hk
          clear hb c0 c1 c2 c3 s0 s1 t0 t1
          obtain ⟨c0, c1, c2, c3, s0, s1, t0, t1⟩ := hk.cells
          clear hk
          go_wp2
          go_ret2
          exact ⟨rfl, HX4.out.1.2⟩
      · rw [exK_range hk hv (fun h => hl1 h.1)]
        rw [decide_eq_false hl1] at HL1
        clear hk hv hM hO hG hY hac har hbc hbr hl1 va vr vb vs v1 v2 v3 v4 h8 hvv hchk hz
        unfold kV at *
        go_enter Tryz.func22, Tryz.ntmps22
        go_wp2_with fail
        try rw [hW0]
        clear hW0
        refine (HCK.out _).mono ?_
        rintro ev w1 ⟨rfl, hb⟩
        have hk := HX0.out.next hb
        have HX1 := Lib.hid hk
        clear hb c0 c1 c2 c3 s0 s1 t0 t1
        obtain ⟨c0, c1, c2, c3, s0, s1, t0, t1⟩ := hk.cells
        clear hk
        go_wp2_with fail
        refine (HFM.out _).mono ?_
        rintro ev w2 ⟨rfl, rfl⟩
        have hb : Below w1.heap.size w1 (w1.alloc (.cells #[.string ac, .string ar, .string bc, .string br] 22)) := (Below.refl _ _).alloc (Nat.le_refl _) _
        have hk := HX1.out.next hb
        have HX2 := Lib.hid hk
        clear hb c0 c1 c2 c3 s0 s1 t0 t1
        obtain ⟨c0, c1, c2, c3, s0, s1, t0, t1⟩ := hk.cells
        clear hk
        obtain ⟨w2, hw2⟩ : ∃ W, w1.alloc (.cells #[.string ac, .string ar, .string bc, .string br] 22) = W := ⟨_, rfl⟩
        rw [hw2] at HX2 c0 c1 c2 c3 s0 s1 t0 t1 ⊢
        clear hw2
        go_wp2_with fail
        refine (HL1.out _).mono ?_
        rintro ev w3 ⟨rfl, hb⟩
        have hk := HX2.out.next hb
        have HX3 := Lib.hid hk
        clear hb c0 c1 c2 c3 s0 s1 t0 t1
        obtain ⟨c0, c1, c2, c3, s0, s1, t0, t1⟩ := hk.cells
        clear hk
        go_wp2
        go_ret2
        exact ⟨rfl, HX3.out.1.2⟩
  · rw [exK_no hk]
    obtain ⟨k, hkk⟩ : ∃ k, scK M O G Y = k := ⟨_, rfl⟩
    rw [hkk] at hk HCK ⊢
    have hk2 : (k == 0) = false := by simpa using hk
    clear hkk hM hO hG hY hac har hbc hbr
    unfold kV at *
    go_enter Tryz.func22, Tryz.ntmps22
    go_wp2_with fail
    try rw [hW0]
    clear hW0
    refine (HCK.out _).mono ?_
    rintro ev w1 ⟨rfl, hb⟩
    have hk := HX0.out.next hb
    have HX1 := Lib.hid hk
    clear hb c0 c1 c2 c3 s0 s1 t0 t1
    obtain ⟨c0, c1, c2, c3, s0, s1, t0, t1⟩ := hk.cells
    clear hk
    go_wp2
    go_ret2
    exact ⟨rfl, HX1.out.1.2⟩
end Go.Proofs.YtndmjfkmnjejkaaGreatDoor
/- Walk: dominolaw09.Few. -/
set_option linter.unusedVariables false
set_option linter.unusedSimpArgs false
namespace Go.Proofs.YtndmjfkmnjejkaaGreatDoor
open Go.RowKit Go.Shelf
attribute [local go_sem] Oper.semAt_some
def few9 (M O : ByteArray) (l : List ByteArray) : Bool := l.all (fun s => decide (s.size ≤ 20)) && (decide (M.size ≤ 8) && decide (O.size ≤ 10))
theorem few9_big {M O : ByteArray} {l : List ByteArray} {k : Nat} {s : ByteArray} (h : l[k]? = some s) (hb : 20 < s.size) : few9 M O l = false := by
  unfold few9
  have : l.all (fun s => decide (s.size ≤ 20)) = false := by
    rw [List.all_eq_false]
    exact ⟨s, List.mem_of_getElem? h, by simp; omega⟩
  rw [this]; rfl
theorem few9_all {M O : ByteArray} {l : List ByteArray} (h : ∀ k, k < l.length → ∃ s, l[k]? = some s ∧ s.size ≤ 20) : few9 M O l = (decide (M.size ≤ 8) && decide (O.size ≤ 10)) := by
  unfold few9
  have : l.all (fun s => decide (s.size ≤ 20)) = true := by
    rw [List.all_eq_true]
    intro s hs
    obtain ⟨k, hk⟩ := List.mem_iff_getElem?.1 hs
    obtain ⟨s', h1, h2⟩ := h k (List.getElem?_eq_some_iff.1 hk).1
    rw [hk] at h1
    cases h1
    exact decide_eq_true h2
  rw [this]; rfl
theorem few9_of {M O : ByteArray} {l : List ByteArray} (h : few9 M O l = true) : M.size ≤ 8 ∧ O.size ≤ 10 ∧ ∀ s ∈ l, s.size ≤ 20 := by
  unfold few9 at h
  simp only [Bool.and_eq_true, decide_eq_true_eq, List.all_eq_true] at h
  exact ⟨h.2.1, h.2.2, h.1⟩
set_option maxRecDepth 100000 in
set_option maxHeartbeats 1000000 in
theorem law_Few (M O : ByteArray) (l : List ByteArray) (A : Option Addr) (len cap : Nat) (hl : len ≤ 1000) (w : World) (hs : SlN w A len cap l) : Calls Tryz.prog 24 #[gV M O, .slice A len cap] w (Ret (.bool (few9 M O l)) w) := by
  have HX0 := Lib.hid (Bx2.new w (.string M) (.string O) 24)
  have HB0 := Lib.hid ((Below.refl w.heap.size w).alloc (Nat.le_refl _) (.cells #[.string M, .string O] 24))
  have c0 := HX0.out.c0
  have c1 := HX0.out.c1
  have HS := Lib.hid (hs.kept HB0.out (Nat.le_refl _))
  have HLEN := Lib.hid hs.1
  have hcap := hs.2.1
  have hcap2 := hs.2.2.1
  clear hs
  unfold gV
  go_enter Tryz.func24, Tryz.ntmps24
  go_wp2
  go_loop [5] (fun i => ∃ k : Nat, k ≤ len ∧ i = .int .i64 k ∧ ∀ j, j < k → ∃ s, l[j]? = some s ∧ s.size ≤ 20) (fun i => len - (intOf i).toNat)
  case atStart => exact ⟨0, Nat.zero_le _, rfl, fun j h => by omega⟩
  case round =>
    obtain ⟨k, hk, rfl, hall⟩ := hrel
    have HALL := Lib.hid hall
    clear hall
    by_cases hlt : k < len
    · obtain ⟨b, o, rfl⟩ := HS.out.head (by omega)
      obtain ⟨s, he⟩ : ∃ s, l[k]? = some s := ⟨_, List.getElem?_eq_getElem (by rw [HLEN.out]; exact hlt)⟩
      have d0 := HS.out.get? k he
      have HE := Lib.hid he
      clear he
      by_cases h1 : 20 < s.size
      · have HF := Lib.hid (few9_big (M := M) (O := O) HE.out h1)
        have i1 : decide ((20 : Int) < (s.size : Int)) = true := decide_eq_true (by omega)
        go_wp2
        go_ret
        exact ⟨by rw [HF.out]; rfl, HB0.out⟩
      · have i1 : decide ((20 : Int) < (s.size : Int)) = false := decide_eq_false (by omega)
        go_wp2
        go_round
        case rel =>
          refine ⟨k + 1, by omega, by go_num, fun j hj => ?_⟩
          by_cases hjk : j < k
          · exact HALL.out j hjk
          · obtain rfl : j = k := by omega
            exact ⟨s, HE.out, by omega⟩
        case measure => simp [intOf]; omega
    · obtain rfl : k = len := by omega
      have HF := Lib.hid (few9_all (M := M) (O := O) (l := l) (fun j hj => HALL.out j (by have := HLEN.out; omega)))
      by_cases h8 : M.size ≤ 8
      · rw [decide_eq_true h8, Bool.true_and] at HF
        have h8' : (M.size : Int) ≤ 8 := by omega
        by_cases h10 : O.size ≤ 10
        · rw [decide_eq_true h10] at HF
          have h10' : (O.size : Int) ≤ 10 := by omega
          go_wp2
          go_ret
          exact ⟨by rw [HF.out]; rfl, HB0.out⟩
        · rw [decide_eq_false h10] at HF
          have h10' : decide ((O.size : Int) ≤ 10) = false := decide_eq_false (by omega)
          go_wp2
          go_ret
          exact ⟨by rw [HF.out]; rfl, HB0.out⟩
      · rw [decide_eq_false h8, Bool.false_and] at HF
        have h8' : decide ((M.size : Int) ≤ 8) = false := decide_eq_false (by omega)
        go_wp2
        go_ret
        exact ⟨by rw [HF.out]; rfl, HB0.out⟩
end Go.Proofs.YtndmjfkmnjejkaaGreatDoor
/- Walks: dominolaw33.Few, dominolaw33.awake. -/
set_option linter.unusedVariables false
set_option linter.unusedSimpArgs false
namespace Go.Proofs.YtndmjfkmnjejkaaGreatDoor
open Go.RowKit Go.Lib
theorem ex33_mk : mkN ⟨#[23]⟩ ⟨#[11]⟩ ⟨#[4]⟩ [⟨#[2]⟩] ⟨#[]⟩ 0 = (18, 3, 0) := by decide +kernel
theorem ex33_x1 : exK ⟨#[23]⟩ ⟨#[11]⟩ ⟨#[4]⟩ ⟨#[18]⟩ ⟨#[1]⟩ ⟨#[5]⟩ ⟨#[2]⟩ ⟨#[8]⟩ = (⟨#[3]⟩, 0) := by decide +kernel
theorem ex33_x2 : exK ⟨#[23]⟩ ⟨#[11]⟩ ⟨#[4]⟩ ⟨#[18]⟩ ⟨#[1]⟩ ⟨#[5]⟩ ⟨#[2]⟩ ⟨#[7]⟩ = (⟨#[]⟩, 1) := by decide +kernel
theorem ex33_ck : scK ⟨#[23]⟩ ⟨#[11]⟩ ⟨#[4]⟩ ⟨#[18]⟩ = 0 := by decide +kernel
theorem ex33_make (B : Nat) (w : World) (hs : SlN w (some ⟨B, 0, none⟩) 1 1 [⟨#[2]⟩]) : Calls Tryz.prog 26 #[gV ⟨#[23]⟩ ⟨#[11]⟩, .string ⟨#[4]⟩, .agg #[.slice (some ⟨B, 0, none⟩) 1 1, .string ⟨#[]⟩, .int .i64 0]] w (fun en w' => ∃ A c, en = .returned (.tuple #[.agg #[.string ⟨#[23]⟩, .string ⟨#[11]⟩, .string ⟨#[4]⟩, .string ⟨#[18]⟩], .string ⟨#[3]⟩, .agg #[.slice A 1 c, .string ⟨#[]⟩, .int .i64 1], .int .i64 0]) ∧ Below w.heap.size w w') := by
  have h := sc_Make_of ⟨#[23]⟩ ⟨#[11]⟩ ⟨#[4]⟩ [⟨#[2]⟩] ⟨#[]⟩ 0 (some ⟨B, 0, none⟩) 1 1 (by decide) (by decide) (by decide) (by decide) (by decide) w (fun _ W _ hW => co_BelowV [⟨#[2]⟩] ⟨#[]⟩ 0 (num ⟨#[11]⟩ - 1) (some ⟨B, 0, none⟩) 1 1 (by decide) (by decide) (by decide) (by decide +kernel) W hW) hs
  rw [ex33_mk] at h
  refine h.mono ?_
  rintro en w' ⟨A, c, rfl, _, _, hb⟩
  exact ⟨A, c, by rw [show nS ((18, 3, 0) : Nat × Nat × Int).2.1 = ⟨#[3]⟩ from rfl, show mkK ⟨#[23]⟩ ⟨#[11]⟩ ⟨#[4]⟩ (18, 3, 0) = #[.string ⟨#[23]⟩, .string ⟨#[11]⟩, .string ⟨#[4]⟩, .string (nS 18)] from rfl, show nS 18 = ⟨#[18]⟩ from rfl]; rfl, hb⟩
set_option maxRecDepth 100000 in
set_option maxHeartbeats 4000000 in
theorem law33_awake (w : World) : Calls Tryz.prog 19 #[] w (Ret (.bool true) w) := by
  obtain ⟨W0, hW0⟩ : ∃ W, w.alloc (.cells #[.string ⟨#[23]⟩, .string ⟨#[11]⟩] 24) = W := ⟨_, rfl⟩
  have hx0 : Bx2 W0 w.heap.size (.string ⟨#[23]⟩) (.string ⟨#[11]⟩) 24 := hW0 ▸ Bx2.new _ _ _ _
  have hb0 : Below w.heap.size w W0 := hW0 ▸ (Below.refl _ _).alloc (Nat.le_refl _) _
  have hb1 := (Below.refl W0.heap.size W0).alloc (Nat.le_refl _) (.cells #[.string ⟨#[2]⟩] 22)
  have HMK := Lib.hid (ex33_make W0.heap.size _ (sln_alloc W0 [⟨#[2]⟩] 22 (by simp)))
  have HX0 := Lib.hid hx0
  have HX1 := Lib.hid (hx0.next hb1)
  have HB1 := Lib.hid (hb0.trans (hb1.mono hb0.size))
  have c0 := hx0.c0
  have c1 := hx0.c1
  have HE1 := Lib.hid (fun w => sc_Extract ⟨#[23]⟩ ⟨#[11]⟩ ⟨#[4]⟩ ⟨#[18]⟩ ⟨#[1]⟩ ⟨#[5]⟩ ⟨#[2]⟩ ⟨#[8]⟩ (by decide) (by decide) (by decide) (by decide) (by decide) (by decide) (by decide) (by decide) w)
  have HE2 := Lib.hid (fun w => sc_Extract ⟨#[23]⟩ ⟨#[11]⟩ ⟨#[4]⟩ ⟨#[18]⟩ ⟨#[1]⟩ ⟨#[5]⟩ ⟨#[2]⟩ ⟨#[7]⟩ (by decide) (by decide) (by decide) (by decide) (by decide) (by decide) (by decide) (by decide) w)
  have HCK := Lib.hid (fun w => sc_Check ⟨#[23]⟩ ⟨#[11]⟩ ⟨#[4]⟩ ⟨#[18]⟩ (by decide) (by decide) (by decide) (by decide) w)
  rw [ex33_x1] at HE1
  rw [ex33_x2] at HE2
  rw [ex33_ck] at HCK
  unfold kV gV at *
  clear hx0 hb0 hb1
  go_enter Tryz.func19, Tryz.ntmps19
  go_wp2_with fail
  try rw [hW0]
  clear hW0
  refine HMK.out.mono ?_
  rintro ev w2 ⟨A, c, rfl, hb⟩
  have HX2 := Lib.hid (HX1.out.next hb)
  have HB2 := Lib.hid (HB1.out.trans (hb.mono HB1.out.size))
  clear hb c0 c1
  go_upto_region 3 with (fail)
  obtain ⟨P, hP⟩ : ∃ P, w2.heap.size = P := ⟨_, rfl⟩
  have hk3 := (Bx4.new w2 (.string ⟨#[23]⟩) (.string ⟨#[11]⟩) (.string ⟨#[4]⟩) (.string ⟨#[18]⟩) 46).next ((Below.refl _ _).alloc (Nat.le_refl _) (.cells #[.slice A 1 c, .string ⟨#[]⟩, .int .i64 1] 31))
  have ht3 := TB.new (w2.alloc (.cells #[.string ⟨#[23]⟩, .string ⟨#[11]⟩, .string ⟨#[4]⟩, .string ⟨#[18]⟩] 46)) A 1 c ⟨#[]⟩ 1
  have hb3 := ((Below.refl w2.heap.size w2).alloc (Nat.le_refl _) (.cells #[.string ⟨#[23]⟩, .string ⟨#[11]⟩, .string ⟨#[4]⟩, .string ⟨#[18]⟩] 46)).alloc (by simp) (.cells #[.slice A 1 c, .string ⟨#[]⟩, .int .i64 1] 31)
  rw [World.size_alloc] at ht3
  obtain ⟨W3, hW3⟩ : ∃ W, (w2.alloc (.cells #[.string ⟨#[23]⟩, .string ⟨#[11]⟩, .string ⟨#[4]⟩, .string ⟨#[18]⟩] 46)).alloc (.cells #[.slice A 1 c, .string ⟨#[]⟩, .int .i64 1] 31) = W := ⟨_, rfl⟩
  rw [hW3] at hk3 ht3 hb3 ⊢
  have HX3 := Lib.hid (HX2.out.next hb3)
  have HB3 := Lib.hid (HB2.out.trans (hb3.mono HB2.out.size))
  rw [hP] at hk3 ht3 ⊢
  have HK3 := Lib.hid hk3
  have HT3 := Lib.hid ht3
  clear hW3 hk3 ht3 hb3 hP
  obtain ⟨k0, k1, k2, k3⟩ := HK3.out.cells
  go_wp2_with fail
  refine (HE1.out _).mono ?_
  rintro ev w4 ⟨rfl, hb⟩
  have HX4 := Lib.hid (HX3.out.next hb)
  have HB4 := Lib.hid (HB3.out.trans (hb.mono HB3.out.size))
  have HK4 := Lib.hid (HK3.out.next hb)
  have HT4 := Lib.hid (HT3.out.nextT hb)
  clear hb k0 k1 k2 k3
  obtain ⟨k0, k1, k2, k3⟩ := HK4.out.cells
  go_wp2_with fail
  refine (HE2.out _).mono ?_
  rintro ev w5 ⟨rfl, hb⟩
  have HX5 := Lib.hid (HX4.out.next hb)
  have HB5 := Lib.hid (HB4.out.trans (hb.mono HB4.out.size))
  have HK5 := Lib.hid (HK4.out.next hb)
  have HT5 := Lib.hid (HT4.out.nextT hb)
  clear hb k0 k1 k2 k3
  obtain ⟨k0, k1, k2, k3⟩ := HK5.out.cells
  obtain ⟨t0, t1, t2⟩ := HT5.out.c
  have c0 := HX5.out.c0
  have c1 := HX5.out.c1
  go_wp2_with fail
  refine (HCK.out _).mono ?_
  rintro ev w6 ⟨rfl, hb⟩
  have HB6 := Lib.hid (HB5.out.trans (hb.mono HB5.out.size))
  clear hb k0 k1 k2 k3 t0 t1 t2 c0 c1
  go_wp2
  go_ret
  exact ⟨rfl, HB6.out⟩
end Go.Proofs.YtndmjfkmnjejkaaGreatDoor

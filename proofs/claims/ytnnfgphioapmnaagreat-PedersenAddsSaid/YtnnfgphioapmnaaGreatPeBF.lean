/- Walks: dominoref14.element, Add, Scale. -/
import Derived.Test.YtnnfgphioapmnaaGreatPeBD
set_option linter.unusedVariables false
set_option linter.unusedSimpArgs false
namespace Go.Proofs.YtnnfgphioapmnaaGreat
open Go.RowKit

/-- The error of a key and a commitment. -/
def elR (M O G H c : ByteArray) (other : Bool) : Int := if (kF M O G H && (nvalid c && other)) = false then 3 else if pkC M O G H = 0 then (if hasK M O c = false then 13 else 0) else pkC M O G H



set_option maxRecDepth 100000 in
set_option maxHeartbeats 4000000 in
theorem r14_element (M O G H c : ByteArray) (other : Bool) (hM : M.size ≤ 8) (hO : O.size ≤ 8) (hG : G.size ≤ 1000) (hH : H.size ≤ 1000) (hc : c.size ≤ 1000) (w : World) : Calls Tryz.prog 45 #[kV M O G H, .string c, .bool other] w (Ret (.int .i64 (elR M O G H c other)) w) := by
  have HF := Lib.hid (r14_form M O G H (by omega) (by omega) hG hH)
  have HVC := Lib.hid (r01_Valid c (by omega))
  have HCK := Lib.hid (r14_Check M O G H hM hO hG hH)
  have HHS := Lib.hid (fun hv => r13_Has M O c hM hO hv)
  have HRV := Lib.hid (show ∃ R, elR M O G H c other = R from ⟨_, rfl⟩)
  obtain ⟨R, hR⟩ := HRV.out
  have HRR := Lib.hid hR
  rw [hR]
  clear hM hO hG hH hc hR HRV
  unfold kV gV at *
  cases hf : kF M O G H with
  | false =>
    have HR := Lib.hid (show R = 3 from by rw [← HRR.out]; unfold elR; rw [hf]; rfl)
    rw [hf] at HF
    rw [HR.out]
    clear hf
    go_enter Tryz.func45, Tryz.ntmps45
    have hx0 := Bx4.new w (.string M) (.string O) (.string G) (.string H) 26
    have hb0 := (Below.refl w.heap.size w).alloc (Nat.le_refl _) (.cells #[.string M, .string O, .string G, .string H] 26)
    obtain ⟨W0, hW0⟩ : ∃ W, w.alloc (.cells #[.string M, .string O, .string G, .string H] 26) = W := ⟨_, rfl⟩
    rw [hW0] at hx0 hb0
    have HX0 := Lib.hid hx0
    have HB0 := Lib.hid hb0
    obtain ⟨c0, c1, c2, c3⟩ := hx0.cells
    clear hx0 hb0
    go_wp2_with fail
    try rw [hW0]
    clear hW0
    refine (HF.out _).mono ?_
    rintro ev w1 ⟨rfl, hb⟩
    have hx := HX0.out.next hb
    have HX0 := Lib.hid hx
    have HB0 := Lib.hid (HB0.out.trans (hb.mono HB0.out.size))
    clear hb c0 c1 c2 c3
    obtain ⟨c0, c1, c2, c3⟩ := hx.cells
    clear hx
    go_wp2
    go_ret
    exact ⟨rfl, HB0.out⟩
  | true =>
    rw [hf] at HF
    cases hvc : nvalid c with
    | false =>
      have HR := Lib.hid (show R = 3 from by rw [← HRR.out]; unfold elR; rw [hf, hvc]; rfl)
      rw [hvc] at HVC
      rw [HR.out]
      clear hf hvc
      go_enter Tryz.func45, Tryz.ntmps45
      have hx0 := Bx4.new w (.string M) (.string O) (.string G) (.string H) 26
      have hb0 := (Below.refl w.heap.size w).alloc (Nat.le_refl _) (.cells #[.string M, .string O, .string G, .string H] 26)
      obtain ⟨W0, hW0⟩ : ∃ W, w.alloc (.cells #[.string M, .string O, .string G, .string H] 26) = W := ⟨_, rfl⟩
      rw [hW0] at hx0 hb0
      have HX0 := Lib.hid hx0
      have HB0 := Lib.hid hb0
      obtain ⟨c0, c1, c2, c3⟩ := hx0.cells
      clear hx0 hb0
      go_wp2_with fail
      try rw [hW0]
      clear hW0
      refine (HF.out _).mono ?_
      rintro ev w1 ⟨rfl, hb⟩
      have hx := HX0.out.next hb
      have HX0 := Lib.hid hx
      have HB0 := Lib.hid (HB0.out.trans (hb.mono HB0.out.size))
      clear hb c0 c1 c2 c3
      obtain ⟨c0, c1, c2, c3⟩ := hx.cells
      clear hx
      go_wp2_with fail
      refine (HVC.out _).mono ?_
      rintro ev w1 ⟨rfl, rfl⟩
      go_wp2
      go_ret
      exact ⟨rfl, HB0.out⟩
    | true =>
      have HHH := Lib.hid (HHS.out hvc)
      rw [hvc] at HVC
      cases other with
      | false =>
        have HR := Lib.hid (show R = 3 from by rw [← HRR.out]; unfold elR; rw [hf, hvc]; rfl)
        rw [HR.out]
        clear hf hvc
        go_enter Tryz.func45, Tryz.ntmps45
        have hx0 := Bx4.new w (.string M) (.string O) (.string G) (.string H) 26
        have hb0 := (Below.refl w.heap.size w).alloc (Nat.le_refl _) (.cells #[.string M, .string O, .string G, .string H] 26)
        obtain ⟨W0, hW0⟩ : ∃ W, w.alloc (.cells #[.string M, .string O, .string G, .string H] 26) = W := ⟨_, rfl⟩
        rw [hW0] at hx0 hb0
        have HX0 := Lib.hid hx0
        have HB0 := Lib.hid hb0
        obtain ⟨c0, c1, c2, c3⟩ := hx0.cells
        clear hx0 hb0
        go_wp2_with fail
        try rw [hW0]
        clear hW0
        refine (HF.out _).mono ?_
        rintro ev w1 ⟨rfl, hb⟩
        have hx := HX0.out.next hb
        have HX0 := Lib.hid hx
        have HB0 := Lib.hid (HB0.out.trans (hb.mono HB0.out.size))
        clear hb c0 c1 c2 c3
        obtain ⟨c0, c1, c2, c3⟩ := hx.cells
        clear hx
        go_wp2_with fail
        refine (HVC.out _).mono ?_
        rintro ev w1 ⟨rfl, rfl⟩
        go_wp2
        go_ret
        exact ⟨rfl, HB0.out⟩
      | true =>
        by_cases hc : pkC M O G H = 0
        · cases hh : hasK M O c with
          | false =>
            have HR := Lib.hid (show R = 13 from by rw [← HRR.out]; unfold elR; rw [hf, hvc, hh, if_neg (by decide), if_pos hc]; rfl)
            rw [hc] at HCK
            rw [hh] at HHH
            rw [HR.out]
            clear hf hvc hc hh
            go_enter Tryz.func45, Tryz.ntmps45
            have hx0 := Bx4.new w (.string M) (.string O) (.string G) (.string H) 26
            have hb0 := (Below.refl w.heap.size w).alloc (Nat.le_refl _) (.cells #[.string M, .string O, .string G, .string H] 26)
            obtain ⟨W0, hW0⟩ : ∃ W, w.alloc (.cells #[.string M, .string O, .string G, .string H] 26) = W := ⟨_, rfl⟩
            rw [hW0] at hx0 hb0
            have HX0 := Lib.hid hx0
            have HB0 := Lib.hid hb0
            obtain ⟨c0, c1, c2, c3⟩ := hx0.cells
            clear hx0 hb0
            go_wp2_with fail
            try rw [hW0]
            clear hW0
            refine (HF.out _).mono ?_
            rintro ev w1 ⟨rfl, hb⟩
            have hx := HX0.out.next hb
            have HX0 := Lib.hid hx
            have HB0 := Lib.hid (HB0.out.trans (hb.mono HB0.out.size))
            clear hb c0 c1 c2 c3
            obtain ⟨c0, c1, c2, c3⟩ := hx.cells
            clear hx
            go_wp2_with fail
            refine (HVC.out _).mono ?_
            rintro ev w1 ⟨rfl, rfl⟩
            go_wp2_with fail
            refine (HCK.out _).mono ?_
            rintro ev w3 ⟨rfl, hb⟩
            have hx := HX0.out.next hb
            have HX0 := Lib.hid hx
            have HB0 := Lib.hid (HB0.out.trans (hb.mono HB0.out.size))
            clear hb c0 c1 c2 c3
            obtain ⟨c0, c1, c2, c3⟩ := hx.cells
            clear hx
            go_wp2_with fail
            refine (HHH.out _).mono ?_
            rintro ev w4 ⟨rfl, hb⟩
            have hx := HX0.out.next hb
            have HX0 := Lib.hid hx
            have HB0 := Lib.hid (HB0.out.trans (hb.mono HB0.out.size))
            clear hb c0 c1 c2 c3
            obtain ⟨c0, c1, c2, c3⟩ := hx.cells
            clear hx
            go_wp2
            go_ret
            exact ⟨rfl, HB0.out⟩
          | true =>
            have HR := Lib.hid (show R = 0 from by rw [← HRR.out]; unfold elR; rw [hf, hvc, hh, if_neg (by decide), if_pos hc]; rfl)
            rw [hc] at HCK
            rw [hh] at HHH
            rw [HR.out]
            clear hf hvc hc hh
            go_enter Tryz.func45, Tryz.ntmps45
            have hx0 := Bx4.new w (.string M) (.string O) (.string G) (.string H) 26
            have hb0 := (Below.refl w.heap.size w).alloc (Nat.le_refl _) (.cells #[.string M, .string O, .string G, .string H] 26)
            obtain ⟨W0, hW0⟩ : ∃ W, w.alloc (.cells #[.string M, .string O, .string G, .string H] 26) = W := ⟨_, rfl⟩
            rw [hW0] at hx0 hb0
            have HX0 := Lib.hid hx0
            have HB0 := Lib.hid hb0
            obtain ⟨c0, c1, c2, c3⟩ := hx0.cells
            clear hx0 hb0
            go_wp2_with fail
            try rw [hW0]
            clear hW0
            refine (HF.out _).mono ?_
            rintro ev w1 ⟨rfl, hb⟩
            have hx := HX0.out.next hb
            have HX0 := Lib.hid hx
            have HB0 := Lib.hid (HB0.out.trans (hb.mono HB0.out.size))
            clear hb c0 c1 c2 c3
            obtain ⟨c0, c1, c2, c3⟩ := hx.cells
            clear hx
            go_wp2_with fail
            refine (HVC.out _).mono ?_
            rintro ev w1 ⟨rfl, rfl⟩
            go_wp2_with fail
            refine (HCK.out _).mono ?_
            rintro ev w3 ⟨rfl, hb⟩
            have hx := HX0.out.next hb
            have HX0 := Lib.hid hx
            have HB0 := Lib.hid (HB0.out.trans (hb.mono HB0.out.size))
            clear hb c0 c1 c2 c3
            obtain ⟨c0, c1, c2, c3⟩ := hx.cells
            clear hx
            go_wp2_with fail
            refine (HHH.out _).mono ?_
            rintro ev w4 ⟨rfl, hb⟩
            have hx := HX0.out.next hb
            have HX0 := Lib.hid hx
            have HB0 := Lib.hid (HB0.out.trans (hb.mono HB0.out.size))
            clear hb c0 c1 c2 c3
            obtain ⟨c0, c1, c2, c3⟩ := hx.cells
            clear hx
            go_wp2
            go_ret
            exact ⟨rfl, HB0.out⟩
        · have HR := Lib.hid (show R = pkC M O G H from by rw [← HRR.out]; unfold elR; rw [hf, hvc, if_neg (by decide), if_neg hc])
          rw [HR.out]
          obtain ⟨cc, hcc⟩ : ∃ cc, pkC M O G H = cc := ⟨_, rfl⟩
          rw [hcc] at HCK hc ⊢
          have hcb : (cc == 0) = false := by rw [beq_eq_false_iff_ne]; exact hc
          have hcb2 : (cc != 0) = true := by rw [bne, hcb]; rfl
          clear hf hvc hc hcc
          go_enter Tryz.func45, Tryz.ntmps45
          have hx0 := Bx4.new w (.string M) (.string O) (.string G) (.string H) 26
          have hb0 := (Below.refl w.heap.size w).alloc (Nat.le_refl _) (.cells #[.string M, .string O, .string G, .string H] 26)
          obtain ⟨W0, hW0⟩ : ∃ W, w.alloc (.cells #[.string M, .string O, .string G, .string H] 26) = W := ⟨_, rfl⟩
          rw [hW0] at hx0 hb0
          have HX0 := Lib.hid hx0
          have HB0 := Lib.hid hb0
          obtain ⟨c0, c1, c2, c3⟩ := hx0.cells
          clear hx0 hb0
          go_wp2_with fail
          try rw [hW0]
          clear hW0
          refine (HF.out _).mono ?_
          rintro ev w1 ⟨rfl, hb⟩
          have hx := HX0.out.next hb
          have HX0 := Lib.hid hx
          have HB0 := Lib.hid (HB0.out.trans (hb.mono HB0.out.size))
          clear hb c0 c1 c2 c3
          obtain ⟨c0, c1, c2, c3⟩ := hx.cells
          clear hx
          go_wp2_with fail
          refine (HVC.out _).mono ?_
          rintro ev w1 ⟨rfl, rfl⟩
          go_wp2_with fail
          refine (HCK.out _).mono ?_
          rintro ev w3 ⟨rfl, hb⟩
          have hx := HX0.out.next hb
          have HX0 := Lib.hid hx
          have HB0 := Lib.hid (HB0.out.trans (hb.mono HB0.out.size))
          clear hb c0 c1 c2 c3
          obtain ⟨c0, c1, c2, c3⟩ := hx.cells
          clear hx
          go_wp2
          go_ret
          exact ⟨rfl, HB0.out⟩
end Go.Proofs.YtnnfgphioapmnaaGreat
/- The reference's Add, Scale, Shift return what the program's do: plain laws. -/
set_option linter.unusedVariables false
set_option linter.unusedSimpArgs false
namespace Go.Proofs.YtnnfgphioapmnaaGreat

theorem pkC_chk {M O G H : ByteArray} (h : pkC M O G H = 0) : kF M O G H = true ∧ chkK M O = 0 := by
  unfold pkC at h
  cases hf : kF M O G H with
  | false => rw [if_pos hf] at h; cases h
  | true =>
    rw [if_neg (by rw [hf]; decide)] at h
    by_cases hc : chkK M O = 0
    · exact ⟨rfl, hc⟩
    · rw [if_neg hc] at h; exact (hc h).elim
theorem kF_G {M O G H : ByteArray} (h : kF M O G H = true) : nvalid G = true := by
  unfold kF at h
  simp only [Bool.and_eq_true] at h
  exact h.1.2
/-- Add, by way of element. -/
theorem ad_el (M O G H a b : ByteArray) : adR M O G H a b = if elR M O G H a (nvalid b) = 0 then mlR M O a b else .tuple #[.string ⟨#[]⟩, .int .i64 (elR M O G H a (nvalid b))] := by
  unfold adR elR
  cases h1 : (kF M O G H && (nvalid a && nvalid b)) with
  | false => rfl
  | true =>
    simp only [Bool.true_eq_false, ↓reduceIte]
    simp only [Bool.and_eq_true] at h1
    by_cases hc : pkC M O G H = 0
    · rw [if_pos hc, if_pos hc]
      have hk := (pkC_chk hc).2
      cases hh : hasK M O a with
      | false =>
        have hn : hasN (num M) (num O) (num a) = false := by
          unfold hasK at hh
          rw [decide_eq_true hk, h1.2.1, Bool.true_and, Bool.true_and] at hh
          exact hh
        rw [if_pos rfl, if_neg (by decide)]
        exact mlR_bad (by rw [ck_two, h1.2.1, h1.2.2, hn, if_neg (by decide), if_pos hk]; rfl) (by decide)
      | true => rfl
    · rw [if_neg hc, if_neg hc, if_neg hc]
/-- Scale, by way of element. -/
theorem sc_el (M O G H c : ByteArray) (bb : Bool) (bt : ByteArray) : scR M O G H c bb bt = if elR M O G H c (zvalid bb bt) = 0 then prR M O [c] [(bb, bt)] else .tuple #[.string ⟨#[]⟩, .int .i64 (elR M O G H c (zvalid bb bt))] := by
  unfold scR elR
  cases h1 : (kF M O G H && (nvalid c && zvalid bb bt)) with
  | false => rfl
  | true =>
    simp only [Bool.true_eq_false, ↓reduceIte]
    simp only [Bool.and_eq_true] at h1
    by_cases hc : pkC M O G H = 0
    · rw [if_pos hc, if_pos hc]
      have hk := (pkC_chk hc).2
      cases hh : hasK M O c with
      | false =>
        have hn : hasN (num M) (num O) (num c) = false := by
          unfold hasK at hh
          rw [decide_eq_true hk, h1.2.1, Bool.true_and, Bool.true_and] at hh
          exact hh
        rw [if_pos rfl, if_neg (by decide)]
        exact prR_one_bad (by rw [ck_exp, h1.2.1, h1.2.2, hn, if_neg (by decide), if_neg (by decide), if_pos hk]; rfl) (by decide)
      | true => rfl
    · rw [if_neg hc, if_neg hc, if_neg hc]
/-- Shift, by way of element. -/
theorem sf_el (M O G H c : ByteArray) (bb : Bool) (bt : ByteArray) : sfR M O G H c bb bt = if elR M O G H c (zvalid bb bt) = 0 then prR M O [c, G] [(false, nS 1), (bb, bt)] else .tuple #[.string ⟨#[]⟩, .int .i64 (elR M O G H c (zvalid bb bt))] := by
  unfold sfR elR
  cases h1 : (kF M O G H && (nvalid c && zvalid bb bt)) with
  | false => rfl
  | true =>
    simp only [Bool.true_eq_false, ↓reduceIte]
    simp only [Bool.and_eq_true] at h1
    by_cases hc : pkC M O G H = 0
    · rw [if_pos hc, if_pos hc]
      have hk := (pkC_chk hc).2
      cases hh : hasK M O c with
      | false =>
        have hn : hasN (num M) (num O) (num c) = false := by
          unfold hasK at hh
          rw [decide_eq_true hk, h1.2.1, Bool.true_and, Bool.true_and] at hh
          exact hh
        rw [if_pos rfl, if_neg (by decide)]
        refine prR_bad (c := 13) ?_ (by decide)
        have hz1 : zvalid false (nS 1) = true := by decide +kernel
        unfold ckR
        simp only [List.all_cons, List.all_nil, Bool.and_true]
        rw [h1.2.1, kF_G h1.1, hz1, h1.2.2, hn, if_neg (by decide), if_neg (by decide), if_pos hk]
        rfl
      | true => rfl
    · rw [if_neg hc, if_neg hc, if_neg hc]
end Go.Proofs.YtnnfgphioapmnaaGreat

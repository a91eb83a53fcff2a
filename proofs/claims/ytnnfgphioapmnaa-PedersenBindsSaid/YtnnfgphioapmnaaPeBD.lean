/- Walks: dominoref13.Mul, Exp. -/
import Derived.Test.YtnnfgphioapmnaaPeBA
import Derived.Test.YtnnfgphioapmnaaPeV
set_option linter.unusedVariables false
set_option linter.unusedSimpArgs false
namespace Go.Proofs.Ytnnfgphioapmnaa
open Go.RowKit

theorem ck_two (M O a b : ByteArray) : ckR M O [a, b] [] true = if (nvalid a && nvalid b) = false then 3 else if chkK M O = 0 then (if (hasN (num M) (num O) (num a) && hasN (num M) (num O) (num b)) = false then 13 else 0) else chkK M O := by
  unfold ckR
  simp only [List.all_cons, List.all_nil, Bool.and_true]
  rfl
theorem ck_exp (M O x : ByteArray) (bb : Bool) (bt : ByteArray) : ckR M O [x] [(bb, bt)] true = if nvalid x = false then 3 else if zvalid bb bt = false then 3 else if chkK M O = 0 then (if hasN (num M) (num O) (num x) = false then 13 else 0) else chkK M O := by
  unfold ckR
  simp only [List.all_cons, List.all_nil, Bool.and_true]
  rfl
theorem mlR_bad {M O a b : ByteArray} {c : Int} (h : ckR M O [a, b] [] true = c) (hc : c ≠ 0) : mlR M O a b = .tuple #[.string ⟨#[]⟩, .int .i64 c] := by
  unfold mlR
  rw [h, if_neg hc]
end Go.Proofs.Ytnnfgphioapmnaa
/- Walk: dominoref13.Exp. -/
set_option linter.unusedVariables false
set_option linter.unusedSimpArgs false
namespace Go.Proofs.Ytnnfgphioapmnaa
open Go.RowKit

theorem prV_one (M x : ByteArray) (bb : Bool) (bt : ByteArray) : prV (num M) [x] [(bb, bt)] = pwN (num x) bb (num bt) (num M) := by
  unfold prV bL pwN
  simp only [List.zipWith_cons_cons, List.zipWith_nil_right, pp, Nat.pow_zero, Nat.div_one, Nat.mul_one]
theorem prR_one_bad {M O x : ByteArray} {bb : Bool} {bt : ByteArray} {c : Int} (h : ckR M O [x] [(bb, bt)] true = c) (hc : c ≠ 0) : prR M O [x] [(bb, bt)] = .tuple #[.string ⟨#[]⟩, .int .i64 c] := prR_bad h hc
/-- A group and an integer. -/
def GI2 (w W : World) (M O : ByteArray) (bb : Bool) (bt : ByteArray) : Prop :=
  Bx2 W w.heap.size (.string M) (.string O) 24 ∧ Bx2 W (w.heap.size + 1) (.bool bb) (.string bt) 38 ∧ Below w.heap.size w W
theorem GI2.new (w : World) (M O : ByteArray) (bb : Bool) (bt : ByteArray) : GI2 w ((w.alloc (.cells #[.string M, .string O] 24)).alloc (.cells #[.bool bb, .string bt] 38)) M O bb bt := by
  refine ⟨(Bx2.new w _ _ _).next ((Below.refl _ _).alloc (Nat.le_refl _) _), ?_, ((Below.refl w.heap.size w).alloc (Nat.le_refl _) _).alloc (by simp) _⟩
  have := Bx2.new (w.alloc (.cells #[.string M, .string O] 24)) (.bool bb) (.string bt) 38
  rwa [World.size_alloc] at this
theorem GI2.next {w W W' : World} {M O : ByteArray} {bb : Bool} {bt : ByteArray} (h : GI2 w W M O bb bt) (hb : Below W.heap.size W W') : GI2 w W' M O bb bt :=
  ⟨h.1.next hb, h.2.1.next hb, h.2.2.trans (hb.mono (Nat.le_of_lt h.1.lt))⟩
end Go.Proofs.Ytnnfgphioapmnaa
/- Walks: pedersen.Add, Scale. -/
set_option linter.unusedVariables false
set_option linter.unusedSimpArgs false
namespace Go.Proofs.Ytnnfgphioapmnaa
open Go.RowKit

/-- What Add returns. -/
def adR (M O G H a b : ByteArray) : Value :=
  if (kF M O G H && (nvalid a && nvalid b)) = false then .tuple #[.string ⟨#[]⟩, .int .i64 3] else if pkC M O G H = 0 then mlR M O a b else .tuple #[.string ⟨#[]⟩, .int .i64 (pkC M O G H)]
/-- What Scale returns. -/
def scR (M O G H c : ByteArray) (bb : Bool) (bt : ByteArray) : Value :=
  if (kF M O G H && (nvalid c && zvalid bb bt)) = false then .tuple #[.string ⟨#[]⟩, .int .i64 3] else if pkC M O G H = 0 then prR M O [c] [(bb, bt)] else .tuple #[.string ⟨#[]⟩, .int .i64 (pkC M O G H)]



set_option maxRecDepth 100000 in
set_option maxHeartbeats 4000000 in
theorem pk_Add (M O G H a b : ByteArray) (hM : M.size ≤ 8) (hO : O.size ≤ 8) (hG : G.size ≤ 1000) (hH : H.size ≤ 1000) (ha : a.size ≤ 1000) (hb : b.size ≤ 1000) (w : World) : Calls Try.prog 23 #[kV M O G H, .string a, .string b] w (Ret (adR M O G H a b) w) := by
  have HF := Lib.hid (pk_formed M O G H (by omega) (by omega) hG hH)
  have HVC := Lib.hid (nat_Valid a (by omega))
  have HVB := Lib.hid (nat_Valid b (by omega))
  have HCK := Lib.hid (pk_Check M O G H hM hO hG hH)
  have HPR := Lib.hid (pw_Mul M O a b hM hO ha hb)
  have HFORM := Lib.hid (mlR_form M O a b)
  have HRV := Lib.hid (show ∃ R, adR M O G H a b = R from ⟨_, rfl⟩)
  obtain ⟨R, hR⟩ := HRV.out
  have HRR := Lib.hid hR
  rw [hR]
  clear hM hO hG hH ha hb hR HRV
  unfold kV gV at *
  cases hf : kF M O G H with
  | false =>
    have HR := Lib.hid (show R = .tuple #[.string ⟨#[]⟩, .int .i64 3] from by rw [← HRR.out]; unfold adR; rw [hf]; rfl)
    rw [hf] at HF
    rw [HR.out]
    clear hf
    go_enter Try.func23, Try.ntmps23
    have hx0 := Bx4.new w (.string M) (.string O) (.string G) (.string H) 26
    have hb0 := (Below.refl w.heap.size w).alloc (Nat.le_refl _) (.cells #[.string M, .string O, .string G, .string H] 26)
    obtain ⟨W0, hW0⟩ : ∃ W, w.alloc (.cells #[.string M, .string O, .string G, .string H] 26) = W := ⟨_, rfl⟩
    rw [hW0] at hx0 hb0
    have HX0 := Lib.hid hx0
    have HB0 := Lib.hid hb0
    obtain ⟨c0, c1, c2, c3⟩ := hx0.cells
    clear hx0 hb0
    go_wp2_with fail
    try rw [hW0]
    clear hW0
    refine (HF.out _).mono ?_
    rintro ev w1 ⟨rfl, hb⟩
    have hx := HX0.out.next hb
    have HX0 := Lib.hid hx
    have HB0 := Lib.hid (HB0.out.trans (hb.mono HB0.out.size))
    clear hb c0 c1 c2 c3
    obtain ⟨c0, c1, c2, c3⟩ := hx.cells
    clear hx
    go_wp2
    go_ret2
    exact ⟨rfl, HB0.out⟩
  | true =>
    rw [hf] at HF
    cases hvc : nvalid a with
    | false =>
      have HR := Lib.hid (show R = .tuple #[.string ⟨#[]⟩, .int .i64 3] from by rw [← HRR.out]; unfold adR; rw [hf, hvc]; rfl)
      rw [hvc] at HVC
      rw [HR.out]
      clear hf hvc
      go_enter Try.func23, Try.ntmps23
      have hx0 := Bx4.new w (.string M) (.string O) (.string G) (.string H) 26
      have hb0 := (Below.refl w.heap.size w).alloc (Nat.le_refl _) (.cells #[.string M, .string O, .string G, .string H] 26)
      obtain ⟨W0, hW0⟩ : ∃ W, w.alloc (.cells #[.string M, .string O, .string G, .string H] 26) = W := ⟨_, rfl⟩
      rw [hW0] at hx0 hb0
      have HX0 := Lib.hid hx0
      have HB0 := Lib.hid hb0
      obtain ⟨c0, c1, c2, c3⟩ := hx0.cells
      clear hx0 hb0
      go_wp2_with fail
      try rw [hW0]
      clear hW0
      refine (HF.out _).mono ?_
      rintro ev w1 ⟨rfl, hb⟩
      have hx := HX0.out.next hb
      have HX0 := Lib.hid hx
      have HB0 := Lib.hid (HB0.out.trans (hb.mono HB0.out.size))
      clear hb c0 c1 c2 c3
      obtain ⟨c0, c1, c2, c3⟩ := hx.cells
      clear hx
      go_wp2_with fail
      refine (HVC.out _).mono ?_
      rintro ev w9 ⟨rfl, rfl⟩
      go_wp2
      go_ret2
      exact ⟨rfl, HB0.out⟩
    | true =>
      rw [hvc] at HVC
      cases hz : nvalid b with
      | false =>
        have HR := Lib.hid (show R = .tuple #[.string ⟨#[]⟩, .int .i64 3] from by rw [← HRR.out]; unfold adR; rw [hf, hvc, hz]; rfl)
        rw [hz] at HVB
        rw [HR.out]
        clear hf hvc hz
        go_enter Try.func23, Try.ntmps23
        have hx0 := Bx4.new w (.string M) (.string O) (.string G) (.string H) 26
        have hb0 := (Below.refl w.heap.size w).alloc (Nat.le_refl _) (.cells #[.string M, .string O, .string G, .string H] 26)
        obtain ⟨W0, hW0⟩ : ∃ W, w.alloc (.cells #[.string M, .string O, .string G, .string H] 26) = W := ⟨_, rfl⟩
        rw [hW0] at hx0 hb0
        have HX0 := Lib.hid hx0
        have HB0 := Lib.hid hb0
        obtain ⟨c0, c1, c2, c3⟩ := hx0.cells
        clear hx0 hb0
        go_wp2_with fail
        try rw [hW0]
        clear hW0
        refine (HF.out _).mono ?_
        rintro ev w1 ⟨rfl, hb⟩
        have hx := HX0.out.next hb
        have HX0 := Lib.hid hx
        have HB0 := Lib.hid (HB0.out.trans (hb.mono HB0.out.size))
        clear hb c0 c1 c2 c3
        obtain ⟨c0, c1, c2, c3⟩ := hx.cells
        clear hx
        go_wp2_with fail
        refine (HVC.out _).mono ?_
        rintro ev w9 ⟨rfl, rfl⟩
        go_wp2_with fail
        refine (HVB.out _).mono ?_
        rintro ev w8 ⟨rfl, rfl⟩
        go_wp2
        go_ret2
        exact ⟨rfl, HB0.out⟩
      | true =>
        rw [hz] at HVB
        by_cases hc : pkC M O G H = 0
        · have HR := Lib.hid (show R = mlR M O a b from by rw [← HRR.out]; unfold adR; rw [hf, hvc, hz, if_neg (by decide), if_pos hc])
          rw [hc] at HCK
          obtain ⟨rs, rc, hpr⟩ := HFORM.out
          rw [hpr] at HPR
          rw [HR.out, hpr]
          clear hf hvc hz hc hpr
          go_enter Try.func23, Try.ntmps23
          have hx0 := Bx4.new w (.string M) (.string O) (.string G) (.string H) 26
          have hb0 := (Below.refl w.heap.size w).alloc (Nat.le_refl _) (.cells #[.string M, .string O, .string G, .string H] 26)
          obtain ⟨W0, hW0⟩ : ∃ W, w.alloc (.cells #[.string M, .string O, .string G, .string H] 26) = W := ⟨_, rfl⟩
          rw [hW0] at hx0 hb0
          have HX0 := Lib.hid hx0
          have HB0 := Lib.hid hb0
          obtain ⟨c0, c1, c2, c3⟩ := hx0.cells
          clear hx0 hb0
          go_wp2_with fail
          try rw [hW0]
          clear hW0
          refine (HF.out _).mono ?_
          rintro ev w1 ⟨rfl, hb⟩
          have hx := HX0.out.next hb
          have HX0 := Lib.hid hx
          have HB0 := Lib.hid (HB0.out.trans (hb.mono HB0.out.size))
          clear hb c0 c1 c2 c3
          obtain ⟨c0, c1, c2, c3⟩ := hx.cells
          clear hx
          go_wp2_with fail
          refine (HVC.out _).mono ?_
          rintro ev w9 ⟨rfl, rfl⟩
          go_wp2_with fail
          refine (HVB.out _).mono ?_
          rintro ev w8 ⟨rfl, rfl⟩
          go_wp2_with fail
          refine (HCK.out _).mono ?_
          rintro ev w3 ⟨rfl, hb⟩
          have hx := HX0.out.next hb
          have HX0 := Lib.hid hx
          have HB0 := Lib.hid (HB0.out.trans (hb.mono HB0.out.size))
          clear hb c0 c1 c2 c3
          obtain ⟨c0, c1, c2, c3⟩ := hx.cells
          clear hx
          go_wp2_with fail
          refine (HPR.out _).mono ?_
          rintro ev w7 ⟨rfl, hb⟩
          have HB7 := Lib.hid ((HB0.out).trans (hb.mono (HB0.out).size))
          clear hb
          go_wp2
          go_ret2
          exact ⟨rfl, HB7.out⟩
        · have HR := Lib.hid (show R = .tuple #[.string ⟨#[]⟩, .int .i64 (pkC M O G H)] from by rw [← HRR.out]; unfold adR; rw [hf, hvc, hz, if_neg (by decide), if_neg hc])
          rw [HR.out]
          obtain ⟨cc, hcc⟩ : ∃ cc, pkC M O G H = cc := ⟨_, rfl⟩
          rw [hcc] at HCK hc ⊢
          have hcb : (cc == 0) = false := by rw [beq_eq_false_iff_ne]; exact hc
          have hcb2 : (cc != 0) = true := by rw [bne, hcb]; rfl
          clear hf hvc hz hc hcc
          go_enter Try.func23, Try.ntmps23
          have hx0 := Bx4.new w (.string M) (.string O) (.string G) (.string H) 26
          have hb0 := (Below.refl w.heap.size w).alloc (Nat.le_refl _) (.cells #[.string M, .string O, .string G, .string H] 26)
          obtain ⟨W0, hW0⟩ : ∃ W, w.alloc (.cells #[.string M, .string O, .string G, .string H] 26) = W := ⟨_, rfl⟩
          rw [hW0] at hx0 hb0
          have HX0 := Lib.hid hx0
          have HB0 := Lib.hid hb0
          obtain ⟨c0, c1, c2, c3⟩ := hx0.cells
          clear hx0 hb0
          go_wp2_with fail
          try rw [hW0]
          clear hW0
          refine (HF.out _).mono ?_
          rintro ev w1 ⟨rfl, hb⟩
          have hx := HX0.out.next hb
          have HX0 := Lib.hid hx
          have HB0 := Lib.hid (HB0.out.trans (hb.mono HB0.out.size))
          clear hb c0 c1 c2 c3
          obtain ⟨c0, c1, c2, c3⟩ := hx.cells
          clear hx
          go_wp2_with fail
          refine (HVC.out _).mono ?_
          rintro ev w9 ⟨rfl, rfl⟩
          go_wp2_with fail
          refine (HVB.out _).mono ?_
          rintro ev w8 ⟨rfl, rfl⟩
          go_wp2_with fail
          refine (HCK.out _).mono ?_
          rintro ev w3 ⟨rfl, hb⟩
          have hx := HX0.out.next hb
          have HX0 := Lib.hid hx
          have HB0 := Lib.hid (HB0.out.trans (hb.mono HB0.out.size))
          clear hb c0 c1 c2 c3
          obtain ⟨c0, c1, c2, c3⟩ := hx.cells
          clear hx
          go_wp2
          go_ret2
          exact ⟨rfl, HB0.out⟩

set_option maxRecDepth 100000 in
set_option maxHeartbeats 4000000 in
theorem pk_Scale (M O G H c : ByteArray) (bb : Bool) (bt : ByteArray) (hM : M.size ≤ 8) (hO : O.size ≤ 8) (hG : G.size ≤ 1000) (hH : H.size ≤ 1000) (hc : c.size ≤ 1000) (hb : bt.size ≤ 1000) (w : World) : Calls Try.prog 25 #[kV M O G H, .string c, zV bb bt] w (Ret (scR M O G H c bb bt) w) := by
  have HF := Lib.hid (pk_formed M O G H (by omega) (by omega) hG hH)
  have HVC := Lib.hid (nat_Valid c (by omega))
  have HVB := Lib.hid (int_Valid bb bt (by omega))
  have HCK := Lib.hid (pk_Check M O G H hM hO hG hH)
  have HPR := Lib.hid (pw_Exp M O c bb bt hM hO hc hb)
  have HFORM := Lib.hid (prR_form M O [c] [(bb, bt)])
  have HRV := Lib.hid (show ∃ R, scR M O G H c bb bt = R from ⟨_, rfl⟩)
  obtain ⟨R, hR⟩ := HRV.out
  have HRR := Lib.hid hR
  rw [hR]
  clear hM hO hG hH hc hb hR HRV
  unfold kV gV zV at *
  cases hf : kF M O G H with
  | false =>
    have HR := Lib.hid (show R = .tuple #[.string ⟨#[]⟩, .int .i64 3] from by rw [← HRR.out]; unfold scR; rw [hf]; rfl)
    rw [hf] at HF
    rw [HR.out]
    clear hf
    go_enter Try.func25, Try.ntmps25
    have hk := KI.new w M O G H bb bt
    obtain ⟨W0, hW0⟩ : ∃ W, (w.alloc (.cells #[.string M, .string O, .string G, .string H] 26)).alloc (.cells #[.bool bb, .string bt] 38) = W := ⟨_, rfl⟩
    rw [hW0] at hk
    have HK := Lib.hid hk
    obtain ⟨c0, c1, c2, c3⟩ := hk.1.cells
    have b0 := hk.2.1.c0
    have b1 := hk.2.1.c1
    clear hk
    go_wp2_with fail
    try rw [hW0]
    clear hW0
    refine (HF.out _).mono ?_
    rintro ev w1 ⟨rfl, hb⟩
    have hk := HK.out.next hb
    have HK := Lib.hid hk
    clear hb c0 c1 c2 c3 b0 b1
    obtain ⟨c0, c1, c2, c3⟩ := hk.1.cells
    have b0 := hk.2.1.c0
    have b1 := hk.2.1.c1
    clear hk
    go_wp2
    go_ret2
    exact ⟨rfl, HK.out.2.2⟩
  | true =>
    rw [hf] at HF
    cases hvc : nvalid c with
    | false =>
      have HR := Lib.hid (show R = .tuple #[.string ⟨#[]⟩, .int .i64 3] from by rw [← HRR.out]; unfold scR; rw [hf, hvc]; rfl)
      rw [hvc] at HVC
      rw [HR.out]
      clear hf hvc
      go_enter Try.func25, Try.ntmps25
      have hk := KI.new w M O G H bb bt
      obtain ⟨W0, hW0⟩ : ∃ W, (w.alloc (.cells #[.string M, .string O, .string G, .string H] 26)).alloc (.cells #[.bool bb, .string bt] 38) = W := ⟨_, rfl⟩
      rw [hW0] at hk
      have HK := Lib.hid hk
      obtain ⟨c0, c1, c2, c3⟩ := hk.1.cells
      have b0 := hk.2.1.c0
      have b1 := hk.2.1.c1
      clear hk
      go_wp2_with fail
      try rw [hW0]
      clear hW0
      refine (HF.out _).mono ?_
      rintro ev w1 ⟨rfl, hb⟩
      have hk := HK.out.next hb
      have HK := Lib.hid hk
      clear hb c0 c1 c2 c3 b0 b1
      obtain ⟨c0, c1, c2, c3⟩ := hk.1.cells
      have b0 := hk.2.1.c0
      have b1 := hk.2.1.c1
      clear hk
      go_wp2_with fail
      refine (HVC.out _).mono ?_
      rintro ev w9 ⟨rfl, rfl⟩
      go_wp2
      go_ret2
      exact ⟨rfl, HK.out.2.2⟩
    | true =>
      rw [hvc] at HVC
      cases hz : zvalid bb bt with
      | false =>
        have HR := Lib.hid (show R = .tuple #[.string ⟨#[]⟩, .int .i64 3] from by rw [← HRR.out]; unfold scR; rw [hf, hvc, hz]; rfl)
        rw [hz] at HVB
        rw [HR.out]
        clear hf hvc hz
        go_enter Try.func25, Try.ntmps25
        have hk := KI.new w M O G H bb bt
        obtain ⟨W0, hW0⟩ : ∃ W, (w.alloc (.cells #[.string M, .string O, .string G, .string H] 26)).alloc (.cells #[.bool bb, .string bt] 38) = W := ⟨_, rfl⟩
        rw [hW0] at hk
        have HK := Lib.hid hk
        obtain ⟨c0, c1, c2, c3⟩ := hk.1.cells
        have b0 := hk.2.1.c0
        have b1 := hk.2.1.c1
        clear hk
        go_wp2_with fail
        try rw [hW0]
        clear hW0
        refine (HF.out _).mono ?_
        rintro ev w1 ⟨rfl, hb⟩
        have hk := HK.out.next hb
        have HK := Lib.hid hk
        clear hb c0 c1 c2 c3 b0 b1
        obtain ⟨c0, c1, c2, c3⟩ := hk.1.cells
        have b0 := hk.2.1.c0
        have b1 := hk.2.1.c1
        clear hk
        go_wp2_with fail
        refine (HVC.out _).mono ?_
        rintro ev w9 ⟨rfl, rfl⟩
        go_wp2_with fail
        refine (HVB.out _).mono ?_
        rintro ev w12 ⟨rfl, hb⟩
        have hk := HK.out.next hb
        have HK := Lib.hid hk
        clear hb c0 c1 c2 c3 b0 b1
        obtain ⟨c0, c1, c2, c3⟩ := hk.1.cells
        have b0 := hk.2.1.c0
        have b1 := hk.2.1.c1
        clear hk
        go_wp2
        go_ret2
        exact ⟨rfl, HK.out.2.2⟩
      | true =>
        rw [hz] at HVB
        by_cases hc : pkC M O G H = 0
        · have HR := Lib.hid (show R = prR M O [c] [(bb, bt)] from by rw [← HRR.out]; unfold scR; rw [hf, hvc, hz, if_neg (by decide), if_pos hc])
          rw [hc] at HCK
          obtain ⟨rs, rc, hpr⟩ := HFORM.out
          rw [hpr] at HPR
          rw [HR.out, hpr]
          clear hf hvc hz hc hpr
          go_enter Try.func25, Try.ntmps25
          have hk := KI.new w M O G H bb bt
          obtain ⟨W0, hW0⟩ : ∃ W, (w.alloc (.cells #[.string M, .string O, .string G, .string H] 26)).alloc (.cells #[.bool bb, .string bt] 38) = W := ⟨_, rfl⟩
          rw [hW0] at hk
          have HK := Lib.hid hk
          obtain ⟨c0, c1, c2, c3⟩ := hk.1.cells
          have b0 := hk.2.1.c0
          have b1 := hk.2.1.c1
          clear hk
          go_wp2_with fail
          try rw [hW0]
          clear hW0
          refine (HF.out _).mono ?_
          rintro ev w1 ⟨rfl, hb⟩
          have hk := HK.out.next hb
          have HK := Lib.hid hk
          clear hb c0 c1 c2 c3 b0 b1
          obtain ⟨c0, c1, c2, c3⟩ := hk.1.cells
          have b0 := hk.2.1.c0
          have b1 := hk.2.1.c1
          clear hk
          go_wp2_with fail
          refine (HVC.out _).mono ?_
          rintro ev w9 ⟨rfl, rfl⟩
          go_wp2_with fail
          refine (HVB.out _).mono ?_
          rintro ev w12 ⟨rfl, hb⟩
          have hk := HK.out.next hb
          have HK := Lib.hid hk
          clear hb c0 c1 c2 c3 b0 b1
          obtain ⟨c0, c1, c2, c3⟩ := hk.1.cells
          have b0 := hk.2.1.c0
          have b1 := hk.2.1.c1
          clear hk
          go_wp2_with fail
          refine (HCK.out _).mono ?_
          rintro ev w3 ⟨rfl, hb⟩
          have hk := HK.out.next hb
          have HK := Lib.hid hk
          clear hb c0 c1 c2 c3 b0 b1
          obtain ⟨c0, c1, c2, c3⟩ := hk.1.cells
          have b0 := hk.2.1.c0
          have b1 := hk.2.1.c1
          clear hk
          go_wp2_with fail
          refine (HPR.out _).mono ?_
          rintro ev w7 ⟨rfl, hb⟩
          have HB7 := Lib.hid ((HK.out.2.2).trans (hb.mono (HK.out.2.2).size))
          clear hb
          go_wp2
          go_ret2
          exact ⟨rfl, HB7.out⟩
        · have HR := Lib.hid (show R = .tuple #[.string ⟨#[]⟩, .int .i64 (pkC M O G H)] from by rw [← HRR.out]; unfold scR; rw [hf, hvc, hz, if_neg (by decide), if_neg hc])
          rw [HR.out]
          obtain ⟨cc, hcc⟩ : ∃ cc, pkC M O G H = cc := ⟨_, rfl⟩
          rw [hcc] at HCK hc ⊢
          have hcb : (cc == 0) = false := by rw [beq_eq_false_iff_ne]; exact hc
          have hcb2 : (cc != 0) = true := by rw [bne, hcb]; rfl
          clear hf hvc hz hc hcc
          go_enter Try.func25, Try.ntmps25
          have hk := KI.new w M O G H bb bt
          obtain ⟨W0, hW0⟩ : ∃ W, (w.alloc (.cells #[.string M, .string O, .string G, .string H] 26)).alloc (.cells #[.bool bb, .string bt] 38) = W := ⟨_, rfl⟩
          rw [hW0] at hk
          have HK := Lib.hid hk
          obtain ⟨c0, c1, c2, c3⟩ := hk.1.cells
          have b0 := hk.2.1.c0
          have b1 := hk.2.1.c1
          clear hk
          go_wp2_with fail
          try rw [hW0]
          clear hW0
          refine (HF.out _).mono ?_
          rintro ev w1 ⟨rfl, hb⟩
          have hk := HK.out.next hb
          have HK := Lib.hid hk
          clear hb c0 c1 c2 c3 b0 b1
          obtain ⟨c0, c1, c2, c3⟩ := hk.1.cells
          have b0 := hk.2.1.c0
          have b1 := hk.2.1.c1
          clear hk
          go_wp2_with fail
          refine (HVC.out _).mono ?_
          rintro ev w9 ⟨rfl, rfl⟩
          go_wp2_with fail
          refine (HVB.out _).mono ?_
          rintro ev w12 ⟨rfl, hb⟩
          have hk := HK.out.next hb
          have HK := Lib.hid hk
          clear hb c0 c1 c2 c3 b0 b1
          obtain ⟨c0, c1, c2, c3⟩ := hk.1.cells
          have b0 := hk.2.1.c0
          have b1 := hk.2.1.c1
          clear hk
          go_wp2_with fail
          refine (HCK.out _).mono ?_
          rintro ev w3 ⟨rfl, hb⟩
          have hk := HK.out.next hb
          have HK := Lib.hid hk
          clear hb c0 c1 c2 c3 b0 b1
          obtain ⟨c0, c1, c2, c3⟩ := hk.1.cells
          have b0 := hk.2.1.c0
          have b1 := hk.2.1.c1
          clear hk
          go_wp2
          go_ret2
          exact ⟨rfl, HK.out.2.2⟩
end Go.Proofs.Ytnnfgphioapmnaa

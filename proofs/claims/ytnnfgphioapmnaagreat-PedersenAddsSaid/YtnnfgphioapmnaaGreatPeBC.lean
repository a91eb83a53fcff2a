/- Walks: dominoref13.Mul, Exp. -/
import Derived.Test.YtnnfgphioapmnaaGreatPeBA
set_option linter.unusedVariables false
set_option linter.unusedSimpArgs false
namespace Go.Proofs.YtnnfgphioapmnaaGreat
open Go.RowKit

theorem ck_two (M O a b : ByteArray) : ckR M O [a, b] [] true = if (nvalid a && nvalid b) = false then 3 else if chkK M O = 0 then (if (hasN (num M) (num O) (num a) && hasN (num M) (num O) (num b)) = false then 13 else 0) else chkK M O := by
  unfold ckR
  simp only [List.all_cons, List.all_nil, Bool.and_true]
  rfl
theorem ck_exp (M O x : ByteArray) (bb : Bool) (bt : ByteArray) : ckR M O [x] [(bb, bt)] true = if nvalid x = false then 3 else if zvalid bb bt = false then 3 else if chkK M O = 0 then (if hasN (num M) (num O) (num x) = false then 13 else 0) else chkK M O := by
  unfold ckR
  simp only [List.all_cons, List.all_nil, Bool.and_true]
  rfl
theorem mlR_bad {M O a b : ByteArray} {c : Int} (h : ckR M O [a, b] [] true = c) (hc : c ≠ 0) : mlR M O a b = .tuple #[.string ⟨#[]⟩, .int .i64 c] := by
  unfold mlR
  rw [h, if_neg hc]
set_option maxRecDepth 100000 in
set_option maxHeartbeats 4000000 in
theorem r13_Mul (M O a b : ByteArray) (hM : M.size ≤ 8) (hO : O.size ≤ 8) (ha : a.size ≤ 1000) (hb : b.size ≤ 1000) (w : World) : Calls Tryz.prog 47 #[gV M O, .string a, .string b] w (Ret (mlR M O a b) w) := by
  have HVA := Lib.hid (r01_Valid a (by omega))
  have HVB := Lib.hid (r01_Valid b (by omega))
  have HCK := Lib.hid (r13_Check M O hM hO)
  have HHS := Lib.hid (fun (hc : chkK M O = 0) (x : ByteArray) (hv : nvalid x = true) => show ∀ w, Calls Tryz.prog 64 #[.agg #[.string M, .string O], .string x] w (Ret (.bool (hasN (num M) (num O) (num x))) w) from by
    obtain ⟨v1, v2, _⟩ := chkK_parts hc
    have := r13_has (num M) (num O) (num x) (num_small hM) (num_small hO) (nvalid_lt hv)
    rwa [← nS_num v1, ← nS_num v2, ← nS_num hv] at this)
  have HMU := Lib.hid (fun (hc : ckR M O [a, b] [] true = 0) (w : World) => show Calls Tryz.prog 65 #[.string a, .string b, .string M] w (Ret (.tuple #[.string (nS (num a * num b % num M)), .int .i64 0]) w) from by
    obtain ⟨g1, _, g3, _, g5⟩ := ckR_zero hc
    obtain ⟨v1, v2, g6⟩ := chkK_parts g3
    have n1 := all_get (l := [a, b]) (k := 0) (p := nvalid) g1 rfl
    have n2 := all_get (l := [a, b]) (k := 1) (p := nvalid) g1 rfl
    have h1 := chkN_one g6
    have := r03_Mul (num a) (num b) (num M) (nvalid_lt n1) (nvalid_lt n2) (num_small hM) (by omega) w
    rwa [← nS_num n1, ← nS_num n2, ← nS_num v1] at this)
  have HBAD := Lib.hid (fun (c : Int) (h : ckR M O [a, b] [] true = c) (hc : c ≠ 0) => mlR_bad h hc)
  have HGOOD := Lib.hid (fun (h : ckR M O [a, b] [] true = 0) => show mlR M O a b = .tuple #[.string (nS (num a * num b % num M)), .int .i64 0] from by unfold mlR; rw [if_pos h])
  clear hM hO ha hb
  unfold gV at *
  cases h1 : nvalid a with
  | false =>
    rw [HBAD.out 3 (by rw [ck_two, h1]; rfl) (by decide)]
    rw [h1] at HVA
    clear h1
    go_enter Tryz.func47, Tryz.ntmps47
    have HX0 := Lib.hid (Bx2.new w (.string M) (.string O) 24)
    have HB0 := Lib.hid ((Below.refl w.heap.size w).alloc (Nat.le_refl _) (.cells #[.string M, .string O] 24))
    obtain ⟨W0, hW0⟩ : ∃ W0, w.alloc (.cells #[.string M, .string O] 24) = W0 := ⟨_, rfl⟩
    rw [hW0] at HX0 HB0
    have c0 := HX0.out.c0
    have c1 := HX0.out.c1
    go_wp2_with fail
    try rw [hW0]
    clear hW0
    refine (HVA.out _).mono ?_
    rintro ev w9 ⟨rfl, rfl⟩
    go_wp2
    go_ret2
    exact ⟨rfl, HB0.out⟩
  | true =>
    rw [h1] at HVA
    cases h2 : nvalid b with
    | false =>
      rw [HBAD.out 3 (by rw [ck_two, h1, h2]; rfl) (by decide)]
      rw [h2] at HVB
      clear h1 h2
      go_enter Tryz.func47, Tryz.ntmps47
      have HX0 := Lib.hid (Bx2.new w (.string M) (.string O) 24)
      have HB0 := Lib.hid ((Below.refl w.heap.size w).alloc (Nat.le_refl _) (.cells #[.string M, .string O] 24))
      obtain ⟨W0, hW0⟩ : ∃ W0, w.alloc (.cells #[.string M, .string O] 24) = W0 := ⟨_, rfl⟩
      rw [hW0] at HX0 HB0
      have c0 := HX0.out.c0
      have c1 := HX0.out.c1
      go_wp2_with fail
      try rw [hW0]
      clear hW0
      refine (HVA.out _).mono ?_
      rintro ev w9 ⟨rfl, rfl⟩
      go_wp2_with fail
      refine (HVB.out _).mono ?_
      rintro ev w9 ⟨rfl, rfl⟩
      go_wp2
      go_ret2
      exact ⟨rfl, HB0.out⟩
    | true =>
      rw [h2] at HVB
      by_cases hc : chkK M O = 0
      · have HA := Lib.hid (HHS.out hc a h1)
        have HBB := Lib.hid (HHS.out hc b h2)
        rw [hc] at HCK
        cases h3 : hasN (num M) (num O) (num a) with
        | false =>
          rw [HBAD.out 13 (by rw [ck_two, h1, h2, h3, if_neg (by decide), if_pos hc]; rfl) (by decide)]
          rw [h3] at HA
          clear h1 h2 h3 hc
          go_enter Tryz.func47, Tryz.ntmps47
          have HX0 := Lib.hid (Bx2.new w (.string M) (.string O) 24)
          have HB0 := Lib.hid ((Below.refl w.heap.size w).alloc (Nat.le_refl _) (.cells #[.string M, .string O] 24))
          obtain ⟨W0, hW0⟩ : ∃ W0, w.alloc (.cells #[.string M, .string O] 24) = W0 := ⟨_, rfl⟩
          rw [hW0] at HX0 HB0
          have c0 := HX0.out.c0
          have c1 := HX0.out.c1
          go_wp2_with fail
          try rw [hW0]
          clear hW0
          refine (HVA.out _).mono ?_
          rintro ev w9 ⟨rfl, rfl⟩
          go_wp2_with fail
          refine (HVB.out _).mono ?_
          rintro ev w9 ⟨rfl, rfl⟩
          go_wp2_with fail
          refine (HCK.out _).mono ?_
          rintro ev w1 ⟨rfl, hb⟩
          have hx := HX0.out.next hb
          have HX1 := Lib.hid hx
          have HB1 := Lib.hid (HB0.out.trans (hb.mono HB0.out.size))
          clear hb c0 c1
          have c0 := hx.c0
          have c1 := hx.c1
          clear hx
          go_wp2_with fail
          refine (HA.out _).mono ?_
          rintro ev w2 ⟨rfl, hb⟩
          have hx := HX1.out.next hb
          have HX2 := Lib.hid hx
          have HB2 := Lib.hid (HB1.out.trans (hb.mono HB1.out.size))
          clear hb c0 c1
          have c0 := hx.c0
          have c1 := hx.c1
          clear hx
          go_wp2
          go_ret2
          exact ⟨rfl, HB2.out⟩
        | true =>
          rw [h3] at HA
          cases h4 : hasN (num M) (num O) (num b) with
          | false =>
            rw [HBAD.out 13 (by rw [ck_two, h1, h2, h3, h4, if_neg (by decide), if_pos hc]; rfl) (by decide)]
            rw [h4] at HBB
            clear h1 h2 h3 h4 hc
            go_enter Tryz.func47, Tryz.ntmps47
            have HX0 := Lib.hid (Bx2.new w (.string M) (.string O) 24)
            have HB0 := Lib.hid ((Below.refl w.heap.size w).alloc (Nat.le_refl _) (.cells #[.string M, .string O] 24))
            obtain ⟨W0, hW0⟩ : ∃ W0, w.alloc (.cells #[.string M, .string O] 24) = W0 := ⟨_, rfl⟩
            rw [hW0] at HX0 HB0
            have c0 := HX0.out.c0
            have c1 := HX0.out.c1
            go_wp2_with fail
            try rw [hW0]
            clear hW0
            refine (HVA.out _).mono ?_
            rintro ev w9 ⟨rfl, rfl⟩
            go_wp2_with fail
            refine (HVB.out _).mono ?_
            rintro ev w9 ⟨rfl, rfl⟩
            go_wp2_with fail
            refine (HCK.out _).mono ?_
            rintro ev w1 ⟨rfl, hb⟩
            have hx := HX0.out.next hb
            have HX1 := Lib.hid hx
            have HB1 := Lib.hid (HB0.out.trans (hb.mono HB0.out.size))
            clear hb c0 c1
            have c0 := hx.c0
            have c1 := hx.c1
            clear hx
            go_wp2_with fail
            refine (HA.out _).mono ?_
            rintro ev w2 ⟨rfl, hb⟩
            have hx := HX1.out.next hb
            have HX2 := Lib.hid hx
            have HB2 := Lib.hid (HB1.out.trans (hb.mono HB1.out.size))
            clear hb c0 c1
            have c0 := hx.c0
            have c1 := hx.c1
            clear hx
            go_wp2_with fail
            refine (HBB.out _).mono ?_
            rintro ev w3 ⟨rfl, hb⟩
            have hx := HX2.out.next hb
            have HX3 := Lib.hid hx
            have HB3 := Lib.hid (HB2.out.trans (hb.mono HB2.out.size))
            clear hb c0 c1
            have c0 := hx.c0
            have c1 := hx.c1
            clear hx
            go_wp2
            go_ret2
            exact ⟨rfl, HB3.out⟩
          | true =>
            rw [h4] at HBB
            have h0 : ckR M O [a, b] [] true = 0 := by rw [ck_two, h1, h2, h3, h4, if_neg (by decide), if_pos hc]; rfl
            rw [HGOOD.out h0]
            have HMM := Lib.hid (HMU.out h0)
            obtain ⟨r, hr⟩ : ∃ r, nS (num a * num b % num M) = r := ⟨_, rfl⟩
            rw [hr] at HMM ⊢
            clear h0 h1 h2 h3 h4 hc hr HMU HGOOD
            go_enter Tryz.func47, Tryz.ntmps47
            have HX0 := Lib.hid (Bx2.new w (.string M) (.string O) 24)
            have HB0 := Lib.hid ((Below.refl w.heap.size w).alloc (Nat.le_refl _) (.cells #[.string M, .string O] 24))
            obtain ⟨W0, hW0⟩ : ∃ W0, w.alloc (.cells #[.string M, .string O] 24) = W0 := ⟨_, rfl⟩
            rw [hW0] at HX0 HB0
            have c0 := HX0.out.c0
            have c1 := HX0.out.c1
            go_wp2_with fail
            try rw [hW0]
            clear hW0
            refine (HVA.out _).mono ?_
            rintro ev w9 ⟨rfl, rfl⟩
            go_wp2_with fail
            refine (HVB.out _).mono ?_
            rintro ev w9 ⟨rfl, rfl⟩
            go_wp2_with fail
            refine (HCK.out _).mono ?_
            rintro ev w1 ⟨rfl, hb⟩
            have hx := HX0.out.next hb
            have HX1 := Lib.hid hx
            have HB1 := Lib.hid (HB0.out.trans (hb.mono HB0.out.size))
            clear hb c0 c1
            have c0 := hx.c0
            have c1 := hx.c1
            clear hx
            go_wp2_with fail
            refine (HA.out _).mono ?_
            rintro ev w2 ⟨rfl, hb⟩
            have hx := HX1.out.next hb
            have HX2 := Lib.hid hx
            have HB2 := Lib.hid (HB1.out.trans (hb.mono HB1.out.size))
            clear hb c0 c1
            have c0 := hx.c0
            have c1 := hx.c1
            clear hx
            go_wp2_with fail
            refine (HBB.out _).mono ?_
            rintro ev w3 ⟨rfl, hb⟩
            have hx := HX2.out.next hb
            have HX3 := Lib.hid hx
            have HB3 := Lib.hid (HB2.out.trans (hb.mono HB2.out.size))
            clear hb c0 c1
            have c0 := hx.c0
            have c1 := hx.c1
            clear hx
            go_wp2_with fail
            refine (HMM.out _).mono ?_
            rintro ev w4 ⟨rfl, hb⟩
            have hx := HX3.out.next hb
            have HX4 := Lib.hid hx
            have HB4 := Lib.hid (HB3.out.trans (hb.mono HB3.out.size))
            clear hb c0 c1
            have c0 := hx.c0
            have c1 := hx.c1
            clear hx
            go_wp2
            go_ret2
            exact ⟨rfl, HB4.out⟩
      · obtain ⟨cc, hcc⟩ : ∃ cc, chkK M O = cc := ⟨_, rfl⟩
        have hc' := hc
        rw [hcc] at hc'
        rw [HBAD.out cc (by rw [ck_two, h1, h2, if_neg (by decide), if_neg hc, hcc]) hc']
        rw [hcc] at HCK
        have hcb : (cc == 0) = false := by rw [beq_eq_false_iff_ne]; exact hc'
        have hcb2 : (cc != 0) = true := by rw [bne, hcb]; rfl
        clear h1 h2 hc hc' hcc
        go_enter Tryz.func47, Tryz.ntmps47
        have HX0 := Lib.hid (Bx2.new w (.string M) (.string O) 24)
        have HB0 := Lib.hid ((Below.refl w.heap.size w).alloc (Nat.le_refl _) (.cells #[.string M, .string O] 24))
        obtain ⟨W0, hW0⟩ : ∃ W0, w.alloc (.cells #[.string M, .string O] 24) = W0 := ⟨_, rfl⟩
        rw [hW0] at HX0 HB0
        have c0 := HX0.out.c0
        have c1 := HX0.out.c1
        go_wp2_with fail
        try rw [hW0]
        clear hW0
        refine (HVA.out _).mono ?_
        rintro ev w9 ⟨rfl, rfl⟩
        go_wp2_with fail
        refine (HVB.out _).mono ?_
        rintro ev w9 ⟨rfl, rfl⟩
        go_wp2_with fail
        refine (HCK.out _).mono ?_
        rintro ev w1 ⟨rfl, hb⟩
        have hx := HX0.out.next hb
        have HX1 := Lib.hid hx
        have HB1 := Lib.hid (HB0.out.trans (hb.mono HB0.out.size))
        clear hb c0 c1
        have c0 := hx.c0
        have c1 := hx.c1
        clear hx
        go_wp2
        go_ret2
        exact ⟨rfl, HB1.out⟩
end Go.Proofs.YtnnfgphioapmnaaGreat
/- Walk: dominoref13.Exp. -/
set_option linter.unusedVariables false
set_option linter.unusedSimpArgs false
namespace Go.Proofs.YtnnfgphioapmnaaGreat
open Go.RowKit

theorem prV_one (M x : ByteArray) (bb : Bool) (bt : ByteArray) : prV (num M) [x] [(bb, bt)] = pwN (num x) bb (num bt) (num M) := by
  unfold prV bL pwN
  simp only [List.zipWith_cons_cons, List.zipWith_nil_right, pp, Nat.pow_zero, Nat.div_one, Nat.mul_one]
theorem prR_one_bad {M O x : ByteArray} {bb : Bool} {bt : ByteArray} {c : Int} (h : ckR M O [x] [(bb, bt)] true = c) (hc : c ≠ 0) : prR M O [x] [(bb, bt)] = .tuple #[.string ⟨#[]⟩, .int .i64 c] := prR_bad h hc
/-- A group and an integer. -/
def GI2 (w W : World) (M O : ByteArray) (bb : Bool) (bt : ByteArray) : Prop :=
  Bx2 W w.heap.size (.string M) (.string O) 24 ∧ Bx2 W (w.heap.size + 1) (.bool bb) (.string bt) 28 ∧ Below w.heap.size w W
theorem GI2.new (w : World) (M O : ByteArray) (bb : Bool) (bt : ByteArray) : GI2 w ((w.alloc (.cells #[.string M, .string O] 24)).alloc (.cells #[.bool bb, .string bt] 28)) M O bb bt := by
  refine ⟨(Bx2.new w _ _ _).next ((Below.refl _ _).alloc (Nat.le_refl _) _), ?_, ((Below.refl w.heap.size w).alloc (Nat.le_refl _) _).alloc (by simp) _⟩
  have := Bx2.new (w.alloc (.cells #[.string M, .string O] 24)) (.bool bb) (.string bt) 28
  rwa [World.size_alloc] at this
theorem GI2.next {w W W' : World} {M O : ByteArray} {bb : Bool} {bt : ByteArray} (h : GI2 w W M O bb bt) (hb : Below W.heap.size W W') : GI2 w W' M O bb bt :=
  ⟨h.1.next hb, h.2.1.next hb, h.2.2.trans (hb.mono (Nat.le_of_lt h.1.lt))⟩
set_option maxRecDepth 100000 in
set_option maxHeartbeats 4000000 in
theorem r13_Exp (M O x : ByteArray) (bb : Bool) (bt : ByteArray) (hM : M.size ≤ 8) (hO : O.size ≤ 8) (hx : x.size ≤ 1000) (hb : bt.size ≤ 1000) (w : World) : Calls Tryz.prog 49 #[gV M O, .string x, zV bb bt] w (Ret (prR M O [x] [(bb, bt)]) w) := by
  have HVA := Lib.hid (r01_Valid x (by omega))
  have HVB := Lib.hid (r02_Valid bb bt (by omega))
  have HCK := Lib.hid (r13_Check M O hM hO)
  have HHS := Lib.hid (fun (hc : chkK M O = 0) (hv : nvalid x = true) => show ∀ w, Calls Tryz.prog 64 #[.agg #[.string M, .string O], .string x] w (Ret (.bool (hasN (num M) (num O) (num x))) w) from by
    obtain ⟨v1, v2, _⟩ := chkK_parts hc
    have := r13_has (num M) (num O) (num x) (num_small hM) (num_small hO) (nvalid_lt hv)
    rwa [← nS_num v1, ← nS_num v2, ← nS_num hv] at this)
  have HRA := Lib.hid (fun (hc : ckR M O [x] [(bb, bt)] true = 0) (w : World) => show Calls Tryz.prog 66 #[.agg #[.string M, .string O], .string x, .agg #[.bool bb, .string bt]] w (Ret (.string (nS (pwN (num x) bb (num bt) (num M)))) w) from by
    obtain ⟨g1, g2, g3, _, g5⟩ := ckR_zero hc
    obtain ⟨v1, v2, g6⟩ := chkK_parts g3
    have n1 := all_get (l := [x]) (k := 0) (p := nvalid) g1 rfl
    have z1 := all_get (l := [(bb, bt)]) (k := 0) (p := fun z => zvalid z.1 z.2) g2 rfl
    have u1 := hasN_unit (all_get (l := [x]) (k := 0) (p := fun s => hasN (num M) (num O) (num s)) g5 rfl) g6
    have := r13_raw (num x) (num M) O bb bt u1.1 (num_small hM) u1.2.1 u1.2.2 z1 w
    rwa [← nS_num n1, ← nS_num v1] at this)
  have HBAD := Lib.hid (fun (c : Int) (h : ckR M O [x] [(bb, bt)] true = c) (hc : c ≠ 0) => prR_one_bad h hc)
  have HGOOD := Lib.hid (fun (h : ckR M O [x] [(bb, bt)] true = 0) => show prR M O [x] [(bb, bt)] = .tuple #[.string (nS (pwN (num x) bb (num bt) (num M))), .int .i64 0] from by
    unfold prR
    rw [show (decide ([x].length = [(bb, bt)].length)) = true from rfl, if_pos h, prV_one])
  clear hM hO hx hb
  unfold gV zV at *
  cases h1 : nvalid x with
  | false =>
    rw [HBAD.out 3 (by rw [ck_exp, h1]; rfl) (by decide)]
    rw [h1] at HVA
    clear h1
    go_enter Tryz.func49, Tryz.ntmps49
    have hk := GI2.new w M O bb bt
    obtain ⟨W0, hW0⟩ : ∃ W, (w.alloc (.cells #[.string M, .string O] 24)).alloc (.cells #[.bool bb, .string bt] 28) = W := ⟨_, rfl⟩
    rw [hW0] at hk
    have HK := Lib.hid hk
    have c0 := hk.1.c0
    have c1 := hk.1.c1
    have b0 := hk.2.1.c0
    have b1 := hk.2.1.c1
    clear hk
    go_wp2_with fail
    try rw [hW0]
    clear hW0
    refine (HVA.out _).mono ?_
    rintro ev w9 ⟨rfl, rfl⟩
    go_wp2
    go_ret2
    exact ⟨rfl, HK.out.2.2⟩
  | true =>
    rw [h1] at HVA
    cases h2 : zvalid bb bt with
    | false =>
      rw [HBAD.out 3 (by rw [ck_exp, h1, h2]; rfl) (by decide)]
      rw [h2] at HVB
      clear h1 h2
      go_enter Tryz.func49, Tryz.ntmps49
      have hk := GI2.new w M O bb bt
      obtain ⟨W0, hW0⟩ : ∃ W, (w.alloc (.cells #[.string M, .string O] 24)).alloc (.cells #[.bool bb, .string bt] 28) = W := ⟨_, rfl⟩
      rw [hW0] at hk
      have HK := Lib.hid hk
      have c0 := hk.1.c0
      have c1 := hk.1.c1
      have b0 := hk.2.1.c0
      have b1 := hk.2.1.c1
      clear hk
      go_wp2_with fail
      try rw [hW0]
      clear hW0
      refine (HVA.out _).mono ?_
      rintro ev w9 ⟨rfl, rfl⟩
      go_wp2_with fail
      refine (HVB.out _).mono ?_
      rintro ev w1 ⟨rfl, hb⟩
      have hk := HK.out.next hb
      have HK := Lib.hid hk
      clear hb c0 c1 b0 b1
      have c0 := hk.1.c0
      have c1 := hk.1.c1
      have b0 := hk.2.1.c0
      have b1 := hk.2.1.c1
      clear hk
      go_wp2
      go_ret2
      exact ⟨rfl, HK.out.2.2⟩
    | true =>
      rw [h2] at HVB
      by_cases hc : chkK M O = 0
      · have HA := Lib.hid (HHS.out hc h1)
        rw [hc] at HCK
        cases h3 : hasN (num M) (num O) (num x) with
        | false =>
          rw [HBAD.out 13 (by rw [ck_exp, h1, h2, h3, if_neg (by decide), if_neg (by decide), if_pos hc]; rfl) (by decide)]
          rw [h3] at HA
          clear h1 h2 h3 hc
          go_enter Tryz.func49, Tryz.ntmps49
          have hk := GI2.new w M O bb bt
          obtain ⟨W0, hW0⟩ : ∃ W, (w.alloc (.cells #[.string M, .string O] 24)).alloc (.cells #[.bool bb, .string bt] 28) = W := ⟨_, rfl⟩
          rw [hW0] at hk
          have HK := Lib.hid hk
          have c0 := hk.1.c0
          have c1 := hk.1.c1
          have b0 := hk.2.1.c0
          have b1 := hk.2.1.c1
          clear hk
          go_wp2_with fail
          try rw [hW0]
          clear hW0
          refine (HVA.out _).mono ?_
          rintro ev w9 ⟨rfl, rfl⟩
          go_wp2_with fail
          refine (HVB.out _).mono ?_
          rintro ev w1 ⟨rfl, hb⟩
          have hk := HK.out.next hb
          have HK := Lib.hid hk
          clear hb c0 c1 b0 b1
          have c0 := hk.1.c0
          have c1 := hk.1.c1
          have b0 := hk.2.1.c0
          have b1 := hk.2.1.c1
          clear hk
          go_wp2_with fail
          refine (HCK.out _).mono ?_
          rintro ev w2 ⟨rfl, hb⟩
          have hk := HK.out.next hb
          have HK := Lib.hid hk
          clear hb c0 c1 b0 b1
          have c0 := hk.1.c0
          have c1 := hk.1.c1
          have b0 := hk.2.1.c0
          have b1 := hk.2.1.c1
          clear hk
          go_wp2_with fail
          refine (HA.out _).mono ?_
          rintro ev w3 ⟨rfl, hb⟩
          have hk := HK.out.next hb
          have HK := Lib.hid hk
          clear hb c0 c1 b0 b1
          have c0 := hk.1.c0
          have c1 := hk.1.c1
          have b0 := hk.2.1.c0
          have b1 := hk.2.1.c1
          clear hk
          go_wp2
          go_ret2
          exact ⟨rfl, HK.out.2.2⟩
        | true =>
          rw [h3] at HA
          have h0 : ckR M O [x] [(bb, bt)] true = 0 := by rw [ck_exp, h1, h2, h3, if_neg (by decide), if_neg (by decide), if_pos hc]; rfl
          rw [HGOOD.out h0]
          have HMM := Lib.hid (HRA.out h0)
          obtain ⟨r, hr⟩ : ∃ r, nS (pwN (num x) bb (num bt) (num M)) = r := ⟨_, rfl⟩
          rw [hr] at HMM ⊢
          clear h0 h1 h2 h3 hc hr HRA HGOOD
          go_enter Tryz.func49, Tryz.ntmps49
          have hk := GI2.new w M O bb bt
          obtain ⟨W0, hW0⟩ : ∃ W, (w.alloc (.cells #[.string M, .string O] 24)).alloc (.cells #[.bool bb, .string bt] 28) = W := ⟨_, rfl⟩
          rw [hW0] at hk
          have HK := Lib.hid hk
          have c0 := hk.1.c0
          have c1 := hk.1.c1
          have b0 := hk.2.1.c0
          have b1 := hk.2.1.c1
          clear hk
          go_wp2_with fail
          try rw [hW0]
          clear hW0
          refine (HVA.out _).mono ?_
          rintro ev w9 ⟨rfl, rfl⟩
          go_wp2_with fail
          refine (HVB.out _).mono ?_
          rintro ev w1 ⟨rfl, hb⟩
          have hk := HK.out.next hb
          have HK := Lib.hid hk
          clear hb c0 c1 b0 b1
          have c0 := hk.1.c0
          have c1 := hk.1.c1
          have b0 := hk.2.1.c0
          have b1 := hk.2.1.c1
          clear hk
          go_wp2_with fail
          refine (HCK.out _).mono ?_
          rintro ev w2 ⟨rfl, hb⟩
          have hk := HK.out.next hb
          have HK := Lib.hid hk
          clear hb c0 c1 b0 b1
          have c0 := hk.1.c0
          have c1 := hk.1.c1
          have b0 := hk.2.1.c0
          have b1 := hk.2.1.c1
          clear hk
          go_wp2_with fail
          refine (HA.out _).mono ?_
          rintro ev w3 ⟨rfl, hb⟩
          have hk := HK.out.next hb
          have HK := Lib.hid hk
          clear hb c0 c1 b0 b1
          have c0 := hk.1.c0
          have c1 := hk.1.c1
          have b0 := hk.2.1.c0
          have b1 := hk.2.1.c1
          clear hk
          go_wp2_with fail
          refine (HMM.out _).mono ?_
          rintro ev w4 ⟨rfl, hb⟩
          have hk := HK.out.next hb
          have HK := Lib.hid hk
          clear hb c0 c1 b0 b1
          have c0 := hk.1.c0
          have c1 := hk.1.c1
          have b0 := hk.2.1.c0
          have b1 := hk.2.1.c1
          clear hk
          go_wp2
          go_ret2
          exact ⟨rfl, HK.out.2.2⟩
      · obtain ⟨cc, hcc⟩ : ∃ cc, chkK M O = cc := ⟨_, rfl⟩
        have hc' := hc
        rw [hcc] at hc'
        rw [HBAD.out cc (by rw [ck_exp, h1, h2, if_neg (by decide), if_neg (by decide), if_neg hc, hcc]) hc']
        rw [hcc] at HCK
        have hcb : (cc == 0) = false := by rw [beq_eq_false_iff_ne]; exact hc'
        have hcb2 : (cc != 0) = true := by rw [bne, hcb]; rfl
        clear h1 h2 hc hc' hcc
        go_enter Tryz.func49, Tryz.ntmps49
        have hk := GI2.new w M O bb bt
        obtain ⟨W0, hW0⟩ : ∃ W, (w.alloc (.cells #[.string M, .string O] 24)).alloc (.cells #[.bool bb, .string bt] 28) = W := ⟨_, rfl⟩
        rw [hW0] at hk
        have HK := Lib.hid hk
        have c0 := hk.1.c0
        have c1 := hk.1.c1
        have b0 := hk.2.1.c0
        have b1 := hk.2.1.c1
        clear hk
        go_wp2_with fail
        try rw [hW0]
        clear hW0
        refine (HVA.out _).mono ?_
        rintro ev w9 ⟨rfl, rfl⟩
        go_wp2_with fail
        refine (HVB.out _).mono ?_
        rintro ev w1 ⟨rfl, hb⟩
        have hk := HK.out.next hb
        have HK := Lib.hid hk
        clear hb c0 c1 b0 b1
        have c0 := hk.1.c0
        have c1 := hk.1.c1
        have b0 := hk.2.1.c0
        have b1 := hk.2.1.c1
        clear hk
        go_wp2_with fail
        refine (HCK.out _).mono ?_
        rintro ev w2 ⟨rfl, hb⟩
        have hk := HK.out.next hb
        have HK := Lib.hid hk
        clear hb c0 c1 b0 b1
        have c0 := hk.1.c0
        have c1 := hk.1.c1
        have b0 := hk.2.1.c0
        have b1 := hk.2.1.c1
        clear hk
        go_wp2
        go_ret2
        exact ⟨rfl, HK.out.2.2⟩
end Go.Proofs.YtnnfgphioapmnaaGreat

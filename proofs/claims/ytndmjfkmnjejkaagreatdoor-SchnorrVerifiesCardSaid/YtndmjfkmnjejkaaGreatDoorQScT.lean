/- Walks: dominoref33.commitment, secret. -/
import Derived.Test.YtndmjfkmnjejkaaGreatDoorQScR
import Derived.Test.YtndmjfkmnjejkaaGreatDoorQScC
import Derived.Deep.Cut
set_option linter.unusedVariables false
set_option linter.unusedSimpArgs false
namespace Go.Proofs.YtndmjfkmnjejkaaGreatDoor
open Go.RowKit Go.Lib
set_option maxRecDepth 100000 in
set_option maxHeartbeats 2000000 in
theorem r33_commitment (M O G Y c r : ByteArray) (hM : M.size ≤ 8) (hk : scK M O G Y = 0) (vc : nvalid c = true) (vr : nvalid r = true) (hcq : num c < num O) (w : World) : Calls Tryz.prog 72 #[kV M O G Y, .agg #[.string c, .string r]] w (Ret (.string (nS (cmS (num M) (num O) (num G) (num Y) (num c) (num r)))) w) := by
  obtain ⟨hv, hc, hz, hg, hy⟩ := scK_ok hk
  obtain ⟨v1, v2, v3, v4⟩ := all_four hv
  have h8 := chk_small hv hM hc
  have lO := num_small h8
  have lM := num_small hM
  have hm0 : 0 < num M := by
    obtain ⟨i, hu⟩ := has_un (chkK_parts hc).2.2 (genK_parts hg).1
    have := hu.1
    omega
  have HR1 := Lib.hid (r33_raise M O G r hM v1 hm0 v3 vr)
  have vd : nvalid (nS (num O - num c)) = true := nvalid_nS.2 (lt128_of_lt8 (by omega))
  have HMN := Lib.hid (r01_Minus (num O) (num c) (by rw [← nS_num v2]; omega) (by omega))
  rw [← nS_num v2, ← nS_num vc] at HMN
  have HR2 := Lib.hid (r33_raise M O Y (nS (num O - num c)) hM v1 hm0 v4 vd)
  rw [num_nS] at HR2
  have HML := Lib.hid (r03_Mul (num G ^ num r % num M) (num Y ^ (num O - num c) % num M) (num M) (lt128_of_lt8 (by have := Nat.mod_lt (num G ^ num r) hm0; omega)) (lt128_of_lt8 (by have := Nat.mod_lt (num Y ^ (num O - num c)) hm0; omega)) lM hm0)
  rw [← Nat.mul_mod, show num G ^ num r * num Y ^ (num O - num c) % num M = cmS (num M) (num O) (num G) (num Y) (num c) (num r) from rfl, ← nS_num v1] at HML
  obtain ⟨z1, hz1⟩ : ∃ z, nS (num G ^ num r % num M) = z := ⟨_, rfl⟩
  obtain ⟨z2, hz2⟩ : ∃ z, nS (num Y ^ (num O - num c) % num M) = z := ⟨_, rfl⟩
  obtain ⟨z3, hz3⟩ : ∃ z, nS (num O - num c) = z := ⟨_, rfl⟩
  obtain ⟨z4, hz4⟩ : ∃ z, nS (cmS (num M) (num O) (num G) (num Y) (num c) (num r)) = z := ⟨_, rfl⟩
  rw [hz1] at HR1
  rw [hz2, hz3] at HR2
  rw [hz3] at HMN
  rw [hz1, hz2, hz4] at HML
  rw [hz4]
  have HX0 := Lib.hid (SG.new w M O G Y c r)
  obtain ⟨W0, hW0⟩ : ∃ W, (w.alloc (.cells #[.string M, .string O, .string G, .string Y] 46)).alloc (.cells #[.string c, .string r] 52) = W := ⟨_, rfl⟩
  rw [hW0] at HX0
  obtain ⟨c0, c1, c2, c3⟩ := HX0.out.1.1.cells
  have s0 := HX0.out.2.c0
  have s1 := HX0.out.2.c1
  unfold kV gV at *
  clear hz1 hz2 hz3 hz4 hM hk vc vr hcq hv hc hz hg hy v1 v2 v3 v4 h8 lO lM hm0 vd
  go_enter Tryz.func72, Tryz.ntmps72
  go_wp2_with fail
  try rw [hW0]
  clear hW0
  refine (HR1.out _).mono ?_
  rintro ev w1 ⟨rfl, hb⟩
  have HX1 := Lib.hid (HX0.out.next hb)
  clear hb c0 c1 c2 c3 s0 s1
  go_wp2
  obtain ⟨wd, hwd⟩ : ∃ wd, w1.drew = wd := ⟨_, rfl⟩
  have HXd := Lib.hid (show SG w wd M O G Y c r from by rw [← hwd]; exact HX1.out.next (Below.refl _ _).drew)
  obtain ⟨c0, c1, c2, c3⟩ := HXd.out.1.1.cells
  have s0 := HXd.out.2.c0
  refine wp_region_K 12 (Below (wd).heap.size (wd)) (by kernel_rfl) ?_
  intro hD
  rw [hwd]
  have KK1 := Lib.hid (fun w' (hS' : (Below (wd).heap.size (wd)) w') => And.intro (kC hS' c0) (And.intro (kC hS' c1) (And.intro (kC hS' c2) (And.intro (kC hS' c3) (kC hS' s0)))))
  refine rP 0 16 11 rfl hD (Below.refl _ _) ?_; clear hD; intro hD; simp only [Act.put, sqA, sqB, sqC]
  refine rT 1 17 10 rfl hD (Below.refl _ _) (by intro w' hS'; obtain ⟨e0, e1, e2, e3, e4⟩ := KK1.out w' hS'; go_simp; with_reducible rfl) ?_; clear hD; intro hD; simp only [Act.put, sqA, sqB, sqC]
  refine rP 2 18 9 rfl hD (Below.refl _ _) ?_; clear hD; intro hD; simp only [Act.put, sqA, sqB, sqC]
  refine rT 3 19 8 rfl hD (Below.refl _ _) (by intro w' hS'; obtain ⟨e0, e1, e2, e3, e4⟩ := KK1.out w' hS'; go_simp; with_reducible rfl) ?_; clear hD; intro hD; simp only [Act.put, sqA, sqB, sqC]
  refine rP 4 20 7 rfl hD (Below.refl _ _) ?_; clear hD; intro hD; simp only [Act.put, sqA, sqB, sqC]
  refine rP 5 21 6 rfl hD (Below.refl _ _) ?_; clear hD; intro hD; simp only [Act.put, sqA, sqB, sqC]
  refine rT 6 22 5 rfl hD (Below.refl _ _) (by intro w' hS'; obtain ⟨e0, e1, e2, e3, e4⟩ := KK1.out w' hS'; go_simp; with_reducible rfl) ?_; clear hD; intro hD; simp only [Act.put, sqA, sqB, sqC]
  refine rP 7 23 4 rfl hD (Below.refl _ _) ?_; clear hD; intro hD; simp only [Act.put, sqA, sqB, sqC]
  refine rT 8 24 3 rfl hD (Below.refl _ _) (by intro w' hS'; obtain ⟨e0, e1, e2, e3, e4⟩ := KK1.out w' hS'; go_simp; with_reducible rfl) ?_; clear hD; intro hD; simp only [Act.put, sqA, sqB, sqC]
  refine rO 9 2 rfl hD ?_; clear hD; intro K9 hK9
  go_wp2_with fail
  refine (HMN.out _).mono ?_
  rintro ev w2 ⟨rfl, hb2⟩
  have HB9 := Lib.hid hb2
  clear hb2
  go_wp2
  refine hK9 _ _ (by exact HB9.out) ?_; clear hK9; intro hS_2_9 hD
  refine rO 10 1 rfl hD ?_; clear hD; intro K10 hK10
  go_wp2_with fail
  refine (HR2.out _).mono ?_
  rintro ev w3 ⟨rfl, hb3⟩
  have HB10 := Lib.hid hb3
  clear hb3
  go_wp2
  refine hK10 _ _ (by exact Below.trans hS_2_9 (Below.mono HB10.out (Below.size hS_2_9))) ?_; clear hK10; intro hS_2_10 hD
  refine rO 11 0 rfl hD ?_; clear hD; intro K11 hK11
  go_wp2
  refine hK11 _ _ (by exact hS_2_10) ?_; clear hK11; intro hS_2_11 hD
  have HL := Lib.hid hS_2_11
  refine wpAnyK_done (by kernel_rfl) ?_ 0
  clear hD
  have HX3 := Lib.hid (HXd.out.next HL.out)
  clear c0 c1 c2 c3 s0
  obtain ⟨c0, c1, c2, c3⟩ := HX3.out.1.1.cells
  go_wp2_with fail
  refine (HML.out _).mono ?_
  rintro ev w4 ⟨rfl, hb4⟩
  have HX4 := Lib.hid (HX3.out.next hb4)
  clear hb4
  go_wp2
  go_ret
  exact ⟨rfl, HX4.out.1.2⟩
end Go.Proofs.YtndmjfkmnjejkaaGreatDoor
/- Walks: schnorr.Verify, dominoref33.Verify. -/
set_option linter.unusedVariables false
set_option linter.unusedSimpArgs false
namespace Go.Proofs.YtndmjfkmnjejkaaGreatDoor
open Go.RowKit Go.Lib
def veB (M O G Y c r msg : ByteArray) : Bool := decide (chS M O G Y (cmS (num M) (num O) (num G) (num Y) (num c) (num r)) msg = num c)
def veK (M O G Y c r msg : ByteArray) : Int :=
  if scK M O G Y = 0 then (if (nvalid c && nvalid r) = true then (if (decide (num c < num O) && (decide (num r < num O) && veB M O G Y c r msg)) = true then 0 else 19) else 3) else scK M O G Y
theorem chS_fold (M O G Y msg : ByteArray) (x : Nat) : chL (snL M.data.toList O.data.toList G.data.toList Y.data.toList (nS x).data.toList msg.data.toList) O.size (num O) = chS M O G Y x msg := rfl
theorem field_run (R : ByteArray) (w : World) : (Instr.field 106 (.agg #[.string R]) 0).run Tryz.prog w = .ok (.string R) w := by kernel_rfl
set_option maxRecDepth 100000 in
set_option maxHeartbeats 4000000 in
theorem sc_Verify (M O G Y c r msg : ByteArray) (hM : M.size ≤ 8) (hO : O.size ≤ 100) (hG : G.size ≤ 1000) (hY : Y.size ≤ 1000) (hc : c.size ≤ 1000) (hr : r.size ≤ 1000) (hm : msg.size ≤ 1000000) (w : World) :
    Calls Tryz.prog 32 #[kV M O G Y, .string msg, .agg #[.string c, .string r]] w (Ret (.int .i64 (veK M O G Y c r msg)) w) := by
  have hx0 := SG.new w M O G Y c r
  obtain ⟨W0, hW0⟩ : ∃ W, ((w.alloc (.cells #[.string M, .string O, .string G, .string Y] 46)).alloc (.cells #[.string c, .string r] 52)) = W := ⟨_, rfl⟩
  rw [hW0] at hx0
  have HX0 := Lib.hid hx0
  obtain ⟨c0, c1, c2, c3⟩ := hx0.1.1.cells
  have s0 := hx0.2.c0
  have s1 := hx0.2.c1
  clear hx0
  have HCK := Lib.hid (sc_Check M O G Y hM hO hG hY)
  have HFM := Lib.hid (fun W : World => sc_formed [c, r] (some ⟨W.heap.size, 0, none⟩) 2 2 (by omega) (by
    intro z hz
    simp at hz
    rcases hz with h | h <;> subst h <;> omega) (W.alloc (.cells #[.string c, .string r] 22)) (sln_alloc W [c, r] 22 (by simp)))
  rw [show ([c, r].all nvalid) = (nvalid c && nvalid r) from by simp] at HFM
  by_cases hk : scK M O G Y = 0
  · rw [hk] at HCK
    cases hv : (nvalid c && nvalid r) with
    | false =>
      rw [hv] at HFM
      rw [show veK M O G Y c r msg = 3 from by unfold veK; rw [if_pos hk, hv, if_neg (by decide)]]
      unfold kV at *
      clear hv hk
      go_enter Tryz.func32, Tryz.ntmps32
      go_wp2_with fail
      try rw [hW0]
      clear hW0
      refine (HCK.out _).mono ?_
      rintro ev w1 ⟨rfl, hb⟩
      have HX1 := Lib.hid (HX0.out.next hb)
      clear hb c0 c1 c2 c3 s0 s1
      obtain ⟨c0, c1, c2, c3⟩ := HX1.out.1.1.cells
      have s0 := HX1.out.2.c0
      have s1 := HX1.out.2.c1
      have HX2 := Lib.hid (HX1.out.next ((Below.refl w1.heap.size w1).alloc (Nat.le_refl _) (.cells #[.string c, .string r] 22)))
      go_wp2_with fail
      refine (HFM.out _).mono ?_
      rintro ev w2 ⟨rfl, rfl⟩
      clear c0 c1 c2 c3 s0 s1
      go_wp2
      go_ret
      exact ⟨rfl, HX2.out.1.2⟩
    | true =>
      rw [hv] at HFM
      obtain ⟨vc, vr⟩ := Bool.and_eq_true_iff.1 hv
      obtain ⟨hv4, hck, hz, hg, hy⟩ := scK_ok hk
      obtain ⟨v1, v2, v3, v4⟩ := all_four hv4
      have h8 := chk_small hv4 hM hck
      have HBL := Lib.hid (sc_below M O G Y c r v2 vc vr)
      have HV := Lib.hid (show veK M O G Y c r msg = (if (decide (num c < num O) && (decide (num r < num O) && veB M O G Y c r msg)) = true then 0 else 19) from by unfold veK; rw [if_pos hk, hv, if_pos rfl])
      by_cases hbl : num c < num O ∧ num r < num O
      · rw [decide_eq_true hbl] at HBL
        have HCO := Lib.hid (sc_commitmentOf M O G Y c r hM hk vc vr hbl.1)
        have hRz : (nS (cmS (num M) (num O) (num G) (num Y) (num c) (num r))).size ≤ 1000000 := by
          have hm0 : 0 < num M := by
            obtain ⟨i, hu⟩ := has_un (chkK_parts hck).2.2 (genK_parts hg).1
            have := hu.1
            omega
          have h9 := num_small hM
          have : cmS (num M) (num O) (num G) (num Y) (num c) (num r) < num M := Nat.mod_lt _ hm0
          have : (nS (cmS (num M) (num O) (num G) (num Y) (num c) (num r))).size ≤ 128 := nS_size_le.2 (lt128_of_lt8 (by omega))
          omega
        have HCH := Lib.hid (sc_challenge M O G Y (nS (cmS (num M) (num O) (num G) (num Y) (num c) (num r))) msg hM h8 (by omega) (by omega) hRz hm v2 (by omega))
        rw [chS_fold] at HCH
        have hbe := nS_beq (chS M O G Y (cmS (num M) (num O) (num G) (num Y) (num c) (num r)) msg) (num c)
        rw [← nS_num vc] at hbe
        have HV2 := Lib.hid (show veK M O G Y c r msg = if veB M O G Y c r msg = true then 0 else 19 from by rw [HV.out, decide_eq_true hbl.1, decide_eq_true hbl.2]; rfl)
        have hvb : veB M O G Y c r msg = decide (chS M O G Y (cmS (num M) (num O) (num G) (num Y) (num c) (num r)) msg = num c) := rfl
        rw [← hvb] at hbe
        obtain ⟨R, hR⟩ : ∃ R, nS (cmS (num M) (num O) (num G) (num Y) (num c) (num r)) = R := ⟨_, rfl⟩
        obtain ⟨x, hx⟩ : ∃ x, nS (chS M O G Y (cmS (num M) (num O) (num G) (num Y) (num c) (num r)) msg) = x := ⟨_, rfl⟩
        rw [hR] at HCO HCH
        rw [hx] at HCH hbe
        obtain ⟨b, hb⟩ : ∃ b, veB M O G Y c r msg = b := ⟨_, rfl⟩
        rw [hb] at hbe HV2
        unfold kV at *
        clear hv hk vc vr hv4 hck hz hg hy v1 v2 v3 v4 h8 hbl hRz hR hx hvb hb HV hM hO hG hY hc hr hm
        cases b with
        | false =>
          rw [show veK M O G Y c r msg = 19 from HV2.out]
          go_enter Tryz.func32, Tryz.ntmps32
          go_wp2_with fail
          try rw [hW0]
          clear hW0
          refine (HCK.out _).mono ?_
          rintro ev w1 ⟨rfl, hb⟩
          have HX1 := Lib.hid (HX0.out.next hb)
          clear hb c0 c1 c2 c3 s0 s1
          obtain ⟨c0, c1, c2, c3⟩ := HX1.out.1.1.cells
          have s0 := HX1.out.2.c0
          have s1 := HX1.out.2.c1
          have HX2 := Lib.hid (HX1.out.next ((Below.refl w1.heap.size w1).alloc (Nat.le_refl _) (.cells #[.string c, .string r] 22)))
          go_wp2_with fail
          refine (HFM.out _).mono ?_
          rintro ev w2 ⟨rfl, rfl⟩
          clear c0 c1 c2 c3 s0 s1
          go_wp2
          obtain ⟨wd, hwd⟩ : ∃ wd, World.drew (w1.alloc (.cells #[.string c, .string r] 22)) = wd := ⟨_, rfl⟩
          have HXD := Lib.hid (show SG w wd M O G Y c r from by rw [← hwd]; exact HX2.out.next (Below.refl _ _).drew)
          obtain ⟨k0, k1, k2, k3⟩ := HXD.out.1.1.cells
          have t0 := HXD.out.2.c0
          have t1 := HXD.out.2.c1
          refine wp_region_K 16 (Below (wd).heap.size (wd)) (by kernel_rfl) ?_
          intro hD
          rw [hwd]
          have KK1 := Lib.hid (fun w' (hS' : (Below (wd).heap.size (wd)) w') => And.intro (kC hS' k0) (And.intro (kC hS' k1) (And.intro (kC hS' k2) (And.intro (kC hS' k3) (And.intro (kC hS' t0) (kC hS' t1))))))
          refine rT 0 20 15 rfl hD (Below.refl _ _) (by intro w' hS'; obtain ⟨e0, e1, e2, e3, e4, e5⟩ := KK1.out w' hS'; go_simp; with_reducible rfl) ?_; clear hD; intro hD; simp only [Act.put, sqA, sqB, sqC]
          refine rT 1 21 14 rfl hD (Below.refl _ _) (by intro w' hS'; obtain ⟨e0, e1, e2, e3, e4, e5⟩ := KK1.out w' hS'; go_simp; with_reducible rfl) ?_; clear hD; intro hD; simp only [Act.put, sqA, sqB, sqC]
          refine rO 2 13 rfl hD ?_; clear hD; intro K2 hK2
          go_wp2_with fail
          refine (HBL.out _).mono ?_
          rintro ev w3 ⟨rfl, hb⟩
          have HB2 := Lib.hid hb
          clear hb
          go_wp2
          refine hK2 _ _ (by exact HB2.out) ?_; clear hK2; intro hS_6_2 hD
          refine rP 3 23 12 rfl hD hS_6_2 ?_; clear hD; intro hD; simp only [Act.put, sqA, sqB, sqC]
          refine rP 4 24 11 rfl hD hS_6_2 ?_; clear hD; intro hD; simp only [Act.put, sqA, sqB, sqC]
          refine rT 5 25 10 rfl hD hS_6_2 (by intro w' hS'; obtain ⟨e0, e1, e2, e3, e4, e5⟩ := KK1.out w' hS'; go_simp; with_reducible rfl) ?_; clear hD; intro hD; simp only [Act.put, sqA, sqB, sqC]
          refine rT 6 26 9 rfl hD hS_6_2 (by intro w' hS'; obtain ⟨e0, e1, e2, e3, e4, e5⟩ := KK1.out w' hS'; go_simp; with_reducible rfl) ?_; clear hD; intro hD; simp only [Act.put, sqA, sqB, sqC]
          refine rT 7 27 8 rfl hD hS_6_2 (by intro w' hS'; obtain ⟨e0, e1, e2, e3, e4, e5⟩ := KK1.out w' hS'; go_simp; with_reducible rfl) ?_; clear hD; intro hD; simp only [Act.put, sqA, sqB, sqC]
          refine rP 10 30 7 rfl hD hS_6_2 ?_; clear hD; intro hD; simp only [Act.put, sqA, sqB, sqC]
          refine rP 12 32 6 rfl hD hS_6_2 ?_; clear hD; intro hD; simp only [Act.put, sqA, sqB, sqC]
          refine rT 13 33 5 rfl hD hS_6_2 (by intro w' hS'; obtain ⟨e0, e1, e2, e3, e4, e5⟩ := KK1.out w' hS'; go_simp; with_reducible rfl) ?_; clear hD; intro hD; simp only [Act.put, sqA, sqB, sqC]
          refine rO 8 4 rfl hD ?_; clear hD; intro K8 hK8
          go_wp2_with fail
          refine (HCO.out _).mono ?_
          rintro ev w4 ⟨rfl, hb⟩
          have HB8 := Lib.hid hb
          clear hb
          go_wp2
          refine hK8 _ _ (by exact Below.trans hS_6_2 (Below.mono HB8.out (Below.size hS_6_2))) ?_; clear hK8; intro hS_6_8 hD
          refine wpAnyK_takeSD (i := 9) (d := some 29) (v := (.string R)) (fuel := 3) rfl (by kernel_rfl) (by kernel_rfl) (by kernel_rfl) (fun _ _ _ h => h) hD hS_6_8 (.inl ⟨by kernel_rfl, ?y6_9b1⟩) ?n6_9b1
          case y6_9b1 =>
            intro w' _
            have hfd := field_run R w'
            go_simp
          clear hD; intro hD
          simp only [Act.put, sqA, sqB, sqC]
          refine rO 11 2 rfl hD ?_; clear hD; intro K11 hK11
          go_wp2_with fail
          refine (HCH.out _).mono ?_
          rintro ev w5 ⟨rfl, hb⟩
          have HB11 := Lib.hid hb
          clear hb
          go_wp2
          refine hK11 _ _ (by exact Below.trans hS_6_8 (Below.mono HB11.out (Below.size hS_6_8))) ?_; clear hK11; intro hS_6_11 hD
          have HL := Lib.hid hS_6_11
          refine rP 14 34 1 rfl hD hS_6_11 ?_; clear hD; intro hD; simp only [Act.put, sqA, sqB, sqC]
          refine rP 15 35 0 rfl hD hS_6_11 ?_; clear hD; intro hD; simp only [Act.put, sqA, sqB, sqC]
          refine wpAnyK_done (by kernel_rfl) ?_ 0
          clear hD
          go_wp2
          go_ret
          exact ⟨rfl, (HXD.out.next HL.out).1.2⟩
        | true =>
          rw [show veK M O G Y c r msg = 0 from HV2.out]
          go_enter Tryz.func32, Tryz.ntmps32
          go_wp2_with fail
          try rw [hW0]
          clear hW0
          refine (HCK.out _).mono ?_
          rintro ev w1 ⟨rfl, hb⟩
          have HX1 := Lib.hid (HX0.out.next hb)
          clear hb c0 c1 c2 c3 s0 s1
          obtain ⟨c0, c1, c2, c3⟩ := HX1.out.1.1.cells
          have s0 := HX1.out.2.c0
          have s1 := HX1.out.2.c1
          have HX2 := Lib.hid (HX1.out.next ((Below.refl w1.heap.size w1).alloc (Nat.le_refl _) (.cells #[.string c, .string r] 22)))
          go_wp2_with fail
          refine (HFM.out _).mono ?_
          rintro ev w2 ⟨rfl, rfl⟩
          clear c0 c1 c2 c3 s0 s1
          go_wp2
          obtain ⟨wd, hwd⟩ : ∃ wd, World.drew (w1.alloc (.cells #[.string c, .string r] 22)) = wd := ⟨_, rfl⟩
          have HXD := Lib.hid (show SG w wd M O G Y c r from by rw [← hwd]; exact HX2.out.next (Below.refl _ _).drew)
          obtain ⟨k0, k1, k2, k3⟩ := HXD.out.1.1.cells
          have t0 := HXD.out.2.c0
          have t1 := HXD.out.2.c1
          refine wp_region_K 16 (Below (wd).heap.size (wd)) (by kernel_rfl) ?_
          intro hD
          rw [hwd]
          have KK2 := Lib.hid (fun w' (hS' : (Below (wd).heap.size (wd)) w') => And.intro (kC hS' k0) (And.intro (kC hS' k1) (And.intro (kC hS' k2) (And.intro (kC hS' k3) (And.intro (kC hS' t0) (kC hS' t1))))))
          refine rT 0 20 15 rfl hD (Below.refl _ _) (by intro w' hS'; obtain ⟨e0, e1, e2, e3, e4, e5⟩ := KK2.out w' hS'; go_simp; with_reducible rfl) ?_; clear hD; intro hD; simp only [Act.put, sqA, sqB, sqC]
          refine rT 1 21 14 rfl hD (Below.refl _ _) (by intro w' hS'; obtain ⟨e0, e1, e2, e3, e4, e5⟩ := KK2.out w' hS'; go_simp; with_reducible rfl) ?_; clear hD; intro hD; simp only [Act.put, sqA, sqB, sqC]
          refine rO 2 13 rfl hD ?_; clear hD; intro K2 hK2
          go_wp2_with fail
          refine (HBL.out _).mono ?_
          rintro ev w3 ⟨rfl, hb⟩
          have HB2 := Lib.hid hb
          clear hb
          go_wp2
          refine hK2 _ _ (by exact HB2.out) ?_; clear hK2; intro hS_6_2 hD
          refine rP 3 23 12 rfl hD hS_6_2 ?_; clear hD; intro hD; simp only [Act.put, sqA, sqB, sqC]
          refine rP 4 24 11 rfl hD hS_6_2 ?_; clear hD; intro hD; simp only [Act.put, sqA, sqB, sqC]
          refine rT 5 25 10 rfl hD hS_6_2 (by intro w' hS'; obtain ⟨e0, e1, e2, e3, e4, e5⟩ := KK2.out w' hS'; go_simp; with_reducible rfl) ?_; clear hD; intro hD; simp only [Act.put, sqA, sqB, sqC]
          refine rT 6 26 9 rfl hD hS_6_2 (by intro w' hS'; obtain ⟨e0, e1, e2, e3, e4, e5⟩ := KK2.out w' hS'; go_simp; with_reducible rfl) ?_; clear hD; intro hD; simp only [Act.put, sqA, sqB, sqC]
          refine rT 7 27 8 rfl hD hS_6_2 (by intro w' hS'; obtain ⟨e0, e1, e2, e3, e4, e5⟩ := KK2.out w' hS'; go_simp; with_reducible rfl) ?_; clear hD; intro hD; simp only [Act.put, sqA, sqB, sqC]
          refine rP 10 30 7 rfl hD hS_6_2 ?_; clear hD; intro hD; simp only [Act.put, sqA, sqB, sqC]
          refine rP 12 32 6 rfl hD hS_6_2 ?_; clear hD; intro hD; simp only [Act.put, sqA, sqB, sqC]
          refine rT 13 33 5 rfl hD hS_6_2 (by intro w' hS'; obtain ⟨e0, e1, e2, e3, e4, e5⟩ := KK2.out w' hS'; go_simp; with_reducible rfl) ?_; clear hD; intro hD; simp only [Act.put, sqA, sqB, sqC]
          refine rO 8 4 rfl hD ?_; clear hD; intro K8 hK8
          go_wp2_with fail
          refine (HCO.out _).mono ?_
          rintro ev w4 ⟨rfl, hb⟩
          have HB8 := Lib.hid hb
          clear hb
          go_wp2
          refine hK8 _ _ (by exact Below.trans hS_6_2 (Below.mono HB8.out (Below.size hS_6_2))) ?_; clear hK8; intro hS_6_8 hD
          refine wpAnyK_takeSD (i := 9) (d := some 29) (v := (.string R)) (fuel := 3) rfl (by kernel_rfl) (by kernel_rfl) (by kernel_rfl) (fun _ _ _ h => h) hD hS_6_8 (.inl ⟨by kernel_rfl, ?y6_9b2⟩) ?n6_9b2
          case y6_9b2 =>
            intro w' _
            have hfd := field_run R w'
            go_simp
          clear hD; intro hD
          simp only [Act.put, sqA, sqB, sqC]
          refine rO 11 2 rfl hD ?_; clear hD; intro K11 hK11
          go_wp2_with fail
          refine (HCH.out _).mono ?_
          rintro ev w5 ⟨rfl, hb⟩
          have HB11 := Lib.hid hb
          clear hb
          go_wp2
          refine hK11 _ _ (by exact Below.trans hS_6_8 (Below.mono HB11.out (Below.size hS_6_8))) ?_; clear hK11; intro hS_6_11 hD
          have HL := Lib.hid hS_6_11
          refine rP 14 34 1 rfl hD hS_6_11 ?_; clear hD; intro hD; simp only [Act.put, sqA, sqB, sqC]
          refine rP 15 35 0 rfl hD hS_6_11 ?_; clear hD; intro hD; simp only [Act.put, sqA, sqB, sqC]
          refine wpAnyK_done (by kernel_rfl) ?_ 0
          clear hD
          go_wp2
          go_ret
          exact ⟨rfl, (HXD.out.next HL.out).1.2⟩
      · have HV3 := Lib.hid (show veK M O G Y c r msg = 19 from by
          rw [HV.out]
          by_cases h1 : num c < num O
          · rw [decide_eq_true h1, decide_eq_false (fun h2 => hbl ⟨h1, h2⟩)]; rfl
          · rw [decide_eq_false h1]; rfl)
        rw [decide_eq_false hbl] at HBL
        rw [HV3.out]
        unfold kV at *
        clear hv hk vc vr hv4 hck hz hg hy v1 v2 v3 v4 h8 hbl HV hM hO hG hY hc hr hm
        go_enter Tryz.func32, Tryz.ntmps32
        go_wp2_with fail
        try rw [hW0]
        clear hW0
        refine (HCK.out _).mono ?_
        rintro ev w1 ⟨rfl, hb⟩
        have HX1 := Lib.hid (HX0.out.next hb)
        clear hb c0 c1 c2 c3 s0 s1
        obtain ⟨c0, c1, c2, c3⟩ := HX1.out.1.1.cells
        have s0 := HX1.out.2.c0
        have s1 := HX1.out.2.c1
        have HX2 := Lib.hid (HX1.out.next ((Below.refl w1.heap.size w1).alloc (Nat.le_refl _) (.cells #[.string c, .string r] 22)))
        go_wp2_with fail
        refine (HFM.out _).mono ?_
        rintro ev w2 ⟨rfl, rfl⟩
        clear c0 c1 c2 c3 s0 s1
        go_wp2
        obtain ⟨wd, hwd⟩ : ∃ wd, World.drew (w1.alloc (.cells #[.string c, .string r] 22)) = wd := ⟨_, rfl⟩
        have HXD := Lib.hid (show SG w wd M O G Y c r from by rw [← hwd]; exact HX2.out.next (Below.refl _ _).drew)
        obtain ⟨k0, k1, k2, k3⟩ := HXD.out.1.1.cells
        have t0 := HXD.out.2.c0
        have t1 := HXD.out.2.c1
        refine wp_region_K 16 (Below (wd).heap.size (wd)) (by kernel_rfl) ?_
        intro hD
        rw [hwd]
        have KK3 := Lib.hid (fun w' (hS' : (Below (wd).heap.size (wd)) w') => And.intro (kC hS' k0) (And.intro (kC hS' k1) (And.intro (kC hS' k2) (And.intro (kC hS' k3) (And.intro (kC hS' t0) (kC hS' t1))))))
        refine rT 0 20 15 rfl hD (Below.refl _ _) (by intro w' hS'; obtain ⟨e0, e1, e2, e3, e4, e5⟩ := KK3.out w' hS'; go_simp; with_reducible rfl) ?_; clear hD; intro hD; simp only [Act.put, sqA, sqB, sqC]
        refine rT 1 21 14 rfl hD (Below.refl _ _) (by intro w' hS'; obtain ⟨e0, e1, e2, e3, e4, e5⟩ := KK3.out w' hS'; go_simp; with_reducible rfl) ?_; clear hD; intro hD; simp only [Act.put, sqA, sqB, sqC]
        refine rO 2 13 rfl hD ?_; clear hD; intro K2 hK2
        go_wp2_with fail
        refine (HBL.out _).mono ?_
        rintro ev w3 ⟨rfl, hb⟩
        have HB2 := Lib.hid hb
        clear hb
        go_wp2
        refine hK2 _ _ (by exact HB2.out) ?_; clear hK2; intro hS_6_2 hD
        have HL := Lib.hid hS_6_2
        refine rP 3 23 12 rfl hD hS_6_2 ?_; clear hD; intro hD; simp only [Act.put, sqA, sqB, sqC]
        refine rP 4 24 11 rfl hD hS_6_2 ?_; clear hD; intro hD; simp only [Act.put, sqA, sqB, sqC]
        refine rU 5 25 10 rfl hD hS_6_2 ?_; clear hD; intro hD; simp only [Act.put, sqA, sqB, sqC]
        refine rU 6 26 9 rfl hD hS_6_2 ?_; clear hD; intro hD; simp only [Act.put, sqA, sqB, sqC]
        refine rU 7 27 8 rfl hD hS_6_2 ?_; clear hD; intro hD; simp only [Act.put, sqA, sqB, sqC]
        refine rU 8 28 7 rfl hD hS_6_2 ?_; clear hD; intro hD; simp only [Act.put, sqA, sqB, sqC]
        refine rU 9 29 6 rfl hD hS_6_2 ?_; clear hD; intro hD; simp only [Act.put, sqA, sqB, sqC]
        refine rU 10 30 5 rfl hD hS_6_2 ?_; clear hD; intro hD; simp only [Act.put, sqA, sqB, sqC]
        refine rU 11 31 4 rfl hD hS_6_2 ?_; clear hD; intro hD; simp only [Act.put, sqA, sqB, sqC]
        refine rU 12 32 3 rfl hD hS_6_2 ?_; clear hD; intro hD; simp only [Act.put, sqA, sqB, sqC]
        refine rU 13 33 2 rfl hD hS_6_2 ?_; clear hD; intro hD; simp only [Act.put, sqA, sqB, sqC]
        refine rU 14 34 1 rfl hD hS_6_2 ?_; clear hD; intro hD; simp only [Act.put, sqA, sqB, sqC]
        refine rP 15 35 0 rfl hD hS_6_2 ?_; clear hD; intro hD; simp only [Act.put, sqA, sqB, sqC]
        refine wpAnyK_done (by kernel_rfl) ?_ 0
        clear hD
        go_wp2
        go_ret
        exact ⟨rfl, (HXD.out.next HL.out).1.2⟩
  · rw [show veK M O G Y c r msg = scK M O G Y from if_neg hk]
    obtain ⟨e, he⟩ : ∃ e, scK M O G Y = e := ⟨_, rfl⟩
    rw [he] at HCK hk ⊢
    unfold kV at *
    clear he
    go_enter Tryz.func32, Tryz.ntmps32
    go_wp2_with fail
    try rw [hW0]
    clear hW0
    refine (HCK.out _).mono ?_
    rintro ev w1 ⟨rfl, hb⟩
    have HX1 := Lib.hid (HX0.out.next hb)
    clear hb c0 c1 c2 c3 s0 s1
    obtain ⟨c0, c1, c2, c3⟩ := HX1.out.1.1.cells
    have s0 := HX1.out.2.c0
    have s1 := HX1.out.2.c1
    go_upto_region 3 with (fail)
    clear hk
    go_wp2
    go_ret
    exact ⟨rfl, HX1.out.1.2⟩
end Go.Proofs.YtndmjfkmnjejkaaGreatDoor
/- Walk: dominoref33.Verify. -/
set_option linter.unusedVariables false
set_option linter.unusedSimpArgs false
namespace Go.Proofs.YtndmjfkmnjejkaaGreatDoor
open Go.RowKit Go.Lib
set_option maxRecDepth 100000 in
set_option maxHeartbeats 4000000 in
theorem r33_Verify (M O G Y c r msg : ByteArray) (hM : M.size ≤ 8) (hO : O.size ≤ 100) (hG : G.size ≤ 1000) (hY : Y.size ≤ 1000) (hc : c.size ≤ 1000) (hr : r.size ≤ 1000) (hm : msg.size ≤ 1000000) (w : World) :
    Calls Tryz.prog 33 #[kV M O G Y, .string msg, .agg #[.string c, .string r]] w (Ret (.int .i64 (veK M O G Y c r msg)) w) := by
  have hx0 := SG.new w M O G Y c r
  obtain ⟨W0, hW0⟩ : ∃ W, ((w.alloc (.cells #[.string M, .string O, .string G, .string Y] 46)).alloc (.cells #[.string c, .string r] 52)) = W := ⟨_, rfl⟩
  rw [hW0] at hx0
  have HX0 := Lib.hid hx0
  obtain ⟨c0, c1, c2, c3⟩ := hx0.1.1.cells
  have s0 := hx0.2.c0
  have s1 := hx0.2.c1
  clear hx0
  have HCK := Lib.hid (r33_Check M O G Y hM hO hG hY)
  have HVC := Lib.hid (r01_Valid c (by omega))
  have HVR := Lib.hid (r01_Valid r (by omega))
  by_cases hk : scK M O G Y = 0
  · rw [hk] at HCK
    cases vc : nvalid c with
    | false =>
      rw [vc] at HVC
      rw [show veK M O G Y c r msg = 3 from by unfold veK; rw [if_pos hk, vc, Bool.false_and, if_neg (by decide)]]
      unfold kV at *
      clear vc hk
      go_enter Tryz.func33, Tryz.ntmps33
      go_wp2_with fail
      try rw [hW0]
      clear hW0
      refine (HCK.out _).mono ?_
      rintro ev w1 ⟨rfl, hb⟩
      have HX1 := Lib.hid (HX0.out.next hb)
      clear hb c0 c1 c2 c3 s0 s1
      obtain ⟨c0, c1, c2, c3⟩ := HX1.out.1.1.cells
      have s0 := HX1.out.2.c0
      have s1 := HX1.out.2.c1
      go_wp2_with fail
      refine (HVC.out _).mono ?_
      rintro ev w2 ⟨rfl, rfl⟩
      go_wp2
      go_ret
      exact ⟨rfl, HX1.out.1.2⟩
    | true =>
      rw [vc] at HVC
      cases vr : nvalid r with
      | false =>
        rw [vr] at HVR
        rw [show veK M O G Y c r msg = 3 from by unfold veK; rw [if_pos hk, vr, Bool.and_false, if_neg (by decide)]]
        unfold kV at *
        clear vc vr hk
        go_enter Tryz.func33, Tryz.ntmps33
        go_wp2_with fail
        try rw [hW0]
        clear hW0
        refine (HCK.out _).mono ?_
        rintro ev w1 ⟨rfl, hb⟩
        have HX1 := Lib.hid (HX0.out.next hb)
        clear hb c0 c1 c2 c3 s0 s1
        obtain ⟨c0, c1, c2, c3⟩ := HX1.out.1.1.cells
        have s0 := HX1.out.2.c0
        have s1 := HX1.out.2.c1
        go_wp2_with fail
        refine (HVC.out _).mono ?_
        rintro ev w2 ⟨rfl, rfl⟩
        go_wp2_with fail
        refine (HVR.out _).mono ?_
        rintro ev w2 ⟨rfl, rfl⟩
        go_wp2
        go_ret
        exact ⟨rfl, HX1.out.1.2⟩
      | true =>
        rw [vr] at HVR
        obtain ⟨hv4, hck, hz, hg, hy⟩ := scK_ok hk
        obtain ⟨v1, v2, v3, v4⟩ := all_four hv4
        have h8 := chk_small hv4 hM hck
        have lO := nvalid_lt v2
        have lc := nvalid_lt vc
        have lr := nvalid_lt vr
        have HCC := Lib.hid (r01_Order (nS (num c)) (nS (num O)) (by have := nS_size_le.2 lc; omega) (by have := nS_size_le.2 lO; omega))
        rw [ordB_nS, ← nS_num vc, ← nS_num v2] at HCC
        have HCR := Lib.hid (r01_Order (nS (num r)) (nS (num O)) (by have := nS_size_le.2 lr; omega) (by have := nS_size_le.2 lO; omega))
        rw [ordB_nS, ← nS_num vr, ← nS_num v2] at HCR
        have hcm := cmpI_ltC (x := num c) (y := num O)
        have hrm := cmpI_ltC (x := num r) (y := num O)
        obtain ⟨k1, hk1⟩ : ∃ k, cmpI (num c) (num O) = k := ⟨_, rfl⟩
        obtain ⟨k2, hk2⟩ : ∃ k, cmpI (num r) (num O) = k := ⟨_, rfl⟩
        rw [hk1] at HCC hcm
        rw [hk2] at HCR hrm
        have HV := Lib.hid (show veK M O G Y c r msg = (if (decide (num c < num O) && (decide (num r < num O) && veB M O G Y c r msg)) = true then 0 else 19) from by unfold veK; rw [if_pos hk, vc, vr, Bool.and_self, if_pos rfl])
        by_cases h1 : num c < num O
        · have hge1 : decide (0 ≤ k1) = false := decide_eq_false (by have : k1 < 0 := by rw [hcm]; exact h1
                                                                     omega)
          by_cases h2 : num r < num O
          · have hge2 : decide (0 ≤ k2) = false := decide_eq_false (by have : k2 < 0 := by rw [hrm]; exact h2
                                                                       omega)
            have HCO := Lib.hid (r33_commitment M O G Y c r hM hk vc vr h1)
            have hRz : (nS (cmS (num M) (num O) (num G) (num Y) (num c) (num r))).size ≤ 1000000 := by
              have hm0 : 0 < num M := by
                obtain ⟨i, hu⟩ := has_un (chkK_parts hck).2.2 (genK_parts hg).1
                have := hu.1
                omega
              have h9 := num_small hM
              have : cmS (num M) (num O) (num G) (num Y) (num c) (num r) < num M := Nat.mod_lt _ hm0
              have : (nS (cmS (num M) (num O) (num G) (num Y) (num c) (num r))).size ≤ 128 := nS_size_le.2 (lt128_of_lt8 (by omega))
              omega
            have HCH := Lib.hid (r33_challenge M O G Y (nS (cmS (num M) (num O) (num G) (num Y) (num c) (num r))) msg hM h8 (by omega) (by omega) hRz hm v2 (by omega))
            rw [chS_fold] at HCH
            have hbe := nS_beq (chS M O G Y (cmS (num M) (num O) (num G) (num Y) (num c) (num r)) msg) (num c)
            rw [← nS_num vc] at hbe
            have HV2 := Lib.hid (show veK M O G Y c r msg = if veB M O G Y c r msg = true then 0 else 19 from by rw [HV.out, decide_eq_true h1, decide_eq_true h2]; rfl)
            have hvb : veB M O G Y c r msg = decide (chS M O G Y (cmS (num M) (num O) (num G) (num Y) (num c) (num r)) msg = num c) := rfl
            rw [← hvb] at hbe
            obtain ⟨R, hR⟩ : ∃ R, nS (cmS (num M) (num O) (num G) (num Y) (num c) (num r)) = R := ⟨_, rfl⟩
            obtain ⟨x, hx⟩ : ∃ x, nS (chS M O G Y (cmS (num M) (num O) (num G) (num Y) (num c) (num r)) msg) = x := ⟨_, rfl⟩
            rw [hR] at HCO HCH
            rw [hx] at HCH hbe
            obtain ⟨b, hb⟩ : ∃ b, veB M O G Y c r msg = b := ⟨_, rfl⟩
            rw [hb] at hbe HV2
            unfold kV at *
            clear hk vc vr hv4 hck hz hg hy v1 v2 v3 v4 h8 h1 h2 hRz hR hx hvb hb HV hM hO hG hY hc hr hm hcm hrm hk1 hk2 lO lc lr
            cases b with
            | false =>
              rw [show veK M O G Y c r msg = 19 from HV2.out]
              go_enter Tryz.func33, Tryz.ntmps33
              go_wp2_with fail
              try rw [hW0]
              clear hW0
              refine (HCK.out _).mono ?_
              rintro ev w1 ⟨rfl, hb⟩
              have HX1 := Lib.hid (HX0.out.next hb)
              clear hb c0 c1 c2 c3 s0 s1
              obtain ⟨c0, c1, c2, c3⟩ := HX1.out.1.1.cells
              have s0 := HX1.out.2.c0
              have s1 := HX1.out.2.c1
              go_wp2_with fail
              refine (HVC.out _).mono ?_
              rintro ev w2 ⟨rfl, rfl⟩
              go_wp2_with fail
              refine (HVR.out _).mono ?_
              rintro ev w2 ⟨rfl, rfl⟩
              go_wp2
              obtain ⟨wd, hwd⟩ : ∃ wd, World.drew w1 = wd := ⟨_, rfl⟩
              have HXD := Lib.hid (show SG w wd M O G Y c r from by rw [← hwd]; exact HX1.out.next (Below.refl _ _).drew)
              clear c0 c1 c2 c3 s0 s1
              obtain ⟨c0, c1, c2, c3⟩ := HXD.out.1.1.cells
              have s0 := HXD.out.2.c0
              have s1 := HXD.out.2.c1
              refine wp_region_K 23 (Below (wd).heap.size (wd)) (by kernel_rfl) ?_
              intro hD
              rw [hwd]
              have KK1 := Lib.hid (fun w' (hS' : (Below (wd).heap.size (wd)) w') => And.intro (kC hS' c0) (And.intro (kC hS' c1) (And.intro (kC hS' c2) (And.intro (kC hS' c3) (And.intro (kC hS' s0) (kC hS' s1))))))
              refine rP 0 27 22 rfl hD (Below.refl _ _) ?_; clear hD; intro hD; simp only [Act.put, sqA, sqB, sqC]
              refine rT 1 28 21 rfl hD (Below.refl _ _) (by intro w' hS'; obtain ⟨e0, e1, e2, e3, e4, e5⟩ := KK1.out w' hS'; go_simp; with_reducible rfl) ?_; clear hD; intro hD; simp only [Act.put, sqA, sqB, sqC]
              refine rP 2 29 20 rfl hD (Below.refl _ _) ?_; clear hD; intro hD; simp only [Act.put, sqA, sqB, sqC]
              refine rO 3 19 rfl hD ?_; clear hD; intro K3 hK3
              go_wp2_with fail
              refine (HCC.out _).mono ?_
              rintro ev w3 ⟨rfl, hb⟩
              have HB3 := Lib.hid hb
              clear hb
              go_wp2
              refine hK3 _ _ (by exact HB3.out) ?_; clear hK3; intro hS_7_3 hD
              refine rP 4 31 18 rfl hD hS_7_3 ?_; clear hD; intro hD; simp only [Act.put, sqA, sqB, sqC]
              refine rP 5 32 17 rfl hD hS_7_3 ?_; clear hD; intro hD; simp only [Act.put, sqA, sqB, sqC]
              refine rP 6 33 16 rfl hD hS_7_3 ?_; clear hD; intro hD; simp only [Act.put, sqA, sqB, sqC]
              refine rT 7 34 15 rfl hD hS_7_3 (by intro w' hS'; obtain ⟨e0, e1, e2, e3, e4, e5⟩ := KK1.out w' hS'; go_simp; with_reducible rfl) ?_; clear hD; intro hD; simp only [Act.put, sqA, sqB, sqC]
              refine rP 8 35 14 rfl hD hS_7_3 ?_; clear hD; intro hD; simp only [Act.put, sqA, sqB, sqC]
              refine rO 9 13 rfl hD ?_; clear hD; intro K9 hK9
              go_wp2_with fail
              refine (HCR.out _).mono ?_
              rintro ev w4 ⟨rfl, hb⟩
              have HB9 := Lib.hid hb
              clear hb
              go_wp2
              refine hK9 _ _ (by exact Below.trans hS_7_3 (Below.mono HB9.out (Below.size hS_7_3))) ?_; clear hK9; intro hS_7_9 hD
              refine rP 10 37 12 rfl hD hS_7_9 ?_; clear hD; intro hD; simp only [Act.put, sqA, sqB, sqC]
              refine rP 11 38 11 rfl hD hS_7_9 ?_; clear hD; intro hD; simp only [Act.put, sqA, sqB, sqC]
              refine rP 12 39 10 rfl hD hS_7_9 ?_; clear hD; intro hD; simp only [Act.put, sqA, sqB, sqC]
              refine rT 13 40 9 rfl hD hS_7_9 (by intro w' hS'; obtain ⟨e0, e1, e2, e3, e4, e5⟩ := KK1.out w' hS'; go_simp; with_reducible rfl) ?_; clear hD; intro hD; simp only [Act.put, sqA, sqB, sqC]
              refine rT 14 41 8 rfl hD hS_7_9 (by intro w' hS'; obtain ⟨e0, e1, e2, e3, e4, e5⟩ := KK1.out w' hS'; go_simp; with_reducible rfl) ?_; clear hD; intro hD; simp only [Act.put, sqA, sqB, sqC]
              refine rT 15 42 7 rfl hD hS_7_9 (by intro w' hS'; obtain ⟨e0, e1, e2, e3, e4, e5⟩ := KK1.out w' hS'; go_simp; with_reducible rfl) ?_; clear hD; intro hD; simp only [Act.put, sqA, sqB, sqC]
              refine rP 17 44 6 rfl hD hS_7_9 ?_; clear hD; intro hD; simp only [Act.put, sqA, sqB, sqC]
              refine rP 19 46 5 rfl hD hS_7_9 ?_; clear hD; intro hD; simp only [Act.put, sqA, sqB, sqC]
              refine rT 20 47 4 rfl hD hS_7_9 (by intro w' hS'; obtain ⟨e0, e1, e2, e3, e4, e5⟩ := KK1.out w' hS'; go_simp; with_reducible rfl) ?_; clear hD; intro hD; simp only [Act.put, sqA, sqB, sqC]
              refine rO 16 3 rfl hD ?_; clear hD; intro K16 hK16
              go_wp2_with fail
              refine (HCO.out _).mono ?_
              rintro ev w5 ⟨rfl, hb⟩
              have HB16 := Lib.hid hb
              clear hb
              go_wp2
              refine hK16 _ _ (by exact Below.trans hS_7_9 (Below.mono HB16.out (Below.size hS_7_9))) ?_; clear hK16; intro hS_7_16 hD
              refine rO 18 2 rfl hD ?_; clear hD; intro K18 hK18
              go_wp2_with fail
              refine (HCH.out _).mono ?_
              rintro ev w6 ⟨rfl, hb⟩
              have HB18 := Lib.hid hb
              clear hb
              go_wp2
              refine hK18 _ _ (by exact Below.trans hS_7_16 (Below.mono HB18.out (Below.size hS_7_16))) ?_; clear hK18; intro hS_7_18 hD
              have HL := Lib.hid hS_7_18
              refine rP 21 48 1 rfl hD hS_7_18 ?_; clear hD; intro hD; simp only [Act.put, sqA, sqB, sqC]
              refine rP 22 49 0 rfl hD hS_7_18 ?_; clear hD; intro hD; simp only [Act.put, sqA, sqB, sqC]
              refine wpAnyK_done (by kernel_rfl) ?_ 0
              clear hD
              go_wp2
              go_ret
              exact ⟨rfl, (HXD.out.next HL.out).1.2⟩
            | true =>
              rw [show veK M O G Y c r msg = 0 from HV2.out]
              go_enter Tryz.func33, Tryz.ntmps33
              go_wp2_with fail
              try rw [hW0]
              clear hW0
              refine (HCK.out _).mono ?_
              rintro ev w1 ⟨rfl, hb⟩
              have HX1 := Lib.hid (HX0.out.next hb)
              clear hb c0 c1 c2 c3 s0 s1
              obtain ⟨c0, c1, c2, c3⟩ := HX1.out.1.1.cells
              have s0 := HX1.out.2.c0
              have s1 := HX1.out.2.c1
              go_wp2_with fail
              refine (HVC.out _).mono ?_
              rintro ev w2 ⟨rfl, rfl⟩
              go_wp2_with fail
              refine (HVR.out _).mono ?_
              rintro ev w2 ⟨rfl, rfl⟩
              go_wp2
              obtain ⟨wd, hwd⟩ : ∃ wd, World.drew w1 = wd := ⟨_, rfl⟩
              have HXD := Lib.hid (show SG w wd M O G Y c r from by rw [← hwd]; exact HX1.out.next (Below.refl _ _).drew)
              clear c0 c1 c2 c3 s0 s1
              obtain ⟨c0, c1, c2, c3⟩ := HXD.out.1.1.cells
              have s0 := HXD.out.2.c0
              have s1 := HXD.out.2.c1
              refine wp_region_K 23 (Below (wd).heap.size (wd)) (by kernel_rfl) ?_
              intro hD
              rw [hwd]
              have KK2 := Lib.hid (fun w' (hS' : (Below (wd).heap.size (wd)) w') => And.intro (kC hS' c0) (And.intro (kC hS' c1) (And.intro (kC hS' c2) (And.intro (kC hS' c3) (And.intro (kC hS' s0) (kC hS' s1))))))
              refine rP 0 27 22 rfl hD (Below.refl _ _) ?_; clear hD; intro hD; simp only [Act.put, sqA, sqB, sqC]
              refine rT 1 28 21 rfl hD (Below.refl _ _) (by intro w' hS'; obtain ⟨e0, e1, e2, e3, e4, e5⟩ := KK2.out w' hS'; go_simp; with_reducible rfl) ?_; clear hD; intro hD; simp only [Act.put, sqA, sqB, sqC]
              refine rP 2 29 20 rfl hD (Below.refl _ _) ?_; clear hD; intro hD; simp only [Act.put, sqA, sqB, sqC]
              refine rO 3 19 rfl hD ?_; clear hD; intro K3 hK3
              go_wp2_with fail
              refine (HCC.out _).mono ?_
              rintro ev w3 ⟨rfl, hb⟩
              have HB3 := Lib.hid hb
              clear hb
              go_wp2
              refine hK3 _ _ (by exact HB3.out) ?_; clear hK3; intro hS_7_3 hD
              refine rP 4 31 18 rfl hD hS_7_3 ?_; clear hD; intro hD; simp only [Act.put, sqA, sqB, sqC]
              refine rP 5 32 17 rfl hD hS_7_3 ?_; clear hD; intro hD; simp only [Act.put, sqA, sqB, sqC]
              refine rP 6 33 16 rfl hD hS_7_3 ?_; clear hD; intro hD; simp only [Act.put, sqA, sqB, sqC]
              refine rT 7 34 15 rfl hD hS_7_3 (by intro w' hS'; obtain ⟨e0, e1, e2, e3, e4, e5⟩ := KK2.out w' hS'; go_simp; with_reducible rfl) ?_; clear hD; intro hD; simp only [Act.put, sqA, sqB, sqC]
              refine rP 8 35 14 rfl hD hS_7_3 ?_; clear hD; intro hD; simp only [Act.put, sqA, sqB, sqC]
              refine rO 9 13 rfl hD ?_; clear hD; intro K9 hK9
              go_wp2_with fail
              refine (HCR.out _).mono ?_
              rintro ev w4 ⟨rfl, hb⟩
              have HB9 := Lib.hid hb
              clear hb
              go_wp2
              refine hK9 _ _ (by exact Below.trans hS_7_3 (Below.mono HB9.out (Below.size hS_7_3))) ?_; clear hK9; intro hS_7_9 hD
              refine rP 10 37 12 rfl hD hS_7_9 ?_; clear hD; intro hD; simp only [Act.put, sqA, sqB, sqC]
              refine rP 11 38 11 rfl hD hS_7_9 ?_; clear hD; intro hD; simp only [Act.put, sqA, sqB, sqC]
              refine rP 12 39 10 rfl hD hS_7_9 ?_; clear hD; intro hD; simp only [Act.put, sqA, sqB, sqC]
              refine rT 13 40 9 rfl hD hS_7_9 (by intro w' hS'; obtain ⟨e0, e1, e2, e3, e4, e5⟩ := KK2.out w' hS'; go_simp; with_reducible rfl) ?_; clear hD; intro hD; simp only [Act.put, sqA, sqB, sqC]
              refine rT 14 41 8 rfl hD hS_7_9 (by intro w' hS'; obtain ⟨e0, e1, e2, e3, e4, e5⟩ := KK2.out w' hS'; go_simp; with_reducible rfl) ?_; clear hD; intro hD; simp only [Act.put, sqA, sqB, sqC]
              refine rT 15 42 7 rfl hD hS_7_9 (by intro w' hS'; obtain ⟨e0, e1, e2, e3, e4, e5⟩ := KK2.out w' hS'; go_simp; with_reducible rfl) ?_; clear hD; intro hD; simp only [Act.put, sqA, sqB, sqC]
              refine rP 17 44 6 rfl hD hS_7_9 ?_; clear hD; intro hD; simp only [Act.put, sqA, sqB, sqC]
              refine rP 19 46 5 rfl hD hS_7_9 ?_; clear hD; intro hD; simp only [Act.put, sqA, sqB, sqC]
              refine rT 20 47 4 rfl hD hS_7_9 (by intro w' hS'; obtain ⟨e0, e1, e2, e3, e4, e5⟩ := KK2.out w' hS'; go_simp; with_reducible rfl) ?_; clear hD; intro hD; simp only [Act.put, sqA, sqB, sqC]
              refine rO 16 3 rfl hD ?_; clear hD; intro K16 hK16
              go_wp2_with fail
              refine (HCO.out _).mono ?_
              rintro ev w5 ⟨rfl, hb⟩
              have HB16 := Lib.hid hb
              clear hb
              go_wp2
              refine hK16 _ _ (by exact Below.trans hS_7_9 (Below.mono HB16.out (Below.size hS_7_9))) ?_; clear hK16; intro hS_7_16 hD
              refine rO 18 2 rfl hD ?_; clear hD; intro K18 hK18
              go_wp2_with fail
              refine (HCH.out _).mono ?_
              rintro ev w6 ⟨rfl, hb⟩
              have HB18 := Lib.hid hb
              clear hb
              go_wp2
              refine hK18 _ _ (by exact Below.trans hS_7_16 (Below.mono HB18.out (Below.size hS_7_16))) ?_; clear hK18; intro hS_7_18 hD
              have HL := Lib.hid hS_7_18
              refine rP 21 48 1 rfl hD hS_7_18 ?_; clear hD; intro hD; simp only [Act.put, sqA, sqB, sqC]
              refine rP 22 49 0 rfl hD hS_7_18 ?_; clear hD; intro hD; simp only [Act.put, sqA, sqB, sqC]
              refine wpAnyK_done (by kernel_rfl) ?_ 0
              clear hD
              go_wp2
              go_ret
              exact ⟨rfl, (HXD.out.next HL.out).1.2⟩
          · have hge2 : decide (0 ≤ k2) = true := decide_eq_true (by have : ¬ k2 < 0 := by rw [hrm]; exact h2
                                                                     omega)
            have HV3 := Lib.hid (show veK M O G Y c r msg = 19 from by rw [HV.out, decide_eq_true h1, decide_eq_false h2]; rfl)
            rw [HV3.out]
            unfold kV at *
            clear hk vc vr hv4 hck hz hg hy v1 v2 v3 v4 h8 h1 h2 HV hM hO hG hY hc hr hm hcm hrm hk1 hk2 lO lc lr
            go_enter Tryz.func33, Tryz.ntmps33
            go_wp2_with fail
            try rw [hW0]
            clear hW0
            refine (HCK.out _).mono ?_
            rintro ev w1 ⟨rfl, hb⟩
            have HX1 := Lib.hid (HX0.out.next hb)
            clear hb c0 c1 c2 c3 s0 s1
            obtain ⟨c0, c1, c2, c3⟩ := HX1.out.1.1.cells
            have s0 := HX1.out.2.c0
            have s1 := HX1.out.2.c1
            go_wp2_with fail
            refine (HVC.out _).mono ?_
            rintro ev w2 ⟨rfl, rfl⟩
            go_wp2_with fail
            refine (HVR.out _).mono ?_
            rintro ev w2 ⟨rfl, rfl⟩
            go_wp2
            obtain ⟨wd, hwd⟩ : ∃ wd, World.drew w1 = wd := ⟨_, rfl⟩
            have HXD := Lib.hid (show SG w wd M O G Y c r from by rw [← hwd]; exact HX1.out.next (Below.refl _ _).drew)
            clear c0 c1 c2 c3 s0 s1
            obtain ⟨c0, c1, c2, c3⟩ := HXD.out.1.1.cells
            have s0 := HXD.out.2.c0
            have s1 := HXD.out.2.c1
            refine wp_region_K 23 (Below (wd).heap.size (wd)) (by kernel_rfl) ?_
            intro hD
            rw [hwd]
            have KK3 := Lib.hid (fun w' (hS' : (Below (wd).heap.size (wd)) w') => And.intro (kC hS' c0) (And.intro (kC hS' c1) (And.intro (kC hS' c2) (And.intro (kC hS' c3) (And.intro (kC hS' s0) (kC hS' s1))))))
            refine rP 0 27 22 rfl hD (Below.refl _ _) ?_; clear hD; intro hD; simp only [Act.put, sqA, sqB, sqC]
            refine rT 1 28 21 rfl hD (Below.refl _ _) (by intro w' hS'; obtain ⟨e0, e1, e2, e3, e4, e5⟩ := KK3.out w' hS'; go_simp; with_reducible rfl) ?_; clear hD; intro hD; simp only [Act.put, sqA, sqB, sqC]
            refine rP 2 29 20 rfl hD (Below.refl _ _) ?_; clear hD; intro hD; simp only [Act.put, sqA, sqB, sqC]
            refine rO 3 19 rfl hD ?_; clear hD; intro K3 hK3
            go_wp2_with fail
            refine (HCC.out _).mono ?_
            rintro ev w3 ⟨rfl, hb⟩
            have HB3 := Lib.hid hb
            clear hb
            go_wp2
            refine hK3 _ _ (by exact HB3.out) ?_; clear hK3; intro hS_7_3 hD
            refine rP 4 31 18 rfl hD hS_7_3 ?_; clear hD; intro hD; simp only [Act.put, sqA, sqB, sqC]
            refine rP 5 32 17 rfl hD hS_7_3 ?_; clear hD; intro hD; simp only [Act.put, sqA, sqB, sqC]
            refine rP 6 33 16 rfl hD hS_7_3 ?_; clear hD; intro hD; simp only [Act.put, sqA, sqB, sqC]
            refine rT 7 34 15 rfl hD hS_7_3 (by intro w' hS'; obtain ⟨e0, e1, e2, e3, e4, e5⟩ := KK3.out w' hS'; go_simp; with_reducible rfl) ?_; clear hD; intro hD; simp only [Act.put, sqA, sqB, sqC]
            refine rP 8 35 14 rfl hD hS_7_3 ?_; clear hD; intro hD; simp only [Act.put, sqA, sqB, sqC]
            refine rO 9 13 rfl hD ?_; clear hD; intro K9 hK9
            go_wp2_with fail
            refine (HCR.out _).mono ?_
            rintro ev w4 ⟨rfl, hb⟩
            have HB9 := Lib.hid hb
            clear hb
            go_wp2
            refine hK9 _ _ (by exact Below.trans hS_7_3 (Below.mono HB9.out (Below.size hS_7_3))) ?_; clear hK9; intro hS_7_9 hD
            have HL := Lib.hid hS_7_9
            refine rP 10 37 12 rfl hD hS_7_9 ?_; clear hD; intro hD; simp only [Act.put, sqA, sqB, sqC]
            refine rP 11 38 11 rfl hD hS_7_9 ?_; clear hD; intro hD; simp only [Act.put, sqA, sqB, sqC]
            refine rP 12 39 10 rfl hD hS_7_9 ?_; clear hD; intro hD; simp only [Act.put, sqA, sqB, sqC]
            refine rU 13 40 9 rfl hD hS_7_9 ?_; clear hD; intro hD; simp only [Act.put, sqA, sqB, sqC]
            refine rU 14 41 8 rfl hD hS_7_9 ?_; clear hD; intro hD; simp only [Act.put, sqA, sqB, sqC]
            refine rU 15 42 7 rfl hD hS_7_9 ?_; clear hD; intro hD; simp only [Act.put, sqA, sqB, sqC]
            refine rU 16 43 6 rfl hD hS_7_9 ?_; clear hD; intro hD; simp only [Act.put, sqA, sqB, sqC]
            refine rU 17 44 5 rfl hD hS_7_9 ?_; clear hD; intro hD; simp only [Act.put, sqA, sqB, sqC]
            refine rU 18 45 4 rfl hD hS_7_9 ?_; clear hD; intro hD; simp only [Act.put, sqA, sqB, sqC]
            refine rU 19 46 3 rfl hD hS_7_9 ?_; clear hD; intro hD; simp only [Act.put, sqA, sqB, sqC]
            refine rU 20 47 2 rfl hD hS_7_9 ?_; clear hD; intro hD; simp only [Act.put, sqA, sqB, sqC]
            refine rU 21 48 1 rfl hD hS_7_9 ?_; clear hD; intro hD; simp only [Act.put, sqA, sqB, sqC]
            refine rP 22 49 0 rfl hD hS_7_9 ?_; clear hD; intro hD; simp only [Act.put, sqA, sqB, sqC]
            refine wpAnyK_done (by kernel_rfl) ?_ 0
            clear hD
            go_wp2
            go_ret
            exact ⟨rfl, (HXD.out.next HL.out).1.2⟩
        · have hge1 : decide (0 ≤ k1) = true := decide_eq_true (by have : ¬ k1 < 0 := by rw [hcm]; exact h1
                                                                   omega)
          have HV3 := Lib.hid (show veK M O G Y c r msg = 19 from by rw [HV.out, decide_eq_false h1]; rfl)
          rw [HV3.out]
          unfold kV at *
          clear hk vc vr hv4 hck hz hg hy v1 v2 v3 v4 h8 h1 HV hM hO hG hY hc hr hm hcm hrm hk1 hk2 lO lc lr
          go_enter Tryz.func33, Tryz.ntmps33
          go_wp2_with fail
          try rw [hW0]
          clear hW0
          refine (HCK.out _).mono ?_
          rintro ev w1 ⟨rfl, hb⟩
          have HX1 := Lib.hid (HX0.out.next hb)
          clear hb c0 c1 c2 c3 s0 s1
          obtain ⟨c0, c1, c2, c3⟩ := HX1.out.1.1.cells
          have s0 := HX1.out.2.c0
          have s1 := HX1.out.2.c1
          go_wp2_with fail
          refine (HVC.out _).mono ?_
          rintro ev w2 ⟨rfl, rfl⟩
          go_wp2_with fail
          refine (HVR.out _).mono ?_
          rintro ev w2 ⟨rfl, rfl⟩
          go_wp2
          obtain ⟨wd, hwd⟩ : ∃ wd, World.drew w1 = wd := ⟨_, rfl⟩
          have HXD := Lib.hid (show SG w wd M O G Y c r from by rw [← hwd]; exact HX1.out.next (Below.refl _ _).drew)
          clear c0 c1 c2 c3 s0 s1
          obtain ⟨c0, c1, c2, c3⟩ := HXD.out.1.1.cells
          have s0 := HXD.out.2.c0
          have s1 := HXD.out.2.c1
          refine wp_region_K 23 (Below (wd).heap.size (wd)) (by kernel_rfl) ?_
          intro hD
          rw [hwd]
          refine rP 0 27 22 rfl hD (Below.refl _ _) ?_; clear hD; intro hD; simp only [Act.put, sqA, sqB, sqC]
          refine rT 1 28 21 rfl hD (Below.refl _ _) (by intro w' hS'; have e0 := kC hS' c0; have e1 := kC hS' c1; have e2 := kC hS' c2; have e3 := kC hS' c3; have e4 := kC hS' s0; have e5 := kC hS' s1; go_simp; with_reducible rfl) ?_; clear hD; intro hD; simp only [Act.put, sqA, sqB, sqC]
          refine rP 2 29 20 rfl hD (Below.refl _ _) ?_; clear hD; intro hD; simp only [Act.put, sqA, sqB, sqC]
          refine rO 3 19 rfl hD ?_; clear hD; intro K3 hK3
          go_wp2_with fail
          refine (HCC.out _).mono ?_
          rintro ev w3 ⟨rfl, hb⟩
          have HB3 := Lib.hid hb
          clear hb
          go_wp2
          refine hK3 _ _ (by exact HB3.out) ?_; clear hK3; intro hS_7_3 hD
          have HL := Lib.hid hS_7_3
          refine rP 4 31 18 rfl hD hS_7_3 ?_; clear hD; intro hD; simp only [Act.put, sqA, sqB, sqC]
          refine rP 5 32 17 rfl hD hS_7_3 ?_; clear hD; intro hD; simp only [Act.put, sqA, sqB, sqC]
          refine rU 6 33 16 rfl hD hS_7_3 ?_; clear hD; intro hD; simp only [Act.put, sqA, sqB, sqC]
          refine rU 7 34 15 rfl hD hS_7_3 ?_; clear hD; intro hD; simp only [Act.put, sqA, sqB, sqC]
          refine rU 8 35 14 rfl hD hS_7_3 ?_; clear hD; intro hD; simp only [Act.put, sqA, sqB, sqC]
          refine rU 9 36 13 rfl hD hS_7_3 ?_; clear hD; intro hD; simp only [Act.put, sqA, sqB, sqC]
          refine rU 10 37 12 rfl hD hS_7_3 ?_; clear hD; intro hD; simp only [Act.put, sqA, sqB, sqC]
          refine rP 11 38 11 rfl hD hS_7_3 ?_; clear hD; intro hD; simp only [Act.put, sqA, sqB, sqC]
          refine rP 12 39 10 rfl hD hS_7_3 ?_; clear hD; intro hD; simp only [Act.put, sqA, sqB, sqC]
          refine rU 13 40 9 rfl hD hS_7_3 ?_; clear hD; intro hD; simp only [Act.put, sqA, sqB, sqC]
          refine rU 14 41 8 rfl hD hS_7_3 ?_; clear hD; intro hD; simp only [Act.put, sqA, sqB, sqC]
          refine rU 15 42 7 rfl hD hS_7_3 ?_; clear hD; intro hD; simp only [Act.put, sqA, sqB, sqC]
          refine rU 16 43 6 rfl hD hS_7_3 ?_; clear hD; intro hD; simp only [Act.put, sqA, sqB, sqC]
          refine rU 17 44 5 rfl hD hS_7_3 ?_; clear hD; intro hD; simp only [Act.put, sqA, sqB, sqC]
          refine rU 18 45 4 rfl hD hS_7_3 ?_; clear hD; intro hD; simp only [Act.put, sqA, sqB, sqC]
          refine rU 19 46 3 rfl hD hS_7_3 ?_; clear hD; intro hD; simp only [Act.put, sqA, sqB, sqC]
          refine rU 20 47 2 rfl hD hS_7_3 ?_; clear hD; intro hD; simp only [Act.put, sqA, sqB, sqC]
          refine rU 21 48 1 rfl hD hS_7_3 ?_; clear hD; intro hD; simp only [Act.put, sqA, sqB, sqC]
          refine rP 22 49 0 rfl hD hS_7_3 ?_; clear hD; intro hD; simp only [Act.put, sqA, sqB, sqC]
          refine wpAnyK_done (by kernel_rfl) ?_ 0
          clear hD
          go_wp2
          go_ret
          exact ⟨rfl, (HXD.out.next HL.out).1.2⟩
  · rw [show veK M O G Y c r msg = scK M O G Y from if_neg hk]
    obtain ⟨e, he⟩ : ∃ e, scK M O G Y = e := ⟨_, rfl⟩
    rw [he] at HCK hk ⊢
    unfold kV at *
    clear he
    go_enter Tryz.func33, Tryz.ntmps33
    go_wp2_with fail
    try rw [hW0]
    clear hW0
    refine (HCK.out _).mono ?_
    rintro ev w1 ⟨rfl, hb⟩
    have HX1 := Lib.hid (HX0.out.next hb)
    clear hb c0 c1 c2 c3 s0 s1
    obtain ⟨c0, c1, c2, c3⟩ := HX1.out.1.1.cells
    have s0 := HX1.out.2.c0
    have s1 := HX1.out.2.c1
    go_upto_region 3 with (fail)
    clear hk
    go_wp2
    go_ret
    exact ⟨rfl, HX1.out.1.2⟩
end Go.Proofs.YtndmjfkmnjejkaaGreatDoor

import Derived.Test.YtehflcnjnnhojaaGreatQScS
set_option linter.unusedVariables false
set_option linter.unusedSimpArgs false
namespace Go.Proofs.YtehflcnjnnhojaaGreat
set_option maxRecDepth 100000
set_option maxHeartbeats 4000000
open Go.RowKit Go.Lib
theorem r33_Verify (M O G Y c r msg : ByteArray) (hM : M.size ≤ 8) (hO : O.size ≤ 100) (hG : G.size ≤ 1000) (hY : Y.size ≤ 1000) (hc : c.size ≤ 1000) (hr : r.size ≤ 1000) (hm : msg.size ≤ 1000000) (w : World) :
 Calls Tryz.prog 17 #[kV M O G Y, .string msg, .agg #[.string c, .string r]] w (Ret (.int .i64 (veK M O G Y c r msg)) w) := by
 have hx0 := SG.new w M O G Y c r
 obtain ⟨W0, hW0⟩ : ∃ W, ((w.alloc (.cells #[.string M, .string O, .string G, .string Y] 26)).alloc (.cells #[.string c, .string r] 29)) = W := ⟨_, rfl⟩
 rw [hW0] at hx0
 have HX0 := Hq hx0
 obtain ⟨c0, c1, c2, c3⟩ := hx0.1.1.cells
 have s0 := hx0.2.c0
 have s1 := hx0.2.c1
 clear hx0
 have HCK := Hq (r33_Check M O G Y hM hO hG hY)
 have HVC := Hq (r01_Valid c (by omega))
 have HVR := Hq (r01_Valid r (by omega))
 by_cases hk : scK M O G Y = 0
 · rw [hk] at HCK
   cases vc : nvalid c with
   | false =>
    rw [vc] at HVC
    rw [show veK M O G Y c r msg = 3 from by unfold veK; rw [if_pos hk, vc, Bool.false_and, if_neg (by decide)]]
    unfold kV at *
    clear vc hk
    go_enter Tryz.func17, Tryz.ntmps17
    go_wp2_with fail
    try rw [hW0]
    clear hW0
    refine (HCK.out _).mono ?_
    rintro ev w1 ⟨rfl, hb⟩
    have HX1 := Hq (HX0.out.next hb)
    clear hb c0 c1 c2 c3 s0 s1
    obtain ⟨c0, c1, c2, c3⟩ := HX1.out.1.1.cells
    have s0 := HX1.out.2.c0
    have s1 := HX1.out.2.c1
    go_wp2_with fail
    refine (HVC.out _).mono ?_
    rintro ev w2 ⟨rfl, rfl⟩
    go_wp2
    go_ret
    exact ⟨rfl, HX1.out.1.2⟩
   | true =>
    rw [vc] at HVC
    cases vr : nvalid r with
    | false =>
     rw [vr] at HVR
     rw [show veK M O G Y c r msg = 3 from by unfold veK; rw [if_pos hk, vr, Bool.and_false, if_neg (by decide)]]
     unfold kV at *
     clear vc vr hk
     go_enter Tryz.func17, Tryz.ntmps17
     go_wp2_with fail
     try rw [hW0]
     clear hW0
     refine (HCK.out _).mono ?_
     rintro ev w1 ⟨rfl, hb⟩
     have HX1 := Hq (HX0.out.next hb)
     clear hb c0 c1 c2 c3 s0 s1
     obtain ⟨c0, c1, c2, c3⟩ := HX1.out.1.1.cells
     have s0 := HX1.out.2.c0
     have s1 := HX1.out.2.c1
     go_wp2_with fail
     refine (HVC.out _).mono ?_
     rintro ev w2 ⟨rfl, rfl⟩
     go_wp2_with fail
     refine (HVR.out _).mono ?_
     rintro ev w2 ⟨rfl, rfl⟩
     go_wp2
     go_ret
     exact ⟨rfl, HX1.out.1.2⟩
    | true =>
     rw [vr] at HVR
     obtain ⟨hv4, hck, hz, hg, hy⟩ := scK_ok hk
     obtain ⟨v1, v2, v3, v4⟩ := all_four hv4
     have h8 := chk_small hv4 hM hck
     have lO := nvalid_lt v2
     have lc := nvalid_lt vc
     have lr := nvalid_lt vr
     have HCC := Hq (r01_Order (nS (num c)) (nS (num O)) (by have := nS_size_le.2 lc; omega) (by have := nS_size_le.2 lO; omega))
     rw [ordB_nS, ← nS_num vc, ← nS_num v2] at HCC
     have HCR := Hq (r01_Order (nS (num r)) (nS (num O)) (by have := nS_size_le.2 lr; omega) (by have := nS_size_le.2 lO; omega))
     rw [ordB_nS, ← nS_num vr, ← nS_num v2] at HCR
     have hcm := cmpI_ltC (x := num c) (y := num O)
     have hrm := cmpI_ltC (x := num r) (y := num O)
     obtain ⟨k1, hk1⟩ : ∃ k, cmpI (num c) (num O) = k := ⟨_, rfl⟩
     obtain ⟨k2, hk2⟩ : ∃ k, cmpI (num r) (num O) = k := ⟨_, rfl⟩
     rw [hk1] at HCC hcm
     rw [hk2] at HCR hrm
     have HV := Hq (show veK M O G Y c r msg = (if (decide (num c < num O) && (decide (num r < num O) && veB M O G Y c r msg)) = true then 0 else 19) from by unfold veK; rw [if_pos hk, vc, vr, Bool.and_self, if_pos rfl])
     by_cases h1 : num c < num O
     · have hge1 : decide (0 ≤ k1) = false := decide_eq_false (by have : k1 < 0 := by rw [hcm]; exact h1
                                                                  omega)
       by_cases h2 : num r < num O
       · have hge2 : decide (0 ≤ k2) = false := decide_eq_false (by have : k2 < 0 := by rw [hrm]; exact h2
                                                                    omega)
         have HCO := Hq (r33_commitment M O G Y c r hM hk vc vr h1)
         have hRz : (nS (cmS (num M) (num O) (num G) (num Y) (num c) (num r))).size ≤ 1000000 := by
          have hm0 : 0 < num M := by
           obtain ⟨i, hu⟩ := has_un (chkK_parts hck).2.2 (genK_parts hg).1
           have := hu.1
           omega
          have h9 := num_small hM
          have : cmS (num M) (num O) (num G) (num Y) (num c) (num r) < num M := Nat.mod_lt _ hm0
          have : (nS (cmS (num M) (num O) (num G) (num Y) (num c) (num r))).size ≤ 128 := nS_size_le.2 (lt128_of_lt8 (by omega))
          omega
         have HCH := Hq (r33_challenge M O G Y (nS (cmS (num M) (num O) (num G) (num Y) (num c) (num r))) msg hM h8 (by omega) (by omega) hRz hm v2 (by omega))
         rw [chS_fold] at HCH
         have hbe := nS_beq (chS M O G Y (cmS (num M) (num O) (num G) (num Y) (num c) (num r)) msg) (num c)
         rw [← nS_num vc] at hbe
         have HV2 := Hq (show veK M O G Y c r msg = if veB M O G Y c r msg = true then 0 else 19 from by rw [HV.out, decide_eq_true h1, decide_eq_true h2]; rfl)
         have hvb : veB M O G Y c r msg = decide (chS M O G Y (cmS (num M) (num O) (num G) (num Y) (num c) (num r)) msg = num c) := rfl
         rw [← hvb] at hbe
         obtain ⟨R, hR⟩ : ∃ R, nS (cmS (num M) (num O) (num G) (num Y) (num c) (num r)) = R := ⟨_, rfl⟩
         obtain ⟨x, hx⟩ : ∃ x, nS (chS M O G Y (cmS (num M) (num O) (num G) (num Y) (num c) (num r)) msg) = x := ⟨_, rfl⟩
         rw [hR] at HCO HCH
         rw [hx] at HCH hbe
         obtain ⟨b, hb⟩ : ∃ b, veB M O G Y c r msg = b := ⟨_, rfl⟩
         rw [hb] at hbe HV2
         unfold kV at *
         clear hk vc vr hv4 hck hz hg hy v1 v2 v3 v4 h8 h1 h2 hRz hR hx hvb hb HV hM hO hG hY hc hr hm hcm hrm hk1 hk2 lO lc lr
         cases b with
         | false =>
          rw [show veK M O G Y c r msg = 19 from HV2.out]
          go_enter Tryz.func17, Tryz.ntmps17
          go_wp2_with fail
          try rw [hW0]
          clear hW0
          refine (HCK.out _).mono ?_
          rintro ev w1 ⟨rfl, hb⟩
          have HX1 := Hq (HX0.out.next hb)
          clear hb c0 c1 c2 c3 s0 s1
          obtain ⟨c0, c1, c2, c3⟩ := HX1.out.1.1.cells
          have s0 := HX1.out.2.c0
          have s1 := HX1.out.2.c1
          go_wp2_with fail
          refine (HVC.out _).mono ?_
          rintro ev w2 ⟨rfl, rfl⟩
          go_wp2_with fail
          refine (HVR.out _).mono ?_
          rintro ev w2 ⟨rfl, rfl⟩
          go_wp2
          obtain ⟨wd, hwd⟩ : ∃ wd, World.drew w1 = wd := ⟨_, rfl⟩
          have HXD := Hq (show SG w wd M O G Y c r from by rw [← hwd]; exact HX1.out.next (Below.refl _ _).drew)
          clear c0 c1 c2 c3 s0 s1
          obtain ⟨c0, c1, c2, c3⟩ := HXD.out.1.1.cells
          have s0 := HXD.out.2.c0
          have s1 := HXD.out.2.c1
          refine wp_region_K 23 (Below (wd).heap.size (wd)) (by kernel_rfl) ?_
          intro hD
          rw [hwd]
          have KK1 := Hq (fun w' (hS' : (Below (wd).heap.size (wd)) w') => And.intro (kC hS' c0) (And.intro (kC hS' c1) (And.intro (kC hS' c2) (And.intro (kC hS' c3) (And.intro (kC hS' s0) (kC hS' s1))))))
          refine rP 0 27 22 rfl hD (Below.refl _ _) ?_; clear hD; intro hD; simp only [Act.put, sqA, sqB, sqC]
          refine rT 1 28 21 rfl hD (Below.refl _ _) (by intro w' hS'; obtain ⟨e0, e1, e2, e3, e4, e5⟩ := KK1.out w' hS'; go_simp; with_reducible rfl) ?_; clear hD; intro hD; simp only [Act.put, sqA, sqB, sqC]
          refine rP 2 29 20 rfl hD (Below.refl _ _) ?_; clear hD; intro hD; simp only [Act.put, sqA, sqB, sqC]
          refine rO 3 19 rfl hD ?_; clear hD; intro K3 hK3
          go_wp2_with fail
          refine (HCC.out _).mono ?_
          rintro ev w3 ⟨rfl, hb⟩
          have HB3 := Hq hb
          clear hb
          go_wp2
          refine hK3 _ _ (by exact HB3.out) ?_; clear hK3; intro hS_7_3 hD
          refine rP 4 31 18 rfl hD hS_7_3 ?_; clear hD; intro hD; simp only [Act.put, sqA, sqB, sqC]
          refine rP 5 32 17 rfl hD hS_7_3 ?_; clear hD; intro hD; simp only [Act.put, sqA, sqB, sqC]
          refine rP 6 33 16 rfl hD hS_7_3 ?_; clear hD; intro hD; simp only [Act.put, sqA, sqB, sqC]
          refine rT 7 34 15 rfl hD hS_7_3 (by intro w' hS'; obtain ⟨e0, e1, e2, e3, e4, e5⟩ := KK1.out w' hS'; go_simp; with_reducible rfl) ?_; clear hD; intro hD; simp only [Act.put, sqA, sqB, sqC]
          refine rP 8 35 14 rfl hD hS_7_3 ?_; clear hD; intro hD; simp only [Act.put, sqA, sqB, sqC]
          refine rO 9 13 rfl hD ?_; clear hD; intro K9 hK9
          go_wp2_with fail
          refine (HCR.out _).mono ?_
          rintro ev w4 ⟨rfl, hb⟩
          have HB9 := Hq hb
          clear hb
          go_wp2
          refine hK9 _ _ (by exact Below.trans hS_7_3 (Below.mono HB9.out (Below.size hS_7_3))) ?_; clear hK9; intro hS_7_9 hD
          refine rP 10 37 12 rfl hD hS_7_9 ?_; clear hD; intro hD; simp only [Act.put, sqA, sqB, sqC]
          refine rP 11 38 11 rfl hD hS_7_9 ?_; clear hD; intro hD; simp only [Act.put, sqA, sqB, sqC]
          refine rP 12 39 10 rfl hD hS_7_9 ?_; clear hD; intro hD; simp only [Act.put, sqA, sqB, sqC]
          refine rT 13 40 9 rfl hD hS_7_9 (by intro w' hS'; obtain ⟨e0, e1, e2, e3, e4, e5⟩ := KK1.out w' hS'; go_simp; with_reducible rfl) ?_; clear hD; intro hD; simp only [Act.put, sqA, sqB, sqC]
          refine rT 14 41 8 rfl hD hS_7_9 (by intro w' hS'; obtain ⟨e0, e1, e2, e3, e4, e5⟩ := KK1.out w' hS'; go_simp; with_reducible rfl) ?_; clear hD; intro hD; simp only [Act.put, sqA, sqB, sqC]
          refine rT 15 42 7 rfl hD hS_7_9 (by intro w' hS'; obtain ⟨e0, e1, e2, e3, e4, e5⟩ := KK1.out w' hS'; go_simp; with_reducible rfl) ?_; clear hD; intro hD; simp only [Act.put, sqA, sqB, sqC]
          refine rP 17 44 6 rfl hD hS_7_9 ?_; clear hD; intro hD; simp only [Act.put, sqA, sqB, sqC]
          refine rP 19 46 5 rfl hD hS_7_9 ?_; clear hD; intro hD; simp only [Act.put, sqA, sqB, sqC]
          refine rT 20 47 4 rfl hD hS_7_9 (by intro w' hS'; obtain ⟨e0, e1, e2, e3, e4, e5⟩ := KK1.out w' hS'; go_simp; with_reducible rfl) ?_; clear hD; intro hD; simp only [Act.put, sqA, sqB, sqC]
          refine rO 16 3 rfl hD ?_; clear hD; intro K16 hK16
          go_wp2_with fail
          refine (HCO.out _).mono ?_
          rintro ev w5 ⟨rfl, hb⟩
          have HB16 := Hq hb
          clear hb
          go_wp2
          refine hK16 _ _ (by exact Below.trans hS_7_9 (Below.mono HB16.out (Below.size hS_7_9))) ?_; clear hK16; intro hS_7_16 hD
          refine rO 18 2 rfl hD ?_; clear hD; intro K18 hK18
          go_wp2_with fail
          refine (HCH.out _).mono ?_
          rintro ev w6 ⟨rfl, hb⟩
          have HB18 := Hq hb
          clear hb
          go_wp2
          refine hK18 _ _ (by exact Below.trans hS_7_16 (Below.mono HB18.out (Below.size hS_7_16))) ?_; clear hK18; intro hS_7_18 hD
          have HL := Hq hS_7_18
          refine rP 21 48 1 rfl hD hS_7_18 ?_; clear hD; intro hD; simp only [Act.put, sqA, sqB, sqC]
          refine rP 22 49 0 rfl hD hS_7_18 ?_; clear hD; intro hD; simp only [Act.put, sqA, sqB, sqC]
          refine wpAnyK_done (by kernel_rfl) ?_ 0
          clear hD
          go_wp2
          go_ret
          exact ⟨rfl, (HXD.out.next HL.out).1.2⟩
         | true =>
          rw [show veK M O G Y c r msg = 0 from HV2.out]
          go_enter Tryz.func17, Tryz.ntmps17
          go_wp2_with fail
          try rw [hW0]
          clear hW0
          refine (HCK.out _).mono ?_
          rintro ev w1 ⟨rfl, hb⟩
          have HX1 := Hq (HX0.out.next hb)
          clear hb c0 c1 c2 c3 s0 s1
          obtain ⟨c0, c1, c2, c3⟩ := HX1.out.1.1.cells
          have s0 := HX1.out.2.c0
          have s1 := HX1.out.2.c1
          go_wp2_with fail
          refine (HVC.out _).mono ?_
          rintro ev w2 ⟨rfl, rfl⟩
          go_wp2_with fail
          refine (HVR.out _).mono ?_
          rintro ev w2 ⟨rfl, rfl⟩
          go_wp2
          obtain ⟨wd, hwd⟩ : ∃ wd, World.drew w1 = wd := ⟨_, rfl⟩
          have HXD := Hq (show SG w wd M O G Y c r from by rw [← hwd]; exact HX1.out.next (Below.refl _ _).drew)
          clear c0 c1 c2 c3 s0 s1
          obtain ⟨c0, c1, c2, c3⟩ := HXD.out.1.1.cells
          have s0 := HXD.out.2.c0
          have s1 := HXD.out.2.c1
          refine wp_region_K 23 (Below (wd).heap.size (wd)) (by kernel_rfl) ?_
          intro hD
          rw [hwd]
          have KK2 := Hq (fun w' (hS' : (Below (wd).heap.size (wd)) w') => And.intro (kC hS' c0) (And.intro (kC hS' c1) (And.intro (kC hS' c2) (And.intro (kC hS' c3) (And.intro (kC hS' s0) (kC hS' s1))))))
          refine rP 0 27 22 rfl hD (Below.refl _ _) ?_; clear hD; intro hD; simp only [Act.put, sqA, sqB, sqC]
          refine rT 1 28 21 rfl hD (Below.refl _ _) (by intro w' hS'; obtain ⟨e0, e1, e2, e3, e4, e5⟩ := KK2.out w' hS'; go_simp; with_reducible rfl) ?_; clear hD; intro hD; simp only [Act.put, sqA, sqB, sqC]
          refine rP 2 29 20 rfl hD (Below.refl _ _) ?_; clear hD; intro hD; simp only [Act.put, sqA, sqB, sqC]
          refine rO 3 19 rfl hD ?_; clear hD; intro K3 hK3
          go_wp2_with fail
          refine (HCC.out _).mono ?_
          rintro ev w3 ⟨rfl, hb⟩
          have HB3 := Hq hb
          clear hb
          go_wp2
          refine hK3 _ _ (by exact HB3.out) ?_; clear hK3; intro hS_7_3 hD
          refine rP 4 31 18 rfl hD hS_7_3 ?_; clear hD; intro hD; simp only [Act.put, sqA, sqB, sqC]
          refine rP 5 32 17 rfl hD hS_7_3 ?_; clear hD; intro hD; simp only [Act.put, sqA, sqB, sqC]
          refine rP 6 33 16 rfl hD hS_7_3 ?_; clear hD; intro hD; simp only [Act.put, sqA, sqB, sqC]
          refine rT 7 34 15 rfl hD hS_7_3 (by intro w' hS'; obtain ⟨e0, e1, e2, e3, e4, e5⟩ := KK2.out w' hS'; go_simp; with_reducible rfl) ?_; clear hD; intro hD; simp only [Act.put, sqA, sqB, sqC]
          refine rP 8 35 14 rfl hD hS_7_3 ?_; clear hD; intro hD; simp only [Act.put, sqA, sqB, sqC]
          refine rO 9 13 rfl hD ?_; clear hD; intro K9 hK9
          go_wp2_with fail
          refine (HCR.out _).mono ?_
          rintro ev w4 ⟨rfl, hb⟩
          have HB9 := Hq hb
          clear hb
          go_wp2
          refine hK9 _ _ (by exact Below.trans hS_7_3 (Below.mono HB9.out (Below.size hS_7_3))) ?_; clear hK9; intro hS_7_9 hD
          refine rP 10 37 12 rfl hD hS_7_9 ?_; clear hD; intro hD; simp only [Act.put, sqA, sqB, sqC]
          refine rP 11 38 11 rfl hD hS_7_9 ?_; clear hD; intro hD; simp only [Act.put, sqA, sqB, sqC]
          refine rP 12 39 10 rfl hD hS_7_9 ?_; clear hD; intro hD; simp only [Act.put, sqA, sqB, sqC]
          refine rT 13 40 9 rfl hD hS_7_9 (by intro w' hS'; obtain ⟨e0, e1, e2, e3, e4, e5⟩ := KK2.out w' hS'; go_simp; with_reducible rfl) ?_; clear hD; intro hD; simp only [Act.put, sqA, sqB, sqC]
          refine rT 14 41 8 rfl hD hS_7_9 (by intro w' hS'; obtain ⟨e0, e1, e2, e3, e4, e5⟩ := KK2.out w' hS'; go_simp; with_reducible rfl) ?_; clear hD; intro hD; simp only [Act.put, sqA, sqB, sqC]
          refine rT 15 42 7 rfl hD hS_7_9 (by intro w' hS'; obtain ⟨e0, e1, e2, e3, e4, e5⟩ := KK2.out w' hS'; go_simp; with_reducible rfl) ?_; clear hD; intro hD; simp only [Act.put, sqA, sqB, sqC]
          refine rP 17 44 6 rfl hD hS_7_9 ?_; clear hD; intro hD; simp only [Act.put, sqA, sqB, sqC]
          refine rP 19 46 5 rfl hD hS_7_9 ?_; clear hD; intro hD; simp only [Act.put, sqA, sqB, sqC]
          refine rT 20 47 4 rfl hD hS_7_9 (by intro w' hS'; obtain ⟨e0, e1, e2, e3, e4, e5⟩ := KK2.out w' hS'; go_simp; with_reducible rfl) ?_; clear hD; intro hD; simp only [Act.put, sqA, sqB, sqC]
          refine rO 16 3 rfl hD ?_; clear hD; intro K16 hK16
          go_wp2_with fail
          refine (HCO.out _).mono ?_
          rintro ev w5 ⟨rfl, hb⟩
          have HB16 := Hq hb
          clear hb
          go_wp2
          refine hK16 _ _ (by exact Below.trans hS_7_9 (Below.mono HB16.out (Below.size hS_7_9))) ?_; clear hK16; intro hS_7_16 hD
          refine rO 18 2 rfl hD ?_; clear hD; intro K18 hK18
          go_wp2_with fail
          refine (HCH.out _).mono ?_
          rintro ev w6 ⟨rfl, hb⟩
          have HB18 := Hq hb
          clear hb
          go_wp2
          refine hK18 _ _ (by exact Below.trans hS_7_16 (Below.mono HB18.out (Below.size hS_7_16))) ?_; clear hK18; intro hS_7_18 hD
          have HL := Hq hS_7_18
          refine rP 21 48 1 rfl hD hS_7_18 ?_; clear hD; intro hD; simp only [Act.put, sqA, sqB, sqC]
          refine rP 22 49 0 rfl hD hS_7_18 ?_; clear hD; intro hD; simp only [Act.put, sqA, sqB, sqC]
          refine wpAnyK_done (by kernel_rfl) ?_ 0
          clear hD
          go_wp2
          go_ret
          exact ⟨rfl, (HXD.out.next HL.out).1.2⟩
       · have hge2 : decide (0 ≤ k2) = true := decide_eq_true (by have : ¬ k2 < 0 := by rw [hrm]; exact h2
                                                                  omega)
         have HV3 := Hq (show veK M O G Y c r msg = 19 from by rw [HV.out, decide_eq_true h1, decide_eq_false h2]; rfl)
         rw [HV3.out]
         unfold kV at *
         clear hk vc vr hv4 hck hz hg hy v1 v2 v3 v4 h8 h1 h2 HV hM hO hG hY hc hr hm hcm hrm hk1 hk2 lO lc lr
         go_enter Tryz.func17, Tryz.ntmps17
         go_wp2_with fail
         try rw [hW0]
         clear hW0
         refine (HCK.out _).mono ?_
         rintro ev w1 ⟨rfl, hb⟩
         have HX1 := Hq (HX0.out.next hb)
         clear hb c0 c1 c2 c3 s0 s1
         obtain ⟨c0, c1, c2, c3⟩ := HX1.out.1.1.cells
         have s0 := HX1.out.2.c0
         have s1 := HX1.out.2.c1
         go_wp2_with fail
         refine (HVC.out _).mono ?_
         rintro ev w2 ⟨rfl, rfl⟩
         go_wp2_with fail
         refine (HVR.out _).mono ?_
         rintro ev w2 ⟨rfl, rfl⟩
         go_wp2
         obtain ⟨wd, hwd⟩ : ∃ wd, World.drew w1 = wd := ⟨_, rfl⟩
         have HXD := Hq (show SG w wd M O G Y c r from by rw [← hwd]; exact HX1.out.next (Below.refl _ _).drew)
         clear c0 c1 c2 c3 s0 s1
         obtain ⟨c0, c1, c2, c3⟩ := HXD.out.1.1.cells
         have s0 := HXD.out.2.c0
         have s1 := HXD.out.2.c1
         refine wp_region_K 23 (Below (wd).heap.size (wd)) (by kernel_rfl) ?_
         intro hD
         rw [hwd]
         have KK3 := Hq (fun w' (hS' : (Below (wd).heap.size (wd)) w') => And.intro (kC hS' c0) (And.intro (kC hS' c1) (And.intro (kC hS' c2) (And.intro (kC hS' c3) (And.intro (kC hS' s0) (kC hS' s1))))))
         refine rP 0 27 22 rfl hD (Below.refl _ _) ?_; clear hD; intro hD; simp only [Act.put, sqA, sqB, sqC]
         refine rT 1 28 21 rfl hD (Below.refl _ _) (by intro w' hS'; obtain ⟨e0, e1, e2, e3, e4, e5⟩ := KK3.out w' hS'; go_simp; with_reducible rfl) ?_; clear hD; intro hD; simp only [Act.put, sqA, sqB, sqC]
         refine rP 2 29 20 rfl hD (Below.refl _ _) ?_; clear hD; intro hD; simp only [Act.put, sqA, sqB, sqC]
         refine rO 3 19 rfl hD ?_; clear hD; intro K3 hK3
         go_wp2_with fail
         refine (HCC.out _).mono ?_
         rintro ev w3 ⟨rfl, hb⟩
         have HB3 := Hq hb
         clear hb
         go_wp2
         refine hK3 _ _ (by exact HB3.out) ?_; clear hK3; intro hS_7_3 hD
         refine rP 4 31 18 rfl hD hS_7_3 ?_; clear hD; intro hD; simp only [Act.put, sqA, sqB, sqC]
         refine rP 5 32 17 rfl hD hS_7_3 ?_; clear hD; intro hD; simp only [Act.put, sqA, sqB, sqC]
         refine rP 6 33 16 rfl hD hS_7_3 ?_; clear hD; intro hD; simp only [Act.put, sqA, sqB, sqC]
         refine rT 7 34 15 rfl hD hS_7_3 (by intro w' hS'; obtain ⟨e0, e1, e2, e3, e4, e5⟩ := KK3.out w' hS'; go_simp; with_reducible rfl) ?_; clear hD; intro hD; simp only [Act.put, sqA, sqB, sqC]
         refine rP 8 35 14 rfl hD hS_7_3 ?_; clear hD; intro hD; simp only [Act.put, sqA, sqB, sqC]
         refine rO 9 13 rfl hD ?_; clear hD; intro K9 hK9
         go_wp2_with fail
         refine (HCR.out _).mono ?_
         rintro ev w4 ⟨rfl, hb⟩
         have HB9 := Hq hb
         clear hb
         go_wp2
         refine hK9 _ _ (by exact Below.trans hS_7_3 (Below.mono HB9.out (Below.size hS_7_3))) ?_; clear hK9; intro hS_7_9 hD
         have HL := Hq hS_7_9
         refine rP 10 37 12 rfl hD hS_7_9 ?_; clear hD; intro hD; simp only [Act.put, sqA, sqB, sqC]
         refine rP 11 38 11 rfl hD hS_7_9 ?_; clear hD; intro hD; simp only [Act.put, sqA, sqB, sqC]
         refine rP 12 39 10 rfl hD hS_7_9 ?_; clear hD; intro hD; simp only [Act.put, sqA, sqB, sqC]
         refine rU 13 40 9 rfl hD hS_7_9 ?_; clear hD; intro hD; simp only [Act.put, sqA, sqB, sqC]
         refine rU 14 41 8 rfl hD hS_7_9 ?_; clear hD; intro hD; simp only [Act.put, sqA, sqB, sqC]
         refine rU 15 42 7 rfl hD hS_7_9 ?_; clear hD; intro hD; simp only [Act.put, sqA, sqB, sqC]
         refine rU 16 43 6 rfl hD hS_7_9 ?_; clear hD; intro hD; simp only [Act.put, sqA, sqB, sqC]
         refine rU 17 44 5 rfl hD hS_7_9 ?_; clear hD; intro hD; simp only [Act.put, sqA, sqB, sqC]
         refine rU 18 45 4 rfl hD hS_7_9 ?_; clear hD; intro hD; simp only [Act.put, sqA, sqB, sqC]
         refine rU 19 46 3 rfl hD hS_7_9 ?_; clear hD; intro hD; simp only [Act.put, sqA, sqB, sqC]
         refine rU 20 47 2 rfl hD hS_7_9 ?_; clear hD; intro hD; simp only [Act.put, sqA, sqB, sqC]
         refine rU 21 48 1 rfl hD hS_7_9 ?_; clear hD; intro hD; simp only [Act.put, sqA, sqB, sqC]
         refine rP 22 49 0 rfl hD hS_7_9 ?_; clear hD; intro hD; simp only [Act.put, sqA, sqB, sqC]
         refine wpAnyK_done (by kernel_rfl) ?_ 0
         clear hD
         go_wp2
         go_ret
         exact ⟨rfl, (HXD.out.next HL.out).1.2⟩
     · have hge1 : decide (0 ≤ k1) = true := decide_eq_true (by have : ¬ k1 < 0 := by rw [hcm]; exact h1
                                                                omega)
       have HV3 := Hq (show veK M O G Y c r msg = 19 from by rw [HV.out, decide_eq_false h1]; rfl)
       rw [HV3.out]
       unfold kV at *
       clear hk vc vr hv4 hck hz hg hy v1 v2 v3 v4 h8 h1 HV hM hO hG hY hc hr hm hcm hrm hk1 hk2 lO lc lr
       go_enter Tryz.func17, Tryz.ntmps17
       go_wp2_with fail
       try rw [hW0]
       clear hW0
       refine (HCK.out _).mono ?_
       rintro ev w1 ⟨rfl, hb⟩
       have HX1 := Hq (HX0.out.next hb)
       clear hb c0 c1 c2 c3 s0 s1
       obtain ⟨c0, c1, c2, c3⟩ := HX1.out.1.1.cells
       have s0 := HX1.out.2.c0
       have s1 := HX1.out.2.c1
       go_wp2_with fail
       refine (HVC.out _).mono ?_
       rintro ev w2 ⟨rfl, rfl⟩
       go_wp2_with fail
       refine (HVR.out _).mono ?_
       rintro ev w2 ⟨rfl, rfl⟩
       go_wp2
       obtain ⟨wd, hwd⟩ : ∃ wd, World.drew w1 = wd := ⟨_, rfl⟩
       have HXD := Hq (show SG w wd M O G Y c r from by rw [← hwd]; exact HX1.out.next (Below.refl _ _).drew)
       clear c0 c1 c2 c3 s0 s1
       obtain ⟨c0, c1, c2, c3⟩ := HXD.out.1.1.cells
       have s0 := HXD.out.2.c0
       have s1 := HXD.out.2.c1
       refine wp_region_K 23 (Below (wd).heap.size (wd)) (by kernel_rfl) ?_
       intro hD
       rw [hwd]
       refine rP 0 27 22 rfl hD (Below.refl _ _) ?_; clear hD; intro hD; simp only [Act.put, sqA, sqB, sqC]
       refine rT 1 28 21 rfl hD (Below.refl _ _) (by intro w' hS'; have e0 := kC hS' c0; have e1 := kC hS' c1; have e2 := kC hS' c2; have e3 := kC hS' c3; have e4 := kC hS' s0; have e5 := kC hS' s1; go_simp; with_reducible rfl) ?_; clear hD; intro hD; simp only [Act.put, sqA, sqB, sqC]
       refine rP 2 29 20 rfl hD (Below.refl _ _) ?_; clear hD; intro hD; simp only [Act.put, sqA, sqB, sqC]
       refine rO 3 19 rfl hD ?_; clear hD; intro K3 hK3
       go_wp2_with fail
       refine (HCC.out _).mono ?_
       rintro ev w3 ⟨rfl, hb⟩
       have HB3 := Hq hb
       clear hb
       go_wp2
       refine hK3 _ _ (by exact HB3.out) ?_; clear hK3; intro hS_7_3 hD
       have HL := Hq hS_7_3
       refine rP 4 31 18 rfl hD hS_7_3 ?_; clear hD; intro hD; simp only [Act.put, sqA, sqB, sqC]
       refine rP 5 32 17 rfl hD hS_7_3 ?_; clear hD; intro hD; simp only [Act.put, sqA, sqB, sqC]
       refine rU 6 33 16 rfl hD hS_7_3 ?_; clear hD; intro hD; simp only [Act.put, sqA, sqB, sqC]
       refine rU 7 34 15 rfl hD hS_7_3 ?_; clear hD; intro hD; simp only [Act.put, sqA, sqB, sqC]
       refine rU 8 35 14 rfl hD hS_7_3 ?_; clear hD; intro hD; simp only [Act.put, sqA, sqB, sqC]
       refine rU 9 36 13 rfl hD hS_7_3 ?_; clear hD; intro hD; simp only [Act.put, sqA, sqB, sqC]
       refine rU 10 37 12 rfl hD hS_7_3 ?_; clear hD; intro hD; simp only [Act.put, sqA, sqB, sqC]
       refine rP 11 38 11 rfl hD hS_7_3 ?_; clear hD; intro hD; simp only [Act.put, sqA, sqB, sqC]
       refine rP 12 39 10 rfl hD hS_7_3 ?_; clear hD; intro hD; simp only [Act.put, sqA, sqB, sqC]
       refine rU 13 40 9 rfl hD hS_7_3 ?_; clear hD; intro hD; simp only [Act.put, sqA, sqB, sqC]
       refine rU 14 41 8 rfl hD hS_7_3 ?_; clear hD; intro hD; simp only [Act.put, sqA, sqB, sqC]
       refine rU 15 42 7 rfl hD hS_7_3 ?_; clear hD; intro hD; simp only [Act.put, sqA, sqB, sqC]
       refine rU 16 43 6 rfl hD hS_7_3 ?_; clear hD; intro hD; simp only [Act.put, sqA, sqB, sqC]
       refine rU 17 44 5 rfl hD hS_7_3 ?_; clear hD; intro hD; simp only [Act.put, sqA, sqB, sqC]
       refine rU 18 45 4 rfl hD hS_7_3 ?_; clear hD; intro hD; simp only [Act.put, sqA, sqB, sqC]
       refine rU 19 46 3 rfl hD hS_7_3 ?_; clear hD; intro hD; simp only [Act.put, sqA, sqB, sqC]
       refine rU 20 47 2 rfl hD hS_7_3 ?_; clear hD; intro hD; simp only [Act.put, sqA, sqB, sqC]
       refine rU 21 48 1 rfl hD hS_7_3 ?_; clear hD; intro hD; simp only [Act.put, sqA, sqB, sqC]
       refine rP 22 49 0 rfl hD hS_7_3 ?_; clear hD; intro hD; simp only [Act.put, sqA, sqB, sqC]
       refine wpAnyK_done (by kernel_rfl) ?_ 0
       clear hD
       go_wp2
       go_ret
       exact ⟨rfl, (HXD.out.next HL.out).1.2⟩
 · rw [show veK M O G Y c r msg = scK M O G Y from if_neg hk]
   obtain ⟨e, he⟩ : ∃ e, scK M O G Y = e := ⟨_, rfl⟩
   rw [he] at HCK hk ⊢
   unfold kV at *
   clear he
   go_enter Tryz.func17, Tryz.ntmps17
   go_wp2_with fail
   try rw [hW0]
   clear hW0
   refine (HCK.out _).mono ?_
   rintro ev w1 ⟨rfl, hb⟩
   have HX1 := Hq (HX0.out.next hb)
   clear hb c0 c1 c2 c3 s0 s1
   obtain ⟨c0, c1, c2, c3⟩ := HX1.out.1.1.cells
   have s0 := HX1.out.2.c0
   have s1 := HX1.out.2.c1
   go_upto_region 3 with (fail)
   clear hk
   go_wp2
   go_ret
   exact ⟨rfl, HX1.out.1.2⟩
end Go.Proofs.YtehflcnjnnhojaaGreat

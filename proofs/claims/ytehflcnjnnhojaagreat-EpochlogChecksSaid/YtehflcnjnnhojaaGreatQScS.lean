import Derived.Test.YtehflcnjnnhojaaGreatQScH
import Derived.Test.YtehflcnjnnhojaaGreatQScC
import Derived.Deep.Cut
set_option linter.unusedVariables false
set_option linter.unusedSimpArgs false
namespace Go.Proofs.YtehflcnjnnhojaaGreat
set_option maxRecDepth 100000
set_option maxHeartbeats 4000000
open Go.RowKit Go.Lib
def veB (M O G Y c r msg : ByteArray) : Bool := decide (chS M O G Y (cmS (num M) (num O) (num G) (num Y) (num c) (num r)) msg = num c)
def veK (M O G Y c r msg : ByteArray) : Int :=
 if scK M O G Y = 0 then (if (nvalid c && nvalid r) = true then (if (decide (num c < num O) && (decide (num r < num O) && veB M O G Y c r msg)) = true then 0 else 19) else 3) else scK M O G Y
theorem chS_fold (M O G Y msg : ByteArray) (x : Nat) : chL (snL M.data.toList O.data.toList G.data.toList Y.data.toList (nS x).data.toList msg.data.toList) O.size (num O) = chS M O G Y x msg := rfl
theorem field_run (R : ByteArray) (w : World) : (Instr.field 76 (.agg #[.string R]) 0).run Tryz.prog w = .ok (.string R) w := by kernel_rfl
theorem sc_Verify (M O G Y c r msg : ByteArray) (hM : M.size ≤ 8) (hO : O.size ≤ 100) (hG : G.size ≤ 1000) (hY : Y.size ≤ 1000) (hc : c.size ≤ 1000) (hr : r.size ≤ 1000) (hm : msg.size ≤ 1000000) (w : World) :
 Calls Tryz.prog 15 #[kV M O G Y, .string msg, .agg #[.string c, .string r]] w (Ret (.int .i64 (veK M O G Y c r msg)) w) := by
 have hx0 := SG.new w M O G Y c r
 obtain ⟨W0, hW0⟩ : ∃ W, ((w.alloc (.cells #[.string M, .string O, .string G, .string Y] 26)).alloc (.cells #[.string c, .string r] 29)) = W := ⟨_, rfl⟩
 rw [hW0] at hx0
 have HX0 := Hq hx0
 obtain ⟨c0, c1, c2, c3⟩ := hx0.1.1.cells
 have s0 := hx0.2.c0
 have s1 := hx0.2.c1
 clear hx0
 have HCK := Hq (sc_Check M O G Y hM hO hG hY)
 have HFM := Hq (fun W : World => sc_formed [c, r] (some ⟨W.heap.size, 0, none⟩) 2 2 (by omega) (by
  intro z hz
  simp at hz
  rcases hz with h | h <;> subst h <;> omega) (W.alloc (.cells #[.string c, .string r] 22)) (sln_alloc W [c, r] 22 (by simp)))
 rw [show ([c, r].all nvalid) = (nvalid c && nvalid r) from by simp] at HFM
 by_cases hk : scK M O G Y = 0
 · rw [hk] at HCK
   cases hv : (nvalid c && nvalid r) with
   | false =>
    rw [hv] at HFM
    rw [show veK M O G Y c r msg = 3 from by unfold veK; rw [if_pos hk, hv, if_neg (by decide)]]
    unfold kV at *
    clear hv hk
    go_enter Tryz.func15, Tryz.ntmps15
    go_wp2_with fail
    try rw [hW0]
    clear hW0
    refine (HCK.out _).mono ?_
    rintro ev w1 ⟨rfl, hb⟩
    have HX1 := Hq (HX0.out.next hb)
    clear hb c0 c1 c2 c3 s0 s1
    obtain ⟨c0, c1, c2, c3⟩ := HX1.out.1.1.cells
    have s0 := HX1.out.2.c0
    have s1 := HX1.out.2.c1
    have HX2 := Hq (HX1.out.next ((Below.refl w1.heap.size w1).alloc (Nat.le_refl _) (.cells #[.string c, .string r] 22)))
    go_wp2_with fail
    refine (HFM.out _).mono ?_
    rintro ev w2 ⟨rfl, rfl⟩
    clear c0 c1 c2 c3 s0 s1
    go_wp2
    go_ret
    exact ⟨rfl, HX2.out.1.2⟩
   | true =>
    rw [hv] at HFM
    obtain ⟨vc, vr⟩ := Bool.and_eq_true_iff.1 hv
    obtain ⟨hv4, hck, hz, hg, hy⟩ := scK_ok hk
    obtain ⟨v1, v2, v3, v4⟩ := all_four hv4
    have h8 := chk_small hv4 hM hck
    have HBL := Hq (sc_below M O G Y c r v2 vc vr)
    have HV := Hq (show veK M O G Y c r msg = (if (decide (num c < num O) && (decide (num r < num O) && veB M O G Y c r msg)) = true then 0 else 19) from by unfold veK; rw [if_pos hk, hv, if_pos rfl])
    by_cases hbl : num c < num O ∧ num r < num O
    · rw [decide_eq_true hbl] at HBL
      have HCO := Hq (sc_commitmentOf M O G Y c r hM hk vc vr hbl.1)
      have hRz : (nS (cmS (num M) (num O) (num G) (num Y) (num c) (num r))).size ≤ 1000000 := by
       have hm0 : 0 < num M := by
        obtain ⟨i, hu⟩ := has_un (chkK_parts hck).2.2 (genK_parts hg).1
        have := hu.1
        omega
       have h9 := num_small hM
       have : cmS (num M) (num O) (num G) (num Y) (num c) (num r) < num M := Nat.mod_lt _ hm0
       have : (nS (cmS (num M) (num O) (num G) (num Y) (num c) (num r))).size ≤ 128 := nS_size_le.2 (lt128_of_lt8 (by omega))
       omega
      have HCH := Hq (sc_challenge M O G Y (nS (cmS (num M) (num O) (num G) (num Y) (num c) (num r))) msg hM h8 (by omega) (by omega) hRz hm v2 (by omega))
      rw [chS_fold] at HCH
      have hbe := nS_beq (chS M O G Y (cmS (num M) (num O) (num G) (num Y) (num c) (num r)) msg) (num c)
      rw [← nS_num vc] at hbe
      have HV2 := Hq (show veK M O G Y c r msg = if veB M O G Y c r msg = true then 0 else 19 from by rw [HV.out, decide_eq_true hbl.1, decide_eq_true hbl.2]; rfl)
      have hvb : veB M O G Y c r msg = decide (chS M O G Y (cmS (num M) (num O) (num G) (num Y) (num c) (num r)) msg = num c) := rfl
      rw [← hvb] at hbe
      obtain ⟨R, hR⟩ : ∃ R, nS (cmS (num M) (num O) (num G) (num Y) (num c) (num r)) = R := ⟨_, rfl⟩
      obtain ⟨x, hx⟩ : ∃ x, nS (chS M O G Y (cmS (num M) (num O) (num G) (num Y) (num c) (num r)) msg) = x := ⟨_, rfl⟩
      rw [hR] at HCO HCH
      rw [hx] at HCH hbe
      obtain ⟨b, hb⟩ : ∃ b, veB M O G Y c r msg = b := ⟨_, rfl⟩
      rw [hb] at hbe HV2
      unfold kV at *
      clear hv hk vc vr hv4 hck hz hg hy v1 v2 v3 v4 h8 hbl hRz hR hx hvb hb HV hM hO hG hY hc hr hm
      cases b with
      | false =>
       rw [show veK M O G Y c r msg = 19 from HV2.out]
       go_enter Tryz.func15, Tryz.ntmps15
       go_wp2_with fail
       try rw [hW0]
       clear hW0
       refine (HCK.out _).mono ?_
       rintro ev w1 ⟨rfl, hb⟩
       have HX1 := Hq (HX0.out.next hb)
       clear hb c0 c1 c2 c3 s0 s1
       obtain ⟨c0, c1, c2, c3⟩ := HX1.out.1.1.cells
       have s0 := HX1.out.2.c0
       have s1 := HX1.out.2.c1
       have HX2 := Hq (HX1.out.next ((Below.refl w1.heap.size w1).alloc (Nat.le_refl _) (.cells #[.string c, .string r] 22)))
       go_wp2_with fail
       refine (HFM.out _).mono ?_
       rintro ev w2 ⟨rfl, rfl⟩
       clear c0 c1 c2 c3 s0 s1
       go_wp2
       obtain ⟨wd, hwd⟩ : ∃ wd, World.drew (w1.alloc (.cells #[.string c, .string r] 22)) = wd := ⟨_, rfl⟩
       have HXD := Hq (show SG w wd M O G Y c r from by rw [← hwd]; exact HX2.out.next (Below.refl _ _).drew)
       obtain ⟨k0, k1, k2, k3⟩ := HXD.out.1.1.cells
       have t0 := HXD.out.2.c0
       have t1 := HXD.out.2.c1
       refine wp_region_K 16 (Below (wd).heap.size (wd)) (by kernel_rfl) ?_
       intro hD
       rw [hwd]
       have KK1 := Hq (fun w' (hS' : (Below (wd).heap.size (wd)) w') => And.intro (kC hS' k0) (And.intro (kC hS' k1) (And.intro (kC hS' k2) (And.intro (kC hS' k3) (And.intro (kC hS' t0) (kC hS' t1))))))
       refine rT 0 20 15 rfl hD (Below.refl _ _) (by intro w' hS'; obtain ⟨e0, e1, e2, e3, e4, e5⟩ := KK1.out w' hS'; go_simp; with_reducible rfl) ?_; clear hD; intro hD; simp only [Act.put, sqA, sqB, sqC]
       refine rT 1 21 14 rfl hD (Below.refl _ _) (by intro w' hS'; obtain ⟨e0, e1, e2, e3, e4, e5⟩ := KK1.out w' hS'; go_simp; with_reducible rfl) ?_; clear hD; intro hD; simp only [Act.put, sqA, sqB, sqC]
       refine rO 2 13 rfl hD ?_; clear hD; intro K2 hK2
       go_wp2_with fail
       refine (HBL.out _).mono ?_
       rintro ev w3 ⟨rfl, hb⟩
       have HB2 := Hq hb
       clear hb
       go_wp2
       refine hK2 _ _ (by exact HB2.out) ?_; clear hK2; intro hS_6_2 hD
       refine rP 3 23 12 rfl hD hS_6_2 ?_; clear hD; intro hD; simp only [Act.put, sqA, sqB, sqC]
       refine rP 4 24 11 rfl hD hS_6_2 ?_; clear hD; intro hD; simp only [Act.put, sqA, sqB, sqC]
       refine rT 5 25 10 rfl hD hS_6_2 (by intro w' hS'; obtain ⟨e0, e1, e2, e3, e4, e5⟩ := KK1.out w' hS'; go_simp; with_reducible rfl) ?_; clear hD; intro hD; simp only [Act.put, sqA, sqB, sqC]
       refine rT 6 26 9 rfl hD hS_6_2 (by intro w' hS'; obtain ⟨e0, e1, e2, e3, e4, e5⟩ := KK1.out w' hS'; go_simp; with_reducible rfl) ?_; clear hD; intro hD; simp only [Act.put, sqA, sqB, sqC]
       refine rT 7 27 8 rfl hD hS_6_2 (by intro w' hS'; obtain ⟨e0, e1, e2, e3, e4, e5⟩ := KK1.out w' hS'; go_simp; with_reducible rfl) ?_; clear hD; intro hD; simp only [Act.put, sqA, sqB, sqC]
       refine rP 10 30 7 rfl hD hS_6_2 ?_; clear hD; intro hD; simp only [Act.put, sqA, sqB, sqC]
       refine rP 12 32 6 rfl hD hS_6_2 ?_; clear hD; intro hD; simp only [Act.put, sqA, sqB, sqC]
       refine rT 13 33 5 rfl hD hS_6_2 (by intro w' hS'; obtain ⟨e0, e1, e2, e3, e4, e5⟩ := KK1.out w' hS'; go_simp; with_reducible rfl) ?_; clear hD; intro hD; simp only [Act.put, sqA, sqB, sqC]
       refine rO 8 4 rfl hD ?_; clear hD; intro K8 hK8
       go_wp2_with fail
       refine (HCO.out _).mono ?_
       rintro ev w4 ⟨rfl, hb⟩
       have HB8 := Hq hb
       clear hb
       go_wp2
       refine hK8 _ _ (by exact Below.trans hS_6_2 (Below.mono HB8.out (Below.size hS_6_2))) ?_; clear hK8; intro hS_6_8 hD
       refine wpAnyK_takeSD (i := 9) (d := some 29) (v := (.string R)) (fuel := 3) rfl (by kernel_rfl) (by kernel_rfl) (by kernel_rfl) (fun _ _ _ h => h) hD hS_6_8 (.inl ⟨by kernel_rfl, ?y6_9b1⟩) ?n6_9b1
       case y6_9b1 =>
        intro w' _
        have hfd := field_run R w'
        go_simp
       clear hD; intro hD
       simp only [Act.put, sqA, sqB, sqC]
       refine rO 11 2 rfl hD ?_; clear hD; intro K11 hK11
       go_wp2_with fail
       refine (HCH.out _).mono ?_
       rintro ev w5 ⟨rfl, hb⟩
       have HB11 := Hq hb
       clear hb
       go_wp2
       refine hK11 _ _ (by exact Below.trans hS_6_8 (Below.mono HB11.out (Below.size hS_6_8))) ?_; clear hK11; intro hS_6_11 hD
       have HL := Hq hS_6_11
       refine rP 14 34 1 rfl hD hS_6_11 ?_; clear hD; intro hD; simp only [Act.put, sqA, sqB, sqC]
       refine rP 15 35 0 rfl hD hS_6_11 ?_; clear hD; intro hD; simp only [Act.put, sqA, sqB, sqC]
       refine wpAnyK_done (by kernel_rfl) ?_ 0
       clear hD
       go_wp2
       go_ret
       exact ⟨rfl, (HXD.out.next HL.out).1.2⟩
      | true =>
       rw [show veK M O G Y c r msg = 0 from HV2.out]
       go_enter Tryz.func15, Tryz.ntmps15
       go_wp2_with fail
       try rw [hW0]
       clear hW0
       refine (HCK.out _).mono ?_
       rintro ev w1 ⟨rfl, hb⟩
       have HX1 := Hq (HX0.out.next hb)
       clear hb c0 c1 c2 c3 s0 s1
       obtain ⟨c0, c1, c2, c3⟩ := HX1.out.1.1.cells
       have s0 := HX1.out.2.c0
       have s1 := HX1.out.2.c1
       have HX2 := Hq (HX1.out.next ((Below.refl w1.heap.size w1).alloc (Nat.le_refl _) (.cells #[.string c, .string r] 22)))
       go_wp2_with fail
       refine (HFM.out _).mono ?_
       rintro ev w2 ⟨rfl, rfl⟩
       clear c0 c1 c2 c3 s0 s1
       go_wp2
       obtain ⟨wd, hwd⟩ : ∃ wd, World.drew (w1.alloc (.cells #[.string c, .string r] 22)) = wd := ⟨_, rfl⟩
       have HXD := Hq (show SG w wd M O G Y c r from by rw [← hwd]; exact HX2.out.next (Below.refl _ _).drew)
       obtain ⟨k0, k1, k2, k3⟩ := HXD.out.1.1.cells
       have t0 := HXD.out.2.c0
       have t1 := HXD.out.2.c1
       refine wp_region_K 16 (Below (wd).heap.size (wd)) (by kernel_rfl) ?_
       intro hD
       rw [hwd]
       have KK2 := Hq (fun w' (hS' : (Below (wd).heap.size (wd)) w') => And.intro (kC hS' k0) (And.intro (kC hS' k1) (And.intro (kC hS' k2) (And.intro (kC hS' k3) (And.intro (kC hS' t0) (kC hS' t1))))))
       refine rT 0 20 15 rfl hD (Below.refl _ _) (by intro w' hS'; obtain ⟨e0, e1, e2, e3, e4, e5⟩ := KK2.out w' hS'; go_simp; with_reducible rfl) ?_; clear hD; intro hD; simp only [Act.put, sqA, sqB, sqC]
       refine rT 1 21 14 rfl hD (Below.refl _ _) (by intro w' hS'; obtain ⟨e0, e1, e2, e3, e4, e5⟩ := KK2.out w' hS'; go_simp; with_reducible rfl) ?_; clear hD; intro hD; simp only [Act.put, sqA, sqB, sqC]
       refine rO 2 13 rfl hD ?_; clear hD; intro K2 hK2
       go_wp2_with fail
       refine (HBL.out _).mono ?_
       rintro ev w3 ⟨rfl, hb⟩
       have HB2 := Hq hb
       clear hb
       go_wp2
       refine hK2 _ _ (by exact HB2.out) ?_; clear hK2; intro hS_6_2 hD
       refine rP 3 23 12 rfl hD hS_6_2 ?_; clear hD; intro hD; simp only [Act.put, sqA, sqB, sqC]
       refine rP 4 24 11 rfl hD hS_6_2 ?_; clear hD; intro hD; simp only [Act.put, sqA, sqB, sqC]
       refine rT 5 25 10 rfl hD hS_6_2 (by intro w' hS'; obtain ⟨e0, e1, e2, e3, e4, e5⟩ := KK2.out w' hS'; go_simp; with_reducible rfl) ?_; clear hD; intro hD; simp only [Act.put, sqA, sqB, sqC]
       refine rT 6 26 9 rfl hD hS_6_2 (by intro w' hS'; obtain ⟨e0, e1, e2, e3, e4, e5⟩ := KK2.out w' hS'; go_simp; with_reducible rfl) ?_; clear hD; intro hD; simp only [Act.put, sqA, sqB, sqC]
       refine rT 7 27 8 rfl hD hS_6_2 (by intro w' hS'; obtain ⟨e0, e1, e2, e3, e4, e5⟩ := KK2.out w' hS'; go_simp; with_reducible rfl) ?_; clear hD; intro hD; simp only [Act.put, sqA, sqB, sqC]
       refine rP 10 30 7 rfl hD hS_6_2 ?_; clear hD; intro hD; simp only [Act.put, sqA, sqB, sqC]
       refine rP 12 32 6 rfl hD hS_6_2 ?_; clear hD; intro hD; simp only [Act.put, sqA, sqB, sqC]
       refine rT 13 33 5 rfl hD hS_6_2 (by intro w' hS'; obtain ⟨e0, e1, e2, e3, e4, e5⟩ := KK2.out w' hS'; go_simp; with_reducible rfl) ?_; clear hD; intro hD; simp only [Act.put, sqA, sqB, sqC]
       refine rO 8 4 rfl hD ?_; clear hD; intro K8 hK8
       go_wp2_with fail
       refine (HCO.out _).mono ?_
       rintro ev w4 ⟨rfl, hb⟩
       have HB8 := Hq hb
       clear hb
       go_wp2
       refine hK8 _ _ (by exact Below.trans hS_6_2 (Below.mono HB8.out (Below.size hS_6_2))) ?_; clear hK8; intro hS_6_8 hD
       refine wpAnyK_takeSD (i := 9) (d := some 29) (v := (.string R)) (fuel := 3) rfl (by kernel_rfl) (by kernel_rfl) (by kernel_rfl) (fun _ _ _ h => h) hD hS_6_8 (.inl ⟨by kernel_rfl, ?y6_9b2⟩) ?n6_9b2
       case y6_9b2 =>
        intro w' _
        have hfd := field_run R w'
        go_simp
       clear hD; intro hD
       simp only [Act.put, sqA, sqB, sqC]
       refine rO 11 2 rfl hD ?_; clear hD; intro K11 hK11
       go_wp2_with fail
       refine (HCH.out _).mono ?_
       rintro ev w5 ⟨rfl, hb⟩
       have HB11 := Hq hb
       clear hb
       go_wp2
       refine hK11 _ _ (by exact Below.trans hS_6_8 (Below.mono HB11.out (Below.size hS_6_8))) ?_; clear hK11; intro hS_6_11 hD
       have HL := Hq hS_6_11
       refine rP 14 34 1 rfl hD hS_6_11 ?_; clear hD; intro hD; simp only [Act.put, sqA, sqB, sqC]
       refine rP 15 35 0 rfl hD hS_6_11 ?_; clear hD; intro hD; simp only [Act.put, sqA, sqB, sqC]
       refine wpAnyK_done (by kernel_rfl) ?_ 0
       clear hD
       go_wp2
       go_ret
       exact ⟨rfl, (HXD.out.next HL.out).1.2⟩
    · have HV3 := Hq (show veK M O G Y c r msg = 19 from by
       rw [HV.out]
       by_cases h1 : num c < num O
       · rw [decide_eq_true h1, decide_eq_false (fun h2 => hbl ⟨h1, h2⟩)]; rfl
       · rw [decide_eq_false h1]; rfl)
      rw [decide_eq_false hbl] at HBL
      rw [HV3.out]
      unfold kV at *
      clear hv hk vc vr hv4 hck hz hg hy v1 v2 v3 v4 h8 hbl HV hM hO hG hY hc hr hm
      go_enter Tryz.func15, Tryz.ntmps15
      go_wp2_with fail
      try rw [hW0]
      clear hW0
      refine (HCK.out _).mono ?_
      rintro ev w1 ⟨rfl, hb⟩
      have HX1 := Hq (HX0.out.next hb)
      clear hb c0 c1 c2 c3 s0 s1
      obtain ⟨c0, c1, c2, c3⟩ := HX1.out.1.1.cells
      have s0 := HX1.out.2.c0
      have s1 := HX1.out.2.c1
      have HX2 := Hq (HX1.out.next ((Below.refl w1.heap.size w1).alloc (Nat.le_refl _) (.cells #[.string c, .string r] 22)))
      go_wp2_with fail
      refine (HFM.out _).mono ?_
      rintro ev w2 ⟨rfl, rfl⟩
      clear c0 c1 c2 c3 s0 s1
      go_wp2
      obtain ⟨wd, hwd⟩ : ∃ wd, World.drew (w1.alloc (.cells #[.string c, .string r] 22)) = wd := ⟨_, rfl⟩
      have HXD := Hq (show SG w wd M O G Y c r from by rw [← hwd]; exact HX2.out.next (Below.refl _ _).drew)
      obtain ⟨k0, k1, k2, k3⟩ := HXD.out.1.1.cells
      have t0 := HXD.out.2.c0
      have t1 := HXD.out.2.c1
      refine wp_region_K 16 (Below (wd).heap.size (wd)) (by kernel_rfl) ?_
      intro hD
      rw [hwd]
      have KK3 := Hq (fun w' (hS' : (Below (wd).heap.size (wd)) w') => And.intro (kC hS' k0) (And.intro (kC hS' k1) (And.intro (kC hS' k2) (And.intro (kC hS' k3) (And.intro (kC hS' t0) (kC hS' t1))))))
      refine rT 0 20 15 rfl hD (Below.refl _ _) (by intro w' hS'; obtain ⟨e0, e1, e2, e3, e4, e5⟩ := KK3.out w' hS'; go_simp; with_reducible rfl) ?_; clear hD; intro hD; simp only [Act.put, sqA, sqB, sqC]
      refine rT 1 21 14 rfl hD (Below.refl _ _) (by intro w' hS'; obtain ⟨e0, e1, e2, e3, e4, e5⟩ := KK3.out w' hS'; go_simp; with_reducible rfl) ?_; clear hD; intro hD; simp only [Act.put, sqA, sqB, sqC]
      refine rO 2 13 rfl hD ?_; clear hD; intro K2 hK2
      go_wp2_with fail
      refine (HBL.out _).mono ?_
      rintro ev w3 ⟨rfl, hb⟩
      have HB2 := Hq hb
      clear hb
      go_wp2
      refine hK2 _ _ (by exact HB2.out) ?_; clear hK2; intro hS_6_2 hD
      have HL := Hq hS_6_2
      refine rP 3 23 12 rfl hD hS_6_2 ?_; clear hD; intro hD; simp only [Act.put, sqA, sqB, sqC]
      refine rP 4 24 11 rfl hD hS_6_2 ?_; clear hD; intro hD; simp only [Act.put, sqA, sqB, sqC]
      refine rU 5 25 10 rfl hD hS_6_2 ?_; clear hD; intro hD; simp only [Act.put, sqA, sqB, sqC]
      refine rU 6 26 9 rfl hD hS_6_2 ?_; clear hD; intro hD; simp only [Act.put, sqA, sqB, sqC]
      refine rU 7 27 8 rfl hD hS_6_2 ?_; clear hD; intro hD; simp only [Act.put, sqA, sqB, sqC]
      refine rU 8 28 7 rfl hD hS_6_2 ?_; clear hD; intro hD; simp only [Act.put, sqA, sqB, sqC]
      refine rU 9 29 6 rfl hD hS_6_2 ?_; clear hD; intro hD; simp only [Act.put, sqA, sqB, sqC]
      refine rU 10 30 5 rfl hD hS_6_2 ?_; clear hD; intro hD; simp only [Act.put, sqA, sqB, sqC]
      refine rU 11 31 4 rfl hD hS_6_2 ?_; clear hD; intro hD; simp only [Act.put, sqA, sqB, sqC]
      refine rU 12 32 3 rfl hD hS_6_2 ?_; clear hD; intro hD; simp only [Act.put, sqA, sqB, sqC]
      refine rU 13 33 2 rfl hD hS_6_2 ?_; clear hD; intro hD; simp only [Act.put, sqA, sqB, sqC]
      refine rU 14 34 1 rfl hD hS_6_2 ?_; clear hD; intro hD; simp only [Act.put, sqA, sqB, sqC]
      refine rP 15 35 0 rfl hD hS_6_2 ?_; clear hD; intro hD; simp only [Act.put, sqA, sqB, sqC]
      refine wpAnyK_done (by kernel_rfl) ?_ 0
      clear hD
      go_wp2
      go_ret
      exact ⟨rfl, (HXD.out.next HL.out).1.2⟩
 · rw [show veK M O G Y c r msg = scK M O G Y from if_neg hk]
   obtain ⟨e, he⟩ : ∃ e, scK M O G Y = e := ⟨_, rfl⟩
   rw [he] at HCK hk ⊢
   unfold kV at *
   clear he
   go_enter Tryz.func15, Tryz.ntmps15
   go_wp2_with fail
   try rw [hW0]
   clear hW0
   refine (HCK.out _).mono ?_
   rintro ev w1 ⟨rfl, hb⟩
   have HX1 := Hq (HX0.out.next hb)
   clear hb c0 c1 c2 c3 s0 s1
   obtain ⟨c0, c1, c2, c3⟩ := HX1.out.1.1.cells
   have s0 := HX1.out.2.c0
   have s1 := HX1.out.2.c1
   go_upto_region 3 with (fail)
   clear hk
   go_wp2
   go_ret
   exact ⟨rfl, HX1.out.1.2⟩
end Go.Proofs.YtehflcnjnnhojaaGreat

/- Walk: dominoref33.Extract. -/
import Derived.Test.YtndmjfkmnjejkaaGreatDoorQFw9
import Derived.Test.YtndmjfkmnjejkaaGreatDoorQCtF
set_option linter.unusedVariables false
set_option linter.unusedSimpArgs false
namespace Go.Proofs.YtndmjfkmnjejkaaGreatDoor
open Go.RowKit Go.Lib
set_option maxRecDepth 100000 in
set_option maxHeartbeats 8000000 in
theorem r33_Extract (M O G Y ac ar bc br : ByteArray) (hM : M.size ≤ 8) (hO : O.size ≤ 100) (hG : G.size ≤ 1000) (hY : Y.size ≤ 1000) (hac : ac.size ≤ 1000) (har : ar.size ≤ 1000) (hbc : bc.size ≤ 1000) (hbr : br.size ≤ 1000) (w : World) : Calls Tryz.prog 23 #[kV M O G Y, .agg #[.string ac, .string ar], .agg #[.string bc, .string br]] w (Ret (.tuple #[.string (exK M O G Y ac ar bc br).1, .int .i64 (exK M O G Y ac ar bc br).2]) w) := by
  have hx0 := SX.new w M O G Y ac ar bc br
  obtain ⟨W0, hW0⟩ : ∃ W, (((w.alloc (.cells #[.string M, .string O, .string G, .string Y] 46)).alloc (.cells #[.string ac, .string ar] 52)).alloc (.cells #[.string bc, .string br] 52)) = W := ⟨_, rfl⟩
  rw [hW0] at hx0
  have HX0 := Lib.hid hx0
  obtain ⟨c0, c1, c2, c3, s0, s1, t0, t1⟩ := hx0.cells
  clear hx0
  have HCK := Lib.hid (r33_Check M O G Y hM hO hG hY)
  have hlz : ∀ x ∈ [ac, ar, bc, br], x.size ≤ 1000 := by
    intro z hz
    simp at hz
    rcases hz with h | h | h | h <;> subst h <;> assumption
  have HLZ := Lib.hid hlz
  have HMM := Lib.hid hM
  obtain ⟨R, hR⟩ : ∃ R, exK M O G Y ac ar bc br = R := ⟨_, rfl⟩
  have HR := Lib.hid hR
  rw [hR]
  clear hlz hO hG hY hac har hbc hbr hR hM
  by_cases hk : scK M O G Y = 0
  · rw [hk] at HCK
    have HK := Lib.hid hk
    obtain ⟨hvv, hchk, hz, _, _⟩ := scK_ok hk
    obtain ⟨v1, v2, v3, v4⟩ := all_four hvv
    have H8 := Lib.hid (num_small (chk_small hvv HMM.out hchk))
    have HVO := Lib.hid v2
    have HNZ := Lib.hid hz
    clear hk hvv hchk hz v1 v2 v3 v4
    unfold kV at *
    go_enter Tryz.func23, Tryz.ntmps23
    go_wp2_with fail
    try rw [hW0]
    clear hW0
    refine (HCK.out _).mono ?_
    rintro ev w1 ⟨rfl, hb⟩
    have hk := HX0.out.next hb
    have HX1 := Lib.hid hk
    clear hb c0 c1 c2 c3 s0 s1 t0 t1
    obtain ⟨c0, c1, c2, c3, s0, s1, t0, t1⟩ := hk.cells
    clear hk
    go_wp2
    have hsl := sln_alloc w1 [ac, ar, bc, br] 22 (by simp)
    have hb : Below w1.heap.size w1 (w1.alloc (.cells #[.string ac, .string ar, .string bc, .string br] 22)) := (Below.refl _ _).alloc (Nat.le_refl _) _
    have hk := HX1.out.next hb
    have HX2 := Lib.hid hk
    clear hb c0 c1 c2 c3 s0 s1 t0 t1
    obtain ⟨c0, c1, c2, c3, s0, s1, t0, t1⟩ := hk.cells
    clear hk
    obtain ⟨w2, hw2⟩ : ∃ W, w1.alloc (.cells #[.string ac, .string ar, .string bc, .string br] 22) = W := ⟨_, rfl⟩
    have HSL := Lib.hid (show SlN w2 (some ⟨w1.heap.size, 0, none⟩) 4 4 [ac, ar, bc, br] from hw2 ▸ hsl)
    rw [hw2] at HX2 c0 c1 c2 c3 s0 s1 t0 t1
    try rw [hw2]
    clear hw2 hsl
    go_loopw [11] (fun i wr => ∃ k : Nat, k ≤ 4 ∧ i = .int .i64 k ∧ (∀ j, j < k → ∃ s, [ac, ar, bc, br][j]? = some s ∧ nvalid s = true) ∧ wr = w2) (fun i _ => 4 - (RowKit.intOf i).toNat)
    case atStart => exact ⟨0, Nat.zero_le _, rfl, fun j h => by omega, rfl⟩
    case round =>
      obtain ⟨k, hk, rfl, hall, rfl⟩ := hrel
      have HALL := Lib.hid hall
      clear hall c0 c1 c2 c3 s0 s1 t0 t1
      obtain ⟨c0, c1, c2, c3, s0, s1, t0, t1⟩ := HX2.out.cells
      by_cases hlt : k < 4
      · obtain ⟨x, he⟩ : ∃ s, [ac, ar, bc, br][k]? = some s := ⟨_, List.getElem?_eq_getElem hlt⟩
        have d0 := HSL.out.cellC he
        have HE := Lib.hid he
        have HV := Lib.hid (r01_Valid x (by have := HLZ.out x (List.mem_of_getElem? he); omega))
        have hki : (k : Int) < 4 := by omega
        have HKN := Lib.hid hlt
        clear he hk hlt
        cases hvx : nvalid x with
        | false =>
          rw [hvx] at HV
          have HR3 := Lib.hid (show R = (⟨#[]⟩, 3) from by rw [← HR.out]; exact exK_form HK.out (by have := nall_false HE.out hvx; simpa using this))
          clear hvx
          go_wp2_with fail
          refine (HV.out _).mono ?_
          rintro ev w3 ⟨rfl, rfl⟩
          go_wp2
          go_ret2
          exact ⟨by rw [HR3.out]; rfl, HX2.out.1.2⟩
        | true =>
          rw [hvx] at HV
          have HA2 := Lib.hid (show ∀ j, j < k + 1 → ∃ s, [ac, ar, bc, br][j]? = some s ∧ nvalid s = true from fun j hj => by
            by_cases e : j = k
            · subst e; exact ⟨x, HE.out, hvx⟩
            · exact HALL.out j (by omega))
          clear hvx
          go_wp2_with fail
          refine (HV.out _).mono ?_
          rintro ev w3 ⟨rfl, rfl⟩
          go_wp2
          refine ⟨⟨k + 1, by have := HKN.out; omega, by go_num, HA2.out, trivial⟩, ?_⟩
          have := HKN.out; simp [RowKit.intOf]; omega
      · have hkn : k = 4 := by omega
        have hv : [ac, ar, bc, br].all nvalid = true := nall_true fun j hj => HALL.out j (by rw [hkn]; exact hj)
        have HVA := Lib.hid hv
        have hge : ¬ ((k : Int) < 4) := by omega
        clear hkn hk hlt hv HALL
        go_wp2
        go_loopw [12] (fun i wr => ∃ k : Nat, k ≤ 4 ∧ i = .int .i64 k ∧ (∀ j, j < k → ∃ s, [ac, ar, bc, br][j]? = some s ∧ num s < num O) ∧ SX w wr M O G Y ac ar bc br ∧ SlN wr (some ⟨w1.heap.size, 0, none⟩) 4 4 [ac, ar, bc, br]) (fun i _ => 4 - (RowKit.intOf i).toNat)
        case atStart => exact ⟨0, Nat.zero_le _, rfl, fun j h => by omega, HX2.out, HSL.out⟩
        case round =>
          obtain ⟨n, hn, rfl, hall, hx, hs⟩ := hrel
          have HALL := Lib.hid hall
          have HX4 := Lib.hid hx
          have HS4 := Lib.hid hs
          clear hall hs c0 c1 c2 c3 s0 s1 t0 t1 HX2 HSL hge
          obtain ⟨c0, c1, c2, c3, s0, s1, t0, t1⟩ := hx.cells
          clear hx
          by_cases hlt : n < 4
          · obtain ⟨x, he⟩ : ∃ s, [ac, ar, bc, br][n]? = some s := ⟨_, List.getElem?_eq_getElem hlt⟩
            have d0 := HS4.out.cellC he
            have HE := Lib.hid he
            have vx : nvalid x = true := List.all_eq_true.1 HVA.out x (List.mem_of_getElem? he)
            have HV := Lib.hid (r01_Order x O (by have := HLZ.out x (List.mem_of_getElem? he); omega) (by have := nS_size_le.2 (nvalid_lt HVO.out); rw [nS_num HVO.out]; omega))
            rw [nS_num vx, nS_num HVO.out, ordB_nS, ← nS_num vx, ← nS_num HVO.out] at HV
            have hcm := cmpI_ltC (x := num x) (y := num O)
            obtain ⟨k1, hk1⟩ : ∃ k, cmpI (num x) (num O) = k := ⟨_, rfl⟩
            rw [hk1] at HV hcm
            have hki : (n : Int) < 4 := by omega
            have HKN := Lib.hid hlt
            clear he hn hlt vx hk1
            by_cases hxo : num x < num O
            · have hge : ¬ (0 ≤ k1) := by have : k1 < 0 := by rw [hcm]; exact hxo
                                          omega
              have HA2 := Lib.hid (show ∀ j, j < n + 1 → ∃ s, [ac, ar, bc, br][j]? = some s ∧ num s < num O from fun j hj => by
                by_cases e : j = n
                · subst e; exact ⟨x, HE.out, hxo⟩
                · exact HALL.out j (by omega))
              clear hxo hcm
              go_wp2_with fail
              refine (HV.out _).mono ?_
              rintro ev w3 ⟨rfl, hb⟩
              have HX5 := Lib.hid (HX4.out.next hb)
              have HS5 := Lib.hid (SlN.kept hb (Nat.le_refl _) HS4.out)
              clear hb
              go_wp2
              refine ⟨⟨n + 1, by have := HKN.out; omega, by go_num, HA2.out, HX5.out, HS5.out⟩, ?_⟩
              have := HKN.out; simp [RowKit.intOf]; omega
            · have hge : 0 ≤ k1 := by have : ¬ (k1 < 0) := by rw [hcm]; exact hxo
                                      omega
              have HR3 := Lib.hid (show R = (⟨#[]⟩, 2) from by
                rw [← HR.out]
                refine exK_range HK.out HVA.out fun h => ?_
                have := List.mem_of_getElem? HE.out
                simp at this
                rcases this with e | e | e | e <;> subst e <;> omega)
              clear hxo hcm
              go_wp2_with fail
              refine (HV.out _).mono ?_
              rintro ev w3 ⟨rfl, hb⟩
              have HX5 := Lib.hid (HX4.out.next hb)
              clear hb
              go_wp2
              go_ret2
              exact ⟨by rw [HR3.out]; rfl, HX5.out.1.2⟩
          · have hnn : n = 4 := by omega
            obtain ⟨va, vr, vb, vs⟩ := all_four HVA.out
            have hin : ∀ j x, [ac, ar, bc, br][j]? = some x → j < 4 → num x < num O := fun j x hj hl => by
              obtain ⟨s, e1, e2⟩ := HALL.out j (by omega)
              rw [hj] at e1; cases e1; exact e2
            have hl1 : num ac < num O ∧ num ar < num O := ⟨hin 0 _ rfl (by omega), hin 1 _ rfl (by omega)⟩
            have hl2 : num bc < num O ∧ num br < num O := ⟨hin 2 _ rfl (by omega), hin 3 _ rfl (by omega)⟩
            have hge : ¬ ((n : Int) < 4) := by omega
            have hk := HK.out
            have hv := HVA.out
            have h8 := H8.out
            have v2 := HVO.out
            have hz := HNZ.out
            have hM := HMM.out
            clear HALL hin hnn hlt hn HS4
            have HC1 := Lib.hid (r33_commitment M O G Y ac ar hM hk va vr hl1.1)
            have HC2 := Lib.hid (r33_commitment M O G Y bc br hM hk vb vs hl2.1)
            have hbe := nS_beq (num ac) (num bc)
            rw [← nS_num va, ← nS_num vb] at hbe
            by_cases hab : num ac = num bc
            · have HRR := Lib.hid (show R = _ from HR.out.symm.trans (exK_arg hk hv ⟨hl1, hl2⟩ (.inl hab)))
              rw [decide_eq_true hab] at hbe
              clear hk hv hM hl1 hl2 hab va vr vb vs v2 h8  hz HC1 HC2
              go_wp2
              obtain ⟨wd, hwd⟩ : ∃ wd, wr.drew = wd := ⟨_, rfl⟩
              have HXd := Lib.hid (show SX w wd M O G Y ac ar bc br from by rw [← hwd]; exact HX4.out.next (Below.refl _ _).drew)
              clear c0 c1 c2 c3 s0 s1 t0 t1
              obtain ⟨c0, c1, c2, c3, s0, s1, t0, t1⟩ := HXd.out.cells
              refine wp_region_K 14 (Below (wd).heap.size (wd)) (by kernel_rfl) ?_
              intro hD
              rw [hwd]
              refine wpAnyK_pureD (i := 0) (d := some 63) (v := ?v16_0b1) (fuel := 13) rfl (by kernel_rfl) (by kernel_rfl) (fun _ _ _ h => h) hD (Below.refl _ _) (.inl ⟨by kernel_rfl, ?y16_0b1⟩) ?n16_0b1
              case y16_0b1 => intro w' _; go_simp; with_reducible rfl
              clear hD; intro hD
              simp only [Act.put, sqA, sqB, sqC]
              refine wpAnyK_takeSD (i := 1) (d := some 64) (v := ?v16_1b1) (fuel := 12) rfl (by kernel_rfl) (by kernel_rfl) (by kernel_rfl) (fun _ _ _ h => h) hD (Below.refl _ _) (.inl ⟨by kernel_rfl, ?y16_1b1⟩) ?n16_1b1
              case y16_1b1 => intro w' hS'; have e0 := cell_kept hS' (Nat.le_refl _) c0; have e1 := cell_kept hS' (Nat.le_refl _) c1; have e2 := cell_kept hS' (Nat.le_refl _) c2; have e3 := cell_kept hS' (Nat.le_refl _) c3; have e4 := cell_kept hS' (Nat.le_refl _) s0; have e5 := cell_kept hS' (Nat.le_refl _) s1; have e6 := cell_kept hS' (Nat.le_refl _) t0; have e7 := cell_kept hS' (Nat.le_refl _) t1; go_simp; with_reducible rfl
              clear hD; intro hD
              simp only [Act.put, sqA, sqB, sqC]
              refine wpAnyK_pureD (i := 2) (d := some 65) (v := ?v16_2b1) (fuel := 11) rfl (by kernel_rfl) (by kernel_rfl) (fun _ _ _ h => h) hD (Below.refl _ _) (.inl ⟨by kernel_rfl, ?y16_2b1⟩) ?n16_2b1
              case y16_2b1 => intro w' _; go_simp; with_reducible rfl
              clear hD; intro hD
              simp only [Act.put, sqA, sqB, sqC]
              refine wpAnyK_takeSD (i := 3) (d := some 66) (v := ?v16_3b1) (fuel := 10) rfl (by kernel_rfl) (by kernel_rfl) (by kernel_rfl) (fun _ _ _ h => h) hD (Below.refl _ _) (.inl ⟨by kernel_rfl, ?y16_3b1⟩) ?n16_3b1
              case y16_3b1 => intro w' hS'; have e0 := cell_kept hS' (Nat.le_refl _) c0; have e1 := cell_kept hS' (Nat.le_refl _) c1; have e2 := cell_kept hS' (Nat.le_refl _) c2; have e3 := cell_kept hS' (Nat.le_refl _) c3; have e4 := cell_kept hS' (Nat.le_refl _) s0; have e5 := cell_kept hS' (Nat.le_refl _) s1; have e6 := cell_kept hS' (Nat.le_refl _) t0; have e7 := cell_kept hS' (Nat.le_refl _) t1; go_simp; with_reducible rfl
              clear hD; intro hD
              simp only [Act.put, sqA, sqB, sqC]
              refine wpAnyK_pureD (i := 4) (d := some 67) (v := ?v16_4b1) (fuel := 9) rfl (by kernel_rfl) (by kernel_rfl) (fun _ _ _ h => h) hD (Below.refl _ _) (.inl ⟨by kernel_rfl, ?y16_4b1⟩) ?n16_4b1
              case y16_4b1 => intro w' _; go_simp; with_reducible rfl
              clear hD; intro hD
              simp only [Act.put, sqA, sqB, sqC]
              refine wpAnyK_pureD (i := 5) (d := some 68) (v := ?v16_5b1) (fuel := 8) rfl (by kernel_rfl) (by kernel_rfl) (fun _ _ _ h => h) hD (Below.refl _ _) (.inl ⟨by kernel_rfl, ?y16_5b1⟩) ?n16_5b1
              case y16_5b1 => intro w' _; go_simp; with_reducible rfl
              clear hD; intro hD
              simp only [Act.put, sqA, sqB, sqC]
              refine wpAnyK_pureD (i := 6) (d := some 69) (v := undef) (fuel := 7) rfl (by kernel_rfl) (by kernel_rfl) (fun _ _ _ h => h) hD (Below.refl _ _) (.inr ⟨by kernel_rfl, rfl⟩) ?_
              clear hD; intro hD
              simp only [Act.put, sqA, sqB, sqC]
              refine wpAnyK_pureD (i := 7) (d := some 70) (v := undef) (fuel := 6) rfl (by kernel_rfl) (by kernel_rfl) (fun _ _ _ h => h) hD (Below.refl _ _) (.inr ⟨by kernel_rfl, rfl⟩) ?_
              clear hD; intro hD
              simp only [Act.put, sqA, sqB, sqC]
              refine wpAnyK_pureD (i := 8) (d := some 71) (v := undef) (fuel := 5) rfl (by kernel_rfl) (by kernel_rfl) (fun _ _ _ h => h) hD (Below.refl _ _) (.inr ⟨by kernel_rfl, rfl⟩) ?_
              clear hD; intro hD
              simp only [Act.put, sqA, sqB, sqC]
              refine wpAnyK_pureD (i := 9) (d := some 72) (v := undef) (fuel := 4) rfl (by kernel_rfl) (by kernel_rfl) (fun _ _ _ h => h) hD (Below.refl _ _) (.inr ⟨by kernel_rfl, rfl⟩) ?_
              clear hD; intro hD
              simp only [Act.put, sqA, sqB, sqC]
              refine wpAnyK_pureD (i := 10) (d := some 73) (v := undef) (fuel := 3) rfl (by kernel_rfl) (by kernel_rfl) (fun _ _ _ h => h) hD (Below.refl _ _) (.inr ⟨by kernel_rfl, rfl⟩) ?_
              clear hD; intro hD
              simp only [Act.put, sqA, sqB, sqC]
              refine wpAnyK_pureD (i := 11) (d := some 74) (v := undef) (fuel := 2) rfl (by kernel_rfl) (by kernel_rfl) (fun _ _ _ h => h) hD (Below.refl _ _) (.inr ⟨by kernel_rfl, rfl⟩) ?_
              clear hD; intro hD
              simp only [Act.put, sqA, sqB, sqC]
              refine wpAnyK_pureD (i := 12) (d := some 75) (v := undef) (fuel := 1) rfl (by kernel_rfl) (by kernel_rfl) (fun _ _ _ h => h) hD (Below.refl _ _) (.inr ⟨by kernel_rfl, rfl⟩) ?_
              clear hD; intro hD
              simp only [Act.put, sqA, sqB, sqC]
              refine wpAnyK_pureD (i := 13) (d := some 76) (v := ?v16_13b1) (fuel := 0) rfl (by kernel_rfl) (by kernel_rfl) (fun _ _ _ h => h) hD (Below.refl _ _) (.inl ⟨by kernel_rfl, ?y16_13b1⟩) ?n16_13b1
              case y16_13b1 => intro w' _; go_simp; with_reducible rfl
              clear hD; intro hD
              simp only [Act.put, sqA, sqB, sqC]
              refine wpAnyK_done (by kernel_rfl) ?_ 0
              clear hD
              go_wp2
              go_ret2
              exact ⟨by rw [HRR.out]; rfl, HXd.out.1.2⟩
            · rw [decide_eq_false hab] at hbe
              obtain ⟨n1, hn1⟩ : ∃ n, cmS (num M) (num O) (num G) (num Y) (num ac) (num ar) = n := ⟨_, rfl⟩
              obtain ⟨n2, hn2⟩ : ∃ n, cmS (num M) (num O) (num G) (num Y) (num bc) (num br) = n := ⟨_, rfl⟩
              rw [hn1] at HC1
              rw [hn2] at HC2
              have hbz := nS_beq n1 n2
              by_cases h12 : n1 = n2
              · have hd : ¬ (num ac = num bc ∨ ¬ cmS (num M) (num O) (num G) (num Y) (num ac) (num ar) = cmS (num M) (num O) (num G) (num Y) (num bc) (num br)) := by
                  rw [hn1, hn2]; intro h; rcases h with h | h
                  · exact hab h
                  · exact h h12
                have HS1 := Lib.hid (r03_Sub (num ac) (num bc) (num O) (nvalid_lt va) (nvalid_lt vb) h8 (by omega))
                have HS2 := Lib.hid (r03_Sub (num ar) (num br) (num O) (nvalid_lt vr) (nvalid_lt vs) h8 (by omega))
                have lc : sbM (num ac) (num bc) (num O) < num O := Nat.mod_lt _ (by omega)
                have lr : sbM (num ar) (num br) (num O) < num O := Nat.mod_lt _ (by omega)
                have hm1 : 1 < num O := by omega
                by_cases hg : Nat.gcd (sbM (num ac) (num bc) (num O)) (num O) = 1
                · have HIN := Lib.hid (r03_Inverse _ _ lc h8 hm1 hg)
                  have li : invN (sbM (num ac) (num bc) (num O)) (num O) < 18446744073709551616 := by
                    have := invN_lt (x := sbM (num ac) (num bc) (num O)) (M := num O) (by omega)
                    omega
                  have HMU := Lib.hid (r03_Mul (sbM (num ar) (num br) (num O)) (invN (sbM (num ac) (num bc) (num O)) (num O)) (num O) (lt128_of_lt8 (by omega)) (lt128_of_lt8 li) h8 (by omega))
                  obtain ⟨x, hx⟩ : ∃ x, sbM (num ar) (num br) (num O) * invN (sbM (num ac) (num bc) (num O)) (num O) % num O = x := ⟨_, rfl⟩
                  have lx : x < num O := by rw [← hx]; exact Nat.mod_lt _ (by omega)
                  have HIS := Lib.hid (r33_secret M O G Y (nS x) hM hk (nvalid_nS.2 (lt128_of_lt8 (by omega))))
                  rw [num_nS] at HIS
                  have hre := HR.out.symm.trans (exK_end hk hv ⟨hl1, hl2⟩ hd hg hx)
                  rw [hx] at HMU
                  obtain ⟨gb, hgb⟩ : ∃ b, decide (0 < x ∧ x < num O ∧ num G ^ x % num M = num Y) = b := ⟨_, rfl⟩
                  rw [hgb] at HIS hre
                  rw [← nS_num va, ← nS_num vb, ← nS_num v2] at HS1
                  rw [← nS_num vr, ← nS_num vs, ← nS_num v2] at HS2
                  rw [← nS_num v2] at HIN HMU
                  obtain ⟨z1, hz1⟩ : ∃ z, nS (sbM (num ac) (num bc) (num O)) = z := ⟨_, rfl⟩
                  obtain ⟨z2, hz2⟩ : ∃ z, nS (sbM (num ar) (num br) (num O)) = z := ⟨_, rfl⟩
                  obtain ⟨z3, hz3⟩ : ∃ z, nS (invN (sbM (num ac) (num bc) (num O)) (num O)) = z := ⟨_, rfl⟩
                  obtain ⟨z4, hz4⟩ : ∃ z, nS x = z := ⟨_, rfl⟩
                  obtain ⟨y1, hy1⟩ : ∃ z, nS n1 = z := ⟨_, rfl⟩
                  obtain ⟨y2, hy2⟩ : ∃ z, nS n2 = z := ⟨_, rfl⟩
                  rw [decide_eq_true h12, hy1, hy2] at hbz
                  rw [hy1] at HC1
                  rw [hy2] at HC2
                  rw [hz1] at HS1 HIN
                  rw [hz2] at HS2 HMU
                  rw [hz3] at HIN HMU
                  rw [hz4] at HMU HIS hre
                  have HRR := Lib.hid hre
                  clear hre
                  clear hk hv hM hl1 hl2 hab va vr vb vs v2 h8  hz hn1 hn2 h12 hd lc lr hm1 hg li hx lx hgb hz1 hz2 hz3 hz4 hy1 hy2
                  go_wp2
                  obtain ⟨wd, hwd⟩ : ∃ wd, wr.drew = wd := ⟨_, rfl⟩
                  have HXd := Lib.hid (show SX w wd M O G Y ac ar bc br from by rw [← hwd]; exact HX4.out.next (Below.refl _ _).drew)
                  clear c0 c1 c2 c3 s0 s1 t0 t1
                  obtain ⟨c0, c1, c2, c3, s0, s1, t0, t1⟩ := HXd.out.cells
                  refine wp_region_K 14 (Below (wd).heap.size (wd)) (by kernel_rfl) ?_
                  intro hD
                  rw [hwd]
                  refine wpAnyK_pureD (i := 0) (d := some 63) (v := ?v16_0b2) (fuel := 13) rfl (by kernel_rfl) (by kernel_rfl) (fun _ _ _ h => h) hD (Below.refl _ _) (.inl ⟨by kernel_rfl, ?y16_0b2⟩) ?n16_0b2
                  case y16_0b2 => intro w' _; go_simp; with_reducible rfl
                  clear hD; intro hD
                  simp only [Act.put, sqA, sqB, sqC]
                  refine wpAnyK_takeSD (i := 1) (d := some 64) (v := ?v16_1b2) (fuel := 12) rfl (by kernel_rfl) (by kernel_rfl) (by kernel_rfl) (fun _ _ _ h => h) hD (Below.refl _ _) (.inl ⟨by kernel_rfl, ?y16_1b2⟩) ?n16_1b2
                  case y16_1b2 => intro w' hS'; have e0 := cell_kept hS' (Nat.le_refl _) c0; have e1 := cell_kept hS' (Nat.le_refl _) c1; have e2 := cell_kept hS' (Nat.le_refl _) c2; have e3 := cell_kept hS' (Nat.le_refl _) c3; have e4 := cell_kept hS' (Nat.le_refl _) s0; have e5 := cell_kept hS' (Nat.le_refl _) s1; have e6 := cell_kept hS' (Nat.le_refl _) t0; have e7 := cell_kept hS' (Nat.le_refl _) t1; go_simp; with_reducible rfl
                  clear hD; intro hD
                  simp only [Act.put, sqA, sqB, sqC]
                  refine wpAnyK_pureD (i := 2) (d := some 65) (v := ?v16_2b2) (fuel := 11) rfl (by kernel_rfl) (by kernel_rfl) (fun _ _ _ h => h) hD (Below.refl _ _) (.inl ⟨by kernel_rfl, ?y16_2b2⟩) ?n16_2b2
                  case y16_2b2 => intro w' _; go_simp; with_reducible rfl
                  clear hD; intro hD
                  simp only [Act.put, sqA, sqB, sqC]
                  refine wpAnyK_takeSD (i := 3) (d := some 66) (v := ?v16_3b2) (fuel := 10) rfl (by kernel_rfl) (by kernel_rfl) (by kernel_rfl) (fun _ _ _ h => h) hD (Below.refl _ _) (.inl ⟨by kernel_rfl, ?y16_3b2⟩) ?n16_3b2
                  case y16_3b2 => intro w' hS'; have e0 := cell_kept hS' (Nat.le_refl _) c0; have e1 := cell_kept hS' (Nat.le_refl _) c1; have e2 := cell_kept hS' (Nat.le_refl _) c2; have e3 := cell_kept hS' (Nat.le_refl _) c3; have e4 := cell_kept hS' (Nat.le_refl _) s0; have e5 := cell_kept hS' (Nat.le_refl _) s1; have e6 := cell_kept hS' (Nat.le_refl _) t0; have e7 := cell_kept hS' (Nat.le_refl _) t1; go_simp; with_reducible rfl
                  clear hD; intro hD
                  simp only [Act.put, sqA, sqB, sqC]
                  refine wpAnyK_pureD (i := 4) (d := some 67) (v := ?v16_4b2) (fuel := 9) rfl (by kernel_rfl) (by kernel_rfl) (fun _ _ _ h => h) hD (Below.refl _ _) (.inl ⟨by kernel_rfl, ?y16_4b2⟩) ?n16_4b2
                  case y16_4b2 => intro w' _; go_simp; with_reducible rfl
                  clear hD; intro hD
                  simp only [Act.put, sqA, sqB, sqC]
                  refine wpAnyK_pureD (i := 5) (d := some 68) (v := ?v16_5b2) (fuel := 8) rfl (by kernel_rfl) (by kernel_rfl) (fun _ _ _ h => h) hD (Below.refl _ _) (.inl ⟨by kernel_rfl, ?y16_5b2⟩) ?n16_5b2
                  case y16_5b2 => intro w' _; go_simp; with_reducible rfl
                  clear hD; intro hD
                  simp only [Act.put, sqA, sqB, sqC]
                  refine wpAnyK_takeSD (i := 6) (d := some 69) (v := ?v16_6b2) (fuel := 7) rfl (by kernel_rfl) (by kernel_rfl) (by kernel_rfl) (fun _ _ _ h => h) hD (Below.refl _ _) (.inl ⟨by kernel_rfl, ?y16_6b2⟩) ?n16_6b2
                  case y16_6b2 => intro w' hS'; have e0 := cell_kept hS' (Nat.le_refl _) c0; have e1 := cell_kept hS' (Nat.le_refl _) c1; have e2 := cell_kept hS' (Nat.le_refl _) c2; have e3 := cell_kept hS' (Nat.le_refl _) c3; have e4 := cell_kept hS' (Nat.le_refl _) s0; have e5 := cell_kept hS' (Nat.le_refl _) s1; have e6 := cell_kept hS' (Nat.le_refl _) t0; have e7 := cell_kept hS' (Nat.le_refl _) t1; go_simp; with_reducible rfl
                  clear hD; intro hD
                  simp only [Act.put, sqA, sqB, sqC]
                  refine wpAnyK_takeSD (i := 7) (d := some 70) (v := ?v16_7b2) (fuel := 6) rfl (by kernel_rfl) (by kernel_rfl) (by kernel_rfl) (fun _ _ _ h => h) hD (Below.refl _ _) (.inl ⟨by kernel_rfl, ?y16_7b2⟩) ?n16_7b2
                  case y16_7b2 => intro w' hS'; have e0 := cell_kept hS' (Nat.le_refl _) c0; have e1 := cell_kept hS' (Nat.le_refl _) c1; have e2 := cell_kept hS' (Nat.le_refl _) c2; have e3 := cell_kept hS' (Nat.le_refl _) c3; have e4 := cell_kept hS' (Nat.le_refl _) s0; have e5 := cell_kept hS' (Nat.le_refl _) s1; have e6 := cell_kept hS' (Nat.le_refl _) t0; have e7 := cell_kept hS' (Nat.le_refl _) t1; go_simp; with_reducible rfl
                  clear hD; intro hD
                  simp only [Act.put, sqA, sqB, sqC]
                  refine wpAnyK_takeSD (i := 9) (d := some 72) (v := ?v16_9b2) (fuel := 5) rfl (by kernel_rfl) (by kernel_rfl) (by kernel_rfl) (fun _ _ _ h => h) hD (Below.refl _ _) (.inl ⟨by kernel_rfl, ?y16_9b2⟩) ?n16_9b2
                  case y16_9b2 => intro w' hS'; have e0 := cell_kept hS' (Nat.le_refl _) c0; have e1 := cell_kept hS' (Nat.le_refl _) c1; have e2 := cell_kept hS' (Nat.le_refl _) c2; have e3 := cell_kept hS' (Nat.le_refl _) c3; have e4 := cell_kept hS' (Nat.le_refl _) s0; have e5 := cell_kept hS' (Nat.le_refl _) s1; have e6 := cell_kept hS' (Nat.le_refl _) t0; have e7 := cell_kept hS' (Nat.le_refl _) t1; go_simp; with_reducible rfl
                  clear hD; intro hD
                  simp only [Act.put, sqA, sqB, sqC]
                  refine wpAnyK_takeSD (i := 10) (d := some 73) (v := ?v16_10b2) (fuel := 4) rfl (by kernel_rfl) (by kernel_rfl) (by kernel_rfl) (fun _ _ _ h => h) hD (Below.refl _ _) (.inl ⟨by kernel_rfl, ?y16_10b2⟩) ?n16_10b2
                  case y16_10b2 => intro w' hS'; have e0 := cell_kept hS' (Nat.le_refl _) c0; have e1 := cell_kept hS' (Nat.le_refl _) c1; have e2 := cell_kept hS' (Nat.le_refl _) c2; have e3 := cell_kept hS' (Nat.le_refl _) c3; have e4 := cell_kept hS' (Nat.le_refl _) s0; have e5 := cell_kept hS' (Nat.le_refl _) s1; have e6 := cell_kept hS' (Nat.le_refl _) t0; have e7 := cell_kept hS' (Nat.le_refl _) t1; go_simp; with_reducible rfl
                  clear hD; intro hD
                  simp only [Act.put, sqA, sqB, sqC]
                  refine wpAnyK_one (i := 8) (fuel := 3) (by kernel_rfl) rfl hD ?_
                  clear hD; intro K8 hK8
                  go_wp2_with fail
                  refine (HC1.out _).mono ?_
                  rintro ev w5 ⟨rfl, hb2⟩
                  have HB8 := Lib.hid hb2
                  clear hb2
                  go_wp2
                  refine hK8 _ _ (by exact HB8.out) ?_; clear hK8; intro hS_16_8 hD
                  refine wpAnyK_one (i := 11) (fuel := 2) (by kernel_rfl) rfl hD ?_
                  clear hD; intro K11 hK11
                  go_wp2_with fail
                  refine (HC2.out _).mono ?_
                  rintro ev w6 ⟨rfl, hb3⟩
                  have HB11 := Lib.hid hb3
                  clear hb3
                  go_wp2
                  refine hK11 _ _ (by exact Below.trans hS_16_8 (Below.mono HB11.out (Below.size hS_16_8))) ?_; clear hK11; intro hS_16_11 hD
                  have HL := Lib.hid hS_16_11
                  refine wpAnyK_pureD (i := 12) (d := some 75) (v := ?v16_12b2) (fuel := 1) rfl (by kernel_rfl) (by kernel_rfl) (fun _ _ _ h => h) hD hS_16_11 (.inl ⟨by kernel_rfl, ?y16_12b2⟩) ?n16_12b2
                  case y16_12b2 => intro w' _; go_simp; with_reducible rfl
                  clear hD; intro hD
                  simp only [Act.put, sqA, sqB, sqC]
                  refine wpAnyK_pureD (i := 13) (d := some 76) (v := ?v16_13b2) (fuel := 0) rfl (by kernel_rfl) (by kernel_rfl) (fun _ _ _ h => h) hD hS_16_11 (.inl ⟨by kernel_rfl, ?y16_13b2⟩) ?n16_13b2
                  case y16_13b2 => intro w' _; go_simp; with_reducible rfl
                  clear hD; intro hD
                  simp only [Act.put, sqA, sqB, sqC]
                  refine wpAnyK_done (by kernel_rfl) ?_ 0
                  clear hD
                  have HX5 := Lib.hid (HXd.out.next HL.out)
                  clear c0 c1 c2 c3 s0 s1 t0 t1
                  obtain ⟨c0, c1, c2, c3, s0, s1, t0, t1⟩ := HX5.out.cells
                  go_wp2_with fail
                  refine (HS1.out _).mono ?_
                  rintro ev w7 ⟨rfl, hb⟩
                  have hk := HX5.out.next hb
                  have HX7 := Lib.hid hk
                  clear hb c0 c1 c2 c3 s0 s1 t0 t1
                  obtain ⟨c0, c1, c2, c3, s0, s1, t0, t1⟩ := hk.cells
                  clear hk
                  go_wp2_with fail
                  refine (HS2.out _).mono ?_
                  rintro ev w8 ⟨rfl, hb⟩
                  have hk := HX7.out.next hb
                  have HX8 := Lib.hid hk
                  clear hb c0 c1 c2 c3 s0 s1 t0 t1
                  obtain ⟨c0, c1, c2, c3, s0, s1, t0, t1⟩ := hk.cells
                  clear hk
                  go_wp2_with fail
                  refine (HIN.out _).mono ?_
                  rintro ev w9 ⟨rfl, hb⟩
                  have hk := HX8.out.next hb
                  have HX9 := Lib.hid hk
                  clear hb c0 c1 c2 c3 s0 s1 t0 t1
                  obtain ⟨c0, c1, c2, c3, s0, s1, t0, t1⟩ := hk.cells
                  clear hk
                  go_wp2_with fail
                  refine (HMU.out _).mono ?_
                  rintro ev w10 ⟨rfl, hb⟩
                  have hk := HX9.out.next hb
                  have HX10 := Lib.hid hk
                  clear hb c0 c1 c2 c3 s0 s1 t0 t1
                  obtain ⟨c0, c1, c2, c3, s0, s1, t0, t1⟩ := hk.cells
                  clear hk
                  go_wp2_with fail
                  refine (HIS.out _).mono ?_
                  rintro ev w11 ⟨rfl, hb⟩
                  have hk := HX10.out.next hb
                  have HX11 := Lib.hid hk
                  clear hb c0 c1 c2 c3 s0 s1 t0 t1
                  obtain ⟨c0, c1, c2, c3, s0, s1, t0, t1⟩ := hk.cells
                  clear hk
                  have HG2 : gb = true ∨ gb = false := by cases gb <;> simp
                  rcases HG2 with hgb | hgb
                  · subst hgb
                    go_wp2
                    go_ret2
                    exact ⟨by rw [HRR.out]; rfl, HX11.out.1.2⟩
                  · subst hgb
                    go_wp2
                    go_ret2
                    exact ⟨by rw [HRR.out]; rfl, HX11.out.1.2⟩
                · have HIN := Lib.hid (r03_Inverse_none _ _ lc h8 hm1 hg)
                  have HRR := Lib.hid (show R = _ from HR.out.symm.trans (exK_none hk hv ⟨hl1, hl2⟩ hd hg))
                  rw [← nS_num va, ← nS_num vb, ← nS_num v2] at HS1
                  rw [← nS_num vr, ← nS_num vs, ← nS_num v2] at HS2
                  rw [← nS_num v2] at HIN
                  obtain ⟨z1, hz1⟩ : ∃ z, nS (sbM (num ac) (num bc) (num O)) = z := ⟨_, rfl⟩
                  obtain ⟨z2, hz2⟩ : ∃ z, nS (sbM (num ar) (num br) (num O)) = z := ⟨_, rfl⟩
                  obtain ⟨y1, hy1⟩ : ∃ z, nS n1 = z := ⟨_, rfl⟩
                  obtain ⟨y2, hy2⟩ : ∃ z, nS n2 = z := ⟨_, rfl⟩
                  rw [decide_eq_true h12, hy1, hy2] at hbz
                  rw [hy1] at HC1
                  rw [hy2] at HC2
                  rw [hz1] at HS1 HIN
                  rw [hz2] at HS2
                  clear hk hv hM hl1 hl2 hab va vr vb vs v2 h8  hz hn1 hn2 h12 hd lc lr hm1 hg hz1 hz2 hy1 hy2
                  go_wp2
                  obtain ⟨wd, hwd⟩ : ∃ wd, wr.drew = wd := ⟨_, rfl⟩
                  have HXd := Lib.hid (show SX w wd M O G Y ac ar bc br from by rw [← hwd]; exact HX4.out.next (Below.refl _ _).drew)
                  clear c0 c1 c2 c3 s0 s1 t0 t1
                  obtain ⟨c0, c1, c2, c3, s0, s1, t0, t1⟩ := HXd.out.cells
                  refine wp_region_K 14 (Below (wd).heap.size (wd)) (by kernel_rfl) ?_
                  intro hD
                  rw [hwd]
                  refine wpAnyK_pureD (i := 0) (d := some 63) (v := ?v16_0b3) (fuel := 13) rfl (by kernel_rfl) (by kernel_rfl) (fun _ _ _ h => h) hD (Below.refl _ _) (.inl ⟨by kernel_rfl, ?y16_0b3⟩) ?n16_0b3
                  case y16_0b3 => intro w' _; go_simp; with_reducible rfl
                  clear hD; intro hD
                  simp only [Act.put, sqA, sqB, sqC]
                  refine wpAnyK_takeSD (i := 1) (d := some 64) (v := ?v16_1b3) (fuel := 12) rfl (by kernel_rfl) (by kernel_rfl) (by kernel_rfl) (fun _ _ _ h => h) hD (Below.refl _ _) (.inl ⟨by kernel_rfl, ?y16_1b3⟩) ?n16_1b3
                  case y16_1b3 => intro w' hS'; have e0 := cell_kept hS' (Nat.le_refl _) c0; have e1 := cell_kept hS' (Nat.le_refl _) c1; have e2 := cell_kept hS' (Nat.le_refl _) c2; have e3 := cell_kept hS' (Nat.le_refl _) c3; have e4 := cell_kept hS' (Nat.le_refl _) s0; have e5 := cell_kept hS' (Nat.le_refl _) s1; have e6 := cell_kept hS' (Nat.le_refl _) t0; have e7 := cell_kept hS' (Nat.le_refl _) t1; go_simp; with_reducible rfl
                  clear hD; intro hD
                  simp only [Act.put, sqA, sqB, sqC]
                  refine wpAnyK_pureD (i := 2) (d := some 65) (v := ?v16_2b3) (fuel := 11) rfl (by kernel_rfl) (by kernel_rfl) (fun _ _ _ h => h) hD (Below.refl _ _) (.inl ⟨by kernel_rfl, ?y16_2b3⟩) ?n16_2b3
                  case y16_2b3 => intro w' _; go_simp; with_reducible rfl
                  clear hD; intro hD
                  simp only [Act.put, sqA, sqB, sqC]
                  refine wpAnyK_takeSD (i := 3) (d := some 66) (v := ?v16_3b3) (fuel := 10) rfl (by kernel_rfl) (by kernel_rfl) (by kernel_rfl) (fun _ _ _ h => h) hD (Below.refl _ _) (.inl ⟨by kernel_rfl, ?y16_3b3⟩) ?n16_3b3
                  case y16_3b3 => intro w' hS'; have e0 := cell_kept hS' (Nat.le_refl _) c0; have e1 := cell_kept hS' (Nat.le_refl _) c1; have e2 := cell_kept hS' (Nat.le_refl _) c2; have e3 := cell_kept hS' (Nat.le_refl _) c3; have e4 := cell_kept hS' (Nat.le_refl _) s0; have e5 := cell_kept hS' (Nat.le_refl _) s1; have e6 := cell_kept hS' (Nat.le_refl _) t0; have e7 := cell_kept hS' (Nat.le_refl _) t1; go_simp; with_reducible rfl
                  clear hD; intro hD
                  simp only [Act.put, sqA, sqB, sqC]
                  refine wpAnyK_pureD (i := 4) (d := some 67) (v := ?v16_4b3) (fuel := 9) rfl (by kernel_rfl) (by kernel_rfl) (fun _ _ _ h => h) hD (Below.refl _ _) (.inl ⟨by kernel_rfl, ?y16_4b3⟩) ?n16_4b3
                  case y16_4b3 => intro w' _; go_simp; with_reducible rfl
                  clear hD; intro hD
                  simp only [Act.put, sqA, sqB, sqC]
                  refine wpAnyK_pureD (i := 5) (d := some 68) (v := ?v16_5b3) (fuel := 8) rfl (by kernel_rfl) (by kernel_rfl) (fun _ _ _ h => h) hD (Below.refl _ _) (.inl ⟨by kernel_rfl, ?y16_5b3⟩) ?n16_5b3
                  case y16_5b3 => intro w' _; go_simp; with_reducible rfl
                  clear hD; intro hD
                  simp only [Act.put, sqA, sqB, sqC]
                  refine wpAnyK_takeSD (i := 6) (d := some 69) (v := ?v16_6b3) (fuel := 7) rfl (by kernel_rfl) (by kernel_rfl) (by kernel_rfl) (fun _ _ _ h => h) hD (Below.refl _ _) (.inl ⟨by kernel_rfl, ?y16_6b3⟩) ?n16_6b3
                  case y16_6b3 => intro w' hS'; have e0 := cell_kept hS' (Nat.le_refl _) c0; have e1 := cell_kept hS' (Nat.le_refl _) c1; have e2 := cell_kept hS' (Nat.le_refl _) c2; have e3 := cell_kept hS' (Nat.le_refl _) c3; have e4 := cell_kept hS' (Nat.le_refl _) s0; have e5 := cell_kept hS' (Nat.le_refl _) s1; have e6 := cell_kept hS' (Nat.le_refl _) t0; have e7 := cell_kept hS' (Nat.le_refl _) t1; go_simp; with_reducible rfl
                  clear hD; intro hD
                  simp only [Act.put, sqA, sqB, sqC]
                  refine wpAnyK_takeSD (i := 7) (d := some 70) (v := ?v16_7b3) (fuel := 6) rfl (by kernel_rfl) (by kernel_rfl) (by kernel_rfl) (fun _ _ _ h => h) hD (Below.refl _ _) (.inl ⟨by kernel_rfl, ?y16_7b3⟩) ?n16_7b3
                  case y16_7b3 => intro w' hS'; have e0 := cell_kept hS' (Nat.le_refl _) c0; have e1 := cell_kept hS' (Nat.le_refl _) c1; have e2 := cell_kept hS' (Nat.le_refl _) c2; have e3 := cell_kept hS' (Nat.le_refl _) c3; have e4 := cell_kept hS' (Nat.le_refl _) s0; have e5 := cell_kept hS' (Nat.le_refl _) s1; have e6 := cell_kept hS' (Nat.le_refl _) t0; have e7 := cell_kept hS' (Nat.le_refl _) t1; go_simp; with_reducible rfl
                  clear hD; intro hD
                  simp only [Act.put, sqA, sqB, sqC]
                  refine wpAnyK_takeSD (i := 9) (d := some 72) (v := ?v16_9b3) (fuel := 5) rfl (by kernel_rfl) (by kernel_rfl) (by kernel_rfl) (fun _ _ _ h => h) hD (Below.refl _ _) (.inl ⟨by kernel_rfl, ?y16_9b3⟩) ?n16_9b3
                  case y16_9b3 => intro w' hS'; have e0 := cell_kept hS' (Nat.le_refl _) c0; have e1 := cell_kept hS' (Nat.le_refl _) c1; have e2 := cell_kept hS' (Nat.le_refl _) c2; have e3 := cell_kept hS' (Nat.le_refl _) c3; have e4 := cell_kept hS' (Nat.le_refl _) s0; have e5 := cell_kept hS' (Nat.le_refl _) s1; have e6 := cell_kept hS' (Nat.le_refl _) t0; have e7 := cell_kept hS' (Nat.le_refl _) t1; go_simp; with_reducible rfl
                  clear hD; intro hD
                  simp only [Act.put, sqA, sqB, sqC]
                  refine wpAnyK_takeSD (i := 10) (d := some 73) (v := ?v16_10b3) (fuel := 4) rfl (by kernel_rfl) (by kernel_rfl) (by kernel_rfl) (fun _ _ _ h => h) hD (Below.refl _ _) (.inl ⟨by kernel_rfl, ?y16_10b3⟩) ?n16_10b3
                  case y16_10b3 => intro w' hS'; have e0 := cell_kept hS' (Nat.le_refl _) c0; have e1 := cell_kept hS' (Nat.le_refl _) c1; have e2 := cell_kept hS' (Nat.le_refl _) c2; have e3 := cell_kept hS' (Nat.le_refl _) c3; have e4 := cell_kept hS' (Nat.le_refl _) s0; have e5 := cell_kept hS' (Nat.le_refl _) s1; have e6 := cell_kept hS' (Nat.le_refl _) t0; have e7 := cell_kept hS' (Nat.le_refl _) t1; go_simp; with_reducible rfl
                  clear hD; intro hD
                  simp only [Act.put, sqA, sqB, sqC]
                  refine wpAnyK_one (i := 8) (fuel := 3) (by kernel_rfl) rfl hD ?_
                  clear hD; intro K8 hK8
                  go_wp2_with fail
                  refine (HC1.out _).mono ?_
                  rintro ev w5 ⟨rfl, hb2⟩
                  have HB8 := Lib.hid hb2
                  clear hb2
                  go_wp2
                  refine hK8 _ _ (by exact HB8.out) ?_; clear hK8; intro hS_16_8 hD
                  refine wpAnyK_one (i := 11) (fuel := 2) (by kernel_rfl) rfl hD ?_
                  clear hD; intro K11 hK11
                  go_wp2_with fail
                  refine (HC2.out _).mono ?_
                  rintro ev w6 ⟨rfl, hb3⟩
                  have HB11 := Lib.hid hb3
                  clear hb3
                  go_wp2
                  refine hK11 _ _ (by exact Below.trans hS_16_8 (Below.mono HB11.out (Below.size hS_16_8))) ?_; clear hK11; intro hS_16_11 hD
                  have HL := Lib.hid hS_16_11
                  refine wpAnyK_pureD (i := 12) (d := some 75) (v := ?v16_12b3) (fuel := 1) rfl (by kernel_rfl) (by kernel_rfl) (fun _ _ _ h => h) hD hS_16_11 (.inl ⟨by kernel_rfl, ?y16_12b3⟩) ?n16_12b3
                  case y16_12b3 => intro w' _; go_simp; with_reducible rfl
                  clear hD; intro hD
                  simp only [Act.put, sqA, sqB, sqC]
                  refine wpAnyK_pureD (i := 13) (d := some 76) (v := ?v16_13b3) (fuel := 0) rfl (by kernel_rfl) (by kernel_rfl) (fun _ _ _ h => h) hD hS_16_11 (.inl ⟨by kernel_rfl, ?y16_13b3⟩) ?n16_13b3
                  case y16_13b3 => intro w' _; go_simp; with_reducible rfl
                  clear hD; intro hD
                  simp only [Act.put, sqA, sqB, sqC]
                  refine wpAnyK_done (by kernel_rfl) ?_ 0
                  clear hD
                  have HX5 := Lib.hid (HXd.out.next HL.out)
                  clear c0 c1 c2 c3 s0 s1 t0 t1
                  obtain ⟨c0, c1, c2, c3, s0, s1, t0, t1⟩ := HX5.out.cells
                  go_wp2_with fail
                  refine (HS1.out _).mono ?_
                  rintro ev w7 ⟨rfl, hb⟩
                  have hk := HX5.out.next hb
                  have HX7 := Lib.hid hk
                  clear hb c0 c1 c2 c3 s0 s1 t0 t1
                  obtain ⟨c0, c1, c2, c3, s0, s1, t0, t1⟩ := hk.cells
                  clear hk
                  go_wp2_with fail
                  refine (HS2.out _).mono ?_
                  rintro ev w8 ⟨rfl, hb⟩
                  have hk := HX7.out.next hb
                  have HX8 := Lib.hid hk
                  clear hb c0 c1 c2 c3 s0 s1 t0 t1
                  obtain ⟨c0, c1, c2, c3, s0, s1, t0, t1⟩ := hk.cells
                  clear hk
                  go_wp2_with fail
                  refine (HIN.out _).mono ?_
                  rintro ev w9 ⟨rfl, hb⟩
                  have hk := HX8.out.next hb
                  have HX9 := Lib.hid hk
                  clear hb c0 c1 c2 c3 s0 s1 t0 t1
                  obtain ⟨c0, c1, c2, c3, s0, s1, t0, t1⟩ := hk.cells
                  clear hk
                  go_wp2
                  go_ret2
                  exact ⟨by rw [HRR.out]; rfl, HX9.out.1.2⟩
              · have HRR := Lib.hid (show R = _ from HR.out.symm.trans (exK_arg hk hv ⟨hl1, hl2⟩ (.inr (by rw [hn1, hn2]; exact h12))))
                obtain ⟨y1, hy1⟩ : ∃ z, nS n1 = z := ⟨_, rfl⟩
                obtain ⟨y2, hy2⟩ : ∃ z, nS n2 = z := ⟨_, rfl⟩
                rw [decide_eq_false h12, hy1, hy2] at hbz
                rw [hy1] at HC1
                rw [hy2] at HC2
                clear hk hv hM hl1 hl2 hab va vr vb vs v2 h8  hz hn1 hn2 h12 hy1 hy2
                go_wp2
                obtain ⟨wd, hwd⟩ : ∃ wd, wr.drew = wd := ⟨_, rfl⟩
                have HXd := Lib.hid (show SX w wd M O G Y ac ar bc br from by rw [← hwd]; exact HX4.out.next (Below.refl _ _).drew)
                clear c0 c1 c2 c3 s0 s1 t0 t1
                obtain ⟨c0, c1, c2, c3, s0, s1, t0, t1⟩ := HXd.out.cells
                refine wp_region_K 14 (Below (wd).heap.size (wd)) (by kernel_rfl) ?_
                intro hD
                rw [hwd]
                refine wpAnyK_pureD (i := 0) (d := some 63) (v := ?v16_0b4) (fuel := 13) rfl (by kernel_rfl) (by kernel_rfl) (fun _ _ _ h => h) hD (Below.refl _ _) (.inl ⟨by kernel_rfl, ?y16_0b4⟩) ?n16_0b4
                case y16_0b4 => intro w' _; go_simp; with_reducible rfl
                clear hD; intro hD
                simp only [Act.put, sqA, sqB, sqC]
                refine wpAnyK_takeSD (i := 1) (d := some 64) (v := ?v16_1b4) (fuel := 12) rfl (by kernel_rfl) (by kernel_rfl) (by kernel_rfl) (fun _ _ _ h => h) hD (Below.refl _ _) (.inl ⟨by kernel_rfl, ?y16_1b4⟩) ?n16_1b4
                case y16_1b4 => intro w' hS'; have e0 := cell_kept hS' (Nat.le_refl _) c0; have e1 := cell_kept hS' (Nat.le_refl _) c1; have e2 := cell_kept hS' (Nat.le_refl _) c2; have e3 := cell_kept hS' (Nat.le_refl _) c3; have e4 := cell_kept hS' (Nat.le_refl _) s0; have e5 := cell_kept hS' (Nat.le_refl _) s1; have e6 := cell_kept hS' (Nat.le_refl _) t0; have e7 := cell_kept hS' (Nat.le_refl _) t1; go_simp; with_reducible rfl
                clear hD; intro hD
                simp only [Act.put, sqA, sqB, sqC]
                refine wpAnyK_pureD (i := 2) (d := some 65) (v := ?v16_2b4) (fuel := 11) rfl (by kernel_rfl) (by kernel_rfl) (fun _ _ _ h => h) hD (Below.refl _ _) (.inl ⟨by kernel_rfl, ?y16_2b4⟩) ?n16_2b4
                case y16_2b4 => intro w' _; go_simp; with_reducible rfl
                clear hD; intro hD
                simp only [Act.put, sqA, sqB, sqC]
                refine wpAnyK_takeSD (i := 3) (d := some 66) (v := ?v16_3b4) (fuel := 10) rfl (by kernel_rfl) (by kernel_rfl) (by kernel_rfl) (fun _ _ _ h => h) hD (Below.refl _ _) (.inl ⟨by kernel_rfl, ?y16_3b4⟩) ?n16_3b4
                case y16_3b4 => intro w' hS'; have e0 := cell_kept hS' (Nat.le_refl _) c0; have e1 := cell_kept hS' (Nat.le_refl _) c1; have e2 := cell_kept hS' (Nat.le_refl _) c2; have e3 := cell_kept hS' (Nat.le_refl _) c3; have e4 := cell_kept hS' (Nat.le_refl _) s0; have e5 := cell_kept hS' (Nat.le_refl _) s1; have e6 := cell_kept hS' (Nat.le_refl _) t0; have e7 := cell_kept hS' (Nat.le_refl _) t1; go_simp; with_reducible rfl
                clear hD; intro hD
                simp only [Act.put, sqA, sqB, sqC]
                refine wpAnyK_pureD (i := 4) (d := some 67) (v := ?v16_4b4) (fuel := 9) rfl (by kernel_rfl) (by kernel_rfl) (fun _ _ _ h => h) hD (Below.refl _ _) (.inl ⟨by kernel_rfl, ?y16_4b4⟩) ?n16_4b4
                case y16_4b4 => intro w' _; go_simp; with_reducible rfl
                clear hD; intro hD
                simp only [Act.put, sqA, sqB, sqC]
                refine wpAnyK_pureD (i := 5) (d := some 68) (v := ?v16_5b4) (fuel := 8) rfl (by kernel_rfl) (by kernel_rfl) (fun _ _ _ h => h) hD (Below.refl _ _) (.inl ⟨by kernel_rfl, ?y16_5b4⟩) ?n16_5b4
                case y16_5b4 => intro w' _; go_simp; with_reducible rfl
                clear hD; intro hD
                simp only [Act.put, sqA, sqB, sqC]
                refine wpAnyK_takeSD (i := 6) (d := some 69) (v := ?v16_6b4) (fuel := 7) rfl (by kernel_rfl) (by kernel_rfl) (by kernel_rfl) (fun _ _ _ h => h) hD (Below.refl _ _) (.inl ⟨by kernel_rfl, ?y16_6b4⟩) ?n16_6b4
                case y16_6b4 => intro w' hS'; have e0 := cell_kept hS' (Nat.le_refl _) c0; have e1 := cell_kept hS' (Nat.le_refl _) c1; have e2 := cell_kept hS' (Nat.le_refl _) c2; have e3 := cell_kept hS' (Nat.le_refl _) c3; have e4 := cell_kept hS' (Nat.le_refl _) s0; have e5 := cell_kept hS' (Nat.le_refl _) s1; have e6 := cell_kept hS' (Nat.le_refl _) t0; have e7 := cell_kept hS' (Nat.le_refl _) t1; go_simp; with_reducible rfl
                clear hD; intro hD
                simp only [Act.put, sqA, sqB, sqC]
                refine wpAnyK_takeSD (i := 7) (d := some 70) (v := ?v16_7b4) (fuel := 6) rfl (by kernel_rfl) (by kernel_rfl) (by kernel_rfl) (fun _ _ _ h => h) hD (Below.refl _ _) (.inl ⟨by kernel_rfl, ?y16_7b4⟩) ?n16_7b4
                case y16_7b4 => intro w' hS'; have e0 := cell_kept hS' (Nat.le_refl _) c0; have e1 := cell_kept hS' (Nat.le_refl _) c1; have e2 := cell_kept hS' (Nat.le_refl _) c2; have e3 := cell_kept hS' (Nat.le_refl _) c3; have e4 := cell_kept hS' (Nat.le_refl _) s0; have e5 := cell_kept hS' (Nat.le_refl _) s1; have e6 := cell_kept hS' (Nat.le_refl _) t0; have e7 := cell_kept hS' (Nat.le_refl _) t1; go_simp; with_reducible rfl
                clear hD; intro hD
                simp only [Act.put, sqA, sqB, sqC]
                refine wpAnyK_takeSD (i := 9) (d := some 72) (v := ?v16_9b4) (fuel := 5) rfl (by kernel_rfl) (by kernel_rfl) (by kernel_rfl) (fun _ _ _ h => h) hD (Below.refl _ _) (.inl ⟨by kernel_rfl, ?y16_9b4⟩) ?n16_9b4
                case y16_9b4 => intro w' hS'; have e0 := cell_kept hS' (Nat.le_refl _) c0; have e1 := cell_kept hS' (Nat.le_refl _) c1; have e2 := cell_kept hS' (Nat.le_refl _) c2; have e3 := cell_kept hS' (Nat.le_refl _) c3; have e4 := cell_kept hS' (Nat.le_refl _) s0; have e5 := cell_kept hS' (Nat.le_refl _) s1; have e6 := cell_kept hS' (Nat.le_refl _) t0; have e7 := cell_kept hS' (Nat.le_refl _) t1; go_simp; with_reducible rfl
                clear hD; intro hD
                simp only [Act.put, sqA, sqB, sqC]
                refine wpAnyK_takeSD (i := 10) (d := some 73) (v := ?v16_10b4) (fuel := 4) rfl (by kernel_rfl) (by kernel_rfl) (by kernel_rfl) (fun _ _ _ h => h) hD (Below.refl _ _) (.inl ⟨by kernel_rfl, ?y16_10b4⟩) ?n16_10b4
                case y16_10b4 => intro w' hS'; have e0 := cell_kept hS' (Nat.le_refl _) c0; have e1 := cell_kept hS' (Nat.le_refl _) c1; have e2 := cell_kept hS' (Nat.le_refl _) c2; have e3 := cell_kept hS' (Nat.le_refl _) c3; have e4 := cell_kept hS' (Nat.le_refl _) s0; have e5 := cell_kept hS' (Nat.le_refl _) s1; have e6 := cell_kept hS' (Nat.le_refl _) t0; have e7 := cell_kept hS' (Nat.le_refl _) t1; go_simp; with_reducible rfl
                clear hD; intro hD
                simp only [Act.put, sqA, sqB, sqC]
                refine wpAnyK_one (i := 8) (fuel := 3) (by kernel_rfl) rfl hD ?_
                clear hD; intro K8 hK8
                go_wp2_with fail
                refine (HC1.out _).mono ?_
                rintro ev w5 ⟨rfl, hb2⟩
                have HB8 := Lib.hid hb2
                clear hb2
                go_wp2
                refine hK8 _ _ (by exact HB8.out) ?_; clear hK8; intro hS_16_8 hD
                refine wpAnyK_one (i := 11) (fuel := 2) (by kernel_rfl) rfl hD ?_
                clear hD; intro K11 hK11
                go_wp2_with fail
                refine (HC2.out _).mono ?_
                rintro ev w6 ⟨rfl, hb3⟩
                have HB11 := Lib.hid hb3
                clear hb3
                go_wp2
                refine hK11 _ _ (by exact Below.trans hS_16_8 (Below.mono HB11.out (Below.size hS_16_8))) ?_; clear hK11; intro hS_16_11 hD
                have HL := Lib.hid hS_16_11
                refine wpAnyK_pureD (i := 12) (d := some 75) (v := ?v16_12b4) (fuel := 1) rfl (by kernel_rfl) (by kernel_rfl) (fun _ _ _ h => h) hD hS_16_11 (.inl ⟨by kernel_rfl, ?y16_12b4⟩) ?n16_12b4
                case y16_12b4 => intro w' _; go_simp; with_reducible rfl
                clear hD; intro hD
                simp only [Act.put, sqA, sqB, sqC]
                refine wpAnyK_pureD (i := 13) (d := some 76) (v := ?v16_13b4) (fuel := 0) rfl (by kernel_rfl) (by kernel_rfl) (fun _ _ _ h => h) hD hS_16_11 (.inl ⟨by kernel_rfl, ?y16_13b4⟩) ?n16_13b4
                case y16_13b4 => intro w' _; go_simp; with_reducible rfl
                clear hD; intro hD
                simp only [Act.put, sqA, sqB, sqC]
                refine wpAnyK_done (by kernel_rfl) ?_ 0
                clear hD
                have HX5 := Lib.hid (HXd.out.next HL.out)
                clear c0 c1 c2 c3 s0 s1 t0 t1
                obtain ⟨c0, c1, c2, c3, s0, s1, t0, t1⟩ := HX5.out.cells
                go_wp2
                go_ret2
                exact ⟨by rw [HRR.out]; rfl, HX5.out.1.2⟩
  · have HRR := Lib.hid (show R = _ from HR.out.symm.trans (exK_no hk))
    obtain ⟨k, hkk⟩ : ∃ k, scK M O G Y = k := ⟨_, rfl⟩
    rw [hkk] at hk HCK HRR
    have hk2 : (k == 0) = false := by simpa using hk
    clear hkk
    unfold kV at *
    go_enter Tryz.func23, Tryz.ntmps23
    go_wp2_with fail
    try rw [hW0]
    clear hW0
    refine (HCK.out _).mono ?_
    rintro ev w1 ⟨rfl, hb⟩
    have hk := HX0.out.next hb
    have HX1 := Lib.hid hk
    clear hb c0 c1 c2 c3 s0 s1 t0 t1
    obtain ⟨c0, c1, c2, c3, s0, s1, t0, t1⟩ := hk.cells
    clear hk
    go_wp2
    go_ret2
    exact ⟨by rw [HRR.out]; rfl, HX1.out.1.2⟩
end Go.Proofs.YtndmjfkmnjejkaaGreatDoor
/- Walks: the laws SchnorrChecks and SchnorrExtracts. -/
set_option linter.unusedVariables false
set_option linter.unusedSimpArgs false
namespace Go.Proofs.YtndmjfkmnjejkaaGreatDoor
open Go.RowKit Go.Lib
set_option maxRecDepth 100000 in
set_option maxHeartbeats 4000000 in
theorem walk_checks (M O G Y : ByteArray) (w : World) : Calls Tryz.prog 4 #[kV M O G Y] w (Ret (.bool true) w) := by
  have HK0 := Lib.hid (SB.new w M O G Y)
  obtain ⟨W0, hW0⟩ : ∃ W, w.alloc (.cells #[.string M, .string O, .string G, .string Y] 46) = W := ⟨_, rfl⟩
  rw [hW0] at HK0
  have HFW := Lib.hid (law33_Few M O G Y [] none 0 0 (by omega) W0 (SlN.nil W0 0 (by omega) none))
  have HAW := Lib.hid law33_awake
  obtain ⟨c0, c1, c2, c3⟩ := HK0.out.1.cells
  cases hf : few33 M O G Y [] with
  | false =>
    rw [hf] at HFW
    unfold kV at *
    clear hf
    go_enter Tryz.func4, Tryz.ntmps4
    go_wp2_with fail
    try rw [hW0]
    clear hW0
    refine HFW.out.mono ?_
    rintro ev w1 ⟨rfl, hb⟩
    have HK1 := Lib.hid (HK0.out.next hb)
    clear hb c0 c1 c2 c3
    go_wp2_with fail
    refine (HAW.out _).mono ?_
    rintro ev w2 ⟨rfl, hb⟩
    have HK2 := Lib.hid (HK1.out.next hb)
    clear hb
    go_wp2
    go_ret
    exact ⟨rfl, HK2.out.2⟩
  | true =>
    obtain ⟨hM, hO, hG, hY, _⟩ := few33_of hf
    have HC := Lib.hid (sc_Check M O G Y hM (by omega) (by omega) (by omega))
    have HR := Lib.hid (r33_Check M O G Y hM (by omega) (by omega) (by omega))
    obtain ⟨e, he⟩ : ∃ e, scK M O G Y = e := ⟨_, rfl⟩
    rw [he] at HC HR
    rw [hf] at HFW
    unfold kV at *
    clear hf he hM hO hG hY
    go_enter Tryz.func4, Tryz.ntmps4
    go_wp2_with fail
    try rw [hW0]
    clear hW0
    refine HFW.out.mono ?_
    rintro ev w1 ⟨rfl, hb⟩
    have HK1 := Lib.hid (HK0.out.next hb)
    clear hb c0 c1 c2 c3
    obtain ⟨c0, c1, c2, c3⟩ := HK1.out.1.cells
    go_wp2
    obtain ⟨wd, hwd⟩ : ∃ wd, w1.drew = wd := ⟨_, rfl⟩
    have HKd := Lib.hid (show SB w wd M O G Y from by rw [← hwd]; exact HK1.out.next (Below.refl _ _).drew)
    clear c0 c1 c2 c3
    obtain ⟨c0, c1, c2, c3⟩ := HKd.out.1.cells
    refine wp_region_K 9 (Below (wd).heap.size (wd)) (by kernel_rfl) ?_
    intro hD
    rw [hwd]
    refine wpAnyK_takeSD (i := 0) (d := some 7) (v := ?v3_0b1) (fuel := 8) rfl (by kernel_rfl) (by kernel_rfl) (by kernel_rfl) (fun _ _ _ h => h) hD (Below.refl _ _) (.inl ⟨by kernel_rfl, ?y3_0b1⟩) ?n3_0b1
    case y3_0b1 => intro w' hS'; have e0 := cell_kept hS' (Nat.le_refl _) c0; have e1 := cell_kept hS' (Nat.le_refl _) c1; have e2 := cell_kept hS' (Nat.le_refl _) c2; have e3 := cell_kept hS' (Nat.le_refl _) c3; go_simp; with_reducible rfl
    clear hD; intro hD
    simp only [Act.put, sqA, sqB, sqC]
    refine wpAnyK_takeSD (i := 2) (d := some 9) (v := ?v3_2b1) (fuel := 7) rfl (by kernel_rfl) (by kernel_rfl) (by kernel_rfl) (fun _ _ _ h => h) hD (Below.refl _ _) (.inl ⟨by kernel_rfl, ?y3_2b1⟩) ?n3_2b1
    case y3_2b1 => intro w' hS'; have e0 := cell_kept hS' (Nat.le_refl _) c0; have e1 := cell_kept hS' (Nat.le_refl _) c1; have e2 := cell_kept hS' (Nat.le_refl _) c2; have e3 := cell_kept hS' (Nat.le_refl _) c3; go_simp; with_reducible rfl
    clear hD; intro hD
    simp only [Act.put, sqA, sqB, sqC]
    refine wpAnyK_one (i := 1) (fuel := 6) (by kernel_rfl) rfl hD ?_
    clear hD; intro K1 hK1
    go_wp2_with fail
    refine (HC.out _).mono ?_
    rintro ev w2 ⟨rfl, hb⟩
    have HB1 := Lib.hid hb
    clear hb
    go_wp2
    refine hK1 _ _ (by exact HB1.out) ?_; clear hK1; intro hS_3_1 hD
    refine wpAnyK_one (i := 3) (fuel := 5) (by kernel_rfl) rfl hD ?_
    clear hD; intro K3 hK3
    go_wp2_with fail
    refine (HR.out _).mono ?_
    rintro ev w3 ⟨rfl, hb⟩
    have HB3 := Lib.hid hb
    clear hb
    go_wp2
    refine hK3 _ _ (by exact Below.trans hS_3_1 (Below.mono HB3.out (Below.size hS_3_1))) ?_; clear hK3; intro hS_3_3 hD
    refine wpAnyK_pureD (i := 4) (d := some 11) (v := ?v3_4b1) (fuel := 4) rfl (by kernel_rfl) (by kernel_rfl) (fun _ _ _ h => h) hD hS_3_3 (.inl ⟨by kernel_rfl, ?y3_4b1⟩) ?n3_4b1
    case y3_4b1 => intro w' _; go_simp; with_reducible rfl
    clear hD; intro hD
    simp only [Act.put, sqA, sqB, sqC]
    refine wpAnyK_pureD (i := 5) (d := some 12) (v := ?v3_5b1) (fuel := 3) rfl (by kernel_rfl) (by kernel_rfl) (fun _ _ _ h => h) hD hS_3_3 (.inl ⟨by kernel_rfl, ?y3_5b1⟩) ?n3_5b1
    case y3_5b1 => intro w' _; go_simp; with_reducible rfl
    clear hD; intro hD
    simp only [Act.put, sqA, sqB, sqC]
    refine wpAnyK_one (i := 6) (fuel := 2) (by kernel_rfl) rfl hD ?_
    clear hD; intro K6 hK6
    go_wp2_with fail
    refine (HAW.out _).mono ?_
    rintro ev w4 ⟨rfl, hb⟩
    have HB6 := Lib.hid hb
    clear hb
    go_wp2
    refine hK6 _ _ (by exact Below.trans hS_3_3 (Below.mono HB6.out (Below.size hS_3_3))) ?_; clear hK6; intro hS_3_6 hD
    refine wpAnyK_pureD (i := 7) (d := some 14) (v := ?v3_7b1) (fuel := 1) rfl (by kernel_rfl) (by kernel_rfl) (fun _ _ _ h => h) hD hS_3_6 (.inl ⟨by kernel_rfl, ?y3_7b1⟩) ?n3_7b1
    case y3_7b1 => intro w' _; go_simp; with_reducible rfl
    clear hD; intro hD
    simp only [Act.put, sqA, sqB, sqC]
    refine wpAnyK_one (i := 8) (fuel := 0) (by kernel_rfl) rfl hD ?_
    clear hD; intro K8 hK8
    go_wp2
    refine hK8 _ _ (by exact hS_3_6) ?_; clear hK8; intro hS_3_8 hD
    have HL := Lib.hid hS_3_8
    refine wpAnyK_done (by kernel_rfl) ?_ 0
    clear hD
    go_wp2
    go_ret
    exact ⟨rfl, HKd.out.2.trans (HL.out.mono HKd.out.2.size)⟩
theorem exK_form2 (M O G Y ac ar bc br : ByteArray) : ∃ s e, exK M O G Y ac ar bc br = (s, e) := ⟨_, _, rfl⟩
set_option maxRecDepth 100000 in
set_option maxHeartbeats 4000000 in
theorem walk_extracts (M O G Y ac ar bc br : ByteArray) (w : World) : Calls Tryz.prog 5 #[kV M O G Y, .agg #[.string ac, .string ar], .agg #[.string bc, .string br]] w (Ret (.bool true) w) := by
  have hx0 := SX.new w M O G Y ac ar bc br
  obtain ⟨W0, hW0⟩ : ∃ W, (((w.alloc (.cells #[.string M, .string O, .string G, .string Y] 46)).alloc (.cells #[.string ac, .string ar] 52)).alloc (.cells #[.string bc, .string br] 52)) = W := ⟨_, rfl⟩
  rw [hW0] at hx0
  have HX0 := Lib.hid hx0
  obtain ⟨c0, c1, c2, c3, s0, s1, t0, t1⟩ := hx0.cells
  have hb1 := (Below.refl W0.heap.size W0).alloc (Nat.le_refl _) (.cells #[.string ac, .string ar, .string bc, .string br] 22)
  have HX1 := Lib.hid (hx0.next hb1)
  have HFW := Lib.hid (law33_Few M O G Y [ac, ar, bc, br] _ 4 4 (by omega) _ (sln_alloc W0 [ac, ar, bc, br] 22 (by simp)))
  have HAW := Lib.hid law33_awake
  clear hx0 hb1
  cases hf : few33 M O G Y [ac, ar, bc, br] with
  | false =>
    rw [hf] at HFW
    unfold kV at *
    clear hf
    go_enter Tryz.func5, Tryz.ntmps5
    go_wp2_with fail
    try rw [hW0]
    clear hW0
    refine HFW.out.mono ?_
    rintro ev w1 ⟨rfl, hb⟩
    have HX2 := Lib.hid (HX1.out.next hb)
    clear hb c0 c1 c2 c3 s0 s1 t0 t1
    go_wp2_with fail
    refine (HAW.out _).mono ?_
    rintro ev w2 ⟨rfl, hb⟩
    have HX3 := Lib.hid (HX2.out.next hb)
    clear hb
    go_wp2
    go_ret
    exact ⟨rfl, HX3.out.1.2⟩
  | true =>
    obtain ⟨hM, hO, hG, hY, hl⟩ := few33_of hf
    have z1 := hl ac (by simp)
    have z2 := hl ar (by simp)
    have z3 := hl bc (by simp)
    have z4 := hl br (by simp)
    have HE1 := Lib.hid (sc_Extract M O G Y ac ar bc br hM (by omega) (by omega) (by omega) (by omega) (by omega) (by omega) (by omega))
    have HE2 := Lib.hid (r33_Extract M O G Y ac ar bc br hM (by omega) (by omega) (by omega) (by omega) (by omega) (by omega) (by omega))
    obtain ⟨x, e, he⟩ := exK_form2 M O G Y ac ar bc br
    rw [he] at HE1 HE2
    rw [hf] at HFW
    simp only [] at HE1 HE2
    unfold kV at *
    clear hf he hM hO hG hY hl z1 z2 z3 z4
    go_enter Tryz.func5, Tryz.ntmps5
    go_wp2_with fail
    try rw [hW0]
    clear hW0
    refine HFW.out.mono ?_
    rintro ev w1 ⟨rfl, hb⟩
    have HX2 := Lib.hid (HX1.out.next hb)
    clear hb c0 c1 c2 c3 s0 s1 t0 t1
    obtain ⟨c0, c1, c2, c3, s0, s1, t0, t1⟩ := HX2.out.cells
    go_wp2_with fail
    refine (HE1.out _).mono ?_
    rintro ev w2 ⟨rfl, hb⟩
    have HX3 := Lib.hid (HX2.out.next hb)
    clear hb c0 c1 c2 c3 s0 s1 t0 t1
    obtain ⟨c0, c1, c2, c3, s0, s1, t0, t1⟩ := HX3.out.cells
    go_wp2_with fail
    refine (HE2.out _).mono ?_
    rintro ev w3 ⟨rfl, hb⟩
    have HX4 := Lib.hid (HX3.out.next hb)
    clear hb c0 c1 c2 c3 s0 s1 t0 t1
    go_wp2_with fail
    refine (HAW.out _).mono ?_
    rintro ev w4 ⟨rfl, hb⟩
    have HX5 := Lib.hid (HX4.out.next hb)
    clear hb
    go_wp2
    go_ret
    exact ⟨rfl, HX5.out.1.2⟩
end Go.Proofs.YtndmjfkmnjejkaaGreatDoor

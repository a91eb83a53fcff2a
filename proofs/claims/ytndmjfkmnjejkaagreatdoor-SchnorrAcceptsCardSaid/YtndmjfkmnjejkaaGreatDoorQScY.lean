/- Walk: the law SchnorrAccepts. -/
import Derived.Test.YtndmjfkmnjejkaaGreatDoorQScS
set_option linter.unusedVariables false
set_option linter.unusedSimpArgs false
namespace Go.Proofs.YtndmjfkmnjejkaaGreatDoor
open Go.RowKit Go.Lib
theorem cm_sign {m q g y x n c i : Nat} (hu : Un m g i) (hp : g ^ q % m = 1) (hyx : g ^ x % m = y) (hc : c < q) : cmS m q g y c ((c * x % q + n) % q) = g ^ n % m := by
  have hy : y = pz m g (x : Int) := by rw [pz_nat, hyx]
  obtain ⟨j, hj⟩ := pz_un hu (x : Int)
  have hpy : y ^ q % m = 1 := by
    rw [hy, ← pz_nat, pz_pow hu, Int.mul_comm, ← pz_pow hu, show pz m g (q : Int) = 1 from by rw [pz_nat, hp], pz_base1 hu.hm]
  rw [← cmS_pz (hy ▸ hj) hpy hc, hy, pz_pow hu, ← pz_add hu, ← pz_red hu hp]
  have e : ((((c * x % q + n) % q : Nat) : Int) + (x : Int) * -(c : Int)) % (q : Int) = (n : Int) % (q : Int) := by
    rw [Int.natCast_emod, Int.emod_add_emod, Int.natCast_add, Int.natCast_emod, Int.add_assoc, Int.emod_add_emod, Int.natCast_mul]
    congr 1
    rw [Int.mul_neg, Int.mul_comm]
    omega
  rw [e, pz_red hu hp, pz_nat]
theorem sg_ok {M O G Y X msg : ByteArray} {l : List ByteArray} {s : ByteArray} {k : Int} (h : (sgN M O G Y X msg l s k).2.2 = 0) :
    ∃ nn, scK M O G Y = 0 ∧ (0 < num X ∧ num X < num O ∧ num G ^ num X % num M = num Y) ∧ nn < num O ∧ ∀ msg', sgN M O G Y X msg' l s k = (chS M O G Y (num G ^ nn % num M) msg', (chS M O G Y (num G ^ nn % num M) msg' * num X % num O + nn) % num O, 0) := by
  unfold sgN at *
  split at h
  · rename_i h1
    split at h
    · rename_i h2
      split at h
      · rename_i h3
        split at h
        · rename_i h4
          exact ⟨(coN l s k O).1, h1, of_decide_eq_true h3, coN_lt h4, fun msg' => by rw [if_pos h1, if_pos h2, if_pos h3, if_pos h4]⟩
        · rename_i h4; exact absurd h h4
      · cases h
    · cases h
  · rename_i h1; exact absurd h h1
theorem sg_err {M O G Y X msg : ByteArray} {l : List ByteArray} {s : ByteArray} {k : Int} (h : (sgN M O G Y X msg l s k).2.2 ≠ 0) (msg' : ByteArray) : sgN M O G Y X msg' l s k = (0, 0, (sgN M O G Y X msg l s k).2.2) := by
  unfold sgN at *
  split
  · rename_i h1
    rw [if_pos h1] at h
    split
    · rename_i h2
      rw [if_pos h2] at h
      split
      · rename_i h3
        rw [if_pos h3] at h
        split
        · rename_i h4; rw [if_pos h4] at h; exact absurd rfl h
        · rfl
      · rfl
    · rfl
  · rfl
theorem ve_sign {M O G Y X : ByteArray} {nn c : Nat} (hM : M.size ≤ 8) (hk : scK M O G Y = 0) (hs : num G ^ num X % num M = num Y) (hc : c < num O) (other : ByteArray) :
    veK M O G Y (nS c) (nS ((c * num X % num O + nn) % num O)) other = if chS M O G Y (num G ^ nn % num M) other = c then 0 else 19 := by
  obtain ⟨hv4, hck, hz, hgg, hy⟩ := scK_ok hk
  have h8 := chk_small hv4 hM hck
  have lO := num_small h8
  have hgp := genK_parts hgg
  obtain ⟨i, hu⟩ := has_un (chkK_parts hck).2.2 hgp.1
  have hr : (c * num X % num O + nn) % num O < num O := Nat.mod_lt _ (by omega)
  have v1 : nvalid (nS c) = true := nvalid_nS.2 (lt128_of_lt8 (by omega))
  have v2 : nvalid (nS ((c * num X % num O + nn) % num O)) = true := nvalid_nS.2 (lt128_of_lt8 (by omega))
  unfold veK veB
  rw [if_pos hk, v1, v2, if_pos (by rfl), num_nS, num_nS, decide_eq_true hc, decide_eq_true hr, cm_sign hu (has_ord (by omega) hgp.1) hs hc, Bool.true_and, Bool.true_and]
  simp only [decide_eq_true_eq]
set_option maxRecDepth 100000 in
set_option maxHeartbeats 8000000 in
theorem walk_accepts (M O G Y X msg : ByteArray) (A : Option Addr) (n cap : Nat) (l : List ByteArray) (s : ByteArray) (k : Int) (other : ByteArray) (w : World) (hs : SlN w A n cap l) (ht : T10 w) : Calls Tryz.prog 10 #[snV M O G Y X msg A n cap s k, .string other] w (Ret (.bool true) w) := by
  have HLN := Lib.hid hs.1
  have hx0 := SX9.new w M O G Y X msg A n cap s k l hs
  obtain ⟨W0, hW0⟩ : ∃ W, w.alloc (.cells #[.string M, .string O, .string G, .string Y, .string X, .string msg, .slice A n cap, .string s, .int .i64 k] 71) = W := ⟨_, rfl⟩
  rw [hW0] at hx0
  have HX0 := Lib.hid hx0
  have HFW := Lib.hid (law33_fewS M O G Y X msg l s k A n cap W0 hx0.2.1)
  have HAW := Lib.hid law33_awake
  obtain ⟨c0, c1, c2, c3, c4, c5, c6, c7, c8⟩ := HX0.out.cells
  clear hx0 hs
  cases hf : fewS M O G Y X msg l s k with
  | false =>
    rw [hf] at HFW
    unfold snV at *
    clear hf
    go_enter Tryz.func10, Tryz.ntmps10
    go_wp2_with fail
    try rw [hW0]
    clear hW0
    refine HFW.out.mono ?_
    rintro ev w1 ⟨rfl, hb⟩
    have HX1 := Lib.hid (HX0.out.next hb)
    clear hb c0 c1 c2 c3 c4 c5 c6 c7 c8
    obtain ⟨c0, c1, c2, c3, c4, c5, c6, c7, c8⟩ := HX1.out.cells
    go_wp2_with fail
    refine (HAW.out _).mono ?_
    rintro ev w9 ⟨rfl, hb⟩
    have HB9 := Lib.hid (HX1.out.2.2.trans (hb.mono HX1.out.2.2.size))
    clear hb
    go_wp2
    go_ret
    exact ⟨rfl, HB9.out⟩
  | true =>
    rw [hf] at HFW
    by_cases hot : other.size ≤ 300
    · unfold fewS at hf
      rw [Bool.and_eq_true, Bool.and_eq_true] at hf
      obtain ⟨hf1, hf2, hf3⟩ := hf
      have hm := of_decide_eq_true hf2
      obtain ⟨hM, hO, hG, hY, hlx⟩ := few33_of hf1
      have hX := hlx X (by simp)
      unfold few11 at hf3
      rw [Bool.and_eq_true] at hf3
      obtain ⟨hl80, hs40, hz16⟩ := fewT_of hf3.1
      have hn : n ≤ 1000 := by have := HLN.out; omega
      have hp : ∀ x ∈ l, x.size ≤ 9223372036854775807 := fun x hx => by have := hz16 x hx; omega
      have HM1 := Lib.hid (fun W (hb : Below w.heap.size w W) hs => sc_Sign M O G Y X msg l s k A n cap hM (by omega) (by omega) (by omega) (by omega) (by omega) hn hp (by omega) W hs (ht.kept hb (Nat.le_refl _)))
      have HM2 := Lib.hid (fun W (hb : Below w.heap.size w W) hs => sc_Sign M O G Y X other l s k A n cap hM (by omega) (by omega) (by omega) (by omega) (by omega) hn hp (by omega) W hs (ht.kept hb (Nat.le_refl _)))
      have hoi : ¬ (300 : Int) < (other.size : Int) := by omega
      by_cases he : (sgN M O G Y X msg l s k).2.2 = 0
      · obtain ⟨nn, hk, hsec, hnn, hall⟩ := sg_ok he
        rw [hall msg] at HM1
        rw [hall other] at HM2
        obtain ⟨hv4, hck, hz, hgg, hy⟩ := scK_ok hk
        have h8 := chk_small hv4 hM hck
        have lO := num_small h8
        obtain ⟨c, hc⟩ : ∃ c, chS M O G Y (num G ^ nn % num M) msg = c := ⟨_, rfl⟩
        obtain ⟨cq, hcq⟩ : ∃ c, chS M O G Y (num G ^ nn % num M) other = c := ⟨_, rfl⟩
        have lc : c < num O := by rw [← hc]; exact Nat.mod_lt _ (by omega)
        have lr : (c * num X % num O + nn) % num O < num O := Nat.mod_lt _ (by omega)
        have zc : (nS c).size ≤ 128 := nS_size_le.2 (lt128_of_lt8 (by omega))
        have zr : (nS ((c * num X % num O + nn) % num O)).size ≤ 128 := nS_size_le.2 (lt128_of_lt8 (by omega))
        have HV1 := Lib.hid (sc_Verify M O G Y (nS c) (nS ((c * num X % num O + nn) % num O)) other hM (by omega) (by omega) (by omega) (by omega) (by omega) (by omega))
        rw [ve_sign hM hk hsec.2.2 lc other, hcq] at HV1
        have HV2 := Lib.hid (sc_Verify M O G Y (nS c) (nS ((c * num X % num O + nn) % num O)) msg hM (by omega) (by omega) (by omega) (by omega) (by omega) (by omega))
        rw [ve_sign hM hk hsec.2.2 lc msg, hc, if_pos rfl] at HV2
        rw [hc] at HM1
        rw [hcq] at HM2
        have hbe := nS_beq cq c
        obtain ⟨t, htp⟩ : ∃ t, tpN 0 l s k = t := ⟨_, rfl⟩
        obtain ⟨tl, ts, tk⟩ := t
        unfold RetS at HM1 HM2
        simp only [] at HM1 HM2
        rw [htp] at HM1 HM2
        obtain ⟨m, hmm⟩ : ∃ m, tl.length = m := ⟨_, rfl⟩
        simp only [] at HM1 HM2
        rw [hmm] at HM1 HM2
        obtain ⟨a, ha⟩ : ∃ z, nS c = z := ⟨_, rfl⟩
        obtain ⟨b, hb⟩ : ∃ z, nS ((c * num X % num O + nn) % num O) = z := ⟨_, rfl⟩
        obtain ⟨a2, ha2⟩ : ∃ z, nS cq = z := ⟨_, rfl⟩
        obtain ⟨b2, hb2⟩ : ∃ z, nS ((cq * num X % num O + nn) % num O) = z := ⟨_, rfl⟩
        rw [ha, hb] at HM1 HV1 HV2
        rw [ha2, hb2] at HM2
        rw [ha, ha2] at hbe
        have HBE := Lib.hid hbe
        have HV0 := Lib.hid HV1.out
        unfold snV tpV kV at *
        clear hf1 hf2 hf3 hm hM hO hG hY hlx hX hl80 hs40 hz16 hn hp htp hmm ha hb ht he hk hsec hnn hall hv4 hck hz hgg hy h8 lO hc hcq lc lr zc zr ha2 hb2 hot hbe HV1
        by_cases hcc : cq = c
        · have HV1 := Lib.hid HV0.out
          rw [if_pos hcc] at HV1
          have hbe : (a2.toList == a.toList) = true := by rw [HBE.out]; exact decide_eq_true hcc
          clear hcc HV0
          go_enter Tryz.func10, Tryz.ntmps10
          go_wp2_with fail
          try rw [hW0]
          clear hW0
          refine HFW.out.mono ?_
          rintro ev w1 ⟨rfl, hb⟩
          have HX1 := Lib.hid (HX0.out.next hb)
          clear hb c0 c1 c2 c3 c4 c5 c6 c7 c8
          obtain ⟨c0, c1, c2, c3, c4, c5, c6, c7, c8⟩ := HX1.out.cells
          have HMA := Lib.hid (HM1.out _ HX1.out.2.2 HX1.out.2.1)
          go_wp2_with fail
          refine HMA.out.mono ?_
          rintro ev w4 ⟨A1, c1', rfl, hsl1, _, hb⟩
          have HSL1 := Lib.hid hsl1
          have HX4 := Lib.hid (HX1.out.next hb)
          clear hb c0 c1 c2 c3 c4 c5 c6 c7 c8
          clear hsl1
          go_upto_region 4 with (fail)
          obtain ⟨hkt, hb⟩ := GTb.new w4 a b A1 m c1' ts tk tl HSL1.out
          obtain ⟨W5, hW5⟩ : ∃ W, (w4.alloc (.cells #[.string a, .string b] 52)).alloc (.cells #[.slice A1 m c1', .string ts, .int .i64 tk] 31) = W := ⟨_, rfl⟩
          obtain ⟨P5, hP5⟩ : ∃ P, w4.heap.size = P := ⟨_, rfl⟩
          rw [hW5] at hkt hb ⊢
          rw [hP5] at hkt ⊢
          have HK5 := Lib.hid hkt
          have HX5 := Lib.hid (HX4.out.next hb)
          clear hkt hb hW5 hP5
          obtain ⟨c0, c1, c2, c3, c4, c5, c6, c7, c8⟩ := HX5.out.cells
          have HMB := Lib.hid (HM2.out _ HX5.out.2.2 HX5.out.2.1)
          go_wp2_with fail
          refine HMB.out.mono ?_
          rintro ev w6 ⟨A2, c2', rfl, hsl2, _, hb⟩
          have HSL2 := Lib.hid hsl2
          have HK6 := Lib.hid (HK5.out.next hb)
          have HX6 := Lib.hid (HX5.out.next hb)
          clear hb c0 c1 c2 c3 c4 c5 c6 c7 c8
          clear hsl2
          go_upto_region 5 with (fail)
          obtain ⟨hkt, hb⟩ := GTb.new w6 a2 b2 A2 m c2' ts tk tl HSL2.out
          obtain ⟨W7, hW7⟩ : ∃ W, (w6.alloc (.cells #[.string a2, .string b2] 52)).alloc (.cells #[.slice A2 m c2', .string ts, .int .i64 tk] 31) = W := ⟨_, rfl⟩
          obtain ⟨P7, hP7⟩ : ∃ P, w6.heap.size = P := ⟨_, rfl⟩
          rw [hW7] at hkt hb ⊢
          rw [hP7] at hkt ⊢
          have HK7 := Lib.hid hkt
          have HX7 := Lib.hid (HX6.out.next hb)
          have HK67 := Lib.hid (HK6.out.next hb)
          clear hkt hb hW7 hP7
          have k0 := HK67.out.1.c0
          have k1 := HK67.out.1.c1
          obtain ⟨c0, c1, c2, c3, c4, c5, c6, c7, c8⟩ := HX7.out.cells
          go_wp2_with fail
          refine (HV1.out _).mono ?_
          rintro ev w8 ⟨rfl, hb⟩
          have HK8 := Lib.hid (HK67.out.next hb)
          have HL8 := Lib.hid (HK7.out.next hb)
          have HX8 := Lib.hid (HX7.out.next hb)
          clear hb c0 c1 c2 c3 c4 c5 c6 c7 c8
          clear k0 k1
          have k0 := HK8.out.1.c0
          have k1 := HK8.out.1.c1
          obtain ⟨c0, c1, c2, c3, c4, c5, c6, c7, c8⟩ := HX8.out.cells
          go_wp2_with fail
          refine (HV2.out _).mono ?_
          rintro ev w10 ⟨rfl, hb⟩
          have HK9 := Lib.hid (HK8.out.next hb)
          have HL9 := Lib.hid (HL8.out.next hb)
          have HX9 := Lib.hid (HX8.out.next hb)
          clear hb c0 c1 c2 c3 c4 c5 c6 c7 c8
          clear k0 k1
          have k0 := HK9.out.1.c0
          have k1 := HK9.out.1.c1
          have l0 := HL9.out.1.c0
          go_wp2_with fail
          refine (HAW.out _).mono ?_
          rintro ev w9 ⟨rfl, hb⟩
          have HB9 := Lib.hid (HX9.out.2.2.trans (hb.mono HX9.out.2.2.size))
          clear hb
          go_wp2
          go_ret
          exact ⟨rfl, HB9.out⟩
        · have HV1 := Lib.hid HV0.out
          rw [if_neg hcc] at HV1
          have hbe : (a2.toList == a.toList) = false := by rw [HBE.out]; exact decide_eq_false hcc
          clear hcc HV0
          go_enter Tryz.func10, Tryz.ntmps10
          go_wp2_with fail
          try rw [hW0]
          clear hW0
          refine HFW.out.mono ?_
          rintro ev w1 ⟨rfl, hb⟩
          have HX1 := Lib.hid (HX0.out.next hb)
          clear hb c0 c1 c2 c3 c4 c5 c6 c7 c8
          obtain ⟨c0, c1, c2, c3, c4, c5, c6, c7, c8⟩ := HX1.out.cells
          have HMA := Lib.hid (HM1.out _ HX1.out.2.2 HX1.out.2.1)
          go_wp2_with fail
          refine HMA.out.mono ?_
          rintro ev w4 ⟨A1, c1', rfl, hsl1, _, hb⟩
          have HSL1 := Lib.hid hsl1
          have HX4 := Lib.hid (HX1.out.next hb)
          clear hb c0 c1 c2 c3 c4 c5 c6 c7 c8
          clear hsl1
          go_upto_region 4 with (fail)
          obtain ⟨hkt, hb⟩ := GTb.new w4 a b A1 m c1' ts tk tl HSL1.out
          obtain ⟨W5, hW5⟩ : ∃ W, (w4.alloc (.cells #[.string a, .string b] 52)).alloc (.cells #[.slice A1 m c1', .string ts, .int .i64 tk] 31) = W := ⟨_, rfl⟩
          obtain ⟨P5, hP5⟩ : ∃ P, w4.heap.size = P := ⟨_, rfl⟩
          rw [hW5] at hkt hb ⊢
          rw [hP5] at hkt ⊢
          have HK5 := Lib.hid hkt
          have HX5 := Lib.hid (HX4.out.next hb)
          clear hkt hb hW5 hP5
          obtain ⟨c0, c1, c2, c3, c4, c5, c6, c7, c8⟩ := HX5.out.cells
          have HMB := Lib.hid (HM2.out _ HX5.out.2.2 HX5.out.2.1)
          go_wp2_with fail
          refine HMB.out.mono ?_
          rintro ev w6 ⟨A2, c2', rfl, hsl2, _, hb⟩
          have HSL2 := Lib.hid hsl2
          have HK6 := Lib.hid (HK5.out.next hb)
          have HX6 := Lib.hid (HX5.out.next hb)
          clear hb c0 c1 c2 c3 c4 c5 c6 c7 c8
          clear hsl2
          go_upto_region 5 with (fail)
          obtain ⟨hkt, hb⟩ := GTb.new w6 a2 b2 A2 m c2' ts tk tl HSL2.out
          obtain ⟨W7, hW7⟩ : ∃ W, (w6.alloc (.cells #[.string a2, .string b2] 52)).alloc (.cells #[.slice A2 m c2', .string ts, .int .i64 tk] 31) = W := ⟨_, rfl⟩
          obtain ⟨P7, hP7⟩ : ∃ P, w6.heap.size = P := ⟨_, rfl⟩
          rw [hW7] at hkt hb ⊢
          rw [hP7] at hkt ⊢
          have HK7 := Lib.hid hkt
          have HX7 := Lib.hid (HX6.out.next hb)
          have HK67 := Lib.hid (HK6.out.next hb)
          clear hkt hb hW7 hP7
          have k0 := HK67.out.1.c0
          have k1 := HK67.out.1.c1
          obtain ⟨c0, c1, c2, c3, c4, c5, c6, c7, c8⟩ := HX7.out.cells
          go_wp2_with fail
          refine (HV1.out _).mono ?_
          rintro ev w8 ⟨rfl, hb⟩
          have HK8 := Lib.hid (HK67.out.next hb)
          have HL8 := Lib.hid (HK7.out.next hb)
          have HX8 := Lib.hid (HX7.out.next hb)
          clear hb c0 c1 c2 c3 c4 c5 c6 c7 c8
          clear k0 k1
          have k0 := HK8.out.1.c0
          have k1 := HK8.out.1.c1
          obtain ⟨c0, c1, c2, c3, c4, c5, c6, c7, c8⟩ := HX8.out.cells
          go_wp2_with fail
          refine (HV2.out _).mono ?_
          rintro ev w10 ⟨rfl, hb⟩
          have HK9 := Lib.hid (HK8.out.next hb)
          have HL9 := Lib.hid (HL8.out.next hb)
          have HX9 := Lib.hid (HX8.out.next hb)
          clear hb c0 c1 c2 c3 c4 c5 c6 c7 c8
          clear k0 k1
          have k0 := HK9.out.1.c0
          have k1 := HK9.out.1.c1
          have l0 := HL9.out.1.c0
          go_wp2_with fail
          refine (HAW.out _).mono ?_
          rintro ev w9 ⟨rfl, hb⟩
          have HB9 := Lib.hid (HX9.out.2.2.trans (hb.mono HX9.out.2.2.size))
          clear hb
          go_wp2
          go_ret
          exact ⟨rfl, HB9.out⟩
      · obtain ⟨e, hee⟩ : ∃ e, (sgN M O G Y X msg l s k).2.2 = e := ⟨_, rfl⟩
        rw [sg_err he msg, hee] at HM1
        rw [sg_err he other, hee] at HM2
        obtain ⟨t, htp⟩ : ∃ t, tpN e l s k = t := ⟨_, rfl⟩
        obtain ⟨tl, ts, tk⟩ := t
        unfold RetS at HM1 HM2
        simp only [] at HM1 HM2
        rw [htp] at HM1 HM2
        obtain ⟨m, hmm⟩ : ∃ m, tl.length = m := ⟨_, rfl⟩
        simp only [] at HM1 HM2
        rw [hmm, show nS 0 = ⟨#[]⟩ from rfl] at HM1 HM2
        have HE0 := Lib.hid (show ¬ e = 0 from by rw [← hee]; exact he)
        unfold snV tpV kV at *
        clear hf1 hf2 hf3 hm hM hO hG hY hlx hX hl80 hs40 hz16 hn hp htp hmm ht he hee hot
        go_enter Tryz.func10, Tryz.ntmps10
        go_wp2_with fail
        try rw [hW0]
        clear hW0
        refine HFW.out.mono ?_
        rintro ev w1 ⟨rfl, hb⟩
        have HX1 := Lib.hid (HX0.out.next hb)
        clear hb c0 c1 c2 c3 c4 c5 c6 c7 c8
        obtain ⟨c0, c1, c2, c3, c4, c5, c6, c7, c8⟩ := HX1.out.cells
        have HMA := Lib.hid (HM1.out _ HX1.out.2.2 HX1.out.2.1)
        go_wp2_with fail
        refine HMA.out.mono ?_
        rintro ev w4 ⟨A1, c1', rfl, hsl1, _, hb⟩
        have HSL1 := Lib.hid hsl1
        have HX4 := Lib.hid (HX1.out.next hb)
        clear hb c0 c1 c2 c3 c4 c5 c6 c7 c8
        clear hsl1
        go_upto_region 4 with (fail)
        obtain ⟨hkt, hb⟩ := GTb.new w4 ⟨#[]⟩ ⟨#[]⟩ A1 m c1' ts tk tl HSL1.out
        obtain ⟨W5, hW5⟩ : ∃ W, (w4.alloc (.cells #[.string ⟨#[]⟩, .string ⟨#[]⟩] 52)).alloc (.cells #[.slice A1 m c1', .string ts, .int .i64 tk] 31) = W := ⟨_, rfl⟩
        obtain ⟨P5, hP5⟩ : ∃ P, w4.heap.size = P := ⟨_, rfl⟩
        rw [hW5] at hkt hb ⊢
        rw [hP5] at hkt ⊢
        have HK5 := Lib.hid hkt
        have HX5 := Lib.hid (HX4.out.next hb)
        clear hkt hb hW5 hP5
        obtain ⟨c0, c1, c2, c3, c4, c5, c6, c7, c8⟩ := HX5.out.cells
        have HMB := Lib.hid (HM2.out _ HX5.out.2.2 HX5.out.2.1)
        go_wp2_with fail
        refine HMB.out.mono ?_
        rintro ev w6 ⟨A2, c2', rfl, hsl2, _, hb⟩
        have HSL2 := Lib.hid hsl2
        have HK6 := Lib.hid (HK5.out.next hb)
        have HX6 := Lib.hid (HX5.out.next hb)
        clear hb c0 c1 c2 c3 c4 c5 c6 c7 c8
        clear hsl2
        go_upto_region 5 with (fail)
        obtain ⟨hkt, hb⟩ := GTb.new w6 ⟨#[]⟩ ⟨#[]⟩ A2 m c2' ts tk tl HSL2.out
        obtain ⟨W7, hW7⟩ : ∃ W, (w6.alloc (.cells #[.string ⟨#[]⟩, .string ⟨#[]⟩] 52)).alloc (.cells #[.slice A2 m c2', .string ts, .int .i64 tk] 31) = W := ⟨_, rfl⟩
        obtain ⟨P7, hP7⟩ : ∃ P, w6.heap.size = P := ⟨_, rfl⟩
        rw [hW7] at hkt hb ⊢
        rw [hP7] at hkt ⊢
        have HK7 := Lib.hid hkt
        have HX7 := Lib.hid (HX6.out.next hb)
        have HK67 := Lib.hid (HK6.out.next hb)
        clear hkt hb hW7 hP7
        have he0 := HE0.out
        go_upto_region 6 with (fail)
        clear he0
        have k0 := HK67.out.1.c0
        have k1 := HK67.out.1.c1
        go_wp2_with fail
        refine (HAW.out _).mono ?_
        rintro ev w9 ⟨rfl, hb⟩
        have HB9 := Lib.hid (HX7.out.2.2.trans (hb.mono HX7.out.2.2.size))
        clear hb
        go_wp2
        go_ret
        exact ⟨rfl, HB9.out⟩
    · have hoi : (300 : Int) < (other.size : Int) := by omega
      unfold snV at *
      clear hf hot
      go_enter Tryz.func10, Tryz.ntmps10
      go_wp2_with fail
      try rw [hW0]
      clear hW0
      refine HFW.out.mono ?_
      rintro ev w1 ⟨rfl, hb⟩
      have HX1 := Lib.hid (HX0.out.next hb)
      clear hb c0 c1 c2 c3 c4 c5 c6 c7 c8
      obtain ⟨c0, c1, c2, c3, c4, c5, c6, c7, c8⟩ := HX1.out.cells
      go_wp2_with fail
      refine (HAW.out _).mono ?_
      rintro ev w9 ⟨rfl, hb⟩
      have HB9 := Lib.hid (HX1.out.2.2.trans (hb.mono HX1.out.2.2.size))
      clear hb
      go_wp2
      go_ret
      exact ⟨rfl, HB9.out⟩
end Go.Proofs.YtndmjfkmnjejkaaGreatDoor

/- Walk: dominoref33.Make. -/
import Derived.Test.YtndmjfkmnjejkaaGreatDoorQCoK
import Derived.Test.YtndmjfkmnjejkaaGreatDoorQGse
import Derived.Deep.Cut
import Derived.Test.YtndmjfkmnjejkaaGreatDoorQPeU
set_option linter.unusedVariables false
set_option linter.unusedSimpArgs false
namespace Go.Proofs.YtndmjfkmnjejkaaGreatDoor
open Go.RowKit Go.Lib
theorem bx4_off4 {W : World} {B C : Nat} {x y z u a b c d : Value} {T : TypeId} (h : Bx4 W B x y z u T) (hne : B ≠ C) : Bx4 ((((W.setCell ⟨C, 0, none⟩ a).setCell ⟨C, 1, none⟩ b).setCell ⟨C, 2, none⟩ c).setCell ⟨C, 3, none⟩ d) B x y z u T := (h.off3 hne).other hne _
set_option maxRecDepth 100000 in
set_option maxHeartbeats 8000000 in
theorem r33_Make (M O G : ByteArray) (l : List ByteArray) (s : ByteArray) (k : Int) (A : Option Addr) (n cap : Nat) (hM : M.size ≤ 8) (hO : O.size ≤ 100) (hG : G.size ≤ 1000) (hn : n ≤ 1000) (hp : ∀ x ∈ l, x.size ≤ 9223372036854775807) (hs64 : s.size ≤ 64) (w : World) (hs : SlN w A n cap l) :
    Calls Tryz.prog 27 #[gV M O, .string G, tpV A n cap s k] w (RetM (mkK M O G (mkN M O G l s k)) (mkN M O G l s k).2.1 (tpN (mkN M O G l s k).2.2 l s k) (mkN M O G l s k).2.2 w) := by
  have hx0 := MB.newM w M O A n cap s k l hs
  obtain ⟨W0, hW0⟩ : ∃ W, (((w.alloc (.cells #[.string M, .string O] 24)).alloc (.cells #[.slice A n cap, .string s, .int .i64 k] 31)).alloc (.cells #[.string ⟨#[]⟩, .string ⟨#[]⟩, .string ⟨#[]⟩, .string ⟨#[]⟩] 46)).alloc (.cells #[.slice none 0 0, .string ⟨#[]⟩, .int .i64 0] 31) = W := ⟨_, rfl⟩
  rw [hW0] at hx0
  have HX0 := Lib.hid hx0
  have HVM := Lib.hid (r01_Valid M (by omega))
  have HVO := Lib.hid (r01_Valid O (by omega))
  have HVG := Lib.hid (r01_Valid G (by omega))
  have HGT := Lib.hid (r06_Good l s k A n cap W0 hx0.2.2.2.2.1 hn hp)
  have HCK := Lib.hid (r13_CheckW M O hM hO)
  obtain ⟨g0, g1⟩ := (show _ ∧ _ from ⟨HX0.out.1.c0, HX0.out.1.c1⟩)
  obtain ⟨c0, c1, c2⟩ := HX0.out.2.1.c
  unfold tpV gV at *
  clear hx0 hs
  cases hv1 : nvalid M with
  | false =>
    rw [hv1] at HVM
    rw [show mkN M O G l s k = (0, 0, 3) from by unfold mkN; rw [show [M, O, G].all nvalid = false from by simp [hv1]]; rfl]
    clear hv1 hp
    go_enter Tryz.func27, Tryz.ntmps27
    go_wp2_with fail
    try rw [hW0]
    clear hW0
    refine (HVM.out _).mono ?_
    rintro ev w1 ⟨rfl, rfl⟩
    obtain ⟨k0, k1, k2, k3⟩ := HX0.out.2.2.1.cells
    have kf := HX0.out.2.2.1.free
    obtain ⟨r0, r1, r2⟩ := HX0.out.2.2.2.1.c
    have rf := HX0.out.2.2.2.1.f
    have kf0 := kf 0
    have kf1 := kf 1
    have kf2 := kf 2
    have kf3 := kf 3
    have rf0 := rf 0
    have rf1 := rf 1
    have rf2 := rf 2
    obtain ⟨hq4, hq3, hqb⟩ := HX0.out.stored (.string ⟨#[]⟩) (.string ⟨#[]⟩) (.string ⟨#[]⟩) (.string ⟨#[]⟩) none 0 0 ⟨#[]⟩ 0
    obtain ⟨q0, q1, q2, q3⟩ := hq4.cells
    obtain ⟨p0, p1, p2⟩ := hq3.c
    have HQB := Lib.hid hqb
    clear kf rf hq4 hq3 hqb
    go_wp2
    refine bodyPost_ret (v := .tuple #[.agg #[.string ⟨#[]⟩, .string ⟨#[]⟩, .string ⟨#[]⟩, .string ⟨#[]⟩], .string ⟨#[]⟩, .agg #[.slice none 0 0, .string ⟨#[]⟩, .int .i64 0], .int .i64 3]) (by simp [results, Tryz.results27, go_sem, q0, q1, q2, q3, p0, p1, p2]) rfl ?_
    exact ⟨none, 0, rfl, SlN.nil _ 0 (by omega) none, (fun b o h => by cases h), HQB.out⟩
  | true =>
    rw [hv1] at HVM
    cases hv2 : nvalid O with
    | false =>
      rw [hv2] at HVO
      rw [show mkN M O G l s k = (0, 0, 3) from by unfold mkN; rw [show [M, O, G].all nvalid = false from by simp [hv2]]; rfl]
      clear hv1 hp hv2
      go_enter Tryz.func27, Tryz.ntmps27
      go_wp2_with fail
      try rw [hW0]
      clear hW0
      refine (HVM.out _).mono ?_
      rintro ev w1 ⟨rfl, rfl⟩
      go_wp2_with fail
      refine (HVO.out _).mono ?_
      rintro ev w1 ⟨rfl, rfl⟩
      obtain ⟨k0, k1, k2, k3⟩ := HX0.out.2.2.1.cells
      have kf := HX0.out.2.2.1.free
      obtain ⟨r0, r1, r2⟩ := HX0.out.2.2.2.1.c
      have rf := HX0.out.2.2.2.1.f
      have kf0 := kf 0
      have kf1 := kf 1
      have kf2 := kf 2
      have kf3 := kf 3
      have rf0 := rf 0
      have rf1 := rf 1
      have rf2 := rf 2
      obtain ⟨hq4, hq3, hqb⟩ := HX0.out.stored (.string ⟨#[]⟩) (.string ⟨#[]⟩) (.string ⟨#[]⟩) (.string ⟨#[]⟩) none 0 0 ⟨#[]⟩ 0
      obtain ⟨q0, q1, q2, q3⟩ := hq4.cells
      obtain ⟨p0, p1, p2⟩ := hq3.c
      have HQB := Lib.hid hqb
      clear kf rf hq4 hq3 hqb
      go_wp2
      refine bodyPost_ret (v := .tuple #[.agg #[.string ⟨#[]⟩, .string ⟨#[]⟩, .string ⟨#[]⟩, .string ⟨#[]⟩], .string ⟨#[]⟩, .agg #[.slice none 0 0, .string ⟨#[]⟩, .int .i64 0], .int .i64 3]) (by simp [results, Tryz.results27, go_sem, q0, q1, q2, q3, p0, p1, p2]) rfl ?_
      exact ⟨none, 0, rfl, SlN.nil _ 0 (by omega) none, (fun b o h => by cases h), HQB.out⟩
    | true =>
      rw [hv2] at HVO
      cases hv3 : nvalid G with
      | false =>
        rw [hv3] at HVG
        rw [show mkN M O G l s k = (0, 0, 3) from by unfold mkN; rw [show [M, O, G].all nvalid = false from by simp [hv3]]; rfl]
        clear hv1 hp hv2 hv3
        go_enter Tryz.func27, Tryz.ntmps27
        go_wp2_with fail
        try rw [hW0]
        clear hW0
        refine (HVM.out _).mono ?_
        rintro ev w1 ⟨rfl, rfl⟩
        go_wp2_with fail
        refine (HVO.out _).mono ?_
        rintro ev w1 ⟨rfl, rfl⟩
        go_wp2_with fail
        refine (HVG.out _).mono ?_
        rintro ev w1 ⟨rfl, rfl⟩
        obtain ⟨k0, k1, k2, k3⟩ := HX0.out.2.2.1.cells
        have kf := HX0.out.2.2.1.free
        obtain ⟨r0, r1, r2⟩ := HX0.out.2.2.2.1.c
        have rf := HX0.out.2.2.2.1.f
        have kf0 := kf 0
        have kf1 := kf 1
        have kf2 := kf 2
        have kf3 := kf 3
        have rf0 := rf 0
        have rf1 := rf 1
        have rf2 := rf 2
        obtain ⟨hq4, hq3, hqb⟩ := HX0.out.stored (.string ⟨#[]⟩) (.string ⟨#[]⟩) (.string ⟨#[]⟩) (.string ⟨#[]⟩) none 0 0 ⟨#[]⟩ 0
        obtain ⟨q0, q1, q2, q3⟩ := hq4.cells
        obtain ⟨p0, p1, p2⟩ := hq3.c
        have HQB := Lib.hid hqb
        clear kf rf hq4 hq3 hqb
        go_wp2
        refine bodyPost_ret (v := .tuple #[.agg #[.string ⟨#[]⟩, .string ⟨#[]⟩, .string ⟨#[]⟩, .string ⟨#[]⟩], .string ⟨#[]⟩, .agg #[.slice none 0 0, .string ⟨#[]⟩, .int .i64 0], .int .i64 3]) (by simp [results, Tryz.results27, go_sem, q0, q1, q2, q3, p0, p1, p2]) rfl ?_
        exact ⟨none, 0, rfl, SlN.nil _ 0 (by omega) none, (fun b o h => by cases h), HQB.out⟩
      | true =>
        rw [hv3] at HVG
        have hv : [M, O, G].all nvalid = true := by simp [hv1, hv2, hv3]
        cases hg : tpG l k with
        | false =>
          rw [hg] at HGT
          rw [show mkN M O G l s k = (0, 0, 3) from by unfold mkN; rw [hv, hg]; rfl]
          clear hv1 hp hv2 hv3 hv hg
          go_enter Tryz.func27, Tryz.ntmps27
          go_wp2_with fail
          try rw [hW0]
          clear hW0
          refine (HVM.out _).mono ?_
          rintro ev w1 ⟨rfl, rfl⟩
          go_wp2_with fail
          refine (HVO.out _).mono ?_
          rintro ev w1 ⟨rfl, rfl⟩
          go_wp2_with fail
          refine (HVG.out _).mono ?_
          rintro ev w1 ⟨rfl, rfl⟩
          go_wp2_with fail
          refine HGT.out.mono ?_
          rintro ev w2 ⟨rfl, hb⟩
          have HX2 := Lib.hid (HX0.out.nextM hb)
          clear hb g0 g1 c0 c1 c2
          obtain ⟨g0, g1⟩ := (show _ ∧ _ from ⟨HX2.out.1.c0, HX2.out.1.c1⟩)
          obtain ⟨c0, c1, c2⟩ := HX2.out.2.1.c
          obtain ⟨k0, k1, k2, k3⟩ := HX2.out.2.2.1.cells
          have kf := HX2.out.2.2.1.free
          obtain ⟨r0, r1, r2⟩ := HX2.out.2.2.2.1.c
          have rf := HX2.out.2.2.2.1.f
          have kf0 := kf 0
          have kf1 := kf 1
          have kf2 := kf 2
          have kf3 := kf 3
          have rf0 := rf 0
          have rf1 := rf 1
          have rf2 := rf 2
          obtain ⟨hq4, hq3, hqb⟩ := HX2.out.stored (.string ⟨#[]⟩) (.string ⟨#[]⟩) (.string ⟨#[]⟩) (.string ⟨#[]⟩) none 0 0 ⟨#[]⟩ 0
          obtain ⟨q0, q1, q2, q3⟩ := hq4.cells
          obtain ⟨p0, p1, p2⟩ := hq3.c
          have HQB := Lib.hid hqb
          clear kf rf hq4 hq3 hqb
          go_wp2
          refine bodyPost_ret (v := .tuple #[.agg #[.string ⟨#[]⟩, .string ⟨#[]⟩, .string ⟨#[]⟩, .string ⟨#[]⟩], .string ⟨#[]⟩, .agg #[.slice none 0 0, .string ⟨#[]⟩, .int .i64 0], .int .i64 3]) (by simp [results, Tryz.results27, go_sem, q0, q1, q2, q3, p0, p1, p2]) rfl ?_
          exact ⟨none, 0, rfl, SlN.nil _ 0 (by omega) none, (fun b o h => by cases h), HQB.out⟩
        | true =>
          rw [hg] at HGT
          by_cases hc : chkK M O = 0
          · rw [hc] at HCK
            have h8 := mkN_size hv2 hM hc hv1
            have HGN := Lib.hid (r33_generator M O G hM h8 hv3)
            obtain ⟨gb, hgb⟩ : ∃ b, (!(O.toList.isEmpty) && genK M O G) = b := ⟨_, rfl⟩
            rw [hgb] at HGN
            cases gb with
            | false =>
              rw [show mkN M O G l s k = (0, 0, 13) from by
                unfold mkN
                rw [hv, hg, hc, show (O.toList.isEmpty || !genK M O G) = true from by cases h1 : O.toList.isEmpty <;> cases h2 : genK M O G <;> simp [h1, h2] at hgb ⊢]
                rfl]
              clear hv1 hp hv2 hv3 hv hg hgb
              try unfold gV at *
              go_enter Tryz.func27, Tryz.ntmps27
              go_wp2_with fail
              try rw [hW0]
              clear hW0
              refine (HVM.out _).mono ?_
              rintro ev w1 ⟨rfl, rfl⟩
              go_wp2_with fail
              refine (HVO.out _).mono ?_
              rintro ev w1 ⟨rfl, rfl⟩
              go_wp2_with fail
              refine (HVG.out _).mono ?_
              rintro ev w1 ⟨rfl, rfl⟩
              go_wp2_with fail
              refine HGT.out.mono ?_
              rintro ev w2 ⟨rfl, hb⟩
              have HX2 := Lib.hid (HX0.out.nextM hb)
              clear hb g0 g1 c0 c1 c2
              obtain ⟨g0, g1⟩ := (show _ ∧ _ from ⟨HX2.out.1.c0, HX2.out.1.c1⟩)
              obtain ⟨c0, c1, c2⟩ := HX2.out.2.1.c
              go_wp2_with fail
              refine (HCK.out _).mono ?_
              rintro ev w3 ⟨rfl, hb⟩
              have HX3 := Lib.hid (HX2.out.nextM hb)
              clear hb g0 g1 c0 c1 c2
              obtain ⟨g0, g1⟩ := (show _ ∧ _ from ⟨HX3.out.1.c0, HX3.out.1.c1⟩)
              obtain ⟨c0, c1, c2⟩ := HX3.out.2.1.c
              go_wp2_with fail
              refine (HGN.out _).mono ?_
              rintro ev w4 ⟨rfl, hb⟩
              have HX4 := Lib.hid (HX3.out.nextM hb)
              clear hb g0 g1 c0 c1 c2
              obtain ⟨g0, g1⟩ := (show _ ∧ _ from ⟨HX4.out.1.c0, HX4.out.1.c1⟩)
              obtain ⟨c0, c1, c2⟩ := HX4.out.2.1.c
              obtain ⟨k0, k1, k2, k3⟩ := HX4.out.2.2.1.cells
              have kf := HX4.out.2.2.1.free
              obtain ⟨r0, r1, r2⟩ := HX4.out.2.2.2.1.c
              have rf := HX4.out.2.2.2.1.f
              have kf0 := kf 0
              have kf1 := kf 1
              have kf2 := kf 2
              have kf3 := kf 3
              have rf0 := rf 0
              have rf1 := rf 1
              have rf2 := rf 2
              obtain ⟨hq4, hq3, hqb⟩ := HX4.out.stored (.string ⟨#[]⟩) (.string ⟨#[]⟩) (.string ⟨#[]⟩) (.string ⟨#[]⟩) none 0 0 ⟨#[]⟩ 0
              obtain ⟨q0, q1, q2, q3⟩ := hq4.cells
              obtain ⟨p0, p1, p2⟩ := hq3.c
              have HQB := Lib.hid hqb
              clear kf rf hq4 hq3 hqb
              go_wp2
              refine bodyPost_ret (v := .tuple #[.agg #[.string ⟨#[]⟩, .string ⟨#[]⟩, .string ⟨#[]⟩, .string ⟨#[]⟩], .string ⟨#[]⟩, .agg #[.slice none 0 0, .string ⟨#[]⟩, .int .i64 0], .int .i64 13]) (by simp [results, Tryz.results27, go_sem, q0, q1, q2, q3, p0, p1, p2]) rfl ?_
              exact ⟨none, 0, rfl, SlN.nil _ 0 (by omega) none, (fun b o h => by cases h), HQB.out⟩
            | true =>
              rw [Bool.and_eq_true] at hgb
              obtain ⟨ho', hgg⟩ := hgb
              have ho : O.toList.isEmpty = false := by simpa using ho'
              have lO := num_small h8
              have lO1 : 1 ≤ num O := by
                rcases Nat.eq_zero_or_pos (num O) with h | h
                · rw [nS_num hv2, h] at ho
                  rw [show (nS 0).toList.isEmpty = true from sempty_true rfl] at ho
                  cases ho
                · exact h
              have hm0 : 0 < num M := by
                obtain ⟨i, hu⟩ := has_un (chkK_parts hc).2.2 (genK_parts hgg).1
                have := hu.1
                omega
              have HMN := Lib.hid (r01_Minus (num O) 1 (by rw [← nS_num hv2]; omega) lO1)
              rw [← nS_num hv2, nS_one] at HMN
              have hqs : (nS (num O - 1)).size ≤ 32 := nS_size_le.2 (Nat.lt_of_lt_of_le (show num O - 1 < 18446744073709551616 from by omega) (by decide))
              have HDD := Lib.hid (fun W hs => r06_Below l s k (nS (num O - 1)) A n cap hn hp hs64 hqs W hs)
              obtain ⟨r, hr⟩ : ∃ r, coN l s k (nS (num O - 1)) = r := ⟨_, rfl⟩
              have hlt : r.2 = 0 → r.1 < num O := fun h => by
                rw [← hr] at h ⊢
                have := coN_lt (l := l) (s := s) (k := k) (B := nS (num O - 1)) h
                rw [num_nS] at this
                omega
              have HRV := Lib.hid (show mkN M O G l s k = (if r.2 = 0 then (if num G ^ (r.1 + 1) % num M = 1 then (0, 0, 13) else (num G ^ (r.1 + 1) % num M, r.1 + 1, 0)) else (0, 0, r.2)) from by
                unfold mkN; rw [hv, hg, hc, ho, hgg, hr]; rfl)
              rw [hr] at HDD
              obtain ⟨c, e⟩ := r
              simp only [] at HRV hlt HDD
              obtain ⟨q, hq⟩ : ∃ q, nS (num O - 1) = q := ⟨_, rfl⟩
              rw [hq] at HDD HMN
              obtain ⟨t, ht⟩ : ∃ t, tpN e l s k = t := ⟨_, rfl⟩
              obtain ⟨tl, ts, tk⟩ := t
              rw [ht] at HDD
              obtain ⟨m, hm⟩ : ∃ m, tl.length = m := ⟨_, rfl⟩
              have HMM := Lib.hid hm
              obtain ⟨cz, hcz⟩ : ∃ z, nS c = z := ⟨_, rfl⟩
              have HCZ := Lib.hid hcz
              have HTP := Lib.hid ht
              have HRM := Lib.hid hm0
              have HH := Lib.hid (⟨hv1, hv3, hM, hlt, lO⟩ : nvalid M = true ∧ nvalid G = true ∧ M.size ≤ 8 ∧ (e = 0 → c < num O) ∧ num O < 18446744073709551616)
              clear hv1 hp hv2 hv3 hv hg hc ho' hgg ho lO1 hm0 hqs hr hq ht hm hcz h8 hlt lO hM hO hG hn hs64
              try unfold gV tpV at *
              go_enter Tryz.func27, Tryz.ntmps27
              go_wp2_with fail
              try rw [hW0]
              clear hW0
              refine (HVM.out _).mono ?_
              rintro ev w1 ⟨rfl, rfl⟩
              go_wp2_with fail
              refine (HVO.out _).mono ?_
              rintro ev w1 ⟨rfl, rfl⟩
              go_wp2_with fail
              refine (HVG.out _).mono ?_
              rintro ev w1 ⟨rfl, rfl⟩
              go_wp2_with fail
              refine HGT.out.mono ?_
              rintro ev w2 ⟨rfl, hb⟩
              have HX2 := Lib.hid (HX0.out.nextM hb)
              clear hb g0 g1 c0 c1 c2
              obtain ⟨g0, g1⟩ := (show _ ∧ _ from ⟨HX2.out.1.c0, HX2.out.1.c1⟩)
              obtain ⟨c0, c1, c2⟩ := HX2.out.2.1.c
              go_wp2_with fail
              refine (HCK.out _).mono ?_
              rintro ev w3 ⟨rfl, hb⟩
              have HX3 := Lib.hid (HX2.out.nextM hb)
              clear hb g0 g1 c0 c1 c2
              obtain ⟨g0, g1⟩ := (show _ ∧ _ from ⟨HX3.out.1.c0, HX3.out.1.c1⟩)
              obtain ⟨c0, c1, c2⟩ := HX3.out.2.1.c
              go_wp2_with fail
              refine (HGN.out _).mono ?_
              rintro ev w4 ⟨rfl, hb⟩
              have HX4 := Lib.hid (HX3.out.nextM hb)
              clear hb g0 g1 c0 c1 c2
              obtain ⟨g0, g1⟩ := (show _ ∧ _ from ⟨HX4.out.1.c0, HX4.out.1.c1⟩)
              obtain ⟨c0, c1, c2⟩ := HX4.out.2.1.c
              go_wp2
              obtain ⟨wd, hwd⟩ : ∃ wd, w4.drew = wd := ⟨_, rfl⟩
              have HXD := Lib.hid (show MB w wd M O A n cap s k l from by rw [← hwd]; exact HX4.out.nextM (Below.refl _ _).drew)
              have HLD := Lib.hid (show w.heap.size + 1 + 1 + 1 < wd.heap.size from HXD.out.2.2.2.1.lt)
              clear g0 g1 c0 c1 c2
              obtain ⟨c0, c1, c2⟩ := HXD.out.2.1.c
              have g1 := HXD.out.1.c1
              refine wp_region_K 13 (Below (wd).heap.size (wd)) (by kernel_rfl) ?_
              intro hD
              rw [hwd]
              refine wpAnyK_takeSD (i := 0) (d := some 51) (v := ?v8_0b1) (fuel := 12) rfl (by kernel_rfl) (by kernel_rfl) (by kernel_rfl) (fun _ _ _ h => h) hD (Below.refl _ _) (.inl ⟨by kernel_rfl, ?y8_0b1⟩) ?n8_0b1
              case y8_0b1 => intro w' hS'; have e0 := cell_kept hS' (Nat.le_refl _) c0; have e1 := cell_kept hS' (Nat.le_refl _) c1; have e2 := cell_kept hS' (Nat.le_refl _) c2; have e3 := cell_kept hS' (Nat.le_refl _) g1; go_simp; with_reducible rfl
              clear hD; intro hD
              simp only [Act.put, sqA, sqB, sqC]
              refine wpAnyK_pureD (i := 1) (d := some 52) (v := ?v8_1b1) (fuel := 11) rfl (by kernel_rfl) (by kernel_rfl) (fun _ _ _ h => h) hD (Below.refl _ _) (.inl ⟨by kernel_rfl, ?y8_1b1⟩) ?n8_1b1
              case y8_1b1 => intro w' _; go_simp; with_reducible rfl
              clear hD; intro hD
              simp only [Act.put, sqA, sqB, sqC]
              refine wpAnyK_takeSD (i := 2) (d := some 53) (v := ?v8_2b1) (fuel := 10) rfl (by kernel_rfl) (by kernel_rfl) (by kernel_rfl) (fun _ _ _ h => h) hD (Below.refl _ _) (.inl ⟨by kernel_rfl, ?y8_2b1⟩) ?n8_2b1
              case y8_2b1 => intro w' hS'; have e0 := cell_kept hS' (Nat.le_refl _) c0; have e1 := cell_kept hS' (Nat.le_refl _) c1; have e2 := cell_kept hS' (Nat.le_refl _) c2; have e3 := cell_kept hS' (Nat.le_refl _) g1; go_simp; with_reducible rfl
              clear hD; intro hD
              simp only [Act.put, sqA, sqB, sqC]
              refine (show GhostK _ _ _ _ _ _ 9 12 9 _ _ (GIz (wd) (#[.slice none 0 0, .string ⟨#[]⟩, .int .i64 0]) (31)) from ?_).2 _ (GIz.start (Below.refl _ _))
              refine ghost_step (i := 9) (j := 3) (d := 12) (dj := 54) (fuel := 8) (fun (y : Unit) => .string q) (fun y => GIz (wd) (#[.slice none 0 0, .string ⟨#[]⟩, .int .i64 0]) (31)) (by kernel_rfl) (by kernel_rfl) rfl rfl hD (by kernel_rfl) (by decide) (fun _ _ _ _ h => h.1) (fun _ _ _ h => h.1) (alloc_zK rfl rfl (fun _ _ => by kernel_rfl)) ?hs8_3b1 ?hn8_3b1
              case hs8_3b1 =>
                intro gb gx gw hI K hK
                try simp only [Act.put, sqA, sqB, sqC] at hK ⊢
                have HK := Lib.hid hK
                have HGI := Lib.hid hI
                clear hK hI hD
                go_wp2_with fail
                refine (HMN.out _).mono ?_
                rintro ev w5 ⟨rfl, hb⟩
                have HG2 := Lib.hid (HGI.out.step hb)
                clear hb
                go_wp2
                exact HK.out () _ HG2.out
              intro _ hD
              simp only [Act.put, sqA, sqB, sqC]
              refine ghost_step (i := 9) (j := 4) (d := 12) (dj := 55) (fuel := 7) (fun (y : Option Addr × Nat) => .tuple #[.string cz, .agg #[.slice y.1 m y.2, .string ts, .int .i64 tk], .int .i64 e]) (fun y => GIs (wd) (#[.slice none 0 0, .string ⟨#[]⟩, .int .i64 0]) (31) (w.heap.size + 1 + 1 + 1 + 1) y.1 m y.2 tl) (by kernel_rfl) (by kernel_rfl) rfl rfl hD (by kernel_rfl) (by decide) (fun _ _ _ _ h => h.1.1) (fun _ _ _ h => h.1) (alloc_zK rfl rfl (fun _ _ => by kernel_rfl)) ?hs8_4b1 ?hn8_4b1
              case hs8_4b1 =>
                intro gb gx gw hI K hK
                try simp only [Act.put, sqA, sqB, sqC] at hK ⊢
                have HK := Lib.hid hK
                have HGI := Lib.hid hI
                clear hK hI hD
                go_wp2_with fail
                refine (HDD.out _ (HXD.out.2.2.2.2.1.kept HGI.out.1 (Nat.le_refl _))).mono ?_
                rintro ev w6 ⟨B, cc, rfl, hsl, hfr, hb⟩
                simp only [] at hsl ⊢
                rw [HMM.out] at hsl ⊢
                rw [HCZ.out]
                have HG2 := Lib.hid (GIs.of (lo := w.heap.size + 1 + 1 + 1 + 1) (B := B) (m := m) (c := cc) (tl := tl) HGI.out hb hsl hfr HLD.out)
                clear hb hsl hfr
                go_wp2
                exact HK.out (B, cc) _ HG2.out
              intro gy4 hD
              simp only [Act.put, sqA, sqB, sqC]
              refine ghost_pure (i := 9) (j := 5) (d := 12) (dj := 50) (v := ?v8_5b1) (fuel := 6) rfl (by kernel_rfl) (by kernel_rfl) (by kernel_rfl) (by kernel_rfl) (fun _ _ _ h => h) hD (by kernel_rfl) (by decide) (by decide) (fun _ _ _ h => h.1.1) (fun x => .inl ⟨by kernel_rfl, ?y8_5b1⟩) ?n8_5b1
              case y8_5b1 => intro w' _; go_simp; with_reducible rfl
              clear hD; intro hD
              simp only [Act.put, sqA, sqB, sqC]
              refine ghost_pure (i := 9) (j := 6) (d := 12) (dj := 56) (v := ?v8_6b1) (fuel := 5) rfl (by kernel_rfl) (by kernel_rfl) (by kernel_rfl) (by kernel_rfl) (fun _ _ _ h => h) hD (by kernel_rfl) (by decide) (by decide) (fun _ _ _ h => h.1.1) (fun x => .inl ⟨by kernel_rfl, ?y8_6b1⟩) ?n8_6b1
              case y8_6b1 => intro w' _; go_simp; with_reducible rfl
              clear hD; intro hD
              simp only [Act.put, sqA, sqB, sqC]
              refine ghost_pure (i := 9) (j := 7) (d := 12) (dj := 57) (v := ?v8_7b1) (fuel := 4) rfl (by kernel_rfl) (by kernel_rfl) (by kernel_rfl) (by kernel_rfl) (fun _ _ _ h => h) hD (by kernel_rfl) (by decide) (by decide) (fun _ _ _ h => h.1.1) (fun x => .inl ⟨by kernel_rfl, ?y8_7b1⟩) ?n8_7b1
              case y8_7b1 => intro w' _; go_simp; with_reducible rfl
              clear hD; intro hD
              simp only [Act.put, sqA, sqB, sqC]
              refine ghost_pure (i := 9) (j := 8) (d := 12) (dj := 58) (v := ?v8_8b1) (fuel := 3) rfl (by kernel_rfl) (by kernel_rfl) (by kernel_rfl) (by kernel_rfl) (fun _ _ _ h => h) hD (by kernel_rfl) (by decide) (by decide) (fun _ _ _ h => h.1.1) (fun x => .inl ⟨by kernel_rfl, ?y8_8b1⟩) ?n8_8b1
              case y8_8b1 => intro w' _; go_simp; with_reducible rfl
              clear hD; intro hD
              simp only [Act.put, sqA, sqB, sqC]
              refine ghost_end (by kernel_rfl) rfl hD (fun _ _ _ h => h.1.1) (alloc_sK rfl rfl (fun _ _ => by kernel_rfl)) ?_
              intro gx gw hI hD
              obtain ⟨⟨hSG, hx⟩, hEX⟩ := hI
              have HEX := Lib.hid (⟨hEX.1, hEX.2.1, hEX.2.2 rfl⟩ : _ ∧ _ ∧ NeB _ _ _)
              clear hEX
              obtain ⟨GB, rfl, hBG, hZG⟩ := hx rfl
              have HSG := Lib.hid hSG
              have HBG := Lib.hid hBG
              have HZG := Lib.hid hZG
              clear hx hSG hBG hZG
              simp only [Act.put, sqA, sqB, sqC]
              refine wpAnyK_one (i := 10) (fuel := 2) (by kernel_rfl) rfl hD ?_
              clear hD; intro K10 hK10
              go_wp2
              refine hK10 _ _ (by exact HSG.out) ?_; clear hK10; intro hS_8_10_g hD
              refine wpAnyK_one (i := 11) (fuel := 1) (by kernel_rfl) rfl hD ?_
              clear hD; intro K11 hK11
              have hz : TB gw GB none 0 0 ⟨#[]⟩ 0 := HZG.out
              obtain ⟨p0, p1, p2⟩ := hz.c
              have pf0 := hz.f 0
              have pf1 := hz.f 1
              have pf2 := hz.f 2
              clear hz
              go_wp2
              refine hK11 _ _ (by exact below_set3 hS_8_10_g HBG.out _ _ _) ?_; clear hK11; intro hS_8_11_g hD
              refine wpAnyK_one (i := 12) (fuel := 0) (by kernel_rfl) rfl hD ?_
              clear hD; intro K12 hK12
              go_wp2
              refine hK12 _ _ (by exact hS_8_11_g) ?_; clear hK12; intro hS_8_12_g hD
              refine wpAnyK_done (by kernel_rfl) ?_ 0
              clear hD p0 p1 p2 pf0 pf1 pf2 c0 c1 c2 g1
              have hb8 := hS_8_12_g
              have hp8 := TB.set3 (show TB gw GB none 0 0 ⟨#[]⟩ 0 from HZG.out) (A' := gy4.1) (n' := m) (c' := gy4.2) (s' := ts) (a' := tk)
              have HSL := Lib.hid (show SlN ((((gw.setCell ⟨GB, 0, none⟩ (.slice gy4.1 m gy4.2)).setCell ⟨GB, 1, none⟩ (.string ts)).setCell ⟨GB, 2, none⟩ (.int .i64 tk))) gy4.1 m gy4.2 tl from
                ((HEX.out.1.setNe (HEX.out.2.2 _ rfl)).setNe (HEX.out.2.2 _ rfl)).setNe (HEX.out.2.2 _ rfl))
              have HFR := Lib.hid HEX.out.2.1
              have HBG1 := Lib.hid (show w.heap.size + 1 + 1 + 1 < GB from Nat.lt_of_lt_of_le HLD.out HBG.out)
              clear HEX
              obtain ⟨W8, hW8⟩ : ∃ W8, ((gw.setCell ⟨GB, 0, none⟩ (.slice gy4.1 m gy4.2)).setCell ⟨GB, 1, none⟩ (.string ts)).setCell ⟨GB, 2, none⟩ (.int .i64 tk) = W8 := ⟨_, rfl⟩
              rw [hW8] at hp8 hb8 HSL ⊢
              clear hW8
              obtain ⟨P8, hP8⟩ : ∃ P, GB = P := ⟨_, rfl⟩
              rw [hP8] at hp8 HBG1 ⊢
              clear hP8
              obtain ⟨B, cc⟩ := gy4
              simp only [] at hp8 HSL HFR ⊢
              have HP8 := Lib.hid hp8
              clear hp8
              have HX8 := Lib.hid (HXD.out.nextM hb8)
              clear hb8
              obtain ⟨g0, g1⟩ := (show _ ∧ _ from ⟨HX8.out.1.c0, HX8.out.1.c1⟩)
              obtain ⟨c0, c1, c2⟩ := HX8.out.2.1.c
              go_upto_region 9 with (fail)
              by_cases he : e = 0
              · subst he
                obtain ⟨hv1, hv3, hM, hlt, lO⟩ := HH.out
                have lc := hlt rfl
                have HAD := Lib.hid (r01_Plus c 1 (by have : (nS c).size ≤ 32 := nS_size_le.2 (Nat.lt_of_lt_of_le (show c < 18446744073709551616 from by omega) (by decide)); omega) (by rw [nS_one]; decide))
                rw [nS_one] at HAD
                have lc1 : c + 1 < 256 ^ 128 := lt128_of_lt8 (by omega)
                have HRA := Lib.hid (r33_raise M O G (nS (c + 1)) hM hv1 HRM.out hv3 (nvalid_nS.2 lc1))
                rw [num_nS] at HRA
                have hi1 := nS_is1 (num G ^ (c + 1) % num M)
                simp only [if_true] at HRV
                obtain ⟨y, hy⟩ : ∃ y, num G ^ (c + 1) % num M = y := ⟨_, rfl⟩
                rw [hy] at HRV HRA hi1
                obtain ⟨x, hx⟩ : ∃ x, nS (c + 1) = x := ⟨_, rfl⟩
                obtain ⟨z, hz⟩ : ∃ z, nS y = z := ⟨_, rfl⟩
                rw [hx] at HRA HAD
                rw [hz] at HRA hi1
                rw [HCZ.out] at HAD
                unfold gV at HRA
                have HXX := Lib.hid hx
                have HZZ := Lib.hid hz
                have HI1 := Lib.hid hi1
                clear hv1 hv3 hM hlt lO lc lc1 hi1 hy hx hz HH HDD HMN HGN HCK HGT HVG HVO HVM HRM
                go_wp2_with fail
                refine (HAD.out _).mono ?_
                rintro ev w9 ⟨rfl, hb⟩
                have HP9 := Lib.hid (HP8.out.nextT hb)
                have HSL9 := Lib.hid (HSL.out.kept hb (Nat.le_refl _))
                have HX9 := Lib.hid (HX8.out.nextM hb)
                clear hb g0 g1 c0 c1 c2
                obtain ⟨g0, g1⟩ := (show _ ∧ _ from ⟨HX9.out.1.c0, HX9.out.1.c1⟩)
                obtain ⟨c0, c1, c2⟩ := HX9.out.2.1.c
                go_wp2
                obtain ⟨we, hwe⟩ : ∃ we, w9.drew = we := ⟨_, rfl⟩
                have hbe : Below w9.heap.size w9 we := by rw [← hwe]; exact (Below.refl _ _).drew
                have HXE := Lib.hid (HX9.out.nextM hbe)
                have HPE := Lib.hid (HP9.out.nextT hbe)
                have HSLE := Lib.hid (HSL9.out.kept hbe (Nat.le_refl _))
                have HLE := Lib.hid (show P8 < we.heap.size from HPE.out.lt)
                clear hbe g0 g1 c0 c1 c2
                have g0 := HXE.out.1.c0
                have g1 := HXE.out.1.c1
                refine wp_region_K 9 (Below (we).heap.size (we)) (by kernel_rfl) ?_
                intro hD
                rw [hwe]
                refine wpAnyK_takeSD (i := 0) (d := some 66) (v := ?v12_0b2) (fuel := 8) rfl (by kernel_rfl) (by kernel_rfl) (by kernel_rfl) (fun _ _ _ h => h) hD (Below.refl _ _) (.inl ⟨by kernel_rfl, ?y12_0b2⟩) ?n12_0b2
                case y12_0b2 => intro w' hS'; have e0 := cell_kept hS' (Nat.le_refl _) g0; have e1 := cell_kept hS' (Nat.le_refl _) g1; go_simp; with_reducible rfl
                clear hD; intro hD
                simp only [Act.put, sqA, sqB, sqC]
                refine wpAnyK_pureD (i := 1) (d := some 67) (v := ?v12_1b2) (fuel := 7) rfl (by kernel_rfl) (by kernel_rfl) (fun _ _ _ h => h) hD (Below.refl _ _) (.inl ⟨by kernel_rfl, ?y12_1b2⟩) ?n12_1b2
                case y12_1b2 => intro w' _; go_simp; with_reducible rfl
                clear hD; intro hD
                simp only [Act.put, sqA, sqB, sqC]
                refine wpAnyK_takeSD (i := 2) (d := some 68) (v := ?v12_2b2) (fuel := 6) rfl (by kernel_rfl) (by kernel_rfl) (by kernel_rfl) (fun _ _ _ h => h) hD (Below.refl _ _) (.inl ⟨by kernel_rfl, ?y12_2b2⟩) ?n12_2b2
                case y12_2b2 => intro w' hS'; have e0 := cell_kept hS' (Nat.le_refl _) g0; have e1 := cell_kept hS' (Nat.le_refl _) g1; go_simp; with_reducible rfl
                clear hD; intro hD
                simp only [Act.put, sqA, sqB, sqC]
                refine wpAnyK_pureD (i := 3) (d := some 69) (v := ?v12_3b2) (fuel := 5) rfl (by kernel_rfl) (by kernel_rfl) (fun _ _ _ h => h) hD (Below.refl _ _) (.inl ⟨by kernel_rfl, ?y12_3b2⟩) ?n12_3b2
                case y12_3b2 => intro w' _; go_simp; with_reducible rfl
                clear hD; intro hD
                simp only [Act.put, sqA, sqB, sqC]
                refine wpAnyK_pureD (i := 4) (d := some 70) (v := ?v12_4b2) (fuel := 4) rfl (by kernel_rfl) (by kernel_rfl) (fun _ _ _ h => h) hD (Below.refl _ _) (.inl ⟨by kernel_rfl, ?y12_4b2⟩) ?n12_4b2
                case y12_4b2 => intro w' _; go_simp; with_reducible rfl
                clear hD; intro hD
                simp only [Act.put, sqA, sqB, sqC]
                refine (show GhostK _ _ _ _ _ _ 7 14 3 _ _ (GIz (we) (#[.string ⟨#[]⟩, .string ⟨#[]⟩, .string ⟨#[]⟩, .string ⟨#[]⟩]) (46)) from ?_).2 _ (GIz.start (Below.refl _ _))
                refine ghost_step (i := 7) (j := 5) (d := 14) (dj := 71) (fuel := 2) (fun (y : Unit) => .string z) (fun y => GIz (we) (#[.string ⟨#[]⟩, .string ⟨#[]⟩, .string ⟨#[]⟩, .string ⟨#[]⟩]) (46)) (by kernel_rfl) (by kernel_rfl) rfl rfl hD (by kernel_rfl) (by decide) (fun _ _ _ _ h => h.1) (fun _ _ _ h => h.1) (alloc_zK rfl rfl (fun _ _ => by kernel_rfl)) ?hs12_5b2 ?hn12_5b2
                case hs12_5b2 =>
                  intro gb gx gw hI K hK
                  try simp only [Act.put, sqA, sqB, sqC] at hK ⊢
                  have HK := Lib.hid hK
                  have HGI := Lib.hid hI
                  clear hK hI hD
                  go_wp2_with fail
                  refine (HRA.out _).mono ?_
                  rintro ev w5 ⟨rfl, hb⟩
                  have HG2 := Lib.hid (HGI.out.step hb)
                  clear hb
                  go_wp2
                  exact HK.out () _ HG2.out
                intro _ hD
                simp only [Act.put, sqA, sqB, sqC]
                refine ghost_pure (i := 7) (j := 6) (d := 14) (dj := 72) (v := ?v12_6b2) (fuel := 1) rfl (by kernel_rfl) (by kernel_rfl) (by kernel_rfl) (by kernel_rfl) (fun _ _ _ h => h) hD (by kernel_rfl) (by decide) (by decide) (fun _ _ _ h => h.1) (fun x => .inl ⟨by kernel_rfl, ?y12_6b2⟩) ?n12_6b2
                case y12_6b2 => intro w' _; go_simp; with_reducible rfl
                clear hD; intro hD
                simp only [Act.put, sqA, sqB, sqC]
                refine ghost_end (by kernel_rfl) rfl hD (fun _ _ _ h => h.1) (alloc_zK rfl rfl (fun _ _ => by kernel_rfl)) ?_
                intro gx gw hI hD
                obtain ⟨hSG, hx⟩ := hI
                obtain ⟨GB, rfl, hBG, hZG⟩ := hx rfl
                have HSG := Lib.hid hSG
                have HBG := Lib.hid hBG
                have HZG := Lib.hid hZG
                clear hx hSG hBG hZG
                simp only [Act.put, sqA, sqB, sqC]
                refine wpAnyK_one (i := 8) (fuel := 0) (by kernel_rfl) rfl hD ?_
                clear hD; intro K8 hK8
                have hz4 : Bx4 gw GB (.string ⟨#[]⟩) (.string ⟨#[]⟩) (.string ⟨#[]⟩) (.string ⟨#[]⟩) 46 := HZG.out
                obtain ⟨k0, k1, k2, k3⟩ := hz4.cells
                have kf := hz4.free
                have kf0 := kf 0
                have kf1 := kf 1
                have kf2 := kf 2
                have kf3 := kf 3
                clear hz4 kf
                go_wp2
                refine hK8 _ _ (by exact below_set4 HSG.out HBG.out _ _ _ _) ?_; clear hK8; intro hS_12_8_g hD
                refine wpAnyK_done (by kernel_rfl) ?_ 0
                clear hD k0 k1 k2 k3 kf0 kf1 kf2 kf3 g0 g1
                have hb9 := hS_12_8_g
                have hp9 : Bx4 ((((gw.setCell ⟨GB, 0, none⟩ (.string M)).setCell ⟨GB, 1, none⟩ (.string O)).setCell ⟨GB, 2, none⟩ (.string G)).setCell ⟨GB, 3, none⟩ (.string z)) GB (.string M) (.string O) (.string G) (.string z) 46 := Bx4.set4 (show Bx4 gw GB (.string ⟨#[]⟩) (.string ⟨#[]⟩) (.string ⟨#[]⟩) (.string ⟨#[]⟩) 46 from HZG.out)
                obtain ⟨W9, hW9⟩ : ∃ W9, (((gw.setCell ⟨GB, 0, none⟩ (.string M)).setCell ⟨GB, 1, none⟩ (.string O)).setCell ⟨GB, 2, none⟩ (.string G)).setCell ⟨GB, 3, none⟩ (.string z) = W9 := ⟨_, rfl⟩
                rw [hW9] at hp9 hb9 ⊢
                clear hW9
                have HXF := Lib.hid (HXE.out.nextM hb9)
                have HPF := Lib.hid (HPE.out.nextT hb9)
                have HSLF := Lib.hid (HSLE.out.kept hb9 (Nat.le_refl _))
                have HK9 := Lib.hid hp9
                have HLF := Lib.hid (show w.heap.size + 1 + 1 + 1 < GB from Nat.lt_of_lt_of_le (Nat.lt_trans HBG1.out HLE.out) HBG.out)
                clear hb9 hp9
                obtain ⟨z0, z1, z2, z3⟩ := HK9.out.cells
                by_cases hy1 : y = 1
                · rw [if_pos hy1] at HRV
                  have HTE := Lib.hid (show tpN 13 l s k = ([], ⟨#[]⟩, 0) from tpN_err (by decide) l s k)
                  have HKE := Lib.hid (show mkK M O G (0, 0, 13) = #[.string ⟨#[]⟩, .string ⟨#[]⟩, .string ⟨#[]⟩, .string ⟨#[]⟩] from rfl)
                  have hi1' : (z.toList == [1]) = true := by rw [HI1.out]; exact decide_eq_true hy1
                  clear hy1
                  obtain ⟨k0, k1, k2, k3⟩ := HXF.out.2.2.1.cells
                  have kf := HXF.out.2.2.1.free
                  obtain ⟨r0, r1, r2⟩ := HXF.out.2.2.2.1.c
                  have rf := HXF.out.2.2.2.1.f
                  have kf0 := kf 0
                  have kf1 := kf 1
                  have kf2 := kf 2
                  have kf3 := kf 3
                  have rf0 := rf 0
                  have rf1 := rf 1
                  have rf2 := rf 2
                  obtain ⟨hq4, hq3, hqb⟩ := HXF.out.stored (.string ⟨#[]⟩) (.string ⟨#[]⟩) (.string ⟨#[]⟩) (.string ⟨#[]⟩) none 0 0 ⟨#[]⟩ 0
                  obtain ⟨q0, q1, q2, q3⟩ := hq4.cells
                  obtain ⟨p0, p1, p2⟩ := hq3.c
                  have HQB := Lib.hid hqb
                  clear kf rf hq4 hq3 hqb
                  go_wp2
                  refine bodyPost_ret (v := .tuple #[.agg #[.string ⟨#[]⟩, .string ⟨#[]⟩, .string ⟨#[]⟩, .string ⟨#[]⟩], .string ⟨#[]⟩, .agg #[.slice none 0 0, .string ⟨#[]⟩, .int .i64 0], .int .i64 13]) (by simp [results, Tryz.results27, go_sem, q0, q1, q2, q3, p0, p1, p2]) rfl ?_
                  show RetM (mkK M O G (mkN M O G l s k)) (mkN M O G l s k).2.1 (tpN (mkN M O G l s k).2.2 l s k) (mkN M O G l s k).2.2 w _ _
                  rw [HRV.out, HTE.out, HKE.out]
                  exact ⟨none, 0, rfl, SlN.nil _ 0 (by omega) none, (fun b o h => by cases h), HQB.out⟩
                · rw [if_neg hy1] at HRV
                  have hi1' : (z.toList == [1]) = false := by rw [HI1.out]; exact decide_eq_false hy1
                  clear hy1
                  go_wp2
                  obtain ⟨wg, hwg⟩ : ∃ wg, W9.drew = wg := ⟨_, rfl⟩
                  have hbg : Below W9.heap.size W9 wg := by rw [← hwg]; exact (Below.refl _ _).drew
                  have HXG := Lib.hid (HXF.out.nextM hbg)
                  have HS0 := Lib.hid (show Below w.heap.size w wg ∧ Bx4 wg GB (.string M) (.string O) (.string G) (.string z) 46 ∧ TB wg P8 B m cc ts tk from ⟨(HXF.out.nextM hbg).2.2.2.2.2, HK9.out.next hbg, HPF.out.nextT hbg⟩)
                  have HSLG := Lib.hid (HSLF.out.kept hbg (Nat.le_refl _))
                  clear hbg z0 z1 z2 z3
                  obtain ⟨k0, k1, k2, k3⟩ := HXG.out.2.2.1.cells
                  have kf := HXG.out.2.2.1.free
                  obtain ⟨r0, r1, r2⟩ := HXG.out.2.2.2.1.c
                  have rf := HXG.out.2.2.2.1.f
                  have kf0 := kf 0
                  have kf1 := kf 1
                  have kf2 := kf 2
                  have kf3 := kf 3
                  have rf0 := rf 0
                  have rf1 := rf 1
                  have rf2 := rf 2
                  clear kf rf
                  refine wp_region_K 7 (fun W' => Below w.heap.size w W' ∧ Bx4 W' GB (.string M) (.string O) (.string G) (.string z) 46 ∧ TB W' P8 B m cc ts tk) (by kernel_rfl) ?_
                  intro hD
                  rw [hwg]
                  refine wpAnyK_takeSD (i := 0) (d := some 78) (v := ?v15_0b3) (fuel := 6) rfl (by kernel_rfl) (by kernel_rfl) (by kernel_rfl) (fun _ _ _ h => h) hD HS0.out (.inl ⟨by kernel_rfl, ?y15_0b3⟩) ?n15_0b3
                  case y15_0b3 => intro w' hS'; have e0 := hS'.2.1.cells.1; have e1 := hS'.2.1.cells.2.1; have e2 := hS'.2.1.cells.2.2.1; have e3 := hS'.2.1.cells.2.2.2; have e4 := hS'.2.2.c.1; have e5 := hS'.2.2.c.2.1; have e6 := hS'.2.2.c.2.2; go_simp; with_reducible rfl
                  clear hD; intro hD
                  simp only [Act.put, sqA, sqB, sqC]
                  refine wpAnyK_pureD (i := 1) (d := some 79) (v := ?v15_1b3) (fuel := 5) rfl (by kernel_rfl) (by kernel_rfl) (fun _ _ _ h => h) hD HS0.out (.inl ⟨by kernel_rfl, ?y15_1b3⟩) ?n15_1b3
                  case y15_1b3 => intro w' _; go_simp; with_reducible rfl
                  clear hD; intro hD
                  simp only [Act.put, sqA, sqB, sqC]
                  refine wpAnyK_takeSD (i := 2) (d := some 80) (v := ?v15_2b3) (fuel := 4) rfl (by kernel_rfl) (by kernel_rfl) (by kernel_rfl) (fun _ _ _ h => h) hD HS0.out (.inl ⟨by kernel_rfl, ?y15_2b3⟩) ?n15_2b3
                  case y15_2b3 => intro w' hS'; have e0 := hS'.2.1.cells.1; have e1 := hS'.2.1.cells.2.1; have e2 := hS'.2.1.cells.2.2.1; have e3 := hS'.2.1.cells.2.2.2; have e4 := hS'.2.2.c.1; have e5 := hS'.2.2.c.2.1; have e6 := hS'.2.2.c.2.2; go_simp; with_reducible rfl
                  clear hD; intro hD
                  simp only [Act.put, sqA, sqB, sqC]
                  refine wpAnyK_one (i := 3) (fuel := 3) (by kernel_rfl) rfl hD ?_
                  clear hD; intro K3 hK3
                  go_wp2
                  refine hK3 _ _ (by exact ⟨below_set4 (HS0.out).1 (by omega) _ _ _ _, bx4_off4 (HS0.out).2.1 (by have := HLF.out; omega), (HS0.out).2.2.off4 (by have := HBG1.out; omega)⟩) ?_; clear hK3; intro hS_15_3 hD
                  refine wpAnyK_one (i := 4) (fuel := 2) (by kernel_rfl) rfl hD ?_
                  clear hD; intro K4 hK4
                  go_wp2
                  refine hK4 _ _ (by exact hS_15_3) ?_; clear hK4; intro hS_15_4 hD
                  refine wpAnyK_one (i := 5) (fuel := 1) (by kernel_rfl) rfl hD ?_
                  clear hD; intro K5 hK5
                  go_wp2
                  refine hK5 _ _ (by exact ⟨below_set3 (hS_15_4).1 (by omega) _ _ _, (hS_15_4).2.1.off3 (by have := HLF.out; omega), (((hS_15_4).2.2.off (by have := HBG1.out; omega) _).off (by have := HBG1.out; omega) _).off (by have := HBG1.out; omega) _⟩) ?_; clear hK5; intro hS_15_5 hD
                  refine wpAnyK_one (i := 6) (fuel := 0) (by kernel_rfl) rfl hD ?_
                  clear hD; intro K6 hK6
                  go_wp2
                  refine hK6 _ _ (by exact hS_15_5) ?_; clear hK6; intro hS_15_6 hD
                  refine wpAnyK_done (by kernel_rfl) ?_ 0
                  clear hD k0 k1 k2 k3 kf0 kf1 kf2 kf3 r0 r1 r2 rf0 rf1 rf2
                  obtain ⟨hq4, hq3, hqb⟩ := HXG.out.stored (.string M) (.string O) (.string G) (.string z) B m cc ts tk
                  obtain ⟨q0, q1, q2, q3⟩ := hq4.cells
                  obtain ⟨p0, p1, p2⟩ := hq3.c
                  have HQB := Lib.hid hqb
                  clear hq4 hq3 hqb
                  go_wp2
                  refine bodyPost_ret (v := .tuple #[.agg #[.string M, .string O, .string G, .string z], .string x, .agg #[.slice B m cc, .string ts, .int .i64 tk], .int .i64 0]) (by simp [results, Tryz.results27, go_sem, q0, q1, q2, q3, p0, p1, p2]) rfl ?_
                  show RetM (mkK M O G (mkN M O G l s k)) (mkN M O G l s k).2.1 (tpN (mkN M O G l s k).2.2 l s k) (mkN M O G l s k).2.2 w _ _
                  rw [HRV.out]
                  show RetM (mkK M O G (y, c + 1, 0)) (c + 1) (tpN 0 l s k) 0 w _ _
                  rw [HTP.out]
                  refine ⟨B, cc, ?_, ?_, (fun b o h => by have := HFR.out b o h; omega), HQB.out⟩
                  · show _ = Ending.returned (.tuple #[.agg #[.string M, .string O, .string G, .string (nS y)], .string (nS (c + 1)), .agg #[.slice B tl.length cc, .string ts, .int .i64 tk], .int .i64 0])
                    rw [HMM.out, HZZ.out, HXX.out]
                  · show SlN _ B tl.length cc tl
                    rw [HMM.out]
                    have h1 : ∀ b o, B = some ⟨b, o, none⟩ → w.heap.size + 1 + 1 < b := fun b o h => by have := HFR.out b o h; omega
                    have h2 : ∀ b o, B = some ⟨b, o, none⟩ → w.heap.size + 1 + 1 + 1 < b := fun b o h => by have := HFR.out b o h; omega
                    exact ((((((HSLG.out.setB h1).setB h1).setB h1).setB h1).setB h2).setB h2).setB h2
              · rw [if_neg he] at HRV
                have HTE := Lib.hid (show tpN e l s k = ([], ⟨#[]⟩, 0) from tpN_err he l s k)
                have HKE := Lib.hid (show mkK M O G (0, 0, e) = #[.string ⟨#[]⟩, .string ⟨#[]⟩, .string ⟨#[]⟩, .string ⟨#[]⟩] from if_neg he)
                go_upto_region 10 with (fail)
                clear he
                obtain ⟨k0, k1, k2, k3⟩ := HX8.out.2.2.1.cells
                have kf := HX8.out.2.2.1.free
                obtain ⟨r0, r1, r2⟩ := HX8.out.2.2.2.1.c
                have rf := HX8.out.2.2.2.1.f
                have kf0 := kf 0
                have kf1 := kf 1
                have kf2 := kf 2
                have kf3 := kf 3
                have rf0 := rf 0
                have rf1 := rf 1
                have rf2 := rf 2
                obtain ⟨hq4, hq3, hqb⟩ := HX8.out.stored (.string ⟨#[]⟩) (.string ⟨#[]⟩) (.string ⟨#[]⟩) (.string ⟨#[]⟩) none 0 0 ⟨#[]⟩ 0
                obtain ⟨q0, q1, q2, q3⟩ := hq4.cells
                obtain ⟨p0, p1, p2⟩ := hq3.c
                have HQB := Lib.hid hqb
                clear kf rf hq4 hq3 hqb
                go_wp2
                refine bodyPost_ret (v := .tuple #[.agg #[.string ⟨#[]⟩, .string ⟨#[]⟩, .string ⟨#[]⟩, .string ⟨#[]⟩], .string ⟨#[]⟩, .agg #[.slice none 0 0, .string ⟨#[]⟩, .int .i64 0], .int .i64 e]) (by simp [results, Tryz.results27, go_sem, q0, q1, q2, q3, p0, p1, p2]) rfl ?_
                show RetM (mkK M O G (mkN M O G l s k)) (mkN M O G l s k).2.1 (tpN (mkN M O G l s k).2.2 l s k) (mkN M O G l s k).2.2 w _ _
                rw [HRV.out, HTE.out, HKE.out]
                exact ⟨none, 0, rfl, SlN.nil _ 0 (by omega) none, (fun b o h => by cases h), HQB.out⟩
          · rw [show mkN M O G l s k = (0, 0, chkK M O) from by unfold mkN; rw [hv, hg, if_pos (by rfl), if_neg hc]]
            obtain ⟨e, he⟩ : ∃ e, chkK M O = e := ⟨_, rfl⟩
            rw [he] at HCK hc ⊢
            rw [show tpN e l s k = ([], ⟨#[]⟩, 0) from tpN_err hc l s k, show mkK M O G (0, 0, e) = #[.string ⟨#[]⟩, .string ⟨#[]⟩, .string ⟨#[]⟩, .string ⟨#[]⟩] from if_neg hc]
            clear hv1 hp hv2 hv3 hv hg he
            try unfold gV at *
            go_enter Tryz.func27, Tryz.ntmps27
            go_wp2_with fail
            try rw [hW0]
            clear hW0
            refine (HVM.out _).mono ?_
            rintro ev w1 ⟨rfl, rfl⟩
            go_wp2_with fail
            refine (HVO.out _).mono ?_
            rintro ev w1 ⟨rfl, rfl⟩
            go_wp2_with fail
            refine (HVG.out _).mono ?_
            rintro ev w1 ⟨rfl, rfl⟩
            go_wp2_with fail
            refine HGT.out.mono ?_
            rintro ev w2 ⟨rfl, hb⟩
            have HX2 := Lib.hid (HX0.out.nextM hb)
            clear hb g0 g1 c0 c1 c2
            obtain ⟨g0, g1⟩ := (show _ ∧ _ from ⟨HX2.out.1.c0, HX2.out.1.c1⟩)
            obtain ⟨c0, c1, c2⟩ := HX2.out.2.1.c
            go_wp2_with fail
            refine (HCK.out _).mono ?_
            rintro ev w3 ⟨rfl, hb⟩
            have HX3 := Lib.hid (HX2.out.nextM hb)
            clear hb g0 g1 c0 c1 c2
            obtain ⟨g0, g1⟩ := (show _ ∧ _ from ⟨HX3.out.1.c0, HX3.out.1.c1⟩)
            obtain ⟨c0, c1, c2⟩ := HX3.out.2.1.c
            go_upto_region 5 with (fail)
            clear hc
            obtain ⟨k0, k1, k2, k3⟩ := HX3.out.2.2.1.cells
            have kf := HX3.out.2.2.1.free
            obtain ⟨r0, r1, r2⟩ := HX3.out.2.2.2.1.c
            have rf := HX3.out.2.2.2.1.f
            have kf0 := kf 0
            have kf1 := kf 1
            have kf2 := kf 2
            have kf3 := kf 3
            have rf0 := rf 0
            have rf1 := rf 1
            have rf2 := rf 2
            obtain ⟨hq4, hq3, hqb⟩ := HX3.out.stored (.string ⟨#[]⟩) (.string ⟨#[]⟩) (.string ⟨#[]⟩) (.string ⟨#[]⟩) none 0 0 ⟨#[]⟩ 0
            obtain ⟨q0, q1, q2, q3⟩ := hq4.cells
            obtain ⟨p0, p1, p2⟩ := hq3.c
            have HQB := Lib.hid hqb
            clear kf rf hq4 hq3 hqb
            go_wp2
            refine bodyPost_ret (v := .tuple #[.agg #[.string ⟨#[]⟩, .string ⟨#[]⟩, .string ⟨#[]⟩, .string ⟨#[]⟩], .string ⟨#[]⟩, .agg #[.slice none 0 0, .string ⟨#[]⟩, .int .i64 0], .int .i64 e]) (by simp [results, Tryz.results27, go_sem, q0, q1, q2, q3, p0, p1, p2]) rfl ?_
            exact ⟨none, 0, rfl, SlN.nil _ 0 (by omega) none, (fun b o h => by cases h), HQB.out⟩
end Go.Proofs.YtndmjfkmnjejkaaGreatDoor
/- Walk: schnorr.commitmentOf. -/
set_option linter.unusedVariables false
set_option linter.unusedSimpArgs false
namespace Go.Proofs.YtndmjfkmnjejkaaGreatDoor
open Go.RowKit Go.Lib
theorem ex_two {M O G Y c r : ByteArray} (hc : chkK M O = 0) (hO : 0 < num O) (vG : nvalid G = true) (vY : nvalid Y = true) (hG : hasN (num M) (num O) (num G) = true) (hY : hasN (num M) (num O) (num Y) = true) (vc : nvalid c = true) (vr : nvalid r = true) (hcq : num c < num O) :
    prR M O [G, Y] [(false, r), (!(c.toList.isEmpty), c)] = .tuple #[.string (nS (cmS (num M) (num O) (num G) (num Y) (num c) (num r))), .int .i64 0] := by
  have lr := nvalid_lt vr
  have lc := nvalid_lt vc
  have e1 : (false, r) = (decide (((num r : Nat) : Int) < 0), nS ((num r : Nat) : Int).natAbs) := by rw [Int.natAbs_natCast, decide_eq_false (by omega), ← nS_num vr]
  have e2 : (!(c.toList.isEmpty), c) = (decide (-((num c : Nat) : Int) < 0), nS (-((num c : Nat) : Int)).natAbs) := by
    rw [Int.natAbs_neg, Int.natAbs_natCast, ← nS_num vc]
    congr 1
    by_cases h : num c = 0
    · rw [show c.toList.isEmpty = true from by rw [nS_num vc, h]; exact sempty_true rfl, h]; rfl
    · rw [show c.toList.isEmpty = false from by rw [nS_num vc]; exact empty_nS (by omega), decide_eq_true (by omega)]; rfl
  rw [e1, e2]
  unfold prR
  rw [if_pos (show ckR M O [G, Y] [(decide (((num r : Nat) : Int) < 0), nS ((num r : Nat) : Int).natAbs), (decide (-((num c : Nat) : Int) < 0), nS (-((num c : Nat) : Int)).natAbs)] (decide ([G, Y].length = [(decide (((num r : Nat) : Int) < 0), nS ((num r : Nat) : Int).natAbs), (decide (-((num c : Nat) : Int) < 0), nS (-((num c : Nat) : Int)).natAbs)].length)) = 0 from cka_two vG vY (zvalid_all (by rw [Int.natAbs_natCast]; exact lr)) (zvalid_all (by rw [Int.natAbs_neg, Int.natAbs_natCast]; exact lc)) hc hG hY)]
  have e : prV (num M) [G, Y] [(decide (((num r : Nat) : Int) < 0), nS ((num r : Nat) : Int).natAbs), (decide (-((num c : Nat) : Int) < 0), nS (-((num c : Nat) : Int)).natAbs)] = cmS (num M) (num O) (num G) (num Y) (num c) (num r) := by
    show baseN (num G) (decide (((num r : Nat) : Int) < 0)) (num M) ^ (num (nS ((num r : Nat) : Int).natAbs) / 2 ^ 0) * (baseN (num Y) (decide (-((num c : Nat) : Int) < 0)) (num M) ^ (num (nS (-((num c : Nat) : Int)).natAbs) / 2 ^ 0) * 1) % num M = _
    rw [num_nS, num_nS, Nat.pow_zero, Nat.div_one, Nat.div_one, Nat.mul_one, pz_two]
    have hcn : chkN (num M) (num O) = 0 := (chkK_parts hc).2.2
    obtain ⟨i, hu⟩ := has_un hcn hY
    exact cmS_pz hu (has_ord hO hY) hcq
  rw [e]
def BoxC (W : World) (B : Nat) (s : ByteArray) : Prop := W.heap[B]? = some (.cells #[.string s] 106 (0, 0))
theorem BoxC.nextC {W W' : World} {B : Nat} {s : ByteArray} (h : BoxC W B s) (hb : Below W.heap.size W W') : BoxC W' B s := (hb.block _ (block_lt h)).trans h
theorem BoxC.c {W : World} {B : Nat} {s : ByteArray} (h : BoxC W B s) : W.cell? ⟨B, 0, none⟩ = some (.string s) := by rw [Lib.cell_of_heap h]; rfl
theorem BoxC.f {W : World} {B : Nat} {s : ByteArray} (h : BoxC W B s) : W.frozen? ⟨B, 0, none⟩ = false := Lib.frozen_of_heap h 0
theorem BoxC.set {W : World} {B : Nat} {s t : ByteArray} (h : BoxC W B s) : BoxC (W.setCell ⟨B, 0, none⟩ (.string t)) B t := block_setCell h _
set_option maxRecDepth 100000 in
set_option maxHeartbeats 2000000 in
theorem sc_commitmentOf (M O G Y c r : ByteArray) (hM : M.size ≤ 8) (hk : scK M O G Y = 0) (vc : nvalid c = true) (vr : nvalid r = true) (hcq : num c < num O) (w : World) : Calls Tryz.prog 66 #[kV M O G Y, .agg #[.string c, .string r]] w (Ret (.agg #[.string (nS (cmS (num M) (num O) (num G) (num Y) (num c) (num r)))]) w) := by
  obtain ⟨hv, hc, hz, hg, hy⟩ := scK_ok hk
  obtain ⟨v1, v2, v3, v4⟩ := all_four hv
  have h8 := chk_small hv hM hc
  have hpr := ex_two (M := M) (O := O) (G := G) (Y := Y) (c := c) (r := r) hc (by omega) v3 v4 (genK_parts hg).1 (genK_parts hy).1 vc vr hcq
  obtain ⟨z, hz2⟩ : ∃ z, nS (cmS (num M) (num O) (num G) (num Y) (num c) (num r)) = z := ⟨_, rfl⟩
  rw [hz2] at hpr ⊢
  obtain ⟨nz, hnz⟩ : ∃ b, c.toList.isEmpty = b := ⟨_, rfl⟩
  rw [hnz] at hpr
  have sz : ∀ {s : ByteArray}, nvalid s = true → s.size ≤ 1000 := fun h => by rw [nS_num h]; have := nS_size_le.2 (nvalid_lt h); omega
  have sG := sz v3
  have sY := sz v4
  have sc := sz vc
  have sr := sz vr
  have HPR := Lib.hid (fun A B w hl hz => pw_Product M O [G, Y] [(false, r), (!nz, c)] A B 2 2 2 2 hM h8 (by intro s hs; simp at hs; rcases hs with h | h <;> subst h <;> assumption) (by intro t ht; simp at ht; rcases ht with h | h <;> subst h <;> assumption) (by omega) (by omega) w hl hz)
  rw [hpr] at HPR
  -- the boxes
  have hx0 := SG.new w M O G Y c r
  obtain ⟨W0, hW0⟩ : ∃ W, (w.alloc (.cells #[.string M, .string O, .string G, .string Y] 46)).alloc (.cells #[.string c, .string r] 52) = W := ⟨_, rfl⟩
  rw [hW0] at hx0
  have hsz0 : W0.heap.size = w.heap.size + 1 + 1 := by rw [← hW0]; simp
  have hb1 := (Below.refl W0.heap.size W0).alloc (Nat.le_refl _) (.cells #[.string ⟨#[]⟩] 106)
  have hx1 := hx0.next hb1
  have hr1 : BoxC (W0.alloc (.cells #[.string ⟨#[]⟩] 106)) W0.heap.size ⟨#[]⟩ := heap_alloc_new _ _
  obtain ⟨W1, hW1⟩ : ∃ W, W0.alloc (.cells #[.string ⟨#[]⟩] 106) = W := ⟨_, rfl⟩
  rw [hW1] at hx1 hr1
  obtain ⟨B, hB⟩ : ∃ B, W0.heap.size = B := ⟨_, rfl⟩
  rw [hB] at hr1
  have hsl := sln_alloc W1 [G, Y] 22 (by simp)
  have hb2 := (Below.refl W1.heap.size W1).alloc (Nat.le_refl _) (.cells #[.string G, .string Y] 22)
  have hx2 := hx1.next hb2
  have hr2 := hr1.nextC hb2
  obtain ⟨W2, hW2⟩ : ∃ W, W1.alloc (.cells #[.string G, .string Y] 22) = W := ⟨_, rfl⟩
  have hslz := slz_alloc2 W2 false (!nz) r c 28
  have hsl2 : SlN W2 (some ⟨W1.heap.size, 0, none⟩) 2 2 [G, Y] := hW2 ▸ hsl
  rw [hW2] at hx2 hr2
  have hb3 := (Below.refl W2.heap.size W2).alloc (Nat.le_refl _) (.cells #[.bool false, .string r, .bool (!nz), .string c] 28)
  have HPP := Lib.hid (HPR.out _ _ _ (hsl2.kept hb3 (Nat.le_refl _)) hslz)
  have HX3 := Lib.hid (hx2.next hb3)
  have HR3 := Lib.hid (hr2.nextC hb3)
  obtain ⟨c0, c1, c2, c3⟩ := hx1.1.1.cells
  obtain ⟨e0, e1, e2, e3⟩ := hx2.1.1.cells
  have d0 := hx2.2.c0
  have d1 := hx2.2.c1
  have HBB := Lib.hid (show w.heap.size ≤ B from by omega)
  clear hx0 hx1 hx2 hr1 hr2 hb1 hb2 hb3 hsl hsl2 hslz hpr hz2 sG sY sc sr sz hv hc hz hg hy v1 v2 v3 v4 h8 hk hM vc vr hcq
  unfold kV gV at *
  go_enter Tryz.func66, Tryz.ntmps66
  go_wp2_with fail
  refine HPP.out.mono ?_
  rintro en w' ⟨rfl, hb'⟩
  have HR4 := Lib.hid (HR3.out.nextC hb')
  have HX4 := Lib.hid (HX3.out.next hb')
  have HBl := Lib.hid (show w.heap.size < w'.heap.size from by have := HX3.out.next hb'; exact this.1.1.lt)
  have hbe : B = w.heap.size + 1 + 1 := by omega
  subst hbe
  have r0 := HR4.out.c
  have r1 := HR4.out.f
  go_wp2_with fail
  have q0 := (HR4.out.set (t := z)).c
  exact bodyPost_ret (v := .agg #[.string z]) (by simp [results, Tryz.results66, go_sem, q0]) rfl ⟨rfl, HX4.out.1.2.setCell (p := ⟨w.heap.size + 1 + 1, 0, none⟩) (show w.heap.size ≤ w.heap.size + 1 + 1 by omega) _⟩
end Go.Proofs.YtndmjfkmnjejkaaGreatDoor
/- Walks: integer.Sub of long numbers; modular.Inverse of a number that has none. -/
set_option linter.unusedVariables false
set_option linter.unusedSimpArgs false
namespace Go.Proofs.YtndmjfkmnjejkaaGreatDoor
open Go.RowKit
set_option maxRecDepth 100000 in
set_option maxHeartbeats 1000000 in
theorem mod_Inverse_none (a m : Nat) (ham : a < m) (hm8 : m < 18446744073709551616) (h1 : 1 < m) (hg : ¬ (Nat.gcd a m = 1)) (w : World) : Calls Tryz.prog 68 #[.string (nS a), .string (nS m)] w (Ret (.tuple #[.string ⟨#[]⟩, .int .i64 9]) w) := by
  have ha8 : a < 18446744073709551616 := by omega
  have HC := Lib.hid (fun w => check_one w (nS a) (nS m) _ rfl (nS_valid_small ha8) (nS_valid_small hm8) (empty_nS (by omega)) _ rfl)
  have HR := Lib.hid (mod_reduced a m ha8 (lt128_of_lt8 hm8) (by omega))
  rw [Nat.mod_eq_of_lt ham] at HR
  have HE := Lib.hid (int_Extended a m ham hm8)
  have hne : ((nS (Nat.gcd a m)).toList == [1]) = false := by rw [nS_is1]; exact decide_eq_false hg
  obtain ⟨gs, hgs⟩ : ∃ g, nS (Nat.gcd a m) = g := ⟨_, rfl⟩
  rw [hgs] at hne
  have HGS := Lib.hid hgs
  obtain ⟨s, hs⟩ : ∃ s, nS a = s := ⟨_, rfl⟩
  obtain ⟨t, ht⟩ : ∃ t, nS m = t := ⟨_, rfl⟩
  rw [hs, ht] at HC HR HE
  rw [hs, ht]
  clear hs ht ham hm8 h1 hg ha8 hgs
  go_enter Tryz.func68, Tryz.ntmps68
  go_wp2_with fail
  refine (HC.out w).mono ?_
  rintro e w1 ⟨rfl, hb1⟩
  have HB1 := Lib.hid ((((Below.refl w.heap.size w).alloc (Nat.le_refl _) _).alloc (by simp) _).trans hb1)
  clear hb1
  go_wp2_with fail
  refine (HR.out _).mono ?_
  rintro e w2 ⟨rfl, hb2⟩
  have HB2 := Lib.hid (HB1.out.trans (hb2.mono HB1.out.size))
  clear hb2
  go_wp2_with fail
  refine (HE.out _).mono ?_
  rintro e w3 ⟨x, y, rfl, hb3, hx0, hx8, hbz⟩
  have HB3 := Lib.hid (HB2.out.trans (hb3.mono HB2.out.size))
  rw [HGS.out]
  unfold intV zV
  obtain ⟨u, hu⟩ : ∃ u, nS x.natAbs = u := ⟨_, rfl⟩
  obtain ⟨dx, hdx⟩ : ∃ dx, decide (x < 0) = dx := ⟨_, rfl⟩
  obtain ⟨dy, hdy⟩ : ∃ dy, decide (y < 0) = dy := ⟨_, rfl⟩
  obtain ⟨v, hv⟩ : ∃ v, nS y.natAbs = v := ⟨_, rfl⟩
  rw [hu, hdx, hdy, hv]
  clear hb3 hbz hx0 hx8 hu hdx hdy hv
  have HB4 := Lib.hid ((HB3.out.alloc HB3.out.size (.cells #[.bool dx, .string u] 28)).alloc (by have := HB3.out.size; simp; omega) (.cells #[.bool dy, .string v] 28))
  go_wp2
  go_ret2
  exact ⟨rfl, by first | exact HB4.out | exact HB3.out⟩
end Go.Proofs.YtndmjfkmnjejkaaGreatDoor

/- Walks: pedersen.Check and the reference's for orders that are too long. -/
import Derived.Test.YtndmjfkmnjejkaaGreatDoorQPeP
import Derived.Test.YtndmjfkmnjejkaaGreatDoorQScA
import Derived.Test.YtndmjfkmnjejkaaGreatDoorQMdB
set_option linter.unusedVariables false
set_option linter.unusedSimpArgs false
namespace Go.Proofs.YtndmjfkmnjejkaaGreatDoor
open Go.RowKit
theorem chkK_long {M O G H : ByteArray} (hf : kF M O G H = true) (hM : M.size ≤ 8) (h8 : ¬ O.size ≤ 8) : chkK M O = 13 := by
  unfold kF at hf
  simp only [Bool.and_eq_true] at hf
  have v1 := hf.1.1.1
  have v2 := hf.1.1.2
  have hm := num_small hM
  have ho : 18446744073709551616 ≤ num O := by
    rcases Nat.lt_or_ge (num O) 18446744073709551616 with h | h
    · rw [nS_num v2] at h8; exact absurd (nS_small_size h) h8
    · exact h
  unfold chkK
  rw [if_pos (by rw [v1, v2]; rfl)]
  unfold chkN
  rw [if_neg (by omega)]
  by_cases h1 : num M ≤ 1
  · rw [if_pos (.inl h1)]
  · rw [if_pos (.inr (.inr (by rw [Nat.mod_eq_of_lt (by omega)]; omega)))]
end Go.Proofs.YtndmjfkmnjejkaaGreatDoor
/- Walks: schnorr.Check and the reference's. -/
set_option linter.unusedVariables false
set_option linter.unusedSimpArgs false
namespace Go.Proofs.YtndmjfkmnjejkaaGreatDoor
open Go.RowKit Go.Lib
def SB (w W : World) (M O G H : ByteArray) : Prop := Bx4 W w.heap.size (.string M) (.string O) (.string G) (.string H) 46 ∧ Below w.heap.size w W
theorem SB.new (w : World) (M O G H : ByteArray) : SB w (w.alloc (.cells #[.string M, .string O, .string G, .string H] 46)) M O G H := ⟨Bx4.new _ _ _ _ _ _, (Below.refl _ _).alloc (Nat.le_refl _) _⟩
theorem SB.next {w W W' : World} {M O G H : ByteArray} (h : SB w W M O G H) (hb : Below W.heap.size W W') : SB w W' M O G H := ⟨h.1.next hb, h.2.trans (hb.mono h.2.size)⟩
theorem all_four {M O G Y : ByteArray} (h : [M, O, G, Y].all nvalid = true) : nvalid M = true ∧ nvalid O = true ∧ nvalid G = true ∧ nvalid Y = true := by
  simp only [List.all_cons, List.all_nil, Bool.and_true, Bool.and_eq_true] at h
  exact ⟨h.1, h.2.1, h.2.2.1, h.2.2.2⟩
theorem chk_small {M O G Y : ByteArray} (h : [M, O, G, Y].all nvalid = true) (hM : M.size ≤ 8) (hc : chkK M O = 0) : O.size ≤ 8 := by
  by_cases h8 : O.size ≤ 8
  · exact h8
  · obtain ⟨a, b, c, d⟩ := all_four h
    have := chkK_long (M := M) (O := O) (G := G) (H := Y) (by unfold kF; rw [a, b, c, d]; rfl) hM h8
    rw [hc] at this; cases this
set_option maxRecDepth 100000 in
set_option maxHeartbeats 4000000 in
theorem sc_Check (M O G Y : ByteArray) (hM : M.size ≤ 8) (hO : O.size ≤ 100) (hG : G.size ≤ 1000) (hY : Y.size ≤ 1000) (w : World) : Calls Tryz.prog 20 #[kV M O G Y] w (Ret (.int .i64 (scK M O G Y)) w) := by
  have hk0 := SB.new w M O G Y
  obtain ⟨W0, hW0⟩ : ∃ W, w.alloc (.cells #[.string M, .string O, .string G, .string Y] 46) = W := ⟨_, rfl⟩
  rw [hW0] at hk0
  have HK0 := Lib.hid hk0
  have hsl := sln_alloc W0 [M, O, G, Y] 22 (by simp)
  have hbb := (Below.refl W0.heap.size W0).alloc (Nat.le_refl _) (.cells #[.string M, .string O, .string G, .string Y] 22)
  have HK1 := Lib.hid (hk0.next hbb)
  have hlz : ∀ z ∈ [M, O, G, Y], z.size ≤ 9223372036854775807 := fun z hz => by
    simp at hz
    rcases hz with h | h | h | h <;> subst h <;> omega
  obtain ⟨W1, hW1⟩ : ∃ W, W0.alloc (.cells #[.string M, .string O, .string G, .string Y] 22) = W := ⟨_, rfl⟩
  have HSL := Lib.hid (show SlN W1 (some ⟨W0.heap.size, 0, none⟩) 4 4 [M, O, G, Y] from hW1 ▸ hsl)
  rw [hW1] at HK1
  obtain ⟨c0, c1, c2, c3⟩ := hk0.1.cells
  clear hk0 hsl hbb
  have HFM := Lib.hid (sc_formed [M, O, G, Y] _ 4 4 (by omega) hlz W1 HSL.out)
  have HCK := Lib.hid (pw_CheckW M O hM hO)
  have HG := Lib.hid (fun (h : O.size ≤ 8) x (hx : nvalid x = true) => sc_generator M O x hM h hx)
  have HMS := Lib.hid hM
  clear hM hO hG hY hlz
  unfold kV
  cases hv : [M, O, G, Y].all nvalid with
  | false =>
    have HR := Lib.hid (show scK M O G Y = 3 from by unfold scK; rw [if_neg (by rw [hv]; decide)])
    rw [hv] at HFM
    rw [HR.out]
    clear hv
    unfold gV at *
    go_enter Tryz.func20, Tryz.ntmps20
    go_wp2_with fail
    try rw [hW1]
    clear hW0 hW1
    refine HFM.out.mono ?_
    rintro ev w2 ⟨rfl, rfl⟩
    clear c0 c1 c2 c3
    obtain ⟨c0, c1, c2, c3⟩ := HK1.out.1.cells
    go_wp2
    go_ret
    exact ⟨rfl, HK1.out.2⟩
  | true =>
    rw [hv] at HFM
    by_cases hc : chkK M O = 0
    · have h8 := chk_small hv HMS.out hc
      obtain ⟨v1, v2, v3, v4⟩ := all_four hv
      have HGG := Lib.hid (HG.out h8 G v3)
      have HGY := Lib.hid (HG.out h8 Y v4)
      have HR := Lib.hid (show scK M O G Y = if (O.toList.isEmpty || !genK M O G || !genK M O Y) = true then 13 else 0 from by unfold scK; rw [if_pos hv, if_pos hc])
      rw [hc] at HCK
      rw [HR.out]
      clear hv hc h8 v1 v2 v3 v4
      cases ho : O.toList.isEmpty with
      | true =>
        simp only [Bool.true_or, if_true]
        unfold gV at *
        go_enter Tryz.func20, Tryz.ntmps20
        go_wp2_with fail
        try rw [hW1]
        clear hW0 hW1
        refine HFM.out.mono ?_
        rintro ev w2 ⟨rfl, rfl⟩
        clear c0 c1 c2 c3
        obtain ⟨c0, c1, c2, c3⟩ := HK1.out.1.cells
        go_wp2_with fail
        refine (HCK.out _).mono ?_
        rintro ev w3 ⟨rfl, hb⟩
        have hk := HK1.out.next hb
        have HK3 := Lib.hid hk
        clear hb c0 c1 c2 c3
        obtain ⟨c0, c1, c2, c3⟩ := hk.1.cells
        clear hk
        go_wp2
        go_ret
        exact ⟨rfl, HK3.out.2⟩
      | false =>
        cases hg : genK M O G with
        | false =>
          rw [hg] at HGG
          simp only [Bool.not_false, Bool.or_true, Bool.true_or, if_true]
          clear hg
          unfold gV at *
          go_enter Tryz.func20, Tryz.ntmps20
          go_wp2_with fail
          try rw [hW1]
          clear hW0 hW1
          refine HFM.out.mono ?_
          rintro ev w2 ⟨rfl, rfl⟩
          clear c0 c1 c2 c3
          obtain ⟨c0, c1, c2, c3⟩ := HK1.out.1.cells
          go_wp2_with fail
          refine (HCK.out _).mono ?_
          rintro ev w3 ⟨rfl, hb⟩
          have hk := HK1.out.next hb
          have HK3 := Lib.hid hk
          clear hb c0 c1 c2 c3
          obtain ⟨c0, c1, c2, c3⟩ := hk.1.cells
          clear hk
          go_wp2_with fail
          refine (HGG.out _).mono ?_
          rintro ev w4 ⟨rfl, hb⟩
          have hk := HK3.out.next hb
          have HK4 := Lib.hid hk
          clear hb c0 c1 c2 c3
          obtain ⟨c0, c1, c2, c3⟩ := hk.1.cells
          clear hk
          go_wp2
          go_ret
          exact ⟨rfl, HK4.out.2⟩
        | true =>
          rw [hg] at HGG
          obtain ⟨gy, hgy⟩ : ∃ z, genK M O Y = z := ⟨_, rfl⟩
          rw [hgy] at HGY ⊢
          clear hg hgy
          cases gy with
          | false =>
            simp only [Bool.not_false, Bool.not_true, Bool.or_true, Bool.false_or, Bool.or_false, if_true]
            unfold gV at *
            go_enter Tryz.func20, Tryz.ntmps20
            go_wp2_with fail
            try rw [hW1]
            clear hW0 hW1
            refine HFM.out.mono ?_
            rintro ev w2 ⟨rfl, rfl⟩
            clear c0 c1 c2 c3
            obtain ⟨c0, c1, c2, c3⟩ := HK1.out.1.cells
            go_wp2_with fail
            refine (HCK.out _).mono ?_
            rintro ev w3 ⟨rfl, hb⟩
            have hk := HK1.out.next hb
            have HK3 := Lib.hid hk
            clear hb c0 c1 c2 c3
            obtain ⟨c0, c1, c2, c3⟩ := hk.1.cells
            clear hk
            go_wp2_with fail
            refine (HGG.out _).mono ?_
            rintro ev w4 ⟨rfl, hb⟩
            have hk := HK3.out.next hb
            have HK4 := Lib.hid hk
            clear hb c0 c1 c2 c3
            obtain ⟨c0, c1, c2, c3⟩ := hk.1.cells
            clear hk
            go_wp2_with fail
            refine (HGY.out _).mono ?_
            rintro ev w5 ⟨rfl, hb⟩
            have hk := HK4.out.next hb
            have HK5 := Lib.hid hk
            clear hb c0 c1 c2 c3
            obtain ⟨c0, c1, c2, c3⟩ := hk.1.cells
            clear hk
            go_wp2
            go_ret
            exact ⟨rfl, HK5.out.2⟩
          | true =>
            simp only [Bool.not_true, Bool.or_false, Bool.false_eq_true, if_false]
            unfold gV at *
            go_enter Tryz.func20, Tryz.ntmps20
            go_wp2_with fail
            try rw [hW1]
            clear hW0 hW1
            refine HFM.out.mono ?_
            rintro ev w2 ⟨rfl, rfl⟩
            clear c0 c1 c2 c3
            obtain ⟨c0, c1, c2, c3⟩ := HK1.out.1.cells
            go_wp2_with fail
            refine (HCK.out _).mono ?_
            rintro ev w3 ⟨rfl, hb⟩
            have hk := HK1.out.next hb
            have HK3 := Lib.hid hk
            clear hb c0 c1 c2 c3
            obtain ⟨c0, c1, c2, c3⟩ := hk.1.cells
            clear hk
            go_wp2_with fail
            refine (HGG.out _).mono ?_
            rintro ev w4 ⟨rfl, hb⟩
            have hk := HK3.out.next hb
            have HK4 := Lib.hid hk
            clear hb c0 c1 c2 c3
            obtain ⟨c0, c1, c2, c3⟩ := hk.1.cells
            clear hk
            go_wp2_with fail
            refine (HGY.out _).mono ?_
            rintro ev w5 ⟨rfl, hb⟩
            have hk := HK4.out.next hb
            have HK5 := Lib.hid hk
            clear hb c0 c1 c2 c3
            obtain ⟨c0, c1, c2, c3⟩ := hk.1.cells
            clear hk
            go_wp2
            go_ret
            exact ⟨rfl, HK5.out.2⟩
    · have HR := Lib.hid (show scK M O G Y = chkK M O from by unfold scK; rw [if_pos hv, if_neg hc])
      obtain ⟨e, he⟩ : ∃ e, chkK M O = e := ⟨_, rfl⟩
      rw [HR.out]
      rw [he] at HCK hc ⊢
      clear hv he
      unfold gV at *
      go_enter Tryz.func20, Tryz.ntmps20
      go_wp2_with fail
      try rw [hW1]
      clear hW0 hW1
      refine HFM.out.mono ?_
      rintro ev w2 ⟨rfl, rfl⟩
      clear c0 c1 c2 c3
      obtain ⟨c0, c1, c2, c3⟩ := HK1.out.1.cells
      go_wp2_with fail
      refine (HCK.out _).mono ?_
      rintro ev w3 ⟨rfl, hb⟩
      have hk := HK1.out.next hb
      have HK3 := Lib.hid hk
      clear hb c0 c1 c2 c3
      obtain ⟨c0, c1, c2, c3⟩ := hk.1.cells
      clear hk
      go_wp2
      go_ret
      exact ⟨rfl, HK3.out.2⟩
end Go.Proofs.YtndmjfkmnjejkaaGreatDoor
/- Walk: modular.Sub. -/
set_option linter.unusedVariables false
set_option linter.unusedSimpArgs false
namespace Go.Proofs.YtndmjfkmnjejkaaGreatDoor
open Go.RowKit
def sbM (x y m : Nat) : Nat := (x + (m - y % m)) % m
theorem sbM_zero {x y m : Nat} (h : y % m = 0) : sbM x y m = x % m := by unfold sbM; rw [h, Nat.sub_zero, Nat.add_mod_right]
theorem sbM_pos {x y m : Nat} (hm : 0 < m) (h : 0 < y % m) : (x % m + (m - y % m)) % m = sbM x y m := by unfold sbM; rw [Nat.add_mod, Nat.mod_mod, ← Nat.add_mod]
set_option maxRecDepth 100000 in
set_option maxHeartbeats 1000000 in
theorem mod_Sub (x y m : Nat) (hx8 : x < 256 ^ 128) (hy8 : y < 256 ^ 128) (hm8 : m < 256 ^ 128) (h0 : 0 < m) (w : World) : Calls Tryz.prog 67 #[.string (nS x), .string (nS y), .string (nS m)] w (Ret (.tuple #[.string (nS (sbM x y m)), .int .i64 0]) w) := by
  have HC := Lib.hid (fun w => check_two w (nS x) (nS y) (nS m) _ rfl (nvalid_nS.2 hx8) (nvalid_nS.2 hy8) (nvalid_nS.2 hm8) (empty_nS h0) _ rfl)
  have HR1 := Lib.hid (mod_reducedA x m hx8 hm8 h0)
  have HR2 := Lib.hid (mod_reducedA y m hy8 hm8 h0)
  have ly := Nat.mod_lt y h0
  have lx := Nat.mod_lt x h0
  by_cases hy : y % m = 0
  · have hs := sbM_zero (x := x) hy
    rw [hy, nS_zero] at HR2
    rw [← hs] at HR1
    obtain ⟨s, hs⟩ : ∃ s, nS x = s := ⟨_, rfl⟩
    obtain ⟨t, ht⟩ : ∃ t, nS y = t := ⟨_, rfl⟩
    obtain ⟨u, hu⟩ : ∃ u, nS m = u := ⟨_, rfl⟩
    obtain ⟨v, hv⟩ : ∃ u, nS (sbM x y m) = u := ⟨_, rfl⟩
    rw [hs, ht, hu] at HC
    rw [hs, hu, hv] at HR1
    rw [ht, hu] at HR2
    rw [hs, ht, hu, hv]
    clear hs ht hu hv hx8 hy8 hm8 ly lx hy
    go_enter Tryz.func67, Tryz.ntmps67
    go_wp2_with fail
    refine (HC.out w).mono ?_
    rintro e w1 ⟨rfl, hb1⟩
    have HB1 := Lib.hid ((((Below.refl w.heap.size w).alloc (Nat.le_refl _) _).alloc (by simp) _).trans hb1)
    clear hb1
    go_wp2_with fail
    refine (HR1.out _).mono ?_
    rintro e w2 ⟨rfl, hb2⟩
    have HB2 := Lib.hid (HB1.out.trans (hb2.mono HB1.out.size))
    clear hb2
    go_wp2_with fail
    refine (HR2.out _).mono ?_
    rintro e w3 ⟨rfl, hb3⟩
    have HB3 := Lib.hid (HB2.out.trans (hb3.mono HB2.out.size))
    clear hb3
    go_wp2
    go_ret2
    exact ⟨rfl, HB3.out⟩
  · have hs := sbM_pos (x := x) h0 (Nat.pos_of_ne_zero hy)
    have HS := Lib.hid (nat_Sub_ge m (y % m) hm8 (by omega) (by omega))
    have HP := Lib.hid (mod_plus (x % m) (m - y % m) m lx (by omega) hm8)
    rw [hs] at HP
    have hem := empty_nS (Nat.pos_of_ne_zero hy)
    obtain ⟨s, hs⟩ : ∃ s, nS x = s := ⟨_, rfl⟩
    obtain ⟨t, ht⟩ : ∃ t, nS y = t := ⟨_, rfl⟩
    obtain ⟨u, hu⟩ : ∃ u, nS m = u := ⟨_, rfl⟩
    obtain ⟨v, hv⟩ : ∃ u, nS (sbM x y m) = u := ⟨_, rfl⟩
    obtain ⟨r1, hr1⟩ : ∃ u, nS (x % m) = u := ⟨_, rfl⟩
    obtain ⟨r2, hr2⟩ : ∃ u, nS (y % m) = u := ⟨_, rfl⟩
    obtain ⟨r3, hr3⟩ : ∃ u, nS (m - y % m) = u := ⟨_, rfl⟩
    rw [hs, ht, hu] at HC
    rw [hs, hu, hr1] at HR1
    rw [ht, hu, hr2] at HR2
    rw [hu, hr2, hr3] at HS
    rw [hr1, hr3, hu, hv] at HP
    rw [hr2] at hem
    rw [hs, ht, hu, hv]
    clear hs ht hu hv hr1 hr2 hr3 hx8 hy8 hm8 ly lx hy
    go_enter Tryz.func67, Tryz.ntmps67
    go_wp2_with fail
    refine (HC.out w).mono ?_
    rintro e w1 ⟨rfl, hb1⟩
    have HB1 := Lib.hid ((((Below.refl w.heap.size w).alloc (Nat.le_refl _) _).alloc (by simp) _).trans hb1)
    clear hb1
    go_wp2_with fail
    refine (HR1.out _).mono ?_
    rintro e w2 ⟨rfl, hb2⟩
    have HB2 := Lib.hid (HB1.out.trans (hb2.mono HB1.out.size))
    clear hb2
    go_wp2_with fail
    refine (HR2.out _).mono ?_
    rintro e w3 ⟨rfl, hb3⟩
    have HB3 := Lib.hid (HB2.out.trans (hb3.mono HB2.out.size))
    clear hb3
    go_wp2_with fail
    refine (HS.out _).mono ?_
    rintro e w4 ⟨rfl, hb4⟩
    have HB4 := Lib.hid (HB3.out.trans (hb4.mono HB3.out.size))
    clear hb4
    go_wp2_with fail
    refine (HP.out _).mono ?_
    rintro e w5 ⟨rfl, hb5⟩
    have HB5 := Lib.hid (HB4.out.trans (hb5.mono HB4.out.size))
    clear hb5
    go_wp2
    go_ret2
    exact ⟨rfl, HB5.out⟩
end Go.Proofs.YtndmjfkmnjejkaaGreatDoor

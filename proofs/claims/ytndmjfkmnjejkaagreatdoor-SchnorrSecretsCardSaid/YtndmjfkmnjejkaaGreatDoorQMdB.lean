/- Walks: schnorr.Check and the reference's. -/
import Derived.Test.YtndmjfkmnjejkaaGreatDoorQCtB
import Derived.Test.YtndmjfkmnjejkaaGreatDoorQLdF
import Derived.Test.YtndmjfkmnjejkaaGreatDoorQPwI
import Derived.Test.YtndmjfkmnjejkaaGreatDoorQPeC
set_option linter.unusedVariables false
set_option linter.unusedSimpArgs false
namespace Go.Proofs.YtndmjfkmnjejkaaGreatDoor
open Go.RowKit Go.Lib
def SB (w W : World) (M O G H : ByteArray) : Prop := Bx4 W w.heap.size (.string M) (.string O) (.string G) (.string H) 46 ∧ Below w.heap.size w W
theorem SB.new (w : World) (M O G H : ByteArray) : SB w (w.alloc (.cells #[.string M, .string O, .string G, .string H] 46)) M O G H := ⟨Bx4.new _ _ _ _ _ _, (Below.refl _ _).alloc (Nat.le_refl _) _⟩
theorem SB.next {w W W' : World} {M O G H : ByteArray} (h : SB w W M O G H) (hb : Below W.heap.size W W') : SB w W' M O G H := ⟨h.1.next hb, h.2.trans (hb.mono h.2.size)⟩
theorem all_four {M O G Y : ByteArray} (h : [M, O, G, Y].all nvalid = true) : nvalid M = true ∧ nvalid O = true ∧ nvalid G = true ∧ nvalid Y = true := by
  simp only [List.all_cons, List.all_nil, Bool.and_true, Bool.and_eq_true] at h
  exact ⟨h.1, h.2.1, h.2.2.1, h.2.2.2⟩
theorem chk_small {M O G Y : ByteArray} (h : [M, O, G, Y].all nvalid = true) (hM : M.size ≤ 8) (hc : chkK M O = 0) : O.size ≤ 8 := by
  by_cases h8 : O.size ≤ 8
  · exact h8
  · obtain ⟨a, b, c, d⟩ := all_four h
    have := chkK_long (M := M) (O := O) (G := G) (H := Y) (by unfold kF; rw [a, b, c, d]; rfl) hM h8
    rw [hc] at this; cases this
set_option maxRecDepth 100000 in
set_option maxHeartbeats 4000000 in
theorem sc_Check (M O G Y : ByteArray) (hM : M.size ≤ 8) (hO : O.size ≤ 100) (hG : G.size ≤ 1000) (hY : Y.size ≤ 1000) (w : World) : Calls Tryz.prog 20 #[kV M O G Y] w (Ret (.int .i64 (scK M O G Y)) w) := by
  have hk0 := SB.new w M O G Y
  obtain ⟨W0, hW0⟩ : ∃ W, w.alloc (.cells #[.string M, .string O, .string G, .string Y] 46) = W := ⟨_, rfl⟩
  rw [hW0] at hk0
  have HK0 := Lib.hid hk0
  have hsl := sln_alloc W0 [M, O, G, Y] 22 (by simp)
  have hbb := (Below.refl W0.heap.size W0).alloc (Nat.le_refl _) (.cells #[.string M, .string O, .string G, .string Y] 22)
  have HK1 := Lib.hid (hk0.next hbb)
  have hlz : ∀ z ∈ [M, O, G, Y], z.size ≤ 9223372036854775807 := fun z hz => by
    simp at hz
    rcases hz with h | h | h | h <;> subst h <;> omega
  obtain ⟨W1, hW1⟩ : ∃ W, W0.alloc (.cells #[.string M, .string O, .string G, .string Y] 22) = W := ⟨_, rfl⟩
  have HSL := Lib.hid (show SlN W1 (some ⟨W0.heap.size, 0, none⟩) 4 4 [M, O, G, Y] from hW1 ▸ hsl)
  rw [hW1] at HK1
  obtain ⟨c0, c1, c2, c3⟩ := hk0.1.cells
  clear hk0 hsl hbb
  have HFM := Lib.hid (sc_formed [M, O, G, Y] _ 4 4 (by omega) hlz W1 HSL.out)
  have HCK := Lib.hid (pw_CheckW M O hM hO)
  have HG := Lib.hid (fun (h : O.size ≤ 8) x (hx : nvalid x = true) => sc_generator M O x hM h hx)
  have HMS := Lib.hid hM
  clear hM hO hG hY hlz
  unfold kV
  cases hv : [M, O, G, Y].all nvalid with
  | false =>
    have HR := Lib.hid (show scK M O G Y = 3 from by unfold scK; rw [if_neg (by rw [hv]; decide)])
    rw [hv] at HFM
    rw [HR.out]
    clear hv
    unfold gV at *
    go_enter Tryz.func20, Tryz.ntmps20
    go_wp2_with fail
    try rw [hW1]
    clear hW0 hW1
    refine HFM.out.mono ?_
    rintro ev w2 ⟨rfl, rfl⟩
    clear c0 c1 c2 c3
    obtain ⟨c0, c1, c2, c3⟩ := HK1.out.1.cells
    go_wp2
    go_ret
    exact ⟨rfl, HK1.out.2⟩
  | true =>
    rw [hv] at HFM
    by_cases hc : chkK M O = 0
    · have h8 := chk_small hv HMS.out hc
      obtain ⟨v1, v2, v3, v4⟩ := all_four hv
      have HGG := Lib.hid (HG.out h8 G v3)
      have HGY := Lib.hid (HG.out h8 Y v4)
      have HR := Lib.hid (show scK M O G Y = if (O.toList.isEmpty || !genK M O G || !genK M O Y) = true then 13 else 0 from by unfold scK; rw [if_pos hv, if_pos hc])
      rw [hc] at HCK
      rw [HR.out]
      clear hv hc h8 v1 v2 v3 v4
      cases ho : O.toList.isEmpty with
      | true =>
        simp only [Bool.true_or, if_true]
        unfold gV at *
        go_enter Tryz.func20, Tryz.ntmps20
        go_wp2_with fail
        try rw [hW1]
        clear hW0 hW1
        refine HFM.out.mono ?_
        rintro ev w2 ⟨rfl, rfl⟩
        clear c0 c1 c2 c3
        obtain ⟨c0, c1, c2, c3⟩ := HK1.out.1.cells
        go_wp2_with fail
        refine (HCK.out _).mono ?_
        rintro ev w3 ⟨rfl, hb⟩
        have hk := HK1.out.next hb
        have HK3 := Lib.hid hk
        clear hb c0 c1 c2 c3
        obtain ⟨c0, c1, c2, c3⟩ := hk.1.cells
        clear hk
        go_wp2
        go_ret
        exact ⟨rfl, HK3.out.2⟩
      | false =>
        cases hg : genK M O G with
        | false =>
          rw [hg] at HGG
          simp only [Bool.not_false, Bool.or_true, Bool.true_or, if_true]
          clear hg
          unfold gV at *
          go_enter Tryz.func20, Tryz.ntmps20
          go_wp2_with fail
          try rw [hW1]
          clear hW0 hW1
          refine HFM.out.mono ?_
          rintro ev w2 ⟨rfl, rfl⟩
          clear c0 c1 c2 c3
          obtain ⟨c0, c1, c2, c3⟩ := HK1.out.1.cells
          go_wp2_with fail
          refine (HCK.out _).mono ?_
          rintro ev w3 ⟨rfl, hb⟩
          have hk := HK1.out.next hb
          have HK3 := Lib.hid hk
          clear hb c0 c1 c2 c3
          obtain ⟨c0, c1, c2, c3⟩ := hk.1.cells
          clear hk
          go_wp2_with fail
          refine (HGG.out _).mono ?_
          rintro ev w4 ⟨rfl, hb⟩
          have hk := HK3.out.next hb
          have HK4 := Lib.hid hk
          clear hb c0 c1 c2 c3
          obtain ⟨c0, c1, c2, c3⟩ := hk.1.cells
          clear hk
          go_wp2
          go_ret
          exact ⟨rfl, HK4.out.2⟩
        | true =>
          rw [hg] at HGG
          obtain ⟨gy, hgy⟩ : ∃ z, genK M O Y = z := ⟨_, rfl⟩
          rw [hgy] at HGY ⊢
          clear hg hgy
          cases gy with
          | false =>
            simp only [Bool.not_false, Bool.not_true, Bool.or_true, Bool.false_or, Bool.or_false, if_true]
            unfold gV at *
            go_enter Tryz.func20, Tryz.ntmps20
            go_wp2_with fail
            try rw [hW1]
            clear hW0 hW1
            refine HFM.out.mono ?_
            rintro ev w2 ⟨rfl, rfl⟩
            clear c0 c1 c2 c3
            obtain ⟨c0, c1, c2, c3⟩ := HK1.out.1.cells
            go_wp2_with fail
            refine (HCK.out _).mono ?_
            rintro ev w3 ⟨rfl, hb⟩
            have hk := HK1.out.next hb
            have HK3 := Lib.hid hk
            clear hb c0 c1 c2 c3
            obtain ⟨c0, c1, c2, c3⟩ := hk.1.cells
            clear hk
            go_wp2_with fail
            refine (HGG.out _).mono ?_
            rintro ev w4 ⟨rfl, hb⟩
            have hk := HK3.out.next hb
            have HK4 := Lib.hid hk
            clear hb c0 c1 c2 c3
            obtain ⟨c0, c1, c2, c3⟩ := hk.1.cells
            clear hk
            go_wp2_with fail
            refine (HGY.out _).mono ?_
            rintro ev w5 ⟨rfl, hb⟩
            have hk := HK4.out.next hb
            have HK5 := Lib.hid hk
            clear hb c0 c1 c2 c3
            obtain ⟨c0, c1, c2, c3⟩ := hk.1.cells
            clear hk
            go_wp2
            go_ret
            exact ⟨rfl, HK5.out.2⟩
          | true =>
            simp only [Bool.not_true, Bool.or_false, Bool.false_eq_true, if_false]
            unfold gV at *
            go_enter Tryz.func20, Tryz.ntmps20
            go_wp2_with fail
            try rw [hW1]
            clear hW0 hW1
            refine HFM.out.mono ?_
            rintro ev w2 ⟨rfl, rfl⟩
            clear c0 c1 c2 c3
            obtain ⟨c0, c1, c2, c3⟩ := HK1.out.1.cells
            go_wp2_with fail
            refine (HCK.out _).mono ?_
            rintro ev w3 ⟨rfl, hb⟩
            have hk := HK1.out.next hb
            have HK3 := Lib.hid hk
            clear hb c0 c1 c2 c3
            obtain ⟨c0, c1, c2, c3⟩ := hk.1.cells
            clear hk
            go_wp2_with fail
            refine (HGG.out _).mono ?_
            rintro ev w4 ⟨rfl, hb⟩
            have hk := HK3.out.next hb
            have HK4 := Lib.hid hk
            clear hb c0 c1 c2 c3
            obtain ⟨c0, c1, c2, c3⟩ := hk.1.cells
            clear hk
            go_wp2_with fail
            refine (HGY.out _).mono ?_
            rintro ev w5 ⟨rfl, hb⟩
            have hk := HK4.out.next hb
            have HK5 := Lib.hid hk
            clear hb c0 c1 c2 c3
            obtain ⟨c0, c1, c2, c3⟩ := hk.1.cells
            clear hk
            go_wp2
            go_ret
            exact ⟨rfl, HK5.out.2⟩
    · have HR := Lib.hid (show scK M O G Y = chkK M O from by unfold scK; rw [if_pos hv, if_neg hc])
      obtain ⟨e, he⟩ : ∃ e, chkK M O = e := ⟨_, rfl⟩
      rw [HR.out]
      rw [he] at HCK hc ⊢
      clear hv he
      unfold gV at *
      go_enter Tryz.func20, Tryz.ntmps20
      go_wp2_with fail
      try rw [hW1]
      clear hW0 hW1
      refine HFM.out.mono ?_
      rintro ev w2 ⟨rfl, rfl⟩
      clear c0 c1 c2 c3
      obtain ⟨c0, c1, c2, c3⟩ := HK1.out.1.cells
      go_wp2_with fail
      refine (HCK.out _).mono ?_
      rintro ev w3 ⟨rfl, hb⟩
      have hk := HK1.out.next hb
      have HK3 := Lib.hid hk
      clear hb c0 c1 c2 c3
      obtain ⟨c0, c1, c2, c3⟩ := hk.1.cells
      clear hk
      go_wp2
      go_ret
      exact ⟨rfl, HK3.out.2⟩
end Go.Proofs.YtndmjfkmnjejkaaGreatDoor
/- Walk: modular.reduced of any number. -/
set_option linter.unusedVariables false
set_option linter.unusedSimpArgs false
namespace Go.Proofs.YtndmjfkmnjejkaaGreatDoor
open Go.RowKit Go.Lib
set_option maxRecDepth 100000 in
theorem mod_reducedA (x m : Nat) (hx8 : x < 256 ^ 128) (hm : m < 256 ^ 128) (h0 : 0 < m) (w : World) : Calls Tryz.prog 111 #[.string (nS x), .string (nS m)] w (Ret (.string (nS (x % m))) w) := by
  have HD := Lib.hid (nat_DivModA x m hx8 hm h0)
  obtain ⟨s, hs⟩ : ∃ s, nS x = s := ⟨_, rfl⟩
  obtain ⟨t, ht⟩ : ∃ t, nS m = t := ⟨_, rfl⟩
  rw [hs, ht] at HD
  rw [hs, ht]
  clear hs ht hm hx8
  go_enter Tryz.func111, Tryz.ntmps111
  go_wp2_with fail
  refine (HD.out _).mono ?_
  rintro e w1 ⟨rfl, hb⟩
  have HB := Lib.hid hb
  clear hb
  go_wp2
  go_ret
  exact ⟨rfl, HB.out⟩
end Go.Proofs.YtndmjfkmnjejkaaGreatDoor
/- Walks: modular.plus, Add, Sub. -/
set_option linter.unusedVariables false
set_option linter.unusedSimpArgs false
namespace Go.Proofs.YtndmjfkmnjejkaaGreatDoor
open Go.RowKit
theorem plus_ge {a b m : Nat} (ha : a < m) (hb : b < m) (h : m - b ≤ a) : a - (m - b) = (a + b) % m := by
  have : a + b = (a - (m - b)) + m := by omega
  rw [this, Nat.add_mod_right, Nat.mod_eq_of_lt (by omega)]
theorem plus_lt {a b m : Nat} (hb : b < m) (h : a < m - b) : a + b = (a + b) % m := (Nat.mod_eq_of_lt (by omega)).symm
set_option maxRecDepth 100000 in
set_option maxHeartbeats 1000000 in
theorem mod_plus (a b m : Nat) (ha : a < m) (hb : b < m) (hm : m < 256 ^ 128) (w : World) : Calls Tryz.prog 112 #[.string (nS a), .string (nS b), .string (nS m)] w (Ret (.string (nS ((a + b) % m))) w) := by
  have ha8 := Nat.lt_trans ha hm
  have hb8 := Nat.lt_trans hb hm
  have hr8 : m - b < 256 ^ 128 := by omega
  have HS := Lib.hid (nat_Sub_ge m b hm hb8 (by omega))
  have HCM := Lib.hid (nat_Cmp (nS a) (nS (m - b)) (by have := nS_size_le.2 ha8; omega) (by have := nS_size_le.2 hr8; omega))
  rw [ncmp_n ha8 hr8] at HCM
  by_cases h : m - b ≤ a
  · have hge := cmpI_nonneg h
    have HS2 := Lib.hid (nat_Sub_ge a (m - b) ha8 hr8 h)
    rw [plus_ge ha hb h] at HS2
    obtain ⟨c, hc⟩ : ∃ c, cmpI a (m - b) = c := ⟨_, rfl⟩
    rw [hc] at HCM hge
    obtain ⟨s, hs⟩ : ∃ s, nS a = s := ⟨_, rfl⟩
    obtain ⟨t, ht⟩ : ∃ t, nS b = t := ⟨_, rfl⟩
    obtain ⟨u, hu⟩ : ∃ u, nS m = u := ⟨_, rfl⟩
    obtain ⟨r, hr⟩ : ∃ r, nS (m - b) = r := ⟨_, rfl⟩
    rw [hs, hr] at HCM HS2
    rw [hu, ht, hr] at HS
    rw [hs, ht, hu]
    clear hs ht hu hr hc ha hb hm ha8 hb8 hr8 h
    go_enter Tryz.func112, Tryz.ntmps112
    go_wp2_with fail
    refine (HS.out _).mono ?_
    rintro e w1 ⟨rfl, hb1⟩
    have HB1 := Lib.hid hb1
    clear hb1
    go_wp2_with fail
    refine (HCM.out _).mono ?_
    rintro e w2 ⟨rfl, rfl⟩
    go_wp2_with fail
    refine (HS2.out _).mono ?_
    rintro e w3 ⟨rfl, hb3⟩
    have HB3 := Lib.hid ((HB1.out).trans (hb3.mono (HB1.out.size)))
    clear hb3
    go_wp2
    go_ret
    exact ⟨rfl, HB3.out⟩
  · have hlt : ¬ (0 ≤ cmpI a (m - b)) := by unfold cmpI; rw [if_pos (by omega)]; decide
    have hf : a + b < 256 ^ 128 := by omega
    have HA := Lib.hid (nat_Add a b ha8 hb8)
    rw [show fitR (a + b) = .tuple #[.string (nS ((a + b) % m)), .int .i64 0] from by unfold fitR; rw [if_pos hf, ← plus_lt hb (by omega)]] at HA
    obtain ⟨c, hc⟩ : ∃ c, cmpI a (m - b) = c := ⟨_, rfl⟩
    rw [hc] at HCM hlt
    obtain ⟨s, hs⟩ : ∃ s, nS a = s := ⟨_, rfl⟩
    obtain ⟨t, ht⟩ : ∃ t, nS b = t := ⟨_, rfl⟩
    obtain ⟨u, hu⟩ : ∃ u, nS m = u := ⟨_, rfl⟩
    obtain ⟨r, hr⟩ : ∃ r, nS (m - b) = r := ⟨_, rfl⟩
    rw [hs, hr] at HCM
    rw [hs, ht] at HA
    rw [hu, ht, hr] at HS
    rw [hs, ht, hu]
    clear hs ht hu hr hc ha hb hm ha8 hb8 hr8 h hf
    go_enter Tryz.func112, Tryz.ntmps112
    go_wp2_with fail
    refine (HS.out _).mono ?_
    rintro e w1 ⟨rfl, hb1⟩
    have HB1 := Lib.hid hb1
    clear hb1
    go_wp2_with fail
    refine (HCM.out _).mono ?_
    rintro e w2 ⟨rfl, rfl⟩
    go_wp2_with fail
    refine (HA.out _).mono ?_
    rintro e w3 ⟨rfl, hb3⟩
    have HB3 := Lib.hid ((HB1.out).trans (hb3.mono (HB1.out.size)))
    clear hb3
    go_wp2
    go_ret
    exact ⟨rfl, HB3.out⟩
end Go.Proofs.YtndmjfkmnjejkaaGreatDoor

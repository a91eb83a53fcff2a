/- Walk: dominoref33.Check. -/
import Derived.Test.YtndmjfkmnjejkaaGreatDoorQScB
import Derived.Test.YtndmjfkmnjejkaaGreatDoorQPeR
set_option linter.unusedVariables false
set_option linter.unusedSimpArgs false
namespace Go.Proofs.YtndmjfkmnjejkaaGreatDoor
open Go.RowKit Go.Lib
theorem SlN.cellC {w : World} {b n c : Nat} {l : List ByteArray} (h : SlN w (some ⟨b, 0, none⟩) n c l) {k : Nat} {s : ByteArray} (hk : l[k]? = some s) : w.cell? ⟨b, k, none⟩ = some (.string s) := by
  have := h.get? k hk
  rwa [Nat.zero_add] at this
set_option maxRecDepth 100000 in
set_option maxHeartbeats 4000000 in
theorem r33_Check (M O G Y : ByteArray) (hM : M.size ≤ 8) (hO : O.size ≤ 100) (hG : G.size ≤ 1000) (hY : Y.size ≤ 1000) (w : World) : Calls Tryz.prog 21 #[kV M O G Y] w (Ret (.int .i64 (scK M O G Y)) w) := by
  have hk0 := SB.new w M O G Y
  obtain ⟨W0, hW0⟩ : ∃ W, w.alloc (.cells #[.string M, .string O, .string G, .string Y] 46) = W := ⟨_, rfl⟩
  rw [hW0] at hk0
  have HK0 := Lib.hid hk0
  have hsl := sln_alloc W0 [M, O, G, Y] 22 (by simp)
  have hbb := (Below.refl W0.heap.size W0).alloc (Nat.le_refl _) (.cells #[.string M, .string O, .string G, .string Y] 22)
  have HK1 := Lib.hid (hk0.next hbb)
  have hlz : ∀ z ∈ [M, O, G, Y], z.size ≤ 9223372036854775807 := fun z hz => by
    simp at hz
    rcases hz with h | h | h | h <;> subst h <;> omega
  obtain ⟨W1, hW1⟩ : ∃ W, W0.alloc (.cells #[.string M, .string O, .string G, .string Y] 22) = W := ⟨_, rfl⟩
  have HSL := Lib.hid (show SlN W1 (some ⟨W0.heap.size, 0, none⟩) 4 4 [M, O, G, Y] from hW1 ▸ hsl)
  rw [hW1] at HK1
  obtain ⟨c0, c1, c2, c3⟩ := hk0.1.cells
  clear hk0 hsl hbb
  have HLZ := Lib.hid hlz
  have HCK := Lib.hid (r13_CheckW M O hM hO)
  have HG := Lib.hid (fun (h : O.size ≤ 8) x (hx : nvalid x = true) => r33_generator M O x hM h hx)
  have HMS := Lib.hid hM
  clear hM hO hG hY hlz
  obtain ⟨R, hR⟩ : ∃ R, scK M O G Y = R := ⟨_, rfl⟩
  have HR := Lib.hid hR
  rw [hR]
  clear hR
  unfold kV gV at *
  go_enter Tryz.func21, Tryz.ntmps21
  go_wp2
  try rw [hW1]
  clear hW0 hW1
  go_loopw [4] (fun i wr => ∃ k : Nat, k ≤ 4 ∧ i = .int .i64 k ∧ (∀ j, j < k → ∃ s, [M, O, G, Y][j]? = some s ∧ nvalid s = true) ∧ wr = W1) (fun i _ => 4 - (RowKit.intOf i).toNat)
  case atStart => exact ⟨0, Nat.zero_le _, rfl, fun j h => by omega, rfl⟩
  case round =>
    obtain ⟨k, hk, rfl, hall, rfl⟩ := hrel
    have HALL := Lib.hid hall
    clear hall c0 c1 c2 c3
    obtain ⟨c0, c1, c2, c3⟩ := HK1.out.1.cells
    by_cases hlt : k < 4
    · obtain ⟨x, he⟩ : ∃ s, [M, O, G, Y][k]? = some s := ⟨_, List.getElem?_eq_getElem hlt⟩
      have d0 := HSL.out.cellC he
      have HE := Lib.hid he
      have HV := Lib.hid (r01_Valid x (HLZ.out x (List.mem_of_getElem? he)))
      have hki : (k : Int) < 4 := by omega
      have HKN := Lib.hid hlt
      clear he hk hlt
      cases hvx : nvalid x with
      | false =>
        rw [hvx] at HV
        have HR3 := Lib.hid (show R = 3 from by rw [← HR.out]; unfold scK; rw [if_neg (nall_false HE.out hvx)])
        clear hvx
        go_wp2_with fail
        refine (HV.out _).mono ?_
        rintro ev w2 ⟨rfl, rfl⟩
        go_wp2
        go_ret
        exact ⟨by rw [HR3.out]; rfl, HK1.out.2⟩
      | true =>
        rw [hvx] at HV
        have HA2 := Lib.hid (show ∀ j, j < k + 1 → ∃ s, [M, O, G, Y][j]? = some s ∧ nvalid s = true from fun j hj => by
          by_cases e : j = k
          · subst e; exact ⟨x, HE.out, hvx⟩
          · exact HALL.out j (by omega))
        clear hvx
        go_wp2_with fail
        refine (HV.out _).mono ?_
        rintro ev w2 ⟨rfl, rfl⟩
        go_wp2
        refine ⟨⟨k + 1, by have := HKN.out; omega, by go_num, HA2.out, trivial⟩, ?_⟩
        have := HKN.out; simp [RowKit.intOf]; omega
    · have hkn : k = 4 := by omega
      have hv : [M, O, G, Y].all nvalid = true := nall_true fun j hj => HALL.out j (by rw [hkn]; exact hj)
      have hge : ¬ ((k : Int) < 4) := by omega
      clear hkn hk hlt
      by_cases hc : chkK M O = 0
      · have h8 := chk_small hv HMS.out hc
        obtain ⟨v1, v2, v3, v4⟩ := all_four hv
        have HGG := Lib.hid (HG.out h8 G v3)
        have HGY := Lib.hid (HG.out h8 Y v4)
        have HRR := Lib.hid (show R = if (O.toList.isEmpty || !genK M O G || !genK M O Y) = true then 13 else 0 from by rw [← HR.out]; unfold scK; rw [if_pos hv, if_pos hc])
        rw [hc] at HCK
        clear hv hc h8 v1 v2 v3 v4
        cases ho : O.toList.isEmpty with
        | true =>
          rw [ho] at HGG
          rw [ho] at HRR
          simp only [Bool.not_true, Bool.false_and] at HGG
          simp only [Bool.true_or, if_true] at HRR
          clear ho
          go_wp2_with fail
          refine (HCK.out _).mono ?_
          rintro ev w3 ⟨rfl, hb⟩
          have hk := HK1.out.next hb
          have HK3 := Lib.hid hk
          clear hb c0 c1 c2 c3
          obtain ⟨c0, c1, c2, c3⟩ := hk.1.cells
          clear hk
          go_wp2_with fail
          refine (HGG.out _).mono ?_
          rintro ev w4 ⟨rfl, hb⟩
          have hk := HK3.out.next hb
          have HK4 := Lib.hid hk
          clear hb c0 c1 c2 c3
          obtain ⟨c0, c1, c2, c3⟩ := hk.1.cells
          clear hk
          go_wp2
          go_ret
          exact ⟨by rw [HRR.out]; rfl, HK4.out.2⟩
        | false =>
          rw [ho] at HGG HGY HRR
          simp only [Bool.not_false, Bool.true_and] at HGG HGY
          simp only [Bool.false_or] at HRR
          clear ho
          obtain ⟨gg, hgg⟩ : ∃ z, genK M O G = z := ⟨_, rfl⟩
          obtain ⟨gy, hgy⟩ : ∃ z, genK M O Y = z := ⟨_, rfl⟩
          rw [hgg] at HGG HRR
          rw [hgy] at HGY HRR
          clear hgg hgy
          cases gg with
          | false =>
            simp only [Bool.not_false, Bool.true_or, if_true] at HRR
            go_wp2_with fail
            refine (HCK.out _).mono ?_
            rintro ev w3 ⟨rfl, hb⟩
            have hk := HK1.out.next hb
            have HK3 := Lib.hid hk
            clear hb c0 c1 c2 c3
            obtain ⟨c0, c1, c2, c3⟩ := hk.1.cells
            clear hk
            go_wp2_with fail
            refine (HGG.out _).mono ?_
            rintro ev w4 ⟨rfl, hb⟩
            have hk := HK3.out.next hb
            have HK4 := Lib.hid hk
            clear hb c0 c1 c2 c3
            obtain ⟨c0, c1, c2, c3⟩ := hk.1.cells
            clear hk
            go_wp2
            go_ret
            exact ⟨by rw [HRR.out]; rfl, HK4.out.2⟩
          | true =>
            go_wp2_with fail
            refine (HCK.out _).mono ?_
            rintro ev w3 ⟨rfl, hb⟩
            have hk := HK1.out.next hb
            have HK3 := Lib.hid hk
            clear hb c0 c1 c2 c3
            obtain ⟨c0, c1, c2, c3⟩ := hk.1.cells
            clear hk
            go_wp2_with fail
            refine (HGG.out _).mono ?_
            rintro ev w4 ⟨rfl, hb⟩
            have hk := HK3.out.next hb
            have HK4 := Lib.hid hk
            clear hb c0 c1 c2 c3
            obtain ⟨c0, c1, c2, c3⟩ := hk.1.cells
            clear hk
            go_wp2_with fail
            refine (HGY.out _).mono ?_
            rintro ev w5 ⟨rfl, hb⟩
            have hk := HK4.out.next hb
            have HK5 := Lib.hid hk
            clear hb c0 c1 c2 c3
            obtain ⟨c0, c1, c2, c3⟩ := hk.1.cells
            clear hk
            cases gy with
            | false =>
              simp only [Bool.not_false, Bool.not_true, Bool.false_or, if_true] at HRR
              go_wp2
              go_ret
              exact ⟨by rw [HRR.out]; rfl, HK5.out.2⟩
            | true =>
              simp only [Bool.not_true, Bool.or_false, Bool.false_eq_true, if_false] at HRR
              go_wp2
              go_ret
              exact ⟨by rw [HRR.out]; rfl, HK5.out.2⟩
      · have HRR := Lib.hid (show R = chkK M O from by rw [← HR.out]; unfold scK; rw [if_pos hv, if_neg hc])
        obtain ⟨e, he⟩ : ∃ e, chkK M O = e := ⟨_, rfl⟩
        rw [he] at HCK hc HRR
        clear hv he
        go_wp2_with fail
        refine (HCK.out _).mono ?_
        rintro ev w3 ⟨rfl, hb⟩
        have hk := HK1.out.next hb
        have HK3 := Lib.hid hk
        clear hb c0 c1 c2 c3
        obtain ⟨c0, c1, c2, c3⟩ := hk.1.cells
        clear hk
        go_wp2
        go_ret
        exact ⟨by rw [HRR.out]; rfl, HK3.out.2⟩
end Go.Proofs.YtndmjfkmnjejkaaGreatDoor
/- Walk: modular.Sub. -/
set_option linter.unusedVariables false
set_option linter.unusedSimpArgs false
namespace Go.Proofs.YtndmjfkmnjejkaaGreatDoor
open Go.RowKit
def sbM (x y m : Nat) : Nat := (x + (m - y % m)) % m
theorem sbM_zero {x y m : Nat} (h : y % m = 0) : sbM x y m = x % m := by unfold sbM; rw [h, Nat.sub_zero, Nat.add_mod_right]
theorem sbM_pos {x y m : Nat} (hm : 0 < m) (h : 0 < y % m) : (x % m + (m - y % m)) % m = sbM x y m := by unfold sbM; rw [Nat.add_mod, Nat.mod_mod, ← Nat.add_mod]
set_option maxRecDepth 100000 in
set_option maxHeartbeats 1000000 in
theorem mod_Sub (x y m : Nat) (hx8 : x < 256 ^ 128) (hy8 : y < 256 ^ 128) (hm8 : m < 256 ^ 128) (h0 : 0 < m) (w : World) : Calls Tryz.prog 67 #[.string (nS x), .string (nS y), .string (nS m)] w (Ret (.tuple #[.string (nS (sbM x y m)), .int .i64 0]) w) := by
  have HC := Lib.hid (fun w => check_two w (nS x) (nS y) (nS m) _ rfl (nvalid_nS.2 hx8) (nvalid_nS.2 hy8) (nvalid_nS.2 hm8) (empty_nS h0) _ rfl)
  have HR1 := Lib.hid (mod_reducedA x m hx8 hm8 h0)
  have HR2 := Lib.hid (mod_reducedA y m hy8 hm8 h0)
  have ly := Nat.mod_lt y h0
  have lx := Nat.mod_lt x h0
  by_cases hy : y % m = 0
  · have hs := sbM_zero (x := x) hy
    rw [hy, nS_zero] at HR2
    rw [← hs] at HR1
    obtain ⟨s, hs⟩ : ∃ s, nS x = s := ⟨_, rfl⟩
    obtain ⟨t, ht⟩ : ∃ t, nS y = t := ⟨_, rfl⟩
    obtain ⟨u, hu⟩ : ∃ u, nS m = u := ⟨_, rfl⟩
    obtain ⟨v, hv⟩ : ∃ u, nS (sbM x y m) = u := ⟨_, rfl⟩
    rw [hs, ht, hu] at HC
    rw [hs, hu, hv] at HR1
    rw [ht, hu] at HR2
    rw [hs, ht, hu, hv]
    clear hs ht hu hv hx8 hy8 hm8 ly lx hy
    go_enter Tryz.func67, Tryz.ntmps67
    go_wp2_with fail
    refine (HC.out w).mono ?_
    rintro e w1 ⟨rfl, hb1⟩
    have HB1 := Lib.hid ((((Below.refl w.heap.size w).alloc (Nat.le_refl _) _).alloc (by simp) _).trans hb1)
    clear hb1
    go_wp2_with fail
    refine (HR1.out _).mono ?_
    rintro e w2 ⟨rfl, hb2⟩
    have HB2 := Lib.hid (HB1.out.trans (hb2.mono HB1.out.size))
    clear hb2
    go_wp2_with fail
    refine (HR2.out _).mono ?_
    rintro e w3 ⟨rfl, hb3⟩
    have HB3 := Lib.hid (HB2.out.trans (hb3.mono HB2.out.size))
    clear hb3
    go_wp2
    go_ret2
    exact ⟨rfl, HB3.out⟩
  · have hs := sbM_pos (x := x) h0 (Nat.pos_of_ne_zero hy)
    have HS := Lib.hid (nat_Sub_ge m (y % m) hm8 (by omega) (by omega))
    have HP := Lib.hid (mod_plus (x % m) (m - y % m) m lx (by omega) hm8)
    rw [hs] at HP
    have hem := empty_nS (Nat.pos_of_ne_zero hy)
    obtain ⟨s, hs⟩ : ∃ s, nS x = s := ⟨_, rfl⟩
    obtain ⟨t, ht⟩ : ∃ t, nS y = t := ⟨_, rfl⟩
    obtain ⟨u, hu⟩ : ∃ u, nS m = u := ⟨_, rfl⟩
    obtain ⟨v, hv⟩ : ∃ u, nS (sbM x y m) = u := ⟨_, rfl⟩
    obtain ⟨r1, hr1⟩ : ∃ u, nS (x % m) = u := ⟨_, rfl⟩
    obtain ⟨r2, hr2⟩ : ∃ u, nS (y % m) = u := ⟨_, rfl⟩
    obtain ⟨r3, hr3⟩ : ∃ u, nS (m - y % m) = u := ⟨_, rfl⟩
    rw [hs, ht, hu] at HC
    rw [hs, hu, hr1] at HR1
    rw [ht, hu, hr2] at HR2
    rw [hu, hr2, hr3] at HS
    rw [hr1, hr3, hu, hv] at HP
    rw [hr2] at hem
    rw [hs, ht, hu, hv]
    clear hs ht hu hv hr1 hr2 hr3 hx8 hy8 hm8 ly lx hy
    go_enter Tryz.func67, Tryz.ntmps67
    go_wp2_with fail
    refine (HC.out w).mono ?_
    rintro e w1 ⟨rfl, hb1⟩
    have HB1 := Lib.hid ((((Below.refl w.heap.size w).alloc (Nat.le_refl _) _).alloc (by simp) _).trans hb1)
    clear hb1
    go_wp2_with fail
    refine (HR1.out _).mono ?_
    rintro e w2 ⟨rfl, hb2⟩
    have HB2 := Lib.hid (HB1.out.trans (hb2.mono HB1.out.size))
    clear hb2
    go_wp2_with fail
    refine (HR2.out _).mono ?_
    rintro e w3 ⟨rfl, hb3⟩
    have HB3 := Lib.hid (HB2.out.trans (hb3.mono HB2.out.size))
    clear hb3
    go_wp2_with fail
    refine (HS.out _).mono ?_
    rintro e w4 ⟨rfl, hb4⟩
    have HB4 := Lib.hid (HB3.out.trans (hb4.mono HB3.out.size))
    clear hb4
    go_wp2_with fail
    refine (HP.out _).mono ?_
    rintro e w5 ⟨rfl, hb5⟩
    have HB5 := Lib.hid (HB4.out.trans (hb5.mono HB4.out.size))
    clear hb5
    go_wp2
    go_ret2
    exact ⟨rfl, HB5.out⟩
end Go.Proofs.YtndmjfkmnjejkaaGreatDoor
/- Walks: schnorr.below, isSecret. -/
set_option linter.unusedVariables false
set_option linter.unusedSimpArgs false
namespace Go.Proofs.YtndmjfkmnjejkaaGreatDoor
open Go.RowKit Go.Lib
theorem cmpI_ltC {x y : Nat} : (cmpI x y < 0) = (x < y) := by
  unfold cmpI
  rw [eq_iff_iff]
  split
  · simp_all
  · split <;> simp_all
def SG (w W : World) (M O G Y c r : ByteArray) : Prop := SB w W M O G Y ∧ Bx2 W (w.heap.size + 1) (.string c) (.string r) 52
theorem SG.new (w : World) (M O G Y c r : ByteArray) : SG w ((w.alloc (.cells #[.string M, .string O, .string G, .string Y] 46)).alloc (.cells #[.string c, .string r] 52)) M O G Y c r := by
  refine ⟨(SB.new w M O G Y).next ((Below.refl _ _).alloc (Nat.le_refl _) _), ?_⟩
  have := Bx2.new (w.alloc (.cells #[.string M, .string O, .string G, .string Y] 46)) (.string c) (.string r) 52
  rwa [World.size_alloc] at this
theorem SG.next {w W W' : World} {M O G Y c r : ByteArray} (h : SG w W M O G Y c r) (hb : Below W.heap.size W W') : SG w W' M O G Y c r := ⟨h.1.next hb, h.2.next hb⟩
set_option maxRecDepth 100000 in
set_option maxHeartbeats 1000000 in
theorem sc_below (M O G Y c r : ByteArray) (vO : nvalid O = true) (vc : nvalid c = true) (vr : nvalid r = true) (w : World) : Calls Tryz.prog 65 #[kV M O G Y, .agg #[.string c, .string r]] w (Ret (.bool (decide (num c < num O ∧ num r < num O))) w) := by
  have lO := nvalid_lt vO
  have lc := nvalid_lt vc
  have lr := nvalid_lt vr
  have HC1 := Lib.hid (nat_Cmp (nS (num c)) (nS (num O)) (by have := nS_size_le.2 lc; omega) (by have := nS_size_le.2 lO; omega))
  have HC2 := Lib.hid (nat_Cmp (nS (num r)) (nS (num O)) (by have := nS_size_le.2 lr; omega) (by have := nS_size_le.2 lO; omega))
  rw [ncmp_n lc lO, ← nS_num vc, ← nS_num vO] at HC1
  rw [ncmp_n lr lO, ← nS_num vr, ← nS_num vO] at HC2
  have h1 := cmpI_ltC (x := num c) (y := num O)
  have h2 := cmpI_ltC (x := num r) (y := num O)
  obtain ⟨k1, hk1⟩ : ∃ k, cmpI (num c) (num O) = k := ⟨_, rfl⟩
  obtain ⟨k2, hk2⟩ : ∃ k, cmpI (num r) (num O) = k := ⟨_, rfl⟩
  rw [hk1] at HC1 h1
  rw [hk2] at HC2 h2
  have HX0 := Lib.hid (SG.new w M O G Y c r)
  obtain ⟨W0, hW0⟩ : ∃ W, (w.alloc (.cells #[.string M, .string O, .string G, .string Y] 46)).alloc (.cells #[.string c, .string r] 52) = W := ⟨_, rfl⟩
  rw [hW0] at HX0
  obtain ⟨c0, c1, c2, c3⟩ := HX0.out.1.1.cells
  have d0 := HX0.out.2.c0
  have d1 := HX0.out.2.c1
  by_cases ha : num c < num O
  · have hneg : k1 < 0 := by rw [h1]; exact ha
    have HR := Lib.hid (show decide (num c < num O ∧ num r < num O) = decide (k2 < 0) from by
      rw [decide_eq_decide, h2]; exact ⟨fun h => h.2, fun h => ⟨ha, h⟩⟩)
    rw [HR.out]
    unfold kV
    clear hk1 hk2 h1 h2 ha lO lc lr
    go_enter Tryz.func65, Tryz.ntmps65
    go_wp2_with fail
    try rw [hW0]
    clear hW0
    refine (HC1.out _).mono ?_
    rintro ev w1 ⟨rfl, rfl⟩
    go_wp2_with fail
    refine (HC2.out _).mono ?_
    rintro ev w2 ⟨rfl, rfl⟩
    go_wp2
    go_ret
    exact ⟨rfl, HX0.out.1.2⟩
  · have hneg : ¬ (k1 < 0) := by rw [h1]; exact ha
    have HR := Lib.hid (show decide (num c < num O ∧ num r < num O) = false from decide_eq_false fun h => ha h.1)
    rw [HR.out]
    unfold kV
    clear hk1 hk2 h1 h2 ha lO lc lr
    go_enter Tryz.func65, Tryz.ntmps65
    go_wp2_with fail
    try rw [hW0]
    clear hW0
    refine (HC1.out _).mono ?_
    rintro ev w1 ⟨rfl, rfl⟩
    go_wp2
    go_ret
    exact ⟨rfl, HX0.out.1.2⟩
end Go.Proofs.YtndmjfkmnjejkaaGreatDoor

/- Walks: dominoref02.Neg, Mul, Add, Sub, of all canonical integers. -/
import Derived.Test.YtndmjfkmnjejkaaGreatDoorQPeH
set_option linter.unusedVariables false
set_option linter.unusedSimpArgs false
namespace Go.Proofs.YtndmjfkmnjejkaaGreatDoor
open Go.RowKit
def fitZ (z : Int) : Value := if z.natAbs < 256 ^ 128 then .tuple #[intV z, .int .i64 0] else .tuple #[intV 0, .int .i64 5]
theorem fitR_cut (n : Nat) : ∃ (k : Nat) (c : Int), fitR n = .tuple #[.string (nS k), .int .i64 c] ∧ ∀ (z : Int) (b : Bool), z.natAbs = n → sg b n = z → fitZ z = .tuple #[intV (sg b k), .int .i64 c] := by
  unfold fitR
  by_cases h : n < 256 ^ 128
  · rw [if_pos h]
    exact ⟨n, 0, rfl, fun z b hz hs => by unfold fitZ; rw [if_pos (by rw [hz]; exact h), hs]⟩
  · rw [if_neg h]
    exact ⟨0, 5, by rw [nS_zero], fun z b hz hs => by unfold fitZ; rw [if_neg (by rw [hz]; exact h)]; cases b <;> rfl⟩
def I3 (w W : World) (x0 x1 y0 y1 r0 r1 : Value) : Prop := Bx2 W w.heap.size x0 x1 28 ∧ Bx2 W (w.heap.size + 1) y0 y1 28 ∧ Bx2 W (w.heap.size + 1 + 1) r0 r1 28 ∧ Below w.heap.size w W
theorem I3.new (w : World) (x0 x1 y0 y1 r0 r1 : Value) : I3 w (((w.alloc (.cells #[x0, x1] 28)).alloc (.cells #[y0, y1] 28)).alloc (.cells #[r0, r1] 28)) x0 x1 y0 y1 r0 r1 := by
  refine ⟨((Bx2.new w _ _ _).next ((Below.refl _ _).alloc (Nat.le_refl _) _)).next ((Below.refl _ _).alloc (Nat.le_refl _) _), ?_, ?_, (((Below.refl w.heap.size w).alloc (Nat.le_refl _) _).alloc (by simp) _).alloc (by simp; omega) _⟩
  · have := Bx2.new (w.alloc (.cells #[x0, x1] 28)) y0 y1 28
    rw [World.size_alloc] at this
    exact this.next ((Below.refl _ _).alloc (Nat.le_refl _) _)
  · have := Bx2.new ((w.alloc (.cells #[x0, x1] 28)).alloc (.cells #[y0, y1] 28)) r0 r1 28
    rw [World.size_alloc, World.size_alloc] at this
    exact this
theorem I3.next {w W W' : World} {x0 x1 y0 y1 r0 r1 : Value} (h : I3 w W x0 x1 y0 y1 r0 r1) (hb : Below W.heap.size W W') : I3 w W' x0 x1 y0 y1 r0 r1 := by
  have hs : w.heap.size ≤ W.heap.size := Nat.le_of_lt h.1.lt
  exact ⟨h.1.next hb, h.2.1.next hb, h.2.2.1.next hb, h.2.2.2.trans (hb.mono hs)⟩
theorem I3.cells {w W : World} {x0 x1 y0 y1 r0 r1 : Value} (h : I3 w W x0 x1 y0 y1 r0 r1) : W.cell? ⟨w.heap.size, 0, none⟩ = some x0 ∧ W.cell? ⟨w.heap.size, 1, none⟩ = some x1 ∧ W.cell? ⟨w.heap.size + 1, 0, none⟩ = some y0 ∧ W.cell? ⟨w.heap.size + 1, 1, none⟩ = some y1 ∧ W.cell? ⟨w.heap.size + 1 + 1, 0, none⟩ = some r0 ∧ W.cell? ⟨w.heap.size + 1 + 1, 1, none⟩ = some r1 ∧ W.frozen? ⟨w.heap.size + 1 + 1, 0, none⟩ = false ∧ W.frozen? ⟨w.heap.size + 1 + 1, 1, none⟩ = false :=
  ⟨h.1.c0, h.1.c1, h.2.1.c0, h.2.1.c1, h.2.2.1.c0, h.2.2.1.c1, h.2.2.1.f0, h.2.2.1.f1⟩
theorem I3.done {w W : World} {x0 x1 y0 y1 r0 r1 : Value} (h : I3 w W x0 x1 y0 y1 r0 r1) (u v : Value) : ((W.setCell ⟨w.heap.size + 1 + 1, 0, none⟩ u).setCell ⟨w.heap.size + 1 + 1, 1, none⟩ v).cell? ⟨w.heap.size + 1 + 1, 0, none⟩ = some u ∧ ((W.setCell ⟨w.heap.size + 1 + 1, 0, none⟩ u).setCell ⟨w.heap.size + 1 + 1, 1, none⟩ v).cell? ⟨w.heap.size + 1 + 1, 1, none⟩ = some v ∧ Below w.heap.size w ((W.setCell ⟨w.heap.size + 1 + 1, 0, none⟩ u).setCell ⟨w.heap.size + 1 + 1, 1, none⟩ v) := by
  have hY := h.2.2.1.set2 (u := u) (v := v)
  exact ⟨hY.c0, hY.c1, (h.2.2.2.setCell (p := ⟨w.heap.size + 1 + 1, 0, none⟩) (by simp only []; omega) _).setCell (p := ⟨w.heap.size + 1 + 1, 1, none⟩) (by simp only []; omega) _⟩
set_option maxRecDepth 100000 in
theorem r01_Cmp (x y : Nat) (hx : x < 256 ^ 128) (hy : y < 256 ^ 128) (w : World) : Calls Tryz.prog 146 #[.string (nS x), .string (nS y)] w (Ret (.int .i64 (cmpI x y)) w) := by
  have HV1 := Lib.hid (r01_Valid (nS x) (by have := nS_size_le.2 hx; omega))
  have HV2 := Lib.hid (r01_Valid (nS y) (by have := nS_size_le.2 hy; omega))
  rw [nvalid_nS.2 hx] at HV1
  rw [nvalid_nS.2 hy] at HV2
  have HO := Lib.hid (r01_Order (nS x) (nS y) (by have := nS_size_le.2 hx; omega) (by have := nS_size_le.2 hy; omega))
  rw [ordB_nS] at HO
  obtain ⟨s, hs⟩ : ∃ s, nS x = s := ⟨_, rfl⟩
  obtain ⟨t, ht⟩ : ∃ t, nS y = t := ⟨_, rfl⟩
  rw [hs] at HV1 HO ⊢
  rw [ht] at HV2 HO ⊢
  clear hs ht hx hy
  go_enter Tryz.func146, Tryz.ntmps146
  go_wp2_with fail
  refine (HV1.out _).mono ?_
  rintro e w1 ⟨rfl, rfl⟩
  go_wp2_with fail
  refine (HV2.out _).mono ?_
  rintro e w1 ⟨rfl, rfl⟩
  go_wp2_with fail
  refine (HO.out _).mono ?_
  rintro e w2 ⟨rfl, hb⟩
  have HB := Lib.hid hb
  clear hb
  go_wp2
  go_ret
  exact ⟨rfl, HB.out⟩
set_option maxRecDepth 100000 in
set_option maxHeartbeats 1000000 in
theorem r02_Neg (z : Int) (hz : z.natAbs < 256 ^ 128) (w : World) : Calls Tryz.prog 227 #[intV z] w (Ret (intV (-z)) w) := by
  have HV := Lib.hid (r02_Valid_n z hz)
  have HM := Lib.hid (r02_Make_n (!decide (z < 0)) z.natAbs)
  have HE := Lib.hid (show sg (!decide (z < 0)) z.natAbs = -z from by
    unfold sg
    by_cases h : z < 0
    · rw [decide_eq_true h]; simp; omega
    · rw [decide_eq_false h]; simp; omega)
  rw [HE.out] at HM
  unfold intV zV at *
  obtain ⟨a, ha⟩ : ∃ a, decide (z < 0) = a := ⟨_, rfl⟩
  obtain ⟨s, hs⟩ : ∃ s, nS z.natAbs = s := ⟨_, rfl⟩
  obtain ⟨b, hb⟩ : ∃ b, decide (-z < 0) = b := ⟨_, rfl⟩
  obtain ⟨t, ht⟩ : ∃ t, nS (-z).natAbs = t := ⟨_, rfl⟩
  rw [ha, hs] at HV
  rw [ha, hs, hb, ht] at HM
  rw [ha, hs, hb, ht]
  clear ha hs hb ht hz HE
  go_enter Tryz.func227, Tryz.ntmps227
  go_wp2_with fail
  refine (HV.out _).mono ?_
  rintro e w1 ⟨rfl, hb1⟩
  have HB0 := Lib.hid (((Below.refl w.heap.size w).alloc (Nat.le_refl _) (.cells #[.bool a, .string s] 28)).alloc (by simp) (.cells #[.bool false, .string ⟨#[]⟩] 28))
  have hX1 := ((Bx2.new w (.bool a) (.string s) 28).kept ((Below.refl _ _).alloc (Nat.le_refl _) (.cells #[.bool false, .string ⟨#[]⟩] 28)) (by simp)).next hb1
  have hY0 : Bx2 ((w.alloc (.cells #[.bool a, .string s] 28)).alloc (.cells #[.bool false, .string ⟨#[]⟩] 28)) (w.heap.size + 1) (.bool false) (.string ⟨#[]⟩) 28 := by
    have := Bx2.new (w.alloc (.cells #[.bool a, .string s] 28)) (.bool false) (.string ⟨#[]⟩) 28
    rwa [World.size_alloc] at this
  have HY1 := Lib.hid (hY0.next hb1)
  have HB1 := Lib.hid (HB0.out.trans (hb1.mono HB0.out.size))
  have c0 := hX1.c0
  have c1 := hX1.c1
  clear hb1 hY0 hX1
  go_wp2_with fail
  refine (HM.out _).mono ?_
  rintro e w2 ⟨rfl, hb2⟩
  have hY2 := HY1.out.next hb2
  have HY2 := Lib.hid hY2
  have HB2 := Lib.hid (HB1.out.trans (hb2.mono HB1.out.size))
  have d0 := hY2.c0
  have d1 := hY2.c1
  have f0 := hY2.f0
  have f1 := hY2.f1
  clear hb2 hY2
  go_wp2
  have hY := HY2.out.set2 (u := .bool b) (v := .string t)
  have q0 := hY.c0
  have q1 := hY.c1
  exact bodyPost_ret (v := .agg #[.bool b, .string t]) (by simp [results, Tryz.results227, go_sem, q0, q1]) rfl ⟨rfl, (HB2.out.setCell (p := ⟨w.heap.size + 1, 0, none⟩) (by simp) _).setCell (p := ⟨w.heap.size + 1, 1, none⟩) (by simp) _⟩
set_option maxRecDepth 100000 in
set_option maxHeartbeats 1000000 in
theorem r02_Mul (a b : Int) (ha : a.natAbs < 256 ^ 128) (hb : b.natAbs < 256 ^ 128) (w : World) : Calls Tryz.prog 169 #[intV a, intV b] w (Ret (fitZ (a * b)) w) := by
  have HVA := Lib.hid (r02_Valid_n a ha)
  have HVB := Lib.hid (r02_Valid_n b hb)
  have HM := Lib.hid (r01_Mul a.natAbs b.natAbs ha hb)
  obtain ⟨k, rc, hk1, hk2⟩ := fitR_cut (a.natAbs * b.natAbs)
  have hsg : sg (decide (a < 0) != decide (b < 0)) (a.natAbs * b.natAbs) = a * b := by
    unfold sg
    by_cases h1 : a < 0
    · by_cases h2 : b < 0
      · rw [decide_eq_true h1, decide_eq_true h2, if_neg (by decide), Int.natCast_mul, Int.ofNat_natAbs_of_nonpos (by omega), Int.ofNat_natAbs_of_nonpos (by omega), Int.neg_mul_neg]
      · rw [decide_eq_true h1, decide_eq_false h2, if_pos (by decide), Int.natCast_mul, Int.ofNat_natAbs_of_nonpos (by omega), Int.natAbs_of_nonneg (by omega), Int.neg_mul, Int.neg_neg]
    · by_cases h2 : b < 0
      · rw [decide_eq_false h1, decide_eq_true h2, if_pos (by decide), Int.natCast_mul, Int.natAbs_of_nonneg (by omega), Int.ofNat_natAbs_of_nonpos (by omega), Int.mul_neg, Int.neg_neg]
      · rw [decide_eq_false h1, decide_eq_false h2, if_neg (by decide), Int.natCast_mul, Int.natAbs_of_nonneg (by omega), Int.natAbs_of_nonneg (by omega)]
  rw [hk2 (a * b) _ (Int.natAbs_mul a b) hsg]
  rw [hk1] at HM
  have HMK := Lib.hid (r02_Make_n (decide (a < 0) != decide (b < 0)) k)
  unfold intV zV at HVA HVB
  obtain ⟨p, hp⟩ : ∃ p, decide (a < 0) = p := ⟨_, rfl⟩
  obtain ⟨q, hq⟩ : ∃ q, decide (b < 0) = q := ⟨_, rfl⟩
  obtain ⟨s, hs⟩ : ∃ s, nS a.natAbs = s := ⟨_, rfl⟩
  obtain ⟨t, ht⟩ : ∃ t, nS b.natAbs = t := ⟨_, rfl⟩
  rw [hp, hs] at HVA
  rw [hq, ht] at HVB
  rw [show intV a = .agg #[.bool p, .string s] from by rw [← hp, ← hs]; rfl, show intV b = .agg #[.bool q, .string t] from by rw [← hq, ← ht]; rfl]
  rw [hp, hq] at HMK
  rw [hp, hq]
  rw [hs, ht] at HM
  obtain ⟨kk, hkk⟩ : ∃ kk, nS k = kk := ⟨_, rfl⟩
  rw [hkk] at HM HMK
  unfold intV zV at HMK ⊢
  obtain ⟨u, hu⟩ : ∃ u, decide (sg (p != q) k < 0) = u := ⟨_, rfl⟩
  obtain ⟨v, hv⟩ : ∃ v, nS (sg (p != q) k).natAbs = v := ⟨_, rfl⟩
  rw [hu, hv] at HMK ⊢
  clear hp hq hs ht hkk hu hv hk1 hk2 hsg ha hb
  go_enter Tryz.func169, Tryz.ntmps169
  have hi := I3.new w (.bool p) (.string s) (.bool q) (.string t) (.bool false) (.string ⟨#[]⟩)
  obtain ⟨W0, hW0⟩ : ∃ W0, ((w.alloc (.cells #[.bool p, .string s] 28)).alloc (.cells #[.bool q, .string t] 28)).alloc (.cells #[.bool false, .string ⟨#[]⟩] 28) = W0 := ⟨_, rfl⟩
  rw [hW0] at hi
  have HI := Lib.hid hi
  obtain ⟨c0, c1, d0, d1, e0, e1, f0, f1⟩ := hi.cells
  clear hi
  go_wp2_with fail
  try rw [hW0]
  clear hW0
  refine (HVA.out _).mono ?_
  rintro ev w1 ⟨rfl, hb⟩
  have hi := HI.out.next hb
  have HI := Lib.hid hi
  clear hb c0 c1 d0 d1 e0 e1 f0 f1
  obtain ⟨c0, c1, d0, d1, e0, e1, f0, f1⟩ := hi.cells
  clear hi
  go_wp2_with fail
  refine (HVB.out _).mono ?_
  rintro ev w2 ⟨rfl, hb⟩
  have hi := HI.out.next hb
  have HI := Lib.hid hi
  clear hb c0 c1 d0 d1 e0 e1 f0 f1
  obtain ⟨c0, c1, d0, d1, e0, e1, f0, f1⟩ := hi.cells
  clear hi
  go_wp2_with fail
  refine (HM.out _).mono ?_
  rintro ev w3 ⟨rfl, hb⟩
  have hi := HI.out.next hb
  have HI := Lib.hid hi
  clear hb c0 c1 d0 d1 e0 e1 f0 f1
  obtain ⟨c0, c1, d0, d1, e0, e1, f0, f1⟩ := hi.cells
  clear hi
  go_wp2_with fail
  refine (HMK.out _).mono ?_
  rintro ev w4 ⟨rfl, hb⟩
  have hi := HI.out.next hb
  have HI := Lib.hid hi
  clear hb c0 c1 d0 d1 e0 e1 f0 f1
  obtain ⟨c0, c1, d0, d1, e0, e1, f0, f1⟩ := hi.cells
  clear hi
  go_wp2
  obtain ⟨q0, q1, qb⟩ := HI.out.done (.bool u) (.string v)
  exact bodyPost_ret (v := .tuple #[.agg #[.bool u, .string v], .int .i64 rc]) (by simp [results, Tryz.results169, go_sem, q0, q1]) rfl ⟨rfl, qb⟩
set_option maxRecDepth 100000 in
set_option maxHeartbeats 1000000 in
theorem r02_Add_same (a b : Int) (ha : a.natAbs < 256 ^ 128) (hb : b.natAbs < 256 ^ 128) (hpq : (decide (a < 0) == decide (b < 0)) = true) (w : World) : Calls Tryz.prog 170 #[intV a, intV b] w (Ret (fitZ (a + b)) w) := by
  have HVA := Lib.hid (r02_Valid_n a ha)
  have HVB := Lib.hid (r02_Valid_n b hb)
  have HM := Lib.hid (r01_Add a.natAbs b.natAbs ha hb)
  obtain ⟨k, rc, hk1, hk2⟩ := fitR_cut (a.natAbs + b.natAbs)
  have he := eq_of_beq hpq
  have hab : (a < 0 ↔ b < 0) := decide_eq_decide.1 he
  have hsg : sg (decide (a < 0)) (a.natAbs + b.natAbs) = a + b := by
    unfold sg
    by_cases h1 : a < 0
    · have := hab.1 h1
      rw [decide_eq_true h1, if_pos rfl]; omega
    · have : ¬ b < 0 := fun h => h1 (hab.2 h)
      rw [decide_eq_false h1, if_neg (by decide)]; omega
  rw [hk2 (a + b) _ (by omega) hsg]
  rw [hk1] at HM
  have HMK := Lib.hid (r02_Make_n (decide (a < 0)) k)
  unfold intV zV at HVA HVB
  obtain ⟨p, hp⟩ : ∃ p, decide (a < 0) = p := ⟨_, rfl⟩
  obtain ⟨q, hq⟩ : ∃ q, decide (b < 0) = q := ⟨_, rfl⟩
  obtain ⟨s, hs⟩ : ∃ s, nS a.natAbs = s := ⟨_, rfl⟩
  obtain ⟨t, ht⟩ : ∃ t, nS b.natAbs = t := ⟨_, rfl⟩
  rw [hp, hs] at HVA
  rw [hq, ht] at HVB
  rw [show intV a = .agg #[.bool p, .string s] from by rw [← hp, ← hs]; rfl, show intV b = .agg #[.bool q, .string t] from by rw [← hq, ← ht]; rfl]
  rw [hp] at HMK
  rw [hp]
  rw [hp, hq] at hpq
  rw [hs, ht] at HM
  obtain ⟨kk, hkk⟩ : ∃ kk, nS k = kk := ⟨_, rfl⟩
  rw [hkk] at HM HMK
  unfold intV zV at HMK ⊢
  obtain ⟨u, hu⟩ : ∃ u, decide (sg p k < 0) = u := ⟨_, rfl⟩
  obtain ⟨v, hv⟩ : ∃ v, nS (sg p k).natAbs = v := ⟨_, rfl⟩
  rw [hu, hv] at HMK ⊢
  clear hp hq hs ht hkk hu hv hk1 hk2 hsg ha hb he hab
  go_enter Tryz.func170, Tryz.ntmps170
  have hi := I3.new w (.bool p) (.string s) (.bool q) (.string t) (.bool false) (.string ⟨#[]⟩)
  obtain ⟨W0, hW0⟩ : ∃ W0, ((w.alloc (.cells #[.bool p, .string s] 28)).alloc (.cells #[.bool q, .string t] 28)).alloc (.cells #[.bool false, .string ⟨#[]⟩] 28) = W0 := ⟨_, rfl⟩
  rw [hW0] at hi
  have HI := Lib.hid hi
  obtain ⟨c0, c1, d0, d1, e0, e1, f0, f1⟩ := hi.cells
  clear hi
  go_wp2_with fail
  try rw [hW0]
  clear hW0
  refine (HVA.out _).mono ?_
  rintro ev w1 ⟨rfl, hb⟩
  have hi := HI.out.next hb
  have HI := Lib.hid hi
  clear hb c0 c1 d0 d1 e0 e1 f0 f1
  obtain ⟨c0, c1, d0, d1, e0, e1, f0, f1⟩ := hi.cells
  clear hi
  go_wp2_with fail
  refine (HVB.out _).mono ?_
  rintro ev w2 ⟨rfl, hb⟩
  have hi := HI.out.next hb
  have HI := Lib.hid hi
  clear hb c0 c1 d0 d1 e0 e1 f0 f1
  obtain ⟨c0, c1, d0, d1, e0, e1, f0, f1⟩ := hi.cells
  clear hi
  go_wp2_with fail
  refine (HM.out _).mono ?_
  rintro ev w3 ⟨rfl, hb⟩
  have hi := HI.out.next hb
  have HI := Lib.hid hi
  clear hb c0 c1 d0 d1 e0 e1 f0 f1
  obtain ⟨c0, c1, d0, d1, e0, e1, f0, f1⟩ := hi.cells
  clear hi
  go_wp2_with fail
  refine (HMK.out _).mono ?_
  rintro ev w4 ⟨rfl, hb⟩
  have hi := HI.out.next hb
  have HI := Lib.hid hi
  clear hb c0 c1 d0 d1 e0 e1 f0 f1
  obtain ⟨c0, c1, d0, d1, e0, e1, f0, f1⟩ := hi.cells
  clear hi
  go_wp2
  obtain ⟨q0, q1, qb⟩ := HI.out.done (.bool u) (.string v)
  exact bodyPost_ret (v := .tuple #[.agg #[.bool u, .string v], .int .i64 rc]) (by simp [results, Tryz.results170, go_sem, q0, q1]) rfl ⟨rfl, qb⟩
theorem fitZ_in {z : Int} (h : z.natAbs < 256 ^ 128) : fitZ z = .tuple #[intV z, .int .i64 0] := by unfold fitZ; rw [if_pos h]
set_option maxRecDepth 100000 in
set_option maxHeartbeats 1000000 in
theorem r02_Add_ge (a b : Int) (ha : a.natAbs < 256 ^ 128) (hb : b.natAbs < 256 ^ 128) (hpq : (decide (a < 0) == decide (b < 0)) = false) (hge : b.natAbs ≤ a.natAbs) (w : World) : Calls Tryz.prog 170 #[intV a, intV b] w (Ret (fitZ (a + b)) w) := by
  have HVA := Lib.hid (r02_Valid_n a ha)
  have HVB := Lib.hid (r02_Valid_n b hb)
  have HC := Lib.hid (r01_Cmp a.natAbs b.natAbs ha hb)
  have hg := cmpI_nonneg hge
  have HM := Lib.hid (r01_Sub_ge a.natAbs b.natAbs ha hb hge)
  have hab : ¬ (a < 0 ↔ b < 0) := fun h => by rw [decide_eq_decide.2 h, beq_self_eq_true] at hpq; cases hpq
  have hsg : sg (decide (a < 0)) (a.natAbs - b.natAbs) = a + b := by
    unfold sg
    by_cases h1 : a < 0
    · have : ¬ b < 0 := fun h => hab ⟨fun _ => h, fun _ => h1⟩
      rw [decide_eq_true h1, if_pos rfl]; omega
    · have : b < 0 := by
        by_cases h : b < 0
        · exact h
        · exact (hab ⟨fun h' => (h1 h').elim, fun h' => (h h').elim⟩).elim
      rw [decide_eq_false h1, if_neg (by decide)]; omega
  have HMK := Lib.hid (r02_Make_n (decide (a < 0)) (a.natAbs - b.natAbs))
  rw [fitZ_in (by omega), ← hsg]
  obtain ⟨k, hk⟩ : ∃ k, a.natAbs - b.natAbs = k := ⟨_, rfl⟩
  obtain ⟨c, hc⟩ : ∃ c, cmpI a.natAbs b.natAbs = c := ⟨_, rfl⟩
  rw [hk] at HM HMK ⊢
  rw [hc] at HC hg
  unfold intV zV at HVA HVB
  obtain ⟨p, hp⟩ : ∃ p, decide (a < 0) = p := ⟨_, rfl⟩
  obtain ⟨q, hq⟩ : ∃ q, decide (b < 0) = q := ⟨_, rfl⟩
  obtain ⟨s, hs⟩ : ∃ s, nS a.natAbs = s := ⟨_, rfl⟩
  obtain ⟨t, ht⟩ : ∃ t, nS b.natAbs = t := ⟨_, rfl⟩
  rw [hp, hs] at HVA
  rw [hq, ht] at HVB
  rw [show intV a = .agg #[.bool p, .string s] from by rw [← hp, ← hs]; rfl, show intV b = .agg #[.bool q, .string t] from by rw [← hq, ← ht]; rfl]
  rw [hp] at HMK
  rw [hp]
  rw [hp, hq] at hpq
  rw [hs, ht] at HM HC
  obtain ⟨kk, hkk⟩ : ∃ kk, nS k = kk := ⟨_, rfl⟩
  rw [hkk] at HM HMK
  unfold intV zV at HMK ⊢
  obtain ⟨u, hu⟩ : ∃ u, decide (sg p k < 0) = u := ⟨_, rfl⟩
  obtain ⟨v, hv⟩ : ∃ v, nS (sg p k).natAbs = v := ⟨_, rfl⟩
  rw [hu, hv] at HMK ⊢
  clear hp hq hs ht hkk hu hv hk hc hsg ha hb hab hge
  go_enter Tryz.func170, Tryz.ntmps170
  have hi := I3.new w (.bool p) (.string s) (.bool q) (.string t) (.bool false) (.string ⟨#[]⟩)
  obtain ⟨W0, hW0⟩ : ∃ W0, ((w.alloc (.cells #[.bool p, .string s] 28)).alloc (.cells #[.bool q, .string t] 28)).alloc (.cells #[.bool false, .string ⟨#[]⟩] 28) = W0 := ⟨_, rfl⟩
  rw [hW0] at hi
  have HI := Lib.hid hi
  obtain ⟨c0, c1, d0, d1, e0, e1, f0, f1⟩ := hi.cells
  clear hi
  go_wp2_with fail
  try rw [hW0]
  clear hW0
  refine (HVA.out _).mono ?_
  rintro ev w1 ⟨rfl, hb⟩
  have hi := HI.out.next hb
  have HI := Lib.hid hi
  clear hb c0 c1 d0 d1 e0 e1 f0 f1
  obtain ⟨c0, c1, d0, d1, e0, e1, f0, f1⟩ := hi.cells
  clear hi
  go_wp2_with fail
  refine (HVB.out _).mono ?_
  rintro ev w2 ⟨rfl, hb⟩
  have hi := HI.out.next hb
  have HI := Lib.hid hi
  clear hb c0 c1 d0 d1 e0 e1 f0 f1
  obtain ⟨c0, c1, d0, d1, e0, e1, f0, f1⟩ := hi.cells
  clear hi
  go_wp2_with fail
  refine (HC.out _).mono ?_
  rintro ev w3 ⟨rfl, hb⟩
  have hi := HI.out.next hb
  have HI := Lib.hid hi
  clear hb c0 c1 d0 d1 e0 e1 f0 f1
  obtain ⟨c0, c1, d0, d1, e0, e1, f0, f1⟩ := hi.cells
  clear hi
  go_wp2_with fail
  refine (HM.out _).mono ?_
  rintro ev w4 ⟨rfl, hb⟩
  have hi := HI.out.next hb
  have HI := Lib.hid hi
  clear hb c0 c1 d0 d1 e0 e1 f0 f1
  obtain ⟨c0, c1, d0, d1, e0, e1, f0, f1⟩ := hi.cells
  clear hi
  go_wp2_with fail
  refine (HMK.out _).mono ?_
  rintro ev w5 ⟨rfl, hb⟩
  have hi := HI.out.next hb
  have HI := Lib.hid hi
  clear hb c0 c1 d0 d1 e0 e1 f0 f1
  obtain ⟨c0, c1, d0, d1, e0, e1, f0, f1⟩ := hi.cells
  clear hi
  go_wp2
  obtain ⟨q0, q1, qb⟩ := HI.out.done (.bool u) (.string v)
  exact bodyPost_ret (v := .tuple #[.agg #[.bool u, .string v], .int .i64 0]) (by simp [results, Tryz.results170, go_sem, q0, q1]) rfl ⟨rfl, qb⟩
set_option maxRecDepth 100000 in
set_option maxHeartbeats 1000000 in
theorem r02_Add_lt (a b : Int) (ha : a.natAbs < 256 ^ 128) (hb : b.natAbs < 256 ^ 128) (hpq : (decide (a < 0) == decide (b < 0)) = false) (hlt : a.natAbs < b.natAbs) (w : World) : Calls Tryz.prog 170 #[intV a, intV b] w (Ret (fitZ (a + b)) w) := by
  have HVA := Lib.hid (r02_Valid_n a ha)
  have HVB := Lib.hid (r02_Valid_n b hb)
  have HC := Lib.hid (r01_Cmp a.natAbs b.natAbs ha hb)
  have hg : cmpI a.natAbs b.natAbs < 0 := by unfold cmpI; rw [if_pos hlt]; decide
  have HM := Lib.hid (r01_Sub_ge b.natAbs a.natAbs hb ha (Nat.le_of_lt hlt))
  have hab : ¬ (a < 0 ↔ b < 0) := fun h => by rw [decide_eq_decide.2 h, beq_self_eq_true] at hpq; cases hpq
  have hsg : sg (decide (b < 0)) (b.natAbs - a.natAbs) = a + b := by
    unfold sg
    by_cases h1 : b < 0
    · have : ¬ a < 0 := fun h => hab ⟨fun _ => h1, fun _ => h⟩
      rw [decide_eq_true h1, if_pos rfl]; omega
    · have : a < 0 := by
        by_cases h : a < 0
        · exact h
        · exact (hab ⟨fun h' => (h h').elim, fun h' => (h1 h').elim⟩).elim
      rw [decide_eq_false h1, if_neg (by decide)]; omega
  have HMK := Lib.hid (r02_Make_n (decide (b < 0)) (b.natAbs - a.natAbs))
  rw [fitZ_in (by omega), ← hsg]
  obtain ⟨k, hk⟩ : ∃ k, b.natAbs - a.natAbs = k := ⟨_, rfl⟩
  obtain ⟨c, hc⟩ : ∃ c, cmpI a.natAbs b.natAbs = c := ⟨_, rfl⟩
  rw [hk] at HM HMK ⊢
  rw [hc] at HC hg
  unfold intV zV at HVA HVB
  obtain ⟨p, hp⟩ : ∃ p, decide (a < 0) = p := ⟨_, rfl⟩
  obtain ⟨q, hq⟩ : ∃ q, decide (b < 0) = q := ⟨_, rfl⟩
  obtain ⟨s, hs⟩ : ∃ s, nS a.natAbs = s := ⟨_, rfl⟩
  obtain ⟨t, ht⟩ : ∃ t, nS b.natAbs = t := ⟨_, rfl⟩
  rw [hp, hs] at HVA
  rw [hq, ht] at HVB
  rw [show intV a = .agg #[.bool p, .string s] from by rw [← hp, ← hs]; rfl, show intV b = .agg #[.bool q, .string t] from by rw [← hq, ← ht]; rfl]
  rw [hq] at HMK
  rw [hq]
  rw [hp, hq] at hpq
  rw [hs, ht] at HM HC
  obtain ⟨kk, hkk⟩ : ∃ kk, nS k = kk := ⟨_, rfl⟩
  rw [hkk] at HM HMK
  unfold intV zV at HMK ⊢
  obtain ⟨u, hu⟩ : ∃ u, decide (sg q k < 0) = u := ⟨_, rfl⟩
  obtain ⟨v, hv⟩ : ∃ v, nS (sg q k).natAbs = v := ⟨_, rfl⟩
  rw [hu, hv] at HMK ⊢
  clear hp hq hs ht hkk hu hv hk hc hsg ha hb hab hlt
  go_enter Tryz.func170, Tryz.ntmps170
  have hi := I3.new w (.bool p) (.string s) (.bool q) (.string t) (.bool false) (.string ⟨#[]⟩)
  obtain ⟨W0, hW0⟩ : ∃ W0, ((w.alloc (.cells #[.bool p, .string s] 28)).alloc (.cells #[.bool q, .string t] 28)).alloc (.cells #[.bool false, .string ⟨#[]⟩] 28) = W0 := ⟨_, rfl⟩
  rw [hW0] at hi
  have HI := Lib.hid hi
  obtain ⟨c0, c1, d0, d1, e0, e1, f0, f1⟩ := hi.cells
  clear hi
  go_wp2_with fail
  try rw [hW0]
  clear hW0
  refine (HVA.out _).mono ?_
  rintro ev w1 ⟨rfl, hb⟩
  have hi := HI.out.next hb
  have HI := Lib.hid hi
  clear hb c0 c1 d0 d1 e0 e1 f0 f1
  obtain ⟨c0, c1, d0, d1, e0, e1, f0, f1⟩ := hi.cells
  clear hi
  go_wp2_with fail
  refine (HVB.out _).mono ?_
  rintro ev w2 ⟨rfl, hb⟩
  have hi := HI.out.next hb
  have HI := Lib.hid hi
  clear hb c0 c1 d0 d1 e0 e1 f0 f1
  obtain ⟨c0, c1, d0, d1, e0, e1, f0, f1⟩ := hi.cells
  clear hi
  go_wp2_with fail
  refine (HC.out _).mono ?_
  rintro ev w3 ⟨rfl, hb⟩
  have hi := HI.out.next hb
  have HI := Lib.hid hi
  clear hb c0 c1 d0 d1 e0 e1 f0 f1
  obtain ⟨c0, c1, d0, d1, e0, e1, f0, f1⟩ := hi.cells
  clear hi
  go_wp2_with fail
  refine (HM.out _).mono ?_
  rintro ev w4 ⟨rfl, hb⟩
  have hi := HI.out.next hb
  have HI := Lib.hid hi
  clear hb c0 c1 d0 d1 e0 e1 f0 f1
  obtain ⟨c0, c1, d0, d1, e0, e1, f0, f1⟩ := hi.cells
  clear hi
  go_wp2_with fail
  refine (HMK.out _).mono ?_
  rintro ev w5 ⟨rfl, hb⟩
  have hi := HI.out.next hb
  have HI := Lib.hid hi
  clear hb c0 c1 d0 d1 e0 e1 f0 f1
  obtain ⟨c0, c1, d0, d1, e0, e1, f0, f1⟩ := hi.cells
  clear hi
  go_wp2
  obtain ⟨q0, q1, qb⟩ := HI.out.done (.bool u) (.string v)
  exact bodyPost_ret (v := .tuple #[.agg #[.bool u, .string v], .int .i64 0]) (by simp [results, Tryz.results170, go_sem, q0, q1]) rfl ⟨rfl, qb⟩
theorem r02_Add (a b : Int) (ha : a.natAbs < 256 ^ 128) (hb : b.natAbs < 256 ^ 128) (w : World) : Calls Tryz.prog 170 #[intV a, intV b] w (Ret (fitZ (a + b)) w) := by
  cases hpq : (decide (a < 0) == decide (b < 0)) with
  | true => exact r02_Add_same a b ha hb hpq w
  | false =>
    rcases Nat.lt_or_ge a.natAbs b.natAbs with h | h
    · exact r02_Add_lt a b ha hb hpq h w
    · exact r02_Add_ge a b ha hb hpq h w
end Go.Proofs.YtndmjfkmnjejkaaGreatDoor
/- Walks: dominoref02.Of, Sub, DivMod with its quotient. -/
set_option linter.unusedVariables false
set_option linter.unusedSimpArgs false
namespace Go.Proofs.YtndmjfkmnjejkaaGreatDoor
open Go.RowKit
theorem below_cell {B : Nat} {w W : World} (h : Below B w W) {a : Addr} {v : Value} (ha : a.block < B) (hc : w.cell? a = some v) : W.cell? a = some v := by
  rw [World.cell?_of_block (h.block a.block ha)]; exact hc
theorem ediv_a {z : Int} {m : Nat} (h0 : 0 < m) (hz : z < 0) (hr : z.natAbs % m = 0) : z / m = -((z.natAbs / m : Nat) : Int) := by
  have e := Nat.div_add_mod z.natAbs m
  rw [hr, Nat.add_zero] at e
  have e2 : ((m * (z.natAbs / m) : Nat) : Int) = -z := by rw [e]; omega
  rw [Int.natCast_mul] at e2
  have e3 : z = m * (-((z.natAbs / m : Nat) : Int)) := by rw [Int.mul_neg]; omega
  conv => lhs; rw [e3]
  exact Int.mul_ediv_cancel_left _ (by omega)
theorem ediv_b {z : Int} {m : Nat} (h0 : 0 < m) (hz : z < 0) (hr : 0 < z.natAbs % m) : z / m = -((z.natAbs / m + 1 : Nat) : Int) := by
  have hlt := Nat.mod_lt z.natAbs h0
  have e := Nat.div_add_mod z.natAbs m
  have e2 : ((m * (z.natAbs / m) + z.natAbs % m : Nat) : Int) = -z := by rw [e]; omega
  rw [Int.natCast_add, Int.natCast_mul] at e2
  have e3 : z = ((m - z.natAbs % m : Nat) : Int) + m * (-(z.natAbs / m : Nat) - 1) := by
    rw [Int.mul_sub, Int.mul_neg]
    omega
  conv => lhs; rw [e3]
  rw [Int.add_mul_ediv_left _ _ (by omega), Int.ediv_eq_zero_of_lt (by omega) (by omega)]
  omega
theorem ediv_c {z : Int} {m : Nat} (hz : 0 ≤ z) : z / m = ((z.natAbs / m : Nat) : Int) := by
  conv => lhs; rw [show z = (z.natAbs : Int) from by omega]
  rw [Int.natCast_ediv]
theorem intV_neg (n : Nat) : intV (-(n : Int)) = .agg #[.bool (!(nS n).toList.isEmpty), .string (nS n)] := by
  unfold intV zV
  rw [Int.natAbs_neg, Int.natAbs_natCast]
  rcases Nat.eq_zero_or_pos n with h | h
  · subst h; rw [show (nS 0).toList.isEmpty = true from sempty_true rfl]; rfl
  · rw [empty_nS h, decide_eq_true (by omega)]; rfl
set_option maxRecDepth 100000 in
set_option maxHeartbeats 2000000 in
theorem r02_DivModQ (z : Int) (m : Nat) (hz : z.natAbs < 256 ^ 100) (hm : m < 256 ^ 128) (h0 : 0 < m) (w : World) : Calls Tryz.prog 149 #[intV z, intV m] w (Ret (.tuple #[intV (z / m), .string (nS (z % m).toNat), .int .i64 0]) w) := by
  have hz100 := hz
  have hz : z.natAbs < 256 ^ 128 := Nat.lt_of_lt_of_le hz (Nat.pow_le_pow_right (by omega) (by omega))
  have HVZ := Lib.hid (r02_Valid_n z hz)
  have HVM := Lib.hid (r02_Valid_n m (by rw [Int.natAbs_natCast]; exact hm))
  have HD := Lib.hid (r01_DivMod z.natAbs m hz hm h0)
  have HOF := Lib.hid (r01_Of 1 (by decide))
  have hqq : z.natAbs / m < 256 ^ 128 := Nat.lt_of_le_of_lt (Nat.div_le_self _ _) hz
  have hrr : z.natAbs % m < 256 ^ 128 := Nat.lt_trans (Nat.mod_lt _ h0) hm
  have HAD := Lib.hid (r01_Add (z.natAbs / m) 1 hqq (by decide))
  have HSB := Lib.hid (r01_Sub_ge m (z.natAbs % m) hm hrr (Nat.le_of_lt (Nat.mod_lt _ h0)))
  have HMK := Lib.hid r02_Make
  have hmm := empty_nS h0
  have ed : decide ((m : Int) < 0) = false := decide_eq_false (Int.not_lt.2 (Int.natCast_nonneg _))
  have HQV1 := Lib.hid (fun (h1 : z < 0) (h2 : z.natAbs % m = 0) => ediv_a h0 h1 h2)
  have HQV2 := Lib.hid (fun (h1 : z < 0) (h2 : 0 < z.natAbs % m) => ediv_b h0 h1 h2)
  have HQV3 := Lib.hid (fun (h1 : 0 ≤ z) => ediv_c (m := m) h1)
  have HRES := Lib.hid (show ∃ Q, intV (z / m) = Q from ⟨_, rfl⟩)
  obtain ⟨Q, hQ⟩ := HRES.out
  rw [hQ]
  have HQQ := Lib.hid hQ
  unfold intV zV at HVZ HVM
  unfold intV zV
  rw [ed, Int.natAbs_natCast] at HVM
  rw [ed, Int.natAbs_natCast]
  obtain ⟨t, ht⟩ : ∃ t, nS m = t := ⟨_, rfl⟩
  obtain ⟨s, hs⟩ : ∃ s, nS z.natAbs = s := ⟨_, rfl⟩
  obtain ⟨q, hq⟩ : ∃ q, nS (z.natAbs / m) = q := ⟨_, rfl⟩
  have hn100 : z.natAbs / m + 1 < 256 ^ 128 := by
    have h1 : z.natAbs / m ≤ z.natAbs := Nat.div_le_self _ _
    have h2 : (256 : Nat) ^ 100 < 256 ^ 128 := Nat.pow_lt_pow_right (by omega) (by omega)
    omega
  have hfq0 : fitR (z.natAbs / m + 1) = .tuple #[.string (nS (z.natAbs / m + 1)), .int .i64 0] := by unfold fitR; rw [if_pos hn100]
  obtain ⟨fq, hfq⟩ : ∃ fq, nS (z.natAbs / m + 1) = fq := ⟨_, rfl⟩
  rw [hfq0, hfq] at HAD
  rw [ht] at HVM HD HSB hmm ⊢
  rw [hs] at HVZ HD ⊢
  rw [hq] at HD HAD
  rw [show bstr (encN 1) = ⟨#[1]⟩ from rfl, show ((1 : Nat) : Int) = 1 from rfl] at HOF
  rw [nS_one] at HAD
  obtain ⟨W0, hW0⟩ : ∃ W0, ((w.alloc (.cells #[.bool (decide (z < 0)), .string s] 28)).alloc (.cells #[.bool false, .string t] 28)).alloc (.cells #[.bool false, .string ⟨#[]⟩] 28) = W0 := ⟨_, rfl⟩
  have HZX0 := Lib.hid (show Bx2 W0 w.heap.size (.bool (decide (z < 0))) (.string s) 28 from by
    rw [← hW0]
    exact ((Bx2.new w _ _ _).next ((Below.refl _ _).alloc (Nat.le_refl _) _)).next ((Below.refl _ _).alloc (Nat.le_refl _) _))
  have HMX0 := Lib.hid (show Bx2 W0 (w.heap.size + 1) (.bool false) (.string t) 28 from by
    rw [← hW0]
    have := Bx2.new (w.alloc (.cells #[.bool (decide (z < 0)), .string s] 28)) (.bool false) (.string t) 28
    rw [World.size_alloc] at this
    exact this.next ((Below.refl _ _).alloc (Nat.le_refl _) _))
  have HRX0 := Lib.hid (show Bx2 W0 (w.heap.size + 1 + 1) (.bool false) (.string ⟨#[]⟩) 28 from by
    rw [← hW0]
    have := Bx2.new ((w.alloc (.cells #[.bool (decide (z < 0)), .string s] 28)).alloc (.cells #[.bool false, .string t] 28)) (.bool false) (.string ⟨#[]⟩) 28
    rw [World.size_alloc, World.size_alloc] at this
    exact this)
  have HB0 := Lib.hid (show Below w.heap.size w W0 from by
    rw [← hW0]
    exact (((Below.refl w.heap.size w).alloc (Nat.le_refl _) _).alloc (by simp) _).alloc (by simp; omega) _)
  by_cases hneg : z < 0
  · have hd : decide (z < 0) = true := decide_eq_true hneg
    rw [hd] at HVZ HZX0 hW0 ⊢
    by_cases hr : z.natAbs % m = 0
    · have HRR := Lib.hid (emod_of_zero hr)
      have HQE := Lib.hid (show Q = .agg #[.bool (!q.toList.isEmpty), .string q] from by rw [← HQQ.out, HQV1.out hneg hr, intV_neg, hq])
      rw [hr, nS_zero] at HD
      clear hs ht hq hfq hQ hn100 hfq0 hz100 hd hr hneg hqq hrr HAD HSB HOF ed hz hm h0
      go_enter Tryz.func149, Tryz.ntmps149
      have c0 := HZX0.out.c0
      have c1 := HZX0.out.c1
      have d0 := HMX0.out.c0
      have d1 := HMX0.out.c1
      go_wp2_with fail
      try rw [hW0]
      clear hW0
      refine (HVZ.out _).mono ?_
      rintro ev w1 ⟨rfl, hb1⟩
      have HZX1 := Lib.hid (HZX0.out.next hb1)
      have HMX1 := Lib.hid (HMX0.out.next hb1)
      have HRX1 := Lib.hid (HRX0.out.next hb1)
      have HB1 := Lib.hid (HB0.out.trans (hb1.mono HB0.out.size))
      clear hb1
      clear c0 c1 d0 d1
      have c0 := HZX1.out.c0
      have c1 := HZX1.out.c1
      have d0 := HMX1.out.c0
      have d1 := HMX1.out.c1
      go_wp2_with fail
      refine (HVM.out _).mono ?_
      rintro ev w2 ⟨rfl, hb2⟩
      have HZX2 := Lib.hid (HZX1.out.next hb2)
      have HMX2 := Lib.hid (HMX1.out.next hb2)
      have HRX2 := Lib.hid (HRX1.out.next hb2)
      have HB2 := Lib.hid (HB1.out.trans (hb2.mono HB1.out.size))
      clear hb2
      clear c0 c1 d0 d1
      have c0 := HZX2.out.c0
      have c1 := HZX2.out.c1
      have d0 := HMX2.out.c0
      have d1 := HMX2.out.c1
      go_wp2_with fail
      refine (HD.out _).mono ?_
      rintro ev w3 ⟨rfl, hb3⟩
      have HZX3 := Lib.hid (HZX2.out.next hb3)
      have HMX3 := Lib.hid (HMX2.out.next hb3)
      have HRX3 := Lib.hid (HRX2.out.next hb3)
      have HB3 := Lib.hid (HB2.out.trans (hb3.mono HB2.out.size))
      clear hb3
      clear c0 c1 d0 d1
      have c0 := HZX3.out.c0
      have c1 := HZX3.out.c1
      have d0 := HMX3.out.c0
      have d1 := HMX3.out.c1
      go_wp2_with fail
      refine (HMK.out _ _ _).mono ?_
      rintro ev w9 ⟨rfl, hb9⟩
      have HR9 := Lib.hid (HRX3.out.next hb9)
      have HB9 := Lib.hid (HB3.out.trans (hb9.mono HB3.out.size))
      clear hb9
      have rf0 := HR9.out.f0
      have rf1 := HR9.out.f1
      have rc0 := HR9.out.c0
      have rc1 := HR9.out.c1
      unfold zV
      go_wp2
      obtain ⟨q0, q1⟩ : _ ∧ _ := ⟨(HR9.out.set2 (u := .bool (!q.toList.isEmpty)) (v := .string q)).c0, (HR9.out.set2 (u := .bool (!q.toList.isEmpty)) (v := .string q)).c1⟩
      refine bodyPost_ret (v := .tuple #[.agg #[.bool (!q.toList.isEmpty), .string q], .string ⟨#[]⟩, .int .i64 0]) ?_ rfl ⟨by rw [HRR.out, nS_zero, HQE.out], ?_⟩
      · simp [results, Tryz.results149, go_sem, q0, q1]
      · exact (HB9.out.setCell (p := ⟨w.heap.size + 1 + 1, 0, none⟩) (by simp only []; omega) _).setCell (p := ⟨w.heap.size + 1 + 1, 1, none⟩) (by simp only []; omega) _
    · have HRR := Lib.hid (emod_of_neg h0 hneg (by omega))
      have HQE := Lib.hid (show Q = .agg #[.bool (!fq.toList.isEmpty), .string fq] from by rw [← HQQ.out, HQV2.out hneg (by omega), intV_neg, hfq])
      have her := empty_nS (n := z.natAbs % m) (by omega)
      obtain ⟨r, hr'⟩ : ∃ r, nS (z.natAbs % m) = r := ⟨_, rfl⟩
      obtain ⟨r2, hr2⟩ : ∃ r2, nS (m - z.natAbs % m) = r2 := ⟨_, rfl⟩
      rw [hr'] at HD HSB her
      rw [hr2] at HSB
      have HR2 := Lib.hid hr2
      clear hs ht hq hfq hQ hn100 hfq0 hz100 hd hr hneg hqq hrr ed hz hm h0 hr' hr2
      go_enter Tryz.func149, Tryz.ntmps149
      have c0 := HZX0.out.c0
      have c1 := HZX0.out.c1
      have d0 := HMX0.out.c0
      have d1 := HMX0.out.c1
      go_wp2_with fail
      try rw [hW0]
      clear hW0
      refine (HVZ.out _).mono ?_
      rintro ev w1 ⟨rfl, hb1⟩
      have HZX1 := Lib.hid (HZX0.out.next hb1)
      have HMX1 := Lib.hid (HMX0.out.next hb1)
      have HRX1 := Lib.hid (HRX0.out.next hb1)
      have HB1 := Lib.hid (HB0.out.trans (hb1.mono HB0.out.size))
      clear hb1
      clear c0 c1 d0 d1
      have c0 := HZX1.out.c0
      have c1 := HZX1.out.c1
      have d0 := HMX1.out.c0
      have d1 := HMX1.out.c1
      go_wp2_with fail
      refine (HVM.out _).mono ?_
      rintro ev w2 ⟨rfl, hb2⟩
      have HZX2 := Lib.hid (HZX1.out.next hb2)
      have HMX2 := Lib.hid (HMX1.out.next hb2)
      have HRX2 := Lib.hid (HRX1.out.next hb2)
      have HB2 := Lib.hid (HB1.out.trans (hb2.mono HB1.out.size))
      clear hb2
      clear c0 c1 d0 d1
      have c0 := HZX2.out.c0
      have c1 := HZX2.out.c1
      have d0 := HMX2.out.c0
      have d1 := HMX2.out.c1
      go_wp2_with fail
      refine (HD.out _).mono ?_
      rintro ev w3 ⟨rfl, hb3⟩
      have HZX3 := Lib.hid (HZX2.out.next hb3)
      have HMX3 := Lib.hid (HMX2.out.next hb3)
      have HRX3 := Lib.hid (HRX2.out.next hb3)
      have HB3 := Lib.hid (HB2.out.trans (hb3.mono HB2.out.size))
      clear hb3
      clear c0 c1 d0 d1
      have c0 := HZX3.out.c0
      have c1 := HZX3.out.c1
      have d0 := HMX3.out.c0
      have d1 := HMX3.out.c1
      go_wp2_with fail
      refine (HOF.out _).mono ?_
      rintro ev w4 ⟨rfl, hb4⟩
      have HZX4 := Lib.hid (HZX3.out.next hb4)
      have HMX4 := Lib.hid (HMX3.out.next hb4)
      have HRX4 := Lib.hid (HRX3.out.next hb4)
      have HB4 := Lib.hid (HB3.out.trans (hb4.mono HB3.out.size))
      clear hb4
      clear c0 c1 d0 d1
      have c0 := HZX4.out.c0
      have c1 := HZX4.out.c1
      have d0 := HMX4.out.c0
      have d1 := HMX4.out.c1
      go_wp2_with fail
      refine (HAD.out _).mono ?_
      rintro ev w5 ⟨rfl, hb5⟩
      have HZX5 := Lib.hid (HZX4.out.next hb5)
      have HMX5 := Lib.hid (HMX4.out.next hb5)
      have HRX5 := Lib.hid (HRX4.out.next hb5)
      have HB5 := Lib.hid (HB4.out.trans (hb5.mono HB4.out.size))
      clear hb5
      clear c0 c1 d0 d1
      have c0 := HZX5.out.c0
      have c1 := HZX5.out.c1
      have d0 := HMX5.out.c0
      have d1 := HMX5.out.c1
      go_wp2_with fail
      refine (HSB.out _).mono ?_
      rintro ev w6 ⟨rfl, hb6⟩
      have HZX6 := Lib.hid (HZX5.out.next hb6)
      have HMX6 := Lib.hid (HMX5.out.next hb6)
      have HRX6 := Lib.hid (HRX5.out.next hb6)
      have HB6 := Lib.hid (HB5.out.trans (hb6.mono HB5.out.size))
      clear hb6
      clear c0 c1 d0 d1
      have c0 := HZX6.out.c0
      have c1 := HZX6.out.c1
      have d0 := HMX6.out.c0
      have d1 := HMX6.out.c1
      go_wp2_with fail
      refine (HMK.out _ _ _).mono ?_
      rintro ev w9 ⟨rfl, hb9⟩
      have HR9 := Lib.hid (HRX6.out.next hb9)
      have HB9 := Lib.hid (HB6.out.trans (hb9.mono HB6.out.size))
      clear hb9
      have rf0 := HR9.out.f0
      have rf1 := HR9.out.f1
      have rc0 := HR9.out.c0
      have rc1 := HR9.out.c1
      unfold zV
      go_wp2
      obtain ⟨q0, q1⟩ : _ ∧ _ := ⟨(HR9.out.set2 (u := .bool (!fq.toList.isEmpty)) (v := .string fq)).c0, (HR9.out.set2 (u := .bool (!fq.toList.isEmpty)) (v := .string fq)).c1⟩
      refine bodyPost_ret (v := .tuple #[.agg #[.bool (!fq.toList.isEmpty), .string fq], .string r2, .int .i64 0]) ?_ rfl ⟨by rw [HRR.out, HR2.out, HQE.out], ?_⟩
      · simp [results, Tryz.results149, go_sem, q0, q1]
      · exact (HB9.out.setCell (p := ⟨w.heap.size + 1 + 1, 0, none⟩) (by simp only []; omega) _).setCell (p := ⟨w.heap.size + 1 + 1, 1, none⟩) (by simp only []; omega) _
  · have hd : decide (z < 0) = false := decide_eq_false hneg
    rw [hd] at HVZ HZX0 hW0 ⊢
    have HRR := Lib.hid (emod_of_pos (z := z) (m := m) (by omega))
    have HQE := Lib.hid (show Q = .agg #[.bool false, .string q] from by rw [← HQQ.out, HQV3.out (by omega), ← hq]; unfold intV zV; rw [decide_eq_false (Int.not_lt.2 (Int.natCast_nonneg _)), Int.natAbs_natCast])
    obtain ⟨r, hr'⟩ : ∃ r, nS (z.natAbs % m) = r := ⟨_, rfl⟩
    rw [hr'] at HD
    have HR2 := Lib.hid hr'
    clear hs ht hq hfq hQ hn100 hfq0 hz100 hd hneg hqq hrr HAD HSB HOF ed hz hm h0 hr'
    go_enter Tryz.func149, Tryz.ntmps149
    have c0 := HZX0.out.c0
    have c1 := HZX0.out.c1
    have d0 := HMX0.out.c0
    have d1 := HMX0.out.c1
    go_wp2_with fail
    try rw [hW0]
    clear hW0
    refine (HVZ.out _).mono ?_
    rintro ev w1 ⟨rfl, hb1⟩
    have HZX1 := Lib.hid (HZX0.out.next hb1)
    have HMX1 := Lib.hid (HMX0.out.next hb1)
    have HRX1 := Lib.hid (HRX0.out.next hb1)
    have HB1 := Lib.hid (HB0.out.trans (hb1.mono HB0.out.size))
    clear hb1
    clear c0 c1 d0 d1
    have c0 := HZX1.out.c0
    have c1 := HZX1.out.c1
    have d0 := HMX1.out.c0
    have d1 := HMX1.out.c1
    go_wp2_with fail
    refine (HVM.out _).mono ?_
    rintro ev w2 ⟨rfl, hb2⟩
    have HZX2 := Lib.hid (HZX1.out.next hb2)
    have HMX2 := Lib.hid (HMX1.out.next hb2)
    have HRX2 := Lib.hid (HRX1.out.next hb2)
    have HB2 := Lib.hid (HB1.out.trans (hb2.mono HB1.out.size))
    clear hb2
    clear c0 c1 d0 d1
    have c0 := HZX2.out.c0
    have c1 := HZX2.out.c1
    have d0 := HMX2.out.c0
    have d1 := HMX2.out.c1
    go_wp2_with fail
    refine (HD.out _).mono ?_
    rintro ev w3 ⟨rfl, hb3⟩
    have HZX3 := Lib.hid (HZX2.out.next hb3)
    have HMX3 := Lib.hid (HMX2.out.next hb3)
    have HRX3 := Lib.hid (HRX2.out.next hb3)
    have HB3 := Lib.hid (HB2.out.trans (hb3.mono HB2.out.size))
    clear hb3
    clear c0 c1 d0 d1
    have c0 := HZX3.out.c0
    have c1 := HZX3.out.c1
    have d0 := HMX3.out.c0
    have d1 := HMX3.out.c1
    go_wp2_with fail
    refine (HMK.out _ _ _).mono ?_
    rintro ev w9 ⟨rfl, hb9⟩
    have HR9 := Lib.hid (HRX3.out.next hb9)
    have HB9 := Lib.hid (HB3.out.trans (hb9.mono HB3.out.size))
    clear hb9
    have rf0 := HR9.out.f0
    have rf1 := HR9.out.f1
    have rc0 := HR9.out.c0
    have rc1 := HR9.out.c1
    unfold zV
    go_wp2
    obtain ⟨q0, q1⟩ : _ ∧ _ := ⟨(HR9.out.set2 (u := .bool (false)) (v := .string q)).c0, (HR9.out.set2 (u := .bool (false)) (v := .string q)).c1⟩
    refine bodyPost_ret (v := .tuple #[.agg #[.bool (false), .string q], .string r, .int .i64 0]) ?_ rfl ⟨by rw [HRR.out, HR2.out, HQE.out], ?_⟩
    · simp [results, Tryz.results149, go_sem, q0, q1]
    · exact (HB9.out.setCell (p := ⟨w.heap.size + 1 + 1, 0, none⟩) (by simp only []; omega) _).setCell (p := ⟨w.heap.size + 1 + 1, 1, none⟩) (by simp only []; omega) _
set_option maxRecDepth 100000 in
theorem r02_Of (n : Nat) (hn : n < 1000) (w : World) : Calls Tryz.prog 167 #[.int .i64 n] w (Ret (intV n) w) := by
  have HO := Lib.hid (r01_Of n (by omega))
  have HM := Lib.hid (r02_Make_n false n)
  rw [show sg false n = (n : Int) from rfl] at HM
  have HO' := Lib.hid (fun w => show Calls Tryz.prog 101 #[.int .u64 n] w (Ret (.string (nS n)) w) from HO.out w)
  have HB0 := Lib.hid ((Below.refl w.heap.size w).alloc (Nat.le_refl _) (.cells #[.bool false, .string ⟨#[]⟩] 28))
  have HX0 := Lib.hid (Bx2.new w (.bool false) (.string ⟨#[]⟩) 28)
  unfold intV zV at HM ⊢
  obtain ⟨s, hs⟩ : ∃ s, nS n = s := ⟨_, rfl⟩
  obtain ⟨u, hu⟩ : ∃ u, decide ((n : Int) < 0) = u := ⟨_, rfl⟩
  obtain ⟨v, hv⟩ : ∃ v, nS ((n : Int)).natAbs = v := ⟨_, rfl⟩
  rw [hs] at HO' HM
  rw [hu, hv] at HM ⊢
  have hn0 : ¬ ((n : Int) < 0) := by omega
  clear hs hv HO
  go_enter Tryz.func167, Tryz.ntmps167
  go_wp2_with fail
  refine (HO'.out _).mono ?_
  rintro e w1 ⟨rfl, hb1⟩
  have HX1 := Lib.hid (HX0.out.next hb1)
  have HB1 := Lib.hid (HB0.out.trans (hb1.mono HB0.out.size))
  clear hb1
  go_wp2_with fail
  refine (HM.out _).mono ?_
  rintro e w2 ⟨rfl, hb2⟩
  have hX := HX1.out.next hb2
  have HX2 := Lib.hid hX
  have HB2 := Lib.hid (HB1.out.trans (hb2.mono HB1.out.size))
  have c0 := hX.c0
  have c1 := hX.c1
  have f0 := hX.f0
  have f1 := hX.f1
  clear hb2 hX
  go_wp2
  have hY := HX2.out.set2 (u := .bool u) (v := .string v)
  have q0 := hY.c0
  have q1 := hY.c1
  exact bodyPost_ret (v := .agg #[.bool u, .string v]) (by simp [results, Tryz.results167, go_sem, q0, q1]) rfl ⟨rfl, (HB2.out.setCell (p := ⟨w.heap.size, 0, none⟩) (Nat.le_refl _) _).setCell (p := ⟨w.heap.size, 1, none⟩) (Nat.le_refl _) _⟩
set_option maxRecDepth 100000 in
set_option maxHeartbeats 1000000 in
theorem r02_Sub (a b : Int) (ha : a.natAbs < 256 ^ 128) (hb : b.natAbs < 256 ^ 128) (hin : (a - b).natAbs < 256 ^ 128) (w : World) : Calls Tryz.prog 204 #[intV a, intV b] w (Ret (.tuple #[intV (a - b), .int .i64 0]) w) := by
  have HVA := Lib.hid (r02_Valid_n a ha)
  have HVB := Lib.hid (r02_Valid_n b hb)
  have HN := Lib.hid (r02_Neg b hb)
  have HM := Lib.hid (r02_Add a (-b) ha (by rw [Int.natAbs_neg]; exact hb))
  rw [fitZ_in (by rw [← Int.sub_eq_add_neg]; exact hin), ← Int.sub_eq_add_neg] at HM
  obtain ⟨nb, hnb⟩ : ∃ nb, intV (-b) = nb := ⟨_, rfl⟩
  rw [hnb] at HN HM
  unfold intV zV at HVA HVB
  obtain ⟨p, hp⟩ : ∃ p, decide (a < 0) = p := ⟨_, rfl⟩
  obtain ⟨q, hq⟩ : ∃ q, decide (b < 0) = q := ⟨_, rfl⟩
  obtain ⟨s, hs⟩ : ∃ s, nS a.natAbs = s := ⟨_, rfl⟩
  obtain ⟨t, ht⟩ : ∃ t, nS b.natAbs = t := ⟨_, rfl⟩
  rw [hp, hs] at HVA
  rw [hq, ht] at HVB
  rw [show intV a = .agg #[.bool p, .string s] from by rw [← hp, ← hs]; rfl, show intV b = .agg #[.bool q, .string t] from by rw [← hq, ← ht]; rfl]
  rw [show intV a = .agg #[.bool p, .string s] from by rw [← hp, ← hs]; rfl] at HM
  rw [show intV b = .agg #[.bool q, .string t] from by rw [← hq, ← ht]; rfl] at HN
  unfold intV zV at HM hnb ⊢
  obtain ⟨u, hu⟩ : ∃ u, decide (a - b < 0) = u := ⟨_, rfl⟩
  obtain ⟨v, hv⟩ : ∃ v, nS (a - b).natAbs = v := ⟨_, rfl⟩
  obtain ⟨nu, hnu⟩ : ∃ u, decide (-b < 0) = u := ⟨_, rfl⟩
  obtain ⟨nv, hnv⟩ : ∃ v, nS (-b).natAbs = v := ⟨_, rfl⟩
  rw [hu, hv] at HM ⊢
  rw [hnu, hnv] at hnb
  subst hnb
  clear hp hq hs ht hu hv hnu hnv ha hb hin
  go_enter Tryz.func204, Tryz.ntmps204
  have hi := I3.new w (.bool p) (.string s) (.bool q) (.string t) (.bool false) (.string ⟨#[]⟩)
  obtain ⟨W0, hW0⟩ : ∃ W0, ((w.alloc (.cells #[.bool p, .string s] 28)).alloc (.cells #[.bool q, .string t] 28)).alloc (.cells #[.bool false, .string ⟨#[]⟩] 28) = W0 := ⟨_, rfl⟩
  rw [hW0] at hi
  have HI := Lib.hid hi
  obtain ⟨c0, c1, d0, d1, e0, e1, f0, f1⟩ := hi.cells
  clear hi
  go_wp2_with fail
  try rw [hW0]
  clear hW0
  refine (HVA.out _).mono ?_
  rintro ev w1 ⟨rfl, hb⟩
  have hi := HI.out.next hb
  have HI := Lib.hid hi
  clear hb c0 c1 d0 d1 e0 e1 f0 f1
  obtain ⟨c0, c1, d0, d1, e0, e1, f0, f1⟩ := hi.cells
  clear hi
  go_wp2_with fail
  refine (HVB.out _).mono ?_
  rintro ev w2 ⟨rfl, hb⟩
  have hi := HI.out.next hb
  have HI := Lib.hid hi
  clear hb c0 c1 d0 d1 e0 e1 f0 f1
  obtain ⟨c0, c1, d0, d1, e0, e1, f0, f1⟩ := hi.cells
  clear hi
  go_wp2
  have c0' : w2.drew.cell? ⟨w.heap.size, 0, none⟩ = some (.bool p) := c0
  have c1' : w2.drew.cell? ⟨w.heap.size, 1, none⟩ = some (.string s) := c1
  have d0' : w2.drew.cell? ⟨w.heap.size + 1, 0, none⟩ = some (.bool q) := d0
  have d1' : w2.drew.cell? ⟨w.heap.size + 1, 1, none⟩ = some (.string t) := d1
  have hid := HI.out.next (Below.refl w2.heap.size w2).drew
  have HID := Lib.hid hid
  clear c0 c1 d0 d1 e0 e1 f0 f1 hid
  have HLE := Lib.hid (show w.heap.size + 1 + 1 ≤ w2.drew.heap.size from Nat.le_of_lt HID.out.2.2.1.lt)
  refine wp_region_K 8 (Below (w.heap.size + 1 + 1) w2.drew) (by kernel_rfl) ?_
  intro hD
  refine wpAnyK_takeSD (i := 0) (d := some 15) (v := ?v3_0b1) (fuel := 7) rfl (by kernel_rfl) (by kernel_rfl) (by kernel_rfl) (fun _ _ _ h => h) hD (Below.refl _ _) (.inl ⟨by kernel_rfl, ?y3_0b1⟩) ?n3_0b1
  case y3_0b1 => intro w' hS'; have e0 := below_cell hS' (by simp only []; omega) c0'; have e1 := below_cell hS' (by simp only []; omega) c1'; have e2 := below_cell hS' (by simp only []; omega) d0'; have e3 := below_cell hS' (by simp only []; omega) d1'; go_simp; with_reducible rfl
  clear hD; intro hD
  simp only [Act.put, sqA, sqB, sqC]
  refine wpAnyK_takeSD (i := 1) (d := some 16) (v := ?v3_1b1) (fuel := 6) rfl (by kernel_rfl) (by kernel_rfl) (by kernel_rfl) (fun _ _ _ h => h) hD (Below.refl _ _) (.inl ⟨by kernel_rfl, ?y3_1b1⟩) ?n3_1b1
  case y3_1b1 => intro w' hS'; have e0 := below_cell hS' (by simp only []; omega) c0'; have e1 := below_cell hS' (by simp only []; omega) c1'; have e2 := below_cell hS' (by simp only []; omega) d0'; have e3 := below_cell hS' (by simp only []; omega) d1'; go_simp; with_reducible rfl
  clear hD; intro hD
  simp only [Act.put, sqA, sqB, sqC]
  refine wpAnyK_one (i := 2) (fuel := 5) (by kernel_rfl) rfl hD ?_
  clear hD; intro K2 hK2
  go_wp2_with fail
  refine (HN.out _).mono ?_
  rintro ev w3 ⟨rfl, hb⟩
  have HID3 := Lib.hid (HID.out.next hb)
  have HB2 := Lib.hid hb
  clear hb
  go_wp2
  refine hK2 _ _ (by exact HB2.out.mono HLE.out) ?_; clear hK2; intro hS_3_2 hD
  refine wpAnyK_one (i := 3) (fuel := 4) (by kernel_rfl) rfl hD ?_
  clear hD; intro K3 hK3
  go_wp2_with fail
  refine (HM.out _).mono ?_
  rintro ev w4 ⟨rfl, hb⟩
  have hi4 := HID3.out.next hb
  have HID4 := Lib.hid hi4
  have HB3 := Lib.hid hb
  have HLE3 := Lib.hid (Nat.le_of_lt HID3.out.2.2.1.lt)
  obtain ⟨_, _, _, _, e0, e1, f0, f1⟩ := hi4.cells
  clear hb hi4
  go_wp2
  refine hK3 _ _ (by exact Below.trans hS_3_2 (HB3.out.mono HLE3.out)) ?_; clear hK3; intro hS_3_3 hD
  refine wpAnyK_pureD (i := 4) (d := some 19) (v := ?v3_4b1) (fuel := 3) rfl (by kernel_rfl) (by kernel_rfl) (fun _ _ _ h => h) hD hS_3_3 (.inl ⟨by kernel_rfl, ?y3_4b1⟩) ?n3_4b1
  case y3_4b1 => intro w' _; go_simp; with_reducible rfl
  clear hD; intro hD
  simp only [Act.put, sqA, sqB, sqC]
  refine wpAnyK_pureD (i := 5) (d := some 20) (v := ?v3_5b1) (fuel := 2) rfl (by kernel_rfl) (by kernel_rfl) (fun _ _ _ h => h) hD hS_3_3 (.inl ⟨by kernel_rfl, ?y3_5b1⟩) ?n3_5b1
  case y3_5b1 => intro w' _; go_simp; with_reducible rfl
  clear hD; intro hD
  simp only [Act.put, sqA, sqB, sqC]
  refine wpAnyK_one (i := 6) (fuel := 1) (by kernel_rfl) rfl hD ?_
  clear hD; intro K6 hK6
  go_wp2
  refine hK6 _ _ (by exact (Below.setCell hS_3_3 (p := ⟨w.heap.size + 1 + 1, 0, none⟩) (Nat.le_refl _) _).setCell (p := ⟨w.heap.size + 1 + 1, 1, none⟩) (Nat.le_refl _) _) ?_; clear hK6; intro hS_3_6 hD
  refine wpAnyK_one (i := 7) (fuel := 0) (by kernel_rfl) rfl hD ?_
  clear hD; intro K7 hK7
  go_wp2
  refine hK7 _ _ (by exact hS_3_6) ?_; clear hK7; intro hS_3_7 hD
  refine wpAnyK_done (by kernel_rfl) ?_ 0
  clear hD
  obtain ⟨q0, q1, qb⟩ := HID4.out.done (.bool u) (.string v)
  go_wp2
  exact bodyPost_ret (v := .tuple #[.agg #[.bool u, .string v], .int .i64 0]) (by simp [results, Tryz.results204, go_sem, q0, q1]) rfl ⟨rfl, qb⟩
end Go.Proofs.YtndmjfkmnjejkaaGreatDoor

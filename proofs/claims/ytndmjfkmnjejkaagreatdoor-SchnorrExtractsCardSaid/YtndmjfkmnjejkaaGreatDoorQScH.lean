/- Walk: schnorr.commitmentOf. -/
import Derived.Test.YtndmjfkmnjejkaaGreatDoorQScF
import Derived.Test.YtndmjfkmnjejkaaGreatDoorQPeT
set_option linter.unusedVariables false
set_option linter.unusedSimpArgs false
namespace Go.Proofs.YtndmjfkmnjejkaaGreatDoor
open Go.RowKit Go.Lib
theorem ex_two {M O G Y c r : ByteArray} (hc : chkK M O = 0) (hO : 0 < num O) (vG : nvalid G = true) (vY : nvalid Y = true) (hG : hasN (num M) (num O) (num G) = true) (hY : hasN (num M) (num O) (num Y) = true) (vc : nvalid c = true) (vr : nvalid r = true) (hcq : num c < num O) :
    prR M O [G, Y] [(false, r), (!(c.toList.isEmpty), c)] = .tuple #[.string (nS (cmS (num M) (num O) (num G) (num Y) (num c) (num r))), .int .i64 0] := by
  have lr := nvalid_lt vr
  have lc := nvalid_lt vc
  have e1 : (false, r) = (decide (((num r : Nat) : Int) < 0), nS ((num r : Nat) : Int).natAbs) := by rw [Int.natAbs_natCast, decide_eq_false (by omega), ← nS_num vr]
  have e2 : (!(c.toList.isEmpty), c) = (decide (-((num c : Nat) : Int) < 0), nS (-((num c : Nat) : Int)).natAbs) := by
    rw [Int.natAbs_neg, Int.natAbs_natCast, ← nS_num vc]
    congr 1
    by_cases h : num c = 0
    · rw [show c.toList.isEmpty = true from by rw [nS_num vc, h]; exact sempty_true rfl, h]; rfl
    · rw [show c.toList.isEmpty = false from by rw [nS_num vc]; exact empty_nS (by omega), decide_eq_true (by omega)]; rfl
  rw [e1, e2]
  unfold prR
  rw [if_pos (show ckR M O [G, Y] [(decide (((num r : Nat) : Int) < 0), nS ((num r : Nat) : Int).natAbs), (decide (-((num c : Nat) : Int) < 0), nS (-((num c : Nat) : Int)).natAbs)] (decide ([G, Y].length = [(decide (((num r : Nat) : Int) < 0), nS ((num r : Nat) : Int).natAbs), (decide (-((num c : Nat) : Int) < 0), nS (-((num c : Nat) : Int)).natAbs)].length)) = 0 from cka_two vG vY (zvalid_all (by rw [Int.natAbs_natCast]; exact lr)) (zvalid_all (by rw [Int.natAbs_neg, Int.natAbs_natCast]; exact lc)) hc hG hY)]
  have e : prV (num M) [G, Y] [(decide (((num r : Nat) : Int) < 0), nS ((num r : Nat) : Int).natAbs), (decide (-((num c : Nat) : Int) < 0), nS (-((num c : Nat) : Int)).natAbs)] = cmS (num M) (num O) (num G) (num Y) (num c) (num r) := by
    show baseN (num G) (decide (((num r : Nat) : Int) < 0)) (num M) ^ (num (nS ((num r : Nat) : Int).natAbs) / 2 ^ 0) * (baseN (num Y) (decide (-((num c : Nat) : Int) < 0)) (num M) ^ (num (nS (-((num c : Nat) : Int)).natAbs) / 2 ^ 0) * 1) % num M = _
    rw [num_nS, num_nS, Nat.pow_zero, Nat.div_one, Nat.div_one, Nat.mul_one, pz_two]
    have hcn : chkN (num M) (num O) = 0 := (chkK_parts hc).2.2
    obtain ⟨i, hu⟩ := has_un hcn hY
    exact cmS_pz hu (has_ord hO hY) hcq
  rw [e]
def BoxC (W : World) (B : Nat) (s : ByteArray) : Prop := W.heap[B]? = some (.cells #[.string s] 106 (0, 0))
theorem BoxC.nextC {W W' : World} {B : Nat} {s : ByteArray} (h : BoxC W B s) (hb : Below W.heap.size W W') : BoxC W' B s := (hb.block _ (block_lt h)).trans h
theorem BoxC.c {W : World} {B : Nat} {s : ByteArray} (h : BoxC W B s) : W.cell? ⟨B, 0, none⟩ = some (.string s) := by rw [Lib.cell_of_heap h]; rfl
theorem BoxC.f {W : World} {B : Nat} {s : ByteArray} (h : BoxC W B s) : W.frozen? ⟨B, 0, none⟩ = false := Lib.frozen_of_heap h 0
theorem BoxC.set {W : World} {B : Nat} {s t : ByteArray} (h : BoxC W B s) : BoxC (W.setCell ⟨B, 0, none⟩ (.string t)) B t := block_setCell h _
set_option maxRecDepth 100000 in
set_option maxHeartbeats 2000000 in
theorem sc_commitmentOf (M O G Y c r : ByteArray) (hM : M.size ≤ 8) (hk : scK M O G Y = 0) (vc : nvalid c = true) (vr : nvalid r = true) (hcq : num c < num O) (w : World) : Calls Tryz.prog 66 #[kV M O G Y, .agg #[.string c, .string r]] w (Ret (.agg #[.string (nS (cmS (num M) (num O) (num G) (num Y) (num c) (num r)))]) w) := by
  obtain ⟨hv, hc, hz, hg, hy⟩ := scK_ok hk
  obtain ⟨v1, v2, v3, v4⟩ := all_four hv
  have h8 := chk_small hv hM hc
  have hpr := ex_two (M := M) (O := O) (G := G) (Y := Y) (c := c) (r := r) hc (by omega) v3 v4 (genK_parts hg).1 (genK_parts hy).1 vc vr hcq
  obtain ⟨z, hz2⟩ : ∃ z, nS (cmS (num M) (num O) (num G) (num Y) (num c) (num r)) = z := ⟨_, rfl⟩
  rw [hz2] at hpr ⊢
  obtain ⟨nz, hnz⟩ : ∃ b, c.toList.isEmpty = b := ⟨_, rfl⟩
  rw [hnz] at hpr
  have sz : ∀ {s : ByteArray}, nvalid s = true → s.size ≤ 1000 := fun h => by rw [nS_num h]; have := nS_size_le.2 (nvalid_lt h); omega
  have sG := sz v3
  have sY := sz v4
  have sc := sz vc
  have sr := sz vr
  have HPR := Lib.hid (fun A B w hl hz => pw_Product M O [G, Y] [(false, r), (!nz, c)] A B 2 2 2 2 hM h8 (by intro s hs; simp at hs; rcases hs with h | h <;> subst h <;> assumption) (by intro t ht; simp at ht; rcases ht with h | h <;> subst h <;> assumption) (by omega) (by omega) w hl hz)
  rw [hpr] at HPR
  -- the boxes
  have hx0 := SG.new w M O G Y c r
  obtain ⟨W0, hW0⟩ : ∃ W, (w.alloc (.cells #[.string M, .string O, .string G, .string Y] 46)).alloc (.cells #[.string c, .string r] 52) = W := ⟨_, rfl⟩
  rw [hW0] at hx0
  have hsz0 : W0.heap.size = w.heap.size + 1 + 1 := by rw [← hW0]; simp
  have hb1 := (Below.refl W0.heap.size W0).alloc (Nat.le_refl _) (.cells #[.string ⟨#[]⟩] 106)
  have hx1 := hx0.next hb1
  have hr1 : BoxC (W0.alloc (.cells #[.string ⟨#[]⟩] 106)) W0.heap.size ⟨#[]⟩ := heap_alloc_new _ _
  obtain ⟨W1, hW1⟩ : ∃ W, W0.alloc (.cells #[.string ⟨#[]⟩] 106) = W := ⟨_, rfl⟩
  rw [hW1] at hx1 hr1
  obtain ⟨B, hB⟩ : ∃ B, W0.heap.size = B := ⟨_, rfl⟩
  rw [hB] at hr1
  have hsl := sln_alloc W1 [G, Y] 22 (by simp)
  have hb2 := (Below.refl W1.heap.size W1).alloc (Nat.le_refl _) (.cells #[.string G, .string Y] 22)
  have hx2 := hx1.next hb2
  have hr2 := hr1.nextC hb2
  obtain ⟨W2, hW2⟩ : ∃ W, W1.alloc (.cells #[.string G, .string Y] 22) = W := ⟨_, rfl⟩
  have hslz := slz_alloc2 W2 false (!nz) r c 28
  have hsl2 : SlN W2 (some ⟨W1.heap.size, 0, none⟩) 2 2 [G, Y] := hW2 ▸ hsl
  rw [hW2] at hx2 hr2
  have hb3 := (Below.refl W2.heap.size W2).alloc (Nat.le_refl _) (.cells #[.bool false, .string r, .bool (!nz), .string c] 28)
  have HPP := Lib.hid (HPR.out _ _ _ (hsl2.kept hb3 (Nat.le_refl _)) hslz)
  have HX3 := Lib.hid (hx2.next hb3)
  have HR3 := Lib.hid (hr2.nextC hb3)
  obtain ⟨c0, c1, c2, c3⟩ := hx1.1.1.cells
  obtain ⟨e0, e1, e2, e3⟩ := hx2.1.1.cells
  have d0 := hx2.2.c0
  have d1 := hx2.2.c1
  have HBB := Lib.hid (show w.heap.size ≤ B from by omega)
  clear hx0 hx1 hx2 hr1 hr2 hb1 hb2 hb3 hsl hsl2 hslz hpr hz2 sG sY sc sr sz hv hc hz hg hy v1 v2 v3 v4 h8 hk hM vc vr hcq
  unfold kV gV at *
  go_enter Tryz.func66, Tryz.ntmps66
  go_wp2_with fail
  refine HPP.out.mono ?_
  rintro en w' ⟨rfl, hb'⟩
  have HR4 := Lib.hid (HR3.out.nextC hb')
  have HX4 := Lib.hid (HX3.out.next hb')
  have HBl := Lib.hid (show w.heap.size < w'.heap.size from by have := HX3.out.next hb'; exact this.1.1.lt)
  have hbe : B = w.heap.size + 1 + 1 := by omega
  subst hbe
  have r0 := HR4.out.c
  have r1 := HR4.out.f
  go_wp2_with fail
  have q0 := (HR4.out.set (t := z)).c
  exact bodyPost_ret (v := .agg #[.string z]) (by simp [results, Tryz.results66, go_sem, q0]) rfl ⟨rfl, HX4.out.1.2.setCell (p := ⟨w.heap.size + 1 + 1, 0, none⟩) (show w.heap.size ≤ w.heap.size + 1 + 1 by omega) _⟩
end Go.Proofs.YtndmjfkmnjejkaaGreatDoor
/- Walks: dominoref33.commitment, secret. -/
set_option linter.unusedVariables false
set_option linter.unusedSimpArgs false
namespace Go.Proofs.YtndmjfkmnjejkaaGreatDoor
open Go.RowKit Go.Lib
set_option maxRecDepth 100000 in
set_option maxHeartbeats 2000000 in
theorem r33_commitment (M O G Y c r : ByteArray) (hM : M.size ≤ 8) (hk : scK M O G Y = 0) (vc : nvalid c = true) (vr : nvalid r = true) (hcq : num c < num O) (w : World) : Calls Tryz.prog 72 #[kV M O G Y, .agg #[.string c, .string r]] w (Ret (.string (nS (cmS (num M) (num O) (num G) (num Y) (num c) (num r)))) w) := by
  obtain ⟨hv, hc, hz, hg, hy⟩ := scK_ok hk
  obtain ⟨v1, v2, v3, v4⟩ := all_four hv
  have h8 := chk_small hv hM hc
  have lO := num_small h8
  have lM := num_small hM
  have hm0 : 0 < num M := by
    obtain ⟨i, hu⟩ := has_un (chkK_parts hc).2.2 (genK_parts hg).1
    have := hu.1
    omega
  have HR1 := Lib.hid (r33_raise M O G r hM v1 hm0 v3 vr)
  have vd : nvalid (nS (num O - num c)) = true := nvalid_nS.2 (lt128_of_lt8 (by omega))
  have HMN := Lib.hid (r01_Minus (num O) (num c) (by rw [← nS_num v2]; omega) (by omega))
  rw [← nS_num v2, ← nS_num vc] at HMN
  have HR2 := Lib.hid (r33_raise M O Y (nS (num O - num c)) hM v1 hm0 v4 vd)
  rw [num_nS] at HR2
  have HML := Lib.hid (r03_Mul (num G ^ num r % num M) (num Y ^ (num O - num c) % num M) (num M) (lt128_of_lt8 (by have := Nat.mod_lt (num G ^ num r) hm0; omega)) (lt128_of_lt8 (by have := Nat.mod_lt (num Y ^ (num O - num c)) hm0; omega)) lM hm0)
  rw [← Nat.mul_mod, show num G ^ num r * num Y ^ (num O - num c) % num M = cmS (num M) (num O) (num G) (num Y) (num c) (num r) from rfl, ← nS_num v1] at HML
  obtain ⟨z1, hz1⟩ : ∃ z, nS (num G ^ num r % num M) = z := ⟨_, rfl⟩
  obtain ⟨z2, hz2⟩ : ∃ z, nS (num Y ^ (num O - num c) % num M) = z := ⟨_, rfl⟩
  obtain ⟨z3, hz3⟩ : ∃ z, nS (num O - num c) = z := ⟨_, rfl⟩
  obtain ⟨z4, hz4⟩ : ∃ z, nS (cmS (num M) (num O) (num G) (num Y) (num c) (num r)) = z := ⟨_, rfl⟩
  rw [hz1] at HR1
  rw [hz2, hz3] at HR2
  rw [hz3] at HMN
  rw [hz1, hz2, hz4] at HML
  rw [hz4]
  have HX0 := Lib.hid (SG.new w M O G Y c r)
  obtain ⟨W0, hW0⟩ : ∃ W, (w.alloc (.cells #[.string M, .string O, .string G, .string Y] 46)).alloc (.cells #[.string c, .string r] 52) = W := ⟨_, rfl⟩
  rw [hW0] at HX0
  obtain ⟨c0, c1, c2, c3⟩ := HX0.out.1.1.cells
  have s0 := HX0.out.2.c0
  have s1 := HX0.out.2.c1
  unfold kV gV at *
  clear hz1 hz2 hz3 hz4 hM hk vc vr hcq hv hc hz hg hy v1 v2 v3 v4 h8 lO lM hm0 vd
  go_enter Tryz.func72, Tryz.ntmps72
  go_wp2_with fail
  try rw [hW0]
  clear hW0
  refine (HR1.out _).mono ?_
  rintro ev w1 ⟨rfl, hb⟩
  have HX1 := Lib.hid (HX0.out.next hb)
  clear hb c0 c1 c2 c3 s0 s1
  go_wp2
  obtain ⟨wd, hwd⟩ : ∃ wd, w1.drew = wd := ⟨_, rfl⟩
  have HXd := Lib.hid (show SG w wd M O G Y c r from by rw [← hwd]; exact HX1.out.next (Below.refl _ _).drew)
  obtain ⟨c0, c1, c2, c3⟩ := HXd.out.1.1.cells
  have s0 := HXd.out.2.c0
  refine wp_region_K 12 (Below (wd).heap.size (wd)) (by kernel_rfl) ?_
  intro hD
  rw [hwd]
  refine wpAnyK_pureD (i := 0) (d := some 16) (v := ?v2_0b1) (fuel := 11) rfl (by kernel_rfl) (by kernel_rfl) (fun _ _ _ h => h) hD (Below.refl _ _) (.inl ⟨by kernel_rfl, ?y2_0b1⟩) ?n2_0b1
  case y2_0b1 => intro w' _; go_simp; with_reducible rfl
  clear hD; intro hD
  simp only [Act.put, sqA, sqB, sqC]
  refine wpAnyK_takeSD (i := 1) (d := some 17) (v := ?v2_1b1) (fuel := 10) rfl (by kernel_rfl) (by kernel_rfl) (by kernel_rfl) (fun _ _ _ h => h) hD (Below.refl _ _) (.inl ⟨by kernel_rfl, ?y2_1b1⟩) ?n2_1b1
  case y2_1b1 => intro w' hS'; have e0 := cell_kept hS' (Nat.le_refl _) c0; have e1 := cell_kept hS' (Nat.le_refl _) c1; have e2 := cell_kept hS' (Nat.le_refl _) c2; have e3 := cell_kept hS' (Nat.le_refl _) c3; have e4 := cell_kept hS' (Nat.le_refl _) s0; go_simp; with_reducible rfl
  clear hD; intro hD
  simp only [Act.put, sqA, sqB, sqC]
  refine wpAnyK_pureD (i := 2) (d := some 18) (v := ?v2_2b1) (fuel := 9) rfl (by kernel_rfl) (by kernel_rfl) (fun _ _ _ h => h) hD (Below.refl _ _) (.inl ⟨by kernel_rfl, ?y2_2b1⟩) ?n2_2b1
  case y2_2b1 => intro w' _; go_simp; with_reducible rfl
  clear hD; intro hD
  simp only [Act.put, sqA, sqB, sqC]
  refine wpAnyK_takeSD (i := 3) (d := some 19) (v := ?v2_3b1) (fuel := 8) rfl (by kernel_rfl) (by kernel_rfl) (by kernel_rfl) (fun _ _ _ h => h) hD (Below.refl _ _) (.inl ⟨by kernel_rfl, ?y2_3b1⟩) ?n2_3b1
  case y2_3b1 => intro w' hS'; have e0 := cell_kept hS' (Nat.le_refl _) c0; have e1 := cell_kept hS' (Nat.le_refl _) c1; have e2 := cell_kept hS' (Nat.le_refl _) c2; have e3 := cell_kept hS' (Nat.le_refl _) c3; have e4 := cell_kept hS' (Nat.le_refl _) s0; go_simp; with_reducible rfl
  clear hD; intro hD
  simp only [Act.put, sqA, sqB, sqC]
  refine wpAnyK_pureD (i := 4) (d := some 20) (v := ?v2_4b1) (fuel := 7) rfl (by kernel_rfl) (by kernel_rfl) (fun _ _ _ h => h) hD (Below.refl _ _) (.inl ⟨by kernel_rfl, ?y2_4b1⟩) ?n2_4b1
  case y2_4b1 => intro w' _; go_simp; with_reducible rfl
  clear hD; intro hD
  simp only [Act.put, sqA, sqB, sqC]
  refine wpAnyK_pureD (i := 5) (d := some 21) (v := ?v2_5b1) (fuel := 6) rfl (by kernel_rfl) (by kernel_rfl) (fun _ _ _ h => h) hD (Below.refl _ _) (.inl ⟨by kernel_rfl, ?y2_5b1⟩) ?n2_5b1
  case y2_5b1 => intro w' _; go_simp; with_reducible rfl
  clear hD; intro hD
  simp only [Act.put, sqA, sqB, sqC]
  refine wpAnyK_takeSD (i := 6) (d := some 22) (v := ?v2_6b1) (fuel := 5) rfl (by kernel_rfl) (by kernel_rfl) (by kernel_rfl) (fun _ _ _ h => h) hD (Below.refl _ _) (.inl ⟨by kernel_rfl, ?y2_6b1⟩) ?n2_6b1
  case y2_6b1 => intro w' hS'; have e0 := cell_kept hS' (Nat.le_refl _) c0; have e1 := cell_kept hS' (Nat.le_refl _) c1; have e2 := cell_kept hS' (Nat.le_refl _) c2; have e3 := cell_kept hS' (Nat.le_refl _) c3; have e4 := cell_kept hS' (Nat.le_refl _) s0; go_simp; with_reducible rfl
  clear hD; intro hD
  simp only [Act.put, sqA, sqB, sqC]
  refine wpAnyK_pureD (i := 7) (d := some 23) (v := ?v2_7b1) (fuel := 4) rfl (by kernel_rfl) (by kernel_rfl) (fun _ _ _ h => h) hD (Below.refl _ _) (.inl ⟨by kernel_rfl, ?y2_7b1⟩) ?n2_7b1
  case y2_7b1 => intro w' _; go_simp; with_reducible rfl
  clear hD; intro hD
  simp only [Act.put, sqA, sqB, sqC]
  refine wpAnyK_takeSD (i := 8) (d := some 24) (v := ?v2_8b1) (fuel := 3) rfl (by kernel_rfl) (by kernel_rfl) (by kernel_rfl) (fun _ _ _ h => h) hD (Below.refl _ _) (.inl ⟨by kernel_rfl, ?y2_8b1⟩) ?n2_8b1
  case y2_8b1 => intro w' hS'; have e0 := cell_kept hS' (Nat.le_refl _) c0; have e1 := cell_kept hS' (Nat.le_refl _) c1; have e2 := cell_kept hS' (Nat.le_refl _) c2; have e3 := cell_kept hS' (Nat.le_refl _) c3; have e4 := cell_kept hS' (Nat.le_refl _) s0; go_simp; with_reducible rfl
  clear hD; intro hD
  simp only [Act.put, sqA, sqB, sqC]
  refine wpAnyK_one (i := 9) (fuel := 2) (by kernel_rfl) rfl hD ?_
  clear hD; intro K9 hK9
  go_wp2_with fail
  refine (HMN.out _).mono ?_
  rintro ev w2 ⟨rfl, hb2⟩
  have HB9 := Lib.hid hb2
  clear hb2
  go_wp2
  refine hK9 _ _ (by exact HB9.out) ?_; clear hK9; intro hS_2_9 hD
  refine wpAnyK_one (i := 10) (fuel := 1) (by kernel_rfl) rfl hD ?_
  clear hD; intro K10 hK10
  go_wp2_with fail
  refine (HR2.out _).mono ?_
  rintro ev w3 ⟨rfl, hb3⟩
  have HB10 := Lib.hid hb3
  clear hb3
  go_wp2
  refine hK10 _ _ (by exact Below.trans hS_2_9 (Below.mono HB10.out (Below.size hS_2_9))) ?_; clear hK10; intro hS_2_10 hD
  refine wpAnyK_one (i := 11) (fuel := 0) (by kernel_rfl) rfl hD ?_
  clear hD; intro K11 hK11
  go_wp2
  refine hK11 _ _ (by exact hS_2_10) ?_; clear hK11; intro hS_2_11 hD
  have HL := Lib.hid hS_2_11
  refine wpAnyK_done (by kernel_rfl) ?_ 0
  clear hD
  have HX3 := Lib.hid (HXd.out.next HL.out)
  clear c0 c1 c2 c3 s0
  obtain ⟨c0, c1, c2, c3⟩ := HX3.out.1.1.cells
  go_wp2_with fail
  refine (HML.out _).mono ?_
  rintro ev w4 ⟨rfl, hb4⟩
  have HX4 := Lib.hid (HX3.out.next hb4)
  clear hb4
  go_wp2
  go_ret
  exact ⟨rfl, HX4.out.1.2⟩
set_option maxRecDepth 100000 in
set_option maxHeartbeats 2000000 in
theorem r33_secret (M O G Y X : ByteArray) (hM : M.size ≤ 8) (hk : scK M O G Y = 0) (vX : nvalid X = true) (w : World) : Calls Tryz.prog 76 #[kV M O G Y, .string X] w (Ret (.bool (decide (0 < num X ∧ num X < num O ∧ num G ^ num X % num M = num Y))) w) := by
  obtain ⟨hv, hc, hz, hg, hy⟩ := scK_ok hk
  obtain ⟨v1, v2, v3, v4⟩ := all_four hv
  have h8 := chk_small hv hM hc
  have lO := nvalid_lt v2
  have lX := nvalid_lt vX
  have lM := num_small hM
  have hm0 : 0 < num M := by
    obtain ⟨i, hu⟩ := has_un (chkK_parts hc).2.2 (genK_parts hg).1
    have := hu.1
    omega
  have HCM := Lib.hid (r01_Order (nS (num X)) (nS (num O)) (by have := nS_size_le.2 lX; omega) (by have := nS_size_le.2 lO; omega))
  rw [ordB_nS, ← nS_num vX, ← nS_num v2] at HCM
  have HEX := Lib.hid (r33_raise M O G X hM v1 hm0 v3 vX)
  have hbe := nS_beq (num G ^ num X % num M) (num Y)
  rw [← nS_num v4] at hbe
  have HX0 := Lib.hid (SB.new w M O G Y)
  obtain ⟨W0, hW0⟩ : ∃ W, w.alloc (.cells #[.string M, .string O, .string G, .string Y] 46) = W := ⟨_, rfl⟩
  rw [hW0] at HX0
  have hcm := cmpI_ltC (x := num X) (y := num O)
  obtain ⟨k1, hk1⟩ : ∃ k, cmpI (num X) (num O) = k := ⟨_, rfl⟩
  rw [hk1] at HCM hcm
  obtain ⟨z, hz2⟩ : ∃ z, nS (num G ^ num X % num M) = z := ⟨_, rfl⟩
  rw [hz2] at HEX hbe
  have HXD := Lib.hid (show SB w W0.drew M O G Y from HX0.out.next (Below.refl _ _).drew)
  obtain ⟨wd, hwd⟩ : ∃ wd, W0.drew = wd := ⟨_, rfl⟩
  rw [hwd] at HXD
  obtain ⟨c0, c1, c2, c3⟩ := HXD.out.1.cells
  by_cases hx0 : num X = 0
  · have HR := Lib.hid (show decide (0 < num X ∧ num X < num O ∧ num G ^ num X % num M = num Y) = false from decide_eq_false fun h => by omega)
    have hem : X.toList.isEmpty = true := by rw [nS_num vX, hx0]; exact sempty_true rfl
    rw [HR.out]
    unfold kV
    clear hv hc hz hg hy v1 v2 v3 v4 h8 lO lX hbe hcm hk1 hx0 vX hM hk hz2 lM hm0
    go_enter Tryz.func76, Tryz.ntmps76
    go_wp2
    try rw [hW0]
    refine wp_region_K 22 (Below (wd).heap.size (wd)) (by kernel_rfl) ?_
    intro hD
    rw [hwd]
    refine wpAnyK_pureD (i := 0) (d := some 5) (v := ?v1_0b2) (fuel := 21) rfl (by kernel_rfl) (by kernel_rfl) (fun _ _ _ h => h) hD (Below.refl _ _) (.inl ⟨by kernel_rfl, ?y1_0b2⟩) ?n1_0b2
    case y1_0b2 => intro w' _; go_simp; with_reducible rfl
    clear hD; intro hD
    simp only [Act.put, sqA, sqB, sqC]
    refine wpAnyK_pureD (i := 1) (d := some 6) (v := ?v1_1b2) (fuel := 20) rfl (by kernel_rfl) (by kernel_rfl) (fun _ _ _ h => h) hD (Below.refl _ _) (.inl ⟨by kernel_rfl, ?y1_1b2⟩) ?n1_1b2
    case y1_1b2 => intro w' _; go_simp; with_reducible rfl
    clear hD; intro hD
    simp only [Act.put, sqA, sqB, sqC]
    refine wpAnyK_pureD (i := 2) (d := some 7) (v := ?v1_2b2) (fuel := 19) rfl (by kernel_rfl) (by kernel_rfl) (fun _ _ _ h => h) hD (Below.refl _ _) (.inl ⟨by kernel_rfl, ?y1_2b2⟩) ?n1_2b2
    case y1_2b2 => intro w' _; go_simp; with_reducible rfl
    clear hD; intro hD
    simp only [Act.put, sqA, sqB, sqC]
    refine wpAnyK_pureD (i := 3) (d := some 8) (v := undef) (fuel := 18) rfl (by kernel_rfl) (by kernel_rfl) (fun _ _ _ h => h) hD (Below.refl _ _) (.inr ⟨by kernel_rfl, rfl⟩) ?_
    clear hD; intro hD
    simp only [Act.put, sqA, sqB, sqC]
    refine wpAnyK_pureD (i := 4) (d := some 9) (v := undef) (fuel := 17) rfl (by kernel_rfl) (by kernel_rfl) (fun _ _ _ h => h) hD (Below.refl _ _) (.inr ⟨by kernel_rfl, rfl⟩) ?_
    clear hD; intro hD
    simp only [Act.put, sqA, sqB, sqC]
    refine wpAnyK_pureD (i := 5) (d := some 10) (v := undef) (fuel := 16) rfl (by kernel_rfl) (by kernel_rfl) (fun _ _ _ h => h) hD (Below.refl _ _) (.inr ⟨by kernel_rfl, rfl⟩) ?_
    clear hD; intro hD
    simp only [Act.put, sqA, sqB, sqC]
    refine wpAnyK_pureD (i := 6) (d := some 11) (v := undef) (fuel := 15) rfl (by kernel_rfl) (by kernel_rfl) (fun _ _ _ h => h) hD (Below.refl _ _) (.inr ⟨by kernel_rfl, rfl⟩) ?_
    clear hD; intro hD
    simp only [Act.put, sqA, sqB, sqC]
    refine wpAnyK_pureD (i := 7) (d := some 12) (v := undef) (fuel := 14) rfl (by kernel_rfl) (by kernel_rfl) (fun _ _ _ h => h) hD (Below.refl _ _) (.inr ⟨by kernel_rfl, rfl⟩) ?_
    clear hD; intro hD
    simp only [Act.put, sqA, sqB, sqC]
    refine wpAnyK_pureD (i := 8) (d := some 13) (v := undef) (fuel := 13) rfl (by kernel_rfl) (by kernel_rfl) (fun _ _ _ h => h) hD (Below.refl _ _) (.inr ⟨by kernel_rfl, rfl⟩) ?_
    clear hD; intro hD
    simp only [Act.put, sqA, sqB, sqC]
    refine wpAnyK_pureD (i := 9) (d := some 14) (v := ?v1_9b2) (fuel := 12) rfl (by kernel_rfl) (by kernel_rfl) (fun _ _ _ h => h) hD (Below.refl _ _) (.inl ⟨by kernel_rfl, ?y1_9b2⟩) ?n1_9b2
    case y1_9b2 => intro w' _; go_simp; with_reducible rfl
    clear hD; intro hD
    simp only [Act.put, sqA, sqB, sqC]
    refine wpAnyK_pureD (i := 10) (d := some 15) (v := ?v1_10b2) (fuel := 11) rfl (by kernel_rfl) (by kernel_rfl) (fun _ _ _ h => h) hD (Below.refl _ _) (.inl ⟨by kernel_rfl, ?y1_10b2⟩) ?n1_10b2
    case y1_10b2 => intro w' _; go_simp; with_reducible rfl
    clear hD; intro hD
    simp only [Act.put, sqA, sqB, sqC]
    refine wpAnyK_pureD (i := 11) (d := some 16) (v := undef) (fuel := 10) rfl (by kernel_rfl) (by kernel_rfl) (fun _ _ _ h => h) hD (Below.refl _ _) (.inr ⟨by kernel_rfl, rfl⟩) ?_
    clear hD; intro hD
    simp only [Act.put, sqA, sqB, sqC]
    refine wpAnyK_pureD (i := 12) (d := some 17) (v := undef) (fuel := 9) rfl (by kernel_rfl) (by kernel_rfl) (fun _ _ _ h => h) hD (Below.refl _ _) (.inr ⟨by kernel_rfl, rfl⟩) ?_
    clear hD; intro hD
    simp only [Act.put, sqA, sqB, sqC]
    refine wpAnyK_pureD (i := 13) (d := some 18) (v := undef) (fuel := 8) rfl (by kernel_rfl) (by kernel_rfl) (fun _ _ _ h => h) hD (Below.refl _ _) (.inr ⟨by kernel_rfl, rfl⟩) ?_
    clear hD; intro hD
    simp only [Act.put, sqA, sqB, sqC]
    refine wpAnyK_pureD (i := 14) (d := some 19) (v := undef) (fuel := 7) rfl (by kernel_rfl) (by kernel_rfl) (fun _ _ _ h => h) hD (Below.refl _ _) (.inr ⟨by kernel_rfl, rfl⟩) ?_
    clear hD; intro hD
    simp only [Act.put, sqA, sqB, sqC]
    refine wpAnyK_pureD (i := 15) (d := some 20) (v := undef) (fuel := 6) rfl (by kernel_rfl) (by kernel_rfl) (fun _ _ _ h => h) hD (Below.refl _ _) (.inr ⟨by kernel_rfl, rfl⟩) ?_
    clear hD; intro hD
    simp only [Act.put, sqA, sqB, sqC]
    refine wpAnyK_pureD (i := 16) (d := some 21) (v := undef) (fuel := 5) rfl (by kernel_rfl) (by kernel_rfl) (fun _ _ _ h => h) hD (Below.refl _ _) (.inr ⟨by kernel_rfl, rfl⟩) ?_
    clear hD; intro hD
    simp only [Act.put, sqA, sqB, sqC]
    refine wpAnyK_pureD (i := 17) (d := some 22) (v := undef) (fuel := 4) rfl (by kernel_rfl) (by kernel_rfl) (fun _ _ _ h => h) hD (Below.refl _ _) (.inr ⟨by kernel_rfl, rfl⟩) ?_
    clear hD; intro hD
    simp only [Act.put, sqA, sqB, sqC]
    refine wpAnyK_pureD (i := 18) (d := some 23) (v := undef) (fuel := 3) rfl (by kernel_rfl) (by kernel_rfl) (fun _ _ _ h => h) hD (Below.refl _ _) (.inr ⟨by kernel_rfl, rfl⟩) ?_
    clear hD; intro hD
    simp only [Act.put, sqA, sqB, sqC]
    refine wpAnyK_pureD (i := 19) (d := some 24) (v := undef) (fuel := 2) rfl (by kernel_rfl) (by kernel_rfl) (fun _ _ _ h => h) hD (Below.refl _ _) (.inr ⟨by kernel_rfl, rfl⟩) ?_
    clear hD; intro hD
    simp only [Act.put, sqA, sqB, sqC]
    refine wpAnyK_pureD (i := 20) (d := some 25) (v := ?v1_20b2) (fuel := 1) rfl (by kernel_rfl) (by kernel_rfl) (fun _ _ _ h => h) hD (Below.refl _ _) (.inl ⟨by kernel_rfl, ?y1_20b2⟩) ?n1_20b2
    case y1_20b2 => intro w' _; go_simp; with_reducible rfl
    clear hD; intro hD
    simp only [Act.put, sqA, sqB, sqC]
    refine wpAnyK_one (i := 21) (fuel := 0) (by kernel_rfl) rfl hD ?_
    clear hD; intro K21 hK21
    go_wp2
    refine hK21 _ _ (by exact (Below.refl _ _)) ?_; clear hK21; intro hS_1_21 hD
    refine wpAnyK_done (by kernel_rfl) ?_ 0
    clear hD
    go_wp2
    go_ret
    exact ⟨rfl, HXD.out.2⟩
  · have hem : X.toList.isEmpty = false := by rw [nS_num vX]; exact empty_nS (by omega)
    by_cases hlt : num X < num O
    · have hge : decide (k1 < 0) = true := by rw [decide_eq_true_iff, hcm]; exact hlt
      have HR := Lib.hid (show decide (0 < num X ∧ num X < num O ∧ num G ^ num X % num M = num Y) = (z.toList == Y.toList) from by
        rw [hbe, decide_eq_decide]; exact ⟨fun h => h.2.2, fun h => ⟨by omega, hlt, h⟩⟩)
      rw [HR.out]
      unfold kV gV at *
      clear hv hc hz hg hy v1 v2 v3 v4 h8 lO lX hbe hcm hk1 hx0 vX hM hk hz2 hlt lM hm0
      go_enter Tryz.func76, Tryz.ntmps76
      go_wp2
      try rw [hW0]
      refine wp_region_K 22 (Below (wd).heap.size (wd)) (by kernel_rfl) ?_
      intro hD
      rw [hwd]
      refine wpAnyK_pureD (i := 0) (d := some 5) (v := ?v1_0b3) (fuel := 21) rfl (by kernel_rfl) (by kernel_rfl) (fun _ _ _ h => h) hD (Below.refl _ _) (.inl ⟨by kernel_rfl, ?y1_0b3⟩) ?n1_0b3
      case y1_0b3 => intro w' _; go_simp; with_reducible rfl
      clear hD; intro hD
      simp only [Act.put, sqA, sqB, sqC]
      refine wpAnyK_pureD (i := 1) (d := some 6) (v := ?v1_1b3) (fuel := 20) rfl (by kernel_rfl) (by kernel_rfl) (fun _ _ _ h => h) hD (Below.refl _ _) (.inl ⟨by kernel_rfl, ?y1_1b3⟩) ?n1_1b3
      case y1_1b3 => intro w' _; go_simp; with_reducible rfl
      clear hD; intro hD
      simp only [Act.put, sqA, sqB, sqC]
      refine wpAnyK_pureD (i := 2) (d := some 7) (v := ?v1_2b3) (fuel := 19) rfl (by kernel_rfl) (by kernel_rfl) (fun _ _ _ h => h) hD (Below.refl _ _) (.inl ⟨by kernel_rfl, ?y1_2b3⟩) ?n1_2b3
      case y1_2b3 => intro w' _; go_simp; with_reducible rfl
      clear hD; intro hD
      simp only [Act.put, sqA, sqB, sqC]
      refine wpAnyK_pureD (i := 3) (d := some 8) (v := ?v1_3b3) (fuel := 18) rfl (by kernel_rfl) (by kernel_rfl) (fun _ _ _ h => h) hD (Below.refl _ _) (.inl ⟨by kernel_rfl, ?y1_3b3⟩) ?n1_3b3
      case y1_3b3 => intro w' _; go_simp; with_reducible rfl
      clear hD; intro hD
      simp only [Act.put, sqA, sqB, sqC]
      refine wpAnyK_pureD (i := 4) (d := some 9) (v := ?v1_4b3) (fuel := 17) rfl (by kernel_rfl) (by kernel_rfl) (fun _ _ _ h => h) hD (Below.refl _ _) (.inl ⟨by kernel_rfl, ?y1_4b3⟩) ?n1_4b3
      case y1_4b3 => intro w' _; go_simp; with_reducible rfl
      clear hD; intro hD
      simp only [Act.put, sqA, sqB, sqC]
      refine wpAnyK_pureD (i := 5) (d := some 10) (v := ?v1_5b3) (fuel := 16) rfl (by kernel_rfl) (by kernel_rfl) (fun _ _ _ h => h) hD (Below.refl _ _) (.inl ⟨by kernel_rfl, ?y1_5b3⟩) ?n1_5b3
      case y1_5b3 => intro w' _; go_simp; with_reducible rfl
      clear hD; intro hD
      simp only [Act.put, sqA, sqB, sqC]
      refine wpAnyK_takeSD (i := 6) (d := some 11) (v := ?v1_6b3) (fuel := 15) rfl (by kernel_rfl) (by kernel_rfl) (by kernel_rfl) (fun _ _ _ h => h) hD (Below.refl _ _) (.inl ⟨by kernel_rfl, ?y1_6b3⟩) ?n1_6b3
      case y1_6b3 => intro w' hS'; have e0 := cell_kept hS' (Nat.le_refl _) c0; have e1 := cell_kept hS' (Nat.le_refl _) c1; have e2 := cell_kept hS' (Nat.le_refl _) c2; have e3 := cell_kept hS' (Nat.le_refl _) c3; go_simp; with_reducible rfl
      clear hD; intro hD
      simp only [Act.put, sqA, sqB, sqC]
      refine wpAnyK_one (i := 7) (fuel := 14) (by kernel_rfl) rfl hD ?_
      clear hD; intro K7 hK7
      go_wp2_with fail
      refine (HCM.out _).mono ?_
      rintro ev w2 ⟨rfl, hb2⟩
      have HB7 := Lib.hid hb2
      clear hb2
      go_wp2
      refine hK7 _ _ (by exact HB7.out) ?_; clear hK7; intro hS_1_7 hD
      refine wpAnyK_pureD (i := 8) (d := some 13) (v := ?v1_8b3) (fuel := 13) rfl (by kernel_rfl) (by kernel_rfl) (fun _ _ _ h => h) hD hS_1_7 (.inl ⟨by kernel_rfl, ?y1_8b3⟩) ?n1_8b3
      case y1_8b3 => intro w' _; go_simp; with_reducible rfl
      clear hD; intro hD
      simp only [Act.put, sqA, sqB, sqC]
      refine wpAnyK_pureD (i := 9) (d := some 14) (v := ?v1_9b3) (fuel := 12) rfl (by kernel_rfl) (by kernel_rfl) (fun _ _ _ h => h) hD hS_1_7 (.inl ⟨by kernel_rfl, ?y1_9b3⟩) ?n1_9b3
      case y1_9b3 => intro w' _; go_simp; with_reducible rfl
      clear hD; intro hD
      simp only [Act.put, sqA, sqB, sqC]
      refine wpAnyK_pureD (i := 10) (d := some 15) (v := ?v1_10b3) (fuel := 11) rfl (by kernel_rfl) (by kernel_rfl) (fun _ _ _ h => h) hD hS_1_7 (.inl ⟨by kernel_rfl, ?y1_10b3⟩) ?n1_10b3
      case y1_10b3 => intro w' _; go_simp; with_reducible rfl
      clear hD; intro hD
      simp only [Act.put, sqA, sqB, sqC]
      refine wpAnyK_pureD (i := 11) (d := some 16) (v := ?v1_11b3) (fuel := 10) rfl (by kernel_rfl) (by kernel_rfl) (fun _ _ _ h => h) hD hS_1_7 (.inl ⟨by kernel_rfl, ?y1_11b3⟩) ?n1_11b3
      case y1_11b3 => intro w' _; go_simp; with_reducible rfl
      clear hD; intro hD
      simp only [Act.put, sqA, sqB, sqC]
      refine wpAnyK_takeSD (i := 12) (d := some 17) (v := ?v1_12b3) (fuel := 9) rfl (by kernel_rfl) (by kernel_rfl) (by kernel_rfl) (fun _ _ _ h => h) hD hS_1_7 (.inl ⟨by kernel_rfl, ?y1_12b3⟩) ?n1_12b3
      case y1_12b3 => intro w' hS'; have e0 := cell_kept hS' (Nat.le_refl _) c0; have e1 := cell_kept hS' (Nat.le_refl _) c1; have e2 := cell_kept hS' (Nat.le_refl _) c2; have e3 := cell_kept hS' (Nat.le_refl _) c3; go_simp; with_reducible rfl
      clear hD; intro hD
      simp only [Act.put, sqA, sqB, sqC]
      refine wpAnyK_pureD (i := 13) (d := some 18) (v := ?v1_13b3) (fuel := 8) rfl (by kernel_rfl) (by kernel_rfl) (fun _ _ _ h => h) hD hS_1_7 (.inl ⟨by kernel_rfl, ?y1_13b3⟩) ?n1_13b3
      case y1_13b3 => intro w' _; go_simp; with_reducible rfl
      clear hD; intro hD
      simp only [Act.put, sqA, sqB, sqC]
      refine wpAnyK_takeSD (i := 14) (d := some 19) (v := ?v1_14b3) (fuel := 7) rfl (by kernel_rfl) (by kernel_rfl) (by kernel_rfl) (fun _ _ _ h => h) hD hS_1_7 (.inl ⟨by kernel_rfl, ?y1_14b3⟩) ?n1_14b3
      case y1_14b3 => intro w' hS'; have e0 := cell_kept hS' (Nat.le_refl _) c0; have e1 := cell_kept hS' (Nat.le_refl _) c1; have e2 := cell_kept hS' (Nat.le_refl _) c2; have e3 := cell_kept hS' (Nat.le_refl _) c3; go_simp; with_reducible rfl
      clear hD; intro hD
      simp only [Act.put, sqA, sqB, sqC]
      refine wpAnyK_pureD (i := 15) (d := some 20) (v := ?v1_15b3) (fuel := 6) rfl (by kernel_rfl) (by kernel_rfl) (fun _ _ _ h => h) hD hS_1_7 (.inl ⟨by kernel_rfl, ?y1_15b3⟩) ?n1_15b3
      case y1_15b3 => intro w' _; go_simp; with_reducible rfl
      clear hD; intro hD
      simp only [Act.put, sqA, sqB, sqC]
      refine wpAnyK_pureD (i := 17) (d := some 22) (v := ?v1_17b3) (fuel := 5) rfl (by kernel_rfl) (by kernel_rfl) (fun _ _ _ h => h) hD hS_1_7 (.inl ⟨by kernel_rfl, ?y1_17b3⟩) ?n1_17b3
      case y1_17b3 => intro w' _; go_simp; with_reducible rfl
      clear hD; intro hD
      simp only [Act.put, sqA, sqB, sqC]
      refine wpAnyK_takeSD (i := 18) (d := some 23) (v := ?v1_18b3) (fuel := 4) rfl (by kernel_rfl) (by kernel_rfl) (by kernel_rfl) (fun _ _ _ h => h) hD hS_1_7 (.inl ⟨by kernel_rfl, ?y1_18b3⟩) ?n1_18b3
      case y1_18b3 => intro w' hS'; have e0 := cell_kept hS' (Nat.le_refl _) c0; have e1 := cell_kept hS' (Nat.le_refl _) c1; have e2 := cell_kept hS' (Nat.le_refl _) c2; have e3 := cell_kept hS' (Nat.le_refl _) c3; go_simp; with_reducible rfl
      clear hD; intro hD
      simp only [Act.put, sqA, sqB, sqC]
      refine wpAnyK_one (i := 16) (fuel := 3) (by kernel_rfl) rfl hD ?_
      clear hD; intro K16 hK16
      go_wp2_with fail
      refine (HEX.out _).mono ?_
      rintro ev w3 ⟨rfl, hb3⟩
      have HB16 := Lib.hid hb3
      clear hb3
      go_wp2
      refine hK16 _ _ (by exact Below.trans hS_1_7 (Below.mono HB16.out (Below.size hS_1_7))) ?_; clear hK16; intro hS_1_16 hD
      refine wpAnyK_pureD (i := 19) (d := some 24) (v := ?v1_19b3) (fuel := 2) rfl (by kernel_rfl) (by kernel_rfl) (fun _ _ _ h => h) hD hS_1_16 (.inl ⟨by kernel_rfl, ?y1_19b3⟩) ?n1_19b3
      case y1_19b3 => intro w' _; go_simp; with_reducible rfl
      clear hD; intro hD
      simp only [Act.put, sqA, sqB, sqC]
      refine wpAnyK_pureD (i := 20) (d := some 25) (v := ?v1_20b3) (fuel := 1) rfl (by kernel_rfl) (by kernel_rfl) (fun _ _ _ h => h) hD hS_1_16 (.inl ⟨by kernel_rfl, ?y1_20b3⟩) ?n1_20b3
      case y1_20b3 => intro w' _; go_simp; with_reducible rfl
      clear hD; intro hD
      simp only [Act.put, sqA, sqB, sqC]
      refine wpAnyK_one (i := 21) (fuel := 0) (by kernel_rfl) rfl hD ?_
      clear hD; intro K21 hK21
      go_wp2
      refine hK21 _ _ (by exact hS_1_16) ?_; clear hK21; intro hS_1_21 hD
      have HL := Lib.hid hS_1_21
      refine wpAnyK_done (by kernel_rfl) ?_ 0
      clear hD
      go_wp2
      go_ret
      exact ⟨rfl, (HXD.out.next HL.out).2⟩
    · have hge : decide (k1 < 0) = false := by rw [decide_eq_false_iff_not, hcm]; exact hlt
      have HR := Lib.hid (show decide (0 < num X ∧ num X < num O ∧ num G ^ num X % num M = num Y) = false from decide_eq_false fun h => hlt h.2.1)
      rw [HR.out]
      unfold kV
      clear hv hc hz hg hy v1 v2 v3 v4 h8 lO lX hbe hcm hk1 hx0 vX hM hk hlt hz2 lM hm0
      go_enter Tryz.func76, Tryz.ntmps76
      go_wp2
      try rw [hW0]
      refine wp_region_K 22 (Below (wd).heap.size (wd)) (by kernel_rfl) ?_
      intro hD
      rw [hwd]
      refine wpAnyK_pureD (i := 0) (d := some 5) (v := ?v1_0b4) (fuel := 21) rfl (by kernel_rfl) (by kernel_rfl) (fun _ _ _ h => h) hD (Below.refl _ _) (.inl ⟨by kernel_rfl, ?y1_0b4⟩) ?n1_0b4
      case y1_0b4 => intro w' _; go_simp; with_reducible rfl
      clear hD; intro hD
      simp only [Act.put, sqA, sqB, sqC]
      refine wpAnyK_pureD (i := 1) (d := some 6) (v := ?v1_1b4) (fuel := 20) rfl (by kernel_rfl) (by kernel_rfl) (fun _ _ _ h => h) hD (Below.refl _ _) (.inl ⟨by kernel_rfl, ?y1_1b4⟩) ?n1_1b4
      case y1_1b4 => intro w' _; go_simp; with_reducible rfl
      clear hD; intro hD
      simp only [Act.put, sqA, sqB, sqC]
      refine wpAnyK_pureD (i := 2) (d := some 7) (v := ?v1_2b4) (fuel := 19) rfl (by kernel_rfl) (by kernel_rfl) (fun _ _ _ h => h) hD (Below.refl _ _) (.inl ⟨by kernel_rfl, ?y1_2b4⟩) ?n1_2b4
      case y1_2b4 => intro w' _; go_simp; with_reducible rfl
      clear hD; intro hD
      simp only [Act.put, sqA, sqB, sqC]
      refine wpAnyK_pureD (i := 3) (d := some 8) (v := ?v1_3b4) (fuel := 18) rfl (by kernel_rfl) (by kernel_rfl) (fun _ _ _ h => h) hD (Below.refl _ _) (.inl ⟨by kernel_rfl, ?y1_3b4⟩) ?n1_3b4
      case y1_3b4 => intro w' _; go_simp; with_reducible rfl
      clear hD; intro hD
      simp only [Act.put, sqA, sqB, sqC]
      refine wpAnyK_pureD (i := 4) (d := some 9) (v := ?v1_4b4) (fuel := 17) rfl (by kernel_rfl) (by kernel_rfl) (fun _ _ _ h => h) hD (Below.refl _ _) (.inl ⟨by kernel_rfl, ?y1_4b4⟩) ?n1_4b4
      case y1_4b4 => intro w' _; go_simp; with_reducible rfl
      clear hD; intro hD
      simp only [Act.put, sqA, sqB, sqC]
      refine wpAnyK_pureD (i := 5) (d := some 10) (v := ?v1_5b4) (fuel := 16) rfl (by kernel_rfl) (by kernel_rfl) (fun _ _ _ h => h) hD (Below.refl _ _) (.inl ⟨by kernel_rfl, ?y1_5b4⟩) ?n1_5b4
      case y1_5b4 => intro w' _; go_simp; with_reducible rfl
      clear hD; intro hD
      simp only [Act.put, sqA, sqB, sqC]
      refine wpAnyK_takeSD (i := 6) (d := some 11) (v := ?v1_6b4) (fuel := 15) rfl (by kernel_rfl) (by kernel_rfl) (by kernel_rfl) (fun _ _ _ h => h) hD (Below.refl _ _) (.inl ⟨by kernel_rfl, ?y1_6b4⟩) ?n1_6b4
      case y1_6b4 => intro w' hS'; have e0 := cell_kept hS' (Nat.le_refl _) c0; have e1 := cell_kept hS' (Nat.le_refl _) c1; have e2 := cell_kept hS' (Nat.le_refl _) c2; have e3 := cell_kept hS' (Nat.le_refl _) c3; go_simp; with_reducible rfl
      clear hD; intro hD
      simp only [Act.put, sqA, sqB, sqC]
      refine wpAnyK_one (i := 7) (fuel := 14) (by kernel_rfl) rfl hD ?_
      clear hD; intro K7 hK7
      go_wp2_with fail
      refine (HCM.out _).mono ?_
      rintro ev w2 ⟨rfl, hb2⟩
      have HB7 := Lib.hid hb2
      clear hb2
      go_wp2
      refine hK7 _ _ (by exact HB7.out) ?_; clear hK7; intro hS_1_7 hD
      refine wpAnyK_pureD (i := 8) (d := some 13) (v := ?v1_8b4) (fuel := 13) rfl (by kernel_rfl) (by kernel_rfl) (fun _ _ _ h => h) hD hS_1_7 (.inl ⟨by kernel_rfl, ?y1_8b4⟩) ?n1_8b4
      case y1_8b4 => intro w' _; go_simp; with_reducible rfl
      clear hD; intro hD
      simp only [Act.put, sqA, sqB, sqC]
      refine wpAnyK_pureD (i := 9) (d := some 14) (v := ?v1_9b4) (fuel := 12) rfl (by kernel_rfl) (by kernel_rfl) (fun _ _ _ h => h) hD hS_1_7 (.inl ⟨by kernel_rfl, ?y1_9b4⟩) ?n1_9b4
      case y1_9b4 => intro w' _; go_simp; with_reducible rfl
      clear hD; intro hD
      simp only [Act.put, sqA, sqB, sqC]
      refine wpAnyK_pureD (i := 10) (d := some 15) (v := ?v1_10b4) (fuel := 11) rfl (by kernel_rfl) (by kernel_rfl) (fun _ _ _ h => h) hD hS_1_7 (.inl ⟨by kernel_rfl, ?y1_10b4⟩) ?n1_10b4
      case y1_10b4 => intro w' _; go_simp; with_reducible rfl
      clear hD; intro hD
      simp only [Act.put, sqA, sqB, sqC]
      refine wpAnyK_pureD (i := 11) (d := some 16) (v := undef) (fuel := 10) rfl (by kernel_rfl) (by kernel_rfl) (fun _ _ _ h => h) hD hS_1_7 (.inr ⟨by kernel_rfl, rfl⟩) ?_
      clear hD; intro hD
      simp only [Act.put, sqA, sqB, sqC]
      refine wpAnyK_pureD (i := 12) (d := some 17) (v := undef) (fuel := 9) rfl (by kernel_rfl) (by kernel_rfl) (fun _ _ _ h => h) hD hS_1_7 (.inr ⟨by kernel_rfl, rfl⟩) ?_
      clear hD; intro hD
      simp only [Act.put, sqA, sqB, sqC]
      refine wpAnyK_pureD (i := 13) (d := some 18) (v := undef) (fuel := 8) rfl (by kernel_rfl) (by kernel_rfl) (fun _ _ _ h => h) hD hS_1_7 (.inr ⟨by kernel_rfl, rfl⟩) ?_
      clear hD; intro hD
      simp only [Act.put, sqA, sqB, sqC]
      refine wpAnyK_pureD (i := 14) (d := some 19) (v := undef) (fuel := 7) rfl (by kernel_rfl) (by kernel_rfl) (fun _ _ _ h => h) hD hS_1_7 (.inr ⟨by kernel_rfl, rfl⟩) ?_
      clear hD; intro hD
      simp only [Act.put, sqA, sqB, sqC]
      refine wpAnyK_pureD (i := 15) (d := some 20) (v := undef) (fuel := 6) rfl (by kernel_rfl) (by kernel_rfl) (fun _ _ _ h => h) hD hS_1_7 (.inr ⟨by kernel_rfl, rfl⟩) ?_
      clear hD; intro hD
      simp only [Act.put, sqA, sqB, sqC]
      refine wpAnyK_pureD (i := 16) (d := some 21) (v := undef) (fuel := 5) rfl (by kernel_rfl) (by kernel_rfl) (fun _ _ _ h => h) hD hS_1_7 (.inr ⟨by kernel_rfl, rfl⟩) ?_
      clear hD; intro hD
      simp only [Act.put, sqA, sqB, sqC]
      refine wpAnyK_pureD (i := 17) (d := some 22) (v := undef) (fuel := 4) rfl (by kernel_rfl) (by kernel_rfl) (fun _ _ _ h => h) hD hS_1_7 (.inr ⟨by kernel_rfl, rfl⟩) ?_
      clear hD; intro hD
      simp only [Act.put, sqA, sqB, sqC]
      refine wpAnyK_pureD (i := 18) (d := some 23) (v := undef) (fuel := 3) rfl (by kernel_rfl) (by kernel_rfl) (fun _ _ _ h => h) hD hS_1_7 (.inr ⟨by kernel_rfl, rfl⟩) ?_
      clear hD; intro hD
      simp only [Act.put, sqA, sqB, sqC]
      refine wpAnyK_pureD (i := 19) (d := some 24) (v := undef) (fuel := 2) rfl (by kernel_rfl) (by kernel_rfl) (fun _ _ _ h => h) hD hS_1_7 (.inr ⟨by kernel_rfl, rfl⟩) ?_
      clear hD; intro hD
      simp only [Act.put, sqA, sqB, sqC]
      refine wpAnyK_pureD (i := 20) (d := some 25) (v := ?v1_20b4) (fuel := 1) rfl (by kernel_rfl) (by kernel_rfl) (fun _ _ _ h => h) hD hS_1_7 (.inl ⟨by kernel_rfl, ?y1_20b4⟩) ?n1_20b4
      case y1_20b4 => intro w' _; go_simp; with_reducible rfl
      clear hD; intro hD
      simp only [Act.put, sqA, sqB, sqC]
      refine wpAnyK_one (i := 21) (fuel := 0) (by kernel_rfl) rfl hD ?_
      clear hD; intro K21 hK21
      go_wp2
      refine hK21 _ _ (by exact hS_1_7) ?_; clear hK21; intro hS_1_21 hD
      have HL := Lib.hid hS_1_21
      refine wpAnyK_done (by kernel_rfl) ?_ 0
      clear hD
      go_wp2
      go_ret
      exact ⟨rfl, (HXD.out.next HL.out).2⟩
end Go.Proofs.YtndmjfkmnjejkaaGreatDoor

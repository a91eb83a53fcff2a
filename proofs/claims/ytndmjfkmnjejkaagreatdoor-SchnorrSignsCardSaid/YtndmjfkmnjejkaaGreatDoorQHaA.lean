/- Walks: dominoref33.commitment, secret. -/
import Derived.Test.YtndmjfkmnjejkaaGreatDoorQScG
import Derived.Test.YtndmjfkmnjejkaaGreatDoorQCoE
import Derived.Test.YtndmjfkmnjejkaaGreatDoorQShK
import Derived.Test.YtndmjfkmnjejkaaGreatDoorQOvr
import Derived.Lib.ItoaNum
set_option linter.unusedVariables false
set_option linter.unusedSimpArgs false
namespace Go.Proofs.YtndmjfkmnjejkaaGreatDoor
open Go.RowKit Go.Lib
set_option maxRecDepth 100000 in
set_option maxHeartbeats 2000000 in
theorem r33_secret (M O G Y X : ByteArray) (hM : M.size ≤ 8) (hk : scK M O G Y = 0) (vX : nvalid X = true) (w : World) : Calls Tryz.prog 76 #[kV M O G Y, .string X] w (Ret (.bool (decide (0 < num X ∧ num X < num O ∧ num G ^ num X % num M = num Y))) w) := by
  obtain ⟨hv, hc, hz, hg, hy⟩ := scK_ok hk
  obtain ⟨v1, v2, v3, v4⟩ := all_four hv
  have h8 := chk_small hv hM hc
  have lO := nvalid_lt v2
  have lX := nvalid_lt vX
  have lM := num_small hM
  have hm0 : 0 < num M := by
    obtain ⟨i, hu⟩ := has_un (chkK_parts hc).2.2 (genK_parts hg).1
    have := hu.1
    omega
  have HCM := Lib.hid (r01_Order (nS (num X)) (nS (num O)) (by have := nS_size_le.2 lX; omega) (by have := nS_size_le.2 lO; omega))
  rw [ordB_nS, ← nS_num vX, ← nS_num v2] at HCM
  have HEX := Lib.hid (r33_raise M O G X hM v1 hm0 v3 vX)
  have hbe := nS_beq (num G ^ num X % num M) (num Y)
  rw [← nS_num v4] at hbe
  have HX0 := Lib.hid (SB.new w M O G Y)
  obtain ⟨W0, hW0⟩ : ∃ W, w.alloc (.cells #[.string M, .string O, .string G, .string Y] 46) = W := ⟨_, rfl⟩
  rw [hW0] at HX0
  have hcm := cmpI_ltC (x := num X) (y := num O)
  obtain ⟨k1, hk1⟩ : ∃ k, cmpI (num X) (num O) = k := ⟨_, rfl⟩
  rw [hk1] at HCM hcm
  obtain ⟨z, hz2⟩ : ∃ z, nS (num G ^ num X % num M) = z := ⟨_, rfl⟩
  rw [hz2] at HEX hbe
  have HXD := Lib.hid (show SB w W0.drew M O G Y from HX0.out.next (Below.refl _ _).drew)
  obtain ⟨wd, hwd⟩ : ∃ wd, W0.drew = wd := ⟨_, rfl⟩
  rw [hwd] at HXD
  obtain ⟨c0, c1, c2, c3⟩ := HXD.out.1.cells
  by_cases hx0 : num X = 0
  · have HR := Lib.hid (show decide (0 < num X ∧ num X < num O ∧ num G ^ num X % num M = num Y) = false from decide_eq_false fun h => by omega)
    have hem : X.toList.isEmpty = true := by rw [nS_num vX, hx0]; exact sempty_true rfl
    rw [HR.out]
    unfold kV
    clear hv hc hz hg hy v1 v2 v3 v4 h8 lO lX hbe hcm hk1 hx0 vX hM hk hz2 lM hm0
    go_enter Tryz.func76, Tryz.ntmps76
    go_wp2
    try rw [hW0]
    refine wp_region_K 22 (Below (wd).heap.size (wd)) (by kernel_rfl) ?_
    intro hD
    rw [hwd]
    refine rP 0 5 21 rfl hD (Below.refl _ _) ?_; clear hD; intro hD; simp only [Act.put, sqA, sqB, sqC]
    refine rP 1 6 20 rfl hD (Below.refl _ _) ?_; clear hD; intro hD; simp only [Act.put, sqA, sqB, sqC]
    refine rP 2 7 19 rfl hD (Below.refl _ _) ?_; clear hD; intro hD; simp only [Act.put, sqA, sqB, sqC]
    refine rU 3 8 18 rfl hD (Below.refl _ _) ?_; clear hD; intro hD; simp only [Act.put, sqA, sqB, sqC]
    refine rU 4 9 17 rfl hD (Below.refl _ _) ?_; clear hD; intro hD; simp only [Act.put, sqA, sqB, sqC]
    refine rU 5 10 16 rfl hD (Below.refl _ _) ?_; clear hD; intro hD; simp only [Act.put, sqA, sqB, sqC]
    refine rU 6 11 15 rfl hD (Below.refl _ _) ?_; clear hD; intro hD; simp only [Act.put, sqA, sqB, sqC]
    refine rU 7 12 14 rfl hD (Below.refl _ _) ?_; clear hD; intro hD; simp only [Act.put, sqA, sqB, sqC]
    refine rU 8 13 13 rfl hD (Below.refl _ _) ?_; clear hD; intro hD; simp only [Act.put, sqA, sqB, sqC]
    refine rP 9 14 12 rfl hD (Below.refl _ _) ?_; clear hD; intro hD; simp only [Act.put, sqA, sqB, sqC]
    refine rP 10 15 11 rfl hD (Below.refl _ _) ?_; clear hD; intro hD; simp only [Act.put, sqA, sqB, sqC]
    refine rU 11 16 10 rfl hD (Below.refl _ _) ?_; clear hD; intro hD; simp only [Act.put, sqA, sqB, sqC]
    refine rU 12 17 9 rfl hD (Below.refl _ _) ?_; clear hD; intro hD; simp only [Act.put, sqA, sqB, sqC]
    refine rU 13 18 8 rfl hD (Below.refl _ _) ?_; clear hD; intro hD; simp only [Act.put, sqA, sqB, sqC]
    refine rU 14 19 7 rfl hD (Below.refl _ _) ?_; clear hD; intro hD; simp only [Act.put, sqA, sqB, sqC]
    refine rU 15 20 6 rfl hD (Below.refl _ _) ?_; clear hD; intro hD; simp only [Act.put, sqA, sqB, sqC]
    refine rU 16 21 5 rfl hD (Below.refl _ _) ?_; clear hD; intro hD; simp only [Act.put, sqA, sqB, sqC]
    refine rU 17 22 4 rfl hD (Below.refl _ _) ?_; clear hD; intro hD; simp only [Act.put, sqA, sqB, sqC]
    refine rU 18 23 3 rfl hD (Below.refl _ _) ?_; clear hD; intro hD; simp only [Act.put, sqA, sqB, sqC]
    refine rU 19 24 2 rfl hD (Below.refl _ _) ?_; clear hD; intro hD; simp only [Act.put, sqA, sqB, sqC]
    refine rP 20 25 1 rfl hD (Below.refl _ _) ?_; clear hD; intro hD; simp only [Act.put, sqA, sqB, sqC]
    refine rO 21 0 rfl hD ?_; clear hD; intro K21 hK21
    go_wp2
    refine hK21 _ _ (by exact (Below.refl _ _)) ?_; clear hK21; intro hS_1_21 hD
    refine wpAnyK_done (by kernel_rfl) ?_ 0
    clear hD
    go_wp2
    go_ret
    exact ⟨rfl, HXD.out.2⟩
  · have hem : X.toList.isEmpty = false := by rw [nS_num vX]; exact empty_nS (by omega)
    by_cases hlt : num X < num O
    · have hge : decide (k1 < 0) = true := by rw [decide_eq_true_iff, hcm]; exact hlt
      have HR := Lib.hid (show decide (0 < num X ∧ num X < num O ∧ num G ^ num X % num M = num Y) = (z.toList == Y.toList) from by
        rw [hbe, decide_eq_decide]; exact ⟨fun h => h.2.2, fun h => ⟨by omega, hlt, h⟩⟩)
      rw [HR.out]
      unfold kV gV at *
      clear hv hc hz hg hy v1 v2 v3 v4 h8 lO lX hbe hcm hk1 hx0 vX hM hk hz2 hlt lM hm0
      go_enter Tryz.func76, Tryz.ntmps76
      go_wp2
      try rw [hW0]
      refine wp_region_K 22 (Below (wd).heap.size (wd)) (by kernel_rfl) ?_
      intro hD
      rw [hwd]
      have KK3 := Lib.hid (fun w' (hS' : (Below (wd).heap.size (wd)) w') => And.intro (kC hS' c0) (And.intro (kC hS' c1) (And.intro (kC hS' c2) (kC hS' c3))))
      refine rP 0 5 21 rfl hD (Below.refl _ _) ?_; clear hD; intro hD; simp only [Act.put, sqA, sqB, sqC]
      refine rP 1 6 20 rfl hD (Below.refl _ _) ?_; clear hD; intro hD; simp only [Act.put, sqA, sqB, sqC]
      refine rP 2 7 19 rfl hD (Below.refl _ _) ?_; clear hD; intro hD; simp only [Act.put, sqA, sqB, sqC]
      refine rP 3 8 18 rfl hD (Below.refl _ _) ?_; clear hD; intro hD; simp only [Act.put, sqA, sqB, sqC]
      refine rP 4 9 17 rfl hD (Below.refl _ _) ?_; clear hD; intro hD; simp only [Act.put, sqA, sqB, sqC]
      refine rP 5 10 16 rfl hD (Below.refl _ _) ?_; clear hD; intro hD; simp only [Act.put, sqA, sqB, sqC]
      refine rT 6 11 15 rfl hD (Below.refl _ _) (by intro w' hS'; obtain ⟨e0, e1, e2, e3⟩ := KK3.out w' hS'; go_simp; with_reducible rfl) ?_; clear hD; intro hD; simp only [Act.put, sqA, sqB, sqC]
      refine rO 7 14 rfl hD ?_; clear hD; intro K7 hK7
      go_wp2_with fail
      refine (HCM.out _).mono ?_
      rintro ev w2 ⟨rfl, hb2⟩
      have HB7 := Lib.hid hb2
      clear hb2
      go_wp2
      refine hK7 _ _ (by exact HB7.out) ?_; clear hK7; intro hS_1_7 hD
      refine rP 8 13 13 rfl hD hS_1_7 ?_; clear hD; intro hD; simp only [Act.put, sqA, sqB, sqC]
      refine rP 9 14 12 rfl hD hS_1_7 ?_; clear hD; intro hD; simp only [Act.put, sqA, sqB, sqC]
      refine rP 10 15 11 rfl hD hS_1_7 ?_; clear hD; intro hD; simp only [Act.put, sqA, sqB, sqC]
      refine rP 11 16 10 rfl hD hS_1_7 ?_; clear hD; intro hD; simp only [Act.put, sqA, sqB, sqC]
      refine rT 12 17 9 rfl hD hS_1_7 (by intro w' hS'; obtain ⟨e0, e1, e2, e3⟩ := KK3.out w' hS'; go_simp; with_reducible rfl) ?_; clear hD; intro hD; simp only [Act.put, sqA, sqB, sqC]
      refine rP 13 18 8 rfl hD hS_1_7 ?_; clear hD; intro hD; simp only [Act.put, sqA, sqB, sqC]
      refine rT 14 19 7 rfl hD hS_1_7 (by intro w' hS'; obtain ⟨e0, e1, e2, e3⟩ := KK3.out w' hS'; go_simp; with_reducible rfl) ?_; clear hD; intro hD; simp only [Act.put, sqA, sqB, sqC]
      refine rP 15 20 6 rfl hD hS_1_7 ?_; clear hD; intro hD; simp only [Act.put, sqA, sqB, sqC]
      refine rP 17 22 5 rfl hD hS_1_7 ?_; clear hD; intro hD; simp only [Act.put, sqA, sqB, sqC]
      refine rT 18 23 4 rfl hD hS_1_7 (by intro w' hS'; obtain ⟨e0, e1, e2, e3⟩ := KK3.out w' hS'; go_simp; with_reducible rfl) ?_; clear hD; intro hD; simp only [Act.put, sqA, sqB, sqC]
      refine rO 16 3 rfl hD ?_; clear hD; intro K16 hK16
      go_wp2_with fail
      refine (HEX.out _).mono ?_
      rintro ev w3 ⟨rfl, hb3⟩
      have HB16 := Lib.hid hb3
      clear hb3
      go_wp2
      refine hK16 _ _ (by exact Below.trans hS_1_7 (Below.mono HB16.out (Below.size hS_1_7))) ?_; clear hK16; intro hS_1_16 hD
      refine rP 19 24 2 rfl hD hS_1_16 ?_; clear hD; intro hD; simp only [Act.put, sqA, sqB, sqC]
      refine rP 20 25 1 rfl hD hS_1_16 ?_; clear hD; intro hD; simp only [Act.put, sqA, sqB, sqC]
      refine rO 21 0 rfl hD ?_; clear hD; intro K21 hK21
      go_wp2
      refine hK21 _ _ (by exact hS_1_16) ?_; clear hK21; intro hS_1_21 hD
      have HL := Lib.hid hS_1_21
      refine wpAnyK_done (by kernel_rfl) ?_ 0
      clear hD
      go_wp2
      go_ret
      exact ⟨rfl, (HXD.out.next HL.out).2⟩
    · have hge : decide (k1 < 0) = false := by rw [decide_eq_false_iff_not, hcm]; exact hlt
      have HR := Lib.hid (show decide (0 < num X ∧ num X < num O ∧ num G ^ num X % num M = num Y) = false from decide_eq_false fun h => hlt h.2.1)
      rw [HR.out]
      unfold kV
      clear hv hc hz hg hy v1 v2 v3 v4 h8 lO lX hbe hcm hk1 hx0 vX hM hk hlt hz2 lM hm0
      go_enter Tryz.func76, Tryz.ntmps76
      go_wp2
      try rw [hW0]
      refine wp_region_K 22 (Below (wd).heap.size (wd)) (by kernel_rfl) ?_
      intro hD
      rw [hwd]
      refine rP 0 5 21 rfl hD (Below.refl _ _) ?_; clear hD; intro hD; simp only [Act.put, sqA, sqB, sqC]
      refine rP 1 6 20 rfl hD (Below.refl _ _) ?_; clear hD; intro hD; simp only [Act.put, sqA, sqB, sqC]
      refine rP 2 7 19 rfl hD (Below.refl _ _) ?_; clear hD; intro hD; simp only [Act.put, sqA, sqB, sqC]
      refine rP 3 8 18 rfl hD (Below.refl _ _) ?_; clear hD; intro hD; simp only [Act.put, sqA, sqB, sqC]
      refine rP 4 9 17 rfl hD (Below.refl _ _) ?_; clear hD; intro hD; simp only [Act.put, sqA, sqB, sqC]
      refine rP 5 10 16 rfl hD (Below.refl _ _) ?_; clear hD; intro hD; simp only [Act.put, sqA, sqB, sqC]
      refine rT 6 11 15 rfl hD (Below.refl _ _) (by intro w' hS'; have e0 := kC hS' c0; have e1 := kC hS' c1; have e2 := kC hS' c2; have e3 := kC hS' c3; go_simp; with_reducible rfl) ?_; clear hD; intro hD; simp only [Act.put, sqA, sqB, sqC]
      refine rO 7 14 rfl hD ?_; clear hD; intro K7 hK7
      go_wp2_with fail
      refine (HCM.out _).mono ?_
      rintro ev w2 ⟨rfl, hb2⟩
      have HB7 := Lib.hid hb2
      clear hb2
      go_wp2
      refine hK7 _ _ (by exact HB7.out) ?_; clear hK7; intro hS_1_7 hD
      refine rP 8 13 13 rfl hD hS_1_7 ?_; clear hD; intro hD; simp only [Act.put, sqA, sqB, sqC]
      refine rP 9 14 12 rfl hD hS_1_7 ?_; clear hD; intro hD; simp only [Act.put, sqA, sqB, sqC]
      refine rP 10 15 11 rfl hD hS_1_7 ?_; clear hD; intro hD; simp only [Act.put, sqA, sqB, sqC]
      refine rU 11 16 10 rfl hD hS_1_7 ?_; clear hD; intro hD; simp only [Act.put, sqA, sqB, sqC]
      refine rU 12 17 9 rfl hD hS_1_7 ?_; clear hD; intro hD; simp only [Act.put, sqA, sqB, sqC]
      refine rU 13 18 8 rfl hD hS_1_7 ?_; clear hD; intro hD; simp only [Act.put, sqA, sqB, sqC]
      refine rU 14 19 7 rfl hD hS_1_7 ?_; clear hD; intro hD; simp only [Act.put, sqA, sqB, sqC]
      refine rU 15 20 6 rfl hD hS_1_7 ?_; clear hD; intro hD; simp only [Act.put, sqA, sqB, sqC]
      refine rU 16 21 5 rfl hD hS_1_7 ?_; clear hD; intro hD; simp only [Act.put, sqA, sqB, sqC]
      refine rU 17 22 4 rfl hD hS_1_7 ?_; clear hD; intro hD; simp only [Act.put, sqA, sqB, sqC]
      refine rU 18 23 3 rfl hD hS_1_7 ?_; clear hD; intro hD; simp only [Act.put, sqA, sqB, sqC]
      refine rU 19 24 2 rfl hD hS_1_7 ?_; clear hD; intro hD; simp only [Act.put, sqA, sqB, sqC]
      refine rP 20 25 1 rfl hD hS_1_7 ?_; clear hD; intro hD; simp only [Act.put, sqA, sqB, sqC]
      refine rO 21 0 rfl hD ?_; clear hD; intro K21 hK21
      go_wp2
      refine hK21 _ _ (by exact hS_1_7) ?_; clear hK21; intro hS_1_21 hD
      have HL := Lib.hid hS_1_21
      refine wpAnyK_done (by kernel_rfl) ?_ 0
      clear hD
      go_wp2
      go_ret
      exact ⟨rfl, (HXD.out.next HL.out).2⟩
end Go.Proofs.YtndmjfkmnjejkaaGreatDoor
/- Walks: dominoref05.xored, dominoref05.Mac for keys of at most 64 bytes. -/
set_option linter.unusedVariables false
set_option linter.unusedSimpArgs false
namespace Go.Proofs.YtndmjfkmnjejkaaGreatDoor
open Go.RowKit Go.Lib
def RowU (w : World) (B : Nat) (f : Nat → UInt8) : Prop := w.heap[B]? = some (.cells (yc f) 5 (0, 0))
theorem RowU.cell {w : World} {B : Nat} {f : Nat → UInt8} (h : RowU w B f) {k : Nat} (hk : k < 64) : w.cell? ⟨B, k, none⟩ = some (.int .u8 ((f k).toNat : Int)) := by
  rw [Lib.cell_of_heap h, yc_get f hk]
theorem RowU.free {w : World} {B : Nat} {f : Nat → UInt8} (h : RowU w B f) (k : Nat) : w.frozen? ⟨B, k, none⟩ = false := Lib.frozen_of_heap h k
theorem RowU.set {w : World} {B : Nat} {f : Nat → UInt8} (h : RowU w B f) (k : Nat) (x : UInt8) : RowU (w.setCell ⟨B, k, none⟩ (.int .u8 (x.toNat : Int))) B (fun j => if j = k then x else f j) := by
  unfold RowU; rw [block_setCell h, yc_set]
theorem RowU.bytes {w : World} {B : Nat} {f : Nat → UInt8} (h : RowU w B f) : BytesAt w (some ⟨B, 0, none⟩) 64 64 ((List.range 64).map f) := by
  refine ⟨by simp, Nat.le_refl _, by omega, fun _ => ⟨B, 0, rfl, fun k hk => ?_⟩⟩
  rw [Nat.zero_add, h.cell hk]
  simp [byteI, hk]
def xu (l : List UInt8) (x : UInt8) (k : Nat) (j : Nat) : UInt8 := if j < k then l.getD j 0 ^^^ x else 0
theorem xu_zero (l : List UInt8) (x : UInt8) : xu l x 0 = fun _ => 0 := by funext j; simp [xu]
theorem xu_step (l : List UInt8) (x : UInt8) (k : Nat) : (fun j => if j = k then l.getD k 0 ^^^ x else xu l x k j) = xu l x (k + 1) := by
  funext j
  unfold xu
  by_cases e : j = k
  · subst e; simp
  · rw [if_neg e]
    by_cases h : j < k
    · rw [if_pos h, if_pos (by omega)]
    · rw [if_neg h, if_neg (by omega)]
theorem xu_all (l : List UInt8) (x : UInt8) : (List.range 64).map (xu l x 64) = xorL l x := by
  unfold xorL
  apply List.map_congr_left
  intro i hi
  have : i < 64 := by simpa using hi
  simp [xu, this]
theorem xu_twice (l : List UInt8) (x y : UInt8) (k : Nat) : (fun j => if j = k then l.getD k 0 ^^^ x else if j = k then y else xu l x k j) = xu l x (k + 1) := by
  rw [← xu_step]
  funext j
  by_cases e : j = k
  · rw [if_pos e, if_pos e]
  · rw [if_neg e, if_neg e, if_neg e]
set_option maxRecDepth 100000 in
set_option maxHeartbeats 2000000 in
theorem r05_xored54 (key : ByteArray) (hk : key.size ≤ 64) (w : World) : Calls Tryz.prog 224 #[.string key, .int .u8 54] w (Ret (.string (bstr (xorL key.data.toList 54))) w) := by
  have hmk : (Instr.makeSlice 125 (.int .i64 64) (.int .i64 64)).run Tryz.prog w = .ok (.slice (some ⟨w.heap.size, 0, none⟩) 64 64) (w.alloc (.cells z64b 5)) := make_room 64 64 (by omega) (by omega) w
  obtain ⟨zb, hzb⟩ : ∃ z, z64b = z := ⟨_, rfl⟩
  have HR0 := Lib.hid (show RowU (w.alloc (.cells z64b 5)) w.heap.size (xu key.data.toList 54 0) from by rw [xu_zero]; unfold RowU; rw [yc_zero]; exact heap_alloc_new _ _)
  have HB0 := Lib.hid ((Below.refl w.heap.size w).alloc (Nat.le_refl _) (.cells z64b 5))
  rw [hzb] at hmk HR0 HB0
  obtain ⟨l, hl⟩ : ∃ l, key.data.toList = l := ⟨_, rfl⟩
  have HLL := Lib.hid (show l.length = key.size from by rw [← hl]; exact Array.length_toList)
  have HGD := Lib.hid (show ∀ k (h : k < key.size), l.getD k 0 = key[k] from fun k h => by rw [← hl]; exact data_getD key k h)
  rw [hl] at HR0 ⊢
  clear hl hzb
  go_enter Tryz.func224, Tryz.ntmps224
  go_wp2
  obtain ⟨w1, hw1⟩ : ∃ W, w.alloc (.cells zb 5) = W := ⟨_, rfl⟩
  obtain ⟨P, hP⟩ : ∃ P, w.heap.size = P := ⟨_, rfl⟩
  have HP := Lib.hid hP
  rw [hw1, hP] at HR0 HB0
  try rw [hw1]
  rw [hP]
  clear hw1 hP hmk
  go_loopw [6] (fun v wr => ∃ k : Nat, k ≤ 64 ∧ v = .int .i64 k ∧ RowU wr P (xu l 54 k) ∧ Below P w wr) (fun v _ => 64 - (RowKit.intOf v).toNat)
  case atStart => exact ⟨0, by omega, rfl, HR0.out, HB0.out⟩
  case round =>
    obtain ⟨k, hk, rfl, hy, hb⟩ := hrel
    have HY := Lib.hid hy
    have HB := Lib.hid hb
    clear hy hb HR0 HB0
    by_cases hlt : k < 64
    · have hki : (k : Int) < 64 := by omega
      have HK := Lib.hid hlt
      have d0 := HY.out.cell hlt
      have f0 := HY.out.free k
      obtain ⟨x0, hx0⟩ : ∃ x, ((xu l 54 k k).toNat : Int) = x := ⟨_, rfl⟩
      rw [hx0] at d0
      clear hx0 hlt hk
      by_cases hks : k < key.size
      · have hksi : (k : Int) < (key.size : Int) := by omega
        have HG := Lib.hid (HGD.out k hks)
        go_wp2
        have h1 := (HY.out.set k 54).set k (key[k] ^^^ 54)
        rw [show ((54 : UInt8).toNat : Int) = 54 from rfl] at h1
        rw [xor_54 key[k]]
        refine ⟨⟨k + 1, by have := HK.out; omega, by go_num, ?_, (HB.out.setCell (p := ⟨P, k, none⟩) (Nat.le_refl P) _).setCell (p := ⟨P, k, none⟩) (Nat.le_refl P) _⟩, ?_⟩
        · rw [← xu_twice l 54 54 k, HG.out]; exact h1
        · have := HK.out; simp [RowKit.intOf]; omega
      · have hksi : ¬ ((k : Int) < (key.size : Int)) := by omega
        have HG := Lib.hid (show l.getD k 0 = 0 from by rw [List.getD_eq_getElem?_getD, List.getElem?_eq_none (by have := HLL.out; omega)]; rfl)
        go_wp2
        have h1 := HY.out.set k 54
        rw [show ((54 : UInt8).toNat : Int) = 54 from rfl] at h1
        refine ⟨⟨k + 1, by have := HK.out; omega, by go_num, ?_, HB.out.setCell (p := ⟨P, k, none⟩) (Nat.le_refl P) _⟩, ?_⟩
        · rw [← xu_step l 54 k, HG.out]; exact h1
        · have := HK.out; simp [RowKit.intOf]; omega
    · obtain rfl : k = 64 := by omega
      have hki : ¬ (((64 : Nat) : Int) < 64) := by omega
      have hbt : BytesAt wr (some ⟨P, 0, none⟩) 64 64 (xorL l 54) := by rw [← xu_all]; exact HY.out.bytes
      have hconv := hbt.conv 125 9 5 Tryz.underlying125 Tryz.underlying5 Tryz.underlying9
      clear hk hlt hbt
      go_wp2
      go_ret
      exact ⟨rfl, by rw [HP.out]; exact HB.out⟩
set_option maxRecDepth 100000 in
set_option maxHeartbeats 2000000 in
theorem r05_xored92 (key : ByteArray) (hk : key.size ≤ 64) (w : World) : Calls Tryz.prog 224 #[.string key, .int .u8 92] w (Ret (.string (bstr (xorL key.data.toList 92))) w) := by
  have hmk : (Instr.makeSlice 125 (.int .i64 64) (.int .i64 64)).run Tryz.prog w = .ok (.slice (some ⟨w.heap.size, 0, none⟩) 64 64) (w.alloc (.cells z64b 5)) := make_room 64 64 (by omega) (by omega) w
  obtain ⟨zb, hzb⟩ : ∃ z, z64b = z := ⟨_, rfl⟩
  have HR0 := Lib.hid (show RowU (w.alloc (.cells z64b 5)) w.heap.size (xu key.data.toList 92 0) from by rw [xu_zero]; unfold RowU; rw [yc_zero]; exact heap_alloc_new _ _)
  have HB0 := Lib.hid ((Below.refl w.heap.size w).alloc (Nat.le_refl _) (.cells z64b 5))
  rw [hzb] at hmk HR0 HB0
  obtain ⟨l, hl⟩ : ∃ l, key.data.toList = l := ⟨_, rfl⟩
  have HLL := Lib.hid (show l.length = key.size from by rw [← hl]; exact Array.length_toList)
  have HGD := Lib.hid (show ∀ k (h : k < key.size), l.getD k 0 = key[k] from fun k h => by rw [← hl]; exact data_getD key k h)
  rw [hl] at HR0 ⊢
  clear hl hzb
  go_enter Tryz.func224, Tryz.ntmps224
  go_wp2
  obtain ⟨w1, hw1⟩ : ∃ W, w.alloc (.cells zb 5) = W := ⟨_, rfl⟩
  obtain ⟨P, hP⟩ : ∃ P, w.heap.size = P := ⟨_, rfl⟩
  have HP := Lib.hid hP
  rw [hw1, hP] at HR0 HB0
  try rw [hw1]
  rw [hP]
  clear hw1 hP hmk
  go_loopw [6] (fun v wr => ∃ k : Nat, k ≤ 64 ∧ v = .int .i64 k ∧ RowU wr P (xu l 92 k) ∧ Below P w wr) (fun v _ => 64 - (RowKit.intOf v).toNat)
  case atStart => exact ⟨0, by omega, rfl, HR0.out, HB0.out⟩
  case round =>
    obtain ⟨k, hk, rfl, hy, hb⟩ := hrel
    have HY := Lib.hid hy
    have HB := Lib.hid hb
    clear hy hb HR0 HB0
    by_cases hlt : k < 64
    · have hki : (k : Int) < 64 := by omega
      have HK := Lib.hid hlt
      have d0 := HY.out.cell hlt
      have f0 := HY.out.free k
      obtain ⟨x0, hx0⟩ : ∃ x, ((xu l 92 k k).toNat : Int) = x := ⟨_, rfl⟩
      rw [hx0] at d0
      clear hx0 hlt hk
      by_cases hks : k < key.size
      · have hksi : (k : Int) < (key.size : Int) := by omega
        have HG := Lib.hid (HGD.out k hks)
        go_wp2
        have h1 := (HY.out.set k 92).set k (key[k] ^^^ 92)
        rw [show ((92 : UInt8).toNat : Int) = 92 from rfl] at h1
        rw [xor_92 key[k]]
        refine ⟨⟨k + 1, by have := HK.out; omega, by go_num, ?_, (HB.out.setCell (p := ⟨P, k, none⟩) (Nat.le_refl P) _).setCell (p := ⟨P, k, none⟩) (Nat.le_refl P) _⟩, ?_⟩
        · rw [← xu_twice l 92 92 k, HG.out]; exact h1
        · have := HK.out; simp [RowKit.intOf]; omega
      · have hksi : ¬ ((k : Int) < (key.size : Int)) := by omega
        have HG := Lib.hid (show l.getD k 0 = 0 from by rw [List.getD_eq_getElem?_getD, List.getElem?_eq_none (by have := HLL.out; omega)]; rfl)
        go_wp2
        have h1 := HY.out.set k 92
        rw [show ((92 : UInt8).toNat : Int) = 92 from rfl] at h1
        refine ⟨⟨k + 1, by have := HK.out; omega, by go_num, ?_, HB.out.setCell (p := ⟨P, k, none⟩) (Nat.le_refl P) _⟩, ?_⟩
        · rw [← xu_step l 92 k, HG.out]; exact h1
        · have := HK.out; simp [RowKit.intOf]; omega
    · obtain rfl : k = 64 := by omega
      have hki : ¬ (((64 : Nat) : Int) < 64) := by omega
      have hbt : BytesAt wr (some ⟨P, 0, none⟩) 64 64 (xorL l 92) := by rw [← xu_all]; exact HY.out.bytes
      have hconv := hbt.conv 125 9 5 Tryz.underlying125 Tryz.underlying5 Tryz.underlying9
      clear hk hlt hbt
      go_wp2
      go_ret
      exact ⟨rfl, by rw [HP.out]; exact HB.out⟩
set_option maxRecDepth 100000 in
set_option maxHeartbeats 2000000 in
theorem r05_Mac64 (key s : ByteArray) (hk : key.size ≤ 64) (hs : s.size ≤ 100000000) (w : World) : Calls Tryz.prog 194 #[.string key, .string s] w (Ret (.string (bstr (macL key.data.toList s.data.toList))) w) := by
  have HX9 := Lib.hid (r05_xored92 key hk)
  have HX5 := Lib.hid (r05_xored54 key hk)
  obtain ⟨l, hl⟩ : ∃ l, key.data.toList = l := ⟨_, rfl⟩
  have hll : l.length = key.size := by rw [← hl]; exact Array.length_toList
  have HR := Lib.hid (show macL l s.data.toList = shaL (xorL l 92 ++ shaL (xorL l 54 ++ s.data.toList)) from by unfold macL; rw [if_neg (by omega)])
  rw [hl] at HX9 HX5 ⊢
  rw [HR.out]
  have HS1 := Lib.hid (r05_Sum (bstr (xorL l 54) ++ s) (by rw [ByteArray.size_append, bstr_size]; simp [xorL]; omega))
  have HS2 := Lib.hid (r05_Sum (bstr (xorL l 92) ++ bstr (shaL (xorL l 54 ++ s.data.toList))) (by rw [ByteArray.size_append, bstr_size, bstr_size, shaL_length]; simp [xorL]))
  have hlei : decide ((64 : Int) < (key.size : Int)) = false := decide_eq_false (by omega)
  rw [app_data, bstr_data] at HS1
  rw [app_data, bstr_data, bstr_data] at HS2
  obtain ⟨a1, ha1⟩ : ∃ z, bstr (xorL l 54) = z := ⟨_, rfl⟩
  obtain ⟨a2, ha2⟩ : ∃ z, bstr (xorL l 92) = z := ⟨_, rfl⟩
  obtain ⟨m1, hm1⟩ : ∃ z, bstr (shaL (xorL l 54 ++ s.data.toList)) = z := ⟨_, rfl⟩
  obtain ⟨m2, hm2⟩ : ∃ z, bstr (shaL (xorL l 92 ++ shaL (xorL l 54 ++ s.data.toList))) = z := ⟨_, rfl⟩
  rw [hm2]
  rw [ha1, hm1] at HS1
  rw [ha2, hm1, hm2] at HS2
  rw [ha1] at HX5
  rw [ha2] at HX9
  have hz1 : ¬ (9223372036854775807 < a1.size + s.size) := by rw [← ha1, bstr_size]; simp [xorL]; omega
  have hz2 : ¬ (9223372036854775807 < a2.size + m1.size) := by rw [← ha2, ← hm1, bstr_size, bstr_size, shaL_length]; simp [xorL]
  clear hl hll hk hs HR ha1 ha2 hm1 hm2
  go_enter Tryz.func194, Tryz.ntmps194
  go_wp2_with fail
  refine (HX9.out _).mono ?_
  rintro ev w1 ⟨rfl, hb⟩
  have HB1 := Lib.hid hb
  clear hb
  go_wp2_with fail
  refine (HX5.out _).mono ?_
  rintro ev w2 ⟨rfl, hb⟩
  have HB2 := Lib.hid (HB1.out.trans (hb.mono HB1.out.size))
  clear hb
  go_wp2_with fail
  refine (HS1.out _).mono ?_
  rintro ev w3 ⟨rfl, hb⟩
  have HB3 := Lib.hid (HB2.out.trans (hb.mono HB2.out.size))
  clear hb
  go_wp2_with fail
  refine (HS2.out _).mono ?_
  rintro ev w4 ⟨rfl, hb⟩
  have HB4 := Lib.hid (HB3.out.trans (hb.mono HB3.out.size))
  clear hb
  go_wp2
  go_ret
  exact ⟨rfl, HB4.out⟩
set_option maxRecDepth 100000 in
set_option maxHeartbeats 2000000 in
theorem r05_Mac (key s : ByteArray) (hkk : key.size ≤ 1000000) (hs : s.size ≤ 100000000) (w : World) : Calls Tryz.prog 194 #[.string key, .string s] w (Ret (.string (bstr (macL key.data.toList s.data.toList))) w) := by
  by_cases h64 : key.size ≤ 64
  · exact r05_Mac64 key s h64 hs w
  obtain ⟨k2, hk2⟩ : ∃ k, bstr (shaL key.data.toList) = k := ⟨_, rfl⟩
  obtain ⟨l, hl⟩ : ∃ l, k2.data.toList = l := ⟨_, rfl⟩
  have hll : key.data.toList.length = key.size := Array.length_toList
  have hk : k2.size ≤ 64 := by rw [← hk2, bstr_size, shaL_length]; decide
  have hl2 : shaL key.data.toList = l := by rw [← hl, ← hk2, bstr_data]
  have HX9 := Lib.hid (r05_xored92 k2 hk)
  have HX5 := Lib.hid (r05_xored54 k2 hk)
  have HSK := Lib.hid (r05_Sum key (by omega))
  rw [hk2] at HSK
  have HR := Lib.hid (show macL key.data.toList s.data.toList = shaL (xorL l 92 ++ shaL (xorL l 54 ++ s.data.toList)) from by unfold macL; rw [if_pos (by omega), hl2])
  rw [hl] at HX9 HX5
  rw [HR.out]
  have HS1 := Lib.hid (r05_Sum (bstr (xorL l 54) ++ s) (by rw [ByteArray.size_append, bstr_size]; simp [xorL]; omega))
  have HS2 := Lib.hid (r05_Sum (bstr (xorL l 92) ++ bstr (shaL (xorL l 54 ++ s.data.toList))) (by rw [ByteArray.size_append, bstr_size, bstr_size, shaL_length]; simp [xorL]))
  have hlei : decide ((64 : Int) < (key.size : Int)) = true := decide_eq_true (by omega)
  rw [app_data, bstr_data] at HS1
  rw [app_data, bstr_data, bstr_data] at HS2
  obtain ⟨a1, ha1⟩ : ∃ z, bstr (xorL l 54) = z := ⟨_, rfl⟩
  obtain ⟨a2, ha2⟩ : ∃ z, bstr (xorL l 92) = z := ⟨_, rfl⟩
  obtain ⟨m1, hm1⟩ : ∃ z, bstr (shaL (xorL l 54 ++ s.data.toList)) = z := ⟨_, rfl⟩
  obtain ⟨m2, hm2⟩ : ∃ z, bstr (shaL (xorL l 92 ++ shaL (xorL l 54 ++ s.data.toList))) = z := ⟨_, rfl⟩
  rw [hm2]
  rw [ha1, hm1] at HS1
  rw [ha2, hm1, hm2] at HS2
  rw [ha1] at HX5
  rw [ha2] at HX9
  have hz1 : ¬ (9223372036854775807 < a1.size + s.size) := by rw [← ha1, bstr_size]; simp [xorL]; omega
  have hz2 : ¬ (9223372036854775807 < a2.size + m1.size) := by rw [← ha2, ← hm1, bstr_size, bstr_size, shaL_length]; simp [xorL]
  clear hl hll hk hs HR ha1 ha2 hm1 hm2 hl2 hk2 h64 hkk
  go_enter Tryz.func194, Tryz.ntmps194
  go_wp2_with fail
  refine (HSK.out _).mono ?_
  rintro ev w0 ⟨rfl, hb⟩
  have HB0 := Lib.hid hb
  clear hb
  go_wp2_with fail
  refine (HX9.out _).mono ?_
  rintro ev w1 ⟨rfl, hb⟩
  have HB1 := Lib.hid (HB0.out.trans (hb.mono HB0.out.size))
  clear hb
  go_wp2_with fail
  refine (HX5.out _).mono ?_
  rintro ev w2 ⟨rfl, hb⟩
  have HB2 := Lib.hid (HB1.out.trans (hb.mono HB1.out.size))
  clear hb
  go_wp2_with fail
  refine (HS1.out _).mono ?_
  rintro ev w3 ⟨rfl, hb⟩
  have HB3 := Lib.hid (HB2.out.trans (hb.mono HB2.out.size))
  clear hb
  go_wp2_with fail
  refine (HS2.out _).mono ?_
  rintro ev w4 ⟨rfl, hb⟩
  have HB4 := Lib.hid (HB3.out.trans (hb.mono HB3.out.size))
  clear hb
  go_wp2
  go_ret
  exact ⟨rfl, HB4.out⟩
end Go.Proofs.YtndmjfkmnjejkaaGreatDoor
/- Walk: dominoref01.Text, the decimal digits of a number. -/
set_option linter.unusedVariables false
set_option linter.unusedSimpArgs false
namespace Go.Proofs.YtndmjfkmnjejkaaGreatDoor
open Go.RowKit Go.Lib
theorem digit_text (d : Nat) (h : d < 10) : (ByteArray.mk #[48, 49, 50, 51, 52, 53, 54, 55, 56, 57]).extract d (d + 1) = bstr [UInt8.ofNat (48 + d)] := by
  have := ByteArray.extract_mk [48, 49, 50, 51, 52, 53, 54, 55, 56, 57] d (d + 1)
  have e : (ByteArray.mk #[48, 49, 50, 51, 52, 53, 54, 55, 56, 57]) = ByteArray.mk (([48, 49, 50, 51, 52, 53, 54, 55, 56, 57] : List UInt8).toArray) := rfl
  rw [e, this]
  match d, h with
  | 0, _ => rfl
  | 1, _ => rfl
  | 2, _ => rfl
  | 3, _ => rfl
  | 4, _ => rfl
  | 5, _ => rfl
  | 6, _ => rfl
  | 7, _ => rfl
  | 8, _ => rfl
  | 9, _ => rfl
theorem decDigits_len : ∀ (k y : Nat), y < 10 ^ (k + 1) → (Lib.decDigits y).length ≤ k + 1
  | 0, y, h => by rw [Lib.decDigits_one (by omega)]; simp
  | k + 1, y, h => by
    rw [Lib.decDigits.eq_1 y]
    split
    · simp
    · have := decDigits_len k (y / 10) (by rw [Nat.pow_succ] at h; omega)
      simp; omega
end Go.Proofs.YtndmjfkmnjejkaaGreatDoor

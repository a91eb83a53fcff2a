/- Walk: dominoref06.draw. -/
import Derived.Test.YtndmjfkmnjejkaaGreatDoorQCoL
import Derived.Test.YtndmjfkmnjejkaaGreatDoorQApn
import Derived.Test.YtndmjfkmnjejkaaGreatDoorQPeI
import Derived.Test.YtndmjfkmnjejkaaGreatDoorQPeP
import Derived.Test.YtndmjfkmnjejkaaGreatDoorQRowN
set_option linter.unusedVariables false
set_option linter.unusedSimpArgs false
namespace Go.Proofs.YtndmjfkmnjejkaaGreatDoor
open Go.RowKit Go.Lib
def NR (w W : World) (A : Option Addr) (n cap : Nat) (s : ByteArray) (k : Int) (P : Nat) (A' : Option Addr) (c' : Nat) (l : List ByteArray) : Prop :=
  TB W w.heap.size A n cap s k ∧ TB W (w.heap.size + 1) none 0 0 ⟨#[]⟩ 0 ∧ TB W P A' n c' s (k + 1) ∧ SlN W A' n c' l ∧ (∀ b o, A' = some ⟨b, o, none⟩ → w.heap.size + 1 < b) ∧ w.heap.size + 1 < P ∧ Below w.heap.size w W
theorem NR.nextN {w W W' : World} {A : Option Addr} {n cap : Nat} {s : ByteArray} {k : Int} {P : Nat} {A' : Option Addr} {c' : Nat} {l : List ByteArray} (h : NR w W A n cap s k P A' c' l) (hb : Below W.heap.size W W') : NR w W' A n cap s k P A' c' l :=
  ⟨h.1.nextT hb, h.2.1.nextT hb, h.2.2.1.nextT hb, h.2.2.2.1.kept hb (Nat.le_refl _), h.2.2.2.2.1, h.2.2.2.2.2.1, h.2.2.2.2.2.2.trans (hb.mono h.2.2.2.2.2.2.size)⟩
set_option maxRecDepth 100000 in
set_option maxHeartbeats 4000000 in
theorem r06_draw (l : List ByteArray) (s : ByteArray) (k N : Nat) (A : Option Addr) (n cap : Nat) (hg : l.all nvalid = true) (hk2 : k ≤ 2147483647) (hn : n ≤ 1000) (hs64 : s.size ≤ 64) (hN0 : 0 < N) (hN : N < 256 ^ 32) (w : World) (hs : SlN w A n cap l) :
    Calls Tryz.prog 102 #[tpV A n cap s k, .string (nS N)] w (RetC (dwN l s k N) (tpN (dwN l s k N).2 l s k) w) := by
  have HLEN := Lib.hid hs.1
  have hcap := hs.2.1
  have hcap2 := hs.2.2.1
  have HN1 := Lib.hid hn
  have hb1 := ((Below.refl w.heap.size w).alloc (Nat.le_refl _) (.cells #[.slice A n cap, .string s, .int .i64 k] 31)).alloc (by simp) (.cells #[.slice none 0 0, .string ⟨#[]⟩, .int .i64 0] 31)
  have ht1 : TB ((w.alloc (.cells #[.slice A n cap, .string s, .int .i64 k] 31)).alloc (.cells #[.slice none 0 0, .string ⟨#[]⟩, .int .i64 0] 31)) w.heap.size A n cap s k := (TB.new w A n cap s k).nextT ((Below.refl _ _).alloc (Nat.le_refl _) _)
  have hr1 : TB ((w.alloc (.cells #[.slice A n cap, .string s, .int .i64 k] 31)).alloc (.cells #[.slice none 0 0, .string ⟨#[]⟩, .int .i64 0] 31)) (w.heap.size + 1) none 0 0 ⟨#[]⟩ 0 := by
    have := TB.new (w.alloc (.cells #[.slice A n cap, .string s, .int .i64 k] 31)) none 0 0 ⟨#[]⟩ 0
    rwa [World.size_alloc] at this
  obtain ⟨W1, hW1⟩ : ∃ W, (w.alloc (.cells #[.slice A n cap, .string s, .int .i64 k] 31)).alloc (.cells #[.slice none 0 0, .string ⟨#[]⟩, .int .i64 0] 31) = W := ⟨_, rfl⟩
  have HSZ := Lib.hid (show W1.heap.size = w.heap.size + 1 + 1 from by rw [← hW1]; simp)
  rw [hW1] at hb1 ht1 hr1
  have HB1 := Lib.hid hb1
  have HT1 := Lib.hid ht1
  have HR1 := Lib.hid hr1
  have hs1 := hs.kept hb1 (Nat.le_refl _)
  have HS0 := Lib.hid hs
  have HS1 := Lib.hid hs1
  obtain ⟨c0, c1, c2⟩ := ht1.c
  obtain ⟨r0, r1, r2⟩ := hr1.c
  have f0 := hr1.f 0
  have f1 := hr1.f 1
  have f2 := hr1.f 2
  obtain ⟨r, hr⟩ : ∃ r, dwN l s k N = r := ⟨_, rfl⟩
  have HRR := Lib.hid hr
  rw [hr]
  unfold tpV
  have hkm : (k : Int) ≤ 2147483647 := by omega
  have HN2 := Lib.hid hN
  by_cases hkn : k < n
  · obtain ⟨y, hy⟩ : ∃ y, l[k]? = some y := ⟨_, List.getElem?_eq_getElem (by rw [HLEN.out]; exact hkn)⟩
    have vy := List.all_eq_true.1 hg y (List.mem_of_getElem? hy)
    have ly := num_lt (size_validC vy)
    have HCM := Lib.hid (r01_Cmp (num y) N ly (Nat.lt_trans hN (by decide)))
    rw [← nS_num vy] at HCM
    have hcm := cmpI_ltP (x := num y) (y := N)
    obtain ⟨k1, hk1⟩ : ∃ k, cmpI (num y) N = k := ⟨_, rfl⟩
    rw [hk1] at HCM hcm
    have hdw : r = if num y < N then (num y, 0) else (0, 2) := by
      rw [← hr]
      unfold dwN
      rw [if_pos (by rw [HLEN.out]; omega), Int.toNat_natCast, List.getD_eq_getElem?_getD, hy]
      rfl
    have HAX := Lib.hid (HS0.out.head (show 0 < n by omega))
    have hki : (k : Int) < (n : Int) := by omega
    have HY := Lib.hid hy
    have HNY := Lib.hid (nS_num vy)
    have HC1 := Lib.hid hcm
    have HDW := Lib.hid hdw
    obtain ⟨M, hM⟩ : ∃ M, nS N = M := ⟨_, rfl⟩
    rw [hM] at HCM ⊢
    clear hs hb1 ht1 hr1 hs1 hr hM hdw hcm hk1 ly vy hy hg
    go_enter Tryz.func102, Tryz.ntmps102
    go_upto_region 2 with (fail)
    try rw [hW1]
    have hb2 := (Below.refl W1.heap.size W1).alloc (Nat.le_refl _) (.cells #[.slice none 0 0, .string s, .int .i64 ((k : Int) + 1)] 31)
    have hp2 := TB.new W1 none 0 0 s ((k : Int) + 1)
    obtain ⟨P, hP⟩ : ∃ P, W1.heap.size = P := ⟨_, rfl⟩
    obtain ⟨W2, hW2⟩ : ∃ W, W1.alloc (.cells #[.slice none 0 0, .string s, .int .i64 ((k : Int) + 1)] 31) = W := ⟨_, rfl⟩
    rw [hW2] at hb2 hp2 ⊢
    have HSP := Lib.hid (show P = w.heap.size + 1 + 1 from by rw [← hP]; exact HSZ.out)
    have HT2 := Lib.hid (HT1.out.nextT hb2)
    have HR2 := Lib.hid (HR1.out.nextT hb2)
    have HB2 := Lib.hid (HB1.out.trans (hb2.mono HB1.out.size))
    have HS2 := Lib.hid (HS1.out.kept hb2 (Nat.le_refl _))
    rw [hP] at hp2 ⊢
    have HP2 := Lib.hid hp2
    clear hb2 hP hW2 hW1 c0 c1 c2 r0 r1 r2 f0 f1 f2
    obtain ⟨c0, c1, c2⟩ := HT2.out.c
    obtain ⟨p0, p1, p2⟩ := hp2.c
    have pf0 := hp2.f 0
    clear hp2
    go_upto_region 3 with
      (refine wpList_append_sl W2 W2 rfl (.tmp 17) (.tmp 19) rfl W2.heap.size (.slice none 0 0) 0 [] rfl (World.ownsRow_nil _ _ _ _) A n cap l rfl HS2.out (by have := HN1.out; omega) (Below.refl _ _) (Nat.le_refl _) ?_
       intro v3 w3 ho3 hb3 hz3
       simp only [Nat.zero_add, List.nil_append] at ho3
       have hlt3 := fun b => World.ownsRow.lt ho3 b
       obtain ⟨_, A3, c3, rfl, hs3⟩ := SlN.of_owns ho3
       have HF3 := Lib.hid (show ∀ b o, A3 = some ⟨b, o, none⟩ → W2.heap.size ≤ b from fun b o h => (hlt3 b (by rw [h]; rfl)).1)
       have HS3 := Lib.hid hs3
       have HT3 := Lib.hid (HT2.out.nextT hb3)
       have HR3 := Lib.hid (HR2.out.nextT hb3)
       have HP3 := Lib.hid (HP2.out.nextT hb3)
       have HB3 := Lib.hid (HB2.out.trans (hb3.mono HB2.out.size))
       clear ho3 hb3 hz3 hlt3 hs3 c0 c1 c2 p0 p1 p2 pf0
       have p0 := HP3.out.c.1
       have pf0 := HP3.out.f 0)
    have h3 : NR w (w3.setCell ⟨P, 0, none⟩ (.slice A3 n c3)) A n cap s k P A3 c3 l := by
      have hPP : P = w.heap.size + 1 + 1 := HSP.out
      have hfr : ∀ b o, A3 = some ⟨b, o, none⟩ → P < b := fun b o h => Nat.lt_of_lt_of_le HP2.out.lt (HF3.out b o h)
      exact ⟨HT3.out.off (by omega) _, HR3.out.off (by omega) _, block_setCell HP3.out _, HS3.out.setB hfr, fun b o h => by have := hfr b o h; omega, by omega, HB3.out.setCell (p := ⟨P, 0, none⟩) (show w.heap.size ≤ P by omega) _⟩
    obtain ⟨W4, hW4⟩ : ∃ X, w3.setCell ⟨P, 0, none⟩ (.slice A3 n c3) = X := ⟨_, rfl⟩
    rw [hW4] at h3 ⊢
    have H4 := Lib.hid h3
    clear h3 hW4 p0 pf0 HT2 HR2 HP2 HB2 HS2 HT3 HR3 HP3 HB3 HS3 HF3 HT1 HR1 HB1 HS1
    obtain ⟨b, o, rfl⟩ := HAX.out
    obtain ⟨c0, c1, c2⟩ := H4.out.1.c
    have d0 := (HS0.out.kept H4.out.2.2.2.2.2.2 (Nat.le_refl _)).get? k HY.out
    clear hkm hk2
    go_wp2_with fail
    refine (HCM.out _).mono ?_
    rintro ev w5 ⟨rfl, hb5⟩
    have H5 := Lib.hid (H4.out.nextN hb5)
    clear hb5 c0 c1 c2 d0
    by_cases hlt : num y < N
    · have hge : ¬ (0 ≤ k1) := by have : k1 < 0 := by rw [HC1.out]; exact hlt
                                  omega
      have HRV := Lib.hid (show r = (num y, 0) from by rw [HDW.out, if_pos hlt])
      clear hlt
      go_wp2
      obtain ⟨we, hwe⟩ : ∃ we, w5.drew = we := ⟨_, rfl⟩
      have HE := Lib.hid (show NR w we _ n cap s k P A3 c3 l from by rw [← hwe]; exact H5.out.nextN (Below.refl _ _).drew)
      have HS0E := Lib.hid (show Below w.heap.size w we ∧ TB we w.heap.size (some ⟨b, o, none⟩) n cap s k ∧ TB we P A3 n c3 s ((k : Int) + 1) from ⟨HE.out.2.2.2.2.2.2, HE.out.1, HE.out.2.2.1⟩)
      have HPP := Lib.hid HE.out.2.2.2.2.2.1
      obtain ⟨r0, r1, r2⟩ := HE.out.2.1.c
      have f0 := HE.out.2.1.f 0
      have f1 := HE.out.2.1.f 1
      have f2 := HE.out.2.1.f 2
      have HX1 := Lib.hid HNY.out.symm
      refine wp_region_K 10 (fun W' => Below w.heap.size w W' ∧ TB W' w.heap.size (some ⟨b, o, none⟩) n cap s k ∧ TB W' P A3 n c3 s ((k : Int) + 1)) (by kernel_rfl) ?_
      intro hD
      rw [hwe]
      refine wpAnyK_pureD (i := 0) (d := some 38) (v := ?v6_0b1) (fuel := 9) rfl (by kernel_rfl) (by kernel_rfl) (fun _ _ _ h => h) hD HS0E.out (.inl ⟨by kernel_rfl, ?y6_0b1⟩) ?n6_0b1
      case y6_0b1 => intro w' _; go_simp; with_reducible rfl
      clear hD; intro hD
      simp only [Act.put, sqA, sqB, sqC]
      refine wpAnyK_takeSD (i := 1) (d := some 39) (v := ?v6_1b1) (fuel := 8) rfl (by kernel_rfl) (by kernel_rfl) (by kernel_rfl) (fun _ _ _ h => h) hD HS0E.out (.inl ⟨by kernel_rfl, ?y6_1b1⟩) ?n6_1b1
      case y6_1b1 => intro w' hS'; have e0 := hS'.2.1.c.1; have e1 := hS'.2.1.c.2.1; have e2 := hS'.2.1.c.2.2; have e3 := (HS0.out.kept hS'.1 (Nat.le_refl _)).get? k HY.out; have e4 := hS'.2.2.c.1; have e5 := hS'.2.2.c.2.1; have e6 := hS'.2.2.c.2.2; go_simp; with_reducible rfl
      clear hD; intro hD
      simp only [Act.put, sqA, sqB, sqC]
      refine wpAnyK_pureD (i := 2) (d := some 40) (v := ?v6_2b1) (fuel := 7) rfl (by kernel_rfl) (by kernel_rfl) (fun _ _ _ h => h) hD HS0E.out (.inl ⟨by kernel_rfl, ?y6_2b1⟩) ?n6_2b1
      case y6_2b1 => intro w' _; go_simp; with_reducible rfl
      clear hD; intro hD
      simp only [Act.put, sqA, sqB, sqC]
      refine wpAnyK_takeSD (i := 3) (d := some 41) (v := ?v6_3b1) (fuel := 6) rfl (by kernel_rfl) (by kernel_rfl) (by kernel_rfl) (fun _ _ _ h => h) hD HS0E.out (.inl ⟨by kernel_rfl, ?y6_3b1⟩) ?n6_3b1
      case y6_3b1 => intro w' hS'; have e0 := hS'.2.1.c.1; have e1 := hS'.2.1.c.2.1; have e2 := hS'.2.1.c.2.2; have e3 := (HS0.out.kept hS'.1 (Nat.le_refl _)).get? k HY.out; have e4 := hS'.2.2.c.1; have e5 := hS'.2.2.c.2.1; have e6 := hS'.2.2.c.2.2; go_simp; with_reducible rfl
      clear hD; intro hD
      simp only [Act.put, sqA, sqB, sqC]
      refine wpAnyK_pureD (i := 4) (d := some 42) (v := ?v6_4b1) (fuel := 5) rfl (by kernel_rfl) (by kernel_rfl) (fun _ _ _ h => h) hD HS0E.out (.inl ⟨by kernel_rfl, ?y6_4b1⟩) ?n6_4b1
      case y6_4b1 => intro w' _; go_simp; with_reducible rfl
      clear hD; intro hD
      simp only [Act.put, sqA, sqB, sqC]
      refine wpAnyK_takeSD (i := 5) (d := some 43) (v := ?v6_5b1) (fuel := 4) rfl (by kernel_rfl) (by kernel_rfl) (by kernel_rfl) (fun _ _ _ h => h) hD HS0E.out (.inl ⟨by kernel_rfl, ?y6_5b1⟩) ?n6_5b1
      case y6_5b1 => intro w' hS'; have e0 := hS'.2.1.c.1; have e1 := hS'.2.1.c.2.1; have e2 := hS'.2.1.c.2.2; have e3 := (HS0.out.kept hS'.1 (Nat.le_refl _)).get? k HY.out; have e4 := hS'.2.2.c.1; have e5 := hS'.2.2.c.2.1; have e6 := hS'.2.2.c.2.2; go_simp; with_reducible rfl
      clear hD; intro hD
      simp only [Act.put, sqA, sqB, sqC]
      refine wpAnyK_takeSD (i := 6) (d := some 44) (v := ?v6_6b1) (fuel := 3) rfl (by kernel_rfl) (by kernel_rfl) (by kernel_rfl) (fun _ _ _ h => h) hD HS0E.out (.inl ⟨by kernel_rfl, ?y6_6b1⟩) ?n6_6b1
      case y6_6b1 => intro w' hS'; have e0 := hS'.2.1.c.1; have e1 := hS'.2.1.c.2.1; have e2 := hS'.2.1.c.2.2; have e3 := (HS0.out.kept hS'.1 (Nat.le_refl _)).get? k HY.out; have e4 := hS'.2.2.c.1; have e5 := hS'.2.2.c.2.1; have e6 := hS'.2.2.c.2.2; go_simp; with_reducible rfl
      clear hD; intro hD
      simp only [Act.put, sqA, sqB, sqC]
      refine wpAnyK_one (i := 7) (fuel := 2) (by kernel_rfl) rfl hD ?_
      clear hD; intro K7 hK7
      go_wp2
      refine hK7 _ _ (by exact HS0E.out) ?_; clear hK7; intro hS_6_7 hD
      refine wpAnyK_one (i := 8) (fuel := 1) (by kernel_rfl) rfl hD ?_
      clear hD; intro K8 hK8
      go_wp2
      refine hK8 _ _ (by exact ⟨below_set3 (hS_6_7).1 (by omega) _ _ _, (((hS_6_7).2.1.off (by omega) _).off (by omega) _).off (by omega) _, (((hS_6_7).2.2.off (by have := HPP.out; omega) _).off (by have := HPP.out; omega) _).off (by have := HPP.out; omega) _⟩) ?_; clear hK8; intro hS_6_8 hD
      refine wpAnyK_one (i := 9) (fuel := 0) (by kernel_rfl) rfl hD ?_
      clear hD; intro K9 hK9
      go_wp2
      refine hK9 _ _ (by exact hS_6_8) ?_; clear hK9; intro hS_6_9 hD
      refine wpAnyK_done (by kernel_rfl) ?_ 0
      clear hD r0 r1 r2 f0 f1 f2
      have hq := HE.out.2.1.set3 (A' := A3) (n' := n) (c' := c3) (s' := s) (a' := (k : Int) + 1)
      obtain ⟨q0, q1, q2⟩ := hq.c
      have HBQ := Lib.hid (hS_6_9).1
      clear hq
      go_wp2
      refine bodyPost_ret (v := .tuple #[.string y, .agg #[.slice A3 n c3, .string s, .int .i64 ((k : Int) + 1)], .int .i64 0]) (by simp [results, Tryz.results102, go_sem, q0, q1, q2]) rfl ?_
      rw [HRV.out]
      refine ⟨A3, c3, ?_, ?_, (fun b o h => by have := HE.out.2.2.2.2.1 b o h; omega), HBQ.out⟩
      · show _ = Ending.returned (.tuple #[.string (nS (num y)), .agg #[.slice A3 l.length c3, .string s, .int .i64 ((k : Int) + 1)], .int .i64 0])
        rw [HLEN.out, HX1.out]
      · show SlN _ A3 l.length c3 l
        rw [HLEN.out]
        exact (((HE.out.2.2.2.1).setB HE.out.2.2.2.2.1).setB HE.out.2.2.2.2.1).setB HE.out.2.2.2.2.1
    · have hge : 0 ≤ k1 := by have : ¬ (k1 < 0) := by rw [HC1.out]; exact hlt
                              omega
      have HRV := Lib.hid (show r = (0, 2) from by rw [HDW.out, if_neg hlt])
      clear hlt
      obtain ⟨r0, r1, r2⟩ := H5.out.2.1.c
      have f0 := H5.out.2.1.f 0
      have f1 := H5.out.2.1.f 1
      have f2 := H5.out.2.1.f 2
      have hq := H5.out.2.1.set3 (A' := none) (n' := 0) (c' := 0) (s' := ⟨#[]⟩) (a' := 0)
      obtain ⟨q0, q1, q2⟩ := hq.c
      have HBQ := Lib.hid (below_set3 H5.out.2.2.2.2.2.2 (C := w.heap.size + 1) (by omega) (.slice none 0 0) (.string ⟨#[]⟩) (.int .i64 0))
      clear hq
      go_wp2
      refine bodyPost_ret (v := .tuple #[.string ⟨#[]⟩, .agg #[.slice none 0 0, .string ⟨#[]⟩, .int .i64 0], .int .i64 2]) (by simp [results, Tryz.results102, go_sem, q0, q1, q2]) rfl ?_
      rw [HRV.out]
      exact ⟨none, 0, rfl, SlN.nil _ 0 (by omega) none, (fun b o h => by cases h), HBQ.out⟩
  · have hdw : r = if s.toList.isEmpty = true ∨ (k : Int) = 2147483647 then ((0, 14) : Nat × Int) else match drwF (fun a => attN s.data.toList k a (blen N)) N with
      | some x => ((x, 0) : Nat × Int)
      | none => (0, 14) := by
      rw [← hr]
      unfold dwN
      rw [if_neg (by rw [HLEN.out]; omega), Int.toNat_natCast]
      split
      · rfl
      · cases drwF (fun a => attN s.data.toList k a (blen N)) N <;> rfl
    have hdk1 : decide (k < n) = false := decide_eq_false hkn
    have hdk2 : decide ((k : Int) < (n : Int)) = false := decide_eq_false (by omega)
    have hnki : ¬ ((k : Int) < (n : Int)) := by omega
    obtain ⟨M, hM⟩ : ∃ M, nS N = M := ⟨_, rfl⟩
    have HMM := Lib.hid hM
    rw [hM]
    by_cases he : s.toList.isEmpty = true ∨ (k : Int) = 2147483647
    · have HRV := Lib.hid (show r = (0, 14) from by rw [hdw, if_pos he])
      have hee : s.toList.isEmpty = true ∨ (s.toList.isEmpty = false ∧ (k : Int) = 2147483647) := by
        cases hx : s.toList.isEmpty with
        | true => exact .inl rfl
        | false => rw [hx] at he; exact .inr ⟨rfl, by simpa using he⟩
      have HEE := Lib.hid hee
      clear hs hb1 ht1 hr1 hs1 hr hM hdw he hee hg
      go_enter Tryz.func102, Tryz.ntmps102
      go_upto_region 2 with (fail)
      try rw [hW1]
      have hb2 := (Below.refl W1.heap.size W1).alloc (Nat.le_refl _) (.cells #[.slice none 0 0, .string s, .int .i64 ((k : Int) + 1)] 31)
      have hp2 := TB.new W1 none 0 0 s ((k : Int) + 1)
      obtain ⟨P, hP⟩ : ∃ P, W1.heap.size = P := ⟨_, rfl⟩
      obtain ⟨W2, hW2⟩ : ∃ W, W1.alloc (.cells #[.slice none 0 0, .string s, .int .i64 ((k : Int) + 1)] 31) = W := ⟨_, rfl⟩
      rw [hW2] at hb2 hp2 ⊢
      have HSP := Lib.hid (show P = w.heap.size + 1 + 1 from by rw [← hP]; exact HSZ.out)
      have HT2 := Lib.hid (HT1.out.nextT hb2)
      have HR2 := Lib.hid (HR1.out.nextT hb2)
      have HB2 := Lib.hid (HB1.out.trans (hb2.mono HB1.out.size))
      have HS2 := Lib.hid (HS1.out.kept hb2 (Nat.le_refl _))
      rw [hP] at hp2 ⊢
      have HP2 := Lib.hid hp2
      clear hb2 hP hW2 hW1 c0 c1 c2 r0 r1 r2 f0 f1 f2
      obtain ⟨c0, c1, c2⟩ := HT2.out.c
      obtain ⟨p0, p1, p2⟩ := hp2.c
      have pf0 := hp2.f 0
      clear hp2
      go_upto_region 3 with
        (refine wpList_append_sl W2 W2 rfl (.tmp 17) (.tmp 19) rfl W2.heap.size (.slice none 0 0) 0 [] rfl (World.ownsRow_nil _ _ _ _) A n cap l rfl HS2.out (by have := HN1.out; omega) (Below.refl _ _) (Nat.le_refl _) ?_
         intro v3 w3 ho3 hb3 hz3
         simp only [Nat.zero_add, List.nil_append] at ho3
         have hlt3 := fun b => World.ownsRow.lt ho3 b
         obtain ⟨_, A3, c3, rfl, hs3⟩ := SlN.of_owns ho3
         have HF3 := Lib.hid (show ∀ b o, A3 = some ⟨b, o, none⟩ → W2.heap.size ≤ b from fun b o h => (hlt3 b (by rw [h]; rfl)).1)
         have HS3 := Lib.hid hs3
         have HT3 := Lib.hid (HT2.out.nextT hb3)
         have HR3 := Lib.hid (HR2.out.nextT hb3)
         have HP3 := Lib.hid (HP2.out.nextT hb3)
         have HB3 := Lib.hid (HB2.out.trans (hb3.mono HB2.out.size))
         clear ho3 hb3 hz3 hlt3 hs3 c0 c1 c2 p0 p1 p2 pf0
         have p0 := HP3.out.c.1
         have pf0 := HP3.out.f 0)
      have h3 : NR w (w3.setCell ⟨P, 0, none⟩ (.slice A3 n c3)) A n cap s k P A3 c3 l := by
        have hPP : P = w.heap.size + 1 + 1 := HSP.out
        have hfr : ∀ b o, A3 = some ⟨b, o, none⟩ → P < b := fun b o h => Nat.lt_of_lt_of_le HP2.out.lt (HF3.out b o h)
        exact ⟨HT3.out.off (by omega) _, HR3.out.off (by omega) _, block_setCell HP3.out _, HS3.out.setB hfr, fun b o h => by have := hfr b o h; omega, by omega, HB3.out.setCell (p := ⟨P, 0, none⟩) (show w.heap.size ≤ P by omega) _⟩
      obtain ⟨W4, hW4⟩ : ∃ X, w3.setCell ⟨P, 0, none⟩ (.slice A3 n c3) = X := ⟨_, rfl⟩
      rw [hW4] at h3 ⊢
      have H4 := Lib.hid h3
      clear h3 hW4 p0 pf0 HT2 HR2 HP2 HB2 HS2 HT3 HR3 HP3 HB3 HS3 HF3 HT1 HR1 HB1 HS1
      clear hkm hk2
      obtain ⟨c0, c1, c2⟩ := H4.out.1.c
      rcases HEE.out with h1 | ⟨h1, h2⟩
      · skip
        obtain ⟨r0, r1, r2⟩ := H4.out.2.1.c
        have f0 := H4.out.2.1.f 0
        have f1 := H4.out.2.1.f 1
        have f2 := H4.out.2.1.f 2
        have hq := H4.out.2.1.set3 (A' := none) (n' := 0) (c' := 0) (s' := ⟨#[]⟩) (a' := 0)
        obtain ⟨q0, q1, q2⟩ := hq.c
        have HBQ := Lib.hid (below_set3 H4.out.2.2.2.2.2.2 (C := w.heap.size + 1) (by omega) (.slice none 0 0) (.string ⟨#[]⟩) (.int .i64 0))
        clear hq
        go_wp2
        refine bodyPost_ret (v := .tuple #[.string ⟨#[]⟩, .agg #[.slice none 0 0, .string ⟨#[]⟩, .int .i64 0], .int .i64 14]) (by simp [results, Tryz.results102, go_sem, q0, q1, q2]) rfl ?_
        rw [HRV.out]
        exact ⟨none, 0, rfl, SlN.nil _ 0 (by omega) none, (fun b o h => by cases h), HBQ.out⟩
      · have h2' : ((k : Int) == 2147483647) = true := beq_iff_eq.2 h2
        clear h2
        obtain ⟨r0, r1, r2⟩ := H4.out.2.1.c
        have f0 := H4.out.2.1.f 0
        have f1 := H4.out.2.1.f 1
        have f2 := H4.out.2.1.f 2
        have hq := H4.out.2.1.set3 (A' := none) (n' := 0) (c' := 0) (s' := ⟨#[]⟩) (a' := 0)
        obtain ⟨q0, q1, q2⟩ := hq.c
        have HBQ := Lib.hid (below_set3 H4.out.2.2.2.2.2.2 (C := w.heap.size + 1) (by omega) (.slice none 0 0) (.string ⟨#[]⟩) (.int .i64 0))
        clear hq
        go_wp2
        refine bodyPost_ret (v := .tuple #[.string ⟨#[]⟩, .agg #[.slice none 0 0, .string ⟨#[]⟩, .int .i64 0], .int .i64 14]) (by simp [results, Tryz.results102, go_sem, q0, q1, q2]) rfl ?_
        rw [HRV.out]
        exact ⟨none, 0, rfl, SlN.nil _ 0 (by omega) none, (fun b o h => by cases h), HBQ.out⟩
    · rw [if_neg he] at hdw
      have h1 : s.toList.isEmpty = false := by
        cases hx : s.toList.isEmpty with
        | true => exact absurd (.inl hx) he
        | false => rfl
      have h2' : ((k : Int) == 2147483647) = false := beq_eq_false_iff_ne.2 (fun h => he (.inr h))
      have hkk : k < 2147483648 := by omega
      obtain ⟨b, hb⟩ : ∃ b, blen N = b := ⟨_, rfl⟩
      have hb256 : b ≤ 256 := by rw [← hb]; exact blen_le8 (k := 32) hN
      have hb0 : 0 < b := by
        rcases Nat.eq_zero_or_pos b with h | h
        · have := blen_lt N; rw [hb, h] at this; omega
        · exact h
      obtain ⟨f, hf⟩ : ∃ f : Nat → Nat, (fun a => attN s.data.toList k a b) = f := ⟨_, rfl⟩
      rw [hb, hf] at hdw
      have HBI := Lib.hid (r01_Bits N (Nat.lt_trans hN (by decide)))
      have HAT := Lib.hid (fun a (ha : a < 256) W => r06_attempt s k a b hs64 hkk ha hb0 hb256 W)
      have hfl : ∀ a, f a < 256 ^ 128 := fun a => by
        rw [← hf]
        exact Nat.lt_of_lt_of_le (attN_lt _ _ _ _) (Nat.le_trans (Nat.pow_le_pow_right (by omega) hb256) (by decide))
      have HCM := Lib.hid (fun a => r01_Cmp (f a) N (hfl a) (Nat.lt_trans hN (show 256 ^ 32 < 256 ^ 128 by decide)))
      have HFE := Lib.hid (fun a => (show attN s.data.toList k a b = f a from by rw [← hf]))
      rw [hb, HMM.out] at HBI
      rw [HMM.out] at HCM
      have HR := Lib.hid hdw
      clear hs hb1 ht1 hr1 hs1 hr hM hdw he hg hb hf hfl hb256 hb0 hs64
      go_enter Tryz.func102, Tryz.ntmps102
      go_upto_region 2 with (fail)
      try rw [hW1]
      have hb2 := (Below.refl W1.heap.size W1).alloc (Nat.le_refl _) (.cells #[.slice none 0 0, .string s, .int .i64 ((k : Int) + 1)] 31)
      have hp2 := TB.new W1 none 0 0 s ((k : Int) + 1)
      obtain ⟨P, hP⟩ : ∃ P, W1.heap.size = P := ⟨_, rfl⟩
      obtain ⟨W2, hW2⟩ : ∃ W, W1.alloc (.cells #[.slice none 0 0, .string s, .int .i64 ((k : Int) + 1)] 31) = W := ⟨_, rfl⟩
      rw [hW2] at hb2 hp2 ⊢
      have HSP := Lib.hid (show P = w.heap.size + 1 + 1 from by rw [← hP]; exact HSZ.out)
      have HT2 := Lib.hid (HT1.out.nextT hb2)
      have HR2 := Lib.hid (HR1.out.nextT hb2)
      have HB2 := Lib.hid (HB1.out.trans (hb2.mono HB1.out.size))
      have HS2 := Lib.hid (HS1.out.kept hb2 (Nat.le_refl _))
      rw [hP] at hp2 ⊢
      have HP2 := Lib.hid hp2
      clear hb2 hP hW2 hW1 c0 c1 c2 r0 r1 r2 f0 f1 f2
      obtain ⟨c0, c1, c2⟩ := HT2.out.c
      obtain ⟨p0, p1, p2⟩ := hp2.c
      have pf0 := hp2.f 0
      clear hp2
      go_upto_region 3 with
        (refine wpList_append_sl W2 W2 rfl (.tmp 17) (.tmp 19) rfl W2.heap.size (.slice none 0 0) 0 [] rfl (World.ownsRow_nil _ _ _ _) A n cap l rfl HS2.out (by have := HN1.out; omega) (Below.refl _ _) (Nat.le_refl _) ?_
         intro v3 w3 ho3 hb3 hz3
         simp only [Nat.zero_add, List.nil_append] at ho3
         have hlt3 := fun b => World.ownsRow.lt ho3 b
         obtain ⟨_, A3, c3, rfl, hs3⟩ := SlN.of_owns ho3
         have HF3 := Lib.hid (show ∀ b o, A3 = some ⟨b, o, none⟩ → W2.heap.size ≤ b from fun b o h => (hlt3 b (by rw [h]; rfl)).1)
         have HS3 := Lib.hid hs3
         have HT3 := Lib.hid (HT2.out.nextT hb3)
         have HR3 := Lib.hid (HR2.out.nextT hb3)
         have HP3 := Lib.hid (HP2.out.nextT hb3)
         have HB3 := Lib.hid (HB2.out.trans (hb3.mono HB2.out.size))
         clear ho3 hb3 hz3 hlt3 hs3 c0 c1 c2 p0 p1 p2 pf0
         have p0 := HP3.out.c.1
         have pf0 := HP3.out.f 0)
      have h3 : NR w (w3.setCell ⟨P, 0, none⟩ (.slice A3 n c3)) A n cap s k P A3 c3 l := by
        have hPP : P = w.heap.size + 1 + 1 := HSP.out
        have hfr : ∀ b o, A3 = some ⟨b, o, none⟩ → P < b := fun b o h => Nat.lt_of_lt_of_le HP2.out.lt (HF3.out b o h)
        exact ⟨HT3.out.off (by omega) _, HR3.out.off (by omega) _, block_setCell HP3.out _, HS3.out.setB hfr, fun b o h => by have := hfr b o h; omega, by omega, HB3.out.setCell (p := ⟨P, 0, none⟩) (show w.heap.size ≤ P by omega) _⟩
      obtain ⟨W4, hW4⟩ : ∃ X, w3.setCell ⟨P, 0, none⟩ (.slice A3 n c3) = X := ⟨_, rfl⟩
      rw [hW4] at h3 ⊢
      have H4 := Lib.hid h3
      clear h3 hW4 p0 pf0 HT2 HR2 HP2 HB2 HS2 HT3 HR3 HP3 HB3 HS3 HF3 HT1 HR1 HB1 HS1
      clear hkm hk2 hkk
      obtain ⟨c0, c1, c2⟩ := H4.out.1.c
      go_wp2
      clear c0 c1 c2
      go_loopw [8] (fun v wr => ∃ a : Nat, a ≤ 256 ∧ v = .int .i64 a ∧ (∀ j, j < a → ¬ f j < N) ∧ NR w wr A n cap s k P A3 c3 l) (fun v _ => 256 - (RowKit.intOf v).toNat)
      case atStart => exact ⟨0, by omega, rfl, fun j h => by omega, H4.out⟩
      case round =>
        obtain ⟨a, ha, rfl, hno, hds⟩ := hrel
        have HNO := Lib.hid hno
        have HDW := Lib.hid hds
        clear hno hds
        by_cases hlt : a < 256
        · have hai : (a : Int) < 256 := by omega
          have HLT := Lib.hid hlt
          go_wp2
          obtain ⟨wd, hwd⟩ : ∃ wd, wr.drew = wd := ⟨_, rfl⟩
          have HDd := Lib.hid (show NR w wd A n cap s k P A3 c3 l from by rw [← hwd]; exact HDW.out.nextN (Below.refl _ _).drew)
          have HATa := Lib.hid (HAT.out a HLT.out)
          have HCMa := Lib.hid (HCM.out a)
          have hcm := cmpI_ltP (x := f a) (y := N)
          obtain ⟨k1, hk1⟩ : ∃ k1, cmpI (f a) N = k1 := ⟨_, rfl⟩
          rw [hk1] at HCMa hcm
          rw [HFE.out a] at HATa
          obtain ⟨x, hx⟩ : ∃ x, nS (f a) = x := ⟨_, rfl⟩
          rw [hx] at HCMa HATa
          have HX1 := Lib.hid hx
          have HC1 := Lib.hid hcm
          clear hk1 hx hcm
          obtain ⟨c0, c1, c2⟩ := HDd.out.1.c
          refine wp_region_K 9 (Below (wd).heap.size (wd)) (by kernel_rfl) ?_
          intro hD
          rw [hwd]
          refine wpAnyK_pureD (i := 0) (d := some 58) (v := ?v12_0b2) (fuel := 8) rfl (by kernel_rfl) (by kernel_rfl) (fun _ _ _ h => h) hD (Below.refl _ _) (.inl ⟨by kernel_rfl, ?y12_0b2⟩) ?n12_0b2
          case y12_0b2 => intro w' _; go_simp; with_reducible rfl
          clear hD; intro hD
          simp only [Act.put, sqA, sqB, sqC]
          refine wpAnyK_takeSD (i := 1) (d := some 59) (v := ?v12_1b2) (fuel := 7) rfl (by kernel_rfl) (by kernel_rfl) (by kernel_rfl) (fun _ _ _ h => h) hD (Below.refl _ _) (.inl ⟨by kernel_rfl, ?y12_1b2⟩) ?n12_1b2
          case y12_1b2 => intro w' hS'; have e0 := cell_kept hS' (Nat.le_refl _) c0; have e1 := cell_kept hS' (Nat.le_refl _) c1; have e2 := cell_kept hS' (Nat.le_refl _) c2; go_simp; with_reducible rfl
          clear hD; intro hD
          simp only [Act.put, sqA, sqB, sqC]
          refine wpAnyK_pureD (i := 2) (d := some 60) (v := ?v12_2b2) (fuel := 6) rfl (by kernel_rfl) (by kernel_rfl) (fun _ _ _ h => h) hD (Below.refl _ _) (.inl ⟨by kernel_rfl, ?y12_2b2⟩) ?n12_2b2
          case y12_2b2 => intro w' _; go_simp; with_reducible rfl
          clear hD; intro hD
          simp only [Act.put, sqA, sqB, sqC]
          refine wpAnyK_takeSD (i := 3) (d := some 61) (v := ?v12_3b2) (fuel := 5) rfl (by kernel_rfl) (by kernel_rfl) (by kernel_rfl) (fun _ _ _ h => h) hD (Below.refl _ _) (.inl ⟨by kernel_rfl, ?y12_3b2⟩) ?n12_3b2
          case y12_3b2 => intro w' hS'; have e0 := cell_kept hS' (Nat.le_refl _) c0; have e1 := cell_kept hS' (Nat.le_refl _) c1; have e2 := cell_kept hS' (Nat.le_refl _) c2; go_simp; with_reducible rfl
          clear hD; intro hD
          simp only [Act.put, sqA, sqB, sqC]
          refine wpAnyK_pureD (i := 4) (d := some 62) (v := ?v12_4b2) (fuel := 4) rfl (by kernel_rfl) (by kernel_rfl) (fun _ _ _ h => h) hD (Below.refl _ _) (.inl ⟨by kernel_rfl, ?y12_4b2⟩) ?n12_4b2
          case y12_4b2 => intro w' _; go_simp; with_reducible rfl
          clear hD; intro hD
          simp only [Act.put, sqA, sqB, sqC]
          refine wpAnyK_pureD (i := 5) (d := some 63) (v := ?v12_5b2) (fuel := 3) rfl (by kernel_rfl) (by kernel_rfl) (fun _ _ _ h => h) hD (Below.refl _ _) (.inl ⟨by kernel_rfl, ?y12_5b2⟩) ?n12_5b2
          case y12_5b2 => intro w' _; go_simp; with_reducible rfl
          clear hD; intro hD
          simp only [Act.put, sqA, sqB, sqC]
          refine wpAnyK_one (i := 6) (fuel := 2) (by kernel_rfl) rfl hD ?_
          clear hD; intro K6 hK6
          go_wp2_with fail
          refine (HBI.out _).mono ?_
          rintro ev w5 ⟨rfl, rfl⟩
          have HB6 := Lib.hid (Below.refl wd.heap.size wd)
          go_wp2
          refine hK6 _ _ (by exact HB6.out) ?_; clear hK6; intro hS_12_6 hD
          refine wpAnyK_one (i := 7) (fuel := 1) (by kernel_rfl) rfl hD ?_
          clear hD; intro K7 hK7
          go_wp2_with fail
          refine (HATa.out _).mono ?_
          rintro ev w6 ⟨rfl, hb⟩
          have HB7 := Lib.hid hb
          clear hb
          go_wp2
          refine hK7 _ _ (by exact Below.trans hS_12_6 (Below.mono HB7.out (Below.size hS_12_6))) ?_; clear hK7; intro hS_12_7 hD
          refine wpAnyK_one (i := 8) (fuel := 0) (by kernel_rfl) rfl hD ?_
          clear hD; intro K8 hK8
          go_wp2
          refine hK8 _ _ (by exact hS_12_7) ?_; clear hK8; intro hS_12_8 hD
          refine wpAnyK_done (by kernel_rfl) ?_ 0
          clear hD
          have HD5 := Lib.hid (HDd.out.nextN HB7.out)
          clear c0 c1 c2
          go_wp2_with fail
          refine (HCMa.out _).mono ?_
          rintro ev w7 ⟨rfl, hb⟩
          have HD6 := Lib.hid (HD5.out.nextN hb)
          clear hb
          by_cases hfn : f a < N
          · have hneg : k1 < 0 := by rw [HC1.out]; exact hfn
            have HRV := Lib.hid (show r = (f a, 0) from by rw [HR.out, drwF_at HLT.out HNO.out hfn])
            clear hfn
            go_wp2
            obtain ⟨we, hwe⟩ : ∃ we, w7.drew = we := ⟨_, rfl⟩
            have HE := Lib.hid (show NR w we _ n cap s k P A3 c3 l from by rw [← hwe]; exact HD6.out.nextN (Below.refl _ _).drew)
            have HS0E := Lib.hid (show Below w.heap.size w we ∧ TB we w.heap.size A n cap s k ∧ TB we P A3 n c3 s ((k : Int) + 1) from ⟨HE.out.2.2.2.2.2.2, HE.out.1, HE.out.2.2.1⟩)
            have HPP := Lib.hid HE.out.2.2.2.2.2.1
            obtain ⟨r0, r1, r2⟩ := HE.out.2.1.c
            have f0 := HE.out.2.1.f 0
            have f1 := HE.out.2.1.f 1
            have f2 := HE.out.2.1.f 2
            refine wp_region_K 5 (fun W' => Below w.heap.size w W' ∧ TB W' w.heap.size A n cap s k ∧ TB W' P A3 n c3 s ((k : Int) + 1)) (by kernel_rfl) ?_
            intro hD
            rw [hwe]
            refine wpAnyK_pureD (i := 0) (d := some 70) (v := ?v14_0b3) (fuel := 4) rfl (by kernel_rfl) (by kernel_rfl) (fun _ _ _ h => h) hD HS0E.out (.inl ⟨by kernel_rfl, ?y14_0b3⟩) ?n14_0b3
            case y14_0b3 => intro w' _; go_simp; with_reducible rfl
            clear hD; intro hD
            simp only [Act.put, sqA, sqB, sqC]
            refine wpAnyK_takeSD (i := 1) (d := some 71) (v := ?v14_1b3) (fuel := 3) rfl (by kernel_rfl) (by kernel_rfl) (by kernel_rfl) (fun _ _ _ h => h) hD HS0E.out (.inl ⟨by kernel_rfl, ?y14_1b3⟩) ?n14_1b3
            case y14_1b3 => intro w' hS'; have e0 := hS'.2.2.c.1; have e1 := hS'.2.2.c.2.1; have e2 := hS'.2.2.c.2.2; go_simp; with_reducible rfl
            clear hD; intro hD
            simp only [Act.put, sqA, sqB, sqC]
            refine wpAnyK_one (i := 2) (fuel := 2) (by kernel_rfl) rfl hD ?_
            clear hD; intro K2 hK2
            go_wp2
            refine hK2 _ _ (by exact HS0E.out) ?_; clear hK2; intro hS_14_2 hD
            refine wpAnyK_one (i := 3) (fuel := 1) (by kernel_rfl) rfl hD ?_
            clear hD; intro K3 hK3
            go_wp2
            refine hK3 _ _ (by exact ⟨below_set3 (hS_14_2).1 (by omega) _ _ _, (((hS_14_2).2.1.off (by omega) _).off (by omega) _).off (by omega) _, (((hS_14_2).2.2.off (by have := HPP.out; omega) _).off (by have := HPP.out; omega) _).off (by have := HPP.out; omega) _⟩) ?_; clear hK3; intro hS_14_3 hD
            refine wpAnyK_one (i := 4) (fuel := 0) (by kernel_rfl) rfl hD ?_
            clear hD; intro K4 hK4
            go_wp2
            refine hK4 _ _ (by exact hS_14_3) ?_; clear hK4; intro hS_14_4 hD
            refine wpAnyK_done (by kernel_rfl) ?_ 0
            clear hD r0 r1 r2 f0 f1 f2
            have hq := HE.out.2.1.set3 (A' := A3) (n' := n) (c' := c3) (s' := s) (a' := (k : Int) + 1)
            obtain ⟨q0, q1, q2⟩ := hq.c
            have HBQ := Lib.hid (hS_14_4).1
            clear hq
            go_wp2
            refine bodyPost_ret (v := .tuple #[.string x, .agg #[.slice A3 n c3, .string s, .int .i64 ((k : Int) + 1)], .int .i64 0]) (by simp [results, Tryz.results102, go_sem, q0, q1, q2]) rfl ?_
            rw [HRV.out]
            refine ⟨A3, c3, ?_, ?_, (fun b o h => by have := HE.out.2.2.2.2.1 b o h; omega), HBQ.out⟩
            · show _ = Ending.returned (.tuple #[.string (nS (f a)), .agg #[.slice A3 l.length c3, .string s, .int .i64 ((k : Int) + 1)], .int .i64 0])
              rw [HLEN.out, HX1.out]
            · show SlN _ A3 l.length c3 l
              rw [HLEN.out]
              exact (((HE.out.2.2.2.1).setB HE.out.2.2.2.2.1).setB HE.out.2.2.2.2.1).setB HE.out.2.2.2.2.1
          · have hneg : ¬ (k1 < 0) := by rw [HC1.out]; exact hfn
            have HNN := Lib.hid (show ∀ j, j < a + 1 → ¬ f j < N from fun j hj => by
              rcases Nat.lt_or_ge j a with h | h
              · exact HNO.out j h
              · obtain rfl : j = a := by omega
                exact hfn)
            clear hfn
            go_wp2
            go_roundw
            case rel => exact ⟨a + 1, by have := HLT.out; omega, by go_num, HNN.out, HD6.out⟩
            case measure => have := HLT.out; simp [RowKit.intOf]; omega
        · obtain rfl : a = 256 := by omega
          have HRV := Lib.hid (show r = (0, 14) from by rw [HR.out, drwF_none HNO.out])
          have hai : ¬ (((256 : Nat) : Int) < 256) := by omega
          clear hlt ha
          obtain ⟨r0, r1, r2⟩ := HDW.out.2.1.c
          have f0 := HDW.out.2.1.f 0
          have f1 := HDW.out.2.1.f 1
          have f2 := HDW.out.2.1.f 2
          have hq := HDW.out.2.1.set3 (A' := none) (n' := 0) (c' := 0) (s' := ⟨#[]⟩) (a' := 0)
          obtain ⟨q0, q1, q2⟩ := hq.c
          have HBQ := Lib.hid (below_set3 HDW.out.2.2.2.2.2.2 (C := w.heap.size + 1) (by omega) (.slice none 0 0) (.string ⟨#[]⟩) (.int .i64 0))
          clear hq
          go_wp2
          refine bodyPost_ret (v := .tuple #[.string ⟨#[]⟩, .agg #[.slice none 0 0, .string ⟨#[]⟩, .int .i64 0], .int .i64 14]) (by simp [results, Tryz.results102, go_sem, q0, q1, q2]) rfl ?_
          rw [HRV.out]
          exact ⟨none, 0, rfl, SlN.nil _ 0 (by omega) none, (fun b o h => by cases h), HBQ.out⟩
end Go.Proofs.YtndmjfkmnjejkaaGreatDoor
/- Walk: dominoref06.Below, for short seeds and bounds. -/
set_option linter.unusedVariables false
set_option linter.unusedSimpArgs false
namespace Go.Proofs.YtndmjfkmnjejkaaGreatDoor
open Go.RowKit Go.Lib
set_option maxRecDepth 100000 in
set_option maxHeartbeats 4000000 in
theorem r06_Below (l : List ByteArray) (s : ByteArray) (k : Int) (N : ByteArray) (A : Option Addr) (n cap : Nat) (hn : n ≤ 1000) (hp : ∀ x ∈ l, x.size ≤ 9223372036854775807) (hs64 : s.size ≤ 64) (hN : N.size ≤ 32) (w : World) (hs : SlN w A n cap l) :
    Calls Tryz.prog 55 #[tpV A n cap s k, .string N] w (RetC (coN l s k N) (tpN (coN l s k N).2 l s k) w) := by
  have HRC := Lib.hid (show coN l s k N = if (tpG l k && nvalid N) = true then (if N.toList.isEmpty = true then (0, 11) else dwN l s k (num N)) else (0, 3) from rfl)
  have hb1 := ((Below.refl w.heap.size w).alloc (Nat.le_refl _) (.cells #[.slice A n cap, .string s, .int .i64 k] 31)).alloc (by simp) (.cells #[.slice none 0 0, .string ⟨#[]⟩, .int .i64 0] 31)
  have ht1 : TB ((w.alloc (.cells #[.slice A n cap, .string s, .int .i64 k] 31)).alloc (.cells #[.slice none 0 0, .string ⟨#[]⟩, .int .i64 0] 31)) w.heap.size A n cap s k := (TB.new w A n cap s k).nextT ((Below.refl _ _).alloc (Nat.le_refl _) _)
  have hr1 : TB ((w.alloc (.cells #[.slice A n cap, .string s, .int .i64 k] 31)).alloc (.cells #[.slice none 0 0, .string ⟨#[]⟩, .int .i64 0] 31)) (w.heap.size + 1) none 0 0 ⟨#[]⟩ 0 := by
    have := TB.new (w.alloc (.cells #[.slice A n cap, .string s, .int .i64 k] 31)) none 0 0 ⟨#[]⟩ 0
    rwa [World.size_alloc] at this
  obtain ⟨W1, hW1⟩ : ∃ W, (w.alloc (.cells #[.slice A n cap, .string s, .int .i64 k] 31)).alloc (.cells #[.slice none 0 0, .string ⟨#[]⟩, .int .i64 0] 31) = W := ⟨_, rfl⟩
  have HSZ := Lib.hid (show W1.heap.size = w.heap.size + 1 + 1 from by rw [← hW1]; simp)
  rw [hW1] at hb1 ht1 hr1
  have HB1 := Lib.hid hb1
  have HT1 := Lib.hid ht1
  have HR1 := Lib.hid hr1
  have hs1 := hs.kept hb1 (Nat.le_refl _)
  have HS0 := Lib.hid hs
  have HS1 := Lib.hid hs1
  obtain ⟨c0, c1, c2⟩ := ht1.c
  obtain ⟨r0, r1, r2⟩ := hr1.c
  have f0 := hr1.f 0
  have f1 := hr1.f 1
  have f2 := hr1.f 2
  have HGD := Lib.hid (r06_Good l s k A n cap W1 HS1.out hn hp)
  have HVD := Lib.hid (r01_Valid N (by omega))
  clear hs hb1 ht1 hr1 hs1
  unfold tpV at *
  cases hg : tpG l k with
  | false =>
    rw [hg] at HGD
    rw [HRC.out, hg, Bool.false_and, if_neg (by decide)]
    clear hg hp
    go_enter Tryz.func55, Tryz.ntmps55
    go_wp2_with fail
    try rw [hW1]
    clear hW1
    refine (HGD.out).mono ?_
    rintro ev w2 ⟨rfl, hb2⟩
    have HT2 := Lib.hid (HT1.out.nextT hb2)
    have HR2 := Lib.hid (HR1.out.nextT hb2)
    have HB2 := Lib.hid (HB1.out.trans (hb2.mono HB1.out.size))
    have HS2 := Lib.hid (HS1.out.kept hb2 (Nat.le_refl _))
    clear c0 c1 c2 hb2 r0 r1 r2 f0 f1 f2
    obtain ⟨c0, c1, c2⟩ := HT2.out.c
    have hq := HR2.out.set3 (A' := none) (n' := 0) (c' := 0) (s' := ⟨#[]⟩) (a' := 0)
    obtain ⟨q0, q1, q2⟩ := hq.c
    have HBQ := Lib.hid (below_set3 HB2.out (C := w.heap.size + 1) (by omega) (.slice none 0 0) (.string ⟨#[]⟩) (.int .i64 0))
    obtain ⟨r0, r1, r2⟩ := HR2.out.c
    have f0 := HR2.out.f 0
    have f1 := HR2.out.f 1
    have f2 := HR2.out.f 2
    clear hq
    go_wp2
    refine bodyPost_ret (v := .tuple #[.string ⟨#[]⟩, .agg #[.slice none 0 0, .string ⟨#[]⟩, .int .i64 0], .int .i64 3]) (by simp [results, Tryz.results55, go_sem, q0, q1, q2]) rfl ?_
    exact ⟨none, 0, rfl, SlN.nil _ 0 (by omega) none, (fun b o h => by cases h), HBQ.out⟩
  | true =>
    rw [hg] at HGD
    cases hv : nvalid N with
    | false =>
      rw [hv] at HVD
      rw [HRC.out, hg, hv, Bool.and_false, if_neg (by decide)]
      clear hg hp hv
      go_enter Tryz.func55, Tryz.ntmps55
      go_wp2_with fail
      try rw [hW1]
      clear hW1
      refine (HGD.out).mono ?_
      rintro ev w2 ⟨rfl, hb2⟩
      have HT2 := Lib.hid (HT1.out.nextT hb2)
      have HR2 := Lib.hid (HR1.out.nextT hb2)
      have HB2 := Lib.hid (HB1.out.trans (hb2.mono HB1.out.size))
      have HS2 := Lib.hid (HS1.out.kept hb2 (Nat.le_refl _))
      clear c0 c1 c2 hb2 r0 r1 r2 f0 f1 f2
      obtain ⟨c0, c1, c2⟩ := HT2.out.c
      go_wp2_with fail
      refine (HVD.out _).mono ?_
      rintro ev w3 ⟨rfl, rfl⟩
      have hq := HR2.out.set3 (A' := none) (n' := 0) (c' := 0) (s' := ⟨#[]⟩) (a' := 0)
      obtain ⟨q0, q1, q2⟩ := hq.c
      have HBQ := Lib.hid (below_set3 HB2.out (C := w.heap.size + 1) (by omega) (.slice none 0 0) (.string ⟨#[]⟩) (.int .i64 0))
      obtain ⟨r0, r1, r2⟩ := HR2.out.c
      have f0 := HR2.out.f 0
      have f1 := HR2.out.f 1
      have f2 := HR2.out.f 2
      clear hq
      go_wp2
      refine bodyPost_ret (v := .tuple #[.string ⟨#[]⟩, .agg #[.slice none 0 0, .string ⟨#[]⟩, .int .i64 0], .int .i64 3]) (by simp [results, Tryz.results55, go_sem, q0, q1, q2]) rfl ?_
      exact ⟨none, 0, rfl, SlN.nil _ 0 (by omega) none, (fun b o h => by cases h), HBQ.out⟩
    | true =>
      rw [hv] at HVD
      rw [HRC.out, hg, hv, Bool.and_self, if_pos rfl]
      cases he : N.toList.isEmpty with
      | true =>
        rw [if_pos rfl]
        clear hg hp hv
        go_enter Tryz.func55, Tryz.ntmps55
        go_wp2_with fail
        try rw [hW1]
        clear hW1
        refine (HGD.out).mono ?_
        rintro ev w2 ⟨rfl, hb2⟩
        have HT2 := Lib.hid (HT1.out.nextT hb2)
        have HR2 := Lib.hid (HR1.out.nextT hb2)
        have HB2 := Lib.hid (HB1.out.trans (hb2.mono HB1.out.size))
        have HS2 := Lib.hid (HS1.out.kept hb2 (Nat.le_refl _))
        clear c0 c1 c2 hb2 r0 r1 r2 f0 f1 f2
        obtain ⟨c0, c1, c2⟩ := HT2.out.c
        go_wp2_with fail
        refine (HVD.out _).mono ?_
        rintro ev w3 ⟨rfl, rfl⟩
        have hq := HR2.out.set3 (A' := none) (n' := 0) (c' := 0) (s' := ⟨#[]⟩) (a' := 0)
        obtain ⟨q0, q1, q2⟩ := hq.c
        have HBQ := Lib.hid (below_set3 HB2.out (C := w.heap.size + 1) (by omega) (.slice none 0 0) (.string ⟨#[]⟩) (.int .i64 0))
        obtain ⟨r0, r1, r2⟩ := HR2.out.c
        have f0 := HR2.out.f 0
        have f1 := HR2.out.f 1
        have f2 := HR2.out.f 2
        clear hq
        go_wp2
        refine bodyPost_ret (v := .tuple #[.string ⟨#[]⟩, .agg #[.slice none 0 0, .string ⟨#[]⟩, .int .i64 0], .int .i64 11]) (by simp [results, Tryz.results55, go_sem, q0, q1, q2]) rfl ?_
        exact ⟨none, 0, rfl, SlN.nil _ 0 (by omega) none, (fun b o h => by cases h), HBQ.out⟩
      | false =>
        rw [if_neg (by decide)]
        obtain ⟨h0, h1, hall⟩ := tpG_parts hg
        obtain ⟨q, rfl⟩ : ∃ q : Nat, k = (q : Int) := ⟨k.toNat, by omega⟩
        have hlt : num N < 256 ^ 32 := Nat.lt_of_lt_of_le (num_lt_size N) (Nat.pow_le_pow_right (by omega) hN)
        have hpos : 0 < num N := by
          rcases Nat.eq_zero_or_pos (num N) with h | h
          · rw [nS_num hv, h, show (nS 0).toList.isEmpty = true from sempty_true rfl] at he
            cases he
          · exact h
        have HDR := Lib.hid (fun W hs => r06_draw l s q (num N) A n cap hall (by omega) hn hs64 hpos hlt W hs)
        rw [← nS_num hv] at HDR
        unfold tpV at HDR
        obtain ⟨r, hr⟩ : ∃ r, dwN l s q (num N) = r := ⟨_, rfl⟩
        obtain ⟨x1, e1⟩ := r
        rw [hr] at HDR ⊢
        obtain ⟨t, ht⟩ : ∃ t, tpN e1 l s q = t := ⟨_, rfl⟩
        obtain ⟨tl, ts, tk⟩ := t
        simp only [] at HDR ⊢
        rw [ht] at HDR ⊢
        clear hg hp hv hr ht hlt hpos hall h0 h1 HRC
        go_enter Tryz.func55, Tryz.ntmps55
        go_wp2_with fail
        try rw [hW1]
        clear hW1
        refine (HGD.out).mono ?_
        rintro ev w2 ⟨rfl, hb2⟩
        have HT2 := Lib.hid (HT1.out.nextT hb2)
        have HR2 := Lib.hid (HR1.out.nextT hb2)
        have HB2 := Lib.hid (HB1.out.trans (hb2.mono HB1.out.size))
        have HS2 := Lib.hid (HS1.out.kept hb2 (Nat.le_refl _))
        clear c0 c1 c2 hb2 r0 r1 r2 f0 f1 f2
        obtain ⟨c0, c1, c2⟩ := HT2.out.c
        go_wp2_with fail
        refine (HVD.out _).mono ?_
        rintro ev w3 ⟨rfl, rfl⟩
        have HD2 := Lib.hid (HDR.out w2 HS2.out)
        go_wp2_with fail
        refine (HD2.out).mono ?_
        rintro ev w3 ⟨B, c, rfl, hsl, hfr, hb3⟩
        have HR3 := Lib.hid (HR2.out.nextT hb3)
        have HB3 := Lib.hid (HB2.out.trans (hb3.mono HB2.out.size))
        have HSL := Lib.hid hsl
        have HFR := Lib.hid (show ∀ b o, B = some ⟨b, o, none⟩ → w.heap.size + 1 < b from fun b o h => Nat.lt_of_lt_of_le HR2.out.lt (hfr b o h))
        obtain ⟨m, hm⟩ : ∃ m, tl.length = m := ⟨_, rfl⟩
        have HM := Lib.hid hm
        clear c0 c1 c2 hsl hb3 hfr
        simp only []
        rw [hm]
        clear hm
        obtain ⟨r0, r1, r2⟩ := HR3.out.c
        have f0 := HR3.out.f 0
        have f1 := HR3.out.f 1
        have f2 := HR3.out.f 2
        have hq := HR3.out.set3 (A' := B) (n' := m) (c' := c) (s' := ts) (a' := tk)
        obtain ⟨q0, q1, q2⟩ := hq.c
        have HBQ := Lib.hid (below_set3 HB3.out (C := w.heap.size + 1) (by omega) (.slice B m c) (.string ts) (.int .i64 tk))
        clear hq
        obtain ⟨z, hz⟩ : ∃ z, nS x1 = z := ⟨_, rfl⟩
        rw [hz]
        go_wp2
        refine bodyPost_ret (v := .tuple #[.string z, .agg #[.slice B m c, .string ts, .int .i64 tk], .int .i64 e1]) (by simp [results, Tryz.results55, go_sem, q0, q1, q2]) rfl ?_
        refine ⟨B, c, ?_, ?_, (fun b o h => by have := HFR.out b o h; omega), HBQ.out⟩
        · show _ = Ending.returned (.tuple #[.string (nS x1), .agg #[.slice B tl.length c, .string ts, .int .i64 tk], .int .i64 e1])
          rw [HM.out, hz]
        · show SlN _ _ tl.length c tl
          exact ((HSL.out.setB HFR.out).setB HFR.out).setB HFR.out
end Go.Proofs.YtndmjfkmnjejkaaGreatDoor
/- The ghost law for the alloc of a struct beside calls that return rows of numbers. -/
namespace Go.Proofs.YtndmjfkmnjejkaaGreatDoor
open Go.RowKit
set_option linter.unusedVariables false
theorem SlN.setNe {W : World} {A : Option Addr} {n c R k : Nat} {l : List ByteArray} {u : Value} (h : SlN W A n c l) (hf : 0 < n → ∀ b o, A = some ⟨b, o, none⟩ → b ≠ R) : SlN (W.setCell ⟨R, k, none⟩ u) A n c l := by
  obtain ⟨h1, h2, h3, b, o, h4, h5⟩ := h
  refine ⟨h1, h2, h3, b, o, h4, fun j s hj => ?_⟩
  have hlt := (List.getElem?_eq_some_iff.1 hj).1
  have hne := hf (by omega) b o (h4 (by omega))
  have e : (W.setCell ⟨R, k, none⟩ u).heap[b]? = W.heap[b]? := heap_setCell_other _ _ _ _ hne
  have := h5 j s hj
  unfold World.cell? at this ⊢
  rw [e]
  exact this
def NeB (m : Nat) (B : Option Addr) (x : Value) : Prop := ∀ g, x = .pointer (some ⟨g, 0, none⟩) → 0 < m → ∀ p o, B = some ⟨p, o, none⟩ → p ≠ g
def GIs (W0 : World) (cs : Array Value) (T : TypeId) (lo : Nat) (B : Option Addr) (m c : Nat) (tl : List ByteArray) (b : Bool) (x : Value) (w : World) : Prop :=
  GIz W0 cs T b x w ∧ SlN w B m c tl ∧ (∀ p o, B = some ⟨p, o, none⟩ → lo ≤ p) ∧ (b = true → NeB m B x)
theorem GIs.of {W0 w w' : World} {cs : Array Value} {T : TypeId} {lo : Nat} {B : Option Addr} {m c : Nat} {tl : List ByteArray} {b : Bool} {x : Value} (h : GIz W0 cs T b x w) (hb : Below w.heap.size w w') (hs : SlN w' B m c tl) (hf : ∀ p o, B = some ⟨p, o, none⟩ → w.heap.size ≤ p) (hlo : lo ≤ W0.heap.size) : GIs W0 cs T lo B m c tl b x w' := by
  refine ⟨h.step hb, hs, fun p o e => Nat.le_trans hlo (Nat.le_trans h.1.size (hf p o e)), fun e g hx _ p o hp => ?_⟩
  obtain ⟨G, rfl, _, hz⟩ := h.2 e
  cases hx
  have := block_lt hz
  have := hf p o hp
  omega
theorem SlN.lt {w : World} {b o n c : Nat} {l : List ByteArray} (h : SlN w (some ⟨b, o, none⟩) n c l) (h0 : 0 < n) : b < w.heap.size := by
  obtain ⟨y, hy⟩ : ∃ y, l[0]? = some y := ⟨_, List.getElem?_eq_getElem (by have := h.1; omega)⟩
  have := h.get? 0 hy
  rcases Nat.lt_or_ge b w.heap.size with hb | hb
  · exact hb
  · rw [World.cell?, Array.getElem?_eq_none hb] at this; cases this
theorem alloc_sK {P : Program} {ops : Array Oper} {o : Oper} {a : Act} {Q : Exit → Act → World → Prop} {d : Tmp} {cs : Array Value} {T : TypeId} (hg : o.guard = none) (hd : o.dst = some d) (hop : ∀ (w : World) (ρ : Operand → Value), (execOp ρ o).run P w = .ok (.value (.pointer (some ⟨w.heap.size, 0, none⟩))) (w.alloc (.cells cs T))) {W0 : World} {lo : Nat} {B : Option Addr} {m c : Nat} {tl : List ByteArray} :
    ∀ w, GIs W0 cs T lo B m c tl false undef w → ∀ K : Act → World → Prop, (∀ x w', GIs W0 cs T lo B m c tl true x w' → K (a.put (some d) x) w') → wpList P ops (EndK K Q) [o] a w := fun w h K hK =>
  Great.wpList_allocTo hg (some d) hd _ _ (hop w a.eval) (hK _ _ ⟨⟨h.1.1.alloc h.1.1.size _, fun _ => ⟨_, rfl, h.1.1.size, heap_alloc_new _ _⟩⟩, h.2.1.kept ((Below.refl _ _).alloc (Nat.le_refl _) _) (Nat.le_refl _), h.2.2.1, fun _ g hx h0 p o hp => by
    cases hx
    subst hp
    have := h.2.1.lt h0
    omega⟩)
end Go.Proofs.YtndmjfkmnjejkaaGreatDoor

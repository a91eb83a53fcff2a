/- Walk: dominoref06.draw. -/
import Derived.Test.YtndmjfkmnjejkaaGreatDoorQApn
import Derived.Test.YtndmjfkmnjejkaaGreatDoorQScV
import Derived.Test.YtndmjfkmnjejkaaGreatDoorQPeK
import Derived.Test.YtndmjfkmnjejkaaGreatDoorQHaA
import Derived.Test.YtndmjfkmnjejkaaGreatDoorQScD
set_option linter.unusedVariables false
set_option linter.unusedSimpArgs false
namespace Go.Proofs.YtndmjfkmnjejkaaGreatDoor
open Go.RowKit Go.Lib
def NR (w W : World) (A : Option Addr) (n cap : Nat) (s : ByteArray) (k : Int) (P : Nat) (A' : Option Addr) (c' : Nat) (l : List ByteArray) : Prop :=
  TB W w.heap.size A n cap s k ∧ TB W (w.heap.size + 1) none 0 0 ⟨#[]⟩ 0 ∧ TB W P A' n c' s (k + 1) ∧ SlN W A' n c' l ∧ (∀ b o, A' = some ⟨b, o, none⟩ → w.heap.size + 1 < b) ∧ w.heap.size + 1 < P ∧ Below w.heap.size w W
theorem NR.nextN {w W W' : World} {A : Option Addr} {n cap : Nat} {s : ByteArray} {k : Int} {P : Nat} {A' : Option Addr} {c' : Nat} {l : List ByteArray} (h : NR w W A n cap s k P A' c' l) (hb : Below W.heap.size W W') : NR w W' A n cap s k P A' c' l :=
  ⟨h.1.nextT hb, h.2.1.nextT hb, h.2.2.1.nextT hb, h.2.2.2.1.kept hb (Nat.le_refl _), h.2.2.2.2.1, h.2.2.2.2.2.1, h.2.2.2.2.2.2.trans (hb.mono h.2.2.2.2.2.2.size)⟩
set_option maxRecDepth 100000 in
set_option maxHeartbeats 4000000 in
theorem r06_draw (l : List ByteArray) (s : ByteArray) (k N : Nat) (A : Option Addr) (n cap : Nat) (hg : l.all nvalid = true) (hk2 : k ≤ 2147483647) (hn : n ≤ 1000) (hs64 : s.size ≤ 1000000) (hN0 : 0 < N) (hN : N < 256 ^ 32) (w : World) (hs : SlN w A n cap l) :
    Calls Tryz.prog 102 #[tpV A n cap s k, .string (nS N)] w (RetC (dwN l s k N) (tpN (dwN l s k N).2 l s k) w) := by
  have HLEN := Lib.hid hs.1
  have hcap := hs.2.1
  have hcap2 := hs.2.2.1
  have HN1 := Lib.hid hn
  have hb1 := ((Below.refl w.heap.size w).alloc (Nat.le_refl _) (.cells #[.slice A n cap, .string s, .int .i64 k] 31)).alloc (by simp) (.cells #[.slice none 0 0, .string ⟨#[]⟩, .int .i64 0] 31)
  have ht1 : TB ((w.alloc (.cells #[.slice A n cap, .string s, .int .i64 k] 31)).alloc (.cells #[.slice none 0 0, .string ⟨#[]⟩, .int .i64 0] 31)) w.heap.size A n cap s k := (TB.new w A n cap s k).nextT ((Below.refl _ _).alloc (Nat.le_refl _) _)
  have hr1 : TB ((w.alloc (.cells #[.slice A n cap, .string s, .int .i64 k] 31)).alloc (.cells #[.slice none 0 0, .string ⟨#[]⟩, .int .i64 0] 31)) (w.heap.size + 1) none 0 0 ⟨#[]⟩ 0 := by
    have := TB.new (w.alloc (.cells #[.slice A n cap, .string s, .int .i64 k] 31)) none 0 0 ⟨#[]⟩ 0
    rwa [World.size_alloc] at this
  obtain ⟨W1, hW1⟩ : ∃ W, (w.alloc (.cells #[.slice A n cap, .string s, .int .i64 k] 31)).alloc (.cells #[.slice none 0 0, .string ⟨#[]⟩, .int .i64 0] 31) = W := ⟨_, rfl⟩
  have HSZ := Lib.hid (show W1.heap.size = w.heap.size + 1 + 1 from by rw [← hW1]; simp)
  rw [hW1] at hb1 ht1 hr1
  have HB1 := Lib.hid hb1
  have HT1 := Lib.hid ht1
  have HR1 := Lib.hid hr1
  have hs1 := hs.kept hb1 (Nat.le_refl _)
  have HS0 := Lib.hid hs
  have HS1 := Lib.hid hs1
  obtain ⟨c0, c1, c2⟩ := ht1.c
  obtain ⟨r0, r1, r2⟩ := hr1.c
  have f0 := hr1.f 0
  have f1 := hr1.f 1
  have f2 := hr1.f 2
  obtain ⟨r, hr⟩ : ∃ r, dwN l s k N = r := ⟨_, rfl⟩
  have HRR := Lib.hid hr
  rw [hr]
  unfold tpV
  have hkm : (k : Int) ≤ 2147483647 := by omega
  have HN2 := Lib.hid hN
  by_cases hkn : k < n
  · obtain ⟨y, hy⟩ : ∃ y, l[k]? = some y := ⟨_, List.getElem?_eq_getElem (by rw [HLEN.out]; exact hkn)⟩
    have vy := List.all_eq_true.1 hg y (List.mem_of_getElem? hy)
    have ly := num_lt (size_validC vy)
    have HCM := Lib.hid (r01_Cmp (num y) N ly (Nat.lt_trans hN (by decide)))
    rw [← nS_num vy] at HCM
    have hcm := cmpI_ltP (x := num y) (y := N)
    obtain ⟨k1, hk1⟩ : ∃ k, cmpI (num y) N = k := ⟨_, rfl⟩
    rw [hk1] at HCM hcm
    have hdw : r = if num y < N then (num y, 0) else (0, 2) := by
      rw [← hr]
      unfold dwN
      rw [if_pos (by rw [HLEN.out]; omega), Int.toNat_natCast, List.getD_eq_getElem?_getD, hy]
      rfl
    have HAX := Lib.hid (HS0.out.head (show 0 < n by omega))
    have hki : (k : Int) < (n : Int) := by omega
    have HY := Lib.hid hy
    have HNY := Lib.hid (nS_num vy)
    have HC1 := Lib.hid hcm
    have HDW := Lib.hid hdw
    obtain ⟨M, hM⟩ : ∃ M, nS N = M := ⟨_, rfl⟩
    rw [hM] at HCM ⊢
    clear hs hb1 ht1 hr1 hs1 hr hM hdw hcm hk1 ly vy hy hg
    go_enter Tryz.func102, Tryz.ntmps102
    go_upto_region 2 with (fail)
    try rw [hW1]
    have hb2 := (Below.refl W1.heap.size W1).alloc (Nat.le_refl _) (.cells #[.slice none 0 0, .string s, .int .i64 ((k : Int) + 1)] 31)
    have hp2 := TB.new W1 none 0 0 s ((k : Int) + 1)
    obtain ⟨P, hP⟩ : ∃ P, W1.heap.size = P := ⟨_, rfl⟩
    obtain ⟨W2, hW2⟩ : ∃ W, W1.alloc (.cells #[.slice none 0 0, .string s, .int .i64 ((k : Int) + 1)] 31) = W := ⟨_, rfl⟩
    rw [hW2] at hb2 hp2 ⊢
    have HSP := Lib.hid (show P = w.heap.size + 1 + 1 from by rw [← hP]; exact HSZ.out)
    have HT2 := Lib.hid (HT1.out.nextT hb2)
    have HR2 := Lib.hid (HR1.out.nextT hb2)
    have HB2 := Lib.hid (HB1.out.trans (hb2.mono HB1.out.size))
    have HS2 := Lib.hid (HS1.out.kept hb2 (Nat.le_refl _))
    rw [hP] at hp2 ⊢
    have HP2 := Lib.hid hp2
    clear hb2 hP hW2 hW1 c0 c1 c2 r0 r1 r2 f0 f1 f2
    obtain ⟨c0, c1, c2⟩ := HT2.out.c
    obtain ⟨p0, p1, p2⟩ := hp2.c
    have pf0 := hp2.f 0
    clear hp2
    go_upto_region 3 with
      (refine wpList_append_sl W2 W2 rfl (.tmp 17) (.tmp 19) rfl W2.heap.size (.slice none 0 0) 0 [] rfl (World.ownsRow_nil _ _ _ _) A n cap l rfl HS2.out (by have := HN1.out; omega) (Below.refl _ _) (Nat.le_refl _) ?_
       intro v3 w3 ho3 hb3 hz3
       simp only [Nat.zero_add, List.nil_append] at ho3
       have hlt3 := fun b => World.ownsRow.lt ho3 b
       obtain ⟨_, A3, c3, rfl, hs3⟩ := SlN.of_owns ho3
       have HF3 := Lib.hid (show ∀ b o, A3 = some ⟨b, o, none⟩ → W2.heap.size ≤ b from fun b o h => (hlt3 b (by rw [h]; rfl)).1)
       have HS3 := Lib.hid hs3
       have HT3 := Lib.hid (HT2.out.nextT hb3)
       have HR3 := Lib.hid (HR2.out.nextT hb3)
       have HP3 := Lib.hid (HP2.out.nextT hb3)
       have HB3 := Lib.hid (HB2.out.trans (hb3.mono HB2.out.size))
       clear ho3 hb3 hz3 hlt3 hs3 c0 c1 c2 p0 p1 p2 pf0
       have p0 := HP3.out.c.1
       have pf0 := HP3.out.f 0)
    have h3 : NR w (w3.setCell ⟨P, 0, none⟩ (.slice A3 n c3)) A n cap s k P A3 c3 l := by
      have hPP : P = w.heap.size + 1 + 1 := HSP.out
      have hfr : ∀ b o, A3 = some ⟨b, o, none⟩ → P < b := fun b o h => Nat.lt_of_lt_of_le HP2.out.lt (HF3.out b o h)
      exact ⟨HT3.out.off (by omega) _, HR3.out.off (by omega) _, block_setCell HP3.out _, HS3.out.setB hfr, fun b o h => by have := hfr b o h; omega, by omega, HB3.out.setCell (p := ⟨P, 0, none⟩) (show w.heap.size ≤ P by omega) _⟩
    obtain ⟨W4, hW4⟩ : ∃ X, w3.setCell ⟨P, 0, none⟩ (.slice A3 n c3) = X := ⟨_, rfl⟩
    rw [hW4] at h3 ⊢
    have H4 := Lib.hid h3
    clear h3 hW4 p0 pf0 HT2 HR2 HP2 HB2 HS2 HT3 HR3 HP3 HB3 HS3 HF3 HT1 HR1 HB1 HS1
    obtain ⟨b, o, rfl⟩ := HAX.out
    obtain ⟨c0, c1, c2⟩ := H4.out.1.c
    have d0 := (HS0.out.kept H4.out.2.2.2.2.2.2 (Nat.le_refl _)).get? k HY.out
    clear hkm hk2
    go_wp2_with fail
    refine (HCM.out _).mono ?_
    rintro ev w5 ⟨rfl, hb5⟩
    have H5 := Lib.hid (H4.out.nextN hb5)
    clear hb5 c0 c1 c2 d0
    by_cases hlt : num y < N
    · have hge : ¬ (0 ≤ k1) := by have : k1 < 0 := by rw [HC1.out]; exact hlt
                                  omega
      have HRV := Lib.hid (show r = (num y, 0) from by rw [HDW.out, if_pos hlt])
      clear hlt
      go_wp2
      obtain ⟨we, hwe⟩ : ∃ we, w5.drew = we := ⟨_, rfl⟩
      have HE := Lib.hid (show NR w we _ n cap s k P A3 c3 l from by rw [← hwe]; exact H5.out.nextN (Below.refl _ _).drew)
      have HS0E := Lib.hid (show Below w.heap.size w we ∧ TB we w.heap.size (some ⟨b, o, none⟩) n cap s k ∧ TB we P A3 n c3 s ((k : Int) + 1) from ⟨HE.out.2.2.2.2.2.2, HE.out.1, HE.out.2.2.1⟩)
      have HPP := Lib.hid HE.out.2.2.2.2.2.1
      obtain ⟨r0, r1, r2⟩ := HE.out.2.1.c
      have f0 := HE.out.2.1.f 0
      have f1 := HE.out.2.1.f 1
      have f2 := HE.out.2.1.f 2
      have HX1 := Lib.hid HNY.out.symm
      refine wp_region_K 10 (fun W' => Below w.heap.size w W' ∧ TB W' w.heap.size (some ⟨b, o, none⟩) n cap s k ∧ TB W' P A3 n c3 s ((k : Int) + 1)) (by kernel_rfl) ?_
      intro hD
      rw [hwe]
      have KK1 := Lib.hid (fun w' (hS' : (fun W' => Below w.heap.size w W' ∧ TB W' w.heap.size (some ⟨b, o, none⟩) n cap s k ∧ TB W' P A3 n c3 s ((k : Int) + 1)) w') => And.intro (hS'.2.1.c.1) (And.intro (hS'.2.1.c.2.1) (And.intro (hS'.2.1.c.2.2) (And.intro ((HS0.out.kept hS'.1 (Nat.le_refl _)).get? k HY.out) (And.intro (hS'.2.2.c.1) (And.intro (hS'.2.2.c.2.1) (hS'.2.2.c.2.2)))))))
      refine rP 0 38 9 rfl hD HS0E.out ?_; clear hD; intro hD; simp only [Act.put, sqA, sqB, sqC]
      refine rT 1 39 8 rfl hD HS0E.out (by intro w' hS'; obtain ⟨e0, e1, e2, e3, e4, e5, e6⟩ := KK1.out w' hS'; go_simp; with_reducible rfl) ?_; clear hD; intro hD; simp only [Act.put, sqA, sqB, sqC]
      refine rP 2 40 7 rfl hD HS0E.out ?_; clear hD; intro hD; simp only [Act.put, sqA, sqB, sqC]
      refine rT 3 41 6 rfl hD HS0E.out (by intro w' hS'; obtain ⟨e0, e1, e2, e3, e4, e5, e6⟩ := KK1.out w' hS'; go_simp; with_reducible rfl) ?_; clear hD; intro hD; simp only [Act.put, sqA, sqB, sqC]
      refine rP 4 42 5 rfl hD HS0E.out ?_; clear hD; intro hD; simp only [Act.put, sqA, sqB, sqC]
      refine rT 5 43 4 rfl hD HS0E.out (by intro w' hS'; obtain ⟨e0, e1, e2, e3, e4, e5, e6⟩ := KK1.out w' hS'; go_simp; with_reducible rfl) ?_; clear hD; intro hD; simp only [Act.put, sqA, sqB, sqC]
      refine rT 6 44 3 rfl hD HS0E.out (by intro w' hS'; obtain ⟨e0, e1, e2, e3, e4, e5, e6⟩ := KK1.out w' hS'; go_simp; with_reducible rfl) ?_; clear hD; intro hD; simp only [Act.put, sqA, sqB, sqC]
      refine rO 7 2 rfl hD ?_; clear hD; intro K7 hK7
      go_wp2
      refine hK7 _ _ (by exact HS0E.out) ?_; clear hK7; intro hS_6_7 hD
      refine rO 8 1 rfl hD ?_; clear hD; intro K8 hK8
      go_wp2
      refine hK8 _ _ (by exact ⟨below_set3 (hS_6_7).1 (by omega) _ _ _, (((hS_6_7).2.1.off (by omega) _).off (by omega) _).off (by omega) _, (((hS_6_7).2.2.off (by have := HPP.out; omega) _).off (by have := HPP.out; omega) _).off (by have := HPP.out; omega) _⟩) ?_; clear hK8; intro hS_6_8 hD
      refine rO 9 0 rfl hD ?_; clear hD; intro K9 hK9
      go_wp2
      refine hK9 _ _ (by exact hS_6_8) ?_; clear hK9; intro hS_6_9 hD
      refine wpAnyK_done (by kernel_rfl) ?_ 0
      clear hD r0 r1 r2 f0 f1 f2
      have hq := HE.out.2.1.set3 (A' := A3) (n' := n) (c' := c3) (s' := s) (a' := (k : Int) + 1)
      obtain ⟨q0, q1, q2⟩ := hq.c
      have HBQ := Lib.hid (hS_6_9).1
      clear hq
      go_wp2
      refine bodyPost_ret (v := .tuple #[.string y, .agg #[.slice A3 n c3, .string s, .int .i64 ((k : Int) + 1)], .int .i64 0]) (by simp [results, Tryz.results102, go_sem, q0, q1, q2]) rfl ?_
      rw [HRV.out]
      refine ⟨A3, c3, ?_, ?_, (fun b o h => by have := HE.out.2.2.2.2.1 b o h; omega), HBQ.out⟩
      · show _ = Ending.returned (.tuple #[.string (nS (num y)), .agg #[.slice A3 l.length c3, .string s, .int .i64 ((k : Int) + 1)], .int .i64 0])
        rw [HLEN.out, HX1.out]
      · show SlN _ A3 l.length c3 l
        rw [HLEN.out]
        exact (((HE.out.2.2.2.1).setB HE.out.2.2.2.2.1).setB HE.out.2.2.2.2.1).setB HE.out.2.2.2.2.1
    · have hge : 0 ≤ k1 := by have : ¬ (k1 < 0) := by rw [HC1.out]; exact hlt
                              omega
      have HRV := Lib.hid (show r = (0, 2) from by rw [HDW.out, if_neg hlt])
      clear hlt
      obtain ⟨r0, r1, r2⟩ := H5.out.2.1.c
      have f0 := H5.out.2.1.f 0
      have f1 := H5.out.2.1.f 1
      have f2 := H5.out.2.1.f 2
      have hq := H5.out.2.1.set3 (A' := none) (n' := 0) (c' := 0) (s' := ⟨#[]⟩) (a' := 0)
      obtain ⟨q0, q1, q2⟩ := hq.c
      have HBQ := Lib.hid (below_set3 H5.out.2.2.2.2.2.2 (C := w.heap.size + 1) (by omega) (.slice none 0 0) (.string ⟨#[]⟩) (.int .i64 0))
      clear hq
      go_wp2
      refine bodyPost_ret (v := .tuple #[.string ⟨#[]⟩, .agg #[.slice none 0 0, .string ⟨#[]⟩, .int .i64 0], .int .i64 2]) (by simp [results, Tryz.results102, go_sem, q0, q1, q2]) rfl ?_
      rw [HRV.out]
      exact ⟨none, 0, rfl, SlN.nil _ 0 (by omega) none, (fun b o h => by cases h), HBQ.out⟩
  · have hdw : r = if s.toList.isEmpty = true ∨ (k : Int) = 2147483647 then ((0, 14) : Nat × Int) else match drwF (fun a => attN s.data.toList k a (blen N)) N with
      | some x => ((x, 0) : Nat × Int)
      | none => (0, 14) := by
      rw [← hr]
      unfold dwN
      rw [if_neg (by rw [HLEN.out]; omega), Int.toNat_natCast]
      split
      · rfl
      · cases drwF (fun a => attN s.data.toList k a (blen N)) N <;> rfl
    have hdk1 : decide (k < n) = false := decide_eq_false hkn
    have hdk2 : decide ((k : Int) < (n : Int)) = false := decide_eq_false (by omega)
    have hnki : ¬ ((k : Int) < (n : Int)) := by omega
    obtain ⟨M, hM⟩ : ∃ M, nS N = M := ⟨_, rfl⟩
    have HMM := Lib.hid hM
    rw [hM]
    by_cases he : s.toList.isEmpty = true ∨ (k : Int) = 2147483647
    · have HRV := Lib.hid (show r = (0, 14) from by rw [hdw, if_pos he])
      have hee : s.toList.isEmpty = true ∨ (s.toList.isEmpty = false ∧ (k : Int) = 2147483647) := by
        cases hx : s.toList.isEmpty with
        | true => exact .inl rfl
        | false => rw [hx] at he; exact .inr ⟨rfl, by simpa using he⟩
      have HEE := Lib.hid hee
      clear hs hb1 ht1 hr1 hs1 hr hM hdw he hee hg
      go_enter Tryz.func102, Tryz.ntmps102
      go_upto_region 2 with (fail)
      try rw [hW1]
      have hb2 := (Below.refl W1.heap.size W1).alloc (Nat.le_refl _) (.cells #[.slice none 0 0, .string s, .int .i64 ((k : Int) + 1)] 31)
      have hp2 := TB.new W1 none 0 0 s ((k : Int) + 1)
      obtain ⟨P, hP⟩ : ∃ P, W1.heap.size = P := ⟨_, rfl⟩
      obtain ⟨W2, hW2⟩ : ∃ W, W1.alloc (.cells #[.slice none 0 0, .string s, .int .i64 ((k : Int) + 1)] 31) = W := ⟨_, rfl⟩
      rw [hW2] at hb2 hp2 ⊢
      have HSP := Lib.hid (show P = w.heap.size + 1 + 1 from by rw [← hP]; exact HSZ.out)
      have HT2 := Lib.hid (HT1.out.nextT hb2)
      have HR2 := Lib.hid (HR1.out.nextT hb2)
      have HB2 := Lib.hid (HB1.out.trans (hb2.mono HB1.out.size))
      have HS2 := Lib.hid (HS1.out.kept hb2 (Nat.le_refl _))
      rw [hP] at hp2 ⊢
      have HP2 := Lib.hid hp2
      clear hb2 hP hW2 hW1 c0 c1 c2 r0 r1 r2 f0 f1 f2
      obtain ⟨c0, c1, c2⟩ := HT2.out.c
      obtain ⟨p0, p1, p2⟩ := hp2.c
      have pf0 := hp2.f 0
      clear hp2
      go_upto_region 3 with
        (refine wpList_append_sl W2 W2 rfl (.tmp 17) (.tmp 19) rfl W2.heap.size (.slice none 0 0) 0 [] rfl (World.ownsRow_nil _ _ _ _) A n cap l rfl HS2.out (by have := HN1.out; omega) (Below.refl _ _) (Nat.le_refl _) ?_
         intro v3 w3 ho3 hb3 hz3
         simp only [Nat.zero_add, List.nil_append] at ho3
         have hlt3 := fun b => World.ownsRow.lt ho3 b
         obtain ⟨_, A3, c3, rfl, hs3⟩ := SlN.of_owns ho3
         have HF3 := Lib.hid (show ∀ b o, A3 = some ⟨b, o, none⟩ → W2.heap.size ≤ b from fun b o h => (hlt3 b (by rw [h]; rfl)).1)
         have HS3 := Lib.hid hs3
         have HT3 := Lib.hid (HT2.out.nextT hb3)
         have HR3 := Lib.hid (HR2.out.nextT hb3)
         have HP3 := Lib.hid (HP2.out.nextT hb3)
         have HB3 := Lib.hid (HB2.out.trans (hb3.mono HB2.out.size))
         clear ho3 hb3 hz3 hlt3 hs3 c0 c1 c2 p0 p1 p2 pf0
         have p0 := HP3.out.c.1
         have pf0 := HP3.out.f 0)
      have h3 : NR w (w3.setCell ⟨P, 0, none⟩ (.slice A3 n c3)) A n cap s k P A3 c3 l := by
        have hPP : P = w.heap.size + 1 + 1 := HSP.out
        have hfr : ∀ b o, A3 = some ⟨b, o, none⟩ → P < b := fun b o h => Nat.lt_of_lt_of_le HP2.out.lt (HF3.out b o h)
        exact ⟨HT3.out.off (by omega) _, HR3.out.off (by omega) _, block_setCell HP3.out _, HS3.out.setB hfr, fun b o h => by have := hfr b o h; omega, by omega, HB3.out.setCell (p := ⟨P, 0, none⟩) (show w.heap.size ≤ P by omega) _⟩
      obtain ⟨W4, hW4⟩ : ∃ X, w3.setCell ⟨P, 0, none⟩ (.slice A3 n c3) = X := ⟨_, rfl⟩
      rw [hW4] at h3 ⊢
      have H4 := Lib.hid h3
      clear h3 hW4 p0 pf0 HT2 HR2 HP2 HB2 HS2 HT3 HR3 HP3 HB3 HS3 HF3 HT1 HR1 HB1 HS1
      clear hkm hk2
      obtain ⟨c0, c1, c2⟩ := H4.out.1.c
      rcases HEE.out with h1 | ⟨h1, h2⟩
      · skip
        obtain ⟨r0, r1, r2⟩ := H4.out.2.1.c
        have f0 := H4.out.2.1.f 0
        have f1 := H4.out.2.1.f 1
        have f2 := H4.out.2.1.f 2
        have hq := H4.out.2.1.set3 (A' := none) (n' := 0) (c' := 0) (s' := ⟨#[]⟩) (a' := 0)
        obtain ⟨q0, q1, q2⟩ := hq.c
        have HBQ := Lib.hid (below_set3 H4.out.2.2.2.2.2.2 (C := w.heap.size + 1) (by omega) (.slice none 0 0) (.string ⟨#[]⟩) (.int .i64 0))
        clear hq
        go_wp2
        refine bodyPost_ret (v := .tuple #[.string ⟨#[]⟩, .agg #[.slice none 0 0, .string ⟨#[]⟩, .int .i64 0], .int .i64 14]) (by simp [results, Tryz.results102, go_sem, q0, q1, q2]) rfl ?_
        rw [HRV.out]
        exact ⟨none, 0, rfl, SlN.nil _ 0 (by omega) none, (fun b o h => by cases h), HBQ.out⟩
      · have h2' : ((k : Int) == 2147483647) = true := beq_iff_eq.2 h2
        clear h2
        obtain ⟨r0, r1, r2⟩ := H4.out.2.1.c
        have f0 := H4.out.2.1.f 0
        have f1 := H4.out.2.1.f 1
        have f2 := H4.out.2.1.f 2
        have hq := H4.out.2.1.set3 (A' := none) (n' := 0) (c' := 0) (s' := ⟨#[]⟩) (a' := 0)
        obtain ⟨q0, q1, q2⟩ := hq.c
        have HBQ := Lib.hid (below_set3 H4.out.2.2.2.2.2.2 (C := w.heap.size + 1) (by omega) (.slice none 0 0) (.string ⟨#[]⟩) (.int .i64 0))
        clear hq
        go_wp2
        refine bodyPost_ret (v := .tuple #[.string ⟨#[]⟩, .agg #[.slice none 0 0, .string ⟨#[]⟩, .int .i64 0], .int .i64 14]) (by simp [results, Tryz.results102, go_sem, q0, q1, q2]) rfl ?_
        rw [HRV.out]
        exact ⟨none, 0, rfl, SlN.nil _ 0 (by omega) none, (fun b o h => by cases h), HBQ.out⟩
    · rw [if_neg he] at hdw
      have h1 : s.toList.isEmpty = false := by
        cases hx : s.toList.isEmpty with
        | true => exact absurd (.inl hx) he
        | false => rfl
      have h2' : ((k : Int) == 2147483647) = false := beq_eq_false_iff_ne.2 (fun h => he (.inr h))
      have hkk : k < 2147483648 := by omega
      obtain ⟨b, hb⟩ : ∃ b, blen N = b := ⟨_, rfl⟩
      have hb256 : b ≤ 256 := by rw [← hb]; exact blen_le8 (k := 32) hN
      have hb0 : 0 < b := by
        rcases Nat.eq_zero_or_pos b with h | h
        · have := blen_lt N; rw [hb, h] at this; omega
        · exact h
      obtain ⟨f, hf⟩ : ∃ f : Nat → Nat, (fun a => attN s.data.toList k a b) = f := ⟨_, rfl⟩
      rw [hb, hf] at hdw
      have HBI := Lib.hid (r01_Bits N (Nat.lt_trans hN (by decide)))
      have HAT := Lib.hid (fun a (ha : a < 256) W => r06_attempt s k a b hs64 hkk ha hb0 hb256 W)
      have hfl : ∀ a, f a < 256 ^ 128 := fun a => by
        rw [← hf]
        exact Nat.lt_of_lt_of_le (attN_lt _ _ _ _) (Nat.le_trans (Nat.pow_le_pow_right (by omega) hb256) (by decide))
      have HCM := Lib.hid (fun a => r01_Cmp (f a) N (hfl a) (Nat.lt_trans hN (show 256 ^ 32 < 256 ^ 128 by decide)))
      have HFE := Lib.hid (fun a => (show attN s.data.toList k a b = f a from by rw [← hf]))
      rw [hb, HMM.out] at HBI
      rw [HMM.out] at HCM
      have HR := Lib.hid hdw
      clear hs hb1 ht1 hr1 hs1 hr hM hdw he hg hb hf hfl hb256 hb0 hs64
      go_enter Tryz.func102, Tryz.ntmps102
      go_upto_region 2 with (fail)
      try rw [hW1]
      have hb2 := (Below.refl W1.heap.size W1).alloc (Nat.le_refl _) (.cells #[.slice none 0 0, .string s, .int .i64 ((k : Int) + 1)] 31)
      have hp2 := TB.new W1 none 0 0 s ((k : Int) + 1)
      obtain ⟨P, hP⟩ : ∃ P, W1.heap.size = P := ⟨_, rfl⟩
      obtain ⟨W2, hW2⟩ : ∃ W, W1.alloc (.cells #[.slice none 0 0, .string s, .int .i64 ((k : Int) + 1)] 31) = W := ⟨_, rfl⟩
      rw [hW2] at hb2 hp2 ⊢
      have HSP := Lib.hid (show P = w.heap.size + 1 + 1 from by rw [← hP]; exact HSZ.out)
      have HT2 := Lib.hid (HT1.out.nextT hb2)
      have HR2 := Lib.hid (HR1.out.nextT hb2)
      have HB2 := Lib.hid (HB1.out.trans (hb2.mono HB1.out.size))
      have HS2 := Lib.hid (HS1.out.kept hb2 (Nat.le_refl _))
      rw [hP] at hp2 ⊢
      have HP2 := Lib.hid hp2
      clear hb2 hP hW2 hW1 c0 c1 c2 r0 r1 r2 f0 f1 f2
      obtain ⟨c0, c1, c2⟩ := HT2.out.c
      obtain ⟨p0, p1, p2⟩ := hp2.c
      have pf0 := hp2.f 0
      clear hp2
      go_upto_region 3 with
        (refine wpList_append_sl W2 W2 rfl (.tmp 17) (.tmp 19) rfl W2.heap.size (.slice none 0 0) 0 [] rfl (World.ownsRow_nil _ _ _ _) A n cap l rfl HS2.out (by have := HN1.out; omega) (Below.refl _ _) (Nat.le_refl _) ?_
         intro v3 w3 ho3 hb3 hz3
         simp only [Nat.zero_add, List.nil_append] at ho3
         have hlt3 := fun b => World.ownsRow.lt ho3 b
         obtain ⟨_, A3, c3, rfl, hs3⟩ := SlN.of_owns ho3
         have HF3 := Lib.hid (show ∀ b o, A3 = some ⟨b, o, none⟩ → W2.heap.size ≤ b from fun b o h => (hlt3 b (by rw [h]; rfl)).1)
         have HS3 := Lib.hid hs3
         have HT3 := Lib.hid (HT2.out.nextT hb3)
         have HR3 := Lib.hid (HR2.out.nextT hb3)
         have HP3 := Lib.hid (HP2.out.nextT hb3)
         have HB3 := Lib.hid (HB2.out.trans (hb3.mono HB2.out.size))
         clear ho3 hb3 hz3 hlt3 hs3 c0 c1 c2 p0 p1 p2 pf0
         have p0 := HP3.out.c.1
         have pf0 := HP3.out.f 0)
      have h3 : NR w (w3.setCell ⟨P, 0, none⟩ (.slice A3 n c3)) A n cap s k P A3 c3 l := by
        have hPP : P = w.heap.size + 1 + 1 := HSP.out
        have hfr : ∀ b o, A3 = some ⟨b, o, none⟩ → P < b := fun b o h => Nat.lt_of_lt_of_le HP2.out.lt (HF3.out b o h)
        exact ⟨HT3.out.off (by omega) _, HR3.out.off (by omega) _, block_setCell HP3.out _, HS3.out.setB hfr, fun b o h => by have := hfr b o h; omega, by omega, HB3.out.setCell (p := ⟨P, 0, none⟩) (show w.heap.size ≤ P by omega) _⟩
      obtain ⟨W4, hW4⟩ : ∃ X, w3.setCell ⟨P, 0, none⟩ (.slice A3 n c3) = X := ⟨_, rfl⟩
      rw [hW4] at h3 ⊢
      have H4 := Lib.hid h3
      clear h3 hW4 p0 pf0 HT2 HR2 HP2 HB2 HS2 HT3 HR3 HP3 HB3 HS3 HF3 HT1 HR1 HB1 HS1
      clear hkm hk2 hkk
      obtain ⟨c0, c1, c2⟩ := H4.out.1.c
      go_wp2
      clear c0 c1 c2
      go_loopw [8] (fun v wr => ∃ a : Nat, a ≤ 256 ∧ v = .int .i64 a ∧ (∀ j, j < a → ¬ f j < N) ∧ NR w wr A n cap s k P A3 c3 l) (fun v _ => 256 - (RowKit.intOf v).toNat)
      case atStart => exact ⟨0, by omega, rfl, fun j h => by omega, H4.out⟩
      case round =>
        obtain ⟨a, ha, rfl, hno, hds⟩ := hrel
        have HNO := Lib.hid hno
        have HDW := Lib.hid hds
        clear hno hds
        by_cases hlt : a < 256
        · have hai : (a : Int) < 256 := by omega
          have HLT := Lib.hid hlt
          go_wp2
          obtain ⟨wd, hwd⟩ : ∃ wd, wr.drew = wd := ⟨_, rfl⟩
          have HDd := Lib.hid (show NR w wd A n cap s k P A3 c3 l from by rw [← hwd]; exact HDW.out.nextN (Below.refl _ _).drew)
          have HATa := Lib.hid (HAT.out a HLT.out)
          have HCMa := Lib.hid (HCM.out a)
          have hcm := cmpI_ltP (x := f a) (y := N)
          obtain ⟨k1, hk1⟩ : ∃ k1, cmpI (f a) N = k1 := ⟨_, rfl⟩
          rw [hk1] at HCMa hcm
          rw [HFE.out a] at HATa
          obtain ⟨x, hx⟩ : ∃ x, nS (f a) = x := ⟨_, rfl⟩
          rw [hx] at HCMa HATa
          have HX1 := Lib.hid hx
          have HC1 := Lib.hid hcm
          clear hk1 hx hcm
          obtain ⟨c0, c1, c2⟩ := HDd.out.1.c
          refine wp_region_K 9 (Below (wd).heap.size (wd)) (by kernel_rfl) ?_
          intro hD
          rw [hwd]
          refine rP 0 58 8 rfl hD (Below.refl _ _) ?_; clear hD; intro hD; simp only [Act.put, sqA, sqB, sqC]
          refine rT 1 59 7 rfl hD (Below.refl _ _) (by intro w' hS'; have e0 := kC hS' c0; have e1 := kC hS' c1; have e2 := kC hS' c2; go_simp; with_reducible rfl) ?_; clear hD; intro hD; simp only [Act.put, sqA, sqB, sqC]
          refine rP 2 60 6 rfl hD (Below.refl _ _) ?_; clear hD; intro hD; simp only [Act.put, sqA, sqB, sqC]
          refine rT 3 61 5 rfl hD (Below.refl _ _) (by intro w' hS'; have e0 := kC hS' c0; have e1 := kC hS' c1; have e2 := kC hS' c2; go_simp; with_reducible rfl) ?_; clear hD; intro hD; simp only [Act.put, sqA, sqB, sqC]
          refine rP 4 62 4 rfl hD (Below.refl _ _) ?_; clear hD; intro hD; simp only [Act.put, sqA, sqB, sqC]
          refine rP 5 63 3 rfl hD (Below.refl _ _) ?_; clear hD; intro hD; simp only [Act.put, sqA, sqB, sqC]
          refine rO 6 2 rfl hD ?_; clear hD; intro K6 hK6
          go_wp2_with fail
          refine (HBI.out _).mono ?_
          rintro ev w5 ⟨rfl, rfl⟩
          have HB6 := Lib.hid (Below.refl wd.heap.size wd)
          go_wp2
          refine hK6 _ _ (by exact HB6.out) ?_; clear hK6; intro hS_12_6 hD
          refine rO 7 1 rfl hD ?_; clear hD; intro K7 hK7
          go_wp2_with fail
          refine (HATa.out _).mono ?_
          rintro ev w6 ⟨rfl, hb⟩
          have HB7 := Lib.hid hb
          clear hb
          go_wp2
          refine hK7 _ _ (by exact Below.trans hS_12_6 (Below.mono HB7.out (Below.size hS_12_6))) ?_; clear hK7; intro hS_12_7 hD
          refine rO 8 0 rfl hD ?_; clear hD; intro K8 hK8
          go_wp2
          refine hK8 _ _ (by exact hS_12_7) ?_; clear hK8; intro hS_12_8 hD
          refine wpAnyK_done (by kernel_rfl) ?_ 0
          clear hD
          have HD5 := Lib.hid (HDd.out.nextN HB7.out)
          clear c0 c1 c2
          go_wp2_with fail
          refine (HCMa.out _).mono ?_
          rintro ev w7 ⟨rfl, hb⟩
          have HD6 := Lib.hid (HD5.out.nextN hb)
          clear hb
          by_cases hfn : f a < N
          · have hneg : k1 < 0 := by rw [HC1.out]; exact hfn
            have HRV := Lib.hid (show r = (f a, 0) from by rw [HR.out, drwF_at HLT.out HNO.out hfn])
            clear hfn
            go_wp2
            obtain ⟨we, hwe⟩ : ∃ we, w7.drew = we := ⟨_, rfl⟩
            have HE := Lib.hid (show NR w we _ n cap s k P A3 c3 l from by rw [← hwe]; exact HD6.out.nextN (Below.refl _ _).drew)
            have HS0E := Lib.hid (show Below w.heap.size w we ∧ TB we w.heap.size A n cap s k ∧ TB we P A3 n c3 s ((k : Int) + 1) from ⟨HE.out.2.2.2.2.2.2, HE.out.1, HE.out.2.2.1⟩)
            have HPP := Lib.hid HE.out.2.2.2.2.2.1
            obtain ⟨r0, r1, r2⟩ := HE.out.2.1.c
            have f0 := HE.out.2.1.f 0
            have f1 := HE.out.2.1.f 1
            have f2 := HE.out.2.1.f 2
            refine wp_region_K 5 (fun W' => Below w.heap.size w W' ∧ TB W' w.heap.size A n cap s k ∧ TB W' P A3 n c3 s ((k : Int) + 1)) (by kernel_rfl) ?_
            intro hD
            rw [hwe]
            refine rP 0 70 4 rfl hD HS0E.out ?_; clear hD; intro hD; simp only [Act.put, sqA, sqB, sqC]
            refine rT 1 71 3 rfl hD HS0E.out (by intro w' hS'; have e0 := hS'.2.2.c.1; have e1 := hS'.2.2.c.2.1; have e2 := hS'.2.2.c.2.2; go_simp; with_reducible rfl) ?_; clear hD; intro hD; simp only [Act.put, sqA, sqB, sqC]
            refine rO 2 2 rfl hD ?_; clear hD; intro K2 hK2
            go_wp2
            refine hK2 _ _ (by exact HS0E.out) ?_; clear hK2; intro hS_14_2 hD
            refine rO 3 1 rfl hD ?_; clear hD; intro K3 hK3
            go_wp2
            refine hK3 _ _ (by exact ⟨below_set3 (hS_14_2).1 (by omega) _ _ _, (((hS_14_2).2.1.off (by omega) _).off (by omega) _).off (by omega) _, (((hS_14_2).2.2.off (by have := HPP.out; omega) _).off (by have := HPP.out; omega) _).off (by have := HPP.out; omega) _⟩) ?_; clear hK3; intro hS_14_3 hD
            refine rO 4 0 rfl hD ?_; clear hD; intro K4 hK4
            go_wp2
            refine hK4 _ _ (by exact hS_14_3) ?_; clear hK4; intro hS_14_4 hD
            refine wpAnyK_done (by kernel_rfl) ?_ 0
            clear hD r0 r1 r2 f0 f1 f2
            have hq := HE.out.2.1.set3 (A' := A3) (n' := n) (c' := c3) (s' := s) (a' := (k : Int) + 1)
            obtain ⟨q0, q1, q2⟩ := hq.c
            have HBQ := Lib.hid (hS_14_4).1
            clear hq
            go_wp2
            refine bodyPost_ret (v := .tuple #[.string x, .agg #[.slice A3 n c3, .string s, .int .i64 ((k : Int) + 1)], .int .i64 0]) (by simp [results, Tryz.results102, go_sem, q0, q1, q2]) rfl ?_
            rw [HRV.out]
            refine ⟨A3, c3, ?_, ?_, (fun b o h => by have := HE.out.2.2.2.2.1 b o h; omega), HBQ.out⟩
            · show _ = Ending.returned (.tuple #[.string (nS (f a)), .agg #[.slice A3 l.length c3, .string s, .int .i64 ((k : Int) + 1)], .int .i64 0])
              rw [HLEN.out, HX1.out]
            · show SlN _ A3 l.length c3 l
              rw [HLEN.out]
              exact (((HE.out.2.2.2.1).setB HE.out.2.2.2.2.1).setB HE.out.2.2.2.2.1).setB HE.out.2.2.2.2.1
          · have hneg : ¬ (k1 < 0) := by rw [HC1.out]; exact hfn
            have HNN := Lib.hid (show ∀ j, j < a + 1 → ¬ f j < N from fun j hj => by
              rcases Nat.lt_or_ge j a with h | h
              · exact HNO.out j h
              · obtain rfl : j = a := by omega
                exact hfn)
            clear hfn
            go_wp2
            go_roundw
            case rel => exact ⟨a + 1, by have := HLT.out; omega, by go_num, HNN.out, HD6.out⟩
            case measure => have := HLT.out; simp [RowKit.intOf]; omega
        · obtain rfl : a = 256 := by omega
          have HRV := Lib.hid (show r = (0, 14) from by rw [HR.out, drwF_none HNO.out])
          have hai : ¬ (((256 : Nat) : Int) < 256) := by omega
          clear hlt ha
          obtain ⟨r0, r1, r2⟩ := HDW.out.2.1.c
          have f0 := HDW.out.2.1.f 0
          have f1 := HDW.out.2.1.f 1
          have f2 := HDW.out.2.1.f 2
          have hq := HDW.out.2.1.set3 (A' := none) (n' := 0) (c' := 0) (s' := ⟨#[]⟩) (a' := 0)
          obtain ⟨q0, q1, q2⟩ := hq.c
          have HBQ := Lib.hid (below_set3 HDW.out.2.2.2.2.2.2 (C := w.heap.size + 1) (by omega) (.slice none 0 0) (.string ⟨#[]⟩) (.int .i64 0))
          clear hq
          go_wp2
          refine bodyPost_ret (v := .tuple #[.string ⟨#[]⟩, .agg #[.slice none 0 0, .string ⟨#[]⟩, .int .i64 0], .int .i64 14]) (by simp [results, Tryz.results102, go_sem, q0, q1, q2]) rfl ?_
          rw [HRV.out]
          exact ⟨none, 0, rfl, SlN.nil _ 0 (by omega) none, (fun b o h => by cases h), HBQ.out⟩
end Go.Proofs.YtndmjfkmnjejkaaGreatDoor
/- Walk: dominoref06.Below, for short seeds and bounds. -/
set_option linter.unusedVariables false
set_option linter.unusedSimpArgs false
namespace Go.Proofs.YtndmjfkmnjejkaaGreatDoor
open Go.RowKit Go.Lib
set_option maxRecDepth 100000 in
set_option maxHeartbeats 4000000 in
theorem r06_Below (l : List ByteArray) (s : ByteArray) (k : Int) (N : ByteArray) (A : Option Addr) (n cap : Nat) (hn : n ≤ 1000) (hp : ∀ x ∈ l, x.size ≤ 9223372036854775807) (hs64 : s.size ≤ 1000000) (hN : N.size ≤ 32) (w : World) (hs : SlN w A n cap l) :
    Calls Tryz.prog 55 #[tpV A n cap s k, .string N] w (RetC (coN l s k N) (tpN (coN l s k N).2 l s k) w) := by
  have HRC := Lib.hid (show coN l s k N = if (tpG l k && nvalid N) = true then (if N.toList.isEmpty = true then (0, 11) else dwN l s k (num N)) else (0, 3) from rfl)
  have hb1 := ((Below.refl w.heap.size w).alloc (Nat.le_refl _) (.cells #[.slice A n cap, .string s, .int .i64 k] 31)).alloc (by simp) (.cells #[.slice none 0 0, .string ⟨#[]⟩, .int .i64 0] 31)
  have ht1 : TB ((w.alloc (.cells #[.slice A n cap, .string s, .int .i64 k] 31)).alloc (.cells #[.slice none 0 0, .string ⟨#[]⟩, .int .i64 0] 31)) w.heap.size A n cap s k := (TB.new w A n cap s k).nextT ((Below.refl _ _).alloc (Nat.le_refl _) _)
  have hr1 : TB ((w.alloc (.cells #[.slice A n cap, .string s, .int .i64 k] 31)).alloc (.cells #[.slice none 0 0, .string ⟨#[]⟩, .int .i64 0] 31)) (w.heap.size + 1) none 0 0 ⟨#[]⟩ 0 := by
    have := TB.new (w.alloc (.cells #[.slice A n cap, .string s, .int .i64 k] 31)) none 0 0 ⟨#[]⟩ 0
    rwa [World.size_alloc] at this
  obtain ⟨W1, hW1⟩ : ∃ W, (w.alloc (.cells #[.slice A n cap, .string s, .int .i64 k] 31)).alloc (.cells #[.slice none 0 0, .string ⟨#[]⟩, .int .i64 0] 31) = W := ⟨_, rfl⟩
  have HSZ := Lib.hid (show W1.heap.size = w.heap.size + 1 + 1 from by rw [← hW1]; simp)
  rw [hW1] at hb1 ht1 hr1
  have HB1 := Lib.hid hb1
  have HT1 := Lib.hid ht1
  have HR1 := Lib.hid hr1
  have hs1 := hs.kept hb1 (Nat.le_refl _)
  have HS0 := Lib.hid hs
  have HS1 := Lib.hid hs1
  obtain ⟨c0, c1, c2⟩ := ht1.c
  obtain ⟨r0, r1, r2⟩ := hr1.c
  have f0 := hr1.f 0
  have f1 := hr1.f 1
  have f2 := hr1.f 2
  have HGD := Lib.hid (r06_Good l s k A n cap W1 HS1.out hn hp)
  have HVD := Lib.hid (r01_Valid N (by omega))
  clear hs hb1 ht1 hr1 hs1
  unfold tpV at *
  cases hg : tpG l k with
  | false =>
    rw [hg] at HGD
    rw [HRC.out, hg, Bool.false_and, if_neg (by decide)]
    clear hg hp
    go_enter Tryz.func55, Tryz.ntmps55
    go_wp2_with fail
    try rw [hW1]
    clear hW1
    refine (HGD.out).mono ?_
    rintro ev w2 ⟨rfl, hb2⟩
    have HT2 := Lib.hid (HT1.out.nextT hb2)
    have HR2 := Lib.hid (HR1.out.nextT hb2)
    have HB2 := Lib.hid (HB1.out.trans (hb2.mono HB1.out.size))
    have HS2 := Lib.hid (HS1.out.kept hb2 (Nat.le_refl _))
    clear c0 c1 c2 hb2 r0 r1 r2 f0 f1 f2
    obtain ⟨c0, c1, c2⟩ := HT2.out.c
    have hq := HR2.out.set3 (A' := none) (n' := 0) (c' := 0) (s' := ⟨#[]⟩) (a' := 0)
    obtain ⟨q0, q1, q2⟩ := hq.c
    have HBQ := Lib.hid (below_set3 HB2.out (C := w.heap.size + 1) (by omega) (.slice none 0 0) (.string ⟨#[]⟩) (.int .i64 0))
    obtain ⟨r0, r1, r2⟩ := HR2.out.c
    have f0 := HR2.out.f 0
    have f1 := HR2.out.f 1
    have f2 := HR2.out.f 2
    clear hq
    go_wp2
    refine bodyPost_ret (v := .tuple #[.string ⟨#[]⟩, .agg #[.slice none 0 0, .string ⟨#[]⟩, .int .i64 0], .int .i64 3]) (by simp [results, Tryz.results55, go_sem, q0, q1, q2]) rfl ?_
    exact ⟨none, 0, rfl, SlN.nil _ 0 (by omega) none, (fun b o h => by cases h), HBQ.out⟩
  | true =>
    rw [hg] at HGD
    cases hv : nvalid N with
    | false =>
      rw [hv] at HVD
      rw [HRC.out, hg, hv, Bool.and_false, if_neg (by decide)]
      clear hg hp hv
      go_enter Tryz.func55, Tryz.ntmps55
      go_wp2_with fail
      try rw [hW1]
      clear hW1
      refine (HGD.out).mono ?_
      rintro ev w2 ⟨rfl, hb2⟩
      have HT2 := Lib.hid (HT1.out.nextT hb2)
      have HR2 := Lib.hid (HR1.out.nextT hb2)
      have HB2 := Lib.hid (HB1.out.trans (hb2.mono HB1.out.size))
      have HS2 := Lib.hid (HS1.out.kept hb2 (Nat.le_refl _))
      clear c0 c1 c2 hb2 r0 r1 r2 f0 f1 f2
      obtain ⟨c0, c1, c2⟩ := HT2.out.c
      go_wp2_with fail
      refine (HVD.out _).mono ?_
      rintro ev w3 ⟨rfl, rfl⟩
      have hq := HR2.out.set3 (A' := none) (n' := 0) (c' := 0) (s' := ⟨#[]⟩) (a' := 0)
      obtain ⟨q0, q1, q2⟩ := hq.c
      have HBQ := Lib.hid (below_set3 HB2.out (C := w.heap.size + 1) (by omega) (.slice none 0 0) (.string ⟨#[]⟩) (.int .i64 0))
      obtain ⟨r0, r1, r2⟩ := HR2.out.c
      have f0 := HR2.out.f 0
      have f1 := HR2.out.f 1
      have f2 := HR2.out.f 2
      clear hq
      go_wp2
      refine bodyPost_ret (v := .tuple #[.string ⟨#[]⟩, .agg #[.slice none 0 0, .string ⟨#[]⟩, .int .i64 0], .int .i64 3]) (by simp [results, Tryz.results55, go_sem, q0, q1, q2]) rfl ?_
      exact ⟨none, 0, rfl, SlN.nil _ 0 (by omega) none, (fun b o h => by cases h), HBQ.out⟩
    | true =>
      rw [hv] at HVD
      rw [HRC.out, hg, hv, Bool.and_self, if_pos rfl]
      cases he : N.toList.isEmpty with
      | true =>
        rw [if_pos rfl]
        clear hg hp hv
        go_enter Tryz.func55, Tryz.ntmps55
        go_wp2_with fail
        try rw [hW1]
        clear hW1
        refine (HGD.out).mono ?_
        rintro ev w2 ⟨rfl, hb2⟩
        have HT2 := Lib.hid (HT1.out.nextT hb2)
        have HR2 := Lib.hid (HR1.out.nextT hb2)
        have HB2 := Lib.hid (HB1.out.trans (hb2.mono HB1.out.size))
        have HS2 := Lib.hid (HS1.out.kept hb2 (Nat.le_refl _))
        clear c0 c1 c2 hb2 r0 r1 r2 f0 f1 f2
        obtain ⟨c0, c1, c2⟩ := HT2.out.c
        go_wp2_with fail
        refine (HVD.out _).mono ?_
        rintro ev w3 ⟨rfl, rfl⟩
        have hq := HR2.out.set3 (A' := none) (n' := 0) (c' := 0) (s' := ⟨#[]⟩) (a' := 0)
        obtain ⟨q0, q1, q2⟩ := hq.c
        have HBQ := Lib.hid (below_set3 HB2.out (C := w.heap.size + 1) (by omega) (.slice none 0 0) (.string ⟨#[]⟩) (.int .i64 0))
        obtain ⟨r0, r1, r2⟩ := HR2.out.c
        have f0 := HR2.out.f 0
        have f1 := HR2.out.f 1
        have f2 := HR2.out.f 2
        clear hq
        go_wp2
        refine bodyPost_ret (v := .tuple #[.string ⟨#[]⟩, .agg #[.slice none 0 0, .string ⟨#[]⟩, .int .i64 0], .int .i64 11]) (by simp [results, Tryz.results55, go_sem, q0, q1, q2]) rfl ?_
        exact ⟨none, 0, rfl, SlN.nil _ 0 (by omega) none, (fun b o h => by cases h), HBQ.out⟩
      | false =>
        rw [if_neg (by decide)]
        obtain ⟨h0, h1, hall⟩ := tpG_parts hg
        obtain ⟨q, rfl⟩ : ∃ q : Nat, k = (q : Int) := ⟨k.toNat, by omega⟩
        have hlt : num N < 256 ^ 32 := Nat.lt_of_lt_of_le (num_lt_size N) (Nat.pow_le_pow_right (by omega) hN)
        have hpos : 0 < num N := by
          rcases Nat.eq_zero_or_pos (num N) with h | h
          · rw [nS_num hv, h, show (nS 0).toList.isEmpty = true from sempty_true rfl] at he
            cases he
          · exact h
        have HDR := Lib.hid (fun W hs => r06_draw l s q (num N) A n cap hall (by omega) hn hs64 hpos hlt W hs)
        rw [← nS_num hv] at HDR
        unfold tpV at HDR
        obtain ⟨r, hr⟩ : ∃ r, dwN l s q (num N) = r := ⟨_, rfl⟩
        obtain ⟨x1, e1⟩ := r
        rw [hr] at HDR ⊢
        obtain ⟨t, ht⟩ : ∃ t, tpN e1 l s q = t := ⟨_, rfl⟩
        obtain ⟨tl, ts, tk⟩ := t
        simp only [] at HDR ⊢
        rw [ht] at HDR ⊢
        clear hg hp hv hr ht hlt hpos hall h0 h1 HRC
        go_enter Tryz.func55, Tryz.ntmps55
        go_wp2_with fail
        try rw [hW1]
        clear hW1
        refine (HGD.out).mono ?_
        rintro ev w2 ⟨rfl, hb2⟩
        have HT2 := Lib.hid (HT1.out.nextT hb2)
        have HR2 := Lib.hid (HR1.out.nextT hb2)
        have HB2 := Lib.hid (HB1.out.trans (hb2.mono HB1.out.size))
        have HS2 := Lib.hid (HS1.out.kept hb2 (Nat.le_refl _))
        clear c0 c1 c2 hb2 r0 r1 r2 f0 f1 f2
        obtain ⟨c0, c1, c2⟩ := HT2.out.c
        go_wp2_with fail
        refine (HVD.out _).mono ?_
        rintro ev w3 ⟨rfl, rfl⟩
        have HD2 := Lib.hid (HDR.out w2 HS2.out)
        go_wp2_with fail
        refine (HD2.out).mono ?_
        rintro ev w3 ⟨B, c, rfl, hsl, hfr, hb3⟩
        have HR3 := Lib.hid (HR2.out.nextT hb3)
        have HB3 := Lib.hid (HB2.out.trans (hb3.mono HB2.out.size))
        have HSL := Lib.hid hsl
        have HFR := Lib.hid (show ∀ b o, B = some ⟨b, o, none⟩ → w.heap.size + 1 < b from fun b o h => Nat.lt_of_lt_of_le HR2.out.lt (hfr b o h))
        obtain ⟨m, hm⟩ : ∃ m, tl.length = m := ⟨_, rfl⟩
        have HM := Lib.hid hm
        clear c0 c1 c2 hsl hb3 hfr
        simp only []
        rw [hm]
        clear hm
        obtain ⟨r0, r1, r2⟩ := HR3.out.c
        have f0 := HR3.out.f 0
        have f1 := HR3.out.f 1
        have f2 := HR3.out.f 2
        have hq := HR3.out.set3 (A' := B) (n' := m) (c' := c) (s' := ts) (a' := tk)
        obtain ⟨q0, q1, q2⟩ := hq.c
        have HBQ := Lib.hid (below_set3 HB3.out (C := w.heap.size + 1) (by omega) (.slice B m c) (.string ts) (.int .i64 tk))
        clear hq
        obtain ⟨z, hz⟩ : ∃ z, nS x1 = z := ⟨_, rfl⟩
        rw [hz]
        go_wp2
        refine bodyPost_ret (v := .tuple #[.string z, .agg #[.slice B m c, .string ts, .int .i64 tk], .int .i64 e1]) (by simp [results, Tryz.results55, go_sem, q0, q1, q2]) rfl ?_
        refine ⟨B, c, ?_, ?_, (fun b o h => by have := HFR.out b o h; omega), HBQ.out⟩
        · show _ = Ending.returned (.tuple #[.string (nS x1), .agg #[.slice B tl.length c, .string ts, .int .i64 tk], .int .i64 e1])
          rw [HM.out, hz]
        · show SlN _ _ tl.length c tl
          exact ((HSL.out.setB HFR.out).setB HFR.out).setB HFR.out
end Go.Proofs.YtndmjfkmnjejkaaGreatDoor
/- Walks: dominoref03.Add, dominoref33.Sign. -/
set_option linter.unusedVariables false
set_option linter.unusedSimpArgs false
namespace Go.Proofs.YtndmjfkmnjejkaaGreatDoor
open Go.RowKit Go.Lib
set_option maxRecDepth 100000 in
theorem r03_AddS (x y m : Nat) (hx8 : x < 256 ^ 128) (hy8 : y < 256 ^ 128) (hm8 : m < 18446744073709551616) (h0 : 0 < m) (w : World) : Calls Tryz.prog 91 #[.string (nS x), .string (nS y), .string (nS m)] w (Ret (.tuple #[.string (nS ((x + y) % m)), .int .i64 0]) w) := by
  have HC := Lib.hid (fun w => r03_check3 w (nS x) (nS y) (nS m) _ rfl (nvalid_nS.2 hx8) (nvalid_nS.2 hy8) (nS_valid_small hm8) (empty_nS h0))
  have lm := lt128_of_lt8 hm8
  have ly := Nat.mod_lt y h0
  have lx := Nat.mod_lt x h0
  have HM1 := Lib.hid (r03_Mod x m hx8 lm h0)
  have HM2 := Lib.hid (r03_Mod y m hy8 lm h0)
  have l2 : x % m + y % m < 256 ^ 128 := Nat.lt_trans (show x % m + y % m < 2 * 18446744073709551616 by omega) (by decide)
  have HA := Lib.hid (r01_Add (x % m) (y % m) (lt128_of_lt8 (by omega)) (lt128_of_lt8 (by omega)))
  rw [fitR_small l2] at HA
  have HM3 := Lib.hid (r03_Mod (x % m + y % m) m l2 lm h0)
  rw [← Nat.add_mod] at HM3
  obtain ⟨s, hs⟩ : ∃ s, nS x = s := ⟨_, rfl⟩
  obtain ⟨t, ht⟩ : ∃ t, nS y = t := ⟨_, rfl⟩
  obtain ⟨u, hu⟩ : ∃ u, nS m = u := ⟨_, rfl⟩
  obtain ⟨v1, h1⟩ : ∃ u, nS (x % m) = u := ⟨_, rfl⟩
  obtain ⟨v2, h2⟩ : ∃ u, nS (y % m) = u := ⟨_, rfl⟩
  obtain ⟨v3, h3⟩ : ∃ u, nS (x % m + y % m) = u := ⟨_, rfl⟩
  obtain ⟨v5, h5⟩ : ∃ u, nS ((x + y) % m) = u := ⟨_, rfl⟩
  rw [hs, ht, hu] at HC
  rw [hs, hu, h1] at HM1
  rw [ht, hu, h2] at HM2
  rw [h1, h2, h3] at HA
  rw [h3, hu, h5] at HM3
  rw [hs, ht, hu, h5]
  clear hs ht hu h1 h2 h3 h5 hx8 hy8 hm8 h0 lm ly lx l2
  go_enter Tryz.func91, Tryz.ntmps91
  go_wp2_with fail
  refine (HC.out w).mono ?_
  rintro e w1 ⟨rfl, rfl⟩
  go_wp2_with fail
  refine (HM1.out _).mono ?_
  rintro e w2 ⟨rfl, hb2⟩
  have HB2 := Lib.hid (((Below.refl w.heap.size w).alloc (Nat.le_refl _) _).trans (hb2.mono (by simp)))
  clear hb2
  go_wp2_with fail
  refine (HM2.out _).mono ?_
  rintro e w4 ⟨rfl, hb⟩
  have HB4 := Lib.hid (HB2.out.trans (hb.mono HB2.out.size))
  clear hb
  go_wp2_with fail
  refine (HA.out _).mono ?_
  rintro e w3 ⟨rfl, hb⟩
  have HB3 := Lib.hid (HB4.out.trans (hb.mono HB4.out.size))
  clear hb
  go_wp2_with fail
  refine (HM3.out _).mono ?_
  rintro e w6 ⟨rfl, hb⟩
  have HB6 := Lib.hid (HB3.out.trans (hb.mono HB3.out.size))
  clear hb
  go_wp2
  go_ret2
  exact ⟨rfl, HB6.out⟩
set_option maxRecDepth 100000 in
set_option maxHeartbeats 8000000 in
theorem r33_Sign (M O G Y X msg : ByteArray) (l : List ByteArray) (s : ByteArray) (k : Int) (A : Option Addr) (n cap : Nat) (hM : M.size ≤ 8) (hO : O.size ≤ 100) (hG : G.size ≤ 1000) (hY : Y.size ≤ 1000) (hX : X.size ≤ 1000) (hm : msg.size ≤ 1000000) (hn : n ≤ 1000) (hp : ∀ x ∈ l, x.size ≤ 9223372036854775807) (hs64 : s.size ≤ 1000000) (w : World) (hs : SlN w A n cap l) :
    Calls Tryz.prog 36 #[kV M O G Y, .string X, .string msg, tpV A n cap s k] w (RetS (sgN M O G Y X msg l s k) (tpN (sgN M O G Y X msg l s k).2.2 l s k) w) := by
  have hx0 := SN.new w M O G Y A n cap s k l hs
  obtain ⟨W0, hW0⟩ : ∃ W, (((w.alloc (.cells #[.string M, .string O, .string G, .string Y] 46)).alloc (.cells #[.slice A n cap, .string s, .int .i64 k] 31)).alloc (.cells #[.string ⟨#[]⟩, .string ⟨#[]⟩] 52)).alloc (.cells #[.slice none 0 0, .string ⟨#[]⟩, .int .i64 0] 31) = W := ⟨_, rfl⟩
  rw [hW0] at hx0
  have HX0 := Lib.hid hx0
  have HCK := Lib.hid (r33_Check M O G Y hM hO hG hY)
  have HFM := Lib.hid (r01_Valid X (by omega))
  have HGT := Lib.hid (fun W hs => r06_Good l s k A n cap W hs hn hp)
  obtain ⟨g0, g1, g2, g3⟩ := HX0.out.key
  obtain ⟨c0, c1, c2⟩ := HX0.out.2.1.c
  unfold tpV kV at *
  clear hx0 hs
  by_cases hk : scK M O G Y = 0
  · rw [hk] at HCK
    cases vX : nvalid X with
    | false =>
      rw [vX] at HFM
      rw [show sgN M O G Y X msg l s k = (0, 0, 3) from by unfold sgN; rw [if_pos hk, vX, Bool.false_and, if_neg (by decide)]]
      clear hk vX hp 
      go_enter Tryz.func36, Tryz.ntmps36
      go_wp2_with fail
      try rw [hW0]
      clear hW0
      refine (HCK.out _).mono ?_
      rintro ev w1 ⟨rfl, hb⟩
      have HX1 := Lib.hid (HX0.out.next hb)
      clear hb g0 g1 g2 g3 c0 c1 c2
      obtain ⟨g0, g1, g2, g3⟩ := HX1.out.key
      obtain ⟨c0, c1, c2⟩ := HX1.out.2.1.c
      have HX2 := Lib.hid HX1.out
      go_wp2_with fail
      refine (HFM.out _).mono ?_
      rintro ev w2 ⟨rfl, rfl⟩
      clear g0 g1 g2 g3 c0 c1 c2
      obtain ⟨g0, g1, g2, g3⟩ := HX2.out.key
      obtain ⟨c0, c1, c2⟩ := HX2.out.2.1.c
      obtain ⟨k0, k1⟩ := (show _ ∧ _ from ⟨HX2.out.2.2.1.c0, HX2.out.2.2.1.c1⟩)
      have kf0 := HX2.out.2.2.1.f0
      have kf1 := HX2.out.2.2.1.f1
      obtain ⟨r0, r1, r2⟩ := HX2.out.2.2.2.1.c
      have rf := HX2.out.2.2.2.1.f
      have rf0 := rf 0
      have rf1 := rf 1
      have rf2 := rf 2
      obtain ⟨hq2, hq3, hqb⟩ := HX2.out.stored (.string ⟨#[]⟩) (.string ⟨#[]⟩) none 0 0 ⟨#[]⟩ 0
      have q0 := hq2.c0
      have q1 := hq2.c1
      obtain ⟨p0, p1, p2⟩ := hq3.c
      have HQB := Lib.hid hqb
      clear rf hq2 hq3 hqb
      go_wp2
      refine bodyPost_ret (v := .tuple #[.agg #[.string ⟨#[]⟩, .string ⟨#[]⟩], .agg #[.slice none 0 0, .string ⟨#[]⟩, .int .i64 0], .int .i64 3]) (by simp [results, Tryz.results36, go_sem, q0, q1, p0, p1, p2]) rfl ?_
      exact ⟨none, 0, rfl, SlN.nil _ 0 (by omega) none, (fun b o h => by cases h), HQB.out⟩
    | true =>
      rw [vX] at HFM
      cases hg : tpG l k with
      | false =>
        rw [hg] at HGT
        rw [show sgN M O G Y X msg l s k = (0, 0, 3) from by unfold sgN; rw [if_pos hk, vX, hg, Bool.and_false, if_neg (by decide)]]
        clear hk vX hp hg
        go_enter Tryz.func36, Tryz.ntmps36
        go_wp2_with fail
        try rw [hW0]
        clear hW0
        refine (HCK.out _).mono ?_
        rintro ev w1 ⟨rfl, hb⟩
        have HX1 := Lib.hid (HX0.out.next hb)
        clear hb g0 g1 g2 g3 c0 c1 c2
        obtain ⟨g0, g1, g2, g3⟩ := HX1.out.key
        obtain ⟨c0, c1, c2⟩ := HX1.out.2.1.c
        have HX2 := Lib.hid HX1.out
        go_wp2_with fail
        refine (HFM.out _).mono ?_
        rintro ev w2 ⟨rfl, rfl⟩
        clear g0 g1 g2 g3 c0 c1 c2
        obtain ⟨g0, g1, g2, g3⟩ := HX2.out.key
        obtain ⟨c0, c1, c2⟩ := HX2.out.2.1.c
        have HGU := Lib.hid (HGT.out _ HX2.out.2.2.2.2.1)
        go_wp2_with fail
        refine HGU.out.mono ?_
        rintro ev w3 ⟨rfl, hb⟩
        have HX3 := Lib.hid (HX2.out.next hb)
        clear hb g0 g1 g2 g3 c0 c1 c2
        obtain ⟨g0, g1, g2, g3⟩ := HX3.out.key
        obtain ⟨c0, c1, c2⟩ := HX3.out.2.1.c
        obtain ⟨k0, k1⟩ := (show _ ∧ _ from ⟨HX3.out.2.2.1.c0, HX3.out.2.2.1.c1⟩)
        have kf0 := HX3.out.2.2.1.f0
        have kf1 := HX3.out.2.2.1.f1
        obtain ⟨r0, r1, r2⟩ := HX3.out.2.2.2.1.c
        have rf := HX3.out.2.2.2.1.f
        have rf0 := rf 0
        have rf1 := rf 1
        have rf2 := rf 2
        obtain ⟨hq2, hq3, hqb⟩ := HX3.out.stored (.string ⟨#[]⟩) (.string ⟨#[]⟩) none 0 0 ⟨#[]⟩ 0
        have q0 := hq2.c0
        have q1 := hq2.c1
        obtain ⟨p0, p1, p2⟩ := hq3.c
        have HQB := Lib.hid hqb
        clear rf hq2 hq3 hqb
        go_wp2
        refine bodyPost_ret (v := .tuple #[.agg #[.string ⟨#[]⟩, .string ⟨#[]⟩], .agg #[.slice none 0 0, .string ⟨#[]⟩, .int .i64 0], .int .i64 3]) (by simp [results, Tryz.results36, go_sem, q0, q1, p0, p1, p2]) rfl ?_
        exact ⟨none, 0, rfl, SlN.nil _ 0 (by omega) none, (fun b o h => by cases h), HQB.out⟩
      | true =>
        rw [hg] at HGT
        have HIS := Lib.hid (r33_secret M O G Y X hM hk vX)
        unfold kV at HIS
        obtain ⟨hv4, hck, hz, hgg, hy⟩ := scK_ok hk
        obtain ⟨v1, v2, v3, v4⟩ := all_four hv4
        have h8 := chk_small hv4 hM hck
        by_cases hi : 0 < num X ∧ num X < num O ∧ num G ^ num X % num M = num Y
        · rw [decide_eq_true hi] at HIS
          have HDD := Lib.hid (fun W hs => r06_Below l s k O A n cap hn hp hs64 (by omega) W hs)
          obtain ⟨rr, hr⟩ : ∃ r, coN l s k O = r := ⟨_, rfl⟩
          have hlt : rr.2 = 0 → rr.1 < num O := fun h => by rw [← hr] at h ⊢; exact coN_lt h
          have HRV := Lib.hid (show sgN M O G Y X msg l s k = (if rr.2 = 0 then (chS M O G Y (num G ^ rr.1 % num M) msg, (chS M O G Y (num G ^ rr.1 % num M) msg * num X % num O + rr.1) % num O, 0) else (0, 0, rr.2)) from by
            unfold sgN; rw [if_pos hk, vX, hg, if_pos (by rfl), decide_eq_true hi, if_pos rfl, hr])
          rw [hr] at HDD
          obtain ⟨nn, e⟩ := rr
          simp only [] at HRV hlt HDD
          obtain ⟨cz, hcz⟩ : ∃ z, nS nn = z := ⟨_, rfl⟩
          have HCZ := Lib.hid hcz
          obtain ⟨t, htp⟩ : ∃ t, tpN e l s k = t := ⟨_, rfl⟩
          obtain ⟨tl, ts, tk⟩ := t
          rw [htp] at HDD
          obtain ⟨m, hmm⟩ : ∃ m, tl.length = m := ⟨_, rfl⟩
          have HMM := Lib.hid hmm
          unfold tpV at HDD
          by_cases he : e = 0
          · subst he
            have lc := hlt rfl
            have lO := num_small h8
            have hm0 : 0 < num M := by
              obtain ⟨i, hu⟩ := has_un (chkK_parts hck).2.2 (genK_parts hgg).1
              have := hu.1
              omega
            have h9 := num_small hM
            have lc1 : nn < 256 ^ 128 := lt128_of_lt8 (by omega)
            have HEX := Lib.hid (r33_raise M O G (nS nn) hM v1 hm0 v3 (nvalid_nS.2 lc1))
            rw [num_nS] at HEX
            have lr : num G ^ nn % num M < 256 ^ 128 := lt128_of_lt8 (by have := Nat.mod_lt (num G ^ nn) hm0; omega)
            have HCH := Lib.hid (r33_challenge M O G Y (nS (num G ^ nn % num M)) msg hM h8 (by omega) (by omega) (by have := nS_size_le.2 lr; omega) hm v2 (by omega))
            rw [show chL (snL M.data.toList O.data.toList G.data.toList Y.data.toList (nS (num G ^ nn % num M)).data.toList msg.data.toList) O.size (num O) = chS M O G Y (num G ^ nn % num M) msg from rfl] at HCH
            have lch : chS M O G Y (num G ^ nn % num M) msg < num O := Nat.mod_lt _ (by omega)
            simp only [if_true] at HRV
            obtain ⟨ch, hch⟩ : ∃ x, chS M O G Y (num G ^ nn % num M) msg = x := ⟨_, rfl⟩
            rw [hch] at HCH HRV lch
            have HML := Lib.hid (r03_Mul ch (num X) (num O) (lt128_of_lt8 (by omega)) (lt128_of_lt8 (by omega)) lO (by omega))
            rw [← nS_num vX, ← nS_num v2] at HML
            have HAD := Lib.hid (r03_AddS nn (ch * num X % num O) (num O) lc1 (lt128_of_lt8 (by have := Nat.mod_lt (ch * num X) (show 0 < num O from by omega); omega)) lO (by omega))
            rw [Nat.add_comm, ← nS_num v2] at HAD
            obtain ⟨z1, hz1⟩ : ∃ z, nS (num G ^ nn % num M) = z := ⟨_, rfl⟩
            obtain ⟨z2, hz2⟩ : ∃ z, nS ch = z := ⟨_, rfl⟩
            obtain ⟨z3, hz3⟩ : ∃ z, nS (ch * num X % num O) = z := ⟨_, rfl⟩
            obtain ⟨z4, hz4⟩ : ∃ z, nS ((ch * num X % num O + nn) % num O) = z := ⟨_, rfl⟩
            rw [hz1] at HEX HCH
            rw [hz2] at HCH HML
            rw [hz3] at HML HAD
            rw [hz4, hcz] at HAD
            rw [hcz] at HEX
            have HZ2 := Lib.hid hz2
            have HZ4 := Lib.hid hz4
            have HTT := Lib.hid htp
            rw [HRV.out]
            unfold gV kV at *
            clear hk vX hp hg hv4 hck hz hgg hy v1 v2 v3 v4 h8 hi hr hlt hcz htp hmm lc lO hm0 h9 lc1 lr lch hch hz1 hz2 hz3 hz4 hM hO hG hY hX hm hn hs64
            go_enter Tryz.func36, Tryz.ntmps36
            go_wp2_with fail
            try rw [hW0]
            clear hW0
            refine (HCK.out _).mono ?_
            rintro ev w1 ⟨rfl, hb⟩
            have HX1 := Lib.hid (HX0.out.next hb)
            clear hb g0 g1 g2 g3 c0 c1 c2
            obtain ⟨g0, g1, g2, g3⟩ := HX1.out.key
            obtain ⟨c0, c1, c2⟩ := HX1.out.2.1.c
            have HX2 := Lib.hid HX1.out
            go_wp2_with fail
            refine (HFM.out _).mono ?_
            rintro ev w2 ⟨rfl, rfl⟩
            clear g0 g1 g2 g3 c0 c1 c2
            obtain ⟨g0, g1, g2, g3⟩ := HX2.out.key
            obtain ⟨c0, c1, c2⟩ := HX2.out.2.1.c
            have HGU := Lib.hid (HGT.out _ HX2.out.2.2.2.2.1)
            go_wp2_with fail
            refine HGU.out.mono ?_
            rintro ev w3 ⟨rfl, hb⟩
            have HX3 := Lib.hid (HX2.out.next hb)
            clear hb g0 g1 g2 g3 c0 c1 c2
            obtain ⟨g0, g1, g2, g3⟩ := HX3.out.key
            obtain ⟨c0, c1, c2⟩ := HX3.out.2.1.c
            go_wp2_with fail
            refine (HIS.out _).mono ?_
            rintro ev w4 ⟨rfl, hb⟩
            have HX4 := Lib.hid (HX3.out.next hb)
            clear hb g0 g1 g2 g3 c0 c1 c2
            obtain ⟨g0, g1, g2, g3⟩ := HX4.out.key
            obtain ⟨c0, c1, c2⟩ := HX4.out.2.1.c
            have HDW := Lib.hid (HDD.out w4 HX4.out.2.2.2.2.1)
            go_wp2_with fail
            refine HDW.out.mono ?_
            rintro ev w6 ⟨B, cc, rfl, hsl, hfr, hb⟩
            simp only [] at hsl ⊢
            rw [HMM.out] at hsl ⊢
            have HSL := Lib.hid hsl
            have HFR := Lib.hid (show ∀ b o, B = some ⟨b, o, none⟩ → w.heap.size + 1 + 1 + 1 < b from fun b o h => Nat.lt_of_lt_of_le HX4.out.2.2.2.1.lt (hfr b o h))
            clear hsl hfr
            have HX6 := Lib.hid (HX4.out.next hb)
            clear hb g0 g1 g2 g3 c0 c1 c2
            obtain ⟨g0, g1, g2, g3⟩ := HX6.out.key
            obtain ⟨c0, c1, c2⟩ := HX6.out.2.1.c
            rw [HCZ.out]
            have HLT6 := Lib.hid (show w.heap.size + 1 + 1 + 1 < w6.heap.size from HX6.out.2.2.2.1.lt)
            clear g0 g1 g2 g3 c0 c1 c2
            go_upto_region 10 with (fail)
            obtain ⟨g0, g1, g2, g3⟩ := HX6.out.key
            obtain ⟨c0, c1, c2⟩ := HX6.out.2.1.c
            have hb : Below w6.heap.size w6 (w6.alloc (.cells #[.slice B m cc, .string ts, .int .i64 tk] 31)) := (Below.refl _ _).alloc (Nat.le_refl _) _
            have hp7 := TB.new w6 B m cc ts tk
            obtain ⟨W7, hW7⟩ : ∃ W, w6.alloc (.cells #[.slice B m cc, .string ts, .int .i64 tk] 31) = W := ⟨_, rfl⟩
            obtain ⟨P7, hP7⟩ : ∃ P, w6.heap.size = P := ⟨_, rfl⟩
            rw [hW7] at hb hp7 ⊢
            rw [hP7] at hp7 HLT6 ⊢
            have HP7 := Lib.hid hp7
            have HSL7 := Lib.hid (HSL.out.kept hb (Nat.le_refl _))
            clear hp7 hW7 hP7
            have HX7 := Lib.hid (HX6.out.next hb)
            clear hb g0 g1 g2 g3 c0 c1 c2
            obtain ⟨g0, g1, g2, g3⟩ := HX7.out.key
            obtain ⟨c0, c1, c2⟩ := HX7.out.2.1.c
            go_wp2
            obtain ⟨we, hwe⟩ : ∃ we, W7.drew = we := ⟨_, rfl⟩
            have hbe : Below W7.heap.size W7 we := by rw [← hwe]; exact (Below.refl _ _).drew
            have HXE := Lib.hid (HX7.out.next hbe)
            have HPE := Lib.hid (HP7.out.nextT hbe)
            have HSLE := Lib.hid (HSL7.out.kept hbe (Nat.le_refl _))
            clear hbe g0 g1 g2 g3 c0 c1 c2
            obtain ⟨g0, g1, g2, g3⟩ := HXE.out.key
            refine wp_region_K 10 (Below (we).heap.size (we)) (by kernel_rfl) ?_
            intro hD
            rw [hwe]
            have KK1 := Lib.hid (fun w' (hS' : (Below (we).heap.size (we)) w') => And.intro (kC hS' g0) (And.intro (kC hS' g1) (And.intro (kC hS' g2) (kC hS' g3))))
            refine rT 0 59 9 rfl hD (Below.refl _ _) (by intro w' hS'; obtain ⟨e0, e1, e2, e3⟩ := KK1.out w' hS'; go_simp; with_reducible rfl) ?_; clear hD; intro hD; simp only [Act.put, sqA, sqB, sqC]
            refine rP 1 60 8 rfl hD (Below.refl _ _) ?_; clear hD; intro hD; simp only [Act.put, sqA, sqB, sqC]
            refine rT 2 61 7 rfl hD (Below.refl _ _) (by intro w' hS'; obtain ⟨e0, e1, e2, e3⟩ := KK1.out w' hS'; go_simp; with_reducible rfl) ?_; clear hD; intro hD; simp only [Act.put, sqA, sqB, sqC]
            refine rP 3 62 6 rfl hD (Below.refl _ _) ?_; clear hD; intro hD; simp only [Act.put, sqA, sqB, sqC]
            refine rT 4 63 5 rfl hD (Below.refl _ _) (by intro w' hS'; obtain ⟨e0, e1, e2, e3⟩ := KK1.out w' hS'; go_simp; with_reducible rfl) ?_; clear hD; intro hD; simp only [Act.put, sqA, sqB, sqC]
            refine rP 5 64 4 rfl hD (Below.refl _ _) ?_; clear hD; intro hD; simp only [Act.put, sqA, sqB, sqC]
            refine rP 7 66 3 rfl hD (Below.refl _ _) ?_; clear hD; intro hD; simp only [Act.put, sqA, sqB, sqC]
            refine rO 6 2 rfl hD ?_; clear hD; intro K6 hK6
            go_wp2_with fail
            refine (HEX.out _).mono ?_
            rintro ev w8 ⟨rfl, hb⟩
            have HB6 := Lib.hid hb
            clear hb
            go_wp2
            refine hK6 _ _ (by exact HB6.out) ?_; clear hK6; intro hS_12_6 hD
            refine rO 8 1 rfl hD ?_; clear hD; intro K8 hK8
            go_wp2_with fail
            refine (HCH.out _).mono ?_
            rintro ev w9 ⟨rfl, hb⟩
            have HB8 := Lib.hid hb
            clear hb
            go_wp2
            refine hK8 _ _ (by exact Below.trans hS_12_6 (Below.mono HB8.out (Below.size hS_12_6))) ?_; clear hK8; intro hS_12_8 hD
            refine rO 9 0 rfl hD ?_; clear hD; intro K9 hK9
            go_wp2
            refine hK9 _ _ (by exact hS_12_8) ?_; clear hK9; intro hS_12_9 hD
            have HL := Lib.hid hS_12_9
            refine wpAnyK_done (by kernel_rfl) ?_ 0
            clear hD g0 g1 g2 g3
            have HX9 := Lib.hid (HXE.out.next HL.out)
            have HP9 := Lib.hid (HPE.out.nextT HL.out)
            have HSL9 := Lib.hid (HSLE.out.kept HL.out (Nat.le_refl _))
            obtain ⟨g0, g1, g2, g3⟩ := HX9.out.key
            obtain ⟨c0, c1, c2⟩ := HX9.out.2.1.c
            go_wp2_with fail
            refine (HML.out _).mono ?_
            rintro ev w10 ⟨rfl, hb⟩
            have HP10 := Lib.hid (HP9.out.nextT hb)
            have HSL10 := Lib.hid (HSL9.out.kept hb (Nat.le_refl _))
            have HX10 := Lib.hid (HX9.out.next hb)
            clear hb g0 g1 g2 g3 c0 c1 c2
            obtain ⟨g0, g1, g2, g3⟩ := HX10.out.key
            obtain ⟨c0, c1, c2⟩ := HX10.out.2.1.c
            go_wp2_with fail
            refine (HAD.out _).mono ?_
            rintro ev w11 ⟨rfl, hb⟩
            have HP11 := Lib.hid (HP10.out.nextT hb)
            have HSL11 := Lib.hid (HSL10.out.kept hb (Nat.le_refl _))
            have HX11 := Lib.hid (HX10.out.next hb)
            clear hb g0 g1 g2 g3 c0 c1 c2
            obtain ⟨g0, g1, g2, g3⟩ := HX11.out.key
            obtain ⟨c0, c1, c2⟩ := HX11.out.2.1.c
            go_wp2
            obtain ⟨wd, hwd⟩ : ∃ wd, w11.drew = wd := ⟨_, rfl⟩
            have hbd : Below w11.heap.size w11 wd := by rw [← hwd]; exact (Below.refl _ _).drew
            have HXD := Lib.hid (HX11.out.next hbd)
            have HS0 := Lib.hid (show Below w.heap.size w wd ∧ TB wd P7 B m cc ts tk from ⟨(HX11.out.next hbd).2.2.2.2.2, HP11.out.nextT hbd⟩)
            have HSLD := Lib.hid (HSL11.out.kept hbd (Nat.le_refl _))
            clear hbd g0 g1 g2 g3 c0 c1 c2
            obtain ⟨k0, k1⟩ := (show _ ∧ _ from ⟨HXD.out.2.2.1.c0, HXD.out.2.2.1.c1⟩)
            have kf0 := HXD.out.2.2.1.f0
            have kf1 := HXD.out.2.2.1.f1
            obtain ⟨r0, r1, r2⟩ := HXD.out.2.2.2.1.c
            have rf := HXD.out.2.2.2.1.f
            have rf0 := rf 0
            have rf1 := rf 1
            have rf2 := rf 2
            clear rf
            refine wp_region_K 7 (fun W' => Below w.heap.size w W' ∧ TB W' P7 B m cc ts tk) (by kernel_rfl) ?_
            intro hD
            rw [hwd]
            refine rP 0 82 6 rfl hD HS0.out ?_; clear hD; intro hD; simp only [Act.put, sqA, sqB, sqC]
            refine rP 1 83 5 rfl hD HS0.out ?_; clear hD; intro hD; simp only [Act.put, sqA, sqB, sqC]
            refine rP 2 84 4 rfl hD HS0.out ?_; clear hD; intro hD; simp only [Act.put, sqA, sqB, sqC]
            refine rT 3 85 3 rfl hD HS0.out (by intro w' hS'; have e0 := hS'.2.c.1; have e1 := hS'.2.c.2.1; have e2 := hS'.2.c.2.2; go_simp; with_reducible rfl) ?_; clear hD; intro hD; simp only [Act.put, sqA, sqB, sqC]
            refine rO 4 2 rfl hD ?_; clear hD; intro K4 hK4
            go_wp2
            refine hK4 _ _ (by exact ⟨below_set2 (HS0.out).1 (by omega) _ _, ((HS0.out).2.off (by have := HLT6.out; omega) _).off (by have := HLT6.out; omega) _⟩) ?_; clear hK4; intro hS_15_4 hD
            refine rO 5 1 rfl hD ?_; clear hD; intro K5 hK5
            go_wp2
            refine hK5 _ _ (by exact ⟨below_set3 (hS_15_4).1 (by omega) _ _ _, (((hS_15_4).2.off (by have := HLT6.out; omega) _).off (by have := HLT6.out; omega) _).off (by have := HLT6.out; omega) _⟩) ?_; clear hK5; intro hS_15_5 hD
            refine rO 6 0 rfl hD ?_; clear hD; intro K6 hK6
            go_wp2
            refine hK6 _ _ (by exact hS_15_5) ?_; clear hK6; intro hS_15_6 hD
            refine wpAnyK_done (by kernel_rfl) ?_ 0
            clear hD k0 k1 kf0 kf1 r0 r1 r2 rf0 rf1 rf2
            obtain ⟨hq2, hq3, hqb⟩ := HXD.out.stored (.string z2) (.string z4) B m cc ts tk
            have q0 := hq2.c0
            have q1 := hq2.c1
            obtain ⟨p0, p1, p2⟩ := hq3.c
            have HQB := Lib.hid hqb
            clear hq2 hq3 hqb
            go_wp2
            refine bodyPost_ret (v := .tuple #[.agg #[.string z2, .string z4], .agg #[.slice B m cc, .string ts, .int .i64 tk], .int .i64 0]) (by simp [results, Tryz.results36, go_sem, q0, q1, p0, p1, p2]) rfl ?_
            rw [HTT.out]
            refine ⟨B, cc, ?_, ?_, (fun b o h => by have := HFR.out b o h; omega), HQB.out⟩
            · show _ = Ending.returned (.tuple #[.agg #[.string (nS ch), .string (nS ((ch * num X % num O + nn) % num O))], .agg #[.slice B tl.length cc, .string ts, .int .i64 tk], .int .i64 0])
              rw [HMM.out, HZ2.out, HZ4.out]
            · show SlN _ B tl.length cc tl
              rw [HMM.out]
              have h1 : ∀ b o, B = some ⟨b, o, none⟩ → w.heap.size + 1 + 1 < b := fun b o h => by have := HFR.out b o h; omega
              exact ((((HSLD.out.setB h1).setB h1).setB HFR.out).setB HFR.out).setB HFR.out
          · rw [if_neg he] at HRV
            rw [HRV.out, show tpN (0, 0, e).2.2 l s k = ([], ⟨#[]⟩, 0) from tpN_err he l s k]
            have HNE := Lib.hid he
            clear hk vX hp hg hv4 hck hz hgg hy v1 v2 v3 v4 h8 hi hr hlt hcz htp hmm hM hO hG hY hX hm hn hs64 he
            go_enter Tryz.func36, Tryz.ntmps36
            go_wp2_with fail
            try rw [hW0]
            clear hW0
            refine (HCK.out _).mono ?_
            rintro ev w1 ⟨rfl, hb⟩
            have HX1 := Lib.hid (HX0.out.next hb)
            clear hb g0 g1 g2 g3 c0 c1 c2
            obtain ⟨g0, g1, g2, g3⟩ := HX1.out.key
            obtain ⟨c0, c1, c2⟩ := HX1.out.2.1.c
            have HX2 := Lib.hid HX1.out
            go_wp2_with fail
            refine (HFM.out _).mono ?_
            rintro ev w2 ⟨rfl, rfl⟩
            clear g0 g1 g2 g3 c0 c1 c2
            obtain ⟨g0, g1, g2, g3⟩ := HX2.out.key
            obtain ⟨c0, c1, c2⟩ := HX2.out.2.1.c
            have HGU := Lib.hid (HGT.out _ HX2.out.2.2.2.2.1)
            go_wp2_with fail
            refine HGU.out.mono ?_
            rintro ev w3 ⟨rfl, hb⟩
            have HX3 := Lib.hid (HX2.out.next hb)
            clear hb g0 g1 g2 g3 c0 c1 c2
            obtain ⟨g0, g1, g2, g3⟩ := HX3.out.key
            obtain ⟨c0, c1, c2⟩ := HX3.out.2.1.c
            go_wp2_with fail
            refine (HIS.out _).mono ?_
            rintro ev w4 ⟨rfl, hb⟩
            have HX4 := Lib.hid (HX3.out.next hb)
            clear hb g0 g1 g2 g3 c0 c1 c2
            obtain ⟨g0, g1, g2, g3⟩ := HX4.out.key
            obtain ⟨c0, c1, c2⟩ := HX4.out.2.1.c
            have HDW := Lib.hid (HDD.out w4 HX4.out.2.2.2.2.1)
            go_wp2_with fail
            refine HDW.out.mono ?_
            rintro ev w6 ⟨B, cc, rfl, hsl, hfr, hb⟩
            simp only [] at hsl ⊢
            rw [HMM.out] at hsl ⊢
            have HSL := Lib.hid hsl
            have HFR := Lib.hid (show ∀ b o, B = some ⟨b, o, none⟩ → w.heap.size + 1 + 1 + 1 < b from fun b o h => Nat.lt_of_lt_of_le HX4.out.2.2.2.1.lt (hfr b o h))
            clear hsl hfr
            have HX6 := Lib.hid (HX4.out.next hb)
            clear hb g0 g1 g2 g3 c0 c1 c2
            obtain ⟨g0, g1, g2, g3⟩ := HX6.out.key
            obtain ⟨c0, c1, c2⟩ := HX6.out.2.1.c
            rw [HCZ.out]
            have HLT6 := Lib.hid (show w.heap.size + 1 + 1 + 1 < w6.heap.size from HX6.out.2.2.2.1.lt)
            clear g0 g1 g2 g3 c0 c1 c2
            go_upto_region 10 with (fail)
            obtain ⟨g0, g1, g2, g3⟩ := HX6.out.key
            obtain ⟨c0, c1, c2⟩ := HX6.out.2.1.c
            have hb : Below w6.heap.size w6 (w6.alloc (.cells #[.slice B m cc, .string ts, .int .i64 tk] 31)) := (Below.refl _ _).alloc (Nat.le_refl _) _
            have hp7 := TB.new w6 B m cc ts tk
            obtain ⟨W7, hW7⟩ : ∃ W, w6.alloc (.cells #[.slice B m cc, .string ts, .int .i64 tk] 31) = W := ⟨_, rfl⟩
            obtain ⟨P7, hP7⟩ : ∃ P, w6.heap.size = P := ⟨_, rfl⟩
            rw [hW7] at hb hp7 ⊢
            rw [hP7] at hp7 HLT6 ⊢
            have HP7 := Lib.hid hp7
            have HSL7 := Lib.hid (HSL.out.kept hb (Nat.le_refl _))
            clear hp7 hW7 hP7
            have HX7 := Lib.hid (HX6.out.next hb)
            clear hb g0 g1 g2 g3 c0 c1 c2
            obtain ⟨g0, g1, g2, g3⟩ := HX7.out.key
            obtain ⟨c0, c1, c2⟩ := HX7.out.2.1.c
            have he := HNE.out
            go_upto_region 11 with (fail)
            clear he
            obtain ⟨k0, k1⟩ := (show _ ∧ _ from ⟨HX7.out.2.2.1.c0, HX7.out.2.2.1.c1⟩)
            have kf0 := HX7.out.2.2.1.f0
            have kf1 := HX7.out.2.2.1.f1
            obtain ⟨r0, r1, r2⟩ := HX7.out.2.2.2.1.c
            have rf := HX7.out.2.2.2.1.f
            have rf0 := rf 0
            have rf1 := rf 1
            have rf2 := rf 2
            obtain ⟨hq2, hq3, hqb⟩ := HX7.out.stored (.string ⟨#[]⟩) (.string ⟨#[]⟩) none 0 0 ⟨#[]⟩ 0
            have q0 := hq2.c0
            have q1 := hq2.c1
            obtain ⟨p0, p1, p2⟩ := hq3.c
            have HQB := Lib.hid hqb
            clear rf hq2 hq3 hqb
            go_wp2
            refine bodyPost_ret (v := .tuple #[.agg #[.string ⟨#[]⟩, .string ⟨#[]⟩], .agg #[.slice none 0 0, .string ⟨#[]⟩, .int .i64 0], .int .i64 e]) (by simp [results, Tryz.results36, go_sem, q0, q1, p0, p1, p2]) rfl ?_
            exact ⟨none, 0, rfl, SlN.nil _ 0 (by omega) none, (fun b o h => by cases h), HQB.out⟩
        · rw [decide_eq_false hi] at HIS
          rw [show sgN M O G Y X msg l s k = (0, 0, 1) from by unfold sgN; rw [if_pos hk, vX, hg, if_pos (by rfl), decide_eq_false hi, if_neg (by decide)]]
          clear hk vX hp hg hv4 hck hz hgg hy v1 v2 v3 v4 h8 hi
          go_enter Tryz.func36, Tryz.ntmps36
          go_wp2_with fail
          try rw [hW0]
          clear hW0
          refine (HCK.out _).mono ?_
          rintro ev w1 ⟨rfl, hb⟩
          have HX1 := Lib.hid (HX0.out.next hb)
          clear hb g0 g1 g2 g3 c0 c1 c2
          obtain ⟨g0, g1, g2, g3⟩ := HX1.out.key
          obtain ⟨c0, c1, c2⟩ := HX1.out.2.1.c
          have HX2 := Lib.hid HX1.out
          go_wp2_with fail
          refine (HFM.out _).mono ?_
          rintro ev w2 ⟨rfl, rfl⟩
          clear g0 g1 g2 g3 c0 c1 c2
          obtain ⟨g0, g1, g2, g3⟩ := HX2.out.key
          obtain ⟨c0, c1, c2⟩ := HX2.out.2.1.c
          have HGU := Lib.hid (HGT.out _ HX2.out.2.2.2.2.1)
          go_wp2_with fail
          refine HGU.out.mono ?_
          rintro ev w3 ⟨rfl, hb⟩
          have HX3 := Lib.hid (HX2.out.next hb)
          clear hb g0 g1 g2 g3 c0 c1 c2
          obtain ⟨g0, g1, g2, g3⟩ := HX3.out.key
          obtain ⟨c0, c1, c2⟩ := HX3.out.2.1.c
          go_wp2_with fail
          refine (HIS.out _).mono ?_
          rintro ev w4 ⟨rfl, hb⟩
          have HX4 := Lib.hid (HX3.out.next hb)
          clear hb g0 g1 g2 g3 c0 c1 c2
          obtain ⟨g0, g1, g2, g3⟩ := HX4.out.key
          obtain ⟨c0, c1, c2⟩ := HX4.out.2.1.c
          obtain ⟨k0, k1⟩ := (show _ ∧ _ from ⟨HX4.out.2.2.1.c0, HX4.out.2.2.1.c1⟩)
          have kf0 := HX4.out.2.2.1.f0
          have kf1 := HX4.out.2.2.1.f1
          obtain ⟨r0, r1, r2⟩ := HX4.out.2.2.2.1.c
          have rf := HX4.out.2.2.2.1.f
          have rf0 := rf 0
          have rf1 := rf 1
          have rf2 := rf 2
          obtain ⟨hq2, hq3, hqb⟩ := HX4.out.stored (.string ⟨#[]⟩) (.string ⟨#[]⟩) none 0 0 ⟨#[]⟩ 0
          have q0 := hq2.c0
          have q1 := hq2.c1
          obtain ⟨p0, p1, p2⟩ := hq3.c
          have HQB := Lib.hid hqb
          clear rf hq2 hq3 hqb
          go_wp2
          refine bodyPost_ret (v := .tuple #[.agg #[.string ⟨#[]⟩, .string ⟨#[]⟩], .agg #[.slice none 0 0, .string ⟨#[]⟩, .int .i64 0], .int .i64 1]) (by simp [results, Tryz.results36, go_sem, q0, q1, p0, p1, p2]) rfl ?_
          exact ⟨none, 0, rfl, SlN.nil _ 0 (by omega) none, (fun b o h => by cases h), HQB.out⟩
  · rw [show sgN M O G Y X msg l s k = (0, 0, scK M O G Y) from if_neg hk]
    obtain ⟨e, he⟩ : ∃ e, scK M O G Y = e := ⟨_, rfl⟩
    rw [he] at HCK hk ⊢
    rw [show tpN (0, 0, e).2.2 l s k = ([], ⟨#[]⟩, 0) from tpN_err hk l s k]
    clear he hp 
    go_enter Tryz.func36, Tryz.ntmps36
    go_wp2_with fail
    try rw [hW0]
    clear hW0
    refine (HCK.out _).mono ?_
    rintro ev w1 ⟨rfl, hb⟩
    have HX1 := Lib.hid (HX0.out.next hb)
    clear hb g0 g1 g2 g3 c0 c1 c2
    obtain ⟨g0, g1, g2, g3⟩ := HX1.out.key
    obtain ⟨c0, c1, c2⟩ := HX1.out.2.1.c
    go_upto_region 3 with (fail)
    clear hk
    obtain ⟨k0, k1⟩ := (show _ ∧ _ from ⟨HX1.out.2.2.1.c0, HX1.out.2.2.1.c1⟩)
    have kf0 := HX1.out.2.2.1.f0
    have kf1 := HX1.out.2.2.1.f1
    obtain ⟨r0, r1, r2⟩ := HX1.out.2.2.2.1.c
    have rf := HX1.out.2.2.2.1.f
    have rf0 := rf 0
    have rf1 := rf 1
    have rf2 := rf 2
    obtain ⟨hq2, hq3, hqb⟩ := HX1.out.stored (.string ⟨#[]⟩) (.string ⟨#[]⟩) none 0 0 ⟨#[]⟩ 0
    have q0 := hq2.c0
    have q1 := hq2.c1
    obtain ⟨p0, p1, p2⟩ := hq3.c
    have HQB := Lib.hid hqb
    clear rf hq2 hq3 hqb
    go_wp2
    refine bodyPost_ret (v := .tuple #[.agg #[.string ⟨#[]⟩, .string ⟨#[]⟩], .agg #[.slice none 0 0, .string ⟨#[]⟩, .int .i64 0], .int .i64 e]) (by simp [results, Tryz.results36, go_sem, q0, q1, p0, p1, p2]) rfl ?_
    exact ⟨none, 0, rfl, SlN.nil _ 0 (by omega) none, (fun b o h => by cases h), HQB.out⟩
end Go.Proofs.YtndmjfkmnjejkaaGreatDoor

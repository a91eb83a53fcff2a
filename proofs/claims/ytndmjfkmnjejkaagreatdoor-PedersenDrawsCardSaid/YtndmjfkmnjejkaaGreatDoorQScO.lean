import Derived.Test.YtndmjfkmnjejkaaGreatDoorQApn
import Derived.Test.YtndmjfkmnjejkaaGreatDoorQGsa
import Derived.Test.YtndmjfkmnjejkaaGreatDoorQRowN
import Derived.Test.YtndmjfkmnjejkaaGreatDoorQShB
import Derived.Test.YtndmjfkmnjejkaaGreatDoorQCoC
import Derived.Test.YtndmjfkmnjejkaaGreatDoorQPeG
import Derived.Test.YtndmjfkmnjejkaaGreatDoorQPeT
import Derived.Test.YtndmjfkmnjejkaaGreatDoorQLdF
import Derived.Test.YtndmjfkmnjejkaaGreatDoorQPwR
import Derived.Test.YtndmjfkmnjejkaaGreatDoorQPeC
import Derived.Deep.Cut
set_option linter.unusedVariables false
set_option linter.unusedSimpArgs false
namespace Go.Proofs.YtndmjfkmnjejkaaGreatDoor
set_option maxRecDepth 100000
set_option maxHeartbeats 4000000
open Go.RowKit Go.Lib
def NR (w W : World) (A : Option Addr) (n cap : Nat) (s : ByteArray) (k : Int) (P : Nat) (A' : Option Addr) (c' : Nat) (l : List ByteArray) : Prop :=
 TB W w.heap.size A n cap s k ∧ TB W (w.heap.size + 1) none 0 0 ⟨#[]⟩ 0 ∧ TB W P A' n c' s (k + 1) ∧ SlN W A' n c' l ∧ (∀ b o, A' = some ⟨b, o, none⟩ → w.heap.size + 1 < b) ∧ w.heap.size + 1 < P ∧ Below w.heap.size w W
theorem NR.nextN {w W W' : World} {A : Option Addr} {n cap : Nat} {s : ByteArray} {k : Int} {P : Nat} {A' : Option Addr} {c' : Nat} {l : List ByteArray} (h : NR w W A n cap s k P A' c' l) (hb : Below W.heap.size W W') : NR w W' A n cap s k P A' c' l :=
 ⟨h.1.nextT hb, h.2.1.nextT hb, h.2.2.1.nextT hb, h.2.2.2.1.kept hb (Nat.le_refl _), h.2.2.2.2.1, h.2.2.2.2.2.1, h.2.2.2.2.2.2.trans (hb.mono h.2.2.2.2.2.2.size)⟩
theorem r06_draw (l : List ByteArray) (s : ByteArray) (k N : Nat) (A : Option Addr) (n cap : Nat) (hg : l.all nvalid = true) (hk2 : k ≤ 2147483647) (hn : n ≤ 1000) (hs64 : s.size ≤ 1000000) (hN0 : 0 < N) (hN : N < 256 ^ 32) (w : World) (hs : SlN w A n cap l) :
 Calls Tryz.prog 102 #[tpV A n cap s k, .string (nS N)] w (RetC (dwN l s k N) (tpN (dwN l s k N).2 l s k) w) := by
 have HLEN := Hq hs.1
 have hcap := hs.2.1
 have hcap2 := hs.2.2.1
 have HN1 := Hq hn
 have hb1 := ((Below.refl w.heap.size w).alloc (Nat.le_refl _) (.cells #[.slice A n cap, .string s, .int .i64 k] 31)).alloc (by simp) (.cells #[.slice none 0 0, .string ⟨#[]⟩, .int .i64 0] 31)
 have ht1 : TB ((w.alloc (.cells #[.slice A n cap, .string s, .int .i64 k] 31)).alloc (.cells #[.slice none 0 0, .string ⟨#[]⟩, .int .i64 0] 31)) w.heap.size A n cap s k := (TB.new w A n cap s k).nextT ((Below.refl _ _).alloc (Nat.le_refl _) _)
 have hr1 : TB ((w.alloc (.cells #[.slice A n cap, .string s, .int .i64 k] 31)).alloc (.cells #[.slice none 0 0, .string ⟨#[]⟩, .int .i64 0] 31)) (w.heap.size + 1) none 0 0 ⟨#[]⟩ 0 := by
  have := TB.new (w.alloc (.cells #[.slice A n cap, .string s, .int .i64 k] 31)) none 0 0 ⟨#[]⟩ 0
  rwa [World.size_alloc] at this
 obtain ⟨W1, hW1⟩ : ∃ W, (w.alloc (.cells #[.slice A n cap, .string s, .int .i64 k] 31)).alloc (.cells #[.slice none 0 0, .string ⟨#[]⟩, .int .i64 0] 31) = W := ⟨_, rfl⟩
 have HSZ := Hq (show W1.heap.size = w.heap.size + 1 + 1 from by rw [← hW1]; simp)
 rw [hW1] at hb1 ht1 hr1
 have HB1 := Hq hb1
 have HT1 := Hq ht1
 have HR1 := Hq hr1
 have hs1 := hs.kept hb1 (Nat.le_refl _)
 have HS0 := Hq hs
 have HS1 := Hq hs1
 obtain ⟨c0, c1, c2⟩ := ht1.c
 obtain ⟨r0, r1, r2⟩ := hr1.c
 have f0 := hr1.f 0
 have f1 := hr1.f 1
 have f2 := hr1.f 2
 obtain ⟨r, hr⟩ : ∃ r, dwN l s k N = r := ⟨_, rfl⟩
 have HRR := Hq hr
 rw [hr]
 unfold tpV
 have hkm : (k : Int) ≤ 2147483647 := by omega
 have HN2 := Hq hN
 by_cases hkn : k < n
 · obtain ⟨y, hy⟩ : ∃ y, l[k]? = some y := ⟨_, List.getElem?_eq_getElem (by rw [HLEN.out]; exact hkn)⟩
   have vy := List.all_eq_true.1 hg y (List.mem_of_getElem? hy)
   have ly := num_lt (size_validC vy)
   have HCM := Hq (r01_Cmp (num y) N ly (Nat.lt_trans hN (by decide)))
   rw [← nS_num vy] at HCM
   have hcm := cmpI_ltP (x := num y) (y := N)
   obtain ⟨k1, hk1⟩ : ∃ k, cmpI (num y) N = k := ⟨_, rfl⟩
   rw [hk1] at HCM hcm
   have hdw : r = if num y < N then (num y, 0) else (0, 2) := by
    rw [← hr]
    unfold dwN
    rw [if_pos (by rw [HLEN.out]; omega), Int.toNat_natCast, List.getD_eq_getElem?_getD, hy]
    rfl
   have HAX := Hq (HS0.out.head (show 0 < n by omega))
   have hki : (k : Int) < (n : Int) := by omega
   have HY := Hq hy
   have HNY := Hq (nS_num vy)
   have HC1 := Hq hcm
   have HDW := Hq hdw
   obtain ⟨M, hM⟩ : ∃ M, nS N = M := ⟨_, rfl⟩
   rw [hM] at HCM ⊢
   clear hs hb1 ht1 hr1 hs1 hr hM hdw hcm hk1 ly vy hy hg
   go_enter Tryz.func102, Tryz.ntmps102
   go_upto_region 2 with (fail)
   try rw [hW1]
   have hb2 := (Below.refl W1.heap.size W1).alloc (Nat.le_refl _) (.cells #[.slice none 0 0, .string s, .int .i64 ((k : Int) + 1)] 31)
   have hp2 := TB.new W1 none 0 0 s ((k : Int) + 1)
   obtain ⟨P, hP⟩ : ∃ P, W1.heap.size = P := ⟨_, rfl⟩
   obtain ⟨W2, hW2⟩ : ∃ W, W1.alloc (.cells #[.slice none 0 0, .string s, .int .i64 ((k : Int) + 1)] 31) = W := ⟨_, rfl⟩
   rw [hW2] at hb2 hp2 ⊢
   have HSP := Hq (show P = w.heap.size + 1 + 1 from by rw [← hP]; exact HSZ.out)
   have HT2 := Hq (HT1.out.nextT hb2)
   have HR2 := Hq (HR1.out.nextT hb2)
   have HB2 := Hq (HB1.out.trans (hb2.mono HB1.out.size))
   have HS2 := Hq (HS1.out.kept hb2 (Nat.le_refl _))
   rw [hP] at hp2 ⊢
   have HP2 := Hq hp2
   clear hb2 hP hW2 hW1 c0 c1 c2 r0 r1 r2 f0 f1 f2
   obtain ⟨c0, c1, c2⟩ := HT2.out.c
   obtain ⟨p0, p1, p2⟩ := hp2.c
   have pf0 := hp2.f 0
   clear hp2
   go_upto_region 3 with
    (refine wpList_append_sl W2 W2 rfl (.tmp 17) (.tmp 19) rfl W2.heap.size (.slice none 0 0) 0 [] rfl (World.ownsRow_nil _ _ _ _) A n cap l rfl HS2.out (by have := HN1.out; omega) (Below.refl _ _) (Nat.le_refl _) ?_
     intro v3 w3 ho3 hb3 hz3
     simp only [Nat.zero_add, List.nil_append] at ho3
     have hlt3 := fun b => World.ownsRow.lt ho3 b
     obtain ⟨_, A3, c3, rfl, hs3⟩ := SlN.of_owns ho3
     have HF3 := Hq (show ∀ b o, A3 = some ⟨b, o, none⟩ → W2.heap.size ≤ b from fun b o h => (hlt3 b (by rw [h]; rfl)).1)
     have HS3 := Hq hs3
     have HT3 := Hq (HT2.out.nextT hb3)
     have HR3 := Hq (HR2.out.nextT hb3)
     have HP3 := Hq (HP2.out.nextT hb3)
     have HB3 := Hq (HB2.out.trans (hb3.mono HB2.out.size))
     clear ho3 hb3 hz3 hlt3 hs3 c0 c1 c2 p0 p1 p2 pf0
     have p0 := HP3.out.c.1
     have pf0 := HP3.out.f 0)
   have h3 : NR w (w3.setCell ⟨P, 0, none⟩ (.slice A3 n c3)) A n cap s k P A3 c3 l := by
    have hPP : P = w.heap.size + 1 + 1 := HSP.out
    have hfr : ∀ b o, A3 = some ⟨b, o, none⟩ → P < b := fun b o h => Nat.lt_of_lt_of_le HP2.out.lt (HF3.out b o h)
    exact ⟨HT3.out.off (by omega) _, HR3.out.off (by omega) _, block_setCell HP3.out _, HS3.out.setB hfr, fun b o h => by have := hfr b o h; omega, by omega, HB3.out.setCell (p := ⟨P, 0, none⟩) (show w.heap.size ≤ P by omega) _⟩
   obtain ⟨W4, hW4⟩ : ∃ X, w3.setCell ⟨P, 0, none⟩ (.slice A3 n c3) = X := ⟨_, rfl⟩
   rw [hW4] at h3 ⊢
   have H4 := Hq h3
   clear h3 hW4 p0 pf0 HT2 HR2 HP2 HB2 HS2 HT3 HR3 HP3 HB3 HS3 HF3 HT1 HR1 HB1 HS1
   obtain ⟨b, o, rfl⟩ := HAX.out
   obtain ⟨c0, c1, c2⟩ := H4.out.1.c
   have d0 := (HS0.out.kept H4.out.2.2.2.2.2.2 (Nat.le_refl _)).get? k HY.out
   clear hkm hk2
   go_wp2_with fail
   refine (HCM.out _).mono ?_
   rintro ev w5 ⟨rfl, hb5⟩
   have H5 := Hq (H4.out.nextN hb5)
   clear hb5 c0 c1 c2 d0
   by_cases hlt : num y < N
   · have hge : ¬ (0 ≤ k1) := by have : k1 < 0 := by rw [HC1.out]; exact hlt
                                 omega
     have HRV := Hq (show r = (num y, 0) from by rw [HDW.out, if_pos hlt])
     clear hlt
     go_wp2
     obtain ⟨we, hwe⟩ : ∃ we, w5.drew = we := ⟨_, rfl⟩
     have HE := Hq (show NR w we _ n cap s k P A3 c3 l from by rw [← hwe]; exact H5.out.nextN (Below.refl _ _).drew)
     have HS0E := Hq (show Below w.heap.size w we ∧ TB we w.heap.size (some ⟨b, o, none⟩) n cap s k ∧ TB we P A3 n c3 s ((k : Int) + 1) from ⟨HE.out.2.2.2.2.2.2, HE.out.1, HE.out.2.2.1⟩)
     have HPP := Hq HE.out.2.2.2.2.2.1
     obtain ⟨r0, r1, r2⟩ := HE.out.2.1.c
     have f0 := HE.out.2.1.f 0
     have f1 := HE.out.2.1.f 1
     have f2 := HE.out.2.1.f 2
     have HX1 := Hq HNY.out.symm
     refine wp_region_K 10 (fun W' => Below w.heap.size w W' ∧ TB W' w.heap.size (some ⟨b, o, none⟩) n cap s k ∧ TB W' P A3 n c3 s ((k : Int) + 1)) (by kernel_rfl) ?_
     intro hD
     rw [hwe]
     have KK1 := Hq (fun w' (hS' : (fun W' => Below w.heap.size w W' ∧ TB W' w.heap.size (some ⟨b, o, none⟩) n cap s k ∧ TB W' P A3 n c3 s ((k : Int) + 1)) w') => And.intro (hS'.2.1.c.1) (And.intro (hS'.2.1.c.2.1) (And.intro (hS'.2.1.c.2.2) (And.intro ((HS0.out.kept hS'.1 (Nat.le_refl _)).get? k HY.out) (And.intro (hS'.2.2.c.1) (And.intro (hS'.2.2.c.2.1) (hS'.2.2.c.2.2)))))))
     refine rP 0 38 9 rfl hD HS0E.out ?_; clear hD; intro hD; simp only [Act.put, sqA, sqB, sqC]
     refine rT 1 39 8 rfl hD HS0E.out (by intro w' hS'; obtain ⟨e0, e1, e2, e3, e4, e5, e6⟩ := KK1.out w' hS'; go_simp; with_reducible rfl) ?_; clear hD; intro hD; simp only [Act.put, sqA, sqB, sqC]
     refine rP 2 40 7 rfl hD HS0E.out ?_; clear hD; intro hD; simp only [Act.put, sqA, sqB, sqC]
     refine rT 3 41 6 rfl hD HS0E.out (by intro w' hS'; obtain ⟨e0, e1, e2, e3, e4, e5, e6⟩ := KK1.out w' hS'; go_simp; with_reducible rfl) ?_; clear hD; intro hD; simp only [Act.put, sqA, sqB, sqC]
     refine rP 4 42 5 rfl hD HS0E.out ?_; clear hD; intro hD; simp only [Act.put, sqA, sqB, sqC]
     refine rT 5 43 4 rfl hD HS0E.out (by intro w' hS'; obtain ⟨e0, e1, e2, e3, e4, e5, e6⟩ := KK1.out w' hS'; go_simp; with_reducible rfl) ?_; clear hD; intro hD; simp only [Act.put, sqA, sqB, sqC]
     refine rT 6 44 3 rfl hD HS0E.out (by intro w' hS'; obtain ⟨e0, e1, e2, e3, e4, e5, e6⟩ := KK1.out w' hS'; go_simp; with_reducible rfl) ?_; clear hD; intro hD; simp only [Act.put, sqA, sqB, sqC]
     refine rO 7 2 rfl hD ?_; clear hD; intro K7 hK7
     go_wp2
     refine hK7 _ _ (by exact HS0E.out) ?_; clear hK7; intro hS_6_7 hD
     refine rO 8 1 rfl hD ?_; clear hD; intro K8 hK8
     go_wp2
     refine hK8 _ _ (by exact ⟨below_set3 (hS_6_7).1 (by omega) _ _ _, (((hS_6_7).2.1.off (by omega) _).off (by omega) _).off (by omega) _, (((hS_6_7).2.2.off (by have := HPP.out; omega) _).off (by have := HPP.out; omega) _).off (by have := HPP.out; omega) _⟩) ?_; clear hK8; intro hS_6_8 hD
     refine rO 9 0 rfl hD ?_; clear hD; intro K9 hK9
     go_wp2
     refine hK9 _ _ (by exact hS_6_8) ?_; clear hK9; intro hS_6_9 hD
     refine wpAnyK_done (by kernel_rfl) ?_ 0
     clear hD r0 r1 r2 f0 f1 f2
     have hq := HE.out.2.1.set3 (A' := A3) (n' := n) (c' := c3) (s' := s) (a' := (k : Int) + 1)
     obtain ⟨q0, q1, q2⟩ := hq.c
     have HBQ := Hq (hS_6_9).1
     clear hq
     go_wp2
     refine bodyPost_ret (v := .tuple #[.string y, .agg #[.slice A3 n c3, .string s, .int .i64 ((k : Int) + 1)], .int .i64 0]) (by simp [results, Tryz.results102, go_sem, q0, q1, q2]) rfl ?_
     rw [HRV.out]
     refine ⟨A3, c3, ?_, ?_, (fun b o h => by have := HE.out.2.2.2.2.1 b o h; omega), HBQ.out⟩
     · show _ = Ending.returned (.tuple #[.string (nS (num y)), .agg #[.slice A3 l.length c3, .string s, .int .i64 ((k : Int) + 1)], .int .i64 0])
       rw [HLEN.out, HX1.out]
     · show SlN _ A3 l.length c3 l
       rw [HLEN.out]
       exact (((HE.out.2.2.2.1).setB HE.out.2.2.2.2.1).setB HE.out.2.2.2.2.1).setB HE.out.2.2.2.2.1
   · have hge : 0 ≤ k1 := by have : ¬ (k1 < 0) := by rw [HC1.out]; exact hlt
                             omega
     have HRV := Hq (show r = (0, 2) from by rw [HDW.out, if_neg hlt])
     clear hlt
     obtain ⟨r0, r1, r2⟩ := H5.out.2.1.c
     have f0 := H5.out.2.1.f 0
     have f1 := H5.out.2.1.f 1
     have f2 := H5.out.2.1.f 2
     have hq := H5.out.2.1.set3 (A' := none) (n' := 0) (c' := 0) (s' := ⟨#[]⟩) (a' := 0)
     obtain ⟨q0, q1, q2⟩ := hq.c
     have HBQ := Hq (below_set3 H5.out.2.2.2.2.2.2 (C := w.heap.size + 1) (by omega) (.slice none 0 0) (.string ⟨#[]⟩) (.int .i64 0))
     clear hq
     go_wp2
     refine bodyPost_ret (v := .tuple #[.string ⟨#[]⟩, .agg #[.slice none 0 0, .string ⟨#[]⟩, .int .i64 0], .int .i64 2]) (by simp [results, Tryz.results102, go_sem, q0, q1, q2]) rfl ?_
     rw [HRV.out]
     exact ⟨none, 0, rfl, SlN.nil _ 0 (by omega) none, (fun b o h => by cases h), HBQ.out⟩
 · have hdw : r = if s.toList.isEmpty = true ∨ (k : Int) = 2147483647 then ((0, 14) : Nat × Int) else match drwF (fun a => attN s.data.toList k a (blen N)) N with
    | some x => ((x, 0) : Nat × Int)
    | none => (0, 14) := by
    rw [← hr]
    unfold dwN
    rw [if_neg (by rw [HLEN.out]; omega), Int.toNat_natCast]
    split
    · rfl
    · cases drwF (fun a => attN s.data.toList k a (blen N)) N <;> rfl
   have hdk1 : decide (k < n) = false := decide_eq_false hkn
   have hdk2 : decide ((k : Int) < (n : Int)) = false := decide_eq_false (by omega)
   have hnki : ¬ ((k : Int) < (n : Int)) := by omega
   obtain ⟨M, hM⟩ : ∃ M, nS N = M := ⟨_, rfl⟩
   have HMM := Hq hM
   rw [hM]
   by_cases he : s.toList.isEmpty = true ∨ (k : Int) = 2147483647
   · have HRV := Hq (show r = (0, 14) from by rw [hdw, if_pos he])
     have hee : s.toList.isEmpty = true ∨ (s.toList.isEmpty = false ∧ (k : Int) = 2147483647) := by
      cases hx : s.toList.isEmpty with
      | true => exact .inl rfl
      | false => rw [hx] at he; exact .inr ⟨rfl, by simpa using he⟩
     have HEE := Hq hee
     clear hs hb1 ht1 hr1 hs1 hr hM hdw he hee hg
     go_enter Tryz.func102, Tryz.ntmps102
     go_upto_region 2 with (fail)
     try rw [hW1]
     have hb2 := (Below.refl W1.heap.size W1).alloc (Nat.le_refl _) (.cells #[.slice none 0 0, .string s, .int .i64 ((k : Int) + 1)] 31)
     have hp2 := TB.new W1 none 0 0 s ((k : Int) + 1)
     obtain ⟨P, hP⟩ : ∃ P, W1.heap.size = P := ⟨_, rfl⟩
     obtain ⟨W2, hW2⟩ : ∃ W, W1.alloc (.cells #[.slice none 0 0, .string s, .int .i64 ((k : Int) + 1)] 31) = W := ⟨_, rfl⟩
     rw [hW2] at hb2 hp2 ⊢
     have HSP := Hq (show P = w.heap.size + 1 + 1 from by rw [← hP]; exact HSZ.out)
     have HT2 := Hq (HT1.out.nextT hb2)
     have HR2 := Hq (HR1.out.nextT hb2)
     have HB2 := Hq (HB1.out.trans (hb2.mono HB1.out.size))
     have HS2 := Hq (HS1.out.kept hb2 (Nat.le_refl _))
     rw [hP] at hp2 ⊢
     have HP2 := Hq hp2
     clear hb2 hP hW2 hW1 c0 c1 c2 r0 r1 r2 f0 f1 f2
     obtain ⟨c0, c1, c2⟩ := HT2.out.c
     obtain ⟨p0, p1, p2⟩ := hp2.c
     have pf0 := hp2.f 0
     clear hp2
     go_upto_region 3 with
      (refine wpList_append_sl W2 W2 rfl (.tmp 17) (.tmp 19) rfl W2.heap.size (.slice none 0 0) 0 [] rfl (World.ownsRow_nil _ _ _ _) A n cap l rfl HS2.out (by have := HN1.out; omega) (Below.refl _ _) (Nat.le_refl _) ?_
       intro v3 w3 ho3 hb3 hz3
       simp only [Nat.zero_add, List.nil_append] at ho3
       have hlt3 := fun b => World.ownsRow.lt ho3 b
       obtain ⟨_, A3, c3, rfl, hs3⟩ := SlN.of_owns ho3
       have HF3 := Hq (show ∀ b o, A3 = some ⟨b, o, none⟩ → W2.heap.size ≤ b from fun b o h => (hlt3 b (by rw [h]; rfl)).1)
       have HS3 := Hq hs3
       have HT3 := Hq (HT2.out.nextT hb3)
       have HR3 := Hq (HR2.out.nextT hb3)
       have HP3 := Hq (HP2.out.nextT hb3)
       have HB3 := Hq (HB2.out.trans (hb3.mono HB2.out.size))
       clear ho3 hb3 hz3 hlt3 hs3 c0 c1 c2 p0 p1 p2 pf0
       have p0 := HP3.out.c.1
       have pf0 := HP3.out.f 0)
     have h3 : NR w (w3.setCell ⟨P, 0, none⟩ (.slice A3 n c3)) A n cap s k P A3 c3 l := by
      have hPP : P = w.heap.size + 1 + 1 := HSP.out
      have hfr : ∀ b o, A3 = some ⟨b, o, none⟩ → P < b := fun b o h => Nat.lt_of_lt_of_le HP2.out.lt (HF3.out b o h)
      exact ⟨HT3.out.off (by omega) _, HR3.out.off (by omega) _, block_setCell HP3.out _, HS3.out.setB hfr, fun b o h => by have := hfr b o h; omega, by omega, HB3.out.setCell (p := ⟨P, 0, none⟩) (show w.heap.size ≤ P by omega) _⟩
     obtain ⟨W4, hW4⟩ : ∃ X, w3.setCell ⟨P, 0, none⟩ (.slice A3 n c3) = X := ⟨_, rfl⟩
     rw [hW4] at h3 ⊢
     have H4 := Hq h3
     clear h3 hW4 p0 pf0 HT2 HR2 HP2 HB2 HS2 HT3 HR3 HP3 HB3 HS3 HF3 HT1 HR1 HB1 HS1
     clear hkm hk2
     obtain ⟨c0, c1, c2⟩ := H4.out.1.c
     rcases HEE.out with h1 | ⟨h1, h2⟩
     · skip
       obtain ⟨r0, r1, r2⟩ := H4.out.2.1.c
       have f0 := H4.out.2.1.f 0
       have f1 := H4.out.2.1.f 1
       have f2 := H4.out.2.1.f 2
       have hq := H4.out.2.1.set3 (A' := none) (n' := 0) (c' := 0) (s' := ⟨#[]⟩) (a' := 0)
       obtain ⟨q0, q1, q2⟩ := hq.c
       have HBQ := Hq (below_set3 H4.out.2.2.2.2.2.2 (C := w.heap.size + 1) (by omega) (.slice none 0 0) (.string ⟨#[]⟩) (.int .i64 0))
       clear hq
       go_wp2
       refine bodyPost_ret (v := .tuple #[.string ⟨#[]⟩, .agg #[.slice none 0 0, .string ⟨#[]⟩, .int .i64 0], .int .i64 14]) (by simp [results, Tryz.results102, go_sem, q0, q1, q2]) rfl ?_
       rw [HRV.out]
       exact ⟨none, 0, rfl, SlN.nil _ 0 (by omega) none, (fun b o h => by cases h), HBQ.out⟩
     · have h2' : ((k : Int) == 2147483647) = true := beq_iff_eq.2 h2
       clear h2
       obtain ⟨r0, r1, r2⟩ := H4.out.2.1.c
       have f0 := H4.out.2.1.f 0
       have f1 := H4.out.2.1.f 1
       have f2 := H4.out.2.1.f 2
       have hq := H4.out.2.1.set3 (A' := none) (n' := 0) (c' := 0) (s' := ⟨#[]⟩) (a' := 0)
       obtain ⟨q0, q1, q2⟩ := hq.c
       have HBQ := Hq (below_set3 H4.out.2.2.2.2.2.2 (C := w.heap.size + 1) (by omega) (.slice none 0 0) (.string ⟨#[]⟩) (.int .i64 0))
       clear hq
       go_wp2
       refine bodyPost_ret (v := .tuple #[.string ⟨#[]⟩, .agg #[.slice none 0 0, .string ⟨#[]⟩, .int .i64 0], .int .i64 14]) (by simp [results, Tryz.results102, go_sem, q0, q1, q2]) rfl ?_
       rw [HRV.out]
       exact ⟨none, 0, rfl, SlN.nil _ 0 (by omega) none, (fun b o h => by cases h), HBQ.out⟩
   · rw [if_neg he] at hdw
     have h1 : s.toList.isEmpty = false := by
      cases hx : s.toList.isEmpty with
      | true => exact absurd (.inl hx) he
      | false => rfl
     have h2' : ((k : Int) == 2147483647) = false := beq_eq_false_iff_ne.2 (fun h => he (.inr h))
     have hkk : k < 2147483648 := by omega
     obtain ⟨b, hb⟩ : ∃ b, blen N = b := ⟨_, rfl⟩
     have hb256 : b ≤ 256 := by rw [← hb]; exact blen_le8 (k := 32) hN
     have hb0 : 0 < b := by
      rcases Nat.eq_zero_or_pos b with h | h
      · have := blen_lt N; rw [hb, h] at this; omega
      · exact h
     obtain ⟨f, hf⟩ : ∃ f : Nat → Nat, (fun a => attN s.data.toList k a b) = f := ⟨_, rfl⟩
     rw [hb, hf] at hdw
     have HBI := Hq (r01_Bits N (Nat.lt_trans hN (by decide)))
     have HAT := Hq (fun a (ha : a < 256) W => r06_attempt s k a b hs64 hkk ha hb0 hb256 W)
     have hfl : ∀ a, f a < 256 ^ 128 := fun a => by
      rw [← hf]
      exact Nat.lt_of_lt_of_le (attN_lt _ _ _ _) (Nat.le_trans (Nat.pow_le_pow_right (by omega) hb256) (by decide))
     have HCM := Hq (fun a => r01_Cmp (f a) N (hfl a) (Nat.lt_trans hN (show 256 ^ 32 < 256 ^ 128 by decide)))
     have HFE := Hq (fun a => (show attN s.data.toList k a b = f a from by rw [← hf]))
     rw [hb, HMM.out] at HBI
     rw [HMM.out] at HCM
     have HR := Hq hdw
     clear hs hb1 ht1 hr1 hs1 hr hM hdw he hg hb hf hfl hb256 hb0 hs64
     go_enter Tryz.func102, Tryz.ntmps102
     go_upto_region 2 with (fail)
     try rw [hW1]
     have hb2 := (Below.refl W1.heap.size W1).alloc (Nat.le_refl _) (.cells #[.slice none 0 0, .string s, .int .i64 ((k : Int) + 1)] 31)
     have hp2 := TB.new W1 none 0 0 s ((k : Int) + 1)
     obtain ⟨P, hP⟩ : ∃ P, W1.heap.size = P := ⟨_, rfl⟩
     obtain ⟨W2, hW2⟩ : ∃ W, W1.alloc (.cells #[.slice none 0 0, .string s, .int .i64 ((k : Int) + 1)] 31) = W := ⟨_, rfl⟩
     rw [hW2] at hb2 hp2 ⊢
     have HSP := Hq (show P = w.heap.size + 1 + 1 from by rw [← hP]; exact HSZ.out)
     have HT2 := Hq (HT1.out.nextT hb2)
     have HR2 := Hq (HR1.out.nextT hb2)
     have HB2 := Hq (HB1.out.trans (hb2.mono HB1.out.size))
     have HS2 := Hq (HS1.out.kept hb2 (Nat.le_refl _))
     rw [hP] at hp2 ⊢
     have HP2 := Hq hp2
     clear hb2 hP hW2 hW1 c0 c1 c2 r0 r1 r2 f0 f1 f2
     obtain ⟨c0, c1, c2⟩ := HT2.out.c
     obtain ⟨p0, p1, p2⟩ := hp2.c
     have pf0 := hp2.f 0
     clear hp2
     go_upto_region 3 with
      (refine wpList_append_sl W2 W2 rfl (.tmp 17) (.tmp 19) rfl W2.heap.size (.slice none 0 0) 0 [] rfl (World.ownsRow_nil _ _ _ _) A n cap l rfl HS2.out (by have := HN1.out; omega) (Below.refl _ _) (Nat.le_refl _) ?_
       intro v3 w3 ho3 hb3 hz3
       simp only [Nat.zero_add, List.nil_append] at ho3
       have hlt3 := fun b => World.ownsRow.lt ho3 b
       obtain ⟨_, A3, c3, rfl, hs3⟩ := SlN.of_owns ho3
       have HF3 := Hq (show ∀ b o, A3 = some ⟨b, o, none⟩ → W2.heap.size ≤ b from fun b o h => (hlt3 b (by rw [h]; rfl)).1)
       have HS3 := Hq hs3
       have HT3 := Hq (HT2.out.nextT hb3)
       have HR3 := Hq (HR2.out.nextT hb3)
       have HP3 := Hq (HP2.out.nextT hb3)
       have HB3 := Hq (HB2.out.trans (hb3.mono HB2.out.size))
       clear ho3 hb3 hz3 hlt3 hs3 c0 c1 c2 p0 p1 p2 pf0
       have p0 := HP3.out.c.1
       have pf0 := HP3.out.f 0)
     have h3 : NR w (w3.setCell ⟨P, 0, none⟩ (.slice A3 n c3)) A n cap s k P A3 c3 l := by
      have hPP : P = w.heap.size + 1 + 1 := HSP.out
      have hfr : ∀ b o, A3 = some ⟨b, o, none⟩ → P < b := fun b o h => Nat.lt_of_lt_of_le HP2.out.lt (HF3.out b o h)
      exact ⟨HT3.out.off (by omega) _, HR3.out.off (by omega) _, block_setCell HP3.out _, HS3.out.setB hfr, fun b o h => by have := hfr b o h; omega, by omega, HB3.out.setCell (p := ⟨P, 0, none⟩) (show w.heap.size ≤ P by omega) _⟩
     obtain ⟨W4, hW4⟩ : ∃ X, w3.setCell ⟨P, 0, none⟩ (.slice A3 n c3) = X := ⟨_, rfl⟩
     rw [hW4] at h3 ⊢
     have H4 := Hq h3
     clear h3 hW4 p0 pf0 HT2 HR2 HP2 HB2 HS2 HT3 HR3 HP3 HB3 HS3 HF3 HT1 HR1 HB1 HS1
     clear hkm hk2 hkk
     obtain ⟨c0, c1, c2⟩ := H4.out.1.c
     go_wp2
     clear c0 c1 c2
     go_loopw [8] (fun v wr => ∃ a : Nat, a ≤ 256 ∧ v = .int .i64 a ∧ (∀ j, j < a → ¬ f j < N) ∧ NR w wr A n cap s k P A3 c3 l) (fun v _ => 256 - (RowKit.intOf v).toNat)
     case atStart => exact ⟨0, by omega, rfl, fun j h => by omega, H4.out⟩
     case round =>
      obtain ⟨a, ha, rfl, hno, hds⟩ := hrel
      have HNO := Hq hno
      have HDW := Hq hds
      clear hno hds
      by_cases hlt : a < 256
      · have hai : (a : Int) < 256 := by omega
        have HLT := Hq hlt
        go_wp2
        obtain ⟨wd, hwd⟩ : ∃ wd, wr.drew = wd := ⟨_, rfl⟩
        have HDd := Hq (show NR w wd A n cap s k P A3 c3 l from by rw [← hwd]; exact HDW.out.nextN (Below.refl _ _).drew)
        have HATa := Hq (HAT.out a HLT.out)
        have HCMa := Hq (HCM.out a)
        have hcm := cmpI_ltP (x := f a) (y := N)
        obtain ⟨k1, hk1⟩ : ∃ k1, cmpI (f a) N = k1 := ⟨_, rfl⟩
        rw [hk1] at HCMa hcm
        rw [HFE.out a] at HATa
        obtain ⟨x, hx⟩ : ∃ x, nS (f a) = x := ⟨_, rfl⟩
        rw [hx] at HCMa HATa
        have HX1 := Hq hx
        have HC1 := Hq hcm
        clear hk1 hx hcm
        obtain ⟨c0, c1, c2⟩ := HDd.out.1.c
        refine wp_region_K 9 (Below (wd).heap.size (wd)) (by kernel_rfl) ?_
        intro hD
        rw [hwd]
        refine rP 0 58 8 rfl hD (Below.refl _ _) ?_; clear hD; intro hD; simp only [Act.put, sqA, sqB, sqC]
        refine rT 1 59 7 rfl hD (Below.refl _ _) (by intro w' hS'; have e0 := kC hS' c0; have e1 := kC hS' c1; have e2 := kC hS' c2; go_simp; with_reducible rfl) ?_; clear hD; intro hD; simp only [Act.put, sqA, sqB, sqC]
        refine rP 2 60 6 rfl hD (Below.refl _ _) ?_; clear hD; intro hD; simp only [Act.put, sqA, sqB, sqC]
        refine rT 3 61 5 rfl hD (Below.refl _ _) (by intro w' hS'; have e0 := kC hS' c0; have e1 := kC hS' c1; have e2 := kC hS' c2; go_simp; with_reducible rfl) ?_; clear hD; intro hD; simp only [Act.put, sqA, sqB, sqC]
        refine rP 4 62 4 rfl hD (Below.refl _ _) ?_; clear hD; intro hD; simp only [Act.put, sqA, sqB, sqC]
        refine rP 5 63 3 rfl hD (Below.refl _ _) ?_; clear hD; intro hD; simp only [Act.put, sqA, sqB, sqC]
        refine rO 6 2 rfl hD ?_; clear hD; intro K6 hK6
        go_wp2_with fail
        refine (HBI.out _).mono ?_
        rintro ev w5 ⟨rfl, rfl⟩
        have HB6 := Hq (Below.refl wd.heap.size wd)
        go_wp2
        refine hK6 _ _ (by exact HB6.out) ?_; clear hK6; intro hS_12_6 hD
        refine rO 7 1 rfl hD ?_; clear hD; intro K7 hK7
        go_wp2_with fail
        refine (HATa.out _).mono ?_
        rintro ev w6 ⟨rfl, hb⟩
        have HB7 := Hq hb
        clear hb
        go_wp2
        refine hK7 _ _ (by exact Below.trans hS_12_6 (Below.mono HB7.out (Below.size hS_12_6))) ?_; clear hK7; intro hS_12_7 hD
        refine rO 8 0 rfl hD ?_; clear hD; intro K8 hK8
        go_wp2
        refine hK8 _ _ (by exact hS_12_7) ?_; clear hK8; intro hS_12_8 hD
        refine wpAnyK_done (by kernel_rfl) ?_ 0
        clear hD
        have HD5 := Hq (HDd.out.nextN HB7.out)
        clear c0 c1 c2
        go_wp2_with fail
        refine (HCMa.out _).mono ?_
        rintro ev w7 ⟨rfl, hb⟩
        have HD6 := Hq (HD5.out.nextN hb)
        clear hb
        by_cases hfn : f a < N
        · have hneg : k1 < 0 := by rw [HC1.out]; exact hfn
          have HRV := Hq (show r = (f a, 0) from by rw [HR.out, drwF_at HLT.out HNO.out hfn])
          clear hfn
          go_wp2
          obtain ⟨we, hwe⟩ : ∃ we, w7.drew = we := ⟨_, rfl⟩
          have HE := Hq (show NR w we _ n cap s k P A3 c3 l from by rw [← hwe]; exact HD6.out.nextN (Below.refl _ _).drew)
          have HS0E := Hq (show Below w.heap.size w we ∧ TB we w.heap.size A n cap s k ∧ TB we P A3 n c3 s ((k : Int) + 1) from ⟨HE.out.2.2.2.2.2.2, HE.out.1, HE.out.2.2.1⟩)
          have HPP := Hq HE.out.2.2.2.2.2.1
          obtain ⟨r0, r1, r2⟩ := HE.out.2.1.c
          have f0 := HE.out.2.1.f 0
          have f1 := HE.out.2.1.f 1
          have f2 := HE.out.2.1.f 2
          refine wp_region_K 5 (fun W' => Below w.heap.size w W' ∧ TB W' w.heap.size A n cap s k ∧ TB W' P A3 n c3 s ((k : Int) + 1)) (by kernel_rfl) ?_
          intro hD
          rw [hwe]
          refine rP 0 70 4 rfl hD HS0E.out ?_; clear hD; intro hD; simp only [Act.put, sqA, sqB, sqC]
          refine rT 1 71 3 rfl hD HS0E.out (by intro w' hS'; have e0 := hS'.2.2.c.1; have e1 := hS'.2.2.c.2.1; have e2 := hS'.2.2.c.2.2; go_simp; with_reducible rfl) ?_; clear hD; intro hD; simp only [Act.put, sqA, sqB, sqC]
          refine rO 2 2 rfl hD ?_; clear hD; intro K2 hK2
          go_wp2
          refine hK2 _ _ (by exact HS0E.out) ?_; clear hK2; intro hS_14_2 hD
          refine rO 3 1 rfl hD ?_; clear hD; intro K3 hK3
          go_wp2
          refine hK3 _ _ (by exact ⟨below_set3 (hS_14_2).1 (by omega) _ _ _, (((hS_14_2).2.1.off (by omega) _).off (by omega) _).off (by omega) _, (((hS_14_2).2.2.off (by have := HPP.out; omega) _).off (by have := HPP.out; omega) _).off (by have := HPP.out; omega) _⟩) ?_; clear hK3; intro hS_14_3 hD
          refine rO 4 0 rfl hD ?_; clear hD; intro K4 hK4
          go_wp2
          refine hK4 _ _ (by exact hS_14_3) ?_; clear hK4; intro hS_14_4 hD
          refine wpAnyK_done (by kernel_rfl) ?_ 0
          clear hD r0 r1 r2 f0 f1 f2
          have hq := HE.out.2.1.set3 (A' := A3) (n' := n) (c' := c3) (s' := s) (a' := (k : Int) + 1)
          obtain ⟨q0, q1, q2⟩ := hq.c
          have HBQ := Hq (hS_14_4).1
          clear hq
          go_wp2
          refine bodyPost_ret (v := .tuple #[.string x, .agg #[.slice A3 n c3, .string s, .int .i64 ((k : Int) + 1)], .int .i64 0]) (by simp [results, Tryz.results102, go_sem, q0, q1, q2]) rfl ?_
          rw [HRV.out]
          refine ⟨A3, c3, ?_, ?_, (fun b o h => by have := HE.out.2.2.2.2.1 b o h; omega), HBQ.out⟩
          · show _ = Ending.returned (.tuple #[.string (nS (f a)), .agg #[.slice A3 l.length c3, .string s, .int .i64 ((k : Int) + 1)], .int .i64 0])
            rw [HLEN.out, HX1.out]
          · show SlN _ A3 l.length c3 l
            rw [HLEN.out]
            exact (((HE.out.2.2.2.1).setB HE.out.2.2.2.2.1).setB HE.out.2.2.2.2.1).setB HE.out.2.2.2.2.1
        · have hneg : ¬ (k1 < 0) := by rw [HC1.out]; exact hfn
          have HNN := Hq (show ∀ j, j < a + 1 → ¬ f j < N from fun j hj => by
           rcases Nat.lt_or_ge j a with h | h
           · exact HNO.out j h
           · obtain rfl : j = a := by omega
             exact hfn)
          clear hfn
          go_wp2
          go_roundw
          case rel => exact ⟨a + 1, by have := HLT.out; omega, by go_num, HNN.out, HD6.out⟩
          case measure => have := HLT.out; simp [RowKit.intOf]; omega
      · obtain rfl : a = 256 := by omega
        have HRV := Hq (show r = (0, 14) from by rw [HR.out, drwF_none HNO.out])
        have hai : ¬ (((256 : Nat) : Int) < 256) := by omega
        clear hlt ha
        obtain ⟨r0, r1, r2⟩ := HDW.out.2.1.c
        have f0 := HDW.out.2.1.f 0
        have f1 := HDW.out.2.1.f 1
        have f2 := HDW.out.2.1.f 2
        have hq := HDW.out.2.1.set3 (A' := none) (n' := 0) (c' := 0) (s' := ⟨#[]⟩) (a' := 0)
        obtain ⟨q0, q1, q2⟩ := hq.c
        have HBQ := Hq (below_set3 HDW.out.2.2.2.2.2.2 (C := w.heap.size + 1) (by omega) (.slice none 0 0) (.string ⟨#[]⟩) (.int .i64 0))
        clear hq
        go_wp2
        refine bodyPost_ret (v := .tuple #[.string ⟨#[]⟩, .agg #[.slice none 0 0, .string ⟨#[]⟩, .int .i64 0], .int .i64 14]) (by simp [results, Tryz.results102, go_sem, q0, q1, q2]) rfl ?_
        rw [HRV.out]
        exact ⟨none, 0, rfl, SlN.nil _ 0 (by omega) none, (fun b o h => by cases h), HBQ.out⟩
end Go.Proofs.YtndmjfkmnjejkaaGreatDoor
namespace Go.Proofs.YtndmjfkmnjejkaaGreatDoor
set_option maxRecDepth 100000
set_option maxHeartbeats 4000000
open Go.RowKit Go.Lib
theorem r06_Below (l : List ByteArray) (s : ByteArray) (k : Int) (N : ByteArray) (A : Option Addr) (n cap : Nat) (hn : n ≤ 1000) (hp : ∀ x ∈ l, x.size ≤ 9223372036854775807) (hs64 : s.size ≤ 1000000) (hN : N.size ≤ 32) (w : World) (hs : SlN w A n cap l) :
 Calls Tryz.prog 55 #[tpV A n cap s k, .string N] w (RetC (coN l s k N) (tpN (coN l s k N).2 l s k) w) := by
 have HRC := Hq (show coN l s k N = if (tpG l k && nvalid N) = true then (if N.toList.isEmpty = true then (0, 11) else dwN l s k (num N)) else (0, 3) from rfl)
 have hb1 := ((Below.refl w.heap.size w).alloc (Nat.le_refl _) (.cells #[.slice A n cap, .string s, .int .i64 k] 31)).alloc (by simp) (.cells #[.slice none 0 0, .string ⟨#[]⟩, .int .i64 0] 31)
 have ht1 : TB ((w.alloc (.cells #[.slice A n cap, .string s, .int .i64 k] 31)).alloc (.cells #[.slice none 0 0, .string ⟨#[]⟩, .int .i64 0] 31)) w.heap.size A n cap s k := (TB.new w A n cap s k).nextT ((Below.refl _ _).alloc (Nat.le_refl _) _)
 have hr1 : TB ((w.alloc (.cells #[.slice A n cap, .string s, .int .i64 k] 31)).alloc (.cells #[.slice none 0 0, .string ⟨#[]⟩, .int .i64 0] 31)) (w.heap.size + 1) none 0 0 ⟨#[]⟩ 0 := by
  have := TB.new (w.alloc (.cells #[.slice A n cap, .string s, .int .i64 k] 31)) none 0 0 ⟨#[]⟩ 0
  rwa [World.size_alloc] at this
 obtain ⟨W1, hW1⟩ : ∃ W, (w.alloc (.cells #[.slice A n cap, .string s, .int .i64 k] 31)).alloc (.cells #[.slice none 0 0, .string ⟨#[]⟩, .int .i64 0] 31) = W := ⟨_, rfl⟩
 have HSZ := Hq (show W1.heap.size = w.heap.size + 1 + 1 from by rw [← hW1]; simp)
 rw [hW1] at hb1 ht1 hr1
 have HB1 := Hq hb1
 have HT1 := Hq ht1
 have HR1 := Hq hr1
 have hs1 := hs.kept hb1 (Nat.le_refl _)
 have HS0 := Hq hs
 have HS1 := Hq hs1
 obtain ⟨c0, c1, c2⟩ := ht1.c
 obtain ⟨r0, r1, r2⟩ := hr1.c
 have f0 := hr1.f 0
 have f1 := hr1.f 1
 have f2 := hr1.f 2
 have HGD := Hq (r06_Good l s k A n cap W1 HS1.out hn hp)
 have HVD := Hq (r01_Valid N (by omega))
 clear hs hb1 ht1 hr1 hs1
 unfold tpV at *
 cases hg : tpG l k with
 | false =>
  rw [hg] at HGD
  rw [HRC.out, hg, Bool.false_and, if_neg (by decide)]
  clear hg hp
  go_enter Tryz.func55, Tryz.ntmps55
  go_wp2_with fail
  try rw [hW1]
  clear hW1
  refine (HGD.out).mono ?_
  rintro ev w2 ⟨rfl, hb2⟩
  have HT2 := Hq (HT1.out.nextT hb2)
  have HR2 := Hq (HR1.out.nextT hb2)
  have HB2 := Hq (HB1.out.trans (hb2.mono HB1.out.size))
  have HS2 := Hq (HS1.out.kept hb2 (Nat.le_refl _))
  clear c0 c1 c2 hb2 r0 r1 r2 f0 f1 f2
  obtain ⟨c0, c1, c2⟩ := HT2.out.c
  have hq := HR2.out.set3 (A' := none) (n' := 0) (c' := 0) (s' := ⟨#[]⟩) (a' := 0)
  obtain ⟨q0, q1, q2⟩ := hq.c
  have HBQ := Hq (below_set3 HB2.out (C := w.heap.size + 1) (by omega) (.slice none 0 0) (.string ⟨#[]⟩) (.int .i64 0))
  obtain ⟨r0, r1, r2⟩ := HR2.out.c
  have f0 := HR2.out.f 0
  have f1 := HR2.out.f 1
  have f2 := HR2.out.f 2
  clear hq
  go_wp2
  refine bodyPost_ret (v := .tuple #[.string ⟨#[]⟩, .agg #[.slice none 0 0, .string ⟨#[]⟩, .int .i64 0], .int .i64 3]) (by simp [results, Tryz.results55, go_sem, q0, q1, q2]) rfl ?_
  exact ⟨none, 0, rfl, SlN.nil _ 0 (by omega) none, (fun b o h => by cases h), HBQ.out⟩
 | true =>
  rw [hg] at HGD
  cases hv : nvalid N with
  | false =>
   rw [hv] at HVD
   rw [HRC.out, hg, hv, Bool.and_false, if_neg (by decide)]
   clear hg hp hv
   go_enter Tryz.func55, Tryz.ntmps55
   go_wp2_with fail
   try rw [hW1]
   clear hW1
   refine (HGD.out).mono ?_
   rintro ev w2 ⟨rfl, hb2⟩
   have HT2 := Hq (HT1.out.nextT hb2)
   have HR2 := Hq (HR1.out.nextT hb2)
   have HB2 := Hq (HB1.out.trans (hb2.mono HB1.out.size))
   have HS2 := Hq (HS1.out.kept hb2 (Nat.le_refl _))
   clear c0 c1 c2 hb2 r0 r1 r2 f0 f1 f2
   obtain ⟨c0, c1, c2⟩ := HT2.out.c
   go_wp2_with fail
   refine (HVD.out _).mono ?_
   rintro ev w3 ⟨rfl, rfl⟩
   have hq := HR2.out.set3 (A' := none) (n' := 0) (c' := 0) (s' := ⟨#[]⟩) (a' := 0)
   obtain ⟨q0, q1, q2⟩ := hq.c
   have HBQ := Hq (below_set3 HB2.out (C := w.heap.size + 1) (by omega) (.slice none 0 0) (.string ⟨#[]⟩) (.int .i64 0))
   obtain ⟨r0, r1, r2⟩ := HR2.out.c
   have f0 := HR2.out.f 0
   have f1 := HR2.out.f 1
   have f2 := HR2.out.f 2
   clear hq
   go_wp2
   refine bodyPost_ret (v := .tuple #[.string ⟨#[]⟩, .agg #[.slice none 0 0, .string ⟨#[]⟩, .int .i64 0], .int .i64 3]) (by simp [results, Tryz.results55, go_sem, q0, q1, q2]) rfl ?_
   exact ⟨none, 0, rfl, SlN.nil _ 0 (by omega) none, (fun b o h => by cases h), HBQ.out⟩
  | true =>
   rw [hv] at HVD
   rw [HRC.out, hg, hv, Bool.and_self, if_pos rfl]
   cases he : N.toList.isEmpty with
   | true =>
    rw [if_pos rfl]
    clear hg hp hv
    go_enter Tryz.func55, Tryz.ntmps55
    go_wp2_with fail
    try rw [hW1]
    clear hW1
    refine (HGD.out).mono ?_
    rintro ev w2 ⟨rfl, hb2⟩
    have HT2 := Hq (HT1.out.nextT hb2)
    have HR2 := Hq (HR1.out.nextT hb2)
    have HB2 := Hq (HB1.out.trans (hb2.mono HB1.out.size))
    have HS2 := Hq (HS1.out.kept hb2 (Nat.le_refl _))
    clear c0 c1 c2 hb2 r0 r1 r2 f0 f1 f2
    obtain ⟨c0, c1, c2⟩ := HT2.out.c
    go_wp2_with fail
    refine (HVD.out _).mono ?_
    rintro ev w3 ⟨rfl, rfl⟩
    have hq := HR2.out.set3 (A' := none) (n' := 0) (c' := 0) (s' := ⟨#[]⟩) (a' := 0)
    obtain ⟨q0, q1, q2⟩ := hq.c
    have HBQ := Hq (below_set3 HB2.out (C := w.heap.size + 1) (by omega) (.slice none 0 0) (.string ⟨#[]⟩) (.int .i64 0))
    obtain ⟨r0, r1, r2⟩ := HR2.out.c
    have f0 := HR2.out.f 0
    have f1 := HR2.out.f 1
    have f2 := HR2.out.f 2
    clear hq
    go_wp2
    refine bodyPost_ret (v := .tuple #[.string ⟨#[]⟩, .agg #[.slice none 0 0, .string ⟨#[]⟩, .int .i64 0], .int .i64 11]) (by simp [results, Tryz.results55, go_sem, q0, q1, q2]) rfl ?_
    exact ⟨none, 0, rfl, SlN.nil _ 0 (by omega) none, (fun b o h => by cases h), HBQ.out⟩
   | false =>
    rw [if_neg (by decide)]
    obtain ⟨h0, h1, hall⟩ := tpG_parts hg
    obtain ⟨q, rfl⟩ : ∃ q : Nat, k = (q : Int) := ⟨k.toNat, by omega⟩
    have hlt : num N < 256 ^ 32 := Nat.lt_of_lt_of_le (num_lt_size N) (Nat.pow_le_pow_right (by omega) hN)
    have hpos : 0 < num N := by
     rcases Nat.eq_zero_or_pos (num N) with h | h
     · rw [nS_num hv, h, show (nS 0).toList.isEmpty = true from sempty_true rfl] at he
       cases he
     · exact h
    have HDR := Hq (fun W hs => r06_draw l s q (num N) A n cap hall (by omega) hn hs64 hpos hlt W hs)
    rw [← nS_num hv] at HDR
    unfold tpV at HDR
    obtain ⟨r, hr⟩ : ∃ r, dwN l s q (num N) = r := ⟨_, rfl⟩
    obtain ⟨x1, e1⟩ := r
    rw [hr] at HDR ⊢
    obtain ⟨t, ht⟩ : ∃ t, tpN e1 l s q = t := ⟨_, rfl⟩
    obtain ⟨tl, ts, tk⟩ := t
    simp only [] at HDR ⊢
    rw [ht] at HDR ⊢
    clear hg hp hv hr ht hlt hpos hall h0 h1 HRC
    go_enter Tryz.func55, Tryz.ntmps55
    go_wp2_with fail
    try rw [hW1]
    clear hW1
    refine (HGD.out).mono ?_
    rintro ev w2 ⟨rfl, hb2⟩
    have HT2 := Hq (HT1.out.nextT hb2)
    have HR2 := Hq (HR1.out.nextT hb2)
    have HB2 := Hq (HB1.out.trans (hb2.mono HB1.out.size))
    have HS2 := Hq (HS1.out.kept hb2 (Nat.le_refl _))
    clear c0 c1 c2 hb2 r0 r1 r2 f0 f1 f2
    obtain ⟨c0, c1, c2⟩ := HT2.out.c
    go_wp2_with fail
    refine (HVD.out _).mono ?_
    rintro ev w3 ⟨rfl, rfl⟩
    have HD2 := Hq (HDR.out w2 HS2.out)
    go_wp2_with fail
    refine (HD2.out).mono ?_
    rintro ev w3 ⟨B, c, rfl, hsl, hfr, hb3⟩
    have HR3 := Hq (HR2.out.nextT hb3)
    have HB3 := Hq (HB2.out.trans (hb3.mono HB2.out.size))
    have HSL := Hq hsl
    have HFR := Hq (show ∀ b o, B = some ⟨b, o, none⟩ → w.heap.size + 1 < b from fun b o h => Nat.lt_of_lt_of_le HR2.out.lt (hfr b o h))
    obtain ⟨m, hm⟩ : ∃ m, tl.length = m := ⟨_, rfl⟩
    have HM := Hq hm
    clear c0 c1 c2 hsl hb3 hfr
    simp only []
    rw [hm]
    clear hm
    obtain ⟨r0, r1, r2⟩ := HR3.out.c
    have f0 := HR3.out.f 0
    have f1 := HR3.out.f 1
    have f2 := HR3.out.f 2
    have hq := HR3.out.set3 (A' := B) (n' := m) (c' := c) (s' := ts) (a' := tk)
    obtain ⟨q0, q1, q2⟩ := hq.c
    have HBQ := Hq (below_set3 HB3.out (C := w.heap.size + 1) (by omega) (.slice B m c) (.string ts) (.int .i64 tk))
    clear hq
    obtain ⟨z, hz⟩ : ∃ z, nS x1 = z := ⟨_, rfl⟩
    rw [hz]
    go_wp2
    refine bodyPost_ret (v := .tuple #[.string z, .agg #[.slice B m c, .string ts, .int .i64 tk], .int .i64 e1]) (by simp [results, Tryz.results55, go_sem, q0, q1, q2]) rfl ?_
    refine ⟨B, c, ?_, ?_, (fun b o h => by have := HFR.out b o h; omega), HBQ.out⟩
    · show _ = Ending.returned (.tuple #[.string (nS x1), .agg #[.slice B tl.length c, .string ts, .int .i64 tk], .int .i64 e1])
      rw [HM.out, hz]
    · show SlN _ _ tl.length c tl
      exact ((HSL.out.setB HFR.out).setB HFR.out).setB HFR.out
end Go.Proofs.YtndmjfkmnjejkaaGreatDoor
namespace Go.Proofs.YtndmjfkmnjejkaaGreatDoor
open Go.RowKit
theorem SlN.lt {w : World} {b o n c : Nat} {l : List ByteArray} (h : SlN w (some ⟨b, o, none⟩) n c l) (h0 : 0 < n) : b < w.heap.size := by
 obtain ⟨y, hy⟩ : ∃ y, l[0]? = some y := ⟨_, List.getElem?_eq_getElem (by have := h.1; omega)⟩
 have := h.get? 0 hy
 rcases Nat.lt_or_ge b w.heap.size with hb | hb
 · exact hb
 · rw [World.cell?, Array.getElem?_eq_none hb] at this; cases this
end Go.Proofs.YtndmjfkmnjejkaaGreatDoor
namespace Go.Proofs.YtndmjfkmnjejkaaGreatDoor
open Go.RowKit Go.Lib
theorem bx4_off4 {W : World} {B C : Nat} {x y z u a b c d : Value} {T : TypeId} (h : Bx4 W B x y z u T) (hne : B ≠ C) : Bx4 ((((W.setCell ⟨C, 0, none⟩ a).setCell ⟨C, 1, none⟩ b).setCell ⟨C, 2, none⟩ c).setCell ⟨C, 3, none⟩ d) B x y z u T := (h.off3 hne).other hne _
end Go.Proofs.YtndmjfkmnjejkaaGreatDoor

/- Walk: dominolaw37.EpochlogJoins. -/
import Derived.Test.YtelhpdlegjgjjaaEpS
set_option linter.unusedVariables false
set_option linter.unusedSimpArgs false
namespace Go.Proofs.Ytelhpdlegjgjjaa
open Go.RowKit

set_option maxRecDepth 100000 in
set_option maxHeartbeats 4000000 in
theorem law_Joins (a b : Dl) (A1 A2 A3 A4 : Option Addr) (n1 c1 n2 c2 n3 c3 n4 c4 : Nat) (w : World) (h1 : SlN w A1 n1 c1 a.ad) (h2 : SlN w A2 n2 c2 a.rm) (h3 : SlN w A3 n3 c3 b.ad) (h4 : SlN w A4 n4 c4 b.rm) (za : SzL a.str) (zb : SzL b.str) :
    Calls Try.prog 4 #[.agg (a.arr (.slice A1 n1 c1) (.slice A2 n2 c2)), .agg (b.arr (.slice A3 n3 c3) (.slice A4 n4 c4))] w (Ret (.bool true) w) := by
  obtain ⟨W0, hW0⟩ : ∃ W0, (w.alloc (.cells (a.arr (.slice A1 n1 c1) (.slice A2 n2 c2)) 27)).alloc (.cells (b.arr (.slice A3 n3 c3) (.slice A4 n4 c4)) 27) = W0 := ⟨_, rfl⟩
  obtain ⟨P, hP⟩ : ∃ P, w.heap.size = P := ⟨_, rfl⟩
  have HP0 := Lib.hid (show BxC W0 P (a.arr (.slice A1 n1 c1) (.slice A2 n2 c2)) 27 from by rw [← hW0, ← hP]; exact (BxC.new w _ _).alloc _)
  have HQ0 := Lib.hid (show BxC W0 (P + 1) (b.arr (.slice A3 n3 c3) (.slice A4 n4 c4)) 27 from by rw [← hW0, ← hP]; exact BxC.new1 w _ _ _)
  have HB0 := Lib.hid (show Below P w W0 from by rw [← hW0, ← hP]; exact ((Below.refl _ _).alloc (Nat.le_refl _) _).alloc (by simp) _)
  have HW0 := Lib.hid (show P + 2 = W0.heap.size from by rw [← hW0, ← hP]; simp)
  have HPE := Lib.hid hP
  have H1 := Lib.hid (h1.kept HB0.out (Nat.le_of_eq hP))
  have H2 := Lib.hid (h2.kept HB0.out (Nat.le_of_eq hP))
  have H3 := Lib.hid (h3.kept HB0.out (Nat.le_of_eq hP))
  have H4 := Lib.hid (h4.kept HB0.out (Nat.le_of_eq hP))
  have L1 := Lib.hid h1.1
  have L2 := Lib.hid h2.1
  have L3 := Lib.hid h3.1
  have L4 := Lib.hid h4.1
  have hb01 : Below W0.heap.size W0 (W0.alloc (.cells #[.int .i64 a.fr, .int .i64 a.to, .slice A1 n1 c1, .slice A2 n2 c2, .string a.be, .string a.af, .string a.sc, .string a.sr, .int .i64 b.fr, .int .i64 b.to, .slice A3 n3 c3, .slice A4 n4 c4, .string b.be, .string b.af, .string b.sc, .string b.sr] 27)) := (Below.refl _ _).alloc (Nat.le_refl _) _
  have HFW := Lib.hid (law_Few [a, b] (some ⟨W0.heap.size, 0, none⟩) 2 2 (W0.alloc (.cells #[.int .i64 a.fr, .int .i64 a.to, .slice A1 n1 c1, .slice A2 n2 c2, .string a.be, .string a.af, .string a.sc, .string a.sr, .int .i64 b.fr, .int .i64 b.to, .slice A3 n3 c3, .slice A4 n4 c4, .string b.be, .string b.af, .string b.sc, .string b.sr] 27)) (sld_two (BxC.new W0 _ _) (H1.out.kept hb01 (Nat.le_refl _)) (H2.out.kept hb01 (Nat.le_refl _)) (H3.out.kept hb01 (Nat.le_refl _)) (H4.out.kept hb01 (Nat.le_refl _))) (fun e he => by simp at he; rcases he with rfl | rfl; exact za; exact zb))
  have ZA := Lib.hid za
  have ZB := Lib.hid zb
  have p0 : W0.cell? ⟨P, 0, none⟩ = some (.int .i64 a.fr) := BxC.cell HP0.out 0
  have p1 : W0.cell? ⟨P, 1, none⟩ = some (.int .i64 a.to) := BxC.cell HP0.out 1
  have p2 : W0.cell? ⟨P, 2, none⟩ = some (.slice A1 n1 c1) := BxC.cell HP0.out 2
  have p3 : W0.cell? ⟨P, 3, none⟩ = some (.slice A2 n2 c2) := BxC.cell HP0.out 3
  have p4 : W0.cell? ⟨P, 4, none⟩ = some (.string a.be) := BxC.cell HP0.out 4
  have p5 : W0.cell? ⟨P, 5, none⟩ = some (.string a.af) := BxC.cell HP0.out 5
  have p6 : W0.cell? ⟨P, 6, none⟩ = some (.string a.sc) := BxC.cell HP0.out 6
  have p7 : W0.cell? ⟨P, 7, none⟩ = some (.string a.sr) := BxC.cell HP0.out 7
  have q0 : W0.cell? ⟨P + 1, 0, none⟩ = some (.int .i64 b.fr) := BxC.cell HQ0.out 0
  have q1 : W0.cell? ⟨P + 1, 1, none⟩ = some (.int .i64 b.to) := BxC.cell HQ0.out 1
  have q2 : W0.cell? ⟨P + 1, 2, none⟩ = some (.slice A3 n3 c3) := BxC.cell HQ0.out 2
  have q3 : W0.cell? ⟨P + 1, 3, none⟩ = some (.slice A4 n4 c4) := BxC.cell HQ0.out 3
  have q4 : W0.cell? ⟨P + 1, 4, none⟩ = some (.string b.be) := BxC.cell HQ0.out 4
  have q5 : W0.cell? ⟨P + 1, 5, none⟩ = some (.string b.af) := BxC.cell HQ0.out 5
  have q6 : W0.cell? ⟨P + 1, 6, none⟩ = some (.string b.sc) := BxC.cell HQ0.out 6
  have q7 : W0.cell? ⟨P + 1, 7, none⟩ = some (.string b.sr) := BxC.cell HQ0.out 7
  clear h1 h2 h3 h4 za zb hb01
  unfold Dl.arr at hW0
  unfold Dl.arr
  go_enter Try.func4, Try.ntmps4
  go_wp2_with fail
  refine HFW.out.mono ?_
  rintro e w1 ⟨bb, rfl, hf, hb⟩
  have hb1 : Below W0.heap.size W0 w1 := ((Below.refl _ _).alloc (Nat.le_refl _) _).trans (hb.mono (by simp))
  have HP1 := Lib.hid (HP0.out.next hb1)
  have HQ1 := Lib.hid (HQ0.out.next hb1)
  have HB1 := Lib.hid (HB0.out.trans (hb1.mono (by have := HW0.out; omega)))
  have HBB := Lib.hid hb1
  have HF := Lib.hid hf
  clear hb hb1 p0 p1 p2 p3 p4 p5 p6 p7 q0 q1 q2 q3 q4 q5 q6 q7 hW0 hf
  cases bb with
  | false =>
    go_wp2_with fail
    refine (law_awake _).mono ?_
    rintro e w2 ⟨rfl, hb⟩
    have HB2 := Lib.hid (HB1.out.trans (hb.mono (by have := HP1.out.lt; omega)))
    clear hb
    go_wp2
    go_ret
    exact ⟨rfl, by rw [HPE.out]; exact HB2.out⟩
  | true =>
    have hfa : FewD a := (HF.out (by trivial)).2 a (by simp)
    have hfb : FewD b := (HF.out (by trivial)).2 b (by simp)
    have g1 : n1 ≤ 20 := by have := hfa.ad.1; rw [L1.out] at this; exact this
    have g2 : n2 ≤ 20 := by have := hfa.rm.1; rw [L2.out] at this; exact this
    have g3 : n3 ≤ 20 := by have := hfb.ad.1; rw [L3.out] at this; exact this
    have g4 : n4 ≤ 20 := by have := hfb.rm.1; rw [L4.out] at this; exact this
    obtain ⟨D, e0, hj⟩ : ∃ D e0, jn a b = (D, e0) := ⟨_, _, rfl⟩
    have HJ := Lib.hid (ep_Join a b A1 A2 A3 A4 n1 c1 n2 c2 n3 c3 n4 c4 w1 (H1.out.kept HBB.out (Nat.le_refl _)) (H2.out.kept HBB.out (Nat.le_refl _)) (H3.out.kept HBB.out (Nat.le_refl _)) (H4.out.kept HBB.out (Nat.le_refl _)) (by omega) (by omega) (by omega) (by omega) ZA.out ZB.out)
    rw [hj] at HJ
    have HJJ := Lib.hid hj
    have p0 : w1.cell? ⟨P, 0, none⟩ = some (.int .i64 a.fr) := BxC.cell HP1.out 0
    have p1 : w1.cell? ⟨P, 1, none⟩ = some (.int .i64 a.to) := BxC.cell HP1.out 1
    have p2 : w1.cell? ⟨P, 2, none⟩ = some (.slice A1 n1 c1) := BxC.cell HP1.out 2
    have p3 : w1.cell? ⟨P, 3, none⟩ = some (.slice A2 n2 c2) := BxC.cell HP1.out 3
    have p4 : w1.cell? ⟨P, 4, none⟩ = some (.string a.be) := BxC.cell HP1.out 4
    have p5 : w1.cell? ⟨P, 5, none⟩ = some (.string a.af) := BxC.cell HP1.out 5
    have p6 : w1.cell? ⟨P, 6, none⟩ = some (.string a.sc) := BxC.cell HP1.out 6
    have p7 : w1.cell? ⟨P, 7, none⟩ = some (.string a.sr) := BxC.cell HP1.out 7
    have q0 : w1.cell? ⟨P + 1, 0, none⟩ = some (.int .i64 b.fr) := BxC.cell HQ1.out 0
    have q1 : w1.cell? ⟨P + 1, 1, none⟩ = some (.int .i64 b.to) := BxC.cell HQ1.out 1
    have q2 : w1.cell? ⟨P + 1, 2, none⟩ = some (.slice A3 n3 c3) := BxC.cell HQ1.out 2
    have q3 : w1.cell? ⟨P + 1, 3, none⟩ = some (.slice A4 n4 c4) := BxC.cell HQ1.out 3
    have q4 : w1.cell? ⟨P + 1, 4, none⟩ = some (.string b.be) := BxC.cell HQ1.out 4
    have q5 : w1.cell? ⟨P + 1, 5, none⟩ = some (.string b.af) := BxC.cell HQ1.out 5
    have q6 : w1.cell? ⟨P + 1, 6, none⟩ = some (.string b.sc) := BxC.cell HQ1.out 6
    have q7 : w1.cell? ⟨P + 1, 7, none⟩ = some (.string b.sr) := BxC.cell HQ1.out 7
    clear hfa hfb hj
    go_wp2_with fail
    refine (show Calls _ _ _ _ _ from HJ.out).mono ?_
    rintro e w2 ⟨A5, n5, c5, A6, n6, c6, rfl, hs5, hs6, hb⟩
    rw [show (D, e0).1.arr (.slice A5 n5 c5) (.slice A6 n6 c6) = #[.int .i64 D.fr, .int .i64 D.to, .slice A5 n5 c5, .slice A6 n6 c6, .string D.be, .string D.af, .string D.sc, .string D.sr] from rfl, show (D, e0).2 = e0 from rfl]
    have hb2 : Below w2.heap.size w2 (w2.alloc (.cells #[.int .i64 D.fr, .int .i64 D.to, .slice A5 n5 c5, .slice A6 n6 c6, .string D.be, .string D.af, .string D.sc, .string D.sr] 27)) := (Below.refl _ _).alloc (Nat.le_refl _) _
    have hb12 := hb.trans (hb2.mono hb.size)
    have hX2 : BxC (w2.alloc (.cells #[.int .i64 D.fr, .int .i64 D.to, .slice A5 n5 c5, .slice A6 n6 c6, .string D.be, .string D.af, .string D.sc, .string D.sr] 27)) w2.heap.size #[.int .i64 D.fr, .int .i64 D.to, .slice A5 n5 c5, .slice A6 n6 c6, .string D.be, .string D.af, .string D.sc, .string D.sr] 27 := BxC.new _ _ _
    have hs5' := hs5.kept hb2 (Nat.le_refl _)
    have hs6' := hs6.kept hb2 (Nat.le_refl _)
    have hp2 := HP1.out.next hb12
    have hq2 := HQ1.out.next hb12
    have HBB2 := Lib.hid (HBB.out.trans (hb12.mono HBB.out.size))
    have HB2 := Lib.hid (HB1.out.trans (hb12.mono (by have := HP1.out.lt; omega)))
    have HJ2 := Lib.hid (r37_Join a b A1 A2 A3 A4 n1 c1 n2 c2 n3 c3 n4 c4 (w2.alloc (.cells #[.int .i64 D.fr, .int .i64 D.to, .slice A5 n5 c5, .slice A6 n6 c6, .string D.be, .string D.af, .string D.sc, .string D.sr] 27)) (H1.out.kept HBB2.out (Nat.le_refl _)) (H2.out.kept HBB2.out (Nat.le_refl _)) (H3.out.kept HBB2.out (Nat.le_refl _)) (H4.out.kept HBB2.out (Nat.le_refl _)) (by omega) (by omega) (by omega) (by omega) ZA.out ZB.out)
    rw [HJJ.out] at HJ2
    clear p0 p1 p2 p3 p4 p5 p6 p7 q0 q1 q2 q3 q4 q5 q6 q7
    have p0 : (w2.alloc (.cells #[.int .i64 D.fr, .int .i64 D.to, .slice A5 n5 c5, .slice A6 n6 c6, .string D.be, .string D.af, .string D.sc, .string D.sr] 27)).cell? ⟨P, 0, none⟩ = some (.int .i64 a.fr) := BxC.cell hp2 0
    have p1 : (w2.alloc (.cells #[.int .i64 D.fr, .int .i64 D.to, .slice A5 n5 c5, .slice A6 n6 c6, .string D.be, .string D.af, .string D.sc, .string D.sr] 27)).cell? ⟨P, 1, none⟩ = some (.int .i64 a.to) := BxC.cell hp2 1
    have p2 : (w2.alloc (.cells #[.int .i64 D.fr, .int .i64 D.to, .slice A5 n5 c5, .slice A6 n6 c6, .string D.be, .string D.af, .string D.sc, .string D.sr] 27)).cell? ⟨P, 2, none⟩ = some (.slice A1 n1 c1) := BxC.cell hp2 2
    have p3 : (w2.alloc (.cells #[.int .i64 D.fr, .int .i64 D.to, .slice A5 n5 c5, .slice A6 n6 c6, .string D.be, .string D.af, .string D.sc, .string D.sr] 27)).cell? ⟨P, 3, none⟩ = some (.slice A2 n2 c2) := BxC.cell hp2 3
    have p4 : (w2.alloc (.cells #[.int .i64 D.fr, .int .i64 D.to, .slice A5 n5 c5, .slice A6 n6 c6, .string D.be, .string D.af, .string D.sc, .string D.sr] 27)).cell? ⟨P, 4, none⟩ = some (.string a.be) := BxC.cell hp2 4
    have p5 : (w2.alloc (.cells #[.int .i64 D.fr, .int .i64 D.to, .slice A5 n5 c5, .slice A6 n6 c6, .string D.be, .string D.af, .string D.sc, .string D.sr] 27)).cell? ⟨P, 5, none⟩ = some (.string a.af) := BxC.cell hp2 5
    have p6 : (w2.alloc (.cells #[.int .i64 D.fr, .int .i64 D.to, .slice A5 n5 c5, .slice A6 n6 c6, .string D.be, .string D.af, .string D.sc, .string D.sr] 27)).cell? ⟨P, 6, none⟩ = some (.string a.sc) := BxC.cell hp2 6
    have p7 : (w2.alloc (.cells #[.int .i64 D.fr, .int .i64 D.to, .slice A5 n5 c5, .slice A6 n6 c6, .string D.be, .string D.af, .string D.sc, .string D.sr] 27)).cell? ⟨P, 7, none⟩ = some (.string a.sr) := BxC.cell hp2 7
    have q0 : (w2.alloc (.cells #[.int .i64 D.fr, .int .i64 D.to, .slice A5 n5 c5, .slice A6 n6 c6, .string D.be, .string D.af, .string D.sc, .string D.sr] 27)).cell? ⟨P + 1, 0, none⟩ = some (.int .i64 b.fr) := BxC.cell hq2 0
    have q1 : (w2.alloc (.cells #[.int .i64 D.fr, .int .i64 D.to, .slice A5 n5 c5, .slice A6 n6 c6, .string D.be, .string D.af, .string D.sc, .string D.sr] 27)).cell? ⟨P + 1, 1, none⟩ = some (.int .i64 b.to) := BxC.cell hq2 1
    have q2 : (w2.alloc (.cells #[.int .i64 D.fr, .int .i64 D.to, .slice A5 n5 c5, .slice A6 n6 c6, .string D.be, .string D.af, .string D.sc, .string D.sr] 27)).cell? ⟨P + 1, 2, none⟩ = some (.slice A3 n3 c3) := BxC.cell hq2 2
    have q3 : (w2.alloc (.cells #[.int .i64 D.fr, .int .i64 D.to, .slice A5 n5 c5, .slice A6 n6 c6, .string D.be, .string D.af, .string D.sc, .string D.sr] 27)).cell? ⟨P + 1, 3, none⟩ = some (.slice A4 n4 c4) := BxC.cell hq2 3
    have q4 : (w2.alloc (.cells #[.int .i64 D.fr, .int .i64 D.to, .slice A5 n5 c5, .slice A6 n6 c6, .string D.be, .string D.af, .string D.sc, .string D.sr] 27)).cell? ⟨P + 1, 4, none⟩ = some (.string b.be) := BxC.cell hq2 4
    have q5 : (w2.alloc (.cells #[.int .i64 D.fr, .int .i64 D.to, .slice A5 n5 c5, .slice A6 n6 c6, .string D.be, .string D.af, .string D.sc, .string D.sr] 27)).cell? ⟨P + 1, 5, none⟩ = some (.string b.af) := BxC.cell hq2 5
    have q6 : (w2.alloc (.cells #[.int .i64 D.fr, .int .i64 D.to, .slice A5 n5 c5, .slice A6 n6 c6, .string D.be, .string D.af, .string D.sc, .string D.sr] 27)).cell? ⟨P + 1, 6, none⟩ = some (.string b.sc) := BxC.cell hq2 6
    have q7 : (w2.alloc (.cells #[.int .i64 D.fr, .int .i64 D.to, .slice A5 n5 c5, .slice A6 n6 c6, .string D.be, .string D.af, .string D.sc, .string D.sr] 27)).cell? ⟨P + 1, 7, none⟩ = some (.string b.sr) := BxC.cell hq2 7
    have HS5 := Lib.hid hs5'
    have HS6 := Lib.hid hs6'
    have HX2 := Lib.hid hX2
    have HQ2 := Lib.hid hp2
    clear hb hb2 hb12 hX2 hs5 hs6 hs5' hs6' hp2 hq2 HJ
    go_wp2_with fail
    refine (show Calls _ _ _ _ _ from HJ2.out).mono ?_
    rintro e w3 ⟨A7, n7, c7, A8, n8, c8, rfl, hs7, hs8, hb⟩
    rw [show (D, e0).1.arr (.slice A7 n7 c7) (.slice A8 n8 c8) = #[.int .i64 D.fr, .int .i64 D.to, .slice A7 n7 c7, .slice A8 n8 c8, .string D.be, .string D.af, .string D.sc, .string D.sr] from rfl, show (D, e0).2 = e0 from rfl]
    have hb3 : Below w3.heap.size w3 (w3.alloc (.cells #[.int .i64 D.fr, .int .i64 D.to, .slice A7 n7 c7, .slice A8 n8 c8, .string D.be, .string D.af, .string D.sc, .string D.sr] 27)) := (Below.refl _ _).alloc (Nat.le_refl _) _
    have hb23 := hb.trans (hb3.mono hb.size)
    have hX3 := HX2.out.next hb23
    have HSM := Lib.hid (r37_Same D A5 A6 A7 A8 n5 c5 n6 c6 n7 c7 n8 c8 (w3.alloc (.cells #[.int .i64 D.fr, .int .i64 D.to, .slice A7 n7 c7, .slice A8 n8 c8, .string D.be, .string D.af, .string D.sc, .string D.sr] 27)) (HS5.out.kept hb23 (Nat.le_refl _)) (HS6.out.kept hb23 (Nat.le_refl _)) (hs7.kept hb3 (Nat.le_refl _)) (hs8.kept hb3 (Nat.le_refl _)))
    have HB3 := Lib.hid (HB2.out.trans (hb23.mono (by have := HQ2.out.lt; omega)))
    have HL3 := Lib.hid (Nat.lt_of_lt_of_le HQ2.out.lt hb23.size)
    have k0 : (w3.alloc (.cells #[.int .i64 D.fr, .int .i64 D.to, .slice A7 n7 c7, .slice A8 n8 c8, .string D.be, .string D.af, .string D.sc, .string D.sr] 27)).cell? ⟨w2.heap.size, 0, none⟩ = some (.int .i64 D.fr) := BxC.cell hX3 0
    have k1 : (w3.alloc (.cells #[.int .i64 D.fr, .int .i64 D.to, .slice A7 n7 c7, .slice A8 n8 c8, .string D.be, .string D.af, .string D.sc, .string D.sr] 27)).cell? ⟨w2.heap.size, 1, none⟩ = some (.int .i64 D.to) := BxC.cell hX3 1
    have k2 : (w3.alloc (.cells #[.int .i64 D.fr, .int .i64 D.to, .slice A7 n7 c7, .slice A8 n8 c8, .string D.be, .string D.af, .string D.sc, .string D.sr] 27)).cell? ⟨w2.heap.size, 2, none⟩ = some (.slice A5 n5 c5) := BxC.cell hX3 2
    have k3 : (w3.alloc (.cells #[.int .i64 D.fr, .int .i64 D.to, .slice A7 n7 c7, .slice A8 n8 c8, .string D.be, .string D.af, .string D.sc, .string D.sr] 27)).cell? ⟨w2.heap.size, 3, none⟩ = some (.slice A6 n6 c6) := BxC.cell hX3 3
    have k4 : (w3.alloc (.cells #[.int .i64 D.fr, .int .i64 D.to, .slice A7 n7 c7, .slice A8 n8 c8, .string D.be, .string D.af, .string D.sc, .string D.sr] 27)).cell? ⟨w2.heap.size, 4, none⟩ = some (.string D.be) := BxC.cell hX3 4
    have k5 : (w3.alloc (.cells #[.int .i64 D.fr, .int .i64 D.to, .slice A7 n7 c7, .slice A8 n8 c8, .string D.be, .string D.af, .string D.sc, .string D.sr] 27)).cell? ⟨w2.heap.size, 5, none⟩ = some (.string D.af) := BxC.cell hX3 5
    have k6 : (w3.alloc (.cells #[.int .i64 D.fr, .int .i64 D.to, .slice A7 n7 c7, .slice A8 n8 c8, .string D.be, .string D.af, .string D.sc, .string D.sr] 27)).cell? ⟨w2.heap.size, 6, none⟩ = some (.string D.sc) := BxC.cell hX3 6
    have k7 : (w3.alloc (.cells #[.int .i64 D.fr, .int .i64 D.to, .slice A7 n7 c7, .slice A8 n8 c8, .string D.be, .string D.af, .string D.sc, .string D.sr] 27)).cell? ⟨w2.heap.size, 7, none⟩ = some (.string D.sr) := BxC.cell hX3 7
    clear hb hb3 hb23 hX3 hs7 hs8 p0 p1 p2 p3 p4 p5 p6 p7 q0 q1 q2 q3 q4 q5 q6 q7 HJ2
    go_wp2_with fail
    refine (show Calls _ _ _ _ _ from HSM.out).mono ?_
    rintro e w4 ⟨rfl, hb⟩
    have HB4 := Lib.hid (HB3.out.trans (hb.mono (by have := HL3.out; omega)))
    have HL4 := Lib.hid (Nat.lt_of_lt_of_le HL3.out hb.size)
    clear hb k0 k1 k2 k3 k4 k5 k6 k7
    go_wp2_with fail
    refine (law_awake _).mono ?_
    rintro e w5 ⟨rfl, hb⟩
    have HB5 := Lib.hid (HB4.out.trans (hb.mono (by have := HL4.out; omega)))
    clear hb
    go_wp2
    go_ret
    exact ⟨rfl, by rw [HPE.out]; exact HB5.out⟩
end Go.Proofs.Ytelhpdlegjgjjaa

/- Walk: dominolaw37.EpochlogMessages. -/
import Derived.Test.YtelhpdlegjgjjaaEpR
set_option linter.unusedVariables false
set_option linter.unusedSimpArgs false
namespace Go.Proofs.Ytelhpdlegjgjjaa
open Go.RowKit

theorem sld_one {w : World} {B : Nat} {d : Dl} {A A' : Option Addr} {n c n' c' : Nat} {T : TypeId} (h : BxC w B #[.int .i64 d.fr, .int .i64 d.to, .slice A n c, .slice A' n' c', .string d.be, .string d.af, .string d.sc, .string d.sr] T) (h1 : SlN w A n c d.ad) (h2 : SlN w A' n' c' d.rm) : SlD w (some ⟨B, 0, none⟩) 1 1 [d] := by
  refine ⟨rfl, Nat.le_refl _, by omega, B, 0, fun _ => rfl, fun k e hk => ?_⟩
  match k, hk with
  | 0, hk =>
    cases hk
    refine ⟨A, n, c, A', n', c', fun j u hu => ?_, h1, h2⟩
    rw [Nat.zero_mul, show 0 + 0 + j = j from by omega, h.cell j]
    have hj : j < 8 := (List.getElem?_eq_some_iff.1 hu).1
    rcases j with _ | _ | _ | _ | _ | _ | _ | _ | j <;> first | exact hu | omega
theorem sld_two {w : World} {B : Nat} {a b : Dl} {A1 A2 A3 A4 : Option Addr} {n1 c1 n2 c2 n3 c3 n4 c4 : Nat} {T : TypeId} (h : BxC w B #[.int .i64 a.fr, .int .i64 a.to, .slice A1 n1 c1, .slice A2 n2 c2, .string a.be, .string a.af, .string a.sc, .string a.sr, .int .i64 b.fr, .int .i64 b.to, .slice A3 n3 c3, .slice A4 n4 c4, .string b.be, .string b.af, .string b.sc, .string b.sr] T) (h1 : SlN w A1 n1 c1 a.ad) (h2 : SlN w A2 n2 c2 a.rm) (h3 : SlN w A3 n3 c3 b.ad) (h4 : SlN w A4 n4 c4 b.rm) : SlD w (some ⟨B, 0, none⟩) 2 2 [a, b] := by
  refine ⟨rfl, Nat.le_refl _, by omega, B, 0, fun _ => rfl, fun k e hk => ?_⟩
  match k, hk with
  | 0, hk =>
    cases hk
    refine ⟨A1, n1, c1, A2, n2, c2, fun j u hu => ?_, h1, h2⟩
    have hj := (List.getElem?_eq_some_iff.1 hu).1
    rw [Nat.zero_mul, show 0 + 0 + j = j from by omega, h.cell j]
    have : j < 8 := hj
    rcases j with _ | _ | _ | _ | _ | _ | _ | _ | j <;> first | exact hu | omega
  | 1, hk =>
    cases hk
    refine ⟨A3, n3, c3, A4, n4, c4, fun j u hu => ?_, h3, h4⟩
    have hj := (List.getElem?_eq_some_iff.1 hu).1
    rw [Nat.one_mul, show 0 + 8 + j = 8 + j from by omega, h.cell (8 + j)]
    have : j < 8 := hj
    rcases j with _ | _ | _ | _ | _ | _ | _ | _ | j <;> first | exact hu | omega
set_option maxRecDepth 100000 in
set_option maxHeartbeats 4000000 in
theorem law_Messages (d : Dl) (A A' : Option Addr) (n c n' c' : Nat) (w : World) (hs : SlN w A n c d.ad) (hs' : SlN w A' n' c' d.rm) (hz : SzL d.str) : Calls Try.prog 3 #[.agg (d.arr (.slice A n c) (.slice A' n' c'))] w (Ret (.bool true) w) := by
  obtain ⟨W0, hW0⟩ : ∃ W0, w.alloc (.cells (d.arr (.slice A n c) (.slice A' n' c')) 27) = W0 := ⟨_, rfl⟩
  obtain ⟨P, hP⟩ : ∃ P, w.heap.size = P := ⟨_, rfl⟩
  have HX0 := Lib.hid (show BxC W0 P (d.arr (.slice A n c) (.slice A' n' c')) 27 from by rw [← hW0, ← hP]; exact BxC.new w _ _)
  have HB0 := Lib.hid (show Below P w W0 from by rw [← hW0, ← hP]; exact (Below.refl _ _).alloc (Nat.le_refl _) _)
  have HW0 := Lib.hid (show P + 1 = W0.heap.size from by rw [← hW0, ← hP]; simp)
  have HPE := Lib.hid hP
  have hb01 : Below W0.heap.size W0 (W0.alloc (.cells #[.int .i64 d.fr, .int .i64 d.to, .slice A n c, .slice A' n' c', .string d.be, .string d.af, .string d.sc, .string d.sr] 27)) := (Below.refl _ _).alloc (Nat.le_refl _) _
  have HS := Lib.hid (hs.kept HB0.out (Nat.le_of_eq hP))
  have HS' := Lib.hid (hs'.kept HB0.out (Nat.le_of_eq hP))
  have HFW := Lib.hid (law_Few [d] (some ⟨W0.heap.size, 0, none⟩) 1 1 (W0.alloc (.cells #[.int .i64 d.fr, .int .i64 d.to, .slice A n c, .slice A' n' c', .string d.be, .string d.af, .string d.sc, .string d.sr] 27)) (sld_one (BxC.new W0 _ _) (HS.out.kept hb01 (Nat.le_refl _)) (HS'.out.kept hb01 (Nat.le_refl _))) (fun e he => by simp at he; subst he; exact hz))
  have HZ := Lib.hid hz
  have HN := Lib.hid hs.1
  have HN' := Lib.hid hs'.1
  have p0 : W0.cell? ⟨P, 0, none⟩ = some (.int .i64 d.fr) := BxC.cell HX0.out 0
  have p1 : W0.cell? ⟨P, 1, none⟩ = some (.int .i64 d.to) := BxC.cell HX0.out 1
  have p2 : W0.cell? ⟨P, 2, none⟩ = some (.slice A n c) := BxC.cell HX0.out 2
  have p3 : W0.cell? ⟨P, 3, none⟩ = some (.slice A' n' c') := BxC.cell HX0.out 3
  have p4 : W0.cell? ⟨P, 4, none⟩ = some (.string d.be) := BxC.cell HX0.out 4
  have p5 : W0.cell? ⟨P, 5, none⟩ = some (.string d.af) := BxC.cell HX0.out 5
  have p6 : W0.cell? ⟨P, 6, none⟩ = some (.string d.sc) := BxC.cell HX0.out 6
  have p7 : W0.cell? ⟨P, 7, none⟩ = some (.string d.sr) := BxC.cell HX0.out 7
  clear hs hs' hz hb01
  unfold Dl.arr at hW0 ⊢
  go_enter Try.func3, Try.ntmps3
  go_wp2_with fail
  refine HFW.out.mono ?_
  rintro e w1 ⟨b, rfl, hf, hb⟩
  have hb1 : Below W0.heap.size W0 w1 := ((Below.refl _ _).alloc (Nat.le_refl _) _).trans (hb.mono (by simp))
  have HX1 := Lib.hid (HX0.out.next hb1)
  have HB1 := Lib.hid (HB0.out.trans (hb1.mono (by have := HW0.out; omega)))
  have HS1 := Lib.hid (HS.out.kept hb1 (Nat.le_refl _))
  have HS1' := Lib.hid (HS'.out.kept hb1 (Nat.le_refl _))
  have HF := Lib.hid hf
  clear hb hb1 p0 p1 p2 p3 p4 p5 p6 p7 hW0 hf
  cases b with
  | false =>
    go_wp2_with fail
    refine (law_awake _).mono ?_
    rintro e w2 ⟨rfl, hb⟩
    have HB2 := Lib.hid (HB1.out.trans (hb.mono (by have := HX1.out.lt; omega)))
    clear hb
    go_wp2
    go_ret
    exact ⟨rfl, by rw [HPE.out]; exact HB2.out⟩
  | true =>
    have hfd : FewD d := (HF.out (by trivial)).2 d (by simp)
    have hn : n ≤ 20 := by have := hfd.ad.1; rw [HN.out] at this; exact this
    have hn' : n' ≤ 20 := by have := hfd.rm.1; rw [HN'.out] at this; exact this
    have p0 : w1.cell? ⟨P, 0, none⟩ = some (.int .i64 d.fr) := BxC.cell HX1.out 0
    have p1 : w1.cell? ⟨P, 1, none⟩ = some (.int .i64 d.to) := BxC.cell HX1.out 1
    have p2 : w1.cell? ⟨P, 2, none⟩ = some (.slice A n c) := BxC.cell HX1.out 2
    have p3 : w1.cell? ⟨P, 3, none⟩ = some (.slice A' n' c') := BxC.cell HX1.out 3
    have p4 : w1.cell? ⟨P, 4, none⟩ = some (.string d.be) := BxC.cell HX1.out 4
    have p5 : w1.cell? ⟨P, 5, none⟩ = some (.string d.af) := BxC.cell HX1.out 5
    have p6 : w1.cell? ⟨P, 6, none⟩ = some (.string d.sc) := BxC.cell HX1.out 6
    have p7 : w1.cell? ⟨P, 7, none⟩ = some (.string d.sr) := BxC.cell HX1.out 7
    have HM := Lib.hid (ep_Message d A A' n c n' c' w1 HS1.out HS1'.out (by omega) (by omega) HZ.out)
    clear hfd
    go_wp2_with fail
    refine (show Calls _ _ _ _ _ from HM.out).mono ?_
    rintro e w2 ⟨rfl, hb⟩
    have HX2 := Lib.hid (HX1.out.next hb)
    have HB2 := Lib.hid (HB1.out.trans (hb.mono (by have := HX1.out.lt; omega)))
    have HM2 := Lib.hid (r37_Message d A A' n c n' c' w2 (HS1.out.kept hb (Nat.le_refl _)) (HS1'.out.kept hb (Nat.le_refl _)) (by omega) (by omega) HZ.out)
    obtain ⟨r1, e1, hr⟩ : ∃ r1 e1, d.msg = (r1, e1) := ⟨_, _, rfl⟩
    rw [hr] at HM2 ⊢
    clear hb p0 p1 p2 p3 p4 p5 p6 p7 hr HM
    have p0 : w2.cell? ⟨P, 0, none⟩ = some (.int .i64 d.fr) := BxC.cell HX2.out 0
    have p1 : w2.cell? ⟨P, 1, none⟩ = some (.int .i64 d.to) := BxC.cell HX2.out 1
    have p2 : w2.cell? ⟨P, 2, none⟩ = some (.slice A n c) := BxC.cell HX2.out 2
    have p3 : w2.cell? ⟨P, 3, none⟩ = some (.slice A' n' c') := BxC.cell HX2.out 3
    have p4 : w2.cell? ⟨P, 4, none⟩ = some (.string d.be) := BxC.cell HX2.out 4
    have p5 : w2.cell? ⟨P, 5, none⟩ = some (.string d.af) := BxC.cell HX2.out 5
    have p6 : w2.cell? ⟨P, 6, none⟩ = some (.string d.sc) := BxC.cell HX2.out 6
    have p7 : w2.cell? ⟨P, 7, none⟩ = some (.string d.sr) := BxC.cell HX2.out 7
    go_wp2_with fail
    refine (show Calls _ _ _ _ _ from HM2.out).mono ?_
    rintro e w3 ⟨rfl, hb⟩
    have HB3 := Lib.hid (HB2.out.trans (hb.mono (by have := HX2.out.lt; omega)))
    have HL3 := Lib.hid (Nat.lt_of_lt_of_le HX2.out.lt hb.size)
    clear hb p0 p1 p2 p3 p4 p5 p6 p7
    go_wp2_with fail
    refine (law_awake _).mono ?_
    rintro e w4 ⟨rfl, hb⟩
    have HB4 := Lib.hid (HB3.out.trans (hb.mono (by have := HL3.out; omega)))
    clear hb
    go_wp2
    go_ret
    exact ⟨rfl, by rw [HPE.out]; exact HB4.out⟩
end Go.Proofs.Ytelhpdlegjgjjaa

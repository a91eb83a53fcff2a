/- Walk: dominolaw37.EpochlogAssociates. -/
import Derived.Test.YtelhpdlegjgjjaaEpZa
import Derived.Test.YtelhpdlegjgjjaaEpR
set_option linter.unusedVariables false
set_option linter.unusedSimpArgs false
namespace Go.Proofs.Ytelhpdlegjgjjaa
open Go.RowKit

set_option maxRecDepth 100000 in
set_option maxHeartbeats 4000000 in
theorem law_Associates (l : List Dl) (A : Option Addr) (n c : Nat) (k : Int) (w : World) (hs : SlD w A n c l) (hz : SzD l) :
    Calls Try.prog 6 #[.slice A n c, .int .i64 k] w (Ret (.bool true) w) := by
  have HS := Lib.hid hs
  have HZ := Lib.hid hz
  have HLEN := Lib.hid hs.1
  have HFW := Lib.hid (law_Few l A n c w hs hz)
  clear hs hz
  go_enter Try.func6, Try.ntmps6
  go_wp2_with fail
  refine HFW.out.mono ?_
  rintro e w1 ⟨bb, rfl, hf, hb⟩
  have HB1 := Lib.hid hb
  have HF := Lib.hid hf
  have HS1 := Lib.hid (HS.out.kept hb (Nat.le_refl _))
  clear hb hf
  cases bb with
  | false =>
    go_wp2_with fail
    refine (law_awake _).mono ?_
    rintro e w9 ⟨rfl, hb⟩
    have HB9 := Lib.hid (HB1.out.trans (hb.mono HB1.out.size))
    clear hb
    go_wp2
    go_ret
    exact ⟨rfl, HB9.out⟩
  | true =>
    have hn : n ≤ 12 := (HF.out (by trivial)).1
    have HFF := Lib.hid (HF.out (by trivial)).2
    clear HF
    by_cases h2 : n < 2
    · have d1 : decide ((n : Int) < 2) = true := decide_eq_true (by omega)
      have d2 : decide (n < 2) = true := decide_eq_true h2
      clear h2
      go_wp2_with fail
      refine (law_awake _).mono ?_
      rintro e w9 ⟨rfl, hb⟩
      have HB9 := Lib.hid (HB1.out.trans (hb.mono HB1.out.size))
      clear hb
      go_wp2
      go_ret
      exact ⟨rfl, HB9.out⟩
    · have d1 : decide ((n : Int) < 2) = false := decide_eq_false (by omega)
      have d2 : decide (n < 2) = false := decide_eq_false h2
      have hnz : ((n : Int) == 0) = false := by simp only [beq_eq_false_iff_ne]; omega
      have hnz' : (n == 0) = false := by simp only [beq_eq_false_iff_ne]; omega
      have hlt := Int.tmod_lt_of_pos k (show (0 : Int) < (n : Int) from by omega)
      by_cases hk : k.tmod n ≤ 0
      · have d3 : decide (k.tmod (n : Int) ≤ 0) = true := decide_eq_true hk
        clear hlt hk
        obtain ⟨D1, e1, hj1⟩ : ∃ D1 e1, bt l 0 1 = (D1, e1) := ⟨_, _, rfl⟩
        obtain ⟨D2, e2, hj2⟩ : ∃ D2 e2, bt l 1 n = (D2, e2) := ⟨_, _, rfl⟩
        obtain ⟨D3, e3, hj3⟩ : ∃ D3 e3, bt l 0 n = (D3, e3) := ⟨_, _, rfl⟩
        have HJ1 := Lib.hid hj1
        have HJ2 := Lib.hid hj2
        have HJ3 := Lib.hid hj3
        clear hj1 hj2 hj3
        have HC := Lib.hid (ep_Between l A n c 0 1 w1 HS1.out hn HFF.out HZ.out)
        rw [HJ1.out] at HC
        go_wp2_with fail
        refine (show Calls _ _ _ _ _ from HC.out).mono ?_
        rintro e w2 ⟨A1, n1, c1, B1, m1, d1, rfl, hs1, hs2, hb⟩
        clear HC
        rw [show (D1, e1).1.arr (.slice A1 n1 c1) (.slice B1 m1 d1) = #[.int .i64 D1.fr, .int .i64 D1.to, .slice A1 n1 c1, .slice B1 m1 d1, .string D1.be, .string D1.af, .string D1.sc, .string D1.sr] from rfl, show (D1, e1).2 = e1 from rfl]
        have hb2 : Below w2.heap.size w2 (w2.alloc (.cells #[.int .i64 D1.fr, .int .i64 D1.to, .slice A1 n1 c1, .slice B1 m1 d1, .string D1.be, .string D1.af, .string D1.sc, .string D1.sr] 27)) := (Below.refl _ _).alloc (Nat.le_refl _) _
        have hb12 := hb.trans (hb2.mono hb.size)
        have HS2 := Lib.hid (HS1.out.kept hb12 (Nat.le_refl _))
        have HB2 := Lib.hid (HB1.out.trans (hb12.mono HB1.out.size))
        have HX1 := Lib.hid (BxC.new w2 #[.int .i64 D1.fr, .int .i64 D1.to, .slice A1 n1 c1, .slice B1 m1 d1, .string D1.be, .string D1.af, .string D1.sc, .string D1.sr] 27)
        have HU1 := Lib.hid (hs1.kept hb2 (Nat.le_refl _))
        have HV1 := Lib.hid (hs2.kept hb2 (Nat.le_refl _))
        clear hb hb2 hb12 hs1 hs2
        have HC := Lib.hid (ep_Between l A n c 1 n (w2.alloc (.cells #[.int .i64 D1.fr, .int .i64 D1.to, .slice A1 n1 c1, .slice B1 m1 d1, .string D1.be, .string D1.af, .string D1.sc, .string D1.sr] 27)) HS2.out hn HFF.out HZ.out)
        rw [HJ2.out] at HC
        go_wp2_with fail
        refine (show Calls _ _ _ _ _ from HC.out).mono ?_
        rintro e w3 ⟨A2, n2, c2, B2, m2, d2, rfl, hs1, hs2, hb⟩
        clear HC
        rw [show (D2, e2).1.arr (.slice A2 n2 c2) (.slice B2 m2 d2) = #[.int .i64 D2.fr, .int .i64 D2.to, .slice A2 n2 c2, .slice B2 m2 d2, .string D2.be, .string D2.af, .string D2.sc, .string D2.sr] from rfl, show (D2, e2).2 = e2 from rfl]
        have hb2 : Below w3.heap.size w3 (w3.alloc (.cells #[.int .i64 D2.fr, .int .i64 D2.to, .slice A2 n2 c2, .slice B2 m2 d2, .string D2.be, .string D2.af, .string D2.sc, .string D2.sr] 27)) := (Below.refl _ _).alloc (Nat.le_refl _) _
        have hb12 := hb.trans (hb2.mono hb.size)
        have HS3 := Lib.hid (HS2.out.kept hb12 (Nat.le_refl _))
        have HB3 := Lib.hid (HB2.out.trans (hb12.mono HB2.out.size))
        have HX2 := Lib.hid (BxC.new w3 #[.int .i64 D2.fr, .int .i64 D2.to, .slice A2 n2 c2, .slice B2 m2 d2, .string D2.be, .string D2.af, .string D2.sc, .string D2.sr] 27)
        have HU2 := Lib.hid (hs1.kept hb2 (Nat.le_refl _))
        have HV2 := Lib.hid (hs2.kept hb2 (Nat.le_refl _))
        have HX1 := Lib.hid (HX1.out.next hb12)
        have HU1 := Lib.hid (HU1.out.kept hb12 (Nat.le_refl _))
        have HV1 := Lib.hid (HV1.out.kept hb12 (Nat.le_refl _))
        clear hb hb2 hb12 hs1 hs2
        have HC := Lib.hid (ep_Between l A n c 0 n (w3.alloc (.cells #[.int .i64 D2.fr, .int .i64 D2.to, .slice A2 n2 c2, .slice B2 m2 d2, .string D2.be, .string D2.af, .string D2.sc, .string D2.sr] 27)) HS3.out hn HFF.out HZ.out)
        rw [HJ3.out] at HC
        go_wp2_with fail
        refine (show Calls _ _ _ _ _ from HC.out).mono ?_
        rintro e w4 ⟨A3, n3, c3, B3, m3, d3, rfl, hs1, hs2, hb⟩
        clear HC
        rw [show (D3, e3).1.arr (.slice A3 n3 c3) (.slice B3 m3 d3) = #[.int .i64 D3.fr, .int .i64 D3.to, .slice A3 n3 c3, .slice B3 m3 d3, .string D3.be, .string D3.af, .string D3.sc, .string D3.sr] from rfl, show (D3, e3).2 = e3 from rfl]
        have hb2 : Below w4.heap.size w4 (w4.alloc (.cells #[.int .i64 D3.fr, .int .i64 D3.to, .slice A3 n3 c3, .slice B3 m3 d3, .string D3.be, .string D3.af, .string D3.sc, .string D3.sr] 27)) := (Below.refl _ _).alloc (Nat.le_refl _) _
        have hb12 := hb.trans (hb2.mono hb.size)
        have HS4 := Lib.hid (HS3.out.kept hb12 (Nat.le_refl _))
        have HB4 := Lib.hid (HB3.out.trans (hb12.mono HB3.out.size))
        have HX3 := Lib.hid (BxC.new w4 #[.int .i64 D3.fr, .int .i64 D3.to, .slice A3 n3 c3, .slice B3 m3 d3, .string D3.be, .string D3.af, .string D3.sc, .string D3.sr] 27)
        have HU3 := Lib.hid (hs1.kept hb2 (Nat.le_refl _))
        have HV3 := Lib.hid (hs2.kept hb2 (Nat.le_refl _))
        have HX1 := Lib.hid (HX1.out.next hb12)
        have HU1 := Lib.hid (HU1.out.kept hb12 (Nat.le_refl _))
        have HV1 := Lib.hid (HV1.out.kept hb12 (Nat.le_refl _))
        have HX2 := Lib.hid (HX2.out.next hb12)
        have HU2 := Lib.hid (HU2.out.kept hb12 (Nat.le_refl _))
        have HV2 := Lib.hid (HV2.out.kept hb12 (Nat.le_refl _))
        clear hb hb2 hb12 hs1 hs2
        by_cases z1 : e1 = 0
        · subst z1
          by_cases z2 : e2 = 0
          · subst z2
            by_cases z3 : e3 = 0
            · subst z3
              have HAS := Lib.hid (assoc_plain (s := 1) (by rw [HLEN.out]; exact hn) (by omega) (by rw [HLEN.out]; omega) HFF.out HJ1.out (by rw [HLEN.out]; exact HJ2.out) (by rw [HLEN.out]; exact HJ3.out))
              have hl1 := HAS.out.2.1.1.la
              have hl2 := HAS.out.2.1.1.lr
              have hl3 := HAS.out.2.2.1.la
              have hl4 := HAS.out.2.2.1.lr
              have HC := Lib.hid (ep_Join D1 D2 A1 B1 A2 B2 n1 c1 m1 d1 n2 c2 m2 d2 (w4.alloc (.cells #[.int .i64 D3.fr, .int .i64 D3.to, .slice A3 n3 c3, .slice B3 m3 d3, .string D3.be, .string D3.af, .string D3.sc, .string D3.sr] 27)) HU1.out HV1.out HU2.out HV2.out (by have := HU1.out.1; omega) (by have := HV1.out.1; omega) (by have := HU2.out.1; omega) (by have := HV2.out.1; omega) HAS.out.2.1.2 HAS.out.2.2.2)
              rw [HAS.out.1] at HC
              have p10 : (w4.alloc (.cells #[.int .i64 D3.fr, .int .i64 D3.to, .slice A3 n3 c3, .slice B3 m3 d3, .string D3.be, .string D3.af, .string D3.sc, .string D3.sr] 27)).cell? ⟨w2.heap.size, 0, none⟩ = some (.int .i64 D1.fr) := BxC.cell HX1.out 0
              have p11 : (w4.alloc (.cells #[.int .i64 D3.fr, .int .i64 D3.to, .slice A3 n3 c3, .slice B3 m3 d3, .string D3.be, .string D3.af, .string D3.sc, .string D3.sr] 27)).cell? ⟨w2.heap.size, 1, none⟩ = some (.int .i64 D1.to) := BxC.cell HX1.out 1
              have p12 : (w4.alloc (.cells #[.int .i64 D3.fr, .int .i64 D3.to, .slice A3 n3 c3, .slice B3 m3 d3, .string D3.be, .string D3.af, .string D3.sc, .string D3.sr] 27)).cell? ⟨w2.heap.size, 2, none⟩ = some (.slice A1 n1 c1) := BxC.cell HX1.out 2
              have p13 : (w4.alloc (.cells #[.int .i64 D3.fr, .int .i64 D3.to, .slice A3 n3 c3, .slice B3 m3 d3, .string D3.be, .string D3.af, .string D3.sc, .string D3.sr] 27)).cell? ⟨w2.heap.size, 3, none⟩ = some (.slice B1 m1 d1) := BxC.cell HX1.out 3
              have p14 : (w4.alloc (.cells #[.int .i64 D3.fr, .int .i64 D3.to, .slice A3 n3 c3, .slice B3 m3 d3, .string D3.be, .string D3.af, .string D3.sc, .string D3.sr] 27)).cell? ⟨w2.heap.size, 4, none⟩ = some (.string D1.be) := BxC.cell HX1.out 4
              have p15 : (w4.alloc (.cells #[.int .i64 D3.fr, .int .i64 D3.to, .slice A3 n3 c3, .slice B3 m3 d3, .string D3.be, .string D3.af, .string D3.sc, .string D3.sr] 27)).cell? ⟨w2.heap.size, 5, none⟩ = some (.string D1.af) := BxC.cell HX1.out 5
              have p16 : (w4.alloc (.cells #[.int .i64 D3.fr, .int .i64 D3.to, .slice A3 n3 c3, .slice B3 m3 d3, .string D3.be, .string D3.af, .string D3.sc, .string D3.sr] 27)).cell? ⟨w2.heap.size, 6, none⟩ = some (.string D1.sc) := BxC.cell HX1.out 6
              have p17 : (w4.alloc (.cells #[.int .i64 D3.fr, .int .i64 D3.to, .slice A3 n3 c3, .slice B3 m3 d3, .string D3.be, .string D3.af, .string D3.sc, .string D3.sr] 27)).cell? ⟨w2.heap.size, 7, none⟩ = some (.string D1.sr) := BxC.cell HX1.out 7
              have p20 : (w4.alloc (.cells #[.int .i64 D3.fr, .int .i64 D3.to, .slice A3 n3 c3, .slice B3 m3 d3, .string D3.be, .string D3.af, .string D3.sc, .string D3.sr] 27)).cell? ⟨w3.heap.size, 0, none⟩ = some (.int .i64 D2.fr) := BxC.cell HX2.out 0
              have p21 : (w4.alloc (.cells #[.int .i64 D3.fr, .int .i64 D3.to, .slice A3 n3 c3, .slice B3 m3 d3, .string D3.be, .string D3.af, .string D3.sc, .string D3.sr] 27)).cell? ⟨w3.heap.size, 1, none⟩ = some (.int .i64 D2.to) := BxC.cell HX2.out 1
              have p22 : (w4.alloc (.cells #[.int .i64 D3.fr, .int .i64 D3.to, .slice A3 n3 c3, .slice B3 m3 d3, .string D3.be, .string D3.af, .string D3.sc, .string D3.sr] 27)).cell? ⟨w3.heap.size, 2, none⟩ = some (.slice A2 n2 c2) := BxC.cell HX2.out 2
              have p23 : (w4.alloc (.cells #[.int .i64 D3.fr, .int .i64 D3.to, .slice A3 n3 c3, .slice B3 m3 d3, .string D3.be, .string D3.af, .string D3.sc, .string D3.sr] 27)).cell? ⟨w3.heap.size, 3, none⟩ = some (.slice B2 m2 d2) := BxC.cell HX2.out 3
              have p24 : (w4.alloc (.cells #[.int .i64 D3.fr, .int .i64 D3.to, .slice A3 n3 c3, .slice B3 m3 d3, .string D3.be, .string D3.af, .string D3.sc, .string D3.sr] 27)).cell? ⟨w3.heap.size, 4, none⟩ = some (.string D2.be) := BxC.cell HX2.out 4
              have p25 : (w4.alloc (.cells #[.int .i64 D3.fr, .int .i64 D3.to, .slice A3 n3 c3, .slice B3 m3 d3, .string D3.be, .string D3.af, .string D3.sc, .string D3.sr] 27)).cell? ⟨w3.heap.size, 5, none⟩ = some (.string D2.af) := BxC.cell HX2.out 5
              have p26 : (w4.alloc (.cells #[.int .i64 D3.fr, .int .i64 D3.to, .slice A3 n3 c3, .slice B3 m3 d3, .string D3.be, .string D3.af, .string D3.sc, .string D3.sr] 27)).cell? ⟨w3.heap.size, 6, none⟩ = some (.string D2.sc) := BxC.cell HX2.out 6
              have p27 : (w4.alloc (.cells #[.int .i64 D3.fr, .int .i64 D3.to, .slice A3 n3 c3, .slice B3 m3 d3, .string D3.be, .string D3.af, .string D3.sc, .string D3.sr] 27)).cell? ⟨w3.heap.size, 7, none⟩ = some (.string D2.sr) := BxC.cell HX2.out 7
              clear hl1 hl2 hl3 hl4
              go_wp2_with fail
              refine (show Calls _ _ _ _ _ from HC.out).mono ?_
              rintro e w5 ⟨A4, n4, c4, B4, m4, d4, rfl, hs1, hs2, hb⟩
              clear HC p10 p11 p12 p13 p14 p15 p16 p17 p20 p21 p22 p23 p24 p25 p26 p27
              rw [show (D3, (0 : Int)).1.arr (.slice A4 n4 c4) (.slice B4 m4 d4) = #[.int .i64 D3.fr, .int .i64 D3.to, .slice A4 n4 c4, .slice B4 m4 d4, .string D3.be, .string D3.af, .string D3.sc, .string D3.sr] from rfl, show (D3, (0 : Int)).2 = 0 from rfl]
              have hb2 : Below w5.heap.size w5 (w5.alloc (.cells #[.int .i64 D3.fr, .int .i64 D3.to, .slice A4 n4 c4, .slice B4 m4 d4, .string D3.be, .string D3.af, .string D3.sc, .string D3.sr] 27)) := (Below.refl _ _).alloc (Nat.le_refl _) _
              have hb12 := hb.trans (hb2.mono hb.size)
              have hX3 := HX3.out.next hb12
              have HB5 := Lib.hid (HB4.out.trans (hb12.mono HB4.out.size))
              have HSM := Lib.hid (r37_Same D3 A4 B4 A3 B3 n4 c4 m4 d4 n3 c3 m3 d3 (w5.alloc (.cells #[.int .i64 D3.fr, .int .i64 D3.to, .slice A4 n4 c4, .slice B4 m4 d4, .string D3.be, .string D3.af, .string D3.sc, .string D3.sr] 27)) (hs1.kept hb2 (Nat.le_refl _)) (hs2.kept hb2 (Nat.le_refl _)) (HU3.out.kept hb12 (Nat.le_refl _)) (HV3.out.kept hb12 (Nat.le_refl _)))
              have k0 : (w5.alloc (.cells #[.int .i64 D3.fr, .int .i64 D3.to, .slice A4 n4 c4, .slice B4 m4 d4, .string D3.be, .string D3.af, .string D3.sc, .string D3.sr] 27)).cell? ⟨w4.heap.size, 0, none⟩ = some (.int .i64 D3.fr) := BxC.cell hX3 0
              have k1 : (w5.alloc (.cells #[.int .i64 D3.fr, .int .i64 D3.to, .slice A4 n4 c4, .slice B4 m4 d4, .string D3.be, .string D3.af, .string D3.sc, .string D3.sr] 27)).cell? ⟨w4.heap.size, 1, none⟩ = some (.int .i64 D3.to) := BxC.cell hX3 1
              have k2 : (w5.alloc (.cells #[.int .i64 D3.fr, .int .i64 D3.to, .slice A4 n4 c4, .slice B4 m4 d4, .string D3.be, .string D3.af, .string D3.sc, .string D3.sr] 27)).cell? ⟨w4.heap.size, 2, none⟩ = some (.slice A3 n3 c3) := BxC.cell hX3 2
              have k3 : (w5.alloc (.cells #[.int .i64 D3.fr, .int .i64 D3.to, .slice A4 n4 c4, .slice B4 m4 d4, .string D3.be, .string D3.af, .string D3.sc, .string D3.sr] 27)).cell? ⟨w4.heap.size, 3, none⟩ = some (.slice B3 m3 d3) := BxC.cell hX3 3
              have k4 : (w5.alloc (.cells #[.int .i64 D3.fr, .int .i64 D3.to, .slice A4 n4 c4, .slice B4 m4 d4, .string D3.be, .string D3.af, .string D3.sc, .string D3.sr] 27)).cell? ⟨w4.heap.size, 4, none⟩ = some (.string D3.be) := BxC.cell hX3 4
              have k5 : (w5.alloc (.cells #[.int .i64 D3.fr, .int .i64 D3.to, .slice A4 n4 c4, .slice B4 m4 d4, .string D3.be, .string D3.af, .string D3.sc, .string D3.sr] 27)).cell? ⟨w4.heap.size, 5, none⟩ = some (.string D3.af) := BxC.cell hX3 5
              have k6 : (w5.alloc (.cells #[.int .i64 D3.fr, .int .i64 D3.to, .slice A4 n4 c4, .slice B4 m4 d4, .string D3.be, .string D3.af, .string D3.sc, .string D3.sr] 27)).cell? ⟨w4.heap.size, 6, none⟩ = some (.string D3.sc) := BxC.cell hX3 6
              have k7 : (w5.alloc (.cells #[.int .i64 D3.fr, .int .i64 D3.to, .slice A4 n4 c4, .slice B4 m4 d4, .string D3.be, .string D3.af, .string D3.sc, .string D3.sr] 27)).cell? ⟨w4.heap.size, 7, none⟩ = some (.string D3.sr) := BxC.cell hX3 7
              clear hb hb2 hb12 hX3 hs1 hs2
              go_wp2_with fail
              refine (show Calls _ _ _ _ _ from HSM.out).mono ?_
              rintro e w6 ⟨rfl, hb⟩
              have HB6 := Lib.hid (HB5.out.trans (hb.mono HB5.out.size))
              clear hb k0 k1 k2 k3 k4 k5 k6 k7
              go_wp2_with fail
              refine (law_awake _).mono ?_
              rintro e w9 ⟨rfl, hb⟩
              have HB9 := Lib.hid (HB6.out.trans (hb.mono HB6.out.size))
              clear hb
              go_wp2
              go_ret
              exact ⟨rfl, HB9.out⟩
            · have q3 : (e3 != 0) = true := by simpa using z3
              go_wp2_with fail
              refine (law_awake _).mono ?_
              rintro e w9 ⟨rfl, hb⟩
              have HB9 := Lib.hid (HB4.out.trans (hb.mono HB4.out.size))
              clear hb
              go_wp2
              go_ret
              exact ⟨rfl, HB9.out⟩
          · have q2 : (e2 != 0) = true := by simpa using z2
            go_wp2_with fail
            refine (law_awake _).mono ?_
            rintro e w9 ⟨rfl, hb⟩
            have HB9 := Lib.hid (HB4.out.trans (hb.mono HB4.out.size))
            clear hb
            go_wp2
            go_ret
            exact ⟨rfl, HB9.out⟩
        · have q1 : (e1 != 0) = true := by simpa using z1
          go_wp2_with fail
          refine (law_awake _).mono ?_
          rintro e w9 ⟨rfl, hb⟩
          have HB9 := Lib.hid (HB4.out.trans (hb.mono HB4.out.size))
          clear hb
          go_wp2
          go_ret
          exact ⟨rfl, HB9.out⟩
      · obtain ⟨s, hs⟩ : ∃ s : Nat, k.tmod (n : Int) = (s : Int) := ⟨(k.tmod n).toNat, by omega⟩
        have hs0 : 0 < s := by omega
        have hsn : s < n := by omega
        have d3 : decide ((s : Int) ≤ 0) = false := decide_eq_false (by omega)
        have d3' : decide (s ≤ 0) = false := decide_eq_false (by omega)
        clear hlt hk
        obtain ⟨D1, e1, hj1⟩ : ∃ D1 e1, bt l 0 s = (D1, e1) := ⟨_, _, rfl⟩
        obtain ⟨D2, e2, hj2⟩ : ∃ D2 e2, bt l s n = (D2, e2) := ⟨_, _, rfl⟩
        obtain ⟨D3, e3, hj3⟩ : ∃ D3 e3, bt l 0 n = (D3, e3) := ⟨_, _, rfl⟩
        have HJ1 := Lib.hid hj1
        have HJ2 := Lib.hid hj2
        have HJ3 := Lib.hid hj3
        clear hj1 hj2 hj3
        have HC := Lib.hid (ep_Between l A n c 0 s w1 HS1.out hn HFF.out HZ.out)
        rw [HJ1.out] at HC
        go_wp2_with fail
        refine (show Calls _ _ _ _ _ from HC.out).mono ?_
        rintro e w2 ⟨A1, n1, c1, B1, m1, d1, rfl, hs1, hs2, hb⟩
        clear HC
        rw [show (D1, e1).1.arr (.slice A1 n1 c1) (.slice B1 m1 d1) = #[.int .i64 D1.fr, .int .i64 D1.to, .slice A1 n1 c1, .slice B1 m1 d1, .string D1.be, .string D1.af, .string D1.sc, .string D1.sr] from rfl, show (D1, e1).2 = e1 from rfl]
        have hb2 : Below w2.heap.size w2 (w2.alloc (.cells #[.int .i64 D1.fr, .int .i64 D1.to, .slice A1 n1 c1, .slice B1 m1 d1, .string D1.be, .string D1.af, .string D1.sc, .string D1.sr] 27)) := (Below.refl _ _).alloc (Nat.le_refl _) _
        have hb12 := hb.trans (hb2.mono hb.size)
        have HS2 := Lib.hid (HS1.out.kept hb12 (Nat.le_refl _))
        have HB2 := Lib.hid (HB1.out.trans (hb12.mono HB1.out.size))
        have HX1 := Lib.hid (BxC.new w2 #[.int .i64 D1.fr, .int .i64 D1.to, .slice A1 n1 c1, .slice B1 m1 d1, .string D1.be, .string D1.af, .string D1.sc, .string D1.sr] 27)
        have HU1 := Lib.hid (hs1.kept hb2 (Nat.le_refl _))
        have HV1 := Lib.hid (hs2.kept hb2 (Nat.le_refl _))
        clear hb hb2 hb12 hs1 hs2
        have HC := Lib.hid (ep_Between l A n c s n (w2.alloc (.cells #[.int .i64 D1.fr, .int .i64 D1.to, .slice A1 n1 c1, .slice B1 m1 d1, .string D1.be, .string D1.af, .string D1.sc, .string D1.sr] 27)) HS2.out hn HFF.out HZ.out)
        rw [HJ2.out] at HC
        go_wp2_with fail
        refine (show Calls _ _ _ _ _ from HC.out).mono ?_
        rintro e w3 ⟨A2, n2, c2, B2, m2, d2, rfl, hs1, hs2, hb⟩
        clear HC
        rw [show (D2, e2).1.arr (.slice A2 n2 c2) (.slice B2 m2 d2) = #[.int .i64 D2.fr, .int .i64 D2.to, .slice A2 n2 c2, .slice B2 m2 d2, .string D2.be, .string D2.af, .string D2.sc, .string D2.sr] from rfl, show (D2, e2).2 = e2 from rfl]
        have hb2 : Below w3.heap.size w3 (w3.alloc (.cells #[.int .i64 D2.fr, .int .i64 D2.to, .slice A2 n2 c2, .slice B2 m2 d2, .string D2.be, .string D2.af, .string D2.sc, .string D2.sr] 27)) := (Below.refl _ _).alloc (Nat.le_refl _) _
        have hb12 := hb.trans (hb2.mono hb.size)
        have HS3 := Lib.hid (HS2.out.kept hb12 (Nat.le_refl _))
        have HB3 := Lib.hid (HB2.out.trans (hb12.mono HB2.out.size))
        have HX2 := Lib.hid (BxC.new w3 #[.int .i64 D2.fr, .int .i64 D2.to, .slice A2 n2 c2, .slice B2 m2 d2, .string D2.be, .string D2.af, .string D2.sc, .string D2.sr] 27)
        have HU2 := Lib.hid (hs1.kept hb2 (Nat.le_refl _))
        have HV2 := Lib.hid (hs2.kept hb2 (Nat.le_refl _))
        have HX1 := Lib.hid (HX1.out.next hb12)
        have HU1 := Lib.hid (HU1.out.kept hb12 (Nat.le_refl _))
        have HV1 := Lib.hid (HV1.out.kept hb12 (Nat.le_refl _))
        clear hb hb2 hb12 hs1 hs2
        have HC := Lib.hid (ep_Between l A n c 0 n (w3.alloc (.cells #[.int .i64 D2.fr, .int .i64 D2.to, .slice A2 n2 c2, .slice B2 m2 d2, .string D2.be, .string D2.af, .string D2.sc, .string D2.sr] 27)) HS3.out hn HFF.out HZ.out)
        rw [HJ3.out] at HC
        go_wp2_with fail
        refine (show Calls _ _ _ _ _ from HC.out).mono ?_
        rintro e w4 ⟨A3, n3, c3, B3, m3, d3, rfl, hs1, hs2, hb⟩
        clear HC
        rw [show (D3, e3).1.arr (.slice A3 n3 c3) (.slice B3 m3 d3) = #[.int .i64 D3.fr, .int .i64 D3.to, .slice A3 n3 c3, .slice B3 m3 d3, .string D3.be, .string D3.af, .string D3.sc, .string D3.sr] from rfl, show (D3, e3).2 = e3 from rfl]
        have hb2 : Below w4.heap.size w4 (w4.alloc (.cells #[.int .i64 D3.fr, .int .i64 D3.to, .slice A3 n3 c3, .slice B3 m3 d3, .string D3.be, .string D3.af, .string D3.sc, .string D3.sr] 27)) := (Below.refl _ _).alloc (Nat.le_refl _) _
        have hb12 := hb.trans (hb2.mono hb.size)
        have HS4 := Lib.hid (HS3.out.kept hb12 (Nat.le_refl _))
        have HB4 := Lib.hid (HB3.out.trans (hb12.mono HB3.out.size))
        have HX3 := Lib.hid (BxC.new w4 #[.int .i64 D3.fr, .int .i64 D3.to, .slice A3 n3 c3, .slice B3 m3 d3, .string D3.be, .string D3.af, .string D3.sc, .string D3.sr] 27)
        have HU3 := Lib.hid (hs1.kept hb2 (Nat.le_refl _))
        have HV3 := Lib.hid (hs2.kept hb2 (Nat.le_refl _))
        have HX1 := Lib.hid (HX1.out.next hb12)
        have HU1 := Lib.hid (HU1.out.kept hb12 (Nat.le_refl _))
        have HV1 := Lib.hid (HV1.out.kept hb12 (Nat.le_refl _))
        have HX2 := Lib.hid (HX2.out.next hb12)
        have HU2 := Lib.hid (HU2.out.kept hb12 (Nat.le_refl _))
        have HV2 := Lib.hid (HV2.out.kept hb12 (Nat.le_refl _))
        clear hb hb2 hb12 hs1 hs2
        by_cases z1 : e1 = 0
        · subst z1
          by_cases z2 : e2 = 0
          · subst z2
            by_cases z3 : e3 = 0
            · subst z3
              have HAS := Lib.hid (assoc_plain (s := s) (by rw [HLEN.out]; exact hn) (by omega) (by rw [HLEN.out]; omega) HFF.out HJ1.out (by rw [HLEN.out]; exact HJ2.out) (by rw [HLEN.out]; exact HJ3.out))
              have hl1 := HAS.out.2.1.1.la
              have hl2 := HAS.out.2.1.1.lr
              have hl3 := HAS.out.2.2.1.la
              have hl4 := HAS.out.2.2.1.lr
              have HC := Lib.hid (ep_Join D1 D2 A1 B1 A2 B2 n1 c1 m1 d1 n2 c2 m2 d2 (w4.alloc (.cells #[.int .i64 D3.fr, .int .i64 D3.to, .slice A3 n3 c3, .slice B3 m3 d3, .string D3.be, .string D3.af, .string D3.sc, .string D3.sr] 27)) HU1.out HV1.out HU2.out HV2.out (by have := HU1.out.1; omega) (by have := HV1.out.1; omega) (by have := HU2.out.1; omega) (by have := HV2.out.1; omega) HAS.out.2.1.2 HAS.out.2.2.2)
              rw [HAS.out.1] at HC
              have p10 : (w4.alloc (.cells #[.int .i64 D3.fr, .int .i64 D3.to, .slice A3 n3 c3, .slice B3 m3 d3, .string D3.be, .string D3.af, .string D3.sc, .string D3.sr] 27)).cell? ⟨w2.heap.size, 0, none⟩ = some (.int .i64 D1.fr) := BxC.cell HX1.out 0
              have p11 : (w4.alloc (.cells #[.int .i64 D3.fr, .int .i64 D3.to, .slice A3 n3 c3, .slice B3 m3 d3, .string D3.be, .string D3.af, .string D3.sc, .string D3.sr] 27)).cell? ⟨w2.heap.size, 1, none⟩ = some (.int .i64 D1.to) := BxC.cell HX1.out 1
              have p12 : (w4.alloc (.cells #[.int .i64 D3.fr, .int .i64 D3.to, .slice A3 n3 c3, .slice B3 m3 d3, .string D3.be, .string D3.af, .string D3.sc, .string D3.sr] 27)).cell? ⟨w2.heap.size, 2, none⟩ = some (.slice A1 n1 c1) := BxC.cell HX1.out 2
              have p13 : (w4.alloc (.cells #[.int .i64 D3.fr, .int .i64 D3.to, .slice A3 n3 c3, .slice B3 m3 d3, .string D3.be, .string D3.af, .string D3.sc, .string D3.sr] 27)).cell? ⟨w2.heap.size, 3, none⟩ = some (.slice B1 m1 d1) := BxC.cell HX1.out 3
              have p14 : (w4.alloc (.cells #[.int .i64 D3.fr, .int .i64 D3.to, .slice A3 n3 c3, .slice B3 m3 d3, .string D3.be, .string D3.af, .string D3.sc, .string D3.sr] 27)).cell? ⟨w2.heap.size, 4, none⟩ = some (.string D1.be) := BxC.cell HX1.out 4
              have p15 : (w4.alloc (.cells #[.int .i64 D3.fr, .int .i64 D3.to, .slice A3 n3 c3, .slice B3 m3 d3, .string D3.be, .string D3.af, .string D3.sc, .string D3.sr] 27)).cell? ⟨w2.heap.size, 5, none⟩ = some (.string D1.af) := BxC.cell HX1.out 5
              have p16 : (w4.alloc (.cells #[.int .i64 D3.fr, .int .i64 D3.to, .slice A3 n3 c3, .slice B3 m3 d3, .string D3.be, .string D3.af, .string D3.sc, .string D3.sr] 27)).cell? ⟨w2.heap.size, 6, none⟩ = some (.string D1.sc) := BxC.cell HX1.out 6
              have p17 : (w4.alloc (.cells #[.int .i64 D3.fr, .int .i64 D3.to, .slice A3 n3 c3, .slice B3 m3 d3, .string D3.be, .string D3.af, .string D3.sc, .string D3.sr] 27)).cell? ⟨w2.heap.size, 7, none⟩ = some (.string D1.sr) := BxC.cell HX1.out 7
              have p20 : (w4.alloc (.cells #[.int .i64 D3.fr, .int .i64 D3.to, .slice A3 n3 c3, .slice B3 m3 d3, .string D3.be, .string D3.af, .string D3.sc, .string D3.sr] 27)).cell? ⟨w3.heap.size, 0, none⟩ = some (.int .i64 D2.fr) := BxC.cell HX2.out 0
              have p21 : (w4.alloc (.cells #[.int .i64 D3.fr, .int .i64 D3.to, .slice A3 n3 c3, .slice B3 m3 d3, .string D3.be, .string D3.af, .string D3.sc, .string D3.sr] 27)).cell? ⟨w3.heap.size, 1, none⟩ = some (.int .i64 D2.to) := BxC.cell HX2.out 1
              have p22 : (w4.alloc (.cells #[.int .i64 D3.fr, .int .i64 D3.to, .slice A3 n3 c3, .slice B3 m3 d3, .string D3.be, .string D3.af, .string D3.sc, .string D3.sr] 27)).cell? ⟨w3.heap.size, 2, none⟩ = some (.slice A2 n2 c2) := BxC.cell HX2.out 2
              have p23 : (w4.alloc (.cells #[.int .i64 D3.fr, .int .i64 D3.to, .slice A3 n3 c3, .slice B3 m3 d3, .string D3.be, .string D3.af, .string D3.sc, .string D3.sr] 27)).cell? ⟨w3.heap.size, 3, none⟩ = some (.slice B2 m2 d2) := BxC.cell HX2.out 3
              have p24 : (w4.alloc (.cells #[.int .i64 D3.fr, .int .i64 D3.to, .slice A3 n3 c3, .slice B3 m3 d3, .string D3.be, .string D3.af, .string D3.sc, .string D3.sr] 27)).cell? ⟨w3.heap.size, 4, none⟩ = some (.string D2.be) := BxC.cell HX2.out 4
              have p25 : (w4.alloc (.cells #[.int .i64 D3.fr, .int .i64 D3.to, .slice A3 n3 c3, .slice B3 m3 d3, .string D3.be, .string D3.af, .string D3.sc, .string D3.sr] 27)).cell? ⟨w3.heap.size, 5, none⟩ = some (.string D2.af) := BxC.cell HX2.out 5
              have p26 : (w4.alloc (.cells #[.int .i64 D3.fr, .int .i64 D3.to, .slice A3 n3 c3, .slice B3 m3 d3, .string D3.be, .string D3.af, .string D3.sc, .string D3.sr] 27)).cell? ⟨w3.heap.size, 6, none⟩ = some (.string D2.sc) := BxC.cell HX2.out 6
              have p27 : (w4.alloc (.cells #[.int .i64 D3.fr, .int .i64 D3.to, .slice A3 n3 c3, .slice B3 m3 d3, .string D3.be, .string D3.af, .string D3.sc, .string D3.sr] 27)).cell? ⟨w3.heap.size, 7, none⟩ = some (.string D2.sr) := BxC.cell HX2.out 7
              clear hl1 hl2 hl3 hl4
              go_wp2_with fail
              refine (show Calls _ _ _ _ _ from HC.out).mono ?_
              rintro e w5 ⟨A4, n4, c4, B4, m4, d4, rfl, hs1, hs2, hb⟩
              clear HC p10 p11 p12 p13 p14 p15 p16 p17 p20 p21 p22 p23 p24 p25 p26 p27
              rw [show (D3, (0 : Int)).1.arr (.slice A4 n4 c4) (.slice B4 m4 d4) = #[.int .i64 D3.fr, .int .i64 D3.to, .slice A4 n4 c4, .slice B4 m4 d4, .string D3.be, .string D3.af, .string D3.sc, .string D3.sr] from rfl, show (D3, (0 : Int)).2 = 0 from rfl]
              have hb2 : Below w5.heap.size w5 (w5.alloc (.cells #[.int .i64 D3.fr, .int .i64 D3.to, .slice A4 n4 c4, .slice B4 m4 d4, .string D3.be, .string D3.af, .string D3.sc, .string D3.sr] 27)) := (Below.refl _ _).alloc (Nat.le_refl _) _
              have hb12 := hb.trans (hb2.mono hb.size)
              have hX3 := HX3.out.next hb12
              have HB5 := Lib.hid (HB4.out.trans (hb12.mono HB4.out.size))
              have HSM := Lib.hid (r37_Same D3 A4 B4 A3 B3 n4 c4 m4 d4 n3 c3 m3 d3 (w5.alloc (.cells #[.int .i64 D3.fr, .int .i64 D3.to, .slice A4 n4 c4, .slice B4 m4 d4, .string D3.be, .string D3.af, .string D3.sc, .string D3.sr] 27)) (hs1.kept hb2 (Nat.le_refl _)) (hs2.kept hb2 (Nat.le_refl _)) (HU3.out.kept hb12 (Nat.le_refl _)) (HV3.out.kept hb12 (Nat.le_refl _)))
              have k0 : (w5.alloc (.cells #[.int .i64 D3.fr, .int .i64 D3.to, .slice A4 n4 c4, .slice B4 m4 d4, .string D3.be, .string D3.af, .string D3.sc, .string D3.sr] 27)).cell? ⟨w4.heap.size, 0, none⟩ = some (.int .i64 D3.fr) := BxC.cell hX3 0
              have k1 : (w5.alloc (.cells #[.int .i64 D3.fr, .int .i64 D3.to, .slice A4 n4 c4, .slice B4 m4 d4, .string D3.be, .string D3.af, .string D3.sc, .string D3.sr] 27)).cell? ⟨w4.heap.size, 1, none⟩ = some (.int .i64 D3.to) := BxC.cell hX3 1
              have k2 : (w5.alloc (.cells #[.int .i64 D3.fr, .int .i64 D3.to, .slice A4 n4 c4, .slice B4 m4 d4, .string D3.be, .string D3.af, .string D3.sc, .string D3.sr] 27)).cell? ⟨w4.heap.size, 2, none⟩ = some (.slice A3 n3 c3) := BxC.cell hX3 2
              have k3 : (w5.alloc (.cells #[.int .i64 D3.fr, .int .i64 D3.to, .slice A4 n4 c4, .slice B4 m4 d4, .string D3.be, .string D3.af, .string D3.sc, .string D3.sr] 27)).cell? ⟨w4.heap.size, 3, none⟩ = some (.slice B3 m3 d3) := BxC.cell hX3 3
              have k4 : (w5.alloc (.cells #[.int .i64 D3.fr, .int .i64 D3.to, .slice A4 n4 c4, .slice B4 m4 d4, .string D3.be, .string D3.af, .string D3.sc, .string D3.sr] 27)).cell? ⟨w4.heap.size, 4, none⟩ = some (.string D3.be) := BxC.cell hX3 4
              have k5 : (w5.alloc (.cells #[.int .i64 D3.fr, .int .i64 D3.to, .slice A4 n4 c4, .slice B4 m4 d4, .string D3.be, .string D3.af, .string D3.sc, .string D3.sr] 27)).cell? ⟨w4.heap.size, 5, none⟩ = some (.string D3.af) := BxC.cell hX3 5
              have k6 : (w5.alloc (.cells #[.int .i64 D3.fr, .int .i64 D3.to, .slice A4 n4 c4, .slice B4 m4 d4, .string D3.be, .string D3.af, .string D3.sc, .string D3.sr] 27)).cell? ⟨w4.heap.size, 6, none⟩ = some (.string D3.sc) := BxC.cell hX3 6
              have k7 : (w5.alloc (.cells #[.int .i64 D3.fr, .int .i64 D3.to, .slice A4 n4 c4, .slice B4 m4 d4, .string D3.be, .string D3.af, .string D3.sc, .string D3.sr] 27)).cell? ⟨w4.heap.size, 7, none⟩ = some (.string D3.sr) := BxC.cell hX3 7
              clear hb hb2 hb12 hX3 hs1 hs2
              go_wp2_with fail
              refine (show Calls _ _ _ _ _ from HSM.out).mono ?_
              rintro e w6 ⟨rfl, hb⟩
              have HB6 := Lib.hid (HB5.out.trans (hb.mono HB5.out.size))
              clear hb k0 k1 k2 k3 k4 k5 k6 k7
              go_wp2_with fail
              refine (law_awake _).mono ?_
              rintro e w9 ⟨rfl, hb⟩
              have HB9 := Lib.hid (HB6.out.trans (hb.mono HB6.out.size))
              clear hb
              go_wp2
              go_ret
              exact ⟨rfl, HB9.out⟩
            · have q3 : (e3 != 0) = true := by simpa using z3
              go_wp2_with fail
              refine (law_awake _).mono ?_
              rintro e w9 ⟨rfl, hb⟩
              have HB9 := Lib.hid (HB4.out.trans (hb.mono HB4.out.size))
              clear hb
              go_wp2
              go_ret
              exact ⟨rfl, HB9.out⟩
          · have q2 : (e2 != 0) = true := by simpa using z2
            go_wp2_with fail
            refine (law_awake _).mono ?_
            rintro e w9 ⟨rfl, hb⟩
            have HB9 := Lib.hid (HB4.out.trans (hb.mono HB4.out.size))
            clear hb
            go_wp2
            go_ret
            exact ⟨rfl, HB9.out⟩
        · have q1 : (e1 != 0) = true := by simpa using z1
          go_wp2_with fail
          refine (law_awake _).mono ?_
          rintro e w9 ⟨rfl, hb⟩
          have HB9 := Lib.hid (HB4.out.trans (hb.mono HB4.out.size))
          clear hb
          go_wp2
          go_ret
          exact ⟨rfl, HB9.out⟩
end Go.Proofs.Ytelhpdlegjgjjaa

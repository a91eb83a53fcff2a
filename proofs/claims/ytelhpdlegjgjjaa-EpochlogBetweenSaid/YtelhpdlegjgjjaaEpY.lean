/- Walk: dominolaw37.EpochlogBetween. -/
import Derived.Test.YtelhpdlegjgjjaaEpXc
import Derived.Test.YtelhpdlegjgjjaaEpR
set_option linter.unusedVariables false
set_option linter.unusedSimpArgs false
namespace Go.Proofs.Ytelhpdlegjgjjaa
open Go.RowKit

set_option maxRecDepth 100000 in
set_option maxHeartbeats 4000000 in
theorem law_Between (l : List Dl) (A : Option Addr) (n c : Nat) (f t : Int) (w : World) (hs : SlD w A n c l) (hz : SzD l) :
    Calls Try.prog 5 #[.slice A n c, .int .i64 f, .int .i64 t] w (Ret (.bool true) w) := by
  have HS := Lib.hid hs
  have HZ := Lib.hid hz
  have HFW := Lib.hid (law_Few l A n c w hs hz)
  clear hs hz
  go_enter Try.func5, Try.ntmps5
  go_wp2_with fail
  refine HFW.out.mono ?_
  rintro e w1 ⟨bb, rfl, hf, hb⟩
  have HB1 := Lib.hid hb
  have HF := Lib.hid hf
  have HS1 := Lib.hid (HS.out.kept hb (Nat.le_refl _))
  clear hb hf
  cases bb with
  | false =>
    go_wp2_with fail
    refine (law_awake _).mono ?_
    rintro e w2 ⟨rfl, hb⟩
    have HB2 := Lib.hid (HB1.out.trans (hb.mono HB1.out.size))
    clear hb
    go_wp2
    go_ret
    exact ⟨rfl, HB2.out⟩
  | true =>
    have hn : n ≤ 12 := (HF.out (by trivial)).1
    obtain ⟨D, e0, hj⟩ : ∃ D e0, bt l f t = (D, e0) := ⟨_, _, rfl⟩
    have HJ := Lib.hid (ep_Between l A n c f t w1 HS1.out hn (HF.out (by trivial)).2 HZ.out)
    rw [hj] at HJ
    have HJJ := Lib.hid hj
    clear hj
    go_wp2_with fail
    refine (show Calls _ _ _ _ _ from HJ.out).mono ?_
    rintro e w2 ⟨A5, n5, c5, A6, n6, c6, rfl, hs5, hs6, hb⟩
    rw [show (D, e0).1.arr (.slice A5 n5 c5) (.slice A6 n6 c6) = #[.int .i64 D.fr, .int .i64 D.to, .slice A5 n5 c5, .slice A6 n6 c6, .string D.be, .string D.af, .string D.sc, .string D.sr] from rfl, show (D, e0).2 = e0 from rfl]
    have hb2 : Below w2.heap.size w2 (w2.alloc (.cells #[.int .i64 D.fr, .int .i64 D.to, .slice A5 n5 c5, .slice A6 n6 c6, .string D.be, .string D.af, .string D.sc, .string D.sr] 27)) := (Below.refl _ _).alloc (Nat.le_refl _) _
    have hb12 := hb.trans (hb2.mono hb.size)
    have HX2 := Lib.hid (BxC.new w2 #[.int .i64 D.fr, .int .i64 D.to, .slice A5 n5 c5, .slice A6 n6 c6, .string D.be, .string D.af, .string D.sc, .string D.sr] 27)
    have HS5 := Lib.hid (hs5.kept hb2 (Nat.le_refl _))
    have HS6 := Lib.hid (hs6.kept hb2 (Nat.le_refl _))
    have HS2 := Lib.hid (HS1.out.kept hb12 (Nat.le_refl _))
    have HB2 := Lib.hid (HB1.out.trans (hb12.mono HB1.out.size))
    have HJ2 := Lib.hid (r37_Between l A n c f t _ HS2.out hn (HF.out (by trivial)).2 HZ.out)
    rw [HJJ.out] at HJ2
    clear hb hb2 hb12 hs5 hs6 HJ
    go_wp2_with fail
    refine (show Calls _ _ _ _ _ from HJ2.out).mono ?_
    rintro e w3 ⟨A7, n7, c7, A8, n8, c8, rfl, hs7, hs8, hb⟩
    rw [show (D, e0).1.arr (.slice A7 n7 c7) (.slice A8 n8 c8) = #[.int .i64 D.fr, .int .i64 D.to, .slice A7 n7 c7, .slice A8 n8 c8, .string D.be, .string D.af, .string D.sc, .string D.sr] from rfl, show (D, e0).2 = e0 from rfl]
    have hb3 : Below w3.heap.size w3 (w3.alloc (.cells #[.int .i64 D.fr, .int .i64 D.to, .slice A7 n7 c7, .slice A8 n8 c8, .string D.be, .string D.af, .string D.sc, .string D.sr] 27)) := (Below.refl _ _).alloc (Nat.le_refl _) _
    have hb23 := hb.trans (hb3.mono hb.size)
    have hX3 := HX2.out.next hb23
    have HSM := Lib.hid (r37_Same D A5 A6 A7 A8 n5 c5 n6 c6 n7 c7 n8 c8 (w3.alloc (.cells #[.int .i64 D.fr, .int .i64 D.to, .slice A7 n7 c7, .slice A8 n8 c8, .string D.be, .string D.af, .string D.sc, .string D.sr] 27)) (HS5.out.kept hb23 (Nat.le_refl _)) (HS6.out.kept hb23 (Nat.le_refl _)) (hs7.kept hb3 (Nat.le_refl _)) (hs8.kept hb3 (Nat.le_refl _)))
    have HB3 := Lib.hid (HB2.out.trans (hb23.mono HB2.out.size))
    have k0 : (w3.alloc (.cells #[.int .i64 D.fr, .int .i64 D.to, .slice A7 n7 c7, .slice A8 n8 c8, .string D.be, .string D.af, .string D.sc, .string D.sr] 27)).cell? ⟨w2.heap.size, 0, none⟩ = some (.int .i64 D.fr) := BxC.cell hX3 0
    have k1 : (w3.alloc (.cells #[.int .i64 D.fr, .int .i64 D.to, .slice A7 n7 c7, .slice A8 n8 c8, .string D.be, .string D.af, .string D.sc, .string D.sr] 27)).cell? ⟨w2.heap.size, 1, none⟩ = some (.int .i64 D.to) := BxC.cell hX3 1
    have k2 : (w3.alloc (.cells #[.int .i64 D.fr, .int .i64 D.to, .slice A7 n7 c7, .slice A8 n8 c8, .string D.be, .string D.af, .string D.sc, .string D.sr] 27)).cell? ⟨w2.heap.size, 2, none⟩ = some (.slice A5 n5 c5) := BxC.cell hX3 2
    have k3 : (w3.alloc (.cells #[.int .i64 D.fr, .int .i64 D.to, .slice A7 n7 c7, .slice A8 n8 c8, .string D.be, .string D.af, .string D.sc, .string D.sr] 27)).cell? ⟨w2.heap.size, 3, none⟩ = some (.slice A6 n6 c6) := BxC.cell hX3 3
    have k4 : (w3.alloc (.cells #[.int .i64 D.fr, .int .i64 D.to, .slice A7 n7 c7, .slice A8 n8 c8, .string D.be, .string D.af, .string D.sc, .string D.sr] 27)).cell? ⟨w2.heap.size, 4, none⟩ = some (.string D.be) := BxC.cell hX3 4
    have k5 : (w3.alloc (.cells #[.int .i64 D.fr, .int .i64 D.to, .slice A7 n7 c7, .slice A8 n8 c8, .string D.be, .string D.af, .string D.sc, .string D.sr] 27)).cell? ⟨w2.heap.size, 5, none⟩ = some (.string D.af) := BxC.cell hX3 5
    have k6 : (w3.alloc (.cells #[.int .i64 D.fr, .int .i64 D.to, .slice A7 n7 c7, .slice A8 n8 c8, .string D.be, .string D.af, .string D.sc, .string D.sr] 27)).cell? ⟨w2.heap.size, 6, none⟩ = some (.string D.sc) := BxC.cell hX3 6
    have k7 : (w3.alloc (.cells #[.int .i64 D.fr, .int .i64 D.to, .slice A7 n7 c7, .slice A8 n8 c8, .string D.be, .string D.af, .string D.sc, .string D.sr] 27)).cell? ⟨w2.heap.size, 7, none⟩ = some (.string D.sr) := BxC.cell hX3 7
    clear hb hb3 hb23 hX3 hs7 hs8 HJ2
    go_wp2_with fail
    refine (show Calls _ _ _ _ _ from HSM.out).mono ?_
    rintro e w4 ⟨rfl, hb⟩
    have HB4 := Lib.hid (HB3.out.trans (hb.mono HB3.out.size))
    clear hb k0 k1 k2 k3 k4 k5 k6 k7
    go_wp2_with fail
    refine (law_awake _).mono ?_
    rintro e w5 ⟨rfl, hb⟩
    have HB5 := Lib.hid (HB4.out.trans (hb.mono HB4.out.size))
    clear hb
    go_wp2
    go_ret
    exact ⟨rfl, HB5.out⟩
end Go.Proofs.Ytelhpdlegjgjjaa

/- Walks: dominoref02.Extended of numbers without a common divisor. -/
import Derived.Test.YtpdejgdkpghjhaaGreatDoorQPeH
import Derived.Test.YtpdejgdkpghjhaaGreatDoorQGst
import Derived.Test.YtpdejgdkpghjhaaGreatDoorQLib
import Derived.Great.Walk
set_option linter.unusedVariables false
set_option linter.unusedSimpArgs false
namespace Go.Proofs.YtpdejgdkpghjhaaGreatDoor
open Go.RowKit
theorem intV_nat (n : Nat) : intV (n : Int) = .agg #[.bool false, .string (nS n)] := by unfold intV zV; rw [decide_eq_false (Int.not_lt.2 (Int.natCast_nonneg _)), Int.natAbs_natCast]
theorem ex_law {a b : Nat} {x y : Int} (hb : 1 < b) (h : (a : Int) * x + b * y = 1) : a * (x % b).toNat % b = 1 := by
  have h0 : 0 ≤ x % (b : Int) := Int.emod_nonneg _ (by omega)
  have e1 : ((a * (x % b).toNat % b : Nat) : Int) = 1 := by
    rw [Int.natCast_emod, Int.natCast_mul, Int.toNat_of_nonneg h0, Int.mul_emod, Int.emod_emod, ← Int.mul_emod]
    have e2 : (a : Int) * x = 1 + b * (-y) := by rw [Int.mul_neg]; omega
    rw [e2, Int.add_mul_emod_self_left]
    exact Int.emod_eq_of_lt (by omega) (by omega)
  omega
end Go.Proofs.YtpdejgdkpghjhaaGreatDoor
/- Walks: pedersen.formed, valid, Check and the reference's. -/
set_option linter.unusedVariables false
set_option linter.unusedSimpArgs false
namespace Go.Proofs.YtpdejgdkpghjhaaGreatDoor
open Go.RowKit
def kV (M O G H : ByteArray) : Value := .agg #[.string M, .string O, .string G, .string H]
def kF (M O G H : ByteArray) : Bool := nvalid M && nvalid O && nvalid G && nvalid H
def pkC (M O G H : ByteArray) : Int := if kF M O G H = false then 3 else if chkK M O = 0 then (if (!hasK M O G || !hasK M O H || (G.toList == [1]) || (H.toList == [1]) || (G.toList == H.toList)) = true then 13 else 0) else chkK M O
theorem one_list : (nS 1).toList = [1] := by rw [ByteArray.toList_eq, nS_data]; rfl
set_option maxRecDepth 100000 in
set_option maxHeartbeats 1000000 in
theorem pk_formed (M O G H : ByteArray) (hM : M.size ≤ 1000) (hO : O.size ≤ 1000) (hG : G.size ≤ 1000) (hH : H.size ≤ 1000) (w : World) : Calls Tryz.prog 77 #[kV M O G H] w (Ret (.bool (kF M O G H)) w) := by
  have HV1 := Lib.hid (nat_Valid M (by omega))
  have HV2 := Lib.hid (nat_Valid O (by omega))
  have HV3 := Lib.hid (nat_Valid G (by omega))
  have HV4 := Lib.hid (nat_Valid H (by omega))
  unfold kV kF
  clear hM hO hG hH
  cases h1 : nvalid M with
  | false =>
    rw [h1] at HV1
    clear h1
    go_enter Tryz.func77, Tryz.ntmps77
    have hx0 := Bx4.new w (.string M) (.string O) (.string G) (.string H) 26
    have hb0 := (Below.refl w.heap.size w).alloc (Nat.le_refl _) (.cells #[.string M, .string O, .string G, .string H] 26)
    obtain ⟨W0, hW0⟩ : ∃ W, w.alloc (.cells #[.string M, .string O, .string G, .string H] 26) = W := ⟨_, rfl⟩
    rw [hW0] at hx0 hb0
    have HX0 := Lib.hid hx0
    have HB0 := Lib.hid hb0
    obtain ⟨c0, c1, c2, c3⟩ := hx0.cells
    clear hx0 hb0
    go_wp2_with fail
    try rw [hW0]
    clear hW0
    refine (HV1.out _).mono ?_
    rintro ev w1 ⟨rfl, rfl⟩
    go_wp2
    go_ret
    exact ⟨rfl, HB0.out⟩
  | true =>
    rw [h1] at HV1
    clear h1
    cases h2 : nvalid O with
    | false =>
      rw [h2] at HV2
      clear h2
      go_enter Tryz.func77, Tryz.ntmps77
      have hx0 := Bx4.new w (.string M) (.string O) (.string G) (.string H) 26
      have hb0 := (Below.refl w.heap.size w).alloc (Nat.le_refl _) (.cells #[.string M, .string O, .string G, .string H] 26)
      obtain ⟨W0, hW0⟩ : ∃ W, w.alloc (.cells #[.string M, .string O, .string G, .string H] 26) = W := ⟨_, rfl⟩
      rw [hW0] at hx0 hb0
      have HX0 := Lib.hid hx0
      have HB0 := Lib.hid hb0
      obtain ⟨c0, c1, c2, c3⟩ := hx0.cells
      clear hx0 hb0
      go_wp2_with fail
      try rw [hW0]
      clear hW0
      refine (HV1.out _).mono ?_
      rintro ev w1 ⟨rfl, rfl⟩
      go_wp2_with fail
      refine (HV2.out _).mono ?_
      rintro ev w1 ⟨rfl, rfl⟩
      go_wp2
      go_ret
      exact ⟨rfl, HB0.out⟩
    | true =>
      rw [h2] at HV2
      clear h2
      cases h3 : nvalid G with
      | false =>
        rw [h3] at HV3
        clear h3
        go_enter Tryz.func77, Tryz.ntmps77
        have hx0 := Bx4.new w (.string M) (.string O) (.string G) (.string H) 26
        have hb0 := (Below.refl w.heap.size w).alloc (Nat.le_refl _) (.cells #[.string M, .string O, .string G, .string H] 26)
        obtain ⟨W0, hW0⟩ : ∃ W, w.alloc (.cells #[.string M, .string O, .string G, .string H] 26) = W := ⟨_, rfl⟩
        rw [hW0] at hx0 hb0
        have HX0 := Lib.hid hx0
        have HB0 := Lib.hid hb0
        obtain ⟨c0, c1, c2, c3⟩ := hx0.cells
        clear hx0 hb0
        go_wp2_with fail
        try rw [hW0]
        clear hW0
        refine (HV1.out _).mono ?_
        rintro ev w1 ⟨rfl, rfl⟩
        go_wp2_with fail
        refine (HV2.out _).mono ?_
        rintro ev w1 ⟨rfl, rfl⟩
        go_wp2_with fail
        refine (HV3.out _).mono ?_
        rintro ev w1 ⟨rfl, rfl⟩
        go_wp2
        go_ret
        exact ⟨rfl, HB0.out⟩
      | true =>
        rw [h3] at HV3
        clear h3
        obtain ⟨h4, hh4⟩ : ∃ h, nvalid H = h := ⟨_, rfl⟩
        rw [hh4] at HV4 ⊢
        clear hh4
        go_enter Tryz.func77, Tryz.ntmps77
        have hx0 := Bx4.new w (.string M) (.string O) (.string G) (.string H) 26
        have hb0 := (Below.refl w.heap.size w).alloc (Nat.le_refl _) (.cells #[.string M, .string O, .string G, .string H] 26)
        obtain ⟨W0, hW0⟩ : ∃ W, w.alloc (.cells #[.string M, .string O, .string G, .string H] 26) = W := ⟨_, rfl⟩
        rw [hW0] at hx0 hb0
        have HX0 := Lib.hid hx0
        have HB0 := Lib.hid hb0
        obtain ⟨c0, c1, c2, c3⟩ := hx0.cells
        clear hx0 hb0
        go_wp2_with fail
        try rw [hW0]
        clear hW0
        refine (HV1.out _).mono ?_
        rintro ev w1 ⟨rfl, rfl⟩
        go_wp2_with fail
        refine (HV2.out _).mono ?_
        rintro ev w1 ⟨rfl, rfl⟩
        go_wp2_with fail
        refine (HV3.out _).mono ?_
        rintro ev w1 ⟨rfl, rfl⟩
        go_wp2_with fail
        refine (HV4.out _).mono ?_
        rintro ev w1 ⟨rfl, rfl⟩
        go_wp2
        go_ret
        exact ⟨by simp, HB0.out⟩
end Go.Proofs.YtpdejgdkpghjhaaGreatDoor

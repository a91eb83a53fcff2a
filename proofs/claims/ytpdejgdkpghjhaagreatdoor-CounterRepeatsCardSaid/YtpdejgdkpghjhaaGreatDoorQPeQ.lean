/- The arguments opened: a key of the commitments. -/
import Derived.ProofKit
import Derived.OpenShut
import Derived.ShutString
import Derived.ChangeOld
import Derived.Below
import Derived.Carry
import Derived.Deep.Slices
import Derived.Deep.Fields
import Derived.ChangeSame
import Derived.Lib.SmallJoins
import Derived.Test.YtpdejgdkpghjhaaGreatDoorChecked
import Derived.Test.YtpdejgdkpghjhaaGreatDoorRows
import Derived.Test.YtpdejgdkpghjhaaGreatDoorQPeP
import Derived.LaidMore
import Derived.Stop.Joined
set_option linter.unusedVariables false
set_option linter.unusedSimpArgs false
namespace Go.Proofs.YtpdejgdkpghjhaaGreatDoor
open Go.ChangeShapes Go.WideShapes Go.ChangeAt Go.Deep Go.Joins Go.RowKit
open Go.ChangeMaps (open_string shut_string)
theorem ownQ : ownKnob Tryz.prog.godebug = none := by kernel_rfl
theorem laidOutQ : laidOutB Tryz.prog = true := by kernel_rfl
section
variable {H : Type} {enc : TypeId × Value → H} {W : World} {sp : Nat → Bool} {held : Bool}
theorem trod_at {P : Program} {w : World} {base : Nat} {spare : Nat → Bool} {fuel : Nat} {t : TypeId} {cs : List Value} {x : DataW H × List MemPlace} {fs : Array Field} (ht : P.underlying t = some (.struct fs)) (h : DataW.trod enc P w base spare held fuel t cs = some x) (i : Nat) (f : Field) (hf : fs[i]? = some f) (k : Nat) (hk : P.cellsOf f.type = k) :
    ∃ n y, DataW.trod enc P w base spare held n f.type ((cs.drop f.offset).take k) = some y := by
  obtain ⟨xs, n, _, _, _, hl, hx⟩ := DataW.trod_struct ht h
  have h1 := hx i f hf
  have hi : i < xs.length := by rw [hl]; exact (Array.getElem?_eq_some_iff.1 hf).1
  rw [hk, List.getElem?_eq_getElem hi] at h1
  exact ⟨n, _, h1⟩
theorem trod_len {P : Program} {w : World} {base : Nat} {spare : Nat → Bool} {fuel : Nat} {t : TypeId} {cs : List Value} {x : DataW H × List MemPlace} {fs : Array Field} (ht : P.underlying t = some (.struct fs)) (h : DataW.trod enc P w base spare held fuel t cs = some x) : cs.length = P.cellsOf t := by
  obtain ⟨_, _, _, _, h1, _, _⟩ := DataW.trod_struct ht h
  exact h1
end
end Go.Proofs.YtpdejgdkpghjhaaGreatDoor
/- Walks: pedersen.Check and the reference's. -/
set_option linter.unusedVariables false
set_option linter.unusedSimpArgs false
namespace Go.Proofs.YtpdejgdkpghjhaaGreatDoor
open Go.RowKit
set_option maxRecDepth 100000 in
set_option maxHeartbeats 4000000 in
theorem pk_Check (M O G H : ByteArray) (hM : M.size ≤ 8) (hO : O.size ≤ 8) (hG : G.size ≤ 1000) (hH : H.size ≤ 1000) (w : World) : Calls Tryz.prog 27 #[kV M O G H] w (Ret (.int .i64 (pkC M O G H)) w) := by
  have HF := Lib.hid (pk_formed M O G H (by omega) (by omega) hG hH)
  have HCK := Lib.hid (pw_Check M O hM hO)
  have HHG := Lib.hid (fun h => pw_Has M O G hM hO h)
  have HHH := Lib.hid (fun h => pw_Has M O H hM hO h)
  have HO1 := Lib.hid (nat_Of 1 (by decide))
  obtain ⟨one, hone⟩ : ∃ v, nS 1 = v := ⟨_, rfl⟩
  have HO1 := Lib.hid (fun w => show Calls Tryz.prog 53 #[.int .u64 1] w (Ret (.string one) w) from by have := HO1.out w; rw [show bstr (encN 1) = one from hone] at this; exact this)
  have HOL := Lib.hid (show one.toList = [1] from by rw [← hone]; exact one_list)
  clear hone hM hO hG hH
  cases hf : kF M O G H with
  | false =>
    have HR := Lib.hid (show pkC M O G H = 3 from by unfold pkC; rw [if_pos hf])
    rw [hf] at HF
    rw [HR.out]
    unfold kV gV at *
    clear hf
    go_enter Tryz.func27, Tryz.ntmps27
    have hx0 := Bx4.new w (.string M) (.string O) (.string G) (.string H) 26
    have hb0 := (Below.refl w.heap.size w).alloc (Nat.le_refl _) (.cells #[.string M, .string O, .string G, .string H] 26)
    obtain ⟨W0, hW0⟩ : ∃ W, w.alloc (.cells #[.string M, .string O, .string G, .string H] 26) = W := ⟨_, rfl⟩
    rw [hW0] at hx0 hb0
    have HX0 := Lib.hid hx0
    have HB0 := Lib.hid hb0
    obtain ⟨c0, c1, c2, c3⟩ := hx0.cells
    clear hx0 hb0
    go_wp2_with fail
    try rw [hW0]
    clear hW0
    refine (HF.out _).mono ?_
    rintro ev w1 ⟨rfl, hb⟩
    have hx := HX0.out.next hb
    have HX1 := Lib.hid hx
    have HB1 := Lib.hid (HB0.out.trans (hb.mono HB0.out.size))
    clear hb c0 c1 c2 c3
    obtain ⟨c0, c1, c2, c3⟩ := hx.cells
    clear hx
    go_wp2
    go_ret
    exact ⟨rfl, HB1.out⟩
  | true =>
    rw [hf] at HF
    have hv := hf
    unfold kF at hv
    simp only [Bool.and_eq_true] at hv
    have HHG := Lib.hid (HHG.out hv.1.2)
    have HHH := Lib.hid (HHH.out hv.2)
    clear hv
    by_cases hck : chkK M O = 0
    · rw [hck] at HCK
      have HRV := Lib.hid (show pkC M O G H = if (!hasK M O G || !hasK M O H || (G.toList == [1]) || (H.toList == [1]) || (G.toList == H.toList)) = true then 13 else 0 from by unfold pkC; rw [if_neg (by rw [hf]; decide), if_pos hck])
      rw [HRV.out, ← HOL.out]
      obtain ⟨hg, hhg⟩ : ∃ b, hasK M O G = b := ⟨_, rfl⟩
      obtain ⟨hh, hhh⟩ : ∃ b, hasK M O H = b := ⟨_, rfl⟩
      obtain ⟨b1, hb1⟩ : ∃ b, (G.toList == one.toList) = b := ⟨_, rfl⟩
      obtain ⟨b2, hb2⟩ : ∃ b, (H.toList == one.toList) = b := ⟨_, rfl⟩
      obtain ⟨b3, hb3⟩ : ∃ b, (G.toList == H.toList) = b := ⟨_, rfl⟩
      rw [hhg] at HHG
      rw [hhh] at HHH
      rw [hhg, hhh, hb1, hb2, hb3]
      unfold kV gV at *
      clear hf hck hhg hhh HRV HOL
      cases hg with
      | false =>
        go_enter Tryz.func27, Tryz.ntmps27
        have hx0 := Bx4.new w (.string M) (.string O) (.string G) (.string H) 26
        have hb0 := (Below.refl w.heap.size w).alloc (Nat.le_refl _) (.cells #[.string M, .string O, .string G, .string H] 26)
        obtain ⟨W0, hW0⟩ : ∃ W, w.alloc (.cells #[.string M, .string O, .string G, .string H] 26) = W := ⟨_, rfl⟩
        rw [hW0] at hx0 hb0
        have HX0 := Lib.hid hx0
        have HB0 := Lib.hid hb0
        obtain ⟨c0, c1, c2, c3⟩ := hx0.cells
        clear hx0 hb0
        go_wp2_with fail
        try rw [hW0]
        clear hW0
        refine (HF.out _).mono ?_
        rintro ev w1 ⟨rfl, hb⟩
        have hx := HX0.out.next hb
        have HX1 := Lib.hid hx
        have HB1 := Lib.hid (HB0.out.trans (hb.mono HB0.out.size))
        clear hb c0 c1 c2 c3
        obtain ⟨c0, c1, c2, c3⟩ := hx.cells
        clear hx
        go_wp2_with fail
        refine (HCK.out _).mono ?_
        rintro ev w2 ⟨rfl, hb⟩
        have hx := HX1.out.next hb
        have HX2 := Lib.hid hx
        have HB2 := Lib.hid (HB1.out.trans (hb.mono HB1.out.size))
        clear hb c0 c1 c2 c3
        obtain ⟨c0, c1, c2, c3⟩ := hx.cells
        clear hx
        go_wp2_with fail
        refine (HO1.out _).mono ?_
        rintro ev w3 ⟨rfl, hb⟩
        have hx := HX2.out.next hb
        have HX3 := Lib.hid hx
        have HB3 := Lib.hid (HB2.out.trans (hb.mono HB2.out.size))
        clear hb c0 c1 c2 c3
        obtain ⟨c0, c1, c2, c3⟩ := hx.cells
        clear hx
        go_wp2_with fail
        refine (HHG.out _).mono ?_
        rintro ev w4 ⟨rfl, hb⟩
        have hx := HX3.out.next hb
        have HX4 := Lib.hid hx
        have HB4 := Lib.hid (HB3.out.trans (hb.mono HB3.out.size))
        clear hb c0 c1 c2 c3
        obtain ⟨c0, c1, c2, c3⟩ := hx.cells
        clear hx
        go_wp2
        go_ret
        exact ⟨rfl, HB4.out⟩
      | true =>
        cases hh with
        | false =>
          go_enter Tryz.func27, Tryz.ntmps27
          have hx0 := Bx4.new w (.string M) (.string O) (.string G) (.string H) 26
          have hb0 := (Below.refl w.heap.size w).alloc (Nat.le_refl _) (.cells #[.string M, .string O, .string G, .string H] 26)
          obtain ⟨W0, hW0⟩ : ∃ W, w.alloc (.cells #[.string M, .string O, .string G, .string H] 26) = W := ⟨_, rfl⟩
          rw [hW0] at hx0 hb0
          have HX0 := Lib.hid hx0
          have HB0 := Lib.hid hb0
          obtain ⟨c0, c1, c2, c3⟩ := hx0.cells
          clear hx0 hb0
          go_wp2_with fail
          try rw [hW0]
          clear hW0
          refine (HF.out _).mono ?_
          rintro ev w1 ⟨rfl, hb⟩
          have hx := HX0.out.next hb
          have HX1 := Lib.hid hx
          have HB1 := Lib.hid (HB0.out.trans (hb.mono HB0.out.size))
          clear hb c0 c1 c2 c3
          obtain ⟨c0, c1, c2, c3⟩ := hx.cells
          clear hx
          go_wp2_with fail
          refine (HCK.out _).mono ?_
          rintro ev w2 ⟨rfl, hb⟩
          have hx := HX1.out.next hb
          have HX2 := Lib.hid hx
          have HB2 := Lib.hid (HB1.out.trans (hb.mono HB1.out.size))
          clear hb c0 c1 c2 c3
          obtain ⟨c0, c1, c2, c3⟩ := hx.cells
          clear hx
          go_wp2_with fail
          refine (HO1.out _).mono ?_
          rintro ev w3 ⟨rfl, hb⟩
          have hx := HX2.out.next hb
          have HX3 := Lib.hid hx
          have HB3 := Lib.hid (HB2.out.trans (hb.mono HB2.out.size))
          clear hb c0 c1 c2 c3
          obtain ⟨c0, c1, c2, c3⟩ := hx.cells
          clear hx
          go_wp2_with fail
          refine (HHG.out _).mono ?_
          rintro ev w4 ⟨rfl, hb⟩
          have hx := HX3.out.next hb
          have HX4 := Lib.hid hx
          have HB4 := Lib.hid (HB3.out.trans (hb.mono HB3.out.size))
          clear hb c0 c1 c2 c3
          obtain ⟨c0, c1, c2, c3⟩ := hx.cells
          clear hx
          go_wp2_with fail
          refine (HHH.out _).mono ?_
          rintro ev w5 ⟨rfl, hb⟩
          have hx := HX4.out.next hb
          have HX5 := Lib.hid hx
          have HB5 := Lib.hid (HB4.out.trans (hb.mono HB4.out.size))
          clear hb c0 c1 c2 c3
          obtain ⟨c0, c1, c2, c3⟩ := hx.cells
          clear hx
          go_wp2
          go_ret
          exact ⟨rfl, HB5.out⟩
        | true =>
          obtain ⟨R, hR⟩ : ∃ R : Int, (if (!true || !true || b1 || b2 || b3) = true then 13 else 0) = R := ⟨_, rfl⟩
          rw [hR]
          have HRE := Lib.hid hR
          clear hR
          go_enter Tryz.func27, Tryz.ntmps27
          have hx0 := Bx4.new w (.string M) (.string O) (.string G) (.string H) 26
          have hb0 := (Below.refl w.heap.size w).alloc (Nat.le_refl _) (.cells #[.string M, .string O, .string G, .string H] 26)
          obtain ⟨W0, hW0⟩ : ∃ W, w.alloc (.cells #[.string M, .string O, .string G, .string H] 26) = W := ⟨_, rfl⟩
          rw [hW0] at hx0 hb0
          have HX0 := Lib.hid hx0
          have HB0 := Lib.hid hb0
          obtain ⟨c0, c1, c2, c3⟩ := hx0.cells
          clear hx0 hb0
          go_wp2_with fail
          try rw [hW0]
          clear hW0
          refine (HF.out _).mono ?_
          rintro ev w1 ⟨rfl, hb⟩
          have hx := HX0.out.next hb
          have HX1 := Lib.hid hx
          have HB1 := Lib.hid (HB0.out.trans (hb.mono HB0.out.size))
          clear hb c0 c1 c2 c3
          obtain ⟨c0, c1, c2, c3⟩ := hx.cells
          clear hx
          go_wp2_with fail
          refine (HCK.out _).mono ?_
          rintro ev w2 ⟨rfl, hb⟩
          have hx := HX1.out.next hb
          have HX2 := Lib.hid hx
          have HB2 := Lib.hid (HB1.out.trans (hb.mono HB1.out.size))
          clear hb c0 c1 c2 c3
          obtain ⟨c0, c1, c2, c3⟩ := hx.cells
          clear hx
          go_wp2_with fail
          refine (HO1.out _).mono ?_
          rintro ev w3 ⟨rfl, hb⟩
          have hx := HX2.out.next hb
          have HX3 := Lib.hid hx
          have HB3 := Lib.hid (HB2.out.trans (hb.mono HB2.out.size))
          clear hb c0 c1 c2 c3
          obtain ⟨c0, c1, c2, c3⟩ := hx.cells
          clear hx
          go_wp2_with fail
          refine (HHG.out _).mono ?_
          rintro ev w4 ⟨rfl, hb⟩
          have hx := HX3.out.next hb
          have HX4 := Lib.hid hx
          have HB4 := Lib.hid (HB3.out.trans (hb.mono HB3.out.size))
          clear hb c0 c1 c2 c3
          obtain ⟨c0, c1, c2, c3⟩ := hx.cells
          clear hx
          go_wp2_with fail
          refine (HHH.out _).mono ?_
          rintro ev w5 ⟨rfl, hb⟩
          have hx := HX4.out.next hb
          have HX5 := Lib.hid hx
          have HB5 := Lib.hid (HB4.out.trans (hb.mono HB4.out.size))
          clear hb c0 c1 c2 c3
          obtain ⟨c0, c1, c2, c3⟩ := hx.cells
          clear hx
          cases b1 <;> cases b2 <;> cases b3 <;>
          · go_wp2
            go_ret
            exact ⟨by rw [← HRE.out]; rfl, HB5.out⟩
    · have HR := Lib.hid (show pkC M O G H = chkK M O from by unfold pkC; rw [if_neg (by rw [hf]; decide), if_neg hck])
      rw [HR.out]
      obtain ⟨cc, hcc⟩ : ∃ cc, chkK M O = cc := ⟨_, rfl⟩
      rw [hcc] at HCK hck ⊢
      have hcb : (cc == 0) = false := by rw [beq_eq_false_iff_ne]; exact hck
      have hcb2 : (cc != 0) = true := by rw [bne, hcb]; rfl
      unfold kV gV at *
      clear hf hck hcc
      go_enter Tryz.func27, Tryz.ntmps27
      have hx0 := Bx4.new w (.string M) (.string O) (.string G) (.string H) 26
      have hb0 := (Below.refl w.heap.size w).alloc (Nat.le_refl _) (.cells #[.string M, .string O, .string G, .string H] 26)
      obtain ⟨W0, hW0⟩ : ∃ W, w.alloc (.cells #[.string M, .string O, .string G, .string H] 26) = W := ⟨_, rfl⟩
      rw [hW0] at hx0 hb0
      have HX0 := Lib.hid hx0
      have HB0 := Lib.hid hb0
      obtain ⟨c0, c1, c2, c3⟩ := hx0.cells
      clear hx0 hb0
      go_wp2_with fail
      try rw [hW0]
      clear hW0
      refine (HF.out _).mono ?_
      rintro ev w1 ⟨rfl, hb⟩
      have hx := HX0.out.next hb
      have HX1 := Lib.hid hx
      have HB1 := Lib.hid (HB0.out.trans (hb.mono HB0.out.size))
      clear hb c0 c1 c2 c3
      obtain ⟨c0, c1, c2, c3⟩ := hx.cells
      clear hx
      go_wp2_with fail
      refine (HCK.out _).mono ?_
      rintro ev w2 ⟨rfl, hb⟩
      have hx := HX1.out.next hb
      have HX2 := Lib.hid hx
      have HB2 := Lib.hid (HB1.out.trans (hb.mono HB1.out.size))
      clear hb c0 c1 c2 c3
      obtain ⟨c0, c1, c2, c3⟩ := hx.cells
      clear hx
      go_wp2
      go_ret
      exact ⟨rfl, HB2.out⟩
end Go.Proofs.YtpdejgdkpghjhaaGreatDoor

/- The arguments opened: a key of the commitments. -/
import Derived.ProofKit
import Derived.OpenShut
import Derived.ShutString
import Derived.ChangeOld
import Derived.Below
import Derived.Carry
import Derived.Deep.Slices
import Derived.Deep.Fields
import Derived.ChangeSame
import Derived.Lib.SmallJoins
import Derived.Test.YtpdejgdkpghjhaaGreatDoorChecked
import Derived.Test.YtpdejgdkpghjhaaGreatDoorRows
import Derived.Test.YtpdejgdkpghjhaaGreatDoorQPeP
import Derived.LaidMore
import Derived.Stop.Joined
set_option linter.unusedVariables false
set_option linter.unusedSimpArgs false
namespace Go.Proofs.YtpdejgdkpghjhaaGreatDoor
open Go.ChangeShapes Go.WideShapes Go.ChangeAt Go.Deep Go.Joins Go.RowKit
open Go.ChangeMaps (open_string shut_string)

theorem ownQ : ownKnob Tryz.prog.godebug = none := by kernel_rfl
theorem laidOutQ : laidOutB Tryz.prog = true := by kernel_rfl
section
variable {H : Type} {enc : TypeId × Value → H} {W : World} {sp : Nat → Bool} {held : Bool}
/-- A field's cells. -/
theorem trod_at {P : Program} {w : World} {base : Nat} {spare : Nat → Bool} {fuel : Nat} {t : TypeId} {cs : List Value} {x : DataW H × List MemPlace} {fs : Array Field} (ht : P.underlying t = some (.struct fs)) (h : DataW.trod enc P w base spare held fuel t cs = some x) (i : Nat) (f : Field) (hf : fs[i]? = some f) (k : Nat) (hk : P.cellsOf f.type = k) :
    ∃ n y, DataW.trod enc P w base spare held n f.type ((cs.drop f.offset).take k) = some y := by
  obtain ⟨xs, n, _, _, _, hl, hx⟩ := DataW.trod_struct ht h
  have h1 := hx i f hf
  have hi : i < xs.length := by rw [hl]; exact (Array.getElem?_eq_some_iff.1 hf).1
  rw [hk, List.getElem?_eq_getElem hi] at h1
  exact ⟨n, _, h1⟩

set_option maxRecDepth 100000 in
theorem open_key {r : Reach} {b0 : Nat} {v : Value} {d : DataW H} {p : List MemPlace} (hv : Value.okWide Tryz.prog W r b0 26 v) (h : DataW.Trod enc Tryz.prog W 0 (fun _ => true) held 26 v d p) : ∃ M O G K : ByteArray, v = kV M O G K := by
  obtain ⟨cs, rfl, hsz⟩ := okWide_struct Tryz.underlying26 hv
  obtain ⟨c0, c1, c2, c3, rfl⟩ := array4 (hsz.trans (show Tryz.prog.cellsOf 26 = 4 from by kernel_rfl))
  obtain ⟨fuel, hf⟩ := h
  have hf : DataW.trod enc Tryz.prog W 0 (fun _ => true) held fuel 26 [c0, c1, c2, c3] = some (d, p) := hf
  obtain ⟨n1, y1, g1⟩ := trod_at Tryz.underlying26 hf 0 _ rfl 2 (by kernel_rfl)
  have g1 : DataW.trod enc Tryz.prog W 0 (fun _ => true) held n1 24 [c0, c1] = some y1 := g1
  obtain ⟨n2, y2, g2⟩ := trod_at Tryz.underlying26 hf 1 _ rfl 1 (by kernel_rfl)
  have g2 : DataW.trod enc Tryz.prog W 0 (fun _ => true) held n2 22 [c2] = some y2 := g2
  obtain ⟨n3, y3, g3⟩ := trod_at Tryz.underlying26 hf 2 _ rfl 1 (by kernel_rfl)
  have g3 : DataW.trod enc Tryz.prog W 0 (fun _ => true) held n3 22 [c3] = some y3 := g3
  obtain ⟨n4, y4, g4⟩ := trod_at Tryz.underlying24 g1 0 _ rfl 1 (by kernel_rfl)
  have g4 : DataW.trod enc Tryz.prog W 0 (fun _ => true) held n4 22 [c0] = some y4 := g4
  obtain ⟨n5, y5, g5⟩ := trod_at Tryz.underlying24 g1 1 _ rfl 1 (by kernel_rfl)
  have g5 : DataW.trod enc Tryz.prog W 0 (fun _ => true) held n5 22 [c1] = some y5 := g5
  obtain ⟨s0, e0, _⟩ := DataW.trod_string Tryz.underlying22 g4
  obtain ⟨s1, e1, _⟩ := DataW.trod_string Tryz.underlying22 g5
  obtain ⟨s2, e2, _⟩ := DataW.trod_string Tryz.underlying22 g2
  obtain ⟨s3, e3, _⟩ := DataW.trod_string Tryz.underlying22 g3
  simp only [List.cons.injEq, and_true] at e0 e1 e2 e3
  subst e0 e1 e2 e3
  exact ⟨s0, s1, s2, s3, rfl⟩
end
end Go.Proofs.YtpdejgdkpghjhaaGreatDoor

/- Arguments opened: groups, numbers, integers by value. -/
import Derived.Test.YtcbjadaghpmejaaGreatDoorRows
import Derived.Test.YtcbjadaghpmejaaGreatDoorInt
import Derived.Test.YtcbjadaghpmejaaGreatDoorGrp
import Derived.ProofKit
import Derived.OpenShut
import Derived.ShutString
import Derived.ChangeOld
import Derived.Below
import Derived.Carry
import Derived.ChangeSame
import Derived.Lib.SmallJoins
import Derived.LaidMore
import Derived.Stop.Joined
set_option linter.unusedVariables false
set_option linter.unusedSimpArgs false
namespace Go.Proofs.YtcbjadaghpmejaaGreatDoor
open Go.ChangeShapes Go.WideShapes Go.Joins Go.RowKit
open Go.ChangeMaps (open_string shut_string)

theorem own9 : ownKnob Tryz.prog.godebug = none := by kernel_rfl
theorem laidOut9 : laidOutB Tryz.prog = true := by kernel_rfl
section
variable {H : Type} {enc : TypeId × Value → H} {W : World} {sp : Nat → Bool} {held : Bool}
set_option maxRecDepth 100000 in
theorem open_group {r : Reach} {b0 : Nat} {v : Value} {d : DataW H} {p : List MemPlace} (hv : Value.okWide Tryz.prog W r b0 24 v) (h : DataW.Trod enc Tryz.prog W 0 sp held 24 v d p) : ∃ M O : ByteArray, v = gV M O := by
  obtain ⟨v0, v1, y0, y1, n, rfl, _, _, g0, g1⟩ := open_agg2 Tryz.underlying24 (by kernel_rfl) (by kernel_rfl) hv h
  obtain ⟨n0, e0, _, z0⟩ := DataW.trod_string Tryz.underlying22 g0
  obtain ⟨n1, e1, _, z1⟩ := DataW.trod_string Tryz.underlying22 g1
  simp only [List.cons.injEq, and_true] at e0 e1
  subst e0 e1
  exact ⟨n0, n1, rfl⟩
set_option maxRecDepth 100000 in
theorem open_nat {r : Reach} {b0 : Nat} {v : Value} {d : DataW H} {p : List MemPlace} (hv : Value.okWide Tryz.prog W r b0 22 v) (h : DataW.Trod enc Tryz.prog W 0 sp held 22 v d p) : ∃ s : ByteArray, v = .string s := by
  obtain ⟨s, e, _⟩ := open_string Tryz.underlying22 hv h
  exact ⟨s, e⟩
set_option maxRecDepth 100000 in
theorem open_intz {r : Reach} {b0 : Nat} {v : Value} {d : DataW H} {p : List MemPlace} (hv : Value.okWide Tryz.prog W r b0 35 v) (h : DataW.Trod enc Tryz.prog W 0 sp held 35 v d p) : ∃ (b : Bool) (s : ByteArray), v = zV b s := by
  obtain ⟨v0, v1, y0, y1, n, rfl, _, _, g0, g1⟩ := open_agg2 Tryz.underlying35 (by kernel_rfl) (by kernel_rfl) hv h
  obtain ⟨n0, e0, _⟩ := DataW.trod_bool Tryz.underlying4 g0
  obtain ⟨n1, e1, _, z1⟩ := DataW.trod_string Tryz.underlying22 g1
  simp only [List.cons.injEq, and_true] at e0 e1
  subst e0 e1
  exact ⟨n0, n1, rfl⟩
end
end Go.Proofs.YtcbjadaghpmejaaGreatDoor

/- Arguments opened: groups, numbers, integers by value. -/
import Derived.Test.YtcbjadaghpmejaaDoorRows
import Derived.Test.YtcbjadaghpmejaaDoorInt
import Derived.Test.YtcbjadaghpmejaaDoorGrp
import Derived.ProofKit
import Derived.OpenShut
import Derived.ShutString
import Derived.ChangeOld
import Derived.Below
import Derived.Carry
import Derived.ChangeSame
import Derived.Lib.SmallJoins
import Derived.LaidMore
import Derived.Stop.Joined
set_option linter.unusedVariables false
set_option linter.unusedSimpArgs false
namespace Go.Proofs.YtcbjadaghpmejaaDoor
open Go.ChangeShapes Go.WideShapes Go.Joins Go.RowKit
open Go.ChangeMaps (open_string shut_string)

theorem own9 : ownKnob Tryd.prog.godebug = none := by kernel_rfl
theorem laidOut9 : laidOutB Tryd.prog = true := by kernel_rfl
section
variable {H : Type} {enc : TypeId × Value → H} {W : World} {sp : Nat → Bool} {held : Bool}
set_option maxRecDepth 100000 in
theorem open_group {r : Reach} {b0 : Nat} {v : Value} {d : DataW H} {p : List MemPlace} (hv : Value.okWide Tryd.prog W r b0 24 v) (h : DataW.Trod enc Tryd.prog W 0 sp held 24 v d p) : ∃ M O : ByteArray, v = gV M O := by
  obtain ⟨v0, v1, y0, y1, n, rfl, _, _, g0, g1⟩ := open_agg2 Tryd.underlying24 (by kernel_rfl) (by kernel_rfl) hv h
  obtain ⟨n0, e0, _, z0⟩ := DataW.trod_string Tryd.underlying22 g0
  obtain ⟨n1, e1, _, z1⟩ := DataW.trod_string Tryd.underlying22 g1
  simp only [List.cons.injEq, and_true] at e0 e1
  subst e0 e1
  exact ⟨n0, n1, rfl⟩
set_option maxRecDepth 100000 in
theorem open_nat {r : Reach} {b0 : Nat} {v : Value} {d : DataW H} {p : List MemPlace} (hv : Value.okWide Tryd.prog W r b0 22 v) (h : DataW.Trod enc Tryd.prog W 0 sp held 22 v d p) : ∃ s : ByteArray, v = .string s := by
  obtain ⟨s, e, _⟩ := open_string Tryd.underlying22 hv h
  exact ⟨s, e⟩
set_option maxRecDepth 100000 in
theorem open_intz {r : Reach} {b0 : Nat} {v : Value} {d : DataW H} {p : List MemPlace} (hv : Value.okWide Tryd.prog W r b0 31 v) (h : DataW.Trod enc Tryd.prog W 0 sp held 31 v d p) : ∃ (b : Bool) (s : ByteArray), v = zV b s := by
  obtain ⟨v0, v1, y0, y1, n, rfl, _, _, g0, g1⟩ := open_agg2 Tryd.underlying31 (by kernel_rfl) (by kernel_rfl) hv h
  obtain ⟨n0, e0, _⟩ := DataW.trod_bool Tryd.underlying4 g0
  obtain ⟨n1, e1, _, z1⟩ := DataW.trod_string Tryd.underlying22 g1
  simp only [List.cons.injEq, and_true] at e0 e1
  subst e0 e1
  exact ⟨n0, n1, rfl⟩
end
end Go.Proofs.YtcbjadaghpmejaaDoor

/-
  No cell of these rows narrows 'for every input' (looked for: loops, veiled, ifaces, maps, wideKeys, modest, calm, conditions, laid).
  DERIVED. THE GIVEN ROWS OF THIS SEAT. 3 by the template 'for every input the law returns true; each argument reads behind the call as it read before'; 0 by the template 'total and deterministic' (their statements: YtnnfgphioapmnaaTotals.lean).
  GIVEN WITH THE SEED: the statements are not yours to turn. If you find one false, say at which input.
  Laid BY PROGRAM, IN A SANDBOX (cutbox-rows.mjs): the forced cells as the released guide's own fill.sh prints them over the translation b94b37cd4e108a2e… (all of the seat's roots in one cut). By AI agents, Wed Nov 11 2026. No macro, syntax, notation, axiom, sorry.
-/
import Derived.Test.YtnnfgphioapmnaaChecked
import GoSem.Claim
import GoSem.ClaimJoined
import GoSem.ClaimMapViews
import Derived.JoinedTies
import Derived.KernelRfl
namespace Go.Proofs.Ytnnfgphioapmnaa
/- THE CELL 'sum', in the pinned program and in every row, IS THE sha256 OF THE DUMP (.gsa) THAT YtnnfgphioapmnaaProg.lean LOADS. Nothing in Lean hashes anything: it is a label: what it is worth is what the hold of that sum in a sandbox is worth. -/
noncomputable def Try.pinned : Pinned := { name := "ytnnfgphioapmnaa", sum := "b94b37cd4e108a2ea52858da46719f5a38b1aefb771853ee492e1838965e3148", checked := Try.checked }
namespace Rows
def none {H : Type} : Left H := { results := [], args := [] }

/-- 'dominolaw14.PedersenHides': WHATEVER THE INPUT: true; the input reads as it did. -/
def pedersenHidesSpec : ChangeSpec := { name := "pedersenHides", fn := fun _ => fun
  | [d1, d2] => { results := [.lit (.bool true)], args := [d1, d2] }
  | _ => none }
def pedersenHidesRow : OpenClaim := { program := "ytnnfgphioapmnaa", sum := "b94b37cd4e108a2ea52858da46719f5a38b1aefb771853ee492e1838965e3148", func := "domino/dominolaw14.PedersenHides", spec := "pedersenHides", inPlace := ["internal/bytealg.abigen_runtime_cmpstring"], unfollowed := true, recurses := true, named := ["math/bits.divideError", "math/bits.overflowError"], apart := false }
def PedersenHidesSaid : Prop := pedersenHidesRow.holds Try.pinned (OpenSpec.ofChange pedersenHidesSpec)

/-- ITS FALSE NEIGHBOUR: 'it returns false'. Refute it at one input. -/
def pedersenHidesWrong : ChangeSpec := { name := "pedersenHides", fn := fun _ => fun
  | [d1, d2] => { results := [.lit (.bool false)], args := [d1, d2] }
  | _ => none }
def PedersenHidesWrongFalsely : Prop := pedersenHidesRow.holds Try.pinned (OpenSpec.ofChange pedersenHidesWrong)

/-- 'dominolaw14.PedersenBinds': WHATEVER THE INPUT: true; the input reads as it did. -/
def pedersenBindsSpec : ChangeSpec := { name := "pedersenBinds", fn := fun _ => fun
  | [d1, d2] => { results := [.lit (.bool true)], args := [d1, d2] }
  | _ => none }
def pedersenBindsRow : OpenClaim := { program := "ytnnfgphioapmnaa", sum := "b94b37cd4e108a2ea52858da46719f5a38b1aefb771853ee492e1838965e3148", func := "domino/dominolaw14.PedersenBinds", spec := "pedersenBinds", inPlace := ["internal/bytealg.abigen_runtime_cmpstring"], unfollowed := true, recurses := true, named := ["math/bits.divideError", "math/bits.overflowError"], apart := false }
def PedersenBindsSaid : Prop := pedersenBindsRow.holds Try.pinned (OpenSpec.ofChange pedersenBindsSpec)

/-- ITS FALSE NEIGHBOUR: 'it returns false'. Refute it at one input. -/
def pedersenBindsWrong : ChangeSpec := { name := "pedersenBinds", fn := fun _ => fun
  | [d1, d2] => { results := [.lit (.bool false)], args := [d1, d2] }
  | _ => none }
def PedersenBindsWrongFalsely : Prop := pedersenBindsRow.holds Try.pinned (OpenSpec.ofChange pedersenBindsWrong)

/-- 'dominolaw14.PedersenOpens': WHATEVER THE INPUT: true; the input reads as it did. -/
def pedersenOpensSpec : ChangeSpec := { name := "pedersenOpens", fn := fun _ => fun
  | [d1, d2, d3] => { results := [.lit (.bool true)], args := [d1, d2, d3] }
  | _ => none }
def pedersenOpensRow : OpenClaim := { program := "ytnnfgphioapmnaa", sum := "b94b37cd4e108a2ea52858da46719f5a38b1aefb771853ee492e1838965e3148", func := "domino/dominolaw14.PedersenOpens", spec := "pedersenOpens", inPlace := ["internal/bytealg.abigen_runtime_cmpstring"], unfollowed := true, recurses := true, named := ["math/bits.divideError", "math/bits.overflowError"], apart := false }
def PedersenOpensSaid : Prop := pedersenOpensRow.holds Try.pinned (OpenSpec.ofChange pedersenOpensSpec)

/-- ITS FALSE NEIGHBOUR: 'it returns false'. Refute it at one input. -/
def pedersenOpensWrong : ChangeSpec := { name := "pedersenOpens", fn := fun _ => fun
  | [d1, d2, d3] => { results := [.lit (.bool false)], args := [d1, d2, d3] }
  | _ => none }
def PedersenOpensWrongFalsely : Prop := pedersenOpensRow.holds Try.pinned (OpenSpec.ofChange pedersenOpensWrong)

/- THE SECOND FORM. 'bulk': how many values and letters a reading holds, each counted each time it is reached (what is shared counts as often as it is met; a slice's spare places count too). A statement '..UptoSaid' is the law's where the arguments, and the package variables that the reading takes, are together of bulk at most 1048576: NARROWER than '..Said'. Prove '..Said' where nothing that the law and all that it calls make is longer than what came in: it says more and counts as full. Else prove '..UptoSaid'. A law counts once. -/
mutual
def uptoBulk {H : Type} : DataW H → Nat
  | .lit (.string bytes) => bytes.length + 1
  | .lit _ => 1
  | .nil => 1
  | .ptr d => uptoBulk d + 1
  | .slice elems spare => uptoBulkAll elems + uptoBulkAll spare + 1
  | .agg parts => uptoBulkAll parts + 1
  | .iface _ d => uptoBulk d + 1
  | .map entries => uptoBulkEntries entries + 1
  | .held _ => 1
def uptoBulkAll {H : Type} : List (DataW H) → Nat
  | [] => 0
  | d :: r => uptoBulk d + uptoBulkAll r
def uptoBulkEntries {H : Type} : List (Lit × DataW H) → Nat
  | [] => 0
  | x :: r => uptoBulkEntry x + uptoBulkEntries r
def uptoBulkEntry {H : Type} : Lit × DataW H → Nat
  | (.string bytes, d) => bytes.length + uptoBulk d + 1
  | (_, d) => uptoBulk d + 1
 end
def uptoSmall : (H : Type) → List (DataW H) → Bool := fun _ ds => decide (uptoBulkAll ds ≤ 1048576)
def OpenSpec.upto (s : _root_.Go.ChangeSpec) : _root_.Go.OpenSpec := { _root_.Go.OpenSpec.ofChange s with cond := some uptoSmall }

/-- 'dominolaw14.PedersenHides', WHERE WHAT IT READS IS OF BULK AT MOST 1048576: true; the input reads as it did. -/
def pedersenHidesUptoRow : OpenClaim := { program := "ytnnfgphioapmnaa", sum := "b94b37cd4e108a2ea52858da46719f5a38b1aefb771853ee492e1838965e3148", func := "domino/dominolaw14.PedersenHides", spec := "pedersenHides", inPlace := ["internal/bytealg.abigen_runtime_cmpstring"], unfollowed := true, recurses := true, named := ["math/bits.divideError", "math/bits.overflowError"], apart := false, narrowed := true }
def PedersenHidesUptoSaid : Prop := pedersenHidesUptoRow.holds Try.pinned (OpenSpec.upto pedersenHidesSpec)

/-- 'dominolaw14.PedersenBinds', WHERE WHAT IT READS IS OF BULK AT MOST 1048576: true; the input reads as it did. -/
def pedersenBindsUptoRow : OpenClaim := { program := "ytnnfgphioapmnaa", sum := "b94b37cd4e108a2ea52858da46719f5a38b1aefb771853ee492e1838965e3148", func := "domino/dominolaw14.PedersenBinds", spec := "pedersenBinds", inPlace := ["internal/bytealg.abigen_runtime_cmpstring"], unfollowed := true, recurses := true, named := ["math/bits.divideError", "math/bits.overflowError"], apart := false, narrowed := true }
def PedersenBindsUptoSaid : Prop := pedersenBindsUptoRow.holds Try.pinned (OpenSpec.upto pedersenBindsSpec)

/-- 'dominolaw14.PedersenOpens', WHERE WHAT IT READS IS OF BULK AT MOST 1048576: true; the input reads as it did. -/
def pedersenOpensUptoRow : OpenClaim := { program := "ytnnfgphioapmnaa", sum := "b94b37cd4e108a2ea52858da46719f5a38b1aefb771853ee492e1838965e3148", func := "domino/dominolaw14.PedersenOpens", spec := "pedersenOpens", inPlace := ["internal/bytealg.abigen_runtime_cmpstring"], unfollowed := true, recurses := true, named := ["math/bits.divideError", "math/bits.overflowError"], apart := false, narrowed := true }
def PedersenOpensUptoSaid : Prop := pedersenOpensUptoRow.holds Try.pinned (OpenSpec.upto pedersenOpensSpec)

end Rows
end Go.Proofs.Ytnnfgphioapmnaa

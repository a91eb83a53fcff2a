/-
  No cell of these rows narrows 'for every input' (looked for: loops, veiled, ifaces, maps, wideKeys, modest, calm, conditions, laid).
  DERIVED. THE GIVEN ROWS OF THIS SEAT. 4 by the template 'for every input the law returns true; each argument reads behind the call as it read before'; 0 by the template 'total and deterministic' (their statements: YtelhpdlegjgjjaaTotals.lean).
  GIVEN WITH THE SEED: the statements are not yours to turn. If you find one false, say at which input.
  Laid BY PROGRAM, IN A SANDBOX (cutbox-rows.mjs): the forced cells as the released guide's own fill.sh prints them over the translation efb5ad77cadad5e5… (all of the seat's roots in one cut). By AI agents, Wed Nov 11 2026. No macro, syntax, notation, axiom, sorry.
-/
import Derived.Test.YtelhpdlegjgjjaaChecked
import GoSem.Claim
import GoSem.ClaimJoined
import GoSem.ClaimMapViews
import Derived.JoinedTies
import Derived.KernelRfl
namespace Go.Proofs.Ytelhpdlegjgjjaa
/- THE CELL 'sum', in the pinned program and in every row, IS THE sha256 OF THE DUMP (.gsa) THAT YtelhpdlegjgjjaaProg.lean LOADS. Nothing in Lean hashes anything: it is a label: what it is worth is what the hold of that sum in a sandbox is worth. -/
noncomputable def Try.pinned : Pinned := { name := "ytelhpdlegjgjjaa", sum := "efb5ad77cadad5e51ab54eea9756bd8fc534e153f36f5059075f8e4e966cb754", checked := Try.checked }
namespace Rows
def none {H : Type} : Left H := { results := [], args := [] }

/-- 'dominolaw37.EpochlogMessages': WHATEVER THE INPUT: true; the input reads as it did. -/
def epochlogMessagesSpec : ChangeSpec := { name := "epochlogMessages", fn := fun _ => fun
  | [d] => { results := [.lit (.bool true)], args := [d] }
  | _ => none }
def epochlogMessagesRow : OpenClaim := { program := "ytelhpdlegjgjjaa", sum := "efb5ad77cadad5e51ab54eea9756bd8fc534e153f36f5059075f8e4e966cb754", func := "domino/dominolaw37.EpochlogMessages", spec := "epochlogMessages", inPlace := ["internal/bytealg.abigen_runtime_cmpstring", "internal/abi.NoEscape"], unfollowed := true, recurses := true, apart := false }
def EpochlogMessagesSaid : Prop := epochlogMessagesRow.holds Try.pinned (OpenSpec.ofChange epochlogMessagesSpec)

/-- ITS FALSE NEIGHBOUR: 'it returns false'. Refute it at one input. -/
def epochlogMessagesWrong : ChangeSpec := { name := "epochlogMessages", fn := fun _ => fun
  | [d] => { results := [.lit (.bool false)], args := [d] }
  | _ => none }
def EpochlogMessagesWrongFalsely : Prop := epochlogMessagesRow.holds Try.pinned (OpenSpec.ofChange epochlogMessagesWrong)

/-- 'dominolaw37.EpochlogJoins': WHATEVER THE INPUT: true; the input reads as it did. -/
def epochlogJoinsSpec : ChangeSpec := { name := "epochlogJoins", fn := fun _ => fun
  | [d1, d2] => { results := [.lit (.bool true)], args := [d1, d2] }
  | _ => none }
def epochlogJoinsRow : OpenClaim := { program := "ytelhpdlegjgjjaa", sum := "efb5ad77cadad5e51ab54eea9756bd8fc534e153f36f5059075f8e4e966cb754", func := "domino/dominolaw37.EpochlogJoins", spec := "epochlogJoins", inPlace := ["internal/bytealg.abigen_runtime_cmpstring", "internal/abi.NoEscape"], unfollowed := true, recurses := true, apart := false }
def EpochlogJoinsSaid : Prop := epochlogJoinsRow.holds Try.pinned (OpenSpec.ofChange epochlogJoinsSpec)

/-- ITS FALSE NEIGHBOUR: 'it returns false'. Refute it at one input. -/
def epochlogJoinsWrong : ChangeSpec := { name := "epochlogJoins", fn := fun _ => fun
  | [d1, d2] => { results := [.lit (.bool false)], args := [d1, d2] }
  | _ => none }
def EpochlogJoinsWrongFalsely : Prop := epochlogJoinsRow.holds Try.pinned (OpenSpec.ofChange epochlogJoinsWrong)

/-- 'dominolaw37.EpochlogBetween': WHATEVER THE INPUT: true; the input reads as it did. -/
def epochlogBetweenSpec : ChangeSpec := { name := "epochlogBetween", fn := fun _ => fun
  | [d1, d2, d3] => { results := [.lit (.bool true)], args := [d1, d2, d3] }
  | _ => none }
def epochlogBetweenRow : OpenClaim := { program := "ytelhpdlegjgjjaa", sum := "efb5ad77cadad5e51ab54eea9756bd8fc534e153f36f5059075f8e4e966cb754", func := "domino/dominolaw37.EpochlogBetween", spec := "epochlogBetween", inPlace := ["internal/bytealg.abigen_runtime_cmpstring", "internal/abi.NoEscape"], unfollowed := true, recurses := true, apart := false }
def EpochlogBetweenSaid : Prop := epochlogBetweenRow.holds Try.pinned (OpenSpec.ofChange epochlogBetweenSpec)

/-- ITS FALSE NEIGHBOUR: 'it returns false'. Refute it at one input. -/
def epochlogBetweenWrong : ChangeSpec := { name := "epochlogBetween", fn := fun _ => fun
  | [d1, d2, d3] => { results := [.lit (.bool false)], args := [d1, d2, d3] }
  | _ => none }
def EpochlogBetweenWrongFalsely : Prop := epochlogBetweenRow.holds Try.pinned (OpenSpec.ofChange epochlogBetweenWrong)

/-- 'dominolaw37.EpochlogAssociates': WHATEVER THE INPUT: true; the input reads as it did. -/
def epochlogAssociatesSpec : ChangeSpec := { name := "epochlogAssociates", fn := fun _ => fun
  | [d1, d2] => { results := [.lit (.bool true)], args := [d1, d2] }
  | _ => none }
def epochlogAssociatesRow : OpenClaim := { program := "ytelhpdlegjgjjaa", sum := "efb5ad77cadad5e51ab54eea9756bd8fc534e153f36f5059075f8e4e966cb754", func := "domino/dominolaw37.EpochlogAssociates", spec := "epochlogAssociates", inPlace := ["internal/bytealg.abigen_runtime_cmpstring", "internal/abi.NoEscape"], unfollowed := true, recurses := true, apart := false }
def EpochlogAssociatesSaid : Prop := epochlogAssociatesRow.holds Try.pinned (OpenSpec.ofChange epochlogAssociatesSpec)

/-- ITS FALSE NEIGHBOUR: 'it returns false'. Refute it at one input. -/
def epochlogAssociatesWrong : ChangeSpec := { name := "epochlogAssociates", fn := fun _ => fun
  | [d1, d2] => { results := [.lit (.bool false)], args := [d1, d2] }
  | _ => none }
def EpochlogAssociatesWrongFalsely : Prop := epochlogAssociatesRow.holds Try.pinned (OpenSpec.ofChange epochlogAssociatesWrong)

/- THE SECOND FORM. 'bulk': how many values and letters a reading holds, each counted each time it is reached (what is shared counts as often as it is met; a slice's spare places count too). A statement '..UptoSaid' is the law's where the arguments, and the package variables that the reading takes, are together of bulk at most 1048576: NARROWER than '..Said'. Prove '..Said' where nothing that the law and all that it calls make is longer than what came in: it says more and counts as full. Else prove '..UptoSaid'. A law counts once. -/
mutual
def uptoBulk {H : Type} : DataW H → Nat
  | .lit (.string bytes) => bytes.length + 1
  | .lit _ => 1
  | .nil => 1
  | .ptr d => uptoBulk d + 1
  | .slice elems spare => uptoBulkAll elems + uptoBulkAll spare + 1
  | .agg parts => uptoBulkAll parts + 1
  | .iface _ d => uptoBulk d + 1
  | .map entries => uptoBulkEntries entries + 1
  | .held _ => 1
def uptoBulkAll {H : Type} : List (DataW H) → Nat
  | [] => 0
  | d :: r => uptoBulk d + uptoBulkAll r
def uptoBulkEntries {H : Type} : List (Lit × DataW H) → Nat
  | [] => 0
  | x :: r => uptoBulkEntry x + uptoBulkEntries r
def uptoBulkEntry {H : Type} : Lit × DataW H → Nat
  | (.string bytes, d) => bytes.length + uptoBulk d + 1
  | (_, d) => uptoBulk d + 1
 end
def uptoSmall : (H : Type) → List (DataW H) → Bool := fun _ ds => decide (uptoBulkAll ds ≤ 1048576)
def OpenSpec.upto (s : _root_.Go.ChangeSpec) : _root_.Go.OpenSpec := { _root_.Go.OpenSpec.ofChange s with cond := some uptoSmall }

/-- 'dominolaw37.EpochlogMessages', WHERE WHAT IT READS IS OF BULK AT MOST 1048576: true; the input reads as it did. -/
def epochlogMessagesUptoRow : OpenClaim := { program := "ytelhpdlegjgjjaa", sum := "efb5ad77cadad5e51ab54eea9756bd8fc534e153f36f5059075f8e4e966cb754", func := "domino/dominolaw37.EpochlogMessages", spec := "epochlogMessages", inPlace := ["internal/bytealg.abigen_runtime_cmpstring", "internal/abi.NoEscape"], unfollowed := true, recurses := true, apart := false, narrowed := true }
def EpochlogMessagesUptoSaid : Prop := epochlogMessagesUptoRow.holds Try.pinned (OpenSpec.upto epochlogMessagesSpec)

/-- 'dominolaw37.EpochlogJoins', WHERE WHAT IT READS IS OF BULK AT MOST 1048576: true; the input reads as it did. -/
def epochlogJoinsUptoRow : OpenClaim := { program := "ytelhpdlegjgjjaa", sum := "efb5ad77cadad5e51ab54eea9756bd8fc534e153f36f5059075f8e4e966cb754", func := "domino/dominolaw37.EpochlogJoins", spec := "epochlogJoins", inPlace := ["internal/bytealg.abigen_runtime_cmpstring", "internal/abi.NoEscape"], unfollowed := true, recurses := true, apart := false, narrowed := true }
def EpochlogJoinsUptoSaid : Prop := epochlogJoinsUptoRow.holds Try.pinned (OpenSpec.upto epochlogJoinsSpec)

/-- 'dominolaw37.EpochlogBetween', WHERE WHAT IT READS IS OF BULK AT MOST 1048576: true; the input reads as it did. -/
def epochlogBetweenUptoRow : OpenClaim := { program := "ytelhpdlegjgjjaa", sum := "efb5ad77cadad5e51ab54eea9756bd8fc534e153f36f5059075f8e4e966cb754", func := "domino/dominolaw37.EpochlogBetween", spec := "epochlogBetween", inPlace := ["internal/bytealg.abigen_runtime_cmpstring", "internal/abi.NoEscape"], unfollowed := true, recurses := true, apart := false, narrowed := true }
def EpochlogBetweenUptoSaid : Prop := epochlogBetweenUptoRow.holds Try.pinned (OpenSpec.upto epochlogBetweenSpec)

/-- 'dominolaw37.EpochlogAssociates', WHERE WHAT IT READS IS OF BULK AT MOST 1048576: true; the input reads as it did. -/
def epochlogAssociatesUptoRow : OpenClaim := { program := "ytelhpdlegjgjjaa", sum := "efb5ad77cadad5e51ab54eea9756bd8fc534e153f36f5059075f8e4e966cb754", func := "domino/dominolaw37.EpochlogAssociates", spec := "epochlogAssociates", inPlace := ["internal/bytealg.abigen_runtime_cmpstring", "internal/abi.NoEscape"], unfollowed := true, recurses := true, apart := false, narrowed := true }
def EpochlogAssociatesUptoSaid : Prop := epochlogAssociatesUptoRow.holds Try.pinned (OpenSpec.upto epochlogAssociatesSpec)

end Rows
end Go.Proofs.Ytelhpdlegjgjjaa

/-
  No cell of these rows narrows 'for every input' (looked for: loops, veiled, ifaces, maps, wideKeys, modest, calm, conditions, laid).
  DERIVED. THE GIVEN ROWS OF THIS SEAT. 3 by the template 'for every input the law returns true; each argument reads behind the call as it read before'; 0 by the template 'total and deterministic' (their statements: YthidhgniondkgaaTotals.lean).
  GIVEN WITH THE SEED: the statements are not yours to turn. If you find one false, say at which input.
  Laid BY PROGRAM, IN A SANDBOX (cutbox-rows.mjs): the forced cells as the released guide's own fill.sh prints them over the translation d3c8f957e0b20b15… (all of the seat's roots in one cut). By AI agents, Wed Nov 11 2026. No macro, syntax, notation, axiom, sorry.
-/
import Derived.Test.YthidhgniondkgaaChecked
import GoSem.Claim
import GoSem.ClaimJoined
import GoSem.ClaimMapViews
import Derived.JoinedTies
import Derived.KernelRfl
namespace Go.Proofs.Ythidhgniondkgaa
/- THE CELL 'sum', in the pinned program and in every row, IS THE sha256 OF THE DUMP (.gsa) THAT YthidhgniondkgaaProg.lean LOADS. Nothing in Lean hashes anything: it is a label: what it is worth is what the hold of that sum in a sandbox is worth. -/
noncomputable def Try.pinned : Pinned := { name := "ythidhgniondkgaa", sum := "d3c8f957e0b20b151656ddf8bd6480450f347dc17fcf64028620fd6c30af54fc", checked := Try.checked }
namespace Rows
def none {H : Type} : Left H := { results := [], args := [] }

/-- 'dominolaw57.LedgerMessages': WHATEVER THE INPUT: true; the input reads as it did. -/
def ledgerMessagesSpec : ChangeSpec := { name := "ledgerMessages", fn := fun _ => fun
  | [d] => { results := [.lit (.bool true)], args := [d] }
  | _ => none }
def ledgerMessagesRow : OpenClaim := { program := "ythidhgniondkgaa", sum := "d3c8f957e0b20b151656ddf8bd6480450f347dc17fcf64028620fd6c30af54fc", func := "domino/dominolaw57.LedgerMessages", spec := "ledgerMessages", inPlace := ["internal/bytealg.abigen_runtime_cmpstring", "internal/abi.NoEscape"], recurses := true, apart := false }
def LedgerMessagesSaid : Prop := ledgerMessagesRow.holds Try.pinned (OpenSpec.ofChange ledgerMessagesSpec)

/-- ITS FALSE NEIGHBOUR: 'it returns false'. Refute it at one input. -/
def ledgerMessagesWrong : ChangeSpec := { name := "ledgerMessages", fn := fun _ => fun
  | [d] => { results := [.lit (.bool false)], args := [d] }
  | _ => none }
def LedgerMessagesWrongFalsely : Prop := ledgerMessagesRow.holds Try.pinned (OpenSpec.ofChange ledgerMessagesWrong)

/-- 'dominolaw57.LedgerAppends': WHATEVER THE INPUT: true; the input reads as it did. -/
def ledgerAppendsSpec : ChangeSpec := { name := "ledgerAppends", fn := fun _ => fun
  | [d1, d2, d3] => { results := [.lit (.bool true)], args := [d1, d2, d3] }
  | _ => none }
def ledgerAppendsRow : OpenClaim := { program := "ythidhgniondkgaa", sum := "d3c8f957e0b20b151656ddf8bd6480450f347dc17fcf64028620fd6c30af54fc", func := "domino/dominolaw57.LedgerAppends", spec := "ledgerAppends", inPlace := ["internal/bytealg.abigen_runtime_cmpstring", "internal/abi.NoEscape"], recurses := true, apart := false }
def LedgerAppendsSaid : Prop := ledgerAppendsRow.holds Try.pinned (OpenSpec.ofChange ledgerAppendsSpec)

/-- ITS FALSE NEIGHBOUR: 'it returns false'. Refute it at one input. -/
def ledgerAppendsWrong : ChangeSpec := { name := "ledgerAppends", fn := fun _ => fun
  | [d1, d2, d3] => { results := [.lit (.bool false)], args := [d1, d2, d3] }
  | _ => none }
def LedgerAppendsWrongFalsely : Prop := ledgerAppendsRow.holds Try.pinned (OpenSpec.ofChange ledgerAppendsWrong)

/-- 'dominolaw57.LedgerGrows': WHATEVER THE INPUT: true; the input reads as it did. -/
def ledgerGrowsSpec : ChangeSpec := { name := "ledgerGrows", fn := fun _ => fun
  | [d] => { results := [.lit (.bool true)], args := [d] }
  | _ => none }
def ledgerGrowsRow : OpenClaim := { program := "ythidhgniondkgaa", sum := "d3c8f957e0b20b151656ddf8bd6480450f347dc17fcf64028620fd6c30af54fc", func := "domino/dominolaw57.LedgerGrows", spec := "ledgerGrows", inPlace := ["internal/bytealg.abigen_runtime_cmpstring", "internal/abi.NoEscape"], unfollowed := true, recurses := true, apart := false }
def LedgerGrowsSaid : Prop := ledgerGrowsRow.holds Try.pinned (OpenSpec.ofChange ledgerGrowsSpec)

/-- ITS FALSE NEIGHBOUR: 'it returns false'. Refute it at one input. -/
def ledgerGrowsWrong : ChangeSpec := { name := "ledgerGrows", fn := fun _ => fun
  | [d] => { results := [.lit (.bool false)], args := [d] }
  | _ => none }
def LedgerGrowsWrongFalsely : Prop := ledgerGrowsRow.holds Try.pinned (OpenSpec.ofChange ledgerGrowsWrong)

/- THE SECOND FORM. 'bulk': how many values and letters a reading holds, each counted each time it is reached (what is shared counts as often as it is met; a slice's spare places count too). A statement '..UptoSaid' is the law's where the arguments, and the package variables that the reading takes, are together of bulk at most 1048576: NARROWER than '..Said'. Prove '..Said' where nothing that the law and all that it calls make is longer than what came in: it says more and counts as full. Else prove '..UptoSaid'. A law counts once. -/
mutual
def uptoBulk {H : Type} : DataW H → Nat
  | .lit (.string bytes) => bytes.length + 1
  | .lit _ => 1
  | .nil => 1
  | .ptr d => uptoBulk d + 1
  | .slice elems spare => uptoBulkAll elems + uptoBulkAll spare + 1
  | .agg parts => uptoBulkAll parts + 1
  | .iface _ d => uptoBulk d + 1
  | .map entries => uptoBulkEntries entries + 1
  | .held _ => 1
def uptoBulkAll {H : Type} : List (DataW H) → Nat
  | [] => 0
  | d :: r => uptoBulk d + uptoBulkAll r
def uptoBulkEntries {H : Type} : List (Lit × DataW H) → Nat
  | [] => 0
  | x :: r => uptoBulkEntry x + uptoBulkEntries r
def uptoBulkEntry {H : Type} : Lit × DataW H → Nat
  | (.string bytes, d) => bytes.length + uptoBulk d + 1
  | (_, d) => uptoBulk d + 1
 end
def uptoSmall : (H : Type) → List (DataW H) → Bool := fun _ ds => decide (uptoBulkAll ds ≤ 1048576)
def OpenSpec.upto (s : _root_.Go.ChangeSpec) : _root_.Go.OpenSpec := { _root_.Go.OpenSpec.ofChange s with cond := some uptoSmall }

/-- 'dominolaw57.LedgerMessages', WHERE WHAT IT READS IS OF BULK AT MOST 1048576: true; the input reads as it did. -/
def ledgerMessagesUptoRow : OpenClaim := { program := "ythidhgniondkgaa", sum := "d3c8f957e0b20b151656ddf8bd6480450f347dc17fcf64028620fd6c30af54fc", func := "domino/dominolaw57.LedgerMessages", spec := "ledgerMessages", inPlace := ["internal/bytealg.abigen_runtime_cmpstring", "internal/abi.NoEscape"], recurses := true, apart := false, narrowed := true }
def LedgerMessagesUptoSaid : Prop := ledgerMessagesUptoRow.holds Try.pinned (OpenSpec.upto ledgerMessagesSpec)

/-- 'dominolaw57.LedgerAppends', WHERE WHAT IT READS IS OF BULK AT MOST 1048576: true; the input reads as it did. -/
def ledgerAppendsUptoRow : OpenClaim := { program := "ythidhgniondkgaa", sum := "d3c8f957e0b20b151656ddf8bd6480450f347dc17fcf64028620fd6c30af54fc", func := "domino/dominolaw57.LedgerAppends", spec := "ledgerAppends", inPlace := ["internal/bytealg.abigen_runtime_cmpstring", "internal/abi.NoEscape"], recurses := true, apart := false, narrowed := true }
def LedgerAppendsUptoSaid : Prop := ledgerAppendsUptoRow.holds Try.pinned (OpenSpec.upto ledgerAppendsSpec)

/-- 'dominolaw57.LedgerGrows', WHERE WHAT IT READS IS OF BULK AT MOST 1048576: true; the input reads as it did. -/
def ledgerGrowsUptoRow : OpenClaim := { program := "ythidhgniondkgaa", sum := "d3c8f957e0b20b151656ddf8bd6480450f347dc17fcf64028620fd6c30af54fc", func := "domino/dominolaw57.LedgerGrows", spec := "ledgerGrows", inPlace := ["internal/bytealg.abigen_runtime_cmpstring", "internal/abi.NoEscape"], unfollowed := true, recurses := true, apart := false, narrowed := true }
def LedgerGrowsUptoSaid : Prop := ledgerGrowsUptoRow.holds Try.pinned (OpenSpec.upto ledgerGrowsSpec)

end Rows
end Go.Proofs.Ythidhgniondkgaa

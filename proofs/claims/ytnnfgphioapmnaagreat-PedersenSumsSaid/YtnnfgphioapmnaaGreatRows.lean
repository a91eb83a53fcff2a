/-
  No cell of these rows narrows 'for every input' (looked for: loops, veiled, ifaces, maps, wideKeys, modest, calm, conditions, laid).
  DERIVED. THE GIVEN ROWS OF THIS SEAT. 3 by the template 'for every input the law returns true; each argument reads behind the call as it read before'; 0 by the template 'total and deterministic' (their statements: YtnnfgphioapmnaaGreatTotals.lean).
  GIVEN WITH THE SEED: the statements are not yours to turn. If you find one false, say at which input.
  Laid BY PROGRAM, IN A SANDBOX (cutbox-rows.mjs): the forced cells as the released guide's own fill.sh prints them over the translation bab7a349744c08fb… (all of the seat's roots in one cut). By AI agents, Wed Nov 11 2026. No macro, syntax, notation, axiom, sorry.
-/
import Derived.Test.YtnnfgphioapmnaaGreatChecked
import GoSem.Claim
import GoSem.ClaimJoined
import GoSem.ClaimMapViews
import Derived.JoinedTies
import Derived.KernelRfl
namespace Go.Proofs.YtnnfgphioapmnaaGreat
/- THE CELL 'sum', in the pinned program and in every row, IS THE sha256 OF THE DUMP (.gsa) THAT YtnnfgphioapmnaaGreatProg.lean LOADS. Nothing in Lean hashes anything: it is a label: what it is worth is what the hold of that sum in a sandbox is worth. -/
noncomputable def Tryz.pinned : Pinned := { name := "ytnnfgphioapmnaagreat", sum := "bab7a349744c08fb7ada2f5eb9a9bfd5f22e9ef6f2aa8103e23a585544cf9503", checked := Tryz.checked }
namespace Rows
def none {H : Type} : Left H := { results := [], args := [] }

/-- 'dominolaw14.PedersenCommits': WHATEVER THE INPUT: true; the input reads as it did. -/
def pedersenCommitsSpec : ChangeSpec := { name := "pedersenCommits", fn := fun _ => fun
  | [d1, d2, d3] => { results := [.lit (.bool true)], args := [d1, d2, d3] }
  | _ => none }
def pedersenCommitsRow : OpenClaim := { program := "ytnnfgphioapmnaagreat", sum := "bab7a349744c08fb7ada2f5eb9a9bfd5f22e9ef6f2aa8103e23a585544cf9503", func := "domino/dominolaw14.PedersenCommits", spec := "pedersenCommits", inPlace := ["internal/bytealg.abigen_runtime_cmpstring"], unfollowed := true, recurses := true, named := ["math/bits.divideError", "math/bits.overflowError"], apart := false }
def PedersenCommitsSaid : Prop := pedersenCommitsRow.holds Tryz.pinned (OpenSpec.ofChange pedersenCommitsSpec)

/-- ITS FALSE NEIGHBOUR: 'it returns false'. Refute it at one input. -/
def pedersenCommitsWrong : ChangeSpec := { name := "pedersenCommits", fn := fun _ => fun
  | [d1, d2, d3] => { results := [.lit (.bool false)], args := [d1, d2, d3] }
  | _ => none }
def PedersenCommitsWrongFalsely : Prop := pedersenCommitsRow.holds Tryz.pinned (OpenSpec.ofChange pedersenCommitsWrong)

/-- 'dominolaw14.PedersenSums': WHATEVER THE INPUT: true; the input reads as it did. -/
def pedersenSumsSpec : ChangeSpec := { name := "pedersenSums", fn := fun _ => fun
  | [d1, d2, d3] => { results := [.lit (.bool true)], args := [d1, d2, d3] }
  | _ => none }
def pedersenSumsRow : OpenClaim := { program := "ytnnfgphioapmnaagreat", sum := "bab7a349744c08fb7ada2f5eb9a9bfd5f22e9ef6f2aa8103e23a585544cf9503", func := "domino/dominolaw14.PedersenSums", spec := "pedersenSums", inPlace := ["internal/bytealg.abigen_runtime_cmpstring"], unfollowed := true, recurses := true, named := ["math/bits.divideError", "math/bits.overflowError"], apart := false }
def PedersenSumsSaid : Prop := pedersenSumsRow.holds Tryz.pinned (OpenSpec.ofChange pedersenSumsSpec)

/-- ITS FALSE NEIGHBOUR: 'it returns false'. Refute it at one input. -/
def pedersenSumsWrong : ChangeSpec := { name := "pedersenSums", fn := fun _ => fun
  | [d1, d2, d3] => { results := [.lit (.bool false)], args := [d1, d2, d3] }
  | _ => none }
def PedersenSumsWrongFalsely : Prop := pedersenSumsRow.holds Tryz.pinned (OpenSpec.ofChange pedersenSumsWrong)

/-- 'dominolaw14.PedersenAdds': WHATEVER THE INPUT: true; the input reads as it did. -/
def pedersenAddsSpec : ChangeSpec := { name := "pedersenAdds", fn := fun _ => fun
  | [d1, d2, d3] => { results := [.lit (.bool true)], args := [d1, d2, d3] }
  | _ => none }
def pedersenAddsRow : OpenClaim := { program := "ytnnfgphioapmnaagreat", sum := "bab7a349744c08fb7ada2f5eb9a9bfd5f22e9ef6f2aa8103e23a585544cf9503", func := "domino/dominolaw14.PedersenAdds", spec := "pedersenAdds", inPlace := ["internal/bytealg.abigen_runtime_cmpstring"], unfollowed := true, recurses := true, named := ["math/bits.divideError", "math/bits.overflowError"], apart := false }
def PedersenAddsSaid : Prop := pedersenAddsRow.holds Tryz.pinned (OpenSpec.ofChange pedersenAddsSpec)

/-- ITS FALSE NEIGHBOUR: 'it returns false'. Refute it at one input. -/
def pedersenAddsWrong : ChangeSpec := { name := "pedersenAdds", fn := fun _ => fun
  | [d1, d2, d3] => { results := [.lit (.bool false)], args := [d1, d2, d3] }
  | _ => none }
def PedersenAddsWrongFalsely : Prop := pedersenAddsRow.holds Tryz.pinned (OpenSpec.ofChange pedersenAddsWrong)

/- THE SECOND FORM. 'bulk': how many values and letters a reading holds, each counted each time it is reached (what is shared counts as often as it is met; a slice's spare places count too). A statement '..UptoSaid' is the law's where the arguments, and the package variables that the reading takes, are together of bulk at most 1048576: NARROWER than '..Said'. Prove '..Said' where nothing that the law and all that it calls make is longer than what came in: it says more and counts as full. Else prove '..UptoSaid'. A law counts once. -/
mutual
def uptoBulk {H : Type} : DataW H → Nat
  | .lit (.string bytes) => bytes.length + 1
  | .lit _ => 1
  | .nil => 1
  | .ptr d => uptoBulk d + 1
  | .slice elems spare => uptoBulkAll elems + uptoBulkAll spare + 1
  | .agg parts => uptoBulkAll parts + 1
  | .iface _ d => uptoBulk d + 1
  | .map entries => uptoBulkEntries entries + 1
  | .held _ => 1
def uptoBulkAll {H : Type} : List (DataW H) → Nat
  | [] => 0
  | d :: r => uptoBulk d + uptoBulkAll r
def uptoBulkEntries {H : Type} : List (Lit × DataW H) → Nat
  | [] => 0
  | x :: r => uptoBulkEntry x + uptoBulkEntries r
def uptoBulkEntry {H : Type} : Lit × DataW H → Nat
  | (.string bytes, d) => bytes.length + uptoBulk d + 1
  | (_, d) => uptoBulk d + 1
 end
def uptoSmall : (H : Type) → List (DataW H) → Bool := fun _ ds => decide (uptoBulkAll ds ≤ 1048576)
def OpenSpec.upto (s : _root_.Go.ChangeSpec) : _root_.Go.OpenSpec := { _root_.Go.OpenSpec.ofChange s with cond := some uptoSmall }

/-- 'dominolaw14.PedersenCommits', WHERE WHAT IT READS IS OF BULK AT MOST 1048576: true; the input reads as it did. -/
def pedersenCommitsUptoRow : OpenClaim := { program := "ytnnfgphioapmnaagreat", sum := "bab7a349744c08fb7ada2f5eb9a9bfd5f22e9ef6f2aa8103e23a585544cf9503", func := "domino/dominolaw14.PedersenCommits", spec := "pedersenCommits", inPlace := ["internal/bytealg.abigen_runtime_cmpstring"], unfollowed := true, recurses := true, named := ["math/bits.divideError", "math/bits.overflowError"], apart := false, narrowed := true }
def PedersenCommitsUptoSaid : Prop := pedersenCommitsUptoRow.holds Tryz.pinned (OpenSpec.upto pedersenCommitsSpec)

/-- 'dominolaw14.PedersenSums', WHERE WHAT IT READS IS OF BULK AT MOST 1048576: true; the input reads as it did. -/
def pedersenSumsUptoRow : OpenClaim := { program := "ytnnfgphioapmnaagreat", sum := "bab7a349744c08fb7ada2f5eb9a9bfd5f22e9ef6f2aa8103e23a585544cf9503", func := "domino/dominolaw14.PedersenSums", spec := "pedersenSums", inPlace := ["internal/bytealg.abigen_runtime_cmpstring"], unfollowed := true, recurses := true, named := ["math/bits.divideError", "math/bits.overflowError"], apart := false, narrowed := true }
def PedersenSumsUptoSaid : Prop := pedersenSumsUptoRow.holds Tryz.pinned (OpenSpec.upto pedersenSumsSpec)

/-- 'dominolaw14.PedersenAdds', WHERE WHAT IT READS IS OF BULK AT MOST 1048576: true; the input reads as it did. -/
def pedersenAddsUptoRow : OpenClaim := { program := "ytnnfgphioapmnaagreat", sum := "bab7a349744c08fb7ada2f5eb9a9bfd5f22e9ef6f2aa8103e23a585544cf9503", func := "domino/dominolaw14.PedersenAdds", spec := "pedersenAdds", inPlace := ["internal/bytealg.abigen_runtime_cmpstring"], unfollowed := true, recurses := true, named := ["math/bits.divideError", "math/bits.overflowError"], apart := false, narrowed := true }
def PedersenAddsUptoSaid : Prop := pedersenAddsUptoRow.holds Tryz.pinned (OpenSpec.upto pedersenAddsSpec)

end Rows
end Go.Proofs.YtnnfgphioapmnaaGreat

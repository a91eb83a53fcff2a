/-
  NARROWER THAN 'FOR EVERY INPUT', by the rows' own cells (each row's printed sentence says how): PedersenDraws: laid · SchnorrChecks: laid · SchnorrExtracts: laid · SchnorrMakes: laid · SchnorrSecrets: laid · SchnorrVerifies: laid · SchnorrSigns: laid · SchnorrAccepts: laid.
  DERIVED. THE GIVEN ROWS OF THIS SEAT. 8 by the template 'for every input the law returns true; each argument reads behind the call as it read before'; 0 by the template 'total and deterministic' (their statements: YtndmjfkmnjejkaaGreatDoorTotals.lean).
  GIVEN WITH THE SEED: the statements are not yours to turn. If you find one false, say at which input.
  Laid BY PROGRAM, IN A SANDBOX (cutbox-rows.mjs): the forced cells as the released guide's own fill.sh prints them over the translation 53498b32abb3040b… (all of the seat's roots in one cut). By AI agents, Wed Nov 11 2026. No macro, syntax, notation, axiom, sorry.
-/
import Derived.Test.YtndmjfkmnjejkaaGreatDoorChecked
import GoSem.Claim
import GoSem.ClaimJoined
import GoSem.ClaimMapViews
import Derived.JoinedTies
import Derived.KernelRfl
namespace Go.Proofs.YtndmjfkmnjejkaaGreatDoor
/- THE CELL 'sum', in the pinned program and in every row, IS THE sha256 OF THE DUMP (.gsa) THAT YtndmjfkmnjejkaaGreatDoorProg.lean LOADS. Nothing in Lean hashes anything: it is a label: what it is worth is what the hold of that sum in a sandbox is worth. -/
noncomputable def Tryz.pinned : Pinned := { name := "ytndmjfkmnjejkaagreatdoor", sum := "53498b32abb3040b3fd9a82f7acdae283369e53aec3456a71f58870895fbe7e1", checked := Tryz.checked }
namespace Rows
def none {H : Type} : Left H := { results := [], args := [] }

/- WHAT THE LISTED PACKAGE-LEVEL VARIABLES READ AS WHEN THE CALL BEGINS. Each datum BY PROGRAM (the guide's laid-datum.mjs) off the statement by which the dump's own 'gosem.cut.vars' lays the variable. In a bare row this is a premise. The card (YtndmjfkmnjejkaaGreatDoorCards.lean) ties it to the program's text. -/
def laid_math_bits_deBruijn32tab {H : Type} : DataW H := .agg [.lit (.int .u8 0), .lit (.int .u8 1), .lit (.int .u8 28), .lit (.int .u8 2), .lit (.int .u8 29), .lit (.int .u8 14), .lit (.int .u8 24), .lit (.int .u8 3), .lit (.int .u8 30), .lit (.int .u8 22), .lit (.int .u8 20), .lit (.int .u8 15), .lit (.int .u8 25), .lit (.int .u8 17), .lit (.int .u8 4), .lit (.int .u8 8), .lit (.int .u8 31), .lit (.int .u8 27), .lit (.int .u8 13), .lit (.int .u8 23), .lit (.int .u8 21), .lit (.int .u8 19), .lit (.int .u8 16), .lit (.int .u8 7), .lit (.int .u8 26), .lit (.int .u8 12), .lit (.int .u8 18), .lit (.int .u8 6), .lit (.int .u8 11), .lit (.int .u8 5), .lit (.int .u8 10), .lit (.int .u8 9)]
def laid_math_bits_deBruijn64tab {H : Type} : DataW H := .agg [.lit (.int .u8 0), .lit (.int .u8 1), .lit (.int .u8 56), .lit (.int .u8 2), .lit (.int .u8 57), .lit (.int .u8 49), .lit (.int .u8 28), .lit (.int .u8 3), .lit (.int .u8 61), .lit (.int .u8 58), .lit (.int .u8 42), .lit (.int .u8 50), .lit (.int .u8 38), .lit (.int .u8 29), .lit (.int .u8 17), .lit (.int .u8 4), .lit (.int .u8 62), .lit (.int .u8 47), .lit (.int .u8 59), .lit (.int .u8 36), .lit (.int .u8 45), .lit (.int .u8 43), .lit (.int .u8 51), .lit (.int .u8 22), .lit (.int .u8 53), .lit (.int .u8 39), .lit (.int .u8 33), .lit (.int .u8 30), .lit (.int .u8 24), .lit (.int .u8 18), .lit (.int .u8 12), .lit (.int .u8 5), .lit (.int .u8 63), .lit (.int .u8 55), .lit (.int .u8 48), .lit (.int .u8 27), .lit (.int .u8 60), .lit (.int .u8 41), .lit (.int .u8 37), .lit (.int .u8 16), .lit (.int .u8 46), .lit (.int .u8 35), .lit (.int .u8 44), .lit (.int .u8 21), .lit (.int .u8 52), .lit (.int .u8 32), .lit (.int .u8 23), .lit (.int .u8 11), .lit (.int .u8 54), .lit (.int .u8 26), .lit (.int .u8 40), .lit (.int .u8 15), .lit (.int .u8 34), .lit (.int .u8 20), .lit (.int .u8 31), .lit (.int .u8 10), .lit (.int .u8 25), .lit (.int .u8 14), .lit (.int .u8 19), .lit (.int .u8 9), .lit (.int .u8 13), .lit (.int .u8 8), .lit (.int .u8 7), .lit (.int .u8 6)]
def laid_internal_strconv_uint64pow10 {H : Type} : DataW H := .agg [.lit (.int .u64 1), .lit (.int .u64 10), .lit (.int .u64 100), .lit (.int .u64 1000), .lit (.int .u64 10000), .lit (.int .u64 100000), .lit (.int .u64 1000000), .lit (.int .u64 10000000), .lit (.int .u64 100000000), .lit (.int .u64 1000000000), .lit (.int .u64 10000000000), .lit (.int .u64 100000000000), .lit (.int .u64 1000000000000), .lit (.int .u64 10000000000000), .lit (.int .u64 100000000000000), .lit (.int .u64 1000000000000000), .lit (.int .u64 10000000000000000), .lit (.int .u64 100000000000000000), .lit (.int .u64 1000000000000000000), .lit (.int .u64 10000000000000000000)]

/-- 'dominolaw14.PedersenDraws': WHATEVER THE INPUT: true; the input reads as it did. -/
def pedersenDrawsSpec : ChangeSpec := { name := "pedersenDraws", fn := fun _ => fun
  | [d1, d2, d3] => { results := [.lit (.bool true)], args := [d1, d2, d3] }
  | _ => none }
def pedersenDrawsRow : OpenClaim := { program := "ytndmjfkmnjejkaagreatdoor", sum := "53498b32abb3040b3fd9a82f7acdae283369e53aec3456a71f58870895fbe7e1", func := "domino/dominolaw14.PedersenDraws", spec := "pedersenDraws", inPlace := ["internal/bytealg.abigen_runtime_cmpstring"], unfollowed := true, recurses := true, named := ["math/bits.divideError", "math/bits.overflowError", "internal/strconv.uint64pow10", "math/bits.deBruijn32tab", "math/bits.deBruijn64tab"], apart := false, laid := [("math/bits.deBruijn32tab", laid_math_bits_deBruijn32tab), ("math/bits.deBruijn64tab", laid_math_bits_deBruijn64tab), ("internal/strconv.uint64pow10", laid_internal_strconv_uint64pow10)] }
def PedersenDrawsSaid : Prop := pedersenDrawsRow.holds Tryz.pinned (OpenSpec.ofChange pedersenDrawsSpec)

/-- ITS FALSE NEIGHBOUR: 'it returns false'. Refute it at one input. -/
def pedersenDrawsWrong : ChangeSpec := { name := "pedersenDraws", fn := fun _ => fun
  | [d1, d2, d3] => { results := [.lit (.bool false)], args := [d1, d2, d3] }
  | _ => none }
def PedersenDrawsWrongFalsely : Prop := pedersenDrawsRow.holds Tryz.pinned (OpenSpec.ofChange pedersenDrawsWrong)

/-- 'dominolaw33.SchnorrChecks': WHATEVER THE INPUT: true; the input reads as it did. -/
def schnorrChecksSpec : ChangeSpec := { name := "schnorrChecks", fn := fun _ => fun
  | [d] => { results := [.lit (.bool true)], args := [d] }
  | _ => none }
def schnorrChecksRow : OpenClaim := { program := "ytndmjfkmnjejkaagreatdoor", sum := "53498b32abb3040b3fd9a82f7acdae283369e53aec3456a71f58870895fbe7e1", func := "domino/dominolaw33.SchnorrChecks", spec := "schnorrChecks", inPlace := ["internal/bytealg.abigen_runtime_cmpstring"], unfollowed := true, recurses := true, named := ["math/bits.divideError", "math/bits.overflowError", "internal/strconv.uint64pow10", "math/bits.deBruijn32tab", "math/bits.deBruijn64tab"], apart := false, laid := [("math/bits.deBruijn32tab", laid_math_bits_deBruijn32tab), ("math/bits.deBruijn64tab", laid_math_bits_deBruijn64tab), ("internal/strconv.uint64pow10", laid_internal_strconv_uint64pow10)] }
def SchnorrChecksSaid : Prop := schnorrChecksRow.holds Tryz.pinned (OpenSpec.ofChange schnorrChecksSpec)

/-- ITS FALSE NEIGHBOUR: 'it returns false'. Refute it at one input. -/
def schnorrChecksWrong : ChangeSpec := { name := "schnorrChecks", fn := fun _ => fun
  | [d] => { results := [.lit (.bool false)], args := [d] }
  | _ => none }
def SchnorrChecksWrongFalsely : Prop := schnorrChecksRow.holds Tryz.pinned (OpenSpec.ofChange schnorrChecksWrong)

/-- 'dominolaw33.SchnorrExtracts': WHATEVER THE INPUT: true; the input reads as it did. -/
def schnorrExtractsSpec : ChangeSpec := { name := "schnorrExtracts", fn := fun _ => fun
  | [d1, d2, d3] => { results := [.lit (.bool true)], args := [d1, d2, d3] }
  | _ => none }
def schnorrExtractsRow : OpenClaim := { program := "ytndmjfkmnjejkaagreatdoor", sum := "53498b32abb3040b3fd9a82f7acdae283369e53aec3456a71f58870895fbe7e1", func := "domino/dominolaw33.SchnorrExtracts", spec := "schnorrExtracts", inPlace := ["internal/bytealg.abigen_runtime_cmpstring"], unfollowed := true, recurses := true, named := ["math/bits.divideError", "math/bits.overflowError", "internal/strconv.uint64pow10", "math/bits.deBruijn32tab", "math/bits.deBruijn64tab"], apart := false, laid := [("math/bits.deBruijn32tab", laid_math_bits_deBruijn32tab), ("math/bits.deBruijn64tab", laid_math_bits_deBruijn64tab), ("internal/strconv.uint64pow10", laid_internal_strconv_uint64pow10)] }
def SchnorrExtractsSaid : Prop := schnorrExtractsRow.holds Tryz.pinned (OpenSpec.ofChange schnorrExtractsSpec)

/-- ITS FALSE NEIGHBOUR: 'it returns false'. Refute it at one input. -/
def schnorrExtractsWrong : ChangeSpec := { name := "schnorrExtracts", fn := fun _ => fun
  | [d1, d2, d3] => { results := [.lit (.bool false)], args := [d1, d2, d3] }
  | _ => none }
def SchnorrExtractsWrongFalsely : Prop := schnorrExtractsRow.holds Tryz.pinned (OpenSpec.ofChange schnorrExtractsWrong)

/-- 'dominolaw33.SchnorrMakes': WHATEVER THE INPUT: true; the input reads as it did. -/
def schnorrMakesSpec : ChangeSpec := { name := "schnorrMakes", fn := fun _ => fun
  | [d1, d2, d3] => { results := [.lit (.bool true)], args := [d1, d2, d3] }
  | _ => none }
def schnorrMakesRow : OpenClaim := { program := "ytndmjfkmnjejkaagreatdoor", sum := "53498b32abb3040b3fd9a82f7acdae283369e53aec3456a71f58870895fbe7e1", func := "domino/dominolaw33.SchnorrMakes", spec := "schnorrMakes", inPlace := ["internal/bytealg.abigen_runtime_cmpstring"], unfollowed := true, recurses := true, named := ["math/bits.divideError", "math/bits.overflowError", "internal/strconv.uint64pow10", "math/bits.deBruijn32tab", "math/bits.deBruijn64tab"], apart := false, laid := [("math/bits.deBruijn32tab", laid_math_bits_deBruijn32tab), ("math/bits.deBruijn64tab", laid_math_bits_deBruijn64tab), ("internal/strconv.uint64pow10", laid_internal_strconv_uint64pow10)] }
def SchnorrMakesSaid : Prop := schnorrMakesRow.holds Tryz.pinned (OpenSpec.ofChange schnorrMakesSpec)

/-- ITS FALSE NEIGHBOUR: 'it returns false'. Refute it at one input. -/
def schnorrMakesWrong : ChangeSpec := { name := "schnorrMakes", fn := fun _ => fun
  | [d1, d2, d3] => { results := [.lit (.bool false)], args := [d1, d2, d3] }
  | _ => none }
def SchnorrMakesWrongFalsely : Prop := schnorrMakesRow.holds Tryz.pinned (OpenSpec.ofChange schnorrMakesWrong)

/-- 'dominolaw33.SchnorrSecrets': WHATEVER THE INPUT: true; the input reads as it did. -/
def schnorrSecretsSpec : ChangeSpec := { name := "schnorrSecrets", fn := fun _ => fun
  | [d1, d2, d3] => { results := [.lit (.bool true)], args := [d1, d2, d3] }
  | _ => none }
def schnorrSecretsRow : OpenClaim := { program := "ytndmjfkmnjejkaagreatdoor", sum := "53498b32abb3040b3fd9a82f7acdae283369e53aec3456a71f58870895fbe7e1", func := "domino/dominolaw33.SchnorrSecrets", spec := "schnorrSecrets", inPlace := ["internal/bytealg.abigen_runtime_cmpstring"], unfollowed := true, recurses := true, named := ["math/bits.divideError", "math/bits.overflowError", "internal/strconv.uint64pow10", "math/bits.deBruijn32tab", "math/bits.deBruijn64tab"], apart := false, laid := [("math/bits.deBruijn32tab", laid_math_bits_deBruijn32tab), ("math/bits.deBruijn64tab", laid_math_bits_deBruijn64tab), ("internal/strconv.uint64pow10", laid_internal_strconv_uint64pow10)] }
def SchnorrSecretsSaid : Prop := schnorrSecretsRow.holds Tryz.pinned (OpenSpec.ofChange schnorrSecretsSpec)

/-- ITS FALSE NEIGHBOUR: 'it returns false'. Refute it at one input. -/
def schnorrSecretsWrong : ChangeSpec := { name := "schnorrSecrets", fn := fun _ => fun
  | [d1, d2, d3] => { results := [.lit (.bool false)], args := [d1, d2, d3] }
  | _ => none }
def SchnorrSecretsWrongFalsely : Prop := schnorrSecretsRow.holds Tryz.pinned (OpenSpec.ofChange schnorrSecretsWrong)

/-- 'dominolaw33.SchnorrVerifies': WHATEVER THE INPUT: true; the input reads as it did. -/
def schnorrVerifiesSpec : ChangeSpec := { name := "schnorrVerifies", fn := fun _ => fun
  | [d1, d2, d3] => { results := [.lit (.bool true)], args := [d1, d2, d3] }
  | _ => none }
def schnorrVerifiesRow : OpenClaim := { program := "ytndmjfkmnjejkaagreatdoor", sum := "53498b32abb3040b3fd9a82f7acdae283369e53aec3456a71f58870895fbe7e1", func := "domino/dominolaw33.SchnorrVerifies", spec := "schnorrVerifies", inPlace := ["internal/bytealg.abigen_runtime_cmpstring", "internal/abi.NoEscape"], unfollowed := true, recurses := true, named := ["math/bits.divideError", "math/bits.overflowError", "internal/strconv.uint64pow10", "math/bits.deBruijn32tab", "math/bits.deBruijn64tab"], apart := false, laid := [("math/bits.deBruijn32tab", laid_math_bits_deBruijn32tab), ("math/bits.deBruijn64tab", laid_math_bits_deBruijn64tab), ("internal/strconv.uint64pow10", laid_internal_strconv_uint64pow10)] }
def SchnorrVerifiesSaid : Prop := schnorrVerifiesRow.holds Tryz.pinned (OpenSpec.ofChange schnorrVerifiesSpec)

/-- ITS FALSE NEIGHBOUR: 'it returns false'. Refute it at one input. -/
def schnorrVerifiesWrong : ChangeSpec := { name := "schnorrVerifies", fn := fun _ => fun
  | [d1, d2, d3] => { results := [.lit (.bool false)], args := [d1, d2, d3] }
  | _ => none }
def SchnorrVerifiesWrongFalsely : Prop := schnorrVerifiesRow.holds Tryz.pinned (OpenSpec.ofChange schnorrVerifiesWrong)

/-- 'dominolaw33.SchnorrSigns': WHATEVER THE INPUT: true; the input reads as it did. -/
def schnorrSignsSpec : ChangeSpec := { name := "schnorrSigns", fn := fun _ => fun
  | [d] => { results := [.lit (.bool true)], args := [d] }
  | _ => none }
def schnorrSignsRow : OpenClaim := { program := "ytndmjfkmnjejkaagreatdoor", sum := "53498b32abb3040b3fd9a82f7acdae283369e53aec3456a71f58870895fbe7e1", func := "domino/dominolaw33.SchnorrSigns", spec := "schnorrSigns", inPlace := ["internal/bytealg.abigen_runtime_cmpstring", "internal/abi.NoEscape"], unfollowed := true, recurses := true, named := ["math/bits.divideError", "math/bits.overflowError", "internal/strconv.uint64pow10", "math/bits.deBruijn32tab", "math/bits.deBruijn64tab"], apart := false, laid := [("math/bits.deBruijn32tab", laid_math_bits_deBruijn32tab), ("math/bits.deBruijn64tab", laid_math_bits_deBruijn64tab), ("internal/strconv.uint64pow10", laid_internal_strconv_uint64pow10)] }
def SchnorrSignsSaid : Prop := schnorrSignsRow.holds Tryz.pinned (OpenSpec.ofChange schnorrSignsSpec)

/-- ITS FALSE NEIGHBOUR: 'it returns false'. Refute it at one input. -/
def schnorrSignsWrong : ChangeSpec := { name := "schnorrSigns", fn := fun _ => fun
  | [d] => { results := [.lit (.bool false)], args := [d] }
  | _ => none }
def SchnorrSignsWrongFalsely : Prop := schnorrSignsRow.holds Tryz.pinned (OpenSpec.ofChange schnorrSignsWrong)

/-- 'dominolaw33.SchnorrAccepts': WHATEVER THE INPUT: true; the input reads as it did. -/
def schnorrAcceptsSpec : ChangeSpec := { name := "schnorrAccepts", fn := fun _ => fun
  | [d1, d2] => { results := [.lit (.bool true)], args := [d1, d2] }
  | _ => none }
def schnorrAcceptsRow : OpenClaim := { program := "ytndmjfkmnjejkaagreatdoor", sum := "53498b32abb3040b3fd9a82f7acdae283369e53aec3456a71f58870895fbe7e1", func := "domino/dominolaw33.SchnorrAccepts", spec := "schnorrAccepts", inPlace := ["internal/bytealg.abigen_runtime_cmpstring", "internal/abi.NoEscape"], unfollowed := true, recurses := true, named := ["math/bits.divideError", "math/bits.overflowError", "internal/strconv.uint64pow10", "math/bits.deBruijn32tab", "math/bits.deBruijn64tab"], apart := false, laid := [("math/bits.deBruijn32tab", laid_math_bits_deBruijn32tab), ("math/bits.deBruijn64tab", laid_math_bits_deBruijn64tab), ("internal/strconv.uint64pow10", laid_internal_strconv_uint64pow10)] }
def SchnorrAcceptsSaid : Prop := schnorrAcceptsRow.holds Tryz.pinned (OpenSpec.ofChange schnorrAcceptsSpec)

/-- ITS FALSE NEIGHBOUR: 'it returns false'. Refute it at one input. -/
def schnorrAcceptsWrong : ChangeSpec := { name := "schnorrAccepts", fn := fun _ => fun
  | [d1, d2] => { results := [.lit (.bool false)], args := [d1, d2] }
  | _ => none }
def SchnorrAcceptsWrongFalsely : Prop := schnorrAcceptsRow.holds Tryz.pinned (OpenSpec.ofChange schnorrAcceptsWrong)

/- THE SECOND FORM. 'bulk': how many values and letters a reading holds, each counted each time it is reached (what is shared counts as often as it is met; a slice's spare places count too). A statement '..UptoSaid' is the law's where the arguments, and the package variables that the reading takes, are together of bulk at most 1048576: NARROWER than '..Said'. Prove '..Said' where nothing that the law and all that it calls make is longer than what came in: it says more and counts as full. Else prove '..UptoSaid'. A law counts once. -/
mutual
def uptoBulk {H : Type} : DataW H → Nat
  | .lit (.string bytes) => bytes.length + 1
  | .lit _ => 1
  | .nil => 1
  | .ptr d => uptoBulk d + 1
  | .slice elems spare => uptoBulkAll elems + uptoBulkAll spare + 1
  | .agg parts => uptoBulkAll parts + 1
  | .iface _ d => uptoBulk d + 1
  | .map entries => uptoBulkEntries entries + 1
  | .held _ => 1
def uptoBulkAll {H : Type} : List (DataW H) → Nat
  | [] => 0
  | d :: r => uptoBulk d + uptoBulkAll r
def uptoBulkEntries {H : Type} : List (Lit × DataW H) → Nat
  | [] => 0
  | x :: r => uptoBulkEntry x + uptoBulkEntries r
def uptoBulkEntry {H : Type} : Lit × DataW H → Nat
  | (.string bytes, d) => bytes.length + uptoBulk d + 1
  | (_, d) => uptoBulk d + 1
 end
def uptoSmall : (H : Type) → List (DataW H) → Bool := fun _ ds => decide (uptoBulkAll ds ≤ 1048576)
def OpenSpec.upto (s : _root_.Go.ChangeSpec) : _root_.Go.OpenSpec := { _root_.Go.OpenSpec.ofChange s with cond := some uptoSmall }

/-- 'dominolaw14.PedersenDraws', WHERE WHAT IT READS IS OF BULK AT MOST 1048576: true; the input reads as it did. -/
def pedersenDrawsUptoRow : OpenClaim := { program := "ytndmjfkmnjejkaagreatdoor", sum := "53498b32abb3040b3fd9a82f7acdae283369e53aec3456a71f58870895fbe7e1", func := "domino/dominolaw14.PedersenDraws", spec := "pedersenDraws", inPlace := ["internal/bytealg.abigen_runtime_cmpstring"], unfollowed := true, recurses := true, named := ["math/bits.divideError", "math/bits.overflowError", "internal/strconv.uint64pow10", "math/bits.deBruijn32tab", "math/bits.deBruijn64tab"], apart := false, laid := [("math/bits.deBruijn32tab", laid_math_bits_deBruijn32tab), ("math/bits.deBruijn64tab", laid_math_bits_deBruijn64tab), ("internal/strconv.uint64pow10", laid_internal_strconv_uint64pow10)], narrowed := true }
def PedersenDrawsUptoSaid : Prop := pedersenDrawsUptoRow.holds Tryz.pinned (OpenSpec.upto pedersenDrawsSpec)

/-- 'dominolaw33.SchnorrChecks', WHERE WHAT IT READS IS OF BULK AT MOST 1048576: true; the input reads as it did. -/
def schnorrChecksUptoRow : OpenClaim := { program := "ytndmjfkmnjejkaagreatdoor", sum := "53498b32abb3040b3fd9a82f7acdae283369e53aec3456a71f58870895fbe7e1", func := "domino/dominolaw33.SchnorrChecks", spec := "schnorrChecks", inPlace := ["internal/bytealg.abigen_runtime_cmpstring"], unfollowed := true, recurses := true, named := ["math/bits.divideError", "math/bits.overflowError", "internal/strconv.uint64pow10", "math/bits.deBruijn32tab", "math/bits.deBruijn64tab"], apart := false, laid := [("math/bits.deBruijn32tab", laid_math_bits_deBruijn32tab), ("math/bits.deBruijn64tab", laid_math_bits_deBruijn64tab), ("internal/strconv.uint64pow10", laid_internal_strconv_uint64pow10)], narrowed := true }
def SchnorrChecksUptoSaid : Prop := schnorrChecksUptoRow.holds Tryz.pinned (OpenSpec.upto schnorrChecksSpec)

/-- 'dominolaw33.SchnorrExtracts', WHERE WHAT IT READS IS OF BULK AT MOST 1048576: true; the input reads as it did. -/
def schnorrExtractsUptoRow : OpenClaim := { program := "ytndmjfkmnjejkaagreatdoor", sum := "53498b32abb3040b3fd9a82f7acdae283369e53aec3456a71f58870895fbe7e1", func := "domino/dominolaw33.SchnorrExtracts", spec := "schnorrExtracts", inPlace := ["internal/bytealg.abigen_runtime_cmpstring"], unfollowed := true, recurses := true, named := ["math/bits.divideError", "math/bits.overflowError", "internal/strconv.uint64pow10", "math/bits.deBruijn32tab", "math/bits.deBruijn64tab"], apart := false, laid := [("math/bits.deBruijn32tab", laid_math_bits_deBruijn32tab), ("math/bits.deBruijn64tab", laid_math_bits_deBruijn64tab), ("internal/strconv.uint64pow10", laid_internal_strconv_uint64pow10)], narrowed := true }
def SchnorrExtractsUptoSaid : Prop := schnorrExtractsUptoRow.holds Tryz.pinned (OpenSpec.upto schnorrExtractsSpec)

/-- 'dominolaw33.SchnorrMakes', WHERE WHAT IT READS IS OF BULK AT MOST 1048576: true; the input reads as it did. -/
def schnorrMakesUptoRow : OpenClaim := { program := "ytndmjfkmnjejkaagreatdoor", sum := "53498b32abb3040b3fd9a82f7acdae283369e53aec3456a71f58870895fbe7e1", func := "domino/dominolaw33.SchnorrMakes", spec := "schnorrMakes", inPlace := ["internal/bytealg.abigen_runtime_cmpstring"], unfollowed := true, recurses := true, named := ["math/bits.divideError", "math/bits.overflowError", "internal/strconv.uint64pow10", "math/bits.deBruijn32tab", "math/bits.deBruijn64tab"], apart := false, laid := [("math/bits.deBruijn32tab", laid_math_bits_deBruijn32tab), ("math/bits.deBruijn64tab", laid_math_bits_deBruijn64tab), ("internal/strconv.uint64pow10", laid_internal_strconv_uint64pow10)], narrowed := true }
def SchnorrMakesUptoSaid : Prop := schnorrMakesUptoRow.holds Tryz.pinned (OpenSpec.upto schnorrMakesSpec)

/-- 'dominolaw33.SchnorrSecrets', WHERE WHAT IT READS IS OF BULK AT MOST 1048576: true; the input reads as it did. -/
def schnorrSecretsUptoRow : OpenClaim := { program := "ytndmjfkmnjejkaagreatdoor", sum := "53498b32abb3040b3fd9a82f7acdae283369e53aec3456a71f58870895fbe7e1", func := "domino/dominolaw33.SchnorrSecrets", spec := "schnorrSecrets", inPlace := ["internal/bytealg.abigen_runtime_cmpstring"], unfollowed := true, recurses := true, named := ["math/bits.divideError", "math/bits.overflowError", "internal/strconv.uint64pow10", "math/bits.deBruijn32tab", "math/bits.deBruijn64tab"], apart := false, laid := [("math/bits.deBruijn32tab", laid_math_bits_deBruijn32tab), ("math/bits.deBruijn64tab", laid_math_bits_deBruijn64tab), ("internal/strconv.uint64pow10", laid_internal_strconv_uint64pow10)], narrowed := true }
def SchnorrSecretsUptoSaid : Prop := schnorrSecretsUptoRow.holds Tryz.pinned (OpenSpec.upto schnorrSecretsSpec)

/-- 'dominolaw33.SchnorrVerifies', WHERE WHAT IT READS IS OF BULK AT MOST 1048576: true; the input reads as it did. -/
def schnorrVerifiesUptoRow : OpenClaim := { program := "ytndmjfkmnjejkaagreatdoor", sum := "53498b32abb3040b3fd9a82f7acdae283369e53aec3456a71f58870895fbe7e1", func := "domino/dominolaw33.SchnorrVerifies", spec := "schnorrVerifies", inPlace := ["internal/bytealg.abigen_runtime_cmpstring", "internal/abi.NoEscape"], unfollowed := true, recurses := true, named := ["math/bits.divideError", "math/bits.overflowError", "internal/strconv.uint64pow10", "math/bits.deBruijn32tab", "math/bits.deBruijn64tab"], apart := false, laid := [("math/bits.deBruijn32tab", laid_math_bits_deBruijn32tab), ("math/bits.deBruijn64tab", laid_math_bits_deBruijn64tab), ("internal/strconv.uint64pow10", laid_internal_strconv_uint64pow10)], narrowed := true }
def SchnorrVerifiesUptoSaid : Prop := schnorrVerifiesUptoRow.holds Tryz.pinned (OpenSpec.upto schnorrVerifiesSpec)

/-- 'dominolaw33.SchnorrSigns', WHERE WHAT IT READS IS OF BULK AT MOST 1048576: true; the input reads as it did. -/
def schnorrSignsUptoRow : OpenClaim := { program := "ytndmjfkmnjejkaagreatdoor", sum := "53498b32abb3040b3fd9a82f7acdae283369e53aec3456a71f58870895fbe7e1", func := "domino/dominolaw33.SchnorrSigns", spec := "schnorrSigns", inPlace := ["internal/bytealg.abigen_runtime_cmpstring", "internal/abi.NoEscape"], unfollowed := true, recurses := true, named := ["math/bits.divideError", "math/bits.overflowError", "internal/strconv.uint64pow10", "math/bits.deBruijn32tab", "math/bits.deBruijn64tab"], apart := false, laid := [("math/bits.deBruijn32tab", laid_math_bits_deBruijn32tab), ("math/bits.deBruijn64tab", laid_math_bits_deBruijn64tab), ("internal/strconv.uint64pow10", laid_internal_strconv_uint64pow10)], narrowed := true }
def SchnorrSignsUptoSaid : Prop := schnorrSignsUptoRow.holds Tryz.pinned (OpenSpec.upto schnorrSignsSpec)

/-- 'dominolaw33.SchnorrAccepts', WHERE WHAT IT READS IS OF BULK AT MOST 1048576: true; the input reads as it did. -/
def schnorrAcceptsUptoRow : OpenClaim := { program := "ytndmjfkmnjejkaagreatdoor", sum := "53498b32abb3040b3fd9a82f7acdae283369e53aec3456a71f58870895fbe7e1", func := "domino/dominolaw33.SchnorrAccepts", spec := "schnorrAccepts", inPlace := ["internal/bytealg.abigen_runtime_cmpstring", "internal/abi.NoEscape"], unfollowed := true, recurses := true, named := ["math/bits.divideError", "math/bits.overflowError", "internal/strconv.uint64pow10", "math/bits.deBruijn32tab", "math/bits.deBruijn64tab"], apart := false, laid := [("math/bits.deBruijn32tab", laid_math_bits_deBruijn32tab), ("math/bits.deBruijn64tab", laid_math_bits_deBruijn64tab), ("internal/strconv.uint64pow10", laid_internal_strconv_uint64pow10)], narrowed := true }
def SchnorrAcceptsUptoSaid : Prop := schnorrAcceptsUptoRow.holds Tryz.pinned (OpenSpec.upto schnorrAcceptsSpec)

end Rows
end Go.Proofs.YtndmjfkmnjejkaaGreatDoor

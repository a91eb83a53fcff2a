/- Walks: primegroup.Mul, dominoref09.Mul. -/
import Derived.Test.YtnnfgphioapmnaaGreatGrp
set_option linter.unusedVariables false
set_option linter.unusedSimpArgs false
namespace Go.Proofs.YtnnfgphioapmnaaGreat
open Go.RowKit

/-- What Mul returns. -/
def mulR (M O a b : ByteArray) : Value :=
  if nvalid M = true ∧ nvalid O = true ∧ nvalid a = true ∧ nvalid b = true then
    if hasG M O a = true ∧ hasG M O b = true then .tuple #[.string (nS (num a * num b % num M)), .int .i64 0] else .tuple #[.string ⟨#[]⟩, .int .i64 13]
  else .tuple #[.string ⟨#[]⟩, .int .i64 3]
theorem mulR_bad {M O a b : ByteArray} (h : ¬ (nvalid M = true ∧ nvalid O = true ∧ nvalid a = true ∧ nvalid b = true)) : mulR M O a b = .tuple #[.string ⟨#[]⟩, .int .i64 3] := by unfold mulR; rw [if_neg h]
theorem mulR_out {M O a b : ByteArray} (h : nvalid M = true ∧ nvalid O = true ∧ nvalid a = true ∧ nvalid b = true) (h2 : ¬ (hasG M O a = true ∧ hasG M O b = true)) : mulR M O a b = .tuple #[.string ⟨#[]⟩, .int .i64 13] := by unfold mulR; rw [if_pos h, if_neg h2]
theorem mulR_in {M O a b : ByteArray} (h : nvalid M = true ∧ nvalid O = true ∧ nvalid a = true ∧ nvalid b = true) (h2 : hasG M O a = true ∧ hasG M O b = true) : mulR M O a b = .tuple #[.string (nS (num a * num b % num M)), .int .i64 0] := by unfold mulR; rw [if_pos h, if_pos h2]
theorem has_num {M O e : ByteArray} (h : hasG M O e = true) : num e < num M := (of_decide_eq_true h).2.2.2.2.2.1

end Go.Proofs.YtnnfgphioapmnaaGreat

/- Walk: the reference's padded and Sum. -/
import Derived.Test.YtpdejgdkpghjhaaGreatDoorQShI
import Derived.Test.YtpdejgdkpghjhaaGreatDoorQNaD
import Derived.Laws.Concat
set_option linter.unusedVariables false
set_option linter.unusedSimpArgs false
namespace Go.Proofs.YtpdejgdkpghjhaaGreatDoor
open Go.RowKit Go.Lib
theorem bstr_snoc (l m : List UInt8) : bstr l ++ ⟨m.toArray⟩ = bstr (l ++ m) := by
  unfold bstr
  rw [ByteArray.mk_append_mk]
end Go.Proofs.YtpdejgdkpghjhaaGreatDoor
/- Walk: the reference's Sum. -/
set_option linter.unusedVariables false
set_option linter.unusedSimpArgs false
namespace Go.Proofs.YtpdejgdkpghjhaaGreatDoor
open Go.RowKit Go.Lib
theorem bstr_extract (l : List UInt8) (a b : Nat) : (bstr l).extract a b = bstr ((l.drop a).take (b - a)) := ByteArray.extract_mk l a b
theorem bstr_list (l : List UInt8) : (bstr l).data.toList = l := by simp [bstr]
end Go.Proofs.YtpdejgdkpghjhaaGreatDoor

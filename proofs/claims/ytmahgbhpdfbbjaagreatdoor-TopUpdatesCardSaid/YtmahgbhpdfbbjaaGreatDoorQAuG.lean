import Derived.Test.YtmahgbhpdfbbjaaGreatDoorQRow
import Derived.Lib.ConvBytes
set_option linter.unusedVariables false
set_option linter.unusedSimpArgs false
namespace Go.Proofs.YtmahgbhpdfbbjaaGreatDoor
open Go.RowKit
noncomputable def valP(M O U:ByteArray)(l:List ByteArray):ByteArray×Int:=
 if rdyR M O [U] l≠0 then(⟨#[]⟩,rdyR M O [U] l)else if ndB l=false then(⟨#[]⟩,8)else(nS (valF (num M) (num U) l),0)
theorem val_pair(M O U:ByteArray)(l:List ByteArray):valV M O U l=.tuple #[.string (valP M O U l).1,.int .i64 (valP M O U l).2]:=by
 unfold valV valP;split
 · rfl
 · split<;>rfl
end Go.Proofs.YtmahgbhpdfbbjaaGreatDoor

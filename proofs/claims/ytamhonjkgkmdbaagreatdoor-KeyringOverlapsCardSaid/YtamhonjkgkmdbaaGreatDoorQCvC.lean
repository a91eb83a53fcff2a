import Derived.Test.YtamhonjkgkmdbaaGreatDoorQAdA
import Derived.Test.YtamhonjkgkmdbaaGreatDoorQRoE
import Derived.Test.YtamhonjkgkmdbaaGreatDoorQKyW
import Derived.Test.YtamhonjkgkmdbaaGreatDoorQKyX
import Derived.Test.YtamhonjkgkmdbaaGreatDoorQKyM
import Derived.Test.YtamhonjkgkmdbaaGreatDoorQKyZ
set_option linter.unusedVariables false
set_option linter.unusedSimpArgs false
namespace Go.Proofs.YtamhonjkgkmdbaaGreatDoor
open Go.RowKit
def Ver.at(v:Ver)(a b d:Int):Ver:={ v with num:=a,fr:=b,«to»:=d }
theorem sz_sigged{u v:Ver}{q r:ByteArray}(h:SzL v.str)(hu:u.str=v.str)(hq:q.size≤1000)(hr:r.size≤1000):SzL (u.sigged q r).str:=fun s hs=>by
 have : s=q∨s=r∨s∈v.str:=(by rw[←hu];simp only[Ver.str,Ver.keyStr,Ver.sigged,List.mem_append,List.mem_cons,List.mem_nil_iff,or_false]at hs⊢;rcases hs with(h | h | h | h | h | h | h) | (h | h | h | h | h | h | h) | h<;>simp[h]);rcases this with rfl | rfl | h1
 · omega
 · omega
 · exact h s h1
end Go.Proofs.YtamhonjkgkmdbaaGreatDoor

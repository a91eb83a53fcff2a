import Derived.Test.YtmahgbhpdfbbjaaGreatDoorQShD
import Derived.Deep.WholeRow
set_option linter.unusedVariables false
set_option linter.unusedSimpArgs false
namespace Go.Proofs.YtmahgbhpdfbbjaaGreatDoor
open Go.RowKit
def z8:Array Value:=#[.int .u32 0,.int .u32 0,.int .u32 0,.int .u32 0,.int .u32 0,.int .u32 0,.int .u32 0,.int .u32 0]
theorem BytesAt.kept{w w':World}{A:Option Addr}{len cap:Nat}{bs:List UInt8}(h:BytesAt w A len cap bs)(hb:Below w.heap.size w w'):BytesAt w' A len cap bs:=by
 obtain⟨h1,h2,h3,h4⟩:=h;refine⟨h1,h2,h3,fun hp=>?_⟩;obtain⟨b,o,e,hc⟩:=h4 hp;exact⟨b,o,e,fun k hk=>cell_kept hb nlr (hc k hk)⟩
def W8.at(s:W8)(i:Nat):BitVec 32:=s.ws.getD i 0
end Go.Proofs.YtmahgbhpdfbbjaaGreatDoor

import Derived.Test.YtmahgbhpdfbbjaaGreatDoorQEpI
import Derived.Deep.MidRow
set_option linter.unusedVariables false
set_option linter.unusedSimpArgs false
namespace Go.Proofs.YtmahgbhpdfbbjaaGreatDoor
open Go.RowKit Go.Shelf
theorem below_setRow{B:Nat}{w w':World}(h:Below B w w'){g:Nat}(hg:B≤g)(cs:Array Value):Below B w (w'.setRow g cs):=
 ⟨h.os,h.tape,h.output,by rw[size_setRow];exact h.size,fun k hk=>(setRow_other _ _ _ _ (by omega)).trans (h.block k hk)⟩
theorem BxC.row{W:World}{B C:Nat}{cs ds:Array Value}{T:TypeId}(h:BxC W B cs T)(hne:B≠C):BxC (W.setRow C ds) B cs T:=(setRow_other _ _ _ _ hne).trans h
end Go.Proofs.YtmahgbhpdfbbjaaGreatDoor

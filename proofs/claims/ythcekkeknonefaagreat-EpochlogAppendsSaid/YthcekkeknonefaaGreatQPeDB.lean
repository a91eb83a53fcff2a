import Derived.Test.YthcekkeknonefaaGreatQPeM
import Derived.Test.YthcekkeknonefaaGreatQOvr
set_option linter.unusedVariables false
set_option linter.unusedSimpArgs false
namespace Go.Proofs.YthcekkeknonefaaGreat
open Go.RowKit
def kV(M O G H:ByteArray):Value:=.agg #[.string M,.string O,.string G,.string H]
def kF(M O G H:ByteArray):Bool:=nvalid M&&nvalid O&&nvalid G&&nvalid H
theorem slz_alloc2(w:World)(b1 b2:Bool)(s1 s2:ByteArray)(T:TypeId):SlZ (w.alloc (.cells #[.bool b1,.string s1,.bool b2,.string s2] T)) (some ⟨w.heap.size,0,none⟩) 2 2 [(b1,s1),(b2,s2)]:=by
 have h:=Bx4.new w (.bool b1) (.string s1) (.bool b2) (.string s2) T;obtain⟨c0,c1,c2,c3⟩:=h.cells;refine⟨rfl,Nat.le_refl _,by omega,w.heap.size,0,fun _=>rfl,fun k z hk=>?_⟩
 match k,hk with
 | 0,hk=>cases hk;exact⟨c0,c1⟩
 | 1,hk=>cases hk;exact⟨c2,c3⟩
theorem zvalid_all{z:Int}(h:z.natAbs<256 ^ 128):zvalid (decide (z<0)) (nS z.natAbs)=true:=by
 unfold zvalid;rw[nvalid_nS.2 h,Bool.true_and];by_cases hz:z<0
 · rw[empty_nS (by omega),Bool.and_false];rfl
 · rw[decide_eq_false hz];rfl
end Go.Proofs.YthcekkeknonefaaGreat

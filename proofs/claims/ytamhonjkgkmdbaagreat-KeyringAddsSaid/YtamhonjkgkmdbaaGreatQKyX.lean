import Derived.Test.YtamhonjkgkmdbaaGreatQKyW
set_option linter.unusedVariables false
set_option linter.unusedSimpArgs false
namespace Go.Proofs.YtamhonjkgkmdbaaGreat
open Go.RowKit
theorem few_open{l:List Ver}(h:fewL l=true):l.length≤12∧∀(k:Nat) (v:Ver),l[k]? =some v→v.name.size≤60∧v.kr.length≤6:=by
 unfold fewL at h;rw[Bool.and_eq_true]at h;obtain⟨h1,h2⟩:=h;have hl:=of_decide_eq_true h2;refine⟨hl,fun k v hk=>?_⟩;rw[List.take_of_length_le hl,List.all_eq_true]at h1;have:=h1 v (List.mem_of_getElem? hk);unfold fewV fewKeyB at this;simp only[Bool.and_eq_true,decide_eq_true_eq]at this;exact⟨this.1,this.2.1.2.2.1⟩
end Go.Proofs.YtamhonjkgkmdbaaGreat

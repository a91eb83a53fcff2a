import Derived.Test.YtamhonjkgkmdbaaGreatDoorQKyW
set_option linter.unusedVariables false
set_option linter.unusedSimpArgs false
namespace Go.Proofs.YtamhonjkgkmdbaaGreatDoor
open Go.RowKit
def curR(o:Option Ver):Ver×Int:=match o with
 | some v=>(v,0)
 | none=>(ver0,22)
theorem RetCv.pair{o:Option Ver}{w w':World}{x:Ending}(hr:RetCv o w x w'):RetV (curR o).1 (curR o).2 w x w':=by
 rcases hr with⟨u,h1,h2⟩ | ⟨h1,h2⟩
 · rw[h1];exact h2
 · rw[h1];exact h2
def findR(l:List Ver)(name:ByteArray)(k e:Int):Ver×Int:=match findV l name k with
 | none=>(ver0,9)
 | some i=>match l[i]? with
  | none=>(ver0,9)
  | some v=>if vvalid v e=true then(v,0)else(ver0,22)
theorem findV_spec{l:List Ver}{name:ByteArray}{k:Int}{i:Nat}(h:findV l name k=some i):∃ v,l[i]? =some v∧hitV name k v=true∧∀(j:Nat) u,j<i→l[j]? =some u→hitV name k u=false:=by
 obtain⟨v,hv⟩:=findV_at h;unfold findV at h;rw[List.find?_range_eq_some]at h;obtain⟨h1,h2,h3⟩:=h;refine⟨v,hv,by rw[hv]at h1;simpa using h1,fun j u hj hu=>?_⟩;have:=h3 j hj;rw[hu]at this;simpa using this
theorem RetF.pair{l:List Ver}{name:ByteArray}{k e:Int}{i:Nat}{v:Ver}{w w':World}{x:Ending}(h:findV l name k=some i)(hv:l[i]? =some v)(hr:RetF v e w x w'):RetV (findR l name k e).1 (findR l name k e).2 w x w':=by
 unfold findR;rw[h];simp only[hv];rcases hr with⟨h1,h2⟩ | ⟨h1,h2⟩
 · rw[if_pos h1];exact h2
 · rw[if_neg (by rw[h1];decide)];exact h2
theorem ky_Find(l:List Ver)(A:Option Addr)(len cap:Nat)(name:ByteArray)(k e:Int)(w:World)(hs:SlV w A len cap l)(hlen:len≤4096)(hf:FwV l):Calls Tryz.prog 11 #[.slice A len cap,.string name,.int .i64 k,.int .i64 e] w (RetV (findR l name k e).1 (findR l name k e).2 w):=by
 cases h:findV l name k with
 | none =>
  refine(ky_Find_none l A len cap name k e w hs hlen h).mono fun _ _ hr=>?_;unfold findR;rw[h];exact hr
 | some i =>
  obtain⟨v,hv,hh,hall⟩:=findV_spec h;exact(ky_Find_hit l A len cap name k e w hs hlen i v hv hh hall (hf i v hv)).mono fun _ _ hr=>RetF.pair h hv hr
theorem few_open{l:List Ver}(h:fewL l=true):l.length≤12∧∀(k:Nat) (v:Ver),l[k]? =some v→v.name.size≤60∧v.kr.length≤6:=by
 unfold fewL at h;rw[Bool.and_eq_true]at h;obtain⟨h1,h2⟩:=h;have hl:=of_decide_eq_true h2;refine⟨hl,fun k v hk=>?_⟩;rw[List.take_of_length_le hl,List.all_eq_true]at h1;have:=h1 v (List.mem_of_getElem? hk);unfold fewV fewKeyB at this;simp only[Bool.and_eq_true,decide_eq_true_eq]at this;exact⟨this.1,this.2.1.2.2.1⟩
end Go.Proofs.YtamhonjkgkmdbaaGreatDoor

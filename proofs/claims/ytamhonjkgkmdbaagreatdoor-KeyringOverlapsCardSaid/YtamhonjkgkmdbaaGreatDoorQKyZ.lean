import Derived.Test.YtamhonjkgkmdbaaGreatDoorQKyX
import Derived.Test.YtamhonjkgkmdbaaGreatDoorRows
import Derived.ProofKit
import Derived.OpenShut
import Derived.ShutString
import Derived.ChangeOld
import Derived.Below
import Derived.Deep.Slices
import Derived.Deep.Fields
import Derived.ChangeSame
import Derived.Lib.SmallJoins
set_option linter.unusedVariables false
set_option linter.unusedSimpArgs false
namespace Go.Proofs.YtamhonjkgkmdbaaGreatDoor
set_option maxRecDepth 100000
open Go.ChangeShapes Go.WideShapes Go.Deep Go.Joins Go.RowKit
open Go.ChangeMaps (open_string shut_string)
theorem list_of{α:Type}{Q:Nat→α→Prop}:∀(n:Nat),(∀ i,i<n→∃ e,Q i e)→∃ l:List α,l.length=n∧∀ k e,l[k]? =some e→Q k e
 | 0,_=>⟨[],rfl,fun k e h=>by simp at h⟩
 | n+1,h=>by
  obtain⟨l,hl,hq⟩:=list_of n (fun i hi=>h i (by omega));obtain⟨e,he⟩:=h n (by omega);refine⟨l++[e],by simp[hl],fun k e' hk=>?_⟩;by_cases hkn:k<l.length
  · rw[List.getElem?_append_left hkn]at hk;exact hq k e' hk
  · rw[List.getElem?_append_right (by omega)]at hk;have h0:k - l.length=0:=by
     rcases Nat.eq_zero_or_pos (k - l.length)with h0 | h0
     · exact h0
     · rw[List.getElem?_eq_none (by simp;omega)]at hk;cases hk
    rw[h0]at hk;simp only[List.getElem?_cons_zero,Option.some.injEq]at hk;subst hk;rw[show k=n from by omega];exact he
section
variable {H : Type} {enc : TypeId × Value → H} {W : World} {sp : Nat → Bool} {held : Bool}
theorem trod_at{P:Program}{w:World}{base:Nat}{spare:Nat→Bool}{fuel:Nat}{t:TypeId}{cs:List Value}{x:DataW H×List MemPlace}{fs:Array Field}(ht:P.underlying t=some (.struct fs))(h:DataW.trod enc P w base spare held fuel t cs=some x)(i:Nat)(f:Field)(hf:fs[i]? =some f)(k:Nat)(hk:P.cellsOf f.type=k) :
 ∃ n y,DataW.trod enc P w base spare held n f.type ((cs.drop f.offset).take k)=some y:=by
 obtain⟨xs,n,_,_,_,hl,hx⟩:=DataW.trod_struct ht h;have h1:=hx i f hf;have hi:i<xs.length:=by rw[hl];exact(Array.getElem?_eq_some_iff.1 hf).1
 rw[hk,List.getElem?_eq_getElem hi]at h1;exact⟨n,_,h1⟩
theorem trod_len{P:Program}{w:World}{base:Nat}{spare:Nat→Bool}{fuel:Nat}{t:TypeId}{cs:List Value}{x:DataW H×List MemPlace}{fs:Array Field}(ht:P.underlying t=some (.struct fs))(h:DataW.trod enc P w base spare held fuel t cs=some x):cs.length=P.cellsOf t:=by
 obtain⟨_,_,_,_,h1,_,_⟩:=DataW.trod_struct ht h;exact h1
theorem open_nats{fuel:Nat}{cs:List Value}{x:DataW H×List MemPlace}(h:DataW.trod enc Tryz.prog W 0 (fun _=>true) held fuel 29 cs=some x):∃ A n c l,cs=[.slice A n c]∧SlN W A n c l∧SzL l:=by
 rcases open_slice Tryz.underlying29 h with⟨rfl,_⟩ | ⟨ad,len,cap,m,n,D,Pl,rfl,hb,hl,hm,hmm,hx,hi⟩
 · exact⟨none,0,0,[],rfl,⟨rfl,Nat.le_refl _,Nat.zero_le _,0,0,fun h=>absurd h (Nat.lt_irrefl _),fun k s h=>by simp at h⟩,fun s h=>by cases h⟩
 · have hC:Tryz.prog.cellsOf 22=1:=by kernel_rfl
   have hq:∀ i,i<len→∃ s:ByteArray,W.cell? (ad.add i)=some (.string s)∧s.size≤maxLen:=fun i hi'=>by
    obtain⟨cs',hc,ht'⟩:=hi i (by rw[hmm];simp;omega);obtain⟨s,e,_,z⟩:=DataW.trod_string Tryz.underlying22 ht';rw[hC,Nat.mul_one]at hc;obtain⟨_,hcl,hat⟩:=World.cells?_some hc;have:=hat 0 (by omega);rw[e]at this;exact⟨s,by simpa[Addr.add]using this,z⟩
   obtain⟨l,hll,hq⟩:=list_of len hq;refine⟨some ad,len,cap,l,rfl,⟨hll,hl,by unfold maxLen at hm;exact hm,?_⟩,fun s hs=>?_⟩
   · rcases Nat.eq_zero_or_pos len with h0 | h0
     · exact⟨0,0,fun h=>by omega,fun k e hk=>by have:=(List.getElem?_eq_some_iff.1 hk).1;omega⟩
     · obtain⟨b,off,spot⟩:=ad;obtain⟨e,he⟩:∃ e,l[0]? =some e:=⟨_,List.getElem?_eq_getElem (by omega)⟩;have h1:=(hq 0 e he).1;have hspot:spot=none:=by simpa[Addr.add]using World.cell?_spot h1
       subst hspot;refine⟨b,off,fun _=>rfl,fun k e hk=>?_⟩;have:=(hq k e hk).1;rw[addr_add]at this;exact this
   · obtain⟨k,hk⟩:=List.getElem?_of_mem hs;have:=(hq k s hk).2;unfold maxLen at this;exact this
theorem eighteen{cs:List Value}(h:cs.length=18):∃ c0 c1 c2 c3 c4 c5 c6 c7 c8 c9 c10 c11 c12 c13 c14 c15 c16 c17,cs=[c0,c1,c2,c3,c4,c5,c6,c7,c8,c9,c10,c11,c12,c13,c14,c15,c16,c17]:=
 match cs,h with
 | [c0,c1,c2,c3,c4,c5,c6,c7,c8,c9,c10,c11,c12,c13,c14,c15,c16,c17],_=>⟨c0,c1,c2,c3,c4,c5,c6,c7,c8,c9,c10,c11,c12,c13,c14,c15,c16,c17,rfl⟩
theorem open_ver{fuel:Nat}{cs:List Value}{x:DataW H×List MemPlace}(h:DataW.trod enc Tryz.prog W 0 (fun _=>true) held fuel 35 cs=some x):∃ v A n c,cs=Ver.vals v (.slice A n c)∧SlN W A n c v.kr∧SzL v.str∧(-9223372036854775808≤v.num):=by
 have hl:=trod_len Tryz.underlying35 h;rw[show Tryz.prog.cellsOf 35=18 from by kernel_rfl]at hl;obtain⟨c0,c1,c2,c3,c4,c5,c6,c7,c8,c9,c10,c11,c12,c13,c14,c15,c16,c17,rfl⟩:=eighteen hl;clear hl;obtain⟨na,ya,ga⟩:=trod_at Tryz.underlying35 h 0 _ rfl 1 (by kernel_rfl);have ga:DataW.trod enc Tryz.prog W 0 (fun _=>true) held na 9 [c0]=some ya:=ga;obtain⟨nb,yb,gb⟩:=trod_at Tryz.underlying35 h 1 _ rfl 1 (by kernel_rfl);have gb:DataW.trod enc Tryz.prog W 0 (fun _=>true) held nb 3 [c1]=some yb:=gb;obtain⟨nk,yk,gk⟩:=trod_at Tryz.underlying35 h 2 _ rfl 8 (by kernel_rfl);have gk:DataW.trod enc Tryz.prog W 0 (fun _=>true) held nk 31 [c2,c3,c4,c5,c6,c7,c8,c9]=some yk:=gk;obtain⟨ns,ys,gs⟩:=trod_at Tryz.underlying35 h 3 _ rfl 4 (by kernel_rfl);have gs:DataW.trod enc Tryz.prog W 0 (fun _=>true) held ns 26 [c10,c11,c12,c13]=some ys:=gs;obtain⟨nf,yf,gf⟩:=trod_at Tryz.underlying35 h 4 _ rfl 1 (by kernel_rfl);have gf:DataW.trod enc Tryz.prog W 0 (fun _=>true) held nf 3 [c14]=some yf:=gf;obtain⟨nt,yt,gt⟩:=trod_at Tryz.underlying35 h 5 _ rfl 1 (by kernel_rfl);have gt:DataW.trod enc Tryz.prog W 0 (fun _=>true) held nt 3 [c15]=some yt:=gt;obtain⟨ng,yg,gg⟩:=trod_at Tryz.underlying35 h 6 _ rfl 2 (by kernel_rfl);have gg:DataW.trod enc Tryz.prog W 0 (fun _=>true) held ng 33 [c16,c17]=some yg:=gg;obtain⟨nk0,yk0,gk0⟩:=trod_at Tryz.underlying31 gk 0 _ rfl 1 (by kernel_rfl);have gk0:DataW.trod enc Tryz.prog W 0 (fun _=>true) held nk0 9 [c2]=some yk0:=gk0;obtain⟨nk1,yk1,gk1⟩:=trod_at Tryz.underlying31 gk 1 _ rfl 2 (by kernel_rfl);have gk1:DataW.trod enc Tryz.prog W 0 (fun _=>true) held nk1 24 [c3,c4]=some yk1:=gk1;obtain⟨nk2,yk2,gk2⟩:=trod_at Tryz.underlying31 gk 2 _ rfl 1 (by kernel_rfl);have gk2:DataW.trod enc Tryz.prog W 0 (fun _=>true) held nk2 22 [c5]=some yk2:=gk2;obtain⟨nk3,yk3,gk3⟩:=trod_at Tryz.underlying31 gk 3 _ rfl 1 (by kernel_rfl);have gk3:DataW.trod enc Tryz.prog W 0 (fun _=>true) held nk3 22 [c6]=some yk3:=gk3;obtain⟨nk4,yk4,gk4⟩:=trod_at Tryz.underlying31 gk 4 _ rfl 1 (by kernel_rfl);have gk4:DataW.trod enc Tryz.prog W 0 (fun _=>true) held nk4 29 [c7]=some yk4:=gk4;obtain⟨nk5,yk5,gk5⟩:=trod_at Tryz.underlying31 gk 5 _ rfl 1 (by kernel_rfl);have gk5:DataW.trod enc Tryz.prog W 0 (fun _=>true) held nk5 22 [c8]=some yk5:=gk5;obtain⟨nk6,yk6,gk6⟩:=trod_at Tryz.underlying31 gk 6 _ rfl 1 (by kernel_rfl);have gk6:DataW.trod enc Tryz.prog W 0 (fun _=>true) held nk6 22 [c9]=some yk6:=gk6;obtain⟨nm0,ym0,gm0⟩:=trod_at Tryz.underlying24 gk1 0 _ rfl 1 (by kernel_rfl);have gm0:DataW.trod enc Tryz.prog W 0 (fun _=>true) held nm0 22 [c3]=some ym0:=gm0;obtain⟨nm1,ym1,gm1⟩:=trod_at Tryz.underlying24 gk1 1 _ rfl 1 (by kernel_rfl);have gm1:DataW.trod enc Tryz.prog W 0 (fun _=>true) held nm1 22 [c4]=some ym1:=gm1;obtain⟨ns0,ys0,gs0⟩:=trod_at Tryz.underlying26 gs 0 _ rfl 2 (by kernel_rfl);have gs0:DataW.trod enc Tryz.prog W 0 (fun _=>true) held ns0 24 [c10,c11]=some ys0:=gs0;obtain⟨ns1,ys1,gs1⟩:=trod_at Tryz.underlying26 gs 1 _ rfl 1 (by kernel_rfl);have gs1:DataW.trod enc Tryz.prog W 0 (fun _=>true) held ns1 22 [c12]=some ys1:=gs1;obtain⟨ns2,ys2,gs2⟩:=trod_at Tryz.underlying26 gs 2 _ rfl 1 (by kernel_rfl);have gs2:DataW.trod enc Tryz.prog W 0 (fun _=>true) held ns2 22 [c13]=some ys2:=gs2;obtain⟨nq0,yq0,gq0⟩:=trod_at Tryz.underlying24 gs0 0 _ rfl 1 (by kernel_rfl);have gq0:DataW.trod enc Tryz.prog W 0 (fun _=>true) held nq0 22 [c10]=some yq0:=gq0;obtain⟨nq1,yq1,gq1⟩:=trod_at Tryz.underlying24 gs0 1 _ rfl 1 (by kernel_rfl);have gq1:DataW.trod enc Tryz.prog W 0 (fun _=>true) held nq1 22 [c11]=some yq1:=gq1;obtain⟨ng0,yg0,gg0⟩:=trod_at Tryz.underlying33 gg 0 _ rfl 1 (by kernel_rfl);have gg0:DataW.trod enc Tryz.prog W 0 (fun _=>true) held ng0 22 [c16]=some yg0:=gg0;obtain⟨ng1,yg1,gg1⟩:=trod_at Tryz.underlying33 gg 1 _ rfl 1 (by kernel_rfl);have gg1:DataW.trod enc Tryz.prog W 0 (fun _=>true) held ng1 22 [c17]=some yg1:=gg1;obtain⟨v0,e0,_,z0⟩:=DataW.trod_string Tryz.underlying9 ga;cases e0;obtain⟨v2,e2,_,z2⟩:=DataW.trod_string Tryz.underlying9 gk0;cases e2;obtain⟨v3,e3,_,z3⟩:=DataW.trod_string Tryz.underlying22 gm0;cases e3;obtain⟨v4,e4,_,z4⟩:=DataW.trod_string Tryz.underlying22 gm1;cases e4;obtain⟨v5,e5,_,z5⟩:=DataW.trod_string Tryz.underlying22 gk2;cases e5;obtain⟨v6,e6,_,z6⟩:=DataW.trod_string Tryz.underlying22 gk3;cases e6;obtain⟨v8,e8,_,z8⟩:=DataW.trod_string Tryz.underlying22 gk5;cases e8;obtain⟨v9,e9,_,z9⟩:=DataW.trod_string Tryz.underlying22 gk6;cases e9;obtain⟨v10,e10,_,z10⟩:=DataW.trod_string Tryz.underlying22 gq0;cases e10;obtain⟨v11,e11,_,z11⟩:=DataW.trod_string Tryz.underlying22 gq1;cases e11;obtain⟨v12,e12,_,z12⟩:=DataW.trod_string Tryz.underlying22 gs1;cases e12;obtain⟨v13,e13,_,z13⟩:=DataW.trod_string Tryz.underlying22 gs2;cases e13;obtain⟨v16,e16,_,z16⟩:=DataW.trod_string Tryz.underlying22 gg0;cases e16;obtain⟨v17,e17,_,z17⟩:=DataW.trod_string Tryz.underlying22 gg1;cases e17;obtain⟨v1,e1,_,w1⟩:=DataW.trod_int Tryz.underlying3 gb;cases e1;obtain⟨v14,e14,_,w14⟩:=DataW.trod_int Tryz.underlying3 gf;cases e14;obtain⟨v15,e15,_,w15⟩:=DataW.trod_int Tryz.underlying3 gt;cases e15;obtain⟨A,n,c,l,e7,hs,hz⟩:=open_nats gk4;cases e7;refine⟨⟨v0,v1,v2,v3,v4,v5,v6,l,v8,v9,v10,v11,v12,v13,v14,v15,v16,v17⟩,A,n,c,rfl,hs,fun s hm=>?_,?_⟩
 · unfold maxLen at *;simp only[Ver.str,Ver.keyStr,List.mem_append,List.mem_cons,List.mem_nil_iff,or_false]at hm;rcases hm with(rfl | rfl | rfl | rfl | rfl | rfl | rfl) | (rfl | rfl | rfl | rfl | rfl | rfl | rfl) | hm;all_goals first | assumption | exact hz s hm
 · have h1:IntKind.i64.min = -9223372036854775808:=rfl;have h2:IntKind.i64.max=9223372036854775807:=rfl;simp[Lit.wf,h1,h2]at w1;exact w1.1
theorem open_vers{a:Option Addr}{len cap fuel:Nat}{x:DataW H×List MemPlace}(h:DataW.trod enc Tryz.prog W 0 (fun _=>true) held fuel 40 (Value.cells (.slice a len cap)).toList=some x):∃ l,SlV W a len cap l∧SzVs l∧∀(k:Nat) (v:Ver),l[k]? =some v → -9223372036854775808≤v.num:=by
 have hC:Tryz.prog.cellsOf 35=18:=by kernel_rfl
 rcases open_slice Tryz.underlying40 h with⟨hcs,_⟩ | ⟨ad,len',cap',m,n,D,Pl,hcs,hb,hl,hm,hmm,hx,hi⟩
 · simp[Value.cells]at hcs;obtain⟨rfl,rfl,rfl⟩:=hcs;exact⟨[],SlV.nil _ _ (by omega) _,fun k v h=>by simp at h,fun k v h=>by simp at h⟩
 · simp[Value.cells]at hcs;obtain⟨rfl,rfl,rfl⟩:=hcs;have hq:∀ i,i<len→∃ v:Ver,(∃ A n c,(∀ j u,(v.vals (.slice A n c))[j]? =some u→W.cell? (ad.add (i * 18+j))=some u)∧SlN W A n c v.kr)∧SzL v.str ∧ -9223372036854775808≤v.num:=fun i hi'=>by
    obtain⟨cs',hc,ht'⟩:=hi i (by rw[hmm];simp;omega);obtain⟨v,A,n,c,rfl,hs,hz,hk⟩:=open_ver ht';rw[hC]at hc;obtain⟨_,hcl,hat⟩:=World.cells?_some hc;refine⟨v,⟨A,n,c,fun j u hu=>?_,hs⟩,hz,hk⟩;have hj:j<18:=(List.getElem?_eq_some_iff.1 hu).1;have:=hat j hj;rw[←Go.Deep.add_add,this];exact hu
   obtain⟨l,hll,hq⟩:=list_of len hq;refine⟨l,⟨hll,hl,by unfold maxLen at hm;exact hm,?_⟩,fun k v hk=>(hq k v hk).2.1,fun k v hk=>(hq k v hk).2.2⟩;rcases Nat.eq_zero_or_pos len with h0 | h0
   · exact⟨0,0,fun h=>by omega,fun k e hk=>by have:=(List.getElem?_eq_some_iff.1 hk).1;omega⟩
   · obtain⟨b,off,spot⟩:=ad;obtain⟨v,hv⟩:∃ v,l[0]? =some v:=⟨_,List.getElem?_eq_getElem (by omega)⟩;obtain⟨⟨A,n,c,hcl,_⟩,_⟩:=hq 0 v hv;have h1:=hcl 0 _ rfl;have hspot:spot=none:=by simpa[Addr.add]using World.cell?_spot h1
     subst hspot;refine⟨b,off,fun _=>rfl,fun k e hk=>?_⟩;obtain⟨⟨A,n,c,hcl,hs⟩,_⟩:=hq k e hk;refine⟨A,n,c,fun j u hu=>?_,hs⟩;have:=hcl j u hu;rw[addr_add,show off+(k * 18+j)=off+k * 18+j from by omega]at this;exact this
end
end Go.Proofs.YtamhonjkgkmdbaaGreatDoor

import Derived.Test.YthcekkeknonefaaGreatQEpQ
import Derived.Test.YthcekkeknonefaaGreatRows
import Derived.ProofKit
import Derived.OpenShut
import Derived.ShutString
import Derived.ChangeOld
import Derived.Below
import Derived.Deep.Slices
import Derived.Deep.Fields
import Derived.ChangeSame
import Derived.Lib.SmallJoins
import Derived.Test.YthcekkeknonefaaGreatQEpN
set_option linter.unusedVariables false
set_option linter.unusedSimpArgs false
namespace Go.Proofs.YthcekkeknonefaaGreat
set_option maxRecDepth 100000
open Go.ChangeShapes Go.WideShapes Go.Deep Go.Joins Go.RowKit
open Go.ChangeMaps (open_string shut_string)
theorem list_of{α:Type}{Q:Nat→α→Prop}:∀(n:Nat),(∀ i,i<n→∃ e,Q i e)→∃ l:List α,l.length=n∧∀ k e,l[k]? =some e→Q k e
 | 0,_=>⟨[],rfl,fun k e h=>by simp at h⟩
 | n+1,h=>by
  obtain⟨l,hl,hq⟩:=list_of n (fun i hi=>h i (by omega));obtain⟨e,he⟩:=h n (by omega);refine⟨l++[e],by simp[hl],fun k e' hk=>?_⟩;by_cases hkn:k<l.length
  · rw[List.getElem?_append_left hkn]at hk;exact hq k e' hk
  · rw[List.getElem?_append_right (by omega)]at hk;have h0:k - l.length=0:=by
     rcases Nat.eq_zero_or_pos (k - l.length)with h0 | h0
     · exact h0
     · rw[List.getElem?_eq_none (by simp;omega)]at hk;cases hk
    rw[h0]at hk;simp only[List.getElem?_cons_zero,Option.some.injEq]at hk;subst hk;rw[show k=n from by omega];exact he
section
variable {H : Type} {enc : TypeId × Value → H} {W : World} {sp : Nat → Bool} {held : Bool}
theorem trod_at{P:Program}{w:World}{base:Nat}{spare:Nat→Bool}{fuel:Nat}{t:TypeId}{cs:List Value}{x:DataW H×List MemPlace}{fs:Array Field}(ht:P.underlying t=some (.struct fs))(h:DataW.trod enc P w base spare held fuel t cs=some x)(i:Nat)(f:Field)(hf:fs[i]? =some f)(k:Nat)(hk:P.cellsOf f.type=k) :
 ∃ n y,DataW.trod enc P w base spare held n f.type ((cs.drop f.offset).take k)=some y:=by
 obtain⟨xs,n,_,_,_,hl,hx⟩:=DataW.trod_struct ht h;have h1:=hx i f hf;have hi:i<xs.length:=by rw[hl];exact(Array.getElem?_eq_some_iff.1 hf).1
 rw[hk,List.getElem?_eq_getElem hi]at h1;exact⟨n,_,h1⟩
theorem trod_len{P:Program}{w:World}{base:Nat}{spare:Nat→Bool}{fuel:Nat}{t:TypeId}{cs:List Value}{x:DataW H×List MemPlace}{fs:Array Field}(ht:P.underlying t=some (.struct fs))(h:DataW.trod enc P w base spare held fuel t cs=some x):cs.length=P.cellsOf t:=by
 obtain⟨_,_,_,_,h1,_,_⟩:=DataW.trod_struct ht h;exact h1
theorem open_nats{fuel:Nat}{cs:List Value}{x:DataW H×List MemPlace}(h:DataW.trod enc Tryz.prog W 0 (fun _=>true) held fuel 28 cs=some x):∃ A n c l,cs=[.slice A n c]∧SlN W A n c l∧SzL l:=by
 rcases open_slice Tryz.underlying28 h with⟨rfl,_⟩ | ⟨ad,len,cap,m,n,D,Pl,rfl,hb,hl,hm,hmm,hx,hi⟩
 · exact⟨none,0,0,[],rfl,⟨rfl,Nat.le_refl _,Nat.zero_le _,0,0,fun h=>absurd h (Nat.lt_irrefl _),fun k s h=>by simp at h⟩,fun s h=>by cases h⟩
 · have hC:Tryz.prog.cellsOf 22=1:=by kernel_rfl
   have hq:∀ i,i<len→∃ s:ByteArray,W.cell? (ad.add i)=some (.string s)∧s.size≤maxLen:=fun i hi'=>by
    obtain⟨cs',hc,ht'⟩:=hi i (by rw[hmm];simp;omega);obtain⟨s,e,_,z⟩:=DataW.trod_string Tryz.underlying22 ht';rw[hC,Nat.mul_one]at hc;obtain⟨_,hcl,hat⟩:=World.cells?_some hc;have:=hat 0 (by omega);rw[e]at this;exact⟨s,by simpa[Addr.add]using this,z⟩
   obtain⟨l,hll,hq⟩:=list_of len hq;refine⟨some ad,len,cap,l,rfl,⟨hll,hl,by unfold maxLen at hm;exact hm,?_⟩,fun s hs=>?_⟩
   · rcases Nat.eq_zero_or_pos len with h0 | h0
     · exact⟨0,0,fun h=>by omega,fun k e hk=>by have:=(List.getElem?_eq_some_iff.1 hk).1;omega⟩
     · obtain⟨b,off,spot⟩:=ad;obtain⟨e,he⟩:∃ e,l[0]? =some e:=⟨_,List.getElem?_eq_getElem (by omega)⟩;have h1:=(hq 0 e he).1;have hspot:spot=none:=by simpa[Addr.add]using World.cell?_spot h1
       subst hspot;refine⟨b,off,fun _=>rfl,fun k e hk=>?_⟩;have:=(hq k e hk).1;rw[addr_add]at this;exact this
   · obtain⟨k,hk⟩:=List.getElem?_of_mem hs;have:=(hq k s hk).2;unfold maxLen at this;exact this
theorem eight{cs:List Value}(h:cs.length=8):∃ c0 c1 c2 c3 c4 c5 c6 c7,cs=[c0,c1,c2,c3,c4,c5,c6,c7]:=
 match cs,h with
 | [c0,c1,c2,c3,c4,c5,c6,c7],_=>⟨c0,c1,c2,c3,c4,c5,c6,c7,rfl⟩
theorem open_dl{fuel:Nat}{cs:List Value}{x:DataW H×List MemPlace}(h:DataW.trod enc Tryz.prog W 0 (fun _=>true) held fuel 32 cs=some x):∃(d:Dl) (A1:Option Addr) (n1 c1:Nat) (A2:Option Addr) (n2 c2:Nat),cs=d.vals (.slice A1 n1 c1) (.slice A2 n2 c2)∧SlN W A1 n1 c1 d.ad∧SlN W A2 n2 c2 d.rm∧SzL d.str:=by
 have hl:=trod_len Tryz.underlying32 h;rw[show Tryz.prog.cellsOf 32=8 from by kernel_rfl]at hl;obtain⟨c0,c1,c2,c3,c4,c5,c6,c7,rfl⟩:=eight hl;clear hl;obtain⟨na,ya,ga⟩:=trod_at Tryz.underlying32 h 0 _ rfl 1 (by kernel_rfl);have ga:DataW.trod enc Tryz.prog W 0 (fun _=>true) held na 3 [c0]=some ya:=ga;obtain⟨nb,yb,gb⟩:=trod_at Tryz.underlying32 h 1 _ rfl 1 (by kernel_rfl);have gb:DataW.trod enc Tryz.prog W 0 (fun _=>true) held nb 3 [c1]=some yb:=gb;obtain⟨nc,yc,gc⟩:=trod_at Tryz.underlying32 h 2 _ rfl 1 (by kernel_rfl);have gc:DataW.trod enc Tryz.prog W 0 (fun _=>true) held nc 28 [c2]=some yc:=gc;obtain⟨nd,yd,gd⟩:=trod_at Tryz.underlying32 h 3 _ rfl 1 (by kernel_rfl);have gd:DataW.trod enc Tryz.prog W 0 (fun _=>true) held nd 28 [c3]=some yd:=gd;obtain⟨ne,ye,ge⟩:=trod_at Tryz.underlying32 h 4 _ rfl 1 (by kernel_rfl);have ge:DataW.trod enc Tryz.prog W 0 (fun _=>true) held ne 22 [c4]=some ye:=ge;obtain⟨nf,yf,gf⟩:=trod_at Tryz.underlying32 h 5 _ rfl 1 (by kernel_rfl);have gf:DataW.trod enc Tryz.prog W 0 (fun _=>true) held nf 22 [c5]=some yf:=gf;obtain⟨ng,yg,gg⟩:=trod_at Tryz.underlying32 h 6 _ rfl 2 (by kernel_rfl);have gg:DataW.trod enc Tryz.prog W 0 (fun _=>true) held ng 30 [c6,c7]=some yg:=gg;obtain⟨np,yp,gp⟩:=trod_at Tryz.underlying30 gg 0 _ rfl 1 (by kernel_rfl);have gp:DataW.trod enc Tryz.prog W 0 (fun _=>true) held np 22 [c6]=some yp:=gp;obtain⟨nq,yq,gq⟩:=trod_at Tryz.underlying30 gg 1 _ rfl 1 (by kernel_rfl);have gq:DataW.trod enc Tryz.prog W 0 (fun _=>true) held nq 22 [c7]=some yq:=gq;obtain⟨v4,e4,_,z4⟩:=DataW.trod_string Tryz.underlying22 ge;cases e4;obtain⟨v5,e5,_,z5⟩:=DataW.trod_string Tryz.underlying22 gf;cases e5;obtain⟨v6,e6,_,z6⟩:=DataW.trod_string Tryz.underlying22 gp;cases e6;obtain⟨v7,e7,_,z7⟩:=DataW.trod_string Tryz.underlying22 gq;cases e7;obtain⟨v0,e0,_,w0⟩:=DataW.trod_int Tryz.underlying3 ga;cases e0;obtain⟨v1,e1,_,w1⟩:=DataW.trod_int Tryz.underlying3 gb;cases e1;obtain⟨A1,n1,c1,l1,e2,hs1,hz1⟩:=open_nats gc;cases e2;obtain⟨A2,n2,c2,l2,e3,hs2,hz2⟩:=open_nats gd;cases e3;refine⟨⟨v0,v1,l1,l2,v4,v5,v6,v7⟩,A1,n1,c1,A2,n2,c2,rfl,hs1,hs2,fun s hm=>?_⟩;unfold maxLen at *;simp only[Dl.str,List.mem_append,List.mem_cons,List.mem_nil_iff,or_false]at hm;rcases hm with(hm | hm) | rfl | rfl | rfl | rfl;all_goals first | assumption | exact hz1 s hm | exact hz2 s hm
theorem open_dls{a:Option Addr}{len cap fuel:Nat}{x:DataW H×List MemPlace}(h:DataW.trod enc Tryz.prog W 0 (fun _=>true) held fuel 27 (Value.cells (.slice a len cap)).toList=some x):∃ l,SlD W a len cap l∧SzD l:=by
 have hC:Tryz.prog.cellsOf 32=8:=by kernel_rfl
 rcases open_slice Tryz.underlying27 h with⟨hcs,_⟩ | ⟨ad,len',cap',m,n,D,Pl,hcs,hb,hl,hm,hmm,hx,hi⟩
 · simp[Value.cells]at hcs;obtain⟨rfl,rfl,rfl⟩:=hcs;exact⟨[],SlD.nil _ _ _ (by omega),fun d h=>by cases h⟩
 · simp[Value.cells]at hcs;obtain⟨rfl,rfl,rfl⟩:=hcs;have hq:∀ i,i<len→∃ d:Dl,(∃ A1 n1 c1 A2 n2 c2,(∀ j u,(d.vals (.slice A1 n1 c1) (.slice A2 n2 c2))[j]? =some u→W.cell? (ad.add (i * 8+j))=some u)∧SlN W A1 n1 c1 d.ad∧SlN W A2 n2 c2 d.rm)∧SzL d.str:=fun i hi'=>by
    obtain⟨cs',hc,ht'⟩:=hi i (by rw[hmm];simp;omega);obtain⟨d,A1,n1,c1,A2,n2,c2,rfl,hs1,hs2,hz⟩:=open_dl ht';rw[hC]at hc;obtain⟨_,hcl,hat⟩:=World.cells?_some hc;refine⟨d,⟨A1,n1,c1,A2,n2,c2,fun j u hu=>?_,hs1,hs2⟩,hz⟩;have hj:j<8:=(List.getElem?_eq_some_iff.1 hu).1;have:=hat j hj;rw[←Go.Deep.add_add,this];exact hu
   obtain⟨l,hll,hq⟩:=list_of len hq;refine⟨l,⟨hll,hl,by unfold maxLen at hm;exact hm,?_⟩,fun d hd=>by
    obtain⟨k,hk⟩:=List.getElem?_of_mem hd
    exact(hq k d hk).2⟩
   rcases Nat.eq_zero_or_pos len with h0 | h0
   · exact⟨0,0,fun h=>by omega,fun k e hk=>by have:=(List.getElem?_eq_some_iff.1 hk).1;omega⟩
   · obtain⟨b,off,spot⟩:=ad;obtain⟨d,hd⟩:∃ d,l[0]? =some d:=⟨_,List.getElem?_eq_getElem (by omega)⟩;obtain⟨⟨A1,n1,c1,A2,n2,c2,hcl,_⟩,_⟩:=hq 0 d hd;have h1:=hcl 0 _ rfl;have hspot:spot=none:=by simpa[Addr.add]using World.cell?_spot h1
     subst hspot;refine⟨b,off,fun _=>rfl,fun k e hk=>?_⟩;obtain⟨⟨A1,n1,c1,A2,n2,c2,hcl,hs1,hs2⟩,_⟩:=hq k e hk;refine⟨A1,n1,c1,A2,n2,c2,fun j u hu=>?_,hs1,hs2⟩;have:=hcl j u hu;rw[addr_add,show off+(k * 8+j)=off+k * 8+j from by omega]at this;exact this
theorem open_dlV{r:Reach}{b0:Nat}{v:Value}{d:DataW H}{p:List MemPlace}(hv:Value.okWide Tryz.prog W r b0 32 v)(h:DataW.Trod enc Tryz.prog W 0 (fun _=>true) held 32 v d p):∃(x:Dl) (A1:Option Addr) (n1 c1:Nat) (A2:Option Addr) (n2 c2:Nat),v=.agg (x.arr (.slice A1 n1 c1) (.slice A2 n2 c2))∧SlN W A1 n1 c1 x.ad∧SlN W A2 n2 c2 x.rm∧SzL x.str:=by
 obtain⟨cs,rfl,_⟩:=okWide_struct Tryz.underlying32 hv;obtain⟨fuel,hf⟩:=h;obtain⟨x,A1,n1,c1,A2,n2,c2,he,hs1,hs2,hz⟩:=open_dl hf;refine⟨x,A1,n1,c1,A2,n2,c2,?_,hs1,hs2,hz⟩;have : cs.toList=x.vals (.slice A1 n1 c1) (.slice A2 n2 c2):=he;rw[show cs=cs.toList.toArray from by simp,this];rfl
end
open Go.RowKit
def Dl.strip(d:Dl):Dl:={ d with sc:=⟨#[]⟩,sr:=⟨#[]⟩ }
def foldJ(d:Dl):List Dl→Dl×Int
 | []=>(d,0)
 | x::l=>if (jn d x).2=0 then foldJ (jn d x).1 l else(Dl.zero,(jn d x).2)
def btw(l:List Dl)(F T:Nat):Dl×Int:=match l[F]? with
 | none=>(Dl.zero,2)
 | some d=>if T=F+1∧d.strip.msg.2≠0 then(Dl.zero,d.strip.msg.2)else foldJ d.strip ((l.drop (F+1)).take (T - (F+1)))
def bt(l:List Dl)(f t:Int):Dl×Int:=if f<0∨t≤f∨(l.length:Int)<t then(Dl.zero,2)else btw l f.toNat t.toNat
def itD:Array Value:=#[.int .i64 0,.int .i64 0,.slice none 0 0,.slice none 0 0,.string ⟨#[]⟩,.string ⟨#[]⟩,.string ⟨#[]⟩,.string ⟨#[]⟩]
end Go.Proofs.YthcekkeknonefaaGreat

import Derived.Test.YtfbmbledklbfgaaGreatDoorQAwa
import Derived.Test.YtfbmbledklbfgaaGreatDoorQOpV
import Derived.Test.YtfbmbledklbfgaaGreatDoorQGh2
set_option linter.unusedVariables false
set_option linter.unusedSimpArgs false
namespace Go.Proofs.YtfbmbledklbfgaaGreatDoor
open Go.ChangeShapes Go.WideShapes Go.Deep Go.Joins Go.RowKit
section
variable {H : Type} {enc : TypeId × Value → H} {P : Program} {w : World} {base : Nat} {spare : Nat → Bool} {held : Bool}
theorem open_slice_fields{t e:TypeId}{fs:Array Field}{fuel:Nat}{cs:List Value}{x:DataW H×List MemPlace}(ht:P.underlying t=some (.slice e))(he:P.underlying e=some (.struct fs))
 (hone:oneCellFields P fs=true) (hC:P.cellsOf e=fs.size) (h:DataW.trod enc P w base spare held fuel t cs=some x) :
 (cs=[.slice none 0 0]∧x=(.nil,[])) ∨
 ∃(a:Addr) (len cap m:Nat),cs=[.slice (some a) len cap]∧base≤a.block∧len≤cap∧cap≤maxLen∧m=(if spare a.block then cap else len) ∧
  ∀ i,i<m→∃(n:Nat), 
   ∀(j:Nat) (f:Field),fs[j]? =some f→∃(v:Value) (y:DataW H×List MemPlace),w.cell? (a.add (i * fs.size+j))=some v∧DataW.trod enc P w base spare held n f.type [v]=some y:=by
 rcases open_slice ht h with h0 | ⟨a,len,cap,m,n,D,Pl,hcs,hb,hl,hm,hmm,hx,hi⟩
 · exact .inl h0
 · refine .inr ⟨a,len,cap,m,hcs,hb,hl,hm,hmm,fun i him=>?_⟩;obtain⟨cs',hc,ht'⟩:=hi i him;rw[hC]at hc;obtain⟨ys,n',hn',hy,hlen,hyl,hf⟩:=DataW.trod_struct he ht';obtain⟨_,hcl,hat⟩:=World.cells?_some hc;refine⟨n',fun j f hj=>?_⟩;obtain⟨ho,hk⟩:=hone_of hone j f hj;have hjl:j<fs.size:=(Array.getElem?_eq_some_iff.1 hj).1;have hcell:=hat j hjl;have hv:cs'[j]? =some (cs'[j]'(by omega)):=List.getElem?_eq_getElem (by omega);have h1:=hf j f hj;rw[ho,hk]at h1;have hone':(cs'.drop j).take 1=[cs'[j]'(by omega)]:=by
    rw[List.drop_eq_getElem_cons (by omega)];rfl
   rw[hone']at h1;have hys:ys[j]? =some (ys[j]'(by omega)):=List.getElem?_eq_getElem (by omega);refine⟨_,_,?_,h1.trans hys⟩;rw[←Go.Deep.add_add,hcell,hv]
end
theorem list_of{α:Type}{Q:Nat→α→Prop}:∀(n:Nat),(∀ i,i<n→∃ e,Q i e)→∃ l:List α,l.length=n∧∀ k e,l[k]? =some e→Q k e
 | 0,_=>⟨[],rfl,fun k e h=>by simp at h⟩
 | n+1,h=>by
  obtain⟨l,hl,hq⟩:=list_of n (fun i hi=>h i (by omega));obtain⟨e,he⟩:=h n (by omega);refine⟨l++[e],by simp[hl],fun k e' hk=>?_⟩;by_cases hkn:k<l.length
  · rw[List.getElem?_append_left hkn]at hk;exact hq k e' hk
  · rw[List.getElem?_append_right (by omega)]at hk;have h0:k - l.length=0:=by
     rcases Nat.eq_zero_or_pos (k - l.length)with h0 | h0
     · exact h0
     · rw[List.getElem?_eq_none (by simp;omega)]at hk;cases hk
    rw[h0]at hk;simp only[List.getElem?_cons_zero,Option.some.injEq]at hk;subst hk;rw[show k=n from by omega];exact he
section
variable {H : Type} {enc : TypeId × Value → H} {W : World} {sp : Nat → Bool} {held : Bool}
def w4(w:World)(ad:Addr)(o:Nat)(e:En):Prop:=w.cell? (ad.add (o+0))=some (.int .i64 e.kind)∧w.cell? (ad.add (o+1))=some (.string e.handle)∧w.cell? (ad.add (o+2))=some (.string e.schema)∧w.cell? (ad.add (o+3))=some (.int .i64 e.epoch)
theorem open_entries{a:Option Addr}{len cap fuel:Nat}{x:DataW H×List MemPlace}(h:DataW.trod enc Tryz.prog W 0 (fun _=>true) held fuel 27 (Value.cells (.slice a len cap)).toList=some x):∃ l,SlE W a len cap l:=by
 rcases open_slice_fields Tryz.underlying27 Tryz.underlying43 (by kernel_rfl) (by kernel_rfl) h with⟨hcs,_⟩ | ⟨ad,len',cap',m,hcs,_,hl,hm,rfl,hi⟩
 · simp[Value.cells]at hcs;obtain⟨rfl,rfl,rfl⟩:=hcs;exact⟨[],SlE.nil _ _ (by omega) _⟩
 · simp[Value.cells]at hcs;obtain⟨rfl,rfl,rfl⟩:=hcs;have hq:∀ i,i<len→∃ e:En,w4 W ad (i * 4) e:=fun i hi'=>by
    obtain⟨n,hj⟩:=hi i (by first | omega | (simp;omega) | (split<;>omega));obtain⟨v0,y0,c0,g0⟩:=hj 0 _ rfl;obtain⟨v1,y1,c1,g1⟩:=hj 1 _ rfl;obtain⟨v2,y2,c2,g2⟩:=hj 2 _ rfl;obtain⟨v3,y3,c3,g3⟩:=hj 3 _ rfl;obtain⟨n0,e0,_⟩:=DataW.trod_int Tryz.underlying3 g0;obtain⟨n1,e1,_,z1⟩:=DataW.trod_string Tryz.underlying22 g1;obtain⟨n2,e2,_,z2⟩:=DataW.trod_string Tryz.underlying9 g2;obtain⟨n3,e3,_⟩:=DataW.trod_int Tryz.underlying3 g3;simp only[List.cons.injEq,and_true]at e0 e1 e2 e3;subst e0 e1 e2 e3;exact⟨⟨n0,n1,n2,n3⟩,c0,c1,c2,c3⟩
   obtain⟨l,hll,hq⟩:=list_of len hq;refine⟨l,hll,hl,by unfold maxLen at hm;exact hm,?_⟩;rcases Nat.eq_zero_or_pos len with h0 | h0
   · exact⟨0,0,fun h=>by omega,fun k e hk=>by have:=(List.getElem?_eq_some_iff.1 hk).1;omega⟩
   · obtain⟨b,off,spot⟩:=ad;obtain⟨e,he⟩:∃ e,l[0]? =some e:=⟨_,List.getElem?_eq_getElem (by omega)⟩;have h1:=(hq 0 e he).1;have hspot:spot=none:=by simpa[Addr.add]using World.cell?_spot h1
     subst hspot;refine⟨b,off,fun _=>rfl,fun k e hk=>?_⟩;obtain⟨c0,c1,c2,c3⟩:=hq k e hk;rw[addr_add]at c0 c1 c2 c3;exact⟨c0,c1,c2,c3⟩
end
set_option maxRecDepth 100000
open Go.ChangeShapes Go.WideShapes Go.ChangeAt Go.Deep Go.Joins Go.RowKit
open Go.ChangeMaps (open_string shut_string)
section
variable {H : Type} {enc : TypeId × Value → H} {W : World} {sp : Nat → Bool} {held : Bool}
theorem open_entriesC{fuel:Nat}{c:Value}{x:DataW H×List MemPlace}(h:DataW.trod enc Tryz.prog W 0 (fun _=>true) held fuel 27 [c]=some x):∃ A len cap l,c=.slice A len cap∧SlE W A len cap l:=by
 rcases open_slice_fields Tryz.underlying27 Tryz.underlying43 (by kernel_rfl) (by kernel_rfl) h with⟨hcs,_⟩ | ⟨ad,len',cap',m,hcs,_⟩
 · simp only[List.cons.injEq,and_true]at hcs;subst hcs;obtain⟨l,hl⟩:=open_entries (a:=none) (len:=0) (cap:=0) h;exact⟨_,_,_,l,rfl,hl⟩
 · simp only[List.cons.injEq,and_true]at hcs;subst hcs;obtain⟨l,hl⟩:=open_entries (a:=some ad) (len:=len') (cap:=cap') h;exact⟨_,_,_,l,rfl,hl⟩
theorem open_signerL{r:Reach}{b0:Nat}{v:Value}{d:DataW H}{p:List MemPlace}(hv:Value.okWide Tryz.prog W r b0 32 v)(h:DataW.Trod enc Tryz.prog W 0 (fun _=>true) held 32 v d p):∃(M O G Y X:ByteArray) (B:Option Addr) (m cb:Nat) (L:List En) (A:Option Addr) (n cap:Nat) (l:List ByteArray) (s:ByteArray) (k:Int),v=slV M O G Y X B m cb A n cap s k∧SlE W B m cb L∧SlN W A n cap l:=by
 obtain⟨cs,rfl,hsz⟩:=okWide_struct Tryz.underlying32 hv;obtain⟨c0,c1,c2,c3,c4,c5,c6,c7,c8,rfl⟩:=array9T (hsz.trans (show Tryz.prog.cellsOf 32=9 from by kernel_rfl));obtain⟨fuel,hf⟩:=h;have hf:DataW.trod enc Tryz.prog W 0 (fun _=>true) held fuel 32 [c0,c1,c2,c3,c4,c5,c6,c7,c8]=some (d,p):=hf;obtain⟨n1,y1,g1⟩:=trod_at Tryz.underlying32 hf 0 _ rfl 4 (by kernel_rfl);have g1:DataW.trod enc Tryz.prog W 0 (fun _=>true) held n1 26 [c0,c1,c2,c3]=some y1:=g1;obtain⟨n2,y2,g2⟩:=trod_at Tryz.underlying32 hf 1 _ rfl 1 (by kernel_rfl);have g2:DataW.trod enc Tryz.prog W 0 (fun _=>true) held n2 22 [c4]=some y2:=g2;obtain⟨n3,y3,g3⟩:=trod_at Tryz.underlying32 hf 2 _ rfl 1 (by kernel_rfl);have g3:DataW.trod enc Tryz.prog W 0 (fun _=>true) held n3 27 [c5]=some y3:=g3;obtain⟨n4,y4,g4⟩:=trod_at Tryz.underlying32 hf 3 _ rfl 3 (by kernel_rfl);have g4:DataW.trod enc Tryz.prog W 0 (fun _=>true) held n4 30 [c6,c7,c8]=some y4:=g4;obtain⟨X,e2,_⟩:=DataW.trod_string Tryz.underlying22 g2;obtain⟨B,m,cb,L,e3,hL⟩:=open_entriesC g3;obtain⟨A,n,cap,l,s,k,e6,e7,e8,hs⟩:=open_tapeC g4;obtain⟨M,O,G,K,e0,e1,e4,e5⟩:=open_skeyC g1;simp only[List.cons.injEq,and_true]at e2;subst e0 e1 e2 e3 e4 e5 e6 e7 e8;exact⟨M,O,G,K,X,B,m,cb,L,A,n,cap,l,s,k,rfl,hL,hs⟩
end
end Go.Proofs.YtfbmbledklbfgaaGreatDoor

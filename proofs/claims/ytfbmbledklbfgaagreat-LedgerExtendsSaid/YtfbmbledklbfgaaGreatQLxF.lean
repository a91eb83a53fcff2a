import Derived.Test.YtfbmbledklbfgaaGreatQLxE
set_option linter.unusedVariables false
set_option linter.unusedSimpArgs false
namespace Go.Proofs.YtfbmbledklbfgaaGreat
set_option maxRecDepth 100000
open Go.ChangeShapes Go.WideShapes Go.ChangeAt Go.Deep Go.Joins Go.RowKit
open Go.ChangeMaps (open_string shut_string)
theorem list_ofH{α:Type}{Q:Nat→α→Prop}:∀(n:Nat),(∀ i,i<n→∃ e,Q i e)→∃ l:List α,l.length=n∧∀ k e,l[k]? =some e→Q k e
 | 0,_=>⟨[],rfl,fun k e h=>by simp at h⟩
 | n+1,h=>by
  obtain⟨l,hl,hq⟩:=list_ofH n (fun i hi=>h i (by omega));obtain⟨e,he⟩:=h n (by omega);refine⟨l++[e],by simp[hl],fun k e' hk=>?_⟩;by_cases hkn:k<l.length
  · rw[List.getElem?_append_left hkn]at hk;exact hq k e' hk
  · rw[List.getElem?_append_right (by omega)]at hk;have h0:k - l.length=0:=by
     rcases Nat.eq_zero_or_pos (k - l.length)with h0 | h0
     · exact h0
     · rw[List.getElem?_eq_none (by simp;omega)]at hk;cases hk
    rw[h0]at hk;simp only[List.getElem?_cons_zero,Option.some.injEq]at hk;subst hk;rw[show k=n from by omega];exact he
section
variable {H : Type} {enc : TypeId × Value → H} {W : World} {sp : Nat → Bool} {held : Bool}
theorem open_strsC{fuel:Nat}{cs:List Value}{x:DataW H×List MemPlace}(h:DataW.trod enc Tryz.prog W 0 (fun _=>true) held fuel 31 cs=some x):∃ A n c l,cs=[.slice A n c]∧SlN W A n c l∧∀ s∈l,s.size≤maxLen:=by
 rcases open_slice Tryz.underlying31 h with⟨rfl,_⟩ | ⟨ad,len,cap,m,n,D,Pl,rfl,hb,hl,hm,hmm,hx,hi⟩
 · exact⟨none,0,0,[],rfl,⟨rfl,Nat.le_refl _,Nat.zero_le _,0,0,fun h=>absurd h (Nat.lt_irrefl _),fun k s h=>by simp at h⟩,fun s h=>by cases h⟩
 · have hC:Tryz.prog.cellsOf 9=1:=by kernel_rfl
   have hq:∀ i,i<len→∃ s:ByteArray,W.cell? (ad.add i)=some (.string s)∧s.size≤maxLen:=fun i hi'=>by
    obtain⟨cs',hc,ht'⟩:=hi i (by rw[hmm];simp;omega);obtain⟨s,e,_,z⟩:=DataW.trod_string Tryz.underlying9 ht';rw[hC,Nat.mul_one]at hc;obtain⟨_,hcl,hat⟩:=World.cells?_some hc;have:=hat 0 (by omega);rw[e]at this;exact⟨s,by simpa[Addr.add]using this,z⟩
   obtain⟨l,hll,hq⟩:=list_ofH len hq;refine⟨some ad,len,cap,l,rfl,⟨hll,hl,by unfold maxLen at hm;exact hm,?_⟩,fun s hs=>?_⟩
   · rcases Nat.eq_zero_or_pos len with h0 | h0
     · exact⟨0,0,fun h=>by omega,fun k e hk=>by have:=(List.getElem?_eq_some_iff.1 hk).1;omega⟩
     · obtain⟨b,off,spot⟩:=ad;obtain⟨e,he⟩:∃ e,l[0]? =some e:=⟨_,List.getElem?_eq_getElem (by omega)⟩;have h1:=(hq 0 e he).1;have hspot:spot=none:=by simpa[Addr.add]using World.cell?_spot h1
       subst hspot;refine⟨b,off,fun _=>rfl,fun k e hk=>?_⟩;have:=(hq k e hk).1;rw[addr_add]at this;exact this
   · obtain⟨k,hk⟩:=List.getElem?_of_mem hs;exact(hq k s hk).2
theorem nine_of{α:Type}{cs:Array α}(h:cs.size=9):∃ a b c d e f g h i,cs=#[a,b,c,d,e,f,g,h,i]:=by
 obtain⟨l⟩:=cs
 match l,h with
 | [a,b,c,d,e,f,g,h,i],_=>exact⟨a,b,c,d,e,f,g,h,i,rfl⟩
theorem open_headC{fuel:Nat}{c0 c1 c2 c3:Value}{x:DataW H×List MemPlace}(hf:DataW.trod enc Tryz.prog W 0 (fun _=>true) held fuel 30 [c0,c1,c2,c3]=some x):∃(n:Int) (r a b:ByteArray),c0=.int .i64 n∧c1=.string r∧c2=.string a∧c3=.string b:=by
 obtain⟨n1,y1,g1⟩:=trod_at Tryz.underlying30 hf 0 _ rfl 1 (by kernel_rfl);have g1:DataW.trod enc Tryz.prog W 0 (fun _=>true) held n1 3 [c0]=some y1:=g1;obtain⟨n2,y2,g2⟩:=trod_at Tryz.underlying30 hf 1 _ rfl 1 (by kernel_rfl);have g2:DataW.trod enc Tryz.prog W 0 (fun _=>true) held n2 9 [c1]=some y2:=g2;obtain⟨n3,y3,g3⟩:=trod_at Tryz.underlying30 hf 2 _ rfl 2 (by kernel_rfl);have g3:DataW.trod enc Tryz.prog W 0 (fun _=>true) held n3 28 [c2,c3]=some y3:=g3;obtain⟨n4,y4,g4⟩:=trod_at Tryz.underlying28 g3 0 _ rfl 1 (by kernel_rfl);have g4:DataW.trod enc Tryz.prog W 0 (fun _=>true) held n4 22 [c2]=some y4:=g4;obtain⟨n5,y5,g5⟩:=trod_at Tryz.underlying28 g3 1 _ rfl 1 (by kernel_rfl);have g5:DataW.trod enc Tryz.prog W 0 (fun _=>true) held n5 22 [c3]=some y5:=g5;obtain⟨k,e0,_⟩:=DataW.trod_int Tryz.underlying3 g1;obtain⟨s1,e1,_⟩:=DataW.trod_string Tryz.underlying9 g2;obtain⟨s2,e2,_⟩:=DataW.trod_string Tryz.underlying22 g4;obtain⟨s3,e3,_⟩:=DataW.trod_string Tryz.underlying22 g5;simp only[List.cons.injEq,and_true]at e0 e1 e2 e3;exact⟨k,s1,s2,s3,e0,e1,e2,e3⟩
theorem open_skeyH{r:Reach}{b0:Nat}{v:Value}{d:DataW H}{p:List MemPlace}(hv:Value.okWide Tryz.prog W r b0 26 v)(h:DataW.Trod enc Tryz.prog W 0 (fun _=>true) held 26 v d p):∃ M O G Y:ByteArray,v=kV M O G Y:=by
 obtain⟨cs,rfl,hsz⟩:=okWide_struct Tryz.underlying26 hv;obtain⟨c0,c1,c2,c3,rfl⟩:=array4 (hsz.trans (show Tryz.prog.cellsOf 26=4 from by kernel_rfl));obtain⟨fuel,hf⟩:=h;have hf:DataW.trod enc Tryz.prog W 0 (fun _=>true) held fuel 26 [c0,c1,c2,c3]=some (d,p):=hf;obtain⟨M,O,G,K,rfl,rfl,rfl,rfl⟩:=open_skeyC hf;exact⟨M,O,G,K,rfl⟩
theorem open_heads{r:Reach}{b0:Nat}{v:Value}{d:DataW H}{p:List MemPlace}(hv:Value.okWide Tryz.prog W r b0 33 v)(h:DataW.Trod enc Tryz.prog W 0 (fun _=>true) held 33 v d p):∃(x k:HdV) (A:Option Addr) (n c:Nat) (l:List ByteArray),v=hsV x k A n c∧SlN W A n c l:=by
 obtain⟨cs,rfl,hsz⟩:=okWide_struct Tryz.underlying33 hv;obtain⟨c0,c1,c2,c3,c4,c5,c6,c7,c8,rfl⟩:=nine_of (hsz.trans (show Tryz.prog.cellsOf 33=9 from by kernel_rfl));obtain⟨fuel,hf⟩:=h;have hf:DataW.trod enc Tryz.prog W 0 (fun _=>true) held fuel 33 [c0,c1,c2,c3,c4,c5,c6,c7,c8]=some (d,p):=hf;obtain⟨n1,y1,g1⟩:=trod_at Tryz.underlying33 hf 0 _ rfl 4 (by kernel_rfl);have g1:DataW.trod enc Tryz.prog W 0 (fun _=>true) held n1 30 [c0,c1,c2,c3]=some y1:=g1;obtain⟨n2,y2,g2⟩:=trod_at Tryz.underlying33 hf 1 _ rfl 4 (by kernel_rfl);have g2:DataW.trod enc Tryz.prog W 0 (fun _=>true) held n2 30 [c4,c5,c6,c7]=some y2:=g2;obtain⟨n3,y3,g3⟩:=trod_at Tryz.underlying33 hf 2 _ rfl 1 (by kernel_rfl);have g3:DataW.trod enc Tryz.prog W 0 (fun _=>true) held n3 31 [c8]=some y3:=g3;obtain⟨a0,a1,a2,a3,rfl,rfl,rfl,rfl⟩:=open_headC g1;obtain⟨b0,b1,b2,b3,rfl,rfl,rfl,rfl⟩:=open_headC g2;obtain⟨A,n,c,l,e8,hs,_⟩:=open_strsC g3;obtain rfl:c8=.slice A n c:=by simpa using e8
 exact⟨⟨a0,a1,a2,a3⟩,⟨b0,b1,b2,b3⟩,A,n,c,l,rfl,hs⟩
end
end Go.Proofs.YtfbmbledklbfgaaGreat

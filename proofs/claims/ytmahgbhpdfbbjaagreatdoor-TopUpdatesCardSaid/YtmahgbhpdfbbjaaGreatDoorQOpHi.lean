import Derived.Lib.SmallJoins
import Derived.Test.YtmahgbhpdfbbjaaGreatDoorQTvM
set_option linter.unusedVariables false
set_option linter.unusedSimpArgs false
namespace Go.Proofs.YtmahgbhpdfbbjaaGreatDoor
open Go.ChangeShapes Go.WideShapes Go.Deep Go.Joins Go.RowKit
open Go.ChangeMaps (open_string shut_string)
theorem list_of{α:Type}{Q:Nat→α→Prop}:∀(n:Nat),(∀ i,i<n→∃ e,Q i e)→∃ l:List α,l.length=n∧∀ k e,l[k]? =some e→Q k e
 | 0,_=>⟨[],rfl,fun k e h=>by simp at h⟩
 | n+1,h=>by
  obtain⟨l,hl,hq⟩:=list_of n (fun i hi=>h i (by omega));obtain⟨e,he⟩:=h n (by omega);refine⟨l++[e],by simp[hl],fun k e' hk=>?_⟩;by_cases hkn:k<l.length
  · rw[List.getElem?_append_left hkn]at hk;exact hq k e' hk
  · rw[List.getElem?_append_right (by omega)]at hk;have h0:k - l.length=0:=by
     rcases Nat.eq_zero_or_pos (k - l.length)with h0 | h0
     · exact h0
     · rw[List.getElem?_eq_none (by simp;omega)]at hk;cases hk
    rw[h0]at hk;simp only[List.getElem?_cons_zero,Option.some.injEq]at hk;subst hk;rw[show k=n from by omega];exact he
section
variable {H : Type} {enc : TypeId × Value → H} {W : World} {sp : Nat → Bool} {held : Bool}
theorem trod_at{P:Program}{w:World}{base:Nat}{spare:Nat→Bool}{fuel:Nat}{t:TypeId}{cs:List Value}{x:DataW H×List MemPlace}{fs:Array Field}(ht:P.underlying t=some (.struct fs))(h:DataW.trod enc P w base spare held fuel t cs=some x)(i:Nat)(f:Field)(hf:fs[i]? =some f)(k:Nat)(hk:P.cellsOf f.type=k) :
 ∃ n y,DataW.trod enc P w base spare held n f.type ((cs.drop f.offset).take k)=some y:=by
 obtain⟨xs,n,_,_,_,hl,hx⟩:=DataW.trod_struct ht h;have h1:=hx i f hf;have hi:i<xs.length:=by rw[hl];exact(Array.getElem?_eq_some_iff.1 hf).1
 rw[hk,List.getElem?_eq_getElem hi]at h1;exact⟨n,_,h1⟩
theorem open_nats{fuel:Nat}{cs:List Value}{x:DataW H×List MemPlace}(h:DataW.trod enc Tryz.prog W 0 (fun _=>true) held fuel 25 cs=some x):∃ A n c l,cs=[.slice A n c]∧SlN W A n c l∧SzL l:=by
 rcases open_slice Tryz.underlying25 h with⟨rfl,_⟩ | ⟨ad,len,cap,m,n,D,Pl,rfl,hb,hl,hm,hmm,hx,hi⟩
 · exact⟨none,0,0,[],rfl,⟨rfl,Nat.le_refl _,Nat.zero_le _,0,0,fun h=>absurd h (Nat.lt_irrefl _),fun k s h=>by simp at h⟩,fun s h=>by cases h⟩
 · have hC:Tryz.prog.cellsOf 22=1:=by kernel_rfl
   have hq:∀ i,i<len→∃ s:ByteArray,W.cell? (ad.add i)=some (.string s)∧s.size≤maxLen:=fun i hi'=>by
    obtain⟨cs',hc,ht'⟩:=hi i (by rw[hmm];simp;omega);obtain⟨s,e,_,z⟩:=DataW.trod_string Tryz.underlying22 ht';rw[hC,Nat.mul_one]at hc;obtain⟨_,hcl,hat⟩:=World.cells?_some hc;have:=hat 0 (by omega);rw[e]at this;exact⟨s,by simpa[Addr.add]using this,z⟩
   obtain⟨l,hll,hq⟩:=list_of len hq;refine⟨some ad,len,cap,l,rfl,⟨hll,hl,by unfold maxLen at hm;exact hm,?_⟩,fun s hs=>?_⟩
   · rcases Nat.eq_zero_or_pos len with h0 | h0
     · exact⟨0,0,fun h=>by omega,fun k e hk=>by have:=(List.getElem?_eq_some_iff.1 hk).1;omega⟩
     · obtain⟨b,off,spot⟩:=ad;obtain⟨e,he⟩:∃ e,l[0]? =some e:=⟨_,List.getElem?_eq_getElem (by omega)⟩;have h1:=(hq 0 e he).1;have hspot:spot=none:=by simpa[Addr.add]using World.cell?_spot h1
       subst hspot;refine⟨b,off,fun _=>rfl,fun k e hk=>?_⟩;have:=(hq k e hk).1;rw[addr_add]at this;exact this
   · obtain⟨k,hk⟩:=List.getElem?_of_mem hs;have:=(hq k s hk).2;unfold maxLen at this;exact this
end
set_option maxRecDepth 100000
open Go.ChangeShapes Go.WideShapes Go.ChangeAt Go.Deep Go.Joins Go.RowKit
open Go.ChangeMaps (open_string shut_string)
theorem thirteen_of{α:Type}{cs:Array α}(h:cs.size=13):∃ a b c d e f g h i j k l m,cs=#[a,b,c,d,e,f,g,h,i,j,k,l,m]:=by
 obtain⟨l⟩:=cs
 match l,h with
 | [a,b,c,d,e,f,g,h,i,j,k,l,m],_=>exact⟨a,b,c,d,e,f,g,h,i,j,k,l,m,rfl⟩
section
variable {H : Type} {enc : TypeId × Value → H} {W : World} {held : Bool}
theorem open_rowsF{fuel:Nat}{cs:List Value}{x:DataW H×List MemPlace}(h:DataW.trod enc Tryz.prog W 0 (fun _=>true) held fuel 30 cs=some x):∃ A n c L,cs=[.slice A n c]∧SlR W A n c L∧∀ C∈L,SzL C:=by
 have hC:Tryz.prog.cellsOf 25=1:=by kernel_rfl
 rcases open_slice Tryz.underlying30 h with⟨rfl,_⟩ | ⟨ad,len,cap,m,n,D,Pl,rfl,hb,hl,hm,hmm,hx,hi⟩
 · exact⟨none,0,0,[],rfl,⟨rfl,Nat.le_refl _,Nat.zero_le _,fun k l h=>by simp at h⟩,fun C h=>by cases h⟩
 · have hq:∀ i,i<len→∃ l:List ByteArray,(∃ A' n' c',W.cell? (ad.add i)=some (.slice A' n' c')∧SlN W A' n' c' l)∧SzL l:=fun i hi'=>by
    obtain⟨cs',hc,ht'⟩:=hi i (by rw[hmm];simp;omega);obtain⟨A',n',c',l,e,hs,hz⟩:=open_nats ht';rw[hC,Nat.mul_one]at hc;obtain⟨_,hcl,hat⟩:=World.cells?_some hc;have:=hat 0 (by omega);rw[e]at this;exact⟨l,⟨A',n',c',by simpa[Addr.add]using this,hs⟩,hz⟩
   obtain⟨L,hll,hq⟩:=list_of len hq;refine⟨some ad,len,cap,L,rfl,⟨hll,hl,by unfold maxLen at hm;exact hm,fun k l hk=>?_⟩,fun C hC=>by
    obtain⟨k,hk⟩:=List.getElem?_of_mem hC
    exact(hq k C hk).2⟩
   obtain⟨⟨A',n',c',h1,h2⟩,_⟩:=hq k l hk;obtain⟨b,off,spot⟩:=ad;obtain⟨l0,h0⟩:∃ e,L[0]? =some e:=⟨_,List.getElem?_eq_getElem (by have:=(List.getElem?_eq_some_iff.1 hk).1;omega)⟩;obtain⟨⟨_,_,_,h3,_⟩,_⟩:=hq 0 l0 h0;have hspot:spot=none:=by simpa[Addr.add]using World.cell?_spot h3
   subst hspot;rw[addr_add]at h1;exact⟨b,off,rfl,A',n',c',h1,h2⟩
theorem open_hist{r:Reach}{b0:Nat}{v:Value}{d:DataW H}{p:List MemPlace}(hv:Value.okWide Tryz.prog W r b0 32 v)(h:DataW.Trod enc Tryz.prog W 0 (fun _=>true) held 32 v d p) :
 ∃(N M O Z S:ByteArray) (RA:Option Addr) (rn rc:Nat) (U H P Q:ByteArray) (MA:Option Addr) (mn mc:Nat) (u:ByteArray) (CA:Option Addr) (cn cc:Nat) (rl Ms:List ByteArray) (Cs:List (List ByteArray)),v=.agg (hiC N M O Z S RA rn rc U H P Q MA mn mc u CA cn cc)∧SlN W RA rn rc rl∧SzL rl∧SzL [N,M,O,Z,S,U,H]∧SzL [P,Q]∧SlN W MA mn mc Ms∧SzL Ms∧SlR W CA cn cc Cs∧∀ C∈Cs,SzL C:=by
 obtain⟨cs,rfl,hsz⟩:=okWide_struct Tryz.underlying32 hv;obtain⟨c0,c1,c2,c3,c4,c5,c6,c7,c8,c9,e0,e1,e2,rfl⟩:=thirteen_of (hsz.trans (show Tryz.prog.cellsOf 32=13 from by kernel_rfl));obtain⟨fuel,hf⟩:=h;have hf:DataW.trod enc Tryz.prog W 0 (fun _=>true) held fuel 32 [c0,c1,c2,c3,c4,c5,c6,c7,c8,c9,e0,e1,e2]=some (d,p):=hf;obtain⟨na,ya,ga⟩:=trod_at Tryz.underlying32 hf 0 _ rfl 8 (by kernel_rfl);have ga:DataW.trod enc Tryz.prog W 0 (fun _=>true) held na 27 [c0,c1,c2,c3,c4,c5,c6,c7]=some ya:=ga;obtain⟨nb,yb,gb⟩:=trod_at Tryz.underlying32 hf 1 _ rfl 2 (by kernel_rfl);have gb:DataW.trod enc Tryz.prog W 0 (fun _=>true) held nb 29 [c8,c9]=some yb:=gb;obtain⟨nc,yc,gc⟩:=trod_at Tryz.underlying32 hf 2 _ rfl 1 (by kernel_rfl);have gc:DataW.trod enc Tryz.prog W 0 (fun _=>true) held nc 25 [e0]=some yc:=gc;obtain⟨nd,yd,gd⟩:=trod_at Tryz.underlying32 hf 3 _ rfl 1 (by kernel_rfl);have gd:DataW.trod enc Tryz.prog W 0 (fun _=>true) held nd 22 [e1]=some yd:=gd;obtain⟨nx,yx,gx⟩:=trod_at Tryz.underlying32 hf 4 _ rfl 1 (by kernel_rfl);have gx:DataW.trod enc Tryz.prog W 0 (fun _=>true) held nx 30 [e2]=some yx:=gx;obtain⟨ne,ye,ge⟩:=trod_at Tryz.underlying27 ga 0 _ rfl 1 (by kernel_rfl);have ge:DataW.trod enc Tryz.prog W 0 (fun _=>true) held ne 9 [c0]=some ye:=ge;obtain⟨nf,yf,gf⟩:=trod_at Tryz.underlying27 ga 1 _ rfl 2 (by kernel_rfl);have gf:DataW.trod enc Tryz.prog W 0 (fun _=>true) held nf 24 [c1,c2]=some yf:=gf;obtain⟨ng,yg,gg⟩:=trod_at Tryz.underlying27 ga 2 _ rfl 1 (by kernel_rfl);have gg:DataW.trod enc Tryz.prog W 0 (fun _=>true) held ng 22 [c3]=some yg:=gg;obtain⟨nh,yh,gh⟩:=trod_at Tryz.underlying27 ga 3 _ rfl 1 (by kernel_rfl);have gh:DataW.trod enc Tryz.prog W 0 (fun _=>true) held nh 22 [c4]=some yh:=gh;obtain⟨ni,yi,gi⟩:=trod_at Tryz.underlying27 ga 4 _ rfl 1 (by kernel_rfl);have gi:DataW.trod enc Tryz.prog W 0 (fun _=>true) held ni 25 [c5]=some yi:=gi;obtain⟨nj,yj,gj⟩:=trod_at Tryz.underlying27 ga 5 _ rfl 1 (by kernel_rfl);have gj:DataW.trod enc Tryz.prog W 0 (fun _=>true) held nj 22 [c6]=some yj:=gj;obtain⟨nk,yk,gk⟩:=trod_at Tryz.underlying27 ga 6 _ rfl 1 (by kernel_rfl);have gk:DataW.trod enc Tryz.prog W 0 (fun _=>true) held nk 22 [c7]=some yk:=gk;obtain⟨nl,yl,gl⟩:=trod_at Tryz.underlying24 gf 0 _ rfl 1 (by kernel_rfl);have gl:DataW.trod enc Tryz.prog W 0 (fun _=>true) held nl 22 [c1]=some yl:=gl;obtain⟨nm,ym,gm⟩:=trod_at Tryz.underlying24 gf 1 _ rfl 1 (by kernel_rfl);have gm:DataW.trod enc Tryz.prog W 0 (fun _=>true) held nm 22 [c2]=some ym:=gm;obtain⟨nn,yn,gn⟩:=trod_at Tryz.underlying29 gb 0 _ rfl 1 (by kernel_rfl);have gn:DataW.trod enc Tryz.prog W 0 (fun _=>true) held nn 22 [c8]=some yn:=gn;obtain⟨no,yo,go⟩:=trod_at Tryz.underlying29 gb 1 _ rfl 1 (by kernel_rfl);have go:DataW.trod enc Tryz.prog W 0 (fun _=>true) held no 22 [c9]=some yo:=go;obtain⟨s0,i0,_,z0⟩:=DataW.trod_string Tryz.underlying9 ge;obtain⟨s1,i1,_,z1⟩:=DataW.trod_string Tryz.underlying22 gl;obtain⟨s2,i2,_,z2⟩:=DataW.trod_string Tryz.underlying22 gm;obtain⟨s3,i3,_,z3⟩:=DataW.trod_string Tryz.underlying22 gg;obtain⟨s4,i4,_,z4⟩:=DataW.trod_string Tryz.underlying22 gh;obtain⟨A5,n5,k5,l5,i5,h5,y5⟩:=open_nats gi;obtain⟨s6,i6,_,z6⟩:=DataW.trod_string Tryz.underlying22 gj;obtain⟨s7,i7,_,z7⟩:=DataW.trod_string Tryz.underlying22 gk;obtain⟨s8,i8,_,z8⟩:=DataW.trod_string Tryz.underlying22 gn;obtain⟨s9,i9,_,z9⟩:=DataW.trod_string Tryz.underlying22 go;obtain⟨A6,n6,k6,l6,j0,h6,y6⟩:=open_nats gc;obtain⟨t1,j1,_⟩:=DataW.trod_string Tryz.underlying22 gd;obtain⟨A7,n7,k7,L7,j2,h7,y7⟩:=open_rowsF gx;simp only[List.cons.injEq,and_true]at i0 i1 i2 i3 i4 i5 i6 i7 i8 i9 j0 j1 j2;subst i0 i1 i2 i3 i4 i5 i6 i7 i8 i9 j0 j1 j2;unfold maxLen at z0 z1 z2 z3 z4 z6 z7 z8 z9;refine⟨s0,s1,s2,s3,s4,A5,n5,k5,s6,s7,s8,s9,A6,n6,k6,t1,A7,n7,k7,l5,l6,L7,rfl,h5,y5,fun s hs=>?_,fun s hs=>?_,h6,y6,h7,y7⟩
 · simp only[List.mem_cons,List.mem_nil_iff,or_false]at hs;rcases hs with rfl | rfl | rfl | rfl | rfl | rfl | rfl
   · exact z0
   · exact z1
   · exact z2
   · exact z3
   · exact z4
   · exact z6
   · exact z7
 · simp only[List.mem_cons,List.mem_nil_iff,or_false]at hs;rcases hs with rfl | rfl
   · exact z8
   · exact z9
end
end Go.Proofs.YtmahgbhpdfbbjaaGreatDoor

import Derived.Test.YtppbcopnfankcaaGreatQAuJ
import Derived.Lib.SmallJoins
set_option linter.unusedVariables false
set_option linter.unusedSimpArgs false
namespace Go.Proofs.YtppbcopnfankcaaGreat
set_option maxRecDepth 100000
open Go.ChangeShapes Go.WideShapes Go.Deep Go.Joins Go.RowKit
open Go.ChangeMaps (open_string shut_string)
theorem zmn{α:Type}{Q:Nat→α→Prop}:∀(n:Nat),(∀ i,i<n→∃ e,Q i e)→∃ l:List α,l.length=n∧∀ k e,l[k]? =some e→Q k e
 | 0,_=>⟨[],rfl,fun k e h=>by simp at h⟩
 | n+1,h=>by
  obtain⟨l,hl,hq⟩:=zmn n (fun i hi=>h i (by omega));obtain⟨e,he⟩:=h n (by omega);refine⟨l++[e],by simp[hl],fun k e' hk=>?_⟩;by_cases hkn:k<l.length
  · rw[List.getElem?_append_left hkn]at hk;exact hq k e' hk
  · rw[List.getElem?_append_right (by omega)]at hk;have h0:k - l.length=0:=by
     rcases Nat.eq_zero_or_pos (k - l.length)with h0 | h0
     · exact h0
     · rw[List.getElem?_eq_none (by simp;omega)]at hk;cases hk
    rw[h0]at hk;simp only[List.getElem?_cons_zero,Option.some.injEq]at hk;subst hk;rw[show k=n from by omega];exact he
section
variable {H : Type} {enc : TypeId × Value → H} {W : World} {sp : Nat → Bool} {held : Bool}
theorem jf{P:Program}{w:World}{base:Nat}{spare:Nat→Bool}{fuel:Nat}{t:TypeId}{cs:List Value}{x:DataW H×List MemPlace}{fs:Array Field}(ht:P.underlying t=some (.struct fs))(h:DataW.trod enc P w base spare held fuel t cs=some x)(i:Nat)(f:Field)(hf:fs[i]? =some f)(k:Nat)(hk:P.cellsOf f.type=k) :
 ∃ n y,DataW.trod enc P w base spare held n f.type ((cs.drop f.offset).take k)=some y:=by
 obtain⟨xs,n,_,_,_,hl,hx⟩:=DataW.trod_struct ht h;have h1:=hx i f hf;have hi:i<xs.length:=by rw[hl];exact(Array.getElem?_eq_some_iff.1 hf).1
 rw[hk,List.getElem?_eq_getElem hi]at h1;exact⟨n,_,h1⟩
theorem zth{P:Program}{w:World}{base:Nat}{spare:Nat→Bool}{fuel:Nat}{t:TypeId}{cs:List Value}{x:DataW H×List MemPlace}{fs:Array Field}(ht:P.underlying t=some (.struct fs))(h:DataW.trod enc P w base spare held fuel t cs=some x):cs.length=P.cellsOf t:=by
 obtain⟨_,_,_,_,h1,_,_⟩:=DataW.trod_struct ht h;exact h1
theorem zfk{fuel:Nat}{cs:List Value}{x:DataW H×List MemPlace}(h:DataW.trod enc Tryz.prog W 0 (fun _=>true) held fuel 25 cs=some x):∃ A n c l,cs=[.slice A n c]∧SlN W A n c l∧SzL l:=by
 rcases open_slice Tryz.underlying25 h with⟨rfl,_⟩ | ⟨ad,len,cap,m,n,D,Pl,rfl,hb,hl,hm,hmm,hx,hi⟩
 · exact⟨none,0,0,[],rfl,⟨rfl,Nat.le_refl _,Nat.zero_le _,0,0,fun h=>absurd h (Nat.lt_irrefl _),fun k s h=>by simp at h⟩,fun s h=>by cases h⟩
 · have hC:Tryz.prog.cellsOf 22=1:=by kernel_rfl
   have hq:∀ i,i<len→∃ s:ByteArray,W.cell? (ad.add i)=some (.string s)∧s.size≤maxLen:=fun i hi'=>by
    obtain⟨cs',hc,ht'⟩:=hi i (by rw[hmm];simp;omega);obtain⟨s,e,_,z⟩:=DataW.trod_string Tryz.underlying22 ht';rw[hC,Nat.mul_one]at hc;obtain⟨_,hcl,hat⟩:=World.cells?_some hc;have:=hat 0 (by omega);rw[e]at this;exact⟨s,by simpa[Addr.add]using this,z⟩
   obtain⟨l,hll,hq⟩:=zmn len hq;refine⟨some ad,len,cap,l,rfl,⟨hll,hl,by unfold maxLen at hm;exact hm,?_⟩,fun s hs=>?_⟩
   · rcases Nat.eq_zero_or_pos len with h0 | h0
     · exact⟨0,0,fun h=>by omega,fun k e hk=>by have:=(List.getElem?_eq_some_iff.1 hk).1;omega⟩
     · obtain⟨b,off,spot⟩:=ad;obtain⟨e,he⟩:∃ e,l[0]? =some e:=⟨_,List.getElem?_eq_getElem (by omega)⟩;have h1:=(hq 0 e he).1;have hspot:spot=none:=by simpa[Addr.add]using World.cell?_spot h1
       subst hspot;refine⟨b,off,fun _=>rfl,fun k e hk=>?_⟩;have:=(hq k e hk).1;rw[zaf]at this;exact this
   · obtain⟨k,hk⟩:=List.getElem?_of_mem hs;have:=(hq k s hk).2;unfold maxLen at this;exact this
theorem eight{cs:List Value}(h:cs.length=8):∃ c0 c1 c2 c3 c4 c5 c6 c7,cs=[c0,c1,c2,c3,c4,c5,c6,c7]:=
 match cs,h with
 | [c0,c1,c2,c3,c4,c5,c6,c7],_=>⟨c0,c1,c2,c3,c4,c5,c6,c7,rfl⟩
theorem zw2{fuel:Nat}{cs:List Value}{x:DataW H×List MemPlace}(h:DataW.trod enc Tryz.prog W 0 (fun _=>true) held fuel 72 cs=some x):∃(d:Dl) (A1:Option Addr) (n1 c1:Nat) (A2:Option Addr) (n2 c2:Nat),cs=d.vals (.slice A1 n1 c1) (.slice A2 n2 c2)∧SlN W A1 n1 c1 d.ad∧SlN W A2 n2 c2 d.rm∧SzL d.str:=by
 have hl:=zth Tryz.underlying72 h;rw[show Tryz.prog.cellsOf 72=8 from by kernel_rfl]at hl;obtain⟨c0,c1,c2,c3,c4,c5,c6,c7,rfl⟩:=eight hl;clear hl;obtain⟨na,ya,ga⟩:=jf Tryz.underlying72 h 0 _ rfl 1 (by kernel_rfl);have ga:DataW.trod enc Tryz.prog W 0 (fun _=>true) held na 3 [c0]=some ya:=ga;obtain⟨nb,yb,gb⟩:=jf Tryz.underlying72 h 1 _ rfl 1 (by kernel_rfl);have gb:DataW.trod enc Tryz.prog W 0 (fun _=>true) held nb 3 [c1]=some yb:=gb;obtain⟨nc,yc,gc⟩:=jf Tryz.underlying72 h 2 _ rfl 1 (by kernel_rfl);have gc:DataW.trod enc Tryz.prog W 0 (fun _=>true) held nc 25 [c2]=some yc:=gc;obtain⟨nd,yd,gd⟩:=jf Tryz.underlying72 h 3 _ rfl 1 (by kernel_rfl);have gd:DataW.trod enc Tryz.prog W 0 (fun _=>true) held nd 25 [c3]=some yd:=gd;obtain⟨ne,ye,ge⟩:=jf Tryz.underlying72 h 4 _ rfl 1 (by kernel_rfl);have ge:DataW.trod enc Tryz.prog W 0 (fun _=>true) held ne 22 [c4]=some ye:=ge;obtain⟨nf,yf,gf⟩:=jf Tryz.underlying72 h 5 _ rfl 1 (by kernel_rfl);have gf:DataW.trod enc Tryz.prog W 0 (fun _=>true) held nf 22 [c5]=some yf:=gf;obtain⟨ng,yg,gg⟩:=jf Tryz.underlying72 h 6 _ rfl 2 (by kernel_rfl);have gg:DataW.trod enc Tryz.prog W 0 (fun _=>true) held ng 33 [c6,c7]=some yg:=gg;obtain⟨np,yp,gp⟩:=jf Tryz.underlying33 gg 0 _ rfl 1 (by kernel_rfl);have gp:DataW.trod enc Tryz.prog W 0 (fun _=>true) held np 22 [c6]=some yp:=gp;obtain⟨nq,yq,gq⟩:=jf Tryz.underlying33 gg 1 _ rfl 1 (by kernel_rfl);have gq:DataW.trod enc Tryz.prog W 0 (fun _=>true) held nq 22 [c7]=some yq:=gq;obtain⟨v4,e4,_,z4⟩:=DataW.trod_string Tryz.underlying22 ge;cases e4;obtain⟨v5,e5,_,z5⟩:=DataW.trod_string Tryz.underlying22 gf;cases e5;obtain⟨v6,e6,_,z6⟩:=DataW.trod_string Tryz.underlying22 gp;cases e6;obtain⟨v7,e7,_,z7⟩:=DataW.trod_string Tryz.underlying22 gq;cases e7;obtain⟨v0,e0,_,w0⟩:=DataW.trod_int Tryz.underlying3 ga;cases e0;obtain⟨v1,e1,_,w1⟩:=DataW.trod_int Tryz.underlying3 gb;cases e1;obtain⟨A1,n1,c1,l1,e2,hs1,hz1⟩:=zfk gc;cases e2;obtain⟨A2,n2,c2,l2,e3,hs2,hz2⟩:=zfk gd;cases e3;refine⟨⟨v0,v1,l1,l2,v4,v5,v6,v7⟩,A1,n1,c1,A2,n2,c2,rfl,hs1,hs2,fun s hm=>?_⟩;unfold maxLen at *;simp only[Dl.str,List.mem_append,List.mem_cons,List.mem_nil_iff,or_false]at hm;rcases hm with(hm | hm) | rfl | rfl | rfl | rfl;all_goals first | assumption | exact hz1 s hm | exact hz2 s hm
theorem zno{a:Option Addr}{len cap fuel:Nat}{x:DataW H×List MemPlace}(h:DataW.trod enc Tryz.prog W 0 (fun _=>true) held fuel 31 (Value.cells (.slice a len cap)).toList=some x):∃ l,SlD W a len cap l∧SzD l:=by
 have hC:Tryz.prog.cellsOf 72=8:=by kernel_rfl
 rcases open_slice Tryz.underlying31 h with⟨hcs,_⟩ | ⟨ad,len',cap',m,n,D,Pl,hcs,hb,hl,hm,hmm,hx,hi⟩
 · simp[Value.cells]at hcs;obtain⟨rfl,rfl,rfl⟩:=hcs;exact⟨[],SlD.nil _ _ _ (by omega),fun d h=>by cases h⟩
 · simp[Value.cells]at hcs;obtain⟨rfl,rfl,rfl⟩:=hcs;have hq:∀ i,i<len→∃ d:Dl,(∃ A1 n1 c1 A2 n2 c2,(∀ j u,(d.vals (.slice A1 n1 c1) (.slice A2 n2 c2))[j]? =some u→W.cell? (ad.add (i * 8+j))=some u)∧SlN W A1 n1 c1 d.ad∧SlN W A2 n2 c2 d.rm)∧SzL d.str:=fun i hi'=>by
    obtain⟨cs',hc,ht'⟩:=hi i (by rw[hmm];simp;omega);obtain⟨d,A1,n1,c1,A2,n2,c2,rfl,hs1,hs2,hz⟩:=zw2 ht';rw[hC]at hc;obtain⟨_,hcl,hat⟩:=World.cells?_some hc;refine⟨d,⟨A1,n1,c1,A2,n2,c2,fun j u hu=>?_,hs1,hs2⟩,hz⟩;have hj:j<8:=(List.getElem?_eq_some_iff.1 hu).1;have:=hat j hj;rw[←Go.Deep.add_add,this];exact hu
   obtain⟨l,hll,hq⟩:=zmn len hq;refine⟨l,⟨hll,hl,by unfold maxLen at hm;exact hm,?_⟩,fun d hd=>by
    obtain⟨k,hk⟩:=List.getElem?_of_mem hd
    exact(hq k d hk).2⟩
   rcases Nat.eq_zero_or_pos len with h0 | h0
   · exact⟨0,0,fun h=>by omega,fun k e hk=>by have:=(List.getElem?_eq_some_iff.1 hk).1;omega⟩
   · obtain⟨b,off,spot⟩:=ad;obtain⟨d,hd⟩:∃ d,l[0]? =some d:=⟨_,List.getElem?_eq_getElem (by omega)⟩;obtain⟨⟨A1,n1,c1,A2,n2,c2,hcl,_⟩,_⟩:=hq 0 d hd;have h1:=hcl 0 _ rfl;have hspot:spot=none:=by simpa[Addr.add]using World.cell?_spot h1
     subst hspot;refine⟨b,off,fun _=>rfl,fun k e hk=>?_⟩;obtain⟨⟨A1,n1,c1,A2,n2,c2,hcl,hs1,hs2⟩,_⟩:=hq k e hk;refine⟨A1,n1,c1,A2,n2,c2,fun j u hu=>?_,hs1,hs2⟩;have:=hcl j u hu;rw[zaf,show off+(k * 8+j)=off+k * 8+j from by omega]at this;exact this
end
set_option maxRecDepth 100000
set_option maxHeartbeats 1000000
open Go.RowKit
theorem zsn(l:List ByteArray)(A A':Option Addr)(len cap cap':Nat)(w:World)(hs:SlN w A len cap l)(hs':SlN w A' len cap' l):Calls Tryz.prog 15 #[.slice A len cap,.slice A' len cap'] w (Ret (.bool true) w):=by
 have hlen:=hs.1;have hlc:=hs.2.1;have hcap:=hs.2.2.1;have HS:=Hq hs;have HS':=Hq hs';have HLEN:=Hq hlen;have hne:((len:Int) != (len:Int))=false:=jh rfl;clear hs hs' hlen;go_enter Tryz.func15,Tryz.ntmps15;go_wp2;go_loopw [13] (fun i wr=>∃ k:Nat,k≤len∧i=.int .i64 k∧Below w.heap.size w wr) (fun i _=>len - (intOf i).toNat);case atStart=>exact⟨0,Nat.zero_le _,rfl,Below.refl _ _⟩
 case round =>
  obtain⟨k,hk,rfl,hB⟩:=hrel;by_cases hlt:k<len
  · obtain⟨b,o,rfl⟩:=HS.out.head (by omega);obtain⟨b',o',rfl⟩:=HS'.out.head (by omega);obtain⟨s,he⟩:∃ s,l[k]? =some s:=⟨_,List.getElem?_eq_getElem (by rw[HLEN.out];exact hlt)⟩;have c0:=(HS.out.kept hB nlr).get? k he;have c1:=(HS'.out.kept hB nlr).get? k he;have i1:(0:Int)≤(k:Int):=by omega
    have i2:(k:Int)<(len:Int):=by omega
    have HB:=Hq hB;clear hB he;go_wp2
    go_quiet (fail)
    go_wp2;go_roundw;case rel=>exact⟨k+1,by omega,by go_num,zbe HB.out _⟩
    case measure=>simp[intOf];omega
  · obtain rfl:k=len:=by omega
    have HB:=Hq hB;clear hB;go_wp2;go_ret;exact⟨rfl,HB.out⟩
set_option maxRecDepth 100000
set_option maxHeartbeats 1000000
def zcr(e:En):Bool:=decide (e.handle.size≤16)&&decide (e.schema.size≤60)
def fewB(l:List En):Bool:=l.all zcr&&decide (l.length≤30)
theorem zsh{l:List En}{k:Nat}{e:En}(h:l[k]? =some e)(hb:zcr e=false):fewB l=false:=by
 unfold fewB;have : l.all zcr=false:=by
  rw[List.all_eq_false];exact⟨e,List.mem_of_getElem? h,by simp[hb]⟩
 rw[this];rfl
theorem zn7{l:List En}(h:30<l.length):fewB l=false:=by
 unfold fewB;rw[decide_eq_false (by omega),Bool.and_false]
theorem zxk{l:List En}(h:∀ k,k<l.length→∃ e,l[k]? =some e∧zcr e=true)(h2:l.length≤30):fewB l=true:=by
 unfold fewB;rw[decide_eq_true h2,Bool.and_true,List.all_eq_true];intro e he;obtain⟨k,hk⟩:=List.mem_iff_getElem?.1 he;have hl:=(List.getElem?_eq_some_iff.1 hk).1;obtain⟨e',h3,h4⟩:=h k hl;rw[hk]at h3;cases h3;exact h4
theorem zzd{l:List En}(h:fewB l=true):l.length≤30∧∀(k:Nat) (e:En),l[k]? =some e→e.handle.size≤16∧e.schema.size≤60:=by
 unfold fewB at h;simp only[Bool.and_eq_true,decide_eq_true_eq,List.all_eq_true]at h;refine⟨h.2,fun k e hk=>?_⟩;have:=h.1 e (List.mem_of_getElem? hk);simp only[zcr,Bool.and_eq_true,decide_eq_true_eq]at this;exact this
theorem zmt(l:List En)(A:Option Addr)(len cap:Nat)(w:World)(hs:SlE w A len cap l):Calls Tryz.prog 9 #[.slice A len cap] w (RetQ (.bool (fewB l)) w):=by
 have hlen:=hs.1;have hlc:=hs.2.1;have hcap:=hs.2.2.1;have HS:=Hq hs;have HLEN:=Hq hlen;clear hs hlen;go_enter Tryz.func9,Tryz.ntmps9;go_wp2
 go_loop [3] (fun i=>∃ k:Nat,k≤len∧k≤40∧i=.int .i64 k∧∀ j,j<k→∃ e,l[j]? =some e∧zcr e=true) (fun i=>len - (intOf i).toNat)
 case atStart=>exact⟨0,Nat.zero_le _,by omega,rfl,fun j h=>by omega⟩
 case round =>
  obtain⟨k,hk,hk4,rfl,hall⟩:=hrel;have HALL:=Hq hall;clear hall;by_cases hlt:k<len
  · by_cases hlt4:k<40
    · obtain⟨b,o,rfl⟩:=HS.out.head (by omega);obtain⟨e,he⟩:∃ e,l[k]? =some e:=⟨_,List.getElem?_eq_getElem (by rw[HLEN.out];exact hlt)⟩;obtain⟨c0,c1,c2,c3⟩:=HS.out.get? k he;have HE:=Hq he;clear he;by_cases h1:16<e.handle.size
      · have HF:=Hq (zsh HE.out (by unfold zcr;rw[decide_eq_false (by omega),Bool.false_and]));have i1:decide ((16:Int)<(e.handle.size:Int))=true:=decide_eq_true (by omega);go_wp2;go_ret;exact⟨by rw[HF.out];rfl,rfl⟩
      · have i1:decide ((16:Int)<(e.handle.size:Int))=false:=decide_eq_false (by omega);by_cases h2:60<e.schema.size
        · have HF:=Hq (zsh HE.out (by unfold zcr;rw[decide_eq_false (p:=e.schema.size≤60) (by omega),Bool.and_false]));have i2:decide ((60:Int)<(e.schema.size:Int))=true:=decide_eq_true (by omega);go_wp2;go_ret;exact⟨by rw[HF.out];rfl,rfl⟩
        · have i2:decide ((60:Int)<(e.schema.size:Int))=false:=decide_eq_false (by omega);go_wp2;go_round;case rel =>
           refine⟨k+1,by omega,by omega,by go_num,fun j hj=>?_⟩;by_cases hjk:j<k
           · exact HALL.out j hjk
           · obtain rfl:j=k:=by omega
             exact⟨e,HE.out,by unfold zcr;rw[decide_eq_true (by omega),decide_eq_true (by omega)];rfl⟩
          case measure=>simp[intOf];omega
    · have HF:=Hq (show fewB l=decide ((len:Int)≤30)from by rw[zn7 (l:=l) (by have:=HLEN.out;omega),decide_eq_false (by omega)]);go_wp2;go_ret;exact⟨by rw[HF.out];rfl,rfl⟩
  · obtain rfl:k=len:=by omega
    by_cases h30:k≤30
    · have HF:=Hq (show fewB l=decide ((k:Int)≤30)from by rw[zxk (l:=l) (fun j hj=>HALL.out j (by have:=HLEN.out;omega)) (by have:=HLEN.out;omega),decide_eq_true (by omega)]);have h31:k<40:=by omega
      go_wp2;go_ret;exact⟨by rw[HF.out];rfl,rfl⟩
    · have HF:=Hq (show fewB l=decide ((k:Int)≤30)from by rw[zn7 (l:=l) (by have:=HLEN.out;omega),decide_eq_false (by omega)]);go_wp2;all_goals
       go_ret;exact⟨by rw[HF.out];rfl,rfl⟩
def exL:List En:=[⟨0,⟨#[3]⟩,⟨#[67,97,114,100]⟩,0⟩,⟨0,⟨#[5]⟩,⟨#[67,97,114,100]⟩,0⟩,⟨2,⟨#[]⟩,⟨#[]⟩,1⟩,⟨1,⟨#[3]⟩,⟨#[]⟩,1⟩,⟨2,⟨#[]⟩,⟨#[]⟩,2⟩]
def zzn(w:World)(e:Ending)(w':World):Prop:=∃ A cap,e=.returned (.slice A 5 cap)∧SlE w' A 5 cap exL∧Below w.heap.size w w'
theorem zmw(w:World):Calls Tryz.prog 12 #[] w (zzn w):=by
 go_enter Tryz.func12,Tryz.ntmps12;go_wp2;go_ret;refine⟨_,_,rfl,⟨rfl,by omega,by omega,w.heap.size,0,fun _=>rfl,fun k e hk=>?_⟩,(blr).alloc nlr _⟩;have hlt:=(List.getElem?_eq_some_iff.1 hk).1;have hlt':k<5:=hlt;unfold EnCells
 match k,hlt' with
 | 0,_=>cases hk;refine⟨?_,?_,?_,?_⟩<;>(rw[World.cell?_alloc_at (hn:=rfl)];rfl)
 | 1,_=>cases hk;refine⟨?_,?_,?_,?_⟩<;>(rw[World.cell?_alloc_at (hn:=rfl)];rfl)
 | 2,_=>cases hk;refine⟨?_,?_,?_,?_⟩<;>(rw[World.cell?_alloc_at (hn:=rfl)];rfl)
 | 3,_=>cases hk;refine⟨?_,?_,?_,?_⟩<;>(rw[World.cell?_alloc_at (hn:=rfl)];rfl)
 | 4,_=>cases hk;refine⟨?_,?_,?_,?_⟩<;>(rw[World.cell?_alloc_at (hn:=rfl)];rfl)
theorem zjq:SzE exL:=fun k e h=>by
 have:=List.mem_of_getElem? h;simp only[exL,List.mem_cons,List.mem_nil_iff,or_false]at this;rcases this with rfl | rfl | rfl | rfl | rfl<;>decide
theorem zxl(k:Nat)(hk:k<5)(e:En)(h:exL[k]? =some e):zv (exL.take k) e=0:=by
 match k,hk with
 | 0,_=>cases h;decide +kernel
 | 1,_=>cases h;decide +kernel
 | 2,_=>cases h;decide +kernel
 | 3,_=>cases h;decide +kernel
 | 4,_=>cases h;decide +kernel
theorem zzz:memS exL 0=([],0):=by decide +kernel
theorem zzy:memS exL 1=([⟨#[3]⟩,⟨#[5]⟩],0):=by decide +kernel
theorem zzx:memS exL 2=([⟨#[5]⟩],0):=by decide +kernel
theorem zz3:zv exL ⟨1,⟨#[3]⟩,⟨#[]⟩,2⟩=20:=by decide +kernel
theorem zz2:zv exL ⟨0,⟨#[3]⟩,⟨#[67,97,114,100]⟩,2⟩=8:=by decide +kernel
theorem zz1:zv exL ⟨1,⟨#[7]⟩,⟨#[]⟩,2⟩=9:=by decide +kernel
theorem zz0:zv exL ⟨1,⟨#[5]⟩,⟨#[]⟩,1⟩=21:=by decide +kernel
set_option maxRecDepth 100000
set_option maxHeartbeats 4000000
theorem zag(l:List En)(A:Option Addr)(len cap:Nat)(p:Int)(w:World)(hs:SlE w A len cap l)(hlb:len≤1000000000)(hsz:SzE l)(hp:p≤9223372036854775807){r:List ByteArray}{f:Int}(h:memS l p=(r,f)) :
 Calls Tryz.prog 14 #[.slice A len cap,.int .i64 p] w (RetNs r .i64 f w):=by
 have:=zcg l A len cap p w hs hlb hsz hp;rw[h]at this;exact this
theorem qk(l:List En)(A:Option Addr)(len cap:Nat)(e:En)(w:World)(hs:SlE w A len cap l)(hlb:len≤1000000000)(hsz:SzE l)(hh:e.handle.size≤maxLen)(hsc:e.schema.size≤9223372036854775807){f:Int}(h:zv l e=f)(hf:f≠0) :
 Calls Tryz.prog 13 #[.slice A len cap,e.val] w (RetEs [] .i64 f w):=by
 have:=zht l A len cap e w hs hlb hsz hh hsc;unfold appS at this;rw[h,if_neg hf]at this;exact this
theorem zjg(l:List En)(A:Option Addr)(len cap:Nat)(e:En)(w:World)(hs:SlE w A len cap l)(hlb:len≤1000000000)(hsz:SzE l)(hh:e.handle.size≤maxLen)(hsc:e.schema.size≤9223372036854775807)(h:zv l e=0) :
 Calls Tryz.prog 13 #[.slice A len cap,e.val] w (RetEs (l++[e]) .i64 0 w):=by
 have:=zht l A len cap e w hs hlb hsz hh hsc;unfold appS at this;rw[if_pos h]at this;exact this
theorem zs7(w:World):Calls Tryz.prog 5 #[] w (Ret (.bool true) w):=by
 go_enter Tryz.func5,Tryz.ntmps5;go_wp2_with fail;refine(zmw _).mono ?_;rintro e1 w1 ⟨A,cap,rfl,hs1,hb1⟩;have hcap:=hs1.2.1;have hcap2:=hs1.2.2.1;have HL:=Hq hs1;have HB:=Hq hb1;clear hs1 hb1;obtain⟨b,o,rfl⟩:=HL.out.head (by omega);go_wp2;go_loopw [22] (fun i wr=>∃ k:Nat,k≤5∧i=.int .i64 k∧Below w1.heap.size w1 wr) (fun i _=>5 - (intOf i).toNat);case atStart=>exact⟨0,Nat.zero_le _,rfl,Below.refl _ _⟩
 case round =>
  obtain⟨k,hk,rfl,hB⟩:=hrel;have HL2:=Hq (HL.out.kept hB nlr);have HB2:=Hq hB;clear hB;by_cases hlt:k<5
  · obtain⟨e,he⟩:∃ e,exL[k]? =some e:=⟨_,List.getElem?_eq_getElem (by exact hlt)⟩;obtain⟨c0,c1,c2,c3⟩:=HL2.out.get? k he;have hst:=zxl k hlt e he;have HTK:=Hq (HL2.out.take k (by omega));have HST:=Hq hst;have hsz:e.handle.size≤maxLen:=zjq k e he;have hsc:e.schema.size≤9223372036854775807:=(by have:=List.mem_of_getElem? he;simp only[exL,List.mem_cons,List.mem_nil_iff,or_false]at this;rcases this with rfl | rfl | rfl | rfl | rfl<;>decide);have hszt:SzE (exL.take k):=fun j e he=>zjq j e (by rw[List.getElem?_take]at he;split at he;exact he;cases he);have HE:=Hq he;have HSZ:=Hq hsz;have HSC:=Hq hsc;have HSZT:=Hq hszt;have i1:(0:Int)≤(k:Int):=by omega
    have i2:(k:Int)<5:=by omega
    have i3:(k:Int)≤(cap:Int):=by omega
    clear he hst hsz hsc hszt;go_wp2;refine za 7 (Below (wr.drew).heap.size (wr.drew)) (by kernel_rfl) ?_;refine qPs 0 12 blr ?_;refine qPs 1 11 blr ?_;refine qPs 2 10 blr ?_;refine qPs 3 9 blr ?_;refine qPs 4 8 blr ?_;refine qPs 5 7 blr ?_;refine qTs 6 6 blr (fun w' hS'=>(And.intro (kc hS' c0) (And.intro (kc hS' c1) (And.intro (kc hS' c2) (kc hS' c3))))) ?_;refine oT 7 5 ?_;intro K7 hK7;go_wp2_with fail;refine(zjg (exL.take k) _ k cap e _ (HTK.out.kept (blr).drew nlr) (by omega) HSZT.out HSZ.out HSC.out HST.out).mono ?_;rintro e7 w7 ⟨A7,cap7,rfl,hs7,hb7⟩;have HB7:=Hq hb7;clear hb7 hs7;rw[show (exL.take k++[e]).length=k+1 from by rw[List.length_append,List.length_take,show exL.length=5 from rfl,List.length_singleton];omega];go_wp2;refine hK7 _ _ ?_;clear hK7;intro hD;refine xw (i:=8) (v:=?v5_8b1) (fuel:=4) rfl (by kernel_rfl) (by kernel_rfl) (fun _ _ _ h=>h) hD  (.inl ⟨by kernel_rfl,?y5_8b1⟩) ?n5_8b1
    case y5_8b1=>intro w' _;go_simp;with_reducible rfl
    simp only[Act.put,sqA,sqB,sqC];intro hD;refine xw (i:=9) (v:=?v5_9b1) (fuel:=3) rfl (by kernel_rfl) (by kernel_rfl) (fun _ _ _ h=>h) hD  (.inl ⟨by kernel_rfl,?y5_9b1⟩) ?n5_9b1
    case y5_9b1=>intro w' _;go_simp;with_reducible rfl
    simp only[Act.put,sqA,sqB,sqC];intro hD;refine xw (i:=10) (v:=?v5_10b1) (fuel:=2) rfl (by kernel_rfl) (by kernel_rfl) (fun _ _ _ h=>h) hD  (.inl ⟨by kernel_rfl,?y5_10b1⟩) ?n5_10b1
    case y5_10b1=>intro w' _;go_simp;with_reducible rfl
    simp only[Act.put,sqA,sqB,sqC];refine oT 11 1 ?_;intro K11 hK11;go_wp2;refine hK11 _ _ ?_;clear hK11;refine oT 12 0 ?_;intro K12 hK12;go_wp2;refine hK12 _ _ ?_;clear hK12;refine wDn ?_;have HX:=Hq HB7.out;go_wp2;go_roundw;case rel=>exact⟨k+1,by omega,by go_num,HB2.out.drew.trans (HX.out.mono HB2.out.size)⟩
    case measure=>simp[intOf];omega
  · obtain rfl:k=5:=by omega
    have HB0:=bt HB HB2.out;have HL0:=Hq HL2.out;clear HB HL HL2 HB2;go_wp2_with fail;refine(zag exL _ 5 cap 0 _ HL0.out (by omega) zjq (by omega) zzz).mono ?_;rintro e10 w10 ⟨A10,cap10,rfl,hs10,hb10⟩;have HL10:=Hq (HL0.out.kept hb10 nlr);have HB10:=bt HB0 hb10;have HM10:=Hq hs10;have HK10:=Hq hb10;clear hs10 hb10;go_wp2_with fail;refine(zag exL _ 5 cap 1 _ HL10.out (by omega) zjq (by omega) zzy).mono ?_;rintro e11 w11 ⟨A11,cap11,rfl,hs11,hb11⟩;have HL11:=Hq (HL10.out.kept hb11 nlr);have HB11:=bt HB10 hb11;have HM11:=Hq hs11;have HK11:=Hq hb11;clear hs11 hb11;go_wp2_with fail;refine(zag exL _ 5 cap 2 _ HL11.out (by omega) zjq (by omega) zzx).mono ?_;rintro e12 w12 ⟨A12,cap12,rfl,hs12,hb12⟩;have HL12:=Hq (HL11.out.kept hb12 nlr);have HB12:=bt HB11 hb12;have HM12:=Hq hs12;have HK12:=Hq hb12;clear hs12 hb12;go_wp2_with fail;refine(qk exL _ 5 cap ⟨1,⟨#[3]⟩,⟨#[]⟩,2⟩ _ HL12.out (by omega) zjq (by decide) (by decide) zz3 (by decide)).mono ?_;rintro e13 w13 ⟨A13,cap13,rfl,hs13,hb13⟩;have HL13:=Hq (HL12.out.kept hb13 nlr);have HB13:=bt HB12 hb13;have HK13:=Hq hb13;clear hs13 hb13;go_wp2_with fail;refine(qk exL _ 5 cap ⟨0,⟨#[3]⟩,⟨#[67,97,114,100]⟩,2⟩ _ HL13.out (by omega) zjq (by decide) (by decide) zz2 (by decide)).mono ?_;rintro e14 w14 ⟨A14,cap14,rfl,hs14,hb14⟩;have HL14:=Hq (HL13.out.kept hb14 nlr);have HB14:=bt HB13 hb14;have HK14:=Hq hb14;clear hs14 hb14;go_wp2_with fail;refine(qk exL _ 5 cap ⟨1,⟨#[7]⟩,⟨#[]⟩,2⟩ _ HL14.out (by omega) zjq (by decide) (by decide) zz1 (by decide)).mono ?_;rintro e15 w15 ⟨A15,cap15,rfl,hs15,hb15⟩;have HL15:=Hq (HL14.out.kept hb15 nlr);have HB15:=bt HB14 hb15;have HK15:=Hq hb15;clear hs15 hb15;go_wp2_with fail;refine(qk exL _ 5 cap ⟨1,⟨#[5]⟩,⟨#[]⟩,1⟩ _ HL15.out (by omega) zjq (by decide) (by decide) zz0 (by decide)).mono ?_;rintro e16 w16 ⟨A16,cap16,rfl,hs16,hb16⟩;have HL16:=Hq (HL15.out.kept hb16 nlr);have HB16:=bt HB15 hb16;have HK16:=Hq hb16;clear hs16 hb16;have HM11':=Hq (((((HM11.out.kept HK12.out nlr).kept HK13.out nlr).kept HK14.out nlr).kept HK15.out nlr).kept HK16.out nlr);have HM12':=Hq ((((HM12.out.kept HK13.out nlr).kept HK14.out nlr).kept HK15.out nlr).kept HK16.out nlr);go_wp2_with fail;refine(zsn [⟨#[3]⟩,⟨#[5]⟩] _ _ 2 cap11 2 _ (HM11'.out.kept ((blr).alloc nlr _) nlr) (jc w16 [⟨#[3]⟩,⟨#[5]⟩] _)).mono ?_;rintro e17 w17 ⟨rfl,hb17⟩;have hbb:=((Below.refl w16.heap.size w16).alloc nlr _).trans (hb17.mono (by simp));have HM17:=Hq (HM12'.out.kept hbb nlr);have HB17:=bt HB16 hbb;clear hb17 hbb;go_wp2_with fail;refine(zsn [⟨#[5]⟩] _ _ 1 cap12 1 _ (HM17.out.kept ((blr).alloc nlr _) nlr) (jc w17 [⟨#[5]⟩] _)).mono ?_;rintro e18 w18 ⟨rfl,hb18⟩;have hbb:=((Below.refl w17.heap.size w17).alloc nlr _).trans (hb18.mono (by simp));have HB18:=bt HB17 hbb;clear hb18 hbb;go_wp2;go_ret;exact⟨rfl,HB18.out⟩
section
variable {H : Type} {enc : TypeId × Value → H} {P : Program} {w : World} {base : Nat} {spare : Nat → Bool} {held : Bool}
theorem zan{t e:TypeId}{fs:Array Field}{fuel:Nat}{cs:List Value}{x:DataW H×List MemPlace}(ht:P.underlying t=some (.slice e))(he:P.underlying e=some (.struct fs))
 (hone:oneCellFields P fs=true) (hC:P.cellsOf e=fs.size) (h:DataW.trod enc P w base spare held fuel t cs=some x) :
 (cs=[.slice none 0 0]∧x=(.nil,[])) ∨
 ∃(a:Addr) (len cap m:Nat),cs=[.slice (some a) len cap]∧base≤a.block∧len≤cap∧cap≤maxLen∧m=(if spare a.block then cap else len) ∧
  ∀ i,i<m→∃(n:Nat), 
   ∀(j:Nat) (f:Field),fs[j]? =some f→∃(v:Value) (y:DataW H×List MemPlace),w.cell? (a.add (i * fs.size+j))=some v∧DataW.trod enc P w base spare held n f.type [v]=some y:=by
 rcases open_slice ht h with h0 | ⟨a,len,cap,m,n,D,Pl,hcs,hb,hl,hm,hmm,hx,hi⟩
 · exact .inl h0
 · refine .inr ⟨a,len,cap,m,hcs,hb,hl,hm,hmm,fun i him=>?_⟩;obtain⟨cs',hc,ht'⟩:=hi i him;rw[hC]at hc;obtain⟨ys,n',hn',hy,hlen,hyl,hf⟩:=DataW.trod_struct he ht';obtain⟨_,hcl,hat⟩:=World.cells?_some hc;refine⟨n',fun j f hj=>?_⟩;obtain⟨ho,hk⟩:=hone_of hone j f hj;have hjl:j<fs.size:=(Array.getElem?_eq_some_iff.1 hj).1;have hcell:=hat j hjl;have hv:cs'[j]? =some (cs'[j]'(by omega)):=List.getElem?_eq_getElem (by omega);have h1:=hf j f hj;rw[ho,hk]at h1;have hone':(cs'.drop j).take 1=[cs'[j]'(by omega)]:=by
    rw[List.drop_eq_getElem_cons (by omega)];rfl
   rw[hone']at h1;have hys:ys[j]? =some (ys[j]'(by omega)):=List.getElem?_eq_getElem (by omega);refine⟨_,_,?_,h1.trans hys⟩;rw[←Go.Deep.add_add,hcell,hv]
end
theorem znx{α:Type}{Q:Nat→α→Prop}:∀(n:Nat),(∀ i,i<n→∃ e,Q i e)→∃ l:List α,l.length=n∧∀ k e,l[k]? =some e→Q k e
 | 0,_=>⟨[],rfl,fun k e h=>by simp at h⟩
 | n+1,h=>by
  obtain⟨l,hl,hq⟩:=znx n (fun i hi=>h i (by omega));obtain⟨e,he⟩:=h n (by omega);refine⟨l++[e],by simp[hl],fun k e' hk=>?_⟩;by_cases hkn:k<l.length
  · rw[List.getElem?_append_left hkn]at hk;exact hq k e' hk
  · rw[List.getElem?_append_right (by omega)]at hk;have h0:k - l.length=0:=by
     rcases Nat.eq_zero_or_pos (k - l.length)with h0 | h0
     · exact h0
     · rw[List.getElem?_eq_none (by simp;omega)]at hk;cases hk
    rw[h0]at hk;simp only[List.getElem?_cons_zero,Option.some.injEq]at hk;subst hk;rw[show k=n from by omega];exact he
section
variable {H : Type} {enc : TypeId × Value → H} {W : World} {sp : Nat → Bool} {held : Bool}
def w4(w:World)(ad:Addr)(o:Nat)(e:En):Prop:=w.cell? (ad.add (o+0))=some (.int .i64 e.kind)∧w.cell? (ad.add (o+1))=some (.string e.handle)∧w.cell? (ad.add (o+2))=some (.string e.schema)∧w.cell? (ad.add (o+3))=some (.int .i64 e.epoch)
theorem zds{a:Option Addr}{len cap fuel:Nat}{x:DataW H×List MemPlace}(h:DataW.trod enc Tryz.prog W 0 (fun _=>true) held fuel 30 (Value.cells (.slice a len cap)).toList=some x):∃ l,SlE W a len cap l:=by
 rcases zan Tryz.underlying30 Tryz.underlying53 (by kernel_rfl) (by kernel_rfl) h with⟨hcs,_⟩ | ⟨ad,len',cap',m,hcs,_,hl,hm,rfl,hi⟩
 · simp[Value.cells]at hcs;obtain⟨rfl,rfl,rfl⟩:=hcs;exact⟨[],SlE.nil _ _ (by omega) _⟩
 · simp[Value.cells]at hcs;obtain⟨rfl,rfl,rfl⟩:=hcs;have hq:∀ i,i<len→∃ e:En,w4 W ad (i * 4) e:=fun i hi'=>by
    obtain⟨n,hj⟩:=hi i (by first | omega | (simp;omega) | (split<;>omega));obtain⟨v0,y0,c0,g0⟩:=hj 0 _ rfl;obtain⟨v1,y1,c1,g1⟩:=hj 1 _ rfl;obtain⟨v2,y2,c2,g2⟩:=hj 2 _ rfl;obtain⟨v3,y3,c3,g3⟩:=hj 3 _ rfl;obtain⟨n0,e0,_⟩:=DataW.trod_int Tryz.underlying3 g0;obtain⟨n1,e1,_,z1⟩:=DataW.trod_string Tryz.underlying22 g1;obtain⟨n2,e2,_,z2⟩:=DataW.trod_string Tryz.underlying9 g2;obtain⟨n3,e3,_⟩:=DataW.trod_int Tryz.underlying3 g3;simp only[List.cons.injEq,and_true]at e0 e1 e2 e3;subst e0 e1 e2 e3;exact⟨⟨n0,n1,n2,n3⟩,c0,c1,c2,c3⟩
   obtain⟨l,hll,hq⟩:=znx len hq;refine⟨l,hll,hl,by unfold maxLen at hm;exact hm,?_⟩;rcases Nat.eq_zero_or_pos len with h0 | h0
   · exact⟨0,0,fun h=>by omega,fun k e hk=>by have:=(List.getElem?_eq_some_iff.1 hk).1;omega⟩
   · obtain⟨b,off,spot⟩:=ad;obtain⟨e,he⟩:∃ e,l[0]? =some e:=⟨_,List.getElem?_eq_getElem (by omega)⟩;have h1:=(hq 0 e he).1;have hspot:spot=none:=by simpa[Addr.add]using World.cell?_spot h1
     subst hspot;refine⟨b,off,fun _=>rfl,fun k e hk=>?_⟩;obtain⟨c0,c1,c2,c3⟩:=hq k e hk;rw[zaf]at c0 c1 c2 c3;exact⟨c0,c1,c2,c3⟩
end
end Go.Proofs.YtppbcopnfankcaaGreat

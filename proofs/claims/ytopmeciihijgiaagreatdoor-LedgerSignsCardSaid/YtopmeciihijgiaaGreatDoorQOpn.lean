import Derived.Test.YtopmeciihijgiaaGreatDoorQFw9
import Derived.Test.YtopmeciihijgiaaGreatDoorQScW
import Derived.Test.YtopmeciihijgiaaGreatDoorQAwa
set_option linter.unusedVariables false
set_option linter.unusedSimpArgs false
namespace Go.Proofs.YtopmeciihijgiaaGreatDoor
set_option maxRecDepth 100000
set_option maxHeartbeats 1000000
open Go.RowKit Go.Lib
def few33(M O G H:ByteArray)(l:List ByteArray):Bool:=few9 M O [G,H]&&few9 M O l
theorem few33_of{M O G H:ByteArray}{l:List ByteArray}(h:few33 M O G H l=true):M.size≤8∧O.size≤10∧G.size≤20∧H.size≤20∧∀ s∈l,s.size≤20:=by
 unfold few33 at h;rw[Bool.and_eq_true]at h;obtain⟨a,b,c⟩:=few9_of h.1;exact⟨a,b,c G (by simp),c H (by simp),(few9_of h.2).2.2⟩
theorem law33_Few(M O G H:ByteArray)(l:List ByteArray)(A:Option Addr)(n cap:Nat)(hn:n≤1000)(w:World)(hsl:SlN w A n cap l):Calls Tryz.prog 13 #[kV M O G H,.slice A n cap] w (Ret (.bool (few33 M O G H l)) w):=by
 have HK0:=Hq (SB.new w M O G H);have HS0:=Hq (hsl.kept ((blr).alloc nlr (.cells #[.string M,.string O,.string G,.string H] 26)) nlr);obtain⟨W0,hW0⟩:∃ W,w.alloc (.cells #[.string M,.string O,.string G,.string H] 26)=W:=⟨_,rfl⟩;rw[hW0]at HK0 HS0;have hs2:=sln_alloc W0 [G,H] 22 (by simp);have hbb:=(Below.refl W0.heap.size W0).alloc nlr (.cells #[.string G,.string H] 22);have HF1:=Hq (law_Few M O [G,H] _ 2 2 (by omega) _ hs2);have HK1:=Hq (HK0.out.next hbb);have HS1:=Hq (HS0.out.kept hbb nlr);have HLF:=Hq (fun w hs=>law_Few M O l A n cap hn w hs);obtain⟨c0,c1,c2,c3⟩:=HK0.out.1.cells
 cases h1:few9 M O [G,H]with
 | false =>
  rw[h1]at HF1;have HR:=Hq (show few33 M O G H l=false from by unfold few33;rw[h1];rfl);rw[HR.out];unfold kV gV at *;clear hsl hn hs2 hbb h1;go_enter Tryz.func13,Tryz.ntmps13;go_wp2_with fail;try rw[hW0]
  clear hW0;refine HF1.out.mono ?_;rintro ev w1 ⟨rfl,hb⟩;have HK2:=Hq (HK1.out.next hb);clear hb c0 c1 c2 c3;go_wp2;go_ret;exact⟨rfl,HK2.out.2⟩
 | true =>
  rw[h1]at HF1;have HR:=Hq (show few33 M O G H l=few9 M O l from by unfold few33;rw[h1];rfl);rw[HR.out];unfold kV gV at *;clear hsl hn hs2 hbb h1;go_enter Tryz.func13,Tryz.ntmps13;go_wp2_with fail;try rw[hW0]
  clear hW0;refine HF1.out.mono ?_;rintro ev w1 ⟨rfl,hb⟩;have HK2:=Hq (HK1.out.next hb);have HLL:=Hq (HLF.out _ (HS1.out.kept hb nlr));clear hb c0 c1 c2 c3;obtain⟨c0,c1,c2,c3⟩:=HK2.out.1.cells;go_wp2_with fail;refine HLL.out.mono ?_;rintro ev w2 ⟨rfl,hb⟩;have HK3:=Hq (HK2.out.next hb);clear hb c0 c1 c2 c3;go_wp2;go_ret;exact⟨rfl,HK3.out.2⟩
set_option maxRecDepth 100000
set_option maxHeartbeats 2000000
open Go.RowKit Go.Shelf
attribute [local go_sem] Oper.semAt_some
theorem SlN.cellX{w:World}{A:Option Addr}{n c:Nat}{l:List ByteArray}(h:SlN w A n c l){k:Nat}{s:ByteArray}(hk:l[k]? =some s):∃ b o,A=some ⟨b,o,none⟩∧w.cell? ⟨b,o+k,none⟩=some (.string s):=by
 have hlt:=(List.getElem?_eq_some_iff.1 hk).1;obtain⟨b,o,rfl⟩:=h.head (by have:=h.1;omega);exact⟨b,o,rfl,h.get? k hk⟩
theorem sl_EqualT(l:List ByteArray)(A B:Option Addr)(n c n' c':Nat)(w:World)(hs:SlN w A n c l)(hs':SlN w B n' c' l):Calls Tryz.prog 19 #[.slice A n c,.slice B n' c'] w (Ret (.bool true) w):=by
 obtain rfl:n'=n:=by rw[←hs.1,←hs'.1]
 have HS:=Hq hs;have HS':=Hq hs';have HLEN:=Hq hs.1;have hcap:=hs.2.1;have hcap2:=hs.2.2.1;have hcap':=hs'.2.1;have hcap2':=hs'.2.2.1;clear hs hs';go_enter Tryz.func19,Tryz.ntmps19;go_wp2;go_loopw [13] (fun k wr=>∃ j:Nat,j≤n'∧k=.int .i64 j∧Below w.heap.size w wr) (fun k _=>n' - (RowKit.intOf k).toNat);case atStart=>exact⟨0,Nat.zero_le _,rfl,Below.refl _ _⟩
 case round =>
  obtain⟨j,hj,rfl,hbb⟩:=hrel;have HB:=Hq hbb;clear hbb;by_cases hlt:j<n'
  · obtain⟨y,he⟩:∃ y,l[j]? =some y:=⟨_,List.getElem?_eq_getElem (by rw[HLEN.out];exact hlt)⟩;obtain⟨b,o,rfl,e1⟩:=(HS.out.kept HB.out nlr).cellX he;obtain⟨b2,o2,rfl,e2⟩:=(HS'.out.kept HB.out nlr).cellX he;have e1:wr.drew.cell? ⟨b,o+j,none⟩=some (.string y):=e1;have e2:wr.drew.cell? ⟨b2,o2+j,none⟩=some (.string y):=e2;clear he;go_wp2;refine wp_region_K 9 (Below (wr.drew).heap.size (wr.drew)) (by kernel_rfl) ?_;intro hD;refine rP 0 16 8 rfl hD blr ?_;clear hD;intro hD;refine rP 1 17 7 rfl hD blr ?_;clear hD;intro hD;refine rP 2 18 6 rfl hD blr ?_;clear hD;intro hD;refine rT 3 19 5 rfl hD blr (by intro w' hS';have e0:=kC hS' e1;have e1:=kC hS' e2;go_simp;with_reducible rfl) ?_;clear hD;intro hD;refine rP 4 20 4 rfl hD blr ?_;clear hD;intro hD;refine rP 5 21 3 rfl hD blr ?_;clear hD;intro hD;refine rP 6 22 2 rfl hD blr ?_;clear hD;intro hD;refine rT 7 23 1 rfl hD blr (by intro w' hS';have e0:=kC hS' e1;have e1:=kC hS' e2;go_simp;with_reducible rfl) ?_;clear hD;intro hD;refine rP 8 24 0 rfl hD blr ?_;clear hD;intro hD;simp only[Act.put,sqA,sqB,sqC];refine wpD ?_;clear hD;have HB2:=Hq (show Below w.heap.size w wr.drew from HB.out.trans ((Below.refl wr.heap.size wr).drew.mono HB.out.size));go_wp2;go_roundw;case rel=>exact⟨j+1,by omega,by go_num,HB2.out⟩
    case measure=>simp[RowKit.intOf];omega
  · obtain rfl:j=n':=by omega
    clear hlt hj;go_wp2;go_ret;exact⟨rfl,HB.out⟩
def fewT(lim sz sd:Nat)(l:List ByteArray)(s:ByteArray):Bool:=(l.take lim).all (fun s=>decide (s.size≤sz))&&(decide (l.length≤lim)&&decide (s.size≤sd))
theorem fewT_of{lim sz sd:Nat}{l:List ByteArray}{s:ByteArray}(h:fewT lim sz sd l s=true):l.length≤lim∧s.size≤sd∧∀ x∈l,x.size≤sz:=by
 unfold fewT at h;simp only[Bool.and_eq_true,decide_eq_true_eq,List.all_eq_true]at h;rw[List.take_of_length_le h.2.1]at h;exact⟨h.2.1,h.2.2,h.1⟩
theorem fewT_big{lim sz sd:Nat}{l:List ByteArray}{s x:ByteArray}{k:Nat}(hx:l[k]? =some x)(hk:k<lim)(hb:sz<x.size):fewT lim sz sd l s=false:=by
 unfold fewT;have : (l.take lim).all (fun s=>decide (s.size≤sz))=false:=by
  rw[List.all_eq_false];exact⟨x,List.mem_of_getElem? (i:=k) (by rw[List.getElem?_take_of_lt hk];exact hx),by simp;omega⟩
 rw[this];rfl
theorem fewT_all{lim sz sd:Nat}{l:List ByteArray}{s:ByteArray}(h:∀ j,j<l.length→j<lim→∃ x,l[j]? =some x∧x.size≤sz):fewT lim sz sd l s=(decide (l.length≤lim)&&decide (s.size≤sd)):=by
 unfold fewT;have : (l.take lim).all (fun s=>decide (s.size≤sz))=true:=by
  rw[List.all_eq_true];intro x hx;obtain⟨k,hk⟩:=List.mem_iff_getElem?.1 hx;have h1:=(List.getElem?_eq_some_iff.1 hk).1;rw[List.length_take]at h1;have hkl:k<lim:=by omega
  rw[List.getElem?_take_of_lt hkl]at hk;obtain⟨x',h2,h3⟩:=h k (by omega) hkl;rw[hk]at h2;cases h2;exact decide_eq_true h3
 rw[this];rfl
def few11(l:List ByteArray)(s:ByteArray)(k:Int):Bool:=fewT 80 16 40 l s&&decide (k<1000)
theorem law11_Few(l:List ByteArray)(s:ByteArray)(k:Int)(A:Option Addr)(n cap:Nat)(w:World)(hs:SlN w A n cap l):Calls Tryz.prog 15 #[tpV A n cap s k] w (Ret (.bool (few11 l s k)) w):=by
 have HT:=Hq (TB.new w A n cap s k);have HB0:=Hq ((Below.refl w.heap.size w).alloc nlr (.cells #[.slice A n cap,.string s,.int .i64 k] 30));obtain⟨c0,c1,c2⟩:=HT.out.c;have HS:=Hq (hs.kept HB0.out nlr);have HLEN:=Hq hs.1;have hcap:=hs.2.1;have hcap2:=hs.2.2.1;have HR:=Hq (show few11 l s k=(fewT 80 16 40 l s&&decide (k<1000))from rfl);clear hs;unfold tpV;go_enter Tryz.func15,Tryz.ntmps15;go_wp2
 go_loop [3] (fun i=>∃ q:Nat,q≤n∧q≤80∧i=.int .i64 q∧∀ j,j<q→∃ x,l[j]? =some x∧x.size≤16) (fun i=>80 - (RowKit.intOf i).toNat)
 case atStart=>exact⟨0,Nat.zero_le _,Nat.zero_le _,rfl,fun j h=>by omega⟩
 case round =>
  obtain⟨q,hq,hq8,rfl,hall⟩:=hrel;have HALL:=Hq hall;clear hall;by_cases hin:q<n∧q<80
  · obtain⟨hlt,hl8⟩:=hin;obtain⟨b,o,rfl⟩:=HS.out.head (by omega);obtain⟨x,he⟩:∃ s,l[q]? =some s:=⟨_,List.getElem?_eq_getElem (by rw[HLEN.out];exact hlt)⟩;have d0:=HS.out.get? q he;have HE:=Hq he;have hqi:(q:Int)<(n:Int):=by omega
    have hq8i:(q:Int)<80:=by omega
    have HQ8:=Hq hl8;have HQN:=Hq hlt;clear he hq hq8 hlt hl8;by_cases h1:16<x.size
    · have HF:=Hq (fewT_big (sd:=40) (s:=s) HE.out HQ8.out h1);have i1:decide ((16:Int)<(x.size:Int))=true:=decide_eq_true (by omega);go_wp2;go_ret;exact⟨by rw[HR.out,HF.out];rfl,HB0.out⟩
    · have i1:decide ((16:Int)<(x.size:Int))=false:=decide_eq_false (by omega);have H1:=Hq h1;clear h1;go_wp2;go_round;case rel =>
       refine⟨q+1,HQN.out,HQ8.out,by go_num,fun j hj=>?_⟩;by_cases hjk:j<q
       · exact HALL.out j hjk
       · obtain rfl:j=q:=by omega
         exact⟨x,HE.out,by have:=H1.out;omega⟩
      case measure=>have:=HQ8.out;simp[RowKit.intOf];omega
  · have HF:=Hq (fewT_all (lim:=80) (sz:=16) (sd:=40) (s:=s) (l:=l) (fun j hj hj8=>HALL.out j (by have:=HLEN.out;omega)));have hc:decide ((q:Int)<(n:Int))=true→decide ((q:Int)<80)=false:=fun h=>decide_eq_false (by have:=of_decide_eq_true h;omega);have hR:few11 l s k=(decide (n≤80)&&decide (s.size≤40)&&decide (k<1000)):=by rw[HR.out,HF.out,HLEN.out]
    have HR2:=Hq hR;have HQ9:=Hq (show q<n→q=80 from fun h=>by omega);clear hR hin hq8 HF HR;by_cases hqn:q<n
    · obtain rfl:=HQ9.out hqn;have e1:((80:Nat):Int)<(n:Int):=by omega
      have e2:decide ((n:Int)≤80)=false:=decide_eq_false (by omega);have HZ:=Hq (show few11 l s k=false from by rw[HR2.out,decide_eq_false (by omega:¬ n≤80)];rfl);clear hq hqn hc;go_wp2;go_ret;exact⟨by rw[HZ.out];rfl,HB0.out⟩
    · have e1:¬ ((q:Int)<(n:Int)):=by omega
      clear hq hc;by_cases h8:n≤80
      · have e2:decide ((n:Int)≤80)=true:=decide_eq_true (by omega);by_cases h4:s.size≤40
        · have e3:decide ((s.size:Int)≤40)=true:=decide_eq_true (by omega);have HZ:=Hq (show few11 l s k=decide (k<1000)from by rw[HR2.out,decide_eq_true h8,decide_eq_true h4];rfl);clear h8 h4;go_wp2;go_ret;exact⟨by rw[HZ.out];rfl,HB0.out⟩
        · have e3:decide ((s.size:Int)≤40)=false:=decide_eq_false (by omega);have HZ:=Hq (show few11 l s k=false from by rw[HR2.out,decide_eq_true h8,decide_eq_false h4];rfl);clear h8 h4;go_wp2;go_ret;exact⟨by rw[HZ.out];rfl,HB0.out⟩
      · have e2:decide ((n:Int)≤80)=false:=decide_eq_false (by omega);have HZ:=Hq (show few11 l s k=false from by rw[HR2.out,decide_eq_false h8];rfl);clear h8;go_wp2;go_ret;exact⟨by rw[HZ.out];rfl,HB0.out⟩
theorem law17_SameTape(l:List ByteArray)(s:ByteArray)(k:Int)(A B:Option Addr)(n c n' c':Nat)(w:World)(hs:SlN w A n c l)(hs':SlN w B n' c' l):Calls Tryz.prog 9 #[tpV A n c s k,tpV B n' c' s k] w (Ret (.bool true) w):=by
 have hb1:=((Below.refl w.heap.size w).alloc nlr (.cells #[.slice A n c,.string s,.int .i64 k] 30)).alloc (by simp) (.cells #[.slice B n' c',.string s,.int .i64 k] 30);have ht1:=(TB.new w A n c s k).nextT ((blr).alloc nlr (.cells #[.slice B n' c',.string s,.int .i64 k] 30));have ht2:=TB.new (w.alloc (.cells #[.slice A n c,.string s,.int .i64 k] 30)) B n' c' s k;rw[World.size_alloc]at ht2;obtain⟨c0,c1,c2⟩:=ht1.c;obtain⟨d0,d1,d2⟩:=ht2.c;have HB:=Hq hb1;have HE:=Hq (sl_EqualT l A B n c n' c' _ (hs.kept hb1 nlr) (hs'.kept hb1 nlr));clear hb1 ht1 ht2 hs hs';unfold tpV;go_enter Tryz.func9,Tryz.ntmps9;go_wp2_with fail;refine HE.out.mono ?_;rintro e w1 ⟨rfl,hb⟩;have HB1:=Hq (HB.out.trans (hb.mono HB.out.size));clear hb;go_wp2;go_ret;exact⟨rfl,HB1.out⟩
open Go.ChangeShapes Go.WideShapes Go.ChangeAt Go.Deep Go.Joins Go.RowKit
open Go.ChangeMaps (open_string shut_string)
section
variable {H : Type} {enc : TypeId × Value → H} {W : World} {sp : Nat → Bool} {held : Bool}
theorem open_skeyC{fuel:Nat}{c0 c1 c2 c3:Value}{x:DataW H×List MemPlace}(hf:DataW.trod enc Tryz.prog W 0 (fun _=>true) held fuel 26 [c0,c1,c2,c3]=some x):∃ M O G K:ByteArray,c0=.string M∧c1=.string O∧c2=.string G∧c3=.string K:=by
 obtain⟨n1,y1,g1⟩:=trod_at Tryz.underlying26 hf 0 _ rfl 2 (by kernel_rfl);have g1:DataW.trod enc Tryz.prog W 0 (fun _=>true) held n1 24 [c0,c1]=some y1:=g1;obtain⟨n2,y2,g2⟩:=trod_at Tryz.underlying26 hf 1 _ rfl 1 (by kernel_rfl);have g2:DataW.trod enc Tryz.prog W 0 (fun _=>true) held n2 22 [c2]=some y2:=g2;obtain⟨n3,y3,g3⟩:=trod_at Tryz.underlying26 hf 2 _ rfl 1 (by kernel_rfl);have g3:DataW.trod enc Tryz.prog W 0 (fun _=>true) held n3 22 [c3]=some y3:=g3;obtain⟨n4,y4,g4⟩:=trod_at Tryz.underlying24 g1 0 _ rfl 1 (by kernel_rfl);have g4:DataW.trod enc Tryz.prog W 0 (fun _=>true) held n4 22 [c0]=some y4:=g4;obtain⟨n5,y5,g5⟩:=trod_at Tryz.underlying24 g1 1 _ rfl 1 (by kernel_rfl);have g5:DataW.trod enc Tryz.prog W 0 (fun _=>true) held n5 22 [c1]=some y5:=g5;obtain⟨s0,e0,_⟩:=DataW.trod_string Tryz.underlying22 g4;obtain⟨s1,e1,_⟩:=DataW.trod_string Tryz.underlying22 g5;obtain⟨s2,e2,_⟩:=DataW.trod_string Tryz.underlying22 g2;obtain⟨s3,e3,_⟩:=DataW.trod_string Tryz.underlying22 g3;simp only[List.cons.injEq,and_true]at e0 e1 e2 e3;exact⟨s0,s1,s2,s3,e0,e1,e2,e3⟩
end
open Go.ChangeShapes Go.WideShapes Go.Deep Go.Joins Go.RowKit
section
variable {H : Type} {enc : TypeId × Value → H} {P : Program} {w : World} {base : Nat} {spare : Nat → Bool} {held : Bool}
theorem open_slice_fields{t e:TypeId}{fs:Array Field}{fuel:Nat}{cs:List Value}{x:DataW H×List MemPlace}(ht:P.underlying t=some (.slice e))(he:P.underlying e=some (.struct fs))
 (hone:oneCellFields P fs=true) (hC:P.cellsOf e=fs.size) (h:DataW.trod enc P w base spare held fuel t cs=some x) :
 (cs=[.slice none 0 0]∧x=(.nil,[])) ∨
 ∃(a:Addr) (len cap m:Nat),cs=[.slice (some a) len cap]∧base≤a.block∧len≤cap∧cap≤maxLen∧m=(if spare a.block then cap else len) ∧
  ∀ i,i<m→∃(n:Nat), 
   ∀(j:Nat) (f:Field),fs[j]? =some f→∃(v:Value) (y:DataW H×List MemPlace),w.cell? (a.add (i * fs.size+j))=some v∧DataW.trod enc P w base spare held n f.type [v]=some y:=by
 rcases open_slice ht h with h0 | ⟨a,len,cap,m,n,D,Pl,hcs,hb,hl,hm,hmm,hx,hi⟩
 · exact .inl h0
 · refine .inr ⟨a,len,cap,m,hcs,hb,hl,hm,hmm,fun i him=>?_⟩;obtain⟨cs',hc,ht'⟩:=hi i him;rw[hC]at hc;obtain⟨ys,n',hn',hy,hlen,hyl,hf⟩:=DataW.trod_struct he ht';obtain⟨_,hcl,hat⟩:=World.cells?_some hc;refine⟨n',fun j f hj=>?_⟩;obtain⟨ho,hk⟩:=hone_of hone j f hj;have hjl:j<fs.size:=(Array.getElem?_eq_some_iff.1 hj).1;have hcell:=hat j hjl;have hv:cs'[j]? =some (cs'[j]'(by omega)):=List.getElem?_eq_getElem (by omega);have h1:=hf j f hj;rw[ho,hk]at h1;have hone':(cs'.drop j).take 1=[cs'[j]'(by omega)]:=by
    rw[List.drop_eq_getElem_cons (by omega)];rfl
   rw[hone']at h1;have hys:ys[j]? =some (ys[j]'(by omega)):=List.getElem?_eq_getElem (by omega);refine⟨_,_,?_,h1.trans hys⟩;rw[←Go.Deep.add_add,hcell,hv]
end
theorem list_of{α:Type}{Q:Nat→α→Prop}:∀(n:Nat),(∀ i,i<n→∃ e,Q i e)→∃ l:List α,l.length=n∧∀ k e,l[k]? =some e→Q k e
 | 0,_=>⟨[],rfl,fun k e h=>by simp at h⟩
 | n+1,h=>by
  obtain⟨l,hl,hq⟩:=list_of n (fun i hi=>h i (by omega));obtain⟨e,he⟩:=h n (by omega);refine⟨l++[e],by simp[hl],fun k e' hk=>?_⟩;by_cases hkn:k<l.length
  · rw[List.getElem?_append_left hkn]at hk;exact hq k e' hk
  · rw[List.getElem?_append_right (by omega)]at hk;have h0:k - l.length=0:=by
     rcases Nat.eq_zero_or_pos (k - l.length)with h0 | h0
     · exact h0
     · rw[List.getElem?_eq_none (by simp;omega)]at hk;cases hk
    rw[h0]at hk;simp only[List.getElem?_cons_zero,Option.some.injEq]at hk;subst hk;rw[show k=n from by omega];exact he
section
variable {H : Type} {enc : TypeId × Value → H} {W : World} {sp : Nat → Bool} {held : Bool}
def w4(w:World)(ad:Addr)(o:Nat)(e:En):Prop:=w.cell? (ad.add (o+0))=some (.int .i64 e.kind)∧w.cell? (ad.add (o+1))=some (.string e.handle)∧w.cell? (ad.add (o+2))=some (.string e.schema)∧w.cell? (ad.add (o+3))=some (.int .i64 e.epoch)
theorem open_entries{a:Option Addr}{len cap fuel:Nat}{x:DataW H×List MemPlace}(h:DataW.trod enc Tryz.prog W 0 (fun _=>true) held fuel 27 (Value.cells (.slice a len cap)).toList=some x):∃ l,SlE W a len cap l:=by
 rcases open_slice_fields Tryz.underlying27 Tryz.underlying47 (by kernel_rfl) (by kernel_rfl) h with⟨hcs,_⟩ | ⟨ad,len',cap',m,hcs,_,hl,hm,rfl,hi⟩
 · simp[Value.cells]at hcs;obtain⟨rfl,rfl,rfl⟩:=hcs;exact⟨[],SlE.nil _ _ (by omega) _⟩
 · simp[Value.cells]at hcs;obtain⟨rfl,rfl,rfl⟩:=hcs;have hq:∀ i,i<len→∃ e:En,w4 W ad (i * 4) e:=fun i hi'=>by
    obtain⟨n,hj⟩:=hi i (by first | omega | (simp;omega) | (split<;>omega));obtain⟨v0,y0,c0,g0⟩:=hj 0 _ rfl;obtain⟨v1,y1,c1,g1⟩:=hj 1 _ rfl;obtain⟨v2,y2,c2,g2⟩:=hj 2 _ rfl;obtain⟨v3,y3,c3,g3⟩:=hj 3 _ rfl;obtain⟨n0,e0,_⟩:=DataW.trod_int Tryz.underlying3 g0;obtain⟨n1,e1,_,z1⟩:=DataW.trod_string Tryz.underlying22 g1;obtain⟨n2,e2,_,z2⟩:=DataW.trod_string Tryz.underlying9 g2;obtain⟨n3,e3,_⟩:=DataW.trod_int Tryz.underlying3 g3;simp only[List.cons.injEq,and_true]at e0 e1 e2 e3;subst e0 e1 e2 e3;exact⟨⟨n0,n1,n2,n3⟩,c0,c1,c2,c3⟩
   obtain⟨l,hll,hq⟩:=list_of len hq;refine⟨l,hll,hl,by unfold maxLen at hm;exact hm,?_⟩;rcases Nat.eq_zero_or_pos len with h0 | h0
   · exact⟨0,0,fun h=>by omega,fun k e hk=>by have:=(List.getElem?_eq_some_iff.1 hk).1;omega⟩
   · obtain⟨b,off,spot⟩:=ad;obtain⟨e,he⟩:∃ e,l[0]? =some e:=⟨_,List.getElem?_eq_getElem (by omega)⟩;have h1:=(hq 0 e he).1;have hspot:spot=none:=by simpa[Addr.add]using World.cell?_spot h1
     subst hspot;refine⟨b,off,fun _=>rfl,fun k e hk=>?_⟩;obtain⟨c0,c1,c2,c3⟩:=hq k e hk;rw[addr_add]at c0 c1 c2 c3;exact⟨c0,c1,c2,c3⟩
end
end Go.Proofs.YtopmeciihijgiaaGreatDoor

import Derived.Test.YtfbmbledklbfgaaGreatDoorQApp
set_option linter.unusedVariables false
set_option linter.unusedSimpArgs false
namespace Go.Proofs.YtfbmbledklbfgaaGreatDoor
set_option maxRecDepth 100000
set_option maxHeartbeats 4000000
open Go.RowKit
def endN:List En→Nat→Nat
 | [],_=>0
 | _::_,0=>0
 | e::l,n+1=>endN l (if e.kind=2 then n else n+1)+1
theorem endN_zero(l:List En):endN l 0=0:=by cases l<;>rfl
theorem endN_step{l:List En}{k c P:Nat}{e:En}(h:l[k]? =some e)(hc:c<P)(hi:k+endN (l.drop k) (P - c)=endN l P) :
 k+1+endN (l.drop (k+1)) (P - (c+if e.kind=2 then 1 else 0))=endN l P:=by
 have hk:=(List.getElem?_eq_some_iff.1 h).1;have hx:=(List.getElem?_eq_some_iff.1 h).2;rw[List.drop_eq_getElem_cons hk,hx,show P - c=(P - c - 1)+1 from by omega,endN]at hi;rw[←hi];by_cases h2:e.kind=2
 · rw[if_pos h2,if_pos h2,show P - (c+1)=P - c - 1 from by omega];omega
 · rw[if_neg h2,if_neg h2,show P - (c+0)=P - c - 1+1 from by omega];omega
theorem epochN_take_le(l:List En)(k:Nat):epochN (l.take k)≤epochN l:=by
 unfold epochN;exact List.Sublist.countP_le (List.take_sublist _ _)
def memF(R:ByteArray→Bool)(l:List En):List ByteArray:=(l.filter fun e=>e.kind==0 && !R e.handle).map (·.handle)
def memH(l:List En):List ByteArray:=memF (hasB l 1) l
def memS(l:List En)(p:Int):List ByteArray×Int:=if p<0∨(epochN l:Int)<p then([],2)else(memH (l.take (endN l p.toNat)),0)
theorem memF_snoc{R:ByteArray→Bool}{l:List En}{k:Nat}{e:En}(h:l[k]? =some e):memF R (l.take (k+1))=memF R (l.take k)++(if e.kind=0∧R e.handle=false then [e.handle]else []):=by
 unfold memF;rw[take_snoc h,List.filter_append,List.map_append];congr 1;by_cases h1:e.kind=0<;>cases h2:R e.handle<;>simp[List.filter_cons,h1,h2]
def EndRel(l:List En)(len P:Nat)(end' n:Value):Prop:=∃ k c:Nat,k≤len∧end'=.int .i64 k∧n=.int .i64 c∧epochN (l.take k)=c∧c≤P∧k+endN (l.drop k) (P - c)=endN l P
theorem led_Members_neg(A:Option Addr)(len cap:Nat)(p:Int)(hp:p<0)(w:World) :
 Calls Tryz.prog 15 #[.slice A len cap,.int .i64 p] w (RetNs [] .i64 2 w):=by
 go_enter Tryz.func15,Tryz.ntmps15;go_wp2;go_ret2;exact⟨none,0,rfl,SlN.nil _ _ (by omega) _,Below.refl _ _⟩
def MemRel(R:ByteArray→Bool)(t:List En)(B:Nat)(W:World)(out i:Value)(wr:World):Prop:=
 ∃(j m:Nat),j≤t.length∧m≤j∧i=.int .i64 j∧wr.ownsRow B 22 1 out m ((memF R (t.take j)).map Value.string)∧Below B W wr
theorem led_Members_pos(l:List En)(A:Option Addr)(len cap:Nat)(P:Nat)(w:World)(hs:SlE w A len cap l)(hlb:len≤1000000000)(hsz:SzE l)(hP:P≤9223372036854775807)(r:List ByteArray×Int)(hr:memS l P=r) :
 Calls Tryz.prog 15 #[.slice A len cap,.int .i64 P] w (RetNs r.1 .i64 r.2 w):=by
 have hlen:=hs.1;have hlc:=hs.2.1;have HS:=Hq hs;have HLEN:=Hq hlen;have HR:=Hq hr;have HSZ:=Hq hsz;have hP0:¬ ((P:Int)<0):=by omega
 clear hs hlen hr hsz;go_enter Tryz.func15,Tryz.ntmps15;go_wp2
 go_loop [6,7] (fun e n=>EndRel l len P e n) (fun e _=>len - (intOf e).toNat)
 case atStart=>exact⟨0,0,Nat.zero_le _,rfl,rfl,rfl,Nat.zero_le _,by simp⟩
 case round =>
  obtain⟨k,c,hk,rfl,rfl,hc,hcP,hi⟩:=hrel;have HC:=Hq hc;have HI:=Hq hi;clear hc hi;by_cases hlt:c<P
  · by_cases hkl:k<len
    · obtain⟨b,o,rfl⟩:=HS.out.head (by omega);obtain⟨e,he⟩:∃ e,l[k]? =some e:=⟨_,List.getElem?_eq_getElem (by rw[HLEN.out];exact hkl)⟩;obtain⟨c0,c1,c2,c3⟩:=HS.out.get? k he;have hne:((k:Int)==(len:Int))=false:=neI (by omega);have HE:=Hq he;clear he;by_cases h2:e.kind=2
      · have e2:=eqI h2;have H2:=Hq h2;clear h2;go_wp2;go_round;case rel =>
         have h1:=epochN_snoc HE.out;have h3:=endN_step HE.out hlt HI.out;rw[if_pos H2.out]at h1 h3;exact⟨k+1,c+1,by omega,by go_num,by go_num,by rw[h1,HC.out],by omega,h3⟩
        case measure=>simp[intOf];omega
      · have e2:=neI h2;have H2:=Hq h2;clear h2;go_wp2;go_round;case rel =>
         have h1:=epochN_snoc HE.out;have h3:=endN_step HE.out hlt HI.out;rw[if_neg H2.out]at h1 h3;exact⟨k+1,c,by omega,by go_num,rfl,by rw[h1,HC.out,Nat.add_zero],by omega,h3⟩
        case measure=>simp[intOf];omega
    · obtain rfl:k=len:=by omega
      have hne:((k:Int)==(k:Int))=true:=eqI rfl;have hr:=HR.out;unfold memS at hr;have hcc:=HC.out;rw[List.take_of_length_le (by have:=HLEN.out;omega)]at hcc;rw[if_pos (.inr (by omega))]at hr;clear hcc;have HR2:=Hq hr;clear hr;go_wp2;go_ret2;rw[←HR2.out];exact⟨none,0,rfl,SlN.nil _ _ (by omega) _,Below.refl _ _⟩
  · obtain rfl:c=P:=by omega
    have hi:=HI.out;rw[Nat.sub_self,endN_zero,Nat.add_zero]at hi;have hcc:=HC.out;have hle:=epochN_take_le l k;have hr:=HR.out;unfold memS at hr;rw[if_neg (by omega),Int.toNat_natCast,←hi]at hr;have HR2:=Hq hr;have hst:=HS.out.take k hk;have hszt:SzE (l.take k):=fun j e he=>HSZ.out j e (by rw[List.getElem?_take]at he;split at he;exact he;cases he);obtain⟨t,ht⟩:∃ t,l.take k=t:=⟨_,rfl⟩;rw[ht]at hst hszt;have HT:=Hq ht;have HST:=Hq hst;have HSZT:=Hq hszt;have hkc:k≤cap:=by omega
    clear hi hcc hle hr hst hszt HI HC HR HS HSZ ht;go_wp2_with fail;refine(led_stateOf t A k cap _ HST.out (by omega) HSZT.out).mono ?_;rintro e1 w1 ⟨sb,bi,br,rfl,hst1,hB1,hB2,hB3,hb1⟩;obtain⟨s0,s1,s2,s3⟩:=four_cells hst1.1;have HSET:=Hq hst1.2.2.1;have HB1:=Hq hb1;clear hst1 hB1 hB2 hB3 hb1;go_wp2;clear s0 s1 s2 s3;go_loopw [9,44] (fun out i wr=>MemRel (hasB t 1) t w1.heap.size w1 out i wr) (fun _ i _=>k - (intOf i).toNat);case atStart=>exact⟨0,0,Nat.zero_le _,Nat.le_refl _,rfl,World.ownsRow_nil _ _ _ _,Below.refl _ _⟩
    case round =>
     obtain⟨j,m,hj,hm,rfl,hown,hB⟩:=hrel;have htl:t.length=k:=HST.out.1;rw[htl]at hj;have HTL:=Hq htl;clear htl;have HOWN:=Hq hown;have HB:=Hq hB;clear hown hB;by_cases hjk:j<k
     · obtain⟨b,o,rfl⟩:=HST.out.head (by omega);obtain⟨e,he⟩:∃ e,t[j]? =some e:=⟨_,List.getElem?_eq_getElem (by rw[HTL.out];exact hjk)⟩;obtain⟨c0,c1,c2,c3⟩:=((HST.out.kept HB1.out nlr).kept HB.out nlr).get? j he;have hh:e.handle.size≤maxLen:=HSZT.out j e he;have hl:=SetM.look ((HSET.out.kept HB.out nlr).kept ((Below.refl wr.heap.size wr).alloc nlr (.cells #[.int .i64 e.kind,.string e.handle,.string e.schema,.int .i64 e.epoch] 43)) nlr) hh;have HE:=Hq he;have HH:=Hq hh;clear he hh;have hms:=memF_snoc (R:=hasB t 1) HE.out;obtain⟨g,hg⟩:∃ g,hasB t 1 e.handle=g:=⟨_,rfl⟩;rw[hg]at hl hms;by_cases h0:e.kind=0
       · have e0:=eqI h0
         cases g with
         | true =>
          rw[if_neg (by simp),List.append_nil]at hms;have HMS:=Hq hms;clear h0 hms hg;go_wp2;go_roundw;case rel=>exact⟨j+1,m,by rw[HTL.out];omega,by omega,by go_num,by rw[HMS.out];exact(HOWN.out.alloc _).alloc _,(HB.out.alloc HB.out.size _).alloc (by have:=HB.out.size;simp;omega) _⟩
          case measure=>simp[intOf];omega
         | false =>
          rw[if_pos ⟨h0,rfl⟩]at hms;have HMS:=Hq hms;clear h0 hms hg;obtain⟨i0,hi,iz0,iz1,iz2⟩:=info_parts nat_info;go_wp2_with (at_builtin;refine(wpList_append_lies _ rfl (.tmp 62) (.tmp 65) 28 rfl w1.heap.size 22 i0 _ 1 16 Tryz.underlying28 hi iz0 iz1 iz2 rfl (by decide) _ m ((memF (hasB t 1) (t.take j)).map Value.string) rfl ?n0 ⟨wr.heap.size+1+1,0,none⟩ 1 1 [.string e.handle] rfl rfl ?n1 ?n2 (by decide) ?n3 ?n4 ?n5 _ rfl ?_));case n0=>exact((HOWN.out.alloc _).alloc _).alloc _
          case n1=>rw[show wr.heap.size+1+1=((wr.alloc (.cells #[.int .i64 e.kind,.string e.handle,.string e.schema,.int .i64 e.epoch] 43)).alloc (.cells #[] 91)).heap.size from by simp];exact World.news_of_block (heap_alloc_new _ _)
          case n2=>intro u hu;simp only[List.mem_cons,List.mem_nil_iff,or_false]at hu;subst hu;rfl
          case n3=>unfold maxLen;omega
          case n4=>omega
          case n5=>have:=HB.out.size;simp;omega
          intro g' cap7 w7 hown7 hgrow7 hat7 hlt7;have hlt6:=HOWN.out.lt;have HB7:=Hq ((((HB.out.alloc HB.out.size (.cells #[.int .i64 e.kind,.string e.handle,.string e.schema,.int .i64 e.epoch] 43)).alloc (by have:=HB.out.size;simp;omega) (.cells #[] 91)).alloc (by have:=HB.out.size;simp;omega) _).grown hgrow7 (by have:=HB.out.size;simp;omega) (fun k e=>(hlt6 k e).1));have HOWN7:=Hq hown7;clear hown7 hgrow7 hat7 hlt7 hlt6;go_wp2;go_roundw;case rel=>exact⟨j+1,m+1,by rw[HTL.out];omega,by omega,by go_num,by rw[HMS.out,List.map_append];exact HOWN7.out,HB7.out⟩
          case measure=>simp[intOf];omega
       · have e0:=neI h0;rw[if_neg (by simp[h0]),List.append_nil]at hms;have HMS:=Hq hms;clear h0 hms hg;go_wp2;go_roundw;case rel=>exact⟨j+1,m,by rw[HTL.out];omega,by omega,by go_num,by rw[HMS.out];exact(HOWN.out.alloc _).alloc _,(HB.out.alloc HB.out.size _).alloc (by have:=HB.out.size;simp;omega) _⟩
         case measure=>simp[intOf];omega
     · obtain rfl:j=k:=by omega
       have hown:=HOWN.out;rw[List.take_of_length_le (by have:=HTL.out;omega)]at hown;have HOWN2:=Hq hown;clear hown;go_wp2;go_ret2;rw[←HR2.out,HT.out];exact RetNs.mk' HOWN2.out (HB1.out.trans (HB.out.mono HB1.out.size))
theorem led_Members(l:List En)(A:Option Addr)(len cap:Nat)(p:Int)(w:World)(hs:SlE w A len cap l)(hlb:len≤1000000000)(hsz:SzE l)(hp:p≤9223372036854775807) :
 Calls Tryz.prog 15 #[.slice A len cap,.int .i64 p] w (RetNs (memS l p).1 .i64 (memS l p).2 w):=by
 by_cases h:p<0
 · have:=led_Members_neg A len cap p h w;unfold memS;rw[if_pos (.inl h)];exact this
 · obtain⟨P,rfl⟩:=Int.eq_ofNat_of_zero_le (Int.not_lt.1 h);exact led_Members_pos l A len cap P w hs hlb hsz (by omega) _ rfl
set_option maxRecDepth 100000
set_option maxHeartbeats 1000000
theorem eq_nats(l:List ByteArray)(A A':Option Addr)(len cap cap':Nat)(w:World)(hs:SlN w A len cap l)(hs':SlN w A' len cap' l):Calls Tryz.prog 16 #[.slice A len cap,.slice A' len cap'] w (Ret (.bool true) w):=by
 have hlen:=hs.1;have hlc:=hs.2.1;have hcap:=hs.2.2.1;have HS:=Hq hs;have HS':=Hq hs';have HLEN:=Hq hlen;have hne:((len:Int) != (len:Int))=false:=bne_false rfl;clear hs hs' hlen;go_enter Tryz.func16,Tryz.ntmps16;go_wp2;go_loopw [13] (fun i wr=>∃ k:Nat,k≤len∧i=.int .i64 k∧Below w.heap.size w wr) (fun i _=>len - (intOf i).toNat);case atStart=>exact⟨0,Nat.zero_le _,rfl,Below.refl _ _⟩
 case round =>
  obtain⟨k,hk,rfl,hB⟩:=hrel;by_cases hlt:k<len
  · obtain⟨b,o,rfl⟩:=HS.out.head (by omega);obtain⟨b',o',rfl⟩:=HS'.out.head (by omega);obtain⟨s,he⟩:∃ s,l[k]? =some s:=⟨_,List.getElem?_eq_getElem (by rw[HLEN.out];exact hlt)⟩;have c0:=(HS.out.kept hB nlr).get? k he;have c1:=(HS'.out.kept hB nlr).get? k he;have i1:(0:Int)≤(k:Int):=by omega
    have i2:(k:Int)<(len:Int):=by omega
    have HB:=Hq hB;clear hB he;go_wp2
    go_quiet (fail)
    go_wp2;go_roundw;case rel=>exact⟨k+1,by omega,by go_num,below_dN HB.out _⟩
    case measure=>simp[intOf];omega
  · obtain rfl:k=len:=by omega
    have HB:=Hq hB;clear hB;go_wp2;go_ret;exact⟨rfl,HB.out⟩
set_option maxRecDepth 100000
set_option maxHeartbeats 1000000
def smallE(e:En):Bool:=decide (e.handle.size≤16)&&decide (e.schema.size≤60)
def fewB(l:List En):Bool:=l.all smallE&&decide (l.length≤30)
theorem few_big{l:List En}{k:Nat}{e:En}(h:l[k]? =some e)(hb:smallE e=false):fewB l=false:=by
 unfold fewB;have : l.all smallE=false:=by
  rw[List.all_eq_false];exact⟨e,List.mem_of_getElem? h,by simp[hb]⟩
 rw[this];rfl
theorem few_long{l:List En}(h:30<l.length):fewB l=false:=by
 unfold fewB;rw[decide_eq_false (by omega),Bool.and_false]
theorem few_all{l:List En}(h:∀ k,k<l.length→∃ e,l[k]? =some e∧smallE e=true)(h2:l.length≤30):fewB l=true:=by
 unfold fewB;rw[decide_eq_true h2,Bool.and_true,List.all_eq_true];intro e he;obtain⟨k,hk⟩:=List.mem_iff_getElem?.1 he;have hl:=(List.getElem?_eq_some_iff.1 hk).1;obtain⟨e',h3,h4⟩:=h k hl;rw[hk]at h3;cases h3;exact h4
theorem few_of{l:List En}(h:fewB l=true):l.length≤30∧∀(k:Nat) (e:En),l[k]? =some e→e.handle.size≤16∧e.schema.size≤60:=by
 unfold fewB at h;simp only[Bool.and_eq_true,decide_eq_true_eq,List.all_eq_true]at h;refine⟨h.2,fun k e hk=>?_⟩;have:=h.1 e (List.mem_of_getElem? hk);simp only[smallE,Bool.and_eq_true,decide_eq_true_eq]at this;exact this
theorem few_entries(l:List En)(A:Option Addr)(len cap:Nat)(w:World)(hs:SlE w A len cap l):Calls Tryz.prog 11 #[.slice A len cap] w (RetQ (.bool (fewB l)) w):=by
 have hlen:=hs.1;have hlc:=hs.2.1;have hcap:=hs.2.2.1;have HS:=Hq hs;have HLEN:=Hq hlen;clear hs hlen;go_enter Tryz.func11,Tryz.ntmps11;go_wp2
 go_loop [3] (fun i=>∃ k:Nat,k≤len∧k≤40∧i=.int .i64 k∧∀ j,j<k→∃ e,l[j]? =some e∧smallE e=true) (fun i=>len - (intOf i).toNat)
 case atStart=>exact⟨0,Nat.zero_le _,by omega,rfl,fun j h=>by omega⟩
 case round =>
  obtain⟨k,hk,hk4,rfl,hall⟩:=hrel;have HALL:=Hq hall;clear hall;by_cases hlt:k<len
  · by_cases hlt4:k<40
    · obtain⟨b,o,rfl⟩:=HS.out.head (by omega);obtain⟨e,he⟩:∃ e,l[k]? =some e:=⟨_,List.getElem?_eq_getElem (by rw[HLEN.out];exact hlt)⟩;obtain⟨c0,c1,c2,c3⟩:=HS.out.get? k he;have HE:=Hq he;clear he;by_cases h1:16<e.handle.size
      · have HF:=Hq (few_big HE.out (by unfold smallE;rw[decide_eq_false (by omega),Bool.false_and]));have i1:decide ((16:Int)<(e.handle.size:Int))=true:=decide_eq_true (by omega);go_wp2;go_ret;exact⟨by rw[HF.out];rfl,rfl⟩
      · have i1:decide ((16:Int)<(e.handle.size:Int))=false:=decide_eq_false (by omega);by_cases h2:60<e.schema.size
        · have HF:=Hq (few_big HE.out (by unfold smallE;rw[decide_eq_false (p:=e.schema.size≤60) (by omega),Bool.and_false]));have i2:decide ((60:Int)<(e.schema.size:Int))=true:=decide_eq_true (by omega);go_wp2;go_ret;exact⟨by rw[HF.out];rfl,rfl⟩
        · have i2:decide ((60:Int)<(e.schema.size:Int))=false:=decide_eq_false (by omega);go_wp2;go_round;case rel =>
           refine⟨k+1,by omega,by omega,by go_num,fun j hj=>?_⟩;by_cases hjk:j<k
           · exact HALL.out j hjk
           · obtain rfl:j=k:=by omega
             exact⟨e,HE.out,by unfold smallE;rw[decide_eq_true (by omega),decide_eq_true (by omega)];rfl⟩
          case measure=>simp[intOf];omega
    · have HF:=Hq (show fewB l=decide ((len:Int)≤30)from by rw[few_long (l:=l) (by have:=HLEN.out;omega),decide_eq_false (by omega)]);go_wp2;go_ret;exact⟨by rw[HF.out];rfl,rfl⟩
  · obtain rfl:k=len:=by omega
    by_cases h30:k≤30
    · have HF:=Hq (show fewB l=decide ((k:Int)≤30)from by rw[few_all (l:=l) (fun j hj=>HALL.out j (by have:=HLEN.out;omega)) (by have:=HLEN.out;omega),decide_eq_true (by omega)]);have h31:k<40:=by omega
      go_wp2;go_ret;exact⟨by rw[HF.out];rfl,rfl⟩
    · have HF:=Hq (show fewB l=decide ((k:Int)≤30)from by rw[few_long (l:=l) (by have:=HLEN.out;omega),decide_eq_false (by omega)]);go_wp2;all_goals
       go_ret;exact⟨by rw[HF.out];rfl,rfl⟩
def exL:List En:=[⟨0,⟨#[3]⟩,⟨#[67,97,114,100]⟩,0⟩,⟨0,⟨#[5]⟩,⟨#[67,97,114,100]⟩,0⟩,⟨2,⟨#[]⟩,⟨#[]⟩,1⟩,⟨1,⟨#[3]⟩,⟨#[]⟩,1⟩,⟨2,⟨#[]⟩,⟨#[]⟩,2⟩]
def RetExA(w:World)(e:Ending)(w':World):Prop:=∃ A cap,e=.returned (.slice A 5 cap)∧SlE w' A 5 cap exL∧Below w.heap.size w w'
theorem example_any(w:World):Calls Tryz.prog 13 #[] w (RetExA w):=by
 go_enter Tryz.func13,Tryz.ntmps13;go_wp2;go_ret;refine⟨_,_,rfl,⟨rfl,by omega,by omega,w.heap.size,0,fun _=>rfl,fun k e hk=>?_⟩,(blr).alloc nlr _⟩;have hlt:=(List.getElem?_eq_some_iff.1 hk).1;have hlt':k<5:=hlt;unfold EnCells
 match k,hlt' with
 | 0,_=>cases hk;refine⟨?_,?_,?_,?_⟩<;>(rw[World.cell?_alloc_at (hn:=rfl)];rfl)
 | 1,_=>cases hk;refine⟨?_,?_,?_,?_⟩<;>(rw[World.cell?_alloc_at (hn:=rfl)];rfl)
 | 2,_=>cases hk;refine⟨?_,?_,?_,?_⟩<;>(rw[World.cell?_alloc_at (hn:=rfl)];rfl)
 | 3,_=>cases hk;refine⟨?_,?_,?_,?_⟩<;>(rw[World.cell?_alloc_at (hn:=rfl)];rfl)
 | 4,_=>cases hk;refine⟨?_,?_,?_,?_⟩<;>(rw[World.cell?_alloc_at (hn:=rfl)];rfl)
theorem ex_sz:SzE exL:=fun k e h=>by
 have:=List.mem_of_getElem? h;simp only[exL,List.mem_cons,List.mem_nil_iff,or_false]at this;rcases this with rfl | rfl | rfl | rfl | rfl<;>decide
theorem ex_step(k:Nat)(hk:k<5)(e:En)(h:exL[k]? =some e):followsS (exL.take k) e=0:=by
 match k,hk with
 | 0,_=>cases h;decide +kernel
 | 1,_=>cases h;decide +kernel
 | 2,_=>cases h;decide +kernel
 | 3,_=>cases h;decide +kernel
 | 4,_=>cases h;decide +kernel
theorem ex_m0:memS exL 0=([],0):=by decide +kernel
theorem ex_m1:memS exL 1=([⟨#[3]⟩,⟨#[5]⟩],0):=by decide +kernel
theorem ex_m2:memS exL 2=([⟨#[5]⟩],0):=by decide +kernel
theorem ex_a1:followsS exL ⟨1,⟨#[3]⟩,⟨#[]⟩,2⟩=20:=by decide +kernel
theorem ex_a2:followsS exL ⟨0,⟨#[3]⟩,⟨#[67,97,114,100]⟩,2⟩=8:=by decide +kernel
theorem ex_a3:followsS exL ⟨1,⟨#[7]⟩,⟨#[]⟩,2⟩=9:=by decide +kernel
theorem ex_a4:followsS exL ⟨1,⟨#[5]⟩,⟨#[]⟩,1⟩=21:=by decide +kernel
end Go.Proofs.YtfbmbledklbfgaaGreatDoor

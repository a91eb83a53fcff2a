import Derived.Test.YtopmeciihijgiaaGreatDoorQLsA
set_option linter.unusedVariables false
set_option linter.unusedSimpArgs false
namespace Go.Proofs.YtopmeciihijgiaaGreatDoor
set_option maxRecDepth 100000
set_option maxHeartbeats 4000000
open Go.RowKit
def SmE(l:List En):Prop:=∀(j:Nat) (e:En),l[j]? =some e→e.handle.size≤9223372036854775807∧e.schema.size≤9223372036854775807
theorem strL_info:(Tryz.prog.info? 9).map (fun i=>(i.zero,i.size,i.bytes))=some (some (.string ⟨#[]⟩),1,16):=by kernel_rfl
def RetMs(r:List ByteArray×Int)(w:World)(e:Ending)(w':World):Prop:=∃ A c,e=.returned (.tuple #[.slice A r.1.length c,.int .i64 r.2])∧SlN w' A r.1.length c r.1∧Below w.heap.size w w'
def msV(l:List En)(j:Nat):List Value:=((l.take j).map (fun e=>(msgS e).1)).map Value.string
theorem msV_snoc{l:List En}{j:Nat}{e:En}(he:l[j]? =some e):msV l (j+1)=msV l j++[.string (msgS e).1]:=by
 unfold msV;rw[List.take_add_one,he,Option.toList_some,List.map_append,List.map_append];rfl
theorem msV_full(l:List En):msV l l.length=(l.map (fun e=>(msgS e).1)).map Value.string:=by unfold msV;rw[List.take_length]
theorem led_messages(l:List En)(A:Option Addr)(len cap:Nat)(w:World)(hs:SlE w A len cap l)(hlen:len≤4096)(hsm:SmE l):Calls Tryz.prog 20 #[.slice A len cap] w (RetMs (msgsE l) w):=by
 have HLEN:=Hq hs.1;have hcap:=hs.2.1;have hcap2:=hs.2.2.1;have HS:=Hq hs;have HSM:=Hq hsm;clear hs hsm;go_enter Tryz.func20,Tryz.ntmps20;go_wp2;go_loopw [4,14] (fun s i wr=>∃ j:Nat,j≤len∧i=.int .i64 j∧(∀(k:Nat) y,k<j→l[k]? =some y→(msgS y).2=0)∧wr.ownsRow w.heap.size 9 1 s j (msV l j)∧Below w.heap.size w wr) (fun _ i _=>len - (intOf i).toNat);case atStart=>exact⟨0,Nat.zero_le _,rfl,fun k y h=>absurd h (Nat.not_lt_zero _),World.ownsRow_nil _ _ _ _,Below.refl _ _⟩
 case round =>
  obtain⟨j,hj,rfl,hall,hown,hbb⟩:=hrel;have HALL:=Hq hall;have HOWN:=Hq hown;have HB:=Hq hbb;clear hall hown hbb;by_cases hlt:j<len
  · obtain⟨b,o,rfl⟩:=HS.out.head (by omega);obtain⟨x,he⟩:∃ x,l[j]? =some x:=⟨_,List.getElem?_eq_getElem (by rw[HLEN.out];exact hlt)⟩;have HE:=Hq he;obtain⟨c0,c1,c2,c3⟩:=(HS.out.kept HB.out nlr).get? j he;have HMG:=Hq (led_Message x (wr.alloc (.cells #[.int .i64 x.kind,.string x.handle,.string x.schema,.int .i64 x.epoch] 47)) (HSM.out j x he).1 (HSM.out j x he).2);have HB1:=Hq (show Below wr.heap.size wr (wr.alloc (.cells #[.int .i64 x.kind,.string x.handle,.string x.schema,.int .i64 x.epoch] 47))from(blr).alloc nlr _);have HBA:=Hq (HB.out.trans (HB1.out.mono HB.out.size));have HOA:=Hq (owns_kept HOWN.out HB1.out nlr);unfold En.val at HMG;obtain⟨r1,r2,hr⟩:∃ r1 r2,msgS x=(r1,r2):=⟨_,_,rfl⟩;have HMR:=Hq hr;rw[hr]at HMG;clear hr he;go_wp2_with fail;refine(show Calls _ _ _ _ _ from HMG.out).mono ?_;rintro ev w2 ⟨rfl,hb2⟩;have HB2:=Hq (HBA.out.trans (hb2.mono HBA.out.size));have HO2:=Hq (owns_kept HOA.out hb2 nlr);clear hb2;by_cases hz:r2=0
    · subst hz;have HAL:=Hq (show ∀(i:Nat) y,i<j+1→l[i]? =some y→(msgS y).2=0 from fun i y hi hy=>by
       rcases Nat.lt_or_ge i j with a | a
       · exact HALL.out i y a hy
       · obtain rfl:i=j:=by omega
         rw[HE.out]at hy;cases hy
         rw[HMR.out])
      obtain⟨i0,hi,iz0,iz1,iz2⟩:=info_parts strL_info;have HO3:=Hq (HO2.out.alloc (.cells #[.string r1] 9));have HB3:=Hq (HB2.out.alloc HB2.out.size (.cells #[.string r1] 9));have HN3:=Hq (heap_alloc_new w2 (.cells #[.string r1] 9));go_wp2_with (at_builtin;refine(wpList_append_lies _ rfl (.tmp 26) (.tmp 28) 45 rfl w.heap.size 9 i0 _ 1 16 Tryz.underlying45 hi iz0 iz1 iz2 rfl (by decide) _ j (msV l j) rfl HO3.out ⟨w2.heap.size,0,none⟩ 1 1 [.string r1] rfl rfl (World.news_of_block HN3.out) ?n2 (by decide) ?n3 ?n4 HB3.out.size _ rfl ?_));case n2=>intro u hu;simp only[List.mem_cons,List.mem_nil_iff,or_false]at hu;subst hu;rfl
      case n3=>unfold maxLen;omega
      case n4=>omega
      intro g cap7 w7 hown7 hgrow7 hat7 hlt7;have HB7:=Hq (HB3.out.grown hgrow7 HB3.out.size (fun k e=>(HO3.out.lt k e).1));have HO7:=Hq (show w7.ownsRow w.heap.size 9 1 _ (j+1) (msV l (j+1))from by rw[msV_snoc HE.out,HMR.out];exact hown7);clear hown7 hgrow7 hat7 hlt7 hi iz0 iz1 iz2;go_wp2;go_roundw;case rel=>exact⟨j+1,by omega,by go_num,HAL.out,HO7.out,HB7.out⟩
      case measure=>simp[intOf];omega
    · have hne:(r2 != 0)=true:=by simp[hz]
      have HR:=Hq (show msgsE l=([],r2)from by
       have:=msgsE_bad HE.out (by rw[HMR.out];exact hz) (fun i y hi hy=>HALL.out i y hi hy)
       rw[this,HMR.out])
      go_wp2;go_ret2;exact⟨none,0,by rw[HR.out];rfl,by rw[HR.out];exact SlN.nil _ 0 (by omega) _,HB2.out⟩
  · skip;obtain rfl:j=len:=by omega
    have HR:=Hq (msgsE_good (l:=l) (fun i y hy=>HALL.out i y (by have:=(List.getElem?_eq_some_iff.1 hy).1;have:=HLEN.out;omega) hy));have HOL:=Hq (show wr.ownsRow w.heap.size 9 1 u4 j ((l.map (fun e=>(msgS e).1)).map Value.string)from by have:=HOWN.out;rw[show msV l j=msV l l.length from by rw[HLEN.out],msV_full]at this;exact this);clear hlt hj;go_wp2;go_ret2;obtain⟨hl7,A7,c7,e7,hs7⟩:=SlN.of_owns HOL.out;subst e7;exact⟨A7,c7,by rw[HR.out];show Ending.returned (.tuple #[.slice A7 j c7,.int .i64 0])=.returned (.tuple #[.slice A7 (l.map (fun e=>(msgS e).1)).length c7,.int .i64 0]);rw[List.length_map,HLEN.out],by rw[HR.out];show SlN _ A7 (l.map (fun e=>(msgS e).1)).length c7 (l.map (fun e=>(msgS e).1));rw[List.length_map,HLEN.out];exact hs7,HB.out⟩
theorem r57_messages(l:List En)(A:Option Addr)(len cap:Nat)(w:World)(hs:SlE w A len cap l)(hlen:len≤4096)(hsm:SmE l):Calls Tryz.prog 24 #[.slice A len cap] w (RetMs (msgsE l) w):=by
 have HLEN:=Hq hs.1;have hcap:=hs.2.1;have hcap2:=hs.2.2.1;have HS:=Hq hs;have HSM:=Hq hsm;clear hs hsm;go_enter Tryz.func24,Tryz.ntmps24;go_wp2;go_loopw [4,5] (fun s i wr=>∃ j:Nat,j≤len∧i=.int .i64 j∧(∀(k:Nat) y,k<j→l[k]? =some y→(msgS y).2=0)∧wr.ownsRow w.heap.size 9 1 s j (msV l j)∧Below w.heap.size w wr) (fun _ i _=>len - (intOf i).toNat);case atStart=>exact⟨0,Nat.zero_le _,rfl,fun k y h=>absurd h (Nat.not_lt_zero _),World.ownsRow_nil _ _ _ _,Below.refl _ _⟩
 case round =>
  obtain⟨j,hj,rfl,hall,hown,hbb⟩:=hrel;have HALL:=Hq hall;have HOWN:=Hq hown;have HB:=Hq hbb;clear hall hown hbb;by_cases hlt:j<len
  · obtain⟨b,o,rfl⟩:=HS.out.head (by omega);obtain⟨x,he⟩:∃ x,l[j]? =some x:=⟨_,List.getElem?_eq_getElem (by rw[HLEN.out];exact hlt)⟩;have HE:=Hq he;obtain⟨c0,c1,c2,c3⟩:=(HS.out.kept HB.out nlr).get? j he;have HMG:=Hq (r57_Message x wr (HSM.out j x he).1 (HSM.out j x he).2);unfold En.val at HMG;obtain⟨r1,r2,hr⟩:∃ r1 r2,msgS x=(r1,r2):=⟨_,_,rfl⟩;have HMR:=Hq hr;rw[hr]at HMG;clear hr he;go_wp2_with fail;refine(show Calls _ _ _ _ _ from HMG.out).mono ?_;rintro ev w2 ⟨rfl,hb2⟩;have HB2:=Hq (HB.out.trans (hb2.mono HB.out.size));have HO2:=Hq (owns_kept HOWN.out hb2 nlr);clear hb2;by_cases hz:r2=0
    · subst hz;have HAL:=Hq (show ∀(i:Nat) y,i<j+1→l[i]? =some y→(msgS y).2=0 from fun i y hi hy=>by
       rcases Nat.lt_or_ge i j with a | a
       · exact HALL.out i y a hy
       · obtain rfl:i=j:=by omega
         rw[HE.out]at hy;cases hy
         rw[HMR.out])
      obtain⟨i0,hi,iz0,iz1,iz2⟩:=info_parts strL_info;have HO3:=Hq (HO2.out.alloc (.cells #[.string r1] 9));have HB3:=Hq (HB2.out.alloc HB2.out.size (.cells #[.string r1] 9));have HN3:=Hq (heap_alloc_new w2 (.cells #[.string r1] 9));go_wp2_with (at_builtin;refine(wpList_append_lies _ rfl (.tmp 28) (.tmp 30) 45 rfl w.heap.size 9 i0 _ 1 16 Tryz.underlying45 hi iz0 iz1 iz2 rfl (by decide) _ j (msV l j) rfl HO3.out ⟨w2.heap.size,0,none⟩ 1 1 [.string r1] rfl rfl (World.news_of_block HN3.out) ?n2 (by decide) ?n3 ?n4 HB3.out.size _ rfl ?_));case n2=>intro u hu;simp only[List.mem_cons,List.mem_nil_iff,or_false]at hu;subst hu;rfl
      case n3=>unfold maxLen;omega
      case n4=>omega
      intro g cap7 w7 hown7 hgrow7 hat7 hlt7;have HB7:=Hq (HB3.out.grown hgrow7 HB3.out.size (fun k e=>(HO3.out.lt k e).1));have HO7:=Hq (show w7.ownsRow w.heap.size 9 1 _ (j+1) (msV l (j+1))from by rw[msV_snoc HE.out,HMR.out];exact hown7);clear hown7 hgrow7 hat7 hlt7 hi iz0 iz1 iz2;go_wp2;go_roundw;case rel=>exact⟨j+1,by omega,by go_num,HAL.out,HO7.out,HB7.out⟩
      case measure=>simp[intOf];omega
    · have hne:(r2 != 0)=true:=by simp[hz]
      have HR:=Hq (show msgsE l=([],r2)from by
       have:=msgsE_bad HE.out (by rw[HMR.out];exact hz) (fun i y hi hy=>HALL.out i y hi hy)
       rw[this,HMR.out])
      go_wp2;go_ret2;exact⟨none,0,by rw[HR.out];rfl,by rw[HR.out];exact SlN.nil _ 0 (by omega) _,HB2.out⟩
  · skip;obtain rfl:j=len:=by omega
    have HR:=Hq (msgsE_good (l:=l) (fun i y hy=>HALL.out i y (by have:=(List.getElem?_eq_some_iff.1 hy).1;have:=HLEN.out;omega) hy));have HOL:=Hq (show wr.ownsRow w.heap.size 9 1 u4 j ((l.map (fun e=>(msgS e).1)).map Value.string)from by have:=HOWN.out;rw[show msV l j=msV l l.length from by rw[HLEN.out],msV_full]at this;exact this);clear hlt hj;go_wp2;go_ret2;obtain⟨hl7,A7,c7,e7,hs7⟩:=SlN.of_owns HOL.out;subst e7;exact⟨A7,c7,by rw[HR.out];show Ending.returned (.tuple #[.slice A7 j c7,.int .i64 0])=.returned (.tuple #[.slice A7 (l.map (fun e=>(msgS e).1)).length c7,.int .i64 0]);rw[List.length_map,HLEN.out],by rw[HR.out];show SlN _ A7 (l.map (fun e=>(msgS e).1)).length c7 (l.map (fun e=>(msgS e).1));rw[List.length_map,HLEN.out];exact hs7,HB.out⟩
set_option maxRecDepth 100000
theorem SlN.takeK{w:World}{A:Option Addr}{n c:Nat}{l:List ByteArray}(h:SlN w A n c l)(k:Nat)(hk:k≤n):SlN w A k c (l.take k):=by
 obtain⟨h1,h2,h3,b,o,h4,h5⟩:=h;refine⟨by rw[List.length_take];omega,by omega,h3,b,o,fun h=>h4 (by omega),fun j s hj=>?_⟩;rw[List.getElem?_take]at hj;split at hj
 · exact h5 j s hj
 · cases hj
theorem SlN.dropK{w:World}{b o n c:Nat}{l:List ByteArray}(h:SlN w (some ⟨b,o,none⟩) n c l)(k:Nat)(hk:k<n):SlN w (some ⟨b,o+k,none⟩) (n - k) (c - k) (l.drop k):=by
 obtain⟨h1,h2,h3,b',o',h4,h5⟩:=h;have:=h4 (by omega);simp only[Option.some.injEq,Addr.mk.injEq,and_true]at this;obtain⟨rfl,rfl⟩:=this;refine⟨by rw[List.length_drop];omega,by omega,by omega,b,o+k,fun _=>rfl,fun j s hj=>?_⟩;rw[List.getElem?_drop]at hj;have:=h5 (k+j) s hj;rw[show o+(k+j)=o+k+j from by omega]at this;exact this
theorem leaf_text(s:ByteArray):((⟨#[0]⟩:ByteArray)++s).data.toList=0::s.data.toList:=by simp[ByteArray.data_append]
theorem node_text(a b:ByteArray):((⟨#[1]⟩:ByteArray)++a++b).data.toList=1::(a.data.toList++b.data.toList):=by simp[ByteArray.data_append]
theorem m_leaf(s:ByteArray)(hs:s.size≤100000000)(w:World):Calls Tryz.prog 46 #[.string s] w (Ret (.string (leafH s)) w):=by
 have HS:=Hq (h_Sum (⟨#[0]⟩++s) (by rw[ByteArray.size_append];have : (⟨#[0]⟩:ByteArray).size=1:=rfl;omega) w);rw[leaf_text]at HS;go_enter Tryz.func46,Tryz.ntmps46;go_wp2_with fail;refine HS.out.mono ?_;rintro e w1 ⟨rfl,hb⟩;have HB:=Hq hb;clear hb;go_wp2;go_ret;exact⟨rfl,HB.out⟩
theorem r34_leaf(s:ByteArray)(hs:s.size≤100000000)(w:World):Calls Tryz.prog 59 #[.string s] w (Ret (.string (leafH s)) w):=by
 have HS:=Hq (r05_Sum (⟨#[0]⟩++s) (by rw[ByteArray.size_append];have : (⟨#[0]⟩:ByteArray).size=1:=rfl;omega) w);rw[leaf_text]at HS;go_enter Tryz.func59,Tryz.ntmps59;go_wp2_with fail;refine HS.out.mono ?_;rintro e w1 ⟨rfl,hb⟩;have HB:=Hq hb;clear hb;go_wp2;go_ret;exact⟨rfl,HB.out⟩
theorem m_node(a b:ByteArray)(ha:a.size≤100000000)(hb:b.size≤100000000)(w:World):Calls Tryz.prog 47 #[.string a,.string b] w (Ret (.string (nodeH a b)) w):=by
 have HS:=Hq (h_Sum (⟨#[1]⟩++a++b) (by rw[ByteArray.size_append,ByteArray.size_append];have : (⟨#[1]⟩:ByteArray).size=1:=rfl;omega) w);rw[node_text]at HS;go_enter Tryz.func47,Tryz.ntmps47;go_wp2_with fail;refine HS.out.mono ?_;rintro e w1 ⟨rfl,hb⟩;have HB:=Hq hb;clear hb;go_wp2;go_ret;exact⟨rfl,HB.out⟩
theorem r34_node(a b:ByteArray)(ha:a.size≤100000000)(hb:b.size≤100000000)(w:World):Calls Tryz.prog 61 #[.string a,.string b] w (Ret (.string (nodeH a b)) w):=by
 have HS:=Hq (r05_Sum (⟨#[1]⟩++a++b) (by rw[ByteArray.size_append,ByteArray.size_append];have : (⟨#[1]⟩:ByteArray).size=1:=rfl;omega) w);rw[node_text]at HS;go_enter Tryz.func61,Tryz.ntmps61;go_wp2_with fail;refine HS.out.mono ?_;rintro e w1 ⟨rfl,hb⟩;have HB:=Hq hb;clear hb;go_wp2;go_ret;exact⟨rfl,HB.out⟩
set_option maxRecDepth 100000
set_option maxHeartbeats 1000000
theorem pow_small{a:Nat}(h:2 ^ a<1000001):a<62:=by
 rcases Nat.lt_or_ge a 62 with c | c
 · exact c
 · have:=Nat.pow_le_pow_right (n:=2) (by omega) c;omega
theorem m_half(n:Nat)(h2:2≤n)(hn:n≤1000000)(w:World):Calls Tryz.prog 38 #[.int .i64 n] w (RetQ (.int .i64 (halfN n)) w):=by
 go_enter Tryz.func38,Tryz.ntmps38;go_wp2
 go_loop [3,4] (fun k i=>∃ j p:Nat,p=2 ^ j∧p<n∧j<62∧k=.int .i64 p∧i=.int .i64 j) (fun k _=>n - (intOf k).toNat)
 case atStart=>exact⟨0,1,rfl,by omega,by omega,rfl,rfl⟩
 case round =>
  obtain⟨j,p,hp,hlt,hj,rfl,rfl⟩:=hrel;have HP:=Hq hp;have hp0:1≤p:=by rw[hp];exact Nat.one_le_two_pow
  clear hp;by_cases hc:n≤2 * p
  · have HH:=Hq (show halfN n=p from by rw[HP.out]at hlt hc⊢;exact halfN_of hlt hc);have hc':(n:Int) - p≤p:=by omega
    go_wp2;go_ret;exact⟨by rw[HH.out];rfl,rfl⟩
  · have hc':¬ ((n:Int) - p≤p):=by omega
    have HN:=Hq (show p * 2=2 ^ (j+1)from by rw[HP.out,Nat.pow_succ]);have hj2:j+1<62:=pow_small (by rw[←HN.out];omega);go_wp2;go_round;case rel=>exact⟨j+1,p * 2,HN.out,by omega,hj2,by go_num,by go_num⟩
    case measure=>simp[intOf];omega
theorem r34_half(n:Nat)(h2:2≤n)(hn:n≤1000000)(w:World):Calls Tryz.prog 60 #[.int .i64 n] w (RetQ (.int .i64 (halfN n)) w):=by
 go_enter Tryz.func60,Tryz.ntmps60;go_wp2
 go_loop [3] (fun k=>∃ j p:Nat,p=2 ^ j∧p<n∧k=.int .i64 p) (fun k=>n - (intOf k).toNat)
 case atStart=>exact⟨0,1,rfl,by omega,rfl⟩
 case round =>
  obtain⟨j,p,hp,hlt,rfl⟩:=hrel;have HP:=Hq hp;have hp0:1≤p:=by rw[hp];exact Nat.one_le_two_pow
  clear hp;by_cases hc:n≤2 * p
  · have HH:=Hq (show halfN n=p from by rw[HP.out]at hlt hc⊢;exact halfN_of hlt hc);have hc':¬ (2 * (p:Int)<n):=by omega
    go_wp2;go_ret;exact⟨by rw[HH.out];rfl,rfl⟩
  · have hc':2 * (p:Int)<n:=by omega
    have HN:=Hq (show 2 * p=2 ^ (j+1)from by rw[HP.out,Nat.pow_succ,Nat.mul_comm]);go_wp2;go_round;case rel=>exact⟨j+1,2 * p,HN.out,by omega,by go_num⟩
    case measure=>simp[intOf];omega
set_option maxRecDepth 100000
set_option maxHeartbeats 4000000
theorem rootL_size'(l:List ByteArray):(rootL l).size=32:=by
 have h:∀(f:Nat) (l:List ByteArray),(rootF f l).size=32:=by
  intro f
  induction f with
  | zero=>intro l;unfold rootF;rw[bstr_size,shaL_length]
  | succ f ih =>
   intro l;unfold rootF;split
   · rw[bstr_size,shaL_length]
   · split
     · unfold leafH;rw[bstr_size,shaL_length]
     · unfold nodeH;rw[bstr_size,shaL_length]
 exact h _ _
theorem m_Root:∀(f:Nat) (l:List ByteArray) (A:Option Addr) (n c:Nat) (w:World),l.length≤f→n≤4096→(∀ s∈l,s.size≤1000000)→SlN w A n c l→Calls Tryz.prog 21 #[.slice A n c] w (Ret (.string (rootL l)) w):=by
 intro f
 induction f with
 | zero =>
  intro l A n c w hf hn hsz hs;have hl:l=[]:=List.length_eq_zero_iff.1 (by omega);subst hl;obtain rfl:n=0:=hs.1.symm;have HS:=Hq (h_Sum ⟨#[]⟩ (by decide) w);rw[show (⟨#[]⟩:ByteArray).data.toList=[]from rfl]at HS;have HR:=Hq rootL_nil;clear hs hsz;go_enter Tryz.func21,Tryz.ntmps21;go_wp2_with fail;refine HS.out.mono ?_;rintro e w1 ⟨rfl,hb⟩;have HB:=Hq hb;clear hb;go_wp2;go_ret;exact⟨by rw[HR.out];rfl,HB.out⟩
 | succ f ih =>
  intro l A n c w hf hn hsz hs;have hcap:=hs.2.1;have hcap2:=hs.2.2.1;have HLEN:=Hq hs.1;rcases Nat.lt_or_ge n 2 with h2 | h2
  · rcases Nat.lt_or_ge n 1 with h1 | h1
    · have hl:l=[]:=List.length_eq_zero_iff.1 (by have:=hs.1;omega);subst hl;obtain rfl:n=0:=hs.1.symm;have HS:=Hq (h_Sum ⟨#[]⟩ (by decide) w);rw[show (⟨#[]⟩:ByteArray).data.toList=[]from rfl]at HS;have HR:=Hq rootL_nil;clear hs hsz ih;go_enter Tryz.func21,Tryz.ntmps21;go_wp2_with fail;refine HS.out.mono ?_;rintro e w1 ⟨rfl,hb⟩;have HB:=Hq hb;clear hb;go_wp2;go_ret;exact⟨by rw[HR.out];rfl,HB.out⟩
    · obtain rfl:n=1:=by omega
      obtain⟨x,hx⟩:∃ x,l=[x]:=List.length_eq_one_iff.1 hs.1;subst hx;obtain⟨b,o,rfl⟩:=hs.head (by omega);have hc0:w.cell? ⟨b,o,none⟩=some (.string x):=hs.get? 0 rfl;have HS:=Hq (m_leaf x (by have:=hsz x (by simp);omega) w);have HR:=Hq (rootL_one x);clear hs hsz ih;go_enter Tryz.func21,Tryz.ntmps21;go_wp2_with fail;refine HS.out.mono ?_;rintro e w1 ⟨rfl,hb⟩;have HB:=Hq hb;clear hb;go_wp2;go_ret;exact⟨by rw[HR.out];rfl,HB.out⟩
  · obtain⟨b,o,rfl⟩:=hs.head (by omega);have HR:=Hq (rootL_more (l:=l) (by have:=hs.1;omega));have HH:=Hq (m_half n h2 (by omega));have hk1:=halfN_pos n;have hk2:=halfN_lt h2;rw[HLEN.out]at HR;obtain⟨k,hk⟩:∃ k,halfN n=k:=⟨_,rfl⟩;rw[hk]at HR HH hk1 hk2;have HS1:=Hq (fun W (hb:Below w.heap.size w W)=>ih (l.take k) (some ⟨b,o,none⟩) k c W (by rw[List.length_take];have:=HLEN.out;omega) (by omega) (fun s h=>hsz s (List.mem_of_mem_take h)) ((hs.takeK k (by omega)).kept hb nlr));have HS2:=Hq (fun W (hb:Below w.heap.size w W)=>ih (l.drop k) (some ⟨b,o+k,none⟩) (n - k) (c - k) W (by rw[List.length_drop];have:=HLEN.out;omega) (by omega) (fun s h=>hsz s (List.mem_of_mem_drop h)) ((hs.dropK k (by omega)).kept hb nlr));have HN:=Hq (m_node (rootL (l.take k)) (rootL (l.drop k)) (by rw[rootL_size'];omega) (by rw[rootL_size'];omega));rw[←HR.out]at HN;obtain⟨r1,hr1⟩:∃ r,rootL (l.take k)=r:=⟨_,rfl⟩;obtain⟨r2,hr2⟩:∃ r,rootL (l.drop k)=r:=⟨_,rfl⟩;obtain⟨r,hr⟩:∃ r,rootL l=r:=⟨_,rfl⟩;rw[hr1]at HS1;rw[hr2]at HS2;rw[hr1,hr2,hr]at HN;rw[hr];have hkc:k≤c:=by omega
    have hkn:k≤n:=by omega
    have hck:¬ c=k:=by omega
    clear hs hsz ih hk hr1 hr2 hr HR hf;go_enter Tryz.func21,Tryz.ntmps21;go_wp2_with fail;refine(HH.out _).mono ?_;rintro e w1 ⟨rfl,rfl⟩;go_wp2;refine wp_region_K 10 (Below (w.drew).heap.size (w.drew)) (by kernel_rfl) ?_;intro hD;refine rP 0 18 9 rfl hD blr ?_;clear hD;intro hD;refine rP 1 19 8 rfl hD blr ?_;clear hD;intro hD;refine rP 2 20 7 rfl hD blr ?_;clear hD;intro hD;refine rP 4 22 6 rfl hD blr ?_;clear hD;intro hD;refine rP 5 23 5 rfl hD blr ?_;clear hD;intro hD;refine rP 6 24 4 rfl hD blr ?_;clear hD;intro hD;simp only[Act.put,sqA,sqB,sqC];refine rO 3 3 rfl hD ?_;clear hD;intro K3 hK3;go_wp2_with fail;refine(HS1.out _ ((blr).drew)).mono ?_;rintro ev w2 ⟨rfl,hb⟩;have HB3:=Hq hb;clear hb;go_wp2;refine hK3 _ _ (by exact HB3.out) ?_;clear hK3;intro hS_7_3 hD;refine rO 7 2 rfl hD ?_;clear hD;intro K7 hK7;go_wp2_with fail;refine(HS2.out _ (((blr).drew).trans (hS_7_3.mono nlr))).mono ?_;rintro ev w3 ⟨rfl,hb⟩;have HB7:=Hq hb;clear hb;go_wp2;refine hK7 _ _ (by exact Below.trans hS_7_3 (Below.mono HB7.out (Below.size hS_7_3))) ?_;clear hK7;intro hS_7_7 hD;refine rO 8 1 rfl hD ?_;clear hD;intro K8 hK8;go_wp2_with fail;refine(HN.out _).mono ?_;rintro ev w4 ⟨rfl,hb⟩;have HB8:=Hq hb;clear hb;go_wp2;refine hK8 _ _ (by exact Below.trans hS_7_7 (Below.mono HB8.out (Below.size hS_7_7))) ?_;clear hK8;intro hS_7_8 hD;refine rO 9 0 rfl hD ?_;clear hD;intro K9 hK9;go_wp2;refine hK9 _ _ (by exact hS_7_8) ?_;clear hK9;intro hS_7_9 hD;refine wpD ?_;have HL:=Hq hS_7_9;clear hD;go_wp2;go_ret;exact⟨rfl,((blr).drew).trans (HL.out.mono nlr)⟩
theorem r34_Root:∀(f:Nat) (l:List ByteArray) (A:Option Addr) (n c:Nat) (w:World),l.length≤f→n≤4096→(∀ s∈l,s.size≤1000000)→SlN w A n c l→Calls Tryz.prog 25 #[.slice A n c] w (Ret (.string (rootL l)) w):=by
 intro f
 induction f with
 | zero =>
  intro l A n c w hf hn hsz hs;have hl:l=[]:=List.length_eq_zero_iff.1 (by omega);subst hl;obtain rfl:n=0:=hs.1.symm;have HS:=Hq (r05_Sum ⟨#[]⟩ (by decide) w);rw[show (⟨#[]⟩:ByteArray).data.toList=[]from rfl]at HS;have HR:=Hq rootL_nil;clear hs hsz;go_enter Tryz.func25,Tryz.ntmps25;go_wp2_with fail;refine HS.out.mono ?_;rintro e w1 ⟨rfl,hb⟩;have HB:=Hq hb;clear hb;go_wp2;go_ret;exact⟨by rw[HR.out];rfl,HB.out⟩
 | succ f ih =>
  intro l A n c w hf hn hsz hs;have hcap:=hs.2.1;have hcap2:=hs.2.2.1;have HLEN:=Hq hs.1;rcases Nat.lt_or_ge n 2 with h2 | h2
  · rcases Nat.lt_or_ge n 1 with h1 | h1
    · have hl:l=[]:=List.length_eq_zero_iff.1 (by have:=hs.1;omega);subst hl;obtain rfl:n=0:=hs.1.symm;have HS:=Hq (r05_Sum ⟨#[]⟩ (by decide) w);rw[show (⟨#[]⟩:ByteArray).data.toList=[]from rfl]at HS;have HR:=Hq rootL_nil;clear hs hsz ih;go_enter Tryz.func25,Tryz.ntmps25;go_wp2_with fail;refine HS.out.mono ?_;rintro e w1 ⟨rfl,hb⟩;have HB:=Hq hb;clear hb;go_wp2;go_ret;exact⟨by rw[HR.out];rfl,HB.out⟩
    · obtain rfl:n=1:=by omega
      obtain⟨x,hx⟩:∃ x,l=[x]:=List.length_eq_one_iff.1 hs.1;subst hx;obtain⟨b,o,rfl⟩:=hs.head (by omega);have hc0:w.cell? ⟨b,o,none⟩=some (.string x):=hs.get? 0 rfl;have HS:=Hq (r34_leaf x (by have:=hsz x (by simp);omega) w);have HR:=Hq (rootL_one x);clear hs hsz ih;go_enter Tryz.func25,Tryz.ntmps25;go_wp2_with fail;refine HS.out.mono ?_;rintro e w1 ⟨rfl,hb⟩;have HB:=Hq hb;clear hb;go_wp2;go_ret;exact⟨by rw[HR.out];rfl,HB.out⟩
  · obtain⟨b,o,rfl⟩:=hs.head (by omega);have HR:=Hq (rootL_more (l:=l) (by have:=hs.1;omega));have HH:=Hq (r34_half n h2 (by omega));have hk1:=halfN_pos n;have hk2:=halfN_lt h2;rw[HLEN.out]at HR;obtain⟨k,hk⟩:∃ k,halfN n=k:=⟨_,rfl⟩;rw[hk]at HR HH hk1 hk2;have HS1:=Hq (fun W (hb:Below w.heap.size w W)=>ih (l.take k) (some ⟨b,o,none⟩) k c W (by rw[List.length_take];have:=HLEN.out;omega) (by omega) (fun s h=>hsz s (List.mem_of_mem_take h)) ((hs.takeK k (by omega)).kept hb nlr));have HS2:=Hq (fun W (hb:Below w.heap.size w W)=>ih (l.drop k) (some ⟨b,o+k,none⟩) (n - k) (c - k) W (by rw[List.length_drop];have:=HLEN.out;omega) (by omega) (fun s h=>hsz s (List.mem_of_mem_drop h)) ((hs.dropK k (by omega)).kept hb nlr));have HN:=Hq (r34_node (rootL (l.take k)) (rootL (l.drop k)) (by rw[rootL_size'];omega) (by rw[rootL_size'];omega));rw[←HR.out]at HN;obtain⟨r1,hr1⟩:∃ r,rootL (l.take k)=r:=⟨_,rfl⟩;obtain⟨r2,hr2⟩:∃ r,rootL (l.drop k)=r:=⟨_,rfl⟩;obtain⟨r,hr⟩:∃ r,rootL l=r:=⟨_,rfl⟩;rw[hr1]at HS1;rw[hr2]at HS2;rw[hr1,hr2,hr]at HN;rw[hr];have hkc:k≤c:=by omega
    have hkn:k≤n:=by omega
    have hck:¬ c=k:=by omega
    clear hs hsz ih hk hr1 hr2 hr HR hf;go_enter Tryz.func25,Tryz.ntmps25;go_wp2_with fail;refine(HH.out _).mono ?_;rintro e w1 ⟨rfl,rfl⟩;go_wp2;refine wp_region_K 10 (Below (w.drew).heap.size (w.drew)) (by kernel_rfl) ?_;intro hD;refine rP 0 18 9 rfl hD blr ?_;clear hD;intro hD;refine rP 1 19 8 rfl hD blr ?_;clear hD;intro hD;refine rP 2 20 7 rfl hD blr ?_;clear hD;intro hD;refine rP 4 22 6 rfl hD blr ?_;clear hD;intro hD;refine rP 5 23 5 rfl hD blr ?_;clear hD;intro hD;refine rP 6 24 4 rfl hD blr ?_;clear hD;intro hD;simp only[Act.put,sqA,sqB,sqC];refine rO 3 3 rfl hD ?_;clear hD;intro K3 hK3;go_wp2_with fail;refine(HS1.out _ ((blr).drew)).mono ?_;rintro ev w2 ⟨rfl,hb⟩;have HB3:=Hq hb;clear hb;go_wp2;refine hK3 _ _ (by exact HB3.out) ?_;clear hK3;intro hS_7_3 hD;refine rO 7 2 rfl hD ?_;clear hD;intro K7 hK7;go_wp2_with fail;refine(HS2.out _ (((blr).drew).trans (hS_7_3.mono nlr))).mono ?_;rintro ev w3 ⟨rfl,hb⟩;have HB7:=Hq hb;clear hb;go_wp2;refine hK7 _ _ (by exact Below.trans hS_7_3 (Below.mono HB7.out (Below.size hS_7_3))) ?_;clear hK7;intro hS_7_7 hD;refine rO 8 1 rfl hD ?_;clear hD;intro K8 hK8;go_wp2_with fail;refine(HN.out _).mono ?_;rintro ev w4 ⟨rfl,hb⟩;have HB8:=Hq hb;clear hb;go_wp2;refine hK8 _ _ (by exact Below.trans hS_7_7 (Below.mono HB8.out (Below.size hS_7_7))) ?_;clear hK8;intro hS_7_8 hD;refine rO 9 0 rfl hD ?_;clear hD;intro K9 hK9;go_wp2;refine hK9 _ _ (by exact hS_7_8) ?_;clear hK9;intro hS_7_9 hD;refine wpD ?_;have HL:=Hq hS_7_9;clear hD;go_wp2;go_ret;exact⟨rfl,((blr).drew).trans (HL.out.mono nlr)⟩
end Go.Proofs.YtopmeciihijgiaaGreatDoor

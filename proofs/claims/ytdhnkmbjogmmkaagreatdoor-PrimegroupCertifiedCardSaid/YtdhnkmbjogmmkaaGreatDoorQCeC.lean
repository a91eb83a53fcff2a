import Derived.Test.YtdhnkmbjogmmkaaGreatDoorQCeA
import Derived.Test.YtdhnkmbjogmmkaaGreatDoorQMrC
set_option linter.unusedVariables false
set_option linter.unusedSimpArgs false
namespace Go.Proofs.YtdhnkmbjogmmkaaGreatDoor
set_option maxRecDepth 100000
open Go.RowKit
theorem ce_less(n:Nat)(h1:1≤n)(hn:n<256 ^ 128)(w:World):Calls Tryz.prog 51 #[.string (nS n)] w (Ret (.string (nS (n - 1))) w):=by
 have HS:=Hq (nat_Sub_ge n 1 hn (by decide) h1);obtain⟨s,hs⟩:∃ s,nS n=s:=⟨_,rfl⟩;obtain⟨t,ht⟩:∃ t,nS (n - 1)=t:=⟨_,rfl⟩;rw[hs,ht]at HS;rw[hs,ht];clear hs ht h1 hn;go_enter Tryz.func51,Tryz.ntmps51;go_wp2_with fail;refine(nat_Of 1 (by decide) _).mono ?_;rintro e w1 ⟨rfl,hb1⟩;have HB1:=Hq hb1;clear hb1;go_wp2_with fail;refine(HS.out _).mono ?_;rintro e w2 ⟨rfl,hb2⟩;have HB2:=Hq (HB1.out.trans (hb2.mono HB1.out.size));clear hb2;go_wp2;go_ret;exact⟨rfl,HB2.out⟩
theorem nS_empty_dec(n:Nat):(nS n).toList.isEmpty=decide (n=0):=by
 cases e:decide (n=0)with
 | true=>rw[of_decide_eq_true e];exact sempty_true rfl
 | false=>exact empty_nS (by have:=of_decide_eq_false e;omega)
theorem ce_divide(a b:Nat)(ha:a<256 ^ 128)(hb:b<256 ^ 128)(h0:0<b)(w:World):Calls Tryz.prog 52 #[.string (nS a),.string (nS b)] w (Ret (.tuple #[.string (nS (a / b)),.bool (decide (a%b=0))]) w):=by
 have HD:=Hq (nat_DivModA a b ha hb h0);have HZ:=Hq (nS_empty_dec (a%b));obtain⟨s,hs⟩:∃ s,nS a=s:=⟨_,rfl⟩;obtain⟨t,ht⟩:∃ t,nS b=t:=⟨_,rfl⟩;obtain⟨q,hq⟩:∃ t,nS (a / b)=t:=⟨_,rfl⟩;obtain⟨r,hr⟩:∃ t,nS (a%b)=t:=⟨_,rfl⟩;rw[hs,ht,hq,hr]at HD;rw[hr]at HZ;rw[hs,ht,hq,←HZ.out];clear hs ht hq hr ha hb h0;go_enter Tryz.func52,Tryz.ntmps52;go_wp2_with fail;refine(HD.out _).mono ?_;rintro e w2 ⟨rfl,hb2⟩;have HB2:=Hq hb2;clear hb2;go_wp2;go_ret2;exact⟨rfl,HB2.out⟩
theorem cmpI_pos{a b:Nat}:0<cmpI a b↔b<a:=by
 unfold cmpI;split
 · omega
 · split<;>omega
theorem ce_enough(f n:Nat)(hf:f<256 ^ 128)(hn:n<256 ^ 128)(w:World):Calls Tryz.prog 53 #[.string (nS f),.string (nS n)] w (Ret (.bool (decide (n<f * f))) w):=by
 have HM:=Hq (nat_MulA f f hf hf);by_cases hs:f * f<256 ^ 128
 · rw[show fitR (f * f)=.tuple #[.string (nS (f * f)),.int .i64 0]from by unfold fitR;rw[if_pos hs]]at HM;have HC:=Hq (nat_Cmp (nS (f * f)) (nS n) (by have:=nS_size_le.2 hs;omega) (by have:=nS_size_le.2 hn;omega));rw[ncmp_n hs hn]at HC;have HP:=Hq (show decide (0<cmpI (f * f) n)=decide (n<f * f)from decide_eq_decide.2 cmpI_pos);obtain⟨c,hc⟩:∃ c,cmpI (f * f) n=c:=⟨_,rfl⟩;rw[hc]at HC HP;obtain⟨s,hs⟩:∃ s,nS f=s:=⟨_,rfl⟩;obtain⟨t,ht⟩:∃ t,nS n=t:=⟨_,rfl⟩;obtain⟨q,hq⟩:∃ t,nS (f * f)=t:=⟨_,rfl⟩;rw[hs,hq]at HM;rw[hq,ht]at HC;rw[hs,ht,←HP.out];clear hs ht hq hc hf hn;go_enter Tryz.func53,Tryz.ntmps53;go_wp2_with fail;refine(HM.out _).mono ?_;rintro e w2 ⟨rfl,hb2⟩;have HB2:=Hq hb2;clear hb2;go_wp2_with fail;refine(HC.out _).mono ?_;rintro e w2 ⟨rfl,rfl⟩;go_wp2;go_ret;exact⟨rfl,HB2.out⟩
 · rw[show fitR (f * f)=.tuple #[.string ⟨#[]⟩,.int .i64 5]from by unfold fitR;rw[if_neg hs]]at HM;rw[show decide (n<f * f)=true from decide_eq_true (by omega)];obtain⟨s,hs⟩:∃ s,nS f=s:=⟨_,rfl⟩;obtain⟨t,ht⟩:∃ t,nS n=t:=⟨_,rfl⟩;rw[hs]at HM;rw[hs,ht];clear hs ht hf hn;go_enter Tryz.func53,Tryz.ntmps53;go_wp2_with fail;refine(HM.out _).mono ?_;rintro e w2 ⟨rfl,hb2⟩;have HB2:=Hq hb2;clear hb2;go_wp2;go_ret;exact⟨rfl,HB2.out⟩
theorem size_big{n:Nat}(h:18446744073709551616≤n):8<(nS n).size:=by
 rcases Nat.lt_or_ge 8 (nS n).size with h' | h'
 · exact h'
 · exact absurd (nS_size_le.1 h') (Nat.not_lt.2 h)
theorem prime_smallL(n:Nat)(hn:n<256 ^ 128)(h:18446744073709551616≤n)(w:World):Calls Tryz.prog 46 #[.string (nS n)] w (RetQ (.tuple #[.int .u64 0,.int .i64 5]) w):=by
 have hs:=nS_size_le.2 hn;have HV:=Hq (nat_Valid (nS n) (by omega));rw[nvalid_nS.2 hn]at HV;have HS:=Hq (nat_Small_no (nS n) (by omega) (.inr ⟨nvalid_nS.2 hn,size_big h⟩));obtain⟨s,hs⟩:∃ s,nS n=s:=⟨_,rfl⟩;rw[hs]at HV HS;rw[hs];clear hs hn h;go_enter Tryz.func46,Tryz.ntmps46;go_wp2_with fail;refine(HV.out _).mono ?_;rintro e w1 ⟨rfl,rfl⟩;go_wp2_with fail;refine(HS.out _).mono ?_;rintro e w1 ⟨rfl,rfl⟩;go_wp2;go_ret2;exact⟨rfl,rfl⟩
theorem prime_IsL(n:Nat)(hn:n<256 ^ 128)(h:18446744073709551616≤n)(w:World):Calls Tryz.prog 30 #[.string (nS n)] w (RetQ (.tuple #[.bool false,.int .i64 5]) w):=by
 have HS:=Hq (prime_smallL n hn h);obtain⟨s,hs⟩:∃ s,nS n=s:=⟨_,rfl⟩;rw[hs]at HS;rw[hs];clear hs hn h;go_enter Tryz.func30,Tryz.ntmps30;go_wp2_with fail;refine(HS.out _).mono ?_;rintro e w1 ⟨rfl,rfl⟩;go_wp2;go_ret2;exact⟨rfl,rfl⟩
theorem ce_tiny(n:Nat)(hn:n<256 ^ 128)(w:World)(ht:TabAt w):Calls Tryz.prog 50 #[.string (nS n)] w (Ret (.bool (decide (n<65536)&&isN n)) w):=by
 rcases Nat.lt_or_ge n 18446744073709551616 with h | h
 · have HS:=Hq (nat_Small_n n h);have HI:=Hq (prime_Is_t n h (isN n) (fun w ht=>prime_is_n n h w ht) w ht);have HL:=Hq (show decide ((n:Int)<65536)=decide (n<65536)from decide_eq_decide.2 (by omega));obtain⟨s,hs⟩:∃ s,nS n=s:=⟨_,rfl⟩;rw[hs]at HS HI;rw[hs];obtain⟨b,hb⟩:∃ b,isN n=b:=⟨_,rfl⟩;rw[hb]at HI;rw[hb,←HL.out];obtain⟨k,hk⟩:∃ k:Int,(n:Int)=k:=⟨_,rfl⟩;rw[hk]at HS;rw[hk];clear hs hn h hb ht HL hk;go_enter Tryz.func50,Tryz.ntmps50;go_wp2_with fail;refine(HS.out _).mono ?_;rintro e w1 ⟨rfl,rfl⟩;go_wp2_with fail;refine HI.out.mono ?_;rintro e w2 ⟨rfl,hb2⟩;have HB2:=Hq hb2;clear hb2;by_cases hlt:k<65536
   · have hd:decide (k<65536)=true:=decide_eq_true hlt;have HD:=Hq hlt;go_wp2;go_ret;exact⟨by show Ending.returned (.bool b)=Ending.returned (.bool (decide (k<65536)&&b));rw[decide_eq_true HD.out,Bool.true_and],HB2.out⟩
   · have hd:decide (k<65536)=false:=decide_eq_false hlt;have HD:=Hq hlt;go_wp2;go_ret;exact⟨by show Ending.returned (.bool false)=Ending.returned (.bool (decide (k<65536)&&b));rw[decide_eq_false (show ¬ k<65536 by have:=HD.out;omega),Bool.false_and],HB2.out⟩
 · have hs:=nS_size_le.2 hn;have HS:=Hq (nat_Small_no (nS n) (by omega) (.inr ⟨nvalid_nS.2 hn,size_big h⟩));have HI:=Hq (prime_IsL n hn h);rw[show decide (n<65536)=false from decide_eq_false (by omega),Bool.false_and];obtain⟨s,hs⟩:∃ s,nS n=s:=⟨_,rfl⟩;rw[hs]at HS HI;rw[hs];clear hs hn h ht;go_enter Tryz.func50,Tryz.ntmps50;go_wp2_with fail;refine(HS.out _).mono ?_;rintro e w1 ⟨rfl,rfl⟩;go_wp2_with fail;refine(HI.out _).mono ?_;rintro e w2 ⟨rfl,rfl⟩;go_wp2;go_ret;exact⟨rfl,Below.refl _ _⟩
set_option maxRecDepth 100000
set_option maxHeartbeats 4000000
def svNum:Value→Nat | .string s=>num s | _=>0
theorem svNum_nS(n:Nat):svNum (.string (nS n))=n:=num_nS n
structure FacL (l:List ByteArray) (fs:List Nat):Prop where
 eq:l=fs.map nS
 two:∀ x∈fs,2≤x
 lt:∀ x∈fs,x<256 ^ 128
theorem FacL.at{l:List ByteArray}{fs:List Nat}(h:FacL l fs){k f:Nat}(hk:fs[k]? =some f):l[k]? =some (nS f)∧2≤f∧f<256 ^ 128:=by
 rw[h.eq,List.getElem?_map,hk];exact⟨rfl,h.two f (List.mem_of_getElem? hk),h.lt f (List.mem_of_getElem? hk)⟩
structure PtI (n f R O r o:Nat):Prop where
 cut:Cut f R O r o
 mul:r * o=n
theorem PtI.lt{n f R O r o:Nat}(h:PtI n f R O r o)(hN:0<n∧n<256 ^ 128):r<256 ^ 128∧o<256 ^ 128∧0<r:=by
 obtain⟨hn0,hn⟩:=hN;have h0:=h.cut.pos;have hm:=h.mul;refine⟨?_,?_,h0⟩
 · rcases Nat.eq_zero_or_pos o with z | z
   · rw[z,Nat.mul_zero]at hm;omega
   · exact Nat.lt_of_le_of_lt (by rw[←hm];exact Nat.le_mul_of_pos_right _ z) hn
 · exact Nat.lt_of_le_of_lt (by rw[←hm];exact Nat.le_mul_of_pos_left _ h0) hn
theorem PtI.next{n f R O r o:Nat}(h:PtI n f R O r o)(hf:2≤f)(hd:r%f=0):PtI n f R O (r / f) (o * f)∧r / f<r:=by
 obtain⟨a,b⟩:=h.cut.next hf hd;refine⟨⟨a,?_⟩,b⟩;rw[a.mul,←h.cut.mul];exact h.mul
theorem SlN.cellP{w:World}{A:Option Addr}{len cap:Nat}{l:List ByteArray}(h:SlN w A len cap l){k:Nat}{s:ByteArray}(hk:l[k]? =some s):∃ b o,A=some ⟨b,o,none⟩∧w.cell? ⟨b,o+k,none⟩=some (.string s):=by
 obtain⟨h1,_,_,b,o,h4,h5⟩:=h;have:=(List.getElem?_eq_some_iff.1 hk).1;exact⟨b,o,h4 (by omega),h5 k s hk⟩
theorem ce_part(n:Nat)(fs:List Nat)(l:List ByteArray)(A:Option Addr)(len cap:Nat)(h0:0<n)(hn:n<256 ^ 128)(hl:FacL l fs)(w:World)(hs:SlN w A len cap l):Calls Tryz.prog 54 #[.string (nS n),.slice A len cap] w (Ret (.string (nS (partN n fs).2)) w):=by
 have HS:=Hq hs;have HL:=Hq hl;have HLEN:=Hq (show fs.length=len from by rw[←hs.1,hl.eq,List.length_map]);have hcap:=hs.2.1;have hcap2:=hs.2.2.1;have HN:=Hq (And.intro h0 hn);have HPM:=Hq (fun j=>part_mul h0 (fs.take j) (fun x hx=>hl.two x (List.mem_of_mem_take hx)));clear hs hl h0 hn;go_enter Tryz.func54,Tryz.ntmps54;go_wp2_with fail;refine(nat_Of 1 (by decide) _).mono ?_;rintro e w1 ⟨rfl,hb1⟩;have HB1:=Hq hb1;clear hb1;go_wp2;go_loopw [5,6,15] (fun a b i wr=>∃ j:Nat,j≤len∧i=.int .i64 j∧a=.string (nS (partN n (fs.take j)).1)∧b=.string (nS (partN n (fs.take j)).2)∧Below w.heap.size w wr) (fun _ _ i _=>len - (intOf i).toNat);case atStart=>exact⟨0,Nat.zero_le _,rfl,by rw[List.take_zero];rfl,by rw[List.take_zero];rfl,HB1.out⟩
 case round =>
  obtain⟨j,hj,rfl,rfl,rfl,hbw⟩:=hrel;have HBW:=Hq hbw;clear hbw;by_cases hlt:j<len
  · obtain⟨f,he⟩:∃ f,fs[j]? =some f:=⟨_,List.getElem?_eq_getElem (by rw[HLEN.out];exact hlt)⟩;obtain⟨hlj,hf2,hfl⟩:=HL.out.at he;obtain⟨b,o,rfl,x0⟩:=(HS.out.kept HBW.out nlr).cellP hlj;have HPT:=Hq (part_take (m:=n) he);have HPJ:=Hq (HPM.out j);obtain⟨R,hR⟩:∃ u,(partN n (fs.take j)).1=u:=⟨_,rfl⟩;obtain⟨O,hO⟩:∃ u,(partN n (fs.take j)).2=u:=⟨_,rfl⟩;have HPE:=Hq (show ptS (partN n (fs.take j)) f=((cutN f R R).1,O * (cutN f R R).2)from by unfold ptS;rw[hR,hO]);rw[hR,hO]at HPJ⊢;have HF:=Hq (And.intro hf2 hfl);clear hlj he hR hO hf2 hfl;go_wp2;clear x0;go_loopw [5,6] (fun a b wi=>∃ r q:Nat,a=.string (nS r)∧b=.string (nS q)∧PtI n f R O r q∧Below w.heap.size w wi) (fun a _ _=>svNum a);case atStart=>exact⟨R,O,rfl,rfl,⟨Cut.start HPJ.out.2,HPJ.out.1⟩,HBW.out⟩
    case round =>
     obtain⟨r,q,rfl,rfl,hp,hbi⟩:=hrel;have HBI:=Hq hbi;have HP:=Hq hp;obtain⟨hr1,hq1,hr0⟩:=hp.lt HN.out;have HD:=Hq (ce_divide r f hr1 HF.out.2 (by have:=HF.out.1;omega));clear hbi hp hr1 hq1 hr0;by_cases hd:r%f=0
     · obtain⟨hp2,hlt2⟩:=HP.out.next HF.out.1 hd;have HM:=Hq (nat_MulA q f (HP.out.lt HN.out).2.1 HF.out.2);rw[show fitR (q * f)=.tuple #[.string (nS (q * f)),.int .i64 0]from by unfold fitR;rw[if_pos (hp2.lt HN.out).2.1]]at HM;rw[decide_eq_true hd]at HD;have HP2:=Hq hp2;have HLT:=Hq hlt2;clear hd hp2 hlt2;go_wp2_with fail;refine(HD.out _).mono ?_;rintro e w2 ⟨rfl,hb2⟩;have HB2:=Hq (HBI.out.trans (hb2.mono HBI.out.size));clear hb2;go_wp2_with fail;refine(HM.out _).mono ?_;rintro e w3 ⟨rfl,hb3⟩;have HB3:=Hq (HB2.out.trans (hb3.mono HB2.out.size));clear hb3;go_wp2;go_roundw;case rel=>exact⟨r / f,q * f,rfl,rfl,HP2.out,HB3.out⟩
       case measure=>rw[svNum_nS,svNum_nS];exact HLT.out
     · rw[decide_eq_false hd]at HD;have HST:=Hq (HP.out.cut.stop hd);clear hd;go_wp2_with fail;refine(HD.out _).mono ?_;rintro e w2 ⟨rfl,hb2⟩;have HB2:=Hq (HBI.out.trans (hb2.mono HBI.out.size));clear hb2;go_wp2;go_roundw;case rel=>exact⟨j+1,by omega,by go_num,by rw[HPT.out,HPE.out,HST.out.1],by rw[HPT.out,HPE.out,HST.out.2],HB2.out⟩
       case measure=>simp[intOf];omega
  · obtain rfl:j=len:=by omega
    rw[show fs.take j=fs from List.take_of_length_le (by rw[HLEN.out];exact Nat.le_refl _)];go_wp2;go_ret;exact⟨rfl,HBW.out⟩
end Go.Proofs.YtdhnkmbjogmmkaaGreatDoor

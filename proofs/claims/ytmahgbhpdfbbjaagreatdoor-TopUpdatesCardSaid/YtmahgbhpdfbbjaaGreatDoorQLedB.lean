import Derived.Test.YtmahgbhpdfbbjaaGreatDoorQEpF
set_option linter.unusedVariables false
set_option linter.unusedSimpArgs false
namespace Go.Proofs.YtmahgbhpdfbbjaaGreatDoor
set_option maxRecDepth 100000
set_option maxHeartbeats 2000000
open Go.RowKit
theorem ac_valid(l:List ByteArray)(A:Option Addr)(n c:Nat)(w:World)(hs:SlN w A n c l)(hz:SzL l):Calls Tryz.prog 35 #[.slice A n c] w (Ret (.bool (l.all nvalid)) w):=by
 have HSN:=Hq hs;have HNL:=Hq hs.1;have hc1:=hs.2.1;have hc2:=hs.2.2.1;have HZZ:=Hq hz;obtain⟨R,hR⟩:=nm ((l.all nvalid));rw[hR];have HR:=Hq hR;clear hs hz hR;go_enter Tryz.func35,Tryz.ntmps35;go_wp2;go_loopw [7] (fun i wr=>∃ k:Nat,k≤n∧i=.int .i64 k∧(l.take k).all nvalid=true∧Below w.heap.size w wr) (fun i _=>n - (intOf i).toNat);case atStart=>exact⟨0,Nat.zero_le _,rfl,by simp,Below.refl _ _⟩
 case round =>
  obtain⟨k,hk,rfl,hall,hbb⟩:=hrel;have HB:=Hq hbb;have HALL:=Hq hall;clear hbb hall;by_cases hlt:k<n
  · obtain⟨x,he⟩:∃ x,l[k]? =some x:=⟨_,List.getElem?_eq_getElem (by rw[HNL.out];exact hlt)⟩;obtain⟨b,o,rfl⟩:=HSN.out.head (by omega);have c0:=(HSN.out.kept HB.out nlr).get? k he;have HXS:=Hq (HZZ.out x (List.mem_of_getElem? he));have HE:=Hq he;clear he
    cases hv:nvalid x with
    | true =>
     have HV:=Hq hv;skip;clear hv;go_wp2_with fail;refine(nat_Valid x HXS.out _).mono ?_;rintro e w2 ⟨rfl,rfl⟩;rw[HV.out];go_wp2;go_roundw;case rel=>exact⟨k+1,by omega,by go_num,all_take HALL.out HE.out HV.out,HB.out⟩
     case measure=>simp[intOf];omega
    | false =>
     have HV:=Hq hv;have HRR:=Hq (show R=false from by rw[←HR.out,all_false HE.out hv]);skip;clear hv;go_wp2_with fail;refine(nat_Valid x HXS.out _).mono ?_;rintro e w2 ⟨rfl,rfl⟩;rw[HV.out];go_wp2;go_ret;exact⟨by rw[HRR.out];rfl,HB.out⟩
  · obtain rfl:k=n:=by omega
    have HRR:=Hq (show R=true from by rw[←HR.out,all_len HALL.out HNL.out]);go_wp2;go_ret;exact⟨by rw[HRR.out];rfl,HB.out⟩
set_option maxRecDepth 100000
set_option maxHeartbeats 4000000
theorem ac_ready(M O:ByteArray)(els hs:List ByteArray)(A B:Option Addr)(n c m d:Nat)(w:World)(hM:M.size≤8)(hO:O.size≤8)
 (hes:SlN w A n c els) (hez:SzL els) (hhs:SlN w B m d hs) (hhz:SzL hs) :
 Calls Tryz.prog 17 #[gV M O,.slice A n c,.slice B m d] w (Ret (.int .i64 (rdyR M O els hs)) w):=by
 have HSE:=Hq hes;have HNL:=Hq hes.1;have hcap:=hes.2.1;have hcap2:=hes.2.2.1;have HSH:=Hq hhs;have HNH:=Hq hhs.1;have hcap3:=hhs.2.1;have hcap4:=hhs.2.2.1;have HFE:=Hq (fun W (hb:Below w.heap.size w W)=>ac_valid els A n c W (hes.kept hb nlr) hez);have HFH:=Hq (fun W (hb:Below w.heap.size w W)=>ac_valid hs B m d W (hhs.kept hb nlr) hhz);have HFG:=Hq (fun W=>ac_valid [M,O] (some ⟨W.heap.size,0,none⟩) 2 2 (W.alloc (.cells #[.string M,.string O] 22)) (sln_alloc W [M,O] 22 (by simp)) (by intro s hs;simp only[List.mem_cons,List.mem_nil_iff,or_false]at hs;rcases hs with rfl | rfl<;>omega));have HAL:=Hq (show [M,O].all nvalid=(nvalid M&&nvalid O)from by simp);obtain⟨RR,hRR⟩:=nm (rdyR M O els hs);rw[hRR];have HRR:=Hq hRR;have HCK:=Hq (pw_Check M O hM hO);have HHS:=Hq (fun x hx=>pw_Has M O x hM hO hx);unfold gV at HCK HHS⊢;obtain⟨W0,hW0⟩:=nm (w.alloc (.cells #[.string M,.string O] 24));have hx0:Bx2 W0 w.heap.size (.string M) (.string O) 24:=by rw[←hW0];exact Bx2.new _ _ _ _
 have hb0:Below w.heap.size w W0:=by rw[←hW0];exact(blr).alloc nlr _
 have HX0:=Hq hx0;have HB0:=Hq hb0;clear hes hRR hez hx0 hb0 hM hO hhs hhz;go_enter Tryz.func17,Tryz.ntmps17;go_wp2_with fail;try rw[hW0]
 clear hW0;refine(HFE.out _ HB0.out).mono ?_;rintro e w1 ⟨rfl,hb⟩;have HX1:=Hq (HX0.out.next hb);have HB1:=bTr HB0 hb;clear hb
 cases hv3:els.all nvalid with
 | false =>
  have HR3:=Hq (show RR=3 from by rw[←HRR.out];exact rdy_form (by rw[hv3];simp));clear hv3;go_wp2;go_ret;exact⟨by rw[HR3.out];rfl,HB1.out⟩
 | true =>
  have HV3:=Hq hv3;have HEV:=Hq (List.all_eq_true.1 hv3);clear hv3;go_wp2_with fail;refine(HFH.out _ HB1.out).mono ?_;rintro e w2 ⟨rfl,hb⟩;have HX2:=Hq (HX1.out.next hb);have HB2:=bTr HB1 hb;clear hb
  cases hv4:hs.all nvalid with
  | false =>
   have HR3:=Hq (show RR=3 from by rw[←HRR.out];exact rdy_form (by rw[hv4];simp));clear hv4;go_wp2;go_ret;exact⟨by rw[HR3.out];rfl,HB2.out⟩
  | true =>
   have HV4:=Hq hv4;clear hv4;have c0:=HX2.out.c0;have c1:=HX2.out.c1;have hba:Below w2.heap.size w2 (w2.alloc (.cells #[.string M,.string O] 22)):=(blr).alloc nlr _;have HX3:=Hq (HX2.out.next hba);have HB3:=bTr HB2 hba;have HFG2:=Hq (HFG.out w2);rw[HAL.out]at HFG2;clear hba;go_wp2_with fail;refine(show Calls _ _ _ _ _ from HFG2.out).mono ?_;rintro e w4 ⟨rfl,hb⟩;have HX4:=Hq (HX3.out.next hb);have HB4:=bTr HB3 hb;clear hb c0 c1
   cases hv1:(nvalid M&&nvalid O)with
   | false =>
    have HR3:=Hq (show RR=3 from by rw[←HRR.out];exact rdy_form (by rw[hv1];rfl));clear hv1;go_wp2;go_ret;exact⟨by rw[HR3.out];rfl,HB4.out⟩
   | true =>
    have HFT:=Hq (show (nvalid M&&nvalid O&&els.all nvalid&&hs.all nvalid)=true from by rw[hv1,HV3.out,HV4.out];rfl);clear hv1;have c0:=HX4.out.c0;have c1:=HX4.out.c1;by_cases hc:chkK M O=0
    · have HCC:=Hq hc;rw[hc]at HCK;have HRZ:=Hq (fun h3=>(HRR.out.symm.trans (rdy_nz HFT.out hc h3)));have HRH:=Hq (fun h3=>(HRR.out.symm.trans (rdy_has HFT.out hc h3)));clear hc;go_wp2_with fail;refine(HCK.out _).mono ?_;rintro e w5 ⟨rfl,hb⟩;have HX5:=Hq (HX4.out.next hb);have HB5:=bTr HB4 hb;clear hb c0 c1;go_wp2;go_loopw [36] (fun i wr=>∃ k:Nat,k≤n∧i=.int .i64 k∧(els.take k).all (fun x=>hasN (num M) (num O) (num x))=true∧Below w5.heap.size w5 wr) (fun i _=>n - (intOf i).toNat);case atStart=>exact⟨0,Nat.zero_le _,rfl,by simp,Below.refl _ _⟩
      case round =>
       obtain⟨k,hk,rfl,hall,hbb⟩:=hrel;have HB:=Hq hbb;have HALL:=Hq hall;clear hbb hall;by_cases hlt:k<n
       · obtain⟨x,he⟩:∃ x,els[k]? =some x:=⟨_,List.getElem?_eq_getElem (by rw[HNL.out];exact hlt)⟩;obtain⟨eb,eo,rfl⟩:=HSE.out.head (by omega);have hbr:=HB5.out.trans (HB.out.mono HB5.out.size);have e0:=(HSE.out.kept hbr nlr).get? k he;have hxr:=HX5.out.next HB.out;have c0:=hxr.c0;have c1:=hxr.c1;have hv:=HEV.out x (List.mem_of_getElem? he);have HH:=Hq (HHS.out x hv);have HBR:=Hq hbr;have hk2:hasK M O x=hasN (num M) (num O) (num x):=by unfold hasK;rw[hv,decide_eq_true HCC.out];simp
         rw[hk2]at HH;have HE:=Hq he;clear he hbr hxr hv hk2
         cases hh:hasN (num M) (num O) (num x)with
         | true =>
          have HHV:=Hq hh;rw[hh]at HH;clear hh;go_wp2_with fail;refine(HH.out _).mono ?_;rintro e w6 ⟨rfl,hb⟩;have HB6:=bTr HB hb;clear hb e0 c0 c1;go_wp2;go_roundw;case rel=>exact⟨k+1,by omega,by go_num,all_take HALL.out HE.out HHV.out,HB6.out⟩
          case measure=>simp[intOf];omega
         | false =>
          have HR3:=Hq (show RR=13 from HRH.out (all_false HE.out hh));rw[hh]at HH;clear hh;go_wp2_with fail;refine(HH.out _).mono ?_;rintro e w6 ⟨rfl,hb⟩;have HB6:=bTr HBR hb;clear hb e0 c0 c1;go_wp2;go_ret;exact⟨by rw[HR3.out];rfl,HB6.out⟩
       · obtain rfl:k=n:=by omega
         have HRN:=Hq (HRZ.out (all_len HALL.out HNL.out));obtain⟨V,hV⟩:∃ V,V=wr:=⟨_,rfl⟩;subst hV;have HBR:=bTr HB5 HB.out;clear hlt hk HB;go_wp2;go_loopw [47] (fun i wr=>∃ k:Nat,k≤m∧i=.int .i64 k∧(hs.take k).all nzB=true∧Below w.heap.size w wr) (fun i _=>m - (intOf i).toNat);case atStart=>exact⟨0,Nat.zero_le _,rfl,by simp,HBR.out⟩
         case round =>
          obtain⟨j,hj,rfl,hall,hbb⟩:=hrel;have HB:=Hq hbb;have HALL2:=Hq hall;clear hbb hall;by_cases hlt2:j<m
          · obtain⟨x,he⟩:∃ x,hs[j]? =some x:=⟨_,List.getElem?_eq_getElem (by rw[HNH.out];exact hlt2)⟩;obtain⟨hb',ho',rfl⟩:=HSH.out.head (by omega);have e0:=(HSH.out.kept HB.out nlr).get? j he;have HE:=Hq he;clear he
            cases hv:nzB x with
            | true =>
             have HV:=Hq hv;have he:=nzB_t hv;clear hv;go_wp2;go_roundw;case rel=>exact⟨j+1,by omega,by go_num,all_take HALL2.out HE.out HV.out,HB.out⟩
             case measure=>simp[intOf];omega
            | false =>
             have HR3:=Hq (show RR=11 from HRN.out.trans (by rw[all_false HE.out hv];rfl));have he:=nzB_f hv;clear hv;go_wp2;go_ret;exact⟨by rw[HR3.out];rfl,HB.out⟩
          · obtain rfl:j=m:=by omega
            have HR3:=Hq (show RR=0 from HRN.out.trans (by rw[all_len HALL2.out HNH.out];rfl));go_wp2;go_ret;exact⟨by rw[HR3.out];rfl,HB.out⟩
    · have HR3:=Hq (show RR=chkK M O from by rw[←HRR.out];exact rdy_chk HFT.out hc);obtain⟨v,hv⟩:=nm (chkK M O);have hvb:(v != 0)=true:=by rw[bne_iff_ne,←hv];exact hc
      rw[hv]at HCK HR3;clear hc hv;go_wp2_with fail;refine(HCK.out _).mono ?_;rintro e w5 ⟨rfl,hb⟩;have HB5:=bTr HB4 hb;clear hb c0 c1;go_wp2;go_ret;exact⟨by rw[HR3.out];rfl,HB5.out⟩
def letterB(c:Int):Bool:=decide (97≤c)&&decide (c≤122)||decide (65≤c)&&decide (c≤90)
def digitB(c:Int):Bool:=decide (48≤c)&&decide (c≤57)
def nchB(c:Int):Bool:=letterB c||(c==95||digitB c)
def kws:List (List UInt8):=[[112,111,108,105,99,121],[117,115,101,115],[114,101,118,101,97,108],[112,114,111,118,101],[115,99,111,112,101],[108,105,109,105,116],[101,115,99,114,111,119],
 [101,110,100],[97,108,108],[97,110,121],[97,116,108,101,97,115,116],[110,111,116],[116,114,117,101],[102,97,108,115,101],[98,101,116,119,101,101,110],[97,110,100],[105,110]]
def kwB(s:ByteArray):Bool:=kws.contains s.data.toList
def nameB(s:ByteArray):Bool:=(decide (s.size≠0)&&decide (s.size≤32))&&(letterB (byteI s.data.toList 0)&&(!kwB s&&(List.range s.size).all fun i=>nchB (byteI s.data.toList i)))
theorem toList_inj{a b:ByteArray}(h:a.toList=b.toList):a=b:=by
 rw[ByteArray.toList_eq,ByteArray.toList_eq]at h;rw[←bstr_of a,←bstr_of b,h]
theorem str_beq_false{a b:ByteArray}(h:a≠b):(a.toList==b.toList)=false:=beq_eq_false_iff_ne.2 fun e=>h (toList_inj e)
structure En where
 kind:Int
 handle:ByteArray
 schema:ByteArray
 epoch:Int
def lowB(h:ByteArray):Bool:=decide (ordB h ⟨#[3]⟩<0)
def formB(e:En):Bool:=nvalid e.handle&&(if e.kind=0 then !lowB e.handle&&nameB e.schema else if e.kind=1 then !lowB e.handle&&e.schema.size==0 else if e.kind=2 then e.handle.size==0&&e.schema.size==0 else false)
abbrev itsE(q:Nat)(h s:ByteArray)(p:Nat):List It:=[.mk 1 ⟨#[]⟩ ⟨#[101,110,116,114,121]⟩ [],.mk 0 (bstr (encN q)) ⟨#[]⟩ [],.mk 0 h ⟨#[]⟩ [],.mk 1 ⟨#[]⟩ s [],.mk 0 (bstr (encN p)) ⟨#[]⟩ []]
def itE(q:Nat)(h s:ByteArray)(p:Nat):It:=.mk 2 ⟨#[]⟩ ⟨#[]⟩ (itsE q h s p)
def msgS(e:En):ByteArray×Int:=if formB e=false then(⟨#[]⟩,3)else if e.epoch<0∨4096<e.epoch then(⟨#[]⟩,2)else encS (itE e.kind.toNat e.handle e.schema e.epoch.toNat)
end Go.Proofs.YtmahgbhpdfbbjaaGreatDoor

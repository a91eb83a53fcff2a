import Derived.Test.YtfbmbledklbfgaaGreatQScz
set_option linter.unusedVariables false
set_option linter.unusedSimpArgs false
namespace Go.Proofs.YtfbmbledklbfgaaGreat
open Go.RowKit
theorem bstr_extract1(l:List UInt8):(bstr l).extract 1 (bstr l).size=bstr (l.drop 1):=by
 rw[bstr_size];unfold bstr;rw[ByteArray.extract_mk];simp;exact List.take_of_length_le (by simp)
set_option maxRecDepth 100000
set_option maxHeartbeats 4000000
open Go.RowKit Go.Lib
theorem r12_Challenge(st O:ByteArray)(hst:st.size≤1000000)(vO:nvalid O=true)(h0:0<num O)(h8:O.size≤8)(w:World) :
 Calls Tryz.prog 111 #[.string st,.string O] w (Ret (.tuple #[.string (nS (chL st.data.toList O.size (num O))),.int .i64 0]) w):=by
 have lO:=num_small h8;have HVA:=Hq (r01_Valid O (by omega));rw[vO]at HVA;have hne:O.toList.isEmpty=false:=by rw[nS_num vO];exact empty_nS h0
 obtain⟨n,hn⟩:∃ n,O.size=n:=⟨_,rfl⟩;obtain⟨q,hq⟩:∃ q,num O=q:=⟨_,rfl⟩;have HOQ:=Hq (show nS q=O from by rw[←hq];exact(nS_num vO).symm);obtain⟨H,hH⟩:∃ H,trH 67 [st.data.toList,shE8 0]=H:=⟨_,rfl⟩;have HHL:=Hq (show H.length=32 from by rw[←hH];exact trH_length _ _);have HHD:=Hq (show bstr (trH 67 (dt [st,bstr (shE8 0)]))=bstr H from by rw[←hH];simp[dt,bstr_data]);have HR:=Hq (show chL st.data.toList O.size (num O)=bnat (H.take (n+8))%q from by unfold chL;rw[hH,hn,hq]);have hni:(n:Int)≤8:=by omega
 have h08:(0:Int)<(n:Int)+8:=by omega
 have h32:¬ (32:Int)<(n:Int)+8:=by omega
 have HST:=Hq hst;have HQ:=Hq (⟨by omega,by omega⟩:0<q∧q<18446744073709551616);have HN8:=Hq (show n≤8 from by omega);have HE:=Hq (r12_Eight 0 (by omega));rw[HR.out];clear hH hq hst vO h0 h8 lO HR;go_enter Tryz.func111,Tryz.ntmps111;go_wp2_with fail;refine(HVA.out _).mono ?_;rintro e w1 ⟨rfl,rfl⟩;go_wp2;go_loopw [6,7] (fun s i wr=>∃ k:Nat,k≤1∧s=.string (bstr (if k=0 then []else H))∧i=.int .i64 k∧Below w.heap.size w wr∧w.heap.size≤wr.heap.size) (fun _ i _=>1 - (RowKit.intOf i).toNat);case atStart=>exact⟨0,Nat.zero_le _,rfl,rfl,Below.refl _ _,Nat.le_refl _⟩
 case round =>
  obtain⟨k,hk,rfl,rfl,hb,hz⟩:=hrel;have HB:=Hq hb;have HZ:=Hq hz;clear hb hz;by_cases hk0:k=0
  · subst hk0;rw[if_pos rfl,show bstr []=⟨#[]⟩from rfl];clear hk;have h0s:((⟨#[]⟩:ByteArray).size:Int)=0:=rfl;go_wp2_with fail;refine(HE.out _).mono ?_;rintro e w2 ⟨rfl,hb2⟩;have HB2:=Hq (HB.out.trans (hb2.mono HZ.out));have HZ2:=Hq (Nat.le_trans HZ.out hb2.size);clear hb2;have hb3:Below w.heap.size w (w2.alloc (.cells #[.string st,.string (bstr (shE8 0))] 9)):=HB2.out.alloc HZ2.out _;have HPL:=Hq (r12_Hash 67 _ 2 2 [st,bstr (shE8 0)] (by omega) (by simp;exact⟨HST.out,by rw[bstr_size];simp[shE8]⟩) _ (sln_alloc w2 [st,bstr (shE8 0)] 9 (by simp)));rw[HHD.out,show bstr [67]=⟨#[67]⟩from rfl]at HPL;have HB3:=Hq hb3;clear hb3;obtain⟨sh0,hsh0⟩:∃ s,bstr (shE8 0)=s:=⟨_,rfl⟩;rw[hsh0]at HPL HB3⊢;clear hsh0;have HZ3:=Hq (show w.heap.size≤(w2.alloc (.cells #[.string st,.string sh0] 9)).heap.size from by simp;exact Nat.le_succ_of_le HZ2.out);go_wp2_with fail;refine HPL.out.mono ?_;rintro e w4 ⟨rfl,hb4⟩;have HB4:=Hq (HB3.out.trans (hb4.mono HZ3.out));have HZ4:=Hq (Nat.le_trans HZ3.out hb4.size);clear hb4;have hadd:=run_string_add_sum (P:=Tryz.prog) w4 ⟨#[]⟩ (bstr H) (by rw[bstr_size,HHL.out];decide);rw[show (⟨#[]⟩:ByteArray)++bstr H=bstr H from bstr_appendT [] H]at hadd;go_wp2;go_roundw;case rel=>exact⟨1,Nat.le_refl _,rfl,rfl,HB4.out,HZ4.out⟩
    case measure=>simp[RowKit.intOf]
  · have hk1:k=1:=by omega
    subst hk1;rw[if_neg (by decide)];clear hk hk0;have hsl:(bstr H).extract 0 (n+8)=bstr (H.take (n+8)):=bstr_take H (n+8) (by rw[HHL.out];have:=HN8.out;omega);have hs32:(bstr H).size=32:=by rw[bstr_size];exact HHL.out
    have hle:(n:Int)+8≤32:=by omega
    obtain⟨L,hL⟩:∃ L,H.take (n+8)=L:=⟨_,rfl⟩;have HLL:=Hq (show L.length=n+8 from by rw[←hL,List.length_take,HHL.out];have:=HN8.out;omega);have HLE:=Hq hL;rw[hL]at hsl;obtain⟨bH,hbH⟩:∃ b,bstr H=b:=⟨_,rfl⟩;rw[hbH]at hsl hs32⊢;clear hL hbH;obtain⟨bL,hbL⟩:∃ b,bstr L=b:=⟨_,rfl⟩;have HBL:=Hq hbL;rw[hbL]at hsl;clear hbL;go_wp2;obtain⟨bx,hbx⟩:∃ b,bH.extract 0 (n+8)=b:=⟨_,rfl⟩;have HBX:=Hq (show bx=bstr L from by rw[←hbx,hsl,HBL.out]);rw[hbx];clear hbx hsl hs32 hle h32;go_loopw [6] (fun v wr=>∃ l':List UInt8,v=.string (bstr l')∧trimZ l'=trimZ L∧l'.length≤L.length∧Below w.heap.size w wr∧w.heap.size≤wr.heap.size) (fun v _=>match v with | .string s=>s.size | _=>0);case atStart=>exact⟨L,by rw[HBX.out],rfl,Nat.le_refl _,HB.out,HZ.out⟩
    case round =>
     obtain⟨l',rfl,htr,hlel,hb,hz⟩:=hrel;have HTR:=Hq htr;have HLL':=Hq hlel;have HB:=Hq hb;have HZ:=Hq hz;clear htr hlel hb hz;have HL16:=Hq (show l'.length≤16 from by have:=HLL'.out;have:=HLL.out;have:=HN8.out;omega);have HEND:=Hq (fun(h:trimZ l'=l')=>show bstr l'=nS (bnat L)from by
      rw[←h,HTR.out,trimZ_eq];rfl)
     have HOV:=Hq (r01_Over (bnat L) q (by
      show (bstr (encN (bnat L))).size≤300;rw[bstr_size,←trimZ_eq];have:=trimZ_length_le L;have:=HLL.out;have:=HN8.out
      omega) (by rw[HOQ.out,hn];have:=HN8.out;omega) HQ.out.1)
     rw[HOQ.out]at HOV;by_cases h0:0<l'.length
     · have hsz:0<(bstr l').size:=by rw[bstr_size];exact h0
       have hgt:(0:Int)<((bstr l').size:Int):=by omega
       have hx1:=bstr_extract1 l';obtain⟨l2,hl2⟩:∃ l2,l'.drop 1=l2:=⟨_,rfl⟩;rw[hl2]at hx1;have HL2:=Hq hl2;have hge1:(1:Int)≤((bstr l').size:Int):=by omega
       have hs1:1≤(bstr l').size:=hsz;have hlem:(bstr l').size≤9223372036854775807:=by rw[bstr_size];have:=HL16.out;omega
       have HSZ2:=Hq (show (bstr l2).size<(bstr l').size from by rw[bstr_size,bstr_size,←hl2,List.length_drop];omega);have HLN2:=Hq (show l2.length≤L.length from by rw[←hl2,List.length_drop];have:=HLL'.out;omega);have hb0:((bstr l')[0]'hsz).toNat=(l'.getD 0 0).toNat:=by rw[←data_getD (bstr l') 0 hsz,bstr_data]
       by_cases hz:byteI l' 0=0
       · have hz2:((((bstr l')[0]'hsz).toNat:Int)==0)=true:=by rw[hb0];exact beq_iff_eq.2 hz
         have HN:=Hq (show trimZ l2=trimZ L from by rw[←HTR.out,trimZ_zero h0 hz,hl2]);obtain⟨st',hst⟩:∃ st,bstr l'=st:=⟨_,rfl⟩;obtain⟨st2,hst2⟩:∃ st,bstr l2=st:=⟨_,rfl⟩;have HST2:=Hq hst2;rw[hst2]at hx1 HSZ2;clear hb0 hz h0 hl2 hst2 HTR HLL' HEND;subst hst;go_wp2;exact⟨⟨l2,by rw[HST2.out],HN.out,HLN2.out,HB.out,HZ.out⟩,HSZ2.out⟩
       · have hz2:((((bstr l')[0]'hsz).toNat:Int)==0)=false:=by rw[hb0];exact beq_eq_false_iff_ne.2 hz
         have HN:=Hq (HEND.out (trimZ_stop (.inr hz)));clear hb0 hz h0 hl2 hx1 hge1 hs1;rw[←HN.out]at HOV;obtain⟨z0,hz0⟩:∃ z,nS (bnat L / q)=z:=⟨_,rfl⟩;obtain⟨z1,hz1⟩:∃ z,nS (bnat L%q)=z:=⟨_,rfl⟩;have HZ1:=Hq hz1;rw[hz0,hz1]at HOV;clear hz0 hz1 HN HEND HTR;obtain⟨st',hst⟩:∃ st,bstr l'=st:=⟨_,rfl⟩;subst hst;go_wp2_with fail;refine(HOV.out _).mono ?_;rintro e w4 ⟨rfl,hb4⟩;have HB4:=Hq (HB.out.trans (hb4.mono HZ.out));clear hb4;go_wp2;go_ret2;exact⟨by rw[HLE.out,HZ1.out];rfl,HB4.out⟩
     · have hsz:(bstr l').size=0:=by rw[bstr_size];omega
       have HN:=Hq (HEND.out (trimZ_stop (.inl (by omega))));clear h0;rw[←HN.out]at HOV;obtain⟨z0,hz0⟩:∃ z,nS (bnat L / q)=z:=⟨_,rfl⟩;obtain⟨z1,hz1⟩:∃ z,nS (bnat L%q)=z:=⟨_,rfl⟩;have HZ1:=Hq hz1;rw[hz0,hz1]at HOV;clear hz0 hz1 HN HEND HTR;obtain⟨st',hst⟩:∃ st,bstr l'=st:=⟨_,rfl⟩;subst hst;go_wp2_with fail;refine(HOV.out _).mono ?_;rintro e w4 ⟨rfl,hb4⟩;have HB4:=Hq (HB.out.trans (hb4.mono HZ.out));clear hb4;go_wp2;go_ret2;exact⟨by rw[HLE.out,HZ1.out];rfl,HB4.out⟩
set_option maxRecDepth 100000
set_option maxHeartbeats 1000000
theorem sc_formed(l:List ByteArray)(A:Option Addr)(n cap:Nat)(hn:n≤1000)(hlz:∀ x∈l,x.size≤9223372036854775807)(w:World)(hsl:SlN w A n cap l):Calls Tryz.prog 54 #[.slice A n cap] w (RetQ (.bool (l.all nvalid)) w):=by
 have HS:=Hq hsl;have HLEN:=Hq hsl.1;have HLZ:=Hq hlz;have hcap:=hsl.2.1;have hcap2:=hsl.2.2.1;have hni:(n:Int)≤1000:=by omega
 obtain⟨R,hR⟩:∃ R,l.all nvalid=R:=⟨_,rfl⟩;have HR:=Hq hR;rw[hR];clear hR hsl hlz;go_enter Tryz.func54,Tryz.ntmps54;go_wp2;go_loopw [7] (fun i wr=>∃ k:Nat,k≤n∧i=.int .i64 k∧(∀ j,j<k→∃ s,l[j]? =some s∧nvalid s=true)∧wr=w) (fun i _=>n - (RowKit.intOf i).toNat);case atStart=>exact⟨0,Nat.zero_le _,rfl,fun j h=>by omega,rfl⟩
 case round =>
  obtain⟨k,hk,rfl,hall,rfl⟩:=hrel;have HALL:=Hq hall;clear hall;by_cases hlt:k<n
  · obtain⟨b,o,rfl⟩:=HS.out.head (by omega);obtain⟨x,he⟩:∃ s,l[k]? =some s:=⟨_,List.getElem?_eq_getElem (by rw[HLEN.out];exact hlt)⟩;have d0:=HS.out.get? k he;have HE:=Hq he;have HV:=Hq (nat_Valid x (HLZ.out x (List.mem_of_getElem? he)));have hki:(k:Int)<(n:Int):=by omega
    have HKN:=Hq hlt;clear he hk hlt
    cases hv:nvalid x with
    | false =>
     rw[hv]at HV;have HR3:=Hq (show R=false from by rw[←HR.out];exact Bool.eq_false_iff.2 (nall_false HE.out hv));clear hv;go_wp2_with fail;refine(HV.out _).mono ?_;rintro ev w2 ⟨rfl,rfl⟩;go_wp2;go_ret;exact⟨by rw[HR3.out];rfl,rfl⟩
    | true =>
     rw[hv]at HV;have HA2:=Hq (show ∀ j,j<k+1→∃ s,l[j]? =some s∧nvalid s=true from fun j hj=>by
      by_cases e:j=k
      · subst e;exact⟨x,HE.out,hv⟩
      · exact HALL.out j (by omega))
     clear hv;go_wp2_with fail;refine(HV.out _).mono ?_;rintro ev w2 ⟨rfl,rfl⟩;go_wp2;refine⟨⟨k+1,by have:=HKN.out;omega,by go_num,HA2.out,trivial⟩,?_⟩;have:=HKN.out;simp[RowKit.intOf];omega
  · have HAV:=Hq (show R=true from by rw[←HR.out];exact nall_true fun j hj=>HALL.out j (by rw[HLEN.out]at hj;omega));have hge:¬ ((k:Int)<(n:Int)):=by omega
    clear hk hlt HALL HS;go_wp2;go_ret;exact⟨by rw[HAV.out];rfl,rfl⟩
def genK(M O x:ByteArray):Bool:=hasK M O x && !(x.toList==[1])
theorem sc_generator(M O x:ByteArray)(hM:M.size≤8)(hO:O.size≤8)(hx:nvalid x=true)(w:World):Calls Tryz.prog 98 #[gV M O,.string x] w (Ret (.bool (genK M O x)) w):=by
 have HH:=Hq (pw_Has M O x hM hO hx);have HX0:=Hq (Bx2.new w (.string M) (.string O) 24);have HB0:=Hq ((Below.refl w.heap.size w).alloc nlr (.cells #[.string M,.string O] 24));have c0:=HX0.out.c0;have c1:=HX0.out.c1
 cases hh:hasK M O x with
 | false =>
  have HR:=Hq (show genK M O x=false from by unfold genK;rw[hh];rfl);rw[hh]at HH;rw[HR.out];unfold gV at *;clear hh hM hO hx;go_enter Tryz.func98,Tryz.ntmps98;go_wp2_with fail;refine(HH.out _).mono ?_;rintro ev w1 ⟨rfl,hb⟩;have HB1:=Hq (HB0.out.trans (hb.mono HB0.out.size));clear hb c0 c1;go_wp2;go_ret;exact⟨rfl,HB1.out⟩
 | true =>
  have HR:=Hq (show genK M O x = !(x.toList==[1])from by unfold genK;rw[hh];rfl);rw[hh]at HH;rw[HR.out];unfold gV at *;clear hh hM hO hx;go_enter Tryz.func98,Tryz.ntmps98;go_wp2_with fail;refine(HH.out _).mono ?_;rintro ev w1 ⟨rfl,hb⟩;have HB1:=Hq (HB0.out.trans (hb.mono HB0.out.size));clear hb c0 c1;go_wp2;go_ret;exact⟨rfl,HB1.out⟩
theorem r33_generator(M O x:ByteArray)(hM:M.size≤8)(hO:O.size≤8)(hx:nvalid x=true)(w:World):Calls Tryz.prog 107 #[gV M O,.string x] w (Ret (.bool (!(O.toList.isEmpty)&&genK M O x)) w):=by
 have HH:=Hq (r13_Has M O x hM hO hx);have HX0:=Hq (Bx2.new w (.string M) (.string O) 24);have HB0:=Hq ((Below.refl w.heap.size w).alloc nlr (.cells #[.string M,.string O] 24));have c0:=HX0.out.c0;have c1:=HX0.out.c1
 cases ho:O.toList.isEmpty with
 | true =>
  unfold gV at *;clear hM hO hx;go_enter Tryz.func107,Tryz.ntmps107;go_wp2;go_ret;exact⟨rfl,HB0.out⟩
 | false =>
  cases hh:hasK M O x with
  | false =>
   have HR:=Hq (show genK M O x=false from by unfold genK;rw[hh];rfl);rw[hh]at HH;rw[HR.out];unfold gV at *;clear hh hM hO hx;go_enter Tryz.func107,Tryz.ntmps107;go_wp2_with fail;refine(HH.out _).mono ?_;rintro ev w1 ⟨rfl,hb⟩;have HB1:=Hq (HB0.out.trans (hb.mono HB0.out.size));clear hb c0 c1;go_wp2;go_ret;exact⟨rfl,HB1.out⟩
  | true =>
   have HR:=Hq (show genK M O x = !(x.toList==[1])from by unfold genK;rw[hh];rfl);rw[hh]at HH;rw[HR.out];unfold gV at *;clear hh hM hO hx;go_enter Tryz.func107,Tryz.ntmps107;go_wp2_with fail;refine(HH.out _).mono ?_;rintro ev w1 ⟨rfl,hb⟩;have HB1:=Hq (HB0.out.trans (hb.mono HB0.out.size));clear hb c0 c1;go_wp2;go_ret;exact⟨rfl,HB1.out⟩
def scK(M O G Y:ByteArray):Int:=
 if [M,O,G,Y].all nvalid=true then
  if chkK M O=0 then(if (O.toList.isEmpty || !genK M O G || !genK M O Y)=true then 13 else 0)else chkK M O
 else 3
theorem chkK_long{M O G H:ByteArray}(hf:kF M O G H=true)(hM:M.size≤8)(h8:¬ O.size≤8):chkK M O=13:=by
 unfold kF at hf;simp only[Bool.and_eq_true]at hf;have v1:=hf.1.1.1;have v2:=hf.1.1.2;have hm:=num_small hM;have ho:18446744073709551616≤num O:=by
  rcases Nat.lt_or_ge (num O) 18446744073709551616 with h | h
  · rw[nS_num v2]at h8;exact absurd (nS_small_size h) h8
  · exact h
 unfold chkK;rw[if_pos (by rw[v1,v2];rfl)];unfold chkN;rw[if_neg (by omega)];by_cases h1:num M≤1
 · rw[if_pos (.inl h1)]
 · rw[if_pos (.inr (.inr (by rw[Nat.mod_eq_of_lt (by omega)];omega)))]
end Go.Proofs.YtfbmbledklbfgaaGreat

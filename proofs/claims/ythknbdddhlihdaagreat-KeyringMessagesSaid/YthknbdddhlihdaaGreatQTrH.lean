import Derived.Test.YthknbdddhlihdaaGreatQPeEA
import Derived.Test.YthknbdddhlihdaaGreatQPeP
import Derived.Test.YthknbdddhlihdaaGreatQMdA
import Derived.Test.YthknbdddhlihdaaGreatQRowN
import Derived.Test.YthknbdddhlihdaaGreatQTrB
import Derived.Test.YthknbdddhlihdaaGreatQLdF
import Derived.Test.YthknbdddhlihdaaGreatQTrF
import Derived.Test.YthknbdddhlihdaaGreatQTrG
import Derived.Test.YthknbdddhlihdaaGreatQRfM
set_option linter.unusedVariables false
set_option linter.unusedSimpArgs false
namespace Go.Proofs.YthknbdddhlihdaaGreat
open Go.RowKit Go.Lib
theorem nall_false{l:List ByteArray}{k:Nat}{s:ByteArray}(h:l[k]? =some s)(hv:nvalid s=false):¬ (l.all nvalid=true):=fun hall=>by
 have:=List.all_eq_true.1 hall s (List.mem_of_getElem? h);rw[hv]at this;cases this
theorem nall_true{l:List ByteArray}(h:∀ k,k<l.length→∃ s,l[k]? =some s∧nvalid s=true):l.all nvalid=true:=by
 rw[List.all_eq_true];intro s hs;obtain⟨k,hk⟩:=List.mem_iff_getElem?.1 hs;obtain⟨s',h1,h2⟩:=h k (List.getElem?_eq_some_iff.1 hk).1;rw[hk]at h1;cases h1;exact h2
theorem hasK_parts{M O x:ByteArray}(h:hasK M O x=true):chkK M O=0∧nvalid x=true∧hasN (num M) (num O) (num x)=true:=by
 unfold hasK at h;simp only[Bool.and_eq_true,decide_eq_true_eq]at h;exact⟨h.1.1,h.1.2,h.2⟩
open Go.RowKit
theorem bstr_extract1(l:List UInt8):(bstr l).extract 1 (bstr l).size=bstr (l.drop 1):=by
 rw[bstr_size];unfold bstr;rw[ByteArray.extract_mk];simp;exact List.take_of_length_le (by simp)
set_option maxRecDepth 100000
set_option maxHeartbeats 4000000
theorem r12_Challenge(st O:ByteArray)(hst:st.size≤1000000)(vO:nvalid O=true)(h0:0<num O)(h8:O.size≤8)(w:World) :
 Calls Tryz.prog 83 #[.string st,.string O] w (Ret (.tuple #[.string (nS (chL st.data.toList O.size (num O))),.int .i64 0]) w):=by
 have lO:=num_small h8;have HVA:=Hq (r01_Valid O (by omega));rw[vO]at HVA;have hne:O.toList.isEmpty=false:=by rw[nS_num vO];exact empty_nS h0
 obtain⟨n,hn⟩:∃ n,O.size=n:=⟨_,rfl⟩;obtain⟨q,hq⟩:∃ q,num O=q:=⟨_,rfl⟩;have HOQ:=Hq (show nS q=O from by rw[←hq];exact(nS_num vO).symm);obtain⟨H,hH⟩:∃ H,trH 67 [st.data.toList,shE8 0]=H:=⟨_,rfl⟩;have HHL:=Hq (show H.length=32 from by rw[←hH];exact trH_length _ _);have HHD:=Hq (show bstr (trH 67 (dt [st,bstr (shE8 0)]))=bstr H from by rw[←hH];simp[dt,bstr_data]);have HR:=Hq (show chL st.data.toList O.size (num O)=bnat (H.take (n+8))%q from by unfold chL;rw[hH,hn,hq]);have hni:(n:Int)≤8:=by omega
 have h08:(0:Int)<(n:Int)+8:=by omega
 have h32:¬ (32:Int)<(n:Int)+8:=by omega
 have HST:=Hq hst;have HQ:=Hq (⟨by omega,by omega⟩:0<q∧q<18446744073709551616);have HN8:=Hq (show n≤8 from by omega);have HE:=Hq (r12_Eight 0 (by omega));rw[HR.out];clear hH hq hst vO h0 h8 lO HR;go_enter Tryz.func83,Tryz.ntmps83;go_wp2_with fail;refine(HVA.out _).mono ?_;rintro e w1 ⟨rfl,rfl⟩;go_wp2;go_loopw [6,7] (fun s i wr=>∃ k:Nat,k≤1∧s=.string (bstr (if k=0 then []else H))∧i=.int .i64 k∧Below w.heap.size w wr∧w.heap.size≤wr.heap.size) (fun _ i _=>1 - (RowKit.intOf i).toNat);case atStart=>exact⟨0,Nat.zero_le _,rfl,rfl,Below.refl _ _,Nat.le_refl _⟩
 case round =>
  obtain⟨k,hk,rfl,rfl,hb,hz⟩:=hrel;have HB:=Hq hb;have HZ:=Hq hz;clear hb hz;by_cases hk0:k=0
  · subst hk0;rw[if_pos rfl,show bstr []=⟨#[]⟩from rfl];clear hk;have h0s:((⟨#[]⟩:ByteArray).size:Int)=0:=rfl;go_wp2_with fail;refine(HE.out _).mono ?_;rintro e w2 ⟨rfl,hb2⟩;have HB2:=Hq (HB.out.trans (hb2.mono HZ.out));have HZ2:=Hq (Nat.le_trans HZ.out hb2.size);clear hb2;have hb3:Below w.heap.size w (w2.alloc (.cells #[.string st,.string (bstr (shE8 0))] 9)):=HB2.out.alloc HZ2.out _;have HPL:=Hq (r12_Hash 67 _ 2 2 [st,bstr (shE8 0)] (by omega) (by simp;exact⟨HST.out,by rw[bstr_size];simp[shE8]⟩) _ (sln_alloc w2 [st,bstr (shE8 0)] 9 (by simp)));rw[HHD.out,show bstr [67]=⟨#[67]⟩from rfl]at HPL;have HB3:=Hq hb3;clear hb3;obtain⟨sh0,hsh0⟩:∃ s,bstr (shE8 0)=s:=⟨_,rfl⟩;rw[hsh0]at HPL HB3⊢;clear hsh0;have HZ3:=Hq (show w.heap.size≤(w2.alloc (.cells #[.string st,.string sh0] 9)).heap.size from by simp;exact Nat.le_succ_of_le HZ2.out);go_wp2_with fail;refine HPL.out.mono ?_;rintro e w4 ⟨rfl,hb4⟩;have HB4:=Hq (HB3.out.trans (hb4.mono HZ3.out));have HZ4:=Hq (Nat.le_trans HZ3.out hb4.size);clear hb4;have hadd:=run_string_add_sum (P:=Tryz.prog) w4 ⟨#[]⟩ (bstr H) (by rw[bstr_size,HHL.out];decide);rw[show (⟨#[]⟩:ByteArray)++bstr H=bstr H from bstr_appendT [] H]at hadd;go_wp2;go_roundw;case rel=>exact⟨1,Nat.le_refl _,rfl,rfl,HB4.out,HZ4.out⟩
    case measure=>simp[RowKit.intOf]
  · have hk1:k=1:=by omega
    subst hk1;rw[if_neg (by decide)];clear hk hk0;have hsl:(bstr H).extract 0 (n+8)=bstr (H.take (n+8)):=bstr_take H (n+8) (by rw[HHL.out];have:=HN8.out;omega);have hs32:(bstr H).size=32:=by rw[bstr_size];exact HHL.out
    have hle:(n:Int)+8≤32:=by omega
    obtain⟨L,hL⟩:∃ L,H.take (n+8)=L:=⟨_,rfl⟩;have HLL:=Hq (show L.length=n+8 from by rw[←hL,List.length_take,HHL.out];have:=HN8.out;omega);have HLE:=Hq hL;rw[hL]at hsl;obtain⟨bH,hbH⟩:∃ b,bstr H=b:=⟨_,rfl⟩;rw[hbH]at hsl hs32⊢;clear hL hbH;obtain⟨bL,hbL⟩:∃ b,bstr L=b:=⟨_,rfl⟩;have HBL:=Hq hbL;rw[hbL]at hsl;clear hbL;go_wp2;obtain⟨bx,hbx⟩:∃ b,bH.extract 0 (n+8)=b:=⟨_,rfl⟩;have HBX:=Hq (show bx=bstr L from by rw[←hbx,hsl,HBL.out]);rw[hbx];clear hbx hsl hs32 hle h32;go_loopw [6] (fun v wr=>∃ l':List UInt8,v=.string (bstr l')∧trimZ l'=trimZ L∧l'.length≤L.length∧Below w.heap.size w wr∧w.heap.size≤wr.heap.size) (fun v _=>match v with | .string s=>s.size | _=>0);case atStart=>exact⟨L,by rw[HBX.out],rfl,Nat.le_refl _,HB.out,HZ.out⟩
    case round =>
     obtain⟨l',rfl,htr,hlel,hb,hz⟩:=hrel;have HTR:=Hq htr;have HLL':=Hq hlel;have HB:=Hq hb;have HZ:=Hq hz;clear htr hlel hb hz;have HL16:=Hq (show l'.length≤16 from by have:=HLL'.out;have:=HLL.out;have:=HN8.out;omega);have HEND:=Hq (fun(h:trimZ l'=l')=>show bstr l'=nS (bnat L)from by
      rw[←h,HTR.out,trimZ_eq];rfl)
     have HOV:=Hq (r01_Over (bnat L) q (by
      show (bstr (encN (bnat L))).size≤300;rw[bstr_size,←trimZ_eq];have:=trimZ_length_le L;have:=HLL.out;have:=HN8.out
      omega) (by rw[HOQ.out,hn];have:=HN8.out;omega) HQ.out.1)
     rw[HOQ.out]at HOV;by_cases h0:0<l'.length
     · have hsz:0<(bstr l').size:=by rw[bstr_size];exact h0
       have hgt:(0:Int)<((bstr l').size:Int):=by omega
       have hx1:=bstr_extract1 l';obtain⟨l2,hl2⟩:∃ l2,l'.drop 1=l2:=⟨_,rfl⟩;rw[hl2]at hx1;have HL2:=Hq hl2;have hge1:(1:Int)≤((bstr l').size:Int):=by omega
       have hs1:1≤(bstr l').size:=hsz;have hlem:(bstr l').size≤9223372036854775807:=by rw[bstr_size];have:=HL16.out;omega
       have HSZ2:=Hq (show (bstr l2).size<(bstr l').size from by rw[bstr_size,bstr_size,←hl2,List.length_drop];omega);have HLN2:=Hq (show l2.length≤L.length from by rw[←hl2,List.length_drop];have:=HLL'.out;omega);have hb0:((bstr l')[0]'hsz).toNat=(l'.getD 0 0).toNat:=by rw[←data_getD (bstr l') 0 hsz,bstr_data]
       by_cases hz:byteI l' 0=0
       · have hz2:((((bstr l')[0]'hsz).toNat:Int)==0)=true:=by rw[hb0];exact beq_iff_eq.2 hz
         have HN:=Hq (show trimZ l2=trimZ L from by rw[←HTR.out,trimZ_zero h0 hz,hl2]);obtain⟨st',hst⟩:∃ st,bstr l'=st:=⟨_,rfl⟩;obtain⟨st2,hst2⟩:∃ st,bstr l2=st:=⟨_,rfl⟩;have HST2:=Hq hst2;rw[hst2]at hx1 HSZ2;clear hb0 hz h0 hl2 hst2 HTR HLL' HEND;subst hst;go_wp2;exact⟨⟨l2,by rw[HST2.out],HN.out,HLN2.out,HB.out,HZ.out⟩,HSZ2.out⟩
       · have hz2:((((bstr l')[0]'hsz).toNat:Int)==0)=false:=by rw[hb0];exact beq_eq_false_iff_ne.2 hz
         have HN:=Hq (HEND.out (trimZ_stop (.inr hz)));clear hb0 hz h0 hl2 hx1 hge1 hs1;rw[←HN.out]at HOV;obtain⟨z0,hz0⟩:∃ z,nS (bnat L / q)=z:=⟨_,rfl⟩;obtain⟨z1,hz1⟩:∃ z,nS (bnat L%q)=z:=⟨_,rfl⟩;have HZ1:=Hq hz1;rw[hz0,hz1]at HOV;clear hz0 hz1 HN HEND HTR;obtain⟨st',hst⟩:∃ st,bstr l'=st:=⟨_,rfl⟩;subst hst;go_wp2_with fail;refine(HOV.out _).mono ?_;rintro e w4 ⟨rfl,hb4⟩;have HB4:=Hq (HB.out.trans (hb4.mono HZ.out));clear hb4;go_wp2;go_ret2;exact⟨by rw[HLE.out,HZ1.out];rfl,HB4.out⟩
     · have hsz:(bstr l').size=0:=by rw[bstr_size];omega
       have HN:=Hq (HEND.out (trimZ_stop (.inl (by omega))));clear h0;rw[←HN.out]at HOV;obtain⟨z0,hz0⟩:∃ z,nS (bnat L / q)=z:=⟨_,rfl⟩;obtain⟨z1,hz1⟩:∃ z,nS (bnat L%q)=z:=⟨_,rfl⟩;have HZ1:=Hq hz1;rw[hz0,hz1]at HOV;clear hz0 hz1 HN HEND HTR;obtain⟨st',hst⟩:∃ st,bstr l'=st:=⟨_,rfl⟩;subst hst;go_wp2_with fail;refine(HOV.out _).mono ?_;rintro e w4 ⟨rfl,hb4⟩;have HB4:=Hq (HB.out.trans (hb4.mono HZ.out));clear hb4;go_wp2;go_ret2;exact⟨by rw[HLE.out,HZ1.out];rfl,HB4.out⟩
end Go.Proofs.YthknbdddhlihdaaGreat

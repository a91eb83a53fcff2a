import Derived.Test.YtppbcopnfankcaaGreatQCoK
set_option linter.unusedVariables false
set_option linter.unusedSimpArgs false
namespace Go.Proofs.YtppbcopnfankcaaGreat
set_option maxRecDepth 100000
set_option maxHeartbeats 4000000
open Go.RowKit Go.Lib
theorem zip(st O:ByteArray)(hst:st.size≤1000000)(vO:zc O=true)(h0:0<num O)(h8:O.size≤8)(w:World) :
 Calls Tryz.prog 143 #[.string st,.string O] w (Ret (.tuple #[.string (nS (chL st.data.toList O.size (num O))),.int .i64 0]) w):=by
 have lO:=je h8;have HVA:=Hq (zo O (by omega));rw[vO]at HVA;have hne:O.toList.isEmpty=false:=by rw[zu vO];exact zx h0
 obtain⟨n,hn⟩:=nm (O.size);obtain⟨q,hq⟩:=nm (num O);have HOQ:=Hq (show nS q=O from by rw[←hq];exact(zu vO).symm);obtain⟨H,hH⟩:=nm (trH 67 [st.data.toList,shE8 0]);have HHL:=Hq (show H.length=32 from by rw[←hH];exact zdd _ _);have HHD:=Hq (show bstr (trH 67 (dt [st,bstr (shE8 0)]))=bstr H from by rw[←hH];simp[dt,jn]);have HR:=Hq (show chL st.data.toList O.size (num O)=bnat (H.take (n+8))%q from by unfold chL;rw[hH,hn,hq]);have hni:(n:Int)≤8:=by omega
 have h08:(0:Int)<(n:Int)+8:=by omega
 have h32:¬ (32:Int)<(n:Int)+8:=by omega
 have HST:=Hq hst;have HQ:=Hq (⟨by omega,by omega⟩:0<q∧q<18446744073709551616);have HN8:=Hq (show n≤8 from by omega);have HE:=Hq (zfc 0 (by omega));rw[HR.out];clear hH hq hst vO h0 h8 lO HR;go_enter Tryz.func143,Tryz.ntmps143;go_wp2_with fail;refine(HVA.out _).mono ?_;rintro e w1 ⟨rfl,rfl⟩;go_wp2;go_loopw [6,7] (fun s i wr=>∃ k:Nat,k≤1∧s=.string (bstr (if k=0 then []else H))∧i=.int .i64 k∧Below w.heap.size w wr∧w.heap.size≤wr.heap.size) (fun _ i _=>1 - (RowKit.intOf i).toNat);case atStart=>exact⟨0,Nat.zero_le _,rfl,rfl,Below.refl _ _,Nat.le_refl _⟩
 case round =>
  obtain⟨k,hk,rfl,rfl,hb,hz⟩:=hrel;have HB:=Hq hb;have HZ:=Hq hz;clear hb hz;by_cases hk0:k=0
  · subst hk0;rw[if_pos rfl,show bstr []=⟨#[]⟩from rfl];clear hk;have h0s:((⟨#[]⟩:ByteArray).size:Int)=0:=rfl;go_wp2_with fail;refine(HE.out _).mono ?_;rintro e w2 ⟨rfl,hb2⟩;have HB2:=Hq (HB.out.trans (hb2.mono HZ.out));have HZ2:=Hq (Nat.le_trans HZ.out hb2.size);clear hb2;have hb3:Below w.heap.size w (w2.alloc (.cells #[.string st,.string (bstr (shE8 0))] 9)):=HB2.out.alloc HZ2.out _;have HPL:=Hq (zd8 67 _ 2 2 [st,bstr (shE8 0)] (by omega) (by simp;exact⟨HST.out,by rw[zm];simp[shE8]⟩) _ (jc w2 [st,bstr (shE8 0)] 9 (by simp)));rw[HHD.out,show bstr [67]=⟨#[67]⟩from rfl]at HPL;have HB3:=Hq hb3;clear hb3;obtain⟨sh0,hsh0⟩:=nm (bstr (shE8 0));rw[hsh0]at HPL HB3⊢;clear hsh0;have HZ3:=Hq (show w.heap.size≤(w2.alloc (.cells #[.string st,.string sh0] 9)).heap.size from by simp;exact Nat.le_succ_of_le HZ2.out);go_wp2_with fail;refine HPL.out.mono ?_;rintro e w4 ⟨rfl,hb4⟩;have HB4:=Hq (HB3.out.trans (hb4.mono HZ3.out));have HZ4:=Hq (Nat.le_trans HZ3.out hb4.size);clear hb4;have hadd:=run_string_add_sum (P:=Tryz.prog) w4 ⟨#[]⟩ (bstr H) (by rw[zm,HHL.out];decide);rw[show (⟨#[]⟩:ByteArray)++bstr H=bstr H from qe [] H]at hadd;go_wp2;go_roundw;case rel=>exact⟨1,Nat.le_refl _,rfl,rfl,HB4.out,HZ4.out⟩
    case measure=>simp[RowKit.intOf]
  · have hk1:k=1:=by omega
    subst hk1;rw[if_neg (by decide)];clear hk hk0;have hsl:(bstr H).extract 0 (n+8)=bstr (H.take (n+8)):=zlx H (n+8) (by rw[HHL.out];have:=HN8.out;omega);have hs32:(bstr H).size=32:=by rw[zm];exact HHL.out
    have hle:(n:Int)+8≤32:=by omega
    obtain⟨L,hL⟩:=nm (H.take (n+8));have HLL:=Hq (show L.length=n+8 from by rw[←hL,List.length_take,HHL.out];have:=HN8.out;omega);have HLE:=Hq hL;rw[hL]at hsl;obtain⟨bH,hbH⟩:=nm (bstr H);rw[hbH]at hsl hs32⊢;clear hL hbH;obtain⟨bL,hbL⟩:=nm (bstr L);have HBL:=Hq hbL;rw[hbL]at hsl;clear hbL;go_wp2;obtain⟨bx,hbx⟩:=nm (bH.extract 0 (n+8));have HBX:=Hq (show bx=bstr L from by rw[←hbx,hsl,HBL.out]);rw[hbx];clear hbx hsl hs32 hle h32;go_loopw [6] (fun v wr=>∃ l':List UInt8,v=.string (bstr l')∧xc l'=xc L∧l'.length≤L.length∧Below w.heap.size w wr∧w.heap.size≤wr.heap.size) (fun v _=>match v with | .string s=>s.size | _=>0);case atStart=>exact⟨L,by rw[HBX.out],rfl,Nat.le_refl _,HB.out,HZ.out⟩
    case round =>
     obtain⟨l',rfl,htr,hlel,hb,hz⟩:=hrel;have HTR:=Hq htr;have HLL':=Hq hlel;have HB:=Hq hb;have HZ:=Hq hz;clear htr hlel hb hz;have HL16:=Hq (show l'.length≤16 from by have:=HLL'.out;have:=HLL.out;have:=HN8.out;omega);have HEND:=Hq (fun(h:xc l'=l')=>show bstr l'=nS (bnat L)from by
      rw[←h,HTR.out,zd3];rfl)
     have HOV:=Hq (zec (bnat L) q (by
      show (bstr (encN (bnat L))).size≤300;rw[zm,←zd3];have:=zer L;have:=HLL.out;have:=HN8.out
      omega) (by rw[HOQ.out,hn];have:=HN8.out;omega) HQ.out.1)
     rw[HOQ.out]at HOV;by_cases h0:0<l'.length
     · have hsz:0<(bstr l').size:=by rw[zm];exact h0
       have hgt:(0:Int)<((bstr l').size:Int):=by omega
       have hx1:=zju l';obtain⟨l2,hl2⟩:=nm (l'.drop 1);rw[hl2]at hx1;have HL2:=Hq hl2;have hge1:(1:Int)≤((bstr l').size:Int):=by omega
       have hs1:1≤(bstr l').size:=hsz;have hlem:(bstr l').size≤9223372036854775807:=by rw[zm];have:=HL16.out;omega
       have HSZ2:=Hq (show (bstr l2).size<(bstr l').size from by rw[zm,zm,←hl2,List.length_drop];omega);have HLN2:=Hq (show l2.length≤L.length from by rw[←hl2,List.length_drop];have:=HLL'.out;omega);have hb0:((bstr l')[0]'hsz).toNat=(l'.getD 0 0).toNat:=by rw[←kb (bstr l') 0 hsz,jn]
       by_cases hz:jv l' 0=0
       · have hz2:((((bstr l')[0]'hsz).toNat:Int)==0)=true:=by rw[hb0];exact beq_iff_eq.2 hz
         have HN:=Hq (show xc l2=xc L from by rw[←HTR.out,zdc h0 hz,hl2]);obtain⟨st',hst⟩:∃ st,bstr l'=st:=⟨_,rfl⟩;obtain⟨st2,hst2⟩:=nm (bstr l2);have HST2:=Hq hst2;rw[hst2]at hx1 HSZ2;clear hb0 hz h0 hl2 hst2 HTR HLL' HEND;subst hst;go_wp2;exact⟨⟨l2,by rw[HST2.out],HN.out,HLN2.out,HB.out,HZ.out⟩,HSZ2.out⟩
       · have hz2:((((bstr l')[0]'hsz).toNat:Int)==0)=false:=by rw[hb0];exact beq_eq_false_iff_ne.2 hz
         have HN:=Hq (HEND.out (kj (.inr hz)));clear hb0 hz h0 hl2 hx1 hge1 hs1;rw[←HN.out]at HOV;obtain⟨z0,hz0⟩:=nm (nS (bnat L / q));obtain⟨z1,hz1⟩:=nm (nS (bnat L%q));have HZ1:=Hq hz1;rw[hz0,hz1]at HOV;clear hz0 hz1 HN HEND HTR;obtain⟨st',hst⟩:∃ st,bstr l'=st:=⟨_,rfl⟩;subst hst;go_wp2_with fail;refine(HOV.out _).mono ?_;rintro e w4 ⟨rfl,hb4⟩;have HB4:=Hq (HB.out.trans (hb4.mono HZ.out));clear hb4;go_wp2;go_ret2;exact⟨by rw[HLE.out,HZ1.out];rfl,HB4.out⟩
     · have hsz:(bstr l').size=0:=by rw[zm];omega
       have HN:=Hq (HEND.out (kj (.inl (by omega))));clear h0;rw[←HN.out]at HOV;obtain⟨z0,hz0⟩:=nm (nS (bnat L / q));obtain⟨z1,hz1⟩:=nm (nS (bnat L%q));have HZ1:=Hq hz1;rw[hz0,hz1]at HOV;clear hz0 hz1 HN HEND HTR;obtain⟨st',hst⟩:∃ st,bstr l'=st:=⟨_,rfl⟩;subst hst;go_wp2_with fail;refine(HOV.out _).mono ?_;rintro e w4 ⟨rfl,hb4⟩;have HB4:=Hq (HB.out.trans (hb4.mono HZ.out));clear hb4;go_wp2;go_ret2;exact⟨by rw[HLE.out,HZ1.out];rfl,HB4.out⟩
set_option maxRecDepth 100000
set_option maxHeartbeats 1000000
theorem zkc(l:List ByteArray)(A:Option Addr)(n cap:Nat)(hn:n≤1000)(hlz:∀ x∈l,x.size≤9223372036854775807)(w:World)(hsl:SlN w A n cap l):Calls Tryz.prog 74 #[.slice A n cap] w (RetQ (.bool (l.all zc)) w):=by
 have HS:=Hq hsl;have HLEN:=Hq hsl.1;have HLZ:=Hq hlz;have hcap:=hsl.2.1;have hcap2:=hsl.2.2.1;have hni:(n:Int)≤1000:=by omega
 obtain⟨R,hR⟩:=nm (l.all zc);have HR:=Hq hR;rw[hR];clear hR hsl hlz;go_enter Tryz.func74,Tryz.ntmps74;go_wp2;go_loopw [7] (fun i wr=>∃ k:Nat,k≤n∧i=.int .i64 k∧(∀ j,j<k→∃ s,l[j]? =some s∧zc s=true)∧wr=w) (fun i _=>n - (RowKit.intOf i).toNat);case atStart=>exact⟨0,Nat.zero_le _,rfl,fun j h=>by omega,rfl⟩
 case round =>
  obtain⟨k,hk,rfl,hall,rfl⟩:=hrel;have HALL:=Hq hall;clear hall;by_cases hlt:k<n
  · obtain⟨b,o,rfl⟩:=HS.out.head (by omega);obtain⟨x,he⟩:∃ s,l[k]? =some s:=⟨_,List.getElem?_eq_getElem (by rw[HLEN.out];exact hlt)⟩;have d0:=HS.out.get? k he;have HE:=Hq he;have HV:=Hq (zh x (HLZ.out x (List.mem_of_getElem? he)));have hki:(k:Int)<(n:Int):=by omega
    have HKN:=Hq hlt;clear he hk hlt
    cases hv:zc x with
    | false =>
     rw[hv]at HV;have HR3:=Hq (show R=false from by rw[←HR.out];exact Bool.eq_false_iff.2 (zhs HE.out hv));clear hv;go_wp2_with fail;refine(HV.out _).mono ?_;rintro ev w2 ⟨rfl,rfl⟩;go_wp2;go_ret;exact⟨by rw[HR3.out];rfl,rfl⟩
    | true =>
     rw[hv]at HV;have HA2:=Hq (show ∀ j,j<k+1→∃ s,l[j]? =some s∧zc s=true from fun j hj=>by
      by_cases e:j=k
      · subst e;exact⟨x,HE.out,hv⟩
      · exact HALL.out j (by omega))
     clear hv;go_wp2_with fail;refine(HV.out _).mono ?_;rintro ev w2 ⟨rfl,rfl⟩;go_wp2;refine⟨⟨k+1,by have:=HKN.out;omega,by go_num,HA2.out,trivial⟩,?_⟩;have:=HKN.out;simp[RowKit.intOf];omega
  · have HAV:=Hq (show R=true from by rw[←HR.out];exact zk5 fun j hj=>HALL.out j (by rw[HLEN.out]at hj;omega));have hge:¬ ((k:Int)<(n:Int)):=by omega
    clear hk hlt HALL HS;go_wp2;go_ret;exact⟨by rw[HAV.out];rfl,rfl⟩
def genK(M O x:ByteArray):Bool:=hasK M O x && !(x.toList==[1])
theorem zkb(M O x:ByteArray)(hM:M.size≤8)(hO:O.size≤8)(hx:zc x=true)(w:World):Calls Tryz.prog 115 #[gV M O,.string x] w (Ret (.bool (genK M O x)) w):=by
 have HH:=Hq (zvs M O x hM hO hx);have HX0:=Hq (Bx2.new w (.string M) (.string O) 24);have HB0:=Hq ((Below.refl w.heap.size w).alloc nlr (.cells #[.string M,.string O] 24));have c0:=HX0.out.c0;have c1:=HX0.out.c1
 cases hh:hasK M O x with
 | false =>
  have HR:=Hq (show genK M O x=false from by unfold genK;rw[hh];rfl);rw[hh]at HH;rw[HR.out];unfold gV at *;clear hh hM hO hx;go_enter Tryz.func115,Tryz.ntmps115;go_wp2_with fail;refine(HH.out _).mono ?_;rintro ev w1 ⟨rfl,hb⟩;have HB1:=bt HB0 hb;clear hb c0 c1;go_wp2;go_ret;exact⟨rfl,HB1.out⟩
 | true =>
  have HR:=Hq (show genK M O x = !(x.toList==[1])from by unfold genK;rw[hh];rfl);rw[hh]at HH;rw[HR.out];unfold gV at *;clear hh hM hO hx;go_enter Tryz.func115,Tryz.ntmps115;go_wp2_with fail;refine(HH.out _).mono ?_;rintro ev w1 ⟨rfl,hb⟩;have HB1:=bt HB0 hb;clear hb c0 c1;go_wp2;go_ret;exact⟨rfl,HB1.out⟩
theorem zim(M O x:ByteArray)(hM:M.size≤8)(hO:O.size≤8)(hx:zc x=true)(w:World):Calls Tryz.prog 139 #[gV M O,.string x] w (Ret (.bool (!(O.toList.isEmpty)&&genK M O x)) w):=by
 have HH:=Hq (zq8 M O x hM hO hx);have HX0:=Hq (Bx2.new w (.string M) (.string O) 24);have HB0:=Hq ((Below.refl w.heap.size w).alloc nlr (.cells #[.string M,.string O] 24));have c0:=HX0.out.c0;have c1:=HX0.out.c1
 cases ho:O.toList.isEmpty with
 | true =>
  unfold gV at *;clear hM hO hx;go_enter Tryz.func139,Tryz.ntmps139;go_wp2;go_ret;exact⟨rfl,HB0.out⟩
 | false =>
  cases hh:hasK M O x with
  | false =>
   have HR:=Hq (show genK M O x=false from by unfold genK;rw[hh];rfl);rw[hh]at HH;rw[HR.out];unfold gV at *;clear hh hM hO hx;go_enter Tryz.func139,Tryz.ntmps139;go_wp2_with fail;refine(HH.out _).mono ?_;rintro ev w1 ⟨rfl,hb⟩;have HB1:=bt HB0 hb;clear hb c0 c1;go_wp2;go_ret;exact⟨rfl,HB1.out⟩
  | true =>
   have HR:=Hq (show genK M O x = !(x.toList==[1])from by unfold genK;rw[hh];rfl);rw[hh]at HH;rw[HR.out];unfold gV at *;clear hh hM hO hx;go_enter Tryz.func139,Tryz.ntmps139;go_wp2_with fail;refine(HH.out _).mono ?_;rintro ev w1 ⟨rfl,hb⟩;have HB1:=bt HB0 hb;clear hb c0 c1;go_wp2;go_ret;exact⟨rfl,HB1.out⟩
def scK(M O G Y:ByteArray):Int:=
 if [M,O,G,Y].all zc=true then
  if chkK M O=0 then(if (O.toList.isEmpty || !genK M O G || !genK M O Y)=true then 13 else 0)else chkK M O
 else 3
open Go.RowKit
theorem zsu{M O G H:ByteArray}(hf:kF M O G H=true)(hM:M.size≤8)(h8:¬ O.size≤8):chkK M O=13:=by
 unfold kF at hf;simp only[Bool.and_eq_true]at hf;have v1:=hf.1.1.1;have v2:=hf.1.1.2;have hm:=je hM;have ho:18446744073709551616≤num O:=by
  rcases Nat.lt_or_ge (num O) 18446744073709551616 with h | h
  · rw[zu v2]at h8;exact absurd (zk h) h8
  · exact h
 unfold chkK;rw[if_pos (by rw[v1,v2];rfl)];unfold chkN;rw[if_neg (by omega)];by_cases h1:num M≤1
 · rw[if_pos (.inl h1)]
 · rw[if_pos (.inr (.inr (by rw[Nat.mod_eq_of_lt (by omega)];omega)))]
set_option maxRecDepth 100000
set_option maxHeartbeats 4000000
def SB(w W:World)(M O G H:ByteArray):Prop:=Bx4 W w.heap.size (.string M) (.string O) (.string G) (.string H) 29∧Below w.heap.size w W
theorem SB.new(w:World)(M O G H:ByteArray):SB w (w.alloc (.cells #[.string M,.string O,.string G,.string H] 29)) M O G H:=⟨Bx4.new _ _ _ _ _ _,(blr).alloc nlr _⟩
theorem SB.next{w W W':World}{M O G H:ByteArray}(h:SB w W M O G H)(hb:Below W.heap.size W W'):SB w W' M O G H:=⟨h.1.next hb,h.2.trans (hb.mono h.2.size)⟩
theorem zae{M O G Y:ByteArray}(h:[M,O,G,Y].all zc=true):zc M=true∧zc O=true∧zc G=true∧zc Y=true:=by
 simp only[List.all_cons,List.all_nil,Bool.and_true,Bool.and_eq_true]at h;exact⟨h.1,h.2.1,h.2.2.1,h.2.2.2⟩
theorem zay{M O G Y:ByteArray}(h:[M,O,G,Y].all zc=true)(hM:M.size≤8)(hc:chkK M O=0):O.size≤8:=by
 by_cases h8:O.size≤8
 · exact h8
 · obtain⟨a,b,c,d⟩:=zae h;have:=zsu (M:=M) (O:=O) (G:=G) (H:=Y) (by unfold kF;rw[a,b,c,d];rfl) hM h8;rw[hc]at this;cases this
theorem ztv(M O G Y:ByteArray)(hM:M.size≤8)(hO:O.size≤100)(hG:G.size≤1000)(hY:Y.size≤1000)(w:World):Calls Tryz.prog 73 #[kV M O G Y] w (Ret (.int .i64 (scK M O G Y)) w):=by
 have hk0:=SB.new w M O G Y;obtain⟨W0,hW0⟩:=nm (w.alloc (.cells #[.string M,.string O,.string G,.string Y] 29));rw[hW0]at hk0;have HK0:=Hq hk0;have hsl:=jc W0 [M,O,G,Y] 22 (by simp);have hbb:=(Below.refl W0.heap.size W0).alloc nlr (.cells #[.string M,.string O,.string G,.string Y] 22);have HK1:=Hq (hk0.next hbb);have hlz:∀ z∈[M,O,G,Y],z.size≤9223372036854775807:=fun z hz=>by
  simp at hz;rcases hz with h | h | h | h<;>subst h<;>omega
 obtain⟨W1,hW1⟩:=nm (W0.alloc (.cells #[.string M,.string O,.string G,.string Y] 22));have HSL:=Hq (show SlN W1 (some ⟨W0.heap.size,0,none⟩) 4 4 [M,O,G,Y]from hW1▸hsl);rw[hW1]at HK1;obtain⟨c0,c1,c2,c3⟩:=hk0.1.cells;clear hk0 hsl hbb;have HFM:=Hq (zkc [M,O,G,Y] _ 4 4 (by omega) hlz W1 HSL.out);have HCK:=Hq (zku M O hM hO);have HG:=Hq (fun(h:O.size≤8) x (hx:zc x=true)=>zkb M O x hM h hx);have HMS:=Hq hM;clear hM hO hG hY hlz;unfold kV
 cases hv:[M,O,G,Y].all zc with
 | false =>
  have HR:=Hq (show scK M O G Y=3 from by unfold scK;rw[if_neg (by rw[hv];decide)]);rw[hv]at HFM;rw[HR.out];clear hv;unfold gV at *;go_enter Tryz.func73,Tryz.ntmps73;go_wp2_with fail;try rw[hW1]
  clear hW0 hW1;refine HFM.out.mono ?_;rintro ev w2 ⟨rfl,rfl⟩;clear c0 c1 c2 c3;obtain⟨c0,c1,c2,c3⟩:=HK1.out.1.cells;go_wp2;go_ret;exact⟨rfl,HK1.out.2⟩
 | true =>
  rw[hv]at HFM;by_cases hc:chkK M O=0
  · have h8:=zay hv HMS.out hc;obtain⟨v1,v2,v3,v4⟩:=zae hv;have HGG:=Hq (HG.out h8 G v3);have HGY:=Hq (HG.out h8 Y v4);have HR:=Hq (show scK M O G Y=if (O.toList.isEmpty || !genK M O G || !genK M O Y)=true then 13 else 0 from by unfold scK;rw[if_pos hv,if_pos hc]);rw[hc]at HCK;rw[HR.out];clear hv hc h8 v1 v2 v3 v4
    cases ho:O.toList.isEmpty with
    | true =>
     simp only[Bool.true_or,if_true];unfold gV at *;go_enter Tryz.func73,Tryz.ntmps73;go_wp2_with fail;try rw[hW1]
     clear hW0 hW1;refine HFM.out.mono ?_;rintro ev w2 ⟨rfl,rfl⟩;clear c0 c1 c2 c3;obtain⟨c0,c1,c2,c3⟩:=HK1.out.1.cells;go_wp2_with fail;refine(HCK.out _).mono ?_;rintro ev w3 ⟨rfl,hb⟩;have hk:=HK1.out.next hb;have HK3:=Hq hk;clear hb c0 c1 c2 c3;obtain⟨c0,c1,c2,c3⟩:=hk.1.cells;clear hk;go_wp2;go_ret;exact⟨rfl,HK3.out.2⟩
    | false =>
     cases hg:genK M O G with
     | false =>
      rw[hg]at HGG;simp only[Bool.not_false,Bool.or_true,Bool.true_or,if_true];clear hg;unfold gV at *;go_enter Tryz.func73,Tryz.ntmps73;go_wp2_with fail;try rw[hW1]
      clear hW0 hW1;refine HFM.out.mono ?_;rintro ev w2 ⟨rfl,rfl⟩;clear c0 c1 c2 c3;obtain⟨c0,c1,c2,c3⟩:=HK1.out.1.cells;go_wp2_with fail;refine(HCK.out _).mono ?_;rintro ev w3 ⟨rfl,hb⟩;have hk:=HK1.out.next hb;have HK3:=Hq hk;clear hb c0 c1 c2 c3;obtain⟨c0,c1,c2,c3⟩:=hk.1.cells;clear hk;go_wp2_with fail;refine(HGG.out _).mono ?_;rintro ev w4 ⟨rfl,hb⟩;have hk:=HK3.out.next hb;have HK4:=Hq hk;clear hb c0 c1 c2 c3;obtain⟨c0,c1,c2,c3⟩:=hk.1.cells;clear hk;go_wp2;go_ret;exact⟨rfl,HK4.out.2⟩
     | true =>
      rw[hg]at HGG;obtain⟨gy,hgy⟩:=nm (genK M O Y);rw[hgy]at HGY⊢;clear hg hgy
      cases gy with
      | false =>
       simp only[Bool.not_false,Bool.not_true,Bool.or_true,Bool.false_or,Bool.or_false,if_true];unfold gV at *;go_enter Tryz.func73,Tryz.ntmps73;go_wp2_with fail;try rw[hW1]
       clear hW0 hW1;refine HFM.out.mono ?_;rintro ev w2 ⟨rfl,rfl⟩;clear c0 c1 c2 c3;obtain⟨c0,c1,c2,c3⟩:=HK1.out.1.cells;go_wp2_with fail;refine(HCK.out _).mono ?_;rintro ev w3 ⟨rfl,hb⟩;have hk:=HK1.out.next hb;have HK3:=Hq hk;clear hb c0 c1 c2 c3;obtain⟨c0,c1,c2,c3⟩:=hk.1.cells;clear hk;go_wp2_with fail;refine(HGG.out _).mono ?_;rintro ev w4 ⟨rfl,hb⟩;have hk:=HK3.out.next hb;have HK4:=Hq hk;clear hb c0 c1 c2 c3;obtain⟨c0,c1,c2,c3⟩:=hk.1.cells;clear hk;go_wp2_with fail;refine(HGY.out _).mono ?_;rintro ev w5 ⟨rfl,hb⟩;have hk:=HK4.out.next hb;have HK5:=Hq hk;clear hb c0 c1 c2 c3;obtain⟨c0,c1,c2,c3⟩:=hk.1.cells;clear hk;go_wp2;go_ret;exact⟨rfl,HK5.out.2⟩
      | true =>
       simp only[Bool.not_true,Bool.or_false,Bool.false_eq_true,if_false];unfold gV at *;go_enter Tryz.func73,Tryz.ntmps73;go_wp2_with fail;try rw[hW1]
       clear hW0 hW1;refine HFM.out.mono ?_;rintro ev w2 ⟨rfl,rfl⟩;clear c0 c1 c2 c3;obtain⟨c0,c1,c2,c3⟩:=HK1.out.1.cells;go_wp2_with fail;refine(HCK.out _).mono ?_;rintro ev w3 ⟨rfl,hb⟩;have hk:=HK1.out.next hb;have HK3:=Hq hk;clear hb c0 c1 c2 c3;obtain⟨c0,c1,c2,c3⟩:=hk.1.cells;clear hk;go_wp2_with fail;refine(HGG.out _).mono ?_;rintro ev w4 ⟨rfl,hb⟩;have hk:=HK3.out.next hb;have HK4:=Hq hk;clear hb c0 c1 c2 c3;obtain⟨c0,c1,c2,c3⟩:=hk.1.cells;clear hk;go_wp2_with fail;refine(HGY.out _).mono ?_;rintro ev w5 ⟨rfl,hb⟩;have hk:=HK4.out.next hb;have HK5:=Hq hk;clear hb c0 c1 c2 c3;obtain⟨c0,c1,c2,c3⟩:=hk.1.cells;clear hk;go_wp2;go_ret;exact⟨rfl,HK5.out.2⟩
  · have HR:=Hq (show scK M O G Y=chkK M O from by unfold scK;rw[if_pos hv,if_neg hc]);obtain⟨e,he⟩:=nm (chkK M O);rw[HR.out];rw[he]at HCK hc⊢;clear hv he;unfold gV at *;go_enter Tryz.func73,Tryz.ntmps73;go_wp2_with fail;try rw[hW1]
    clear hW0 hW1;refine HFM.out.mono ?_;rintro ev w2 ⟨rfl,rfl⟩;clear c0 c1 c2 c3;obtain⟨c0,c1,c2,c3⟩:=HK1.out.1.cells;go_wp2_with fail;refine(HCK.out _).mono ?_;rintro ev w3 ⟨rfl,hb⟩;have hk:=HK1.out.next hb;have HK3:=Hq hk;clear hb c0 c1 c2 c3;obtain⟨c0,c1,c2,c3⟩:=hk.1.cells;clear hk;go_wp2;go_ret;exact⟨rfl,HK3.out.2⟩
set_option maxRecDepth 100000
set_option maxHeartbeats 4000000
theorem SlN.cellC{w:World}{b n c:Nat}{l:List ByteArray}(h:SlN w (some ⟨b,0,none⟩) n c l){k:Nat}{s:ByteArray}(hk:l[k]? =some s):w.cell? ⟨b,k,none⟩=some (.string s):=by
 have:=h.get? k hk;rwa[Nat.zero_add]at this
theorem zq6(M O G Y:ByteArray)(hM:M.size≤8)(hO:O.size≤100)(hG:G.size≤1000)(hY:Y.size≤1000)(w:World):Calls Tryz.prog 92 #[kV M O G Y] w (Ret (.int .i64 (scK M O G Y)) w):=by
 have hk0:=SB.new w M O G Y;obtain⟨W0,hW0⟩:=nm (w.alloc (.cells #[.string M,.string O,.string G,.string Y] 29));rw[hW0]at hk0;have HK0:=Hq hk0;have hsl:=jc W0 [M,O,G,Y] 22 (by simp);have hbb:=(Below.refl W0.heap.size W0).alloc nlr (.cells #[.string M,.string O,.string G,.string Y] 22);have HK1:=Hq (hk0.next hbb);have hlz:∀ z∈[M,O,G,Y],z.size≤9223372036854775807:=fun z hz=>by
  simp at hz;rcases hz with h | h | h | h<;>subst h<;>omega
 obtain⟨W1,hW1⟩:=nm (W0.alloc (.cells #[.string M,.string O,.string G,.string Y] 22));have HSL:=Hq (show SlN W1 (some ⟨W0.heap.size,0,none⟩) 4 4 [M,O,G,Y]from hW1▸hsl);rw[hW1]at HK1;obtain⟨c0,c1,c2,c3⟩:=hk0.1.cells;clear hk0 hsl hbb;have HLZ:=Hq hlz;have HCK:=Hq (zhi M O hM hO);have HG:=Hq (fun(h:O.size≤8) x (hx:zc x=true)=>zim M O x hM h hx);have HMS:=Hq hM;clear hM hO hG hY hlz;obtain⟨R,hR⟩:=nm (scK M O G Y);have HR:=Hq hR;rw[hR];clear hR;unfold kV gV at *;go_enter Tryz.func92,Tryz.ntmps92;go_wp2;try rw[hW1]
 clear hW0 hW1;go_loopw [4] (fun i wr=>∃ k:Nat,k≤4∧i=.int .i64 k∧(∀ j,j<k→∃ s,[M,O,G,Y][j]? =some s∧zc s=true)∧wr=W1) (fun i _=>4 - (RowKit.intOf i).toNat);case atStart=>exact⟨0,Nat.zero_le _,rfl,fun j h=>by omega,rfl⟩
 case round =>
  obtain⟨k,hk,rfl,hall,rfl⟩:=hrel;have HALL:=Hq hall;clear hall c0 c1 c2 c3;obtain⟨c0,c1,c2,c3⟩:=HK1.out.1.cells;by_cases hlt:k<4
  · obtain⟨x,he⟩:∃ s,[M,O,G,Y][k]? =some s:=⟨_,List.getElem?_eq_getElem hlt⟩;have d0:=HSL.out.cellC he;have HE:=Hq he;have HV:=Hq (zo x (HLZ.out x (List.mem_of_getElem? he)));have hki:(k:Int)<4:=by omega
    have HKN:=Hq hlt;clear he hk hlt
    cases hvx:zc x with
    | false =>
     rw[hvx]at HV;have HR3:=Hq (show R=3 from by rw[←HR.out];unfold scK;rw[if_neg (zhs HE.out hvx)]);clear hvx;go_wp2_with fail;refine(HV.out _).mono ?_;rintro ev w2 ⟨rfl,rfl⟩;go_wp2;go_ret;exact⟨by rw[HR3.out];rfl,HK1.out.2⟩
    | true =>
     rw[hvx]at HV;have HA2:=Hq (show ∀ j,j<k+1→∃ s,[M,O,G,Y][j]? =some s∧zc s=true from fun j hj=>by
      by_cases e:j=k
      · subst e;exact⟨x,HE.out,hvx⟩
      · exact HALL.out j (by omega))
     clear hvx;go_wp2_with fail;refine(HV.out _).mono ?_;rintro ev w2 ⟨rfl,rfl⟩;go_wp2;refine⟨⟨k+1,by have:=HKN.out;omega,by go_num,HA2.out,trivial⟩,?_⟩;have:=HKN.out;simp[RowKit.intOf];omega
  · have hkn:k=4:=by omega
    have hv:[M,O,G,Y].all zc=true:=zk5 fun j hj=>HALL.out j (by rw[hkn];exact hj);have hge:¬ ((k:Int)<4):=by omega
    clear hkn hk hlt;by_cases hc:chkK M O=0
    · have h8:=zay hv HMS.out hc;obtain⟨v1,v2,v3,v4⟩:=zae hv;have HGG:=Hq (HG.out h8 G v3);have HGY:=Hq (HG.out h8 Y v4);have HRR:=Hq (show R=if (O.toList.isEmpty || !genK M O G || !genK M O Y)=true then 13 else 0 from by rw[←HR.out];unfold scK;rw[if_pos hv,if_pos hc]);rw[hc]at HCK;clear hv hc h8 v1 v2 v3 v4
      cases ho:O.toList.isEmpty with
      | true =>
       rw[ho]at HGG;rw[ho]at HRR;simp only[Bool.not_true,Bool.false_and]at HGG;simp only[Bool.true_or,if_true]at HRR;clear ho;go_wp2_with fail;refine(HCK.out _).mono ?_;rintro ev w3 ⟨rfl,hb⟩;have hk:=HK1.out.next hb;have HK3:=Hq hk;clear hb c0 c1 c2 c3;obtain⟨c0,c1,c2,c3⟩:=hk.1.cells;clear hk;go_wp2_with fail;refine(HGG.out _).mono ?_;rintro ev w4 ⟨rfl,hb⟩;have hk:=HK3.out.next hb;have HK4:=Hq hk;clear hb c0 c1 c2 c3;obtain⟨c0,c1,c2,c3⟩:=hk.1.cells;clear hk;go_wp2;go_ret;exact⟨by rw[HRR.out];rfl,HK4.out.2⟩
      | false =>
       rw[ho]at HGG HGY HRR;simp only[Bool.not_false,Bool.true_and]at HGG HGY;simp only[Bool.false_or]at HRR;clear ho;obtain⟨gg,hgg⟩:=nm (genK M O G);obtain⟨gy,hgy⟩:=nm (genK M O Y);rw[hgg]at HGG HRR;rw[hgy]at HGY HRR;clear hgg hgy
       cases gg with
       | false =>
        simp only[Bool.not_false,Bool.true_or,if_true]at HRR;go_wp2_with fail;refine(HCK.out _).mono ?_;rintro ev w3 ⟨rfl,hb⟩;have hk:=HK1.out.next hb;have HK3:=Hq hk;clear hb c0 c1 c2 c3;obtain⟨c0,c1,c2,c3⟩:=hk.1.cells;clear hk;go_wp2_with fail;refine(HGG.out _).mono ?_;rintro ev w4 ⟨rfl,hb⟩;have hk:=HK3.out.next hb;have HK4:=Hq hk;clear hb c0 c1 c2 c3;obtain⟨c0,c1,c2,c3⟩:=hk.1.cells;clear hk;go_wp2;go_ret;exact⟨by rw[HRR.out];rfl,HK4.out.2⟩
       | true =>
        go_wp2_with fail;refine(HCK.out _).mono ?_;rintro ev w3 ⟨rfl,hb⟩;have hk:=HK1.out.next hb;have HK3:=Hq hk;clear hb c0 c1 c2 c3;obtain⟨c0,c1,c2,c3⟩:=hk.1.cells;clear hk;go_wp2_with fail;refine(HGG.out _).mono ?_;rintro ev w4 ⟨rfl,hb⟩;have hk:=HK3.out.next hb;have HK4:=Hq hk;clear hb c0 c1 c2 c3;obtain⟨c0,c1,c2,c3⟩:=hk.1.cells;clear hk;go_wp2_with fail;refine(HGY.out _).mono ?_;rintro ev w5 ⟨rfl,hb⟩;have hk:=HK4.out.next hb;have HK5:=Hq hk;clear hb c0 c1 c2 c3;obtain⟨c0,c1,c2,c3⟩:=hk.1.cells;clear hk
        cases gy with
        | false =>
         simp only[Bool.not_false,Bool.not_true,Bool.false_or,if_true]at HRR;go_wp2;go_ret;exact⟨by rw[HRR.out];rfl,HK5.out.2⟩
        | true =>
         simp only[Bool.not_true,Bool.or_false,Bool.false_eq_true,if_false]at HRR;go_wp2;go_ret;exact⟨by rw[HRR.out];rfl,HK5.out.2⟩
    · have HRR:=Hq (show R=chkK M O from by rw[←HR.out];unfold scK;rw[if_pos hv,if_neg hc]);obtain⟨e,he⟩:=nm (chkK M O);rw[he]at HCK hc HRR;clear hv he;go_wp2_with fail;refine(HCK.out _).mono ?_;rintro ev w3 ⟨rfl,hb⟩;have hk:=HK1.out.next hb;have HK3:=Hq hk;clear hb c0 c1 c2 c3;obtain⟨c0,c1,c2,c3⟩:=hk.1.cells;clear hk;go_wp2;go_ret;exact⟨by rw[HRR.out];rfl,HK3.out.2⟩
end Go.Proofs.YtppbcopnfankcaaGreat

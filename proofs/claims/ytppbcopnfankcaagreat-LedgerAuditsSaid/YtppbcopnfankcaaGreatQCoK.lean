import Derived.Test.YtppbcopnfankcaaGreatQTrE
import Derived.Lib.ConvBytes
import Derived.Test.YtppbcopnfankcaaGreatQPeEA
set_option linter.unusedVariables false
set_option linter.unusedSimpArgs false
namespace Go.Proofs.YtppbcopnfankcaaGreat
set_option maxRecDepth 100000
open Go.RowKit Go.Lib
theorem zdu(x m:Nat)(hx8:x<256 ^ 128)(hm:m<256 ^ 128)(h0:0<m)(w:World):Calls Tryz.prog 223 #[.string (nS x),.string (nS m)] w (Ret (.string (nS (x%m))) w):=by
 have HD:=Hq (zmk x m hx8 hm h0);obtain⟨s,hs⟩:=nm (nS x);obtain⟨t,ht⟩:=nm (nS m);rw[hs,ht]at HD;rw[hs,ht];clear hs ht hm hx8;go_enter Tryz.func223,Tryz.ntmps223;go_wp2_with fail;refine(HD.out _).mono ?_;rintro e w1 ⟨rfl,hb⟩;have HB:=Hq hb;clear hb;go_wp2;go_ret;exact⟨rfl,HB.out⟩
set_option maxRecDepth 100000
set_option maxHeartbeats 1000000
open Go.RowKit
theorem zwy{a b m:Nat}(ha:a<m)(hb:b<m)(h:m - b≤a):a - (m - b)=(a+b)%m:=by
 have : a+b=(a - (m - b))+m:=by omega
 rw[this,Nat.add_mod_right,Nat.mod_eq_of_lt (by omega)]
theorem zwx{a b m:Nat}(hb:b<m)(h:a<m - b):a+b=(a+b)%m:=(Nat.mod_eq_of_lt (by omega)).symm
theorem zug(a b m:Nat)(ha:a<m)(hb:b<m)(hm:m<256 ^ 128)(w:World):Calls Tryz.prog 222 #[.string (nS a),.string (nS b),.string (nS m)] w (Ret (.string (nS ((a+b)%m))) w):=by
 have ha8:=Nat.lt_trans ha hm;have hb8:=Nat.lt_trans hb hm;have hr8:m - b<256 ^ 128:=by omega
 have HS:=Hq (zao m b hm hb8 (by omega));have HCM:=Hq (jw (nS a) (nS (m - b)) (by have:=ze.2 ha8;omega) (by have:=ze.2 hr8;omega));rw[zcy ha8 hr8]at HCM;by_cases h:m - b≤a
 · have hge:=jl h;have HS2:=Hq (zao a (m - b) ha8 hr8 h);rw[zwy ha hb h]at HS2;obtain⟨c,hc⟩:=nm (cmpI a (m - b));rw[hc]at HCM hge;obtain⟨s,hs⟩:=nm (nS a);obtain⟨t,ht⟩:=nm (nS b);obtain⟨u,hu⟩:=nm (nS m);obtain⟨r,hr⟩:=nm (nS (m - b));rw[hs,hr]at HCM HS2;rw[hu,ht,hr]at HS;rw[hs,ht,hu];clear hs ht hu hr hc ha hb hm ha8 hb8 hr8 h;go_enter Tryz.func222,Tryz.ntmps222;go_wp2_with fail;refine(HS.out _).mono ?_;rintro e w1 ⟨rfl,hb1⟩;have HB1:=Hq hb1;clear hb1;go_wp2_with fail;refine(HCM.out _).mono ?_;rintro e w2 ⟨rfl,rfl⟩;go_wp2_with fail;refine(HS2.out _).mono ?_;rintro e w3 ⟨rfl,hb3⟩;have HB3:=Hq ((HB1.out).trans (hb3.mono (HB1.out.size)));clear hb3;go_wp2;go_ret;exact⟨rfl,HB3.out⟩
 · have hlt:¬ (0≤cmpI a (m - b)):=by unfold cmpI;rw[if_pos (by omega)];decide
   have hf:a+b<256 ^ 128:=by omega
   have HA:=Hq (zrq a b ha8 hb8);rw[show fitR (a+b)=.tuple #[.string (nS ((a+b)%m)),.int .i64 0]from by unfold fitR;rw[if_pos hf,←zwx hb (by omega)]]at HA;obtain⟨c,hc⟩:=nm (cmpI a (m - b));rw[hc]at HCM hlt;obtain⟨s,hs⟩:=nm (nS a);obtain⟨t,ht⟩:=nm (nS b);obtain⟨u,hu⟩:=nm (nS m);obtain⟨r,hr⟩:=nm (nS (m - b));rw[hs,hr]at HCM;rw[hs,ht]at HA;rw[hu,ht,hr]at HS;rw[hs,ht,hu];clear hs ht hu hr hc ha hb hm ha8 hb8 hr8 h hf;go_enter Tryz.func222,Tryz.ntmps222;go_wp2_with fail;refine(HS.out _).mono ?_;rintro e w1 ⟨rfl,hb1⟩;have HB1:=Hq hb1;clear hb1;go_wp2_with fail;refine(HCM.out _).mono ?_;rintro e w2 ⟨rfl,rfl⟩;go_wp2_with fail;refine(HA.out _).mono ?_;rintro e w3 ⟨rfl,hb3⟩;have HB3:=Hq ((HB1.out).trans (hb3.mono (HB1.out.size)));clear hb3;go_wp2;go_ret;exact⟨rfl,HB3.out⟩
theorem zw7(x y m:Nat)(hx8:x<256 ^ 128)(hy8:y<256 ^ 128)(hm8:m<256 ^ 128)(h0:0<m)(w:World):Calls Tryz.prog 172 #[.string (nS x),.string (nS y),.string (nS m)] w (Ret (.tuple #[.string (nS ((x+y)%m)),.int .i64 0]) w):=by
 have HC:=Hq (fun w=>zgf w (nS x) (nS y) (nS m) _ rfl (zj.2 hx8) (zj.2 hy8) (zj.2 hm8) (zx h0) _ rfl);have HR1:=Hq (zdu x m hx8 hm8 h0);have HR2:=Hq (zdu y m hy8 hm8 h0);have HP:=Hq (zug (x%m) (y%m) m (Nat.mod_lt _ h0) (Nat.mod_lt _ h0) hm8);rw[←Nat.add_mod]at HP;obtain⟨s,hs⟩:=nm (nS x);obtain⟨t,ht⟩:=nm (nS y);obtain⟨u,hu⟩:=nm (nS m);rw[hs,ht,hu]at HC;rw[hs,hu]at HR1;rw[ht,hu]at HR2;rw[hu]at HP;rw[hs,ht,hu];clear hs ht hu hx8 hy8 hm8;go_enter Tryz.func172,Tryz.ntmps172;go_wp2_with fail;refine(HC.out w).mono ?_;rintro e w1 ⟨rfl,hb1⟩;have HB1:=Hq ((((Below.refl w.heap.size w).alloc nlr _).alloc (by simp) _).trans hb1);clear hb1;go_wp2_with fail;refine(HR1.out _).mono ?_;rintro e w2 ⟨rfl,hb2⟩;have HB2:=bt HB1 hb2;clear hb2;go_wp2_with fail;refine(HR2.out _).mono ?_;rintro e w3 ⟨rfl,hb3⟩;have HB3:=bt HB2 hb3;clear hb3;go_wp2_with fail;refine(HP.out _).mono ?_;rintro e w4 ⟨rfl,hb4⟩;have HB4:=bt HB3 hb4;clear hb4;go_wp2;go_ret2;exact⟨rfl,HB4.out⟩
set_option maxRecDepth 100000
set_option maxHeartbeats 4000000
theorem zvc(w:World)(e:TypeId)(s:ByteArray):Below w.heap.size w (bytesWorld w e s):=
 below_freeze ((Below.drew (Below.refl _ w)).alloc nlr _) (p:=⟨w.heap.size,_,none⟩) nlr 1
theorem zlx(l:List UInt8)(n:Nat)(h:n≤l.length):(bstr l).extract 0 n=bstr (l.take n):=by
 unfold bstr;rw[ByteArray.extract_mk];simp
theorem zy5(l:List UInt8)(q j:Nat)(b:UInt8)(h:l[j]? =some b):(bnat (l.take j)%q * 256%q+b.toNat)%q=bnat (l.take (j+1))%q:=by
 rw[km h,za0,Nat.mod_add_mod,Nat.add_mod,Nat.mul_mod,Nat.mod_mod,←Nat.mul_mod,←Nat.add_mod]
theorem zj5(st O:ByteArray)(hst:st.size≤1000000)(vO:zc O=true)(h0:0<num O)(h8:O.size≤8)(w:World) :
 Calls Tryz.prog 118 #[.string st,.string O] w (Ret (.tuple #[.string (nS (chL st.data.toList O.size (num O))),.int .i64 0]) w):=by
 have lO:=je h8;have HVA:=Hq (zh O (by omega));rw[vO]at HVA;have hne:O.toList.isEmpty=false:=by rw[zu vO];exact zx h0
 obtain⟨n,hn⟩:=nm (O.size);obtain⟨q,hq⟩:=nm (num O);have HOQ:=Hq (show nS q=O from by rw[←hq];exact(zu vO).symm);obtain⟨H,hH⟩:=nm (trH 67 [st.data.toList,shE8 0]);have HHL:=Hq (show H.length=32 from by rw[←hH];exact zdd _ _);have HHD:=Hq (show bstr (trH 67 (dt [st,bstr (shE8 0)]))=bstr H from by rw[←hH];simp[dt,jn]);have HR:=Hq (show chL st.data.toList O.size (num O)=bnat (H.take (n+8))%q from by unfold chL;rw[hH,hn,hq]);have hni:(n:Int)≤8:=by omega
 have h08:(0:Int)<(n:Int)+8:=by omega
 have h32:¬ (32:Int)<(n:Int)+8:=by omega
 have HST:=Hq hst;have HQ:=Hq (⟨by omega,by omega⟩:0<q∧q<18446744073709551616);have HN8:=Hq (show n≤8 from by omega);rw[HR.out];have hib:=Lib.fresh_isBuilder 195 5 w;have hb0:Below w.heap.size w (w.alloc (.cells #[.pointer none,.slice none 0 0] 195)):=(blr).alloc nlr _;obtain⟨W0,hW0⟩:=nm (w.alloc (.cells #[.pointer none,.slice none 0 0] 195));have hzw:w.heap.size≤W0.heap.size:=by rw[←hW0];simp
 rw[hW0]at hib hb0;have HIB0:=Hq hib;have HB0:=Hq hb0;have HZ0:=Hq hzw;clear hib hb0 hzw hH hq hst vO h0 h8 lO HR;go_enter Tryz.func118,Tryz.ntmps118;go_wp2_with fail;refine(HVA.out _).mono ?_;rintro e w1 ⟨rfl,rfl⟩;go_wp2;try rw[hW0]
 clear hW0;go_loopw [7] (fun i wr=>∃ k:Nat,k≤1∧i=.int .i64 k∧IsBuilder 195 5 w.heap.size w.heap.size (Lib.byteCells (if k=0 then []else H)) wr∧Below w.heap.size w wr∧w.heap.size≤wr.heap.size) (fun i _=>1 - (RowKit.intOf i).toNat);case atStart=>exact⟨0,Nat.zero_le _,rfl,HIB0.out,HB0.out,HZ0.out⟩
 case round =>
  obtain⟨k,hk,rfl,hib,hb,hz⟩:=hrel;have HB:=Hq hb;have HZ:=Hq hz;clear hb hz;by_cases hk0:k=0
  · subst hk0;rw[if_pos rfl]at hib;have HIB:=Hq hib;clear hib hk;go_wp2_with fail;refine(zs6 _ _ _ _ HIB.out).mono ?_;rintro e w2 ⟨rfl,rfl⟩;rw[show ((Lib.byteCells ([]:List UInt8)).length:Int)=0 from rfl];have hif:=Lib.fresh_isBuilder 211 5 wr;have hbf:Below wr.heap.size wr (wr.alloc (.cells #[.pointer none,.slice none 0 0] 211)):=(blr).alloc nlr _;obtain⟨W1,hW1⟩:=nm (wr.alloc (.cells #[.pointer none,.slice none 0 0] 211));have hz1:wr.heap.size≤W1.heap.size:=by rw[←hW1];simp
    rw[hW1]at hif hbf;have HIF:=Hq hif;have HBF:=Hq hbf;have HZF:=Hq hz1;clear hif hbf hz1;have H8:=Hq (zc1 wr.heap.size wr.heap.size [] 0 (by omega) W1 HIF.out (by simp) HZF.out);go_wp2_with fail;try rw[hW1]
    clear hW1;refine H8.out.mono ?_;rintro e w2 ⟨rfl,hi2,hb2,_⟩;have HI2:=Hq (show IsBuilder 211 5 wr.heap.size wr.heap.size (Lib.byteCells (shE8 0)) w2 from hi2);have HB2:=Hq (HBF.out.trans hb2);have HZ2:=Hq (Nat.le_trans HZF.out hb2.size);clear hi2 hb2;go_wp2_with fail;refine(zdj _ _ (shE8 0) _ HI2.out HZ2.out).mono ?_;rintro e w3 ⟨rfl,hk3⟩;have HB3:=Hq (HB2.out.trans hk3.1);have HZ3:=Hq (Nat.le_trans HZ2.out hk3.1.size);clear hk3;have hb4:Below wr.heap.size wr (w3.alloc (.cells #[.string st,.string (bstr (shE8 0))] 9)):=HB3.out.alloc HZ3.out _;have HPL:=Hq (zh8 67 _ 2 2 [st,bstr (shE8 0)] (by omega) (by simp;exact⟨HST.out,by rw[zm];simp[shE8]⟩) _ (jc w3 [st,bstr (shE8 0)] 9 (by simp)));rw[HHD.out]at HPL;have HB4:=Hq hb4;clear hb4;obtain⟨sh0,hsh0⟩:=nm (bstr (shE8 0));rw[hsh0]at HPL HB4⊢;clear hsh0;go_wp2_with fail;refine HPL.out.mono ?_;rintro e w5 ⟨rfl,hb5⟩;have HB5:=bt HB4 hb5;clear hb5;have hi5:IsBuilder 195 5 w.heap.size w.heap.size (Lib.byteCells []) w5:=qa HIB.out HB5.out;have HZ5:=Hq (Nat.le_trans HZ.out HB5.out.size);go_wp2_with fail;refine(ke _ _ _ (bstr H) _ hi5 (by rw[zm,HHL.out];decide) HZ5.out).mono ?_;rintro e w6 ⟨rfl,hi6,hb6⟩;rw[Lib.strCells_eq,←byteCells_append,jn,List.nil_append]at hi6;have HI6:=Hq hi6;have HB6:=Hq ((HB.out.trans (HB5.out.mono HZ.out)).trans hb6);have HZ6:=Hq (Nat.le_trans HZ5.out hb6.size);clear hi5 hi6 hb6;go_wp2;go_roundw;case rel=>exact⟨1,Nat.le_refl _,rfl,HI6.out,HB6.out,HZ6.out⟩
    case measure=>simp[RowKit.intOf]
  · have hk1:k=1:=by omega
    subst hk1;rw[if_neg (by decide)]at hib;have HIB:=Hq hib;clear hib hk hk0;go_wp2_with fail;refine(zs6 _ _ _ _ HIB.out).mono ?_;rintro e w2 ⟨rfl,rfl⟩;rw[byteCells_length,HHL.out];go_wp2_with fail;refine(j9 _ _ H _ HIB.out HZ.out).mono ?_;rintro e w3 ⟨rfl,hk3⟩;have HB3:=Hq (HB.out.trans hk3.1);have HZ3:=Hq (Nat.le_trans HZ.out hk3.1.size);clear hk3;have hsl:(bstr H).extract 0 (n+8)=bstr (H.take (n+8)):=zlx H (n+8) (by rw[HHL.out];have:=HN8.out;omega);have hs32:(bstr H).size=32:=by rw[zm];exact HHL.out
    have hle:(n:Int)+8≤32:=by omega
    obtain⟨L,hL⟩:=nm (H.take (n+8));have HLL:=Hq (show L.length=n+8 from by rw[←hL,List.length_take,HHL.out];have:=HN8.out;omega);have HLE:=Hq hL;rw[hL]at hsl;obtain⟨bH,hbH⟩:=nm (bstr H);rw[hbH]at hsl hs32⊢;clear hL hbH;have hlen:(bstr L).size=n+8:=by rw[zm];exact HLL.out
    obtain⟨bL,hbL⟩:=nm (bstr L);have HBL:=Hq (show bL.data.toList=L from by rw[←hbL,jn]);rw[hbL]at hsl hlen;clear hbL;have hcv:=Lib.run_convert_string_bytes (P:=Tryz.prog) w3 9 130 5 bL Tryz.underlying9 Tryz.underlying130 Tryz.underlying5;go_wp2;have hbw:=zvc w3 5 bL;have hcl:∀ p,p<n+8→(bytesWorld w3 5 bL).cell? ⟨w3.heap.size,p,none⟩=some (.int .u8 ((L.getD p 0).toNat:Int)):=fun p hp=>by
     have:=bytesWorld_cell w3 5 bL p (by rw[hlen];exact hp);rwa[HBL.out]at this
    obtain⟨W4,hW4⟩:=nm (bytesWorld w3 5 bL);obtain⟨C4,hC4⟩:=nm (grownCap w3 (n+8) 0 5);obtain⟨P,hP⟩:=nm (w3.heap.size);have HCC:=Hq (show n+8≤C4 from by rw[←hC4];exact grownCap_ge _ _ _ _);rw[hW4]at hbw hcl⊢;rw[hC4];rw[hP]at hcl⊢;have HB4:=Hq (HB3.out.trans (hbw.mono HZ3.out));have HZ4:=Hq (Nat.le_trans HZ3.out hbw.size);have HCL:=Hq hcl;clear hbw hcl hW4 hC4 hP hcv;obtain⟨bx,hbx⟩:=nm (bH.extract 0 (n+8));rw[hbx];clear hbx hsl hs32 hlen hle;clear h32;go_loopw [9,39] (fun v i wr=>∃ j:Nat,j≤n+8∧v=.string (nS (bnat (L.take j)%q))∧i=.int .i64 j∧(∀ p,p<n+8→wr.cell? ⟨P,p,none⟩=some (.int .u8 ((L.getD p 0).toNat:Int)))∧Below w.heap.size w wr∧w.heap.size≤wr.heap.size) (fun _ i _=>n+8 - (RowKit.intOf i).toNat);case atStart=>exact⟨0,Nat.zero_le _,by rw[show bnat (L.take 0)%q=0 from by simp[bnat]];rfl,rfl,HCL.out,HB4.out,HZ4.out⟩
    case round =>
     obtain⟨j,hj,rfl,rfl,hcl,hb,hz⟩:=hrel;have HCL:=Hq hcl;have HB:=Hq hb;have HZ:=Hq hz;clear hcl hb hz;by_cases hlt:j<n+8
     · have d0:=HCL.out j hlt;obtain⟨b,hb⟩:∃ b,L[j]? =some b:=⟨_,List.getElem?_eq_getElem (by rw[HLL.out];exact hlt)⟩;have hbd:L.getD j 0=b:=by rw[List.getD_eq_getElem?_getD,hb];rfl
       rw[hbd]at d0;have HHN:=Hq (zy5 L q j b hb);have hb255:(b.toNat:Int)≤255:=by have:=b.toNat_lt;omega
       have hji:(j:Int)<(n:Int)+8:=by omega
       have hj16:(j:Int)<16:=by have:=HN8.out;omega
       have HJ:=Hq hlt;obtain⟨x,hx⟩:=nm (bnat (L.take j)%q);have hxq:x<q:=by rw[←hx];exact Nat.mod_lt _ HQ.out.1
       rw[hx]at HHN⊢;have HQ2:=HQ.out.2;have HOF:=Hq (yz 256 (by decide));have HML:=Hq (zrt x 256 q (by omega) (by decide) HQ.out.2 HQ.out.1);have HOB:=Hq (yz b.toNat (by have:=b.toNat_lt;omega));have HAD:=Hq (zw7 (x * 256%q) b.toNat q (zg (by have:=Nat.mod_lt (x * 256) HQ.out.1;omega)) (zg (by have:=b.toNat_lt;omega)) (zg HQ.out.2) HQ.out.1);rw[HHN.out]at HAD;rw[HOQ.out]at HML HAD;rw[show bstr (encN 256)=nS 256 from rfl]at HOF;rw[show bstr (encN b.toNat)=nS b.toNat from rfl]at HOB;obtain⟨z1,hz1⟩:=nm (nS 256);obtain⟨z2,hz2⟩:=nm (nS b.toNat);obtain⟨z3,hz3⟩:=nm (nS x);obtain⟨z4,hz4⟩:=nm (nS (x * 256%q));obtain⟨z5,hz5⟩:=nm (nS (bnat (L.take (j+1))%q));have HZ5:=Hq hz5;rw[hz1]at HOF HML;rw[hz2]at HOB HAD;rw[hz3]at HML⊢;rw[hz4]at HML HAD;rw[hz5]at HAD;obtain⟨bi,hbi⟩:∃ k:Nat,b.toNat=k:=⟨_,rfl⟩;rw[hbi]at HOB d0 hb255;clear hz1 hz2 hz3 hz4 hz5 hx hxq hb hbd HHN hbi hlt hj HQ2;go_wp2_with fail;refine(HOF.out _).mono ?_;rintro e w5 ⟨rfl,hb5⟩;have HB5:=Hq hb5;clear hb5 d0;go_wp2_with fail;refine(HML.out _).mono ?_;rintro e w6 ⟨rfl,hb6⟩;have HB6:=bt HB5 hb6;clear hb6;go_wp2_with fail;refine(HOB.out _).mono ?_;rintro e w7 ⟨rfl,hb7⟩;have HB7:=bt HB6 hb7;clear hb7;go_wp2_with fail;refine(HAD.out _).mono ?_;rintro e w8 ⟨rfl,hb8⟩;have HB8:=bt HB7 hb8;clear hb8;go_wp2;go_roundw;case rel=>exact⟨j+1,HJ.out,by rw[HZ5.out],by go_num,fun p hp=>cell_kept HB8.out nlr (HCL.out p hp),HB.out.trans (HB8.out.mono HZ.out),Nat.le_trans HZ.out HB8.out.size⟩
       case measure=>have:=HJ.out;simp[RowKit.intOf];omega
     · have hjn:j=n+8:=by omega
       have hjf:¬ (j:Int)<(n:Int)+8:=by omega
       have HTK:=Hq (show L.take j=L from List.take_of_length_le (by rw[HLL.out];omega));rw[HTK.out];obtain⟨z,hz⟩:=nm (nS (bnat L%q));have HZZ:=Hq hz;rw[hz];clear hz hjn hlt hj;go_wp2;go_ret2;exact⟨by rw[HLE.out,HZZ.out];rfl,HB.out⟩
theorem zhs{l:List ByteArray}{k:Nat}{s:ByteArray}(h:l[k]? =some s)(hv:zc s=false):¬ (l.all zc=true):=fun hall=>by
 have:=List.all_eq_true.1 hall s (List.mem_of_getElem? h);rw[hv]at this;cases this
theorem zk5{l:List ByteArray}(h:∀ k,k<l.length→∃ s,l[k]? =some s∧zc s=true):l.all zc=true:=by
 rw[List.all_eq_true];intro s hs;obtain⟨k,hk⟩:=List.mem_iff_getElem?.1 hs;obtain⟨s',h1,h2⟩:=h k (List.getElem?_eq_some_iff.1 hk).1;rw[hk]at h1;cases h1;exact h2
theorem zpy{M O x:ByteArray}(h:hasK M O x=true):chkK M O=0∧zc x=true∧hasN (num M) (num O) (num x)=true:=by
 unfold hasK at h;simp only[Bool.and_eq_true,decide_eq_true_eq]at h;exact⟨h.1.1,h.1.2,h.2⟩
theorem zju(l:List UInt8):(bstr l).extract 1 (bstr l).size=bstr (l.drop 1):=by
 rw[zm];unfold bstr;rw[ByteArray.extract_mk];simp;exact List.take_of_length_le (by simp)
end Go.Proofs.YtppbcopnfankcaaGreat

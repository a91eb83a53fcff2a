import Derived.Test.YtdhnkmbjogmmkaaGreatDoorQRowN
import Derived.Deep.DeepCutAuto
import Derived.Deep.CutBlock
set_option linter.unusedVariables false
set_option linter.unusedSimpArgs false
namespace Go.Proofs.YtdhnkmbjogmmkaaGreatDoor
set_option maxRecDepth 100000
set_option maxHeartbeats 8000000
open Go.RowKit
theorem wrapU(z:Int):IntKind.u64.wrap z=z%18446744073709551616:=by simp[IntKind.wrap,IntKind.bits,IntKind.signed]
structure DivW (hi lo y s Y y1 y0 H u L n1 n0 Q1 U21 Q0 R rem:Nat):Prop where
 eY:IntKind.u64.wrap ((y:Int) * 2 ^ s)=(Y:Int)
 e9:(Y:Int) / 4294967296=(y1:Int)
 e10:bits .and .u64 (Y:Int) 4294967295=(y0:Int)
 eH:IntKind.u64.wrap ((hi:Int) * 2 ^ s)=(H:Int)
 e11:bits .or .u64 (H:Int) ((lo:Int) / 2 ^ (64 - s))=(u:Int)
 e12:IntKind.u64.wrap ((lo:Int) * 2 ^ s)=(L:Int)
 e13:(L:Int) / 4294967296=(n1:Int)
 e14:bits .and .u64 (L:Int) 4294967295=(n0:Int)
 by1:y1<4294967296
 by2:4294967296≤2 * y1
 by0:y0<4294967296
 bn1:n1<4294967296
 bn0:n0<4294967296
 bY:Y=y1 * 4294967296+y0
 bu:u<Y
 hQ1:Q1=(u * 4294967296+n1) / Y
 hU21:U21=(u * 4294967296+n1)%Y
 hQ0:Q0=(U21 * 4294967296+n0) / Y
 hR:R=(U21 * 4294967296+n0)%Y
 e9':(R:Int) / 2 ^ s=(rem:Int)
theorem est_mul{q y0:Nat}(hq:q≤4294967297)(hy:y0<4294967296):IntKind.u64.wrap ((q:Int) * (y0:Int))=((q * y0:Nat):Int):=by
 rw[show (q:Int) * (y0:Int)=((q * y0:Nat):Int)from by simp];apply u64_wrap;have h1:q * y0≤4294967297 * 4294967295:=Nat.mul_le_mul hq (by omega);omega
theorem rest_word{u n1 Q Y:Nat}(hQ:Q=(u * 4294967296+n1) / Y)(hY:Y<18446744073709551616)(h0:0<Y) :
 IntKind.u64.wrap (IntKind.u64.wrap (IntKind.u64.wrap ((u:Int) * 4294967296)+(n1:Int)) - IntKind.u64.wrap ((Q:Int) * (Y:Int)))=(((u * 4294967296+n1)%Y:Nat):Int):=by
 have h1:=Nat.div_add_mod (u * 4294967296+n1) Y;have h2:=Nat.mod_lt (u * 4294967296+n1) h0;rw[←hQ,Nat.mul_comm]at h1;have e:(Q:Int) * (Y:Int)=((Q * Y:Nat):Int):=by simp
 rw[e];generalize Q * Y=p at *;generalize (u * 4294967296+n1)%Y=r at *;rw[wrapU,wrapU,wrapU,wrapU];omega
theorem start_word{u y1:Nat}(hu:u<18446744073709551616)(h0:0<y1):∃ q p r:Nat,IntKind.u64.wrap ((u:Int) / (y1:Int))=(q:Int)∧IntKind.u64.wrap ((q:Int) * (y1:Int))=(p:Int)∧IntKind.u64.wrap ((u:Int) - (p:Int))=(r:Int)∧q=u / y1∧r=u%y1:=by
 have h1:=Nat.div_add_mod u y1;have h3:u / y1≤u:=Nat.div_le_self _ _;rw[Nat.mul_comm]at h1;refine⟨u / y1,u / y1 * y1,u%y1,u64_wrap (u / y1) (by omega),?_,?_,rfl,rfl⟩
 · rw[show ((u / y1:Nat):Int) * (y1:Int)=((u / y1 * y1:Nat):Int)from by simp];exact u64_wrap _ (by omega)
 · generalize u / y1 * y1=p at *;generalize u%y1=r at *;rw[wrapU];omega
theorem div64_core(hi lo y s Y y1 y0 H u L n1 n0 Q1 U21 Q0 R rem:Nat)(hd:DivW hi lo y s Y y1 y0 H u L n1 n0 Q1 U21 Q0 R rem)(hs:64 - (Lib.bitLen y:Int)=s)(hs63:s≤63)(hy8:y<18446744073709551616)(hlo:lo<18446744073709551616)(hh:hi<y)(h0:0<hi)(w:World) :
 Calls Tryz.prog 107 #[.int .u64 hi,.int .u64 lo,.int .u64 y] w (RetQ (.tuple #[.int .u64 ((Q1 * 4294967296+Q0:Nat):Int),.int .u64 rem]) w):=by
 have hy1:((y:Int)==0)=false:=beq_eq_false_iff_ne.2 (by omega);have hh1:((hi:Int)==0)=false:=beq_eq_false_iff_ne.2 (by omega);have hh2:¬ ((y:Int)≤(hi:Int)):=by omega
 have HS:=Hq hs;have HY8:=Hq hy8;have HD:=Hq hd;have eY:=hd.eY;have e9:=hd.e9;have e10:=hd.e10;have eH:=hd.eH;have e11:=hd.e11;have e12:=hd.e12;have e13:=hd.e13;have e14:=hd.e14;have by1:=hd.by1;have by2:=hd.by2;have by0:=hd.by0;have bn1:=hd.bn1;have bn0:=hd.bn0;have hny:¬ (y1=0):=by omega
 have hny':(0:Int)<(y1:Int):=by omega
 clear hs hy8 hd;go_enter Tryz.func107,Tryz.ntmps107;go_wp2_with fail;refine(Tryz.bits_LeadingZeros64 (y:Int) _ (by omega) (by have:=HY8.out;omega)).mono ?_;rintro e w1 ⟨rfl,rfl⟩;rw[Int.toNat_natCast,HS.out];have hs0:(0:Int)≤(s:Int):=by omega
 have hs3:(s:Int)≤63:=by omega
 have hu8:u<18446744073709551616:=by have:=HD.out.bu;have:=HD.out.bY;omega
 obtain⟨qs,ps,rs,g1,g2,g3,hq,hr⟩:=start_word hu8 (show 0<y1 by omega);have HQ:=Hq hq;have HR:=Hq hr;have HBU:=Hq (show u<y1 * 4294967296+y0 from by rw[←HD.out.bY];exact HD.out.bu);have HPY:=Hq (show 0<y1 * 4294967296+y0 from by omega);have HQQ:=Hq (show Q1=(u * 4294967296+n1) / (y1 * 4294967296+y0)from by rw[←HD.out.bY];exact HD.out.hQ1);clear hq hr;go_upto_block 0 with(fail)
 go_cut [15] (fun q wx=>q=.int .u64 (Q1:Int)∧wx=w1);case first =>
  go_wp2
  go_loop [15,16] (fun q r=>∃ q' r':Nat,q=.int .u64 q'∧r=.int .u64 r'∧Est 4294967296 u n1 y1 y0 q' r'∧r'<4294967296) (fun q _=>(intOf q).toNat)
  case atStart=>exact⟨qs,rs,rfl,rfl,by rw[HQ.out,HR.out];exact est_start bn1 by2 by0 HBU.out,by rw[HR.out];exact Nat.lt_of_lt_of_le (Nat.mod_lt _ (by omega)) (by omega)⟩
  case round =>
   obtain⟨q,r,rfl,rfl,hE,hr⟩:=hrel;obtain⟨a,ha⟩:∃ a,a=q * y0:=⟨_,rfl⟩;have hem:IntKind.u64.wrap ((q:Int) * (y0:Int))=(a:Int):=by rw[ha];exact est_mul hE.le by0
   have HA:=Hq ha;have hql:q≤4294967297:=hE.le;have HE:=Hq hE;clear ha hE;have HRR:=Hq hr;have HQL:=Hq hql;have HB1:=Hq by1;have HB2:=Hq by2;have HB0:=Hq by0;have HN:=Hq bn1;have hr':(r:Int)<4294967296:=by omega
   have hq':(q:Int)≤4294967297:=by omega
   have hy1':(y1:Int)<4294967296:=by omega
   have hn':(n1:Int)<4294967296:=by omega
   clear hr hql by1 by2 by0 bn1 bn0 hny;by_cases ht:(4294967296:Int)≤(q:Int)∨(4294967296:Int) * (r:Int)+(n1:Int)<(a:Int)
   · obtain⟨h1,hE'⟩:=est_less HE.out HN.out HBU.out (by rw[←HA.out];omega);have HE':=Hq hE';have h1':(1:Int)≤(q:Int):=by omega
     clear hE';by_cases hb:(4294967296:Int)≤(r:Int)+(y1:Int)
     · have HF:=Hq (est_break HE'.out HPY.out HB0.out (by omega) (by omega));by_cases h2:(4294967296:Int)≤(q:Int)
       · clear ht;go_wp2;go_meet;exact⟨by rw[HQQ.out,←HF.out];go_num,rfl⟩
       · have ht2:(4294967296:Int) * (r:Int)+(n1:Int)<(a:Int):=by omega
         clear ht;go_wp2;go_meet;exact⟨by rw[HQQ.out,←HF.out];go_num,rfl⟩
     · by_cases h2:(4294967296:Int)≤(q:Int)
       · clear ht;go_wp2;go_round;case rel=>exact⟨q - 1,r+y1,by go_num,by go_num,HE'.out,by omega⟩
         case measure=>simp[intOf];omega
       · have ht2:(4294967296:Int) * (r:Int)+(n1:Int)<(a:Int):=by omega
         clear ht;go_wp2;go_round;case rel=>exact⟨q - 1,r+y1,by go_num,by go_num,HE'.out,by omega⟩
         case measure=>simp[intOf];omega
   · have h1:¬ ((4294967296:Int)≤(q:Int)):=by omega
     have h2:¬ ((4294967296:Int) * (r:Int)+(n1:Int)<(a:Int)):=by omega
     have HF:=Hq (est_done HE.out HPY.out (by rw[←HA.out];omega));clear ht;go_wp2;go_meet;exact⟨by rw[HQQ.out,←HF.out],rfl⟩
 case rest =>
  obtain⟨rfl,rfl⟩:=hcut;have hY8:Y<18446744073709551616:=by have:=HD.out.bY;omega
  have hY0:0<Y:=by have:=HD.out.bY;omega
  have er1:IntKind.u64.wrap (IntKind.u64.wrap (IntKind.u64.wrap ((u:Int) * 4294967296)+(n1:Int)) - IntKind.u64.wrap ((Q1:Int) * (Y:Int)))=(U21:Int):=by rw[HD.out.hU21];exact rest_word HD.out.hQ1 hY8 hY0
  have er2:IntKind.u64.wrap (IntKind.u64.wrap (IntKind.u64.wrap ((U21:Int) * 4294967296)+(n0:Int)) - IntKind.u64.wrap ((Q0:Int) * (Y:Int)))=(R:Int):=by rw[HD.out.hR];exact rest_word HD.out.hQ0 hY8 hY0
  have hUY:U21<Y:=by rw[HD.out.hU21];exact Nat.mod_lt _ hY0
  obtain⟨qs,ps,rs,k1,k2,k3,hq,hr⟩:=start_word (Nat.lt_trans hUY hY8) (show 0<y1 by omega);have HQ:=Hq hq;have HR:=Hq hr;have HBU:=Hq (show U21<y1 * 4294967296+y0 from by rw[←HD.out.bY];exact hUY);have hq1:Q1<4294967296:=by rw[HQQ.out];exact est_digit bn1 (by rw[←HD.out.bY];exact HD.out.bu)
  have HQQ:=Hq (show Q0=(U21 * 4294967296+n0) / (y1 * 4294967296+y0)from by rw[←HD.out.bY];exact HD.out.hQ0);have hq0:Q0<4294967296:=by rw[HQQ.out];exact est_digit bn0 HBU.out
  have hq1':(Q1:Int)<4294967296:=by omega
  have hq0':(Q0:Int)<4294967296:=by omega
  have hU0:(0:Int)≤(U21:Int):=by omega
  have e9':=HD.out.e9';clear hq hr hY8 hUY hq1 hq0 g1 g2 g3 hu8;go_upto_block 2 with(fail)
  go_cut [18] (fun q wx=>q=.int .u64 (Q0:Int)∧wx=wc);case first =>
   go_wp2
   go_loop [18,16] (fun q r=>∃ q' r':Nat,q=.int .u64 q'∧r=.int .u64 r'∧Est 4294967296 U21 n0 y1 y0 q' r'∧r'<4294967296) (fun q _=>(intOf q).toNat)
   case atStart=>exact⟨qs,rs,rfl,rfl,by rw[HQ.out,HR.out];exact est_start bn0 by2 by0 HBU.out,by rw[HR.out];exact Nat.lt_of_lt_of_le (Nat.mod_lt _ (by omega)) (by omega)⟩
   case round =>
    obtain⟨q,r,rfl,rfl,hE,hr⟩:=hrel;obtain⟨a,ha⟩:∃ a,a=q * y0:=⟨_,rfl⟩;have hem:IntKind.u64.wrap ((q:Int) * (y0:Int))=(a:Int):=by rw[ha];exact est_mul hE.le by0
    have HA:=Hq ha;have hql:q≤4294967297:=hE.le;have HE:=Hq hE;clear ha hE;have HRR:=Hq hr;have HQL:=Hq hql;have HB1:=Hq by1;have HB2:=Hq by2;have HB0:=Hq by0;have HN:=Hq bn0;have hr':(r:Int)<4294967296:=by omega
    have hq':(q:Int)≤4294967297:=by omega
    have hy1':(y1:Int)<4294967296:=by omega
    have hn':(n0:Int)<4294967296:=by omega
    clear hr hql by1 by2 by0 bn1 bn0 hny;by_cases ht:(4294967296:Int)≤(q:Int)∨(4294967296:Int) * (r:Int)+(n0:Int)<(a:Int)
    · obtain⟨h1,hE'⟩:=est_less HE.out HN.out HBU.out (by rw[←HA.out];omega);have HE':=Hq hE';have h1':(1:Int)≤(q:Int):=by omega
      clear hE';by_cases hb:(4294967296:Int)≤(r:Int)+(y1:Int)
      · have HF:=Hq (est_break HE'.out HPY.out HB0.out (by omega) (by omega));by_cases h2:(4294967296:Int)≤(q:Int)
        · clear ht;go_wp2;go_meet;exact⟨by rw[HQQ.out,←HF.out];go_num,rfl⟩
        · have ht2:(4294967296:Int) * (r:Int)+(n0:Int)<(a:Int):=by omega
          clear ht;go_wp2;go_meet;exact⟨by rw[HQQ.out,←HF.out];go_num,rfl⟩
      · by_cases h2:(4294967296:Int)≤(q:Int)
        · clear ht;go_wp2;go_round;case rel=>exact⟨q - 1,r+y1,by go_num,by go_num,HE'.out,by omega⟩
          case measure=>simp[intOf];omega
        · have ht2:(4294967296:Int) * (r:Int)+(n0:Int)<(a:Int):=by omega
          clear ht;go_wp2;go_round;case rel=>exact⟨q - 1,r+y1,by go_num,by go_num,HE'.out,by omega⟩
          case measure=>simp[intOf];omega
    · have h1:¬ ((4294967296:Int)≤(q:Int)):=by omega
      have h2:¬ ((4294967296:Int) * (r:Int)+(n0:Int)<(a:Int)):=by omega
      have HF:=Hq (est_done HE.out HPY.out (by rw[←HA.out];omega));clear ht;go_wp2;go_meet;exact⟨by rw[HQQ.out,←HF.out],rfl⟩
  case rest =>
   obtain⟨rfl,rfl⟩:=hcut;go_wp2;go_ret2;exact⟨rfl,rfl⟩
theorem bitLen_spec:∀(f x:Nat),x<2 ^ f→0<x→∃ L,Lib.bitLenAux f x=L+1∧2 ^ L≤x∧x<2 ^ (L+1)∧L<f
 | 0,x,h,h0=>by simp at h;omega
 | f+1,x,h,h0=>by
  unfold Lib.bitLenAux;rw[if_neg (by omega)];by_cases h1:x / 2=0
  · have : x=1:=by omega
    subst this;refine⟨0,?_,by simp,by simp,by omega⟩;rw[h1];cases f<;>simp[Lib.bitLenAux]
  · obtain⟨L,h2,h3,h4,h5⟩:=bitLen_spec f (x / 2) (by rw[Nat.pow_succ]at h;omega) (by omega);refine⟨L+1,by rw[h2];omega,?_,?_,by omega⟩
    · rw[Nat.pow_succ];omega
    · rw[Nat.pow_succ];omega
theorem u64_or_join{s H l:Nat}(hH:H%2 ^ s=0)(hl:l<2 ^ s)(h1:H<18446744073709551616)(h2:l<18446744073709551616):bits .or .u64 (H:Int) (l:Int)=((H+l:Nat):Int):=by
 rw[u64_or_nat _ _ h1 h2,nat_join s H l hH hl]
theorem u64_low{L:Nat}(h:L<18446744073709551616):bits .and .u64 (L:Int) 4294967295=((L%4294967296:Nat):Int):=by
 have h2:=u64_and_nat L 4294967295 h (by omega);rw[show L &&& 4294967295=L%4294967296 from Nat.and_two_pow_sub_one_eq_mod L 32]at h2;exact h2
theorem scaled{hi lo P Q:Nat}(hPQ:P * Q=18446744073709551616)(hQ:0<Q)(hP:0<P):hi * P * 18446744073709551616+lo / Q * 18446744073709551616+lo * P%18446744073709551616=(hi * 18446744073709551616+lo) * P:=by
 have h1:lo * P / 18446744073709551616=lo / Q:=(by rw[←hPQ,Nat.mul_comm P Q,Nat.mul_div_mul_right _ _ hP]);have h2:=Nat.div_add_mod (lo * P) 18446744073709551616;rw[h1]at h2;rw[Nat.add_mul,Nat.mul_right_comm hi 18446744073709551616 P];omega
theorem divW_of(hi lo y L s:Nat)(h1:2 ^ L≤y)(h2:y<2 ^ (L+1))(hs:L+s=63)(hlo:lo<18446744073709551616)(hh:hi<y) :
 ∃ Y y1 y0 H u LL n1 n0 Q1 U21 Q0 R,DivW hi lo y s Y y1 y0 H u LL n1 n0 Q1 U21 Q0 R ((hi * 18446744073709551616+lo)%y):=by
 obtain⟨P,hP⟩:∃ P,P=2 ^ s:=⟨_,rfl⟩;obtain⟨Q,hQ⟩:∃ Q,Q=2 ^ (64 - s):=⟨_,rfl⟩;have hP0:0<P:=by rw[hP];exact Nat.two_pow_pos s
 have hQ0:0<Q:=by rw[hQ];exact Nat.two_pow_pos _
 have hPQ:P * Q=18446744073709551616:=by rw[hP,hQ,←Nat.pow_add,show s+(64 - s)=64 from by omega]
 have hY1:9223372036854775808≤y * P:=(by have:=Nat.mul_le_mul_right P h1;rw[hP,←Nat.pow_add,hs]at this;rw[hP];exact this);have hY2:y * P<18446744073709551616:=(by have:=Nat.mul_lt_mul_of_pos_right h2 hP0;rw[hP,←Nat.pow_add,show L+1+s=64 from by omega]at this;rw[hP];exact this);have hH:hi * P<y * P:=Nat.mul_lt_mul_of_pos_right hh hP0;have hl:lo / Q<P:=(by rw[Nat.div_lt_iff_lt_mul hQ0];omega);have hHP:hi * P+P≤y * P:=by rw[←Nat.succ_mul];exact Nat.mul_le_mul_right _ hh
 have hscal:=scaled (hi:=hi) (lo:=lo) hPQ hQ0 hP0;have hdl:lo / Q≤lo:=Nat.div_le_self _ _;have ePi:((2:Int) ^ s)=(P:Int):=by rw[hP];simp
 have eQi:((2:Int) ^ (64 - s))=(Q:Int):=by rw[hQ];simp
 have hrem:=scaled_rem (hi * 18446744073709551616+lo) y s;rw[←hP]at hrem;generalize hYY:y * P=Y at *;generalize hHH:hi * P=H at *;have hLL:lo * P%18446744073709551616<18446744073709551616:=Nat.mod_lt _ (by decide);generalize hL2:lo * P%18446744073709551616=LL at *;generalize hd:lo / Q=d at *;generalize hN:(hi * 18446744073709551616+lo) * P=N at *;have hfin:((H+d) * 4294967296+LL / 4294967296) * 4294967296+LL%4294967296=N:=(by have e1:=Nat.div_add_mod LL 4294967296;rw[Nat.add_mul,Nat.mul_assoc,Nat.add_assoc,Nat.mul_comm (LL / 4294967296),e1,←hscal,Nat.add_mul]);refine⟨Y,Y / 4294967296,Y%4294967296,H,H+d,LL,LL / 4294967296,LL%4294967296,((H+d) * 4294967296+LL / 4294967296) / Y,((H+d) * 4294967296+LL / 4294967296)%Y,
  (((H+d) * 4294967296+LL / 4294967296)%Y * 4294967296+LL%4294967296) / Y,(((H+d) * 4294967296+LL / 4294967296)%Y * 4294967296+LL%4294967296)%Y,?_⟩
 refine { eY:=?_,e9:=by omega,e10:=u64_low hY2,eH:=?_,e11:=?_,e12:=?_,e13:=by omega,e14:=u64_low hLL,by1:=by omega,by2:=by omega,by0:=Nat.mod_lt _ (by omega),bn1:=by omega,bn0:=Nat.mod_lt _ (by omega),bY:=by omega,bu:=by omega,hQ1:=rfl,hU21:=rfl,hQ0:=rfl,hR:=rfl,e9':=?_ }
 · rw[ePi,show (y:Int) * (P:Int)=((y * P:Nat):Int)from by simp,hYY];exact u64_wrap _ hY2
 · rw[ePi,show (hi:Int) * (P:Int)=((hi * P:Nat):Int)from by simp,hHH];exact u64_wrap _ (by omega)
 · rw[eQi,show (lo:Int) / (Q:Int)=((lo / Q:Nat):Int)from by simp,hd];exact u64_or_join (s:=s) (by rw[←hHH,hP,Nat.mul_mod_left]) (by rw[←hP];exact hl) (by omega) (by omega)
 · rw[ePi,show (lo:Int) * (P:Int)=((lo * P:Nat):Int)from by simp,wrapU];rw[←hL2];simp
 · rw[two_digits,hfin,ePi];refine(Int.natCast_ediv _ _).symm.trans ?_;rw[hrem]
def RetR(hi lo y:Nat)(w:World)(e:Ending)(w':World):Prop:=∃ q:Nat,e=.returned (.tuple #[.int .u64 q,.int .u64 (((hi * 18446744073709551616+lo)%y:Nat):Int)])∧Below w.heap.size w w'
theorem bits_Div64_zero(lo y:Nat)(hy8:y<18446744073709551616)(hlo:lo<18446744073709551616)(hh:0<y)(w:World) :
 Calls Tryz.prog 107 #[.int .u64 0,.int .u64 lo,.int .u64 y] w (Ret (.tuple #[.int .u64 ((lo / y:Nat):Int),.int .u64 ((lo%y:Nat):Int)]) w):=by
 have hy1:((y:Int)==0)=false:=beq_eq_false_iff_ne.2 (by omega);have hy3:¬ (y=0):=by omega
 have hy2:(0:Int)<(y:Int):=by omega
 have hq8:lo / y<18446744073709551616:=Nat.lt_of_le_of_lt (Nat.div_le_self lo y) hlo;have hr8:lo%y<18446744073709551616:=Nat.lt_trans (Nat.mod_lt lo hh) hy8;have hwq:IntKind.u64.wrap ((lo:Int) / (y:Int))=(lo:Int) / (y:Int):=u64_wrap (lo / y) hq8;have hwr:IntKind.u64.wrap ((lo:Int)%(y:Int))=(lo:Int)%(y:Int):=u64_wrap (lo%y) hr8;clear hq8 hr8 hy8 hlo;go_enter Tryz.func107,Tryz.ntmps107;go_wp2
 go_quiet (fail)
 go_wp2;go_ret2;exact⟨rfl,below_dN blr _⟩
theorem bits_Div64(hi lo y:Nat)(hy8:y<18446744073709551616)(hlo:lo<18446744073709551616)(hh:hi<y)(w:World) :
 Calls Tryz.prog 107 #[.int .u64 hi,.int .u64 lo,.int .u64 y] w (RetR hi lo y w):=by
 rcases Nat.eq_zero_or_pos hi with h0 | h0
 · subst h0;refine(bits_Div64_zero lo y hy8 hlo hh w).mono fun e w' ⟨h1,h2⟩=>⟨lo / y,?_,h2⟩;rw[h1,Nat.zero_mul,Nat.zero_add]
 · obtain⟨L,h1,h2,h3,h4⟩:=bitLen_spec 64 y hy8 (by omega);obtain⟨Y,y1,y0,H,u,LL,n1,n0,Q1,U21,Q0,R,hd⟩:=divW_of hi lo y L (63 - L) h2 h3 (by omega) hlo hh;have hs:64 - (Lib.bitLen y:Int)=((63 - L:Nat):Int):=(by unfold Lib.bitLen;rw[h1];omega);refine(div64_core hi lo y (63 - L) Y y1 y0 H u LL n1 n0 Q1 U21 Q0 R _ hd hs (by omega) hy8 hlo hh h0 w).mono fun e w' ⟨h1,h2⟩=>⟨_,h1,?_⟩;rw[←h2];exact Below.refl _ _
theorem bits_Rem64(hi lo y:Nat)(hi8:hi<18446744073709551616)(hy8:y<18446744073709551616)(hlo:lo<18446744073709551616)(hy:0<y)(w:World) :
 Calls Tryz.prog 75 #[.int .u64 hi,.int .u64 lo,.int .u64 y] w (Ret (.int .u64 (((hi * 18446744073709551616+lo)%y:Nat):Int)) w):=by
 have hy1:((y:Int)==0)=false:=beq_eq_false_iff_ne.2 (by omega);have hy3:¬ (y=0):=by omega
 have hy2:(0:Int)<(y:Int):=by omega
 have hr8:hi%y<18446744073709551616:=Nat.lt_trans (Nat.mod_lt hi hy) hy8;have hwr:IntKind.u64.wrap ((hi:Int)%(y:Int))=(hi:Int)%(y:Int):=u64_wrap (hi%y) hr8;have HD:=Hq (bits_Div64 (hi%y) lo y hy8 hlo (Nat.mod_lt hi hy));have HE:=Hq (show (hi%y * 18446744073709551616+lo)%y=(hi * 18446744073709551616+lo)%y from by rw[Nat.add_mod,Nat.mod_mul_mod,←Nat.add_mod]);clear hr8 hy8 hlo hi8;go_enter Tryz.func75,Tryz.ntmps75;go_wp2_with fail;refine(HD.out _).mono ?_;rintro e w1 ⟨q,rfl,hb⟩;have HB:=Hq hb;rw[HE.out];obtain⟨r,hr⟩:∃ r,(hi * 18446744073709551616+lo)%y=r:=⟨_,rfl⟩;rw[hr];have HRR:=Hq hr;clear hb hr;go_wp2;go_ret;exact⟨by rw[HRR.out];rfl,HB.out⟩
set_option maxRecDepth 100000
set_option maxHeartbeats 2000000
theorem mod_check(xs ms:List ByteArray)(g c1 n1 B:Nat)(ad:Addr)(n2 c2:Nat)(w:World)(hown:w.ownsRow B 22 1 (.slice (some ⟨g,0,none⟩) n1 c1) n1 (xs.map Value.string))(hs:SlN w (some ad) n2 c2 ms)(hg:ad.block≠g)(hlb1:n1≤1000)(hlb2:n2≤1000)(h0:0<n2)(hB:B≤w.heap.size)
 (hv:∀(k:Nat) (s:ByteArray),(xs++ms)[k]? =some s→nvalid s=true) (hm:∀(k:Nat) (s:ByteArray),ms[k]? =some s→s.toList.isEmpty=false) :
 Calls Tryz.prog 41 #[.slice (some ⟨g,0,none⟩) n1 c1,.slice (some ad) n2 c2] w (RetB B (.int .i64 0) w):=by
 have hl2:=hs.1;have hlc2:=hs.2.1;have hmx2:=hs.2.2.1;have hcells:=hs.cells;have hgB:B≤g:=(hown.lt g rfl).1;have HC:=Hq hcells;have HOWN:=Hq hown;have HS:=Hq hs;have HV:=Hq hv;have HM:=Hq hm;have HL:=Hq (show (ms.map Value.string).length=n2 * 1 from by rw[List.length_map,hl2,Nat.mul_one]);obtain⟨i0,hi,iz0,iz1,iz2⟩:=info_parts nat_info;clear hcells hown hs hv hm hl2;go_enter Tryz.func41,Tryz.ntmps41;go_wp2_with (at_builtin;refine wpList_append_lies _ rfl (.tmp 9) (.tmp 10) 75 rfl B 22 i0 _ 1 16 Tryz.underlying75 hi iz0 iz1 iz2 rfl (by decide) _ n1 (xs.map Value.string) rfl HOWN.out ad n2 c2 (ms.map Value.string) rfl HL.out HC.out (strs_one ms) h0 ?n3 ?n4 hB _ rfl ?_);case n3=>unfold maxLen;omega
 case n4=>omega
 intro g2 cap2 w2 hown2 hgrow2 hat2 hlt2;have hb2:Below B w w2:=(blr).grown hgrow2 hB (fun k e=>by simp only[Value.ownBlock,Option.some.injEq]at e;omega);obtain⟨hl3,A3,c3,hv3,hs3⟩:=SlN.of_owns (l:=xs++ms) (by rw[List.map_append];exact hown2);simp only[Value.slice.injEq,true_and]at hv3;obtain⟨rfl,rfl⟩:=hv3;have hms2:SlN w2 (some ad) n2 c2 ms:=by
  refine⟨HS.out.1,HS.out.2.1,HS.out.2.2.1,?_⟩;obtain⟨b',o',h4,h5⟩:=HS.out.2.2.2;have e:=h4 h0;simp only[Option.some.injEq]at e;subst e;refine⟨b',o',fun _=>rfl,fun k s hk=>?_⟩;have hc:=h5 k s hk;rw[hgrow2.cell_far ⟨b',o'+k,none⟩ (World.block_lt_of_cell? _ _ hc) (by simp only[Value.ownBlock,ne_eq,Option.some.injEq];exact hg)];exact hc
 have HS3:=Hq hs3;have HL3:=Hq hl3;have HMS:=Hq hms2;have HB2:=Hq hb2;have hcap3:=hs3.2.1;have hcm3:=hs3.2.2.1;clear hown2 hgrow2 hat2 hlt2 hb2 hl3 hs3 hms2;go_wp2
 go_loop [13] (fun i=>∃ k:Nat,k≤n1+n2∧i=.int .i64 k) (fun i=>n1+n2 - (intOf i).toNat)
 case atStart=>exact⟨0,Nat.zero_le _,rfl⟩
 case round =>
  obtain⟨k,hk,rfl⟩:=hrel;by_cases hlt:k<n1+n2
  · obtain⟨s,he⟩:∃ s,(xs++ms)[k]? =some s:=⟨_,List.getElem?_eq_getElem (by rw[HL3.out];exact hlt)⟩;have c0:=HS3.out.get? k he;rw[Nat.zero_add]at c0;have hvs:=HV.out k s he;have hsz:s.size≤128:=by unfold nvalid at hvs;simp at hvs;exact hvs.1
    have HVS:=Hq hvs;clear he hvs;go_wp2_with fail;refine(nat_Valid s (by omega) _).mono ?_;rintro e w1 ⟨rfl,rfl⟩;rw[HVS.out];go_wp2;go_round;case rel=>exact⟨k+1,by omega,by go_num⟩
    case measure=>simp[intOf];omega
  · obtain rfl:k=n1+n2:=by omega
    go_wp2
    go_loop [23] (fun i=>∃ k:Nat,k≤n2∧i=.int .i64 k) (fun i=>n2 - (intOf i).toNat)
    case atStart=>exact⟨0,Nat.zero_le _,rfl⟩
    case round =>
     obtain⟨k,hk,rfl⟩:=hrel;by_cases hlt:k<n2
     · obtain⟨s,he⟩:∃ s,ms[k]? =some s:=⟨_,List.getElem?_eq_getElem (by rw[HMS.out.1];exact hlt)⟩;obtain⟨b',o',rfl'⟩:=HMS.out.head h0;have c0:w2.cell? (ad.add k)=some (.string s):=HMS.out.cells k _ (by rw[List.getElem?_map,he];rfl);have hem:=HM.out k s he;simp only[Option.some.injEq]at rfl';subst rfl';rw[addr_add]at c0;clear he;go_wp2;go_round;case rel=>exact⟨k+1,by omega,by go_num⟩
       case measure=>simp[intOf];omega
     · obtain rfl:k=n2:=by omega
       go_wp2;go_ret;exact⟨rfl,HB2.out⟩
theorem mod_reduced(x m:Nat)(hx8:x<18446744073709551616)(hm:m<256 ^ 128)(h0:0<m)(w:World):Calls Tryz.prog 44 #[.string (nS x),.string (nS m)] w (Ret (.string (nS (x%m))) w):=by
 have HD:=Hq (nat_DivMod x m hx8 hm h0);obtain⟨s,hs⟩:∃ s,nS x=s:=⟨_,rfl⟩;obtain⟨t,ht⟩:∃ t,nS m=t:=⟨_,rfl⟩;rw[hs,ht]at HD;rw[hs,ht];clear hs ht hm hx8;go_enter Tryz.func44,Tryz.ntmps44;go_wp2_with fail;refine(HD.out _).mono ?_;rintro e w1 ⟨rfl,hb⟩;have HB:=Hq hb;clear hb;go_wp2;go_ret;exact⟨rfl,HB.out⟩
theorem mod_times(x y m:Nat)(hx8:x<18446744073709551616)(hy8:y<18446744073709551616)(hm8:m<18446744073709551616)(h0:0<m)(w:World):Calls Tryz.prog 42 #[.string (nS x),.string (nS y),.string (nS m)] w (Ret (.string (nS (x * y%m))) w):=by
 have hz1:=nS_small_size hx8;have hz2:=nS_small_size hy8;have hz3:=nS_small_size hm8;have HN1:=Hq (nat_Small_n x hx8);have HN2:=Hq (nat_Small_n y hy8);have HN3:=Hq (nat_Small_n m hm8);have hx2:x%m<18446744073709551616:=Nat.lt_trans (Nat.mod_lt x h0) hm8;have hy2:y%m<18446744073709551616:=Nat.lt_trans (Nat.mod_lt y h0) hm8;have HX2:=Hq hx2;have HY2:=Hq hy2;obtain⟨p,hp⟩:∃ p,p=x%m * (y%m):=⟨_,rfl⟩;have hph:p / 18446744073709551616<18446744073709551616:=(by rw[Nat.div_lt_iff_lt_mul (by decide),hp];have h1:=Nat.mul_le_mul (Nat.le_of_lt hx2) (show y%m≤18446744073709551615 by omega);omega);have hpl:p%18446744073709551616<18446744073709551616:=Nat.mod_lt _ (by decide);have HR:=Hq (bits_Rem64 (p / 18446744073709551616) (p%18446744073709551616) m hph hm8 hpl h0);have HE:=Hq (show (p / 18446744073709551616 * 18446744073709551616+p%18446744073709551616)%m=x * y%m from by rw[Nat.mul_comm,Nat.div_add_mod,hp,←Nat.mul_mod]);have HO:=Hq (nat_Of (x * y%m) (Nat.lt_trans (Nat.mod_lt _ h0) hm8));have HP:=Hq hp;have hm3:¬ (m=0):=by omega
 have hm2:(0:Int)<(m:Int):=by omega
 have hwx:IntKind.u64.wrap ((x:Int)%(m:Int))=(x:Int)%(m:Int):=u64_wrap (x%m) hx2;have hwy:IntKind.u64.wrap ((y:Int)%(m:Int))=(y:Int)%(m:Int):=u64_wrap (y%m) hy2;obtain⟨s,hs⟩:∃ s,nS x=s:=⟨_,rfl⟩;obtain⟨t,ht⟩:∃ t,nS y=t:=⟨_,rfl⟩;obtain⟨u,hu⟩:∃ u,nS m=u:=⟨_,rfl⟩;rw[hs]at hz1 HN1⊢;rw[ht]at hz2 HN2⊢;rw[hu]at hz3 HN3⊢;have i1:(s.size:Int)≤8:=by omega
 have i2:(t.size:Int)≤8:=by omega
 have i3:(u.size:Int)≤8:=by omega
 clear hs ht hu hx8 hy8 hm8 hx2 hy2 hp hph hpl hz1 hz2 hz3;go_enter Tryz.func42,Tryz.ntmps42;go_wp2_with fail;refine(HN1.out _).mono ?_;rintro e w1 ⟨rfl,rfl⟩;go_wp2_with fail;refine(HN2.out _).mono ?_;rintro e w1 ⟨rfl,rfl⟩;go_wp2_with fail;refine(HN3.out _).mono ?_;rintro e w1 ⟨rfl,rfl⟩;go_wp2;refine wp_region_K 12 (Below (w.drew).heap.size (w.drew)) (by kernel_rfl) ?_;intro hD;refine qP 0 11 rfl hD blr ?_;clear hD;intro hD;refine qP 1 10 rfl hD blr ?_;clear hD;intro hD;refine qP 2 9 rfl hD blr ?_;clear hD;intro hD;refine qP 3 8 rfl hD blr ?_;clear hD;intro hD;refine qP 4 7 rfl hD blr ?_;clear hD;intro hD;refine qP 5 6 rfl hD blr ?_;clear hD;intro hD;simp only[Act.put,sqA,sqB,sqC];refine wpAnyK_one (i:=6) (fuel:=5) (by kernel_rfl) rfl hD ?_;clear hD;intro K6 hK6;go_wp2_with fail;refine(Tryz.bits_Mul64 (x%m) (y%m) HX2.out HY2.out _).mono ?_;rintro e w6 ⟨rfl,rfl⟩;rw[←HP.out];go_wp2;refine hK6 _ _ (by exact Below.refl _ _) ?_;clear hK6;intro hS_5_6 hD;refine qP 7 4 rfl hD hS_5_6 ?_;clear hD;intro hD;refine qP 8 3 rfl hD hS_5_6 ?_;clear hD;intro hD;refine qP 9 2 rfl hD hS_5_6 ?_;clear hD;intro hD;simp only[Act.put,sqA,sqB,sqC];refine wpAnyK_one (i:=10) (fuel:=1) (by kernel_rfl) rfl hD ?_;clear hD;intro K10 hK10;go_wp2;refine hK10 _ _ (by exact hS_5_6) ?_;clear hK10;intro hS_5_10 hD;refine wpAnyK_one (i:=11) (fuel:=0) (by kernel_rfl) rfl hD ?_;clear hD;intro K11 hK11;go_wp2;refine hK11 _ _ (by exact hS_5_10) ?_;clear hK11;intro hS_5_11 hD;refine wpAnyK_done (by kernel_rfl) ?_ 0;clear hD;go_wp2_with fail;refine(HR.out _).mono ?_;rintro e w2 ⟨rfl,hb2⟩;rw[HE.out];have HB2:=Hq ((blr).drew.trans hb2);clear hb2;go_wp2_with fail;refine(HO.out _).mono ?_;rintro e w3 ⟨rfl,hb3⟩;have HB3:=Hq (HB2.out.trans (hb3.mono HB2.out.size));clear hb3;go_wp2;go_ret;exact⟨rfl,HB3.out⟩
theorem check_two(w:World)(a b m:ByteArray)(n:Nat)(hn:n=w.heap.size)(ha:nvalid a=true)(hb:nvalid b=true)(hm:nvalid m=true)(h0:m.toList.isEmpty=false)(n2:Nat)(hn2:n2=w.heap.size+1) :
 Calls Tryz.prog 41 #[.slice (some ⟨n,0,none⟩) 2 2,.slice (some ⟨n2,0,none⟩) 1 1] ((w.alloc (.cells #[.string a,.string b] 22)).alloc (.cells #[.string m] 22)) (RetB w.heap.size (.int .i64 0) ((w.alloc (.cells #[.string a,.string b] 22)).alloc (.cells #[.string m] 22))):=by
 subst hn hn2;have h1:=(own_alloc w [a,b] 22 w.heap.size nlr (by simp[maxLen])).alloc (.cells #[.string m] 22);have h2:=sln_alloc (w.alloc (.cells #[.string a,.string b] 22)) [m] 22 (by simp);rw[show (w.alloc (.cells #[.string a,.string b] 22)).heap.size=w.heap.size+1 from by simp]at h2;refine mod_check [a,b] [m] _ 2 2 w.heap.size _ 1 1 _ h1 h2 (by simp) (by omega) (by omega) (by omega) (by simp;omega) ?_ ?_
 · intro k s hk;have:=List.mem_of_getElem? hk;simp only[List.cons_append,List.nil_append,List.mem_cons,List.mem_nil_iff,or_false]at this;rcases this with rfl | rfl | rfl
   · exact ha
   · exact hb
   · exact hm
 · intro k s hk;have:=List.mem_of_getElem? hk;simp only[List.mem_cons,List.mem_nil_iff,or_false]at this;rw[this];exact h0
theorem check_one(w:World)(a m:ByteArray)(n:Nat)(hn:n=w.heap.size)(ha:nvalid a=true)(hm:nvalid m=true)(h0:m.toList.isEmpty=false)(n2:Nat)(hn2:n2=w.heap.size+1) :
 Calls Tryz.prog 41 #[.slice (some ⟨n,0,none⟩) 1 1,.slice (some ⟨n2,0,none⟩) 1 1] ((w.alloc (.cells #[.string a] 22)).alloc (.cells #[.string m] 22)) (RetB w.heap.size (.int .i64 0) ((w.alloc (.cells #[.string a] 22)).alloc (.cells #[.string m] 22))):=by
 subst hn hn2;have h1:=(own_alloc w [a] 22 w.heap.size nlr (by simp[maxLen])).alloc (.cells #[.string m] 22);have h2:=sln_alloc (w.alloc (.cells #[.string a] 22)) [m] 22 (by simp);rw[show (w.alloc (.cells #[.string a] 22)).heap.size=w.heap.size+1 from by simp]at h2;refine mod_check [a] [m] _ 1 1 w.heap.size _ 1 1 _ h1 h2 (by simp) (by omega) (by omega) (by omega) (by simp;omega) ?_ ?_
 · intro k s hk;have:=List.mem_of_getElem? hk;simp only[List.cons_append,List.nil_append,List.mem_cons,List.mem_nil_iff,or_false]at this;rcases this with rfl | rfl
   · exact ha
   · exact hm
 · intro k s hk;have:=List.mem_of_getElem? hk;simp only[List.mem_cons,List.mem_nil_iff,or_false]at this;rw[this];exact h0
theorem mod_Mul(x y m:Nat)(hx8:x<18446744073709551616)(hy8:y<18446744073709551616)(hm8:m<18446744073709551616)(h0:0<m)(w:World):Calls Tryz.prog 25 #[.string (nS x),.string (nS y),.string (nS m)] w (Ret (.tuple #[.string (nS (x * y%m)),.int .i64 0]) w):=by
 have HC:=Hq (fun w=>check_two w (nS x) (nS y) (nS m) _ rfl (nS_valid_small hx8) (nS_valid_small hy8) (nS_valid_small hm8) (empty_nS h0) _ rfl);have HT:=Hq (mod_times x y m hx8 hy8 hm8 h0);obtain⟨s,hs⟩:∃ s,nS x=s:=⟨_,rfl⟩;obtain⟨t,ht⟩:∃ t,nS y=t:=⟨_,rfl⟩;obtain⟨u,hu⟩:∃ u,nS m=u:=⟨_,rfl⟩;rw[hs,ht,hu]at HC HT;rw[hs,ht,hu];clear hs ht hu hx8 hy8 hm8;go_enter Tryz.func25,Tryz.ntmps25;go_wp2_with fail;refine(HC.out w).mono ?_;rintro e w1 ⟨rfl,hb1⟩;have HB1:=Hq ((((Below.refl w.heap.size w).alloc nlr _).alloc (by simp) _).trans hb1);clear hb1;go_wp2_with fail;refine(HT.out _).mono ?_;rintro e w2 ⟨rfl,hb2⟩;have HB2:=Hq (HB1.out.trans (hb2.mono HB1.out.size));clear hb2;go_wp2;go_ret2;exact⟨rfl,HB2.out⟩
set_option maxRecDepth 100000
def zV(b:Bool)(s:ByteArray):Value:=.agg #[.bool b,.string s]
def intV(z:Int):Value:=zV (decide (z<0)) (nS z.natAbs)
def zvalid(b:Bool)(s:ByteArray):Bool:=nvalid s && !(b&&s.toList.isEmpty)
theorem int_Valid(b:Bool)(s:ByteArray)(hs:s.size≤9223372036854775807)(w:World):Calls Tryz.prog 26 #[zV b s] w (Ret (.bool (zvalid b s)) w):=by
 have HV:=Hq (nat_Valid s hs);have HB:=Hq ((Below.refl w.heap.size w).alloc nlr (.cells #[.bool b,.string s] 42));unfold zV
 cases hv:nvalid s with
 | false =>
  have HR:=Hq (show zvalid b s=false from by unfold zvalid;rw[hv];rfl);rw[hv]at HV;clear hv;rw[HR.out];go_enter Tryz.func26,Tryz.ntmps26;go_wp2_with fail;refine(HV.out _).mono ?_;rintro e w1 ⟨rfl,rfl⟩;go_wp2;go_ret;exact⟨rfl,HB.out⟩
 | true =>
  have HR:=Hq (show zvalid b s = !(b&&s.toList.isEmpty)from by unfold zvalid;rw[hv,Bool.true_and]);rw[hv]at HV;clear hv;rw[HR.out]
  cases b with
  | false =>
   go_enter Tryz.func26,Tryz.ntmps26;go_wp2_with fail;refine(HV.out _).mono ?_;rintro e w1 ⟨rfl,rfl⟩;go_wp2;go_ret;exact⟨rfl,HB.out⟩
  | true =>
   go_enter Tryz.func26,Tryz.ntmps26;go_wp2_with fail;refine(HV.out _).mono ?_;rintro e w1 ⟨rfl,rfl⟩;go_wp2;go_ret;exact⟨rfl,HB.out⟩
theorem cells2(w:World)(x y:Value)(T:TypeId):(w.alloc (.cells #[x,y] T)).cell? ⟨w.heap.size,0,none⟩=some x∧(w.alloc (.cells #[x,y] T)).cell? ⟨w.heap.size,1,none⟩=some y:=⟨by rw[Lib.cell_of_heap (heap_alloc_new _ _)];rfl,by rw[Lib.cell_of_heap (heap_alloc_new _ _)];rfl⟩
theorem int_made(b:Bool)(s:ByteArray)(w:World):Calls Tryz.prog 132 #[.bool b,.string s] w (Ret (zV (b && !s.toList.isEmpty) s) w):=by
 unfold zV
 cases b with
 | false =>
  go_enter Tryz.func132,Tryz.ntmps132;go_wp2;obtain⟨q0,q1⟩:=cells2 w (.bool false) (.string s) 42;exact bodyPost_ret (v:=.agg #[.bool (false && !s.toList.isEmpty),.string s]) (by simp[results,Tryz.results132,go_sem,q0,q1]) rfl ⟨rfl,(blr).alloc nlr _⟩
 | true =>
  go_enter Tryz.func132,Tryz.ntmps132;go_wp2;obtain⟨q0,q1⟩:=cells2 w (.bool !s.toList.isEmpty) (.string s) 42;exact bodyPost_ret (v:=.agg #[.bool (true && !s.toList.isEmpty),.string s]) (by simp[results,Tryz.results132,go_sem,q0,q1]) rfl ⟨rfl,(blr).alloc nlr _⟩
def sg(b:Bool)(n:Nat):Int:=if b then -(n:Int)else n
theorem intV_sg(b:Bool)(n:Nat):zV (b && !(nS n).toList.isEmpty) (nS n)=intV (sg b n):=by
 unfold intV sg
 cases b with
 | false =>
  rw[if_neg (by decide),decide_eq_false (by omega)];rfl
 | true =>
  rw[if_pos rfl];rcases Nat.eq_zero_or_pos n with h | h
  · subst h;rw[sempty_true (a:=nS 0) rfl];rfl
  · rw[empty_nS h,decide_eq_true (by omega),Int.natAbs_neg];rfl
theorem int_made_n(b:Bool)(n:Nat)(w:World):Calls Tryz.prog 132 #[.bool b,.string (nS n)] w (Ret (intV (sg b n)) w):=by
 rw[←intV_sg];exact int_made b (nS n) w
theorem intV_zV(z:Int):intV z=zV (decide (z<0)) (nS z.natAbs):=rfl
theorem zvalid_int{z:Int}(h:z.natAbs<256 ^ 128):zvalid (decide (z<0)) (nS z.natAbs)=true:=by
 unfold zvalid;rw[nvalid_nS.2 h,Bool.true_and];by_cases hz:z<0
 · rw[empty_nS (by omega),Bool.and_false];rfl
 · rw[decide_eq_false hz];rfl
def Bx2(W:World)(B:Nat)(x y:Value)(T:TypeId):Prop:=W.heap[B]? =some (.cells #[x,y] T (0,0))
theorem Bx2.new(W:World)(x y:Value)(T:TypeId):Bx2 (W.alloc (.cells #[x,y] T)) W.heap.size x y T:=heap_alloc_new _ _
theorem Bx2.kept{W W':World}{K B:Nat}{x y:Value}{T:TypeId}(h:Bx2 W B x y T)(hb:Below K W W')(hB:B<K):Bx2 W' B x y T:=(hb.block B hB).trans h
theorem Bx2.lt{W:World}{B:Nat}{x y:Value}{T:TypeId}(h:Bx2 W B x y T):B<W.heap.size:=block_lt h
theorem Bx2.next{W W':World}{B:Nat}{x y:Value}{T:TypeId}(h:Bx2 W B x y T)(hb:Below W.heap.size W W'):Bx2 W' B x y T:=h.kept hb h.lt
theorem Bx2.c0{W:World}{B:Nat}{x y:Value}{T:TypeId}(h:Bx2 W B x y T):W.cell? ⟨B,0,none⟩=some x:=by rw[Lib.cell_of_heap h];rfl
theorem Bx2.c1{W:World}{B:Nat}{x y:Value}{T:TypeId}(h:Bx2 W B x y T):W.cell? ⟨B,1,none⟩=some y:=by rw[Lib.cell_of_heap h];rfl
theorem Bx2.f0{W:World}{B:Nat}{x y:Value}{T:TypeId}(h:Bx2 W B x y T):W.frozen? ⟨B,0,none⟩=false:=Lib.frozen_of_heap h 0
theorem Bx2.f1{W:World}{B:Nat}{x y:Value}{T:TypeId}(h:Bx2 W B x y T):W.frozen? ⟨B,1,none⟩=false:=Lib.frozen_of_heap h 1
theorem Bx2.set2{W:World}{B:Nat}{x y u v:Value}{T:TypeId}(h:Bx2 W B x y T):Bx2 ((W.setCell ⟨B,0,none⟩ u).setCell ⟨B,1,none⟩ v) B u v T:=block_setCell (block_setCell h u) v
theorem int_From(n:Nat)(hn:n<256 ^ 128)(w:World):Calls Tryz.prog 114 #[.string (nS n)] w (Ret (intV n) w):=by
 have HV:=Hq (nat_Valid (nS n) (by have:=nS_size_le.2 hn;omega));rw[nvalid_nS.2 hn]at HV;have HM:=Hq (int_made_n false n);obtain⟨s,hs⟩:∃ s,nS n=s:=⟨_,rfl⟩;have HI:=Hq (show intV (sg false n)=.agg #[.bool false,.string s]from by rw[←intV_sg,←hs];rfl);rw[HI.out]at HM;have HG:=Hq (show intV (n:Int)=.agg #[.bool false,.string s]from HI.out);rw[hs]at HV HM;rw[hs,HG.out];clear hs hn;go_enter Tryz.func114,Tryz.ntmps114;go_wp2_with fail;refine(HV.out _).mono ?_;rintro e w1 ⟨rfl,rfl⟩;go_wp2_with fail;refine(HM.out _).mono ?_;rintro e w1 ⟨rfl,hb1⟩;have hX:=(Bx2.new w (.bool false) (.string ⟨#[]⟩) 42).next hb1;have HB:=Hq (((Below.refl w.heap.size w).alloc nlr (.cells #[.bool false,.string ⟨#[]⟩] 42)).trans (hb1.mono (by simp)));have HX:=Hq hX;have c0:=hX.c0;have c1:=hX.c1;have f0:=hX.f0;have f1:=hX.f1;clear hX hb1;go_wp2;have hY:=HX.out.set2 (u:=.bool false) (v:=.string s);have q0:=hY.c0;have q1:=hY.c1;exact bodyPost_ret (v:=.agg #[.bool false,.string s]) (by simp[results,Tryz.results114,go_sem,q0,q1]) rfl ⟨rfl,(HB.out.setCell (p:=⟨w.heap.size,0,none⟩) nlr _).setCell (p:=⟨w.heap.size,1,none⟩) nlr _⟩
theorem int_Of(n:Nat)(hn:n<1000)(w:World):Calls Tryz.prog 111 #[.int .i64 n] w (Ret (intV n) w):=by
 have HM:=Hq (int_made_n false n);have HO:=Hq (nat_Of n (by omega));obtain⟨s,hs⟩:∃ s,nS n=s:=⟨_,rfl⟩;have HI:=Hq (show intV (sg false n)=.agg #[.bool false,.string s]from by rw[←intV_sg,←hs];rfl);rw[HI.out]at HM;have HG:=Hq (show intV (n:Int)=.agg #[.bool false,.string s]from HI.out);rw[show bstr (encN n)=s from hs]at HO;rw[hs]at HM;rw[HG.out];clear hs;have h0:(0:Int)≤(n:Int):=by omega
 have hw:IntKind.u64.wrap (n:Int)=(n:Int):=u64_wrap n (by omega);go_enter Tryz.func111,Tryz.ntmps111;go_wp2_with fail;refine(HO.out _).mono ?_;rintro e w1 ⟨rfl,hb1⟩;have HX1:=Hq ((Bx2.new w (.bool false) (.string ⟨#[]⟩) 42).next hb1);have HB1:=Hq (((Below.refl w.heap.size w).alloc nlr (.cells #[.bool false,.string ⟨#[]⟩] 42)).trans (hb1.mono (by simp)));clear hb1;go_wp2_with fail;refine(HM.out _).mono ?_;rintro e w2 ⟨rfl,hb2⟩;have hX:=HX1.out.next hb2;have HB:=Hq (HB1.out.trans (hb2.mono HB1.out.size));have HX:=Hq hX;have c0:=hX.c0;have c1:=hX.c1;have f0:=hX.f0;have f1:=hX.f1;clear hX hb2;go_wp2;have hY:=HX.out.set2 (u:=.bool false) (v:=.string s);have q0:=hY.c0;have q1:=hY.c1;exact bodyPost_ret (v:=.agg #[.bool false,.string s]) (by simp[results,Tryz.results111,go_sem,q0,q1]) rfl ⟨rfl,(HB.out.setCell (p:=⟨w.heap.size,0,none⟩) nlr _).setCell (p:=⟨w.heap.size,1,none⟩) nlr _⟩
theorem int_Valid_n(z:Int)(h:z.natAbs<256 ^ 128)(w:World):Calls Tryz.prog 26 #[intV z] w (Ret (.bool true) w):=by
 have:=int_Valid (decide (z<0)) (nS z.natAbs) (by have:=nS_size_le.2 h;omega) w;rwa[zvalid_int h]at this
theorem int_both(x y:Int)(hx:x.natAbs<256 ^ 128)(hy:y.natAbs<256 ^ 128)(w:World):Calls Tryz.prog 133 #[intV x,intV y] w (Ret (.bool true) w):=by
 have HV1:=Hq (int_Valid_n x hx);have HV2:=Hq (int_Valid_n y hy);unfold intV zV at *;obtain⟨a,ha⟩:∃ a,decide (x<0)=a:=⟨_,rfl⟩;obtain⟨b,hb⟩:∃ b,decide (y<0)=b:=⟨_,rfl⟩;obtain⟨s,hs⟩:∃ s,nS x.natAbs=s:=⟨_,rfl⟩;obtain⟨t,ht⟩:∃ t,nS y.natAbs=t:=⟨_,rfl⟩;rw[ha,hs]at HV1;rw[hb,ht]at HV2;rw[ha,hs,hb,ht];clear ha hs hb ht hx hy;go_enter Tryz.func133,Tryz.ntmps133;go_wp2_with fail;refine(HV1.out _).mono ?_;rintro e w1 ⟨rfl,hb1⟩;have hY0:Bx2 ((w.alloc (.cells #[.bool a,.string s] 42)).alloc (.cells #[.bool b,.string t] 42)) (w.heap.size+1) (.bool b) (.string t) 42:=(by have:=Bx2.new (w.alloc (.cells #[.bool a,.string s] 42)) (.bool b) (.string t) 42;rwa[World.size_alloc]at this);have HB0:=Hq (((Below.refl w.heap.size w).alloc nlr (.cells #[.bool a,.string s] 42)).alloc (by simp) (.cells #[.bool b,.string t] 42));have hY1:=hY0.next hb1;have HB1:=Hq (HB0.out.trans (hb1.mono HB0.out.size));have c0:=hY1.c0;have c1:=hY1.c1;clear hb1 hY0 hY1;go_wp2_with fail;refine(HV2.out _).mono ?_;rintro e w2 ⟨rfl,hb2⟩;have HB2:=Hq (HB1.out.trans (hb2.mono HB1.out.size));clear hb2;go_wp2;go_ret;exact⟨rfl,HB2.out⟩
theorem int_Neg(z:Int)(hz:z.natAbs<256 ^ 128)(w:World):Calls Tryz.prog 134 #[intV z] w (Ret (intV (-z)) w):=by
 have HV:=Hq (int_Valid_n z hz);have HM:=Hq (int_made_n (!decide (z<0)) z.natAbs);have HE:=Hq (show sg (!decide (z<0)) z.natAbs = -z from by
  unfold sg;by_cases h:z<0
  · rw[decide_eq_true h];simp;omega
  · rw[decide_eq_false h];simp;omega)
 rw[HE.out]at HM;unfold intV zV at *;obtain⟨a,ha⟩:∃ a,decide (z<0)=a:=⟨_,rfl⟩;obtain⟨s,hs⟩:∃ s,nS z.natAbs=s:=⟨_,rfl⟩;obtain⟨b,hb⟩:∃ b,decide (-z<0)=b:=⟨_,rfl⟩;obtain⟨t,ht⟩:∃ t,nS (-z).natAbs=t:=⟨_,rfl⟩;rw[ha,hs]at HV;rw[ha,hs,hb,ht]at HM;rw[ha,hs,hb,ht];clear ha hs hb ht hz HE;go_enter Tryz.func134,Tryz.ntmps134;go_wp2_with fail;refine(HV.out _).mono ?_;rintro e w1 ⟨rfl,hb1⟩;have HB0:=Hq (((Below.refl w.heap.size w).alloc nlr (.cells #[.bool a,.string s] 42)).alloc (by simp) (.cells #[.bool false,.string ⟨#[]⟩] 42));have hX1:=((Bx2.new w (.bool a) (.string s) 42).kept ((blr).alloc nlr (.cells #[.bool false,.string ⟨#[]⟩] 42)) (by simp)).next hb1;have hY0:Bx2 ((w.alloc (.cells #[.bool a,.string s] 42)).alloc (.cells #[.bool false,.string ⟨#[]⟩] 42)) (w.heap.size+1) (.bool false) (.string ⟨#[]⟩) 42:=by
  have:=Bx2.new (w.alloc (.cells #[.bool a,.string s] 42)) (.bool false) (.string ⟨#[]⟩) 42;rwa[World.size_alloc]at this
 have HY1:=Hq (hY0.next hb1);have HB1:=Hq (HB0.out.trans (hb1.mono HB0.out.size));have c0:=hX1.c0;have c1:=hX1.c1;clear hb1 hY0 hX1;go_wp2_with fail;refine(HM.out _).mono ?_;rintro e w2 ⟨rfl,hb2⟩;have hY2:=HY1.out.next hb2;have HY2:=Hq hY2;have HB2:=Hq (HB1.out.trans (hb2.mono HB1.out.size));have d0:=hY2.c0;have d1:=hY2.c1;have f0:=hY2.f0;have f1:=hY2.f1;clear hb2 hY2;go_wp2;have hY:=HY2.out.set2 (u:=.bool b) (v:=.string t);have q0:=hY.c0;have q1:=hY.c1;exact bodyPost_ret (v:=.agg #[.bool b,.string t]) (by simp[results,Tryz.results134,go_sem,q0,q1]) rfl ⟨rfl,(HB2.out.setCell (p:=⟨w.heap.size+1,0,none⟩) (by simp) _).setCell (p:=⟨w.heap.size+1,1,none⟩) (by simp) _⟩
end Go.Proofs.YtdhnkmbjogmmkaaGreatDoor

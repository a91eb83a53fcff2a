import Derived.Test.YthknbdddhlihdaaGreatQShB
import Derived.Test.YthknbdddhlihdaaGreatQKnu
import Derived.Test.YthknbdddhlihdaaGreatQRowN
import Derived.Deep.DeepCutAuto
import Derived.Deep.QuietTactic
import Derived.BigQuiet
import Derived.Deep.CutBlock
import Derived.Test.YthknbdddhlihdaaGreatQGsh
import Derived.Test.YthknbdddhlihdaaGreatQBld
import Derived.Great.Walk
import Derived.Laws.BitsAllLaws
set_option linter.unusedVariables false
set_option linter.unusedSimpArgs false
namespace Go.Proofs.YthknbdddhlihdaaGreat
set_option maxRecDepth 100000
set_option maxHeartbeats 8000000
open Go.RowKit
theorem wrapU(z:Int):IntKind.u64.wrap z=z%18446744073709551616:=by simp[IntKind.wrap,IntKind.bits,IntKind.signed]
structure DivW (hi lo y s Y y1 y0 H u L n1 n0 Q1 U21 Q0 R rem:Nat):Prop where
 eY:IntKind.u64.wrap ((y:Int) * 2 ^ s)=(Y:Int)
 e9:(Y:Int) / 4294967296=(y1:Int)
 e10:bits .and .u64 (Y:Int) 4294967295=(y0:Int)
 eH:IntKind.u64.wrap ((hi:Int) * 2 ^ s)=(H:Int)
 e11:bits .or .u64 (H:Int) ((lo:Int) / 2 ^ (64 - s))=(u:Int)
 e12:IntKind.u64.wrap ((lo:Int) * 2 ^ s)=(L:Int)
 e13:(L:Int) / 4294967296=(n1:Int)
 e14:bits .and .u64 (L:Int) 4294967295=(n0:Int)
 by1:y1<4294967296
 by2:4294967296≤2 * y1
 by0:y0<4294967296
 bn1:n1<4294967296
 bn0:n0<4294967296
 bY:Y=y1 * 4294967296+y0
 bu:u<Y
 hQ1:Q1=(u * 4294967296+n1) / Y
 hU21:U21=(u * 4294967296+n1)%Y
 hQ0:Q0=(U21 * 4294967296+n0) / Y
 hR:R=(U21 * 4294967296+n0)%Y
 e9':(R:Int) / 2 ^ s=(rem:Int)
theorem est_mul{q y0:Nat}(hq:q≤4294967297)(hy:y0<4294967296):IntKind.u64.wrap ((q:Int) * (y0:Int))=((q * y0:Nat):Int):=by
 rw[show (q:Int) * (y0:Int)=((q * y0:Nat):Int)from by simp];apply u64_wrap;have h1:q * y0≤4294967297 * 4294967295:=Nat.mul_le_mul hq (by omega);omega
theorem rest_word{u n1 Q Y:Nat}(hQ:Q=(u * 4294967296+n1) / Y)(hY:Y<18446744073709551616)(h0:0<Y) :
 IntKind.u64.wrap (IntKind.u64.wrap (IntKind.u64.wrap ((u:Int) * 4294967296)+(n1:Int)) - IntKind.u64.wrap ((Q:Int) * (Y:Int)))=(((u * 4294967296+n1)%Y:Nat):Int):=by
 have h1:=Nat.div_add_mod (u * 4294967296+n1) Y;have h2:=Nat.mod_lt (u * 4294967296+n1) h0;rw[←hQ,Nat.mul_comm]at h1;have e:(Q:Int) * (Y:Int)=((Q * Y:Nat):Int):=by simp
 rw[e];generalize Q * Y=p at *;generalize (u * 4294967296+n1)%Y=r at *;rw[wrapU,wrapU,wrapU,wrapU];omega
theorem start_word{u y1:Nat}(hu:u<18446744073709551616)(h0:0<y1):∃ q p r:Nat,IntKind.u64.wrap ((u:Int) / (y1:Int))=(q:Int)∧IntKind.u64.wrap ((q:Int) * (y1:Int))=(p:Int)∧IntKind.u64.wrap ((u:Int) - (p:Int))=(r:Int)∧q=u / y1∧r=u%y1:=by
 have h1:=Nat.div_add_mod u y1;have h3:u / y1≤u:=Nat.div_le_self _ _;rw[Nat.mul_comm]at h1;refine⟨u / y1,u / y1 * y1,u%y1,u64_wrap (u / y1) (by omega),?_,?_,rfl,rfl⟩
 · rw[show ((u / y1:Nat):Int) * (y1:Int)=((u / y1 * y1:Nat):Int)from by simp];exact u64_wrap _ (by omega)
 · generalize u / y1 * y1=p at *;generalize u%y1=r at *;rw[wrapU];omega
theorem div64_core(hi lo y s Y y1 y0 H u L n1 n0 Q1 U21 Q0 R rem:Nat)(hd:DivW hi lo y s Y y1 y0 H u L n1 n0 Q1 U21 Q0 R rem)(hs:64 - (Lib.bitLen y:Int)=s)(hs63:s≤63)(hy8:y<18446744073709551616)(hlo:lo<18446744073709551616)(hh:hi<y)(h0:0<hi)(w:World) :
 Calls Tryz.prog 178 #[.int .u64 hi,.int .u64 lo,.int .u64 y] w (RetQ (.tuple #[.int .u64 ((Q1 * 4294967296+Q0:Nat):Int),.int .u64 rem]) w):=by
 have hy1:((y:Int)==0)=false:=beq_eq_false_iff_ne.2 (by omega);have hh1:((hi:Int)==0)=false:=beq_eq_false_iff_ne.2 (by omega);have hh2:¬ ((y:Int)≤(hi:Int)):=by omega
 have HS:=Hq hs;have HY8:=Hq hy8;have HD:=Hq hd;have eY:=hd.eY;have e9:=hd.e9;have e10:=hd.e10;have eH:=hd.eH;have e11:=hd.e11;have e12:=hd.e12;have e13:=hd.e13;have e14:=hd.e14;have by1:=hd.by1;have by2:=hd.by2;have by0:=hd.by0;have bn1:=hd.bn1;have bn0:=hd.bn0;have hny:¬ (y1=0):=by omega
 have hny':(0:Int)<(y1:Int):=by omega
 clear hs hy8 hd;go_enter Tryz.func178,Tryz.ntmps178;go_wp2_with fail;refine(Tryz.bits_LeadingZeros64 (y:Int) _ (by omega) (by have:=HY8.out;omega)).mono ?_;rintro e w1 ⟨rfl,rfl⟩;rw[Int.toNat_natCast,HS.out];have hs0:(0:Int)≤(s:Int):=by omega
 have hs3:(s:Int)≤63:=by omega
 have hu8:u<18446744073709551616:=by have:=HD.out.bu;have:=HD.out.bY;omega
 obtain⟨qs,ps,rs,g1,g2,g3,hq,hr⟩:=start_word hu8 (show 0<y1 by omega);have HQ:=Hq hq;have HR:=Hq hr;have HBU:=Hq (show u<y1 * 4294967296+y0 from by rw[←HD.out.bY];exact HD.out.bu);have HPY:=Hq (show 0<y1 * 4294967296+y0 from by omega);have HQQ:=Hq (show Q1=(u * 4294967296+n1) / (y1 * 4294967296+y0)from by rw[←HD.out.bY];exact HD.out.hQ1);clear hq hr;go_upto_block 0 with(fail)
 go_cut [15] (fun q wx=>q=.int .u64 (Q1:Int)∧wx=w1);case first =>
  go_wp2
  go_loop [15,16] (fun q r=>∃ q' r':Nat,q=.int .u64 q'∧r=.int .u64 r'∧Est 4294967296 u n1 y1 y0 q' r'∧r'<4294967296) (fun q _=>(intOf q).toNat)
  case atStart=>exact⟨qs,rs,rfl,rfl,by rw[HQ.out,HR.out];exact est_start bn1 by2 by0 HBU.out,by rw[HR.out];exact Nat.lt_of_lt_of_le (Nat.mod_lt _ (by omega)) (by omega)⟩
  case round =>
   obtain⟨q,r,rfl,rfl,hE,hr⟩:=hrel;obtain⟨a,ha⟩:∃ a,a=q * y0:=⟨_,rfl⟩;have hem:IntKind.u64.wrap ((q:Int) * (y0:Int))=(a:Int):=by rw[ha];exact est_mul hE.le by0
   have HA:=Hq ha;have hql:q≤4294967297:=hE.le;have HE:=Hq hE;clear ha hE;have HRR:=Hq hr;have HQL:=Hq hql;have HB1:=Hq by1;have HB2:=Hq by2;have HB0:=Hq by0;have HN:=Hq bn1;have hr':(r:Int)<4294967296:=by omega
   have hq':(q:Int)≤4294967297:=by omega
   have hy1':(y1:Int)<4294967296:=by omega
   have hn':(n1:Int)<4294967296:=by omega
   clear hr hql by1 by2 by0 bn1 bn0 hny;by_cases ht:(4294967296:Int)≤(q:Int)∨(4294967296:Int) * (r:Int)+(n1:Int)<(a:Int)
   · obtain⟨h1,hE'⟩:=est_less HE.out HN.out HBU.out (by rw[←HA.out];omega);have HE':=Hq hE';have h1':(1:Int)≤(q:Int):=by omega
     clear hE';by_cases hb:(4294967296:Int)≤(r:Int)+(y1:Int)
     · have HF:=Hq (est_break HE'.out HPY.out HB0.out (by omega) (by omega));by_cases h2:(4294967296:Int)≤(q:Int)
       · clear ht;go_wp2;go_meet;exact⟨by rw[HQQ.out,←HF.out];go_num,rfl⟩
       · have ht2:(4294967296:Int) * (r:Int)+(n1:Int)<(a:Int):=by omega
         clear ht;go_wp2;go_meet;exact⟨by rw[HQQ.out,←HF.out];go_num,rfl⟩
     · by_cases h2:(4294967296:Int)≤(q:Int)
       · clear ht;go_wp2;go_round;case rel=>exact⟨q - 1,r+y1,by go_num,by go_num,HE'.out,by omega⟩
         case measure=>simp[intOf];omega
       · have ht2:(4294967296:Int) * (r:Int)+(n1:Int)<(a:Int):=by omega
         clear ht;go_wp2;go_round;case rel=>exact⟨q - 1,r+y1,by go_num,by go_num,HE'.out,by omega⟩
         case measure=>simp[intOf];omega
   · have h1:¬ ((4294967296:Int)≤(q:Int)):=by omega
     have h2:¬ ((4294967296:Int) * (r:Int)+(n1:Int)<(a:Int)):=by omega
     have HF:=Hq (est_done HE.out HPY.out (by rw[←HA.out];omega));clear ht;go_wp2;go_meet;exact⟨by rw[HQQ.out,←HF.out],rfl⟩
 case rest =>
  obtain⟨rfl,rfl⟩:=hcut;have hY8:Y<18446744073709551616:=by have:=HD.out.bY;omega
  have hY0:0<Y:=by have:=HD.out.bY;omega
  have er1:IntKind.u64.wrap (IntKind.u64.wrap (IntKind.u64.wrap ((u:Int) * 4294967296)+(n1:Int)) - IntKind.u64.wrap ((Q1:Int) * (Y:Int)))=(U21:Int):=by rw[HD.out.hU21];exact rest_word HD.out.hQ1 hY8 hY0
  have er2:IntKind.u64.wrap (IntKind.u64.wrap (IntKind.u64.wrap ((U21:Int) * 4294967296)+(n0:Int)) - IntKind.u64.wrap ((Q0:Int) * (Y:Int)))=(R:Int):=by rw[HD.out.hR];exact rest_word HD.out.hQ0 hY8 hY0
  have hUY:U21<Y:=by rw[HD.out.hU21];exact Nat.mod_lt _ hY0
  obtain⟨qs,ps,rs,k1,k2,k3,hq,hr⟩:=start_word (Nat.lt_trans hUY hY8) (show 0<y1 by omega);have HQ:=Hq hq;have HR:=Hq hr;have HBU:=Hq (show U21<y1 * 4294967296+y0 from by rw[←HD.out.bY];exact hUY);have hq1:Q1<4294967296:=by rw[HQQ.out];exact est_digit bn1 (by rw[←HD.out.bY];exact HD.out.bu)
  have HQQ:=Hq (show Q0=(U21 * 4294967296+n0) / (y1 * 4294967296+y0)from by rw[←HD.out.bY];exact HD.out.hQ0);have hq0:Q0<4294967296:=by rw[HQQ.out];exact est_digit bn0 HBU.out
  have hq1':(Q1:Int)<4294967296:=by omega
  have hq0':(Q0:Int)<4294967296:=by omega
  have hU0:(0:Int)≤(U21:Int):=by omega
  have e9':=HD.out.e9';clear hq hr hY8 hUY hq1 hq0 g1 g2 g3 hu8;go_upto_block 2 with(fail)
  go_cut [18] (fun q wx=>q=.int .u64 (Q0:Int)∧wx=wc);case first =>
   go_wp2
   go_loop [18,16] (fun q r=>∃ q' r':Nat,q=.int .u64 q'∧r=.int .u64 r'∧Est 4294967296 U21 n0 y1 y0 q' r'∧r'<4294967296) (fun q _=>(intOf q).toNat)
   case atStart=>exact⟨qs,rs,rfl,rfl,by rw[HQ.out,HR.out];exact est_start bn0 by2 by0 HBU.out,by rw[HR.out];exact Nat.lt_of_lt_of_le (Nat.mod_lt _ (by omega)) (by omega)⟩
   case round =>
    obtain⟨q,r,rfl,rfl,hE,hr⟩:=hrel;obtain⟨a,ha⟩:∃ a,a=q * y0:=⟨_,rfl⟩;have hem:IntKind.u64.wrap ((q:Int) * (y0:Int))=(a:Int):=by rw[ha];exact est_mul hE.le by0
    have HA:=Hq ha;have hql:q≤4294967297:=hE.le;have HE:=Hq hE;clear ha hE;have HRR:=Hq hr;have HQL:=Hq hql;have HB1:=Hq by1;have HB2:=Hq by2;have HB0:=Hq by0;have HN:=Hq bn0;have hr':(r:Int)<4294967296:=by omega
    have hq':(q:Int)≤4294967297:=by omega
    have hy1':(y1:Int)<4294967296:=by omega
    have hn':(n0:Int)<4294967296:=by omega
    clear hr hql by1 by2 by0 bn1 bn0 hny;by_cases ht:(4294967296:Int)≤(q:Int)∨(4294967296:Int) * (r:Int)+(n0:Int)<(a:Int)
    · obtain⟨h1,hE'⟩:=est_less HE.out HN.out HBU.out (by rw[←HA.out];omega);have HE':=Hq hE';have h1':(1:Int)≤(q:Int):=by omega
      clear hE';by_cases hb:(4294967296:Int)≤(r:Int)+(y1:Int)
      · have HF:=Hq (est_break HE'.out HPY.out HB0.out (by omega) (by omega));by_cases h2:(4294967296:Int)≤(q:Int)
        · clear ht;go_wp2;go_meet;exact⟨by rw[HQQ.out,←HF.out];go_num,rfl⟩
        · have ht2:(4294967296:Int) * (r:Int)+(n0:Int)<(a:Int):=by omega
          clear ht;go_wp2;go_meet;exact⟨by rw[HQQ.out,←HF.out];go_num,rfl⟩
      · by_cases h2:(4294967296:Int)≤(q:Int)
        · clear ht;go_wp2;go_round;case rel=>exact⟨q - 1,r+y1,by go_num,by go_num,HE'.out,by omega⟩
          case measure=>simp[intOf];omega
        · have ht2:(4294967296:Int) * (r:Int)+(n0:Int)<(a:Int):=by omega
          clear ht;go_wp2;go_round;case rel=>exact⟨q - 1,r+y1,by go_num,by go_num,HE'.out,by omega⟩
          case measure=>simp[intOf];omega
    · have h1:¬ ((4294967296:Int)≤(q:Int)):=by omega
      have h2:¬ ((4294967296:Int) * (r:Int)+(n0:Int)<(a:Int)):=by omega
      have HF:=Hq (est_done HE.out HPY.out (by rw[←HA.out];omega));clear ht;go_wp2;go_meet;exact⟨by rw[HQQ.out,←HF.out],rfl⟩
  case rest =>
   obtain⟨rfl,rfl⟩:=hcut;go_wp2;go_ret2;exact⟨rfl,rfl⟩
theorem bitLen_spec:∀(f x:Nat),x<2 ^ f→0<x→∃ L,Lib.bitLenAux f x=L+1∧2 ^ L≤x∧x<2 ^ (L+1)∧L<f
 | 0,x,h,h0=>by simp at h;omega
 | f+1,x,h,h0=>by
  unfold Lib.bitLenAux;rw[if_neg (by omega)];by_cases h1:x / 2=0
  · have : x=1:=by omega
    subst this;refine⟨0,?_,by simp,by simp,by omega⟩;rw[h1];cases f<;>simp[Lib.bitLenAux]
  · obtain⟨L,h2,h3,h4,h5⟩:=bitLen_spec f (x / 2) (by rw[Nat.pow_succ]at h;omega) (by omega);refine⟨L+1,by rw[h2];omega,?_,?_,by omega⟩
    · rw[Nat.pow_succ];omega
    · rw[Nat.pow_succ];omega
theorem u64_or_join{s H l:Nat}(hH:H%2 ^ s=0)(hl:l<2 ^ s)(h1:H<18446744073709551616)(h2:l<18446744073709551616):bits .or .u64 (H:Int) (l:Int)=((H+l:Nat):Int):=by
 rw[u64_or_nat _ _ h1 h2,nat_join s H l hH hl]
theorem u64_low{L:Nat}(h:L<18446744073709551616):bits .and .u64 (L:Int) 4294967295=((L%4294967296:Nat):Int):=by
 have h2:=u64_and_nat L 4294967295 h (by omega);rw[show L &&& 4294967295=L%4294967296 from Nat.and_two_pow_sub_one_eq_mod L 32]at h2;exact h2
theorem scaled{hi lo P Q:Nat}(hPQ:P * Q=18446744073709551616)(hQ:0<Q)(hP:0<P):hi * P * 18446744073709551616+lo / Q * 18446744073709551616+lo * P%18446744073709551616=(hi * 18446744073709551616+lo) * P:=by
 have h1:lo * P / 18446744073709551616=lo / Q:=(by rw[←hPQ,Nat.mul_comm P Q,Nat.mul_div_mul_right _ _ hP]);have h2:=Nat.div_add_mod (lo * P) 18446744073709551616;rw[h1]at h2;rw[Nat.add_mul,Nat.mul_right_comm hi 18446744073709551616 P];omega
theorem divW_of(hi lo y L s:Nat)(h1:2 ^ L≤y)(h2:y<2 ^ (L+1))(hs:L+s=63)(hlo:lo<18446744073709551616)(hh:hi<y) :
 ∃ Y y1 y0 H u LL n1 n0 Q1 U21 Q0 R,DivW hi lo y s Y y1 y0 H u LL n1 n0 Q1 U21 Q0 R ((hi * 18446744073709551616+lo)%y):=by
 obtain⟨P,hP⟩:∃ P,P=2 ^ s:=⟨_,rfl⟩;obtain⟨Q,hQ⟩:∃ Q,Q=2 ^ (64 - s):=⟨_,rfl⟩;have hP0:0<P:=by rw[hP];exact Nat.two_pow_pos s
 have hQ0:0<Q:=by rw[hQ];exact Nat.two_pow_pos _
 have hPQ:P * Q=18446744073709551616:=by rw[hP,hQ,←Nat.pow_add,show s+(64 - s)=64 from by omega]
 have hY1:9223372036854775808≤y * P:=(by have:=Nat.mul_le_mul_right P h1;rw[hP,←Nat.pow_add,hs]at this;rw[hP];exact this);have hY2:y * P<18446744073709551616:=(by have:=Nat.mul_lt_mul_of_pos_right h2 hP0;rw[hP,←Nat.pow_add,show L+1+s=64 from by omega]at this;rw[hP];exact this);have hH:hi * P<y * P:=Nat.mul_lt_mul_of_pos_right hh hP0;have hl:lo / Q<P:=(by rw[Nat.div_lt_iff_lt_mul hQ0];omega);have hHP:hi * P+P≤y * P:=by rw[←Nat.succ_mul];exact Nat.mul_le_mul_right _ hh
 have hscal:=scaled (hi:=hi) (lo:=lo) hPQ hQ0 hP0;have hdl:lo / Q≤lo:=Nat.div_le_self _ _;have ePi:((2:Int) ^ s)=(P:Int):=by rw[hP];simp
 have eQi:((2:Int) ^ (64 - s))=(Q:Int):=by rw[hQ];simp
 have hrem:=scaled_rem (hi * 18446744073709551616+lo) y s;rw[←hP]at hrem;generalize hYY:y * P=Y at *;generalize hHH:hi * P=H at *;have hLL:lo * P%18446744073709551616<18446744073709551616:=Nat.mod_lt _ (by decide);generalize hL2:lo * P%18446744073709551616=LL at *;generalize hd:lo / Q=d at *;generalize hN:(hi * 18446744073709551616+lo) * P=N at *;have hfin:((H+d) * 4294967296+LL / 4294967296) * 4294967296+LL%4294967296=N:=(by have e1:=Nat.div_add_mod LL 4294967296;rw[Nat.add_mul,Nat.mul_assoc,Nat.add_assoc,Nat.mul_comm (LL / 4294967296),e1,←hscal,Nat.add_mul]);refine⟨Y,Y / 4294967296,Y%4294967296,H,H+d,LL,LL / 4294967296,LL%4294967296,((H+d) * 4294967296+LL / 4294967296) / Y,((H+d) * 4294967296+LL / 4294967296)%Y,
  (((H+d) * 4294967296+LL / 4294967296)%Y * 4294967296+LL%4294967296) / Y,(((H+d) * 4294967296+LL / 4294967296)%Y * 4294967296+LL%4294967296)%Y,?_⟩
 refine { eY:=?_,e9:=by omega,e10:=u64_low hY2,eH:=?_,e11:=?_,e12:=?_,e13:=by omega,e14:=u64_low hLL,by1:=by omega,by2:=by omega,by0:=Nat.mod_lt _ (by omega),bn1:=by omega,bn0:=Nat.mod_lt _ (by omega),bY:=by omega,bu:=by omega,hQ1:=rfl,hU21:=rfl,hQ0:=rfl,hR:=rfl,e9':=?_ }
 · rw[ePi,show (y:Int) * (P:Int)=((y * P:Nat):Int)from by simp,hYY];exact u64_wrap _ hY2
 · rw[ePi,show (hi:Int) * (P:Int)=((hi * P:Nat):Int)from by simp,hHH];exact u64_wrap _ (by omega)
 · rw[eQi,show (lo:Int) / (Q:Int)=((lo / Q:Nat):Int)from by simp,hd];exact u64_or_join (s:=s) (by rw[←hHH,hP,Nat.mul_mod_left]) (by rw[←hP];exact hl) (by omega) (by omega)
 · rw[ePi,show (lo:Int) * (P:Int)=((lo * P:Nat):Int)from by simp,wrapU];rw[←hL2];simp
 · rw[two_digits,hfin,ePi];refine(Int.natCast_ediv _ _).symm.trans ?_;rw[hrem]
theorem rq_quiet{v:Value}{w:World}{f:FuncId}{args:Array Value}(h:Calls Tryz.prog f args w (RetQ v w)):Calls Tryz.prog f args w (Ret v w):=h.mono fun e w' ⟨h1,h2⟩=>⟨h1,by rw[←h2];exact Below.refl _ _⟩
def RetR(hi lo y:Nat)(w:World)(e:Ending)(w':World):Prop:=∃ q:Nat,e=.returned (.tuple #[.int .u64 q,.int .u64 (((hi * 18446744073709551616+lo)%y:Nat):Int)])∧Below w.heap.size w w'
theorem bits_Div64_zero(lo y:Nat)(hy8:y<18446744073709551616)(hlo:lo<18446744073709551616)(hh:0<y)(w:World) :
 Calls Tryz.prog 178 #[.int .u64 0,.int .u64 lo,.int .u64 y] w (Ret (.tuple #[.int .u64 ((lo / y:Nat):Int),.int .u64 ((lo%y:Nat):Int)]) w):=by
 have hy1:((y:Int)==0)=false:=beq_eq_false_iff_ne.2 (by omega);have hy3:¬ (y=0):=by omega
 have hy2:(0:Int)<(y:Int):=by omega
 have hq8:lo / y<18446744073709551616:=Nat.lt_of_le_of_lt (Nat.div_le_self lo y) hlo;have hr8:lo%y<18446744073709551616:=Nat.lt_trans (Nat.mod_lt lo hh) hy8;have hwq:IntKind.u64.wrap ((lo:Int) / (y:Int))=(lo:Int) / (y:Int):=u64_wrap (lo / y) hq8;have hwr:IntKind.u64.wrap ((lo:Int)%(y:Int))=(lo:Int)%(y:Int):=u64_wrap (lo%y) hr8;clear hq8 hr8 hy8 hlo;go_enter Tryz.func178,Tryz.ntmps178;go_wp2
 go_quiet (fail)
 go_wp2;go_ret2;exact⟨rfl,below_dN (Below.refl _ _) _⟩
theorem bits_Div64(hi lo y:Nat)(hy8:y<18446744073709551616)(hlo:lo<18446744073709551616)(hh:hi<y)(w:World) :
 Calls Tryz.prog 178 #[.int .u64 hi,.int .u64 lo,.int .u64 y] w (RetR hi lo y w):=by
 rcases Nat.eq_zero_or_pos hi with h0 | h0
 · subst h0;refine(bits_Div64_zero lo y hy8 hlo hh w).mono fun e w' ⟨h1,h2⟩=>⟨lo / y,?_,h2⟩;rw[h1,Nat.zero_mul,Nat.zero_add]
 · obtain⟨L,h1,h2,h3,h4⟩:=bitLen_spec 64 y hy8 (by omega);obtain⟨Y,y1,y0,H,u,LL,n1,n0,Q1,U21,Q0,R,hd⟩:=divW_of hi lo y L (63 - L) h2 h3 (by omega) hlo hh;have hs:64 - (Lib.bitLen y:Int)=((63 - L:Nat):Int):=(by unfold Lib.bitLen;rw[h1];omega);refine(div64_core hi lo y (63 - L) Y y1 y0 H u LL n1 n0 Q1 U21 Q0 R _ hd hs (by omega) hy8 hlo hh h0 w).mono fun e w' ⟨h1,h2⟩=>⟨_,h1,?_⟩;rw[←h2];exact Below.refl _ _
theorem bits_Rem64(hi lo y:Nat)(hi8:hi<18446744073709551616)(hy8:y<18446744073709551616)(hlo:lo<18446744073709551616)(hy:0<y)(w:World) :
 Calls Tryz.prog 148 #[.int .u64 hi,.int .u64 lo,.int .u64 y] w (Ret (.int .u64 (((hi * 18446744073709551616+lo)%y:Nat):Int)) w):=by
 have hy1:((y:Int)==0)=false:=beq_eq_false_iff_ne.2 (by omega);have hy3:¬ (y=0):=by omega
 have hy2:(0:Int)<(y:Int):=by omega
 have hr8:hi%y<18446744073709551616:=Nat.lt_trans (Nat.mod_lt hi hy) hy8;have hwr:IntKind.u64.wrap ((hi:Int)%(y:Int))=(hi:Int)%(y:Int):=u64_wrap (hi%y) hr8;have HD:=Hq (bits_Div64 (hi%y) lo y hy8 hlo (Nat.mod_lt hi hy));have HE:=Hq (show (hi%y * 18446744073709551616+lo)%y=(hi * 18446744073709551616+lo)%y from by rw[Nat.add_mod,Nat.mod_mul_mod,←Nat.add_mod]);clear hr8 hy8 hlo hi8;go_enter Tryz.func148,Tryz.ntmps148;go_wp2_with fail;refine(HD.out _).mono ?_;rintro e w1 ⟨q,rfl,hb⟩;have HB:=Hq hb;rw[HE.out];obtain⟨r,hr⟩:∃ r,(hi * 18446744073709551616+lo)%y=r:=⟨_,rfl⟩;rw[hr];have HRR:=Hq hr;clear hb hr;go_wp2;go_ret;exact⟨by rw[HRR.out];rfl,HB.out⟩
set_option maxRecDepth 100000
set_option maxHeartbeats 1000000
def blen(n:Nat):Nat:=if n=0 then 0 else n.log2+1
theorem blen_of{n k:Nat}(h1:2 ^ k≤n)(h2:n<2 ^ (k+1)):blen n=k+1:=by
 have h0:n≠0:=by have:=Nat.two_pow_pos k;omega
 unfold blen;rw[if_neg h0];have h3:=(Nat.le_log2 h0).2 h1;have h4:=(Nat.log2_lt h0).2 h2;omega
theorem blen_lt(n:Nat):n<2 ^ blen n:=by
 unfold blen;by_cases h0:n=0
 · rw[if_pos h0,h0];simp
 · rw[if_neg h0];exact Nat.lt_log2_self
theorem blen_le{n:Nat}(h:0<n):2 ^ (blen n - 1)≤n:=by
 unfold blen;rw[if_neg (by omega),Nat.add_sub_cancel];exact Nat.log2_self_le (by omega)
def bitB(n i:Nat):Bool:=n / 2 ^ i%2==1
theorem bit_dig(n i:Nat):dig n (i / 8) / 2 ^ (i%8)%2=n / 2 ^ i%2:=by
 have e:n / 2 ^ i=n / 256 ^ (i / 8) / 2 ^ (i%8):=(by rw[show (256:Nat) ^ (i / 8)=2 ^ (8 * (i / 8))from by rw[Nat.pow_mul],Nat.div_div_eq_div_mul,←Nat.pow_add,show 8 * (i / 8)+i%8=i from by omega]);rw[e];unfold dig;generalize n / 256 ^ (i / 8)=d;have h:i%8<8:=by omega
 generalize i%8=r at *
 match r,h with
 | 0,_=>simp
 | 1,_=>omega
 | 2,_=>omega
 | 3,_=>omega
 | 4,_=>omega
 | 5,_=>omega
 | 6,_=>omega
 | 7,_=>omega
theorem blen_first{n:Nat}(h0:0<n):∃ x l,encN n=x::l∧0<x.toNat∧blen n=8 * l.length+blen x.toNat:=by
 cases hl:encN n with
 | nil=>exact absurd (encN_eq_nil.1 hl) (by omega)
 | cons x l =>
  have hc:=canon_encN n;rw[hl]at hc;have hx:x≠0:=canon_cons.1 hc;have hx0:0<x.toNat:=by
   rcases Nat.eq_zero_or_pos x.toNat with h | h
   · exact absurd (UInt8.toNat_inj.1 (by simpa using h)) hx
   · exact h
  refine⟨x,l,rfl,hx0,?_⟩;have hb:n=x.toNat * 256 ^ l.length+bnat l:=by rw[←bnat_cons,←hl,bnat_encN]
  have hlt:=bnat_lt l;have h1:=blen_lt x.toNat;have h2:=blen_le hx0;have hb1:1≤blen x.toNat:=by unfold blen;rw[if_neg (by omega)];omega
  obtain⟨k,hk⟩:∃ k,blen x.toNat=k+1:=⟨blen x.toNat - 1,by omega⟩;rw[hk]at h1 h2⊢;rw[Nat.add_sub_cancel]at h2;have e256:(256:Nat) ^ l.length=2 ^ (8 * l.length):=by rw[Nat.pow_mul]
  have:=blen_of (n:=n) (k:=8 * l.length+k) (by
   rw[Nat.pow_add,←e256,Nat.mul_comm];have:=Nat.mul_le_mul_right (256 ^ l.length) h2
   omega) (by
   rw[show 8 * l.length+k+1=8 * l.length+(k+1)from by omega,Nat.pow_add,←e256,Nat.mul_comm];have:=Nat.mul_le_mul_right (256 ^ l.length) (show x.toNat+1≤2 ^ (k+1)from h1);rw[Nat.succ_mul]at this
   omega)
  omega
theorem bitLen_blen{x:Nat}(h:x<256):Lib.bitLen x=blen x:=by
 rcases Nat.eq_zero_or_pos x with h0 | h0
 · subst h0;simp[blen,Lib.bitLen,Lib.bitLenAux]
 · obtain⟨L,h1,h2,h3,_⟩:=bitLen_spec 64 x (Nat.lt_of_lt_of_le h (by decide)) h0;unfold Lib.bitLen;rw[h1,blen_of h2 h3]
theorem nS_first{n:Nat}(h0:0<n):∃(h:0<(nS n).size),0<((nS n)[0]).toNat∧((nS n)[0]).toNat<256∧blen n=8 * ((nS n).size - 1)+blen ((nS n)[0]).toNat:=by
 obtain⟨x,l,hl,hx,hb⟩:=blen_first h0;have hs:(nS n).size=l.length+1:=by rw[nS_size,hl];rfl
 refine⟨by omega,?_⟩;have e:(nS n)[0]'(by omega)=x:=by
  have : (nS n)[0]'(by omega)=((nS n).data.toList)[0]'(by rw[data_len];omega):=rfl;rw[this];simp only[nS_data,hl,List.getElem_cons_zero]
 rw[e,hs,Nat.add_sub_cancel];exact⟨hx,by have:=x.toNat_lt;omega,hb⟩
theorem nat_Bits_core(s:ByteArray)(h:0<s.size)(hv:nvalid s=true)(b:Nat)(hb:(s[0]).toNat=b)(hb2:b<256)(w:World):Calls Tryz.prog 101 #[.string s] w (RetQ (.int .i64 ((8 * (s.size - 1)+blen b:Nat):Int)) w):=by
 have hs128:s.size≤128:=by unfold nvalid at hv;simp at hv;exact hv.1
 have hem:=sempty_false h;have HV:=Hq hv;have HB:=Hq hb;have HL:=Hq (bitLen_blen hb2);have hbl:blen b≤8:=by
  have h1:=blen_lt b;unfold blen;split
  · omega
  · have:=(Nat.log2_lt (n:=b) (k:=8) (by assumption)).2 (by omega);omega
 obtain⟨z,hz⟩:∃ z,s.size=z+1:=⟨s.size - 1,by omega⟩;have HZ:=Hq hz;clear hv hb;go_enter Tryz.func101,Tryz.ntmps101;go_wp2_with fail;refine(nat_Valid s (by omega) _).mono ?_;rintro e w1 ⟨rfl,rfl⟩;rw[HV.out];clear hz;go_wp2_with fail;rw[HB.out];refine(Tryz.bits_Len8 (b:Int) _ (by omega) (by omega)).mono ?_;rintro e w1 ⟨rfl,rfl⟩;rw[Int.toNat_natCast,HL.out];go_wp2;go_ret;exact⟨ret_int (by have:=HZ.out;omega),rfl⟩
theorem nat_Bits(n:Nat)(hn:n<256 ^ 128)(w:World):Calls Tryz.prog 101 #[.string (nS n)] w (RetQ (.int .i64 (blen n)) w):=by
 rcases Nat.eq_zero_or_pos n with h0 | h0
 · subst h0;have HV:=Hq (show nvalid ⟨#[]⟩=true from rfl);rw[nS_zero];go_enter Tryz.func101,Tryz.ntmps101;go_wp2_with fail;refine(nat_Valid ⟨#[]⟩ (by decide) _).mono ?_;rintro e w1 ⟨rfl,rfl⟩;rw[HV.out];go_wp2;go_ret;exact⟨rfl,rfl⟩
 · obtain⟨h,h1,h2,h3⟩:=nS_first h0;rw[h3];exact nat_Bits_core (nS n) h (nvalid_nS.2 hn) _ rfl h2 w
theorem band1{x:Nat}(h:x<256):bits .and .i64 (x:Int) 1=((x%2:Nat):Int):=by
 have:=bits_mask .i64 62 (by decide) (fun n h1 h2=>by rw[IntKind.wrap_i64];omega) 1 (by omega) (x:Int) (by omega) (by omega);simpa using this
theorem nat_Bit(n i:Nat)(hn:n<256 ^ 128)(hi:i<100000)(w:World):Calls Tryz.prog 88 #[.string (nS n),.int .i64 i] w (RetQ (.bool (bitB n i)) w):=by
 have hs1:=nS_size_le.2 hn;have HV:=Hq (nvalid_nS.2 hn);have HD:=Hq (nat_digit n (i / 8) (by omega));have hi0:(0:Int)≤(i:Int):=by omega
 by_cases hlt:i / 8<(nS n).size
 · have hlt2:(i:Int) / 8<((nS n).size:Int):=by omega
   have hd:=dig_lt n (i / 8);have HBD:=Hq (bit_dig n i);obtain⟨d,hde⟩:∃ d,dig n (i / 8)=d:=⟨_,rfl⟩;rw[hde]at hd HBD HD;obtain⟨s,hs⟩:∃ s,nS n=s:=⟨_,rfl⟩;rw[hs]at hs1 HV HD hlt2⊢;have HF:=Hq (show bitB n i=(((d / 2 ^ (i%8)%2:Nat):Int)==1)from by
    unfold bitB;rw[←HBD.out,Bool.eq_iff_iff];simp only[beq_iff_eq]
    omega)
   have HA:=Hq (show bits .and .i64 ((d:Int) / 2 ^ (i%8)) 1=((d / 2 ^ (i%8)%2:Nat):Int)from by
    rw[←band1 (x:=d / 2 ^ (i%8)) (Nat.lt_of_le_of_lt (Nat.div_le_self _ _) hd)]
    simp)
   clear hs hde hn hlt;go_enter Tryz.func88,Tryz.ntmps88;go_wp2_with fail;refine(nat_Valid s (by omega) _).mono ?_;rintro e w1 ⟨rfl,rfl⟩;rw[HV.out];go_wp2_with fail;refine(HD.out _).mono ?_;rintro e w1 ⟨rfl,rfl⟩;go_wp2;rw[HA.out];go_ret;exact⟨by rw[HF.out];rfl,rfl⟩
 · have hlt2:¬ ((i:Int) / 8<((nS n).size:Int)):=by omega
   have HZ:=Hq (show bitB n i=false from by
    unfold bitB;rw[←bit_dig,dig_beyond (by rw[←nS_size];omega)]
    simp)
   obtain⟨s,hs⟩:∃ s,nS n=s:=⟨_,rfl⟩;rw[hs]at hs1 HV HD hlt2⊢;clear hs hn hlt;go_enter Tryz.func88,Tryz.ntmps88;go_wp2_with fail;refine(nat_Valid s (by omega) _).mono ?_;rintro e w1 ⟨rfl,rfl⟩;rw[HV.out];go_wp2;go_ret;exact⟨by rw[HZ.out];rfl,rfl⟩
theorem r01_one(n i:Nat)(hs1:(nS n).size≤1000)(hi:i<100000)(w:World):Calls Tryz.prog 132 #[.string (nS n),.int .i64 i] w (RetQ (.bool (bitB n i)) w):=by
 have HD:=Hq (r01_at n (i / 8) hs1);have hi0:(0:Int)≤(i:Int):=by omega
 have hd:=dig_lt n (i / 8);have HBD:=Hq (bit_dig n i);obtain⟨d,hde⟩:∃ d,dig n (i / 8)=d:=⟨_,rfl⟩;rw[hde]at hd HBD HD;obtain⟨s,hs⟩:∃ s,nS n=s:=⟨_,rfl⟩;rw[hs]at HD⊢;clear hs hde hs1;go_enter Tryz.func132,Tryz.ntmps132;go_wp2_with fail;refine(HD.out _).mono ?_;rintro e w1 ⟨rfl,rfl⟩;go_wp2
 go_loop [5,6] (fun x k=>∃ j:Nat,j≤i%8∧k=.int .i64 j∧x=.int .i64 ((d / 2 ^ j:Nat):Int)) (fun _ k=>8 - (intOf k).toNat)
 case atStart=>exact⟨0,Nat.zero_le _,rfl,by simp⟩
 case round =>
  obtain⟨j,hj,rfl,rfl⟩:=hrel;obtain⟨x,hx⟩:∃ x,d / 2 ^ j=x:=⟨_,rfl⟩;have hxl:x≤d:=by rw[←hx];exact Nat.div_le_self _ _
  have HX:=Hq hx;rw[hx];clear hx;by_cases hlt:j<i%8
  · have hlt2:(j:Int)<(i:Int)%8:=by omega
    go_wp2;go_round;case rel=>exact⟨j+1,by omega,by go_num,by rw[Nat.pow_succ,←Nat.div_div_eq_div_mul,HX.out];go_num⟩
    case measure=>simp[intOf];omega
  · obtain rfl:j=i%8:=by omega
    have hlt2:¬ (((i%8:Nat):Int)<(i:Int)%8):=by omega
    have HF:=Hq (show bitB n i=((x:Int)%2==1)from by
     unfold bitB;rw[←HBD.out,HX.out];rw[Bool.eq_iff_iff];simp only[beq_iff_eq]
     omega)
    go_wp2;go_ret;exact⟨by rw[HF.out];rfl,rfl⟩
theorem blen_half{x:Nat}(h:0<x):blen x=blen (x / 2)+1:=by
 have h1:=blen_lt (x / 2);by_cases h0:x / 2=0
 · have : x=1:=by omega
   subst this;decide
 · have h2:=blen_le (n:=x / 2) (by omega);obtain⟨k,hk⟩:∃ k,blen (x / 2)=k+1:=⟨(x / 2).log2,by unfold blen;rw[if_neg h0]⟩;rw[hk]at h1 h2⊢;rw[Nat.add_sub_cancel]at h2;exact blen_of (by rw[Nat.pow_succ];omega) (by rw[Nat.pow_succ];omega)
theorem blen_le8{n k:Nat}(hn:n<256 ^ k):blen n≤8 * k:=by
 rcases Nat.eq_zero_or_pos n with e | e
 · rw[e];exact Nat.zero_le _
 · have h1:=blen_le e;rcases Nat.lt_or_ge (8 * k) (blen n)with h | h
   · have h2:(2:Nat) ^ (8 * k)≤2 ^ (blen n - 1):=Nat.pow_le_pow_right (by decide) (by omega);rw[Nat.pow_mul,show (2:Nat) ^ 8=256 from rfl]at h2;omega
   · exact h
theorem blen_zero:blen 0=0:=rfl
theorem blen_byte{x:Nat}(h:x<256):blen x≤8:=by
 unfold blen;split
 · omega
 · have:=(Nat.log2_lt (n:=x) (k:=8) (by assumption)).2 (by omega);omega
theorem r01_bits_core(s:ByteArray)(h:0<s.size)(hs1:s.size≤1000)(b:Nat)(hb:(s[0]).toNat=b)(hb2:b<256)(w:World):Calls Tryz.prog 130 #[.string s] w (RetQ (.int .i64 ((8 * (s.size - 1)+blen b:Nat):Int)) w):=by
 have hem:=sempty_false h;have HB:=Hq hb;have hbl:=blen_byte hb2;obtain⟨z,hz⟩:∃ z,s.size=z+1:=⟨s.size - 1,by omega⟩;obtain⟨c,hc⟩:∃ c,blen b=c:=⟨_,rfl⟩;rw[hc]at hbl⊢;have HC:=Hq hc;have HZ:=Hq (show 8 * (s.size - 1)+c=8 * z+c by omega);rw[HZ.out];have HW:=Hq (show wrap64 (b:Int)=(b:Int)from by simp[wrap64];omega);clear hb hc;go_enter Tryz.func130,Tryz.ntmps130;go_wp2_with fail;rw[HB.out,HW.out]
 go_loop [3,4] (fun t x=>∃ y k:Nat,y<256∧k≤8∧k+blen y=c∧x=.int .i64 y∧t=.int .i64 ((8 * z+k:Nat):Int)) (fun _ x=>(intOf x).toNat)
 case atStart=>exact⟨b,0,hb2,by omega,by have:=HC.out;omega,by go_num,by go_num⟩
 case round =>
  obtain⟨y,k,hy,hk,hyk,rfl,rfl⟩:=hrel;have HY:=Hq hyk;clear hyk;by_cases hlt:0<y
  · have hlt2:(0:Int)<(y:Int):=by omega
    have HH:=Hq (blen_half hlt);go_wp2;go_round;case rel =>
     have h1:=HY.out;have h2:=HH.out;exact⟨y / 2,k+1,by omega,by omega,by omega,by go_num,by go_num⟩
    case measure=>simp[intOf];omega
  · obtain rfl:y=0:=by omega
    have h1:=HY.out;rw[blen_zero]at h1;obtain rfl:k=c:=by omega
    go_wp2;go_ret;exact⟨rfl,rfl⟩
theorem r01_bits(n:Nat)(hs1:(nS n).size≤1000)(w:World):Calls Tryz.prog 130 #[.string (nS n)] w (RetQ (.int .i64 (blen n)) w):=by
 rcases Nat.eq_zero_or_pos n with h0 | h0
 · subst h0;rw[nS_zero];go_enter Tryz.func130,Tryz.ntmps130;go_wp2;go_ret;exact⟨rfl,rfl⟩
 · obtain⟨h,h1,h2,h3⟩:=nS_first h0;rw[h3];exact r01_bits_core (nS n) h hs1 _ rfl h2 w
set_option maxRecDepth 100000
set_option maxHeartbeats 8000000
theorem i64_62(n:Int)(h1:0≤n)(h2:n<2 ^ 62):IntKind.i64.wrap n=n:=by rw[IntKind.wrap_i64];omega
theorem or_i64(x y:Nat)(hx:x<4611686018427387904)(hy:y<4611686018427387904):bits .or .i64 (x:Int) (y:Int)=((x ||| y:Nat):Int):=
 (bits_nat .i64 62 (by decide) i64_62 x y hx hy).2
theorem and255(x:Nat)(hx:x<4611686018427387904):bits .and .i64 (x:Int) 255=((x%256:Nat):Int):=by
 have h:=(bits_nat .i64 62 (by decide) i64_62 x 255 hx (by decide)).1;rw[show x &&& 255=x%256 from Nat.and_two_pow_sub_one_eq_mod x 8]at h;exact h
theorem join256{a b:Nat}(ha:a<256)(hb:b<256):bits .or .i64 ((a:Int) * 256) (b:Int)=((a * 256+b:Nat):Int):=by
 rw[show (a:Int) * 256=((a * 256:Nat):Int)from by omega,or_i64 _ _ (by omega) (by omega),nat_join 8 (a * 256) b (by simp) (by omega)]
theorem join256'{a b:Nat}(ha:a<256)(hb:b<256):bits .or .i64 (b:Int) ((a:Int) * 256)=((b+a * 256:Nat):Int):=by
 rw[show (a:Int) * 256=((a * 256:Nat):Int)from by omega,or_i64 _ _ (by omega) (by omega),Nat.or_comm,nat_join 8 (a * 256) b (by simp) (by omega),Nat.add_comm]
theorem low_part{d s:Nat}(hd:d<256)(hs:s≤7):bits .and .i64 (wrap64 ((d:Int) * 2 ^ s)) 255=((d * 2 ^ s%256:Nat):Int):=by
 have h:d * 2 ^ s<256 * 128:=(by have : 2 ^ s≤2 ^ 7:=Nat.pow_le_pow_right (by decide) hs;exact Nat.lt_of_le_of_lt (Nat.mul_le_mul_left _ this) (Nat.mul_lt_mul_of_pos_right hd (by decide)));rw[show (d:Int) * 2 ^ s=((d * 2 ^ s:Nat):Int)from by simp];generalize d * 2 ^ s=D at *;rw[show wrap64 (D:Int)=(D:Int)from by unfold wrap64;omega];exact and255 _ (by omega)
theorem join_parts{d e s:Nat}(hd:d<256)(he:e<256)(hs:s≤7):bits .or .i64 ((d * 2 ^ s%256:Nat):Int) ((e:Int) / 2 ^ (8 - s))=((d * 2 ^ s%256+e / 2 ^ (8 - s):Nat):Int):=by
 rw[show (e:Int) / 2 ^ (8 - s)=((e / 2 ^ (8 - s):Nat):Int)from by simp];have h1:e / 2 ^ (8 - s)<2 ^ s:=by
  rw[Nat.div_lt_iff_lt_mul (Nat.pow_pos (by decide)),←Nat.pow_add,show s+(8 - s)=8 from by omega];exact he
 have h3:2 ^ s≤2 ^ 7:=Nat.pow_le_pow_right (by decide) hs;have h2:d * 2 ^ s%256%2 ^ s=0:=(by rw[show (256:Nat)=2 ^ s * 2 ^ (8 - s)from by rw[←Nat.pow_add,show s+(8 - s)=8 from by omega],Nat.mod_mul_right_mod,Nat.mul_mod_left]);rw[or_i64 _ _ (by omega) (by omega),nat_join s _ _ h2 h1]
theorem shift_of{y b:Nat}(hb0:0<b)(hb:b<256)(n:Nat)(hn:0<n)(h:blen y=8 * (n - 1)+blen b):∃ s:Nat,(8:Int) - (Lib.bitLen b:Int)=(s:Int)∧s≤7∧y * 2 ^ s<256 ^ n:=by
 have h1:=bitLen_blen hb;have h2:blen b≤8:=by
  unfold blen;split
  · omega
  · have:=(Nat.log2_lt (n:=b) (k:=8) (by assumption)).2 (by omega);omega
 have h3:0<blen b:=(by unfold blen;rw[if_neg (by omega)];omega);refine⟨8 - blen b,by rw[h1];omega,by omega,?_⟩;have h4:=blen_lt y;rw[h]at h4;have h5:y * 2 ^ (8 - blen b)<2 ^ (8 * (n - 1)+blen b) * 2 ^ (8 - blen b):=Nat.mul_lt_mul_of_pos_right h4 (Nat.pow_pos (by decide));rw[←Nat.pow_add,show 8 * (n - 1)+blen b+(8 - blen b)=8 * n from by omega,Nat.pow_mul]at h5;exact h5
theorem nat_divided_core(x y:Nat)(s t:ByteArray)(hs:nS x=s)(ht:nS y=t)(hx:x<256 ^ 128)(h:y≤x)(h0:0<y)(h8:8<s.size)(g:0<t.size)(b:Nat)(hb:t[0].toNat=b)(sh:Nat)(hsh:(8:Int) - (Lib.bitLen b:Int)=(sh:Int))(hs7:sh≤7)(hys:y * 2 ^ sh<256 ^ t.size)(w:World):Calls Tryz.prog 114 #[.string s,.string t] w (Ret (.tuple #[.string (nS (x / y)),.string (nS (x%y))]) w):=by
 have hs1:s.size≤128:=by rw[←hs];exact nS_size_le.2 hx
 have hts:t.size≤s.size:=by rw[←hs,←ht];exact nS_size_le.2 (Nat.lt_of_le_of_lt h (nS_size_le.1 (Nat.le_refl _)))
 have HXL:=Hq (show x<256 ^ s.size from by rw[←hs];exact nS_size_le.1 (Nat.le_refl _));have HYL:=Hq (show 256 ^ (t.size - 1)≤y from by
  rcases Nat.lt_or_ge y (256 ^ (t.size - 1))with h1 | h1
  · have h2:=nS_size_le.2 h1;rw[ht]at h2;omega
  · exact h1)
 have HS:=Hq hs;have HT:=Hq ht;have HG:=Hq (cmpI_nonneg h);have HO:=Hq (ordB_nS x y);rw[hs,ht]at HO;have HXS:=Hq (show (nS x).size≤1000 from by rw[hs];omega);have HYS:=Hq (show (nS y).size≤1000 from by rw[ht];omega);have HYH:=Hq hys;have HX:=Hq h;have HY0:=Hq h0;have HD0:=Hq (show 0<y * 2 ^ sh from Nat.mul_pos h0 (Nat.pow_pos (by decide)));have HLZ:=Hq (fun w=>Tryz.bits_LeadingZeros8 (b:Int) w (by omega) (by have:=t[0].toNat_lt;omega));rw[Int.toNat_natCast,hsh]at HLZ;have hmk:=fun(w:World)=>make_ints t.size (by omega) w;have hmk2:=fun(w:World)=>make_ints (s.size+1) (by omega) w;simp only[Int.natCast_add,Int.natCast_one]at hmk2;obtain⟨m,hm⟩:∃ m,s.size=m+t.size:=⟨s.size - t.size,by omega⟩;have hmi:(s.size:Int) - (t.size:Int)=(m:Int):=by omega
 have hmk3:=fun(w:World)=>make_bytes (m+1) (by omega) w;simp only[Int.natCast_add,Int.natCast_one]at hmk3;have hmk4:=fun(w:World)=>make_bytes t.size (by omega) w;have HM:=Hq hm;have hng:¬ ((s.size:Int)≤8):=by omega
 clear hs ht hx h h0 hys hsh hm;go_enter Tryz.func114,Tryz.ntmps114;go_wp2_with fail;refine(nat_compare s t (by omega) (by omega) _).mono ?_;rintro e w1 ⟨rfl,rfl⟩;rw[HO.out];have hg:=HG.out;obtain⟨c,hc⟩:∃ c,cmpI x y=c:=⟨_,rfl⟩;rw[hc]at hg⊢;clear hc HG;go_wp2_with fail;refine(HLZ.out _).mono ?_;rintro e w ⟨rfl,rfl⟩;go_wp2;clear hmk;go_loopw [63] (fun i wr=>∃(k:Nat) (f:Nat→Nat),k≤t.size∧i=.int .i64 k∧RowI wr w.heap.size (t.size) f∧(∀ j,j<k→f j=dig (y * 2 ^ sh) j)∧Below w.heap.size w wr) (fun i _=>t.size - (intOf i).toNat);case atStart=>exact⟨0,_,Nat.zero_le _,rfl,RowI.start _,fun j h=>absurd h (Nat.not_lt_zero _),(Below.refl _ _).alloc (Nat.le_refl _) _⟩
 case round =>
  obtain⟨k,f,hk,rfl,hR,hf,hB⟩:=hrel;have HR:=Hq hR;have HB:=Hq hB;have HF:=Hq hf;clear hR hB hf;by_cases hlt:k<t.size
  · have hd:=dig_lt y k;have HDG:=Hq (nat_digit y k HYS.out);rw[HT.out]at HDG;obtain⟨d,hde⟩:∃ d,dig y k=d:=⟨_,rfl⟩;rw[hde]at hd HDG;have HDE:=Hq hde;have hf:=HR.out.free k;have hcl:=HR.out.cell hlt;have hlow:=low_part hd hs7;obtain⟨x1,hx1⟩:∃ x1,d * 2 ^ sh%256=x1:=⟨_,rfl⟩;rw[hx1]at hlow;have HX1:=Hq hx1;clear hde hx1;by_cases hk0:k=0
    · have hk1:¬ (0<k):=by omega
      have HK0:=Hq hk0;clear hk0;go_wp2_with fail;refine(HDG.out _).mono ?_;rintro e w1 ⟨rfl,rfl⟩;go_wp2;refine⟨⟨k+1,upd f k x1,by omega,by go_num,HR.out.set x1,?_,HB.out.setCell (p:=⟨w.heap.size,k,none⟩) (Nat.le_refl _) _⟩,by simp[intOf];omega⟩;intro j hj;have e0:=HK0.out;obtain rfl:j=0:=by omega
      rw[e0,upd_at,dig_scaled0,←HX1.out,←HDE.out,e0]
    · have hk1:0<k:=by omega
      clear hk0;obtain⟨kp,hkp⟩:∃ kp,k=kp+1:=⟨k - 1,by omega⟩;have hix:(k:Int) - 1=(kp:Int):=by omega
      have HKP:=Hq hkp;have HDG2:=Hq (nat_digit y kp HYS.out);rw[HT.out]at HDG2;have hd2:=dig_lt y kp;obtain⟨d2,hde2⟩:∃ d,dig y kp=d:=⟨_,rfl⟩;rw[hde2]at hd2 HDG2;have HDE2:=Hq hde2;obtain⟨z,hz⟩:∃ z:Nat,(8:Int) - (sh:Int)=(z:Int):=⟨8 - sh,by omega⟩;obtain rfl:z=8 - sh:=by omega
      have hor:=join_parts hd hd2 hs7;rw[HX1.out]at hor;obtain⟨x2,hx2⟩:∃ x2,x1+d2 / 2 ^ (8 - sh)=x2:=⟨_,rfl⟩;rw[hx2]at hor;have HX2:=Hq hx2;obtain⟨z,hzz⟩:∃ z,8 - sh=z:=⟨_,rfl⟩;rw[hzz]at hor hz;have HZ:=Hq hzz;clear hkp hde2 hx2 hzz;obtain⟨W1,hW1⟩:∃ W1,wr.setCell ⟨w.heap.size,k,none⟩ (.int .i64 x1)=W1:=⟨_,rfl⟩;obtain⟨wd,hwd⟩:∃ wd,W1.drew=wd:=⟨_,rfl⟩;have HR2:=Hq (show RowI wd w.heap.size (t.size) (upd f k x1)from by rw[←hwd,←hW1];exact(HR.out.set x1).heap rfl);have HB2:=Hq (show Below w.heap.size w wd from by rw[←hwd,←hW1];exact(HB.out.setCell (p:=⟨w.heap.size,k,none⟩) (Nat.le_refl _) _).drew);have c0:=HR2.out.cell hlt;rw[upd_at]at c0;have hf0:=HR2.out.free k;go_wp2_with fail;refine(HDG.out _).mono ?_;rintro e w1 ⟨rfl,rfl⟩;go_wp2;try rw[hW1]
      refine wp_region_K 13 (Eq wd) (by kernel_rfl) ?_;intro hD;rw[hwd];refine qPD 0 77 13 rfl hD rfl ?_;clear hD;intro hD;simp only[Act.put,sqA,sqB,sqC];refine qPD 1 78 12 rfl hD rfl ?_;clear hD;intro hD;simp only[Act.put,sqA,sqB,sqC];refine qPD 2 79 11 rfl hD rfl ?_;clear hD;intro hD;simp only[Act.put,sqA,sqB,sqC];refine qTD 3 80 10 rfl hD rfl (by intro w' hS';have e0:=(hS'▸c0);go_simp;with_reducible rfl) ?_;clear hD;intro hD;simp only[Act.put,sqA,sqB,sqC];refine qPD 4 81 9 rfl hD rfl ?_;clear hD;intro hD;simp only[Act.put,sqA,sqB,sqC];refine qPD 5 82 8 rfl hD rfl ?_;clear hD;intro hD;simp only[Act.put,sqA,sqB,sqC];refine qPD 6 83 7 rfl hD rfl ?_;clear hD;intro hD;simp only[Act.put,sqA,sqB,sqC];refine qPD 8 85 6 rfl hD rfl ?_;clear hD;intro hD;simp only[Act.put,sqA,sqB,sqC];refine qPD 9 86 5 rfl hD rfl ?_;clear hD;intro hD;simp only[Act.put,sqA,sqB,sqC];refine rO 7 4 rfl hD ?_;clear hD;intro K7 hK7;go_wp2_with fail;refine(HDG2.out _).mono ?_;rintro e w1 ⟨rfl,rfl⟩;go_wp2;refine hK7 _ _ (by rfl) ?_;clear hK7;intro hS_15_7 hD;refine qPD 10 87 3 rfl hD hS_15_7 ?_;clear hD;intro hD;simp only[Act.put,sqA,sqB,sqC];refine qPD 11 88 2 rfl hD hS_15_7 ?_;clear hD;intro hD;simp only[Act.put,sqA,sqB,sqC];refine qPD 12 89 1 rfl hD hS_15_7 ?_;clear hD;intro hD;simp only[Act.put,sqA,sqB,sqC];refine wpAnyK_oneT (i:=13) (fuel:=0) (by kernel_rfl) rfl hD (by kernel_rfl) ?_;clear hD;intro K13 hK13;go_wp2;refine hK13 _ _ ?_;clear hK13;intro hD;refine wpAnyK_done (by kernel_rfl) ?_ 0;clear hD;go_wp2;refine⟨⟨k+1,upd (upd f k x1) k x2,by omega,by go_num,HR2.out.set x2,?_,HB2.out.setCell (p:=⟨w.heap.size,k,none⟩) (Nat.le_refl _) _⟩,by simp[intOf];omega⟩;intro j hj;by_cases e:j=k
      · have e1:=HKP.out;have e2:=HDE.out;subst e;rw[upd_at,←HX2.out,←HX1.out,←HDE2.out];subst e1;rw[dig_scaled hs7,e2]
      · rw[upd_off _ e,upd_off _ e];exact HF.out j (by omega)
  · obtain rfl:k=t.size:=by omega
    have HD:=Hq (HR.out.congr HF.out);have hBD:=HR.out.lt;have HW:=Hq HB.out;clear HF HR HB hk hlt;obtain⟨V,hV⟩:∃ V,V=wr:=⟨_,rfl⟩;subst hV;go_wp2;clear hmk2;go_loopw [97] (fun i wr=>∃(k:Nat) (f:Nat→Nat),k≤s.size+1∧i=.int .i64 k∧RowI wr V.heap.size (s.size+1) f∧(∀ j,j<k→f j=dig (x * 2 ^ sh) j)∧Below V.heap.size V wr) (fun i _=>s.size+1 - (intOf i).toNat);case atStart=>exact⟨0,_,Nat.zero_le _,rfl,RowI.start _,fun j h=>absurd h (Nat.not_lt_zero _),(Below.refl _ _).alloc (Nat.le_refl _) _⟩
    case round =>
     obtain⟨k,f,hk,rfl,hR,hf,hB⟩:=hrel;have HR:=Hq hR;have HB:=Hq hB;have HF:=Hq hf;clear hR hB hf;by_cases hlt:k<s.size+1
     · have hd:=dig_lt x k;have HDG:=Hq (nat_digit x k HXS.out);rw[HS.out]at HDG;obtain⟨d,hde⟩:∃ d,dig x k=d:=⟨_,rfl⟩;rw[hde]at hd HDG;have HDE:=Hq hde;have hf:=HR.out.free k;have hcl:=HR.out.cell hlt;have hlow:=low_part hd hs7;obtain⟨x1,hx1⟩:∃ x1,d * 2 ^ sh%256=x1:=⟨_,rfl⟩;rw[hx1]at hlow;have HX1:=Hq hx1;clear hde hx1;by_cases hk0:k=0
       · have hk1:¬ (0<k):=by omega
         have HK0:=Hq hk0;clear hk0;go_wp2_with fail;refine(HDG.out _).mono ?_;rintro e w1 ⟨rfl,rfl⟩;go_wp2;refine⟨⟨k+1,upd f k x1,by omega,by go_num,HR.out.set x1,?_,HB.out.setCell (p:=⟨V.heap.size,k,none⟩) (Nat.le_refl _) _⟩,by simp[intOf];omega⟩;intro j hj;have e0:=HK0.out;obtain rfl:j=0:=by omega
         rw[e0,upd_at,dig_scaled0,←HX1.out,←HDE.out,e0]
       · have hk1:0<k:=by omega
         clear hk0;obtain⟨kp,hkp⟩:∃ kp,k=kp+1:=⟨k - 1,by omega⟩;have hix:(k:Int) - 1=(kp:Int):=by omega
         have HKP:=Hq hkp;have HDG2:=Hq (nat_digit x kp HXS.out);rw[HS.out]at HDG2;have hd2:=dig_lt x kp;obtain⟨d2,hde2⟩:∃ d,dig x kp=d:=⟨_,rfl⟩;rw[hde2]at hd2 HDG2;have HDE2:=Hq hde2;obtain⟨z,hz⟩:∃ z:Nat,(8:Int) - (sh:Int)=(z:Int):=⟨8 - sh,by omega⟩;obtain rfl:z=8 - sh:=by omega
         have hor:=join_parts hd hd2 hs7;rw[HX1.out]at hor;obtain⟨x2,hx2⟩:∃ x2,x1+d2 / 2 ^ (8 - sh)=x2:=⟨_,rfl⟩;rw[hx2]at hor;have HX2:=Hq hx2;obtain⟨z,hzz⟩:∃ z,8 - sh=z:=⟨_,rfl⟩;rw[hzz]at hor hz;have HZ:=Hq hzz;clear hkp hde2 hx2 hzz;obtain⟨W1,hW1⟩:∃ W1,wr.setCell ⟨V.heap.size,k,none⟩ (.int .i64 x1)=W1:=⟨_,rfl⟩;obtain⟨wd,hwd⟩:∃ wd,W1.drew=wd:=⟨_,rfl⟩;have HR2:=Hq (show RowI wd V.heap.size (s.size+1) (upd f k x1)from by rw[←hwd,←hW1];exact(HR.out.set x1).heap rfl);have HB2:=Hq (show Below V.heap.size V wd from by rw[←hwd,←hW1];exact(HB.out.setCell (p:=⟨V.heap.size,k,none⟩) (Nat.le_refl _) _).drew);have c0:=HR2.out.cell hlt;rw[upd_at]at c0;have hf0:=HR2.out.free k;go_wp2_with fail;refine(HDG.out _).mono ?_;rintro e w1 ⟨rfl,rfl⟩;go_wp2;try rw[hW1]
         refine wp_region_K 13 (Eq wd) (by kernel_rfl) ?_;intro hD;rw[hwd];refine qPD 0 111 13 rfl hD rfl ?_;clear hD;intro hD;simp only[Act.put,sqA,sqB,sqC];refine qPD 1 112 12 rfl hD rfl ?_;clear hD;intro hD;simp only[Act.put,sqA,sqB,sqC];refine qPD 2 113 11 rfl hD rfl ?_;clear hD;intro hD;simp only[Act.put,sqA,sqB,sqC];refine qTD 3 114 10 rfl hD rfl (by intro w' hS';have e0:=(hS'▸c0);go_simp;with_reducible rfl) ?_;clear hD;intro hD;simp only[Act.put,sqA,sqB,sqC];refine qPD 4 115 9 rfl hD rfl ?_;clear hD;intro hD;simp only[Act.put,sqA,sqB,sqC];refine qPD 5 116 8 rfl hD rfl ?_;clear hD;intro hD;simp only[Act.put,sqA,sqB,sqC];refine qPD 6 117 7 rfl hD rfl ?_;clear hD;intro hD;simp only[Act.put,sqA,sqB,sqC];refine qPD 8 119 6 rfl hD rfl ?_;clear hD;intro hD;simp only[Act.put,sqA,sqB,sqC];refine qPD 9 120 5 rfl hD rfl ?_;clear hD;intro hD;simp only[Act.put,sqA,sqB,sqC];refine rO 7 4 rfl hD ?_;clear hD;intro K7 hK7;go_wp2_with fail;refine(HDG2.out _).mono ?_;rintro e w1 ⟨rfl,rfl⟩;go_wp2;refine hK7 _ _ (by rfl) ?_;clear hK7;intro hS_23_7 hD;refine qPD 10 121 3 rfl hD hS_23_7 ?_;clear hD;intro hD;simp only[Act.put,sqA,sqB,sqC];refine qPD 11 122 2 rfl hD hS_23_7 ?_;clear hD;intro hD;simp only[Act.put,sqA,sqB,sqC];refine qPD 12 123 1 rfl hD hS_23_7 ?_;clear hD;intro hD;simp only[Act.put,sqA,sqB,sqC];refine wpAnyK_oneT (i:=13) (fuel:=0) (by kernel_rfl) rfl hD (by kernel_rfl) ?_;clear hD;intro K13 hK13;go_wp2;refine hK13 _ _ ?_;clear hK13;intro hD;refine wpAnyK_done (by kernel_rfl) ?_ 0;clear hD;go_wp2;refine⟨⟨k+1,upd (upd f k x1) k x2,by omega,by go_num,HR2.out.set x2,?_,HB2.out.setCell (p:=⟨V.heap.size,k,none⟩) (Nat.le_refl _) _⟩,by simp[intOf];omega⟩;intro j hj;by_cases e:j=k
         · have e1:=HKP.out;have e2:=HDE.out;subst e;rw[upd_at,←HX2.out,←HX1.out,←HDE2.out];subst e1;rw[dig_scaled hs7,e2]
         · rw[upd_off _ e,upd_off _ e];exact HF.out j (by omega)
     · obtain rfl:k=s.size+1:=by omega
       rw[show ((s.size+1:Nat):Int)=(s.size:Int)+1 from by omega];have HF0:=Hq (show ∀ p,p<s.size+1→f p<256 from fun p hp=>by rw[HF.out p hp];exact dig_lt _ _);have HV0:=Hq (show vN f (s.size+1)=x * 2 ^ sh%(y * 2 ^ sh * 256 ^ (m+1))from by
        rw[vN_congr HF.out,vN_dig];have h1:=ld_start (s:=sh) (n:=t.size) (L:=s.size) hts HXL.out HYL.out g;rw[show s.size - t.size+1=m+1 from by have:=HM.out;omega]at h1;rw[←h1];refine Nat.mod_eq_of_lt ?_;rw[Nat.pow_succ];have h2:2 ^ sh≤256:=Nat.le_trans (Nat.pow_le_pow_right (by decide) hs7) (by decide)
        exact Nat.lt_of_lt_of_le (Nat.mul_lt_mul_of_pos_right HXL.out (Nat.pow_pos (by decide))) (Nat.mul_le_mul_left _ h2))
       have HR0:=Hq HR.out;have hBR:=HR.out.lt;have HBV:=Hq HB.out;obtain⟨f0,hf0⟩:∃ f0,f0=f:=⟨_,rfl⟩;subst hf0;clear HF HR HB hk hlt;obtain⟨U,hU⟩:∃ U,U=wr:=⟨_,rfl⟩;subst hU;have hbQ:Below U.heap.size U (U.alloc (.cells (zb (m+1)) 5)):=(Below.refl _ _).alloc (Nat.le_refl _) _;have HS0:=Hq (show LdS w (U.alloc (.cells (zb (m+1)) 5)) w.heap.size V.heap.size U.heap.size t.size (s.size+1) (m+1) (y * 2 ^ sh) (x / y) (m+1) f0 from
        ⟨(HD.out.heap (HBV.out.block _ hBD)).heap (hbQ.block _ (by omega)),HR0.out.heap (hbQ.block _ hBR),HF0.out,OutH.start _ _,(HW.out.trans (HBV.out.mono (by omega))).trans (hbQ.mono (by omega)),by omega,by omega,by omega,by omega,by omega⟩)
       clear hbQ;go_wp2;go_loopw [17] (fun j wr=>∃(jj:Nat) (f:Nat→Nat),jj≤m+1∧j=.int .i64 ((jj:Int) - 1)∧vN f (s.size+1)=x * 2 ^ sh%(y * 2 ^ sh * 256 ^ jj)∧LdS w wr w.heap.size V.heap.size U.heap.size t.size (s.size+1) (m+1) (y * 2 ^ sh) (x / y) jj f) (fun j _=>(intOf j+1).toNat);case atStart=>exact⟨m+1,f0,Nat.le_refl _,by go_num,HV0.out,HS0.out⟩
       case round =>
        obtain⟨jj,f,hjj,rfl,hv,hS⟩:=hrel;have HVV:=Hq hv;have HSS:=Hq hS;clear hv hS;obtain⟨Wm,hWm⟩:∃ Wm,Wm=wr:=⟨_,rfl⟩;subst hWm;rcases Nat.eq_zero_or_pos jj with hz | hz
        · subst hz;rw[show ((0:Nat):Int) - 1 = -1 from rfl];have HVR:=Hq (show vN f (s.size+1) / 2 ^ sh=x%y from by
           rw[HVV.out,Nat.pow_zero,Nat.mul_one]
           rw[Nat.mul_mod_mul_right,Nat.mul_div_cancel _ (Nat.pow_pos (by decide))])
          have hUl:=HSS.out.rQ.lt;have hVl:=HSS.out.rR.lt;have hBase:w.heap.size<Wm.heap.size:=Nat.lt_of_le_of_lt (Nat.le_of_lt hBD) hVl;clear hmk3;go_wp2;clear hmk4;go_loopw [259] (fun i wr=>∃ k:Nat,k≤t.size∧i=.int .i64 k∧OutB wr Wm.heap.size t.size k (x%y)∧Below Wm.heap.size Wm wr) (fun i _=>t.size - (intOf i).toNat);case atStart=>exact⟨0,Nat.zero_le _,rfl,OutB.start _ _,(Below.refl _ _).alloc (Nat.le_refl _) _⟩
          case round =>
           obtain⟨k,hk,rfl,hO,hB⟩:=hrel;have HO2:=Hq hO;have HBQ:=Hq hB;clear hO hB;by_cases hlt:k<t.size
           · have hks:k<s.size:=by omega
             have hRq:RowI wr V.heap.size (s.size+1) f:=HSS.out.rR.heap (HBQ.out.block _ hVl);have c0:=hRq.cell (show k<s.size+1 by omega);have c1:=hRq.cell (show k+1<s.size+1 by omega);have ha:=HSS.out.dR k (by omega);have hb2:=HSS.out.dR (k+1) (by omega);have hdk:=dig_back (v:=vN f (s.size+1)) (i:=k) hs7;rw[HVR.out,dig_vN HSS.out.dR (show k<s.size+1 by omega),dig_vN HSS.out.dR (show k+1<s.size+1 by omega)]at hdk;obtain⟨a1,ha1⟩:∃ u,f k=u:=⟨_,rfl⟩;obtain⟨a2,ha2⟩:∃ u,f (k+1)=u:=⟨_,rfl⟩;rw[ha1]at c0 ha hdk;rw[ha2]at c1 hb2 hdk;have hor:=join256' hb2 ha;obtain⟨v,hv⟩:∃ u,a1+a2 * 256=u:=⟨_,rfl⟩;rw[hv]at hor hdk;have hvl:v<65536:=by omega
             obtain⟨v2,hv2⟩:∃ u,v / 2 ^ sh=u:=⟨_,rfl⟩;have hv2i:(v:Int) / 2 ^ sh=(v2:Int):=by rw[←hv2];simp
             have hv2l:v2<65536:=by rw[←hv2];exact Nat.lt_of_le_of_lt (Nat.div_le_self _ _) hvl
             rw[hv2]at hdk;have HDK:=Hq hdk;obtain⟨kk,hkk⟩:∃ kk,kk+1+k=t.size:=⟨t.size - 1 - k,by omega⟩;have hkki:(t.size:Int) - 1 - (k:Int)=(kk:Int):=by omega
             have hkkl:kk<t.size:=by omega
             have HKK:=Hq hkk;obtain⟨uo,huo⟩:=HO2.out.cell hkkl;have hfo:=HO2.out.free kk;have hki:(k:Int)+1<(s.size:Int)+1:=by omega
             clear hdk hv hv2 ha1 ha2 hkk hRq;go_wp2;refine⟨⟨k+1,by omega,by go_num,?_,HBQ.out.setCell (p:=⟨Wm.heap.size,kk,none⟩) (Nat.le_refl _) _⟩,by simp[intOf];omega⟩;have h1:=HO2.out.step (k:=kk) HKK.out;rw[HDK.out]at h1;exact h1
           · obtain rfl:k=t.size:=by omega
             clear hlt hk;have hbq:=(HSS.out.rQ.out.heap (HBQ.out.block _ hUl)).bytes (by omega);have hbr:=HO2.out.bytes (by omega);have HBY1:=Hq hbq;have HBY2:=Hq hbr;have HQL:=Hq (show x / y<256 ^ (m+1)from by
              rw[Nat.div_lt_iff_lt_mul HY0.out];refine Nat.lt_of_lt_of_le HXL.out ?_;have h1:=Nat.mul_le_mul_left (256 ^ (m+1)) HYL.out;rw[←Nat.pow_add]at h1;rw[show s.size=m+1+(t.size - 1)from by have:=HM.out;omega]
              exact h1)
             have HRL:=Hq (show x%y<256 ^ t.size from Nat.lt_of_lt_of_le (Nat.mod_lt _ HY0.out) (by
              have h1:y≤y * 2 ^ sh:=Nat.le_mul_of_pos_right _ (Nat.pow_pos (by decide));have:=HYH.out
              omega))
             clear hbq hbr;go_wp2_with fail;refine(nat_trimmed _ _ _ _ _ HBY1.out).mono ?_;rintro e w1 ⟨rfl,rfl⟩;rw[trim_beN HQL.out];go_wp2_with fail;refine(nat_trimmed _ _ _ _ _ HBY2.out).mono ?_;rintro e w1 ⟨rfl,rfl⟩;rw[trim_beN HRL.out];go_wp2;go_ret2;exact⟨rfl,HSS.out.hB.trans (HBQ.out.mono (Nat.le_of_lt hBase))⟩
        · obtain⟨j,rfl⟩:∃ j,jj=j+1:=⟨jj - 1,by omega⟩;rw[show ((j+1:Nat):Int) - 1=(j:Int)from by omega];have hmn:=HM.out;have HYM:=Hq (show 256 ^ (t.size - 1)≤y * 2 ^ sh from Nat.le_trans HYL.out (Nat.le_mul_of_pos_right _ (Nat.pow_pos (by decide))));obtain⟨n1,hn1⟩:∃ n1,t.size=n1+1:=⟨t.size - 1,by omega⟩;have hn1i:(t.size:Int) - 1=(n1:Int):=by omega
          obtain⟨p1,hp1⟩:∃ p1,j+t.size=p1:=⟨_,rfl⟩;have hp1i:(j:Int)+(t.size:Int)=(p1:Int):=by omega
          obtain⟨p2,hp2⟩:∃ p2,p1=p2+1:=⟨p1 - 1,by omega⟩;have hp2i:(p1:Int) - 1=(p2:Int):=by omega
          have hp1w:IntKind.i64.wrap (p1:Int)=(p1:Int):=by rw[IntKind.wrap_i64];omega
          have hp2w:IntKind.i64.wrap (p2:Int)=(p2:Int):=by rw[IntKind.wrap_i64];omega
          have hn1w:IntKind.i64.wrap (n1:Int)=(n1:Int):=by rw[IntKind.wrap_i64];omega
          have hp10:(0:Int)≤(p1:Int):=by omega
          have hp20:(0:Int)≤(p2:Int):=by omega
          have hn10:(0:Int)≤(n1:Int):=by omega
          have hp1b:(p1:Int)<(s.size:Int)+1:=by omega
          have hp2b:(p2:Int)<(s.size:Int)+1:=by omega
          have hn1b:(n1:Int)<(t.size:Int):=by omega
          have hp1l:p1<s.size+1:=by omega
          have hp2l:p2<s.size+1:=by omega
          have hn1l:n1<t.size:=by omega
          obtain⟨wd,hwd⟩:∃ wd,Wm.drew=wd:=⟨_,rfl⟩;have HSD:=Hq (show LdS w wd w.heap.size V.heap.size U.heap.size t.size (s.size+1) (m+1) (y * 2 ^ sh) (x / y) (j+1) f from by rw[←hwd];exact HSS.out.drew);have c0:=HSD.out.rR.cell hp1l;have c1:=HSD.out.rR.cell hp2l;have c2:=HSD.out.rD.cell hn1l;have hu1:=HSD.out.dR p1 hp1l;have hu2:=HSD.out.dR p2 hp2l;have hdt:=dig_lt (y * 2 ^ sh) n1;have hdt0:0<dig (y * 2 ^ sh) n1:=dig_top (by have:=HYM.out;rw[hn1,Nat.add_sub_cancel]at this;exact this) (by have:=HYH.out;rw[hn1]at this;exact this);have HGE:=Hq (guess_ge (u:=fun a=>f (j+a)) (d:=dig (y * 2 ^ sh)) (n:=t.size) g (fun a ha=>HSD.out.dR _ (by omega)) (by rw[hn1,Nat.add_sub_cancel];exact hdt0));have e1:f (j+t.size)=f p1:=by rw[hp1]
          have e2:f (j+(t.size - 1))=f p2:=by rw[show j+(t.size - 1)=p2 from by omega]
          have e3:dig (y * 2 ^ sh) (t.size - 1)=dig (y * 2 ^ sh) n1:=by rw[show t.size - 1=n1 from by omega]
          simp only[e1,e2,e3]at HGE;obtain⟨u1,hu1e⟩:∃ u,f p1=u:=⟨_,rfl⟩;obtain⟨u2,hu2e⟩:∃ u,f p2=u:=⟨_,rfl⟩;obtain⟨dt,hdte⟩:∃ u,dig (y * 2 ^ sh) n1=u:=⟨_,rfl⟩;rw[hu1e]at c0 hu1 HGE;rw[hu2e]at c1 hu2 HGE;rw[hdte]at c2 hdt hdt0 HGE;have HU1:=Hq hu1e;have hor:=join256 hu1 hu2;obtain⟨uu,huu⟩:∃ u,u1 * 256+u2=u:=⟨_,rfl⟩;rw[huu]at hor HGE;have huul:uu<65536:=by omega
          obtain⟨qq,hqq⟩:∃ u,uu / dt=u:=⟨_,rfl⟩;have hqqi:(uu:Int) / (dt:Int)=(qq:Int):=by rw[←hqq];rfl
          have hqql:qq<65536:=by rw[←hqq];exact Nat.lt_of_le_of_lt (Nat.div_le_self _ _) huul
          rw[hqq]at HGE;obtain⟨gg,hgg⟩:∃ u,min qq 255=u:=⟨_,rfl⟩;have hggi:min (qq:Int) 255=(gg:Int):=by omega
          have hggl:gg≤255:=by omega
          have hdti:((dt:Int)==0)=false:=beq_eq_false_iff_ne.2 (by omega);have hdt2:(0:Int)<(dt:Int):=by omega
          have hdt3:¬ (dt=0):=by omega
          rw[hgg]at HGE;have HP1:=Hq hp1;have HP2:=Hq hp2;have HN1:=Hq hn1;clear e1 e2 e3 hu1e hu2e hdte huu hqq hgg hp1 hp2 hn1 hmn;obtain⟨Uv,hUv⟩:∃ u,vN (fun a=>f (j+a)) (t.size+1)=u:=⟨_,rfl⟩;have hld:=ld_digit (A:=x * 2 ^ sh) (D:=y * 2 ^ sh) (n:=t.size) (j:=j) HSS.out.dR (by have:=HP1.out;omega) HD0.out HYH.out HVV.out;rw[hUv]at hld;obtain⟨_,hUl,hUd⟩:=hld;rw[Nat.mul_div_mul_right _ _ (Nat.pow_pos (by decide))]at hUd;have HUL:=Hq hUl;have HUD:=Hq hUd;have HGG:=Hq (show Uv / (y * 2 ^ sh)≤gg from by
           have h1:=HGE.out;rw[vN_dig,Nat.mod_eq_of_lt HYH.out,hUv]at h1
           exact h1 hUl)
          have HUV:=Hq hUv;clear hUv hUl hUd HGE;go_wp2;refine wp_region_K 23 (Eq wd) (by kernel_rfl) ?_;intro hD;rw[hwd];refine rP 0 139 22 rfl hD rfl ?_;clear hD;intro hD;simp only[Act.put,sqA,sqB,sqC];refine rP 1 140 21 rfl hD rfl ?_;clear hD;intro hD;simp only[Act.put,sqA,sqB,sqC];refine rP 2 141 20 rfl hD rfl ?_;clear hD;intro hD;simp only[Act.put,sqA,sqB,sqC];refine rP 3 142 19 rfl hD rfl ?_;clear hD;intro hD;simp only[Act.put,sqA,sqB,sqC];refine rP 4 143 18 rfl hD rfl ?_;clear hD;intro hD;simp only[Act.put,sqA,sqB,sqC];refine rT 5 144 17 rfl hD rfl (by intro w' hS';have e0:=(hS'▸c0);have e1:=(hS'▸c1);have e2:=(hS'▸c2);go_simp;with_reducible rfl) ?_;clear hD;intro hD;simp only[Act.put,sqA,sqB,sqC];refine rP 6 145 16 rfl hD rfl ?_;clear hD;intro hD;simp only[Act.put,sqA,sqB,sqC];refine rP 7 146 15 rfl hD rfl ?_;clear hD;intro hD;simp only[Act.put,sqA,sqB,sqC];refine rP 8 147 14 rfl hD rfl ?_;clear hD;intro hD;simp only[Act.put,sqA,sqB,sqC];refine rP 9 148 13 rfl hD rfl ?_;clear hD;intro hD;simp only[Act.put,sqA,sqB,sqC];refine rP 10 149 12 rfl hD rfl ?_;clear hD;intro hD;simp only[Act.put,sqA,sqB,sqC];refine rP 11 150 11 rfl hD rfl ?_;clear hD;intro hD;simp only[Act.put,sqA,sqB,sqC];refine rP 12 151 10 rfl hD rfl ?_;clear hD;intro hD;simp only[Act.put,sqA,sqB,sqC];refine rT 13 152 9 rfl hD rfl (by intro w' hS';have e0:=(hS'▸c0);have e1:=(hS'▸c1);have e2:=(hS'▸c2);go_simp;with_reducible rfl) ?_;clear hD;intro hD;simp only[Act.put,sqA,sqB,sqC];refine rP 14 153 8 rfl hD rfl ?_;clear hD;intro hD;simp only[Act.put,sqA,sqB,sqC];refine rP 15 154 7 rfl hD rfl ?_;clear hD;intro hD;simp only[Act.put,sqA,sqB,sqC];refine rP 16 155 6 rfl hD rfl ?_;clear hD;intro hD;simp only[Act.put,sqA,sqB,sqC];refine rP 17 156 5 rfl hD rfl ?_;clear hD;intro hD;simp only[Act.put,sqA,sqB,sqC];refine rP 18 157 4 rfl hD rfl ?_;clear hD;intro hD;simp only[Act.put,sqA,sqB,sqC];refine rT 19 158 3 rfl hD rfl (by intro w' hS';have e0:=(hS'▸c0);have e1:=(hS'▸c1);have e2:=(hS'▸c2);go_simp;with_reducible rfl) ?_;clear hD;intro hD;simp only[Act.put,sqA,sqB,sqC];refine rP 20 159 2 rfl hD rfl ?_;clear hD;intro hD;simp only[Act.put,sqA,sqB,sqC];refine rP 21 160 1 rfl hD rfl ?_;clear hD;intro hD;simp only[Act.put,sqA,sqB,sqC];refine rO 22 0 rfl hD ?_;clear hD;intro K22 hK22;go_wp2;refine hK22 _ _ (by rfl) ?_;clear hK22;intro hS_29_22 hD;refine wpAnyK_done (by kernel_rfl) ?_ 0;clear hD;rw[hor,hqqi,hggi];clear hor hqqi hggi c0 c1 c2 hwd hqql huul hdt hdt0 hdti hdt2 hdt3 hu1 hu2;go_wp2;go_loopw [19,20,162] (fun cv bv iv wr=>∃(cN bN i:Nat) (f':Nat→Nat),iv=.int .i64 i∧cv=.int .i64 cN∧bv=.int .i64 bN∧MsI t.size (y * 2 ^ sh) gg j f f' i cN bN∧LdS w wr w.heap.size V.heap.size U.heap.size t.size (s.size+1) (m+1) (y * 2 ^ sh) (x / y) (j+1) f') (fun _ _ iv _=>t.size - (intOf iv).toNat);case atStart=>exact⟨0,0,0,f,rfl,rfl,rfl,MsI.start f,HSD.out⟩
          case round =>
           obtain⟨cN,bN,i,f',rfl,rfl,rfl,hM1,hS⟩:=hrel;have HM1:=Hq hM1;have HS1:=Hq hS;have hin:=hM1.hi;have hcN:=hM1.hc;have hbN:=hM1.hb;clear hM1 hS;by_cases hlt:i<t.size
           · obtain⟨ip,hip⟩:∃ u,j+i=u:=⟨_,rfl⟩;have hipi:(i:Int)+(j:Int)=(ip:Int):=by omega
             have hipl:ip<s.size+1:=by have:=HP1.out;omega
             have c0:=HS1.out.rR.cell hipl;have c1:=HS1.out.rD.cell hlt;have hf0:=HS1.out.rR.free ip;have hr:=HS1.out.dR ip hipl;have hd:=dig_lt (y * 2 ^ sh) i;have hoff:f' ip=f ip:=HM1.out.off ip (by omega);have HN:=Hq (fun(x b2:Nat) (hb2:b2≤1)=>HM1.out.next (x:=x) (b2:=b2) hlt hggl hb2);rw[hip,←hoff]at HN;obtain⟨r,hre⟩:∃ u,f' ip=u:=⟨_,rfl⟩;obtain⟨d,hde⟩:∃ u,dig (y * 2 ^ sh) i=u:=⟨_,rfl⟩;rw[hre]at c0 hr HN;rw[hde]at c1 hd HN;obtain⟨gd,hgd⟩:∃ u,gg * d=u:=⟨_,rfl⟩;have hgdi:(gg:Int) * (d:Int)=(gd:Int):=by rw[←hgd];simp
             have hgdl:gd≤65025:=by rw[←hgd];exact Nat.mul_le_mul hggl (show d≤255 by omega)
             rw[hgd]at HN;obtain⟨q,hq⟩:∃ u,cN+gd=u:=⟨_,rfl⟩;have hqi:(cN:Int)+(gd:Int)=(q:Int):=by omega
             have hql:q≤65280:=by omega
             rw[hq]at HN;have hand:=and255 q (by omega);obtain⟨q1,hq1⟩:∃ u,q%256=u:=⟨_,rfl⟩;have hq1l:q1<256:=by omega
             rw[hq1]at hand HN;obtain⟨q2,hq2⟩:∃ u,q / 256=u:=⟨_,rfl⟩;have hq2i:(q:Int) / 256=(q2:Int):=by omega
             rw[hq2]at HN;obtain⟨X,hX⟩:∃ X:Int,(r:Int) - (q1:Int) - (bN:Int)=X:=⟨_,rfl⟩;have hXl:-257<X:=by omega
             have hXu:X<256:=by omega
             have HX2:=Hq hX;have HIP:=Hq hip;clear hip hoff hre hde hgd hq hq1 hq2;by_cases hneg:X<0
             · obtain⟨x2,hx2⟩:∃ x2:Nat,X+256=(x2:Int):=⟨(X+256).toNat,by omega⟩;have hx2l:x2<256:=by omega
               have HNN:=Hq (HN.out x2 1 (Nat.le_refl _) (by have:=HX2.out;omega));have HS2:=Hq (HS1.out.setR (k:=ip) hx2l);clear HN;go_wp2;go_roundw;case rel=>exact⟨q2,1,i+1,upd f' ip x2,by go_num,by go_num,rfl,HNN.out,HS2.out⟩
               case measure=>simp[intOf];omega
             · obtain⟨x2,rfl⟩:∃ x2:Nat,X=(x2:Int):=⟨X.toNat,by omega⟩;have hx2l:x2<256:=by omega
               have HNN:=Hq (HN.out x2 0 (by decide) (by have:=HX2.out;omega));have HS2:=Hq (HS1.out.setR (k:=ip) hx2l);clear HN;go_wp2;go_roundw;case rel=>exact⟨q2,0,i+1,upd f' ip x2,by go_num,by go_num,rfl,HNN.out,HS2.out⟩
               case measure=>simp[intOf];omega
           · obtain rfl:i=t.size:=by omega
             clear hlt hin;have c0:=HS1.out.rR.cell hp1l;have hoff:f' p1=f p1:=HM1.out.off p1 (by have:=HP1.out;omega);have hr:=HS1.out.dR p1 hp1l;have HT0:=Hq (TpI.start HM1.out HYH.out hggl HGG.out HUV.out.symm);rw[HP1.out,←hoff]at HT0;obtain⟨r,hre⟩:∃ u,f' p1=u:=⟨_,rfl⟩;rw[hre]at c0 hr HT0;obtain⟨tp0,htp0⟩:∃ X:Int,(r:Int) - (cN:Int) - (bN:Int)=X:=⟨_,rfl⟩;have htpl:-300<tp0:=by omega
             have htpu:tp0<300:=by omega
             rw[htp0]at HT0;clear hoff hre;go_wp2;clear htp0 c0 htpl htpu hr;go_loopw [18,23] (fun gv tv wr=>∃(g2:Nat) (tp:Int) (f2:Nat→Nat),gv=.int .i64 g2∧tv=.int .i64 tp∧TpI t.size (y * 2 ^ sh) Uv j f f2 g2 tp∧LdS w wr w.heap.size V.heap.size U.heap.size t.size (s.size+1) (m+1) (y * 2 ^ sh) (x / y) (j+1) f2) (fun gv _ _=>(intOf gv).toNat);case atStart=>exact⟨gg,tp0,f',rfl,rfl,HT0.out,HS1.out⟩
             case round =>
              obtain⟨g2,tp,f2,rfl,rfl,hT,hS⟩:=hrel;have HT1:=Hq hT;have HS2:=Hq hS;clear hT hS;have hf2:=fun a (ha:a<t.size)=>HS2.out.dR (j+a) (by have:=HP1.out;omega);have hbd:=HT1.out.bounds hf2 HYH.out HUL.out;obtain⟨htl,htu⟩:=hbd;have hg2:=HT1.out.hg;have HF2:=Hq hf2;clear hf2;by_cases hneg:tp<0
              · have hls:=HT1.out.less HF2.out HD0.out hneg;have hg20:0<g2:=Nat.lt_of_le_of_lt (Nat.zero_le _) hls;obtain⟨g3,rfl⟩:∃ g3,g2=g3+1:=⟨g2 - 1,by omega⟩;clear hg20;have HLS:=Hq hls;clear hls;rw[show ((g3+1:Nat):Int)=(g3:Int)+1 from by omega];go_wp2;go_loopw [24,212] (fun cv iv wr=>∃(cM i:Nat) (f3:Nat→Nat),iv=.int .i64 i∧cv=.int .i64 cM∧AbI t.size (y * 2 ^ sh) j f2 f3 i cM∧LdS w wr w.heap.size V.heap.size U.heap.size t.size (s.size+1) (m+1) (y * 2 ^ sh) (x / y) (j+1) f3) (fun _ iv _=>t.size - (intOf iv).toNat);case atStart=>exact⟨0,0,f2,rfl,rfl,AbI.start f2,HS2.out⟩
                case round =>
                 obtain⟨cM,i,f3,rfl,rfl,hA,hS⟩:=hrel;have HA1:=Hq hA;have hin:=hA.hi;have hcM:=hA.hc;by_cases hlt:i<t.size
                 · obtain⟨ip,hip⟩:∃ u,j+i=u:=⟨_,rfl⟩;have hipi:(i:Int)+(j:Int)=(ip:Int):=by omega
                   have hipl:ip<s.size+1:=by have:=HP1.out;omega
                   have hipw:IntKind.i64.wrap (ip:Int)=(ip:Int):=by rw[IntKind.wrap_i64];omega
                   have hip0:(0:Int)≤(ip:Int):=by omega
                   have hipb:(ip:Int)<(s.size:Int)+1:=by omega
                   have hib:(i:Int)<(t.size:Int):=by omega
                   have hi0:(0:Int)≤(i:Int):=by omega
                   obtain⟨wd2,hwd2⟩:∃ wd2,wr.drew=wd2:=⟨_,rfl⟩;have HS3:=Hq (show LdS w wd2 w.heap.size V.heap.size U.heap.size t.size (s.size+1) (m+1) (y * 2 ^ sh) (x / y) (j+1) f3 from by rw[←hwd2];exact hS.drew);clear hS hA;have c0:=HS3.out.rR.cell hipl;have c1:=HS3.out.rD.cell hlt;have hf0:=HS3.out.rR.free ip;have hr:=HS3.out.dR ip hipl;have hd:=dig_lt (y * 2 ^ sh) i;have hoff:f3 ip=f2 ip:=HA1.out.off ip (by omega);have HN:=Hq (fun(x:Nat) (h1:f2 (j+i)<256)=>HA1.out.next (x:=x) hlt h1);rw[hip,←hoff]at HN;obtain⟨r,hre⟩:∃ u,f3 ip=u:=⟨_,rfl⟩;obtain⟨d,hde⟩:∃ u,dig (y * 2 ^ sh) i=u:=⟨_,rfl⟩;rw[hre]at c0 hr HN;rw[hde]at c1 hd HN;obtain⟨q,hq⟩:∃ u,cM+(r+d)=u:=⟨_,rfl⟩;have hqi:(cM:Int)+((r:Int)+(d:Int))=(q:Int):=by omega
                   have hql:q≤65280:=by omega
                   have hrdw:IntKind.i64.wrap ((r:Int)+(d:Int))=(r:Int)+(d:Int):=by rw[IntKind.wrap_i64];omega
                   have HNN:=Hq (HN.out q hr hq.symm);have hand:=and255 q (by omega);obtain⟨q1,hq1⟩:∃ u,q%256=u:=⟨_,rfl⟩;have hq1l:q1<256:=by omega
                   rw[hq1]at hand HNN;obtain⟨q2,hq2⟩:∃ u,q / 256=u:=⟨_,rfl⟩;have hq2i:(q:Int) / 256=(q2:Int):=by omega
                   rw[hq2]at HNN;have HS4:=Hq (HS3.out.setR (k:=ip) hq1l);clear HN hip hoff hre hde hq hq1 hq2;go_wp2;refine wp_region_K 14 (Eq wd2) (by kernel_rfl) ?_;intro hD;rw[hwd2];refine rP 0 215 13 rfl hD rfl ?_;clear hD;intro hD;simp only[Act.put,sqA,sqB,sqC];refine rP 1 216 12 rfl hD rfl ?_;clear hD;intro hD;simp only[Act.put,sqA,sqB,sqC];refine rP 2 217 11 rfl hD rfl ?_;clear hD;intro hD;simp only[Act.put,sqA,sqB,sqC];refine rP 3 218 10 rfl hD rfl ?_;clear hD;intro hD;simp only[Act.put,sqA,sqB,sqC];refine rP 4 219 9 rfl hD rfl ?_;clear hD;intro hD;simp only[Act.put,sqA,sqB,sqC];refine rP 5 220 8 rfl hD rfl ?_;clear hD;intro hD;simp only[Act.put,sqA,sqB,sqC];refine rT 6 221 7 rfl hD rfl (by intro w' hS';have e0:=(hS'▸c0);have e1:=(hS'▸c1);go_simp;with_reducible rfl) ?_;clear hD;intro hD;simp only[Act.put,sqA,sqB,sqC];refine rP 7 222 6 rfl hD rfl ?_;clear hD;intro hD;simp only[Act.put,sqA,sqB,sqC];refine rP 8 223 5 rfl hD rfl ?_;clear hD;intro hD;simp only[Act.put,sqA,sqB,sqC];refine rP 9 224 4 rfl hD rfl ?_;clear hD;intro hD;simp only[Act.put,sqA,sqB,sqC];refine rT 10 225 3 rfl hD rfl (by intro w' hS';have e0:=(hS'▸c0);have e1:=(hS'▸c1);go_simp;with_reducible rfl) ?_;clear hD;intro hD;simp only[Act.put,sqA,sqB,sqC];refine rP 11 226 2 rfl hD rfl ?_;clear hD;intro hD;simp only[Act.put,sqA,sqB,sqC];refine rP 12 227 1 rfl hD rfl ?_;clear hD;intro hD;simp only[Act.put,sqA,sqB,sqC];refine rO 13 0 rfl hD ?_;clear hD;intro K13 hK13;go_wp2;refine hK13 _ _ (by rfl) ?_;clear hK13;intro hS_50_13 hD;refine wpAnyK_done (by kernel_rfl) ?_ 0;clear hD;try rw[hqi]
                   go_wp2;go_roundw;case rel=>exact⟨q2,i+1,upd f3 ip q1,by go_num,by go_num,HNN.out,HS4.out⟩
                   case measure=>simp[intOf];omega
                 · obtain rfl:i=t.size:=by omega
                   have HS3:=Hq hS;have HTN:=Hq (HT1.out.next HYH.out HLS.out hA);clear hlt hin hS hA;go_wp2;go_roundw;case rel=>exact⟨g3,tp+(cM:Int),f3,rfl,rfl,HTN.out,HS3.out⟩
                   case measure=>simp[intOf]
              · obtain⟨hgE,htE,hWE⟩:=HT1.out.done HF2.out HD0.out HYH.out (show 0≤tp by omega);subst htE;have hf0:=HS2.out.rR.free p1;have c0:=HS2.out.rR.cell hp1l;obtain⟨kq,hkq⟩:∃ kq,kq+1+j=m+1:=⟨m - j,by omega⟩;have hkqi:(m:Int) - (j:Int)=(kq:Int):=by omega
                have hkql:kq<m+1:=by omega
                have HKQ:=Hq hkq;obtain⟨W2,hW2⟩:∃ W2,wr.setCell ⟨V.heap.size,p1,none⟩ (.int .i64 0)=W2:=⟨_,rfl⟩;have HSR:=Hq (show LdS w W2 w.heap.size V.heap.size U.heap.size t.size (s.size+1) (m+1) (y * 2 ^ sh) (x / y) (j+1) (upd f2 p1 0)from by rw[←hW2];exact HS2.out.setR (k:=p1) (v:=0) (by decide));have hfq:=HSR.out.rQ.free kq;obtain⟨uo,huo⟩:=HSR.out.rQ.cell hkql;have hgd:g2=dig (x / y) j:=by rw[hgE,HUD.out]
                have hgm:(g2:Int)%256=(g2:Int):=by omega
                have HGD:=Hq hgd;have HNX:=Hq (ld_next (f:=f) (f':=f2) (A:=x * 2 ^ sh) (D:=y * 2 ^ sh) (n:=t.size) (j:=j) HSS.out.dR (by have:=HP1.out;omega) HD0.out HYH.out HVV.out HT1.out.off (by rw[hWE,HUV.out]));have HSQ:=Hq (HSR.out.setQ (k:=kq) (by have:=HKQ.out;omega));clear hgE hWE hkq hgd;go_wp2;skip;go_roundw;case rel =>
                 refine⟨j,upd f2 p1 0,by omega,by go_num,?_,?_⟩
                 · have:=HNX.out;rw[HP1.out]at this;exact this
                 · have:=HSQ.out;rw[←HGD.out]at this;exact this
                case measure=>simp[intOf]
theorem nat_divided_long(x y:Nat)(hx:x<256 ^ 128)(h:y≤x)(h0:0<y)(h8:8<(nS x).size)(w:World):Calls Tryz.prog 114 #[.string (nS x),.string (nS y)] w (Ret (.tuple #[.string (nS (x / y)),.string (nS (x%y))]) w):=by
 obtain⟨g,h1,h2,h3⟩:=nS_first h0;obtain⟨s,h4,h5,h6⟩:=shift_of h1 h2 (nS y).size g h3;exact nat_divided_core x y (nS x) (nS y) rfl rfl hx h h0 h8 g _ rfl s h4 h5 h6 w
theorem nat_dividedA(x y:Nat)(hx:x<256 ^ 128)(hy:y<256 ^ 128)(h0:0<y)(w:World):Calls Tryz.prog 114 #[.string (nS x),.string (nS y)] w (Ret (.tuple #[.string (nS (x / y)),.string (nS (x%y))]) w):=by
 by_cases h8:x<18446744073709551616
 · exact nat_divided x y h8 hy h0 w
 · rcases Nat.lt_or_ge x y with h | h
   · refine(nat_divided_lt x y hx hy h w).mono ?_;rintro e w1 ⟨rfl,rfl⟩;exact⟨rfl,Below.refl _ _⟩
   · exact nat_divided_long x y hx h h0 (by
      rcases Nat.lt_or_ge 8 (nS x).size with h9 | h9
      · exact h9
      · exact absurd (Nat.lt_of_lt_of_le (nS_size_le.1 h9) (by decide)) h8) w
end Go.Proofs.YthknbdddhlihdaaGreat

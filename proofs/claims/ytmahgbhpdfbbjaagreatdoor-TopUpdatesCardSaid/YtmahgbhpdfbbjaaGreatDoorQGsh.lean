import Derived.Test.YtmahgbhpdfbbjaaGreatDoorQRowN
import Derived.Deep.DeepCutAuto
import Derived.Deep.CutBlock
set_option linter.unusedVariables false
set_option linter.unusedSimpArgs false
namespace Go.Proofs.YtmahgbhpdfbbjaaGreatDoor
set_option maxRecDepth 100000
set_option maxHeartbeats 8000000
open Go.RowKit
theorem wrapU(z:Int):IntKind.u64.wrap z=z%18446744073709551616:=by simp[IntKind.wrap,IntKind.bits,IntKind.signed]
structure DivW (hi lo y s Y y1 y0 H u L n1 n0 Q1 U21 Q0 R rem:Nat):Prop where
 eY:IntKind.u64.wrap ((y:Int) * 2 ^ s)=(Y:Int)
 e9:(Y:Int) / 4294967296=(y1:Int)
 e10:bits .and .u64 (Y:Int) 4294967295=(y0:Int)
 eH:IntKind.u64.wrap ((hi:Int) * 2 ^ s)=(H:Int)
 e11:bits .or .u64 (H:Int) ((lo:Int) / 2 ^ (64 - s))=(u:Int)
 e12:IntKind.u64.wrap ((lo:Int) * 2 ^ s)=(L:Int)
 e13:(L:Int) / 4294967296=(n1:Int)
 e14:bits .and .u64 (L:Int) 4294967295=(n0:Int)
 by1:y1<4294967296
 by2:4294967296≤2 * y1
 by0:y0<4294967296
 bn1:n1<4294967296
 bn0:n0<4294967296
 bY:Y=y1 * 4294967296+y0
 bu:u<Y
 hQ1:Q1=(u * 4294967296+n1) / Y
 hU21:U21=(u * 4294967296+n1)%Y
 hQ0:Q0=(U21 * 4294967296+n0) / Y
 hR:R=(U21 * 4294967296+n0)%Y
 e9':(R:Int) / 2 ^ s=(rem:Int)
theorem est_mul{q y0:Nat}(hq:q≤4294967297)(hy:y0<4294967296):IntKind.u64.wrap ((q:Int) * (y0:Int))=((q * y0:Nat):Int):=by
 rw[show (q:Int) * (y0:Int)=((q * y0:Nat):Int)from by simp];apply u64_wrap;have h1:q * y0≤4294967297 * 4294967295:=Nat.mul_le_mul hq (by omega);omega
theorem rest_word{u n1 Q Y:Nat}(hQ:Q=(u * 4294967296+n1) / Y)(hY:Y<18446744073709551616)(h0:0<Y) :
 IntKind.u64.wrap (IntKind.u64.wrap (IntKind.u64.wrap ((u:Int) * 4294967296)+(n1:Int)) - IntKind.u64.wrap ((Q:Int) * (Y:Int)))=(((u * 4294967296+n1)%Y:Nat):Int):=by
 have h1:=Nat.div_add_mod (u * 4294967296+n1) Y;have h2:=Nat.mod_lt (u * 4294967296+n1) h0;rw[←hQ,Nat.mul_comm]at h1;have e:(Q:Int) * (Y:Int)=((Q * Y:Nat):Int):=by simp
 rw[e];generalize Q * Y=p at *;generalize (u * 4294967296+n1)%Y=r at *;rw[wrapU,wrapU,wrapU,wrapU];omega
theorem start_word{u y1:Nat}(hu:u<18446744073709551616)(h0:0<y1):∃ q p r:Nat,IntKind.u64.wrap ((u:Int) / (y1:Int))=(q:Int)∧IntKind.u64.wrap ((q:Int) * (y1:Int))=(p:Int)∧IntKind.u64.wrap ((u:Int) - (p:Int))=(r:Int)∧q=u / y1∧r=u%y1:=by
 have h1:=Nat.div_add_mod u y1;have h3:u / y1≤u:=Nat.div_le_self _ _;rw[Nat.mul_comm]at h1;refine⟨u / y1,u / y1 * y1,u%y1,u64_wrap (u / y1) (by omega),?_,?_,rfl,rfl⟩
 · rw[show ((u / y1:Nat):Int) * (y1:Int)=((u / y1 * y1:Nat):Int)from by simp];exact u64_wrap _ (by omega)
 · generalize u / y1 * y1=p at *;generalize u%y1=r at *;rw[wrapU];omega
theorem div64_core(hi lo y s Y y1 y0 H u L n1 n0 Q1 U21 Q0 R rem:Nat)(hd:DivW hi lo y s Y y1 y0 H u L n1 n0 Q1 U21 Q0 R rem)(hs:64 - (Lib.bitLen y:Int)=s)(hs63:s≤63)(hy8:y<18446744073709551616)(hlo:lo<18446744073709551616)(hh:hi<y)(h0:0<hi)(w:World) :
 Calls Tryz.prog 131 #[.int .u64 hi,.int .u64 lo,.int .u64 y] w (RetQ (.tuple #[.int .u64 ((Q1 * 4294967296+Q0:Nat):Int),.int .u64 rem]) w):=by
 have hy1:((y:Int)==0)=false:=beq_eq_false_iff_ne.2 (by omega);have hh1:((hi:Int)==0)=false:=beq_eq_false_iff_ne.2 (by omega);have hh2:¬ ((y:Int)≤(hi:Int)):=by omega
 have HS:=Hq hs;have HY8:=Hq hy8;have HD:=Hq hd;have eY:=hd.eY;have e9:=hd.e9;have e10:=hd.e10;have eH:=hd.eH;have e11:=hd.e11;have e12:=hd.e12;have e13:=hd.e13;have e14:=hd.e14;have by1:=hd.by1;have by2:=hd.by2;have by0:=hd.by0;have bn1:=hd.bn1;have bn0:=hd.bn0;have hny:¬ (y1=0):=by omega
 have hny':(0:Int)<(y1:Int):=by omega
 clear hs hy8 hd;go_enter Tryz.func131,Tryz.ntmps131;go_wp2_with fail;refine(Tryz.bits_LeadingZeros64 (y:Int) _ (by omega) (by have:=HY8.out;omega)).mono ?_;rintro e w1 ⟨rfl,rfl⟩;rw[Int.toNat_natCast,HS.out];have hs0:(0:Int)≤(s:Int):=by omega
 have hs3:(s:Int)≤63:=by omega
 have hu8:u<18446744073709551616:=by have:=HD.out.bu;have:=HD.out.bY;omega
 obtain⟨qs,ps,rs,g1,g2,g3,hq,hr⟩:=start_word hu8 (show 0<y1 by omega);have HQ:=Hq hq;have HR:=Hq hr;have HBU:=Hq (show u<y1 * 4294967296+y0 from by rw[←HD.out.bY];exact HD.out.bu);have HPY:=Hq (show 0<y1 * 4294967296+y0 from by omega);have HQQ:=Hq (show Q1=(u * 4294967296+n1) / (y1 * 4294967296+y0)from by rw[←HD.out.bY];exact HD.out.hQ1);clear hq hr;go_upto_block 0 with(fail)
 go_cut [15] (fun q wx=>q=.int .u64 (Q1:Int)∧wx=w1);case first =>
  go_wp2
  go_loop [15,16] (fun q r=>∃ q' r':Nat,q=.int .u64 q'∧r=.int .u64 r'∧Est 4294967296 u n1 y1 y0 q' r'∧r'<4294967296) (fun q _=>(intOf q).toNat)
  case atStart=>exact⟨qs,rs,rfl,rfl,by rw[HQ.out,HR.out];exact est_start bn1 by2 by0 HBU.out,by rw[HR.out];exact Nat.lt_of_lt_of_le (Nat.mod_lt _ (by omega)) (by omega)⟩
  case round =>
   obtain⟨q,r,rfl,rfl,hE,hr⟩:=hrel;obtain⟨a,ha⟩:∃ a,a=q * y0:=⟨_,rfl⟩;have hem:IntKind.u64.wrap ((q:Int) * (y0:Int))=(a:Int):=by rw[ha];exact est_mul hE.le by0
   have HA:=Hq ha;have hql:q≤4294967297:=hE.le;have HE:=Hq hE;clear ha hE;have HRR:=Hq hr;have HQL:=Hq hql;have HB1:=Hq by1;have HB2:=Hq by2;have HB0:=Hq by0;have HN:=Hq bn1;have hr':(r:Int)<4294967296:=by omega
   have hq':(q:Int)≤4294967297:=by omega
   have hy1':(y1:Int)<4294967296:=by omega
   have hn':(n1:Int)<4294967296:=by omega
   clear hr hql by1 by2 by0 bn1 bn0 hny;by_cases ht:(4294967296:Int)≤(q:Int)∨(4294967296:Int) * (r:Int)+(n1:Int)<(a:Int)
   · obtain⟨h1,hE'⟩:=est_less HE.out HN.out HBU.out (by rw[←HA.out];omega);have HE':=Hq hE';have h1':(1:Int)≤(q:Int):=by omega
     clear hE';by_cases hb:(4294967296:Int)≤(r:Int)+(y1:Int)
     · have HF:=Hq (est_break HE'.out HPY.out HB0.out (by omega) (by omega));by_cases h2:(4294967296:Int)≤(q:Int)
       · clear ht;go_wp2;go_meet;exact⟨by rw[HQQ.out,←HF.out];go_num,rfl⟩
       · have ht2:(4294967296:Int) * (r:Int)+(n1:Int)<(a:Int):=by omega
         clear ht;go_wp2;go_meet;exact⟨by rw[HQQ.out,←HF.out];go_num,rfl⟩
     · by_cases h2:(4294967296:Int)≤(q:Int)
       · clear ht;go_wp2;go_round;case rel=>exact⟨q - 1,r+y1,by go_num,by go_num,HE'.out,by omega⟩
         case measure=>simp[intOf];omega
       · have ht2:(4294967296:Int) * (r:Int)+(n1:Int)<(a:Int):=by omega
         clear ht;go_wp2;go_round;case rel=>exact⟨q - 1,r+y1,by go_num,by go_num,HE'.out,by omega⟩
         case measure=>simp[intOf];omega
   · have h1:¬ ((4294967296:Int)≤(q:Int)):=by omega
     have h2:¬ ((4294967296:Int) * (r:Int)+(n1:Int)<(a:Int)):=by omega
     have HF:=Hq (est_done HE.out HPY.out (by rw[←HA.out];omega));clear ht;go_wp2;go_meet;exact⟨by rw[HQQ.out,←HF.out],rfl⟩
 case rest =>
  obtain⟨rfl,rfl⟩:=hcut;have hY8:Y<18446744073709551616:=by have:=HD.out.bY;omega
  have hY0:0<Y:=by have:=HD.out.bY;omega
  have er1:IntKind.u64.wrap (IntKind.u64.wrap (IntKind.u64.wrap ((u:Int) * 4294967296)+(n1:Int)) - IntKind.u64.wrap ((Q1:Int) * (Y:Int)))=(U21:Int):=by rw[HD.out.hU21];exact rest_word HD.out.hQ1 hY8 hY0
  have er2:IntKind.u64.wrap (IntKind.u64.wrap (IntKind.u64.wrap ((U21:Int) * 4294967296)+(n0:Int)) - IntKind.u64.wrap ((Q0:Int) * (Y:Int)))=(R:Int):=by rw[HD.out.hR];exact rest_word HD.out.hQ0 hY8 hY0
  have hUY:U21<Y:=by rw[HD.out.hU21];exact Nat.mod_lt _ hY0
  obtain⟨qs,ps,rs,k1,k2,k3,hq,hr⟩:=start_word (Nat.lt_trans hUY hY8) (show 0<y1 by omega);have HQ:=Hq hq;have HR:=Hq hr;have HBU:=Hq (show U21<y1 * 4294967296+y0 from by rw[←HD.out.bY];exact hUY);have hq1:Q1<4294967296:=by rw[HQQ.out];exact est_digit bn1 (by rw[←HD.out.bY];exact HD.out.bu)
  have HQQ:=Hq (show Q0=(U21 * 4294967296+n0) / (y1 * 4294967296+y0)from by rw[←HD.out.bY];exact HD.out.hQ0);have hq0:Q0<4294967296:=by rw[HQQ.out];exact est_digit bn0 HBU.out
  have hq1':(Q1:Int)<4294967296:=by omega
  have hq0':(Q0:Int)<4294967296:=by omega
  have hU0:(0:Int)≤(U21:Int):=by omega
  have e9':=HD.out.e9';clear hq hr hY8 hUY hq1 hq0 g1 g2 g3 hu8;go_upto_block 2 with(fail)
  go_cut [18] (fun q wx=>q=.int .u64 (Q0:Int)∧wx=wc);case first =>
   go_wp2
   go_loop [18,16] (fun q r=>∃ q' r':Nat,q=.int .u64 q'∧r=.int .u64 r'∧Est 4294967296 U21 n0 y1 y0 q' r'∧r'<4294967296) (fun q _=>(intOf q).toNat)
   case atStart=>exact⟨qs,rs,rfl,rfl,by rw[HQ.out,HR.out];exact est_start bn0 by2 by0 HBU.out,by rw[HR.out];exact Nat.lt_of_lt_of_le (Nat.mod_lt _ (by omega)) (by omega)⟩
   case round =>
    obtain⟨q,r,rfl,rfl,hE,hr⟩:=hrel;obtain⟨a,ha⟩:∃ a,a=q * y0:=⟨_,rfl⟩;have hem:IntKind.u64.wrap ((q:Int) * (y0:Int))=(a:Int):=by rw[ha];exact est_mul hE.le by0
    have HA:=Hq ha;have hql:q≤4294967297:=hE.le;have HE:=Hq hE;clear ha hE;have HRR:=Hq hr;have HQL:=Hq hql;have HB1:=Hq by1;have HB2:=Hq by2;have HB0:=Hq by0;have HN:=Hq bn0;have hr':(r:Int)<4294967296:=by omega
    have hq':(q:Int)≤4294967297:=by omega
    have hy1':(y1:Int)<4294967296:=by omega
    have hn':(n0:Int)<4294967296:=by omega
    clear hr hql by1 by2 by0 bn1 bn0 hny;by_cases ht:(4294967296:Int)≤(q:Int)∨(4294967296:Int) * (r:Int)+(n0:Int)<(a:Int)
    · obtain⟨h1,hE'⟩:=est_less HE.out HN.out HBU.out (by rw[←HA.out];omega);have HE':=Hq hE';have h1':(1:Int)≤(q:Int):=by omega
      clear hE';by_cases hb:(4294967296:Int)≤(r:Int)+(y1:Int)
      · have HF:=Hq (est_break HE'.out HPY.out HB0.out (by omega) (by omega));by_cases h2:(4294967296:Int)≤(q:Int)
        · clear ht;go_wp2;go_meet;exact⟨by rw[HQQ.out,←HF.out];go_num,rfl⟩
        · have ht2:(4294967296:Int) * (r:Int)+(n0:Int)<(a:Int):=by omega
          clear ht;go_wp2;go_meet;exact⟨by rw[HQQ.out,←HF.out];go_num,rfl⟩
      · by_cases h2:(4294967296:Int)≤(q:Int)
        · clear ht;go_wp2;go_round;case rel=>exact⟨q - 1,r+y1,by go_num,by go_num,HE'.out,by omega⟩
          case measure=>simp[intOf];omega
        · have ht2:(4294967296:Int) * (r:Int)+(n0:Int)<(a:Int):=by omega
          clear ht;go_wp2;go_round;case rel=>exact⟨q - 1,r+y1,by go_num,by go_num,HE'.out,by omega⟩
          case measure=>simp[intOf];omega
    · have h1:¬ ((4294967296:Int)≤(q:Int)):=by omega
      have h2:¬ ((4294967296:Int) * (r:Int)+(n0:Int)<(a:Int)):=by omega
      have HF:=Hq (est_done HE.out HPY.out (by rw[←HA.out];omega));clear ht;go_wp2;go_meet;exact⟨by rw[HQQ.out,←HF.out],rfl⟩
  case rest =>
   obtain⟨rfl,rfl⟩:=hcut;go_wp2;go_ret2;exact⟨rfl,rfl⟩
theorem bitLen_spec:∀(f x:Nat),x<2 ^ f→0<x→∃ L,Lib.bitLenAux f x=L+1∧2 ^ L≤x∧x<2 ^ (L+1)∧L<f
 | 0,x,h,h0=>by simp at h;omega
 | f+1,x,h,h0=>by
  unfold Lib.bitLenAux;rw[if_neg (by omega)];by_cases h1:x / 2=0
  · have : x=1:=by omega
    subst this;refine⟨0,?_,by simp,by simp,by omega⟩;rw[h1];cases f<;>simp[Lib.bitLenAux]
  · obtain⟨L,h2,h3,h4,h5⟩:=bitLen_spec f (x / 2) (by rw[Nat.pow_succ]at h;omega) (by omega);refine⟨L+1,by rw[h2];omega,?_,?_,by omega⟩
    · rw[Nat.pow_succ];omega
    · rw[Nat.pow_succ];omega
theorem u64_or_join{s H l:Nat}(hH:H%2 ^ s=0)(hl:l<2 ^ s)(h1:H<18446744073709551616)(h2:l<18446744073709551616):bits .or .u64 (H:Int) (l:Int)=((H+l:Nat):Int):=by
 rw[u64_or_nat _ _ h1 h2,nat_join s H l hH hl]
theorem u64_low{L:Nat}(h:L<18446744073709551616):bits .and .u64 (L:Int) 4294967295=((L%4294967296:Nat):Int):=by
 have h2:=u64_and_nat L 4294967295 h (by omega);rw[show L &&& 4294967295=L%4294967296 from Nat.and_two_pow_sub_one_eq_mod L 32]at h2;exact h2
theorem scaled{hi lo P Q:Nat}(hPQ:P * Q=18446744073709551616)(hQ:0<Q)(hP:0<P):hi * P * 18446744073709551616+lo / Q * 18446744073709551616+lo * P%18446744073709551616=(hi * 18446744073709551616+lo) * P:=by
 have h1:lo * P / 18446744073709551616=lo / Q:=(by rw[←hPQ,Nat.mul_comm P Q,Nat.mul_div_mul_right _ _ hP]);have h2:=Nat.div_add_mod (lo * P) 18446744073709551616;rw[h1]at h2;rw[Nat.add_mul,Nat.mul_right_comm hi 18446744073709551616 P];omega
theorem divW_of(hi lo y L s:Nat)(h1:2 ^ L≤y)(h2:y<2 ^ (L+1))(hs:L+s=63)(hlo:lo<18446744073709551616)(hh:hi<y) :
 ∃ Y y1 y0 H u LL n1 n0 Q1 U21 Q0 R,DivW hi lo y s Y y1 y0 H u LL n1 n0 Q1 U21 Q0 R ((hi * 18446744073709551616+lo)%y):=by
 obtain⟨P,hP⟩:∃ P,P=2 ^ s:=⟨_,rfl⟩;obtain⟨Q,hQ⟩:∃ Q,Q=2 ^ (64 - s):=⟨_,rfl⟩;have hP0:0<P:=by rw[hP];exact Nat.two_pow_pos s
 have hQ0:0<Q:=by rw[hQ];exact Nat.two_pow_pos _
 have hPQ:P * Q=18446744073709551616:=by rw[hP,hQ,←Nat.pow_add,show s+(64 - s)=64 from by omega]
 have hY1:9223372036854775808≤y * P:=(by have:=Nat.mul_le_mul_right P h1;rw[hP,←Nat.pow_add,hs]at this;rw[hP];exact this);have hY2:y * P<18446744073709551616:=(by have:=Nat.mul_lt_mul_of_pos_right h2 hP0;rw[hP,←Nat.pow_add,show L+1+s=64 from by omega]at this;rw[hP];exact this);have hH:hi * P<y * P:=Nat.mul_lt_mul_of_pos_right hh hP0;have hl:lo / Q<P:=(by rw[Nat.div_lt_iff_lt_mul hQ0];omega);have hHP:hi * P+P≤y * P:=by rw[←Nat.succ_mul];exact Nat.mul_le_mul_right _ hh
 have hscal:=scaled (hi:=hi) (lo:=lo) hPQ hQ0 hP0;have hdl:lo / Q≤lo:=Nat.div_le_self _ _;have ePi:((2:Int) ^ s)=(P:Int):=by rw[hP];simp
 have eQi:((2:Int) ^ (64 - s))=(Q:Int):=by rw[hQ];simp
 have hrem:=scaled_rem (hi * 18446744073709551616+lo) y s;rw[←hP]at hrem;generalize hYY:y * P=Y at *;generalize hHH:hi * P=H at *;have hLL:lo * P%18446744073709551616<18446744073709551616:=Nat.mod_lt _ (by decide);generalize hL2:lo * P%18446744073709551616=LL at *;generalize hd:lo / Q=d at *;generalize hN:(hi * 18446744073709551616+lo) * P=N at *;have hfin:((H+d) * 4294967296+LL / 4294967296) * 4294967296+LL%4294967296=N:=(by have e1:=Nat.div_add_mod LL 4294967296;rw[Nat.add_mul,Nat.mul_assoc,Nat.add_assoc,Nat.mul_comm (LL / 4294967296),e1,←hscal,Nat.add_mul]);refine⟨Y,Y / 4294967296,Y%4294967296,H,H+d,LL,LL / 4294967296,LL%4294967296,((H+d) * 4294967296+LL / 4294967296) / Y,((H+d) * 4294967296+LL / 4294967296)%Y,
  (((H+d) * 4294967296+LL / 4294967296)%Y * 4294967296+LL%4294967296) / Y,(((H+d) * 4294967296+LL / 4294967296)%Y * 4294967296+LL%4294967296)%Y,?_⟩
 refine { eY:=?_,e9:=by omega,e10:=u64_low hY2,eH:=?_,e11:=?_,e12:=?_,e13:=by omega,e14:=u64_low hLL,by1:=by omega,by2:=by omega,by0:=Nat.mod_lt _ (by omega),bn1:=by omega,bn0:=Nat.mod_lt _ (by omega),bY:=by omega,bu:=by omega,hQ1:=rfl,hU21:=rfl,hQ0:=rfl,hR:=rfl,e9':=?_ }
 · rw[ePi,show (y:Int) * (P:Int)=((y * P:Nat):Int)from by simp,hYY];exact u64_wrap _ hY2
 · rw[ePi,show (hi:Int) * (P:Int)=((hi * P:Nat):Int)from by simp,hHH];exact u64_wrap _ (by omega)
 · rw[eQi,show (lo:Int) / (Q:Int)=((lo / Q:Nat):Int)from by simp,hd];exact u64_or_join (s:=s) (by rw[←hHH,hP,Nat.mul_mod_left]) (by rw[←hP];exact hl) (by omega) (by omega)
 · rw[ePi,show (lo:Int) * (P:Int)=((lo * P:Nat):Int)from by simp,wrapU];rw[←hL2];simp
 · rw[two_digits,hfin,ePi];refine(Int.natCast_ediv _ _).symm.trans ?_;rw[hrem]
theorem rq_quiet{v:Value}{w:World}{f:FuncId}{args:Array Value}(h:Calls Tryz.prog f args w (RetQ v w)):Calls Tryz.prog f args w (Ret v w):=h.mono fun e w' ⟨h1,h2⟩=>⟨h1,by rw[←h2];exact Below.refl _ _⟩
def RetR(hi lo y:Nat)(w:World)(e:Ending)(w':World):Prop:=∃ q:Nat,e=.returned (.tuple #[.int .u64 q,.int .u64 (((hi * 18446744073709551616+lo)%y:Nat):Int)])∧Below w.heap.size w w'
theorem bits_Div64_zero(lo y:Nat)(hy8:y<18446744073709551616)(hlo:lo<18446744073709551616)(hh:0<y)(w:World) :
 Calls Tryz.prog 131 #[.int .u64 0,.int .u64 lo,.int .u64 y] w (Ret (.tuple #[.int .u64 ((lo / y:Nat):Int),.int .u64 ((lo%y:Nat):Int)]) w):=by
 have hy1:((y:Int)==0)=false:=beq_eq_false_iff_ne.2 (by omega);have hy3:¬ (y=0):=by omega
 have hy2:(0:Int)<(y:Int):=by omega
 have hq8:lo / y<18446744073709551616:=Nat.lt_of_le_of_lt (Nat.div_le_self lo y) hlo;have hr8:lo%y<18446744073709551616:=Nat.lt_trans (Nat.mod_lt lo hh) hy8;have hwq:IntKind.u64.wrap ((lo:Int) / (y:Int))=(lo:Int) / (y:Int):=u64_wrap (lo / y) hq8;have hwr:IntKind.u64.wrap ((lo:Int)%(y:Int))=(lo:Int)%(y:Int):=u64_wrap (lo%y) hr8;clear hq8 hr8 hy8 hlo;go_enter Tryz.func131,Tryz.ntmps131;go_wp2
 go_quiet (fail)
 go_wp2;go_ret2;exact⟨rfl,below_dN blr _⟩
theorem bits_Div64(hi lo y:Nat)(hy8:y<18446744073709551616)(hlo:lo<18446744073709551616)(hh:hi<y)(w:World) :
 Calls Tryz.prog 131 #[.int .u64 hi,.int .u64 lo,.int .u64 y] w (RetR hi lo y w):=by
 rcases Nat.eq_zero_or_pos hi with h0 | h0
 · subst h0;refine(bits_Div64_zero lo y hy8 hlo hh w).mono fun e w' ⟨h1,h2⟩=>⟨lo / y,?_,h2⟩;rw[h1,Nat.zero_mul,Nat.zero_add]
 · obtain⟨L,h1,h2,h3,h4⟩:=bitLen_spec 64 y hy8 (by omega);obtain⟨Y,y1,y0,H,u,LL,n1,n0,Q1,U21,Q0,R,hd⟩:=divW_of hi lo y L (63 - L) h2 h3 (by omega) hlo hh;have hs:64 - (Lib.bitLen y:Int)=((63 - L:Nat):Int):=(by unfold Lib.bitLen;rw[h1];omega);refine(div64_core hi lo y (63 - L) Y y1 y0 H u LL n1 n0 Q1 U21 Q0 R _ hd hs (by omega) hy8 hlo hh h0 w).mono fun e w' ⟨h1,h2⟩=>⟨_,h1,?_⟩;rw[←h2];exact Below.refl _ _
theorem bits_Rem64(hi lo y:Nat)(hi8:hi<18446744073709551616)(hy8:y<18446744073709551616)(hlo:lo<18446744073709551616)(hy:0<y)(w:World) :
 Calls Tryz.prog 114 #[.int .u64 hi,.int .u64 lo,.int .u64 y] w (Ret (.int .u64 (((hi * 18446744073709551616+lo)%y:Nat):Int)) w):=by
 have hy1:((y:Int)==0)=false:=beq_eq_false_iff_ne.2 (by omega);have hy3:¬ (y=0):=by omega
 have hy2:(0:Int)<(y:Int):=by omega
 have hr8:hi%y<18446744073709551616:=Nat.lt_trans (Nat.mod_lt hi hy) hy8;have hwr:IntKind.u64.wrap ((hi:Int)%(y:Int))=(hi:Int)%(y:Int):=u64_wrap (hi%y) hr8;have HD:=Hq (bits_Div64 (hi%y) lo y hy8 hlo (Nat.mod_lt hi hy));have HE:=Hq (show (hi%y * 18446744073709551616+lo)%y=(hi * 18446744073709551616+lo)%y from by rw[Nat.add_mod,Nat.mod_mul_mod,←Nat.add_mod]);clear hr8 hy8 hlo hi8;go_enter Tryz.func114,Tryz.ntmps114;go_wp2_with fail;refine(HD.out _).mono ?_;rintro e w1 ⟨q,rfl,hb⟩;have HB:=Hq hb;rw[HE.out];obtain⟨r,hr⟩:=nm ((hi * 18446744073709551616+lo)%y);rw[hr];have HRR:=Hq hr;clear hb hr;go_wp2;go_ret;exact⟨by rw[HRR.out];rfl,HB.out⟩
set_option maxRecDepth 100000
def blen(n:Nat):Nat:=if n=0 then 0 else n.log2+1
theorem blen_of{n k:Nat}(h1:2 ^ k≤n)(h2:n<2 ^ (k+1)):blen n=k+1:=by
 have h0:n≠0:=by have:=Nat.two_pow_pos k;omega
 unfold blen;rw[if_neg h0];have h3:=(Nat.le_log2 h0).2 h1;have h4:=(Nat.log2_lt h0).2 h2;omega
theorem blen_lt(n:Nat):n<2 ^ blen n:=by
 unfold blen;by_cases h0:n=0
 · rw[if_pos h0,h0];simp
 · rw[if_neg h0];exact Nat.lt_log2_self
theorem blen_le{n:Nat}(h:0<n):2 ^ (blen n - 1)≤n:=by
 unfold blen;rw[if_neg (by omega),Nat.add_sub_cancel];exact Nat.log2_self_le (by omega)
def bitB(n i:Nat):Bool:=n / 2 ^ i%2==1
theorem bit_dig(n i:Nat):dig n (i / 8) / 2 ^ (i%8)%2=n / 2 ^ i%2:=by
 have e:n / 2 ^ i=n / 256 ^ (i / 8) / 2 ^ (i%8):=(by rw[show (256:Nat) ^ (i / 8)=2 ^ (8 * (i / 8))from by rw[Nat.pow_mul],Nat.div_div_eq_div_mul,←Nat.pow_add,show 8 * (i / 8)+i%8=i from by omega]);rw[e];unfold dig;generalize n / 256 ^ (i / 8)=d;have h:i%8<8:=by omega
 generalize i%8=r at *
 match r,h with
 | 0,_=>simp
 | 1,_=>omega
 | 2,_=>omega
 | 3,_=>omega
 | 4,_=>omega
 | 5,_=>omega
 | 6,_=>omega
 | 7,_=>omega
theorem blen_first{n:Nat}(h0:0<n):∃ x l,encN n=x::l∧0<x.toNat∧blen n=8 * l.length+blen x.toNat:=by
 cases hl:encN n with
 | nil=>exact absurd (encN_eq_nil.1 hl) (by omega)
 | cons x l =>
  have hc:=canon_encN n;rw[hl]at hc;have hx:x≠0:=canon_cons.1 hc;have hx0:0<x.toNat:=by
   rcases Nat.eq_zero_or_pos x.toNat with h | h
   · exact absurd (UInt8.toNat_inj.1 (by simpa using h)) hx
   · exact h
  refine⟨x,l,rfl,hx0,?_⟩;have hb:n=x.toNat * 256 ^ l.length+bnat l:=by rw[←bnat_cons,←hl,bnat_encN]
  have hlt:=bnat_lt l;have h1:=blen_lt x.toNat;have h2:=blen_le hx0;have hb1:1≤blen x.toNat:=by unfold blen;rw[if_neg (by omega)];omega
  obtain⟨k,hk⟩:∃ k,blen x.toNat=k+1:=⟨blen x.toNat - 1,by omega⟩;rw[hk]at h1 h2⊢;rw[Nat.add_sub_cancel]at h2;have e256:(256:Nat) ^ l.length=2 ^ (8 * l.length):=by rw[Nat.pow_mul]
  have:=blen_of (n:=n) (k:=8 * l.length+k) (by
   rw[Nat.pow_add,←e256,Nat.mul_comm];have:=Nat.mul_le_mul_right (256 ^ l.length) h2
   omega) (by
   rw[show 8 * l.length+k+1=8 * l.length+(k+1)from by omega,Nat.pow_add,←e256,Nat.mul_comm];have:=Nat.mul_le_mul_right (256 ^ l.length) (show x.toNat+1≤2 ^ (k+1)from h1);rw[Nat.succ_mul]at this
   omega)
  omega
theorem bitLen_blen{x:Nat}(h:x<256):Lib.bitLen x=blen x:=by
 rcases Nat.eq_zero_or_pos x with h0 | h0
 · subst h0;simp[blen,Lib.bitLen,Lib.bitLenAux]
 · obtain⟨L,h1,h2,h3,_⟩:=bitLen_spec 64 x (Nat.lt_of_lt_of_le h (by decide)) h0;unfold Lib.bitLen;rw[h1,blen_of h2 h3]
theorem nS_first{n:Nat}(h0:0<n):∃(h:0<(nS n).size),0<((nS n)[0]).toNat∧((nS n)[0]).toNat<256∧blen n=8 * ((nS n).size - 1)+blen ((nS n)[0]).toNat:=by
 obtain⟨x,l,hl,hx,hb⟩:=blen_first h0;have hs:(nS n).size=l.length+1:=by rw[nS_size,hl];rfl
 refine⟨by omega,?_⟩;have e:(nS n)[0]'(by omega)=x:=by
  have : (nS n)[0]'(by omega)=((nS n).data.toList)[0]'(by rw[data_len];omega):=rfl;rw[this];simp only[nS_data,hl,List.getElem_cons_zero]
 rw[e,hs,Nat.add_sub_cancel];exact⟨hx,by have:=x.toNat_lt;omega,hb⟩
theorem nat_Bits_core(s:ByteArray)(h:0<s.size)(hv:nvalid s=true)(b:Nat)(hb:(s[0]).toNat=b)(hb2:b<256)(w:World):Calls Tryz.prog 49 #[.string s] w (RetQ (.int .i64 ((8 * (s.size - 1)+blen b:Nat):Int)) w):=by
 have hs128:s.size≤128:=by unfold nvalid at hv;simp at hv;exact hv.1
 have hem:=sempty_false h;have HV:=Hq hv;have HB:=Hq hb;have HL:=Hq (bitLen_blen hb2);have hbl:blen b≤8:=by
  have h1:=blen_lt b;unfold blen;split
  · omega
  · have:=(Nat.log2_lt (n:=b) (k:=8) (by assumption)).2 (by omega);omega
 obtain⟨z,hz⟩:∃ z,s.size=z+1:=⟨s.size - 1,by omega⟩;have HZ:=Hq hz;clear hv hb;go_enter Tryz.func49,Tryz.ntmps49;go_wp2_with fail;refine(nat_Valid s (by omega) _).mono ?_;rintro e w1 ⟨rfl,rfl⟩;rw[HV.out];clear hz;go_wp2_with fail;rw[HB.out];refine(Tryz.bits_Len8 (b:Int) _ (by omega) (by omega)).mono ?_;rintro e w1 ⟨rfl,rfl⟩;rw[Int.toNat_natCast,HL.out];go_wp2;go_ret;exact⟨ret_int (by have:=HZ.out;omega),rfl⟩
theorem nat_Bits(n:Nat)(hn:n<256 ^ 128)(w:World):Calls Tryz.prog 49 #[.string (nS n)] w (RetQ (.int .i64 (blen n)) w):=by
 rcases Nat.eq_zero_or_pos n with h0 | h0
 · subst h0;have HV:=Hq (show nvalid ⟨#[]⟩=true from rfl);rw[nS_zero];go_enter Tryz.func49,Tryz.ntmps49;go_wp2_with fail;refine(nat_Valid ⟨#[]⟩ (by decide) _).mono ?_;rintro e w1 ⟨rfl,rfl⟩;rw[HV.out];go_wp2;go_ret;exact⟨rfl,rfl⟩
 · obtain⟨h,h1,h2,h3⟩:=nS_first h0;rw[h3];exact nat_Bits_core (nS n) h (nvalid_nS.2 hn) _ rfl h2 w
theorem band1{x:Nat}(h:x<256):bits .and .i64 (x:Int) 1=((x%2:Nat):Int):=by
 have:=bits_mask .i64 62 (by decide) (fun n h1 h2=>by rw[IntKind.wrap_i64];omega) 1 (by omega) (x:Int) (by omega) (by omega);simpa using this
theorem nat_Bit(n i:Nat)(hn:n<256 ^ 128)(hi:i<100000)(w:World):Calls Tryz.prog 52 #[.string (nS n),.int .i64 i] w (RetQ (.bool (bitB n i)) w):=by
 have hs1:=nS_size_le.2 hn;have HV:=Hq (nvalid_nS.2 hn);have HD:=Hq (nat_digit n (i / 8) (by omega));have hi0:(0:Int)≤(i:Int):=by omega
 by_cases hlt:i / 8<(nS n).size
 · have hlt2:(i:Int) / 8<((nS n).size:Int):=by omega
   have hd:=dig_lt n (i / 8);have HBD:=Hq (bit_dig n i);obtain⟨d,hde⟩:=nm (dig n (i / 8));rw[hde]at hd HBD HD;obtain⟨s,hs⟩:=nm (nS n);rw[hs]at hs1 HV HD hlt2⊢;have HF:=Hq (show bitB n i=(((d / 2 ^ (i%8)%2:Nat):Int)==1)from by
    unfold bitB;rw[←HBD.out,Bool.eq_iff_iff];simp only[beq_iff_eq]
    omega)
   have HA:=Hq (show bits .and .i64 ((d:Int) / 2 ^ (i%8)) 1=((d / 2 ^ (i%8)%2:Nat):Int)from by
    rw[←band1 (x:=d / 2 ^ (i%8)) (Nat.lt_of_le_of_lt (Nat.div_le_self _ _) hd)]
    simp)
   clear hs hde hn hlt;go_enter Tryz.func52,Tryz.ntmps52;go_wp2_with fail;refine(nat_Valid s (by omega) _).mono ?_;rintro e w1 ⟨rfl,rfl⟩;rw[HV.out];go_wp2_with fail;refine(HD.out _).mono ?_;rintro e w1 ⟨rfl,rfl⟩;go_wp2;rw[HA.out];go_ret;exact⟨by rw[HF.out];rfl,rfl⟩
 · have hlt2:¬ ((i:Int) / 8<((nS n).size:Int)):=by omega
   have HZ:=Hq (show bitB n i=false from by
    unfold bitB;rw[←bit_dig,dig_beyond (by rw[←nS_size];omega)]
    simp)
   obtain⟨s,hs⟩:=nm (nS n);rw[hs]at hs1 HV HD hlt2⊢;clear hs hn hlt;go_enter Tryz.func52,Tryz.ntmps52;go_wp2_with fail;refine(nat_Valid s (by omega) _).mono ?_;rintro e w1 ⟨rfl,rfl⟩;rw[HV.out];go_wp2;go_ret;exact⟨by rw[HZ.out];rfl,rfl⟩
theorem blen_le8{n k:Nat}(hn:n<256 ^ k):blen n≤8 * k:=by
 rcases Nat.eq_zero_or_pos n with e | e
 · rw[e];exact Nat.zero_le _
 · have h1:=blen_le e;rcases Nat.lt_or_ge (8 * k) (blen n)with h | h
   · have h2:(2:Nat) ^ (8 * k)≤2 ^ (blen n - 1):=Nat.pow_le_pow_right (by decide) (by omega);rw[Nat.pow_mul,show (2:Nat) ^ 8=256 from rfl]at h2;omega
   · exact h
def onlyN(K:Act→World→Prop):Exit→Act→World→Prop
 | .normal,a,w=>K a w
 | _,_,_=>False
theorem wp_onlyN{P:Program}{c:Code}{K:Act→World→Prop}{Q:Exit→Act→World→Prop}{a:Act}{w:World}(h:c.wp P (onlyN K) a w):c.wp P (Exit.then K Q) a w:=
 wp_mono h (fun e a w hh=>by
  cases e<;>first | exact hh | exact hh.elim)
theorem name_world{K:Act→World→Prop}{Q:Exit→Act→World→Prop}{a:Act}{w:World}(h:∀ W,W=w→EndK K Q .normal a W):EndK K Q .normal a w:=h w rfl
section
variable {P : Program} {ops : Array Oper} {Q : Exit → Act → World → Prop} {md : Region.Mode} {S : World → Prop} {k : Nat}
def GhostK(P:Program)(md:Region.Mode)(ops:Array Oper)(Q:Exit→Act→World→Prop)(k:Nat)(S:World→Prop)(i:Nat)(d:Tmp)(fuel:Nat)(listed:Array Bool)(a:Act)(I:Bool→Value→World→Prop):Prop:=
 (∀ x w,I true x w→wpAnyK P md ops Q k S fuel (listed.setIfInBounds i true) (a.put (some d) x) w)∧(∀ w,I false undef w→wpAnyK P md ops Q k S (fuel+1) listed a w)
theorem ghost_step{i j:Nat}{oi oj:Oper}{d dj:Tmp}{fuel:Nat}{listed:Array Bool}{a:Act}{I:Bool→Value→World→Prop}{β:Type}(val:β→Value)(I':β→Bool→Value→World→Prop)
 (hr:Region.ready md ops listed=[j,i]) (hr':Region.ready md ops (listed.setIfInBounds i true)=[j]) (hi:ops[i]? =some oi) (hj:ops[j]? =some oj) (hD:Down md ops listed)
 (ha:a.put (some d) undef=a) (hdd:d≠dj) (hS':∀ v b x w,I' v b x w→S w) (hS:∀ b x w,I b x w→S w)
 (halloc:∀ w,I false undef w→∀ K:Act→World→Prop,(∀ x w',I true x w'→K (a.put (some d) x) w')→wpList P ops (EndK K Q) [oi] a w)
 (hstep:∀ b x w,I b x w→∀ K:Act→World→Prop,(∀ v w',I' v b x w'→K ((a.put (some d) x).put (some dj) (val v)) w')→wpList P ops (EndK K Q) [oj] (a.put (some d) x) w)
 (hnext:∀ v,Down md ops (listed.setIfInBounds j true)→GhostK P md ops Q k S i d fuel (listed.setIfInBounds j true) (a.put (some dj) (val v)) (I' v)) :
 GhostK P md ops Q k S i d (fuel+1) listed a I:=by
 have hmi:i∈Region.ready md ops listed:=by rw[hr];simp
 have hmj:j∈Region.ready md ops listed:=by rw[hr];simp
 have hDj:=hD.set hmj;have hji:i≠j:=fun e=>by
  have:=(mem_ready.1 (show j∈Region.ready md ops (listed.setIfInBounds i true)by rw[hr'];simp)).1;subst e;have h2:=(mem_ready.1 hmi).1;have h3:=getD_set_self h2;rw[Array.getD_eq_getD_getElem?]at this h3
  cases e:(listed.setIfInBounds i true)[i]? with
  | none=>rw[e]at h3;cases h3
  | some b=>rw[e]at this h3;cases b<;>cases this<;>cases h3
 have hcomm:∀ x v,(a.put (some d) x).put (some dj) v=(a.put (some dj) v).put (some d) x:=fun x v=>Act.put_comm a x v (fun d' h h'=>by cases h;cases h';exact hdd rfl);have htrue:∀ x w,I true x w→wpAnyK P md ops Q k S (fuel+1) (listed.setIfInBounds i true) (a.put (some d) x) w:=fun x w h=>by
  refine wpAnyK_one hr' hj (hD.set hmi) (fun K hK=>hstep true x w h K fun v w' h'=>hK _ w' (hS' _ _ _ _ h') fun _ _=>?_);rw[hcomm,Array.setIfInBounds_comm _ _ hji];exact(hnext v hDj).1 x w' h'
 refine⟨htrue,fun w h=>?_⟩;refine wpAnyK_two hr hj hi hD (fun K hK=>?_) (fun K hK=>?_)
 · have h1:=hstep false undef w h K fun v w' h'=>by
    rw[hcomm];have e:(a.put (some dj) (val v)).put (some d) undef=a.put (some dj) (val v):=by rw[←hcomm,ha]
    rw[e];exact hK _ w' (hS' _ _ _ _ h') fun _ _=>(hnext v hDj).2 w' h'
   rw[ha]at h1;exact h1
 · exact halloc w h K fun x w' h'=>hK _ w' (hS _ _ _ h') fun _ _=>htrue x w' h'
theorem ghost_end{i:Nat}{oi:Oper}{d:Tmp}{fuel:Nat}{listed:Array Bool}{a:Act}{I:Bool→Value→World→Prop}
 (hr:Region.ready md ops listed=[i]) (hi:ops[i]? =some oi) (hD:Down md ops listed) (hS:∀ b x w,I b x w→S w)
 (halloc:∀ w,I false undef w→∀ K:Act→World→Prop,(∀ x w',I true x w'→K (a.put (some d) x) w')→wpList P ops (EndK K Q) [oi] a w)
 (hnext:∀ x w,I true x w→Down md ops (listed.setIfInBounds i true)→wpAnyK P md ops Q k S fuel (listed.setIfInBounds i true) (a.put (some d) x) w) :
 GhostK P md ops Q k S i d fuel listed a I:=by
 have hmi:i∈Region.ready md ops listed:=by rw[hr];simp
 refine⟨fun x w h=>hnext x w h (hD.set hmi),fun w h=>?_⟩;exact wpAnyK_one hr hi hD fun K hK=>halloc w h K fun x w' h'=>hK _ w' (hS _ _ _ h') fun _ _=>hnext x w' h' (hD.set hmi)
theorem wpAnyK_takeD{i:Nat}{oi:Oper}{d:Option Tmp}{v:Value}{fuel:Nat}{listed:Array Bool}{a:Act}{w:World}(hi:ops[i]? =some oi)(hd:oi.dst=d)(hst:stepB md ops listed k i=true)(hre:reachB md ops ops.size k i=true)
 (hQ:∀ c a w,Q (.panic c) (a.put d v) w→Q (.panic c) a w) (hD:Down md ops listed) (hS:S w) (hy:YieldsIf P ops S oi v a)
 (h:Down md ops (listed.setIfInBounds i true)→wpAnyK P md ops Q k S fuel (listed.setIfInBounds i true) (a.put d v) w):wpAnyK P md ops Q k S (fuel+1) listed a w:=by
 subst hd;exact wpAnyK_take hi hst hre hQ hD hS hy h
theorem wpAnyK_takeSD{i:Nat}{oi:Oper}{d:Option Tmp}{v:Value}{fuel:Nat}{listed:Array Bool}{a:Act}{w:World}(hi:ops[i]? =some oi)(hd:oi.dst=d)(hst:stepB md ops listed k i=true)(hre:decide (ops.size≤k)=true)
 (hQ:∀ c a w,Q (.panic c) (a.put d v) w→Q (.panic c) a w) (hD:Down md ops listed) (hS:S w) (hy:YieldsIf P ops S oi v a)
 (h:Down md ops (listed.setIfInBounds i true)→wpAnyK P md ops Q k S fuel (listed.setIfInBounds i true) (a.put d v) w):wpAnyK P md ops Q k S (fuel+1) listed a w:=by
 subst hd;exact wpAnyK_takeS hi hst hre hQ hD hS hy h
theorem wpAnyK_pureD{i:Nat}{oi:Oper}{d:Option Tmp}{v:Value}{fuel:Nat}{listed:Array Bool}{a:Act}{w:World}(hi:ops[i]? =some oi)(hd:oi.dst=d)(hst:stepB md ops listed k i=true)
 (hQ:∀ c a w,Q (.panic c) (a.put d v) w→Q (.panic c) a w) (hD:Down md ops listed) (hS:S w) (hy:YieldsIf P ops (fun _=>True) oi v a)
 (h:Down md ops (listed.setIfInBounds i true)→wpAnyK P md ops Q k S fuel (listed.setIfInBounds i true) (a.put d v) w):wpAnyK P md ops Q k S (fuel+1) listed a w:=by
 subst hd;exact wpAnyK_pure hi hst hQ hD hS hy h
theorem wpAnyK_pureTD{i:Nat}{oi:Oper}{d:Option Tmp}{v:Value}{fuel:Nat}{listed:Array Bool}{a:Act}{w:World}(hi:ops[i]? =some oi)(hd:oi.dst=d)(hst:stepB md ops listed k i=true)(hk:listed.getD k false=true)
 (hQ:∀ c a w,Q (.panic c) (a.put d v) w→Q (.panic c) a w) (hD:Down md ops listed) (hy:YieldsIf P ops (fun _=>True) oi v a)
 (h:Down md ops (listed.setIfInBounds i true)→wpAnyK P md ops Q k S fuel (listed.setIfInBounds i true) (a.put d v) w):wpAnyK P md ops Q k S (fuel+1) listed a w:=by
 subst hd;exact wpAnyK_pureT hi hst hk hQ hD hy h
theorem ghost_pure{i j:Nat}{oj:Oper}{d dj:Tmp}{v:Value}{fuel:Nat}{listed:Array Bool}{a:Act}{I:Bool→Value→World→Prop}(hj:ops[j]? =some oj)(hdj:oj.dst=some dj)(hmi:(Region.ready md ops listed).contains i=true)(hst:stepB md ops listed k j=true)(hst':stepB md ops (listed.setIfInBounds i true) k j=true)
 (hQ:∀ c a w,Q (.panic c) (a.put (some dj) v) w→Q (.panic c) a w) (hD:Down md ops listed) (ha:a.put (some d) undef=a) (hdd:d≠dj) (hij:i≠j) (hS:∀ b x w,I b x w→S w) (hy:∀ x,YieldsIf P ops (fun _=>True) oj v (a.put (some d) x))
 (h:Down md ops (listed.setIfInBounds j true)→GhostK P md ops Q k S i d fuel (listed.setIfInBounds j true) (a.put (some dj) v) I):GhostK P md ops Q k S i d (fuel+1) listed a I:=by
 have hmi':i∈Region.ready md ops listed:=by rwa[List.contains_iff_mem]at hmi
 have hD':=hD.set hmi';have hDj:=hD.set (stepB_spec hst).2.2.1;subst_vars;refine⟨fun x w hI=>?_,fun w hI=>?_⟩
 · refine wpAnyK_pureD hj hdj hst' hQ hD' (hS _ _ _ hI) (hy x) fun _=>?_;rw[Act.put_comm a x v (fun d' h h'=>by cases h;cases h';exact hdd rfl),Array.setIfInBounds_comm _ _ hij];exact(h hDj).1 x w hI
 · exact wpAnyK_pureD hj hdj hst hQ hD (hS _ _ _ hI) (by have:=hy undef;rwa[ha]at this) fun _=>(h hDj).2 w hI
end
section
variable {P : Program} {ops : Array Oper} {Q : Exit → Act → World → Prop} {md : Region.Mode} {S : World → Prop} {k : Nat}
theorem qPD{oi:Oper}{v:Value}{listed:Array Bool}{a:Act}{w:World}(i d fuel:Nat)(hS:S w)(h:Down md ops (listed.setIfInBounds i true)→wpAnyK P md ops Q k S fuel (listed.setIfInBounds i true) (a.put (some d) v) w)(hi:ops[i]? =some oi:=by rfl)(hy:∀ w',True→(execOp a.eval oi).run P w'=.ok (.value v) w':=by intro w' _;go_simp;with_reducible rfl)(hd:oi.dst=some d:=by kernel_rfl)(hst:stepB md ops listed k i=true:=by kernel_rfl)(hg:Region.wanted oi (yielded ops a.tmps)=true:=by kernel_rfl)(hQ:∀ c a w,Q (.panic c) (a.put (some d) v) w→Q (.panic c) a w:=by exact fun _ _ _ h=>h):Down md ops listed→wpAnyK P md ops Q k S (fuel+1) listed a w:=fun hD=>wpAnyK_pureD hi hd hst hQ hD hS (.inl ⟨hg,hy⟩) h
theorem qPDs{oi:Oper}{v:Value}{listed:Array Bool}{a a':Act}{w:World}(i d fuel:Nat)(hS:S w)(h:Down md ops (listed.setIfInBounds i true)→wpAnyK P md ops Q k S fuel (listed.setIfInBounds i true) a' w)(hi:ops[i]? =some oi:=by rfl)(hy:∀ w',True→(execOp a.eval oi).run P w'=.ok (.value v) w':=by intro w' _;go_simp;with_reducible rfl)(hd:oi.dst=some d:=by kernel_rfl)(hst:stepB md ops listed k i=true:=by kernel_rfl)(hg:Region.wanted oi (yielded ops a.tmps)=true:=by kernel_rfl)(hQ:∀ c a w,Q (.panic c) (a.put (some d) v) w→Q (.panic c) a w:=by exact fun _ _ _ h=>h)(ha:a.put (some d) v=a':=by simp only[Act.put,sqA,sqB,sqC];rfl):Down md ops listed→wpAnyK P md ops Q k S (fuel+1) listed a w:=by subst ha;exact qPD i d fuel hS h hi hy hd hst hg hQ
theorem qTD{oi:Oper}{v:Value}{listed:Array Bool}{a:Act}{w:World}(i d fuel:Nat)(hS:S w){F:World→Prop}(K:∀ w',S w'→F w')(h:Down md ops (listed.setIfInBounds i true)→wpAnyK P md ops Q k S fuel (listed.setIfInBounds i true) (a.put (some d) v) w)(hi:ops[i]? =some oi:=by rfl)(hd:oi.dst=some d:=by kernel_rfl)(hst:stepB md ops listed k i=true:=by kernel_rfl)(hre:reachB md ops ops.size k i=true:=by kernel_rfl)(hg:Region.wanted oi (yielded ops a.tmps)=true:=by kernel_rfl)(hy:∀ w',F w'→(execOp a.eval oi).run P w'=.ok (.value v) w':=by intro w' hF;go_simp;with_reducible rfl)(hQ:∀ c a w,Q (.panic c) (a.put (some d) v) w→Q (.panic c) a w:=by exact fun _ _ _ h=>h):Down md ops listed→wpAnyK P md ops Q k S (fuel+1) listed a w:=fun hD=>wpAnyK_takeD hi hd hst hre hQ hD hS (.inl ⟨hg,fun w' h'=>hy w' (K w' h')⟩) h
theorem qTDs{oi:Oper}{v:Value}{listed:Array Bool}{a a':Act}{w:World}(i d fuel:Nat)(hS:S w){F:World→Prop}(K:∀ w',S w'→F w')(h:Down md ops (listed.setIfInBounds i true)→wpAnyK P md ops Q k S fuel (listed.setIfInBounds i true) a' w)(hi:ops[i]? =some oi:=by rfl)(hd:oi.dst=some d:=by kernel_rfl)(hst:stepB md ops listed k i=true:=by kernel_rfl)(hre:reachB md ops ops.size k i=true:=by kernel_rfl)(hg:Region.wanted oi (yielded ops a.tmps)=true:=by kernel_rfl)(hy:∀ w',F w'→(execOp a.eval oi).run P w'=.ok (.value v) w':=by intro w' hF;go_simp;with_reducible rfl)(hQ:∀ c a w,Q (.panic c) (a.put (some d) v) w→Q (.panic c) a w:=by exact fun _ _ _ h=>h)(ha:a.put (some d) v=a':=by simp only[Act.put,sqA,sqB,sqC];rfl):Down md ops listed→wpAnyK P md ops Q k S (fuel+1) listed a w:=by subst ha;exact qTD i d fuel hS K h hi hd hst hre hg hy hQ
theorem qSD{oi:Oper}{v:Value}{listed:Array Bool}{a:Act}{w:World}(i d fuel:Nat)(hS:S w){F:World→Prop}(K:∀ w',S w'→F w')(h:Down md ops (listed.setIfInBounds i true)→wpAnyK P md ops Q k S fuel (listed.setIfInBounds i true) (a.put (some d) v) w)(hi:ops[i]? =some oi:=by rfl)(hd:oi.dst=some d:=by kernel_rfl)(hst:stepB md ops listed k i=true:=by kernel_rfl)(hre:decide (ops.size≤k)=true:=by kernel_rfl)(hg:Region.wanted oi (yielded ops a.tmps)=true:=by kernel_rfl)(hy:∀ w',F w'→(execOp a.eval oi).run P w'=.ok (.value v) w':=by intro w' hF;go_simp;with_reducible rfl)(hQ:∀ c a w,Q (.panic c) (a.put (some d) v) w→Q (.panic c) a w:=by exact fun _ _ _ h=>h):Down md ops listed→wpAnyK P md ops Q k S (fuel+1) listed a w:=fun hD=>wpAnyK_takeSD hi hd hst hre hQ hD hS (.inl ⟨hg,fun w' h'=>hy w' (K w' h')⟩) h
theorem qSDs{oi:Oper}{v:Value}{listed:Array Bool}{a a':Act}{w:World}(i d fuel:Nat)(hS:S w){F:World→Prop}(K:∀ w',S w'→F w')(h:Down md ops (listed.setIfInBounds i true)→wpAnyK P md ops Q k S fuel (listed.setIfInBounds i true) a' w)(hi:ops[i]? =some oi:=by rfl)(hd:oi.dst=some d:=by kernel_rfl)(hst:stepB md ops listed k i=true:=by kernel_rfl)(hre:decide (ops.size≤k)=true:=by kernel_rfl)(hg:Region.wanted oi (yielded ops a.tmps)=true:=by kernel_rfl)(hy:∀ w',F w'→(execOp a.eval oi).run P w'=.ok (.value v) w':=by intro w' hF;go_simp;with_reducible rfl)(hQ:∀ c a w,Q (.panic c) (a.put (some d) v) w→Q (.panic c) a w:=by exact fun _ _ _ h=>h)(ha:a.put (some d) v=a':=by simp only[Act.put,sqA,sqB,sqC];rfl):Down md ops listed→wpAnyK P md ops Q k S (fuel+1) listed a w:=by subst ha;exact qSD i d fuel hS K h hi hd hst hre hg hy hQ
end
theorem kC{w w':World}(h:Below w.heap.size w w'){a:Addr}{v:Value}(c:w.cell? a=some v):w'.cell? a=some v:=kc h c
theorem k1{w:World}{a:Addr}{v:Value}(c:w.cell? a=some v):∀ w',Below w.heap.size w w'→w'.cell? a=some v:=fun _ h=>kC h c
theorem k2{w:World}{a b:Addr}{v u:Value}(c:w.cell? a=some v)(d:w.cell? b=some u):∀ w',Below w.heap.size w w'→w'.cell? a=some v∧w'.cell? b=some u:=fun _ h=>⟨kC h c,kC h d⟩
theorem k3{w:World}{a b e:Addr}{v u x:Value}(c:w.cell? a=some v)(d:w.cell? b=some u)(f:w.cell? e=some x):∀ w',Below w.heap.size w w'→w'.cell? a=some v∧w'.cell? b=some u∧w'.cell? e=some x:=fun _ h=>⟨kC h c,kC h d,kC h f⟩
theorem k4{w:World}{a b e g:Addr}{v u x y:Value}(c:w.cell? a=some v)(d:w.cell? b=some u)(f:w.cell? e=some x)(p:w.cell? g=some y):∀ w',Below w.heap.size w w'→w'.cell? a=some v∧w'.cell? b=some u∧w'.cell? e=some x∧w'.cell? g=some y:=fun _ h=>⟨kC h c,kC h d,kC h f,kC h p⟩
section
variable {P : Program} {ops : Array Oper} {Q : Exit → Act → World → Prop} {md : Region.Mode} {S : World → Prop} {k : Nat}
theorem rP{oi:Oper}{v:Value}{listed:Array Bool}{a:Act}{w:World}(i d fuel:Nat)(hS:S w)
 (h:Down md ops (listed.setIfInBounds i true)→wpAnyK P md ops Q k S fuel (listed.setIfInBounds i true) (a.put (some d) v) w)
 (hi:ops[i]? =some oi:=by rfl) (hd:oi.dst=some d:=by kernel_rfl) (hst:stepB md ops listed k i=true:=by kernel_rfl) (hg:Region.wanted oi (yielded ops a.tmps)=true:=by kernel_rfl)
 (hy:∀ w',True→(execOp a.eval oi).run P w'=.ok (.value v) w':=by intro w' _;go_simp;with_reducible rfl)
 (hQ:∀ c a w,Q (.panic c) (a.put (some d) v) w→Q (.panic c) a w:=by exact fun _ _ _ h=>h):Down md ops listed→wpAnyK P md ops Q k S (fuel+1) listed a w:=fun hD=>wpAnyK_pureD hi hd hst hQ hD hS (.inl ⟨hg,hy⟩) h
theorem rPs{oi:Oper}{v:Value}{listed:Array Bool}{a a':Act}{w:World}(i d fuel:Nat)(hS:S w)
 (h:Down md ops (listed.setIfInBounds i true)→wpAnyK P md ops Q k S fuel (listed.setIfInBounds i true) a' w)
 (hi:ops[i]? =some oi:=by rfl) (hd:oi.dst=some d:=by kernel_rfl) (hst:stepB md ops listed k i=true:=by kernel_rfl) (hg:Region.wanted oi (yielded ops a.tmps)=true:=by kernel_rfl)
 (hy:∀ w',True→(execOp a.eval oi).run P w'=.ok (.value v) w':=by intro w' _;go_simp;with_reducible rfl)
 (hQ:∀ c a w,Q (.panic c) (a.put (some d) v) w→Q (.panic c) a w:=by exact fun _ _ _ h=>h) (ha:a.put (some d) v=a':=by simp only[Act.put,sqA,sqB,sqC];rfl):Down md ops listed→wpAnyK P md ops Q k S (fuel+1) listed a w:=by subst ha;exact rP i d fuel hS h hi hd hst hg hy hQ
theorem rU{oi:Oper}{listed:Array Bool}{a:Act}{w:World}(i d fuel:Nat)(hS:S w)
 (h:Down md ops (listed.setIfInBounds i true)→wpAnyK P md ops Q k S fuel (listed.setIfInBounds i true) (a.put (some d) undef) w)
 (hi:ops[i]? =some oi:=by rfl) (hd:oi.dst=some d:=by kernel_rfl) (hst:stepB md ops listed k i=true:=by kernel_rfl) (hg:Region.wanted oi (yielded ops a.tmps)=false:=by kernel_rfl)
 (hQ:∀ c a w,Q (.panic c) (a.put (some d) undef) w→Q (.panic c) a w:=by exact fun _ _ _ h=>h):Down md ops listed→wpAnyK P md ops Q k S (fuel+1) listed a w:=fun hD=>wpAnyK_pureD hi hd hst hQ hD hS (.inr ⟨hg,rfl⟩) h
theorem rUs{oi:Oper}{listed:Array Bool}{a a':Act}{w:World}(i d fuel:Nat)(hS:S w)
 (h:Down md ops (listed.setIfInBounds i true)→wpAnyK P md ops Q k S fuel (listed.setIfInBounds i true) a' w)
 (hi:ops[i]? =some oi:=by rfl) (hd:oi.dst=some d:=by kernel_rfl) (hst:stepB md ops listed k i=true:=by kernel_rfl) (hg:Region.wanted oi (yielded ops a.tmps)=false:=by kernel_rfl)
 (hQ:∀ c a w,Q (.panic c) (a.put (some d) undef) w→Q (.panic c) a w:=by exact fun _ _ _ h=>h) (ha:a.put (some d) undef=a':=by simp only[Act.put,sqA,sqB,sqC];rfl):Down md ops listed→wpAnyK P md ops Q k S (fuel+1) listed a w:=by subst ha;exact rU i d fuel hS h hi hd hst hg hQ
theorem rT{oi:Oper}{v:Value}{listed:Array Bool}{a:Act}{w:World}(i d fuel:Nat)(hS:S w)
 {F:World→Prop} (K:∀ w',S w'→F w')
 (h:Down md ops (listed.setIfInBounds i true)→wpAnyK P md ops Q k S fuel (listed.setIfInBounds i true) (a.put (some d) v) w)
 (hi:ops[i]? =some oi:=by rfl) (hd:oi.dst=some d:=by kernel_rfl) (hst:stepB md ops listed k i=true:=by kernel_rfl) (hre:decide (ops.size≤k)=true:=by kernel_rfl) (hg:Region.wanted oi (yielded ops a.tmps)=true:=by kernel_rfl)
 (hy:∀ w',F w'→(execOp a.eval oi).run P w'=.ok (.value v) w':=by intro w' hF;go_simp;with_reducible rfl) (hQ:∀ c a w,Q (.panic c) (a.put (some d) v) w→Q (.panic c) a w:=by exact fun _ _ _ h=>h):Down md ops listed→wpAnyK P md ops Q k S (fuel+1) listed a w:=fun hD=>wpAnyK_takeSD hi hd hst hre hQ hD hS (.inl ⟨hg,fun w' h'=>hy w' (K w' h')⟩) h
theorem rTs{oi:Oper}{v:Value}{listed:Array Bool}{a a':Act}{w:World}(i d fuel:Nat)(hS:S w)
 {F:World→Prop} (K:∀ w',S w'→F w')
 (h:Down md ops (listed.setIfInBounds i true)→wpAnyK P md ops Q k S fuel (listed.setIfInBounds i true) a' w)
 (hi:ops[i]? =some oi:=by rfl) (hd:oi.dst=some d:=by kernel_rfl) (hst:stepB md ops listed k i=true:=by kernel_rfl) (hre:decide (ops.size≤k)=true:=by kernel_rfl) (hg:Region.wanted oi (yielded ops a.tmps)=true:=by kernel_rfl)
 (hy:∀ w',F w'→(execOp a.eval oi).run P w'=.ok (.value v) w':=by intro w' hF;go_simp;with_reducible rfl) (hQ:∀ c a w,Q (.panic c) (a.put (some d) v) w→Q (.panic c) a w:=by exact fun _ _ _ h=>h) (ha:a.put (some d) v=a':=by simp only[Act.put,sqA,sqB,sqC];rfl):Down md ops listed→wpAnyK P md ops Q k S (fuel+1) listed a w:=by subst ha;exact rT i d fuel hS K h hi hd hst hre hg hy hQ
theorem rO{oi:Oper}{listed:Array Bool}{a:Act}{w:World}(i fuel:Nat)
 (h:∀ K:Act→World→Prop,(∀ a' w',S w'→(S w'→Down md ops (listed.setIfInBounds i true)→wpAnyK P md ops Q k S fuel (listed.setIfInBounds i true) a' w')→K a' w')→wpList P ops (EndK K Q) [oi] a w)
 (hi:ops[i]? =some oi:=by rfl) (hr:Region.ready md ops listed=[i]:=by kernel_rfl):Down md ops listed→wpAnyK P md ops Q k S (fuel+1) listed a w:=fun hD=>wpAnyK_one hr hi hD h
end
end Go.Proofs.YtmahgbhpdfbbjaaGreatDoor

import Derived.Test.YtppbcopnfankcaaGreatQKnu
import Derived.Deep.DeepCutAuto
import Derived.Deep.CutBlock
set_option linter.unusedVariables false
set_option linter.unusedSimpArgs false
namespace Go.Proofs.YtppbcopnfankcaaGreat
set_option maxRecDepth 100000
set_option maxHeartbeats 8000000
open Go.RowKit
theorem zoz(z:Int):IntKind.u64.wrap z=z%18446744073709551616:=by simp[IntKind.wrap,IntKind.bits,IntKind.signed]
structure DivW (hi lo y s Y y1 y0 H u L n1 n0 Q1 U21 Q0 R rem:Nat):Prop where
 eY:IntKind.u64.wrap ((y:Int) * 2 ^ s)=(Y:Int)
 e9:(Y:Int) / 4294967296=(y1:Int)
 e10:bits .and .u64 (Y:Int) 4294967295=(y0:Int)
 eH:IntKind.u64.wrap ((hi:Int) * 2 ^ s)=(H:Int)
 e11:bits .or .u64 (H:Int) ((lo:Int) / 2 ^ (64 - s))=(u:Int)
 e12:IntKind.u64.wrap ((lo:Int) * 2 ^ s)=(L:Int)
 e13:(L:Int) / 4294967296=(n1:Int)
 e14:bits .and .u64 (L:Int) 4294967295=(n0:Int)
 by1:y1<4294967296
 by2:4294967296≤2 * y1
 by0:y0<4294967296
 bn1:n1<4294967296
 bn0:n0<4294967296
 bY:Y=y1 * 4294967296+y0
 bu:u<Y
 hQ1:Q1=(u * 4294967296+n1) / Y
 hU21:U21=(u * 4294967296+n1)%Y
 hQ0:Q0=(U21 * 4294967296+n0) / Y
 hR:R=(U21 * 4294967296+n0)%Y
 e9':(R:Int) / 2 ^ s=(rem:Int)
theorem zsk{q y0:Nat}(hq:q≤4294967297)(hy:y0<4294967296):IntKind.u64.wrap ((q:Int) * (y0:Int))=((q * y0:Nat):Int):=by
 rw[show (q:Int) * (y0:Int)=((q * y0:Nat):Int)from by simp];apply js;have h1:q * y0≤4294967297 * 4294967295:=Nat.mul_le_mul hq (by omega);omega
theorem zkg{u n1 Q Y:Nat}(hQ:Q=(u * 4294967296+n1) / Y)(hY:Y<18446744073709551616)(h0:0<Y) :
 IntKind.u64.wrap (IntKind.u64.wrap (IntKind.u64.wrap ((u:Int) * 4294967296)+(n1:Int)) - IntKind.u64.wrap ((Q:Int) * (Y:Int)))=(((u * 4294967296+n1)%Y:Nat):Int):=by
 have h1:=Nat.div_add_mod (u * 4294967296+n1) Y;have h2:=Nat.mod_lt (u * 4294967296+n1) h0;rw[←hQ,Nat.mul_comm]at h1;have e:(Q:Int) * (Y:Int)=((Q * Y:Nat):Int):=by simp
 rw[e];generalize Q * Y=p at *;generalize (u * 4294967296+n1)%Y=r at *;rw[zoz,zoz,zoz,zoz];omega
theorem zhf{u y1:Nat}(hu:u<18446744073709551616)(h0:0<y1):∃ q p r:Nat,IntKind.u64.wrap ((u:Int) / (y1:Int))=(q:Int)∧IntKind.u64.wrap ((q:Int) * (y1:Int))=(p:Int)∧IntKind.u64.wrap ((u:Int) - (p:Int))=(r:Int)∧q=u / y1∧r=u%y1:=by
 have h1:=Nat.div_add_mod u y1;have h3:u / y1≤u:=Nat.div_le_self _ _;rw[Nat.mul_comm]at h1;refine⟨u / y1,u / y1 * y1,u%y1,js (u / y1) (by omega),?_,?_,rfl,rfl⟩
 · rw[show ((u / y1:Nat):Int) * (y1:Int)=((u / y1 * y1:Nat):Int)from by simp];exact js _ (by omega)
 · generalize u / y1 * y1=p at *;generalize u%y1=r at *;rw[zoz];omega
theorem zp9(hi lo y s Y y1 y0 H u L n1 n0 Q1 U21 Q0 R rem:Nat)(hd:DivW hi lo y s Y y1 y0 H u L n1 n0 Q1 U21 Q0 R rem)(hs:64 - (Lib.bitLen y:Int)=s)(hs63:s≤63)(hy8:y<18446744073709551616)(hlo:lo<18446744073709551616)(hh:hi<y)(h0:0<hi)(w:World) :
 Calls Tryz.prog 272 #[.int .u64 hi,.int .u64 lo,.int .u64 y] w (RetQ (.tuple #[.int .u64 ((Q1 * 4294967296+Q0:Nat):Int),.int .u64 rem]) w):=by
 have hy1:((y:Int)==0)=false:=beq_eq_false_iff_ne.2 (by omega);have hh1:((hi:Int)==0)=false:=beq_eq_false_iff_ne.2 (by omega);have hh2:¬ ((y:Int)≤(hi:Int)):=by omega
 have HS:=Hq hs;have HY8:=Hq hy8;have HD:=Hq hd;have eY:=hd.eY;have e9:=hd.e9;have e10:=hd.e10;have eH:=hd.eH;have e11:=hd.e11;have e12:=hd.e12;have e13:=hd.e13;have e14:=hd.e14;have by1:=hd.by1;have by2:=hd.by2;have by0:=hd.by0;have bn1:=hd.bn1;have bn0:=hd.bn0;have hny:¬ (y1=0):=by omega
 have hny':(0:Int)<(y1:Int):=by omega
 clear hs hy8 hd;go_enter Tryz.func272,Tryz.ntmps272;go_wp2_with fail;refine(Tryz.bits_LeadingZeros64 (y:Int) _ (by omega) (by have:=HY8.out;omega)).mono ?_;rintro e w1 ⟨rfl,rfl⟩;rw[Int.toNat_natCast,HS.out];have hs0:(0:Int)≤(s:Int):=by omega
 have hs3:(s:Int)≤63:=by omega
 have hu8:u<18446744073709551616:=by have:=HD.out.bu;have:=HD.out.bY;omega
 obtain⟨qs,ps,rs,g1,g2,g3,hq,hr⟩:=zhf hu8 (show 0<y1 by omega);have HQ:=Hq hq;have HR:=Hq hr;have HBU:=Hq (show u<y1 * 4294967296+y0 from by rw[←HD.out.bY];exact HD.out.bu);have HPY:=Hq (show 0<y1 * 4294967296+y0 from by omega);have HQQ:=Hq (show Q1=(u * 4294967296+n1) / (y1 * 4294967296+y0)from by rw[←HD.out.bY];exact HD.out.hQ1);clear hq hr;go_upto_block 0 with(fail)
 go_cut [15] (fun q wx=>q=.int .u64 (Q1:Int)∧wx=w1);case first =>
  go_wp2
  go_loop [15,16] (fun q r=>∃ q' r':Nat,q=.int .u64 q'∧r=.int .u64 r'∧Est 4294967296 u n1 y1 y0 q' r'∧r'<4294967296) (fun q _=>(intOf q).toNat)
  case atStart=>exact⟨qs,rs,rfl,rfl,by rw[HQ.out,HR.out];exact zlo bn1 by2 by0 HBU.out,by rw[HR.out];exact Nat.lt_of_lt_of_le (Nat.mod_lt _ (by omega)) (by omega)⟩
  case round =>
   obtain⟨q,r,rfl,rfl,hE,hr⟩:=hrel;obtain⟨a,ha⟩:∃ a,a=q * y0:=⟨_,rfl⟩;have hem:IntKind.u64.wrap ((q:Int) * (y0:Int))=(a:Int):=by rw[ha];exact zsk hE.le by0
   have HA:=Hq ha;have hql:q≤4294967297:=hE.le;have HE:=Hq hE;clear ha hE;have HRR:=Hq hr;have HQL:=Hq hql;have HB1:=Hq by1;have HB2:=Hq by2;have HB0:=Hq by0;have HN:=Hq bn1;have hr':(r:Int)<4294967296:=by omega
   have hq':(q:Int)≤4294967297:=by omega
   have hy1':(y1:Int)<4294967296:=by omega
   have hn':(n1:Int)<4294967296:=by omega
   clear hr hql by1 by2 by0 bn1 bn0 hny;by_cases ht:(4294967296:Int)≤(q:Int)∨(4294967296:Int) * (r:Int)+(n1:Int)<(a:Int)
   · obtain⟨h1,hE'⟩:=zob HE.out HN.out HBU.out (by rw[←HA.out];omega);have HE':=Hq hE';have h1':(1:Int)≤(q:Int):=by omega
     clear hE';by_cases hb:(4294967296:Int)≤(r:Int)+(y1:Int)
     · have HF:=Hq (zlp HE'.out HPY.out HB0.out (by omega) (by omega));by_cases h2:(4294967296:Int)≤(q:Int)
       · clear ht;go_wp2;go_meet;exact⟨by rw[HQQ.out,←HF.out];go_num,rfl⟩
       · have ht2:(4294967296:Int) * (r:Int)+(n1:Int)<(a:Int):=by omega
         clear ht;go_wp2;go_meet;exact⟨by rw[HQQ.out,←HF.out];go_num,rfl⟩
     · by_cases h2:(4294967296:Int)≤(q:Int)
       · clear ht;go_wp2;go_round;case rel=>exact⟨q - 1,r+y1,by go_num,by go_num,HE'.out,by omega⟩
         case measure=>simp[intOf];omega
       · have ht2:(4294967296:Int) * (r:Int)+(n1:Int)<(a:Int):=by omega
         clear ht;go_wp2;go_round;case rel=>exact⟨q - 1,r+y1,by go_num,by go_num,HE'.out,by omega⟩
         case measure=>simp[intOf];omega
   · have h1:¬ ((4294967296:Int)≤(q:Int)):=by omega
     have h2:¬ ((4294967296:Int) * (r:Int)+(n1:Int)<(a:Int)):=by omega
     have HF:=Hq (zjr HE.out HPY.out (by rw[←HA.out];omega));clear ht;go_wp2;go_meet;exact⟨by rw[HQQ.out,←HF.out],rfl⟩
 case rest =>
  obtain⟨rfl,rfl⟩:=hcut;have hY8:Y<18446744073709551616:=by have:=HD.out.bY;omega
  have hY0:0<Y:=by have:=HD.out.bY;omega
  have er1:IntKind.u64.wrap (IntKind.u64.wrap (IntKind.u64.wrap ((u:Int) * 4294967296)+(n1:Int)) - IntKind.u64.wrap ((Q1:Int) * (Y:Int)))=(U21:Int):=by rw[HD.out.hU21];exact zkg HD.out.hQ1 hY8 hY0
  have er2:IntKind.u64.wrap (IntKind.u64.wrap (IntKind.u64.wrap ((U21:Int) * 4294967296)+(n0:Int)) - IntKind.u64.wrap ((Q0:Int) * (Y:Int)))=(R:Int):=by rw[HD.out.hR];exact zkg HD.out.hQ0 hY8 hY0
  have hUY:U21<Y:=by rw[HD.out.hU21];exact Nat.mod_lt _ hY0
  obtain⟨qs,ps,rs,k1,k2,k3,hq,hr⟩:=zhf (Nat.lt_trans hUY hY8) (show 0<y1 by omega);have HQ:=Hq hq;have HR:=Hq hr;have HBU:=Hq (show U21<y1 * 4294967296+y0 from by rw[←HD.out.bY];exact hUY);have hq1:Q1<4294967296:=by rw[HQQ.out];exact zf9 bn1 (by rw[←HD.out.bY];exact HD.out.bu)
  have HQQ:=Hq (show Q0=(U21 * 4294967296+n0) / (y1 * 4294967296+y0)from by rw[←HD.out.bY];exact HD.out.hQ0);have hq0:Q0<4294967296:=by rw[HQQ.out];exact zf9 bn0 HBU.out
  have hq1':(Q1:Int)<4294967296:=by omega
  have hq0':(Q0:Int)<4294967296:=by omega
  have hU0:(0:Int)≤(U21:Int):=by omega
  have e9':=HD.out.e9';clear hq hr hY8 hUY hq1 hq0 g1 g2 g3 hu8;go_upto_block 2 with(fail)
  go_cut [18] (fun q wx=>q=.int .u64 (Q0:Int)∧wx=wc);case first =>
   go_wp2
   go_loop [18,16] (fun q r=>∃ q' r':Nat,q=.int .u64 q'∧r=.int .u64 r'∧Est 4294967296 U21 n0 y1 y0 q' r'∧r'<4294967296) (fun q _=>(intOf q).toNat)
   case atStart=>exact⟨qs,rs,rfl,rfl,by rw[HQ.out,HR.out];exact zlo bn0 by2 by0 HBU.out,by rw[HR.out];exact Nat.lt_of_lt_of_le (Nat.mod_lt _ (by omega)) (by omega)⟩
   case round =>
    obtain⟨q,r,rfl,rfl,hE,hr⟩:=hrel;obtain⟨a,ha⟩:∃ a,a=q * y0:=⟨_,rfl⟩;have hem:IntKind.u64.wrap ((q:Int) * (y0:Int))=(a:Int):=by rw[ha];exact zsk hE.le by0
    have HA:=Hq ha;have hql:q≤4294967297:=hE.le;have HE:=Hq hE;clear ha hE;have HRR:=Hq hr;have HQL:=Hq hql;have HB1:=Hq by1;have HB2:=Hq by2;have HB0:=Hq by0;have HN:=Hq bn0;have hr':(r:Int)<4294967296:=by omega
    have hq':(q:Int)≤4294967297:=by omega
    have hy1':(y1:Int)<4294967296:=by omega
    have hn':(n0:Int)<4294967296:=by omega
    clear hr hql by1 by2 by0 bn1 bn0 hny;by_cases ht:(4294967296:Int)≤(q:Int)∨(4294967296:Int) * (r:Int)+(n0:Int)<(a:Int)
    · obtain⟨h1,hE'⟩:=zob HE.out HN.out HBU.out (by rw[←HA.out];omega);have HE':=Hq hE';have h1':(1:Int)≤(q:Int):=by omega
      clear hE';by_cases hb:(4294967296:Int)≤(r:Int)+(y1:Int)
      · have HF:=Hq (zlp HE'.out HPY.out HB0.out (by omega) (by omega));by_cases h2:(4294967296:Int)≤(q:Int)
        · clear ht;go_wp2;go_meet;exact⟨by rw[HQQ.out,←HF.out];go_num,rfl⟩
        · have ht2:(4294967296:Int) * (r:Int)+(n0:Int)<(a:Int):=by omega
          clear ht;go_wp2;go_meet;exact⟨by rw[HQQ.out,←HF.out];go_num,rfl⟩
      · by_cases h2:(4294967296:Int)≤(q:Int)
        · clear ht;go_wp2;go_round;case rel=>exact⟨q - 1,r+y1,by go_num,by go_num,HE'.out,by omega⟩
          case measure=>simp[intOf];omega
        · have ht2:(4294967296:Int) * (r:Int)+(n0:Int)<(a:Int):=by omega
          clear ht;go_wp2;go_round;case rel=>exact⟨q - 1,r+y1,by go_num,by go_num,HE'.out,by omega⟩
          case measure=>simp[intOf];omega
    · have h1:¬ ((4294967296:Int)≤(q:Int)):=by omega
      have h2:¬ ((4294967296:Int) * (r:Int)+(n0:Int)<(a:Int)):=by omega
      have HF:=Hq (zjr HE.out HPY.out (by rw[←HA.out];omega));clear ht;go_wp2;go_meet;exact⟨by rw[HQQ.out,←HF.out],rfl⟩
  case rest =>
   obtain⟨rfl,rfl⟩:=hcut;go_wp2;go_ret2;exact⟨rfl,rfl⟩
theorem zcl:∀(f x:Nat),x<2 ^ f→0<x→∃ L,Lib.bitLenAux f x=L+1∧2 ^ L≤x∧x<2 ^ (L+1)∧L<f
 | 0,x,h,h0=>by simp at h;omega
 | f+1,x,h,h0=>by
  unfold Lib.bitLenAux;rw[if_neg (by omega)];by_cases h1:x / 2=0
  · have : x=1:=by omega
    subst this;refine⟨0,?_,by simp,by simp,by omega⟩;rw[h1];cases f<;>simp[Lib.bitLenAux]
  · obtain⟨L,h2,h3,h4,h5⟩:=zcl f (x / 2) (by rw[Nat.pow_succ]at h;omega) (by omega);refine⟨L+1,by rw[h2];omega,?_,?_,by omega⟩
    · rw[Nat.pow_succ];omega
    · rw[Nat.pow_succ];omega
theorem zl5{s H l:Nat}(hH:H%2 ^ s=0)(hl:l<2 ^ s)(h1:H<18446744073709551616)(h2:l<18446744073709551616):bits .or .u64 (H:Int) (l:Int)=((H+l:Nat):Int):=by
 rw[u64_or_nat _ _ h1 h2,nat_join s H l hH hl]
theorem zqp{L:Nat}(h:L<18446744073709551616):bits .and .u64 (L:Int) 4294967295=((L%4294967296:Nat):Int):=by
 have h2:=u64_and_nat L 4294967295 h (by omega);rw[show L &&& 4294967295=L%4294967296 from Nat.and_two_pow_sub_one_eq_mod L 32]at h2;exact h2
theorem zye{hi lo P Q:Nat}(hPQ:P * Q=18446744073709551616)(hQ:0<Q)(hP:0<P):hi * P * 18446744073709551616+lo / Q * 18446744073709551616+lo * P%18446744073709551616=(hi * 18446744073709551616+lo) * P:=by
 have h1:lo * P / 18446744073709551616=lo / Q:=(by rw[←hPQ,Nat.mul_comm P Q,Nat.mul_div_mul_right _ _ hP]);have h2:=Nat.div_add_mod (lo * P) 18446744073709551616;rw[h1]at h2;rw[Nat.add_mul,Nat.mul_right_comm hi 18446744073709551616 P];omega
theorem zxp(hi lo y L s:Nat)(h1:2 ^ L≤y)(h2:y<2 ^ (L+1))(hs:L+s=63)(hlo:lo<18446744073709551616)(hh:hi<y) :
 ∃ Y y1 y0 H u LL n1 n0 Q1 U21 Q0 R,DivW hi lo y s Y y1 y0 H u LL n1 n0 Q1 U21 Q0 R ((hi * 18446744073709551616+lo)%y):=by
 obtain⟨P,hP⟩:∃ P,P=2 ^ s:=⟨_,rfl⟩;obtain⟨Q,hQ⟩:∃ Q,Q=2 ^ (64 - s):=⟨_,rfl⟩;have hP0:0<P:=by rw[hP];exact Nat.two_pow_pos s
 have hQ0:0<Q:=by rw[hQ];exact Nat.two_pow_pos _
 have hPQ:P * Q=18446744073709551616:=by rw[hP,hQ,←Nat.pow_add,show s+(64 - s)=64 from by omega]
 have hY1:9223372036854775808≤y * P:=(by have:=Nat.mul_le_mul_right P h1;rw[hP,←Nat.pow_add,hs]at this;rw[hP];exact this);have hY2:y * P<18446744073709551616:=(by have:=Nat.mul_lt_mul_of_pos_right h2 hP0;rw[hP,←Nat.pow_add,show L+1+s=64 from by omega]at this;rw[hP];exact this);have hH:hi * P<y * P:=Nat.mul_lt_mul_of_pos_right hh hP0;have hl:lo / Q<P:=(by rw[Nat.div_lt_iff_lt_mul hQ0];omega);have hHP:hi * P+P≤y * P:=by rw[←Nat.succ_mul];exact Nat.mul_le_mul_right _ hh
 have hscal:=zye (hi:=hi) (lo:=lo) hPQ hQ0 hP0;have hdl:lo / Q≤lo:=Nat.div_le_self _ _;have ePi:((2:Int) ^ s)=(P:Int):=by rw[hP];simp
 have eQi:((2:Int) ^ (64 - s))=(Q:Int):=by rw[hQ];simp
 have hrem:=zo9 (hi * 18446744073709551616+lo) y s;rw[←hP]at hrem;generalize hYY:y * P=Y at *;generalize hHH:hi * P=H at *;have hLL:lo * P%18446744073709551616<18446744073709551616:=Nat.mod_lt _ (by decide);generalize hL2:lo * P%18446744073709551616=LL at *;generalize hd:lo / Q=d at *;generalize hN:(hi * 18446744073709551616+lo) * P=N at *;have hfin:((H+d) * 4294967296+LL / 4294967296) * 4294967296+LL%4294967296=N:=(by have e1:=Nat.div_add_mod LL 4294967296;rw[Nat.add_mul,Nat.mul_assoc,Nat.add_assoc,Nat.mul_comm (LL / 4294967296),e1,←hscal,Nat.add_mul]);refine⟨Y,Y / 4294967296,Y%4294967296,H,H+d,LL,LL / 4294967296,LL%4294967296,((H+d) * 4294967296+LL / 4294967296) / Y,((H+d) * 4294967296+LL / 4294967296)%Y,
  (((H+d) * 4294967296+LL / 4294967296)%Y * 4294967296+LL%4294967296) / Y,(((H+d) * 4294967296+LL / 4294967296)%Y * 4294967296+LL%4294967296)%Y,?_⟩
 refine { eY:=?_,e9:=by omega,e10:=zqp hY2,eH:=?_,e11:=?_,e12:=?_,e13:=by omega,e14:=zqp hLL,by1:=by omega,by2:=by omega,by0:=Nat.mod_lt _ (by omega),bn1:=by omega,bn0:=Nat.mod_lt _ (by omega),bY:=by omega,bu:=by omega,hQ1:=rfl,hU21:=rfl,hQ0:=rfl,hR:=rfl,e9':=?_ }
 · rw[ePi,show (y:Int) * (P:Int)=((y * P:Nat):Int)from by simp,hYY];exact js _ hY2
 · rw[ePi,show (hi:Int) * (P:Int)=((hi * P:Nat):Int)from by simp,hHH];exact js _ (by omega)
 · rw[eQi,show (lo:Int) / (Q:Int)=((lo / Q:Nat):Int)from by simp,hd];exact zl5 (s:=s) (by rw[←hHH,hP,Nat.mul_mod_left]) (by rw[←hP];exact hl) (by omega) (by omega)
 · rw[ePi,show (lo:Int) * (P:Int)=((lo * P:Nat):Int)from by simp,zoz];rw[←hL2];simp
 · rw[zo1,hfin,ePi];refine(Int.natCast_ediv _ _).symm.trans ?_;rw[hrem]
theorem ztx{v:Value}{w:World}{f:FuncId}{args:Array Value}(h:Calls Tryz.prog f args w (RetQ v w)):Calls Tryz.prog f args w (Ret v w):=h.mono fun e w' ⟨h1,h2⟩=>⟨h1,by rw[←h2];exact Below.refl _ _⟩
def RetR(hi lo y:Nat)(w:World)(e:Ending)(w':World):Prop:=∃ q:Nat,e=.returned (.tuple #[.int .u64 q,.int .u64 (((hi * 18446744073709551616+lo)%y:Nat):Int)])∧Below w.heap.size w w'
theorem zgk(lo y:Nat)(hy8:y<18446744073709551616)(hlo:lo<18446744073709551616)(hh:0<y)(w:World) :
 Calls Tryz.prog 272 #[.int .u64 0,.int .u64 lo,.int .u64 y] w (Ret (.tuple #[.int .u64 ((lo / y:Nat):Int),.int .u64 ((lo%y:Nat):Int)]) w):=by
 have hy1:((y:Int)==0)=false:=beq_eq_false_iff_ne.2 (by omega);have hy3:¬ (y=0):=by omega
 have hy2:(0:Int)<(y:Int):=by omega
 have hq8:lo / y<18446744073709551616:=Nat.lt_of_le_of_lt (Nat.div_le_self lo y) hlo;have hr8:lo%y<18446744073709551616:=Nat.lt_trans (Nat.mod_lt lo hh) hy8;have hwq:IntKind.u64.wrap ((lo:Int) / (y:Int))=(lo:Int) / (y:Int):=js (lo / y) hq8;have hwr:IntKind.u64.wrap ((lo:Int)%(y:Int))=(lo:Int)%(y:Int):=js (lo%y) hr8;clear hq8 hr8 hy8 hlo;go_enter Tryz.func272,Tryz.ntmps272;go_wp2
 go_quiet (fail)
 go_wp2;go_ret2;exact⟨rfl,zbe blr _⟩
theorem zqf(hi lo y:Nat)(hy8:y<18446744073709551616)(hlo:lo<18446744073709551616)(hh:hi<y)(w:World) :
 Calls Tryz.prog 272 #[.int .u64 hi,.int .u64 lo,.int .u64 y] w (RetR hi lo y w):=by
 rcases Nat.eq_zero_or_pos hi with h0 | h0
 · subst h0;refine(zgk lo y hy8 hlo hh w).mono fun e w' ⟨h1,h2⟩=>⟨lo / y,?_,h2⟩;rw[h1,Nat.zero_mul,Nat.zero_add]
 · obtain⟨L,h1,h2,h3,h4⟩:=zcl 64 y hy8 (by omega);obtain⟨Y,y1,y0,H,u,LL,n1,n0,Q1,U21,Q0,R,hd⟩:=zxp hi lo y L (63 - L) h2 h3 (by omega) hlo hh;have hs:64 - (Lib.bitLen y:Int)=((63 - L:Nat):Int):=(by unfold Lib.bitLen;rw[h1];omega);refine(zp9 hi lo y (63 - L) Y y1 y0 H u LL n1 n0 Q1 U21 Q0 R _ hd hs (by omega) hy8 hlo hh h0 w).mono fun e w' ⟨h1,h2⟩=>⟨_,h1,?_⟩;rw[←h2];exact Below.refl _ _
theorem zqe(hi lo y:Nat)(hi8:hi<18446744073709551616)(hy8:y<18446744073709551616)(hlo:lo<18446744073709551616)(hy:0<y)(w:World) :
 Calls Tryz.prog 248 #[.int .u64 hi,.int .u64 lo,.int .u64 y] w (Ret (.int .u64 (((hi * 18446744073709551616+lo)%y:Nat):Int)) w):=by
 have hy1:((y:Int)==0)=false:=beq_eq_false_iff_ne.2 (by omega);have hy3:¬ (y=0):=by omega
 have hy2:(0:Int)<(y:Int):=by omega
 have hr8:hi%y<18446744073709551616:=Nat.lt_trans (Nat.mod_lt hi hy) hy8;have hwr:IntKind.u64.wrap ((hi:Int)%(y:Int))=(hi:Int)%(y:Int):=js (hi%y) hr8;have HD:=Hq (zqf (hi%y) lo y hy8 hlo (Nat.mod_lt hi hy));have HE:=Hq (show (hi%y * 18446744073709551616+lo)%y=(hi * 18446744073709551616+lo)%y from by rw[Nat.add_mod,Nat.mod_mul_mod,←Nat.add_mod]);clear hr8 hy8 hlo hi8;go_enter Tryz.func248,Tryz.ntmps248;go_wp2_with fail;refine(HD.out _).mono ?_;rintro e w1 ⟨q,rfl,hb⟩;have HB:=Hq hb;rw[HE.out];obtain⟨r,hr⟩:=nm ((hi * 18446744073709551616+lo)%y);rw[hr];have HRR:=Hq hr;clear hb hr;go_wp2;go_ret;exact⟨by rw[HRR.out];rfl,HB.out⟩
set_option maxRecDepth 100000
set_option maxHeartbeats 1000000
def blen(n:Nat):Nat:=if n=0 then 0 else n.log2+1
theorem zm0{n k:Nat}(h1:2 ^ k≤n)(h2:n<2 ^ (k+1)):blen n=k+1:=by
 have h0:n≠0:=by have:=Nat.two_pow_pos k;omega
 unfold blen;rw[if_neg h0];have h3:=(Nat.le_log2 h0).2 h1;have h4:=(Nat.log2_lt h0).2 h2;omega
theorem zck(n:Nat):n<2 ^ blen n:=by
 unfold blen;by_cases h0:n=0
 · rw[if_pos h0,h0];simp
 · rw[if_neg h0];exact Nat.lt_log2_self
theorem zjv{n:Nat}(h:0<n):2 ^ (blen n - 1)≤n:=by
 unfold blen;rw[if_neg (by omega),Nat.add_sub_cancel];exact Nat.log2_self_le (by omega)
def bitB(n i:Nat):Bool:=n / 2 ^ i%2==1
theorem zm1(n i:Nat):dig n (i / 8) / 2 ^ (i%8)%2=n / 2 ^ i%2:=by
 have e:n / 2 ^ i=n / 256 ^ (i / 8) / 2 ^ (i%8):=(by rw[show (256:Nat) ^ (i / 8)=2 ^ (8 * (i / 8))from by rw[Nat.pow_mul],Nat.div_div_eq_div_mul,←Nat.pow_add,show 8 * (i / 8)+i%8=i from by omega]);rw[e];unfold dig;generalize n / 256 ^ (i / 8)=d;have h:i%8<8:=by omega
 generalize i%8=r at *
 match r,h with
 | 0,_=>simp
 | 1,_=>omega
 | 2,_=>omega
 | 3,_=>omega
 | 4,_=>omega
 | 5,_=>omega
 | 6,_=>omega
 | 7,_=>omega
theorem zqd{n:Nat}(h0:0<n):∃ x l,encN n=x::l∧0<x.toNat∧blen n=8 * l.length+blen x.toNat:=by
 cases hl:encN n with
 | nil=>exact absurd (zgb.1 hl) (by omega)
 | cons x l =>
  have hc:=qp n;rw[hl]at hc;have hx:x≠0:=kw.1 hc;have hx0:0<x.toNat:=by
   rcases Nat.eq_zero_or_pos x.toNat with h | h
   · exact absurd (UInt8.toNat_inj.1 (by simpa using h)) hx
   · exact h
  refine⟨x,l,rfl,hx0,?_⟩;have hb:n=x.toNat * 256 ^ l.length+bnat l:=by rw[←xr,←hl,y9]
  have hlt:=zbd l;have h1:=zck x.toNat;have h2:=zjv hx0;have hb1:1≤blen x.toNat:=by unfold blen;rw[if_neg (by omega)];omega
  obtain⟨k,hk⟩:∃ k,blen x.toNat=k+1:=⟨blen x.toNat - 1,by omega⟩;rw[hk]at h1 h2⊢;rw[Nat.add_sub_cancel]at h2;have e256:(256:Nat) ^ l.length=2 ^ (8 * l.length):=by rw[Nat.pow_mul]
  have:=zm0 (n:=n) (k:=8 * l.length+k) (by
   rw[Nat.pow_add,←e256,Nat.mul_comm];have:=Nat.mul_le_mul_right (256 ^ l.length) h2
   omega) (by
   rw[show 8 * l.length+k+1=8 * l.length+(k+1)from by omega,Nat.pow_add,←e256,Nat.mul_comm];have:=Nat.mul_le_mul_right (256 ^ l.length) (show x.toNat+1≤2 ^ (k+1)from h1);rw[Nat.succ_mul]at this
   omega)
  omega
theorem zgl{x:Nat}(h:x<256):Lib.bitLen x=blen x:=by
 rcases Nat.eq_zero_or_pos x with h0 | h0
 · subst h0;simp[blen,Lib.bitLen,Lib.bitLenAux]
 · obtain⟨L,h1,h2,h3,_⟩:=zcl 64 x (Nat.lt_of_lt_of_le h (by decide)) h0;unfold Lib.bitLen;rw[h1,zm0 h2 h3]
theorem zi9{n:Nat}(h0:0<n):∃(h:0<(nS n).size),0<((nS n)[0]).toNat∧((nS n)[0]).toNat<256∧blen n=8 * ((nS n).size - 1)+blen ((nS n)[0]).toNat:=by
 obtain⟨x,l,hl,hx,hb⟩:=zqd h0;have hs:(nS n).size=l.length+1:=by rw[qx,hl];rfl
 refine⟨by omega,?_⟩;have e:(nS n)[0]'(by omega)=x:=by
  have : (nS n)[0]'(by omega)=((nS n).data.toList)[0]'(by rw[jb];omega):=rfl;rw[this];simp only[za4,hl,List.getElem_cons_zero]
 rw[e,hs,Nat.add_sub_cancel];exact⟨hx,by have:=x.toNat_lt;omega,hb⟩
theorem zi7(s:ByteArray)(h:0<s.size)(hv:zc s=true)(b:Nat)(hb:(s[0]).toNat=b)(hb2:b<256)(w:World):Calls Tryz.prog 175 #[.string s] w (RetQ (.int .i64 ((8 * (s.size - 1)+blen b:Nat):Int)) w):=by
 have hs128:s.size≤128:=by unfold zc at hv;simp at hv;exact hv.1
 have hem:=j4 h;have HV:=Hq hv;have HB:=Hq hb;have HL:=Hq (zgl hb2);have hbl:blen b≤8:=by
  have h1:=zck b;unfold blen;split
  · omega
  · have:=(Nat.log2_lt (n:=b) (k:=8) (by assumption)).2 (by omega);omega
 obtain⟨z,hz⟩:∃ z,s.size=z+1:=⟨s.size - 1,by omega⟩;have HZ:=Hq hz;clear hv hb;go_enter Tryz.func175,Tryz.ntmps175;go_wp2_with fail;refine(zh s (by omega) _).mono ?_;rintro e w1 ⟨rfl,rfl⟩;rw[HV.out];clear hz;go_wp2_with fail;rw[HB.out];refine(Tryz.bits_Len8 (b:Int) _ (by omega) (by omega)).mono ?_;rintro e w1 ⟨rfl,rfl⟩;rw[Int.toNat_natCast,HL.out];go_wp2;go_ret;exact⟨zma (by have:=HZ.out;omega),rfl⟩
theorem znp(n:Nat)(hn:n<256 ^ 128)(w:World):Calls Tryz.prog 175 #[.string (nS n)] w (RetQ (.int .i64 (blen n)) w):=by
 rcases Nat.eq_zero_or_pos n with h0 | h0
 · subst h0;have HV:=Hq (show zc ⟨#[]⟩=true from rfl);rw[qg];go_enter Tryz.func175,Tryz.ntmps175;go_wp2_with fail;refine(zh ⟨#[]⟩ (by decide) _).mono ?_;rintro e w1 ⟨rfl,rfl⟩;rw[HV.out];go_wp2;go_ret;exact⟨rfl,rfl⟩
 · obtain⟨h,h1,h2,h3⟩:=zi9 h0;rw[h3];exact zi7 (nS n) h (zj.2 hn) _ rfl h2 w
theorem zz4{x:Nat}(h:x<256):bits .and .i64 (x:Int) 1=((x%2:Nat):Int):=by
 have:=bits_mask .i64 62 (by decide) (fun n h1 h2=>by rw[IntKind.wrap_i64];omega) 1 (by omega) (x:Int) (by omega) (by omega);simpa using this
theorem zi8(n i:Nat)(hn:n<256 ^ 128)(hi:i<100000)(w:World):Calls Tryz.prog 164 #[.string (nS n),.int .i64 i] w (RetQ (.bool (bitB n i)) w):=by
 have hs1:=ze.2 hn;have HV:=Hq (zj.2 hn);have HD:=Hq (x9 n (i / 8) (by omega));have hi0:(0:Int)≤(i:Int):=by omega
 by_cases hlt:i / 8<(nS n).size
 · have hlt2:(i:Int) / 8<((nS n).size:Int):=by omega
   have hd:=xk n (i / 8);have HBD:=Hq (zm1 n i);obtain⟨d,hde⟩:=nm (dig n (i / 8));rw[hde]at hd HBD HD;obtain⟨s,hs⟩:=nm (nS n);rw[hs]at hs1 HV HD hlt2⊢;have HF:=Hq (show bitB n i=(((d / 2 ^ (i%8)%2:Nat):Int)==1)from by
    unfold bitB;rw[←HBD.out,Bool.eq_iff_iff];simp only[beq_iff_eq]
    omega)
   have HA:=Hq (show bits .and .i64 ((d:Int) / 2 ^ (i%8)) 1=((d / 2 ^ (i%8)%2:Nat):Int)from by
    rw[←zz4 (x:=d / 2 ^ (i%8)) (Nat.lt_of_le_of_lt (Nat.div_le_self _ _) hd)]
    simp)
   clear hs hde hn hlt;go_enter Tryz.func164,Tryz.ntmps164;go_wp2_with fail;refine(zh s (by omega) _).mono ?_;rintro e w1 ⟨rfl,rfl⟩;rw[HV.out];go_wp2_with fail;refine(HD.out _).mono ?_;rintro e w1 ⟨rfl,rfl⟩;go_wp2;rw[HA.out];go_ret;exact⟨by rw[HF.out];rfl,rfl⟩
 · have hlt2:¬ ((i:Int) / 8<((nS n).size:Int)):=by omega
   have HZ:=Hq (show bitB n i=false from by
    unfold bitB;rw[←zm1,zdl (by rw[←qx];omega)]
    simp)
   obtain⟨s,hs⟩:=nm (nS n);rw[hs]at hs1 HV HD hlt2⊢;clear hs hn hlt;go_enter Tryz.func164,Tryz.ntmps164;go_wp2_with fail;refine(zh s (by omega) _).mono ?_;rintro e w1 ⟨rfl,rfl⟩;rw[HV.out];go_wp2;go_ret;exact⟨by rw[HZ.out];rfl,rfl⟩
theorem zrc(n i:Nat)(hs1:(nS n).size≤1000)(hi:i<100000)(w:World):Calls Tryz.prog 207 #[.string (nS n),.int .i64 i] w (RetQ (.bool (bitB n i)) w):=by
 have HD:=Hq (zfg n (i / 8) hs1);have hi0:(0:Int)≤(i:Int):=by omega
 have hd:=xk n (i / 8);have HBD:=Hq (zm1 n i);obtain⟨d,hde⟩:=nm (dig n (i / 8));rw[hde]at hd HBD HD;obtain⟨s,hs⟩:=nm (nS n);rw[hs]at HD⊢;clear hs hde hs1;go_enter Tryz.func207,Tryz.ntmps207;go_wp2_with fail;refine(HD.out _).mono ?_;rintro e w1 ⟨rfl,rfl⟩;go_wp2
 go_loop [5,6] (fun x k=>∃ j:Nat,j≤i%8∧k=.int .i64 j∧x=.int .i64 ((d / 2 ^ j:Nat):Int)) (fun _ k=>8 - (intOf k).toNat)
 case atStart=>exact⟨0,Nat.zero_le _,rfl,by simp⟩
 case round =>
  obtain⟨j,hj,rfl,rfl⟩:=hrel;obtain⟨x,hx⟩:=nm (d / 2 ^ j);have hxl:x≤d:=by rw[←hx];exact Nat.div_le_self _ _
  have HX:=Hq hx;rw[hx];clear hx;by_cases hlt:j<i%8
  · have hlt2:(j:Int)<(i:Int)%8:=by omega
    go_wp2;go_round;case rel=>exact⟨j+1,by omega,by go_num,by rw[Nat.pow_succ,←Nat.div_div_eq_div_mul,HX.out];go_num⟩
    case measure=>simp[intOf];omega
  · obtain rfl:j=i%8:=by omega
    have hlt2:¬ (((i%8:Nat):Int)<(i:Int)%8):=by omega
    have HF:=Hq (show bitB n i=((x:Int)%2==1)from by
     unfold bitB;rw[←HBD.out,HX.out];rw[Bool.eq_iff_iff];simp only[beq_iff_eq]
     omega)
    go_wp2;go_ret;exact⟨by rw[HF.out];rfl,rfl⟩
theorem zs3{x:Nat}(h:0<x):blen x=blen (x / 2)+1:=by
 have h1:=zck (x / 2);by_cases h0:x / 2=0
 · have : x=1:=by omega
   subst this;decide
 · have h2:=zjv (n:=x / 2) (by omega);obtain⟨k,hk⟩:∃ k,blen (x / 2)=k+1:=⟨(x / 2).log2,by unfold blen;rw[if_neg h0]⟩;rw[hk]at h1 h2⊢;rw[Nat.add_sub_cancel]at h2;exact zm0 (by rw[Nat.pow_succ];omega) (by rw[Nat.pow_succ];omega)
theorem zop{n k:Nat}(hn:n<256 ^ k):blen n≤8 * k:=by
 rcases Nat.eq_zero_or_pos n with e | e
 · rw[e];exact Nat.zero_le _
 · have h1:=zjv e;rcases Nat.lt_or_ge (8 * k) (blen n)with h | h
   · have h2:(2:Nat) ^ (8 * k)≤2 ^ (blen n - 1):=Nat.pow_le_pow_right (by decide) (by omega);rw[Nat.pow_mul,show (2:Nat) ^ 8=256 from rfl]at h2;omega
   · exact h
theorem zs2:blen 0=0:=rfl
theorem zs4{x:Nat}(h:x<256):blen x≤8:=by
 unfold blen;split
 · omega
 · have:=(Nat.log2_lt (n:=x) (k:=8) (by assumption)).2 (by omega);omega
theorem zit(s:ByteArray)(h:0<s.size)(hs1:s.size≤1000)(b:Nat)(hb:(s[0]).toNat=b)(hb2:b<256)(w:World):Calls Tryz.prog 205 #[.string s] w (RetQ (.int .i64 ((8 * (s.size - 1)+blen b:Nat):Int)) w):=by
 have hem:=j4 h;have HB:=Hq hb;have hbl:=zs4 hb2;obtain⟨z,hz⟩:∃ z,s.size=z+1:=⟨s.size - 1,by omega⟩;obtain⟨c,hc⟩:=nm (blen b);rw[hc]at hbl⊢;have HC:=Hq hc;have HZ:=Hq (show 8 * (s.size - 1)+c=8 * z+c by omega);rw[HZ.out];have HW:=Hq (show wrap64 (b:Int)=(b:Int)from by simp[wrap64];omega);clear hb hc;go_enter Tryz.func205,Tryz.ntmps205;go_wp2_with fail;rw[HB.out,HW.out]
 go_loop [3,4] (fun t x=>∃ y k:Nat,y<256∧k≤8∧k+blen y=c∧x=.int .i64 y∧t=.int .i64 ((8 * z+k:Nat):Int)) (fun _ x=>(intOf x).toNat)
 case atStart=>exact⟨b,0,hb2,by omega,by have:=HC.out;omega,by go_num,by go_num⟩
 case round =>
  obtain⟨y,k,hy,hk,hyk,rfl,rfl⟩:=hrel;have HY:=Hq hyk;clear hyk;by_cases hlt:0<y
  · have hlt2:(0:Int)<(y:Int):=by omega
    have HH:=Hq (zs3 hlt);go_wp2;go_round;case rel =>
     have h1:=HY.out;have h2:=HH.out;exact⟨y / 2,k+1,by omega,by omega,by omega,by go_num,by go_num⟩
    case measure=>simp[intOf];omega
  · obtain rfl:y=0:=by omega
    have h1:=HY.out;rw[zs2]at h1;obtain rfl:k=c:=by omega
    go_wp2;go_ret;exact⟨rfl,rfl⟩
theorem ziu(n:Nat)(hs1:(nS n).size≤1000)(w:World):Calls Tryz.prog 205 #[.string (nS n)] w (RetQ (.int .i64 (blen n)) w):=by
 rcases Nat.eq_zero_or_pos n with h0 | h0
 · subst h0;rw[qg];go_enter Tryz.func205,Tryz.ntmps205;go_wp2;go_ret;exact⟨rfl,rfl⟩
 · obtain⟨h,h1,h2,h3⟩:=zi9 h0;rw[h3];exact zit (nS n) h hs1 _ rfl h2 w
end Go.Proofs.YtppbcopnfankcaaGreat

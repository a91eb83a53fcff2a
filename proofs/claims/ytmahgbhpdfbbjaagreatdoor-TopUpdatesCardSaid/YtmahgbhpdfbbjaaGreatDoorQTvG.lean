import Derived.Test.YtmahgbhpdfbbjaaGreatDoorQTvF
set_option linter.unusedVariables false
set_option linter.unusedSimpArgs false
namespace Go.Proofs.YtmahgbhpdfbbjaaGreatDoor
set_option maxRecDepth 100000
set_option maxHeartbeats 4000000
open Go.RowKit
def EltP(M O x:ByteArray):Prop:=nvalid x=true∧chkK M O=0∧hasN (num M) (num O) (num x)=true
theorem goodP_chk{M O:ByteArray}(vM:nvalid M=true)(h:GoodP M O):chkK M O=0∧num O=0:=by
 obtain⟨rfl,h1,h2⟩:=h;refine⟨?_,rfl⟩;unfold chkK;rw[vM,show nvalid ⟨#[]⟩=true from by decide,if_pos (show (true&&true)=true from rfl),show num ⟨#[]⟩=0 from rfl];unfold chkN;rw[if_pos rfl,if_neg (by omega)]
theorem rsa_element(M O P Q x:ByteArray)(hM:M.size≤8)(hO:O.size≤8)(hP:P.size≤8)(hQ:Q.size≤8)(hx:x.size≤1000)(w:World)(ht:TabAt w):Calls Tryz.prog 33 #[gV M O,.agg #[.string P,.string Q],.string x] w (RetZP (EltP M O x∧OddP P∧OddP Q) w):=by
 have HT:=Hq ht;have HVX:=Hq (nat_Valid x (by omega));have HCK:=Hq (fun W ht=>rsa_CheckV M O P Q hM hO hP hQ W ht);have HM:=Hq hM;have hbb:Below w.heap.size w ((w.alloc (.cells #[.string M,.string O] 24)).alloc (.cells #[.string P,.string Q] 29)):=((blr).alloc nlr _).alloc (by simp) _;have hxg:=(Bx2.new w (.string M) (.string O) 24).next ((blr).alloc nlr (.cells #[.string P,.string Q] 29));have hxt:=Bx2.new (w.alloc (.cells #[.string M,.string O] 24)) (.string P) (.string Q) 29;rw[World.size_alloc]at hxt;obtain⟨W0,hW0⟩:=nm ((w.alloc (.cells #[.string M,.string O] 24)).alloc (.cells #[.string P,.string Q] 29));rw[hW0]at hbb hxg hxt;have HXG0:=Hq hxg;have HXT0:=Hq hxt;have HB0:=Hq hbb;have g0:=hxg.c0;have g1:=hxg.c1;have t0:=hxt.c0;have t1:=hxt.c1;clear hbb hxg hxt ht hM hO hP hQ hx;unfold gV at HCK⊢;go_enter Tryz.func33,Tryz.ntmps33;go_wp2_with fail;try rw[hW0]
 clear hW0;refine(show Calls _ _ _ _ _ from HVX.out _).mono ?_;rintro e w1 ⟨rfl,rfl⟩
 cases vx:nvalid x with
 | false =>
  clear vx;go_wp2;go_ret;exact⟨3,rfl,(fun h=>by cases h),HB0.out⟩
 | true =>
  have VX:=Hq vx;clear vx;have HC:=Hq (HCK.out W0 (HT.out.kept HB0.out nlr));go_wp2_with fail;refine(show Calls _ _ _ _ _ from HC.out).mono ?_;rintro e w1 ⟨z,rfl,hz,hb⟩;have HXG1:=Hq (HXG0.out.next hb);have HXT1:=Hq (HXT0.out.next hb);have HB1:=bTr HB0 hb;clear hb g0 g1 t0 t1;have g0:=HXG1.out.c0;have g1:=HXG1.out.c1;have t0:=HXT1.out.c0;have t1:=HXT1.out.c1;by_cases hz0:z=0
  · obtain⟨vM,hgd,hod⟩:=hz hz0;have HOD:=Hq hod;subst hz0;have hm:=num_small HM.out;obtain⟨e0,o0⟩:=goodP_chk vM hgd;have HH:=Hq (fun w=>show Calls Tryz.prog 64 #[.agg #[.string M,.string O],.string x] w (Ret (.bool (hasN (num M) (num O) (num x))) w)from by
     have:=rsa_Has (num M) (num x) hm (by rw[bit0];exact decide_eq_true hgd.2.1) hgd.2.2 (nvalid_lt VX.out) w
     rwa[←nS_num vM,←nS_num VX.out,nS_zero,←hgd.1,←o0]at this)
    have HE0:=Hq e0;obtain⟨b,hb'⟩:∃ b,hasN (num M) (num O) (num x)=b:=⟨_,rfl⟩;rw[hb']at HH;have HBB:=Hq hb';clear hz vM hgd hod hm e0 o0 hb';go_wp2_with fail;refine(show Calls _ _ _ _ _ from HH.out _).mono ?_;rintro e w2 ⟨rfl,hb⟩;have HB2:=bTr HB1 hb;clear hb
    cases b with
    | false =>
     go_wp2;go_ret;exact⟨13,rfl,(fun h=>by cases h),HB2.out⟩
    | true =>
     go_wp2;go_ret;exact⟨0,rfl,(fun _=>⟨⟨VX.out,HE0.out,HBB.out⟩,HOD.out⟩),HB2.out⟩
  · have hzb:(z != 0)=true:=by rw[bne_iff_ne];exact hz0
    have HZ:=Hq hz0;clear hz hz0;go_wp2;go_ret;exact⟨z,rfl,(fun h=>absurd h HZ.out),HB1.out⟩
end Go.Proofs.YtmahgbhpdfbbjaaGreatDoor

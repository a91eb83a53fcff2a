import Derived.Test.YtmahgbhpdfbbjaaGreatDoorQTvD
set_option linter.unusedVariables false
set_option linter.unusedSimpArgs false
namespace Go.Proofs.YtmahgbhpdfbbjaaGreatDoor
set_option maxRecDepth 100000
set_option maxHeartbeats 4000000
open Go.RowKit
theorem isEmptyT{O:ByteArray}(h:O.toList.isEmpty=true):O=⟨#[]⟩:=by
 rcases Nat.eq_zero_or_pos O.size with e | e
 · obtain⟨⟨l⟩⟩:=O;have : l.length=0:=e;rw[List.length_eq_zero_iff.1 this]
 · rw[sempty_false e]at h;cases h
def GoodP(M O:ByteArray):Prop:=O=⟨#[]⟩∧num M%2=1∧8<num M
theorem rsa_goodV(M O:ByteArray)(vM:nvalid M=true)(hM:M.size≤8)(w:World):Calls Tryz.prog 104 #[gV M O] w (RetF (GoodP M O) w):=by
 have hm:=num_small hM;have HV:=Hq (nat_Valid M (by omega));rw[vM]at HV;have HBT:=Hq (fun w=>show Calls Tryz.prog 52 #[.string M,.int .i64 0] w (RetQ (.bool (decide (num M%2=1))) w)from by
  have:=nat_Bit (num M) 0 (lt128_of_lt8 hm) (by omega) w
  rwa[←nS_num vM,bit0]at this)
 have HCM:=Hq (fun w=>show Calls Tryz.prog 40 #[.string M,.string (nS 8)] w (RetQ (.int .i64 (cmpI (num M) 8)) w)from by
  have:=nat_Cmp M (nS 8) (by omega) (by decide) w;have e:=ncmp_n (x:=num M) (y:=8) (lt128_of_lt8 hm) (by decide);rw[←nS_num vM]at e
  rwa[e]at this)
 have HO:=Hq (nat_Of 8 (by decide));rw[show bstr (encN 8)=nS 8 from rfl]at HO;obtain⟨t,ht⟩:=nm (nS 8);rw[ht]at HCM HO;have HGT:=Hq (show 0<cmpI (num M) 8→8<num M from fun h=>by
  unfold cmpI at h;split at h
  · omega
  · split at h
    · omega
    · omega)
 obtain⟨cc,hcc⟩:=nm (cmpI (num M) 8);rw[hcc]at HCM HGT;have hx0:=Bx2.new w (.string M) (.string O) 24;have hb0:Below w.heap.size w (w.alloc (.cells #[.string M,.string O] 24)):=(blr).alloc nlr _;obtain⟨W0,hW0⟩:=nm (w.alloc (.cells #[.string M,.string O] 24));rw[hW0]at hx0 hb0;have HX0:=Hq hx0;have HB0:=Hq hb0;clear ht hcc hx0 hb0 vM hM hm;unfold gV;obtain⟨b,hb⟩:=nm (decide (num M%2=1));rw[hb]at HBT;have HBB:=Hq hb;clear hb;go_enter Tryz.func104,Tryz.ntmps104;go_wp2;try rw[hW0]
 clear hW0;obtain⟨wd,hwd⟩:=nm (W0.drew);have hbd:Below W0.heap.size W0 wd:=by rw[←hwd];exact(blr).drew
 have HXD:=Hq (HX0.out.next hbd);have HBD:=bTr HB0 hbd;clear hbd;have c0:=HXD.out.c0;have c1:=HXD.out.c1
 cases ho:O.toList.isEmpty with
 | false =>
  refine wp_region_K 21 (Below (wd).heap.size (wd)) (by kernel_rfl) ?_;rw[hwd];refine rPs 0 3 20 blr ?_;refine rTs 1 4 19 blr (k2 c0 c1) ?_;refine rO 2 18 ?_;intro K2 hK2;go_wp2_with fail;refine(show Calls _ _ _ _ _ from HV.out _).mono ?_;rintro ev w2 ⟨rfl,rfl⟩;go_wp2;refine hK2 _ _ (by exact blr) ?_;clear hK2;intro hS_1_2;refine rPs 3 6 17 hS_1_2 ?_;refine rPs 4 7 16 hS_1_2 ?_;refine rTs 5 8 15 hS_1_2 (k2 c0 c1) ?_;refine rPs 6 9 14 hS_1_2 ?_;refine rPs 7 10 13 hS_1_2 ?_;refine rPs 8 11 12 hS_1_2 ?_;refine rUs 9 12 11 hS_1_2 ?_;refine rUs 10 13 10 hS_1_2 ?_;refine rUs 11 14 9 hS_1_2 ?_;refine rPs 12 15 8 hS_1_2 ?_;refine rPs 13 16 7 hS_1_2 ?_;refine rUs 14 17 6 hS_1_2 ?_;refine rUs 15 18 5 hS_1_2 ?_;refine rUs 16 19 4 hS_1_2 ?_;refine rUs 17 20 3 hS_1_2 ?_;refine rUs 18 21 2 hS_1_2 ?_;refine rPs 19 22 1 hS_1_2 ?_;refine rO 20 0 ?_;intro K20 hK20;go_wp2;refine hK20 _ _ (by exact hS_1_2) ?_;clear hK20;intro hS_1_20;have HL:=Hq hS_1_20;refine wDn ?_;go_wp2;go_ret;exact⟨false,rfl,(fun h=>by cases h),HBD.out.trans (HL.out.mono HBD.out.size)⟩
 | true =>
  have HOE:=Hq (show O=⟨#[]⟩from isEmptyT ho)
  cases b with
  | false =>
   refine wp_region_K 21 (Below (wd).heap.size (wd)) (by kernel_rfl) ?_;rw[hwd];refine rPs 0 3 20 blr ?_;refine rTs 1 4 19 blr (k2 c0 c1) ?_;refine rO 2 18 ?_;intro K2 hK2;go_wp2_with fail;refine(show Calls _ _ _ _ _ from HV.out _).mono ?_;rintro ev w2 ⟨rfl,rfl⟩;go_wp2;refine hK2 _ _ (by exact blr) ?_;clear hK2;intro hS_1_2;refine rPs 3 6 17 hS_1_2 ?_;refine rPs 4 7 16 hS_1_2 ?_;refine rTs 5 8 15 hS_1_2 (k2 c0 c1) ?_;refine rPs 6 9 14 hS_1_2 ?_;refine rPs 7 10 13 hS_1_2 ?_;refine rPs 8 11 12 hS_1_2 ?_;refine rPs 9 12 11 hS_1_2 ?_;refine rTs 10 13 10 hS_1_2 (k2 c0 c1) ?_;refine rO 11 9 ?_;intro K11 hK11;go_wp2_with fail;refine(show Calls _ _ _ _ _ from HBT.out _).mono ?_;rintro ev w2 ⟨rfl,rfl⟩;go_wp2;refine hK11 _ _ (by exact hS_1_2) ?_;clear hK11;intro hS_1_11;refine rPs 12 15 8 hS_1_11 ?_;refine rPs 13 16 7 hS_1_11 ?_;refine rUs 14 17 6 hS_1_11 ?_;refine rUs 15 18 5 hS_1_11 ?_;refine rUs 16 19 4 hS_1_11 ?_;refine rUs 17 20 3 hS_1_11 ?_;refine rUs 18 21 2 hS_1_11 ?_;refine rPs 19 22 1 hS_1_11 ?_;refine rO 20 0 ?_;intro K20 hK20;go_wp2;refine hK20 _ _ (by exact hS_1_11) ?_;clear hK20;intro hS_1_20;have HL:=Hq hS_1_20;refine wDn ?_;go_wp2;go_ret;exact⟨false,rfl,(fun h=>by cases h),HBD.out.trans (HL.out.mono HBD.out.size)⟩
  | true =>
   refine wp_region_K 21 (Below (wd).heap.size (wd)) (by kernel_rfl) ?_;rw[hwd];refine rPs 0 3 20 blr ?_;refine rTs 1 4 19 blr (k2 c0 c1) ?_;refine rO 2 18 ?_;intro K2 hK2;go_wp2_with fail;refine(show Calls _ _ _ _ _ from HV.out _).mono ?_;rintro ev w2 ⟨rfl,rfl⟩;go_wp2;refine hK2 _ _ (by exact blr) ?_;clear hK2;intro hS_1_2;refine rPs 3 6 17 hS_1_2 ?_;refine rPs 4 7 16 hS_1_2 ?_;refine rTs 5 8 15 hS_1_2 (k2 c0 c1) ?_;refine rPs 6 9 14 hS_1_2 ?_;refine rPs 7 10 13 hS_1_2 ?_;refine rPs 8 11 12 hS_1_2 ?_;refine rPs 9 12 11 hS_1_2 ?_;refine rTs 10 13 10 hS_1_2 (k2 c0 c1) ?_;refine rO 11 9 ?_;intro K11 hK11;go_wp2_with fail;refine(show Calls _ _ _ _ _ from HBT.out _).mono ?_;rintro ev w2 ⟨rfl,rfl⟩;go_wp2;refine hK11 _ _ (by exact hS_1_2) ?_;clear hK11;intro hS_1_11;refine rPs 12 15 8 hS_1_11 ?_;refine rPs 13 16 7 hS_1_11 ?_;refine rPs 14 17 6 hS_1_11 ?_;refine rTs 15 18 5 hS_1_11 (k2 c0 c1) ?_;refine rO 16 4 ?_;intro K16 hK16;go_wp2_with fail;refine(show Calls _ _ _ _ _ from HO.out _).mono ?_;rintro ev w3 ⟨rfl,hb⟩;have HB16:=Hq hb;clear hb;go_wp2;refine hK16 _ _ (by exact Below.trans hS_1_11 (Below.mono HB16.out (Below.size hS_1_11))) ?_;clear hK16;intro hS_1_16;refine rO 17 3 ?_;intro K17 hK17;go_wp2_with fail;refine(show Calls _ _ _ _ _ from HCM.out _).mono ?_;rintro ev w4 ⟨rfl,rfl⟩;go_wp2;refine hK17 _ _ (by exact hS_1_16) ?_;clear hK17;intro hS_1_17;refine rPs 18 21 2 hS_1_17 ?_;refine rPs 19 22 1 hS_1_17 ?_;refine rO 20 0 ?_;intro K20 hK20;go_wp2;refine hK20 _ _ (by exact hS_1_17) ?_;clear hK20;intro hS_1_20;have HL:=Hq hS_1_20;refine wDn ?_;go_wp2;go_ret;exact⟨_,rfl,(fun h=>⟨HOE.out,of_decide_eq_true HBB.out,HGT.out (of_decide_eq_true h)⟩),HBD.out.trans (HL.out.mono HBD.out.size)⟩
def OddP(P:ByteArray):Prop:=nvalid P=true∧num P%2=1
theorem odd_two{p q:Nat}(h:(p * q)%2=1):p%2=1∧q%2=1:=by
 rw[Nat.mul_mod]at h;rcases Nat.mod_two_eq_zero_or_one p with a | a<;>rcases Nat.mod_two_eq_zero_or_one q with b | b<;>rw[a,b]at h<;>first | exact⟨a,b⟩ | cases h
def RetZP(P:Prop)(w:World)(e:Ending)(w':World):Prop:=∃ z:Int,e=.returned (.int .i64 z)∧(z=0→P)∧Below w.heap.size w w'
theorem rsa_CheckV(M O P Q:ByteArray)(hM:M.size≤8)(hO:O.size≤8)(hP:P.size≤8)(hQ:Q.size≤8)(w:World)(ht:TabAt w):Calls Tryz.prog 63 #[gV M O,.agg #[.string P,.string Q]] w (RetZP (nvalid M=true∧GoodP M O∧OddP P∧OddP Q) w):=by
 have HT:=Hq ht;have HVM:=Hq (nat_Valid M (by omega));have HVO:=Hq (nat_Valid O (by omega));have HVP:=Hq (nat_Valid P (by omega));have HVQ:=Hq (nat_Valid Q (by omega));have HSZ:=Hq (And.intro hM (And.intro hP hQ));have hbb:Below w.heap.size w ((w.alloc (.cells #[.string M,.string O] 24)).alloc (.cells #[.string P,.string Q] 29)):=((blr).alloc nlr _).alloc (by simp) _;have hxg:=(Bx2.new w (.string M) (.string O) 24).next ((blr).alloc nlr (.cells #[.string P,.string Q] 29));have hxt:=Bx2.new (w.alloc (.cells #[.string M,.string O] 24)) (.string P) (.string Q) 29;rw[World.size_alloc]at hxt;obtain⟨W0,hW0⟩:=nm ((w.alloc (.cells #[.string M,.string O] 24)).alloc (.cells #[.string P,.string Q] 29));rw[hW0]at hbb hxg hxt;have HXG0:=Hq hxg;have HXT0:=Hq hxt;have HB0:=Hq hbb;have g0:=hxg.c0;have g1:=hxg.c1;have t0:=hxt.c0;have t1:=hxt.c1;clear hbb hxg hxt ht hM hO hP hQ;unfold gV;go_enter Tryz.func63,Tryz.ntmps63;go_wp2_with fail;try rw[hW0]
 clear hW0;refine(show Calls _ _ _ _ _ from HVM.out _).mono ?_;rintro e w1 ⟨rfl,rfl⟩
 cases vM:nvalid M with
 | false =>
  clear vM;go_wp2;go_ret;exact⟨3,rfl,(fun h=>by cases h),HB0.out⟩
 | true =>
  have VM:=Hq vM;clear vM;go_wp2_with fail;refine(show Calls _ _ _ _ _ from HVO.out _).mono ?_;rintro e w1 ⟨rfl,rfl⟩
  cases vO:nvalid O with
  | false =>
   clear vO;go_wp2;go_ret;exact⟨3,rfl,(fun h=>by cases h),HB0.out⟩
  | true =>
   clear vO;go_wp2_with fail;refine(show Calls _ _ _ _ _ from HVP.out _).mono ?_;rintro e w1 ⟨rfl,rfl⟩
   cases vP:nvalid P with
   | false =>
    clear vP;go_wp2;go_ret;exact⟨3,rfl,(fun h=>by cases h),HB0.out⟩
   | true =>
    have VP:=Hq vP;clear vP;go_wp2_with fail;refine(show Calls _ _ _ _ _ from HVQ.out _).mono ?_;rintro e w1 ⟨rfl,rfl⟩
    cases vQ:nvalid Q with
    | false =>
     clear vQ;go_wp2;go_ret;exact⟨3,rfl,(fun h=>by cases h),HB0.out⟩
    | true =>
     have VQ:=Hq vQ;clear vQ;have HG:=Hq (rsa_goodV M O VM.out HSZ.out.1);unfold gV at HG;go_wp2_with fail;refine(show Calls _ _ _ _ _ from HG.out _).mono ?_;rintro e w1 ⟨b,rfl,hgd,hb⟩;have HXG1:=Hq (HXG0.out.next hb);have HXT1:=Hq (HXT0.out.next hb);have HB1:=bTr HB0 hb;clear hb g0 g1 t0 t1;have g0:=HXG1.out.c0;have g1:=HXG1.out.c1;have t0:=HXT1.out.c0;have t1:=HXT1.out.c1
     cases b with
     | false =>
      clear hgd;go_wp2;go_ret;exact⟨13,rfl,(fun h=>by cases h),HB1.out⟩
     | true =>
      have HGD:=Hq (hgd rfl);clear hgd;have HML:=Hq (fun w=>show Calls Tryz.prog 58 #[.string P,.string Q] w (Ret (.tuple #[.string (nS (num P * num Q)),.int .i64 0]) w)from by
       have h1:=num_small HSZ.out.2.1;have h2:=num_small HSZ.out.2.2;have:=nat_MulA (num P) (num Q) (lt128_of_lt8 h1) (lt128_of_lt8 h2) w
       rwa[←nS_num VP.out,←nS_num VQ.out,show fitR (num P * num Q)=.tuple #[.string (nS (num P * num Q)),.int .i64 0]from if_pos (Nat.lt_of_lt_of_le (Nat.mul_lt_mul'' h1 h2) (by decide +kernel))]at this)
      obtain⟨s3,hs3⟩:=nm (nS (num P * num Q));rw[hs3]at HML;have HS3:=Hq hs3;clear hs3;go_wp2_with fail;refine(show Calls _ _ _ _ _ from HML.out _).mono ?_;rintro e w2 ⟨rfl,hb⟩;have HXG2:=Hq (HXG1.out.next hb);have HXT2:=Hq (HXT1.out.next hb);have HB2:=bTr HB1 hb;clear hb g0 g1 t0 t1;have g0:=HXG2.out.c0;have g1:=HXG2.out.c1;have t0:=HXT2.out.c0;have t1:=HXT2.out.c1
      cases hq:(s3.toList==M.toList)with
      | false =>
       have hq2:(s3.toList != M.toList)=true:=by rw[bne,hq];rfl
       go_wp2;go_ret;exact⟨1,rfl,(fun h=>by cases h),HB2.out⟩
      | true =>
       have hq2:(s3.toList != M.toList)=false:=by rw[bne,hq];rfl
       have HOD:=Hq (odd_two (show (num P * num Q)%2=1 from by rw[←num_nS (num P * num Q),HS3.out,str_eq hq];exact HGD.out.2.1));have HSF:=Hq (rsa_safe P Q VP.out VQ.out HSZ.out.2.1 HSZ.out.2.2 w2 (HT.out.kept HB2.out nlr));go_wp2_with fail;refine(show Calls _ _ _ _ _ from HSF.out).mono ?_;rintro e w3 ⟨z,rfl,hb⟩;have HB3:=bTr HB2 hb;clear hb;go_wp2;go_ret;exact⟨z,rfl,(fun _=>⟨VM.out,HGD.out,⟨VP.out,HOD.out.1⟩,⟨VQ.out,HOD.out.2⟩⟩),HB3.out⟩
end Go.Proofs.YtmahgbhpdfbbjaaGreatDoor

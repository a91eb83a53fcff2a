import Derived.Test.YthknbdddhlihdaaGreatQExW
import Derived.Test.YthknbdddhlihdaaGreatQExt
import Derived.Test.YthknbdddhlihdaaGreatQMdA
set_option linter.unusedVariables false
set_option linter.unusedSimpArgs false
namespace Go.Proofs.YthknbdddhlihdaaGreat
set_option maxRecDepth 100000
set_option maxHeartbeats 1000000
open Go.RowKit
def RetI(a m:Nat)(w:World)(e:Ending)(w':World):Prop:=∃ x:Nat,e=.returned (.tuple #[.string (nS x),.int .i64 0])∧Below w.heap.size w w'∧x<m∧a * x%m=1
theorem mod_Inverse(a m:Nat)(ham:a<m)(hm8:m<18446744073709551616)(h1:1<m)(hg:Nat.gcd a m=1)(w:World):Calls Tryz.prog 100 #[.string (nS a),.string (nS m)] w (RetI a m w):=by
 have ha8:a<18446744073709551616:=by omega
 have HC:=Hq (fun w=>check_one w (nS a) (nS m) _ rfl (nS_valid_small ha8) (nS_valid_small hm8) (empty_nS (by omega)) _ rfl);have HR:=Hq (mod_reduced a m ha8 (lt128_of_lt8 hm8) (by omega));rw[Nat.mod_eq_of_lt ham]at HR;have HE:=Hq (int_Extended a m ham hm8);have HRX:=Hq (fun x (hx:x<18446744073709551616)=>mod_reduced x m hx (lt128_of_lt8 hm8) (by omega));have HG:=Hq hg;have HM1:=Hq h1;obtain⟨s,hs⟩:∃ s,nS a=s:=⟨_,rfl⟩;obtain⟨t,ht⟩:∃ t,nS m=t:=⟨_,rfl⟩;rw[hs,ht]at HC HR HE;rw[ht]at HRX;rw[hs,ht];clear hs ht ham hm8 h1 hg ha8;go_enter Tryz.func100,Tryz.ntmps100;go_wp2_with fail;refine(HC.out w).mono ?_;rintro e w1 ⟨rfl,hb1⟩;have HB1:=Hq ((((Below.refl w.heap.size w).alloc (Nat.le_refl _) _).alloc (by simp) _).trans hb1);clear hb1;go_wp2_with fail;refine(HR.out _).mono ?_;rintro e w2 ⟨rfl,hb2⟩;have HB2:=Hq (HB1.out.trans (hb2.mono HB1.out.size));clear hb2;go_wp2_with fail;refine(HE.out _).mono ?_;rintro e w3 ⟨x,y,rfl,hb3,hx0,hx8,hbz⟩;have HB3:=Hq (HB2.out.trans (hb3.mono HB2.out.size));rw[HG.out]at hbz;have HI:=Hq (inv_red (inv_of_bez hx0 hbz HM1.out));have HRR:=Hq (HRX.out x.natAbs hx8);rw[HG.out,nS_one];unfold intV zV;have HML:=Hq (show x.natAbs%m<m from Nat.mod_lt _ (by have:=HM1.out;omega));obtain⟨X,hX⟩:∃ X,x.natAbs=X:=⟨_,rfl⟩;obtain⟨u,hu⟩:∃ u,nS X=u:=⟨_,rfl⟩;rw[hX]at HI HRR HML⊢;rw[hu]at HRR⊢;obtain⟨dx,hdx⟩:∃ dx,decide (x<0)=dx:=⟨_,rfl⟩;obtain⟨dy,hdy⟩:∃ dy,decide (y<0)=dy:=⟨_,rfl⟩;obtain⟨v,hv⟩:∃ v,nS y.natAbs=v:=⟨_,rfl⟩;rw[hdx,hdy,hv];clear hb3 hbz hx0 hx8 hX hu hdx hdy hv;go_wp2_with fail;refine(HRR.out _).mono ?_;rintro e w4 ⟨rfl,hb4⟩;have HB4:=Hq (((HB3.out.alloc HB3.out.size (.cells #[.bool dx,.string u] 123)).alloc (by have:=HB3.out.size;simp;omega) (.cells #[.bool dy,.string v] 123)).trans (hb4.mono (by have:=HB3.out.size;simp;omega)));clear hb4;go_wp2;go_ret2;exact⟨X%m,rfl,HB4.out,HML.out,HI.out⟩
set_option maxRecDepth 100000
set_option maxHeartbeats 2000000
theorem nS_beq(a b:Nat):((nS a).toList==(nS b).toList)=decide (a=b):=by
 rw[ByteArray.toList_eq,ByteArray.toList_eq,nS_data,nS_data,Bool.eq_iff_iff,beq_iff_eq,decide_eq_true_eq];exact⟨fun h=>by rw[←bnat_encN a,h,bnat_encN],fun h=>by rw[h]⟩
theorem nS_is1(a:Nat):((nS a).toList==[1])=decide (a=1):=by
 rw[←nS_beq a 1,show (nS 1).toList=[1]from by rw[ByteArray.toList_eq,nS_data];rfl]
def gV(M O:ByteArray):Value:=.agg #[.string M,.string O]
theorem pg_formed(M O:ByteArray)(hM:M.size≤9223372036854775807)(hO:O.size≤9223372036854775807)(w:World):Calls Tryz.prog 169 #[gV M O] w (Ret (.bool (nvalid M&&nvalid O)) w):=by
 have HV1:=Hq (nat_Valid M hM);have HV2:=Hq (nat_Valid O hO);unfold gV;go_enter Tryz.func169,Tryz.ntmps169;go_wp2_with fail;refine(HV1.out _).mono ?_;rintro e w1 ⟨rfl,rfl⟩
 cases hv:nvalid M with
 | false =>
  have HVE:=Hq hv;clear hv;go_wp2;go_ret;exact⟨by rw[HVE.out];rfl,(Below.refl _ _).alloc (Nat.le_refl _) _⟩
 | true =>
  have HVE:=Hq hv;clear hv;go_wp2_with fail;refine(HV2.out _).mono ?_;rintro e w1 ⟨rfl,rfl⟩;go_wp2;go_ret;exact⟨by rw[HVE.out,Bool.true_and];rfl,(Below.refl _ _).alloc (Nat.le_refl _) _⟩
theorem r09_form(M O:ByteArray)(hM:M.size≤9223372036854775807)(hO:O.size≤9223372036854775807)(w:World):Calls Tryz.prog 187 #[gV M O] w (Ret (.bool (nvalid M&&nvalid O)) w):=by
 have HV1:=Hq (r01_Valid M hM);have HV2:=Hq (r01_Valid O hO);unfold gV;go_enter Tryz.func187,Tryz.ntmps187;go_wp2_with fail;refine(HV1.out _).mono ?_;rintro e w1 ⟨rfl,rfl⟩
 cases hv:nvalid M with
 | false =>
  have HVE:=Hq hv;clear hv;go_wp2;go_ret;exact⟨by rw[HVE.out];rfl,(Below.refl _ _).alloc (Nat.le_refl _) _⟩
 | true =>
  have HVE:=Hq hv;clear hv;go_wp2_with fail;refine(HV2.out _).mono ?_;rintro e w1 ⟨rfl,rfl⟩;go_wp2;go_ret;exact⟨by rw[HVE.out,Bool.true_and];rfl,(Below.refl _ _).alloc (Nat.le_refl _) _⟩
def hasP(M O e:ByteArray):Prop:=nvalid M=true∧nvalid O=true∧nvalid e=true∧0<num O∧0<num e∧num e<num M∧num e ^ num O%num M=1
instance (M O e:ByteArray):Decidable (hasP M O e):=by unfold hasP;exact inferInstance
def hasG(M O e:ByteArray):Bool:=decide (hasP M O e)
theorem pg_Has(M O e:ByteArray)(hM:M.size≤8)(hO:O.size≤1000)(he:e.size≤1000)(w:World):Calls Tryz.prog 141 #[gV M O,.string e] w (Ret (.bool (hasG M O e)) w):=by
 have HF:=Hq (pg_formed M O (by omega) (by omega));have HV:=Hq (nat_Valid e (by omega));have HB0:Below w.heap.size w (w.alloc (.cells #[.string M,.string O] 24)):=(Below.refl _ _).alloc (Nat.le_refl _) _
 cases hf:(nvalid M&&nvalid O)with
 | false =>
  have HR:=Hq (show hasG M O e=false from decide_eq_false (fun h=>by rw[h.1,h.2.1]at hf;cases hf));rw[hf]at HF;clear hf;rw[HR.out];unfold gV at *;go_enter Tryz.func141,Tryz.ntmps141;go_wp2_with fail;refine(HF.out _).mono ?_;rintro ev w1 ⟨rfl,hb1⟩;have HB1:=Hq (HB0.trans (hb1.mono HB0.size));have hbx:(w1.heap[w.heap.size]?)=some (.cells #[.string M,.string O] 24):=(hb1.block _ (by simp)).trans (heap_alloc_new _ _);have c0:w1.cell? ⟨w.heap.size,0,none⟩=some (.string M):=by rw[Lib.cell_of_heap hbx];rfl
  have c1:w1.cell? ⟨w.heap.size,1,none⟩=some (.string O):=by rw[Lib.cell_of_heap hbx];rfl
  have HBX:=Hq hbx;clear hb1 hbx;go_wp2;go_ret;exact⟨rfl,HB1.out⟩
 | true =>
  rw[hf]at HF;rw[Bool.and_eq_true]at hf
  cases hv:nvalid e with
  | false =>
   have HR:=Hq (show hasG M O e=false from decide_eq_false (fun h=>by rw[h.2.2.1]at hv;cases hv));rw[hv]at HV;clear hv hf;rw[HR.out];unfold gV at *;go_enter Tryz.func141,Tryz.ntmps141;go_wp2_with fail;refine(HF.out _).mono ?_;rintro ev w1 ⟨rfl,hb1⟩;have HB1:=Hq (HB0.trans (hb1.mono HB0.size));have hbx:(w1.heap[w.heap.size]?)=some (.cells #[.string M,.string O] 24):=(hb1.block _ (by simp)).trans (heap_alloc_new _ _);have c0:w1.cell? ⟨w.heap.size,0,none⟩=some (.string M):=by rw[Lib.cell_of_heap hbx];rfl
   have c1:w1.cell? ⟨w.heap.size,1,none⟩=some (.string O):=by rw[Lib.cell_of_heap hbx];rfl
   have HBX:=Hq hbx;clear hb1 hbx;go_wp2_with fail;refine(HV.out _).mono ?_;rintro ev w2 ⟨rfl,rfl⟩;go_wp2;go_ret;exact⟨rfl,HB1.out⟩
  | true =>
   have hm8:=num_small hM;have hMe:=nS_num hf.1;have hOe:=nS_num hf.2;have hee:=nS_num hv;have ho8:num O<256 ^ 128:=(by have:=hf.2;rw[hOe]at this;exact nvalid_nS.1 this);have hx8:num e<256 ^ 128:=(by have:=hv;rw[hee]at this;exact nvalid_nS.1 this);rw[hv]at HV;have HCM:=Hq (show ncmp e M=cmpI (num e) (num M)from by
    unfold ncmp
    rw[hv,hf.1,Bool.and_true,if_pos rfl,←ordB_nS,←hee,←hMe])
   have HCC:=Hq (nat_Cmp e M (by omega) (by omega));rw[HCM.out]at HCC;by_cases ho0:num O=0
   · have HR:=Hq (show hasG M O e=false from decide_eq_false (fun h=>by have:=h.2.2.2.1;omega));have hOz:O=⟨#[]⟩:=by rw[hOe,ho0];rfl
     clear hv hf hMe hOe hee ho8 hx8 hm8 ho0;subst hOz;rw[HR.out];unfold gV at *;go_enter Tryz.func141,Tryz.ntmps141;go_wp2_with fail;refine(HF.out _).mono ?_;rintro ev w1 ⟨rfl,hb1⟩;have HB1:=Hq (HB0.trans (hb1.mono HB0.size));have hbx:(w1.heap[w.heap.size]?)=some (.cells #[.string M,.string (⟨#[]⟩:ByteArray)] 24):=(hb1.block _ (by simp)).trans (heap_alloc_new _ _);have c0:w1.cell? ⟨w.heap.size,0,none⟩=some (.string M):=by rw[Lib.cell_of_heap hbx];rfl
     have c1:w1.cell? ⟨w.heap.size,1,none⟩=some (.string (⟨#[]⟩:ByteArray)):=by rw[Lib.cell_of_heap hbx];rfl
     have HBX:=Hq hbx;clear hb1 hbx;go_wp2_with fail;refine(HV.out _).mono ?_;rintro ev w2 ⟨rfl,rfl⟩;go_wp2;go_ret;exact⟨rfl,HB1.out⟩
   · by_cases hx0:num e=0
     · have HR:=Hq (show hasG M O e=false from decide_eq_false (fun h=>by have:=h.2.2.2.2.1;omega));have hez:e=⟨#[]⟩:=by rw[hee,hx0];rfl
       have hOn:O.toList.isEmpty=false:=by rw[hOe];exact empty_nS (by omega)
       clear hv hf hMe hOe hee ho8 hx8 hm8 ho0;subst hez;rw[HR.out];unfold gV at *;go_enter Tryz.func141,Tryz.ntmps141;go_wp2_with fail;refine(HF.out _).mono ?_;rintro ev w1 ⟨rfl,hb1⟩;have HB1:=Hq (HB0.trans (hb1.mono HB0.size));have hbx:(w1.heap[w.heap.size]?)=some (.cells #[.string M,.string O] 24):=(hb1.block _ (by simp)).trans (heap_alloc_new _ _);have c0:w1.cell? ⟨w.heap.size,0,none⟩=some (.string M):=by rw[Lib.cell_of_heap hbx];rfl
       have c1:w1.cell? ⟨w.heap.size,1,none⟩=some (.string O):=by rw[Lib.cell_of_heap hbx];rfl
       have HBX:=Hq hbx;clear hb1 hbx;go_wp2_with fail;refine(HV.out _).mono ?_;rintro ev w2 ⟨rfl,rfl⟩;go_wp2;go_ret;exact⟨rfl,HB1.out⟩
     · have hOn:O.toList.isEmpty=false:=by rw[hOe];exact empty_nS (by omega)
       have hen:e.toList.isEmpty=false:=by rw[hee];exact empty_nS (by omega)
       by_cases hxm:num M≤num e
       · have HR:=Hq (show hasG M O e=false from decide_eq_false (fun h=>by have:=h.2.2.2.2.2.1;omega));have hg:=cmpI_nonneg hxm;obtain⟨c,hc⟩:∃ c,cmpI (num e) (num M)=c:=⟨_,rfl⟩;rw[hc]at hg HCC;clear hv hf hMe hOe hee ho8 hx8 hm8 ho0 hx0 hxm hc;rw[HR.out];unfold gV at *;go_enter Tryz.func141,Tryz.ntmps141;go_wp2_with fail;refine(HF.out _).mono ?_;rintro ev w1 ⟨rfl,hb1⟩;have HB1:=Hq (HB0.trans (hb1.mono HB0.size));have hbx:(w1.heap[w.heap.size]?)=some (.cells #[.string M,.string O] 24):=(hb1.block _ (by simp)).trans (heap_alloc_new _ _);have c0:w1.cell? ⟨w.heap.size,0,none⟩=some (.string M):=by rw[Lib.cell_of_heap hbx];rfl
         have c1:w1.cell? ⟨w.heap.size,1,none⟩=some (.string O):=by rw[Lib.cell_of_heap hbx];rfl
         have HBX:=Hq hbx;clear hb1 hbx;go_wp2_with fail;refine(HV.out _).mono ?_;rintro ev w2 ⟨rfl,rfl⟩;go_wp2_with fail;refine(HCC.out _).mono ?_;rintro ev w2 ⟨rfl,rfl⟩;go_wp2;go_ret;exact⟨rfl,HB1.out⟩
       · rw[cmpI_lt (by omega)]at HCC;have HE1:=Hq (mod_Exp (num e) (num O) (num M) (by omega) ho8 hm8 (by omega));have HE2:=Hq (mod_Exp (num e) 0 (num M) (by omega) (by decide) hm8 (by omega));rw[←hee,←hOe,←hMe]at HE1;rw[←hee,←hMe,nS_zero,Nat.pow_zero,Nat.mod_eq_of_lt (by omega)]at HE2;obtain⟨A,hA⟩:∃ A,num e ^ num O%num M=A:=⟨_,rfl⟩;rw[hA]at HE1;have HR:=Hq (show hasG M O e=decide (A=1)from decide_eq_decide.2 ⟨fun h=>by rw[←hA];exact h.2.2.2.2.2.2,fun h=>⟨hf.1,hf.2,hv,by omega,by omega,by omega,by rw[hA];exact h⟩⟩);clear hv hf hMe hOe hee ho8 hx8 hm8 ho0 hx0 hxm hA;rw[HR.out];unfold gV at *;go_enter Tryz.func141,Tryz.ntmps141;go_wp2_with fail;refine(HF.out _).mono ?_;rintro ev w1 ⟨rfl,hb1⟩;have HB1:=Hq (HB0.trans (hb1.mono HB0.size));have hbx:(w1.heap[w.heap.size]?)=some (.cells #[.string M,.string O] 24):=(hb1.block _ (by simp)).trans (heap_alloc_new _ _);have c0:w1.cell? ⟨w.heap.size,0,none⟩=some (.string M):=by rw[Lib.cell_of_heap hbx];rfl
         have c1:w1.cell? ⟨w.heap.size,1,none⟩=some (.string O):=by rw[Lib.cell_of_heap hbx];rfl
         have HBX:=Hq hbx;clear hb1 hbx;go_wp2_with fail;refine(HV.out _).mono ?_;rintro ev w2 ⟨rfl,rfl⟩;go_wp2_with fail;refine(HCC.out _).mono ?_;rintro ev w2 ⟨rfl,rfl⟩;go_wp2_with fail;refine(HE1.out _).mono ?_;rintro ev w3 ⟨rfl,hb3⟩;have hbx3:=(hb3.block _ (block_lt HBX.out)).trans HBX.out;have HB3:=Hq (HB1.out.trans (hb3.mono HB1.out.size));clear hb3 c0 c1;have c0:w3.cell? ⟨w.heap.size,0,none⟩=some (.string M):=by rw[Lib.cell_of_heap hbx3];rfl
         clear hbx3;go_wp2_with fail;refine(HE2.out _).mono ?_;rintro ev w4 ⟨rfl,hb4⟩;have HB4:=Hq (HB3.out.trans (hb4.mono HB3.out.size));clear hb4;go_wp2;go_ret;exact⟨by rw[←nS_beq];rfl,HB4.out⟩
theorem r09_Has(M O e:ByteArray)(hM:M.size≤8)(hO:O.size≤1000)(he:e.size≤1000)(w:World):Calls Tryz.prog 160 #[gV M O,.string e] w (Ret (.bool (hasG M O e)) w):=by
 have HF:=Hq (r09_form M O (by omega) (by omega));have HV:=Hq (r01_Valid e (by omega));have HB0:Below w.heap.size w (w.alloc (.cells #[.string M,.string O] 24)):=(Below.refl _ _).alloc (Nat.le_refl _) _
 cases hf:(nvalid M&&nvalid O)with
 | false =>
  have HR:=Hq (show hasG M O e=false from decide_eq_false (fun h=>by rw[h.1,h.2.1]at hf;cases hf));rw[hf]at HF;clear hf;rw[HR.out];unfold gV at *;go_enter Tryz.func160,Tryz.ntmps160;go_wp2_with fail;refine(HF.out _).mono ?_;rintro ev w1 ⟨rfl,hb1⟩;have HB1:=Hq (HB0.trans (hb1.mono HB0.size));have hbx:(w1.heap[w.heap.size]?)=some (.cells #[.string M,.string O] 24):=(hb1.block _ (by simp)).trans (heap_alloc_new _ _);have c0:w1.cell? ⟨w.heap.size,0,none⟩=some (.string M):=by rw[Lib.cell_of_heap hbx];rfl
  have c1:w1.cell? ⟨w.heap.size,1,none⟩=some (.string O):=by rw[Lib.cell_of_heap hbx];rfl
  have HBX:=Hq hbx;clear hb1 hbx;go_wp2;go_ret;exact⟨rfl,HB1.out⟩
 | true =>
  rw[hf]at HF;rw[Bool.and_eq_true]at hf
  cases hv:nvalid e with
  | false =>
   have HR:=Hq (show hasG M O e=false from decide_eq_false (fun h=>by rw[h.2.2.1]at hv;cases hv));rw[hv]at HV;clear hv hf;rw[HR.out];unfold gV at *;go_enter Tryz.func160,Tryz.ntmps160;go_wp2_with fail;refine(HF.out _).mono ?_;rintro ev w1 ⟨rfl,hb1⟩;have HB1:=Hq (HB0.trans (hb1.mono HB0.size));have hbx:(w1.heap[w.heap.size]?)=some (.cells #[.string M,.string O] 24):=(hb1.block _ (by simp)).trans (heap_alloc_new _ _);have c0:w1.cell? ⟨w.heap.size,0,none⟩=some (.string M):=by rw[Lib.cell_of_heap hbx];rfl
   have c1:w1.cell? ⟨w.heap.size,1,none⟩=some (.string O):=by rw[Lib.cell_of_heap hbx];rfl
   have HBX:=Hq hbx;clear hb1 hbx;go_wp2_with fail;refine(HV.out _).mono ?_;rintro ev w2 ⟨rfl,rfl⟩;go_wp2;go_ret;exact⟨rfl,HB1.out⟩
  | true =>
   have hm8:=num_small hM;have hMe:=nS_num hf.1;have hOe:=nS_num hf.2;have hee:=nS_num hv;have ho8:num O<256 ^ 128:=(by have:=hf.2;rw[hOe]at this;exact nvalid_nS.1 this);have hx8:num e<256 ^ 128:=(by have:=hv;rw[hee]at this;exact nvalid_nS.1 this);rw[hv]at HV;have HCM:=Hq (show ordB e M=cmpI (num e) (num M)from by rw[←ordB_nS,←hee,←hMe]);have HCC:=Hq (r01_Order e M (by omega) (by omega));rw[HCM.out]at HCC;by_cases ho0:num O=0
   · have HR:=Hq (show hasG M O e=false from decide_eq_false (fun h=>by have:=h.2.2.2.1;omega));have hOz:O=⟨#[]⟩:=by rw[hOe,ho0];rfl
     clear hv hf hMe hOe hee ho8 hx8 hm8 ho0;subst hOz;rw[HR.out];unfold gV at *;go_enter Tryz.func160,Tryz.ntmps160;go_wp2_with fail;refine(HF.out _).mono ?_;rintro ev w1 ⟨rfl,hb1⟩;have HB1:=Hq (HB0.trans (hb1.mono HB0.size));have hbx:(w1.heap[w.heap.size]?)=some (.cells #[.string M,.string (⟨#[]⟩:ByteArray)] 24):=(hb1.block _ (by simp)).trans (heap_alloc_new _ _);have c0:w1.cell? ⟨w.heap.size,0,none⟩=some (.string M):=by rw[Lib.cell_of_heap hbx];rfl
     have c1:w1.cell? ⟨w.heap.size,1,none⟩=some (.string (⟨#[]⟩:ByteArray)):=by rw[Lib.cell_of_heap hbx];rfl
     have HBX:=Hq hbx;clear hb1 hbx;go_wp2_with fail;refine(HV.out _).mono ?_;rintro ev w2 ⟨rfl,rfl⟩;go_wp2;go_ret;exact⟨rfl,HB1.out⟩
   · by_cases hx0:num e=0
     · have HR:=Hq (show hasG M O e=false from decide_eq_false (fun h=>by have:=h.2.2.2.2.1;omega));have hez:e=⟨#[]⟩:=by rw[hee,hx0];rfl
       have hOn:O.toList.isEmpty=false:=by rw[hOe];exact empty_nS (by omega)
       clear hv hf hMe hOe hee ho8 hx8 hm8 ho0;subst hez;rw[HR.out];unfold gV at *;go_enter Tryz.func160,Tryz.ntmps160;go_wp2_with fail;refine(HF.out _).mono ?_;rintro ev w1 ⟨rfl,hb1⟩;have HB1:=Hq (HB0.trans (hb1.mono HB0.size));have hbx:(w1.heap[w.heap.size]?)=some (.cells #[.string M,.string O] 24):=(hb1.block _ (by simp)).trans (heap_alloc_new _ _);have c0:w1.cell? ⟨w.heap.size,0,none⟩=some (.string M):=by rw[Lib.cell_of_heap hbx];rfl
       have c1:w1.cell? ⟨w.heap.size,1,none⟩=some (.string O):=by rw[Lib.cell_of_heap hbx];rfl
       have HBX:=Hq hbx;clear hb1 hbx;go_wp2_with fail;refine(HV.out _).mono ?_;rintro ev w2 ⟨rfl,rfl⟩;go_wp2;go_ret;exact⟨rfl,HB1.out⟩
     · have hOn:O.toList.isEmpty=false:=by rw[hOe];exact empty_nS (by omega)
       have hen:e.toList.isEmpty=false:=by rw[hee];exact empty_nS (by omega)
       by_cases hxm:num M≤num e
       · have HR:=Hq (show hasG M O e=false from decide_eq_false (fun h=>by have:=h.2.2.2.2.2.1;omega));have hg:=cmpI_nonneg hxm;obtain⟨c,hc⟩:∃ c,cmpI (num e) (num M)=c:=⟨_,rfl⟩;rw[hc]at hg HCC;clear hv hf hMe hOe hee ho8 hx8 hm8 ho0 hx0 hxm hc;rw[HR.out];unfold gV at *;go_enter Tryz.func160,Tryz.ntmps160;go_wp2_with fail;refine(HF.out _).mono ?_;rintro ev w1 ⟨rfl,hb1⟩;have HB1:=Hq (HB0.trans (hb1.mono HB0.size));have hbx:(w1.heap[w.heap.size]?)=some (.cells #[.string M,.string O] 24):=(hb1.block _ (by simp)).trans (heap_alloc_new _ _);have c0:w1.cell? ⟨w.heap.size,0,none⟩=some (.string M):=by rw[Lib.cell_of_heap hbx];rfl
         have c1:w1.cell? ⟨w.heap.size,1,none⟩=some (.string O):=by rw[Lib.cell_of_heap hbx];rfl
         have HBX:=Hq hbx;clear hb1 hbx;go_wp2_with fail;refine(HV.out _).mono ?_;rintro ev w2 ⟨rfl,rfl⟩;go_wp2_with fail;refine(HCC.out _).mono ?_;rintro ev w2 ⟨rfl,hb2⟩;have HB2:=Hq (HB1.out.trans (hb2.mono HB1.out.size));clear hb2;go_wp2;go_ret;exact⟨rfl,HB2.out⟩
       · rw[cmpI_lt (by omega)]at HCC;have HE1:=Hq (r03_Exp (num e) (num O) (num M) hx8 ho8 hm8 (by omega));rw[←hee,←hOe,←hMe]at HE1;obtain⟨A,hA⟩:∃ A,num e ^ num O%num M=A:=⟨_,rfl⟩;rw[hA]at HE1;have HR:=Hq (show hasG M O e=decide (A=1)from decide_eq_decide.2 ⟨fun h=>by rw[←hA];exact h.2.2.2.2.2.2,fun h=>⟨hf.1,hf.2,hv,by omega,by omega,by omega,by rw[hA];exact h⟩⟩);clear hv hf hMe hOe hee ho8 hx8 hm8 ho0 hx0 hxm hA;rw[HR.out];unfold gV at *;go_enter Tryz.func160,Tryz.ntmps160;go_wp2_with fail;refine(HF.out _).mono ?_;rintro ev w1 ⟨rfl,hb1⟩;have HB1:=Hq (HB0.trans (hb1.mono HB0.size));have hbx:(w1.heap[w.heap.size]?)=some (.cells #[.string M,.string O] 24):=(hb1.block _ (by simp)).trans (heap_alloc_new _ _);have c0:w1.cell? ⟨w.heap.size,0,none⟩=some (.string M):=by rw[Lib.cell_of_heap hbx];rfl
         have c1:w1.cell? ⟨w.heap.size,1,none⟩=some (.string O):=by rw[Lib.cell_of_heap hbx];rfl
         have HBX:=Hq hbx;clear hb1 hbx;go_wp2_with fail;refine(HV.out _).mono ?_;rintro ev w2 ⟨rfl,rfl⟩;go_wp2_with fail;refine(HCC.out _).mono ?_;rintro ev w2 ⟨rfl,hb2⟩;have hbx2:=(hb2.block _ (block_lt HBX.out)).trans HBX.out;have HB2:=Hq (HB1.out.trans (hb2.mono HB1.out.size));clear hb2 c0 c1;have c0:w2.cell? ⟨w.heap.size,0,none⟩=some (.string M):=by rw[Lib.cell_of_heap hbx2];rfl
         have c1:w2.cell? ⟨w.heap.size,1,none⟩=some (.string O):=by rw[Lib.cell_of_heap hbx2];rfl
         clear hbx2;go_wp2_with fail;refine(HE1.out _).mono ?_;rintro ev w3 ⟨rfl,hb3⟩;have HB3:=Hq (HB2.out.trans (hb3.mono HB2.out.size));clear hb3;go_wp2;go_ret;exact⟨by rw[←nS_is1];rfl,HB3.out⟩
def invN(x M:Nat):Nat:=((List.range M).find? (fun y=>decide (x * y%M=1))).getD 0
theorem inv_uniq{x M y z:Nat}(hy:y<M)(hz:z<M)(h1:x * y%M=1)(h2:x * z%M=1):y=z:=by
 have e1:x * y * z%M=z:=(by rw[Nat.mul_mod,h1,Nat.one_mul,Nat.mod_mod,Nat.mod_eq_of_lt hz]);have e2:x * y * z=x * z * y:=by rw[Nat.mul_assoc,Nat.mul_comm y z,←Nat.mul_assoc]
 rw[e2,Nat.mul_mod,h2,Nat.one_mul,Nat.mod_mod,Nat.mod_eq_of_lt hy]at e1;exact e1
theorem invN_of{x M y:Nat}(hy:y<M)(h:x * y%M=1):invN x M=y:=by
 unfold invN
 cases hf:(List.range M).find? (fun y=>decide (x * y%M=1))with
 | none =>
  rw[List.find?_eq_none]at hf;have:=hf y (List.mem_range.2 hy);simp[h]at this
 | some z =>
  have h1:=List.find?_some hf;have h2:=List.mem_range.1 (List.mem_of_find?_eq_some hf);simp only[decide_eq_true_eq]at h1;exact inv_uniq h2 hy h1 h
def pp:List (Nat×Nat)→Nat→Nat
 | [],_=>1
 | (b,n)::l,k=>b ^ (n / 2 ^ k) * pp l k
def qq:List (Nat×Nat)→Nat→Nat
 | [],_=>1
 | (b,n)::l,k=>(if bitB n k then b else 1) * qq l k
theorem bit_div(n k:Nat):n / 2 ^ k=2 * (n / 2 ^ (k+1))+(if bitB n k then 1 else 0):=by
 unfold bitB;rw[Nat.pow_succ,←Nat.div_div_eq_div_mul];have:=Nat.mod_two_eq_zero_or_one (n / 2 ^ k);rcases this with h | h<;>rw[h]<;>simp<;>omega
theorem pp_step(l:List (Nat×Nat))(k:Nat):pp l k=pp l (k+1) * pp l (k+1) * qq l k:=by
 induction l with
 | nil=>rfl
 | cons a l ih =>
  obtain⟨b,n⟩:=a;have e:b ^ (n / 2 ^ k)=b ^ (n / 2 ^ (k+1)) * b ^ (n / 2 ^ (k+1)) * (if bitB n k then b else 1):=by
   conv=>lhs;rw[bit_div n k]
   rw[Nat.pow_add,Nat.pow_mul,Nat.pow_two,Nat.mul_pow];split<;>simp
  simp only[pp,qq,e,ih];simp only[Nat.mul_assoc,Nat.mul_left_comm,Nat.mul_comm]
theorem qq_snoc(l:List (Nat×Nat))(b n k:Nat):qq (l++[(b,n)]) k=qq l k * (if bitB n k then b else 1):=by
 induction l with
 | nil=>simp[qq]
 | cons a l ih=>obtain⟨c,m⟩:=a;simp only[List.cons_append,qq,ih,Nat.mul_assoc]
theorem qq_take{l:List (Nat×Nat)}{j b n:Nat}(h:l[j]? =some (b,n))(k:Nat):qq (l.take (j+1)) k=qq (l.take j) k * (if bitB n k then b else 1):=by
 rw[show l.take (j+1)=l.take j++[(b,n)]from by
  obtain⟨h1,h2⟩:=List.getElem?_eq_some_iff.1 h
  rw[List.take_succ_eq_append_getElem h1,h2],qq_snoc]
theorem pp_one{l:List (Nat×Nat)}{k:Nat}(h:∀ x∈l,x.2<2 ^ k):pp l k=1:=by
 induction l with
 | nil=>rfl
 | cons a l ih =>
  obtain⟨b,n⟩:=a;have:=h (b,n) List.mem_cons_self;rw[pp,ih (fun x hx=>h x (List.mem_cons_of_mem _ hx)),Nat.div_eq_of_lt this];rfl
theorem lt_of_blen{n k:Nat}(h:blen n≤k):n<2 ^ k:=by
 unfold blen at h;split at h
 · rename_i h0;subst h0;exact Nat.two_pow_pos k
 · rename_i h0;exact Nat.lt_of_lt_of_le ((Nat.log2_lt h0).1 (Nat.lt_succ_self _)) (Nat.pow_le_pow_right (by omega) h)
def baseN(x:Nat)(neg:Bool)(M:Nat):Nat:=if neg then invN x M else x
end Go.Proofs.YthknbdddhlihdaaGreat

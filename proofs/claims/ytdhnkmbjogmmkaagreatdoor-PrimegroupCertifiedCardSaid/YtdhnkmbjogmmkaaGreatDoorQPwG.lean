import Derived.Test.YtdhnkmbjogmmkaaGreatDoorQPwI
set_option linter.unusedVariables false
set_option linter.unusedSimpArgs false
namespace Go.Proofs.YtdhnkmbjogmmkaaGreatDoor
set_option maxRecDepth 100000
set_option maxHeartbeats 2000000
open Go.RowKit
theorem nS_beq(a b:Nat):((nS a).toList==(nS b).toList)=decide (a=b):=by
 rw[ByteArray.toList_eq,ByteArray.toList_eq,nS_data,nS_data,Bool.eq_iff_iff,beq_iff_eq,decide_eq_true_eq];exact⟨fun h=>by rw[←bnat_encN a,h,bnat_encN],fun h=>by rw[h]⟩
theorem nS_is1(a:Nat):((nS a).toList==[1])=decide (a=1):=by
 rw[←nS_beq a 1,show (nS 1).toList=[1]from by rw[ByteArray.toList_eq,nS_data];rfl]
def gV(M O:ByteArray):Value:=.agg #[.string M,.string O]
theorem pg_formed(M O:ByteArray)(hM:M.size≤9223372036854775807)(hO:O.size≤9223372036854775807)(w:World):Calls Tryz.prog 16 #[gV M O] w (Ret (.bool (nvalid M&&nvalid O)) w):=by
 have HV1:=Hq (nat_Valid M hM);have HV2:=Hq (nat_Valid O hO);unfold gV;go_enter Tryz.func16,Tryz.ntmps16;go_wp2_with fail;refine(HV1.out _).mono ?_;rintro e w1 ⟨rfl,rfl⟩
 cases hv:nvalid M with
 | false =>
  have HVE:=Hq hv;clear hv;go_wp2;go_ret;exact⟨by rw[HVE.out];rfl,(blr).alloc nlr _⟩
 | true =>
  have HVE:=Hq hv;clear hv;go_wp2_with fail;refine(HV2.out _).mono ?_;rintro e w1 ⟨rfl,rfl⟩;go_wp2;go_ret;exact⟨by rw[HVE.out,Bool.true_and];rfl,(blr).alloc nlr _⟩
theorem r09_form(M O:ByteArray)(hM:M.size≤9223372036854775807)(hO:O.size≤9223372036854775807)(w:World):Calls Tryz.prog 20 #[gV M O] w (Ret (.bool (nvalid M&&nvalid O)) w):=by
 have HV1:=Hq (r01_Valid M hM);have HV2:=Hq (r01_Valid O hO);unfold gV;go_enter Tryz.func20,Tryz.ntmps20;go_wp2_with fail;refine(HV1.out _).mono ?_;rintro e w1 ⟨rfl,rfl⟩
 cases hv:nvalid M with
 | false =>
  have HVE:=Hq hv;clear hv;go_wp2;go_ret;exact⟨by rw[HVE.out];rfl,(blr).alloc nlr _⟩
 | true =>
  have HVE:=Hq hv;clear hv;go_wp2_with fail;refine(HV2.out _).mono ?_;rintro e w1 ⟨rfl,rfl⟩;go_wp2;go_ret;exact⟨by rw[HVE.out,Bool.true_and];rfl,(blr).alloc nlr _⟩
def hasP(M O e:ByteArray):Prop:=nvalid M=true∧nvalid O=true∧nvalid e=true∧0<num O∧0<num e∧num e<num M∧num e ^ num O%num M=1
instance (M O e:ByteArray):Decidable (hasP M O e):=by unfold hasP;exact inferInstance
def hasG(M O e:ByteArray):Bool:=decide (hasP M O e)
theorem pg_Has(M O e:ByteArray)(hM:M.size≤8)(hO:O.size≤1000)(he:e.size≤1000)(w:World):Calls Tryz.prog 15 #[gV M O,.string e] w (Ret (.bool (hasG M O e)) w):=by
 have HF:=Hq (pg_formed M O (by omega) (by omega));have HV:=Hq (nat_Valid e (by omega));have HB0:Below w.heap.size w (w.alloc (.cells #[.string M,.string O] 24)):=(blr).alloc nlr _
 cases hf:(nvalid M&&nvalid O)with
 | false =>
  have HR:=Hq (show hasG M O e=false from decide_eq_false (fun h=>by rw[h.1,h.2.1]at hf;cases hf));rw[hf]at HF;clear hf;rw[HR.out];unfold gV at *;go_enter Tryz.func15,Tryz.ntmps15;go_wp2_with fail;refine(HF.out _).mono ?_;rintro ev w1 ⟨rfl,hb1⟩;have HB1:=Hq (HB0.trans (hb1.mono HB0.size));have hbx:(w1.heap[w.heap.size]?)=some (.cells #[.string M,.string O] 24):=(hb1.block _ (by simp)).trans (heap_alloc_new _ _);have c0:w1.cell? ⟨w.heap.size,0,none⟩=some (.string M):=by rw[Lib.cell_of_heap hbx];rfl
  have c1:w1.cell? ⟨w.heap.size,1,none⟩=some (.string O):=by rw[Lib.cell_of_heap hbx];rfl
  have HBX:=Hq hbx;clear hb1 hbx;go_wp2;go_ret;exact⟨rfl,HB1.out⟩
 | true =>
  rw[hf]at HF;rw[Bool.and_eq_true]at hf
  cases hv:nvalid e with
  | false =>
   have HR:=Hq (show hasG M O e=false from decide_eq_false (fun h=>by rw[h.2.2.1]at hv;cases hv));rw[hv]at HV;clear hv hf;rw[HR.out];unfold gV at *;go_enter Tryz.func15,Tryz.ntmps15;go_wp2_with fail;refine(HF.out _).mono ?_;rintro ev w1 ⟨rfl,hb1⟩;have HB1:=Hq (HB0.trans (hb1.mono HB0.size));have hbx:(w1.heap[w.heap.size]?)=some (.cells #[.string M,.string O] 24):=(hb1.block _ (by simp)).trans (heap_alloc_new _ _);have c0:w1.cell? ⟨w.heap.size,0,none⟩=some (.string M):=by rw[Lib.cell_of_heap hbx];rfl
   have c1:w1.cell? ⟨w.heap.size,1,none⟩=some (.string O):=by rw[Lib.cell_of_heap hbx];rfl
   have HBX:=Hq hbx;clear hb1 hbx;go_wp2_with fail;refine(HV.out _).mono ?_;rintro ev w2 ⟨rfl,rfl⟩;go_wp2;go_ret;exact⟨rfl,HB1.out⟩
  | true =>
   have hm8:=num_small hM;have hMe:=nS_num hf.1;have hOe:=nS_num hf.2;have hee:=nS_num hv;have ho8:num O<256 ^ 128:=(by have:=hf.2;rw[hOe]at this;exact nvalid_nS.1 this);have hx8:num e<256 ^ 128:=(by have:=hv;rw[hee]at this;exact nvalid_nS.1 this);rw[hv]at HV;have HCM:=Hq (show ncmp e M=cmpI (num e) (num M)from by
    unfold ncmp
    rw[hv,hf.1,Bool.and_true,if_pos rfl,←ordB_nS,←hee,←hMe])
   have HCC:=Hq (nat_Cmp e M (by omega) (by omega));rw[HCM.out]at HCC;by_cases ho0:num O=0
   · have HR:=Hq (show hasG M O e=false from decide_eq_false (fun h=>by have:=h.2.2.2.1;omega));have hOz:O=⟨#[]⟩:=by rw[hOe,ho0];rfl
     clear hv hf hMe hOe hee ho8 hx8 hm8 ho0;subst hOz;rw[HR.out];unfold gV at *;go_enter Tryz.func15,Tryz.ntmps15;go_wp2_with fail;refine(HF.out _).mono ?_;rintro ev w1 ⟨rfl,hb1⟩;have HB1:=Hq (HB0.trans (hb1.mono HB0.size));have hbx:(w1.heap[w.heap.size]?)=some (.cells #[.string M,.string (⟨#[]⟩:ByteArray)] 24):=(hb1.block _ (by simp)).trans (heap_alloc_new _ _);have c0:w1.cell? ⟨w.heap.size,0,none⟩=some (.string M):=by rw[Lib.cell_of_heap hbx];rfl
     have c1:w1.cell? ⟨w.heap.size,1,none⟩=some (.string (⟨#[]⟩:ByteArray)):=by rw[Lib.cell_of_heap hbx];rfl
     have HBX:=Hq hbx;clear hb1 hbx;go_wp2_with fail;refine(HV.out _).mono ?_;rintro ev w2 ⟨rfl,rfl⟩;go_wp2;go_ret;exact⟨rfl,HB1.out⟩
   · by_cases hx0:num e=0
     · have HR:=Hq (show hasG M O e=false from decide_eq_false (fun h=>by have:=h.2.2.2.2.1;omega));have hez:e=⟨#[]⟩:=by rw[hee,hx0];rfl
       have hOn:O.toList.isEmpty=false:=by rw[hOe];exact empty_nS (by omega)
       clear hv hf hMe hOe hee ho8 hx8 hm8 ho0;subst hez;rw[HR.out];unfold gV at *;go_enter Tryz.func15,Tryz.ntmps15;go_wp2_with fail;refine(HF.out _).mono ?_;rintro ev w1 ⟨rfl,hb1⟩;have HB1:=Hq (HB0.trans (hb1.mono HB0.size));have hbx:(w1.heap[w.heap.size]?)=some (.cells #[.string M,.string O] 24):=(hb1.block _ (by simp)).trans (heap_alloc_new _ _);have c0:w1.cell? ⟨w.heap.size,0,none⟩=some (.string M):=by rw[Lib.cell_of_heap hbx];rfl
       have c1:w1.cell? ⟨w.heap.size,1,none⟩=some (.string O):=by rw[Lib.cell_of_heap hbx];rfl
       have HBX:=Hq hbx;clear hb1 hbx;go_wp2_with fail;refine(HV.out _).mono ?_;rintro ev w2 ⟨rfl,rfl⟩;go_wp2;go_ret;exact⟨rfl,HB1.out⟩
     · have hOn:O.toList.isEmpty=false:=by rw[hOe];exact empty_nS (by omega)
       have hen:e.toList.isEmpty=false:=by rw[hee];exact empty_nS (by omega)
       by_cases hxm:num M≤num e
       · have HR:=Hq (show hasG M O e=false from decide_eq_false (fun h=>by have:=h.2.2.2.2.2.1;omega));have hg:=cmpI_nonneg hxm;obtain⟨c,hc⟩:∃ c,cmpI (num e) (num M)=c:=⟨_,rfl⟩;rw[hc]at hg HCC;clear hv hf hMe hOe hee ho8 hx8 hm8 ho0 hx0 hxm hc;rw[HR.out];unfold gV at *;go_enter Tryz.func15,Tryz.ntmps15;go_wp2_with fail;refine(HF.out _).mono ?_;rintro ev w1 ⟨rfl,hb1⟩;have HB1:=Hq (HB0.trans (hb1.mono HB0.size));have hbx:(w1.heap[w.heap.size]?)=some (.cells #[.string M,.string O] 24):=(hb1.block _ (by simp)).trans (heap_alloc_new _ _);have c0:w1.cell? ⟨w.heap.size,0,none⟩=some (.string M):=by rw[Lib.cell_of_heap hbx];rfl
         have c1:w1.cell? ⟨w.heap.size,1,none⟩=some (.string O):=by rw[Lib.cell_of_heap hbx];rfl
         have HBX:=Hq hbx;clear hb1 hbx;go_wp2_with fail;refine(HV.out _).mono ?_;rintro ev w2 ⟨rfl,rfl⟩;go_wp2_with fail;refine(HCC.out _).mono ?_;rintro ev w2 ⟨rfl,rfl⟩;go_wp2;go_ret;exact⟨rfl,HB1.out⟩
       · rw[cmpI_lt (by omega)]at HCC;have HE1:=Hq (mod_Exp (num e) (num O) (num M) (by omega) ho8 hm8 (by omega));have HE2:=Hq (mod_Exp (num e) 0 (num M) (by omega) (by decide) hm8 (by omega));rw[←hee,←hOe,←hMe]at HE1;rw[←hee,←hMe,nS_zero,Nat.pow_zero,Nat.mod_eq_of_lt (by omega)]at HE2;obtain⟨A,hA⟩:∃ A,num e ^ num O%num M=A:=⟨_,rfl⟩;rw[hA]at HE1;have HR:=Hq (show hasG M O e=decide (A=1)from decide_eq_decide.2 ⟨fun h=>by rw[←hA];exact h.2.2.2.2.2.2,fun h=>⟨hf.1,hf.2,hv,by omega,by omega,by omega,by rw[hA];exact h⟩⟩);clear hv hf hMe hOe hee ho8 hx8 hm8 ho0 hx0 hxm hA;rw[HR.out];unfold gV at *;go_enter Tryz.func15,Tryz.ntmps15;go_wp2_with fail;refine(HF.out _).mono ?_;rintro ev w1 ⟨rfl,hb1⟩;have HB1:=Hq (HB0.trans (hb1.mono HB0.size));have hbx:(w1.heap[w.heap.size]?)=some (.cells #[.string M,.string O] 24):=(hb1.block _ (by simp)).trans (heap_alloc_new _ _);have c0:w1.cell? ⟨w.heap.size,0,none⟩=some (.string M):=by rw[Lib.cell_of_heap hbx];rfl
         have c1:w1.cell? ⟨w.heap.size,1,none⟩=some (.string O):=by rw[Lib.cell_of_heap hbx];rfl
         have HBX:=Hq hbx;clear hb1 hbx;go_wp2_with fail;refine(HV.out _).mono ?_;rintro ev w2 ⟨rfl,rfl⟩;go_wp2_with fail;refine(HCC.out _).mono ?_;rintro ev w2 ⟨rfl,rfl⟩;go_wp2_with fail;refine(HE1.out _).mono ?_;rintro ev w3 ⟨rfl,hb3⟩;have hbx3:=(hb3.block _ (block_lt HBX.out)).trans HBX.out;have HB3:=Hq (HB1.out.trans (hb3.mono HB1.out.size));clear hb3 c0 c1;have c0:w3.cell? ⟨w.heap.size,0,none⟩=some (.string M):=by rw[Lib.cell_of_heap hbx3];rfl
         clear hbx3;go_wp2_with fail;refine(HE2.out _).mono ?_;rintro ev w4 ⟨rfl,hb4⟩;have HB4:=Hq (HB3.out.trans (hb4.mono HB3.out.size));clear hb4;go_wp2;go_ret;exact⟨by rw[←nS_beq];rfl,HB4.out⟩
def genG(M O e:ByteArray):Bool:=hasG M O e && !(e.toList==[1])
theorem pg_IsGen(M O e:ByteArray)(hM:M.size≤8)(hO:O.size≤1000)(he:e.size≤1000)(w:World):Calls Tryz.prog 14 #[gV M O,.string e] w (Ret (.bool (genG M O e)) w):=by
 have HH:=Hq (pg_Has M O e hM hO he);have HB0:Below w.heap.size w (w.alloc (.cells #[.string M,.string O] 24)):=(blr).alloc nlr _
 cases hh:hasG M O e with
 | false =>
  have HR:=Hq (show genG M O e=false from by unfold genG;rw[hh];rfl);rw[hh]at HH;clear hh;rw[HR.out];unfold gV at *;go_enter Tryz.func14,Tryz.ntmps14;go_wp2_with fail;refine(HH.out _).mono ?_;rintro ev w1 ⟨rfl,hb1⟩;have HB1:=Hq (HB0.trans (hb1.mono HB0.size));clear hb1;go_wp2;go_ret;exact⟨rfl,HB1.out⟩
 | true =>
  have HR:=Hq (show genG M O e = !(e.toList==[1])from by unfold genG;rw[hh,Bool.true_and]);rw[hh]at HH;clear hh;rw[HR.out];unfold gV at *;go_enter Tryz.func14,Tryz.ntmps14;go_wp2_with fail;refine(HH.out _).mono ?_;rintro ev w1 ⟨rfl,hb1⟩;have HB1:=Hq (HB0.trans (hb1.mono HB0.size));clear hb1;go_wp2;go_ret;exact⟨rfl,HB1.out⟩
set_option maxRecDepth 100000
set_option maxHeartbeats 4000000
def mulR(M O a b:ByteArray):Value:=
 if nvalid M=true∧nvalid O=true∧nvalid a=true∧nvalid b=true then
  if hasG M O a=true∧hasG M O b=true then .tuple #[.string (nS (num a * num b%num M)),.int .i64 0]else .tuple #[.string ⟨#[]⟩,.int .i64 13]
 else .tuple #[.string ⟨#[]⟩,.int .i64 3]
theorem mulR_bad{M O a b:ByteArray}(h:¬ (nvalid M=true∧nvalid O=true∧nvalid a=true∧nvalid b=true)):mulR M O a b=.tuple #[.string ⟨#[]⟩,.int .i64 3]:=by unfold mulR;rw[if_neg h]
theorem mulR_out{M O a b:ByteArray}(h:nvalid M=true∧nvalid O=true∧nvalid a=true∧nvalid b=true)(h2:¬ (hasG M O a=true∧hasG M O b=true)):mulR M O a b=.tuple #[.string ⟨#[]⟩,.int .i64 13]:=by unfold mulR;rw[if_pos h,if_neg h2]
theorem mulR_in{M O a b:ByteArray}(h:nvalid M=true∧nvalid O=true∧nvalid a=true∧nvalid b=true)(h2:hasG M O a=true∧hasG M O b=true):mulR M O a b=.tuple #[.string (nS (num a * num b%num M)),.int .i64 0]:=by unfold mulR;rw[if_pos h,if_pos h2]
theorem has_num{M O e:ByteArray}(h:hasG M O e=true):num e<num M:=(of_decide_eq_true h).2.2.2.2.2.1
theorem pg_Mul(M O a b:ByteArray)(hM:M.size≤8)(hO:O.size≤1000)(ha:a.size≤1000)(hb:b.size≤1000)(w:World):Calls Tryz.prog 9 #[gV M O,.string a,.string b] w (Ret (mulR M O a b) w):=by
 have HF:=Hq (pg_formed M O (by omega) (by omega));have HVA:=Hq (nat_Valid a (by omega));have HVB:=Hq (nat_Valid b (by omega));have HHA:=Hq (pg_Has M O a hM hO ha);have HHB:=Hq (pg_Has M O b hM hO hb);have hB0:Below w.heap.size w (w.alloc (.cells #[.string M,.string O] 24)):=(blr).alloc nlr _;have HB0:=Hq hB0;have hX0:(w.alloc (.cells #[.string M,.string O] 24)).heap[w.heap.size]? =some (.cells #[.string M,.string O] 24 (0,0)):=heap_alloc_new _ _;have HX0:=Hq hX0;clear hB0 hX0
 cases hf:(nvalid M&&nvalid O)with
 | false =>
  have HR:=Hq (mulR_bad (M:=M) (O:=O) (a:=a) (b:=b) (fun h=>by rw[h.1,h.2.1]at hf;cases hf));rw[hf]at HF;clear hf;rw[HR.out];unfold gV at *;go_enter Tryz.func9,Tryz.ntmps9;go_wp2_with fail;refine(HF.out _).mono ?_;rintro ev w1 ⟨rfl,hb1⟩;have hbx1:=(hb1.block _ (block_lt HX0.out)).trans HX0.out;have HBX1:=Hq hbx1;have HB1:=Hq (HB0.out.trans (hb1.mono HB0.out.size));have c0:w1.cell? ⟨w.heap.size,0,none⟩=some (.string M):=by rw[Lib.cell_of_heap hbx1];rfl
  have c1:w1.cell? ⟨w.heap.size,1,none⟩=some (.string O):=by rw[Lib.cell_of_heap hbx1];rfl
  clear hb1 hbx1;go_wp2;go_ret2;exact⟨rfl,HB1.out⟩
 | true =>
  rw[hf]at HF;rw[Bool.and_eq_true]at hf
  cases hva:nvalid a with
  | false =>
   have HR:=Hq (mulR_bad (M:=M) (O:=O) (a:=a) (b:=b) (fun h=>by rw[h.2.2.1]at hva;cases hva));rw[hva]at HVA;clear hf hva;rw[HR.out];unfold gV at *;go_enter Tryz.func9,Tryz.ntmps9;go_wp2_with fail;refine(HF.out _).mono ?_;rintro ev w1 ⟨rfl,hb1⟩;have hbx1:=(hb1.block _ (block_lt HX0.out)).trans HX0.out;have HBX1:=Hq hbx1;have HB1:=Hq (HB0.out.trans (hb1.mono HB0.out.size));have c0:w1.cell? ⟨w.heap.size,0,none⟩=some (.string M):=by rw[Lib.cell_of_heap hbx1];rfl
   have c1:w1.cell? ⟨w.heap.size,1,none⟩=some (.string O):=by rw[Lib.cell_of_heap hbx1];rfl
   clear hb1 hbx1;go_wp2_with fail;refine(HVA.out _).mono ?_;rintro ev w2 ⟨rfl,rfl⟩;go_wp2;go_ret2;exact⟨rfl,HB1.out⟩
  | true =>
   rw[hva]at HVA
   cases hvb:nvalid b with
   | false =>
    have HR:=Hq (mulR_bad (M:=M) (O:=O) (a:=a) (b:=b) (fun h=>by rw[h.2.2.2]at hvb;cases hvb));rw[hvb]at HVB;clear hf hva hvb;rw[HR.out];unfold gV at *;go_enter Tryz.func9,Tryz.ntmps9;go_wp2_with fail;refine(HF.out _).mono ?_;rintro ev w1 ⟨rfl,hb1⟩;have hbx1:=(hb1.block _ (block_lt HX0.out)).trans HX0.out;have HBX1:=Hq hbx1;have HB1:=Hq (HB0.out.trans (hb1.mono HB0.out.size));have c0:w1.cell? ⟨w.heap.size,0,none⟩=some (.string M):=by rw[Lib.cell_of_heap hbx1];rfl
    have c1:w1.cell? ⟨w.heap.size,1,none⟩=some (.string O):=by rw[Lib.cell_of_heap hbx1];rfl
    clear hb1 hbx1;go_wp2_with fail;refine(HVA.out _).mono ?_;rintro ev w2 ⟨rfl,rfl⟩;go_wp2_with fail;refine(HVB.out _).mono ?_;rintro ev w2 ⟨rfl,rfl⟩;go_wp2;go_ret2;exact⟨rfl,HB1.out⟩
   | true =>
    rw[hvb]at HVB
    cases hha:hasG M O a with
    | false =>
     have HR:=Hq (mulR_out (M:=M) (O:=O) (a:=a) (b:=b) ⟨hf.1,hf.2,hva,hvb⟩ (fun h=>by rw[h.1]at hha;cases hha));rw[hha]at HHA;clear hf hva hvb hha;rw[HR.out];unfold gV at *;go_enter Tryz.func9,Tryz.ntmps9;go_wp2_with fail;refine(HF.out _).mono ?_;rintro ev w1 ⟨rfl,hb1⟩;have hbx1:=(hb1.block _ (block_lt HX0.out)).trans HX0.out;have HBX1:=Hq hbx1;have HB1:=Hq (HB0.out.trans (hb1.mono HB0.out.size));have c0:w1.cell? ⟨w.heap.size,0,none⟩=some (.string M):=by rw[Lib.cell_of_heap hbx1];rfl
     have c1:w1.cell? ⟨w.heap.size,1,none⟩=some (.string O):=by rw[Lib.cell_of_heap hbx1];rfl
     clear hb1 hbx1;go_wp2_with fail;refine(HVA.out _).mono ?_;rintro ev w2 ⟨rfl,rfl⟩;go_wp2_with fail;refine(HVB.out _).mono ?_;rintro ev w2 ⟨rfl,rfl⟩;go_wp2_with fail;refine(HHA.out _).mono ?_;rintro ev w2 ⟨rfl,hb2⟩;clear c0 c1;have hbx2:=(hb2.block _ (block_lt HBX1.out)).trans HBX1.out;have HBX2:=Hq hbx2;have HB2:=Hq (HB1.out.trans (hb2.mono HB1.out.size));have c0:w2.cell? ⟨w.heap.size,0,none⟩=some (.string M):=by rw[Lib.cell_of_heap hbx2];rfl
     have c1:w2.cell? ⟨w.heap.size,1,none⟩=some (.string O):=by rw[Lib.cell_of_heap hbx2];rfl
     clear hb2 hbx2;go_wp2;go_ret2;exact⟨rfl,HB2.out⟩
    | true =>
     rw[hha]at HHA
     cases hhb:hasG M O b with
     | false =>
      have HR:=Hq (mulR_out (M:=M) (O:=O) (a:=a) (b:=b) ⟨hf.1,hf.2,hva,hvb⟩ (fun h=>by rw[h.2]at hhb;cases hhb));rw[hhb]at HHB;clear hf hva hvb hha hhb;rw[HR.out];unfold gV at *;go_enter Tryz.func9,Tryz.ntmps9;go_wp2_with fail;refine(HF.out _).mono ?_;rintro ev w1 ⟨rfl,hb1⟩;have hbx1:=(hb1.block _ (block_lt HX0.out)).trans HX0.out;have HBX1:=Hq hbx1;have HB1:=Hq (HB0.out.trans (hb1.mono HB0.out.size));have c0:w1.cell? ⟨w.heap.size,0,none⟩=some (.string M):=by rw[Lib.cell_of_heap hbx1];rfl
      have c1:w1.cell? ⟨w.heap.size,1,none⟩=some (.string O):=by rw[Lib.cell_of_heap hbx1];rfl
      clear hb1 hbx1;go_wp2_with fail;refine(HVA.out _).mono ?_;rintro ev w2 ⟨rfl,rfl⟩;go_wp2_with fail;refine(HVB.out _).mono ?_;rintro ev w2 ⟨rfl,rfl⟩;go_wp2_with fail;refine(HHA.out _).mono ?_;rintro ev w2 ⟨rfl,hb2⟩;clear c0 c1;have hbx2:=(hb2.block _ (block_lt HBX1.out)).trans HBX1.out;have HBX2:=Hq hbx2;have HB2:=Hq (HB1.out.trans (hb2.mono HB1.out.size));have c0:w2.cell? ⟨w.heap.size,0,none⟩=some (.string M):=by rw[Lib.cell_of_heap hbx2];rfl
      have c1:w2.cell? ⟨w.heap.size,1,none⟩=some (.string O):=by rw[Lib.cell_of_heap hbx2];rfl
      clear hb2 hbx2;go_wp2_with fail;refine(HHB.out _).mono ?_;rintro ev w3 ⟨rfl,hb3⟩;clear c0 c1;have hbx3:=(hb3.block _ (block_lt HBX2.out)).trans HBX2.out;have HBX3:=Hq hbx3;have HB3:=Hq (HB2.out.trans (hb3.mono HB2.out.size));have c0:w3.cell? ⟨w.heap.size,0,none⟩=some (.string M):=by rw[Lib.cell_of_heap hbx3];rfl
      have c1:w3.cell? ⟨w.heap.size,1,none⟩=some (.string O):=by rw[Lib.cell_of_heap hbx3];rfl
      clear hb3 hbx3;go_wp2;go_ret2;exact⟨rfl,HB3.out⟩
     | true =>
      have HR:=Hq (mulR_in (M:=M) (O:=O) (a:=a) (b:=b) ⟨hf.1,hf.2,hva,hvb⟩ ⟨hha,hhb⟩);rw[hhb]at HHB;have hm8:=num_small hM;have h1:=has_num hha;have h2:=has_num hhb;have HMM:=Hq (mod_Mul (num a) (num b) (num M) (by omega) (by omega) hm8 (by omega));rw[←nS_num hva,←nS_num hvb,←nS_num hf.1]at HMM;obtain⟨Z,hZ⟩:∃ Z,nS (num a * num b%num M)=Z:=⟨_,rfl⟩;rw[hZ]at HMM HR;clear hf hva hvb hha hhb h1 h2 hm8 hZ;rw[HR.out];unfold gV at *;go_enter Tryz.func9,Tryz.ntmps9;go_wp2_with fail;refine(HF.out _).mono ?_;rintro ev w1 ⟨rfl,hb1⟩;have hbx1:=(hb1.block _ (block_lt HX0.out)).trans HX0.out;have HBX1:=Hq hbx1;have HB1:=Hq (HB0.out.trans (hb1.mono HB0.out.size));have c0:w1.cell? ⟨w.heap.size,0,none⟩=some (.string M):=by rw[Lib.cell_of_heap hbx1];rfl
      have c1:w1.cell? ⟨w.heap.size,1,none⟩=some (.string O):=by rw[Lib.cell_of_heap hbx1];rfl
      clear hb1 hbx1;go_wp2_with fail;refine(HVA.out _).mono ?_;rintro ev w2 ⟨rfl,rfl⟩;go_wp2_with fail;refine(HVB.out _).mono ?_;rintro ev w2 ⟨rfl,rfl⟩;go_wp2_with fail;refine(HHA.out _).mono ?_;rintro ev w2 ⟨rfl,hb2⟩;clear c0 c1;have hbx2:=(hb2.block _ (block_lt HBX1.out)).trans HBX1.out;have HBX2:=Hq hbx2;have HB2:=Hq (HB1.out.trans (hb2.mono HB1.out.size));have c0:w2.cell? ⟨w.heap.size,0,none⟩=some (.string M):=by rw[Lib.cell_of_heap hbx2];rfl
      have c1:w2.cell? ⟨w.heap.size,1,none⟩=some (.string O):=by rw[Lib.cell_of_heap hbx2];rfl
      clear hb2 hbx2;go_wp2_with fail;refine(HHB.out _).mono ?_;rintro ev w3 ⟨rfl,hb3⟩;clear c0 c1;have hbx3:=(hb3.block _ (block_lt HBX2.out)).trans HBX2.out;have HBX3:=Hq hbx3;have HB3:=Hq (HB2.out.trans (hb3.mono HB2.out.size));have c0:w3.cell? ⟨w.heap.size,0,none⟩=some (.string M):=by rw[Lib.cell_of_heap hbx3];rfl
      have c1:w3.cell? ⟨w.heap.size,1,none⟩=some (.string O):=by rw[Lib.cell_of_heap hbx3];rfl
      clear hb3 hbx3;go_wp2_with fail;refine(HMM.out _).mono ?_;rintro ev w4 ⟨rfl,hb4⟩;clear c0 c1;have hbx4:=(hb4.block _ (block_lt HBX3.out)).trans HBX3.out;have HBX4:=Hq hbx4;have HB4:=Hq (HB3.out.trans (hb4.mono HB3.out.size));have c0:w4.cell? ⟨w.heap.size,0,none⟩=some (.string M):=by rw[Lib.cell_of_heap hbx4];rfl
      have c1:w4.cell? ⟨w.heap.size,1,none⟩=some (.string O):=by rw[Lib.cell_of_heap hbx4];rfl
      clear hb4 hbx4;go_wp2;go_ret2;exact⟨rfl,HB4.out⟩
set_option maxRecDepth 100000
set_option maxHeartbeats 4000000
def powR(M O a:ByteArray)(b:Bool)(s:ByteArray):Value:=
 if nvalid M=true∧nvalid O=true∧nvalid a=true∧zvalid b s=true then
  if hasG M O a=true then .tuple #[.string (nS (num a ^ (sg b (num s)%(num O:Int)).toNat%num M)),.int .i64 0]else .tuple #[.string ⟨#[]⟩,.int .i64 13]
 else .tuple #[.string ⟨#[]⟩,.int .i64 3]
theorem powR_bad{M O a s:ByteArray}{b:Bool}(h:¬ (nvalid M=true∧nvalid O=true∧nvalid a=true∧zvalid b s=true)):powR M O a b s=.tuple #[.string ⟨#[]⟩,.int .i64 3]:=by unfold powR;rw[if_neg h]
theorem powR_out{M O a s:ByteArray}{b:Bool}(h:nvalid M=true∧nvalid O=true∧nvalid a=true∧zvalid b s=true)(h2:¬ (hasG M O a=true)):powR M O a b s=.tuple #[.string ⟨#[]⟩,.int .i64 13]:=by unfold powR;rw[if_pos h,if_neg h2]
theorem powR_in{M O a s:ByteArray}{b:Bool}(h:nvalid M=true∧nvalid O=true∧nvalid a=true∧zvalid b s=true)(h2:hasG M O a=true):powR M O a b s=.tuple #[.string (nS (num a ^ (sg b (num s)%(num O:Int)).toNat%num M)),.int .i64 0]:=by unfold powR;rw[if_pos h,if_pos h2]
theorem sg_abs(b:Bool)(n:Nat):(sg b n).natAbs=n:=by
 unfold sg;cases b
 · exact Int.natAbs_natCast n
 · simp
theorem zv_valid{b:Bool}{s:ByteArray}(h:zvalid b s=true):nvalid s=true∧zV b s=intV (sg b (num s)):=by
 unfold zvalid at h;rw[Bool.and_eq_true]at h;refine⟨h.1,?_⟩;have e:=nS_num h.1;rw[←intV_sg];rw[←e];have h2:=h.2;cases b
 · rfl
 · cases hs:s.toList.isEmpty
   · rfl
   · rw[hs]at h2;cases h2
theorem pg_Power(M O a:ByteArray)(b:Bool)(s:ByteArray)(hM:M.size≤8)(hO:O.size≤1000)(ha:a.size≤1000)(hs:s.size≤1000)(w:World):Calls Tryz.prog 10 #[gV M O,.string a,zV b s] w (Ret (powR M O a b s) w):=by
 have HF:=Hq (pg_formed M O (by omega) (by omega));have HVA:=Hq (nat_Valid a (by omega));have HVZ:=Hq (int_Valid b s (by omega));have HHA:=Hq (pg_Has M O a hM hO ha);obtain⟨W0,hW0⟩:∃ W0,(w.alloc (.cells #[.string M,.string O] 24)).alloc (.cells #[.bool b,.string s] 42)=W0:=⟨_,rfl⟩;have HGX0:=Hq (show Bx2 W0 w.heap.size (.string M) (.string O) 24 from by
  rw[←hW0]
  exact(Bx2.new w _ _ _).next ((blr).alloc nlr _))
 have HZX0:=Hq (show Bx2 W0 (w.heap.size+1) (.bool b) (.string s) 42 from by
  rw[←hW0];have:=Bx2.new (w.alloc (.cells #[.string M,.string O] 24)) (.bool b) (.string s) 42;rw[World.size_alloc]at this
  exact this)
 have HB0:=Hq (show Below w.heap.size w W0 from by
  rw[←hW0]
  exact((Below.refl w.heap.size w).alloc nlr _).alloc (by simp) _)
 cases hf:(nvalid M&&nvalid O)with
 | false =>
  have HR:=Hq (powR_bad (M:=M) (O:=O) (a:=a) (b:=b) (s:=s) (fun h=>by rw[h.1,h.2.1]at hf;cases hf));rw[hf]at HF;clear hf;rw[HR.out];unfold gV zV at *;have c0:=HGX0.out.c0;have c1:=HGX0.out.c1;have d0:=HZX0.out.c0;have d1:=HZX0.out.c1;go_enter Tryz.func10,Tryz.ntmps10;go_wp2_with fail;try rw[hW0]
  clear hW0;refine(HF.out _).mono ?_;rintro ev w1 ⟨rfl,hb1⟩;have HGX1:=Hq (HGX0.out.next hb1);have HZX1:=Hq (HZX0.out.next hb1);have HB1:=Hq (HB0.out.trans (hb1.mono HB0.out.size));clear hb1 c0 c1 d0 d1;have c0:=HGX1.out.c0;have c1:=HGX1.out.c1;have d0:=HZX1.out.c0;have d1:=HZX1.out.c1;go_wp2;go_ret2;exact⟨rfl,HB1.out⟩
 | true =>
  rw[hf]at HF;rw[Bool.and_eq_true]at hf
  cases hva:nvalid a with
  | false =>
   have HR:=Hq (powR_bad (M:=M) (O:=O) (a:=a) (b:=b) (s:=s) (fun h=>by rw[h.2.2.1]at hva;cases hva));rw[hva]at HVA;clear hf hva;rw[HR.out];unfold gV zV at *;have c0:=HGX0.out.c0;have c1:=HGX0.out.c1;have d0:=HZX0.out.c0;have d1:=HZX0.out.c1;go_enter Tryz.func10,Tryz.ntmps10;go_wp2_with fail;try rw[hW0]
   clear hW0;refine(HF.out _).mono ?_;rintro ev w1 ⟨rfl,hb1⟩;have HGX1:=Hq (HGX0.out.next hb1);have HZX1:=Hq (HZX0.out.next hb1);have HB1:=Hq (HB0.out.trans (hb1.mono HB0.out.size));clear hb1 c0 c1 d0 d1;have c0:=HGX1.out.c0;have c1:=HGX1.out.c1;have d0:=HZX1.out.c0;have d1:=HZX1.out.c1;go_wp2_with fail;refine(HVA.out _).mono ?_;rintro ev w2 ⟨rfl,rfl⟩;go_wp2;go_ret2;exact⟨rfl,HB1.out⟩
  | true =>
   rw[hva]at HVA
   cases hvz:zvalid b s with
   | false =>
    have HR:=Hq (powR_bad (M:=M) (O:=O) (a:=a) (b:=b) (s:=s) (fun h=>by rw[h.2.2.2]at hvz;cases hvz));rw[hvz]at HVZ;clear hf hva hvz;rw[HR.out];unfold gV zV at *;have c0:=HGX0.out.c0;have c1:=HGX0.out.c1;have d0:=HZX0.out.c0;have d1:=HZX0.out.c1;go_enter Tryz.func10,Tryz.ntmps10;go_wp2_with fail;try rw[hW0]
    clear hW0;refine(HF.out _).mono ?_;rintro ev w1 ⟨rfl,hb1⟩;have HGX1:=Hq (HGX0.out.next hb1);have HZX1:=Hq (HZX0.out.next hb1);have HB1:=Hq (HB0.out.trans (hb1.mono HB0.out.size));clear hb1 c0 c1 d0 d1;have c0:=HGX1.out.c0;have c1:=HGX1.out.c1;have d0:=HZX1.out.c0;have d1:=HZX1.out.c1;go_wp2_with fail;refine(HVA.out _).mono ?_;rintro ev w2 ⟨rfl,rfl⟩;go_wp2_with fail;refine(HVZ.out _).mono ?_;rintro ev w2 ⟨rfl,hb2⟩;have HGX2:=Hq (HGX1.out.next hb2);have HZX2:=Hq (HZX1.out.next hb2);have HB2:=Hq (HB1.out.trans (hb2.mono HB1.out.size));clear hb2 c0 c1 d0 d1;have c0:=HGX2.out.c0;have c1:=HGX2.out.c1;have d0:=HZX2.out.c0;have d1:=HZX2.out.c1;go_wp2;go_ret2;exact⟨rfl,HB2.out⟩
   | true =>
    rw[hvz]at HVZ
    cases hha:hasG M O a with
    | false =>
     have HR:=Hq (powR_out (M:=M) (O:=O) (a:=a) (b:=b) (s:=s) ⟨hf.1,hf.2,hva,hvz⟩ (fun h=>by rw[h]at hha;cases hha));rw[hha]at HHA;clear hf hva hvz hha;rw[HR.out];unfold gV zV at *;have c0:=HGX0.out.c0;have c1:=HGX0.out.c1;have d0:=HZX0.out.c0;have d1:=HZX0.out.c1;go_enter Tryz.func10,Tryz.ntmps10;go_wp2_with fail;try rw[hW0]
     clear hW0;refine(HF.out _).mono ?_;rintro ev w1 ⟨rfl,hb1⟩;have HGX1:=Hq (HGX0.out.next hb1);have HZX1:=Hq (HZX0.out.next hb1);have HB1:=Hq (HB0.out.trans (hb1.mono HB0.out.size));clear hb1 c0 c1 d0 d1;have c0:=HGX1.out.c0;have c1:=HGX1.out.c1;have d0:=HZX1.out.c0;have d1:=HZX1.out.c1;go_wp2_with fail;refine(HVA.out _).mono ?_;rintro ev w2 ⟨rfl,rfl⟩;go_wp2_with fail;refine(HVZ.out _).mono ?_;rintro ev w2 ⟨rfl,hb2⟩;have HGX2:=Hq (HGX1.out.next hb2);have HZX2:=Hq (HZX1.out.next hb2);have HB2:=Hq (HB1.out.trans (hb2.mono HB1.out.size));clear hb2 c0 c1 d0 d1;have c0:=HGX2.out.c0;have c1:=HGX2.out.c1;have d0:=HZX2.out.c0;have d1:=HZX2.out.c1;go_wp2_with fail;refine(HHA.out _).mono ?_;rintro ev w3 ⟨rfl,hb3⟩;have HGX3:=Hq (HGX2.out.next hb3);have HZX3:=Hq (HZX2.out.next hb3);have HB3:=Hq (HB2.out.trans (hb3.mono HB2.out.size));clear hb3 c0 c1 d0 d1;have c0:=HGX3.out.c0;have c1:=HGX3.out.c1;have d0:=HZX3.out.c0;have d1:=HZX3.out.c1;go_wp2;go_ret2;exact⟨rfl,HB3.out⟩
    | true =>
     have HR:=Hq (powR_in (M:=M) (O:=O) (a:=a) (b:=b) (s:=s) ⟨hf.1,hf.2,hva,hvz⟩ hha);rw[hha]at HHA;have hm8:=num_small hM;have h1:=has_num hha;obtain⟨hvs,hze⟩:=zv_valid hvz;have ho0:0<num O:=(of_decide_eq_true hha).2.2.2.1;have hpw:num a ^ num O%num M=1:=(of_decide_eq_true hha).2.2.2.2.2.2;have hs8:num s<256 ^ 128:=num_lt (by unfold nvalid at hvs;simp at hvs;exact hvs.1);have ho8:num O<256 ^ 128:=num_lt (by have:=hf.2;unfold nvalid at this;simp at this;exact this.1);have HPW:=Hq (mod_Power (num a) (num M) (num O) (sg b (num s)) h1 hm8 (by rw[sg_abs];exact hs8) ho0 hpw);rw[←nS_num hva,←nS_num hf.1,←hze]at HPW;obtain⟨R,hR'⟩:∃ R,nS (num a ^ (sg b (num s)%(num O:Int)).toNat%num M)=R:=⟨_,rfl⟩;rw[hR']at HPW HR;clear hf hva hvz hha hm8 h1 hvs hze ho0 hpw hs8 ho8 hR';rw[HR.out];unfold gV zV at *;have c0:=HGX0.out.c0;have c1:=HGX0.out.c1;have d0:=HZX0.out.c0;have d1:=HZX0.out.c1;go_enter Tryz.func10,Tryz.ntmps10;go_wp2_with fail;try rw[hW0]
     clear hW0;refine(HF.out _).mono ?_;rintro ev w1 ⟨rfl,hb1⟩;have HGX1:=Hq (HGX0.out.next hb1);have HZX1:=Hq (HZX0.out.next hb1);have HB1:=Hq (HB0.out.trans (hb1.mono HB0.out.size));clear hb1 c0 c1 d0 d1;have c0:=HGX1.out.c0;have c1:=HGX1.out.c1;have d0:=HZX1.out.c0;have d1:=HZX1.out.c1;go_wp2_with fail;refine(HVA.out _).mono ?_;rintro ev w2 ⟨rfl,rfl⟩;go_wp2_with fail;refine(HVZ.out _).mono ?_;rintro ev w2 ⟨rfl,hb2⟩;have HGX2:=Hq (HGX1.out.next hb2);have HZX2:=Hq (HZX1.out.next hb2);have HB2:=Hq (HB1.out.trans (hb2.mono HB1.out.size));clear hb2 c0 c1 d0 d1;have c0:=HGX2.out.c0;have c1:=HGX2.out.c1;have d0:=HZX2.out.c0;have d1:=HZX2.out.c1;go_wp2_with fail;refine(HHA.out _).mono ?_;rintro ev w3 ⟨rfl,hb3⟩;have HGX3:=Hq (HGX2.out.next hb3);have HZX3:=Hq (HZX2.out.next hb3);have HB3:=Hq (HB2.out.trans (hb3.mono HB2.out.size));clear hb3 c0 c1 d0 d1;have c0:=HGX3.out.c0;have c1:=HGX3.out.c1;have d0:=HZX3.out.c0;have d1:=HZX3.out.c1;go_wp2_with fail;refine(HPW.out _).mono ?_;rintro ev w4 ⟨rfl,hb4⟩;have HGX4:=Hq (HGX3.out.next hb4);have HZX4:=Hq (HZX3.out.next hb4);have HB4:=Hq (HB3.out.trans (hb4.mono HB3.out.size));clear hb4 c0 c1 d0 d1;have c0:=HGX4.out.c0;have c1:=HGX4.out.c1;have d0:=HZX4.out.c0;have d1:=HZX4.out.c1;go_wp2;go_ret2;exact⟨rfl,HB4.out⟩
end Go.Proofs.YtdhnkmbjogmmkaaGreatDoor

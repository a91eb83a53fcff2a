import Derived.Test.YtfbmbledklbfgaaGreatDoorQCoA
set_option linter.unusedVariables false
set_option linter.unusedSimpArgs false
namespace Go.Proofs.YtfbmbledklbfgaaGreatDoor
set_option maxRecDepth 100000
set_option maxHeartbeats 1000000
open Go.RowKit
theorem any_takeC{l:List ByteArray}{p:ByteArray→Bool}(h:∀(i:Nat) y,l[i]? =some y→p y=false):l.any p=false:=by
 rw[List.any_eq_false];intro y hy;obtain⟨i,hi⟩:=List.getElem?_of_mem hy;simp[h i y hi]
theorem any_atC{l:List ByteArray}{p:ByteArray→Bool}{i:Nat}{y:ByteArray}(hi:l[i]? =some y)(h:p y=true):l.any p=true:=by
 rw[List.any_eq_true];exact⟨y,List.mem_of_getElem? hi,h⟩
def RetKC(b:Bool)(w:World)(e:Ending)(w':World):Prop:=∃ k:Int,e=.returned (.int .i64 k)∧decide (0≤k)=b∧w=w'
def nonv(x:ByteArray):Bool:=!(nvalid x)
theorem co_good1(x:ByteArray)(hx:x.size≤9223372036854775807)(w:World):Calls Tryz.prog 120 #[.string x] w (RetQ (.bool (nonv x)) w):=by
 have HV:=Hq (nat_Valid x hx w);unfold nonv;obtain⟨b,hb⟩:∃ b,nvalid x=b:=⟨_,rfl⟩;rw[hb]at HV⊢;clear hx hb;go_enter Tryz.func120,Tryz.ntmps120;go_wp2_with fail;refine HV.out.mono ?_;rintro e w1 ⟨rfl,rfl⟩;go_wp2;go_ret;exact⟨rfl,rfl⟩
theorem sl_IndexFuncC(l:List ByteArray)(A:Option Addr)(len cap:Nat)(w:World)(hs:SlN w A len cap l)(hp:∀ x∈l,x.size≤9223372036854775807) :
 Calls Tryz.prog 138 #[.slice A len cap,.func (.func 120) #[] #[]] w (RetKC (l.any nonv) w):=by
 have HS:=Hq hs;have HP:=Hq hp;have HLEN:=Hq hs.1;have hcap:=hs.2.1;have hcap2:=hs.2.2.1;clear hs hp;go_enter Tryz.func138,Tryz.ntmps138;go_wp2;go_loopw [8] (fun k wr=>∃ j:Nat,j≤len∧k=.int .i64 j∧(∀(i:Nat) y,i<j→l[i]? =some y→nonv y=false)∧wr=w) (fun k _=>len - (intOf k).toNat);case atStart=>exact⟨0,Nat.zero_le _,rfl,fun i u h=>absurd h (Nat.not_lt_zero _),rfl⟩
 case round =>
  obtain⟨j,hj,rfl,hall,rfl⟩:=hrel;have HALL:=Hq hall;clear hall;by_cases hlt:j<len
  · obtain⟨y,he⟩:∃ y,l[j]? =some y:=⟨_,List.getElem?_eq_getElem (by rw[HLEN.out];exact hlt)⟩;obtain⟨b,o,rfl⟩:=HS.out.head (by omega);have e1:=HS.out.get? j he;have HC:=Hq (co_good1 y (HP.out y (List.mem_of_getElem? he)) wr);have HE:=Hq he;clear he;go_wp2_with fail;refine HC.out.mono ?_;rintro e w1 ⟨rfl,rfl⟩
    cases hh:nonv y with
    | true =>
     have HM:=Hq (any_atC HE.out hh);clear hh;go_wp2;go_ret;exact⟨j,rfl,by rw[HM.out];exact decide_eq_true (by omega),rfl⟩
    | false =>
     have HA2:=Hq (show ∀(i:Nat) y,i<j+1→l[i]? =some y→nonv y=false from fun i u hi hu=>by
      rcases Nat.lt_or_ge i j with a | a
      · exact HALL.out i u a hu
      · obtain rfl:i=j:=by omega
        rw[HE.out]at hu;cases hu
        exact hh)
     clear hh;go_wp2;go_roundw;case rel=>exact⟨j+1,by omega,by go_num,HA2.out,trivial⟩
     case measure=>simp[intOf];omega
  · obtain rfl:j=len:=by omega
    have HM:=Hq (show l.any nonv=false from any_takeC (fun i y h=>HALL.out i y (by have:=(List.getElem?_eq_some_iff.1 h).1;have:=HLEN.out;omega) h));clear hlt hj;go_wp2;go_ret;exact⟨-1,rfl,by rw[HM.out];rfl,rfl⟩
theorem sl_ContainsFuncC(l:List ByteArray)(A:Option Addr)(len cap:Nat)(w:World)(hs:SlN w A len cap l)(hp:∀ x∈l,x.size≤9223372036854775807) :
 Calls Tryz.prog 119 #[.slice A len cap,.func (.func 120) #[] #[]] w (RetQ (.bool (l.any nonv)) w):=by
 have HC:=Hq (sl_IndexFuncC l A len cap w hs hp);clear hs hp;go_enter Tryz.func119,Tryz.ntmps119;go_wp2_with fail;refine HC.out.mono ?_;rintro e w1 ⟨k,rfl,hk,rfl⟩;have HK:=Hq hk;clear hk;go_wp2;go_ret;exact⟨by rw[←HK.out];rfl,rfl⟩
theorem any_nonv(l:List ByteArray):l.any nonv = !(l.all nvalid):=by
 unfold nonv;rw[List.not_all_eq_any_not]
def tpV(A:Option Addr)(n c:Nat)(s:ByteArray)(at_:Int):Value:=.agg #[.slice A n c,.string s,.int .i64 at_]
def tpC(A:Option Addr)(n c:Nat)(s:ByteArray)(at_:Int):Array Value:=#[.slice A n c,.string s,.int .i64 at_]
def TB(W:World)(B:Nat)(A:Option Addr)(n c:Nat)(s:ByteArray)(at_:Int):Prop:=W.heap[B]? =some (.cells (tpC A n c s at_) 30 (0,0))
theorem TB.new(w:World)(A:Option Addr)(n c:Nat)(s:ByteArray)(at_:Int):TB (w.alloc (.cells #[.slice A n c,.string s,.int .i64 at_] 30)) w.heap.size A n c s at_:=heap_alloc_new _ _
theorem TB.nextT{W W':World}{B:Nat}{A:Option Addr}{n c:Nat}{s:ByteArray}{at_:Int}(h:TB W B A n c s at_)(hb:Below W.heap.size W W'):TB W' B A n c s at_:=(hb.block _ (block_lt h)).trans h
theorem TB.c{W:World}{B:Nat}{A:Option Addr}{n c:Nat}{s:ByteArray}{at_:Int}(h:TB W B A n c s at_):W.cell? ⟨B,0,none⟩=some (.slice A n c)∧W.cell? ⟨B,1,none⟩=some (.string s)∧W.cell? ⟨B,2,none⟩=some (.int .i64 at_):=by
 refine⟨?_,?_,?_⟩<;>rw[Lib.cell_of_heap h]<;>rfl
theorem TB.f{W:World}{B:Nat}{A:Option Addr}{n c:Nat}{s:ByteArray}{at_:Int}(h:TB W B A n c s at_)(k:Nat):W.frozen? ⟨B,k,none⟩=false:=Lib.frozen_of_heap h k
theorem TB.lt{W:World}{B:Nat}{A:Option Addr}{n c:Nat}{s:ByteArray}{at_:Int}(h:TB W B A n c s at_):B<W.heap.size:=block_lt h
theorem co_good(l:List ByteArray)(s:ByteArray)(at_:Int)(A:Option Addr)(n cap:Nat)(w:World)(hs:SlN w A n cap l)(hp:∀ x∈l,x.size≤9223372036854775807) :
 Calls Tryz.prog 93 #[tpV A n cap s at_] w (Ret (.bool (tpG l at_)) w):=by
 have hT:=TB.new w A n cap s at_;have hB:=(Below.refl w.heap.size w).alloc nlr (.cells #[.slice A n cap,.string s,.int .i64 at_] 30);have HC:=Hq (sl_ContainsFuncC l A n cap _ (hs.kept hB nlr) hp);rw[any_nonv]at HC;have HB:=Hq hB;obtain⟨c0,c1,c2⟩:=hT.c;have HR:=Hq (show tpG l at_=(decide (0≤at_)&&decide (at_≤2147483647)&&l.all nvalid)from rfl);obtain⟨b,hb⟩:∃ b,l.all nvalid=b:=⟨_,rfl⟩;rw[hb]at HC HR;rw[HR.out];unfold tpV;clear hT hB hs hp hb HR;by_cases h0:0≤at_
 · by_cases h1:at_≤2147483647
   · rw[decide_eq_true h0,decide_eq_true h1,Bool.true_and,Bool.true_and];go_enter Tryz.func93,Tryz.ntmps93;go_wp2_with fail;refine HC.out.mono ?_;rintro e w1 ⟨rfl,rfl⟩;go_wp2;go_ret;exact⟨rfl,HB.out⟩
   · rw[decide_eq_true h0,decide_eq_false h1,Bool.true_and,Bool.false_and];go_enter Tryz.func93,Tryz.ntmps93;have h1':decide (at_≤2147483647)=false:=decide_eq_false h1;go_wp2;go_ret;exact⟨rfl,HB.out⟩
 · rw[decide_eq_false h0,Bool.false_and,Bool.false_and];go_enter Tryz.func93,Tryz.ntmps93;have h0':decide (0≤at_)=false:=decide_eq_false h0;go_wp2;go_ret;exact⟨rfl,HB.out⟩
def rdN(l:List ByteArray)(at_:Int)(B:ByteArray):Int:=if (tpG l at_&&nvalid B)=true then(if B.toList.isEmpty=true then 11 else 0)else 3
theorem co_ready(l:List ByteArray)(s:ByteArray)(at_:Int)(B:ByteArray)(A:Option Addr)(n cap:Nat)(w:World)(hs:SlN w A n cap l)(hp:∀ x∈l,x.size≤9223372036854775807)(hB:B.size≤9223372036854775807) :
 Calls Tryz.prog 67 #[tpV A n cap s at_,.string B] w (Ret (.int .i64 (rdN l at_ B)) w):=by
 have hT:=TB.new w A n cap s at_;have hb0:=(Below.refl w.heap.size w).alloc nlr (.cells #[.slice A n cap,.string s,.int .i64 at_] 30);have HC:=Hq (co_good l s at_ A n cap _ (hs.kept hb0 nlr) hp);have HV:=Hq (nat_Valid B hB);have HB:=Hq hb0;obtain⟨c0,c1,c2⟩:=hT.c;have HR:=Hq (show rdN l at_ B=if (tpG l at_&&nvalid B)=true then(if B.toList.isEmpty=true then 11 else 0)else 3 from rfl);obtain⟨b1,hb1⟩:∃ b,tpG l at_=b:=⟨_,rfl⟩;obtain⟨b2,hb2⟩:∃ b,nvalid B=b:=⟨_,rfl⟩;obtain⟨b3,hb3⟩:∃ b,B.toList.isEmpty=b:=⟨_,rfl⟩;rw[hb1,hb2,hb3]at HR;rw[hb1]at HC;rw[hb2]at HV;obtain⟨R,hR⟩:∃ R,rdN l at_ B=R:=⟨_,rfl⟩;rw[hR]at HR⊢;unfold tpV at *;clear hT hb0 hs hp hb1 hb2 hB hR;go_enter Tryz.func67,Tryz.ntmps67;go_wp2_with fail;refine HC.out.mono ?_;rintro e w1 ⟨rfl,hb⟩;have HB1:=Hq (HB.out.trans (hb.mono HB.out.size));clear hb c0 c1 c2
 cases b1 with
 | false =>
  clear hb3;go_wp2;go_ret;exact⟨by rw[HR.out];rfl,HB1.out⟩
 | true =>
  go_wp2_with fail;refine(HV.out _).mono ?_;rintro e w2 ⟨rfl,rfl⟩
  cases b2 with
  | false =>
   clear hb3;go_wp2;go_ret;exact⟨by rw[HR.out];rfl,HB1.out⟩
  | true =>
   cases b3 with
   | false =>
    go_wp2;go_ret;exact⟨by rw[HR.out];rfl,HB1.out⟩
   | true =>
    go_wp2;go_ret;exact⟨by rw[HR.out];rfl,HB1.out⟩
set_option maxRecDepth 100000
set_option maxHeartbeats 4000000
def chkN(m o:Nat):Int:=if o=0 then(if m%2=0∨m≤8 then 13 else 0)else if m≤1∨o=1∨¬ (m - 1)%o=0 then 13 else 0
def chkK(M O:ByteArray):Int:=if (nvalid M&&nvalid O)=true then chkN (num M) (num O)else 3
theorem bit0(m:Nat):bitB m 0=decide (m%2=1):=by
 unfold bitB;rw[Nat.pow_zero,Nat.div_one,Bool.eq_iff_iff,beq_iff_eq,decide_eq_true_eq]
theorem pw_Check_bad(M O:ByteArray)(hM:M.size≤1000)(hO:O.size≤1000)(hv:(nvalid M&&nvalid O)=false)(w:World):Calls Tryz.prog 65 #[gV M O] w (Ret (.int .i64 3) w):=by
 have HV1:=Hq (nat_Valid M (by omega));have HV2:=Hq (nat_Valid O (by omega));obtain⟨s,hs⟩:∃ s,M=s:=⟨_,rfl⟩;obtain⟨t,ht⟩:∃ t,O=t:=⟨_,rfl⟩;rw[hs]at HV1 hv⊢;rw[ht]at HV2 hv⊢;clear hs ht hM hO;unfold gV
 cases h1:nvalid s with
 | false =>
  rw[h1]at HV1;clear h1 hv;go_enter Tryz.func65,Tryz.ntmps65;have HX0:=Hq (Bx2.new w (.string s) (.string t) 24);have HB0:=Hq ((Below.refl w.heap.size w).alloc nlr (.cells #[.string s,.string t] 24));obtain⟨W0,hW0⟩:∃ W0,w.alloc (.cells #[.string s,.string t] 24)=W0:=⟨_,rfl⟩;rw[hW0]at HX0 HB0;have HW0:=Hq hW0;clear hW0;go_wp2_with fail;rw[HW0.out];refine(HV1.out _).mono ?_;rintro e w1 ⟨rfl,rfl⟩;have c0:=HX0.out.c0;have c1:=HX0.out.c1;go_wp2;go_ret;exact⟨rfl,HB0.out⟩
 | true =>
  rw[h1,Bool.true_and]at hv;rw[h1]at HV1;rw[hv]at HV2;clear h1 hv;go_enter Tryz.func65,Tryz.ntmps65;have HX0:=Hq (Bx2.new w (.string s) (.string t) 24);have HB0:=Hq ((Below.refl w.heap.size w).alloc nlr (.cells #[.string s,.string t] 24));obtain⟨W0,hW0⟩:∃ W0,w.alloc (.cells #[.string s,.string t] 24)=W0:=⟨_,rfl⟩;rw[hW0]at HX0 HB0;have HW0:=Hq hW0;clear hW0;go_wp2_with fail;rw[HW0.out];refine(HV1.out _).mono ?_;rintro e w1 ⟨rfl,rfl⟩;have c0:=HX0.out.c0;have c1:=HX0.out.c1;go_wp2_with fail;refine(HV2.out _).mono ?_;rintro e w1 ⟨rfl,rfl⟩;go_wp2;go_ret;exact⟨rfl,HB0.out⟩
theorem pw_Check_none(m:Nat)(hm:m<18446744073709551616)(w:World):Calls Tryz.prog 65 #[gV (nS m) (nS 0)] w (Ret (.int .i64 (if m%2=0∨m≤8 then 13 else 0)) w):=by
 have HV1:=Hq (nat_Valid (nS m) (by have:=nS_small_size hm;omega));have HV2:=Hq (nat_Valid (nS 0) (by decide));rw[nvalid_nS.2 (lt128_of_lt8 hm)]at HV1;rw[nvalid_nS.2 (by decide)]at HV2;have HBT:=Hq (nat_Bit m 0 (lt128_of_lt8 hm) (by omega));have HCM:=Hq (nat_Cmp (nS m) (nS 8) (by have:=nS_small_size hm;omega) (by decide));rw[ncmp_n (lt128_of_lt8 hm) (by decide)]at HCM;have HO:=Hq (nat_Of 8 (by decide));rw[nS_zero]at HV2⊢;obtain⟨s,hs⟩:∃ s,nS m=s:=⟨_,rfl⟩;obtain⟨u,hu⟩:∃ u,nS 8=u:=⟨_,rfl⟩;rw[hs]at HV1 HBT HCM⊢;rw[hu]at HCM;have HO':=Hq (fun w=>show Calls Tryz.prog 23 #[.int .u64 (8:Nat)] w (Ret (.string u) w)from by have:=HO.out w;rw[show bstr (encN 8)=u from hu]at this;exact this);have HTT:=Hq (show (⟨#[]⟩:ByteArray)=⟨#[]⟩from rfl);obtain⟨t,ht⟩:∃ t:ByteArray,⟨#[]⟩=t:=⟨_,rfl⟩;have het:t.toList.isEmpty=true:=by rw[←ht];exact sempty_true rfl
 rw[ht]at HV2⊢;clear hs hu ht HO HTT;unfold gV;by_cases hodd:m%2=0
 · rw[bit0,decide_eq_false (by omega)]at HBT;rw[if_pos (.inl hodd)];clear hodd hm;go_enter Tryz.func65,Tryz.ntmps65;have HX0:=Hq (Bx2.new w (.string s) (.string t) 24);have HB0:=Hq ((Below.refl w.heap.size w).alloc nlr (.cells #[.string s,.string t] 24));obtain⟨W0,hW0⟩:∃ W0,w.alloc (.cells #[.string s,.string t] 24)=W0:=⟨_,rfl⟩;rw[hW0]at HX0 HB0;have HW0:=Hq hW0;clear hW0;go_wp2_with fail;rw[HW0.out];refine(HV1.out _).mono ?_;rintro e w1 ⟨rfl,rfl⟩;have c0:=HX0.out.c0;have c1:=HX0.out.c1;go_wp2_with fail;refine(HV2.out _).mono ?_;rintro e w1 ⟨rfl,rfl⟩;go_wp2;have d0:W0.drew.cell? ⟨w.heap.size,0,none⟩=some (.string s):=c0;have d1:W0.drew.cell? ⟨w.heap.size,1,none⟩=some (.string t):=c1;rename_i K4 hK4;refine wp_onlyN ?_;refine wp_region_K 11 (Below (W0.drew).heap.size (W0.drew)) (by kernel_rfl) ?_;intro hD;refine rP 0 21 10 rfl hD blr ?_;clear hD;intro hD;refine rT 1 22 9 rfl hD blr (by intro w' hS';have e0:=kC hS' d0;have e1:=kC hS' d1;go_simp;with_reducible rfl) ?_;clear hD;intro hD;simp only[Act.put,sqA,sqB,sqC];refine rO 2 8 rfl hD ?_;clear hD;intro K2 hK2;go_wp2_with fail;refine(HBT.out _).mono ?_;rintro e w2 ⟨rfl,rfl⟩;have HB2:=Hq (Below.refl W0.drew.heap.size W0.drew);go_wp2;refine hK2 _ _ (by exact HB2.out) ?_;clear hK2;intro hS_4_2 hD;refine rP 3 24 7 rfl hD hS_4_2 ?_;clear hD;intro hD;refine rP 4 25 6 rfl hD hS_4_2 ?_;clear hD;intro hD;refine rU 5 26 5 rfl hD hS_4_2 ?_;clear hD;intro hD;refine rU 6 27 4 rfl hD hS_4_2 ?_;clear hD;intro hD;refine rU 7 28 3 rfl hD hS_4_2 ?_;clear hD;intro hD;refine rU 8 29 2 rfl hD hS_4_2 ?_;clear hD;intro hD;refine rU 9 30 1 rfl hD hS_4_2 ?_;clear hD;intro hD;refine rP 10 31 0 rfl hD hS_4_2 ?_;clear hD;intro hD;simp only[Act.put,sqA,sqB,sqC];refine wpD ?_;clear hD;have HSX:=Hq hS_4_2;refine hK4 _ _ ?_;go_wp2;go_ret;exact⟨rfl,HB0.out.trans (((blr).drew.trans HSX.out).mono HB0.out.size)⟩
 · rw[bit0,decide_eq_true (show m%2=1 by omega)]at HBT;have HE:=Hq (show (if m%2=0∨m≤8 then(13:Int)else 0)=if m≤8 then 13 else 0 from by
    by_cases h:m≤8
    · rw[if_pos (.inr h),if_pos h]
    · rw[if_neg (by omega),if_neg h])
   rw[HE.out];by_cases h8:m≤8
   · have hg : cmpI m 8 ≤ 0 := by unfold cmpI; split; · decide
                                  · rw[if_neg (by omega)];decide
     obtain⟨c,hc⟩:∃ c,cmpI m 8=c:=⟨_,rfl⟩;rw[hc]at hg HCM;rw[if_pos h8];clear h8 hc hodd hm HE;go_enter Tryz.func65,Tryz.ntmps65;have HX0:=Hq (Bx2.new w (.string s) (.string t) 24);have HB0:=Hq ((Below.refl w.heap.size w).alloc nlr (.cells #[.string s,.string t] 24));obtain⟨W0,hW0⟩:∃ W0,w.alloc (.cells #[.string s,.string t] 24)=W0:=⟨_,rfl⟩;rw[hW0]at HX0 HB0;have HW0:=Hq hW0;clear hW0;go_wp2_with fail;rw[HW0.out];refine(HV1.out _).mono ?_;rintro e w1 ⟨rfl,rfl⟩;have c0:=HX0.out.c0;have c1:=HX0.out.c1;go_wp2_with fail;refine(HV2.out _).mono ?_;rintro e w1 ⟨rfl,rfl⟩;go_wp2;have d0:W0.drew.cell? ⟨w.heap.size,0,none⟩=some (.string s):=c0;have d1:W0.drew.cell? ⟨w.heap.size,1,none⟩=some (.string t):=c1;rename_i K4 hK4;refine wp_onlyN ?_;refine wp_region_K 11 (Below (W0.drew).heap.size (W0.drew)) (by kernel_rfl) ?_;intro hD;refine rP 0 21 10 rfl hD blr ?_;clear hD;intro hD;refine rT 1 22 9 rfl hD blr (by intro w' hS';have e0:=kC hS' d0;have e1:=kC hS' d1;go_simp;with_reducible rfl) ?_;clear hD;intro hD;simp only[Act.put,sqA,sqB,sqC];refine rO 2 8 rfl hD ?_;clear hD;intro K2 hK2;go_wp2_with fail;refine(HBT.out _).mono ?_;rintro e w2 ⟨rfl,rfl⟩;have HB2:=Hq (Below.refl W0.drew.heap.size W0.drew);go_wp2;refine hK2 _ _ (by exact HB2.out) ?_;clear hK2;intro hS_4_2 hD;refine rP 3 24 7 rfl hD hS_4_2 ?_;clear hD;intro hD;refine rP 4 25 6 rfl hD hS_4_2 ?_;clear hD;intro hD;refine rP 5 26 5 rfl hD hS_4_2 ?_;clear hD;intro hD;refine rT 6 27 4 rfl hD hS_4_2 (by intro w' hS';have e0:=kC hS' d0;have e1:=kC hS' d1;go_simp;with_reducible rfl) ?_;clear hD;intro hD;simp only[Act.put,sqA,sqB,sqC];refine rO 7 3 rfl hD ?_;clear hD;intro K7 hK7;go_wp2_with fail;refine(HO'.out _).mono ?_;rintro e w7 ⟨rfl,hb⟩;have HB7:=Hq hb;clear hb;go_wp2;refine hK7 _ _ (by exact Below.trans hS_4_2 (Below.mono HB7.out (Below.size hS_4_2))) ?_;clear hK7;intro hS_4_7 hD;refine rO 8 2 rfl hD ?_;clear hD;intro K8 hK8;go_wp2_with fail;refine(HCM.out _).mono ?_;rintro e w8 ⟨rfl,rfl⟩;have HB8:=Hq (Below.refl w7.heap.size w7);go_wp2;refine hK8 _ _ (by exact Below.trans hS_4_7 (Below.mono HB8.out (Below.size hS_4_7))) ?_;clear hK8;intro hS_4_8 hD;refine rP 9 30 1 rfl hD hS_4_8 ?_;clear hD;intro hD;refine rP 10 31 0 rfl hD hS_4_8 ?_;clear hD;intro hD;simp only[Act.put,sqA,sqB,sqC];refine wpD ?_;clear hD;have HSX:=Hq hS_4_8;refine hK4 _ _ ?_;go_wp2;go_ret;exact⟨rfl,HB0.out.trans (((blr).drew.trans HSX.out).mono HB0.out.size)⟩
   · rw[show cmpI m 8=1 from by unfold cmpI;rw[if_neg (by omega),if_pos (by omega)]]at HCM;rw[if_neg h8];clear h8 hodd hm HE;go_enter Tryz.func65,Tryz.ntmps65;have HX0:=Hq (Bx2.new w (.string s) (.string t) 24);have HB0:=Hq ((Below.refl w.heap.size w).alloc nlr (.cells #[.string s,.string t] 24));obtain⟨W0,hW0⟩:∃ W0,w.alloc (.cells #[.string s,.string t] 24)=W0:=⟨_,rfl⟩;rw[hW0]at HX0 HB0;have HW0:=Hq hW0;clear hW0;go_wp2_with fail;rw[HW0.out];refine(HV1.out _).mono ?_;rintro e w1 ⟨rfl,rfl⟩;have c0:=HX0.out.c0;have c1:=HX0.out.c1;go_wp2_with fail;refine(HV2.out _).mono ?_;rintro e w1 ⟨rfl,rfl⟩;go_wp2;have d0:W0.drew.cell? ⟨w.heap.size,0,none⟩=some (.string s):=c0;have d1:W0.drew.cell? ⟨w.heap.size,1,none⟩=some (.string t):=c1;rename_i K4 hK4;refine wp_onlyN ?_;refine wp_region_K 11 (Below (W0.drew).heap.size (W0.drew)) (by kernel_rfl) ?_;intro hD;refine rP 0 21 10 rfl hD blr ?_;clear hD;intro hD;refine rT 1 22 9 rfl hD blr (by intro w' hS';have e0:=kC hS' d0;have e1:=kC hS' d1;go_simp;with_reducible rfl) ?_;clear hD;intro hD;simp only[Act.put,sqA,sqB,sqC];refine rO 2 8 rfl hD ?_;clear hD;intro K2 hK2;go_wp2_with fail;refine(HBT.out _).mono ?_;rintro e w2 ⟨rfl,rfl⟩;have HB2:=Hq (Below.refl W0.drew.heap.size W0.drew);go_wp2;refine hK2 _ _ (by exact HB2.out) ?_;clear hK2;intro hS_4_2 hD;refine rP 3 24 7 rfl hD hS_4_2 ?_;clear hD;intro hD;refine rP 4 25 6 rfl hD hS_4_2 ?_;clear hD;intro hD;refine rP 5 26 5 rfl hD hS_4_2 ?_;clear hD;intro hD;refine rT 6 27 4 rfl hD hS_4_2 (by intro w' hS';have e0:=kC hS' d0;have e1:=kC hS' d1;go_simp;with_reducible rfl) ?_;clear hD;intro hD;simp only[Act.put,sqA,sqB,sqC];refine rO 7 3 rfl hD ?_;clear hD;intro K7 hK7;go_wp2_with fail;refine(HO'.out _).mono ?_;rintro e w7 ⟨rfl,hb⟩;have HB7:=Hq hb;clear hb;go_wp2;refine hK7 _ _ (by exact Below.trans hS_4_2 (Below.mono HB7.out (Below.size hS_4_2))) ?_;clear hK7;intro hS_4_7 hD;refine rO 8 2 rfl hD ?_;clear hD;intro K8 hK8;go_wp2_with fail;refine(HCM.out _).mono ?_;rintro e w8 ⟨rfl,rfl⟩;have HB8:=Hq (Below.refl w7.heap.size w7);go_wp2;refine hK8 _ _ (by exact Below.trans hS_4_7 (Below.mono HB8.out (Below.size hS_4_7))) ?_;clear hK8;intro hS_4_8 hD;refine rP 9 30 1 rfl hD hS_4_8 ?_;clear hD;intro hD;refine rP 10 31 0 rfl hD hS_4_8 ?_;clear hD;intro hD;simp only[Act.put,sqA,sqB,sqC];refine wpD ?_;clear hD;have HSX:=Hq hS_4_8;refine hK4 _ _ ?_;go_wp2;go_ret;exact⟨rfl,HB0.out.trans (((blr).drew.trans HSX.out).mono HB0.out.size)⟩
end Go.Proofs.YtfbmbledklbfgaaGreatDoor

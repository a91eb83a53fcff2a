import Derived.Test.YtdhnkmbjogmmkaaGreatDoorQPwG
set_option linter.unusedVariables false
set_option linter.unusedSimpArgs false
namespace Go.Proofs.YtdhnkmbjogmmkaaGreatDoor
set_option maxRecDepth 100000
set_option maxHeartbeats 2000000
open Go.RowKit
def bsL:List Nat:=[2,3,5,7,11,13,17,19,23,29,31,37]
def bsN(j:Nat):Nat:=bsL.getD j 0
def bsV:Array Value:=#[.int .u64 2,.int .u64 3,.int .u64 5,.int .u64 7,.int .u64 11,.int .u64 13,.int .u64 17,.int .u64 19,.int .u64 23,.int .u64 29,.int .u64 31,.int .u64 37]
theorem bs_pos{j:Nat}(h:j<12):2≤bsN j∧bsN j≤37:=by
 match j,h with
 | 0,_ | 1,_ | 2,_ | 3,_ | 4,_ | 5,_ | 6,_ | 7,_ | 8,_ | 9,_ | 10,_ | 11,_=>decide
theorem bs_index{j:Nat}(h:j<12)(w:World):(Instr.index 114 (.agg bsV) (.int .i64 j)).run Tryz.prog w=.ok (.int .u64 (bsN j)) w:=by
 have e:j=0∨j=1∨j=2∨j=3∨j=4∨j=5∨j=6∨j=7∨j=8∨j=9∨j=10∨j=11:=by omega
 rcases e with rfl | rfl | rfl | rfl | rfl | rfl | rfl | rfl | rfl | rfl | rfl | rfl<;>(show _=_;kernel_rfl)
theorem prime_bases(w:World):Calls Tryz.prog 84 #[] w (Ret (.agg bsV) w):=by
 go_enter Tryz.func84,Tryz.ntmps84;go_wp2;refine bodyPost_ret (v:=.agg bsV) ?_ rfl ⟨rfl,(blr).alloc nlr _⟩;simp[results,Tryz.results84,go_sem,bsV]
theorem prime_is_small(n i:Nat)(h2:2≤n)(h8:n<18446744073709551616)(hi:i<12)(hd:n%bsN i=0)(hno:∀ j,j<i→¬ (n%bsN j=0))(w:World):Calls Tryz.prog 47 #[.int .u64 n] w (Ret (.bool (decide (n=bsN i))) w):=by
 have HNO:=Hq hno;have HD:=Hq hd;have hn2:((n:Int)<2)=False:=eq_false (by omega);clear hno hd;go_enter Tryz.func47,Tryz.ntmps47;go_wp2;go_step3;go_wp2_with fail;refine(prime_bases _).mono ?_;rintro e w1 ⟨rfl,hb1⟩;have HB1:=Hq hb1;clear hb1;go_wp2
 go_loop [4,14] (fun p k=>∃ j:Nat,j≤i∧k=.int .i64 j) (fun p k=>12 - (intOf k).toNat)
 case atStart=>exact⟨0,Nat.zero_le _,rfl⟩
 case round =>
  obtain⟨j,hj,rfl⟩:=hrel;have hidx:=fun(w:World)=>bs_index (j:=j) (by omega) w;have hp:=bs_pos (j:=j) (by omega);obtain⟨q,hq⟩:∃ q,bsN j=q:=⟨_,rfl⟩;obtain⟨r,hr⟩:∃ r,n%q=r:=⟨_,rfl⟩;have hrr:(n:Int)%(q:Int)=(r:Int):=by rw[←hr];rfl
  have hr8:r<18446744073709551616:=by rw[←hr];exact Nat.lt_trans (Nat.mod_lt _ (by omega)) (by omega)
  have hwx:IntKind.u64.wrap (r:Int)=(r:Int):=u64_wrap r hr8;have hq0:¬ (q=0):=by omega
  have hlt:((j:Int)<12)=True:=eq_true (by omega);by_cases hji:j<i
  · have hr0:((r:Int)==0)=false:=(by rw[beq_eq_false_iff_ne];have:=HNO.out j hji;rw[hq,hr]at this;omega);rw[hq]at hidx;clear hq hr hp hr8;go_wp2;go_round;case rel=>exact⟨j+1,by omega,by go_num⟩
    case measure=>simp[intOf];omega
  · obtain rfl:j=i:=by omega
    have hr0:r=0:=(by have:=HD.out;rw[hq,hr]at this;exact this);rw[hr0]at hrr;rw[hq];rw[hq]at hidx;clear hq hr hp hr8 hwx hr0 hji;go_wp2;go_ret;exact⟨by rw[show ((n:Int)==(q:Int))=decide (n=q)from by rw[Bool.eq_iff_iff,beq_iff_eq,decide_eq_true_eq];omega];rfl,HB1.out⟩
theorem prime_small_n(n:Nat)(h8:n<18446744073709551616)(w:World):Calls Tryz.prog 46 #[.string (nS n)] w (RetQ (.tuple #[.int .u64 n,.int .i64 0]) w):=by
 have HV:=Hq (nat_Valid (nS n) (nS_size63 (lt128_of_lt8 h8)));rw[nvalid_nS.2 (lt128_of_lt8 h8)]at HV;have HS:=Hq (nat_Small_n n h8);obtain⟨s,hs⟩:∃ s,nS n=s:=⟨_,rfl⟩;rw[hs]at HV HS⊢;clear hs h8;go_enter Tryz.func46,Tryz.ntmps46;go_wp2_with fail;refine(HV.out _).mono ?_;rintro e w1 ⟨rfl,rfl⟩;go_wp2_with fail;refine(HS.out _).mono ?_;rintro e w1 ⟨rfl,rfl⟩;go_wp2;go_ret2;exact⟨rfl,rfl⟩
theorem prime_Is_n(n:Nat)(h8:n<18446744073709551616)(b:Bool)(h:∀ w,Calls Tryz.prog 47 #[.int .u64 n] w (Ret (.bool b) w))(w:World):Calls Tryz.prog 30 #[.string (nS n)] w (Ret (.tuple #[.bool b,.int .i64 0]) w):=by
 have HS:=Hq (prime_small_n n h8);have HI:=Hq h;obtain⟨s,hs⟩:∃ s,nS n=s:=⟨_,rfl⟩;rw[hs]at HS⊢;clear hs h8 h;go_enter Tryz.func30,Tryz.ntmps30;go_wp2_with fail;refine(HS.out _).mono ?_;rintro e w1 ⟨rfl,rfl⟩;go_wp2_with fail;refine(HI.out _).mono ?_;rintro e w1 ⟨rfl,hb1⟩;have HB1:=Hq hb1;clear hb1;go_wp2;go_ret2;exact⟨rfl,HB1.out⟩
theorem pg_cofactor(m q:Nat)(hm:1≤m)(hm8:m<18446744073709551616)(hq:1≤q)(hq8:q<256 ^ 128)(w:World):Calls Tryz.prog 19 #[gV (nS m) (nS q)] w (Ret (.tuple #[.string (nS ((m - 1) / q)),.bool (decide ((m - 1)%q=0))]) w):=by
 have HS:=Hq (nat_Sub_ge m 1 (lt128_of_lt8 hm8) (by decide) hm);have HD:=Hq (nat_DivMod (m - 1) q (by omega) hq8 hq);have hq0:=empty_nS (n:=q) hq;rw[nS_one]at HS;have HZ:=Hq (show (nS ((m - 1)%q)).toList.isEmpty=decide ((m - 1)%q=0)from by
  cases e:decide ((m - 1)%q=0)with
  | true=>rw[of_decide_eq_true e];exact sempty_true rfl
  | false=>exact empty_nS (by have:=of_decide_eq_false e;omega))
 obtain⟨s,hs⟩:∃ s,nS m=s:=⟨_,rfl⟩;obtain⟨t,ht⟩:∃ t,nS q=t:=⟨_,rfl⟩;obtain⟨u,hu⟩:∃ u,nS (m - 1)=u:=⟨_,rfl⟩;obtain⟨r,hr⟩:∃ r,nS ((m - 1)%q)=r:=⟨_,rfl⟩;rw[hs,hu]at HS;rw[hu,ht,hr]at HD;rw[ht]at hq0;rw[hr]at HZ;rw[hs,ht,←HZ.out];clear hs ht hu hr hm hm8 hq hq8;have HX0:=Hq (Bx2.new w (.string s) (.string t) 24);have HB0:=Hq ((Below.refl w.heap.size w).alloc nlr (.cells #[.string s,.string t] 24));have c0:=HX0.out.c0;unfold gV;go_enter Tryz.func19,Tryz.ntmps19;go_wp2_with fail;refine(HS.out _).mono ?_;rintro e w1 ⟨rfl,hb1⟩;have HX1:=Hq (HX0.out.next hb1);have HB1:=Hq (HB0.out.trans (hb1.mono HB0.out.size));clear hb1 c0;have c1:=HX1.out.c1;go_wp2_with fail;refine(HD.out _).mono ?_;rintro e w2 ⟨rfl,hb2⟩;have HB2:=Hq (HB1.out.trans (hb2.mono HB1.out.size));clear hb2;go_wp2;go_ret2;exact⟨rfl,HB2.out⟩
def chkV(m q:Nat)(bm bq:Bool):Int:=if bm=false then 12 else if bq=false then 12 else if (m - 1)%q=0 then 0 else 13
theorem pg_Check_n(m q:Nat)(bm bq:Bool)(hm8:m<18446744073709551616)(hq8:q<18446744073709551616)(H1:∀ w,Calls Tryz.prog 47 #[.int .u64 m] w (Ret (.bool bm) w))(H2:∀ w,Calls Tryz.prog 47 #[.int .u64 q] w (Ret (.bool bq) w))
 (h1:bm=true→1≤m) (h2:bq=true→1≤q) (w:World):Calls Tryz.prog 13 #[gV (nS m) (nS q)] w (Ret (.int .i64 (chkV m q bm bq)) w):=by
 have hz1:=nS_small_size hm8;have hz2:=nS_small_size hq8;have HF:=Hq (pg_formed (nS m) (nS q) (by omega) (by omega));rw[nS_valid_small hm8,nS_valid_small hq8,Bool.and_true]at HF;have HI1:=Hq (prime_Is_n m hm8 bm H1);have HI2:=Hq (prime_Is_n q hq8 bq H2);have HCO:=Hq (fun a b=>pg_cofactor m q a hm8 b (lt128_of_lt8 hq8));have HH1:=Hq h1;have HH2:=Hq h2;obtain⟨s,hs⟩:∃ s,nS m=s:=⟨_,rfl⟩;obtain⟨t,ht⟩:∃ t,nS q=t:=⟨_,rfl⟩;rw[hs,ht]at HF HCO;rw[hs]at HI1 hz1;rw[ht]at HI2 hz2;rw[hs,ht];clear hs ht H1 H2 h1 h2 hm8 hq8;have HX0:=Hq (Bx2.new w (.string s) (.string t) 24);have HB0:=Hq ((Below.refl w.heap.size w).alloc nlr (.cells #[.string s,.string t] 24));have c0:=HX0.out.c0;have c1:=HX0.out.c1;have i1:(s.size:Int)≤8:=by omega
 have i2:(t.size:Int)≤8:=by omega
 unfold gV at *
 cases bm with
 | false =>
  go_enter Tryz.func13,Tryz.ntmps13;go_wp2_with fail;refine(HF.out _).mono ?_;rintro e w1 ⟨rfl,hb1⟩;have HX1:=Hq (HX0.out.next hb1);have HB1:=Hq (HB0.out.trans (hb1.mono HB0.out.size));clear hb1 c0 c1;have c0:=HX1.out.c0;have c1:=HX1.out.c1;go_wp2_with fail;refine(HI1.out _).mono ?_;rintro e w2 ⟨rfl,hb2⟩;have HX2:=Hq (HX1.out.next hb2);have HB2:=Hq (HB1.out.trans (hb2.mono HB1.out.size));clear hb2 c0 c1;have c0:=HX2.out.c0;have c1:=HX2.out.c1;go_wp2;go_ret;exact⟨rfl,HB2.out⟩
 | true =>
  cases bq with
  | false =>
   go_enter Tryz.func13,Tryz.ntmps13;go_wp2_with fail;refine(HF.out _).mono ?_;rintro e w1 ⟨rfl,hb1⟩;have HX1:=Hq (HX0.out.next hb1);have HB1:=Hq (HB0.out.trans (hb1.mono HB0.out.size));clear hb1 c0 c1;have c0:=HX1.out.c0;have c1:=HX1.out.c1;go_wp2_with fail;refine(HI1.out _).mono ?_;rintro e w2 ⟨rfl,hb2⟩;have HX2:=Hq (HX1.out.next hb2);have HB2:=Hq (HB1.out.trans (hb2.mono HB1.out.size));clear hb2 c0 c1;have c0:=HX2.out.c0;have c1:=HX2.out.c1;go_wp2_with fail;refine(HI2.out _).mono ?_;rintro e w3 ⟨rfl,hb3⟩;have HX3:=Hq (HX2.out.next hb3);have HB3:=Hq (HB2.out.trans (hb3.mono HB2.out.size));clear hb3 c0 c1;have c0:=HX3.out.c0;have c1:=HX3.out.c1;go_wp2;go_ret;exact⟨rfl,HB3.out⟩
  | true =>
   have HC:=Hq (HCO.out (HH1.out rfl) (HH2.out rfl));by_cases hd:(m - 1)%q=0
   · rw[decide_eq_true hd]at HC;have HR:=Hq (show chkV m q true true=0 from by unfold chkV;rw[if_neg (by decide),if_neg (by decide),if_pos hd]);clear hd;rw[HR.out];go_enter Tryz.func13,Tryz.ntmps13;go_wp2_with fail;refine(HF.out _).mono ?_;rintro e w1 ⟨rfl,hb1⟩;have HX1:=Hq (HX0.out.next hb1);have HB1:=Hq (HB0.out.trans (hb1.mono HB0.out.size));clear hb1 c0 c1;have c0:=HX1.out.c0;have c1:=HX1.out.c1;go_wp2_with fail;refine(HI1.out _).mono ?_;rintro e w2 ⟨rfl,hb2⟩;have HX2:=Hq (HX1.out.next hb2);have HB2:=Hq (HB1.out.trans (hb2.mono HB1.out.size));clear hb2 c0 c1;have c0:=HX2.out.c0;have c1:=HX2.out.c1;go_wp2_with fail;refine(HI2.out _).mono ?_;rintro e w3 ⟨rfl,hb3⟩;have HX3:=Hq (HX2.out.next hb3);have HB3:=Hq (HB2.out.trans (hb3.mono HB2.out.size));clear hb3 c0 c1;have c0:=HX3.out.c0;have c1:=HX3.out.c1;go_wp2_with fail;refine(HC.out _).mono ?_;rintro e w4 ⟨rfl,hb4⟩;have HX4:=Hq (HX3.out.next hb4);have HB4:=Hq (HB3.out.trans (hb4.mono HB3.out.size));clear hb4 c0 c1;have c0:=HX4.out.c0;have c1:=HX4.out.c1;go_wp2;go_ret;exact⟨rfl,HB4.out⟩
   · rw[decide_eq_false hd]at HC;have HR:=Hq (show chkV m q true true=13 from by unfold chkV;rw[if_neg (by decide),if_neg (by decide),if_neg hd]);clear hd;rw[HR.out];go_enter Tryz.func13,Tryz.ntmps13;go_wp2_with fail;refine(HF.out _).mono ?_;rintro e w1 ⟨rfl,hb1⟩;have HX1:=Hq (HX0.out.next hb1);have HB1:=Hq (HB0.out.trans (hb1.mono HB0.out.size));clear hb1 c0 c1;have c0:=HX1.out.c0;have c1:=HX1.out.c1;go_wp2_with fail;refine(HI1.out _).mono ?_;rintro e w2 ⟨rfl,hb2⟩;have HX2:=Hq (HX1.out.next hb2);have HB2:=Hq (HB1.out.trans (hb2.mono HB1.out.size));clear hb2 c0 c1;have c0:=HX2.out.c0;have c1:=HX2.out.c1;go_wp2_with fail;refine(HI2.out _).mono ?_;rintro e w3 ⟨rfl,hb3⟩;have HX3:=Hq (HX2.out.next hb3);have HB3:=Hq (HB2.out.trans (hb3.mono HB2.out.size));clear hb3 c0 c1;have c0:=HX3.out.c0;have c1:=HX3.out.c1;go_wp2_with fail;refine(HC.out _).mono ?_;rintro e w4 ⟨rfl,hb4⟩;have HX4:=Hq (HX3.out.next hb4);have HB4:=Hq (HB3.out.trans (hb4.mono HB3.out.size));clear hb4 c0 c1;have c0:=HX4.out.c0;have c1:=HX4.out.c1;go_wp2;go_ret;exact⟨rfl,HB4.out⟩
end Go.Proofs.YtdhnkmbjogmmkaaGreatDoor

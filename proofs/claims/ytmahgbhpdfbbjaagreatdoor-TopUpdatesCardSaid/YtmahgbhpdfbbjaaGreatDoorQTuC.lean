import Derived.Test.YtmahgbhpdfbbjaaGreatDoorQMrA
set_option linter.unusedVariables false
set_option linter.unusedSimpArgs false
namespace Go.Proofs.YtmahgbhpdfbbjaaGreatDoor
set_option maxRecDepth 100000
set_option maxHeartbeats 1000000
open Go.RowKit
def tzT:List Nat:=[0,1,56,2,57,49,28,3,61,58,42,50,38,29,17,4,62,47,59,36,45,43,51,22,53,39,33,30,24,18,12,5,63,55,48,27,60,41,37,16,46,35,44,21,52,32,23,11,54,26,40,15,34,20,31,10,25,14,19,9,13,8,7,6]
def tzN(i:Nat):Nat:=tzT.getD i 0
theorem tz_hit:∀ k:Fin 64,tzN (2 ^ k.val * 285870213051353865%18446744073709551616 / 288230376151711744)=k.val:=by decide +kernel
theorem tz_idx(k:Nat):2 ^ k * 285870213051353865%18446744073709551616 / 288230376151711744<64:=by
 have:=Nat.mod_lt (2 ^ k * 285870213051353865) (show 0<18446744073709551616 by decide);omega
theorem low_bit(k j:Nat)(h:2 ^ (k+1) * j+2 ^ k<2 ^ 64):(2 ^ (k+1) * j+2 ^ k) &&& (2 ^ 64 - (2 ^ (k+1) * j+2 ^ k))=2 ^ k:=by
 have hp:0<2 ^ k:=Nat.two_pow_pos k;have h2:2 ^ k<2 ^ (k+1):=by rw[Nat.pow_succ];omega
 obtain⟨z,hz⟩:∃ z,z=2 ^ (k+1) * j+(2 ^ k - 1):=⟨_,rfl⟩;have hx:2 ^ (k+1) * j+2 ^ k=z+1:=by omega
 have hk:k<64:=by
  rcases Nat.lt_or_ge k 64 with a | a
  · exact a
  · have b:2 ^ 64≤2 ^ k:=Nat.pow_le_pow_right (by decide) a;omega
 apply Nat.eq_of_testBit_eq;intro i;rw[Nat.testBit_and];rw[show 2 ^ 64 - (2 ^ (k+1) * j+2 ^ k)=2 ^ 64 - (z+1)by rw[hx]];rw[Nat.testBit_two_pow_sub_succ (by omega),Nat.testBit_two_pow];rw[Nat.testBit_two_pow_mul_add j h2,hz,Nat.testBit_two_pow_mul_add j (by omega)];by_cases h1:i<k+1
 · rw[if_pos h1,if_pos h1,Nat.testBit_two_pow,Nat.testBit_two_pow_sub_one];by_cases h3:k=i
   · subst h3;simp[hk]
   · have : i<k:=by omega
     simp[this];omega
 · rw[if_neg h1,if_neg h1];have : ¬ (k=i):=by omega
   rw[decide_eq_false this];cases j.testBit (i - (k+1))<;>simp
def TabAt(w:World):Prop:=∀ i,i<64→w.cell? ⟨0,i,none⟩=some (.int .u8 (tzN i))
theorem TabAt.kept{B:Nat}{w w':World}(h:TabAt w)(hb:Below B w w')(hB:w.heap.size≤B):TabAt w':=fun i hi=>cell_kept hb hB (h i hi)
theorem u64_mod(z:Int):IntKind.u64.wrap z=z%18446744073709551616:=by simp[IntKind.wrap,IntKind.bits,IntKind.signed]
theorem bits_tz(k j:Nat)(h:2 ^ (k+1) * j+2 ^ k<18446744073709551616)(w:World)(ht:TabAt w):Calls Tryz.prog 100 #[.int .u64 ((2 ^ (k+1) * j+2 ^ k:Nat):Int)] w (RetQ (.int .i64 k) w):=by
 have hk:k<64:=by
  rcases Nat.lt_or_ge k 64 with a | a
  · exact a
  · have b:2 ^ 64≤2 ^ k:=Nat.pow_le_pow_right (by decide) a;omega
 have hp:0<2 ^ k:=Nat.two_pow_pos k;have hlow:=low_bit k j h;obtain⟨x,hx⟩:=nm (2 ^ (k+1) * j+2 ^ k);rw[hx]at hlow h⊢;have hx0:0<x:=by omega
 have en:IntKind.u64.wrap (-(x:Int))=((2 ^ 64 - x:Nat):Int):=by
  have e:-(x:Int)=((2 ^ 64 - x:Nat):Int)+(-1) * 18446744073709551616:=by omega
  rw[u64_mod];omega
 have ea:=bits_and_u64_nat x (2 ^ 64 - x) (by omega) (by omega);rw[hlow]at ea;obtain⟨y,hy⟩:=nm (2 ^ 64 - x);rw[hy]at en ea;have hit:=tz_hit ⟨k,hk⟩;simp only[]at hit;have hidx:=tz_idx k;obtain⟨b,hb⟩:=nm (2 ^ k);rw[hb]at hit hidx ea;have em:IntKind.u64.wrap ((b:Int) * 285870213051353865)=((b * 285870213051353865%18446744073709551616:Nat):Int):=by
  have e:(b:Int) * 285870213051353865=((b * 285870213051353865:Nat):Int):=by omega
  rw[e,u64_mod];rfl
 obtain⟨c,hc⟩:=nm (b * 285870213051353865%18446744073709551616);rw[hc]at em hit hidx;have hx1:((x:Int)==0)=false:=beq_eq_false_iff_ne.2 (by omega);have ht2:=ht _ hidx;rw[hit]at ht2;clear hc hb hy hlow hx h hp hx0 ht hit;go_enter Tryz.func100,Tryz.ntmps100;go_wp2;go_ret;exact⟨rfl,rfl⟩
set_option maxRecDepth 100000
set_option maxHeartbeats 2000000
def bsL:List Nat:=[2,3,5,7,11,13,17,19,23,29,31,37]
def bsN(j:Nat):Nat:=bsL.getD j 0
def bsV:Array Value:=#[.int .u64 2,.int .u64 3,.int .u64 5,.int .u64 7,.int .u64 11,.int .u64 13,.int .u64 17,.int .u64 19,.int .u64 23,.int .u64 29,.int .u64 31,.int .u64 37]
theorem bs_pos{j:Nat}(h:j<12):2≤bsN j∧bsN j≤37:=by
 match j,h with
 | 0,_ | 1,_ | 2,_ | 3,_ | 4,_ | 5,_ | 6,_ | 7,_ | 8,_ | 9,_ | 10,_ | 11,_=>decide
theorem bs_index{j:Nat}(h:j<12)(w:World):(Instr.index 166 (.agg bsV) (.int .i64 j)).run Tryz.prog w=.ok (.int .u64 (bsN j)) w:=by
 have e:j=0∨j=1∨j=2∨j=3∨j=4∨j=5∨j=6∨j=7∨j=8∨j=9∨j=10∨j=11:=by omega
 rcases e with rfl | rfl | rfl | rfl | rfl | rfl | rfl | rfl | rfl | rfl | rfl | rfl<;>(show _=_;kernel_rfl)
theorem prime_bases(w:World):Calls Tryz.prog 99 #[] w (Ret (.agg bsV) w):=by
 go_enter Tryz.func99,Tryz.ntmps99;go_wp2;refine bodyPost_ret (v:=.agg bsV) ?_ rfl ⟨rfl,(blr).alloc nlr _⟩;simp[results,Tryz.results99,go_sem,bsV]
theorem prime_is_small(n i:Nat)(h2:2≤n)(h8:n<18446744073709551616)(hi:i<12)(hd:n%bsN i=0)(hno:∀ j,j<i→¬ (n%bsN j=0))(w:World):Calls Tryz.prog 61 #[.int .u64 n] w (Ret (.bool (decide (n=bsN i))) w):=by
 have HNO:=Hq hno;have HD:=Hq hd;have hn2:((n:Int)<2)=False:=eq_false (by omega);clear hno hd;go_enter Tryz.func61,Tryz.ntmps61;go_wp2;go_step3;go_wp2_with fail;refine(prime_bases _).mono ?_;rintro e w1 ⟨rfl,hb1⟩;have HB1:=Hq hb1;clear hb1;go_wp2
 go_loop [4,14] (fun p k=>∃ j:Nat,j≤i∧k=.int .i64 j) (fun p k=>12 - (intOf k).toNat)
 case atStart=>exact⟨0,Nat.zero_le _,rfl⟩
 case round =>
  obtain⟨j,hj,rfl⟩:=hrel;have hidx:=fun(w:World)=>bs_index (j:=j) (by omega) w;have hp:=bs_pos (j:=j) (by omega);obtain⟨q,hq⟩:=nm (bsN j);obtain⟨r,hr⟩:=nm (n%q);have hrr:(n:Int)%(q:Int)=(r:Int):=by rw[←hr];rfl
  have hr8:r<18446744073709551616:=by rw[←hr];exact Nat.lt_trans (Nat.mod_lt _ (by omega)) (by omega)
  have hwx:IntKind.u64.wrap (r:Int)=(r:Int):=u64_wrap r hr8;have hq0:¬ (q=0):=by omega
  have hlt:((j:Int)<12)=True:=eq_true (by omega);by_cases hji:j<i
  · have hr0:((r:Int)==0)=false:=(by rw[beq_eq_false_iff_ne];have:=HNO.out j hji;rw[hq,hr]at this;omega);rw[hq]at hidx;clear hq hr hp hr8;go_wp2;go_round;case rel=>exact⟨j+1,by omega,by go_num⟩
    case measure=>simp[intOf];omega
  · obtain rfl:j=i:=by omega
    have hr0:r=0:=(by have:=HD.out;rw[hq,hr]at this;exact this);rw[hr0]at hrr;rw[hq];rw[hq]at hidx;clear hq hr hp hr8 hwx hr0 hji;go_wp2;go_ret;exact⟨by rw[show ((n:Int)==(q:Int))=decide (n=q)from by rw[Bool.eq_iff_iff,beq_iff_eq,decide_eq_true_eq];omega];rfl,HB1.out⟩
theorem prime_small_n(n:Nat)(h8:n<18446744073709551616)(w:World):Calls Tryz.prog 60 #[.string (nS n)] w (RetQ (.tuple #[.int .u64 n,.int .i64 0]) w):=by
 have HV:=Hq (nat_Valid (nS n) (nS_size63 (lt128_of_lt8 h8)));rw[nvalid_nS.2 (lt128_of_lt8 h8)]at HV;have HS:=Hq (nat_Small_n n h8);obtain⟨s,hs⟩:=nm (nS n);rw[hs]at HV HS⊢;clear hs h8;go_enter Tryz.func60,Tryz.ntmps60;go_wp2_with fail;refine(HV.out _).mono ?_;rintro e w1 ⟨rfl,rfl⟩;go_wp2_with fail;refine(HS.out _).mono ?_;rintro e w1 ⟨rfl,rfl⟩;go_wp2;go_ret2;exact⟨rfl,rfl⟩
set_option maxRecDepth 100000
set_option maxHeartbeats 4000000
def strongB(n a s d:Nat):Bool:=decide (a ^ d%n=1)||(List.range s).any (fun i=>decide (a ^ (d * 2 ^ i)%n=n - 1))
theorem strong_one{n a s d:Nat}(h:a ^ d%n=1):strongB n a s d=true:=by unfold strongB;rw[decide_eq_true h];rfl
theorem strong_at{n a s d i:Nat}(hi:i<s)(h:a ^ (d * 2 ^ i)%n=n - 1):strongB n a s d=true:=by
 unfold strongB;rw[show (List.range s).any (fun i=>decide (a ^ (d * 2 ^ i)%n=n - 1))=true from List.any_eq_true.2 ⟨i,List.mem_range.2 hi,decide_eq_true h⟩,Bool.or_true]
theorem strong_no{n a s d:Nat}(h:¬ (a ^ d%n=1))(h2:∀ i,i<s→¬ (a ^ (d * 2 ^ i)%n=n - 1)):strongB n a s d=false:=by
 unfold strongB;rw[decide_eq_false h,Bool.false_or,List.any_eq_false];intro i hi;rw[decide_eq_false (h2 i (List.mem_range.1 hi))];decide
def v2F:Nat→Nat→Nat
 | 0,_=>0
 | f+1,m=>if m%2=0 then v2F f (m / 2)+1 else 0
theorem v2F_spec:∀(f m:Nat),0<m→m<2 ^ f→2 ^ v2F f m * (m / 2 ^ v2F f m)=m∧m / 2 ^ v2F f m%2=1
 | 0,m,h0,h=>by simp at h;omega
 | f+1,m,h0,h=>by
  unfold v2F;by_cases h2:m%2=0
  · rw[if_pos h2];obtain⟨h3,h4⟩:=v2F_spec f (m / 2) (by omega) (by rw[Nat.pow_succ]at h;omega);rw[Nat.pow_succ',←Nat.div_div_eq_div_mul];refine⟨?_,h4⟩;rw[Nat.mul_assoc,h3];omega
  · rw[if_neg h2,Nat.pow_zero,Nat.div_one,Nat.one_mul];exact⟨rfl,by omega⟩
def sN(n:Nat):Nat:=v2F 64 (n - 1)
def dN(n:Nat):Nat:=(n - 1) / 2 ^ sN n
theorem sd_spec{n:Nat}(h2:2≤n)(h8:n<18446744073709551616):2 ^ sN n * dN n=n - 1∧dN n%2=1:=v2F_spec 64 (n - 1) (by omega) (by omega)
def allB(n:Nat):Bool:=(List.range 12).all fun j=>strongB n (bsN j) (sN n) (dN n)
theorem allB_no{n j:Nat}(hj:j<12)(h:strongB n (bsN j) (sN n) (dN n)=false):allB n=false:=by
 unfold allB;rw[List.all_eq_false];exact⟨j,List.mem_range.2 hj,by rw[h];decide⟩
theorem allB_yes{n:Nat}(h:∀ j,j<12→strongB n (bsN j) (sN n) (dN n)=true):allB n=true:=by
 unfold allB;rw[List.all_eq_true];exact fun j hj=>h j (List.mem_range.1 hj)
def isN(n:Nat):Bool:=if n<2 then false else match (List.range 12).find? (fun j=>decide (n%bsN j=0))with
 | some j=>decide (n=bsN j)
 | none=>allB n
theorem isN_lt{n:Nat}(h:n<2):isN n=false:=by unfold isN;rw[if_pos h]
theorem isN_cases{n:Nat}(h:2≤n):(∃ i,i<12∧n%bsN i=0∧(∀ j,j<i→¬ (n%bsN j=0))∧isN n=decide (n=bsN i))∨((∀ j,j<12→¬ (n%bsN j=0))∧isN n=allB n):=by
 unfold isN;rw[if_neg (by omega)]
 cases hf:(List.range 12).find? (fun j=>decide (n%bsN j=0))with
 | none =>
  refine .inr ⟨fun j hj hd=>?_,rfl⟩;rw[List.find?_eq_none]at hf;exact hf j (List.mem_range.2 hj) (decide_eq_true hd)
 | some i =>
  rw[List.find?_range_eq_some]at hf;obtain⟨h1,h2,h3⟩:=hf;refine .inl ⟨i,List.mem_range.1 h2,of_decide_eq_true h1,fun j hj hd=>?_,rfl⟩;have:=h3 j hj;rw[decide_eq_true hd]at this;cases this
theorem no_small:∀ n:Fin 38,2≤n.val→∃ j:Fin 12,n.val%bsN j.val=0:=by decide +kernel
theorem big_of{n:Nat}(h:2≤n)(hno:∀ j,j<12→¬ (n%bsN j=0)):38≤n:=by
 rcases Nat.lt_or_ge n 38 with a | a
 · obtain⟨j,hj⟩:=no_small ⟨n,a⟩ h;exact absurd hj (hno j.val j.isLt)
 · exact a
theorem sq_mod(a d i n:Nat):a ^ (d * 2 ^ i)%n * (a ^ (d * 2 ^ i)%n)%n=a ^ (d * 2 ^ (i+1))%n:=by
 rw[←Nat.mul_mod,←Nat.pow_add,Nat.pow_succ,←Nat.mul_assoc,Nat.mul_two]
theorem first_hit{P:Nat→Prop}{s:Nat}(hs:0<s)(h0:¬ P 0):∃ t,1≤t∧t≤s∧(∀ i,i<t→¬ P i)∧(t<s→P t):=by
 have : ∀ k,k+1≤s→((∀ i,i<k+1→¬ P i)∨∃ t,1≤t∧t<s∧(∀ i,i<t→¬ P i)∧P t):=by
  intro k
  induction k with
  | zero=>intro _;exact .inl fun i hi=>by obtain rfl:i=0:=(by omega);exact h0
  | succ k ih =>
   intro hk;rcases ih (by omega)with h | h
   · rcases Classical.em (P (k+1))with hp | hp
     · exact .inr ⟨k+1,by omega,by omega,h,hp⟩
     · exact .inl fun i hi=>by
        rcases Nat.lt_or_ge i (k+1)with a | a
        · exact h i a
        · obtain rfl:i=k+1:=by omega
          exact hp
   · exact .inr h
 rcases this (s - 1) (by omega)with h | ⟨t,h1,h2,h3,h4⟩
 · exact⟨s,hs,Nat.le_refl _,fun i hi=>h i (by omega),fun h=>absurd h (Nat.lt_irrefl _)⟩
 · exact⟨t,h1,Nat.le_of_lt h2,h3,fun _=>h4⟩
theorem prime_is_big(n:Nat)(h2:2≤n)(h8:n<18446744073709551616)(hno:∀ j,j<12→¬ (n%bsN j=0))(w:World)(htab:TabAt w):Calls Tryz.prog 61 #[.int .u64 n] w (Ret (.bool (allB n)) w):=by
 have h38:=big_of h2 hno;obtain⟨hsd,hdo⟩:=sd_spec h2 h8;have hAN:=Hq (fun j hj=>allB_no (n:=n) (j:=j) hj);have hAY:=Hq (allB_yes (n:=n));obtain⟨s,hs⟩:=nm (sN n);obtain⟨d,hd⟩:=nm (dN n);rw[hs,hd]at hsd hAN hAY;rw[hd]at hdo;clear hs hd;obtain⟨q,hq⟩:∃ q,d=2 * q+1:=⟨d / 2,by omega⟩;have hX:n - 1=2 ^ (s+1) * q+2 ^ s:=by rw[←hsd,hq,Nat.pow_succ,Nat.mul_add,Nat.mul_one,Nat.mul_assoc]
 have hTZ:=fun(w:World) (h:TabAt w)=>bits_tz s q (by omega) w h;have hs1:0<s:=by
  rcases Nat.eq_zero_or_pos s with e | e
  · rw[e,Nat.pow_zero,Nat.one_mul]at hsd;have:=hno 0 (by omega);rw[show bsN 0=2 from rfl]at this;omega
  · exact e
 have hs64:s<64:=by
  rcases Nat.lt_or_ge s 64 with a | a
  · exact a
  · have b:2 ^ 64≤2 ^ s:=Nat.pow_le_pow_right (by decide) a;omega
 obtain⟨X,hXX⟩:=nm (n - 1);rw[←hX,hXX]at hTZ;rw[hXX]at hsd;have hdX:X / 2 ^ s=d:=by rw[←hsd,Nat.mul_comm];exact Nat.mul_div_cancel _ (Nat.two_pow_pos s)
 have e1:(n:Int) - 1=(X:Int):=by omega
 have hX8:X<18446744073709551616:=by omega
 have hd8:d<18446744073709551616:=by rw[←hdX];exact Nat.lt_of_le_of_lt (Nat.div_le_self _ _) hX8
 have hwX:IntKind.u64.wrap (X:Int)=(X:Int):=u64_wrap X hX8;have hwd:IntKind.u64.wrap (d:Int)=(d:Int):=u64_wrap d hd8;have HTZ:=Hq hTZ;have HNO:=Hq hno;have HDX:=Hq hdX;have HTAB:=Hq htab;have HN1:=Hq hXX;have hn2:((n:Int)<2)=False:=eq_false (by omega);clear hno hTZ hX hq hdo hsd htab hXX hdX;go_enter Tryz.func61,Tryz.ntmps61;go_wp2;go_step3;go_wp2_with fail;refine(prime_bases _).mono ?_;rintro e w1 ⟨rfl,hb1⟩;have HB1:=Hq hb1;clear hb1;go_wp2
 go_loop [4,14] (fun p k=>∃ j:Nat,j≤12∧k=.int .i64 j) (fun p k=>12 - (intOf k).toNat)
 case atStart=>exact⟨0,Nat.zero_le _,rfl⟩
 case round =>
  obtain⟨j,hj,rfl⟩:=hrel;by_cases hji:j<12
  · have hidx:=fun(w:World)=>bs_index (j:=j) hji w;have hp:=bs_pos (j:=j) hji;obtain⟨p,hp'⟩:∃ p,bsN j=p:=⟨_,rfl⟩;obtain⟨r,hr⟩:=nm (n%p);have hrr:(n:Int)%(p:Int)=(r:Int):=by rw[←hr];rfl
    have hr8:r<18446744073709551616:=by rw[←hr];exact Nat.lt_trans (Nat.mod_lt _ (by omega)) (by omega)
    have hwx:IntKind.u64.wrap (r:Int)=(r:Int):=u64_wrap r hr8;have hp0:¬ (p=0):=by omega
    have hlt:((j:Int)<12)=True:=eq_true (by omega);have hr0:((r:Int)==0)=false:=(by rw[beq_eq_false_iff_ne];have:=HNO.out j hji;rw[hp',hr]at this;omega);rw[hp']at hidx;clear hp' hr hp hr8;go_wp2;go_round;case rel=>exact⟨j+1,by omega,by go_num⟩
    case measure=>simp[intOf];omega
  · obtain rfl:j=12:=by omega
    clear hji hj;go_wp2_with fail;refine(HTZ.out _ (HTAB.out.kept HB1.out nlr)).mono ?_;rintro e w2 ⟨rfl,rfl⟩;have hdI:(X:Int) / 2 ^ s=(d:Int):=by rw[←HDX.out,Int.natCast_ediv,Int.natCast_pow];rfl
    go_wp2;clear hdI;go_step3;go_wp2_with fail;refine(prime_bases _).mono ?_;rintro e w2 ⟨rfl,hb2⟩;have HB2:=bTr HB1 hb2;clear hb2;go_wp2;go_loopw [33] (fun k wr=>∃ j:Nat,j≤12∧k=.int .i64 j∧(∀ i,i<j→strongB n (bsN i) s d=true)∧Below w.heap.size w wr) (fun k _=>12 - (intOf k).toNat);case atStart=>exact⟨0,Nat.zero_le _,rfl,fun _ h=>absurd h (Nat.not_lt_zero _),HB2.out⟩
    case round =>
     obtain⟨j,hj,rfl,hall,hB⟩:=hrel;have HALL:=Hq hall;have HB:=Hq hB;clear hall hB;by_cases hji:j<12
     · have hlt:((j:Int)<12)=True:=eq_true (by omega);have hidx:=fun(w:World)=>bs_index (j:=j) hji w;have hp:=bs_pos (j:=j) hji;obtain⟨p,hp'⟩:∃ p,bsN j=p:=⟨_,rfl⟩;rw[hp']at hidx hp;have hpm:(p:Int)%(n:Int)=(p:Int):=Int.emod_eq_of_lt (by omega) (by omega);have hwp:IntKind.u64.wrap (p:Int)=(p:Int):=u64_wrap p (by omega);have hn0:¬ (n=0):=by omega
       have HPW:=Hq (prime_pow p d n (by omega) hd8 h8 (by omega));have HMU:=Hq (fun x (hx:x<n)=>prime_mul x x n hx hx h8);have HPJ:=Hq hp';clear hp' hp;go_wp2_with fail;refine(HPW.out _).mono ?_;rintro e w3 ⟨rfl,hb3⟩;have HB3:=bTr HB hb3;have hx0:p ^ d%n<n:=Nat.mod_lt _ (by omega);obtain⟨x,hx⟩:=nm (p ^ d%n);rw[hx]at hx0⊢;have hnext:strongB n p s d=true→∀ i,i<j+1→strongB n (bsN i) s d=true:=fun hst i hi=>by
        rcases Nat.lt_or_ge i j with a | a
        · exact HALL.out i a
        · obtain rfl:i=j:=by omega
          rw[HPJ.out];exact hst
       have HNX:=Hq hnext;have HX:=Hq hx;have HX0:=Hq hx0;clear hb3 hnext hx hx0 hpm hwp;by_cases hc1:x=1
       · have ht1:((x:Int)==1)=true:=by rw[hc1];rfl
         have HST:=Hq (strong_one (s:=s) (HX.out.trans hc1));clear hc1;go_wp2;go_roundw;case rel=>exact⟨j+1,by omega,by go_num,HNX.out HST.out,HB3.out⟩
         case measure=>simp[intOf];omega
       · have ht1:((x:Int)==1)=false:=by rw[beq_eq_false_iff_ne];omega
         have HC1:=Hq hc1;clear hc1;by_cases hc2:x=X
         · have ht2:((x:Int)==(X:Int))=true:=by rw[hc2];exact beq_self_eq_true _
           have HST:=Hq (strong_at (n:=n) (a:=p) (d:=d) (i:=0) hs1 (by rw[Nat.pow_zero,Nat.mul_one,HX.out,hc2,HN1.out]));clear hc2;go_wp2;go_roundw;case rel=>exact⟨j+1,by omega,by go_num,HNX.out HST.out,HB3.out⟩
           case measure=>simp[intOf];omega
         · have ht2:((x:Int)==(X:Int))=false:=by rw[beq_eq_false_iff_ne];omega
           obtain⟨t,ht,hts,htn,hte⟩:∃ t,1≤t∧t≤s∧(∀ i,i<t→¬ (p ^ (d * 2 ^ i)%n=X))∧(t<s→p ^ (d * 2 ^ t)%n=X):=
            first_hit (P:=fun i=>p ^ (d * 2 ^ i)%n=X) hs1 (by rw[Nat.pow_zero,Nat.mul_one,HX.out];exact hc2)
           have HTN:=Hq htn;have HTE:=Hq hte;clear hc2 htn hte;go_wp2;go_loopw [9,10] (fun x i wr=>∃(i' x':Nat),1≤i'∧i'≤t∧i=.int .i64 i'∧x=.int .u64 x'∧x'=p ^ (d * 2 ^ (i' - 1))%n∧Below w.heap.size w wr) (fun _ i _=>t - (intOf i).toNat);case atStart=>exact⟨1,x,Nat.le_refl _,ht,rfl,rfl,by rw[Nat.sub_self,Nat.pow_zero,Nat.mul_one,HX.out],HB3.out⟩
           case round =>
            obtain⟨i',x',hi1,hit,rfl,rfl,hx',hB⟩:=hrel;have HX':=Hq hx';have HB:=Hq hB;clear hx' hB ht1 ht2;by_cases his:i'<s
            · have hlti:((i':Int)<(s:Int))=True:=eq_true (by omega);have HM1:=Hq (HMU.out x' (by rw[HX'.out];exact Nat.mod_lt _ (by omega)));have hr:x' * x'%n=p ^ (d * 2 ^ i')%n:=(by rw[HX'.out,sq_mod,show i' - 1+1=i' from by omega]);obtain⟨y,hy⟩:=nm (x' * x'%n);rw[hy]at hr;have HY:=Hq hy;have HR:=Hq hr;clear hy hr;go_wp2_with fail;refine(HM1.out _).mono ?_;rintro e w4 ⟨rfl,hb4⟩;rw[HY.out];have HB4:=bTr HB hb4;clear hb4;by_cases hii:i'<t
              · have hc:((y:Int)==(X:Int))=false:=(by rw[beq_eq_false_iff_ne];have:=HTN.out i' hii;have:=HR.out;omega);go_wp2;go_roundw;case rel=>exact⟨i'+1,y,by omega,by omega,by go_num,rfl,HR.out,HB4.out⟩
                case measure=>simp[intOf];omega
              · obtain rfl:i'=t:=by omega
                have he:=HTE.out his;have hc:((y:Int)==(X:Int))=true:=(by rw[HR.out,he];exact beq_self_eq_true _);have HST:=Hq (strong_at (n:=n) (a:=p) (d:=d) his (by rw[he,HN1.out]));clear he hii;go_wp2;go_roundw;case rel=>exact⟨j+1,by omega,by go_num,HNX.out HST.out,HB4.out⟩
                case measure=>simp[intOf];omega
            · have hlti:((i':Int)<(s:Int))=False:=eq_false (by omega);obtain rfl:i'=s:=by omega
              obtain rfl:t=i':=by omega
              have HF:allB n=false:=hAN.out j hji (by
               rw[HPJ.out];refine strong_no (by rw[HX.out];exact HC1.out) (fun i hi=>?_);rw[HN1.out]
               exact HTN.out i hi)
              clear his;go_wp2;go_ret;exact⟨by rw[HF];rfl,HB.out⟩
     · obtain rfl:j=12:=by omega
       have HF:allB n=true:=hAY.out HALL.out;clear hji hj;go_wp2;go_ret;exact⟨by rw[HF];rfl,HB.out⟩
set_option maxRecDepth 1000000
def PrN(n:Nat):Prop:=2≤n∧∀ k,k ∣ n→k=1∨k=n
def primo:Nat:=7420738134810
def ckP:Bool:=(List.range 256).all fun p=>decide (p<2)||decide (Nat.gcd p primo≠1)||(List.range (65536 / p+1)).all fun q=>decide (q<p)||decide (Nat.gcd q primo≠1)||decide (2 ^ (p * q - 1)%(p * q)≠1)||decide (3 ^ (p * q - 1)%(p * q)≠1)||decide (5 ^ (p * q - 1)%(p * q)≠1)
theorem ckP_ok:ckP=true:=by decide +kernel
theorem ckP_at{p q:Nat}(hp:2≤p)(hp2:p<256)(gp:Nat.gcd p primo=1)(hq:p≤q)(gq:Nat.gcd q primo=1)(hpq:p * q<65536):¬ (2 ^ (p * q - 1)%(p * q)=1∧3 ^ (p * q - 1)%(p * q)=1∧5 ^ (p * q - 1)%(p * q)=1):=by
 have h:=List.all_eq_true.1 ckP_ok p (List.mem_range.2 hp2);rw[decide_eq_false (show ¬ p<2 by omega),decide_eq_false (fun c=>c gp),Bool.false_or,Bool.false_or]at h;have h2:=List.all_eq_true.1 h q (List.mem_range.2 (Nat.lt_succ_of_le ((Nat.le_div_iff_mul_le (by omega)).2 (by rw[Nat.mul_comm];omega))));rw[decide_eq_false (show ¬ q<p by omega),decide_eq_false (fun c=>c gq),Bool.false_or,Bool.false_or,Bool.or_eq_true,Bool.or_eq_true,decide_eq_true_eq,decide_eq_true_eq,decide_eq_true_eq]at h2;rintro⟨a,b,c⟩;rcases h2 with(h2 | h2) | h2
 · exact h2 a
 · exact h2 b
 · exact h2 c
theorem sq_last{n:Nat}(h:2≤n):(n - 1) * (n - 1)%n=1:=by
 obtain⟨m,rfl⟩:∃ m,n=m+2:=⟨n - 2,by omega⟩;have : (m+2 - 1) * (m+2 - 1)=1+(m+2) * m:=(by rw[show m+2 - 1=m+1 from rfl];simp only[Nat.add_mul,Nat.mul_add];omega);rw[this,Nat.add_mul_mod_self_left];exact Nat.mod_eq_of_lt (by omega)
theorem one_pw{n x:Nat}(h:2≤n)(hx:x%n=1)(k:Nat):x ^ k%n=1:=by
 have:=powc (m:=n) (a:=x) (b:=1) (by rw[hx];exact(Nat.mod_eq_of_lt (by omega)).symm) k;rw[this,Nat.one_pow];exact Nat.mod_eq_of_lt (by omega)
theorem strong_fermat{n a s d:Nat}(hn:2≤n)(hsd:2 ^ s * d=n - 1)(h:strongB n a s d=true):a ^ (n - 1)%n=1:=by
 unfold strongB at h;rw[Bool.or_eq_true,decide_eq_true_eq,List.any_eq_true]at h;rcases h with h | ⟨i,hi,h⟩
 · rw[←hsd,Nat.mul_comm,Nat.pow_mul];exact one_pw hn h _
 · rw[decide_eq_true_eq]at h;have hi:=List.mem_range.1 hi;have e:n - 1=d * 2 ^ i * 2 * 2 ^ (s - i - 1):=by
    rw[←hsd,Nat.mul_comm (2 ^ s),Nat.mul_assoc,Nat.mul_assoc];congr 1;rw[←Nat.pow_succ',←Nat.pow_add];congr 1;omega
   rw[e,Nat.pow_mul];refine one_pw hn ?_ _;rw[Nat.pow_mul,Nat.pow_two,Nat.mul_mod,h];exact sq_last hn
theorem prn_small:∀ j,j<12→∀ k,k<38→k ∣ bsN j→k=1∨k=bsN j:=by decide +kernel
theorem bs_range:∀ j,j<12→2≤bsN j∧bsN j<38:=by decide +kernel
theorem prn_bs{j:Nat}(hj:j<12):PrN (bsN j):=⟨(bs_range j hj).1,fun k hk=>prn_small j hj k (Nat.lt_of_le_of_lt (Nat.le_of_dvd (by have:=(bs_range j hj).1;omega) hk) (bs_range j hj).2) hk⟩
theorem prn_cop{p r:Nat}(hr:PrN r)(h:¬ r ∣ p):Nat.gcd p r=1:=by
 rcases hr.2 _ (Nat.gcd_dvd_right p r)with e | e
 · exact e
 · exact absurd (e▸Nat.gcd_dvd_left p r) h
theorem primo_eq:primo=bsN 0 * (bsN 1 * (bsN 2 * (bsN 3 * (bsN 4 * (bsN 5 * (bsN 6 * (bsN 7 * (bsN 8 * (bsN 9 * (bsN 10 * bsN 11)))))))))):=by decide +kernel
theorem cop_primo{p:Nat}(h:∀ j,j<12→¬ bsN j ∣ p):Nat.gcd p primo=1:=by
 have c:∀ j,j<12→Nat.Coprime p (bsN j):=fun j hj=>prn_cop (prn_bs hj) (h j hj);rw[primo_eq];exact(c 0 (by decide)).mul_right ((c 1 (by decide)).mul_right ((c 2 (by decide)).mul_right ((c 3 (by decide)).mul_right ((c 4 (by decide)).mul_right ((c 5 (by decide)).mul_right ((c 6 (by decide)).mul_right ((c 7 (by decide)).mul_right ((c 8 (by decide)).mul_right ((c 9 (by decide)).mul_right ((c 10 (by decide)).mul_right (c 11 (by decide))))))))))))
theorem prn_of_isN{n:Nat}(hn:n<65536)(h:isN n=true):PrN n:=by
 have h2:2≤n:=by
  rcases Nat.lt_or_ge n 2 with h' | h'
  · rw[isN_lt h']at h;cases h
  · exact h'
 rcases isN_cases h2 with⟨i,hi,_,_,e⟩ | ⟨hd,e⟩
 · rw[e,decide_eq_true_eq]at h;rw[h];exact prn_bs hi
 · rw[e]at h;refine⟨h2,fun k hk=>?_⟩;obtain⟨m,hm⟩:=hk;rcases Nat.lt_or_ge k 2 with h0 | h0
   · rcases Nat.eq_zero_or_pos k with z | z
     · rw[z,Nat.zero_mul]at hm;omega
     · exact .inl (by omega)
   · rcases Nat.lt_or_ge m 2 with m0 | m0
     · rcases Nat.eq_zero_or_pos m with z | z
       · rw[z,Nat.mul_zero]at hm;omega
       · exact .inr (by rw[hm,show m=1 from by omega,Nat.mul_one])
     · exfalso;have key:∀ p q:Nat,n=p * q→2≤p→p≤q→False:=by
        intro p q hpq hp hle;have hp2:p<256:=by
         rcases Nat.lt_or_ge p 256 with h | h
         · exact h
         · have : 256 * 256≤p * q:=Nat.mul_le_mul h (Nat.le_trans h hle);omega
        have nd:∀ x,x ∣ n→∀ j,j<12→¬ bsN j ∣ x:=fun x hx j hj hb=>hd j hj (Nat.mod_eq_zero_of_dvd (Nat.dvd_trans hb hx));have gp:=cop_primo (nd p ⟨q,hpq⟩);have gq:=cop_primo (nd q ⟨p,by rw[hpq,Nat.mul_comm]⟩);obtain⟨sd,_⟩:=sd_spec h2 (by omega);have fer:∀ j,j<12→bsN j ^ (n - 1)%n=1:=fun j hj=>strong_fermat h2 sd (by unfold allB at h;exact List.all_eq_true.1 h j (List.mem_range.2 hj));refine ckP_at hp hp2 gp hle gq (by omega) ?_;rw[←hpq];exact⟨fer 0 (by decide),fer 1 (by decide),fer 2 (by decide)⟩
       rcases Nat.le_total k m with hkm | hkm
       · exact key k m hm h0 hkm
       · exact key m k (by rw[hm,Nat.mul_comm]) m0 hkm
theorem prn_gcd{p q:Nat}(hp:PrN p)(hq:PrN q)(h:p≠q):Nat.gcd p q=1:=by
 rcases hp.2 _ (Nat.gcd_dvd_left p q)with e | e
 · exact e
 · rcases hq.2 _ (Nat.gcd_dvd_right p q)with f | f
   · exact f
   · exact absurd (e.symm.trans f) h
theorem prn_prod{u:Nat}(hu:PrN u):∀ {l:List ByteArray},(∀ x∈l,PrN (num x)∧num x≠u)→Nat.gcd u (prodN l)=1
 | [],_=>Nat.gcd_one_right u
 | x::l,h=>by
  have h1:Nat.Coprime u (num x):=prn_gcd hu (h x List.mem_cons_self).1 (h x List.mem_cons_self).2.symm;have h2:Nat.Coprime u (prodN l):=prn_prod hu (fun y hy=>h y (List.mem_cons_of_mem _ hy));exact h1.mul_right h2
theorem prodN_perm{l m:List ByteArray}(h:l.Perm m):prodN l=prodN m:=by
 induction h with
 | nil=>rfl
 | cons x _ ih=>rw[prodN,prodN,ih]
 | swap x y l=>rw[prodN,prodN,prodN,prodN,Nat.mul_left_comm]
 | trans _ _ ih1 ih2=>exact ih1.trans ih2
theorem prod_chg{A B AD RM:List ByteArray}(hA:A.Nodup)(hB:B.Nodup)(nA:AD.Nodup)(nR:RM.Nodup)(ha:∀ x,x∈AD↔x∈B∧x∉A)(hr:∀ x,x∈RM↔x∈A∧x∉B):prodN A * prodN AD=prodN B * prodN RM:=by
 rw[←prodN_append,←prodN_append];refine prodN_perm ((List.perm_ext_iff_of_nodup ?_ ?_).2 fun x=>?_)
 · exact List.nodup_append.2 ⟨hA,nA,fun x hx y hy e=>((ha y).1 hy).2 (e▸hx)⟩
 · exact List.nodup_append.2 ⟨hB,nR,fun x hx y hy e=>((hr y).1 hy).2 (e▸hx)⟩
 · rw[List.mem_append,List.mem_append,ha,hr];by_cases h1:x∈A<;>by_cases h2:x∈B<;>simp[h1,h2]
theorem prodN_dvd{u:ByteArray}:∀ {l:List ByteArray},u∈l→num u ∣ prodN l
 | x::l,h=>by
  rw[prodN];rcases List.mem_cons.1 h with rfl | h
  · exact⟨prodN l,rfl⟩
  · exact Nat.dvd_trans (prodN_dvd h) ⟨num x,Nat.mul_comm _ _⟩
end Go.Proofs.YtmahgbhpdfbbjaaGreatDoor

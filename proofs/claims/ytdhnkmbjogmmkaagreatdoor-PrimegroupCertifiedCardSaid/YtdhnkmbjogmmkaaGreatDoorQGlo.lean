import Derived.Test.YtdhnkmbjogmmkaaGreatDoorQPwG
set_option linter.unusedVariables false
set_option linter.unusedSimpArgs false
namespace Go.Proofs.YtdhnkmbjogmmkaaGreatDoor
open Go.RowKit
def elemF(m g:Nat):Nat→Nat→Nat
 | 0,k=>k
 | f+1,k=>if g ^ k%m=1 then k else elemF m g f (k+1)
theorem elemF_spec(m g:Nat):∀(f k:Nat),k≤elemF m g f k∧elemF m g f k≤k+f∧(∀ j,k≤j→j<elemF m g f k→¬ (g ^ j%m=1))∧(elemF m g f k<k+f→g ^ elemF m g f k%m=1)
 | 0,k=>⟨Nat.le_refl _,Nat.le_refl _,fun j h1 h2=>by unfold elemF at h2;omega,fun h=>by unfold elemF at h;omega⟩
 | f+1,k=>by
  unfold elemF;by_cases h:g ^ k%m=1
  · rw[if_pos h];exact⟨Nat.le_refl _,by omega,fun j h1 h2=>by omega,fun _=>h⟩
  · rw[if_neg h];obtain⟨h1,h2,h3,h4⟩:=elemF_spec m g f (k+1);refine⟨by omega,by omega,fun j hj hlt=>?_,fun hl=>h4 (by omega)⟩;by_cases e:j=k
    · rw[e];exact h
    · exact h3 j (by omega) hlt
def elemN(m g:Nat):Nat:=elemF m g 65535 1
theorem elemN_pos(m g:Nat):1≤elemN m g:=(elemF_spec m g 65535 1).1
theorem elemN_max(m g:Nat):elemN m g≤65536:=by have:=(elemF_spec m g 65535 1).2.1;unfold elemN;omega
theorem elemN_hit{m g k:Nat}(h0:0<k)(h:g ^ k%m=1):elemN m g≤k:=by
 rcases Nat.lt_or_ge k (elemN m g)with hl | hl
 · exact absurd h ((elemF_spec m g 65535 1).2.2.1 k h0 hl)
 · exact hl
theorem elemN_gt{m g k:Nat}(hk:k<65536)(h:∀ j,0<j→j≤k→¬ (g ^ j%m=1)):k<elemN m g:=by
 rcases Nat.lt_or_ge k (elemN m g)with hl | hl
 · exact hl
 · have h1:=(elemF_spec m g 65535 1).2.2.2 (by unfold elemN at hl;omega);exact absurd h1 (h _ (elemN_pos m g) hl)
def pwL(m g k:Nat):List Nat:=(List.range k).map fun j=>g ^ j%m
theorem pwL_length(m g k:Nat):(pwL m g k).length=k:=by simp[pwL]
theorem pwL_succ(m g k:Nat):pwL m g (k+1)=pwL m g k++[g ^ k%m]:=by simp[pwL,List.range_succ]
theorem pwL_take{m g k n:Nat}(h:n≤k):(pwL m g k).take n=pwL m g n:=by
 unfold pwL;rw[←List.map_take,List.take_range,Nat.min_eq_left h]
theorem pwL_prefix{m g k n:Nat}(h:n≤k):pwL m g n <+: pwL m g k:=by
 rw[←pwL_take h];exact List.take_prefix _ _
def elemG(M O g:ByteArray):List Nat:=if hasG M O g=true then pwL (num M) (num g) (elemN (num M) (num g))else []
theorem elemG_in{M O g:ByteArray}(h:hasG M O g=true):elemG M O g=pwL (num M) (num g) (elemN (num M) (num g)):=by unfold elemG;rw[if_pos h]
theorem elemG_out{M O g:ByteArray}(h:hasG M O g=false):elemG M O g=[]:=by unfold elemG;rw[if_neg (by rw[h];decide)]
set_option maxRecDepth 100000
set_option maxHeartbeats 2000000
open Go.RowKit Go.Shelf
attribute [local go_sem] Oper.semAt_some
theorem pg_Elements(M O g:ByteArray)(w:World):Calls Tryz.prog 12 #[gV M O,.string g] w fun e w'=>e=.returned (.func (.func 29) #[] #[.pointer (some ⟨w.heap.size,0,none⟩),.pointer (some ⟨w.heap.size+1,0,none⟩)])∧w'=(w.alloc (.cells #[.string M,.string O] 24)).alloc (.cells #[.string g] 22):=by
 unfold gV;go_enter Tryz.func12,Tryz.ntmps12;go_wp2;go_ret;exact⟨rfl,rfl⟩
def KpE(D:Nat)(W W':World):Prop:=W'.heap[D]? =W.heap[D]? ∧W'.heap[D+1]? =W.heap[D+1]?
theorem grown_of_below{W W':World}(h:Below W.heap.size W W'):W.grownBy W' none:=⟨h.os,h.tape,h.output,h.size,fun k hk _=>h.block k hk⟩
theorem abides_below{β:Type}{B:Nat}{J:β→World→Prop}(hJ:AbidesFrom B J){s:β}{W W':World}(h:J s W)(hb:Below W.heap.size W W'):J s W':=hJ s W W' none h (grown_of_below hb) (fun r e=>by cases e)
theorem elements_stops(k:Nat)(hk:1≤k)(M O g:ByteArray)(hM:M.size≤8)(hO:O.size≤1000)(hg:g.size≤1000)(D:Nat)(w:World)(hD:Bx2 w D (.string M) (.string O) 24)(hE:BoxS w (D+1) g) :
 SeqStopsK Fence.wide k Tryz.prog 29 #[.pointer (some ⟨D,0,none⟩),.pointer (some ⟨D+1,0,none⟩)] (fun x:Nat=>#[Value.string (nS x)]) (KpE D) (fun xs=>xs=elemG M O g) (fun pre=>pre <+: elemG M O g) (elemG M O g).length w:=fun l J Jx W hW hJ hJx hY h0=>by
 have HH:=Hq (pg_Has M O g hM hO hg);have HD:=Hq (hD.kept hW hD.lt);have HE:=Hq (hE.kept hW hE.lt);have HJ:=Hq hJ;have c0:=HD.out.c0;have c1:=HD.out.c1;have d0:=HE.out.cell
 cases hha:hasG M O g with
 | false =>
  rw[hha]at HH;have HEQ:=Hq (elemG_out hha).symm;have HJ0:=Hq h0;clear hha hY h0 hJ hJx hD hE hW;unfold gV at HH;refine callsIn_of_wp Tryz.func29 rfl trivial ?_ rfl;simp only[Tryz.ntmps29,List.size_toArray,List.length_cons,List.length_nil,Nat.reduceAdd,Nat.reduceSub,Array.replicate_succ,Array.replicate_zero,List.push_toArray,List.append_toArray,List.nil_append,List.cons_append];gi_wp2;refine⟨trivial,callsIn_wide.2 ((HH.out _).mono ?_)⟩;rintro e w1 ⟨rfl,hb1⟩;have HJ1:=Hq (abides_below HJ.out HJ0.out hb1);clear hb1;gi_wp2;refine bodyPost_ret (results_none rfl _ _ _) rfl ?_;exact⟨⟨_,rfl⟩,.inl ⟨[],HEQ.out,HJ1.out⟩⟩
 | true =>
  rw[hha]at HH;have hm8:=num_small hM;have hgm:=has_num hha;have hvM:nvalid M=true:=(of_decide_eq_true hha:hasP M O g).1;have hvg:nvalid g=true:=(of_decide_eq_true hha:hasP M O g).2.2.1;have hg0:0<num g:=(of_decide_eq_true hha:hasP M O g).2.2.2.2.1;have HMU:=Hq (fun k=>mod_Mul (num g ^ k%num M) (num g) (num M) (Nat.lt_trans (Nat.mod_lt _ (by omega)) hm8) (by omega) hm8 (by omega));have HMO:=Hq (fun k=>pw_one (num g) k (num M));have HE2:=Hq (mod_Exp (num g) 0 (num M) (by omega) (by decide) hm8 (by omega));rw[←nS_num hvg,←nS_num hvM]at HMU HE2;rw[nS_zero]at HE2;rw[elemG_in hha]at hY⊢;rw[pwL_length]at hY;have HY:=Hq hY;have HJ0:=Hq h0;clear hha hvM hvg hg0 hgm hm8 hY h0 hJ hJx hD hE hW;unfold gV at HH;refine callsIn_of_wp Tryz.func29 rfl trivial ?_ rfl;simp only[Tryz.ntmps29,List.size_toArray,List.length_cons,List.length_nil,Nat.reduceAdd,Nat.reduceSub,Array.replicate_succ,Array.replicate_zero,List.push_toArray,List.append_toArray,List.nil_append,List.cons_append];gi_wp2;refine⟨trivial,callsIn_wide.2 ((HH.out _).mono ?_)⟩;rintro e w1 ⟨rfl,hb1⟩;have HJ1:=Hq (abides_below HJ.out HJ0.out hb1);have HD1:=Hq (HD.out.next hb1);have HE1:=Hq (HE.out.kept hb1 HE.out.lt);clear hb1 c0 c1 d0;have c0:=HD1.out.c0;have d0:=HE1.out.cell;gi_wp2;refine⟨trivial,callsIn_wide.2 ((HE2.out _).mono ?_)⟩;rintro e w2 ⟨rfl,hb2⟩;have HJ2:=Hq (abides_below HJ.out HJ1.out hb2);have HD2:=Hq (HD1.out.next hb2);have HE2':=Hq (HE1.out.kept hb2 HE1.out.lt);clear hb2 c0 d0;gi_wp2;gi_loopw [4,6] (fun y i wr=>∃ K:Nat,K≤65536∧i=.int .i64 K∧y=.string (nS (num g ^ K%num M))∧(∀ j,0<j→j<K→¬ (num g ^ j%num M=1))∧Bx2 wr D (.string M) (.string O) 24∧BoxS wr (D+1) g∧J (pwL (num M) (num g) K) wr) (fun _ i _=>65536 - (intOf i).toNat);case atStart=>exact⟨0,Nat.zero_le _,rfl,by first | rfl | simp,fun j h1 h2=>by omega,HD2.out,HE2'.out,HJ2.out⟩
  case round =>
   obtain⟨K,hK,rfl,rfl,hno,hDr,hEr,hJr⟩:=hrel;have HNO:=Hq hno;have HDR:=Hq hDr;have HER:=Hq hEr;have HJR:=Hq hJr;clear hno hDr hEr hJr;have HLE:=Hq (show K≤elemN (num M) (num g)from by
    rcases Nat.eq_zero_or_pos K with e | e
    · rw[e];exact Nat.zero_le _
    · have e2:=elemN_gt (m:=num M) (g:=num g) (k:=K - 1) (by omega) (fun j a b=>HNO.out j a (by omega))
      omega)
   by_cases hlt:K<65536
   · have hk6:((K:Int)<65536)=True:=eq_true (by omega);by_cases h1:0<K∧num g ^ K%num M=1
     · have HEQ:=Hq (show K=elemN (num M) (num g)from Nat.le_antisymm HLE.out (elemN_hit h1.1 h1.2));have hy:((nS (num g ^ K%num M)).toList==[1])=true:=by rw[nS_is1];exact decide_eq_true h1.2
       have hk0:(0:Int)<(K:Int):=by have:=h1.1;omega
       clear h1 hlt hK;gi_wp2;refine⟨fun _ h=>(by cases h),?_⟩;gi_wp2;refine bodyPost_ret (results_none rfl _ _ _) rfl ?_;exact⟨⟨_,rfl⟩,.inl ⟨pwL (num M) (num g) _,by rw[←HEQ.out],HJR.out⟩⟩
     · have HGT:=Hq (show K<elemN (num M) (num g)from by
        refine elemN_gt hlt fun j a b=>?_;by_cases e:j=K
        · subst e;exact fun h=>h1 ⟨a,h⟩
        · exact HNO.out j a (by omega))
       have HMM:=Hq (HMU.out K);rw[HMO.out]at HMM;have HNN:=Hq (show ∀ j,0<j→j<K+1→¬ (num g ^ j%num M=1)from fun j a b=>by
        by_cases e:j=K
        · subst e;exact fun h=>h1 ⟨a,h⟩
        · exact HNO.out j a (by omega))
       obtain⟨Y,hYe⟩:∃ Y,num g ^ K%num M=Y:=⟨_,rfl⟩;obtain⟨fn,tmps,assign,body,hy,hR⟩:=HY.out (pwL (num M) (num g) K) Y wr HJR.out (by rw[pwL_length];exact HGT.out);rw[show pwL (num M) (num g) K++[Y]=pwL (num M) (num g) (K+1)from by rw[pwL_succ,hYe]]at hR;rw[hYe]at HMM⊢;have HR:=Hq hR;clear hR;by_cases hz:K=0
       · subst hz;clear h1 hlt hK hk6 hYe;gi_wp2;refine HR.out.mono ?_;rintro ev W' (⟨rfl,hJ',hk'⟩ | ⟨rfl,hJx'⟩)
         · have HJ3:=Hq hJ';have HD3:=Hq (show Bx2 W' D (.string M) (.string O) 24 from hk'.1.trans HDR.out);have HE3:=Hq (show BoxS W' (D+1) g from hk'.2.trans HER.out);clear hJ' hk';have c0:=HD3.out.c0;have d0:=HE3.out.cell;gi_wp2;refine⟨trivial,callsIn_wide.2 ((HMM.out _).mono ?_)⟩;rintro ev w4 ⟨rfl,hb4⟩;have HJ4:=Hq (abides_below HJ.out HJ3.out hb4);have HD4:=Hq (HD3.out.next hb4);have HE4:=Hq (HE3.out.kept hb4 HE3.out.lt);clear hb4 c0 d0;gi_wp2;go_roundw;case rel=>exact⟨0+1,by have:=HGT.out;have:=elemN_max (num M) (num g);omega,by go_num,by first | rfl | simp,HNN.out,HD4.out,HE4.out,HJ4.out⟩
           case measure =>
            try have hk7:=of_eq_true hk6
            simp[intOf]<;>omega
         · gi_wp2;refine bodyPost_ret (results_none rfl _ _ _) rfl ?_;exact⟨⟨_,rfl⟩,.inr ⟨_,pwL_prefix HGT.out,hJx'⟩⟩
       · have hk0:(0:Int)<(K:Int):=by omega
         have hy1:((nS Y).toList==[1])=false:=by rw[nS_is1];exact decide_eq_false (fun h=>h1 ⟨by omega,by rw[hYe];exact h⟩)
         clear h1 hlt hz hYe;gi_wp2;refine HR.out.mono ?_;rintro ev W' (⟨rfl,hJ',hk'⟩ | ⟨rfl,hJx'⟩)
         · have HJ3:=Hq hJ';have HD3:=Hq (show Bx2 W' D (.string M) (.string O) 24 from hk'.1.trans HDR.out);have HE3:=Hq (show BoxS W' (D+1) g from hk'.2.trans HER.out);clear hJ' hk';have c0:=HD3.out.c0;have d0:=HE3.out.cell;gi_wp2;refine⟨trivial,callsIn_wide.2 ((HMM.out _).mono ?_)⟩;rintro ev w4 ⟨rfl,hb4⟩;have HJ4:=Hq (abides_below HJ.out HJ3.out hb4);have HD4:=Hq (HD3.out.next hb4);have HE4:=Hq (HE3.out.kept hb4 HE3.out.lt);clear hb4 c0 d0;gi_wp2;go_roundw;case rel=>exact⟨K+1,by have:=HGT.out;have:=elemN_max (num M) (num g);omega,by go_num,by first | rfl | simp,HNN.out,HD4.out,HE4.out,HJ4.out⟩
           case measure =>
            try have hk7:=of_eq_true hk6
            simp[intOf]<;>omega
         · gi_wp2;refine bodyPost_ret (results_none rfl _ _ _) rfl ?_;exact⟨⟨_,rfl⟩,.inr ⟨_,pwL_prefix HGT.out,hJx'⟩⟩
   · obtain rfl:K=65536:=by omega
     have HEQ:=Hq (show 65536=elemN (num M) (num g)from Nat.le_antisymm HLE.out (elemN_max _ _));clear hlt hK;gi_wp2;go_end0;exact⟨⟨_,rfl⟩,.inl ⟨pwL (num M) (num g) _,by rw[←HEQ.out],HJR.out⟩⟩
set_option maxRecDepth 100000
set_option maxHeartbeats 4000000
def logN(L:Int):Nat:=(min L 65536+1).toNat
theorem logN_lt{L:Int}{k:Nat}:k<logN L↔((k:Int)≤L∧(k:Int)≤65536):=by unfold logN;omega
def logF(m g x n:Nat):Option Nat:=(List.range n).find? (fun k=>decide (g ^ k%m=x))
def logR(M O g x:ByteArray)(L:Int):Value:=
 if hasG M O g=true∧hasG M O x=true then
  match logF (num M) (num g) (num x) (logN L)with
  | some k=>.tuple #[.int .i64 k,.bool true]
  | none=>.tuple #[.int .i64 0,.bool false]
 else .tuple #[.int .i64 0,.bool false]
theorem logR_out{M O g x:ByteArray}{L:Int}(h:¬ (hasG M O g=true∧hasG M O x=true)):logR M O g x L=.tuple #[.int .i64 0,.bool false]:=by unfold logR;rw[if_neg h]
theorem logF_hit{m g x n k:Nat}(hk:k<n)(h0:∀ j,j<k→¬ (g ^ j%m=x))(h:g ^ k%m=x):logF m g x n=some k:=by
 unfold logF;rw[List.find?_range_eq_some];refine⟨by simp[h],by simp[hk],fun j hj=>by simp[h0 j hj]⟩
theorem logF_none{m g x n:Nat}(h0:∀ j,j<n→¬ (g ^ j%m=x)):logF m g x n=none:=by
 unfold logF;rw[List.find?_eq_none];intro j hj;simp[h0 j (List.mem_range.1 hj)]
theorem logR_hit{M O g x:ByteArray}{L:Int}{k:Nat}(h:hasG M O g=true∧hasG M O x=true)(hk:k<logN L)(h0:∀ j,j<k→¬ (num g ^ j%num M=num x))(hh:num g ^ k%num M=num x):logR M O g x L=.tuple #[.int .i64 k,.bool true]:=by
 unfold logR;rw[if_pos h,logF_hit hk h0 hh]
theorem logR_none{M O g x:ByteArray}{L:Int}(h:hasG M O g=true∧hasG M O x=true)(h0:∀ j,j<logN L→¬ (num g ^ j%num M=num x)):logR M O g x L=.tuple #[.int .i64 0,.bool false]:=by
 unfold logR;rw[if_pos h,logF_none h0]
theorem has_val{M O e:ByteArray}(h:hasG M O e=true):nvalid M=true∧nvalid O=true∧nvalid e=true:=⟨(of_decide_eq_true h).1,(of_decide_eq_true h).2.1,(of_decide_eq_true h).2.2.1⟩
theorem nS_beq'{a:Nat}{x:ByteArray}(h:nvalid x=true):((nS a).toList==x.toList)=decide (a=num x):=by
 rw[←nS_beq a (num x),←nS_num h]
theorem pg_Log(M O g x:ByteArray)(L:Int)(hM:M.size≤8)(hO:O.size≤1000)(hg:g.size≤1000)(hx:x.size≤1000)(w:World):Calls Tryz.prog 11 #[gV M O,.string g,.string x,.int .i64 L] w (Ret (logR M O g x L) w):=by
 have HH1:=Hq (pg_Has M O g hM hO hg);have HH2:=Hq (pg_Has M O x hM hO hx);have hB0:Below w.heap.size w (w.alloc (.cells #[.string M,.string O] 24)):=(blr).alloc nlr _;have HB0:=Hq hB0;have hX0:(w.alloc (.cells #[.string M,.string O] 24)).heap[w.heap.size]? =some (.cells #[.string M,.string O] 24 (0,0)):=heap_alloc_new _ _;have HX0:=Hq hX0;clear hB0 hX0
 cases h1:hasG M O g with
 | false =>
  have HR:=Hq (logR_out (M:=M) (O:=O) (g:=g) (x:=x) (L:=L) (fun h=>by rw[h.1]at h1;cases h1));rw[h1]at HH1;clear h1;rw[HR.out];unfold gV at *;go_enter Tryz.func11,Tryz.ntmps11;go_wp2_with fail;refine(HH1.out _).mono ?_;rintro ev w1 ⟨rfl,hb1⟩;have hbx1:=(hb1.block _ (block_lt HX0.out)).trans HX0.out;have HBX1:=Hq hbx1;have HB1:=Hq (HB0.out.trans (hb1.mono HB0.out.size));have c0:w1.cell? ⟨w.heap.size,0,none⟩=some (.string M):=by rw[Lib.cell_of_heap hbx1];rfl
  have c1:w1.cell? ⟨w.heap.size,1,none⟩=some (.string O):=by rw[Lib.cell_of_heap hbx1];rfl
  clear hb1 hbx1;go_wp2;go_ret2;exact⟨rfl,HB1.out⟩
 | true =>
  cases h2:hasG M O x with
  | false =>
   have HR:=Hq (logR_out (M:=M) (O:=O) (g:=g) (x:=x) (L:=L) (fun h=>by rw[h.2]at h2;cases h2));rw[h1]at HH1;rw[h2]at HH2;clear h1 h2;rw[HR.out];unfold gV at *;go_enter Tryz.func11,Tryz.ntmps11;go_wp2_with fail;refine(HH1.out _).mono ?_;rintro ev w1 ⟨rfl,hb1⟩;have hbx1:=(hb1.block _ (block_lt HX0.out)).trans HX0.out;have HBX1:=Hq hbx1;have HB1:=Hq (HB0.out.trans (hb1.mono HB0.out.size));have c0:w1.cell? ⟨w.heap.size,0,none⟩=some (.string M):=by rw[Lib.cell_of_heap hbx1];rfl
   have c1:w1.cell? ⟨w.heap.size,1,none⟩=some (.string O):=by rw[Lib.cell_of_heap hbx1];rfl
   clear hb1 hbx1;go_wp2_with fail;refine(HH2.out _).mono ?_;rintro ev w2 ⟨rfl,hb2⟩;clear c0 c1;have hbx2:=(hb2.block _ (block_lt HBX1.out)).trans HBX1.out;have HBX2:=Hq hbx2;have HB2:=Hq (HB1.out.trans (hb2.mono HB1.out.size));have c0:w2.cell? ⟨w.heap.size,0,none⟩=some (.string M):=by rw[Lib.cell_of_heap hbx2];rfl
   have c1:w2.cell? ⟨w.heap.size,1,none⟩=some (.string O):=by rw[Lib.cell_of_heap hbx2];rfl
   clear hb2 hbx2;go_wp2;go_ret2;exact⟨rfl,HB2.out⟩
  | true =>
   have HIN:=Hq (show hasG M O g=true∧hasG M O x=true from⟨h1,h2⟩);have hm8:=num_small hM;have hgm:=has_num h1;have hxm:=has_num h2;obtain⟨hvM,hvO,hvg⟩:=has_val h1;have HVX:=Hq (has_val h2).2.2;have h0:0<num M:=by omega
   have hg1:1<num M:=(by have:=(of_decide_eq_true h2).2.2.2.2.1;omega);have HMM:=Hq (fun k=>mod_Mul (num g ^ k%num M) (num g) (num M) (id (Nat.lt_trans (Nat.mod_lt _ h0) hm8)) (id (by omega)) hm8 h0);have HPW:=Hq (fun k=>pw_one (num g) k (num M));rw[←nS_num hvg,←nS_num hvM]at HMM;have HONE:=Hq (show nS 1=nS (num g ^ 0%num M)from by rw[Nat.pow_zero,Nat.mod_eq_of_lt hg1]);have HEX:=Hq (mod_Exp (num g) 0 (num M) (by omega) (by decide) hm8 h0);rw[←nS_num hvg,←nS_num hvM,nS_zero]at HEX;rw[h1]at HH1;rw[h2]at HH2;clear hm8 hgm hxm hvM hvO hvg h0 h1 h2 hg1;unfold gV at *;go_enter Tryz.func11,Tryz.ntmps11;go_wp2_with fail;refine(HH1.out _).mono ?_;rintro ev w1 ⟨rfl,hb1⟩;have hbx1:=(hb1.block _ (block_lt HX0.out)).trans HX0.out;have HBX1:=Hq hbx1;have HB1:=Hq (HB0.out.trans (hb1.mono HB0.out.size));have c0:w1.cell? ⟨w.heap.size,0,none⟩=some (.string M):=by rw[Lib.cell_of_heap hbx1];rfl
   have c1:w1.cell? ⟨w.heap.size,1,none⟩=some (.string O):=by rw[Lib.cell_of_heap hbx1];rfl
   clear hb1 hbx1;go_wp2_with fail;refine(HH2.out _).mono ?_;rintro ev w2 ⟨rfl,hb2⟩;clear c0 c1;have hbx2:=(hb2.block _ (block_lt HBX1.out)).trans HBX1.out;have HBX2:=Hq hbx2;have HB2:=Hq (HB1.out.trans (hb2.mono HB1.out.size));have c0:w2.cell? ⟨w.heap.size,0,none⟩=some (.string M):=by rw[Lib.cell_of_heap hbx2];rfl
   have c1:w2.cell? ⟨w.heap.size,1,none⟩=some (.string O):=by rw[Lib.cell_of_heap hbx2];rfl
   clear hb2 hbx2;go_wp2_with fail;refine(HEX.out _).mono ?_;rintro ev w3 ⟨rfl,hb3⟩;clear c0 c1;have hbx3:=(hb3.block _ (block_lt HBX2.out)).trans HBX2.out;have HBX3:=Hq hbx3;have HB3:=Hq (HB2.out.trans (hb3.mono HB2.out.size));have c0:w3.cell? ⟨w.heap.size,0,none⟩=some (.string M):=by rw[Lib.cell_of_heap hbx3];rfl
   have c1:w3.cell? ⟨w.heap.size,1,none⟩=some (.string O):=by rw[Lib.cell_of_heap hbx3];rfl
   clear hb3 hbx3;go_wp2;go_loopw [10,12] (fun c i wr=>∃ k:Nat,k≤65537∧i=.int .i64 k∧c=.string (nS (num g ^ k%num M))∧(∀ j,j<k→¬ (num g ^ j%num M=num x))∧wr.heap[w.heap.size]? =some (.cells #[.string M,.string O] 24 (0,0))∧Below w.heap.size w wr) (fun _ i _=>65537 - (intOf i).toNat);case atStart=>exact⟨0,Nat.zero_le _,rfl,by rw[Nat.pow_zero],fun j hj=>absurd hj (Nat.not_lt_zero _),HBX3.out,HB3.out⟩
   case round =>
    obtain⟨k,hk,rfl,rfl,hno,hbx,hB⟩:=hrel;have HNO:=Hq hno;have HBXr:=Hq hbx;have HBr:=Hq hB;clear hno hbx hB;clear c0;have c0:wr.cell? ⟨w.heap.size,0,none⟩=some (.string M):=by rw[Lib.cell_of_heap HBXr.out];rfl
    have hk0:(0:Int)≤(k:Int):=by omega
    have HEQ:=Hq (nS_beq' (a:=num g ^ k%num M) HVX.out);by_cases hlt:k<logN L
    · obtain⟨hkL,hk6⟩:=logN_lt.1 hlt;have hkm:(k:Int)≤min L 65536:=by omega
      by_cases hhit:num g ^ k%num M=num x
      · have HR:=Hq (logR_hit HIN.out hlt HNO.out hhit);have heq:((nS (num g ^ k%num M)).toList==x.toList)=true:=by rw[HEQ.out];exact decide_eq_true hhit
        clear hlt hhit HEQ;rw[HR.out];go_wp2;go_ret2;exact⟨rfl,HBr.out⟩
      · have HN2:=Hq hhit;have heq:((nS (num g ^ k%num M)).toList==x.toList)=false:=by rw[HEQ.out];exact decide_eq_false hhit
        have HK:=Hq (HMM.out k);rw[HPW.out]at HK;clear hlt hhit HEQ;go_wp2_with fail;refine(HK.out _).mono ?_;rintro ev w4 ⟨rfl,hb4⟩;clear c0;have HBX4:=Hq ((hb4.block _ (block_lt HBXr.out)).trans HBXr.out);have HB4:=Hq (HBr.out.trans (hb4.mono HBr.out.size));clear hb4;go_wp2;go_roundw;case rel=>exact⟨k+1,by omega,by go_num,rfl,fun j hj=>by
         rcases Nat.lt_or_ge j k with h | h
         · exact HNO.out j h
         · obtain rfl:j=k:=by omega
           exact HN2.out,HBX4.out,HB4.out⟩
        case measure=>simp[intOf];omega
    · have HR:=Hq (logR_none (L:=L) HIN.out (fun j hj=>HNO.out j (by omega)));rw[logN_lt]at hlt;clear HEQ;have hkm:¬ ((k:Int)≤min L 65536):=by omega
      by_cases hkL:(k:Int)≤L
      · have hk6:¬ ((k:Int)≤65536):=fun h=>hlt ⟨hkL,h⟩;clear hlt;go_wp2;go_ret2;exact⟨by rw[HR.out];rfl,HBr.out⟩
      · clear hlt;go_wp2;go_ret2;exact⟨by rw[HR.out];rfl,HBr.out⟩
end Go.Proofs.YtdhnkmbjogmmkaaGreatDoor

import Derived.Test.YtfbmbledklbfgaaGreatDoorQLdC
import Derived.Test.YtfbmbledklbfgaaGreatDoorQExt
import Derived.RangeFuncNested
import Derived.RangeFuncBound
import Derived.Shelf.RegionOpen
import Derived.OwnWalkIn
import Derived.LoopNIn
import Derived.LoopIn
set_option linter.unusedVariables false
set_option linter.unusedSimpArgs false
namespace Go.Proofs.YtfbmbledklbfgaaGreatDoor
open Go.RowKit
theorem nat_DivModA(x y:Nat)(hx:x<256 ^ 128)(hy:y<256 ^ 128)(h0:0<y)(w:World):Calls Tryz.prog 91 #[.string (nS x),.string (nS y)] w (Ret (.tuple #[.string (nS (x / y)),.string (nS (x%y)),.int .i64 0]) w):=by
 have HD:=Hq (nat_dividedA x y hx hy h0);have hem:=empty_nS h0;have hs1:=nS_size_le.2 hx;have hs2:=nS_size_le.2 hy;have HV1:=Hq (nvalid_nS.2 hx);have HV2:=Hq (nvalid_nS.2 hy);obtain⟨s,hs⟩:∃ s,nS x=s:=⟨_,rfl⟩;obtain⟨t,ht⟩:∃ t,nS y=t:=⟨_,rfl⟩;rw[hs]at hs1 HV1 HD⊢;rw[ht]at hs2 HV2 hem HD⊢;clear hs ht hx hy;go_enter Tryz.func91,Tryz.ntmps91;go_wp2_with fail;refine(nat_Valid s (by omega) _).mono ?_;rintro e w1 ⟨rfl,rfl⟩;rw[HV1.out];go_wp2_with fail;refine(nat_Valid t (by omega) _).mono ?_;rintro e w1 ⟨rfl,rfl⟩;rw[HV2.out];go_wp2_with fail;refine(HD.out _).mono ?_;rintro e w1 ⟨rfl,hb⟩;have HB:=Hq hb;clear hb;go_wp2;go_ret3;exact⟨rfl,HB.out⟩
set_option maxRecDepth 100000
set_option maxHeartbeats 2000000
open Go.RowKit Go.Shelf
attribute [local go_sem] Oper.semAt_some
def dv(l:List Bool):Nat:=l.foldl (fun v b=>2 * v+(if b then 1 else 0)) 0
theorem dv_snoc(l:List Bool)(b:Bool):dv (l++[b])=2 * dv l+(if b then 1 else 0):=by simp[dv]
theorem dv_step{n e:Nat}{pre:List Bool}(h:dv pre=n / 2 ^ (e+1)):dv (pre++[bitB n e])=n / 2 ^ e:=by
 rw[dv_snoc,h];unfold bitB;rw[Nat.pow_succ,←Nat.div_div_eq_div_mul];simp only[beq_iff_eq];split<;>omega
def KpD(D:Nat)(W W':World):Prop:=W'.heap[D]? =W.heap[D]?
theorem digits_stops(k n:Nat)(hn:n<256 ^ 128)(hk:1≤k)(D:Nat)(w:World)(hD:w.heap[D]? =some (.cells #[.string (nS n)] 22 (0,0))) :
 SeqStopsK Fence.wide k Tryz.prog 164 #[.pointer (some ⟨D,0,none⟩)] (fun b:Bool=>#[Value.bool b]) (KpD D) (fun xs=>dv xs=n) (fun _=>True) (blen n) w:=fun l J Jx W hW hJ hJx hY h0=>by
 have HBS:=Hq (nat_Bits n hn);have hb:=hW;have HBT:=Hq (fun i hi=>nat_Bit n i hn hi);have hDW:W.heap[D]? =some (.cells #[.string (nS n)] 22 (0,0)):=by rw[hW.block D (block_lt hD)];exact hD
 have hcl:∀ W':World,W'.heap[D]? =some (.cells #[.string (nS n)] 22 (0,0))→W'.cell? ⟨D,0,none⟩=some (.string (nS n)):=fun W' h=>by rw[Lib.cell_of_heap h];rfl
 have HCL:=Hq hcl;have c0:=hcl W hDW;have HE0:=Hq (show n / 2 ^ blen n=0 from Nat.div_eq_of_lt (blen_lt n));have hbn:blen n≤1024:=blen_le8 (k:=128) hn;obtain⟨s,hs⟩:∃ s,nS n=s:=⟨_,rfl⟩;rw[hs]at HBS HBT HCL c0 hDW;obtain⟨B,hB⟩:∃ B,blen n=B:=⟨_,rfl⟩;rw[hB]at HBS HE0 hbn hY;have HY:=Hq hY;clear hY hcl hs hB hD hn hW hb;refine callsIn_of_wp Tryz.func164 rfl trivial ?_ rfl;simp only[Tryz.ntmps164,List.size_toArray,List.length_cons,List.length_nil,Nat.reduceAdd,Nat.reduceSub,Array.replicate_succ,Array.replicate_zero,List.push_toArray,List.append_toArray,List.nil_append,List.cons_append];gi_wp2;refine⟨trivial,callsIn_wide.2 ((HBS.out _).mono ?_)⟩;rintro e w' ⟨rfl,rfl⟩;gi_wp2;gi_loopw [3] (fun i wr=>∃(K:Nat) (pre:List Bool),K≤B∧i=.int .i64 ((K:Int) - 1)∧pre.length+K=B∧dv pre=n / 2 ^ K∧wr.heap[D]? =some (.cells #[.string s] 22 (0,0))∧J pre wr) (fun i _=>(intOf i+1).toNat);case atStart=>exact⟨B,[],Nat.le_refl _,by go_num,by simp,by rw[HE0.out];rfl,hDW,h0⟩
 case round =>
  obtain⟨K,pre,hK,rfl,hlen,hdv,hDr,hJr⟩:=hrel;have HDV:=Hq hdv;have HLEN:=Hq hlen;have HDR:=Hq hDr;have c1:=HCL.out _ hDr;clear hdv hlen hDr;by_cases hlt:0<K
  · obtain⟨e,rfl⟩:∃ e,K=e+1:=⟨K - 1,by omega⟩;rw[show ((e+1:Nat):Int) - 1=(e:Int)from by omega];have he0:(0:Int)≤(e:Int):=by omega
    have HST:=Hq (dv_step HDV.out);obtain⟨b,hbb⟩:∃ b,bitB n e=b:=⟨_,rfl⟩;have HBE:=Hq (HBT.out e (by omega));rw[hbb]at HST HBE;clear hbb;obtain⟨fn,tmps,assign,body,hy,hR⟩:=HY.out pre b wr hJr (by have:=HLEN.out;omega);have HR:=Hq hR;clear hR;gi_wp2;refine⟨trivial,callsIn_wide.2 ((HBE.out _).mono ?_)⟩;rintro ev w' ⟨rfl,rfl⟩;gi_wp2;refine HR.out.mono ?_;rintro ev W' (⟨rfl,hJ',hk'⟩ | ⟨rfl,hJx'⟩)
    · have HJ':=Hq hJ';have HK':=Hq hk';clear hJ' hk';gi_wp2;go_roundw;case rel=>exact⟨e,pre++[b],by omega,by go_num,by have:=HLEN.out;simp;omega,HST.out,by rw[HK'.out];exact HDR.out,HJ'.out⟩
      case measure=>simp[intOf]<;>omega
    · gi_wp2;refine bodyPost_ret (results_none rfl _ _ _) rfl ?_;exact⟨⟨_,rfl⟩,.inr ⟨pre++[b],trivial,hJx'⟩⟩
  · obtain rfl:K=0:=by omega
    have hneg:((0:Nat):Int) - 1 = -1:=rfl;rw[hneg];gi_wp2;go_end0;exact⟨⟨_,rfl⟩,.inl ⟨pre,by rw[HDV.out,Nat.pow_zero,Nat.div_one],hJr⟩⟩
theorem OutB.kept{w w':World}{K B n i v:Nat}(h:OutB w B n i v)(hb:Below K w w')(hB:B<K):OutB w' B n i v:=by
 obtain⟨cur,h1,h2,h3⟩:=h;exact⟨cur,by rw[←h1];exact hb.block _ hB,h2,h3⟩
theorem OutB.get{w:World}{B n v:Nat}(h:OutB w B n n v){k j:Nat}(hk:k+1+j=n):w.cell? ⟨B,k,none⟩=some (.int .u8 (dig v j)):=by
 obtain⟨cur,h1,h2,h3⟩:=h;rw[Lib.cell_of_heap h1];have:=h3 j (by omega);rwa[show n - 1 - j=k from by omega]at this
theorem OutB.zero{w:World}(n:Nat):OutB (w.alloc (.cells (zb n) 5)) w.heap.size n n 0:=by
 refine⟨_,heap_alloc_new _ _,zb_size n,fun j h=>?_⟩;unfold zb madeCells;rw[Array.getElem?_map,Array.getElem?_range,if_pos (by omega)];simp[Nat.mod_one,dig]
theorem OutB.put{w:World}{B n v v' k j c:Nat}(h:OutB w B n n v)(hk:k+1+j=n)(hc:dig v' j=c)(ho:∀ i,i≠j→dig v' i=dig v i):OutB (w.setCell ⟨B,k,none⟩ (.int .u8 (c:Int))) B n n v':=by
 obtain⟨cur,h1,h2,h3⟩:=h;refine⟨_,block_setCell h1 _,by rw[Array.size_setIfInBounds,h2],fun i hi=>?_⟩;rw[Array.getElem?_setIfInBounds];by_cases e:i=j
 · subst e;rw[if_pos (by omega),if_pos (by omega),hc]
 · rw[if_neg (by omega),ho i e];exact h3 i hi
theorem num_one:(nS 1)=⟨#[1]⟩:=rfl
theorem blen_1024{n:Nat}(hn:n<256 ^ 128):blen n≤1024:=blen_le8 hn
theorem pw_two(a E m:Nat):a ^ E%m * (a ^ E%m)%m=a ^ (2 * E)%m:=by
 rw[←Nat.mul_mod,←Nat.pow_add,Nat.two_mul]
theorem pw_one'(a E m:Nat):a ^ E%m * (a%m)%m=a ^ (E+1)%m:=by
 rw[←Nat.mul_mod,Nat.pow_succ]
end Go.Proofs.YtfbmbledklbfgaaGreatDoor

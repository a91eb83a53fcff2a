import Derived.Test.YtdhnkmbjogmmkaaGreatDoorQBit
import Derived.RangeFuncNested
import Derived.RangeFuncBound
import Derived.Shelf.RegionOpen
import Derived.OwnWalkIn
import Derived.LoopNIn
import Derived.LoopIn
set_option linter.unusedVariables false
set_option linter.unusedSimpArgs false
namespace Go.Proofs.YtdhnkmbjogmmkaaGreatDoor
set_option maxRecDepth 100000
set_option maxHeartbeats 2000000
open Go.RowKit Go.Shelf
attribute [local go_sem] Oper.semAt_some
def dv(l:List Bool):Nat:=l.foldl (fun v b=>2 * v+(if b then 1 else 0)) 0
theorem dv_snoc(l:List Bool)(b:Bool):dv (l++[b])=2 * dv l+(if b then 1 else 0):=by simp[dv]
theorem dv_step{n e:Nat}{pre:List Bool}(h:dv pre=n / 2 ^ (e+1)):dv (pre++[bitB n e])=n / 2 ^ e:=by
 rw[dv_snoc,h];unfold bitB;rw[Nat.pow_succ,←Nat.div_div_eq_div_mul];simp only[beq_iff_eq];split<;>omega
def KpD(D:Nat)(W W':World):Prop:=W'.heap[D]? =W.heap[D]?
theorem digits_stops(k n:Nat)(hn:n<256 ^ 128)(hk:1≤k)(D:Nat)(w:World)(hD:w.heap[D]? =some (.cells #[.string (nS n)] 22 (0,0))) :
 SeqStopsK Fence.wide k Tryz.prog 81 #[.pointer (some ⟨D,0,none⟩)] (fun b:Bool=>#[Value.bool b]) (KpD D) (fun xs=>dv xs=n) (fun _=>True) (blen n) w:=fun l J Jx W hW hJ hJx hY h0=>by
 have HBS:=Hq (nat_Bits n hn);have hb:=hW;have HBT:=Hq (fun i hi=>nat_Bit n i hn hi);have hDW:W.heap[D]? =some (.cells #[.string (nS n)] 22 (0,0)):=by rw[hW.block D (block_lt hD)];exact hD
 have hcl:∀ W':World,W'.heap[D]? =some (.cells #[.string (nS n)] 22 (0,0))→W'.cell? ⟨D,0,none⟩=some (.string (nS n)):=fun W' h=>by rw[Lib.cell_of_heap h];rfl
 have HCL:=Hq hcl;have c0:=hcl W hDW;have HE0:=Hq (show n / 2 ^ blen n=0 from Nat.div_eq_of_lt (blen_lt n));have hbn:blen n≤1024:=blen_le8 (k:=128) hn;obtain⟨s,hs⟩:∃ s,nS n=s:=⟨_,rfl⟩;rw[hs]at HBS HBT HCL c0 hDW;obtain⟨B,hB⟩:∃ B,blen n=B:=⟨_,rfl⟩;rw[hB]at HBS HE0 hbn hY;have HY:=Hq hY;clear hY hcl hs hB hD hn hW hb;refine callsIn_of_wp Tryz.func81 rfl trivial ?_ rfl;simp only[Tryz.ntmps81,List.size_toArray,List.length_cons,List.length_nil,Nat.reduceAdd,Nat.reduceSub,Array.replicate_succ,Array.replicate_zero,List.push_toArray,List.append_toArray,List.nil_append,List.cons_append];gi_wp2;refine⟨trivial,callsIn_wide.2 ((HBS.out _).mono ?_)⟩;rintro e w' ⟨rfl,rfl⟩;gi_wp2;gi_loopw [3] (fun i wr=>∃(K:Nat) (pre:List Bool),K≤B∧i=.int .i64 ((K:Int) - 1)∧pre.length+K=B∧dv pre=n / 2 ^ K∧wr.heap[D]? =some (.cells #[.string s] 22 (0,0))∧J pre wr) (fun i _=>(intOf i+1).toNat);case atStart=>exact⟨B,[],Nat.le_refl _,by go_num,by simp,by rw[HE0.out];rfl,hDW,h0⟩
 case round =>
  obtain⟨K,pre,hK,rfl,hlen,hdv,hDr,hJr⟩:=hrel;have HDV:=Hq hdv;have HLEN:=Hq hlen;have HDR:=Hq hDr;have c1:=HCL.out _ hDr;clear hdv hlen hDr;by_cases hlt:0<K
  · obtain⟨e,rfl⟩:∃ e,K=e+1:=⟨K - 1,by omega⟩;rw[show ((e+1:Nat):Int) - 1=(e:Int)from by omega];have he0:(0:Int)≤(e:Int):=by omega
    have HST:=Hq (dv_step HDV.out);obtain⟨b,hbb⟩:∃ b,bitB n e=b:=⟨_,rfl⟩;have HBE:=Hq (HBT.out e (by omega));rw[hbb]at HST HBE;clear hbb;obtain⟨fn,tmps,assign,body,hy,hR⟩:=HY.out pre b wr hJr (by have:=HLEN.out;omega);have HR:=Hq hR;clear hR;gi_wp2;refine⟨trivial,callsIn_wide.2 ((HBE.out _).mono ?_)⟩;rintro ev w' ⟨rfl,rfl⟩;gi_wp2;refine HR.out.mono ?_;rintro ev W' (⟨rfl,hJ',hk'⟩ | ⟨rfl,hJx'⟩)
    · have HJ':=Hq hJ';have HK':=Hq hk';clear hJ' hk';gi_wp2;go_roundw;case rel=>exact⟨e,pre++[b],by omega,by go_num,by have:=HLEN.out;simp;omega,HST.out,by rw[HK'.out];exact HDR.out,HJ'.out⟩
      case measure=>simp[intOf]<;>omega
    · gi_wp2;refine bodyPost_ret (results_none rfl _ _ _) rfl ?_;exact⟨⟨_,rfl⟩,.inr ⟨pre++[b],trivial,hJx'⟩⟩
  · obtain rfl:K=0:=by omega
    have hneg:((0:Nat):Int) - 1 = -1:=rfl;rw[hneg];gi_wp2;go_end0;exact⟨⟨_,rfl⟩,.inl ⟨pre,by rw[HDV.out,Nat.pow_zero,Nat.div_one],hJr⟩⟩
set_option maxRecDepth 100000
set_option maxHeartbeats 4000000
open Go.RowKit
def zi(n:Nat):Array Value:=madeCells #[.int .i64 0] n
theorem zi_size(n:Nat):(zi n).size=n:=size_madeCells _ _
theorem int_info:(Tryz.prog.info? 3).map (fun i=>(i.zero,i.size,i.bytes))=some (some (.int .i64 0),1,8):=by kernel_rfl
theorem make_ints(n:Nat)(hn:n≤1000000)(w:World):(Instr.makeSlice 34 (.int .i64 n) (.int .i64 n)).run Tryz.prog w=.ok (.slice (some ⟨w.heap.size,0,none⟩) n n) (w.alloc (.cells (zi n) 3)):=by
 obtain⟨i0,hi,hz0,hz1,hz2⟩:=info_parts int_info;have h:=run_make (P:=Tryz.prog) w 34 3 i0 (.int .i64 0) Tryz.underlying34 hi hz0 .i64 .i64 (n:Int) (n:Int) (by omega) (Int.le_refl _) (by rw[hz2];omega) (by omega);rw[h,hz1,Int.toNat_natCast,Nat.mul_one];rfl
def ColB(w:World)(B n:Nat)(f:Nat→Nat):Prop:=∃ cur:Array Value,w.heap[B]? =some (.cells cur 3 (0,0))∧cur.size=n∧∀ j,j<n→cur[j]? =some (.int .i64 (f j))
theorem ColB.start{w:World}(n:Nat):ColB (w.alloc (.cells (zi n) 3)) w.heap.size n (fun _=>0):=by
 refine⟨_,heap_alloc_new _ _,zi_size n,fun j h=>?_⟩;unfold zi madeCells;rw[Array.getElem?_map,Array.getElem?_range,if_pos h];simp[Nat.mod_one]
theorem ColB.cell{w:World}{B n:Nat}{f:Nat→Nat}(h:ColB w B n f){k:Nat}(hk:k<n):w.cell? ⟨B,k,none⟩=some (.int .i64 (f k)):=by
 obtain⟨cur,h1,h2,h3⟩:=h;rw[Lib.cell_of_heap h1];exact h3 k hk
theorem ColB.free{w:World}{B n:Nat}{f:Nat→Nat}(h:ColB w B n f)(k:Nat):w.frozen? ⟨B,k,none⟩=false:=by
 obtain⟨cur,h1,h2,h3⟩:=h;exact Lib.frozen_of_heap h1 k
theorem ColB.set{w:World}{B n p c:Nat}{f:Nat→Nat}(h:ColB w B n f):ColB (w.setCell ⟨B,p,none⟩ (.int .i64 (c:Int))) B n (fun j=>if j=p then c else f j):=by
 obtain⟨cur,h1,h2,h3⟩:=h;refine⟨_,block_setCell h1 _,by rw[Array.size_setIfInBounds,h2],fun j hj=>?_⟩;rw[Array.getElem?_setIfInBounds];by_cases e:j=p
 · subst e;rw[if_pos rfl,if_pos (by omega)];simp
 · rw[if_neg (by omega)];simp only[if_neg e];exact h3 j hj
theorem ColB.drew{w:World}{B n:Nat}{f:Nat→Nat}(h:ColB w B n f):ColB w.drew B n f:=h
theorem ColB.kept{w w':World}{K B n:Nat}{f:Nat→Nat}(h:ColB w B n f)(hb:Below K w w')(hB:B<K):ColB w' B n f:=by
 obtain⟨cur,h1,h2,h3⟩:=h;exact⟨cur,by rw[←h1];exact hb.block _ hB,h2,h3⟩
def cs(f:Nat→Nat):Nat→Nat→Nat
 | 0,_=>0
 | n+1,i=>f i+256 * cs f n (i+1)
theorem cs_zero(n i:Nat):cs (fun _=>0) n i=0:=by
 induction n generalizing i with
 | zero=>rfl
 | succ n IH=>simp[cs,IH]
theorem cs_set(f:Nat→Nat)(v n i p:Nat):cs (fun j=>if j=p then f p+v else f j) n i=cs f n i+(if i≤p∧p<i+n then v * 256 ^ (p - i)else 0):=by
 induction n generalizing i with
 | zero=>rw[if_neg (by omega)];rfl
 | succ n IH =>
  simp only[cs];rw[IH];by_cases e:i=p
  · subst e;rw[if_pos rfl,if_neg (by omega),if_pos (by omega),Nat.sub_self];omega
  · rw[if_neg e];by_cases h:i+1≤p∧p<i+1+n
    · rw[if_pos h,if_pos (by omega),show p - i=p - (i+1)+1 from by omega,Nat.pow_succ,←Nat.mul_assoc];omega
    · rw[if_neg h,if_neg (by omega)];omega
theorem mod_more(x i:Nat):x%256 ^ (i+1)=x%256 ^ i+256 ^ i * dig x i:=by
 rw[Nat.mod_pow_succ];rfl
theorem tim_step{x y i j S:Nat}(h:S=x%256 ^ i * y+dig x i * 256 ^ i * (y%256 ^ j)):S+dig x i * dig y j * 256 ^ (i+j)=x%256 ^ i * y+dig x i * 256 ^ i * (y%256 ^ (j+1)):=by
 rw[h,mod_more y j,Nat.pow_add,Nat.mul_add (dig x i * 256 ^ i),Nat.add_assoc];congr 2;rw[Nat.mul_mul_mul_comm,Nat.mul_comm (dig y j)]
theorem tim_row{x y i:Nat}:x%256 ^ i * y+dig x i * 256 ^ i * y=x%256 ^ (i+1) * y:=by
 rw[mod_more,Nat.add_mul,Nat.mul_comm (dig x i)]
theorem car_step{V f r q i:Nat}(h:V / 256 ^ i=f+256 * r+q):V / 256 ^ (i+1)=r+(f+q) / 256∧dig V i=(f+q)%256:=by
 unfold dig;rw[Nat.pow_succ,←Nat.div_div_eq_div_mul,h];omega
theorem r01_Times_long(x y:Nat)(hs1:(nS x).size≤200)(hs2:(nS y).size≤200)(hlg:8<(nS x).size+(nS y).size)(w:World):Calls Tryz.prog 125 #[.string (nS x),.string (nS y)] w (Ret (.string (nS (x * y))) w):=by
 have hmx:x<256 ^ (nS x).size:=nS_size_le.1 nlr;have hmy:y<256 ^ (nS y).size:=nS_size_le.1 nlr;obtain⟨s,hs⟩:∃ s,nS x=s:=⟨_,rfl⟩;obtain⟨t,ht⟩:∃ t,nS y=t:=⟨_,rfl⟩;rw[hs]at hs1 hmx hlg⊢;rw[ht]at hs2 hmy hlg⊢;have HS:=Hq hs;have HT:=Hq ht;have HX:=Hq (show (nS x).size≤1000 from by rw[hs];omega);have HY:=Hq (show (nS y).size≤1000 from by rw[ht];omega);clear hs ht;obtain⟨a,ha⟩:∃ a,s.size=a:=⟨_,rfl⟩;obtain⟨b,hb⟩:∃ b,t.size=b:=⟨_,rfl⟩;rw[ha]at hs1 hmx hlg;rw[hb]at hs2 hmy hlg;have HMX:=Hq hmx;have HMY:=Hq hmy;have HXY:=Hq (show x * y<256 ^ (a+b)from by rw[Nat.pow_add];exact Nat.mul_lt_mul'' hmx hmy);clear hmx hmy;have hlg2:¬ ((a:Int)+(b:Int)≤8):=by omega
 have hmk:=fun(w:World)=>make_ints (a+b+1) (by omega) w;have hmb:=fun(w:World)=>make_bytes (a+b) (by omega) w;simp only[Int.natCast_add,Int.natCast_one]at hmk hmb;go_enter Tryz.func125,Tryz.ntmps125;go_wp2;clear hmk;go_loopw [7] (fun i wr=>∃(k:Nat) (f:Nat→Nat),k≤a∧i=.int .i64 k∧cs f (a+b+1) 0=x%256 ^ k * y∧(∀ j,f j≤13005000 * k)∧ColB wr w.heap.size (a+b+1) f∧Below w.heap.size w wr) (fun i _=>a - (intOf i).toNat);case atStart=>exact⟨0,fun _=>0,Nat.zero_le _,rfl,by rw[cs_zero,Nat.pow_zero,Nat.mod_one,Nat.zero_mul],fun _=>Nat.zero_le _,ColB.start _,(blr).alloc nlr _⟩
 case round =>
  obtain⟨k,f,hk,rfl,hcs,hfb,hC,hB⟩:=hrel;have HC:=Hq hC;have HB:=Hq hB;have HCS:=Hq hcs;have HFB:=Hq hfb;clear hC hB hcs hfb;by_cases hlt:k<a
  · have HD:=Hq (r01_at x k HX.out);rw[HS.out]at HD;have hd1:=dig_lt x k;obtain⟨d,hde⟩:∃ d,dig x k=d:=⟨_,rfl⟩;have HDE:=Hq hde;rw[hde]at hd1 HD;clear hde;go_wp2;go_loopw [8] (fun i wr=>∃(j:Nat) (f:Nat→Nat),j≤b∧i=.int .i64 j∧cs f (a+b+1) 0=x%256 ^ k * y+dig x k * 256 ^ k * (y%256 ^ j)∧(∀ p,f p≤13005000 * k+65025 * j)∧ColB wr w.heap.size (a+b+1) f∧Below w.heap.size w wr) (fun i _=>b - (intOf i).toNat);case atStart=>exact⟨0,f,Nat.zero_le _,rfl,by rw[HCS.out,Nat.pow_zero,Nat.mod_one,Nat.mul_zero,Nat.add_zero],fun p=>by have:=HFB.out p;omega,HC.out,HB.out⟩
    case round =>
     obtain⟨j,f,hj,rfl,hcs,hfb,hC,hB⟩:=hrel;have HC:=Hq hC;have HB:=Hq hB;have HCS:=Hq hcs;have HFB:=Hq hfb;clear hC hB hcs hfb;by_cases hlt2:j<b
     · have HE:=Hq (r01_at y j HY.out);rw[HT.out]at HE;have hd2:=dig_lt y j;obtain⟨e2,hee⟩:∃ d,dig y j=d:=⟨_,rfl⟩;have HEE:=Hq hee;rw[hee]at hd2 HE;clear hee;obtain⟨p,hp⟩:∃ p,k+j=p:=⟨_,rfl⟩;have hpi:(k:Int)+(j:Int)=(p:Int):=by omega
       have hpn:p<a+b+1:=by omega
       have hpw:IntKind.i64.wrap (p:Int)=(p:Int):=by rw[IntKind.wrap_i64];omega
       have hp0:(0:Int)≤(p:Int):=by omega
       have hp1:(p:Int)<(a:Int)+(b:Int)+1:=by omega
       have c0:=HC.out.drew.cell hpn;have hf0:=HC.out.drew.free p;have hfv:=HFB.out p;obtain⟨v,hv⟩:∃ v,f p=v:=⟨_,rfl⟩;rw[hv]at c0 hfv;have HV:=Hq hv;obtain⟨m,hm⟩:∃ m,d * e2=m:=⟨_,rfl⟩;have hmi:(d:Int) * (e2:Int)=(m:Int):=by rw[←hm];simp
       have hm9:m≤65025:=(by rw[←hm];exact Nat.mul_le_mul (show d≤255 by omega) (show e2≤255 by omega));have HP:=Hq hp;have HM:=Hq hm;clear hv hm hp;obtain⟨wd,hwd⟩:∃ wd,wr.drew=wd:=⟨_,rfl⟩;rw[hwd]at c0 hf0;go_wp2;refine wp_region_K 15 (Eq wd) (by kernel_rfl) ?_;intro hD;rw[hwd];refine qP 0 15 rfl hD rfl ?_;clear hD;intro hD;refine qP 1 14 rfl hD rfl ?_;clear hD;intro hD;refine qP 2 13 rfl hD rfl ?_;clear hD;intro hD;refine qP 3 12 rfl hD rfl ?_;clear hD;intro hD;refine qP 4 11 rfl hD rfl ?_;clear hD;intro hD;refine qT 5 10 rfl hD rfl (by intro w' hS';have e0:=(hS'▸c0);go_simp;with_reducible rfl) ?_;clear hD;intro hD;refine qP 6 9 rfl hD rfl ?_;clear hD;intro hD;refine qP 7 8 rfl hD rfl ?_;clear hD;intro hD;refine qP 9 7 rfl hD rfl ?_;clear hD;intro hD;refine qP 10 6 rfl hD rfl ?_;clear hD;intro hD;simp only[Act.put,sqA,sqB,sqC];refine wpAnyK_one (i:=8) (fuel:=5) (by kernel_rfl) rfl hD ?_;clear hD;intro K8 hK8;go_wp2_with fail;refine(HD.out _).mono ?_;rintro e w1 ⟨rfl,rfl⟩;go_wp2;refine hK8 _ _ (by rfl) ?_;clear hK8;intro hS_11_8 hD;refine wpAnyK_one (i:=11) (fuel:=4) (by kernel_rfl) rfl hD ?_;clear hD;intro K11 hK11;go_wp2_with fail;refine(HE.out _).mono ?_;rintro e w1 ⟨rfl,rfl⟩;go_wp2;refine hK11 _ _ (by rfl) ?_;clear hK11;intro hS_11_11 hD;refine qP 12 3 rfl hD hS_11_11 ?_;clear hD;intro hD;refine qP 13 2 rfl hD hS_11_11 ?_;clear hD;intro hD;refine qP 14 1 rfl hD hS_11_11 ?_;clear hD;intro hD;simp only[Act.put,sqA,sqB,sqC];refine wpAnyK_oneT (i:=15) (fuel:=0) (by kernel_rfl) rfl hD (by kernel_rfl) ?_;clear hD;intro K15 hK15;go_wp2;refine hK15 _ _ ?_;clear hK15;intro hD;refine wpAnyK_done (by kernel_rfl) ?_ 0;clear hD;go_wp2;go_roundw;case rel =>
        refine⟨j+1,fun q=>if q=p then f p+m else f q,by omega,by go_num,?_,fun q=>?_,?_,?_⟩
        · rw[cs_set,if_pos (by omega),HCS.out,←HM.out,←HDE.out,←HEE.out,←HP.out,Nat.sub_zero];exact tim_step rfl
        · have h1:=HFB.out q;have h2:=HFB.out p;by_cases e:q=p
          · simp only[if_pos e];omega
          · simp only[if_neg e];omega
        · rw[←hwd,show (v:Int)+(m:Int)=((f p+m:Nat):Int)from by rw[HV.out];omega];exact HC.out.drew.set
        · rw[←hwd];exact(HB.out.drew).setCell (p:=⟨w.heap.size,p,none⟩) nlr _
       case measure=>simp[intOf];omega
     · obtain rfl:j=b:=by omega
       have HROW:=Hq (show x%256 ^ k * y+dig x k * 256 ^ k * (y%256 ^ j)=x%256 ^ (k+1) * y from by rw[Nat.mod_eq_of_lt HMY.out];exact tim_row);go_wp2;go_roundw;case rel=>exact⟨k+1,f,by omega,by go_num,by rw[HCS.out,HROW.out],fun q=>by have:=HFB.out q;omega,HC.out,HB.out⟩
       case measure=>simp[intOf];omega
  · obtain rfl:k=a:=by omega
    have HV:=Hq (show cs f (k+b+1) 0=x * y from by rw[HCS.out,Nat.mod_eq_of_lt HMX.out]);have hgb:w.heap.size<wr.heap.size:=(by obtain⟨cur,h1,_⟩:=HC.out;exact block_lt h1);go_wp2;go_loopw [10,11] (fun c i wq=>∃(z q:Nat),z≤k+b∧i=.int .i64 z∧c=.int .i64 q∧q≤13005000 * k∧x * y / 256 ^ z=cs f (k+b+1 - z) z+q∧OutB wq wr.heap.size (k+b) z (x * y)∧Below wr.heap.size wr wq) (fun _ i _=>k+b - (intOf i).toNat);case atStart=>exact⟨0,0,Nat.zero_le _,rfl,rfl,Nat.zero_le _,by rw[Nat.pow_zero,Nat.div_one,Nat.sub_zero,Nat.add_zero,HV.out],OutB.start _ _,(blr).alloc nlr _⟩
    case round =>
     obtain⟨z,q,hz,rfl,rfl,hq,hdiv,hO,hBq⟩:=hrel;have HO:=Hq hO;have HBQ:=Hq hBq;have HDV:=Hq hdiv;clear hO hBq hdiv;by_cases hlt3:z<k+b
     · obtain⟨j,hj⟩:∃ j,j+z+1=k+b:=⟨k+b - z - 1,by omega⟩;have hix:(k:Int)+(b:Int) - 1 - (z:Int)=(j:Int):=by omega
       have hjm:j<k+b:=by omega
       have c0:=(HC.out.kept HBQ.out hgb).cell (k:=z) (by omega);obtain⟨u,hu⟩:=HO.out.cell hjm;have hf:=HO.out.free j;have hfz:=HFB.out z;have hst:=car_step (V:=x * y) (f:=f z) (r:=cs f (j+1) (z+1)) (q:=q) (i:=z) (by
        rw[HDV.out,show k+b+1 - z=j+1+1 from by omega];simp only[cs]
        )
       obtain⟨v,hv⟩:∃ v,f z=v:=⟨_,rfl⟩;rw[hv]at c0 hfz hst;have HV2:=Hq hv;have HST:=Hq hst;have HJ:=Hq hj;clear hv hst hj;go_wp2;refine⟨⟨z+1,(v+q) / 256,by omega,by go_num,by go_num,by omega,?_,?_,HBQ.out.setCell (p:=⟨_,j,none⟩) nlr _⟩,by simp[intOf];omega⟩
       · rw[HST.out.1,show k+b+1 - (z+1)=j+1 from by have:=HJ.out;omega]
       · have h1:=HO.out.step (k:=j) (by have:=HJ.out;omega);rw[HST.out.2]at h1;rw[show ((v:Int)+(q:Int))%256=(((v+q)%256:Nat):Int)from by omega];exact h1
     · obtain rfl:z=k+b:=by omega
       have HBY:=Hq (HO.out.bytes (by omega));go_wp2_with fail;refine(r01_trim _ _ _ _ _ HBY.out).mono ?_;rintro e w1 ⟨rfl,rfl⟩;rw[trim_beN HXY.out];go_wp2;go_ret;exact⟨rfl,HB.out.trans (HBQ.out.mono (by omega))⟩
theorem r01_Times_small(x y:Nat)(hlg:(nS x).size+(nS y).size≤8)(w:World):Calls Tryz.prog 125 #[.string (nS x),.string (nS y)] w (Ret (.string (nS (x * y))) w):=by
 have hmx:x<256 ^ (nS x).size:=nS_size_le.1 nlr;have hmy:y<256 ^ (nS y).size:=nS_size_le.1 nlr;have h8:∀ k:Nat,k≤8→(256:Nat) ^ k≤18446744073709551616:=fun k hk=>Nat.le_trans (Nat.pow_le_pow_right (by decide) hk) (by decide);have hx8:x<18446744073709551616:=Nat.lt_of_lt_of_le hmx (h8 _ (by omega));have hy8:y<18446744073709551616:=Nat.lt_of_lt_of_le hmy (h8 _ (by omega));have hxy:x * y<18446744073709551616:=Nat.lt_of_lt_of_le (Nat.mul_lt_mul'' hmx hmy) (by rw[←Nat.pow_add];exact h8 _ hlg);have HXY:=Hq hxy;have HN1:=Hq (r01_U64_n x hx8);have HN2:=Hq (r01_U64_n y hy8);have hwm:IntKind.u64.wrap ((x:Int) * (y:Int))=((x * y:Nat):Int):=by rw[←Int.natCast_mul];exact u64_wrap (x * y) hxy
 obtain⟨z,hz⟩:∃ z,x * y=z:=⟨_,rfl⟩;rw[hz]at hwm HXY⊢;obtain⟨s,hs⟩:∃ s,nS x=s:=⟨_,rfl⟩;obtain⟨t,ht⟩:∃ t,nS y=t:=⟨_,rfl⟩;rw[hs]at HN1 hlg⊢;rw[ht]at HN2 hlg⊢;clear hs ht hmx hmy h8 hx8 hy8 hxy hz;have hsz:(s.size:Int)+(t.size:Int)≤8:=by omega
 go_enter Tryz.func125,Tryz.ntmps125;go_wp2_with fail;refine(HN1.out _).mono ?_;rintro e w1 ⟨rfl,rfl⟩;go_wp2_with fail;refine(HN2.out _).mono ?_;rintro e w1 ⟨rfl,rfl⟩;go_wp2_with fail;refine(r01_Of z HXY.out _).mono ?_;rintro e w3 ⟨rfl,hb3⟩;have HB3:=Hq hb3;clear hb3;go_wp2;go_ret;exact⟨rfl,HB3.out⟩
theorem r01_Times(x y:Nat)(hs1:(nS x).size≤200)(hs2:(nS y).size≤200)(w:World):Calls Tryz.prog 125 #[.string (nS x),.string (nS y)] w (Ret (.string (nS (x * y))) w):=by
 by_cases h:(nS x).size+(nS y).size≤8
 · exact r01_Times_small x y h w
 · exact r01_Times_long x y hs1 hs2 (by omega) w
theorem r01_Mul(x y:Nat)(hx:x<256 ^ 128)(hy:y<256 ^ 128)(w:World):Calls Tryz.prog 103 #[.string (nS x),.string (nS y)] w (Ret (fitR (x * y)) w):=by
 have hs1:=nS_size_le.2 hx;have hs2:=nS_size_le.2 hy;have HV1:=Hq (nvalid_nS.2 hx);have HV2:=Hq (nvalid_nS.2 hy);have HT:=Hq (r01_Times x y (by omega) (by omega));have HF:=Hq (r01_fit (x * y) (by
  have : (nS (x * y)).size≤128+128:=nS_size_le.2 (by rw[Nat.pow_add];exact Nat.mul_lt_mul'' hx hy)
  omega))
 obtain⟨s,hs⟩:∃ s,nS x=s:=⟨_,rfl⟩;obtain⟨t,ht⟩:∃ t,nS y=t:=⟨_,rfl⟩;rw[hs]at hs1 HV1 HT⊢;rw[ht]at hs2 HV2 HT⊢;clear hs ht hx hy;obtain⟨r1,r2,hr⟩:=fitR_form (x * y);rw[hr]at HF⊢;clear hr;go_enter Tryz.func103,Tryz.ntmps103;go_wp2_with fail;refine(r01_Valid s (by omega) _).mono ?_;rintro e w1 ⟨rfl,rfl⟩;rw[HV1.out];go_wp2_with fail;refine(r01_Valid t (by omega) _).mono ?_;rintro e w1 ⟨rfl,rfl⟩;rw[HV2.out];go_wp2_with fail;refine(HT.out _).mono ?_;rintro e w3 ⟨rfl,hb3⟩;have HB3:=Hq hb3;clear hb3;go_wp2_with fail;refine(HF.out _).mono ?_;rintro e w4 ⟨rfl,rfl⟩;go_wp2;go_ret2;exact⟨rfl,HB3.out⟩
set_option maxRecDepth 100000
set_option maxHeartbeats 4000000
theorem OutB.kept{w w':World}{K B n i v:Nat}(h:OutB w B n i v)(hb:Below K w w')(hB:B<K):OutB w' B n i v:=by
 obtain⟨cur,h1,h2,h3⟩:=h;exact⟨cur,by rw[←h1];exact hb.block _ hB,h2,h3⟩
theorem OutB.get{w:World}{B n v:Nat}(h:OutB w B n n v){k j:Nat}(hk:k+1+j=n):w.cell? ⟨B,k,none⟩=some (.int .u8 (dig v j)):=by
 obtain⟨cur,h1,h2,h3⟩:=h;rw[Lib.cell_of_heap h1];have:=h3 j (by omega);rwa[show n - 1 - j=k from by omega]at this
theorem OutB.zero{w:World}(n:Nat):OutB (w.alloc (.cells (zb n) 5)) w.heap.size n n 0:=by
 refine⟨_,heap_alloc_new _ _,zb_size n,fun j h=>?_⟩;unfold zb madeCells;rw[Array.getElem?_map,Array.getElem?_range,if_pos (by omega)];simp[Nat.mod_one,dig]
theorem OutB.put{w:World}{B n v v' k j c:Nat}(h:OutB w B n n v)(hk:k+1+j=n)(hc:dig v' j=c)(ho:∀ i,i≠j→dig v' i=dig v i):OutB (w.setCell ⟨B,k,none⟩ (.int .u8 (c:Int))) B n n v':=by
 obtain⟨cur,h1,h2,h3⟩:=h;refine⟨_,block_setCell h1 _,by rw[Array.size_setIfInBounds,h2],fun i hi=>?_⟩;rw[Array.getElem?_setIfInBounds];by_cases e:i=j
 · subst e;rw[if_pos (by omega),if_pos (by omega),hc]
 · rw[if_neg (by omega),ho i e];exact h3 i hi
theorem set_at(q e:Nat):(q * 2 ^ (e+1)+2 ^ e) / 256 ^ (e / 8)=q * 2 ^ (e+1) / 256 ^ (e / 8)+2 ^ (e%8)∧q * 2 ^ (e+1) / 256 ^ (e / 8)%256+2 ^ (e%8)<256:=by
 obtain⟨a,ha⟩:∃ a,e / 8=a:=⟨_,rfl⟩;obtain⟨b,hb⟩:∃ b,e%8=b:=⟨_,rfl⟩;have hb8:b<8:=by omega
 have he:e=8 * a+b:=by omega
 rw[ha,hb];subst he;have e1:q * 2 ^ (8 * a+b+1)=q * 2 ^ (b+1) * 256 ^ a:=by
  rw[show (256:Nat) ^ a=2 ^ (8 * a)from by rw[Nat.pow_mul],Nat.mul_assoc,←Nat.pow_add];congr 2;omega
 have e2:(2:Nat) ^ (8 * a+b)=2 ^ b * 256 ^ a:=(by rw[show (256:Nat) ^ a=2 ^ (8 * a)from by rw[Nat.pow_mul],←Nat.pow_add];congr 1;omega);have hp:0<256 ^ a:=Nat.pow_pos (by decide);rw[e1,e2,←Nat.add_mul,Nat.mul_div_cancel _ hp,Nat.mul_div_cancel _ hp];clear e1 e2 hp ha hb;refine⟨rfl,?_⟩
 match b,hb8 with
 | 0,_=>omega
 | 1,_=>omega
 | 2,_=>omega
 | 3,_=>omega
 | 4,_=>omega
 | 5,_=>omega
 | 6,_=>omega
 | 7,_=>omega
theorem dig_set_at(q e:Nat):dig (q * 2 ^ (e+1)+2 ^ e) (e / 8)=dig (q * 2 ^ (e+1)) (e / 8)+2 ^ (e%8)∧dig (q * 2 ^ (e+1)) (e / 8)+2 ^ (e%8)<256:=by
 obtain⟨h1,h2⟩:=set_at q e;unfold dig;rw[h1];generalize q * 2 ^ (e+1) / 256 ^ (e / 8)=A at *;generalize 2 ^ (e%8)=P at *;omega
theorem dig_set_off(q e i:Nat)(hi:i≠e / 8):dig (q * 2 ^ (e+1)+2 ^ e) i=dig (q * 2 ^ (e+1)) i:=by
 obtain⟨h1,h2⟩:=set_at q e;obtain⟨a,ha⟩:∃ a,e / 8=a:=⟨_,rfl⟩;obtain⟨b,hb⟩:∃ b,e%8=b:=⟨_,rfl⟩;have he:e=8 * a+b:=by omega
 rw[ha,hb]at h1 h2;rw[ha]at hi;unfold dig;rcases Nat.lt_or_ge i a with h | h
 · have e1:∀ c,2 ^ (8 * a+c)=2 ^ (8 * (a - i - 1)+c) * 256 * 256 ^ i:=(by intro c;rw[show (256:Nat) ^ i=2 ^ (8 * i)from by rw[Nat.pow_mul],show (256:Nat)=2 ^ 8 from rfl,←Nat.pow_add,←Nat.pow_add];congr 1;omega);have hp:0<256 ^ i:=Nat.pow_pos (by decide);rw[he,show 8 * a+b+1=8 * a+(b+1)from by omega,e1,e1,←Nat.mul_assoc q,←Nat.add_mul,Nat.mul_div_cancel _ hp,Nat.mul_div_cancel _ hp,←Nat.mul_assoc q,←Nat.add_mul,Nat.mul_mod_left,Nat.mul_mod_left]
 · obtain⟨c,rfl⟩:∃ c,i=a+1+c:=⟨i - a - 1,by omega⟩;have key:∀ m,m / 256 ^ (a+1+c)=m / 256 ^ a / 256 / 256 ^ c:=(by intro m;rw[Nat.div_div_eq_div_mul,Nat.div_div_eq_div_mul,show (256:Nat) ^ (a+1+c)=256 ^ a * (256 * 256 ^ c)from by rw[Nat.pow_add,Nat.pow_succ,Nat.mul_assoc]]);rw[key,key,h1];congr 2;generalize q * 2 ^ (e+1) / 256 ^ a=A at *;generalize 2 ^ b=P at *;omega
theorem half_up(x e:Nat):∃ β,β≤1∧(bitB x e=true→β=1)∧(bitB x e=false→β=0)∧x / 2 ^ e=2 * (x / 2 ^ (e+1))+β:=by
 refine⟨x / 2 ^ e%2,by omega,?_,?_,?_⟩
 · unfold bitB;simp
 · unfold bitB;simp
 · rw[Nat.pow_succ,←Nat.div_div_eq_div_mul];omega
theorem over_lo{X y q r β t:Nat}(hq:X / y=q)(hr:X%y=r)(ht:2 * r+β=t)(h:t<y):(2 * X+β) / y=2 * q∧(2 * X+β)%y=t:=by
 have h0:0<y:=by omega
 have h1:=Nat.div_add_mod X y;rw[hq,hr]at h1;have e:2 * X+β=t+y * (2 * q):=(by rw[←h1,←ht,Nat.mul_left_comm y 2 q];omega);rw[e,Nat.add_mul_div_left _ _ h0,Nat.add_mul_mod_self_left,Nat.div_eq_of_lt h,Nat.mod_eq_of_lt h,Nat.zero_add];exact⟨rfl,rfl⟩
theorem over_hi{X y q r β t:Nat}(hq:X / y=q)(hr:X%y=r)(ht:2 * r+β=t)(hβ:β≤1)(h0:0<y)(h:y≤t):(2 * X+β) / y=2 * q+1∧(2 * X+β)%y=t - y:=by
 have hl:r<y:=by rw[←hr];exact Nat.mod_lt _ h0
 have h1:=Nat.div_add_mod X y;rw[hq,hr]at h1;have e:2 * X+β=(t - y)+y * (2 * q+1):=by
  have h3:y * (2 * q+1)=2 * (y * q)+y:=by rw[Nat.mul_add,Nat.mul_one,Nat.mul_left_comm]
  rw[h3,←h1];omega
 have h2:t - y<y:=by omega
 rw[e,Nat.add_mul_div_left _ _ h0,Nat.add_mul_mod_self_left,Nat.div_eq_of_lt h2,Nat.mod_eq_of_lt h2,Nat.zero_add];exact⟨rfl,rfl⟩
theorem num_one:(nS 1)=⟨#[1]⟩:=rfl
def OvQ(x y K:Nat):Nat:=x / 2 ^ K / y * 2 ^ K
theorem ovq_lo{x y e:Nat}(h:x / 2 ^ e / y=2 * (x / 2 ^ (e+1) / y)):OvQ x y e=OvQ x y (e+1):=by
 unfold OvQ;rw[h,Nat.pow_succ,Nat.mul_comm 2,Nat.mul_assoc,Nat.mul_comm 2]
theorem ovq_hi{x y e:Nat}(h:x / 2 ^ e / y=2 * (x / 2 ^ (e+1) / y)+1):OvQ x y e=OvQ x y (e+1)+2 ^ e:=by
 unfold OvQ;rw[h,Nat.add_mul,Nat.one_mul,Nat.pow_succ,Nat.mul_comm 2,Nat.mul_assoc,Nat.mul_comm 2]
theorem r01_Over_long(x y:Nat)(hs1:(nS x).size≤300)(hs2:(nS y).size≤300)(h0:0<y)(hlg:8<(nS x).size∨8<(nS y).size)(w:World):Calls Tryz.prog 39 #[.string (nS x),.string (nS y)] w (Ret (.tuple #[.string (nS (x / y)),.string (nS (x%y))]) w):=by
 have hmx:x<256 ^ (nS x).size:=nS_size_le.1 nlr;have HBT:=Hq (r01_bits x (by omega));have hbl:=blen_lt x;have hby:blen x≤8 * (nS x).size:=by
  rcases Nat.eq_zero_or_pos x with e | e
  · rw[e];exact Nat.zero_le _
  · have h1:=blen_le e;rcases Nat.lt_or_ge (8 * (nS x).size) (blen x)with h | h
    · have : (2:Nat) ^ (8 * (nS x).size)≤2 ^ (blen x - 1):=Nat.pow_le_pow_right (by decide) (by omega);rw[Nat.pow_mul,show (2:Nat) ^ 8=256 from rfl]at this;omega
    · exact h
 have HYS:=Hq (show ∀ t,t<2 * y→(nS t).size≤400 from fun t ht=>by
  have h1:y<256 ^ (nS y).size:=nS_size_le.1 nlr;have h2:(nS t).size≤(nS y).size+1:=nS_size_le.2 (by rw[Nat.pow_succ];omega)
  omega)
 have HXQ:=Hq (show (nS (x / y)).size≤1000 from by
  have : (nS (x / y)).size≤(nS x).size:=nS_size_le.2 (Nat.lt_of_le_of_lt (Nat.div_le_self _ _) hmx)
  omega)
 have HX1:=Hq (show x / y<256 ^ (nS x).size from Nat.lt_of_le_of_lt (Nat.div_le_self _ _) hmx);have HONE:=Hq (fun e (he:e<100000)=>r01_one x e (by omega) he);obtain⟨s,hs⟩:∃ s,nS x=s:=⟨_,rfl⟩;obtain⟨sy,hty⟩:∃ t,nS y=t:=⟨_,rfl⟩;rw[hs]at hs1 hlg hby HBT HONE HX1⊢;rw[hty]at hs2 hlg⊢;have HTY:=Hq hty;clear hs hty hmx;obtain⟨a,ha⟩:∃ a,s.size=a:=⟨_,rfl⟩;obtain⟨m,hm⟩:∃ m,blen x=m:=⟨_,rfl⟩;rw[ha]at hs1 hlg hby HX1;rw[hm]at hby HBT hbl;have HX2:=Hq (show x / 2 ^ m=0 from Nat.div_eq_of_lt hbl);clear hbl hm;have hdec:(decide ((a:Int)≤8)&&decide ((sy.size:Int)≤8))=false:=by
  rcases hlg with h | h
  · rw[decide_eq_false (by omega)];rfl
  · rw[decide_eq_false (p:=(sy.size:Int)≤8) (by omega),Bool.and_false]
 have hmb:=fun(w:World)=>make_bytes a (by omega) w;obtain⟨b,hb⟩:∃ b,sy.size=b:=⟨_,rfl⟩;rw[hb]at hs2 hlg hdec;by_cases hl8:(a:Int)≤8
 · have hl9:¬ ((b:Int)≤8):=by omega
   clear hlg hdec;go_enter Tryz.func39,Tryz.ntmps39;go_wp2_with fail;refine(HBT.out _).mono ?_;rintro e w1 ⟨rfl,rfl⟩;go_wp2;clear hmb;go_loopw [9,10] (fun r i wr=>∃(K t:Nat),K≤m∧r=.string (nS t)∧i=.int .i64 ((K:Int) - 1)∧x / 2 ^ K%y=t∧OutB wr w.heap.size a a (OvQ x y K)∧Below w.heap.size w wr) (fun _ i _=>(intOf i+1).toNat);case atStart=>exact⟨m,0,Nat.le_refl _,rfl,by go_num,by rw[HX2.out,Nat.zero_mod],by rw[show OvQ x y m=0 from by unfold OvQ;rw[HX2.out,Nat.zero_div,Nat.zero_mul]];exact OutB.zero _,(blr).alloc nlr _⟩
   case round =>
    obtain⟨K,r,hK,rfl,rfl,hr,hO,hB⟩:=hrel;have HO:=Hq hO;have HB:=Hq hB;have HR:=Hq hr;have hry:r<y:=by rw[←hr];exact Nat.mod_lt _ h0
    have hsr:=HYS.out r (by omega);clear hO hB hr;by_cases hlt:0<K
    · obtain⟨e,rfl⟩:∃ e,K=e+1:=⟨K - 1,by omega⟩;rw[show ((e+1:Nat):Int) - 1=(e:Int)from by omega];have he0:(0:Int)≤(e:Int):=by omega
      obtain⟨β,hβ,hβ1,hβ0,hup⟩:=half_up x e;have HUP:=Hq hup;have HB1:=Hq hβ1;have HB0:=Hq hβ0;clear hup hβ1 hβ0;go_wp2_with fail;refine(r01_Plus r r (by omega) (by omega) _).mono ?_;rintro ev w2 ⟨rfl,hb2⟩;have HB2:=Hq (HB.out.trans (hb2.mono HB.out.size));have HO2:=Hq (HO.out.kept hb2 (HO.out.lt));clear hb2;go_wp2_with fail;refine(HONE.out e (by omega) _).mono ?_;rintro ev w3' ⟨rfl,rfl⟩;by_cases hbit:bitB x e=true
      · have HBE:=Hq (HB1.out hbit);rw[hbit];clear hbit;have hsd:=HYS.out (r+r) (by omega);have hs1':(nS 1).size≤500:=by decide
        go_wp2_with fail;rw[←num_one];refine(r01_Plus (r+r) 1 (by omega) hs1' _).mono ?_;rintro ev w3 ⟨rfl,hb3⟩;have HB3:=Hq (HB2.out.trans (hb3.mono HB2.out.size));have HO3:=Hq (HO2.out.kept hb3 (HO2.out.lt));obtain⟨t,ht⟩:∃ t,r+r+1=t:=⟨_,rfl⟩;rw[ht];have HT2:=Hq (show 2 * r+β=t from by have:=HBE.out;omega);have hst:=HYS.out t (by omega);clear hb3 ht
        -- t: the remainder with the new digit; w3, HB3, HO3: the world
        have HCM:=Hq (ordB_nS t y);rw[HTY.out]at HCM;by_cases hge:y≤t
        · obtain⟨hq1,hq2⟩:=over_hi (X:=x / 2 ^ (e+1)) (β:=β) rfl HR.out HT2.out hβ h0 hge;rw[←HUP.out]at hq1 hq2;have HQ:=Hq (ovq_hi hq1);have HM:=Hq hq2;have hg:=cmpI_nonneg hge;have HGE:=Hq hge;obtain⟨c,hc⟩:∃ c,cmpI t y=c:=⟨_,rfl⟩;rw[hc]at hg HCM;clear hq1 hq2 hc hge;go_wp2_with fail;refine(r01_Order (nS t) sy (by omega) (by omega) _).mono ?_;rintro ev w4 ⟨rfl,hb4⟩;rw[HCM.out];have HB4:=Hq (HB3.out.trans (hb4.mono HB3.out.size));have HO4:=Hq (HO3.out.kept hb4 (HO3.out.lt));clear hb4;go_wp2_with fail;rw[←HTY.out];refine(r01_Minus t y (by omega) HGE.out _).mono ?_;rintro ev w5 ⟨rfl,hb5⟩;rw[HTY.out];have HB5:=Hq (HB4.out.trans (hb5.mono HB4.out.size));have HO5:=Hq (HO4.out.kept hb5 (HO4.out.lt));clear hb5;go_wp2;obtain⟨hd1,hd2⟩:=dig_set_at (x / 2 ^ (e+1) / y) e;have hoff:=dig_set_off (x / 2 ^ (e+1) / y) e;rw[show x / 2 ^ (e+1) / y * 2 ^ (e+1)=OvQ x y (e+1)from rfl,←HQ.out]at hd1 hoff;rw[show x / 2 ^ (e+1) / y * 2 ^ (e+1)=OvQ x y (e+1)from rfl]at hd2;have HD1:=Hq hd1;have HOFF:=Hq hoff;have HD2:=Hq hd2;clear hd1 hoff hd2
          go_loop [11,12] (fun bt i=>∃ j:Nat,j≤e%8∧i=.int .i64 j∧bt=.int .u8 ((2 ^ j:Nat):Int)) (fun _ i=>8 - (intOf i).toNat)
          case atStart=>exact⟨0,Nat.zero_le _,rfl,rfl⟩
          case round =>
           obtain⟨j,hj,rfl,rfl⟩:=hrel;obtain⟨P,hP⟩:∃ P,2 ^ j=P:=⟨_,rfl⟩;have HP:=Hq hP;by_cases hlt2:j<e%8
           · have hPl:P≤64:=by rw[←hP];exact Nat.le_trans (Nat.pow_le_pow_right (by decide) (show j≤6 by omega)) (by decide)
             have hlt3:(j:Int)<(e:Int)%8:=by omega
             rw[hP];clear hP;go_wp2;go_round;case rel=>exact⟨j+1,by omega,by go_num,by rw[Nat.pow_succ,HP.out];go_num⟩
             case measure=>simp[intOf]<;>omega
           · obtain rfl:j=e%8:=by omega
             rw[hP];have HJ:=Hq (show e%8<8 by omega);have hlt3:¬ (((e%8:Nat):Int)<(e:Int)%8):=by omega
             obtain⟨kk,hkk⟩:∃ kk,kk+1+e / 8=a:=⟨a - 1 - e / 8,by omega⟩;have hix:(a:Int) - 1 - (e:Int) / 8=(kk:Int):=by omega
             have hka:kk<a:=by omega
             have hka2:(kk:Int)<(a:Int):=by omega
             have hk0:(0:Int)≤(kk:Int):=by omega
             have c0:=HO5.out.get hkk;have hf:=HO5.out.free kk;have hd2:=HD2.out;rw[HP.out]at hd2;obtain⟨d,hd⟩:∃ d,dig (OvQ x y (e+1)) (e / 8)=d:=⟨_,rfl⟩;rw[hd]at c0 hd2;have HDD:=Hq hd;have HKK:=Hq hkk;clear hP hkk hd;go_wp2;go_roundw
             case rel =>
                 refine⟨e,t - y,by omega,rfl,by go_num,HM.out,?_,HB5.out.setCell (p:=⟨w.heap.size,kk,none⟩) nlr _⟩;have h1:=HO5.out.put (c:=d+P) HKK.out (by rw[HD1.out,HDD.out,HP.out]) (fun i hi=>HOFF.out i hi);rw[Int.natCast_add]at h1;exact h1
             case measure=>simp[intOf]<;>omega
        · obtain⟨hq1,hq2⟩:=over_lo (X:=x / 2 ^ (e+1)) (β:=β) rfl HR.out HT2.out (by omega);rw[←HUP.out]at hq1 hq2;have HQ:=Hq (ovq_lo hq1);have HM:=Hq hq2;have hg:=cmpI_lt (show t<y by omega);rw[hg]at HCM;clear hq1 hq2 hge hg;go_wp2_with fail;refine(r01_Order (nS t) sy (by omega) (by omega) _).mono ?_;rintro ev w4 ⟨rfl,hb4⟩;rw[HCM.out];have HB4:=Hq (HB3.out.trans (hb4.mono HB3.out.size));have HO4:=Hq (HO3.out.kept hb4 (HO3.out.lt));clear hb4;go_wp2;go_roundw;case rel=>exact⟨e,t,by omega,rfl,by go_num,HM.out,by rw[HQ.out];exact HO4.out,HB4.out⟩
          case measure=>simp[intOf]<;>omega
      · rw[Bool.not_eq_true]at hbit;have HBE:=Hq (HB0.out hbit);rw[hbit];clear hbit;have HB3:=Hq HB2.out;have HO3:=Hq HO2.out;obtain⟨t,ht⟩:∃ t,r+r=t:=⟨_,rfl⟩;rw[ht];have HT2:=Hq (show 2 * r+β=t from by have:=HBE.out;omega);have hst:=HYS.out t (by omega);clear ht
        -- t: the remainder with the new digit; w3, HB3, HO3: the world
        have HCM:=Hq (ordB_nS t y);rw[HTY.out]at HCM;by_cases hge:y≤t
        · obtain⟨hq1,hq2⟩:=over_hi (X:=x / 2 ^ (e+1)) (β:=β) rfl HR.out HT2.out hβ h0 hge;rw[←HUP.out]at hq1 hq2;have HQ:=Hq (ovq_hi hq1);have HM:=Hq hq2;have hg:=cmpI_nonneg hge;have HGE:=Hq hge;obtain⟨c,hc⟩:∃ c,cmpI t y=c:=⟨_,rfl⟩;rw[hc]at hg HCM;clear hq1 hq2 hc hge;go_wp2_with fail;refine(r01_Order (nS t) sy (by omega) (by omega) _).mono ?_;rintro ev w4 ⟨rfl,hb4⟩;rw[HCM.out];have HB4:=Hq (HB3.out.trans (hb4.mono HB3.out.size));have HO4:=Hq (HO3.out.kept hb4 (HO3.out.lt));clear hb4;go_wp2_with fail;rw[←HTY.out];refine(r01_Minus t y (by omega) HGE.out _).mono ?_;rintro ev w5 ⟨rfl,hb5⟩;rw[HTY.out];have HB5:=Hq (HB4.out.trans (hb5.mono HB4.out.size));have HO5:=Hq (HO4.out.kept hb5 (HO4.out.lt));clear hb5;go_wp2;obtain⟨hd1,hd2⟩:=dig_set_at (x / 2 ^ (e+1) / y) e;have hoff:=dig_set_off (x / 2 ^ (e+1) / y) e;rw[show x / 2 ^ (e+1) / y * 2 ^ (e+1)=OvQ x y (e+1)from rfl,←HQ.out]at hd1 hoff;rw[show x / 2 ^ (e+1) / y * 2 ^ (e+1)=OvQ x y (e+1)from rfl]at hd2;have HD1:=Hq hd1;have HOFF:=Hq hoff;have HD2:=Hq hd2;clear hd1 hoff hd2
          go_loop [11,12] (fun bt i=>∃ j:Nat,j≤e%8∧i=.int .i64 j∧bt=.int .u8 ((2 ^ j:Nat):Int)) (fun _ i=>8 - (intOf i).toNat)
          case atStart=>exact⟨0,Nat.zero_le _,rfl,rfl⟩
          case round =>
           obtain⟨j,hj,rfl,rfl⟩:=hrel;obtain⟨P,hP⟩:∃ P,2 ^ j=P:=⟨_,rfl⟩;have HP:=Hq hP;by_cases hlt2:j<e%8
           · have hPl:P≤64:=by rw[←hP];exact Nat.le_trans (Nat.pow_le_pow_right (by decide) (show j≤6 by omega)) (by decide)
             have hlt3:(j:Int)<(e:Int)%8:=by omega
             rw[hP];clear hP;go_wp2;go_round;case rel=>exact⟨j+1,by omega,by go_num,by rw[Nat.pow_succ,HP.out];go_num⟩
             case measure=>simp[intOf]<;>omega
           · obtain rfl:j=e%8:=by omega
             rw[hP];have HJ:=Hq (show e%8<8 by omega);have hlt3:¬ (((e%8:Nat):Int)<(e:Int)%8):=by omega
             obtain⟨kk,hkk⟩:∃ kk,kk+1+e / 8=a:=⟨a - 1 - e / 8,by omega⟩;have hix:(a:Int) - 1 - (e:Int) / 8=(kk:Int):=by omega
             have hka:kk<a:=by omega
             have hka2:(kk:Int)<(a:Int):=by omega
             have hk0:(0:Int)≤(kk:Int):=by omega
             have c0:=HO5.out.get hkk;have hf:=HO5.out.free kk;have hd2:=HD2.out;rw[HP.out]at hd2;obtain⟨d,hd⟩:∃ d,dig (OvQ x y (e+1)) (e / 8)=d:=⟨_,rfl⟩;rw[hd]at c0 hd2;have HDD:=Hq hd;have HKK:=Hq hkk;clear hP hkk hd;go_wp2;go_roundw
             case rel =>
                 refine⟨e,t - y,by omega,rfl,by go_num,HM.out,?_,HB5.out.setCell (p:=⟨w.heap.size,kk,none⟩) nlr _⟩;have h1:=HO5.out.put (c:=d+P) HKK.out (by rw[HD1.out,HDD.out,HP.out]) (fun i hi=>HOFF.out i hi);rw[Int.natCast_add]at h1;exact h1
             case measure=>simp[intOf]<;>omega
        · obtain⟨hq1,hq2⟩:=over_lo (X:=x / 2 ^ (e+1)) (β:=β) rfl HR.out HT2.out (by omega);rw[←HUP.out]at hq1 hq2;have HQ:=Hq (ovq_lo hq1);have HM:=Hq hq2;have hg:=cmpI_lt (show t<y by omega);rw[hg]at HCM;clear hq1 hq2 hge hg;go_wp2_with fail;refine(r01_Order (nS t) sy (by omega) (by omega) _).mono ?_;rintro ev w4 ⟨rfl,hb4⟩;rw[HCM.out];have HB4:=Hq (HB3.out.trans (hb4.mono HB3.out.size));have HO4:=Hq (HO3.out.kept hb4 (HO3.out.lt));clear hb4;go_wp2;go_roundw;case rel=>exact⟨e,t,by omega,rfl,by go_num,HM.out,by rw[HQ.out];exact HO4.out,HB4.out⟩
          case measure=>simp[intOf]<;>omega
    · obtain rfl:K=0:=by omega
      have hneg:((0:Nat):Int) - 1 = -1:=rfl;rw[hneg];have HQ0:=Hq (show OvQ x y 0=x / y from by unfold OvQ;rw[Nat.pow_zero,Nat.div_one,Nat.mul_one]);have HR0:=Hq (show x%y=r from by rw[←HR.out,Nat.pow_zero,Nat.div_one]);have hby2:=HO.out.bytes (by omega);rw[HQ0.out]at hby2;have HBY:=Hq hby2;clear hby2;go_wp2_with fail;refine(r01_trim _ _ _ _ _ HBY.out).mono ?_;rintro ev w2 ⟨rfl,rfl⟩;rw[trim_beN HX1.out];go_wp2;go_ret2;exact⟨by rw[HR0.out];rfl,HB.out⟩
 · clear hlg hdec;go_enter Tryz.func39,Tryz.ntmps39;go_wp2_with fail;refine(HBT.out _).mono ?_;rintro e w1 ⟨rfl,rfl⟩;go_wp2;clear hmb;go_loopw [9,10] (fun r i wr=>∃(K t:Nat),K≤m∧r=.string (nS t)∧i=.int .i64 ((K:Int) - 1)∧x / 2 ^ K%y=t∧OutB wr w.heap.size a a (OvQ x y K)∧Below w.heap.size w wr) (fun _ i _=>(intOf i+1).toNat);case atStart=>exact⟨m,0,Nat.le_refl _,rfl,by go_num,by rw[HX2.out,Nat.zero_mod],by rw[show OvQ x y m=0 from by unfold OvQ;rw[HX2.out,Nat.zero_div,Nat.zero_mul]];exact OutB.zero _,(blr).alloc nlr _⟩
   case round =>
    obtain⟨K,r,hK,rfl,rfl,hr,hO,hB⟩:=hrel;have HO:=Hq hO;have HB:=Hq hB;have HR:=Hq hr;have hry:r<y:=by rw[←hr];exact Nat.mod_lt _ h0
    have hsr:=HYS.out r (by omega);clear hO hB hr;by_cases hlt:0<K
    · obtain⟨e,rfl⟩:∃ e,K=e+1:=⟨K - 1,by omega⟩;rw[show ((e+1:Nat):Int) - 1=(e:Int)from by omega];have he0:(0:Int)≤(e:Int):=by omega
      obtain⟨β,hβ,hβ1,hβ0,hup⟩:=half_up x e;have HUP:=Hq hup;have HB1:=Hq hβ1;have HB0:=Hq hβ0;clear hup hβ1 hβ0;go_wp2_with fail;refine(r01_Plus r r (by omega) (by omega) _).mono ?_;rintro ev w2 ⟨rfl,hb2⟩;have HB2:=Hq (HB.out.trans (hb2.mono HB.out.size));have HO2:=Hq (HO.out.kept hb2 (HO.out.lt));clear hb2;go_wp2_with fail;refine(HONE.out e (by omega) _).mono ?_;rintro ev w3' ⟨rfl,rfl⟩;by_cases hbit:bitB x e=true
      · have HBE:=Hq (HB1.out hbit);rw[hbit];clear hbit;have hsd:=HYS.out (r+r) (by omega);have hs1':(nS 1).size≤500:=by decide
        go_wp2_with fail;rw[←num_one];refine(r01_Plus (r+r) 1 (by omega) hs1' _).mono ?_;rintro ev w3 ⟨rfl,hb3⟩;have HB3:=Hq (HB2.out.trans (hb3.mono HB2.out.size));have HO3:=Hq (HO2.out.kept hb3 (HO2.out.lt));obtain⟨t,ht⟩:∃ t,r+r+1=t:=⟨_,rfl⟩;rw[ht];have HT2:=Hq (show 2 * r+β=t from by have:=HBE.out;omega);have hst:=HYS.out t (by omega);clear hb3 ht
        -- t: the remainder with the new digit; w3, HB3, HO3: the world
        have HCM:=Hq (ordB_nS t y);rw[HTY.out]at HCM;by_cases hge:y≤t
        · obtain⟨hq1,hq2⟩:=over_hi (X:=x / 2 ^ (e+1)) (β:=β) rfl HR.out HT2.out hβ h0 hge;rw[←HUP.out]at hq1 hq2;have HQ:=Hq (ovq_hi hq1);have HM:=Hq hq2;have hg:=cmpI_nonneg hge;have HGE:=Hq hge;obtain⟨c,hc⟩:∃ c,cmpI t y=c:=⟨_,rfl⟩;rw[hc]at hg HCM;clear hq1 hq2 hc hge;go_wp2_with fail;refine(r01_Order (nS t) sy (by omega) (by omega) _).mono ?_;rintro ev w4 ⟨rfl,hb4⟩;rw[HCM.out];have HB4:=Hq (HB3.out.trans (hb4.mono HB3.out.size));have HO4:=Hq (HO3.out.kept hb4 (HO3.out.lt));clear hb4;go_wp2_with fail;rw[←HTY.out];refine(r01_Minus t y (by omega) HGE.out _).mono ?_;rintro ev w5 ⟨rfl,hb5⟩;rw[HTY.out];have HB5:=Hq (HB4.out.trans (hb5.mono HB4.out.size));have HO5:=Hq (HO4.out.kept hb5 (HO4.out.lt));clear hb5;go_wp2;obtain⟨hd1,hd2⟩:=dig_set_at (x / 2 ^ (e+1) / y) e;have hoff:=dig_set_off (x / 2 ^ (e+1) / y) e;rw[show x / 2 ^ (e+1) / y * 2 ^ (e+1)=OvQ x y (e+1)from rfl,←HQ.out]at hd1 hoff;rw[show x / 2 ^ (e+1) / y * 2 ^ (e+1)=OvQ x y (e+1)from rfl]at hd2;have HD1:=Hq hd1;have HOFF:=Hq hoff;have HD2:=Hq hd2;clear hd1 hoff hd2
          go_loop [11,12] (fun bt i=>∃ j:Nat,j≤e%8∧i=.int .i64 j∧bt=.int .u8 ((2 ^ j:Nat):Int)) (fun _ i=>8 - (intOf i).toNat)
          case atStart=>exact⟨0,Nat.zero_le _,rfl,rfl⟩
          case round =>
           obtain⟨j,hj,rfl,rfl⟩:=hrel;obtain⟨P,hP⟩:∃ P,2 ^ j=P:=⟨_,rfl⟩;have HP:=Hq hP;by_cases hlt2:j<e%8
           · have hPl:P≤64:=by rw[←hP];exact Nat.le_trans (Nat.pow_le_pow_right (by decide) (show j≤6 by omega)) (by decide)
             have hlt3:(j:Int)<(e:Int)%8:=by omega
             rw[hP];clear hP;go_wp2;go_round;case rel=>exact⟨j+1,by omega,by go_num,by rw[Nat.pow_succ,HP.out];go_num⟩
             case measure=>simp[intOf]<;>omega
           · obtain rfl:j=e%8:=by omega
             rw[hP];have HJ:=Hq (show e%8<8 by omega);have hlt3:¬ (((e%8:Nat):Int)<(e:Int)%8):=by omega
             obtain⟨kk,hkk⟩:∃ kk,kk+1+e / 8=a:=⟨a - 1 - e / 8,by omega⟩;have hix:(a:Int) - 1 - (e:Int) / 8=(kk:Int):=by omega
             have hka:kk<a:=by omega
             have hka2:(kk:Int)<(a:Int):=by omega
             have hk0:(0:Int)≤(kk:Int):=by omega
             have c0:=HO5.out.get hkk;have hf:=HO5.out.free kk;have hd2:=HD2.out;rw[HP.out]at hd2;obtain⟨d,hd⟩:∃ d,dig (OvQ x y (e+1)) (e / 8)=d:=⟨_,rfl⟩;rw[hd]at c0 hd2;have HDD:=Hq hd;have HKK:=Hq hkk;clear hP hkk hd;go_wp2;go_roundw;case rel =>
              refine⟨e,t - y,by omega,rfl,by go_num,HM.out,?_,HB5.out.setCell (p:=⟨w.heap.size,kk,none⟩) nlr _⟩;have h1:=HO5.out.put (c:=d+P) HKK.out (by rw[HD1.out,HDD.out,HP.out]) (fun i hi=>HOFF.out i hi);rw[Int.natCast_add]at h1;exact h1
             case measure=>simp[intOf]<;>omega
        · obtain⟨hq1,hq2⟩:=over_lo (X:=x / 2 ^ (e+1)) (β:=β) rfl HR.out HT2.out (by omega);rw[←HUP.out]at hq1 hq2;have HQ:=Hq (ovq_lo hq1);have HM:=Hq hq2;have hg:=cmpI_lt (show t<y by omega);rw[hg]at HCM;clear hq1 hq2 hge hg;go_wp2_with fail;refine(r01_Order (nS t) sy (by omega) (by omega) _).mono ?_;rintro ev w4 ⟨rfl,hb4⟩;rw[HCM.out];have HB4:=Hq (HB3.out.trans (hb4.mono HB3.out.size));have HO4:=Hq (HO3.out.kept hb4 (HO3.out.lt));clear hb4;go_wp2;go_roundw;case rel=>exact⟨e,t,by omega,rfl,by go_num,HM.out,by rw[HQ.out];exact HO4.out,HB4.out⟩
          case measure=>simp[intOf]<;>omega
      · rw[Bool.not_eq_true]at hbit;have HBE:=Hq (HB0.out hbit);rw[hbit];clear hbit;have HB3:=Hq HB2.out;have HO3:=Hq HO2.out;obtain⟨t,ht⟩:∃ t,r+r=t:=⟨_,rfl⟩;rw[ht];have HT2:=Hq (show 2 * r+β=t from by have:=HBE.out;omega);have hst:=HYS.out t (by omega);clear ht
        -- t: the remainder with the new digit; w3, HB3, HO3: the world
        have HCM:=Hq (ordB_nS t y);rw[HTY.out]at HCM;by_cases hge:y≤t
        · obtain⟨hq1,hq2⟩:=over_hi (X:=x / 2 ^ (e+1)) (β:=β) rfl HR.out HT2.out hβ h0 hge;rw[←HUP.out]at hq1 hq2;have HQ:=Hq (ovq_hi hq1);have HM:=Hq hq2;have hg:=cmpI_nonneg hge;have HGE:=Hq hge;obtain⟨c,hc⟩:∃ c,cmpI t y=c:=⟨_,rfl⟩;rw[hc]at hg HCM;clear hq1 hq2 hc hge;go_wp2_with fail;refine(r01_Order (nS t) sy (by omega) (by omega) _).mono ?_;rintro ev w4 ⟨rfl,hb4⟩;rw[HCM.out];have HB4:=Hq (HB3.out.trans (hb4.mono HB3.out.size));have HO4:=Hq (HO3.out.kept hb4 (HO3.out.lt));clear hb4;go_wp2_with fail;rw[←HTY.out];refine(r01_Minus t y (by omega) HGE.out _).mono ?_;rintro ev w5 ⟨rfl,hb5⟩;rw[HTY.out];have HB5:=Hq (HB4.out.trans (hb5.mono HB4.out.size));have HO5:=Hq (HO4.out.kept hb5 (HO4.out.lt));clear hb5;go_wp2;obtain⟨hd1,hd2⟩:=dig_set_at (x / 2 ^ (e+1) / y) e;have hoff:=dig_set_off (x / 2 ^ (e+1) / y) e;rw[show x / 2 ^ (e+1) / y * 2 ^ (e+1)=OvQ x y (e+1)from rfl,←HQ.out]at hd1 hoff;rw[show x / 2 ^ (e+1) / y * 2 ^ (e+1)=OvQ x y (e+1)from rfl]at hd2;have HD1:=Hq hd1;have HOFF:=Hq hoff;have HD2:=Hq hd2;clear hd1 hoff hd2
          go_loop [11,12] (fun bt i=>∃ j:Nat,j≤e%8∧i=.int .i64 j∧bt=.int .u8 ((2 ^ j:Nat):Int)) (fun _ i=>8 - (intOf i).toNat)
          case atStart=>exact⟨0,Nat.zero_le _,rfl,rfl⟩
          case round =>
           obtain⟨j,hj,rfl,rfl⟩:=hrel;obtain⟨P,hP⟩:∃ P,2 ^ j=P:=⟨_,rfl⟩;have HP:=Hq hP;by_cases hlt2:j<e%8
           · have hPl:P≤64:=by rw[←hP];exact Nat.le_trans (Nat.pow_le_pow_right (by decide) (show j≤6 by omega)) (by decide)
             have hlt3:(j:Int)<(e:Int)%8:=by omega
             rw[hP];clear hP;go_wp2;go_round;case rel=>exact⟨j+1,by omega,by go_num,by rw[Nat.pow_succ,HP.out];go_num⟩
             case measure=>simp[intOf]<;>omega
           · obtain rfl:j=e%8:=by omega
             rw[hP];have HJ:=Hq (show e%8<8 by omega);have hlt3:¬ (((e%8:Nat):Int)<(e:Int)%8):=by omega
             obtain⟨kk,hkk⟩:∃ kk,kk+1+e / 8=a:=⟨a - 1 - e / 8,by omega⟩;have hix:(a:Int) - 1 - (e:Int) / 8=(kk:Int):=by omega
             have hka:kk<a:=by omega
             have hka2:(kk:Int)<(a:Int):=by omega
             have hk0:(0:Int)≤(kk:Int):=by omega
             have c0:=HO5.out.get hkk;have hf:=HO5.out.free kk;have hd2:=HD2.out;rw[HP.out]at hd2;obtain⟨d,hd⟩:∃ d,dig (OvQ x y (e+1)) (e / 8)=d:=⟨_,rfl⟩;rw[hd]at c0 hd2;have HDD:=Hq hd;have HKK:=Hq hkk;clear hP hkk hd;go_wp2;go_roundw;case rel =>
              refine⟨e,t - y,by omega,rfl,by go_num,HM.out,?_,HB5.out.setCell (p:=⟨w.heap.size,kk,none⟩) nlr _⟩;have h1:=HO5.out.put (c:=d+P) HKK.out (by rw[HD1.out,HDD.out,HP.out]) (fun i hi=>HOFF.out i hi);rw[Int.natCast_add]at h1;exact h1
             case measure=>simp[intOf]<;>omega
        · obtain⟨hq1,hq2⟩:=over_lo (X:=x / 2 ^ (e+1)) (β:=β) rfl HR.out HT2.out (by omega);rw[←HUP.out]at hq1 hq2;have HQ:=Hq (ovq_lo hq1);have HM:=Hq hq2;have hg:=cmpI_lt (show t<y by omega);rw[hg]at HCM;clear hq1 hq2 hge hg;go_wp2_with fail;refine(r01_Order (nS t) sy (by omega) (by omega) _).mono ?_;rintro ev w4 ⟨rfl,hb4⟩;rw[HCM.out];have HB4:=Hq (HB3.out.trans (hb4.mono HB3.out.size));have HO4:=Hq (HO3.out.kept hb4 (HO3.out.lt));clear hb4;go_wp2;go_roundw;case rel=>exact⟨e,t,by omega,rfl,by go_num,HM.out,by rw[HQ.out];exact HO4.out,HB4.out⟩
          case measure=>simp[intOf]<;>omega
    · obtain rfl:K=0:=by omega
      have hneg:((0:Nat):Int) - 1 = -1:=rfl;rw[hneg];have HQ0:=Hq (show OvQ x y 0=x / y from by unfold OvQ;rw[Nat.pow_zero,Nat.div_one,Nat.mul_one]);have HR0:=Hq (show x%y=r from by rw[←HR.out,Nat.pow_zero,Nat.div_one]);have hby2:=HO.out.bytes (by omega);rw[HQ0.out]at hby2;have HBY:=Hq hby2;clear hby2;go_wp2_with fail;refine(r01_trim _ _ _ _ _ HBY.out).mono ?_;rintro ev w2 ⟨rfl,rfl⟩;rw[trim_beN HX1.out];go_wp2;go_ret2;exact⟨by rw[HR0.out];rfl,HB.out⟩
theorem r01_Over(x y:Nat)(hs1:(nS x).size≤300)(hs2:(nS y).size≤300)(h0:0<y)(w:World):Calls Tryz.prog 39 #[.string (nS x),.string (nS y)] w (Ret (.tuple #[.string (nS (x / y)),.string (nS (x%y))]) w):=by
 by_cases h:(nS x).size≤8∧(nS y).size≤8
 · have e:∀ n,(nS n).size≤8→n<18446744073709551616:=fun n hn=>by
    have:=nS_size_le.1 hn;rwa[show (256:Nat) ^ 8=18446744073709551616 from by decide]at this
   exact r01_Over_small x y (e _ h.1) (e _ h.2) h0 w
 · exact r01_Over_long x y hs1 hs2 h0 (by omega) w
theorem r01_DivMod(x y:Nat)(hx:x<256 ^ 128)(hy:y<256 ^ 128)(h0:0<y)(w:World):Calls Tryz.prog 102 #[.string (nS x),.string (nS y)] w (Ret (.tuple #[.string (nS (x / y)),.string (nS (x%y)),.int .i64 0]) w):=by
 have hs1:=nS_size_le.2 hx;have hs2:=nS_size_le.2 hy;have HV1:=Hq (nvalid_nS.2 hx);have HV2:=Hq (nvalid_nS.2 hy);have hem:(nS y).toList.isEmpty=false:=sempty_false (by have:=(nS_size_zero (n:=y));omega);have HO:=Hq (r01_Over x y (by omega) (by omega) h0);obtain⟨s,hs⟩:∃ s,nS x=s:=⟨_,rfl⟩;obtain⟨t,ht⟩:∃ t,nS y=t:=⟨_,rfl⟩;rw[hs]at hs1 HV1 HO⊢;rw[ht]at hs2 HV2 HO hem⊢;clear hs ht hx hy;go_enter Tryz.func102,Tryz.ntmps102;go_wp2_with fail;refine(r01_Valid s (by omega) _).mono ?_;rintro e w1 ⟨rfl,rfl⟩;rw[HV1.out];go_wp2_with fail;refine(r01_Valid t (by omega) _).mono ?_;rintro e w1 ⟨rfl,rfl⟩;rw[HV2.out];go_wp2_with fail;refine(HO.out _).mono ?_;rintro e w3 ⟨rfl,hb3⟩;have HB3:=Hq hb3;clear hb3;go_wp2;go_ret3;exact⟨rfl,HB3.out⟩
end Go.Proofs.YtdhnkmbjogmmkaaGreatDoor

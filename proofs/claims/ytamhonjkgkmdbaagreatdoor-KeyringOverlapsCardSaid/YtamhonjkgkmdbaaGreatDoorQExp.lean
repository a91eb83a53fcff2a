import Derived.Test.YtamhonjkgkmdbaaGreatDoorQBit
import Derived.Test.YtamhonjkgkmdbaaGreatDoorQLdF
import Derived.RangeFuncNested
import Derived.RangeFuncBound
import Derived.RangeFuncCalls
import Derived.RangeFuncLeaves
import Derived.RangeFuncFrom
import Derived.Shelf.Abstract
import Derived.Shelf.RegionOpen
import Derived.WalkKit
import Derived.OwnWalkIn
import Derived.TacticsInMore
import Derived.LoopNIn
import Derived.LoopIn
import Derived.Test.YtamhonjkgkmdbaaGreatDoorQTim
import Derived.Deep.DeepCutAuto
import Derived.Deep.CutBlock
set_option linter.unusedVariables false
set_option linter.unusedSimpArgs false
namespace Go.Proofs.YtamhonjkgkmdbaaGreatDoor
set_option maxRecDepth 100000
set_option maxHeartbeats 2000000
open Go.RowKit Go.Shelf
attribute [local go_sem] Oper.semAt_some
def dv(l:List Bool):Nat:=l.foldl (fun v b=>2 * v+(if b then 1 else 0)) 0
theorem dv_snoc(l:List Bool)(b:Bool):dv (l++[b])=2 * dv l+(if b then 1 else 0):=by simp[dv]
theorem dv_step{n e:Nat}{pre:List Bool}(h:dv pre=n / 2 ^ (e+1)):dv (pre++[bitB n e])=n / 2 ^ e:=by
 rw[dv_snoc,h];unfold bitB;rw[Nat.pow_succ,←Nat.div_div_eq_div_mul];simp only[beq_iff_eq];split<;>omega
def KpD(D:Nat)(W W':World):Prop:=W'.heap[D]? =W.heap[D]?
theorem digits_stops(k n:Nat)(hn:n<256 ^ 128)(hk:1≤k)(D:Nat)(w:World)(hD:w.heap[D]? =some (.cells #[.string (nS n)] 22 (0,0))) :
 SeqStopsK Fence.wide k Tryz.prog 161 #[.pointer (some ⟨D,0,none⟩)] (fun b:Bool=>#[Value.bool b]) (KpD D) (fun xs=>dv xs=n) (fun _=>True) (blen n) w:=fun l J Jx W hW hJ hJx hY h0=>by
 have HBS:=Hq (nat_Bits n hn);have hb:=hW;have HBT:=Hq (fun i hi=>nat_Bit n i hn hi);have hDW:W.heap[D]? =some (.cells #[.string (nS n)] 22 (0,0)):=by rw[hW.block D (block_lt hD)];exact hD
 have hcl:∀ W':World,W'.heap[D]? =some (.cells #[.string (nS n)] 22 (0,0))→W'.cell? ⟨D,0,none⟩=some (.string (nS n)):=fun W' h=>by rw[Lib.cell_of_heap h];rfl
 have HCL:=Hq hcl;have c0:=hcl W hDW;have HE0:=Hq (show n / 2 ^ blen n=0 from Nat.div_eq_of_lt (blen_lt n));have hbn:blen n≤1024:=blen_le8 (k:=128) hn;obtain⟨s,hs⟩:∃ s,nS n=s:=⟨_,rfl⟩;rw[hs]at HBS HBT HCL c0 hDW;obtain⟨B,hB⟩:∃ B,blen n=B:=⟨_,rfl⟩;rw[hB]at HBS HE0 hbn hY;have HY:=Hq hY;clear hY hcl hs hB hD hn hW hb;refine callsIn_of_wp Tryz.func161 rfl trivial ?_ rfl;simp only[Tryz.ntmps161,List.size_toArray,List.length_cons,List.length_nil,Nat.reduceAdd,Nat.reduceSub,Array.replicate_succ,Array.replicate_zero,List.push_toArray,List.append_toArray,List.nil_append,List.cons_append];gi_wp2;refine⟨trivial,callsIn_wide.2 ((HBS.out _).mono ?_)⟩;rintro e w' ⟨rfl,rfl⟩;gi_wp2;gi_loopw [3] (fun i wr=>∃(K:Nat) (pre:List Bool),K≤B∧i=.int .i64 ((K:Int) - 1)∧pre.length+K=B∧dv pre=n / 2 ^ K∧wr.heap[D]? =some (.cells #[.string s] 22 (0,0))∧J pre wr) (fun i _=>(intOf i+1).toNat);case atStart=>exact⟨B,[],Nat.le_refl _,by go_num,by simp,by rw[HE0.out];rfl,hDW,h0⟩
 case round =>
  obtain⟨K,pre,hK,rfl,hlen,hdv,hDr,hJr⟩:=hrel;have HDV:=Hq hdv;have HLEN:=Hq hlen;have HDR:=Hq hDr;have c1:=HCL.out _ hDr;clear hdv hlen hDr;by_cases hlt:0<K
  · obtain⟨e,rfl⟩:∃ e,K=e+1:=⟨K - 1,by omega⟩;rw[show ((e+1:Nat):Int) - 1=(e:Int)from by omega];have he0:(0:Int)≤(e:Int):=by omega
    have HST:=Hq (dv_step HDV.out);obtain⟨b,hbb⟩:∃ b,bitB n e=b:=⟨_,rfl⟩;have HBE:=Hq (HBT.out e (by omega));rw[hbb]at HST HBE;clear hbb;obtain⟨fn,tmps,assign,body,hy,hR⟩:=HY.out pre b wr hJr (by have:=HLEN.out;omega);have HR:=Hq hR;clear hR;gi_wp2;refine⟨trivial,callsIn_wide.2 ((HBE.out _).mono ?_)⟩;rintro ev w' ⟨rfl,rfl⟩;gi_wp2;refine HR.out.mono ?_;rintro ev W' (⟨rfl,hJ',hk'⟩ | ⟨rfl,hJx'⟩)
    · have HJ':=Hq hJ';have HK':=Hq hk';clear hJ' hk';gi_wp2;go_roundw;case rel=>exact⟨e,pre++[b],by omega,by go_num,by have:=HLEN.out;simp;omega,HST.out,by rw[HK'.out];exact HDR.out,HJ'.out⟩
      case measure=>simp[intOf]<;>omega
    · gi_wp2;refine bodyPost_ret (results_none rfl _ _ _) rfl ?_;exact⟨⟨_,rfl⟩,.inr ⟨pre++[b],trivial,hJx'⟩⟩
  · obtain rfl:K=0:=by omega
    have hneg:((0:Nat):Int) - 1 = -1:=rfl;rw[hneg];gi_wp2;go_end0;exact⟨⟨_,rfl⟩,.inl ⟨pre,by rw[HDV.out,Nat.pow_zero,Nat.div_one],hJr⟩⟩
open Go.RowKit
theorem OutB.kept{w w':World}{K B n i v:Nat}(h:OutB w B n i v)(hb:Below K w w')(hB:B<K):OutB w' B n i v:=by
 obtain⟨cur,h1,h2,h3⟩:=h;exact⟨cur,by rw[←h1];exact hb.block _ hB,h2,h3⟩
theorem OutB.get{w:World}{B n v:Nat}(h:OutB w B n n v){k j:Nat}(hk:k+1+j=n):w.cell? ⟨B,k,none⟩=some (.int .u8 (dig v j)):=by
 obtain⟨cur,h1,h2,h3⟩:=h;rw[Lib.cell_of_heap h1];have:=h3 j (by omega);rwa[show n - 1 - j=k from by omega]at this
theorem OutB.zero{w:World}(n:Nat):OutB (w.alloc (.cells (zb n) 5)) w.heap.size n n 0:=by
 refine⟨_,heap_alloc_new _ _,zb_size n,fun j h=>?_⟩;unfold zb madeCells;rw[Array.getElem?_map,Array.getElem?_range,if_pos (by omega)];simp[Nat.mod_one,dig]
theorem OutB.put{w:World}{B n v v' k j c:Nat}(h:OutB w B n n v)(hk:k+1+j=n)(hc:dig v' j=c)(ho:∀ i,i≠j→dig v' i=dig v i):OutB (w.setCell ⟨B,k,none⟩ (.int .u8 (c:Int))) B n n v':=by
 obtain⟨cur,h1,h2,h3⟩:=h;refine⟨_,block_setCell h1 _,by rw[Array.size_setIfInBounds,h2],fun i hi=>?_⟩;rw[Array.getElem?_setIfInBounds];by_cases e:i=j
 · subst e;rw[if_pos (by omega),if_pos (by omega),hc]
 · rw[if_neg (by omega),ho i e];exact h3 i hi
theorem num_one:(nS 1)=⟨#[1]⟩:=rfl
theorem blen_1024{n:Nat}(hn:n<256 ^ 128):blen n≤1024:=blen_le8 hn
theorem pw_two(a E m:Nat):a ^ E%m * (a ^ E%m)%m=a ^ (2 * E)%m:=by
 rw[←Nat.mul_mod,←Nat.pow_add,Nat.two_mul]
theorem pw_one'(a E m:Nat):a ^ E%m * (a%m)%m=a ^ (E+1)%m:=by
 rw[←Nat.mul_mod,Nat.pow_succ]
set_option maxRecDepth 100000
set_option maxHeartbeats 2000000
attribute [local go_sem] Oper.semAt_some
def BoxS(W:World)(B:Nat)(s:ByteArray):Prop:=W.heap[B]? =some (.cells #[.string s] 22 (0,0))
theorem BoxS.cell{W:World}{B:Nat}{s:ByteArray}(h:BoxS W B s):W.cell? ⟨B,0,none⟩=some (.string s):=by rw[Lib.cell_of_heap h];rfl
theorem BoxS.free{W:World}{B:Nat}{s:ByteArray}(h:BoxS W B s):W.frozen? ⟨B,0,none⟩=false:=Lib.frozen_of_heap h 0
theorem BoxS.kept{W W':World}{K B:Nat}{s:ByteArray}(h:BoxS W B s)(hb:Below K W W')(hB:B<K):BoxS W' B s:=(hb.block B hB).trans h
theorem BoxS.lt{W:World}{B:Nat}{s:ByteArray}(h:BoxS W B s):B<W.heap.size:=block_lt h
theorem BoxS.set{W:World}{B:Nat}{s t:ByteArray}(h:BoxS W B s):BoxS (W.setCell ⟨B,0,none⟩ (.string t)) B t:=block_setCell h _
theorem BoxS.alloc{W:World}{B:Nat}{s:ByteArray}(h:BoxS W B s)(o:Obj):BoxS (W.alloc o) B s:=h.kept ((Below.refl _ _).alloc (Nat.le_refl _) o) h.lt
theorem BoxS.new(W:World)(s:ByteArray):BoxS (W.alloc (.cells #[.string s] 22)) W.heap.size s:=heap_alloc_new _ _
theorem BoxS.other{W:World}{B C:Nat}{s:ByteArray}{v:Value}(h:BoxS W B s)(hne:B≠C):BoxS (W.setCell ⟨C,0,none⟩ v) B s:=by
 unfold BoxS;rw[←h];exact heap_setCell_other _ _ _ _ hne
theorem KeepsOthers.of_below{W W':World}(h:Below W.heap.size W W'):KeepsOthers W W':=⟨h.size,fun k o hk _=>(h.block k (block_lt hk)).trans hk⟩
theorem mod_digits(s:ByteArray)(w:World):Calls Tryz.prog 157 #[.string s] w fun e w'=>e=.returned (.func (.func 161) #[] #[.pointer (some ⟨w.heap.size,0,none⟩)])∧w'=w.alloc (.cells #[.string s] 22):=by
 go_enter Tryz.func157,Tryz.ntmps157;go_wp2;go_ret;exact⟨rfl,rfl⟩
theorem mod_Exp_of(a n m:Nat)(ha:nvalid (nS a)=true)(hra:∀ w,Calls Tryz.prog 69 #[.string (nS a),.string (nS m)] w (Ret (.string (nS (a%m))) w))(hn:n<256 ^ 128)(hm8:m<18446744073709551616)(h0:0<m)(w:World):Calls Tryz.prog 143 #[.string (nS a),.string (nS n),.string (nS m)] w (Ret (.tuple #[.string (nS (a ^ n%m)),.int .i64 0]) w):=by
 have hm:=lt128_of_lt8 hm8;have ham:a%m<18446744073709551616:=Nat.lt_trans (Nat.mod_lt _ h0) hm8;have HC:=Hq (fun w=>check_two w (nS a) (nS n) (nS m) _ rfl ha (nvalid_nS.2 hn) (nS_valid_small hm8) (empty_nS h0) _ rfl);have HRA:=Hq hra;clear hra;have HR1:=Hq (mod_reduced 1 m (by decide) hm h0);have HTT:=Hq (fun E=>mod_times (a ^ E%m) (a ^ E%m) m (Nat.lt_trans (Nat.mod_lt _ h0) hm8) (Nat.lt_trans (Nat.mod_lt _ h0) hm8) hm8 h0);have HTA:=Hq (fun E=>mod_times (a ^ E%m) (a%m) m (Nat.lt_trans (Nat.mod_lt _ h0) hm8) ham hm8 h0);have HDS:=Hq (fun k (hk:1≤k) D w hD=>digits_stops k n hn hk D w hD);rw[num_one]at HR1;obtain⟨s,hs⟩:∃ s,nS a=s:=⟨_,rfl⟩;obtain⟨t,ht⟩:∃ t,nS n=t:=⟨_,rfl⟩;obtain⟨u,hu⟩:∃ u,nS m=u:=⟨_,rfl⟩;rw[hs,ht,hu]at HC;rw[hs,hu]at HRA;rw[hu]at HR1 HTT HTA;rw[ht]at HDS;rw[hs,ht,hu];clear hs ht hu ha hn hm8 hm ham;refine(callsIn_wide (n:=3)).1 ?_;refine callsIn_of_wp_marks Tryz.func143 rfl trivial ?_ rfl;simp only[Tryz.ntmps143,List.size_toArray,List.length_cons,List.length_nil,Nat.reduceAdd,Nat.reduceSub,Array.replicate_succ,Array.replicate_zero,List.push_toArray,List.append_toArray,List.nil_append,List.cons_append];gi_wp2;have hck:=HC.out ((w.alloc (.cells #[.string s] 22)).alloc (.cells #[.string u] 22));simp only[World.size_alloc]at hck;refine⟨trivial,callsIn_wide.2 (hck.mono ?_)⟩;rintro e w2 ⟨rfl,hb2⟩;have h1M:BoxS ((w.alloc (.cells #[.string s] 22)).alloc (.cells #[.string u] 22)) (w.heap.size+1) u:=(by have:=BoxS.new (w.alloc (.cells #[.string s] 22)) u;rwa[World.size_alloc]at this);have hA2:BoxS w2 w.heap.size s:=BoxS.kept ((((BoxS.new w s).alloc _).alloc _).alloc _) hb2 (by omega);have hM2:BoxS w2 (w.heap.size+1) u:=BoxS.kept ((h1M.alloc _).alloc _) hb2 (by omega);have HB2:Below w.heap.size w w2:=(((((Below.refl w.heap.size w).alloc (Nat.le_refl _) _).alloc (by simp) _).alloc (by simp;omega) _).alloc (by simp;omega) _).trans (hb2.mono (by omega));have HA2:=Hq hA2;have HM2:=Hq hM2;have HBB2:=Hq HB2;have cA:=hA2.cell;have cM:=hM2.cell;have fA:=hA2.free;clear hck hb2 hA2 hM2 HB2 h1M;gi_wp2;refine⟨trivial,callsIn_wide.2 ((HRA.out _).mono ?_)⟩;rintro e w3 ⟨rfl,hb3⟩;have HA3:=Hq (HA2.out.kept hb3 HA2.out.lt);have HM3:=Hq (HM2.out.kept hb3 HM2.out.lt);have HB3:=Hq (HBB2.out.trans (hb3.mono HBB2.out.size));clear hb3 cA cM fA;have cA:=HA3.out.cell;have cM:=HM3.out.cell;have fA:=HA3.out.free;gi_wp2;refine⟨trivial,callsIn_wide.2 ((HR1.out _).mono ?_)⟩;rintro e w4 ⟨rfl,hb4⟩;have hA3':BoxS (w3.setCell ⟨w.heap.size,0,none⟩ (.string (nS (a%m)))) w.heap.size (nS (a%m)):=HA3.out.set;have hM3':BoxS (w3.setCell ⟨w.heap.size,0,none⟩ (.string (nS (a%m)))) (w.heap.size+1) u:=HM3.out.other (by omega);have HA4:=Hq (hA3'.kept hb4 hA3'.lt);have HM4:=Hq (hM3'.kept hb4 hM3'.lt);have HB3':=HB3.out.setCell (p:=⟨w.heap.size,0,none⟩) (Nat.le_refl _) (.string (nS (a%m)));have HB4:=Hq (HB3'.trans (hb4.mono HB3'.size));have hlt4:=HM4.out.lt;clear hb4 cA cM fA hA3' hM3' HB3';have cA:=HA4.out.cell;have cM:=HM4.out.cell;have fA:=HA4.out.free;gi_wp2;refine⟨trivial,callsIn_wide.2 ((mod_digits t _).mono ?_)⟩;rintro e w5 ⟨rfl,rfl⟩;gi_wp2;have HR5:=Hq ((BoxS.new w4 (nS (1%m))).alloc (.cells #[.string t] 22));have hD5:BoxS ((w4.alloc (.cells #[.string (nS (1%m))] 22)).alloc (.cells #[.string t] 22)) (w4.heap.size+1) t:=(by have:=BoxS.new (w4.alloc (.cells #[.string (nS (1%m))] 22)) t;rwa[World.size_alloc]at this);have HD5:=Hq hD5;have HA5:=Hq ((HA4.out.alloc (.cells #[.string (nS (1%m))] 22)).alloc (.cells #[.string t] 22));have HM5:=Hq ((HM4.out.alloc (.cells #[.string (nS (1%m))] 22)).alloc (.cells #[.string t] 22));have HB5:=Hq ((HB4.out.alloc HB4.out.size (.cells #[.string (nS (1%m))] 22)).alloc (by simp;omega) (.cells #[.string t] 22));have hz5:w4.heap.size+1<((w4.alloc (.cells #[.string (nS (1%m))] 22)).alloc (.cells #[.string t] 22)).heap.size:=hD5.lt;obtain⟨W0,hW0⟩:∃ W0,(w4.alloc (.cells #[.string (nS (1%m))] 22)).alloc (.cells #[.string t] 22)=W0:=⟨_,rfl⟩;obtain⟨R,hR⟩:∃ R,w4.heap.size=R:=⟨_,rfl⟩;rw[hW0,hR]at HR5 HD5 hz5;rw[hW0]at HA5 HM5 HB5;rw[hR]at hlt4;rw[hW0,hR];clear hD5 hW0 hR HA4 HM4 HB4 HA3 HM3 HB3 HA2 HM2 HBB2 cA cM fA;obtain⟨A,hA⟩:∃ A,w.heap.size=A:=⟨_,rfl⟩;rw[hA]at HA5 HM5 HB5 hlt4⊢;refine wpIn_rangeFunc_ownF rfl (by omega) (gf:=161) (lb:=#[.pointer (some ⟨R+1,0,none⟩)]) rfl trivial (enters_of Tryz.func161 (by kernel_rfl) rfl)
  (HDS.out 2 (by omega) (R+1) W0 HD5.out) (fun h k=>(show _=_ from k).trans h) (fun W l o o' hl _ _ _=>World.putObj_heap_other (by omega)) (Below.refl _ _) (fun _=>rfl)
  (fun pre W=>(BoxS W A (nS (a%m))∧BoxS W (A+1) u∧BoxS W R (nS (a ^ dv pre%m))∧BoxS W (R+1) t)∧Below A w W)
  (fun _ _ _=>False)
  (OwnFrom.and (Own.from (fun s X Y row hs hg hr=>⟨boxed_own A 22 (fun _:List Bool=>.string (nS (a%m))) s X Y row hs.1 hg hr,boxed_own (A+1) 22 (fun _:List Bool=>.string u) s X Y row hs.2.1 hg hr,boxed_own R 22 (fun pre:List Bool=>.string (nS (a ^ dv pre%m))) s X Y row hs.2.2.1 hg hr,boxed_own (R+1) 22 (fun _:List Bool=>.string t) s X Y row hs.2.2.2 hg hr⟩) _) (ownFrom_below (by omega) (by omega)))
  (fun _ _ _ _ _ hs _ _=>hs)
  ⟨⟨HA5.out,HM5.out,by rw[show dv []=0 from rfl,Nat.pow_zero];exact HR5.out,HD5.out⟩,HB5.out⟩
  (fun x => { tmps:=#[.string s,.string t,.string u,.pointer (some ⟨A,0,none⟩),undef,.pointer (some ⟨A+1,0,none⟩),.string ⟨#[]⟩,.int .i64 0,.int .i64 0,.pointer (some ⟨R,0,none⟩),.bool x,.string s,.string t,.slice (some ⟨A+1+1,0,none⟩) 2 2,.string u,.slice (some ⟨A+1+1+1,0,none⟩) 1 1,.int .i64 0,.int .i64 0,.bool false,undef,.string s,.string u,.string (nS (a%m)),.string u,.string (nS (1%m)),.string t,.func (.func 161) #[] #[.pointer (some ⟨R+1,0,none⟩)],.bool x,undef,undef,undef,undef,undef,undef,undef,undef,undef,undef],defers:=[] }) ?assign ?body ?done ?stop
 case assign =>
  intro l x W K hK;gi_wp2;exact hK
 case body =>
  rintro l pre x W ⟨⟨hA',hM',hR',hD'⟩,hB'⟩ _;have HA':=Hq hA';have HM':=Hq hM';have HR':=Hq hR';have HD':=Hq hD';have HB':=Hq hB';have cA:=hA'.cell;have cM:=hM'.cell;have cR:=hR'.cell;have fR:=hR'.free;obtain⟨E,hE⟩:∃ E,dv pre=E:=⟨_,rfl⟩;rw[hE]at HR' cR;have HTE:=Hq (HTT.out E);rw[pw_two]at HTE;have HTF:=Hq (HTA.out (2 * E));rw[pw_one']at HTF;have HDV:=Hq (dv_snoc pre x);rw[hE]at HDV;clear hA' hM' hR' hD' hB' hE;gi_wp2;refine⟨trivial,CallsIn.inRound l (callsIn_wide.2 ((HTE.out _).mono ?_))⟩;rintro ev w6 ⟨rfl,hb6⟩;have HK7:=Hq ((KeepsOthers.of_below hb6).trans (KeepsOthers.setCell w6 ⟨R,0,none⟩ (.string (nS (a ^ (2 * E)%m)))));have HA7:=Hq ((HA'.out.kept hb6 HA'.out.lt).other (C:=R) (v:=.string (nS (a ^ (2 * E)%m))) (by omega));have HM7:=Hq ((HM'.out.kept hb6 HM'.out.lt).other (C:=R) (v:=.string (nS (a ^ (2 * E)%m))) (by omega));have HR7:=Hq ((HR'.out.kept hb6 HR'.out.lt).set (t:=(nS (a ^ (2 * E)%m))));have HD7:=Hq ((HD'.out.kept hb6 HD'.out.lt).other (C:=R) (v:=.string (nS (a ^ (2 * E)%m))) (by omega));have HKP7:=Hq (show KpD (R+1) W (w6.setCell ⟨R,0,none⟩ (.string (nS (a ^ (2 * E)%m))))from HD7.out.trans HD'.out.symm);have HB7:=Hq ((HB'.out.trans (hb6.mono (Nat.le_trans (by omega) HB'.out.size))).setCell (p:=⟨R,0,none⟩) (show A≤R by omega) (.string (nS (a ^ (2 * E)%m))));have cR7:=(HR'.out.kept hb6 HR'.out.lt).cell;have fR7:=(HR'.out.kept hb6 HR'.out.lt).free;clear hb6;have cA7:=HA7.out.cell;have cM7:=HM7.out.cell;have cS7:=HR7.out.cell;have fS7:=HR7.out.free
  cases x with
  | false =>
   gi_wp2;exact⟨HK7.out,HKP7.out,⟨⟨HA7.out,HM7.out,by rw[HDV.out,if_neg (by decide),Nat.add_zero];exact HR7.out,HD7.out⟩,HB7.out⟩⟩
  | true =>
   gi_wp2;refine⟨trivial,CallsIn.inRound l (callsIn_wide.2 ((HTF.out _).mono ?_))⟩;rintro ev w8 ⟨rfl,hb8⟩;have HK9:=Hq ((KeepsOthers.of_below hb8).trans (KeepsOthers.setCell w8 ⟨R,0,none⟩ (.string (nS (a ^ (2 * E+1)%m)))));have HA9:=Hq ((HA7.out.kept hb8 HA7.out.lt).other (C:=R) (v:=.string (nS (a ^ (2 * E+1)%m))) (by omega));have HM9:=Hq ((HM7.out.kept hb8 HM7.out.lt).other (C:=R) (v:=.string (nS (a ^ (2 * E+1)%m))) (by omega));have HR9:=Hq ((HR7.out.kept hb8 HR7.out.lt).set (t:=(nS (a ^ (2 * E+1)%m))));have HD9:=Hq ((HD7.out.kept hb8 HD7.out.lt).other (C:=R) (v:=.string (nS (a ^ (2 * E+1)%m))) (by omega));have HKP9:=Hq (show KpD (R+1) (w6.setCell ⟨R,0,none⟩ (.string (nS (a ^ (2 * E)%m)))) (w8.setCell ⟨R,0,none⟩ (.string (nS (a ^ (2 * E+1)%m))))from HD9.out.trans HD7.out.symm);have HB9:=Hq ((HB7.out.trans (hb8.mono (Nat.le_trans (by omega) HB7.out.size))).setCell (p:=⟨R,0,none⟩) (show A≤R by omega) (.string (nS (a ^ (2 * E+1)%m))));have cR9:=(HR7.out.kept hb8 HR7.out.lt).cell;have fR9:=(HR7.out.kept hb8 HR7.out.lt).free;clear hb8;have cA9:=HA9.out.cell;have cM9:=HM9.out.cell;have cS9:=HR9.out.cell;have fS9:=HR9.out.free;gi_wp2;exact⟨HK7.out.trans HK9.out,(show _=_ from HKP9.out).trans HKP7.out,⟨⟨HA9.out,HM9.out,by rw[HDV.out,if_pos trivial];exact HR9.out,HD9.out⟩,HB9.out⟩⟩
 case done =>
  rintro D' ys W hD' hys ⟨⟨hA',hM',hR',hD''⟩,hB'⟩ hK;have cR:=hR'.cell;gi_wp2;refine⟨by simp,.inl ⟨_,_,rfl,run_takeDeferred hK,?_⟩⟩;subst hA;exact⟨_,results_tmp2 rfl _ _ _,rfl,hB'.trans (belowK_b (w:=w) (Nat.le_refl _) W D' _ _ (by omega) hK rfl rfl)⟩
 case stop =>
  rintro D' c pre W _ _ h _;exact h.elim
theorem mod_Exp(a n m:Nat)(ha:a<18446744073709551616)(hn:n<256 ^ 128)(hm8:m<18446744073709551616)(h0:0<m)(w:World):Calls Tryz.prog 143 #[.string (nS a),.string (nS n),.string (nS m)] w (Ret (.tuple #[.string (nS (a ^ n%m)),.int .i64 0]) w):=by
 exact mod_Exp_of a n m (nS_valid_small ha) (mod_reduced a m ha (lt128_of_lt8 hm8) h0) hn hm8 h0 w
end Go.Proofs.YtamhonjkgkmdbaaGreatDoor

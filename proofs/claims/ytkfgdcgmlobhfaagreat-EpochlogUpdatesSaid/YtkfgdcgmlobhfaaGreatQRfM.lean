import Derived.Test.YtkfgdcgmlobhfaaGreatQExB
import Derived.RangeFuncNested
import Derived.RangeFuncBound
import Derived.Shelf.RegionOpen
import Derived.OwnWalkIn
import Derived.LoopNIn
import Derived.LoopIn
set_option linter.unusedVariables false
set_option linter.unusedSimpArgs false
namespace Go.Proofs.YtkfgdcgmlobhfaaGreat
open Go.RowKit
theorem zhl(a b:Nat)(ha0:0<a)(hab:a<b)(hb8:b<18446744073709551616)(w:World):Calls Tryz.prog 55 #[.string (nS a),.string (nS b)] w (RetE a b w):=by
 refine(zcd a b ha0 (by omega) (Nat.lt_of_lt_of_le (Nat.lt_trans hab hb8) (by decide +kernel)) (zm hb8) w).mono ?_;rintro e w' ⟨x,y,rfl,hbw,hz⟩;exact⟨x,y,rfl,hbw,hz.1,Nat.lt_of_le_of_lt (Bzt.xle hz) hb8,hz.2.2⟩
set_option maxRecDepth 100000
set_option maxHeartbeats 2000000
open Go.RowKit Go.Shelf
attribute [local go_sem] Oper.semAt_some
def dv(l:List Bool):Nat:=l.foldl (fun v b=>2 * v+(if b then 1 else 0)) 0
theorem zmx(l:List Bool)(b:Bool):dv (l++[b])=2 * dv l+(if b then 1 else 0):=by simp[dv]
theorem zq7{n e:Nat}{pre:List Bool}(h:dv pre=n / 2 ^ (e+1)):dv (pre++[bitB n e])=n / 2 ^ e:=by
 rw[zmx,h];unfold bitB;rw[Nat.pow_succ,←Nat.div_div_eq_div_mul];simp only[beq_iff_eq];split<;>omega
def KpD(D:Nat)(W W':World):Prop:=W'.heap[D]? =W.heap[D]?
theorem zhv(k n:Nat)(hn:n<256 ^ 128)(hk:1≤k)(D:Nat)(w:World)(hD:w.heap[D]? =some (.cells #[.string (nS n)] 22 (0,0))) :
 SeqStopsK Fence.wide k Tryz.prog 216 #[.pointer (some ⟨D,0,none⟩)] (fun b:Bool=>#[Value.bool b]) (KpD D) (fun xs=>dv xs=n) (fun _=>True) (blen n) w:=fun l J Jx W hW hJ hJx hY h0=>by
 have HBS:=Hq (zjb n hn);have hb:=hW;have HBT:=Hq (fun i hi=>zgd n i hn hi);have hDW:W.heap[D]? =some (.cells #[.string (nS n)] 22 (0,0)):=by rw[hW.block D (zw hD)];exact hD
 have hcl:∀ W':World,W'.heap[D]? =some (.cells #[.string (nS n)] 22 (0,0))→W'.cell? ⟨D,0,none⟩=some (.string (nS n)):=fun W' h=>by rw[Lib.cell_of_heap h];rfl
 have HCL:=Hq hcl;have c0:=hcl W hDW;have HE0:=Hq (show n / 2 ^ blen n=0 from Nat.div_eq_of_lt (zbu n));have hbn:blen n≤1024:=zj4 (k:=128) hn;obtain⟨s,hs⟩:∃ s,nS n=s:=⟨_,rfl⟩;rw[hs]at HBS HBT HCL c0 hDW;obtain⟨B,hB⟩:∃ B,blen n=B:=⟨_,rfl⟩;rw[hB]at HBS HE0 hbn hY;have HY:=Hq hY;clear hY hcl hs hB hD hn hW hb;refine callsIn_of_wp Tryz.func216 rfl trivial ?_ rfl;simp only[Tryz.ntmps216,List.size_toArray,List.length_cons,List.length_nil,Nat.reduceAdd,Nat.reduceSub,Array.replicate_succ,Array.replicate_zero,List.push_toArray,List.append_toArray,List.nil_append,List.cons_append];gi_wp2;refine⟨trivial,callsIn_wide.2 ((HBS.out _).mono ?_)⟩;rintro e w' ⟨rfl,rfl⟩;gi_wp2;gi_loopw [3] (fun i wr=>∃(K:Nat) (pre:List Bool),K≤B∧i=.int .i64 ((K:Int) - 1)∧pre.length+K=B∧dv pre=n / 2 ^ K∧wr.heap[D]? =some (.cells #[.string s] 22 (0,0))∧J pre wr) (fun i _=>(intOf i+1).toNat);case atStart=>exact⟨B,[],Nat.le_refl _,by go_num,by simp,by rw[HE0.out];rfl,hDW,h0⟩
 case round =>
  obtain⟨K,pre,hK,rfl,hlen,hdv,hDr,hJr⟩:=hrel;have HDV:=Hq hdv;have HLEN:=Hq hlen;have HDR:=Hq hDr;have c1:=HCL.out _ hDr;clear hdv hlen hDr;by_cases hlt:0<K
  · obtain⟨e,rfl⟩:∃ e,K=e+1:=⟨K - 1,by omega⟩;rw[show ((e+1:Nat):Int) - 1=(e:Int)from by omega];have he0:(0:Int)≤(e:Int):=by omega
    have HST:=Hq (zq7 HDV.out);obtain⟨b,hbb⟩:∃ b,bitB n e=b:=⟨_,rfl⟩;have HBE:=Hq (HBT.out e (by omega));rw[hbb]at HST HBE;clear hbb;obtain⟨fn,tmps,assign,body,hy,hR⟩:=HY.out pre b wr hJr (by have:=HLEN.out;omega);have HR:=Hq hR;clear hR;gi_wp2;refine⟨trivial,callsIn_wide.2 ((HBE.out _).mono ?_)⟩;rintro ev w' ⟨rfl,rfl⟩;gi_wp2;refine HR.out.mono ?_;rintro ev W' (⟨rfl,hJ',hk'⟩ | ⟨rfl,hJx'⟩)
    · have HJ':=Hq hJ';have HK':=Hq hk';clear hJ' hk';gi_wp2;go_roundw;case rel=>exact⟨e,pre++[b],by omega,by go_num,by have:=HLEN.out;simp;omega,HST.out,by rw[HK'.out];exact HDR.out,HJ'.out⟩
      case measure=>simp[intOf]<;>omega
    · gi_wp2;refine bodyPost_ret (results_none rfl _ _ _) rfl ?_;exact⟨⟨_,rfl⟩,.inr ⟨pre++[b],trivial,hJx'⟩⟩
  · obtain rfl:K=0:=by omega
    have hneg:((0:Nat):Int) - 1 = -1:=rfl;rw[hneg];gi_wp2;go_end0;exact⟨⟨_,rfl⟩,.inl ⟨pre,by rw[HDV.out,Nat.pow_zero,Nat.div_one],hJr⟩⟩
set_option maxRecDepth 100000
set_option maxHeartbeats 4000000
theorem OutB.kept{w w':World}{K B n i v:Nat}(h:OutB w B n i v)(hb:Below K w w')(hB:B<K):OutB w' B n i v:=by
 obtain⟨cur,h1,h2,h3⟩:=h;exact⟨cur,by rw[←h1];exact hb.block _ hB,h2,h3⟩
theorem OutB.get{w:World}{B n v:Nat}(h:OutB w B n n v){k j:Nat}(hk:k+1+j=n):w.cell? ⟨B,k,none⟩=some (.int .u8 (dig v j)):=by
 obtain⟨cur,h1,h2,h3⟩:=h;rw[Lib.cell_of_heap h1];have:=h3 j (by omega);rwa[show n - 1 - j=k from by omega]at this
theorem OutB.zero{w:World}(n:Nat):OutB (w.alloc (.cells (zb n) 5)) w.heap.size n n 0:=by
 refine⟨_,heap_alloc_new _ _,zh3 n,fun j h=>?_⟩;unfold zb madeCells;rw[Array.getElem?_map,Array.getElem?_range,if_pos (by omega)];simp[Nat.mod_one,dig]
theorem OutB.put{w:World}{B n v v' k j c:Nat}(h:OutB w B n n v)(hk:k+1+j=n)(hc:dig v' j=c)(ho:∀ i,i≠j→dig v' i=dig v i):OutB (w.setCell ⟨B,k,none⟩ (.int .u8 (c:Int))) B n n v':=by
 obtain⟨cur,h1,h2,h3⟩:=h;refine⟨_,zv h1 _,by rw[Array.size_setIfInBounds,h2],fun i hi=>?_⟩;rw[Array.getElem?_setIfInBounds];by_cases e:i=j
 · subst e;rw[if_pos (by omega),if_pos (by omega),hc]
 · rw[if_neg (by omega),ho i e];exact h3 i hi
theorem zo2(q e:Nat):(q * 2 ^ (e+1)+2 ^ e) / 256 ^ (e / 8)=q * 2 ^ (e+1) / 256 ^ (e / 8)+2 ^ (e%8)∧q * 2 ^ (e+1) / 256 ^ (e / 8)%256+2 ^ (e%8)<256:=by
 obtain⟨a,ha⟩:∃ a,e / 8=a:=⟨_,rfl⟩;obtain⟨b,hb⟩:∃ b,e%8=b:=⟨_,rfl⟩;have hb8:b<8:=by omega
 have he:e=8 * a+b:=by omega
 rw[ha,hb];subst he;have e1:q * 2 ^ (8 * a+b+1)=q * 2 ^ (b+1) * 256 ^ a:=by
  rw[show (256:Nat) ^ a=2 ^ (8 * a)from by rw[Nat.pow_mul],Nat.mul_assoc,←Nat.pow_add];congr 2;omega
 have e2:(2:Nat) ^ (8 * a+b)=2 ^ b * 256 ^ a:=(by rw[show (256:Nat) ^ a=2 ^ (8 * a)from by rw[Nat.pow_mul],←Nat.pow_add];congr 1;omega);have hp:0<256 ^ a:=Nat.pow_pos (by decide);rw[e1,e2,←Nat.add_mul,Nat.mul_div_cancel _ hp,Nat.mul_div_cancel _ hp];clear e1 e2 hp ha hb;refine⟨rfl,?_⟩
 match b,hb8 with
 | 0,_=>omega
 | 1,_=>omega
 | 2,_=>omega
 | 3,_=>omega
 | 4,_=>omega
 | 5,_=>omega
 | 6,_=>omega
 | 7,_=>omega
theorem za8(q e:Nat):dig (q * 2 ^ (e+1)+2 ^ e) (e / 8)=dig (q * 2 ^ (e+1)) (e / 8)+2 ^ (e%8)∧dig (q * 2 ^ (e+1)) (e / 8)+2 ^ (e%8)<256:=by
 obtain⟨h1,h2⟩:=zo2 q e;unfold dig;rw[h1];generalize q * 2 ^ (e+1) / 256 ^ (e / 8)=A at *;generalize 2 ^ (e%8)=P at *;omega
theorem zak(q e i:Nat)(hi:i≠e / 8):dig (q * 2 ^ (e+1)+2 ^ e) i=dig (q * 2 ^ (e+1)) i:=by
 obtain⟨h1,h2⟩:=zo2 q e;obtain⟨a,ha⟩:∃ a,e / 8=a:=⟨_,rfl⟩;obtain⟨b,hb⟩:∃ b,e%8=b:=⟨_,rfl⟩;have he:e=8 * a+b:=by omega
 rw[ha,hb]at h1 h2;rw[ha]at hi;unfold dig;rcases Nat.lt_or_ge i a with h | h
 · have e1:∀ c,2 ^ (8 * a+c)=2 ^ (8 * (a - i - 1)+c) * 256 * 256 ^ i:=(by intro c;rw[show (256:Nat) ^ i=2 ^ (8 * i)from by rw[Nat.pow_mul],show (256:Nat)=2 ^ 8 from rfl,←Nat.pow_add,←Nat.pow_add];congr 1;omega);have hp:0<256 ^ i:=Nat.pow_pos (by decide);rw[he,show 8 * a+b+1=8 * a+(b+1)from by omega,e1,e1,←Nat.mul_assoc q,←Nat.add_mul,Nat.mul_div_cancel _ hp,Nat.mul_div_cancel _ hp,←Nat.mul_assoc q,←Nat.add_mul,Nat.mul_mod_left,Nat.mul_mod_left]
 · obtain⟨c,rfl⟩:∃ c,i=a+1+c:=⟨i - a - 1,by omega⟩;have key:∀ m,m / 256 ^ (a+1+c)=m / 256 ^ a / 256 / 256 ^ c:=(by intro m;rw[Nat.div_div_eq_div_mul,Nat.div_div_eq_div_mul,show (256:Nat) ^ (a+1+c)=256 ^ a * (256 * 256 ^ c)from by rw[Nat.pow_add,Nat.pow_succ,Nat.mul_assoc]]);rw[key,key,h1];congr 2;generalize q * 2 ^ (e+1) / 256 ^ a=A at *;generalize 2 ^ b=P at *;omega
theorem zir(x e:Nat):∃ β,β≤1∧(bitB x e=true→β=1)∧(bitB x e=false→β=0)∧x / 2 ^ e=2 * (x / 2 ^ (e+1))+β:=by
 refine⟨x / 2 ^ e%2,by omega,?_,?_,?_⟩
 · unfold bitB;simp
 · unfold bitB;simp
 · rw[Nat.pow_succ,←Nat.div_div_eq_div_mul];omega
theorem zf6{X y q r β t:Nat}(hq:X / y=q)(hr:X%y=r)(ht:2 * r+β=t)(h:t<y):(2 * X+β) / y=2 * q∧(2 * X+β)%y=t:=by
 have h0:0<y:=by omega
 have h1:=Nat.div_add_mod X y;rw[hq,hr]at h1;have e:2 * X+β=t+y * (2 * q):=(by rw[←h1,←ht,Nat.mul_left_comm y 2 q];omega);rw[e,Nat.add_mul_div_left _ _ h0,Nat.add_mul_mod_self_left,Nat.div_eq_of_lt h,Nat.mod_eq_of_lt h,Nat.zero_add];exact⟨rfl,rfl⟩
theorem zf7{X y q r β t:Nat}(hq:X / y=q)(hr:X%y=r)(ht:2 * r+β=t)(hβ:β≤1)(h0:0<y)(h:y≤t):(2 * X+β) / y=2 * q+1∧(2 * X+β)%y=t - y:=by
 have hl:r<y:=by rw[←hr];exact Nat.mod_lt _ h0
 have h1:=Nat.div_add_mod X y;rw[hq,hr]at h1;have e:2 * X+β=(t - y)+y * (2 * q+1):=by
  have h3:y * (2 * q+1)=2 * (y * q)+y:=by rw[Nat.mul_add,Nat.mul_one,Nat.mul_left_comm]
  rw[h3,←h1];omega
 have h2:t - y<y:=by omega
 rw[e,Nat.add_mul_div_left _ _ h0,Nat.add_mul_mod_self_left,Nat.div_eq_of_lt h2,Nat.mod_eq_of_lt h2,Nat.zero_add];exact⟨rfl,rfl⟩
theorem zih:(nS 1)=⟨#[1]⟩:=rfl
def OvQ(x y K:Nat):Nat:=x / 2 ^ K / y * 2 ^ K
theorem zi7{x y e:Nat}(h:x / 2 ^ e / y=2 * (x / 2 ^ (e+1) / y)):OvQ x y e=OvQ x y (e+1):=by
 unfold OvQ;rw[h,Nat.pow_succ,Nat.mul_comm 2,Nat.mul_assoc,Nat.mul_comm 2]
theorem zi8{x y e:Nat}(h:x / 2 ^ e / y=2 * (x / 2 ^ (e+1) / y)+1):OvQ x y e=OvQ x y (e+1)+2 ^ e:=by
 unfold OvQ;rw[h,Nat.add_mul,Nat.one_mul,Nat.pow_succ,Nat.mul_comm 2,Nat.mul_assoc,Nat.mul_comm 2]
theorem zfz(x y:Nat)(hs1:(nS x).size≤300)(hs2:(nS y).size≤300)(h0:0<y)(hlg:8<(nS x).size∨8<(nS y).size)(w:World):Calls Tryz.prog 124 #[.string (nS x),.string (nS y)] w (Ret (.tuple #[.string (nS (x / y)),.string (nS (x%y))]) w):=by
 have hmx:x<256 ^ (nS x).size:=zf.1 nlr;have HBT:=Hq (zfx x (by omega));have hbl:=zbu x;have hby:blen x≤8 * (nS x).size:=by
  rcases Nat.eq_zero_or_pos x with e | e
  · rw[e];exact Nat.zero_le _
  · have h1:=zgp e;rcases Nat.lt_or_ge (8 * (nS x).size) (blen x)with h | h
    · have : (2:Nat) ^ (8 * (nS x).size)≤2 ^ (blen x - 1):=Nat.pow_le_pow_right (by decide) (by omega);rw[Nat.pow_mul,show (2:Nat) ^ 8=256 from rfl]at this;omega
    · exact h
 have HYS:=Hq (show ∀ t,t<2 * y→(nS t).size≤400 from fun t ht=>by
  have h1:y<256 ^ (nS y).size:=zf.1 nlr;have h2:(nS t).size≤(nS y).size+1:=zf.2 (by rw[Nat.pow_succ];omega)
  omega)
 have HXQ:=Hq (show (nS (x / y)).size≤1000 from by
  have : (nS (x / y)).size≤(nS x).size:=zf.2 (Nat.lt_of_le_of_lt (Nat.div_le_self _ _) hmx)
  omega)
 have HX1:=Hq (show x / y<256 ^ (nS x).size from Nat.lt_of_le_of_lt (Nat.div_le_self _ _) hmx);have HONE:=Hq (fun e (he:e<100000)=>zlu x e (by omega) he);obtain⟨s,hs⟩:∃ s,nS x=s:=⟨_,rfl⟩;obtain⟨sy,hty⟩:∃ t,nS y=t:=⟨_,rfl⟩;rw[hs]at hs1 hlg hby HBT HONE HX1⊢;rw[hty]at hs2 hlg⊢;have HTY:=Hq hty;clear hs hty hmx;obtain⟨a,ha⟩:∃ a,s.size=a:=⟨_,rfl⟩;obtain⟨m,hm⟩:∃ m,blen x=m:=⟨_,rfl⟩;rw[ha]at hs1 hlg hby HX1;rw[hm]at hby HBT hbl;have HX2:=Hq (show x / 2 ^ m=0 from Nat.div_eq_of_lt hbl);clear hbl hm;have hdec:(decide ((a:Int)≤8)&&decide ((sy.size:Int)≤8))=false:=by
  rcases hlg with h | h
  · rw[decide_eq_false (by omega)];rfl
  · rw[decide_eq_false (p:=(sy.size:Int)≤8) (by omega),Bool.and_false]
 have hmb:=fun(w:World)=>xr a (by omega) w;obtain⟨b,hb⟩:∃ b,sy.size=b:=⟨_,rfl⟩;rw[hb]at hs2 hlg hdec;by_cases hl8:(a:Int)≤8
 · have hl9:¬ ((b:Int)≤8):=by omega
   clear hlg hdec;go_enter Tryz.func124,Tryz.ntmps124;go_wp2_with fail;refine(HBT.out _).mono ?_;rintro e w1 ⟨rfl,rfl⟩;go_wp2;clear hmb;go_loopw [9,10] (fun r i wr=>∃(K t:Nat),K≤m∧r=.string (nS t)∧i=.int .i64 ((K:Int) - 1)∧x / 2 ^ K%y=t∧OutB wr w.heap.size a a (OvQ x y K)∧Below w.heap.size w wr) (fun _ i _=>(intOf i+1).toNat);case atStart=>exact⟨m,0,Nat.le_refl _,rfl,by go_num,by rw[HX2.out,Nat.zero_mod],by rw[show OvQ x y m=0 from by unfold OvQ;rw[HX2.out,Nat.zero_div,Nat.zero_mul]];exact OutB.zero _,(blr).alloc nlr _⟩
   case round =>
    obtain⟨K,r,hK,rfl,rfl,hr,hO,hB⟩:=hrel;have HO:=Hq hO;have HB:=Hq hB;have HR:=Hq hr;have hry:r<y:=by rw[←hr];exact Nat.mod_lt _ h0
    have hsr:=HYS.out r (by omega);clear hO hB hr;by_cases hlt:0<K
    · obtain⟨e,rfl⟩:∃ e,K=e+1:=⟨K - 1,by omega⟩;rw[show ((e+1:Nat):Int) - 1=(e:Int)from by omega];have he0:(0:Int)≤(e:Int):=by omega
      obtain⟨β,hβ,hβ1,hβ0,hup⟩:=zir x e;have HUP:=Hq hup;have HB1:=Hq hβ1;have HB0:=Hq hβ0;clear hup hβ1 hβ0;go_wp2_with fail;refine(zb8 r r (by omega) (by omega) _).mono ?_;rintro ev w2 ⟨rfl,hb2⟩;have HB2:=Hq (HB.out.trans (hb2.mono HB.out.size));have HO2:=Hq (HO.out.kept hb2 (HO.out.lt));clear hb2;go_wp2_with fail;refine(HONE.out e (by omega) _).mono ?_;rintro ev w3' ⟨rfl,rfl⟩;by_cases hbit:bitB x e=true
      · have HBE:=Hq (HB1.out hbit);rw[hbit];clear hbit;have hsd:=HYS.out (r+r) (by omega);have hs1':(nS 1).size≤500:=by decide
        go_wp2_with fail;rw[←zih];refine(zb8 (r+r) 1 (by omega) hs1' _).mono ?_;rintro ev w3 ⟨rfl,hb3⟩;have HB3:=Hq (HB2.out.trans (hb3.mono HB2.out.size));have HO3:=Hq (HO2.out.kept hb3 (HO2.out.lt));obtain⟨t,ht⟩:∃ t,r+r+1=t:=⟨_,rfl⟩;rw[ht];have HT2:=Hq (show 2 * r+β=t from by have:=HBE.out;omega);have hst:=HYS.out t (by omega);clear hb3 ht
        -- t: the remainder with the new digit; w3, HB3, HO3: the world
        have HCM:=Hq (xl t y);rw[HTY.out]at HCM;by_cases hge:y≤t
        · obtain⟨hq1,hq2⟩:=zf7 (X:=x / 2 ^ (e+1)) (β:=β) rfl HR.out HT2.out hβ h0 hge;rw[←HUP.out]at hq1 hq2;have HQ:=Hq (zi8 hq1);have HM:=Hq hq2;have hg:=jl hge;have HGE:=Hq hge;obtain⟨c,hc⟩:∃ c,cmpI t y=c:=⟨_,rfl⟩;rw[hc]at hg HCM;clear hq1 hq2 hc hge;go_wp2_with fail;refine(jv (nS t) sy (by omega) (by omega) _).mono ?_;rintro ev w4 ⟨rfl,hb4⟩;rw[HCM.out];have HB4:=Hq (HB3.out.trans (hb4.mono HB3.out.size));have HO4:=Hq (HO3.out.kept hb4 (HO3.out.lt));clear hb4;go_wp2_with fail;rw[←HTY.out];refine(qy t y (by omega) HGE.out _).mono ?_;rintro ev w5 ⟨rfl,hb5⟩;rw[HTY.out];have HB5:=Hq (HB4.out.trans (hb5.mono HB4.out.size));have HO5:=Hq (HO4.out.kept hb5 (HO4.out.lt));clear hb5;go_wp2;obtain⟨hd1,hd2⟩:=za8 (x / 2 ^ (e+1) / y) e;have hoff:=zak (x / 2 ^ (e+1) / y) e;rw[show x / 2 ^ (e+1) / y * 2 ^ (e+1)=OvQ x y (e+1)from rfl,←HQ.out]at hd1 hoff;rw[show x / 2 ^ (e+1) / y * 2 ^ (e+1)=OvQ x y (e+1)from rfl]at hd2;have HD1:=Hq hd1;have HOFF:=Hq hoff;have HD2:=Hq hd2;clear hd1 hoff hd2
          go_loop [11,12] (fun bt i=>∃ j:Nat,j≤e%8∧i=.int .i64 j∧bt=.int .u8 ((2 ^ j:Nat):Int)) (fun _ i=>8 - (intOf i).toNat)
          case atStart=>exact⟨0,Nat.zero_le _,rfl,rfl⟩
          case round =>
           obtain⟨j,hj,rfl,rfl⟩:=hrel;obtain⟨P,hP⟩:∃ P,2 ^ j=P:=⟨_,rfl⟩;have HP:=Hq hP;by_cases hlt2:j<e%8
           · have hPl:P≤64:=by rw[←hP];exact Nat.le_trans (Nat.pow_le_pow_right (by decide) (show j≤6 by omega)) (by decide)
             have hlt3:(j:Int)<(e:Int)%8:=by omega
             rw[hP];clear hP;go_wp2;go_round;case rel=>exact⟨j+1,by omega,by go_num,by rw[Nat.pow_succ,HP.out];go_num⟩
             case measure=>simp[intOf]<;>omega
           · obtain rfl:j=e%8:=by omega
             rw[hP];have HJ:=Hq (show e%8<8 by omega);have hlt3:¬ (((e%8:Nat):Int)<(e:Int)%8):=by omega
             obtain⟨kk,hkk⟩:∃ kk,kk+1+e / 8=a:=⟨a - 1 - e / 8,by omega⟩;have hix:(a:Int) - 1 - (e:Int) / 8=(kk:Int):=by omega
             have hka:kk<a:=by omega
             have hka2:(kk:Int)<(a:Int):=by omega
             have hk0:(0:Int)≤(kk:Int):=by omega
             have c0:=HO5.out.get hkk;have hf:=HO5.out.free kk;have hd2:=HD2.out;rw[HP.out]at hd2;obtain⟨d,hd⟩:∃ d,dig (OvQ x y (e+1)) (e / 8)=d:=⟨_,rfl⟩;rw[hd]at c0 hd2;have HDD:=Hq hd;have HKK:=Hq hkk;clear hP hkk hd;go_wp2;go_roundw
             case rel =>
                 refine⟨e,t - y,by omega,rfl,by go_num,HM.out,?_,HB5.out.setCell (p:=⟨w.heap.size,kk,none⟩) nlr _⟩;have h1:=HO5.out.put (c:=d+P) HKK.out (by rw[HD1.out,HDD.out,HP.out]) (fun i hi=>HOFF.out i hi);rw[Int.natCast_add]at h1;exact h1
             case measure=>simp[intOf]<;>omega
        · obtain⟨hq1,hq2⟩:=zf6 (X:=x / 2 ^ (e+1)) (β:=β) rfl HR.out HT2.out (by omega);rw[←HUP.out]at hq1 hq2;have HQ:=Hq (zi7 hq1);have HM:=Hq hq2;have hg:=ks (show t<y by omega);rw[hg]at HCM;clear hq1 hq2 hge hg;go_wp2_with fail;refine(jv (nS t) sy (by omega) (by omega) _).mono ?_;rintro ev w4 ⟨rfl,hb4⟩;rw[HCM.out];have HB4:=Hq (HB3.out.trans (hb4.mono HB3.out.size));have HO4:=Hq (HO3.out.kept hb4 (HO3.out.lt));clear hb4;go_wp2;go_roundw;case rel=>exact⟨e,t,by omega,rfl,by go_num,HM.out,by rw[HQ.out];exact HO4.out,HB4.out⟩
          case measure=>simp[intOf]<;>omega
      · rw[Bool.not_eq_true]at hbit;have HBE:=Hq (HB0.out hbit);rw[hbit];clear hbit;have HB3:=Hq HB2.out;have HO3:=Hq HO2.out;obtain⟨t,ht⟩:∃ t,r+r=t:=⟨_,rfl⟩;rw[ht];have HT2:=Hq (show 2 * r+β=t from by have:=HBE.out;omega);have hst:=HYS.out t (by omega);clear ht
        -- t: the remainder with the new digit; w3, HB3, HO3: the world
        have HCM:=Hq (xl t y);rw[HTY.out]at HCM;by_cases hge:y≤t
        · obtain⟨hq1,hq2⟩:=zf7 (X:=x / 2 ^ (e+1)) (β:=β) rfl HR.out HT2.out hβ h0 hge;rw[←HUP.out]at hq1 hq2;have HQ:=Hq (zi8 hq1);have HM:=Hq hq2;have hg:=jl hge;have HGE:=Hq hge;obtain⟨c,hc⟩:∃ c,cmpI t y=c:=⟨_,rfl⟩;rw[hc]at hg HCM;clear hq1 hq2 hc hge;go_wp2_with fail;refine(jv (nS t) sy (by omega) (by omega) _).mono ?_;rintro ev w4 ⟨rfl,hb4⟩;rw[HCM.out];have HB4:=Hq (HB3.out.trans (hb4.mono HB3.out.size));have HO4:=Hq (HO3.out.kept hb4 (HO3.out.lt));clear hb4;go_wp2_with fail;rw[←HTY.out];refine(qy t y (by omega) HGE.out _).mono ?_;rintro ev w5 ⟨rfl,hb5⟩;rw[HTY.out];have HB5:=Hq (HB4.out.trans (hb5.mono HB4.out.size));have HO5:=Hq (HO4.out.kept hb5 (HO4.out.lt));clear hb5;go_wp2;obtain⟨hd1,hd2⟩:=za8 (x / 2 ^ (e+1) / y) e;have hoff:=zak (x / 2 ^ (e+1) / y) e;rw[show x / 2 ^ (e+1) / y * 2 ^ (e+1)=OvQ x y (e+1)from rfl,←HQ.out]at hd1 hoff;rw[show x / 2 ^ (e+1) / y * 2 ^ (e+1)=OvQ x y (e+1)from rfl]at hd2;have HD1:=Hq hd1;have HOFF:=Hq hoff;have HD2:=Hq hd2;clear hd1 hoff hd2
          go_loop [11,12] (fun bt i=>∃ j:Nat,j≤e%8∧i=.int .i64 j∧bt=.int .u8 ((2 ^ j:Nat):Int)) (fun _ i=>8 - (intOf i).toNat)
          case atStart=>exact⟨0,Nat.zero_le _,rfl,rfl⟩
          case round =>
           obtain⟨j,hj,rfl,rfl⟩:=hrel;obtain⟨P,hP⟩:∃ P,2 ^ j=P:=⟨_,rfl⟩;have HP:=Hq hP;by_cases hlt2:j<e%8
           · have hPl:P≤64:=by rw[←hP];exact Nat.le_trans (Nat.pow_le_pow_right (by decide) (show j≤6 by omega)) (by decide)
             have hlt3:(j:Int)<(e:Int)%8:=by omega
             rw[hP];clear hP;go_wp2;go_round;case rel=>exact⟨j+1,by omega,by go_num,by rw[Nat.pow_succ,HP.out];go_num⟩
             case measure=>simp[intOf]<;>omega
           · obtain rfl:j=e%8:=by omega
             rw[hP];have HJ:=Hq (show e%8<8 by omega);have hlt3:¬ (((e%8:Nat):Int)<(e:Int)%8):=by omega
             obtain⟨kk,hkk⟩:∃ kk,kk+1+e / 8=a:=⟨a - 1 - e / 8,by omega⟩;have hix:(a:Int) - 1 - (e:Int) / 8=(kk:Int):=by omega
             have hka:kk<a:=by omega
             have hka2:(kk:Int)<(a:Int):=by omega
             have hk0:(0:Int)≤(kk:Int):=by omega
             have c0:=HO5.out.get hkk;have hf:=HO5.out.free kk;have hd2:=HD2.out;rw[HP.out]at hd2;obtain⟨d,hd⟩:∃ d,dig (OvQ x y (e+1)) (e / 8)=d:=⟨_,rfl⟩;rw[hd]at c0 hd2;have HDD:=Hq hd;have HKK:=Hq hkk;clear hP hkk hd;go_wp2;go_roundw
             case rel =>
                 refine⟨e,t - y,by omega,rfl,by go_num,HM.out,?_,HB5.out.setCell (p:=⟨w.heap.size,kk,none⟩) nlr _⟩;have h1:=HO5.out.put (c:=d+P) HKK.out (by rw[HD1.out,HDD.out,HP.out]) (fun i hi=>HOFF.out i hi);rw[Int.natCast_add]at h1;exact h1
             case measure=>simp[intOf]<;>omega
        · obtain⟨hq1,hq2⟩:=zf6 (X:=x / 2 ^ (e+1)) (β:=β) rfl HR.out HT2.out (by omega);rw[←HUP.out]at hq1 hq2;have HQ:=Hq (zi7 hq1);have HM:=Hq hq2;have hg:=ks (show t<y by omega);rw[hg]at HCM;clear hq1 hq2 hge hg;go_wp2_with fail;refine(jv (nS t) sy (by omega) (by omega) _).mono ?_;rintro ev w4 ⟨rfl,hb4⟩;rw[HCM.out];have HB4:=Hq (HB3.out.trans (hb4.mono HB3.out.size));have HO4:=Hq (HO3.out.kept hb4 (HO3.out.lt));clear hb4;go_wp2;go_roundw;case rel=>exact⟨e,t,by omega,rfl,by go_num,HM.out,by rw[HQ.out];exact HO4.out,HB4.out⟩
          case measure=>simp[intOf]<;>omega
    · obtain rfl:K=0:=by omega
      have hneg:((0:Nat):Int) - 1 = -1:=rfl;rw[hneg];have HQ0:=Hq (show OvQ x y 0=x / y from by unfold OvQ;rw[Nat.pow_zero,Nat.div_one,Nat.mul_one]);have HR0:=Hq (show x%y=r from by rw[←HR.out,Nat.pow_zero,Nat.div_one]);have hby2:=HO.out.bytes (by omega);rw[HQ0.out]at hby2;have HBY:=Hq hby2;clear hby2;go_wp2_with fail;refine(za5 _ _ _ _ _ HBY.out).mono ?_;rintro ev w2 ⟨rfl,rfl⟩;rw[ko HX1.out];go_wp2;go_ret2;exact⟨by rw[HR0.out];rfl,HB.out⟩
 · clear hlg hdec;go_enter Tryz.func124,Tryz.ntmps124;go_wp2_with fail;refine(HBT.out _).mono ?_;rintro e w1 ⟨rfl,rfl⟩;go_wp2;clear hmb;go_loopw [9,10] (fun r i wr=>∃(K t:Nat),K≤m∧r=.string (nS t)∧i=.int .i64 ((K:Int) - 1)∧x / 2 ^ K%y=t∧OutB wr w.heap.size a a (OvQ x y K)∧Below w.heap.size w wr) (fun _ i _=>(intOf i+1).toNat);case atStart=>exact⟨m,0,Nat.le_refl _,rfl,by go_num,by rw[HX2.out,Nat.zero_mod],by rw[show OvQ x y m=0 from by unfold OvQ;rw[HX2.out,Nat.zero_div,Nat.zero_mul]];exact OutB.zero _,(blr).alloc nlr _⟩
   case round =>
    obtain⟨K,r,hK,rfl,rfl,hr,hO,hB⟩:=hrel;have HO:=Hq hO;have HB:=Hq hB;have HR:=Hq hr;have hry:r<y:=by rw[←hr];exact Nat.mod_lt _ h0
    have hsr:=HYS.out r (by omega);clear hO hB hr;by_cases hlt:0<K
    · obtain⟨e,rfl⟩:∃ e,K=e+1:=⟨K - 1,by omega⟩;rw[show ((e+1:Nat):Int) - 1=(e:Int)from by omega];have he0:(0:Int)≤(e:Int):=by omega
      obtain⟨β,hβ,hβ1,hβ0,hup⟩:=zir x e;have HUP:=Hq hup;have HB1:=Hq hβ1;have HB0:=Hq hβ0;clear hup hβ1 hβ0;go_wp2_with fail;refine(zb8 r r (by omega) (by omega) _).mono ?_;rintro ev w2 ⟨rfl,hb2⟩;have HB2:=Hq (HB.out.trans (hb2.mono HB.out.size));have HO2:=Hq (HO.out.kept hb2 (HO.out.lt));clear hb2;go_wp2_with fail;refine(HONE.out e (by omega) _).mono ?_;rintro ev w3' ⟨rfl,rfl⟩;by_cases hbit:bitB x e=true
      · have HBE:=Hq (HB1.out hbit);rw[hbit];clear hbit;have hsd:=HYS.out (r+r) (by omega);have hs1':(nS 1).size≤500:=by decide
        go_wp2_with fail;rw[←zih];refine(zb8 (r+r) 1 (by omega) hs1' _).mono ?_;rintro ev w3 ⟨rfl,hb3⟩;have HB3:=Hq (HB2.out.trans (hb3.mono HB2.out.size));have HO3:=Hq (HO2.out.kept hb3 (HO2.out.lt));obtain⟨t,ht⟩:∃ t,r+r+1=t:=⟨_,rfl⟩;rw[ht];have HT2:=Hq (show 2 * r+β=t from by have:=HBE.out;omega);have hst:=HYS.out t (by omega);clear hb3 ht
        -- t: the remainder with the new digit; w3, HB3, HO3: the world
        have HCM:=Hq (xl t y);rw[HTY.out]at HCM;by_cases hge:y≤t
        · obtain⟨hq1,hq2⟩:=zf7 (X:=x / 2 ^ (e+1)) (β:=β) rfl HR.out HT2.out hβ h0 hge;rw[←HUP.out]at hq1 hq2;have HQ:=Hq (zi8 hq1);have HM:=Hq hq2;have hg:=jl hge;have HGE:=Hq hge;obtain⟨c,hc⟩:∃ c,cmpI t y=c:=⟨_,rfl⟩;rw[hc]at hg HCM;clear hq1 hq2 hc hge;go_wp2_with fail;refine(jv (nS t) sy (by omega) (by omega) _).mono ?_;rintro ev w4 ⟨rfl,hb4⟩;rw[HCM.out];have HB4:=Hq (HB3.out.trans (hb4.mono HB3.out.size));have HO4:=Hq (HO3.out.kept hb4 (HO3.out.lt));clear hb4;go_wp2_with fail;rw[←HTY.out];refine(qy t y (by omega) HGE.out _).mono ?_;rintro ev w5 ⟨rfl,hb5⟩;rw[HTY.out];have HB5:=Hq (HB4.out.trans (hb5.mono HB4.out.size));have HO5:=Hq (HO4.out.kept hb5 (HO4.out.lt));clear hb5;go_wp2;obtain⟨hd1,hd2⟩:=za8 (x / 2 ^ (e+1) / y) e;have hoff:=zak (x / 2 ^ (e+1) / y) e;rw[show x / 2 ^ (e+1) / y * 2 ^ (e+1)=OvQ x y (e+1)from rfl,←HQ.out]at hd1 hoff;rw[show x / 2 ^ (e+1) / y * 2 ^ (e+1)=OvQ x y (e+1)from rfl]at hd2;have HD1:=Hq hd1;have HOFF:=Hq hoff;have HD2:=Hq hd2;clear hd1 hoff hd2
          go_loop [11,12] (fun bt i=>∃ j:Nat,j≤e%8∧i=.int .i64 j∧bt=.int .u8 ((2 ^ j:Nat):Int)) (fun _ i=>8 - (intOf i).toNat)
          case atStart=>exact⟨0,Nat.zero_le _,rfl,rfl⟩
          case round =>
           obtain⟨j,hj,rfl,rfl⟩:=hrel;obtain⟨P,hP⟩:∃ P,2 ^ j=P:=⟨_,rfl⟩;have HP:=Hq hP;by_cases hlt2:j<e%8
           · have hPl:P≤64:=by rw[←hP];exact Nat.le_trans (Nat.pow_le_pow_right (by decide) (show j≤6 by omega)) (by decide)
             have hlt3:(j:Int)<(e:Int)%8:=by omega
             rw[hP];clear hP;go_wp2;go_round;case rel=>exact⟨j+1,by omega,by go_num,by rw[Nat.pow_succ,HP.out];go_num⟩
             case measure=>simp[intOf]<;>omega
           · obtain rfl:j=e%8:=by omega
             rw[hP];have HJ:=Hq (show e%8<8 by omega);have hlt3:¬ (((e%8:Nat):Int)<(e:Int)%8):=by omega
             obtain⟨kk,hkk⟩:∃ kk,kk+1+e / 8=a:=⟨a - 1 - e / 8,by omega⟩;have hix:(a:Int) - 1 - (e:Int) / 8=(kk:Int):=by omega
             have hka:kk<a:=by omega
             have hka2:(kk:Int)<(a:Int):=by omega
             have hk0:(0:Int)≤(kk:Int):=by omega
             have c0:=HO5.out.get hkk;have hf:=HO5.out.free kk;have hd2:=HD2.out;rw[HP.out]at hd2;obtain⟨d,hd⟩:∃ d,dig (OvQ x y (e+1)) (e / 8)=d:=⟨_,rfl⟩;rw[hd]at c0 hd2;have HDD:=Hq hd;have HKK:=Hq hkk;clear hP hkk hd;go_wp2;go_roundw;case rel =>
              refine⟨e,t - y,by omega,rfl,by go_num,HM.out,?_,HB5.out.setCell (p:=⟨w.heap.size,kk,none⟩) nlr _⟩;have h1:=HO5.out.put (c:=d+P) HKK.out (by rw[HD1.out,HDD.out,HP.out]) (fun i hi=>HOFF.out i hi);rw[Int.natCast_add]at h1;exact h1
             case measure=>simp[intOf]<;>omega
        · obtain⟨hq1,hq2⟩:=zf6 (X:=x / 2 ^ (e+1)) (β:=β) rfl HR.out HT2.out (by omega);rw[←HUP.out]at hq1 hq2;have HQ:=Hq (zi7 hq1);have HM:=Hq hq2;have hg:=ks (show t<y by omega);rw[hg]at HCM;clear hq1 hq2 hge hg;go_wp2_with fail;refine(jv (nS t) sy (by omega) (by omega) _).mono ?_;rintro ev w4 ⟨rfl,hb4⟩;rw[HCM.out];have HB4:=Hq (HB3.out.trans (hb4.mono HB3.out.size));have HO4:=Hq (HO3.out.kept hb4 (HO3.out.lt));clear hb4;go_wp2;go_roundw;case rel=>exact⟨e,t,by omega,rfl,by go_num,HM.out,by rw[HQ.out];exact HO4.out,HB4.out⟩
          case measure=>simp[intOf]<;>omega
      · rw[Bool.not_eq_true]at hbit;have HBE:=Hq (HB0.out hbit);rw[hbit];clear hbit;have HB3:=Hq HB2.out;have HO3:=Hq HO2.out;obtain⟨t,ht⟩:∃ t,r+r=t:=⟨_,rfl⟩;rw[ht];have HT2:=Hq (show 2 * r+β=t from by have:=HBE.out;omega);have hst:=HYS.out t (by omega);clear ht
        -- t: the remainder with the new digit; w3, HB3, HO3: the world
        have HCM:=Hq (xl t y);rw[HTY.out]at HCM;by_cases hge:y≤t
        · obtain⟨hq1,hq2⟩:=zf7 (X:=x / 2 ^ (e+1)) (β:=β) rfl HR.out HT2.out hβ h0 hge;rw[←HUP.out]at hq1 hq2;have HQ:=Hq (zi8 hq1);have HM:=Hq hq2;have hg:=jl hge;have HGE:=Hq hge;obtain⟨c,hc⟩:∃ c,cmpI t y=c:=⟨_,rfl⟩;rw[hc]at hg HCM;clear hq1 hq2 hc hge;go_wp2_with fail;refine(jv (nS t) sy (by omega) (by omega) _).mono ?_;rintro ev w4 ⟨rfl,hb4⟩;rw[HCM.out];have HB4:=Hq (HB3.out.trans (hb4.mono HB3.out.size));have HO4:=Hq (HO3.out.kept hb4 (HO3.out.lt));clear hb4;go_wp2_with fail;rw[←HTY.out];refine(qy t y (by omega) HGE.out _).mono ?_;rintro ev w5 ⟨rfl,hb5⟩;rw[HTY.out];have HB5:=Hq (HB4.out.trans (hb5.mono HB4.out.size));have HO5:=Hq (HO4.out.kept hb5 (HO4.out.lt));clear hb5;go_wp2;obtain⟨hd1,hd2⟩:=za8 (x / 2 ^ (e+1) / y) e;have hoff:=zak (x / 2 ^ (e+1) / y) e;rw[show x / 2 ^ (e+1) / y * 2 ^ (e+1)=OvQ x y (e+1)from rfl,←HQ.out]at hd1 hoff;rw[show x / 2 ^ (e+1) / y * 2 ^ (e+1)=OvQ x y (e+1)from rfl]at hd2;have HD1:=Hq hd1;have HOFF:=Hq hoff;have HD2:=Hq hd2;clear hd1 hoff hd2
          go_loop [11,12] (fun bt i=>∃ j:Nat,j≤e%8∧i=.int .i64 j∧bt=.int .u8 ((2 ^ j:Nat):Int)) (fun _ i=>8 - (intOf i).toNat)
          case atStart=>exact⟨0,Nat.zero_le _,rfl,rfl⟩
          case round =>
           obtain⟨j,hj,rfl,rfl⟩:=hrel;obtain⟨P,hP⟩:∃ P,2 ^ j=P:=⟨_,rfl⟩;have HP:=Hq hP;by_cases hlt2:j<e%8
           · have hPl:P≤64:=by rw[←hP];exact Nat.le_trans (Nat.pow_le_pow_right (by decide) (show j≤6 by omega)) (by decide)
             have hlt3:(j:Int)<(e:Int)%8:=by omega
             rw[hP];clear hP;go_wp2;go_round;case rel=>exact⟨j+1,by omega,by go_num,by rw[Nat.pow_succ,HP.out];go_num⟩
             case measure=>simp[intOf]<;>omega
           · obtain rfl:j=e%8:=by omega
             rw[hP];have HJ:=Hq (show e%8<8 by omega);have hlt3:¬ (((e%8:Nat):Int)<(e:Int)%8):=by omega
             obtain⟨kk,hkk⟩:∃ kk,kk+1+e / 8=a:=⟨a - 1 - e / 8,by omega⟩;have hix:(a:Int) - 1 - (e:Int) / 8=(kk:Int):=by omega
             have hka:kk<a:=by omega
             have hka2:(kk:Int)<(a:Int):=by omega
             have hk0:(0:Int)≤(kk:Int):=by omega
             have c0:=HO5.out.get hkk;have hf:=HO5.out.free kk;have hd2:=HD2.out;rw[HP.out]at hd2;obtain⟨d,hd⟩:∃ d,dig (OvQ x y (e+1)) (e / 8)=d:=⟨_,rfl⟩;rw[hd]at c0 hd2;have HDD:=Hq hd;have HKK:=Hq hkk;clear hP hkk hd;go_wp2;go_roundw;case rel =>
              refine⟨e,t - y,by omega,rfl,by go_num,HM.out,?_,HB5.out.setCell (p:=⟨w.heap.size,kk,none⟩) nlr _⟩;have h1:=HO5.out.put (c:=d+P) HKK.out (by rw[HD1.out,HDD.out,HP.out]) (fun i hi=>HOFF.out i hi);rw[Int.natCast_add]at h1;exact h1
             case measure=>simp[intOf]<;>omega
        · obtain⟨hq1,hq2⟩:=zf6 (X:=x / 2 ^ (e+1)) (β:=β) rfl HR.out HT2.out (by omega);rw[←HUP.out]at hq1 hq2;have HQ:=Hq (zi7 hq1);have HM:=Hq hq2;have hg:=ks (show t<y by omega);rw[hg]at HCM;clear hq1 hq2 hge hg;go_wp2_with fail;refine(jv (nS t) sy (by omega) (by omega) _).mono ?_;rintro ev w4 ⟨rfl,hb4⟩;rw[HCM.out];have HB4:=Hq (HB3.out.trans (hb4.mono HB3.out.size));have HO4:=Hq (HO3.out.kept hb4 (HO3.out.lt));clear hb4;go_wp2;go_roundw;case rel=>exact⟨e,t,by omega,rfl,by go_num,HM.out,by rw[HQ.out];exact HO4.out,HB4.out⟩
          case measure=>simp[intOf]<;>omega
    · obtain rfl:K=0:=by omega
      have hneg:((0:Nat):Int) - 1 = -1:=rfl;rw[hneg];have HQ0:=Hq (show OvQ x y 0=x / y from by unfold OvQ;rw[Nat.pow_zero,Nat.div_one,Nat.mul_one]);have HR0:=Hq (show x%y=r from by rw[←HR.out,Nat.pow_zero,Nat.div_one]);have hby2:=HO.out.bytes (by omega);rw[HQ0.out]at hby2;have HBY:=Hq hby2;clear hby2;go_wp2_with fail;refine(za5 _ _ _ _ _ HBY.out).mono ?_;rintro ev w2 ⟨rfl,rfl⟩;rw[ko HX1.out];go_wp2;go_ret2;exact⟨by rw[HR0.out];rfl,HB.out⟩
theorem zf2(x y:Nat)(hs1:(nS x).size≤300)(hs2:(nS y).size≤300)(h0:0<y)(w:World):Calls Tryz.prog 124 #[.string (nS x),.string (nS y)] w (Ret (.tuple #[.string (nS (x / y)),.string (nS (x%y))]) w):=by
 by_cases h:(nS x).size≤8∧(nS y).size≤8
 · have e:∀ n,(nS n).size≤8→n<18446744073709551616:=fun n hn=>by
    have:=zf.1 hn;rwa[show (256:Nat) ^ 8=18446744073709551616 from by decide]at this
   exact zeo x y (e _ h.1) (e _ h.2) h0 w
 · exact zfz x y hs1 hs2 h0 (by omega) w
theorem kx(x y:Nat)(hx:x<256 ^ 128)(hy:y<256 ^ 128)(h0:0<y)(w:World):Calls Tryz.prog 128 #[.string (nS x),.string (nS y)] w (Ret (.tuple #[.string (nS (x / y)),.string (nS (x%y)),.int .i64 0]) w):=by
 have hs1:=zf.2 hx;have hs2:=zf.2 hy;have HV1:=Hq (zj.2 hx);have HV2:=Hq (zj.2 hy);have hem:(nS y).toList.isEmpty=false:=xz (by have:=(zay (n:=y));omega);have HO:=Hq (zf2 x y (by omega) (by omega) h0);obtain⟨s,hs⟩:∃ s,nS x=s:=⟨_,rfl⟩;obtain⟨t,ht⟩:∃ t,nS y=t:=⟨_,rfl⟩;rw[hs]at hs1 HV1 HO⊢;rw[ht]at hs2 HV2 HO hem⊢;clear hs ht hx hy;go_enter Tryz.func128,Tryz.ntmps128;go_wp2_with fail;refine(zu s (by omega) _).mono ?_;rintro e w1 ⟨rfl,rfl⟩;rw[HV1.out];go_wp2_with fail;refine(zu t (by omega) _).mono ?_;rintro e w1 ⟨rfl,rfl⟩;rw[HV2.out];go_wp2_with fail;refine(HO.out _).mono ?_;rintro e w3 ⟨rfl,hb3⟩;have HB3:=Hq hb3;clear hb3;go_wp2;go_ret3;exact⟨rfl,HB3.out⟩
set_option maxRecDepth 100000
set_option maxHeartbeats 2000000
theorem zgg{n:Nat}(h:n<18446744073709551616):n<256 ^ 128:=zm h
theorem zdr(x m:Nat)(hx:x<256 ^ 128)(hm:m<256 ^ 128)(h0:0<m)(w:World):Calls Tryz.prog 189 #[.string (nS x),.string (nS m)] w (Ret (.string (nS (x%m))) w):=by
 have HD:=Hq (kx x m hx hm h0);obtain⟨s,hs⟩:∃ s,nS x=s:=⟨_,rfl⟩;obtain⟨t,ht⟩:∃ t,nS m=t:=⟨_,rfl⟩;rw[hs,ht]at HD;rw[hs,ht];clear hs ht hm hx;go_enter Tryz.func189,Tryz.ntmps189;go_wp2_with fail;refine(HD.out _).mono ?_;rintro e w1 ⟨rfl,hb⟩;have HB:=Hq hb;clear hb;go_wp2;go_ret;exact⟨rfl,HB.out⟩
theorem zg5(xs:List ByteArray)(A:Option Addr)(n c:Nat)(w:World)(hs:SlN w A n c xs)(hlb:n≤1000)(h0:0<n)
 (hv:∀(k:Nat) (s:ByteArray),xs[k]? =some s→zd s=true) (hm:∀ s:ByteArray,xs[n - 1]? =some s→s.toList.isEmpty=false) :
 Calls Tryz.prog 138 #[.slice A n c] w (RetQ (.int .i64 0) w):=by
 have hl:=hs.1;have hlc:=hs.2.1;have hmx:=hs.2.2.1;obtain⟨b,o,rfl⟩:=hs.head h0;have HS:=Hq hs;have HV:=Hq hv;have HM:=Hq hm;have HL:=Hq hl;clear hs hv hm hl;go_enter Tryz.func138,Tryz.ntmps138;go_wp2
 go_loop [3] (fun i=>∃ k:Nat,k≤n∧i=.int .i64 k) (fun i=>n - (intOf i).toNat)
 case atStart=>exact⟨0,Nat.zero_le _,rfl⟩
 case round =>
  obtain⟨k,hk,rfl⟩:=hrel;by_cases hlt:k<n
  · obtain⟨s,he⟩:∃ s,xs[k]? =some s:=⟨_,List.getElem?_eq_getElem (by rw[HL.out];exact hlt)⟩;have c0:=HS.out.get? k he;have hvs:=HV.out k s he;have hsz:s.size≤128:=by unfold zd at hvs;simp at hvs;exact hvs.1
    have HVS:=Hq hvs;clear he hvs;go_wp2_with fail;refine(zu s (by omega) _).mono ?_;rintro e w1 ⟨rfl,rfl⟩;rw[HVS.out];go_wp2;go_round;case rel=>exact⟨k+1,by omega,by go_num⟩
    case measure=>simp[intOf];omega
  · obtain rfl:k=n:=by omega
    obtain⟨s,he⟩:∃ s,xs[k - 1]? =some s:=⟨_,List.getElem?_eq_getElem (by rw[HL.out];omega)⟩;have c0:=HS.out.get? (k - 1) he;have hem:=HM.out s he;obtain⟨j,rfl⟩:∃ j,k=j+1:=⟨k - 1,by omega⟩;rw[Nat.add_sub_cancel]at c0;have hix:((j+1:Nat):Int) - 1=(j:Int):=by omega
    clear he;go_wp2;go_ret;exact⟨rfl,rfl⟩
theorem ze1(w:World)(a b m:ByteArray)(n:Nat)(hn:n=w.heap.size)(ha:zd a=true)(hb:zd b=true)(hm:zd m=true)(h0:m.toList.isEmpty=false) :
 Calls Tryz.prog 138 #[.slice (some ⟨n,0,none⟩) 3 3] (w.alloc (.cells #[.string a,.string b,.string m] 22)) (RetQ (.int .i64 0) (w.alloc (.cells #[.string a,.string b,.string m] 22))):=by
 subst hn;have h2:=xv w [a,b,m] 22 (by simp);refine zg5 [a,b,m] _ 3 3 _ h2 (by omega) (by omega) ?_ ?_
 · intro k s hk;have:=List.mem_of_getElem? hk;simp only[List.mem_cons,List.mem_nil_iff,or_false]at this;rcases this with rfl | rfl | rfl
   · exact ha
   · exact hb
   · exact hm
 · intro s hk;simp only[List.getElem?_cons_succ,List.getElem?_cons_zero,Option.some.injEq]at hk;rw[←hk];exact h0
theorem zk1{n:Nat}(h:n<256 ^ 128):fitR n=.tuple #[.string (nS n),.int .i64 0]:=by unfold fitR;rw[if_pos h]
theorem zdq(x y m:Nat)(hx:x<256 ^ 128)(hy:y<256 ^ 128)(hm8:m<18446744073709551616)(h0:0<m)(w:World):Calls Tryz.prog 139 #[.string (nS x),.string (nS y),.string (nS m)] w (Ret (.string (nS (x * y%m))) w):=by
 have hm:=zgg hm8;have hx2:x%m<18446744073709551616:=Nat.lt_trans (Nat.mod_lt x h0) hm8;have hy2:y%m<18446744073709551616:=Nat.lt_trans (Nat.mod_lt y h0) hm8;have HSM:=Hq (zbk m hm8);have HMX:=Hq (zdr x m hx hm h0);have HMY:=Hq (zdr y m hy hm h0);have hmx2:x%m<m:=Nat.mod_lt x h0;have hmy2:y%m<m:=Nat.mod_lt y h0;have HEQ:=Hq (Nat.mul_mod x y m).symm;have HX2:=Hq hx2;have HY2:=Hq hy2;obtain⟨X,hX⟩:∃ X,x%m=X:=⟨_,rfl⟩;obtain⟨Y,hY⟩:∃ Y,y%m=Y:=⟨_,rfl⟩;rw[hX]at HMX HEQ HX2 hmx2;rw[hY]at HMY HEQ HY2 hmy2;have hp:=show X * Y<256 ^ 128 from Nat.lt_of_lt_of_le (Nat.mul_lt_mul'' HX2.out HY2.out) (by decide);have HP:=Hq hp;have HMM:=Hq (zlz X Y (zgg HX2.out) (zgg HY2.out));rw[zk1 hp]at HMM;have HSX:=Hq (zbk X HX2.out);have HSY:=Hq (zbk Y HY2.out);have HMZ:=Hq (zdr (X * Y) m hp hm h0);rw[HEQ.out]at HMZ;have hz8:x * y%m<18446744073709551616:=Nat.lt_trans (Nat.mod_lt _ h0) hm8;have HOF:=Hq (zav (x * y%m) hz8);have hm3:¬ (m=0):=by omega
 have hm2:(0:Int)<(m:Int):=by omega
 have hwm:m<2147483648→IntKind.u64.wrap ((X:Int) * (Y:Int))=((X * Y:Nat):Int):=fun h=>by
  rw[←Int.natCast_mul];exact jw (X * Y) (Nat.lt_of_lt_of_le (Nat.mul_lt_mul'' (Nat.lt_trans hmx2 h) (Nat.lt_trans hmy2 h)) (by decide))
 have HWM:=Hq hwm;have HWR:=Hq (show ((X * Y:Nat):Int)%(m:Int)=((x * y%m:Nat):Int)from by rw[←Int.natCast_emod,HEQ.out]);obtain⟨s,hs⟩:∃ s,nS x=s:=⟨_,rfl⟩;obtain⟨t,ht⟩:∃ t,nS y=t:=⟨_,rfl⟩;obtain⟨u,hu⟩:∃ u,nS m=u:=⟨_,rfl⟩;rw[hs]at HMX⊢;rw[ht]at HMY⊢;rw[hu]at HSM HMX HMY HMZ⊢;obtain⟨z,hz⟩:∃ z,x * y%m=z:=⟨_,rfl⟩;rw[hz]at HMZ HOF HWR⊢;obtain⟨p,hpp⟩:∃ p,X * Y=p:=⟨_,rfl⟩;rw[hpp]at HMM HMZ HWM HWR;clear hs ht hu hz hpp hp hm hx hy hx2 hy2 hz8 hX hY hwm hmx2 hmy2;by_cases hs31:m<2147483648
 · have hs31':(m:Int)<2147483648:=by omega
   have hwm:=HWM.out hs31;clear HWM;go_enter Tryz.func139,Tryz.ntmps139;go_wp2_with fail;refine(HSM.out _).mono ?_;rintro e w1 ⟨rfl,rfl⟩;go_wp2_with fail;refine(HMX.out _).mono ?_;rintro e w1 ⟨rfl,hb1⟩;have HB1:=Hq hb1;clear hb1;go_wp2_with fail;refine(HSX.out _).mono ?_;rintro e w2 ⟨rfl,rfl⟩;go_wp2_with fail;refine(HMY.out _).mono ?_;rintro e w3 ⟨rfl,hb3⟩;have HB3:=Hq (HB1.out.trans (hb3.mono HB1.out.size));clear hb3;go_wp2_with fail;refine(HSY.out _).mono ?_;rintro e w2 ⟨rfl,rfl⟩;go_wp2_with fail;rw[HWR.out];refine(HOF.out _).mono ?_;rintro e w5 ⟨rfl,hb5⟩;have HB5:=Hq (HB3.out.trans (hb5.mono HB3.out.size));clear hb5;go_wp2;go_ret;exact⟨rfl,HB5.out⟩
 · have hs31':decide ((m:Int)<2147483648)=false:=decide_eq_false (by omega);clear HWM HWR hs31 hm8;go_enter Tryz.func139,Tryz.ntmps139;go_wp2_with fail;refine(HSM.out _).mono ?_;rintro e w1 ⟨rfl,rfl⟩;go_wp2_with fail;refine(HMX.out _).mono ?_;rintro e w1 ⟨rfl,hb1⟩;have HB1:=Hq hb1;clear hb1;go_wp2_with fail;refine(HMY.out _).mono ?_;rintro e w3 ⟨rfl,hb3⟩;have HB3:=Hq (HB1.out.trans (hb3.mono HB1.out.size));clear hb3;go_wp2_with fail;refine(HMM.out _).mono ?_;rintro e w4 ⟨rfl,hb4⟩;have HB4:=Hq (HB3.out.trans (hb4.mono HB3.out.size));clear hb4;go_wp2_with fail;refine(HMZ.out _).mono ?_;rintro e w5 ⟨rfl,hb5⟩;have HB5:=Hq (HB4.out.trans (hb5.mono HB4.out.size));clear hb5;go_wp2;go_ret;exact⟨rfl,HB5.out⟩
theorem zp9(x y m:Nat)(hx8:x<256 ^ 128)(hy8:y<256 ^ 128)(hm8:m<18446744073709551616)(h0:0<m)(w:World):Calls Tryz.prog 84 #[.string (nS x),.string (nS y),.string (nS m)] w (Ret (.tuple #[.string (nS (x * y%m)),.int .i64 0]) w):=by
 have HC:=Hq (fun w=>ze1 w (nS x) (nS y) (nS m) _ rfl (zj.2 hx8) (zj.2 hy8) (zz hm8) (zy h0));have HT:=Hq (zdq x y m hx8 hy8 hm8 h0);obtain⟨s,hs⟩:∃ s,nS x=s:=⟨_,rfl⟩;obtain⟨t,ht⟩:∃ t,nS y=t:=⟨_,rfl⟩;obtain⟨u,hu⟩:∃ u,nS m=u:=⟨_,rfl⟩;rw[hs,ht,hu]at HC HT;rw[hs,ht,hu];clear hs ht hu hx8 hy8 hm8;go_enter Tryz.func84,Tryz.ntmps84;go_wp2_with fail;refine(HC.out w).mono ?_;rintro e w1 ⟨rfl,rfl⟩;go_wp2_with fail;refine(HT.out _).mono ?_;rintro e w2 ⟨rfl,hb2⟩;have HB2:=Hq (((Below.refl w.heap.size w).alloc nlr _).trans (hb2.mono (by simp)));clear hb2;go_wp2;go_ret2;exact⟨rfl,HB2.out⟩
theorem znw(n:Nat)(hn:n<256 ^ 128)(w:World):Calls Tryz.prog 210 #[.string (nS n)] w (RetQ (.int .i64 (blen n)) w):=by
 have hs:=zf.2 hn;have HV:=Hq (zj.2 hn);have HB:=Hq (zfx n (by omega));obtain⟨s,hs'⟩:∃ s,nS n=s:=⟨_,rfl⟩;rw[hs']at hs HV HB⊢;clear hs' hn;go_enter Tryz.func210,Tryz.ntmps210;go_wp2_with fail;refine(zu s (by omega) _).mono ?_;rintro e w1 ⟨rfl,rfl⟩;rw[HV.out];go_wp2_with fail;refine(HB.out _).mono ?_;rintro e w1 ⟨rfl,rfl⟩;go_wp2;go_ret;exact⟨rfl,rfl⟩
theorem zcm{n:Nat}(hn:n<256 ^ 128):blen n≤1024:=zj4 hn
theorem zqe(n i:Nat)(hn:n<256 ^ 128)(hi:i<blen n)(w:World):Calls Tryz.prog 211 #[.string (nS n),.int .i64 i] w (RetQ (.bool (bitB n i)) w):=by
 have hs:=zf.2 hn;have hb:=zcm hn;have HV:=Hq (zj.2 hn);have HB:=Hq (zfx n (by omega));have HO:=Hq (zlu n i (by omega) (by omega));obtain⟨s,hs'⟩:∃ s,nS n=s:=⟨_,rfl⟩;rw[hs']at hs HV HB HO⊢;obtain⟨m,hm⟩:∃ m,blen n=m:=⟨_,rfl⟩;rw[hm]at HB hi hb;have hi2:(i:Int)<(m:Int):=by omega
 have hi0:(0:Int)≤(i:Int):=by omega
 obtain⟨r,hr⟩:∃ r,bitB n i=r:=⟨_,rfl⟩;rw[hr]at HO⊢;clear hs' hn hm hr;go_enter Tryz.func211,Tryz.ntmps211;go_wp2_with fail;refine(zu s (by omega) _).mono ?_;rintro e w1 ⟨rfl,rfl⟩;rw[HV.out];go_wp2_with fail;refine(HB.out _).mono ?_;rintro e w1 ⟨rfl,rfl⟩;go_wp2_with fail;refine(HO.out _).mono ?_;rintro e w1 ⟨rfl,rfl⟩;go_wp2;go_ret;exact⟨rfl,rfl⟩
theorem zo8(a E m:Nat):a ^ E%m * (a ^ E%m)%m=a ^ (2 * E)%m:=by
 rw[←Nat.mul_mod,←Nat.pow_add,Nat.two_mul]
theorem zrt(a E m:Nat):a ^ E%m * a%m=a ^ (E+1)%m:=by
 rw[Nat.mod_mul_mod,Nat.pow_succ]
theorem zqh(a E m:Nat):a ^ E%m * (a%m)%m=a ^ (E+1)%m:=by
 rw[←Nat.mul_mod,Nat.pow_succ]
theorem zg4(a n m:Nat)(ha:a<256 ^ 128)(hn:n<256 ^ 128)(hm8:m<18446744073709551616)(h0:0<m)(w:World):Calls Tryz.prog 187 #[.string (nS a),.string (nS n),.string (nS m)] w (Ret (.string (nS (a ^ n%m))) w):=by
 have hm:=zgg hm8;have HM1:=Hq (zdr 1 m (by decide) hm h0);have HBS:=Hq (znw n hn);have HBT:=Hq (fun i (hi:i<blen n)=>zqe n i hn hi);have HTT:=Hq (fun E=>zdq (a ^ E%m) (a ^ E%m) m (Nat.lt_trans (Nat.mod_lt _ h0) hm) (Nat.lt_trans (Nat.mod_lt _ h0) hm) hm8 h0);have HTA:=Hq (fun E=>zdq (a ^ E%m) a m (Nat.lt_trans (Nat.mod_lt _ h0) hm) ha hm8 h0);have hb:=zcm hn;have HE0:=Hq (show n / 2 ^ blen n=0 from Nat.div_eq_of_lt (zbu n));obtain⟨s,hs⟩:∃ s,nS a=s:=⟨_,rfl⟩;obtain⟨t,ht⟩:∃ t,nS n=t:=⟨_,rfl⟩;obtain⟨u,hu⟩:∃ u,nS m=u:=⟨_,rfl⟩;rw[hs]at HTA⊢;rw[ht]at HBS HBT⊢;rw[hu]at HM1 HTT HTA⊢;obtain⟨B,hB⟩:∃ B,blen n=B:=⟨_,rfl⟩;rw[hB]at HBS HBT hb HE0;clear hs ht hu hB ha hn hm;go_enter Tryz.func187,Tryz.ntmps187;go_wp2_with fail;refine(zav 1 (by decide) _).mono ?_;rintro e w1 ⟨rfl,hb1⟩;have HB1:=Hq hb1;clear hb1;go_wp2_with fail;refine(HM1.out _).mono ?_;rintro e w2 ⟨rfl,hb2⟩;have HB2:=Hq (HB1.out.trans (hb2.mono HB1.out.size));clear hb2;go_wp2_with fail;refine(HBS.out _).mono ?_;rintro e w3 ⟨rfl,rfl⟩;go_wp2;go_loopw [7,8] (fun r i wr=>∃ K:Nat,K≤B∧r=.string (nS (a ^ (n / 2 ^ K)%m))∧i=.int .i64 ((K:Int) - 1)∧Below w.heap.size w wr) (fun _ i _=>(intOf i+1).toNat);case atStart=>exact⟨B,Nat.le_refl _,by rw[HE0.out,Nat.pow_zero],by go_num,HB2.out⟩
 case round =>
  obtain⟨K,hK,rfl,rfl,hBW⟩:=hrel;have HBW:=Hq hBW;clear hBW;by_cases hlt:0<K
  · obtain⟨e,rfl⟩:∃ e,K=e+1:=⟨K - 1,by omega⟩;rw[show ((e+1:Nat):Int) - 1=(e:Int)from by omega];have he0:(0:Int)≤(e:Int):=by omega
    obtain⟨β,hβ,hβ1,hβ0,hup⟩:=zir n e;have HUP:=Hq hup;have HB1':=Hq hβ1;have HB0':=Hq hβ0;clear hup hβ1 hβ0;obtain⟨E,hE⟩:∃ E,n / 2 ^ (e+1)=E:=⟨_,rfl⟩;rw[hE]at HUP⊢;clear hE;have HTE:=Hq (HTT.out E);rw[zo8]at HTE;have HTF:=Hq (HTA.out (2 * E));rw[zrt]at HTF;go_wp2_with fail;refine(HTE.out _).mono ?_;rintro ev w4 ⟨rfl,hb4⟩;have HB4:=Hq (HBW.out.trans (hb4.mono HBW.out.size));clear hb4;go_wp2_with fail;refine(HBT.out e (by omega) _).mono ?_;rintro ev w5 ⟨rfl,rfl⟩;by_cases hbit:bitB n e=true
    · have HBE:=Hq (HB1'.out hbit);rw[hbit];clear hbit;go_wp2_with fail;refine(HTF.out _).mono ?_;rintro ev w6 ⟨rfl,hb6⟩;have HB6:=Hq (HB4.out.trans (hb6.mono HB4.out.size));clear hb6;go_wp2;go_roundw;case rel=>exact⟨e,by omega,by rw[HUP.out,HBE.out],by go_num,HB6.out⟩
      case measure=>simp[intOf]<;>omega
    · rw[Bool.not_eq_true]at hbit;have HBE:=Hq (HB0'.out hbit);rw[hbit];clear hbit;go_wp2;go_roundw;case rel=>exact⟨e,by omega,by rw[HUP.out,HBE.out,Nat.add_zero],by go_num,HB4.out⟩
      case measure=>simp[intOf]<;>omega
  · obtain rfl:K=0:=by omega
    have hneg:((0:Nat):Int) - 1 = -1:=rfl;rw[hneg,Nat.pow_zero,Nat.div_one];go_wp2;go_ret;exact⟨rfl,HBW.out⟩
theorem zqa(x n m:Nat)(hx8:x<256 ^ 128)(hy8:n<256 ^ 128)(hm8:m<18446744073709551616)(h0:0<m)(w:World):Calls Tryz.prog 185 #[.string (nS x),.string (nS n),.string (nS m)] w (Ret (.tuple #[.string (nS (x ^ n%m)),.int .i64 0]) w):=by
 have HC:=Hq (fun w=>ze1 w (nS x) (nS n) (nS m) _ rfl (zj.2 hx8) (zj.2 hy8) (zz hm8) (zy h0));have HT:=Hq (zg4 x n m hx8 hy8 hm8 h0);obtain⟨s,hs⟩:∃ s,nS x=s:=⟨_,rfl⟩;obtain⟨t,ht⟩:∃ t,nS n=t:=⟨_,rfl⟩;obtain⟨u,hu⟩:∃ u,nS m=u:=⟨_,rfl⟩;rw[hs,ht,hu]at HC HT;rw[hs,ht,hu];clear hs ht hu hx8 hy8 hm8;go_enter Tryz.func185,Tryz.ntmps185;go_wp2_with fail;refine(HC.out w).mono ?_;rintro e w1 ⟨rfl,rfl⟩;go_wp2_with fail;refine(HT.out _).mono ?_;rintro e w2 ⟨rfl,hb2⟩;have HB2:=Hq (((Below.refl w.heap.size w).alloc nlr _).trans (hb2.mono (by simp)));clear hb2;go_wp2;go_ret2;exact⟨rfl,HB2.out⟩
end Go.Proofs.YtkfgdcgmlobhfaaGreat

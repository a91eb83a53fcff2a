import Derived.Test.YtppbcopnfankcaaGreatQNaE
set_option linter.unusedVariables false
set_option linter.unusedSimpArgs false
namespace Go.Proofs.YtppbcopnfankcaaGreat
set_option maxRecDepth 100000
set_option maxHeartbeats 4000000
open Go.RowKit
def zi(n:Nat):Array Value:=madeCells #[.int .i64 0] n
theorem zqi(n:Nat):(zi n).size=n:=size_madeCells _ _
theorem zut:(Tryz.prog.info? 3).map (fun i=>(i.zero,i.size,i.bytes))=some (some (.int .i64 0),1,8):=by kernel_rfl
theorem zfn(n:Nat)(hn:n≤1000000)(w:World):(Instr.makeSlice 261 (.int .i64 n) (.int .i64 n)).run Tryz.prog w=.ok (.slice (some ⟨w.heap.size,0,none⟩) n n) (w.alloc (.cells (zi n) 3)):=by
 obtain⟨i0,hi,hz0,hz1,hz2⟩:=info_parts zut;have h:=run_make (P:=Tryz.prog) w 261 3 i0 (.int .i64 0) Tryz.underlying261 hi hz0 .i64 .i64 (n:Int) (n:Int) (by omega) (Int.le_refl _) (by rw[hz2];omega) (by omega);rw[h,hz1,Int.toNat_natCast,Nat.mul_one];rfl
def ColB(w:World)(B n:Nat)(f:Nat→Nat):Prop:=∃ cur:Array Value,w.heap[B]? =some (.cells cur 3 (0,0))∧cur.size=n∧∀ j,j<n→cur[j]? =some (.int .i64 (f j))
theorem ColB.start{w:World}(n:Nat):ColB (w.alloc (.cells (zi n) 3)) w.heap.size n (fun _=>0):=by
 refine⟨_,heap_alloc_new _ _,zqi n,fun j h=>?_⟩;unfold zi madeCells;rw[Array.getElem?_map,Array.getElem?_range,if_pos h];simp[Nat.mod_one]
theorem ColB.cell{w:World}{B n:Nat}{f:Nat→Nat}(h:ColB w B n f){k:Nat}(hk:k<n):w.cell? ⟨B,k,none⟩=some (.int .i64 (f k)):=by
 obtain⟨cur,h1,h2,h3⟩:=h;rw[Lib.cell_of_heap h1];exact h3 k hk
theorem ColB.free{w:World}{B n:Nat}{f:Nat→Nat}(h:ColB w B n f)(k:Nat):w.frozen? ⟨B,k,none⟩=false:=by
 obtain⟨cur,h1,h2,h3⟩:=h;exact Lib.frozen_of_heap h1 k
theorem ColB.set{w:World}{B n p c:Nat}{f:Nat→Nat}(h:ColB w B n f):ColB (w.setCell ⟨B,p,none⟩ (.int .i64 (c:Int))) B n (fun j=>if j=p then c else f j):=by
 obtain⟨cur,h1,h2,h3⟩:=h;refine⟨_,zl h1 _,by rw[Array.size_setIfInBounds,h2],fun j hj=>?_⟩;rw[Array.getElem?_setIfInBounds];by_cases e:j=p
 · subst e;rw[if_pos rfl,if_pos (by omega)];simp
 · rw[if_neg (by omega)];simp only[if_neg e];exact h3 j hj
theorem ColB.drew{w:World}{B n:Nat}{f:Nat→Nat}(h:ColB w B n f):ColB w.drew B n f:=h
theorem ColB.kept{w w':World}{K B n:Nat}{f:Nat→Nat}(h:ColB w B n f)(hb:Below K w w')(hB:B<K):ColB w' B n f:=by
 obtain⟨cur,h1,h2,h3⟩:=h;exact⟨cur,by rw[←h1];exact hb.block _ hB,h2,h3⟩
def cs(f:Nat→Nat):Nat→Nat→Nat
 | 0,_=>0
 | n+1,i=>f i+256 * cs f n (i+1)
theorem zxr(n i:Nat):cs (fun _=>0) n i=0:=by
 induction n generalizing i with
 | zero=>rfl
 | succ n IH=>simp[cs,IH]
theorem zzg(f:Nat→Nat)(v n i p:Nat):cs (fun j=>if j=p then f p+v else f j) n i=cs f n i+(if i≤p∧p<i+n then v * 256 ^ (p - i)else 0):=by
 induction n generalizing i with
 | zero=>rw[if_neg (by omega)];rfl
 | succ n IH =>
  simp only[cs];rw[IH];by_cases e:i=p
  · subst e;rw[if_pos rfl,if_neg (by omega),if_pos (by omega),Nat.sub_self];omega
  · rw[if_neg e];by_cases h:i+1≤p∧p<i+1+n
    · rw[if_pos h,if_pos (by omega),show p - i=p - (i+1)+1 from by omega,Nat.pow_succ,←Nat.mul_assoc];omega
    · rw[if_neg h,if_neg (by omega)];omega
theorem znv(x i:Nat):x%256 ^ (i+1)=x%256 ^ i+256 ^ i * dig x i:=by
 rw[Nat.mod_pow_succ];rfl
theorem zti{x y i j S:Nat}(h:S=x%256 ^ i * y+dig x i * 256 ^ i * (y%256 ^ j)):S+dig x i * dig y j * 256 ^ (i+j)=x%256 ^ i * y+dig x i * 256 ^ i * (y%256 ^ (j+1)):=by
 rw[h,znv y j,Nat.pow_add,Nat.mul_add (dig x i * 256 ^ i),Nat.add_assoc];congr 2;rw[Nat.mul_mul_mul_comm,Nat.mul_comm (dig y j)]
theorem zwe{x y i:Nat}:x%256 ^ i * y+dig x i * 256 ^ i * y=x%256 ^ (i+1) * y:=by
 rw[znv,Nat.add_mul,Nat.mul_comm (dig x i)]
theorem zu9{V f r q i:Nat}(h:V / 256 ^ i=f+256 * r+q):V / 256 ^ (i+1)=r+(f+q) / 256∧dig V i=(f+q)%256:=by
 unfold dig;rw[Nat.pow_succ,←Nat.div_div_eq_div_mul,h];omega
theorem zg1(x y:Nat)(hs1:(nS x).size≤200)(hs2:(nS y).size≤200)(hlg:8<(nS x).size+(nS y).size)(w:World):Calls Tryz.prog 269 #[.string (nS x),.string (nS y)] w (Ret (.string (nS (x * y))) w):=by
 have hmx:x<256 ^ (nS x).size:=ze.1 nlr;have hmy:y<256 ^ (nS y).size:=ze.1 nlr;obtain⟨s,hs⟩:=nm (nS x);obtain⟨t,ht⟩:=nm (nS y);rw[hs]at hs1 hmx hlg⊢;rw[ht]at hs2 hmy hlg⊢;have HS:=Hq hs;have HT:=Hq ht;have HX:=Hq (show (nS x).size≤1000 from by rw[hs];omega);have HY:=Hq (show (nS y).size≤1000 from by rw[ht];omega);clear hs ht;obtain⟨a,ha⟩:=nm (s.size);obtain⟨b,hb⟩:=nm (t.size);rw[ha]at hs1 hmx hlg;rw[hb]at hs2 hmy hlg;have HMX:=Hq hmx;have HMY:=Hq hmy;have HXY:=Hq (show x * y<256 ^ (a+b)from by rw[Nat.pow_add];exact Nat.mul_lt_mul'' hmx hmy);clear hmx hmy;have hlg2:¬ ((a:Int)+(b:Int)≤8):=by omega
 have hmk:=fun(w:World)=>zfn (a+b+1) (by omega) w;have hmb:=fun(w:World)=>xi (a+b) (by omega) w;simp only[Int.natCast_add,Int.natCast_one]at hmk hmb;go_enter Tryz.func269,Tryz.ntmps269;go_wp2;clear hmk;go_loopw [7] (fun i wr=>∃(k:Nat) (f:Nat→Nat),k≤a∧i=.int .i64 k∧cs f (a+b+1) 0=x%256 ^ k * y∧(∀ j,f j≤13005000 * k)∧ColB wr w.heap.size (a+b+1) f∧Below w.heap.size w wr) (fun i _=>a - (intOf i).toNat);case atStart=>exact⟨0,fun _=>0,Nat.zero_le _,rfl,by rw[zxr,Nat.pow_zero,Nat.mod_one,Nat.zero_mul],fun _=>Nat.zero_le _,ColB.start _,(blr).alloc nlr _⟩
 case round =>
  obtain⟨k,f,hk,rfl,hcs,hfb,hC,hB⟩:=hrel;have HC:=Hq hC;have HB:=Hq hB;have HCS:=Hq hcs;have HFB:=Hq hfb;clear hC hB hcs hfb;by_cases hlt:k<a
  · have HD:=Hq (zfg x k HX.out);rw[HS.out]at HD;have hd1:=xk x k;obtain⟨d,hde⟩:=nm (dig x k);have HDE:=Hq hde;rw[hde]at hd1 HD;clear hde;go_wp2;go_loopw [8] (fun i wr=>∃(j:Nat) (f:Nat→Nat),j≤b∧i=.int .i64 j∧cs f (a+b+1) 0=x%256 ^ k * y+dig x k * 256 ^ k * (y%256 ^ j)∧(∀ p,f p≤13005000 * k+65025 * j)∧ColB wr w.heap.size (a+b+1) f∧Below w.heap.size w wr) (fun i _=>b - (intOf i).toNat);case atStart=>exact⟨0,f,Nat.zero_le _,rfl,by rw[HCS.out,Nat.pow_zero,Nat.mod_one,Nat.mul_zero,Nat.add_zero],fun p=>by have:=HFB.out p;omega,HC.out,HB.out⟩
    case round =>
     obtain⟨j,f,hj,rfl,hcs,hfb,hC,hB⟩:=hrel;have HC:=Hq hC;have HB:=Hq hB;have HCS:=Hq hcs;have HFB:=Hq hfb;clear hC hB hcs hfb;by_cases hlt2:j<b
     · have HE:=Hq (zfg y j HY.out);rw[HT.out]at HE;have hd2:=xk y j;obtain⟨e2,hee⟩:=nm (dig y j);have HEE:=Hq hee;rw[hee]at hd2 HE;clear hee;obtain⟨p,hp⟩:=nm (k+j);have hpi:(k:Int)+(j:Int)=(p:Int):=by omega
       have hpn:p<a+b+1:=by omega
       have hpw:IntKind.i64.wrap (p:Int)=(p:Int):=by rw[IntKind.wrap_i64];omega
       have hp0:(0:Int)≤(p:Int):=by omega
       have hp1:(p:Int)<(a:Int)+(b:Int)+1:=by omega
       have c0:=HC.out.drew.cell hpn;have hf0:=HC.out.drew.free p;have hfv:=HFB.out p;obtain⟨v,hv⟩:=nm (f p);rw[hv]at c0 hfv;have HV:=Hq hv;obtain⟨m,hm⟩:=nm (d * e2);have hmi:(d:Int) * (e2:Int)=(m:Int):=by rw[←hm];simp
       have hm9:m≤65025:=(by rw[←hm];exact Nat.mul_le_mul (show d≤255 by omega) (show e2≤255 by omega));have HP:=Hq hp;have HM:=Hq hm;clear hv hm hp;obtain⟨wd,hwd⟩:=nm (wr.drew);rw[hwd]at c0 hf0;go_wp2;refine za 15 (Eq wd) (by kernel_rfl) ?_;rw[hwd];refine qPs 0 15 rfl ?_;refine qPs 1 14 rfl ?_;refine qPs 2 13 rfl ?_;refine qPs 3 12 rfl ?_;refine qPs 4 11 rfl ?_;refine qTs 5 10 rfl (fun w' hS'=>((hS'▸c0))) ?_;refine qPs 6 9 rfl ?_;refine qPs 7 8 rfl ?_;refine qPs 9 7 rfl ?_;refine qPs 10 6 rfl ?_;refine oO 8 5 ?_;intro K8 hK8;go_wp2_with fail;refine(HD.out _).mono ?_;rintro e w1 ⟨rfl,rfl⟩;go_wp2;refine hK8 _ _ (by rfl) ?_;clear hK8;intro hS_11_8;refine oO 11 4 ?_;intro K11 hK11;go_wp2_with fail;refine(HE.out _).mono ?_;rintro e w1 ⟨rfl,rfl⟩;go_wp2;refine hK11 _ _ (by rfl) ?_;clear hK11;intro hS_11_11;refine qPs 12 3 hS_11_11 ?_;refine qPs 13 2 hS_11_11 ?_;refine qPs 14 1 hS_11_11 ?_;refine oT 15 0 ?_;intro K15 hK15;go_wp2;refine hK15 _ _ ?_;clear hK15;refine wDn ?_;go_wp2;go_roundw;case rel =>
        refine⟨j+1,fun q=>if q=p then f p+m else f q,by omega,by go_num,?_,fun q=>?_,?_,?_⟩
        · rw[zzg,if_pos (by omega),HCS.out,←HM.out,←HDE.out,←HEE.out,←HP.out,Nat.sub_zero];exact zti rfl
        · have h1:=HFB.out q;have h2:=HFB.out p;by_cases e:q=p
          · simp only[if_pos e];omega
          · simp only[if_neg e];omega
        · rw[←hwd,show (v:Int)+(m:Int)=((f p+m:Nat):Int)from by rw[HV.out];omega];exact HC.out.drew.set
        · rw[←hwd];exact(HB.out.drew).setCell (p:=⟨w.heap.size,p,none⟩) nlr _
       case measure=>simp[intOf];omega
     · obtain rfl:j=b:=by omega
       have HROW:=Hq (show x%256 ^ k * y+dig x k * 256 ^ k * (y%256 ^ j)=x%256 ^ (k+1) * y from by rw[Nat.mod_eq_of_lt HMY.out];exact zwe);go_wp2;go_roundw;case rel=>exact⟨k+1,f,by omega,by go_num,by rw[HCS.out,HROW.out],fun q=>by have:=HFB.out q;omega,HC.out,HB.out⟩
       case measure=>simp[intOf];omega
  · obtain rfl:k=a:=by omega
    have HV:=Hq (show cs f (k+b+1) 0=x * y from by rw[HCS.out,Nat.mod_eq_of_lt HMX.out]);have hgb:w.heap.size<wr.heap.size:=(by obtain⟨cur,h1,_⟩:=HC.out;exact zn h1);go_wp2;go_loopw [10,11] (fun c i wq=>∃(z q:Nat),z≤k+b∧i=.int .i64 z∧c=.int .i64 q∧q≤13005000 * k∧x * y / 256 ^ z=cs f (k+b+1 - z) z+q∧OutB wq wr.heap.size (k+b) z (x * y)∧Below wr.heap.size wr wq) (fun _ i _=>k+b - (intOf i).toNat);case atStart=>exact⟨0,0,Nat.zero_le _,rfl,rfl,Nat.zero_le _,by rw[Nat.pow_zero,Nat.div_one,Nat.sub_zero,Nat.add_zero,HV.out],OutB.start _ _,(blr).alloc nlr _⟩
    case round =>
     obtain⟨z,q,hz,rfl,rfl,hq,hdiv,hO,hBq⟩:=hrel;have HO:=Hq hO;have HBQ:=Hq hBq;have HDV:=Hq hdiv;clear hO hBq hdiv;by_cases hlt3:z<k+b
     · obtain⟨j,hj⟩:∃ j,j+z+1=k+b:=⟨k+b - z - 1,by omega⟩;have hix:(k:Int)+(b:Int) - 1 - (z:Int)=(j:Int):=by omega
       have hjm:j<k+b:=by omega
       have c0:=(HC.out.kept HBQ.out hgb).cell (k:=z) (by omega);obtain⟨u,hu⟩:=HO.out.cell hjm;have hf:=HO.out.free j;have hfz:=HFB.out z;have hst:=zu9 (V:=x * y) (f:=f z) (r:=cs f (j+1) (z+1)) (q:=q) (i:=z) (by
        rw[HDV.out,show k+b+1 - z=j+1+1 from by omega];simp only[cs]
        )
       obtain⟨v,hv⟩:=nm (f z);rw[hv]at c0 hfz hst;have HV2:=Hq hv;have HST:=Hq hst;have HJ:=Hq hj;clear hv hst hj;go_wp2;refine⟨⟨z+1,(v+q) / 256,by omega,by go_num,by go_num,by omega,?_,?_,HBQ.out.setCell (p:=⟨_,j,none⟩) nlr _⟩,by simp[intOf];omega⟩
       · rw[HST.out.1,show k+b+1 - (z+1)=j+1 from by have:=HJ.out;omega]
       · have h1:=HO.out.step (k:=j) (by have:=HJ.out;omega);rw[HST.out.2]at h1;rw[show ((v:Int)+(q:Int))%256=(((v+q)%256:Nat):Int)from by omega];exact h1
     · obtain rfl:z=k+b:=by omega
       have HBY:=Hq (HO.out.bytes (by omega));go_wp2_with fail;refine(zbu _ _ _ _ _ HBY.out).mono ?_;rintro e w1 ⟨rfl,rfl⟩;rw[qi HXY.out];go_wp2;go_ret;exact⟨rfl,HB.out.trans (HBQ.out.mono (by omega))⟩
theorem zfh(x y:Nat)(hlg:(nS x).size+(nS y).size≤8)(w:World):Calls Tryz.prog 269 #[.string (nS x),.string (nS y)] w (Ret (.string (nS (x * y))) w):=by
 have hmx:x<256 ^ (nS x).size:=ze.1 nlr;have hmy:y<256 ^ (nS y).size:=ze.1 nlr;have h8:∀ k:Nat,k≤8→(256:Nat) ^ k≤18446744073709551616:=fun k hk=>Nat.le_trans (Nat.pow_le_pow_right (by decide) hk) (by decide);have hx8:x<18446744073709551616:=Nat.lt_of_lt_of_le hmx (h8 _ (by omega));have hy8:y<18446744073709551616:=Nat.lt_of_lt_of_le hmy (h8 _ (by omega));have hxy:x * y<18446744073709551616:=Nat.lt_of_lt_of_le (Nat.mul_lt_mul'' hmx hmy) (by rw[←Nat.pow_add];exact h8 _ hlg);have HXY:=Hq hxy;have HN1:=Hq (zcw x hx8);have HN2:=Hq (zcw y hy8);have hwm:IntKind.u64.wrap ((x:Int) * (y:Int))=((x * y:Nat):Int):=by rw[←Int.natCast_mul];exact js (x * y) hxy
 obtain⟨z,hz⟩:=nm (x * y);rw[hz]at hwm HXY⊢;obtain⟨s,hs⟩:=nm (nS x);obtain⟨t,ht⟩:=nm (nS y);rw[hs]at HN1 hlg⊢;rw[ht]at HN2 hlg⊢;clear hs ht hmx hmy h8 hx8 hy8 hxy hz;have hsz:(s.size:Int)+(t.size:Int)≤8:=by omega
 go_enter Tryz.func269,Tryz.ntmps269;go_wp2_with fail;refine(HN1.out _).mono ?_;rintro e w1 ⟨rfl,rfl⟩;go_wp2_with fail;refine(HN2.out _).mono ?_;rintro e w1 ⟨rfl,rfl⟩;go_wp2_with fail;refine(zdq z HXY.out _).mono ?_;rintro e w3 ⟨rfl,hb3⟩;have HB3:=Hq hb3;clear hb3;go_wp2;go_ret;exact⟨rfl,HB3.out⟩
theorem zre(x y:Nat)(hs1:(nS x).size≤200)(hs2:(nS y).size≤200)(w:World):Calls Tryz.prog 269 #[.string (nS x),.string (nS y)] w (Ret (.string (nS (x * y))) w):=by
 by_cases h:(nS x).size+(nS y).size≤8
 · exact zfh x y h w
 · exact zg1 x y hs1 hs2 (by omega) w
theorem zwr(x y:Nat)(hx:x<256 ^ 128)(hy:y<256 ^ 128)(w:World):Calls Tryz.prog 240 #[.string (nS x),.string (nS y)] w (Ret (fitR (x * y)) w):=by
 have hs1:=ze.2 hx;have hs2:=ze.2 hy;have HV1:=Hq (zj.2 hx);have HV2:=Hq (zj.2 hy);have HT:=Hq (zre x y (by omega) (by omega));have HF:=Hq (zwq (x * y) (by
  have : (nS (x * y)).size≤128+128:=ze.2 (by rw[Nat.pow_add];exact Nat.mul_lt_mul'' hx hy)
  omega))
 obtain⟨s,hs⟩:=nm (nS x);obtain⟨t,ht⟩:=nm (nS y);rw[hs]at hs1 HV1 HT⊢;rw[ht]at hs2 HV2 HT⊢;clear hs ht hx hy;obtain⟨r1,r2,hr⟩:=zln (x * y);rw[hr]at HF⊢;clear hr;go_enter Tryz.func240,Tryz.ntmps240;go_wp2_with fail;refine(zo s (by omega) _).mono ?_;rintro e w1 ⟨rfl,rfl⟩;rw[HV1.out];go_wp2_with fail;refine(zo t (by omega) _).mono ?_;rintro e w1 ⟨rfl,rfl⟩;rw[HV2.out];go_wp2_with fail;refine(HT.out _).mono ?_;rintro e w3 ⟨rfl,hb3⟩;have HB3:=Hq hb3;clear hb3;go_wp2_with fail;refine(HF.out _).mono ?_;rintro e w4 ⟨rfl,rfl⟩;go_wp2;go_ret2;exact⟨rfl,HB3.out⟩
def vN(f:Nat→Nat):Nat→Nat
 | 0=>0
 | n+1=>vN f n+f n * 256 ^ n
theorem zl4{f:Nat→Nat}:∀ {n:Nat},(∀ i,i<n→f i<256)→vN f n<256 ^ n
 | 0,_=>Nat.one_pos
 | n+1,h=>by
  have h1:=zl4 (n:=n) (fun i hi=>h i (by omega));have h2:f n+1≤256:=h n (by omega);have h3:=Nat.mul_le_mul_right (256 ^ n) h2;unfold vN;rw[Nat.pow_succ];rw[Nat.add_mul]at h3;omega
theorem za1{f g:Nat→Nat}:∀ {n:Nat},(∀ i,i<n→f i=g i)→vN f n=vN g n
 | 0,_=>rfl
 | n+1,h=>by unfold vN;rw[za1 (n:=n) (fun i hi=>h i (by omega)),h n (by omega)]
theorem zj4(v:Nat):∀ n,vN (dig v) n=v%256 ^ n
 | 0=>by rw[Nat.pow_zero,Nat.mod_one];rfl
 | n+1=>by
  unfold vN;rw[zj4 v n,Nat.pow_succ,Nat.mod_mul,dig,Nat.mul_comm (256 ^ n)]
theorem q8(f:Nat→Nat)(j:Nat):∀ k,vN f (j+k)=vN f j+256 ^ j * vN (fun i=>f (j+i)) k
 | 0=>rfl
 | k+1=>by
  show vN f (j+k)+f (j+k) * 256 ^ (j+k)=_+256 ^ j * (vN (fun i=>f (j+i)) k+f (j+k) * 256 ^ k);rw[q8 f j k,Nat.pow_add,Nat.mul_add,Nat.add_assoc];congr 1;congr 1;rw[Nat.mul_left_comm]
theorem zm8{f:Nat→Nat}{j k:Nat}(h:∀ i,i<j→f i<256):vN f (j+k) / 256 ^ j=vN (fun i=>f (j+i)) k:=by
 rw[q8,Nat.add_mul_div_left _ _ (Nat.pow_pos (by decide)),Nat.div_eq_of_lt (zl4 h),Nat.zero_add]
theorem zv1{f:Nat→Nat}{n:Nat}(h:∀ i,i<n→f i<256){i:Nat}(hi:i<n):dig (vN f n) i=f i:=by
 obtain⟨k,rfl⟩:∃ k,n=i+(1+k):=⟨n - i - 1,by omega⟩;unfold dig;rw[zm8 (fun j hj=>h j (by omega)),q8];show (0+f (i+0) * 256 ^ 0+256 ^ 1 * _)%256=_;rw[Nat.pow_one,Nat.add_mul_mod_self_left,Nat.zero_add,Nat.pow_zero,Nat.mul_one,Nat.add_zero];exact Nat.mod_eq_of_lt (h i (by omega))
theorem zh2{v s i:Nat}(hs:s≤7):dig (v * 2 ^ s) (i+1)=dig v (i+1) * 2 ^ s%256+dig v i / 2 ^ (8 - s):=by
 unfold dig;have e:v * 2 ^ s / 256 ^ (i+1)=v / 256 ^ i / 2 ^ (8 - s):=by
  rw[Nat.pow_succ,show (256:Nat)=2 ^ (8 - s) * 2 ^ s from by rw[←Nat.pow_add,show 8 - s+s=8 from by omega],←Nat.mul_assoc,Nat.mul_div_mul_right _ _ (Nat.pow_pos (by decide)),Nat.div_div_eq_div_mul]
 have e2:v / 256 ^ (i+1)=v / 256 ^ i / 256:=by rw[Nat.pow_succ,Nat.div_div_eq_div_mul]
 rw[e,e2];generalize v / 256 ^ i=z
 match s,hs with
 | 0,_=>simp only[Nat.pow_zero,Nat.mul_one];omega
 | 1,_=>simp only[Nat.reducePow,Nat.reduceSub];omega
 | 2,_=>simp only[Nat.reducePow,Nat.reduceSub];omega
 | 3,_=>simp only[Nat.reducePow,Nat.reduceSub];omega
 | 4,_=>simp only[Nat.reducePow,Nat.reduceSub];omega
 | 5,_=>simp only[Nat.reducePow,Nat.reduceSub];omega
 | 6,_=>simp only[Nat.reducePow,Nat.reduceSub];omega
 | 7,_=>simp only[Nat.reducePow,Nat.reduceSub];omega
theorem zgd{v s:Nat}:dig (v * 2 ^ s) 0=dig v 0 * 2 ^ s%256:=by
 unfold dig;rw[Nat.pow_zero,Nat.div_one,Nat.div_one,Nat.mod_mul_mod]
theorem zu6{v s i:Nat}(hs:s≤7):dig (v / 2 ^ s) i=(dig v i+dig v (i+1) * 256) / 2 ^ s%256:=by
 unfold dig;have e2:v / 256 ^ (i+1)=v / 256 ^ i / 256:=by rw[Nat.pow_succ,Nat.div_div_eq_div_mul]
 rw[e2,Nat.div_div_eq_div_mul,Nat.mul_comm,←Nat.div_div_eq_div_mul];generalize v / 256 ^ i=z
 match s,hs with
 | 0,_=>simp only[Nat.pow_zero,Nat.div_one];omega
 | 1,_=>simp only[Nat.reducePow];omega
 | 2,_=>simp only[Nat.reducePow];omega
 | 3,_=>simp only[Nat.reducePow];omega
 | 4,_=>simp only[Nat.reducePow];omega
 | 5,_=>simp only[Nat.reducePow];omega
 | 6,_=>simp only[Nat.reducePow];omega
 | 7,_=>simp only[Nat.reducePow];omega
theorem zuw{u d:Nat→Nat}{n:Nat}(hn:0<n)(hu:∀ i,i<n+1→u i<256)(hd:0<d (n - 1))(h:vN u (n+1)<256 * vN d n):vN u (n+1) / vN d n≤min ((u n * 256+u (n - 1)) / d (n - 1)) 255:=by
 obtain⟨m,rfl⟩:∃ m,n=m+1:=⟨n - 1,by omega⟩;rw[Nat.add_sub_cancel]at *;have hD:0<vN d (m+1):=by omega
 have h1:vN u (m+1+1) / vN d (m+1)<256:=by rw[Nat.div_lt_iff_lt_mul hD];omega
 refine Nat.le_min.2 ⟨?_,by omega⟩;rw[Nat.le_div_iff_mul_le hd];have h2:=Nat.div_mul_le_self (vN u (m+1+1)) (vN d (m+1));generalize vN u (m+1+1) / vN d (m+1)=q at *;have h3:vN u m<256 ^ m:=zl4 (fun i hi=>hu i (by omega));have e1:vN u (m+1+1)=vN u m+(u (m+1) * 256+u m) * 256 ^ m:=by
  show vN u m+u m * 256 ^ m+u (m+1) * 256 ^ (m+1)=_
  rw[Nat.pow_succ];grind
 have e2:vN d (m+1)=vN d m+d m * 256 ^ m:=rfl;rw[e1,e2]at h2;have hP:0<256 ^ m:=Nat.pow_pos (by decide);generalize 256 ^ m=P at *;generalize u (m+1) * 256+u m=U at *;have h4:q * d m * P<(U+1) * P:=by
  have : q * (vN d m+d m * P)=q * vN d m+q * d m * P:=by rw[Nat.mul_add,Nat.mul_assoc]
  rw[Nat.add_mul];omega
 have:=Nat.lt_of_mul_lt_mul_right h4;omega
theorem zw6{x g d r c b b2 P V1 V2 V3:Nat}(h:x+(c+g * d)%256+b=r+256 * b2)(ih:V1+g * V2=V3+(c+b) * P):(V1+x * P)+g * (V2+d * P)=(V3+r * P)+((c+g * d) / 256+b2) * (256 * P):=by
 have h2:x+g * d+c+b=r+((c+g * d) / 256+b2) * 256:=by omega
 generalize (c+g * d) / 256=c2 at *
 grind
theorem zxx{x d r c P V1 V2 V3:Nat}(h:x=c+(r+d))(ih:V1+c * P=V3+V2):(V1+x%256 * P)+x / 256 * (256 * P)=(V3+r * P)+(V2+d * P):=by
 have h2:x%256+x / 256 * 256=c+(r+d):=by omega
 generalize x / 256=c2 at *;generalize x%256=c1 at *
 grind
theorem zuo{f f':Nat→Nat}{A D n j L:Nat}(hf:∀ i,i<L→f i<256)(hL:j+n<L)(hD:0<D)(hDn:D<256 ^ n)(hV:vN f L=A%(D * 256 ^ (j+1)))(hlo:∀ k,k<j→f' k=f k)(hhi:∀ k,j+n<k→f' k=f k)
 (hw:vN (fun i=>f' (j+i)) (n+1)=vN (fun i=>f (j+i)) (n+1)%D):vN f' L=A%(D * 256 ^ j):=by
 obtain⟨k,rfl⟩:∃ k,L=j+((n+1)+k):=⟨L - j - n - 1,by omega⟩;have hPj:0<256 ^ j:=Nat.pow_pos (by decide);have hlt:vN f (j+((n+1)+k))<256 ^ (j+(n+1)):=(by rw[hV];have h1:A%(D * 256 ^ (j+1))<D * 256 ^ (j+1):=Nat.mod_lt _ (Nat.mul_pos hD (Nat.pow_pos (by decide)));have h2:D * 256 ^ (j+1)≤256 ^ n * 256 ^ (j+1):=Nat.mul_le_mul_right _ (Nat.le_of_lt hDn);rw[←Nat.pow_add]at h2;rw[show j+(n+1)=n+(j+1)from by omega];omega);have hup:vN (fun i=>f (j+((n+1)+i))) k=0:=(by have h1:=zm8 (f:=f) (j:=j+(n+1)) (k:=k) (fun i hi=>hf i (by omega));rw[Nat.add_assoc,Nat.div_eq_of_lt hlt]at h1;rw[h1];exact za1 (fun i _=>congrArg f (by omega)));have hup':vN (fun i=>f' (j+((n+1)+i))) k=0:=by rw[←hup];exact za1 (fun i _=>hhi _ (by omega))
 have e1:vN f' (j+((n+1)+k))=vN f j+256 ^ j * (vN (fun i=>f (j+i)) (n+1)%D):=(by rw[q8,q8,hup',Nat.mul_zero,Nat.add_zero,hw,za1 hlo]);have e2:vN f (j+((n+1)+k))=vN f j+256 ^ j * vN (fun i=>f (j+i)) (n+1):=(by rw[q8,q8 (fun i=>f (j+i)),hup,Nat.mul_zero,Nat.add_zero]);have hl:vN f j<256 ^ j:=zl4 (fun i hi=>hf i (by omega));rw[e1];have e3:A%(D * 256 ^ j)=(A%(D * 256 ^ (j+1)))%(D * 256 ^ j):=(by rw[Nat.pow_succ,←Nat.mul_assoc,Nat.mod_mul_right_mod]);rw[e3,←hV,e2];generalize vN (fun i=>f (j+i)) (n+1)=U;rw[Nat.mul_comm D,Nat.mod_mul,Nat.add_mul_mod_self_left,Nat.mod_eq_of_lt hl,Nat.add_mul_div_left _ _ hPj,Nat.div_eq_of_lt hl,Nat.zero_add]
theorem zup{f:Nat→Nat}{A D n j L:Nat}(hf:∀ i,i<L→f i<256)(hL:j+n<L)(hD:0<D)(hDn:D<256 ^ n)(hV:vN f L=A%(D * 256 ^ (j+1))):vN (fun i=>f (j+i)) (n+1)=vN f L / 256 ^ j∧vN (fun i=>f (j+i)) (n+1)<256 * D∧vN (fun i=>f (j+i)) (n+1) / D=dig (A / D) j:=by
 obtain⟨k,rfl⟩:∃ k,L=j+((n+1)+k):=⟨L - j - n - 1,by omega⟩;have hPj:0<256 ^ j:=Nat.pow_pos (by decide);have h1:vN f (j+((n+1)+k))<D * 256 ^ (j+1):=by rw[hV];exact Nat.mod_lt _ (Nat.mul_pos hD (Nat.pow_pos (by decide)))
 have hlt:vN f (j+((n+1)+k))<256 ^ (j+(n+1)):=(by have h2:D * 256 ^ (j+1)≤256 ^ n * 256 ^ (j+1):=Nat.mul_le_mul_right _ (Nat.le_of_lt hDn);rw[←Nat.pow_add]at h2;rw[show j+(n+1)=n+(j+1)from by omega];omega);have hup:vN (fun i=>f (j+((n+1)+i))) k=0:=(by have h1:=zm8 (f:=f) (j:=j+(n+1)) (k:=k) (fun i hi=>hf i (by omega));rw[Nat.add_assoc,Nat.div_eq_of_lt hlt]at h1;rw[h1];exact za1 (fun i _=>congrArg f (by omega)));have e0:vN f (j+((n+1)+k)) / 256 ^ j=vN (fun i=>f (j+i)) (n+1):=(by rw[zm8 (fun i hi=>hf i (by omega)),q8 (fun i=>f (j+i)),hup,Nat.mul_zero,Nat.add_zero]);have e1:vN (fun i=>f (j+i)) (n+1)<256 * D:=by
  rw[←e0,Nat.div_lt_iff_lt_mul hPj];rw[Nat.pow_succ]at h1
  grind
 refine⟨e0.symm,e1,?_⟩;rw[←e0,hV,Nat.div_div_eq_div_mul,Nat.pow_succ,←Nat.mul_assoc,Nat.mul_comm (256 ^ j) D,Nat.mod_mul_right_div_self];unfold dig;rw[Nat.div_div_eq_div_mul]
theorem zun{A B s n L:Nat}(hnL:n≤L)(hA:A<256 ^ L)(hB:256 ^ (n - 1)≤B)(hn:0<n):A * 2 ^ s=A * 2 ^ s%(B * 2 ^ s * 256 ^ (L - n+1)):=by
 refine(Nat.mod_eq_of_lt ?_).symm;have h1:256 ^ L≤B * 256 ^ (L - n+1):=by
  have:=Nat.mul_le_mul_right (256 ^ (L - n+1)) hB;rw[←Nat.pow_add,show n - 1+(L - n+1)=L from by omega]at this;exact this
 have hP:0<2 ^ s:=Nat.pow_pos (by decide);rw[Nat.mul_right_comm];exact Nat.mul_lt_mul_of_pos_right (by omega) hP
theorem zx0{n j:Nat}(h:j<n):(zi n)[j]? =some (.int .i64 0):=by
 unfold zi;rw[←Array.getElem?_toList,toList_madeCells_one,List.getElem?_replicate,if_pos h]
def RowI(w:World)(B n:Nat)(f:Nat→Nat):Prop:=∃ cur:Array Value,w.heap[B]? =some (.cells cur 3 (0,0))∧cur.size=n∧∀ j,j<n→cur[j]? =some (.int .i64 (f j))
theorem RowI.start{w:World}(n:Nat):RowI (w.alloc (.cells (zi n) 3)) w.heap.size n (fun _=>0):=⟨_,heap_alloc_new _ _,zqi n,fun j h=>zx0 h⟩
theorem RowI.cell{w:World}{B n:Nat}{f:Nat→Nat}(h:RowI w B n f){k:Nat}(hk:k<n):w.cell? ⟨B,k,none⟩=some (.int .i64 (f k)):=by
 obtain⟨cur,h1,h2,h3⟩:=h;rw[Lib.cell_of_heap h1];exact h3 k hk
theorem RowI.free{w:World}{B n:Nat}{f:Nat→Nat}(h:RowI w B n f)(k:Nat):w.frozen? ⟨B,k,none⟩=false:=by
 obtain⟨cur,h1,h2,h3⟩:=h;exact Lib.frozen_of_heap h1 k
theorem RowI.lt{w:World}{B n:Nat}{f:Nat→Nat}(h:RowI w B n f):B<w.heap.size:=by
 obtain⟨cur,h1,_⟩:=h;exact zn h1
def upd(f:Nat→Nat)(k v:Nat):Nat→Nat:=fun j=>if j=k then v else f j
theorem zco(f:Nat→Nat)(k v:Nat):upd f k v k=v:=if_pos rfl
theorem qt(f:Nat→Nat){k v j:Nat}(h:¬ (j=k)):upd f k v j=f j:=if_neg h
theorem RowI.set{w:World}{B n k:Nat}{f:Nat→Nat}(h:RowI w B n f)(v:Nat):RowI (w.setCell ⟨B,k,none⟩ (.int .i64 v)) B n (upd f k v):=by
 obtain⟨cur,h1,h2,h3⟩:=h;refine⟨_,zl h1 _,by rw[Array.size_setIfInBounds,h2],fun j hj=>?_⟩;rw[Array.getElem?_setIfInBounds];by_cases e:k=j
 · subst e;rw[if_pos rfl,if_pos (by omega),zco]
 · rw[if_neg e,qt f (by omega)];exact h3 j hj
theorem RowI.congr{w:World}{B n:Nat}{f g:Nat→Nat}(h:RowI w B n f)(e:∀ j,j<n→f j=g j):RowI w B n g:=by
 obtain⟨cur,h1,h2,h3⟩:=h;exact⟨cur,h1,h2,fun j hj=>by rw[←e j hj];exact h3 j hj⟩
theorem RowI.heap{w w':World}{B n:Nat}{f:Nat→Nat}(h:RowI w B n f)(e:w'.heap[B]? =w.heap[B]?):RowI w' B n f:=by
 obtain⟨cur,h1,h2⟩:=h;exact⟨cur,e.trans h1,h2⟩
def OutH(w:World)(B n j v:Nat):Prop:=∃ cur:Array Value,w.heap[B]? =some (.cells cur 5 (0,0))∧cur.size=n∧∀ k,j≤k→k<n→cur[n - 1 - k]? =some (.int .u8 (dig v k))
theorem OutH.start{w:World}(n v:Nat):OutH (w.alloc (.cells (zb n) 5)) w.heap.size n n v:=⟨_,heap_alloc_new _ _,zl1 n,fun j h h2=>by omega⟩
theorem OutH.cell{w:World}{B n j v:Nat}(h:OutH w B n j v){k:Nat}(hk:k<n):∃ u,w.cell? ⟨B,k,none⟩=some u:=by
 obtain⟨cur,h1,h2,h3⟩:=h;exact⟨_,by rw[Lib.cell_of_heap h1];exact Array.getElem?_eq_getElem (by omega)⟩
theorem OutH.free{w:World}{B n j v:Nat}(h:OutH w B n j v)(k:Nat):w.frozen? ⟨B,k,none⟩=false:=by
 obtain⟨cur,h1,h2,h3⟩:=h;exact Lib.frozen_of_heap h1 k
theorem OutH.step{w:World}{B n j v k:Nat}(h:OutH w B n (j+1) v)(hk:k+1+j=n):OutH (w.setCell ⟨B,k,none⟩ (.int .u8 (dig v j))) B n j v:=by
 obtain⟨cur,h1,h2,h3⟩:=h;refine⟨_,zl h1 _,by rw[Array.size_setIfInBounds,h2],fun i hi hin=>?_⟩;rw[Array.getElem?_setIfInBounds];by_cases e:i=j
 · subst e;rw[if_pos (by omega),if_pos (by omega)]
 · rw[if_neg (by omega)];exact h3 i (by omega) hin
theorem OutH.out{w:World}{B n v:Nat}(h:OutH w B n 0 v):OutB w B n n v:=by
 obtain⟨cur,h1,h2,h3⟩:=h;exact⟨cur,h1,h2,fun j hj=>h3 j (Nat.zero_le _) hj⟩
theorem OutH.lt{w:World}{B n j v:Nat}(h:OutH w B n j v):B<w.heap.size:=by
 obtain⟨cur,h1,_⟩:=h;exact zn h1
theorem OutH.heap{w w':World}{B n j v:Nat}(h:OutH w B n j v)(e:w'.heap[B]? =w.heap[B]?):OutH w' B n j v:=by
 obtain⟨cur,h1,h2⟩:=h;exact⟨cur,e.trans h1,h2⟩
theorem OutB.heap{w w':World}{B n j v:Nat}(h:OutB w B n j v)(e:w'.heap[B]? =w.heap[B]?):OutB w' B n j v:=by
 obtain⟨cur,h1,h2⟩:=h;exact⟨cur,e.trans h1,h2⟩
structure LdS (w0 wr:World) (BD BR BQ n L m Y X j:Nat) (f:Nat→Nat):Prop where
 rD:RowI wr BD n (dig Y)
 rR:RowI wr BR L f
 dR:∀ p,p<L→f p<256
 rQ:OutH wr BQ m j X
 hB:Below w0.heap.size w0 wr
 h1:¬ (BD=BR)
 h2:¬ (BQ=BR)
 h3:w0.heap.size≤BR
 h4:¬ (BD=BQ)
 h5:w0.heap.size≤BQ
theorem LdS.drew{w0 wr:World}{BD BR BQ n L m Y X j:Nat}{f:Nat→Nat}(h:LdS w0 wr BD BR BQ n L m Y X j f):LdS w0 wr.drew BD BR BQ n L m Y X j f:=
 ⟨h.rD.heap rfl,h.rR.heap rfl,h.dR,h.rQ.heap rfl,h.hB.drew,h.h1,h.h2,h.h3,h.h4,h.h5⟩
theorem LdS.setR{w0 wr:World}{BD BR BQ n L m Y X j:Nat}{f:Nat→Nat}(h:LdS w0 wr BD BR BQ n L m Y X j f){k v:Nat}(hv:v<256):LdS w0 (wr.setCell ⟨BR,k,none⟩ (.int .i64 v)) BD BR BQ n L m Y X j (upd f k v):=by
 refine⟨h.rD.heap (heap_setCell_other _ _ _ _ h.h1),h.rR.set v,fun p hp=>?_,h.rQ.heap (heap_setCell_other _ _ _ _ h.h2),h.hB.setCell (p:=⟨BR,k,none⟩) h.h3 _,h.h1,h.h2,h.h3,h.h4,h.h5⟩;by_cases e:p=k
 · subst e;rw[zco];exact hv
 · rw[qt f e];exact h.dR p hp
theorem LdS.setQ{w0 wr:World}{BD BR BQ n L m Y X j:Nat}{f:Nat→Nat}(h:LdS w0 wr BD BR BQ n L m Y X (j+1) f){k:Nat}(hk:k+1+j=m):LdS w0 (wr.setCell ⟨BQ,k,none⟩ (.int .u8 (dig X j))) BD BR BQ n L m Y X j f:=
 ⟨h.rD.heap (heap_setCell_other _ _ _ _ h.h4),h.rR.heap (heap_setCell_other _ _ _ _ (fun e=>h.h2 e.symm)),h.dR,h.rQ.step hk,h.hB.setCell (p:=⟨BQ,k,none⟩) h.h5 _,h.h1,h.h2,h.h3,h.h4,h.h5⟩
structure MsI (n Y g j:Nat) (f f':Nat→Nat) (i c b:Nat):Prop where
 hi:i≤n
 hc:c≤255
 hb:b≤1
 off:∀ p,(p<j∨j+i≤p)→f' p=f p
 eq:vN (fun a=>f' (j+a)) i+g * vN (dig Y) i=vN (fun a=>f (j+a)) i+(c+b) * 256 ^ i
theorem MsI.start{n Y g j:Nat}(f:Nat→Nat):MsI n Y g j f f 0 0 0:=⟨Nat.zero_le _,by decide,by decide,fun _ _=>rfl,by simp[vN]⟩
theorem zqo(f:Nat→Nat)(j i x:Nat):vN (fun a=>upd f (j+i) x (j+a)) (i+1)=vN (fun a=>f (j+a)) i+x * 256 ^ i:=by
 show vN (fun a=>upd f (j+i) x (j+a)) i+upd f (j+i) x (j+i) * 256 ^ i=_;rw[zco,za1 (fun a ha=>qt f (show ¬ (j+a=j+i)by omega))]
theorem MsI.next{n Y g j:Nat}{f f':Nat→Nat}{i c b x b2:Nat}(h:MsI n Y g j f f' i c b)(hin:i<n)(hg:g≤255)(hb2:b2≤1)(hx:x+(c+g * dig Y i)%256+b=f (j+i)+256 * b2):MsI n Y g j f (upd f' (j+i) x) (i+1) ((c+g * dig Y i) / 256) b2:=by
 have hd:=xk Y i;have h1:=h.hc;have h2:g * dig Y i≤255 * 255:=Nat.mul_le_mul hg (by omega);refine⟨hin,by omega,hb2,fun p hp=>?_,?_⟩
 · rw[qt f' (by omega)];exact h.off p (by omega)
 · have h3:=zw6 hx h.eq;rw[zqo,Nat.pow_succ,Nat.mul_comm (256 ^ i) 256];exact h3
structure AbI (n Y j:Nat) (f f':Nat→Nat) (i c:Nat):Prop where
 hi:i≤n
 hc:c≤1
 off:∀ p,(p<j∨j+i≤p)→f' p=f p
 eq:vN (fun a=>f' (j+a)) i+c * 256 ^ i=vN (fun a=>f (j+a)) i+vN (dig Y) i
theorem AbI.start{n Y j:Nat}(f:Nat→Nat):AbI n Y j f f 0 0:=⟨Nat.zero_le _,by decide,fun _ _=>rfl,by simp[vN]⟩
theorem AbI.next{n Y j:Nat}{f f':Nat→Nat}{i c x:Nat}(h:AbI n Y j f f' i c)(hin:i<n)(hf:f (j+i)<256)(hx:x=c+(f (j+i)+dig Y i)):AbI n Y j f (upd f' (j+i) (x%256)) (i+1) (x / 256):=by
 have hd:=xk Y i;have h1:=h.hc;refine⟨hin,by omega,fun p hp=>?_,?_⟩
 · rw[qt f' (by omega)];exact h.off p (by omega)
 · have h3:=zxx hx h.eq;rw[zqo,Nat.pow_succ,Nat.mul_comm (256 ^ i) 256];exact h3
structure TpI (n D U j:Nat) (f f':Nat→Nat) (g:Nat) (tp:Int):Prop where
 hg:g≤255
 ge:U / D≤g
 off:∀ p,(p<j∨j+n≤p)→f' p=f p
 eq:tp * ((256 ^ n:Nat):Int)+((vN (fun a=>f' (j+a)) n:Nat):Int)+((g * D:Nat):Int)=(U:Int)
theorem TpI.start{n Y U g j:Nat}{f f':Nat→Nat}{c b:Nat}(h:MsI n Y g j f f' n c b)(hY:Y<256 ^ n)(hg:g≤255)(hge:U / Y≤g)(hU:U=vN (fun a=>f (j+a)) (n+1)):TpI n Y U j f f' g ((f (j+n):Int) - (c:Int) - (b:Int)):=by
 refine⟨hg,hge,h.off,?_⟩;have h1:=h.eq;rw[zj4,Nat.mod_eq_of_lt hY]at h1;have h2:U=vN (fun a=>f (j+a)) n+f (j+n) * 256 ^ n:=hU;rw[h2];generalize 256 ^ n=P at *;generalize vN (fun a=>f (j+a)) n=V at *;generalize vN (fun a=>f' (j+a)) n=V' at *;generalize g * Y=G at *;have h3:(V':Int)+(G:Int)=(V:Int)+((c:Int)+(b:Int)) * (P:Int):=by exact_mod_cast h1
 push_cast
 grind
theorem TpI.bounds{n D U j:Nat}{f f':Nat→Nat}{g:Nat}{tp:Int}(h:TpI n D U j f f' g tp)(hf:∀ a,a<n→f' (j+a)<256)(hD:D<256 ^ n)(hU:U<256 * D):-257<tp∧tp<256:=by
 have h1:=h.eq;have h2:=zl4 (f:=fun a=>f' (j+a)) (n:=n) hf;have h3:g * D≤255 * D:=Nat.mul_le_mul_right _ h.hg;generalize vN (fun a=>f' (j+a)) n=V at *;generalize g * D=G at *;generalize 256 ^ n=P at *;constructor
 · rcases Int.lt_or_le (-257) tp with h4 | h4
   · exact h4
   · exfalso;have:=Int.mul_le_mul_of_nonneg_right h4 (show (0:Int)≤(P:Int)from Int.natCast_nonneg _);omega
 · rcases Int.lt_or_le tp 256 with h4 | h4
   · exact h4
   · exfalso;have:=Int.mul_le_mul_of_nonneg_right h4 (show (0:Int)≤(P:Int)from Int.natCast_nonneg _);omega
theorem TpI.less{n D U j:Nat}{f f':Nat→Nat}{g:Nat}{tp:Int}(h:TpI n D U j f f' g tp)(hf:∀ a,a<n→f' (j+a)<256)(hD:0<D)(ht:tp<0):U / D<g:=by
 have h1:=h.eq;have h2:=zl4 (f:=fun a=>f' (j+a)) (n:=n) hf;rw[Nat.div_lt_iff_lt_mul hD];generalize vN (fun a=>f' (j+a)) n=V at *;generalize g * D=G at *;generalize 256 ^ n=P at *;have:=Int.mul_le_mul_of_nonneg_right (show tp ≤ -1 by omega) (show (0:Int)≤(P:Int)from Int.natCast_nonneg _);omega
theorem TpI.next{n Y U j:Nat}{f f' f2:Nat→Nat}{g c:Nat}{tp:Int}(h:TpI n Y U j f f' (g+1) tp)(hY:Y<256 ^ n)(hl:U / Y<g+1)(h2:AbI n Y j f' f2 n c):TpI n Y U j f f2 g (tp+(c:Int)):=by
 have h3:=h.hg;refine⟨by omega,by omega,fun p hp=>(h2.off p hp).trans (h.off p hp),?_⟩;have h1:=h.eq;have h4:=h2.eq;rw[zj4,Nat.mod_eq_of_lt hY]at h4;generalize vN (fun a=>f' (j+a)) n=V at *;generalize vN (fun a=>f2 (j+a)) n=V2 at *;generalize 256 ^ n=P at *;have h5:(V2:Int)+(c:Int) * (P:Int)=(V:Int)+(Y:Int):=by exact_mod_cast h4
 push_cast at h1⊢
 grind
theorem TpI.done{n D U j:Nat}{f f':Nat→Nat}{g:Nat}{tp:Int}(h:TpI n D U j f f' g tp)(hf:∀ a,a<n→f' (j+a)<256)(hD:0<D)(hDn:D<256 ^ n)(ht:0≤tp):g=U / D∧tp=0∧vN (fun a=>f' (j+a)) n=U%D:=by
 have h1:=h.eq;have h0:=h.ge;have h2:=zl4 (f:=fun a=>f' (j+a)) (n:=n) hf;have h3:g * D≤U:=(by have:=Int.mul_le_mul_of_nonneg_right ht (show (0:Int)≤((256 ^ n:Nat):Int)from Int.natCast_nonneg _);omega);have h4:g=U / D:=Nat.le_antisymm ((Nat.le_div_iff_mul_le hD).2 h3) h0;have h5:=Nat.div_add_mod U D;have h6:=Nat.mod_lt U hD;rw[←h4,Nat.mul_comm]at h5;generalize vN (fun a=>f' (j+a)) n=V at *;generalize g * D=G at *;generalize 256 ^ n=P at *;have h7:tp=0:=by
  rcases Int.lt_or_le 0 tp with h8 | h8
  · exfalso;have:=Int.mul_le_mul_of_nonneg_right (show 1≤tp by omega) (show (0:Int)≤(P:Int)from Int.natCast_nonneg _);omega
  · omega
 subst h7;exact⟨h4,rfl,by omega⟩
theorem zxq{Y n:Nat}(h1:256 ^ n≤Y)(h2:Y<256 ^ (n+1)):0<dig Y n:=by
 unfold dig;have hP:0<256 ^ n:=Nat.pow_pos (by decide);rw[Nat.mod_eq_of_lt (by rw[Nat.div_lt_iff_lt_mul hP];rw[Nat.pow_succ]at h2;omega)];exact(Nat.le_div_iff_mul_le hP).2 (by omega)
theorem zw9{f f':Nat→Nat}{A D n j L:Nat}(hf:∀ i,i<L→f i<256)(hL:j+n<L)(hD:0<D)(hDn:D<256 ^ n)(hV:vN f L=A%(D * 256 ^ (j+1)))(off:∀ p,(p<j∨j+n≤p)→f' p=f p)
 (hw:vN (fun a=>f' (j+a)) n=vN (fun a=>f (j+a)) (n+1)%D):vN (upd f' (j+n) 0) L=A%(D * 256 ^ j):=by
 refine zuo hf hL hD hDn hV (fun k hk=>?_) (fun k hk=>?_) ?_
 · rw[qt f' (by omega)];exact off k (by omega)
 · rw[qt f' (by omega)];exact off k (by omega)
 · rw[zqo,hw,Nat.zero_mul,Nat.add_zero]
structure Est (B u u1 y1 y0 q r:Nat):Prop where
 eq:q * y1+r=u
 ge:(u * B+u1) / (y1 * B+y0)≤q
 le:q≤B+1
theorem zoa{B u u1 y1 y0 q r:Nat}(h:q * y1+r=u):q * y0≤B * r+u1↔q * (y1 * B+y0)≤u * B+u1:=by
 subst h;have e1:q * (y1 * B+y0)=q * y1 * B+q * y0:=by rw[Nat.mul_add,Nat.mul_assoc]
 have e2:(q * y1+r) * B=q * y1 * B+B * r:=by rw[Nat.add_mul,Nat.mul_comm B r]
 rw[e1,e2];omega
theorem zn9{B u u1 y1 y0 q:Nat}(hy:0<y1 * B+y0):q * (y1 * B+y0)≤u * B+u1↔q≤(u * B+u1) / (y1 * B+y0):=(Nat.le_div_iff_mul_le hy).symm
theorem zf9{B u u1 y1 y0:Nat}(h1:u1<B)(hu:u<y1 * B+y0):(u * B+u1) / (y1 * B+y0)<B:=by
 rw[Nat.div_lt_iff_lt_mul (by omega)];have:=Nat.mul_le_mul_right B (show u+1≤y1 * B+y0 from hu);rw[Nat.succ_mul]at this;rw[Nat.mul_comm B];omega
theorem zlo{B u u1 y1 y0:Nat}(h1:u1<B)(hy1:B≤2 * y1)(hy0:y0<B)(hu:u<y1 * B+y0):Est B u u1 y1 y0 (u / y1) (u%y1):=by
 have hB:0<B:=by omega
 have hp:0<y1:=by omega
 refine⟨by rw[Nat.mul_comm];exact Nat.div_add_mod u y1,?_,?_⟩
 · rw[Nat.le_div_iff_mul_le hp];have h2:=Nat.div_mul_le_self (u * B+u1) (y1 * B+y0);generalize (u * B+u1) / (y1 * B+y0)=d at *;have e1:d * (y1 * B+y0)=d * y1 * B+d * y0:=by rw[Nat.mul_add,Nat.mul_assoc]
   rw[e1]at h2;rcases Nat.lt_or_ge u (d * y1)with h3 | h3
   · have h4:=Nat.mul_le_mul_right B (show u+1≤d * y1 from h3);rw[Nat.succ_mul]at h4;omega
   · exact h3
 · have : u / y1<B+2:=by
    rw[Nat.div_lt_iff_lt_mul hp];have e1:(B+2) * y1=y1 * B+2 * y1:=by rw[Nat.add_mul,Nat.mul_comm B]
    omega
   omega
theorem zob{B u u1 y1 y0 q r:Nat}(h:Est B u u1 y1 y0 q r)(h1:u1<B)(hu:u<y1 * B+y0)(ht:B≤q∨B * r+u1<q * y0):1≤q∧Est B u u1 y1 y0 (q - 1) (r+y1):=by
 have hd:=zf9 h1 hu;have hlt:(u * B+u1) / (y1 * B+y0)<q:=by
  rcases ht with ht | ht
  · omega
  · rcases Nat.lt_or_ge ((u * B+u1) / (y1 * B+y0)) q with h' | h'
    · exact h'
    · have:=(zoa (B:=B) (u1:=u1) (y0:=y0) h.eq).2 ((zn9 (by omega)).2 h');omega
 have h2:=h.eq;have h5:=h.le;have hge:(u * B+u1) / (y1 * B+y0)≤q - 1:=(by generalize (u * B+u1) / (y1 * B+y0)=d at *;omega);have hq1:1≤q:=Nat.lt_of_le_of_lt (Nat.zero_le _) hlt;refine⟨hq1,⟨?_,hge,by omega⟩⟩;obtain⟨k,rfl⟩:∃ k,q=k+1:=⟨q - 1,by omega⟩;rw[Nat.add_sub_cancel];rw[Nat.succ_mul]at h2;omega
theorem zjr{B u u1 y1 y0 q r:Nat}(h:Est B u u1 y1 y0 q r)(hy:0<y1 * B+y0)(ht:q * y0≤B * r+u1):q=(u * B+u1) / (y1 * B+y0):=
 Nat.le_antisymm ((zn9 hy).1 ((zoa h.eq).1 ht)) h.ge
theorem zlp{B u u1 y1 y0 q r:Nat}(h:Est B u u1 y1 y0 q r)(hy:0<y1 * B+y0)(hy0:y0<B)(hr:B≤r)(hq:q≤B):q=(u * B+u1) / (y1 * B+y0):=by
 refine zjr h hy ?_;have h1:q * y0≤B * y0:=Nat.mul_le_mul_right _ hq;have h3:B * y0≤B * B:=Nat.mul_le_mul_left _ (by omega);have h2:B * B≤B * r:=Nat.mul_le_mul_left _ hr;omega
theorem zo1(B N1 n1 n0 Y:Nat):((N1 * B+n1)%Y * B+n0)%Y=((N1 * B+n1) * B+n0)%Y:=by
 rw[Nat.add_mod,Nat.mod_mul_mod,←Nat.add_mod]
theorem zo9(N y s:Nat):(N * 2 ^ s)%(y * 2 ^ s) / 2 ^ s=N%y:=by
 rw[Nat.mul_mod_mul_right,Nat.mul_div_cancel _ (Nat.pow_pos (by omega))]
end Go.Proofs.YtppbcopnfankcaaGreat

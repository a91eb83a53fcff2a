import Derived.Test.YthcekkeknonefaaGreatQNaE
import Derived.Test.YthcekkeknonefaaGreatQTrB
import Derived.Test.YthcekkeknonefaaGreatQNatB
import Derived.Great.Walk
import Derived.Great.BuildSlice
import Derived.Laws.CopyOwn
set_option linter.unusedVariables false
set_option linter.unusedSimpArgs false
namespace Go.Proofs.YthcekkeknonefaaGreat
set_option maxRecDepth 100000
set_option maxHeartbeats 4000000
open Go.RowKit
def zi(n:Nat):Array Value:=madeCells #[.int .i64 0] n
theorem zi_size(n:Nat):(zi n).size=n:=size_madeCells _ _
theorem int_info:(Tryz.prog.info? 3).map (fun i=>(i.zero,i.size,i.bytes))=some (some (.int .i64 0),1,8):=by kernel_rfl
theorem make_ints(n:Nat)(hn:n≤1000000)(w:World):(Instr.makeSlice 208 (.int .i64 n) (.int .i64 n)).run Tryz.prog w=.ok (.slice (some ⟨w.heap.size,0,none⟩) n n) (w.alloc (.cells (zi n) 3)):=by
 obtain⟨i0,hi,hz0,hz1,hz2⟩:=info_parts int_info;have h:=run_make (P:=Tryz.prog) w 208 3 i0 (.int .i64 0) Tryz.underlying208 hi hz0 .i64 .i64 (n:Int) (n:Int) (by omega) (Int.le_refl _) (by rw[hz2];omega) (by omega);rw[h,hz1,Int.toNat_natCast,Nat.mul_one];rfl
def ColB(w:World)(B n:Nat)(f:Nat→Nat):Prop:=∃ cur:Array Value,w.heap[B]? =some (.cells cur 3 (0,0))∧cur.size=n∧∀ j,j<n→cur[j]? =some (.int .i64 (f j))
theorem ColB.start{w:World}(n:Nat):ColB (w.alloc (.cells (zi n) 3)) w.heap.size n (fun _=>0):=by
 refine⟨_,heap_alloc_new _ _,zi_size n,fun j h=>?_⟩;unfold zi madeCells;rw[Array.getElem?_map,Array.getElem?_range,if_pos h];simp[Nat.mod_one]
theorem ColB.cell{w:World}{B n:Nat}{f:Nat→Nat}(h:ColB w B n f){k:Nat}(hk:k<n):w.cell? ⟨B,k,none⟩=some (.int .i64 (f k)):=by
 obtain⟨cur,h1,h2,h3⟩:=h;rw[Lib.cell_of_heap h1];exact h3 k hk
theorem ColB.free{w:World}{B n:Nat}{f:Nat→Nat}(h:ColB w B n f)(k:Nat):w.frozen? ⟨B,k,none⟩=false:=by
 obtain⟨cur,h1,h2,h3⟩:=h;exact Lib.frozen_of_heap h1 k
theorem ColB.set{w:World}{B n p c:Nat}{f:Nat→Nat}(h:ColB w B n f):ColB (w.setCell ⟨B,p,none⟩ (.int .i64 (c:Int))) B n (fun j=>if j=p then c else f j):=by
 obtain⟨cur,h1,h2,h3⟩:=h;refine⟨_,block_setCell h1 _,by rw[Array.size_setIfInBounds,h2],fun j hj=>?_⟩;rw[Array.getElem?_setIfInBounds];by_cases e:j=p
 · subst e;rw[if_pos rfl,if_pos (by omega)];simp
 · rw[if_neg (by omega)];simp only[if_neg e];exact h3 j hj
theorem ColB.drew{w:World}{B n:Nat}{f:Nat→Nat}(h:ColB w B n f):ColB w.drew B n f:=h
theorem ColB.kept{w w':World}{K B n:Nat}{f:Nat→Nat}(h:ColB w B n f)(hb:Below K w w')(hB:B<K):ColB w' B n f:=by
 obtain⟨cur,h1,h2,h3⟩:=h;exact⟨cur,by rw[←h1];exact hb.block _ hB,h2,h3⟩
def cs(f:Nat→Nat):Nat→Nat→Nat
 | 0,_=>0
 | n+1,i=>f i+256 * cs f n (i+1)
theorem cs_zero(n i:Nat):cs (fun _=>0) n i=0:=by
 induction n generalizing i with
 | zero=>rfl
 | succ n IH=>simp[cs,IH]
theorem cs_set(f:Nat→Nat)(v n i p:Nat):cs (fun j=>if j=p then f p+v else f j) n i=cs f n i+(if i≤p∧p<i+n then v * 256 ^ (p - i)else 0):=by
 induction n generalizing i with
 | zero=>rw[if_neg (by omega)];rfl
 | succ n IH =>
  simp only[cs];rw[IH];by_cases e:i=p
  · subst e;rw[if_pos rfl,if_neg (by omega),if_pos (by omega),Nat.sub_self];omega
  · rw[if_neg e];by_cases h:i+1≤p∧p<i+1+n
    · rw[if_pos h,if_pos (by omega),show p - i=p - (i+1)+1 from by omega,Nat.pow_succ,←Nat.mul_assoc];omega
    · rw[if_neg h,if_neg (by omega)];omega
theorem mod_more(x i:Nat):x%256 ^ (i+1)=x%256 ^ i+256 ^ i * dig x i:=by
 rw[Nat.mod_pow_succ];rfl
theorem tim_step{x y i j S:Nat}(h:S=x%256 ^ i * y+dig x i * 256 ^ i * (y%256 ^ j)):S+dig x i * dig y j * 256 ^ (i+j)=x%256 ^ i * y+dig x i * 256 ^ i * (y%256 ^ (j+1)):=by
 rw[h,mod_more y j,Nat.pow_add,Nat.mul_add (dig x i * 256 ^ i),Nat.add_assoc];congr 2;rw[Nat.mul_mul_mul_comm,Nat.mul_comm (dig y j)]
theorem tim_row{x y i:Nat}:x%256 ^ i * y+dig x i * 256 ^ i * y=x%256 ^ (i+1) * y:=by
 rw[mod_more,Nat.add_mul,Nat.mul_comm (dig x i)]
theorem car_step{V f r q i:Nat}(h:V / 256 ^ i=f+256 * r+q):V / 256 ^ (i+1)=r+(f+q) / 256∧dig V i=(f+q)%256:=by
 unfold dig;rw[Nat.pow_succ,←Nat.div_div_eq_div_mul,h];omega
theorem r01_Times_long(x y:Nat)(hs1:(nS x).size≤200)(hs2:(nS y).size≤200)(hlg:8<(nS x).size+(nS y).size)(w:World):Calls Tryz.prog 102 #[.string (nS x),.string (nS y)] w (Ret (.string (nS (x * y))) w):=by
 have hmx:x<256 ^ (nS x).size:=nS_size_le.1 (Nat.le_refl _);have hmy:y<256 ^ (nS y).size:=nS_size_le.1 (Nat.le_refl _);obtain⟨s,hs⟩:∃ s,nS x=s:=⟨_,rfl⟩;obtain⟨t,ht⟩:∃ t,nS y=t:=⟨_,rfl⟩;rw[hs]at hs1 hmx hlg⊢;rw[ht]at hs2 hmy hlg⊢;have HS:=Hq hs;have HT:=Hq ht;have HX:=Hq (show (nS x).size≤1000 from by rw[hs];omega);have HY:=Hq (show (nS y).size≤1000 from by rw[ht];omega);clear hs ht;obtain⟨a,ha⟩:∃ a,s.size=a:=⟨_,rfl⟩;obtain⟨b,hb⟩:∃ b,t.size=b:=⟨_,rfl⟩;rw[ha]at hs1 hmx hlg;rw[hb]at hs2 hmy hlg;have HMX:=Hq hmx;have HMY:=Hq hmy;have HXY:=Hq (show x * y<256 ^ (a+b)from by rw[Nat.pow_add];exact Nat.mul_lt_mul'' hmx hmy);clear hmx hmy;have hlg2:¬ ((a:Int)+(b:Int)≤8):=by omega
 have hmk:=fun(w:World)=>make_ints (a+b+1) (by omega) w;have hmb:=fun(w:World)=>make_bytes (a+b) (by omega) w;simp only[Int.natCast_add,Int.natCast_one]at hmk hmb;go_enter Tryz.func102,Tryz.ntmps102;go_wp2;clear hmk;go_loopw [7] (fun i wr=>∃(k:Nat) (f:Nat→Nat),k≤a∧i=.int .i64 k∧cs f (a+b+1) 0=x%256 ^ k * y∧(∀ j,f j≤13005000 * k)∧ColB wr w.heap.size (a+b+1) f∧Below w.heap.size w wr) (fun i _=>a - (intOf i).toNat);case atStart=>exact⟨0,fun _=>0,Nat.zero_le _,rfl,by rw[cs_zero,Nat.pow_zero,Nat.mod_one,Nat.zero_mul],fun _=>Nat.zero_le _,ColB.start _,(Below.refl _ _).alloc (Nat.le_refl _) _⟩
 case round =>
  obtain⟨k,f,hk,rfl,hcs,hfb,hC,hB⟩:=hrel;have HC:=Hq hC;have HB:=Hq hB;have HCS:=Hq hcs;have HFB:=Hq hfb;clear hC hB hcs hfb;by_cases hlt:k<a
  · have HD:=Hq (r01_at x k HX.out);rw[HS.out]at HD;have hd1:=dig_lt x k;obtain⟨d,hde⟩:∃ d,dig x k=d:=⟨_,rfl⟩;have HDE:=Hq hde;rw[hde]at hd1 HD;clear hde;go_wp2;go_loopw [8] (fun i wr=>∃(j:Nat) (f:Nat→Nat),j≤b∧i=.int .i64 j∧cs f (a+b+1) 0=x%256 ^ k * y+dig x k * 256 ^ k * (y%256 ^ j)∧(∀ p,f p≤13005000 * k+65025 * j)∧ColB wr w.heap.size (a+b+1) f∧Below w.heap.size w wr) (fun i _=>b - (intOf i).toNat);case atStart=>exact⟨0,f,Nat.zero_le _,rfl,by rw[HCS.out,Nat.pow_zero,Nat.mod_one,Nat.mul_zero,Nat.add_zero],fun p=>by have:=HFB.out p;omega,HC.out,HB.out⟩
    case round =>
     obtain⟨j,f,hj,rfl,hcs,hfb,hC,hB⟩:=hrel;have HC:=Hq hC;have HB:=Hq hB;have HCS:=Hq hcs;have HFB:=Hq hfb;clear hC hB hcs hfb;by_cases hlt2:j<b
     · have HE:=Hq (r01_at y j HY.out);rw[HT.out]at HE;have hd2:=dig_lt y j;obtain⟨e2,hee⟩:∃ d,dig y j=d:=⟨_,rfl⟩;have HEE:=Hq hee;rw[hee]at hd2 HE;clear hee;obtain⟨p,hp⟩:∃ p,k+j=p:=⟨_,rfl⟩;have hpi:(k:Int)+(j:Int)=(p:Int):=by omega
       have hpn:p<a+b+1:=by omega
       have hpw:IntKind.i64.wrap (p:Int)=(p:Int):=by rw[IntKind.wrap_i64];omega
       have hp0:(0:Int)≤(p:Int):=by omega
       have hp1:(p:Int)<(a:Int)+(b:Int)+1:=by omega
       have c0:=HC.out.drew.cell hpn;have hf0:=HC.out.drew.free p;have hfv:=HFB.out p;obtain⟨v,hv⟩:∃ v,f p=v:=⟨_,rfl⟩;rw[hv]at c0 hfv;have HV:=Hq hv;obtain⟨m,hm⟩:∃ m,d * e2=m:=⟨_,rfl⟩;have hmi:(d:Int) * (e2:Int)=(m:Int):=by rw[←hm];simp
       have hm9:m≤65025:=(by rw[←hm];exact Nat.mul_le_mul (show d≤255 by omega) (show e2≤255 by omega));have HP:=Hq hp;have HM:=Hq hm;clear hv hm hp;obtain⟨wd,hwd⟩:∃ wd,wr.drew=wd:=⟨_,rfl⟩;rw[hwd]at c0 hf0;go_wp2;refine wp_region_K 15 (Eq wd) (by kernel_rfl) ?_;intro hD;rw[hwd];refine qP 0 15 rfl hD rfl ?_;clear hD;intro hD;simp only[Act.put,sqA,sqB,sqC];refine qP 1 14 rfl hD rfl ?_;clear hD;intro hD;simp only[Act.put,sqA,sqB,sqC];refine qP 2 13 rfl hD rfl ?_;clear hD;intro hD;simp only[Act.put,sqA,sqB,sqC];refine qP 3 12 rfl hD rfl ?_;clear hD;intro hD;simp only[Act.put,sqA,sqB,sqC];refine qP 4 11 rfl hD rfl ?_;clear hD;intro hD;simp only[Act.put,sqA,sqB,sqC];refine qT 5 10 rfl hD rfl (by intro w' hS';have e0:=(hS'▸c0);go_simp;with_reducible rfl) ?_;clear hD;intro hD;simp only[Act.put,sqA,sqB,sqC];refine qP 6 9 rfl hD rfl ?_;clear hD;intro hD;simp only[Act.put,sqA,sqB,sqC];refine qP 7 8 rfl hD rfl ?_;clear hD;intro hD;simp only[Act.put,sqA,sqB,sqC];refine qP 9 7 rfl hD rfl ?_;clear hD;intro hD;simp only[Act.put,sqA,sqB,sqC];refine qP 10 6 rfl hD rfl ?_;clear hD;intro hD;simp only[Act.put,sqA,sqB,sqC];refine wpAnyK_one (i:=8) (fuel:=5) (by kernel_rfl) rfl hD ?_;clear hD;intro K8 hK8;go_wp2_with fail;refine(HD.out _).mono ?_;rintro e w1 ⟨rfl,rfl⟩;go_wp2;refine hK8 _ _ (by rfl) ?_;clear hK8;intro hS_11_8 hD;refine wpAnyK_one (i:=11) (fuel:=4) (by kernel_rfl) rfl hD ?_;clear hD;intro K11 hK11;go_wp2_with fail;refine(HE.out _).mono ?_;rintro e w1 ⟨rfl,rfl⟩;go_wp2;refine hK11 _ _ (by rfl) ?_;clear hK11;intro hS_11_11 hD;refine qP 12 3 rfl hD hS_11_11 ?_;clear hD;intro hD;simp only[Act.put,sqA,sqB,sqC];refine qP 13 2 rfl hD hS_11_11 ?_;clear hD;intro hD;simp only[Act.put,sqA,sqB,sqC];refine qP 14 1 rfl hD hS_11_11 ?_;clear hD;intro hD;simp only[Act.put,sqA,sqB,sqC];refine wpAnyK_oneT (i:=15) (fuel:=0) (by kernel_rfl) rfl hD (by kernel_rfl) ?_;clear hD;intro K15 hK15;go_wp2;refine hK15 _ _ ?_;clear hK15;intro hD;refine wpAnyK_done (by kernel_rfl) ?_ 0;clear hD;go_wp2;go_roundw;case rel =>
        refine⟨j+1,fun q=>if q=p then f p+m else f q,by omega,by go_num,?_,fun q=>?_,?_,?_⟩
        · rw[cs_set,if_pos (by omega),HCS.out,←HM.out,←HDE.out,←HEE.out,←HP.out,Nat.sub_zero];exact tim_step rfl
        · have h1:=HFB.out q;have h2:=HFB.out p;by_cases e:q=p
          · simp only[if_pos e];omega
          · simp only[if_neg e];omega
        · rw[←hwd,show (v:Int)+(m:Int)=((f p+m:Nat):Int)from by rw[HV.out];omega];exact HC.out.drew.set
        · rw[←hwd];exact(HB.out.drew).setCell (p:=⟨w.heap.size,p,none⟩) (Nat.le_refl _) _
       case measure=>simp[intOf];omega
     · obtain rfl:j=b:=by omega
       have HROW:=Hq (show x%256 ^ k * y+dig x k * 256 ^ k * (y%256 ^ j)=x%256 ^ (k+1) * y from by rw[Nat.mod_eq_of_lt HMY.out];exact tim_row);go_wp2;go_roundw;case rel=>exact⟨k+1,f,by omega,by go_num,by rw[HCS.out,HROW.out],fun q=>by have:=HFB.out q;omega,HC.out,HB.out⟩
       case measure=>simp[intOf];omega
  · obtain rfl:k=a:=by omega
    have HV:=Hq (show cs f (k+b+1) 0=x * y from by rw[HCS.out,Nat.mod_eq_of_lt HMX.out]);have hgb:w.heap.size<wr.heap.size:=(by obtain⟨cur,h1,_⟩:=HC.out;exact block_lt h1);go_wp2;go_loopw [10,11] (fun c i wq=>∃(z q:Nat),z≤k+b∧i=.int .i64 z∧c=.int .i64 q∧q≤13005000 * k∧x * y / 256 ^ z=cs f (k+b+1 - z) z+q∧OutB wq wr.heap.size (k+b) z (x * y)∧Below wr.heap.size wr wq) (fun _ i _=>k+b - (intOf i).toNat);case atStart=>exact⟨0,0,Nat.zero_le _,rfl,rfl,Nat.zero_le _,by rw[Nat.pow_zero,Nat.div_one,Nat.sub_zero,Nat.add_zero,HV.out],OutB.start _ _,(Below.refl _ _).alloc (Nat.le_refl _) _⟩
    case round =>
     obtain⟨z,q,hz,rfl,rfl,hq,hdiv,hO,hBq⟩:=hrel;have HO:=Hq hO;have HBQ:=Hq hBq;have HDV:=Hq hdiv;clear hO hBq hdiv;by_cases hlt3:z<k+b
     · obtain⟨j,hj⟩:∃ j,j+z+1=k+b:=⟨k+b - z - 1,by omega⟩;have hix:(k:Int)+(b:Int) - 1 - (z:Int)=(j:Int):=by omega
       have hjm:j<k+b:=by omega
       have c0:=(HC.out.kept HBQ.out hgb).cell (k:=z) (by omega);obtain⟨u,hu⟩:=HO.out.cell hjm;have hf:=HO.out.free j;have hfz:=HFB.out z;have hst:=car_step (V:=x * y) (f:=f z) (r:=cs f (j+1) (z+1)) (q:=q) (i:=z) (by
        rw[HDV.out,show k+b+1 - z=j+1+1 from by omega];simp only[cs]
        )
       obtain⟨v,hv⟩:∃ v,f z=v:=⟨_,rfl⟩;rw[hv]at c0 hfz hst;have HV2:=Hq hv;have HST:=Hq hst;have HJ:=Hq hj;clear hv hst hj;go_wp2;refine⟨⟨z+1,(v+q) / 256,by omega,by go_num,by go_num,by omega,?_,?_,HBQ.out.setCell (p:=⟨_,j,none⟩) (Nat.le_refl _) _⟩,by simp[intOf];omega⟩
       · rw[HST.out.1,show k+b+1 - (z+1)=j+1 from by have:=HJ.out;omega]
       · have h1:=HO.out.step (k:=j) (by have:=HJ.out;omega);rw[HST.out.2]at h1;rw[show ((v:Int)+(q:Int))%256=(((v+q)%256:Nat):Int)from by omega];exact h1
     · obtain rfl:z=k+b:=by omega
       have HBY:=Hq (HO.out.bytes (by omega));go_wp2_with fail;refine(r01_trim _ _ _ _ _ HBY.out).mono ?_;rintro e w1 ⟨rfl,rfl⟩;rw[trim_beN HXY.out];go_wp2;go_ret;exact⟨rfl,HB.out.trans (HBQ.out.mono (by omega))⟩
theorem r01_Times_small(x y:Nat)(hlg:(nS x).size+(nS y).size≤8)(w:World):Calls Tryz.prog 102 #[.string (nS x),.string (nS y)] w (Ret (.string (nS (x * y))) w):=by
 have hmx:x<256 ^ (nS x).size:=nS_size_le.1 (Nat.le_refl _);have hmy:y<256 ^ (nS y).size:=nS_size_le.1 (Nat.le_refl _);have h8:∀ k:Nat,k≤8→(256:Nat) ^ k≤18446744073709551616:=fun k hk=>Nat.le_trans (Nat.pow_le_pow_right (by decide) hk) (by decide);have hx8:x<18446744073709551616:=Nat.lt_of_lt_of_le hmx (h8 _ (by omega));have hy8:y<18446744073709551616:=Nat.lt_of_lt_of_le hmy (h8 _ (by omega));have hxy:x * y<18446744073709551616:=Nat.lt_of_lt_of_le (Nat.mul_lt_mul'' hmx hmy) (by rw[←Nat.pow_add];exact h8 _ hlg);have HXY:=Hq hxy;have HN1:=Hq (r01_U64_n x hx8);have HN2:=Hq (r01_U64_n y hy8);have hwm:IntKind.u64.wrap ((x:Int) * (y:Int))=((x * y:Nat):Int):=by rw[←Int.natCast_mul];exact u64_wrap (x * y) hxy
 obtain⟨z,hz⟩:∃ z,x * y=z:=⟨_,rfl⟩;rw[hz]at hwm HXY⊢;obtain⟨s,hs⟩:∃ s,nS x=s:=⟨_,rfl⟩;obtain⟨t,ht⟩:∃ t,nS y=t:=⟨_,rfl⟩;rw[hs]at HN1 hlg⊢;rw[ht]at HN2 hlg⊢;clear hs ht hmx hmy h8 hx8 hy8 hxy hz;have hsz:(s.size:Int)+(t.size:Int)≤8:=by omega
 go_enter Tryz.func102,Tryz.ntmps102;go_wp2_with fail;refine(HN1.out _).mono ?_;rintro e w1 ⟨rfl,rfl⟩;go_wp2_with fail;refine(HN2.out _).mono ?_;rintro e w1 ⟨rfl,rfl⟩;go_wp2_with fail;refine(r01_Of z HXY.out _).mono ?_;rintro e w3 ⟨rfl,hb3⟩;have HB3:=Hq hb3;clear hb3;go_wp2;go_ret;exact⟨rfl,HB3.out⟩
theorem r01_Times(x y:Nat)(hs1:(nS x).size≤200)(hs2:(nS y).size≤200)(w:World):Calls Tryz.prog 102 #[.string (nS x),.string (nS y)] w (Ret (.string (nS (x * y))) w):=by
 by_cases h:(nS x).size+(nS y).size≤8
 · exact r01_Times_small x y h w
 · exact r01_Times_long x y hs1 hs2 (by omega) w
theorem r01_Mul(x y:Nat)(hx:x<256 ^ 128)(hy:y<256 ^ 128)(w:World):Calls Tryz.prog 222 #[.string (nS x),.string (nS y)] w (Ret (fitR (x * y)) w):=by
 have hs1:=nS_size_le.2 hx;have hs2:=nS_size_le.2 hy;have HV1:=Hq (nvalid_nS.2 hx);have HV2:=Hq (nvalid_nS.2 hy);have HT:=Hq (r01_Times x y (by omega) (by omega));have HF:=Hq (r01_fit (x * y) (by
  have : (nS (x * y)).size≤128+128:=nS_size_le.2 (by rw[Nat.pow_add];exact Nat.mul_lt_mul'' hx hy)
  omega))
 obtain⟨s,hs⟩:∃ s,nS x=s:=⟨_,rfl⟩;obtain⟨t,ht⟩:∃ t,nS y=t:=⟨_,rfl⟩;rw[hs]at hs1 HV1 HT⊢;rw[ht]at hs2 HV2 HT⊢;clear hs ht hx hy;obtain⟨r1,r2,hr⟩:=fitR_form (x * y);rw[hr]at HF⊢;clear hr;go_enter Tryz.func222,Tryz.ntmps222;go_wp2_with fail;refine(r01_Valid s (by omega) _).mono ?_;rintro e w1 ⟨rfl,rfl⟩;rw[HV1.out];go_wp2_with fail;refine(r01_Valid t (by omega) _).mono ?_;rintro e w1 ⟨rfl,rfl⟩;rw[HV2.out];go_wp2_with fail;refine(HT.out _).mono ?_;rintro e w3 ⟨rfl,hb3⟩;have HB3:=Hq hb3;clear hb3;go_wp2_with fail;refine(HF.out _).mono ?_;rintro e w4 ⟨rfl,rfl⟩;go_wp2;go_ret2;exact⟨rfl,HB3.out⟩
set_option maxRecDepth 100000
theorem run_shl{P:Program}(x:BitVec 32)(k:IntKind)(m:Nat)(hm:m≤32)(w:World):(Op.shift .shl .u32 (wi x) k (m:Int)).run P w=.ok (.int .u32 (wi (x <<< m))) w:=by
 have e:min m 32=m:=by omega
 simp only[Op.shift,if_neg (show ¬ ((m:Int)<0)by omega),Int.toNat_natCast,IntKind.bits,e,wi_shl];rfl
theorem rot_all:∀ n:Fin 32,n.val=0∨bits .and .u64 (IntKind.u64.wrap (-(n.val:Int))) 31=((32 - n.val:Nat):Int):=by decide +kernel
theorem rot_and(n:Nat)(h0:0<n)(h1:n<32):bits .and .u64 (IntKind.u64.wrap (-(n:Int))) 31=((32 - n:Nat):Int):=(rot_all ⟨n,h1⟩).resolve_left (by simp;omega)
theorem wi_div(x:BitVec 32)(n:Nat):wi x / 2 ^ n=wi (x >>> n):=by rw[←wi_shr,Int.fdiv_eq_ediv_of_nonneg _ (Int.pow_nonneg (by decide))]
theorem rot_sub(n:Nat)(h0:0<n)(h1:n<32):IntKind.u64.wrap (32 - ((32 - n:Nat):Int))=n:=by
 rw[IntKind.wrap_u64];omega
theorem bits_rot(x:BitVec 32)(n:Nat)(h0:0<n)(h1:n<32)(w:World):Calls Tryz.prog 272 #[.int .u32 (wi x),.int .i64 (-(n:Int))] w (RetQ (.int .u32 (wi (rr x n))) w):=by
 have H1:∀ w,(Op.shift .shl .u32 (wi x) .u64 (bits .and .u64 (IntKind.u64.wrap (-(n:Int))) 31)).run Tryz.prog w=.ok (.int .u32 (wi (x <<< (32 - n)))) w:=(by intro w;rw[rot_and n h0 h1];exact run_shl _ _ _ (by omega) _);have H2:wi x / 2 ^ min (IntKind.u64.wrap (32 - bits .and .u64 (IntKind.u64.wrap (-(n:Int))) 31)).toNat 32=wi (x >>> n):=(by rw[rot_and n h0 h1,rot_sub n h0 h1,Int.toNat_natCast,Nat.min_eq_left (by omega)];exact wi_div _ _);have H3:bits .or .u32 (wi (x <<< (32 - n))) (wi (x >>> n))=wi (rr x n):=by rw[wi_or,BitVec.or_comm];rfl
 clear h0 h1;go_enter Tryz.func272,Tryz.ntmps272;go_wp2;go_ret;exact⟨rfl,rfl⟩
theorem h_turn(x:BitVec 32)(n:Nat)(h0:0<n)(h1:n<32)(w:World):Calls Tryz.prog 267 #[.int .u32 (wi x),.int .i64 n] w (RetQ (.int .u32 (wi (rr x n))) w):=by
 go_enter Tryz.func267,Tryz.ntmps267;go_wp2_with fail;refine(bits_rot x n h0 h1 _).mono ?_;rintro e w1 ⟨rfl,rfl⟩;go_wp2;go_ret;exact⟨rfl,rfl⟩
theorem r05_right(x:BitVec 32)(n:Nat)(h0:0<n)(h1:n<32)(w:World):Calls Tryz.prog 270 #[.int .u32 (wi x),.int .i64 n] w (Ret (.int .u32 (wi (rr x n))) w):=by
 have H1:∀ w,(Op.shift .shl .u32 (wi x) .i64 (IntKind.i64.wrap (32 - (n:Int)))).run Tryz.prog w=.ok (.int .u32 (wi (x <<< (32 - n)))) w:=(by intro w;rw[show IntKind.i64.wrap (32 - (n:Int))=((32 - n:Nat):Int)by rw[IntKind.wrap_i64];omega];exact run_shl _ _ _ (by omega) _);have H2:wi x / 2 ^ n=wi (x >>> n):=wi_div _ _;have H3:bits .or .u32 (wi (x >>> n)) (wi (x <<< (32 - n)))=wi (rr x n):=by rw[wi_or];rfl
 have hn:(n:Int)<32:=by omega
 clear h0 h1;go_enter Tryz.func270,Tryz.ntmps270;go_wp2;refine wp_region_K 9 (Below (w.drew).heap.size (w.drew)) (by kernel_rfl) ?_;intro hD;refine rP 0 5 8 rfl hD (Below.refl _ _) ?_;clear hD;intro hD;simp only[Act.put,sqA,sqB,sqC];refine rP 1 6 7 rfl hD (Below.refl _ _) ?_;clear hD;intro hD;simp only[Act.put,sqA,sqB,sqC];refine rP 2 7 6 rfl hD (Below.refl _ _) ?_;clear hD;intro hD;simp only[Act.put,sqA,sqB,sqC];refine rP 3 8 5 rfl hD (Below.refl _ _) ?_;clear hD;intro hD;simp only[Act.put,sqA,sqB,sqC];refine rP 4 9 4 rfl hD (Below.refl _ _) ?_;clear hD;intro hD;simp only[Act.put,sqA,sqB,sqC];refine rP 5 10 3 rfl hD (Below.refl _ _) ?_;clear hD;intro hD;simp only[Act.put,sqA,sqB,sqC];refine rP 6 11 2 rfl hD (Below.refl _ _) ?_;clear hD;intro hD;simp only[Act.put,sqA,sqB,sqC];refine rP 7 12 1 rfl hD (Below.refl _ _) ?_;clear hD;intro hD;simp only[Act.put,sqA,sqB,sqC];refine rO 8 0 rfl hD ?_;clear hD;intro K8 hK8;go_wp2;refine hK8 _ _ (by exact(Below.refl _ _)) ?_;clear hK8;intro hS_1_8 hD;refine wpAnyK_done (by kernel_rfl) ?_ 0;go_wp2;go_ret;exact⟨rfl,(Below.refl _ _).drew⟩
set_option maxRecDepth 100000
def W8.arr(s:W8):Array Value:=#[.int .u32 (wi s.a),.int .u32 (wi s.b),.int .u32 (wi s.c),.int .u32 (wi s.d),.int .u32 (wi s.e),.int .u32 (wi s.f),.int .u32 (wi s.g),.int .u32 (wi s.h)]
def wa(n:Nat)(f:Nat→BitVec 32):Array Value:=((List.range n).map fun i=>Value.int .u32 (wi (f i))).toArray
theorem wa_size(n:Nat)(f:Nat→BitVec 32):(wa n f).size=n:=by simp[wa]
theorem wa_get{n:Nat}(f:Nat→BitVec 32){i:Nat}(h:i<n):(wa n f)[i]? =some (.int .u32 (wi (f i))):=by simp[wa,h]
theorem wa_set{n:Nat}(f:Nat→BitVec 32)(i:Nat)(x:BitVec 32):(wa n f).setIfInBounds i (.int .u32 (wi x))=wa n (fun j=>if j=i then x else f j):=by
 apply Array.ext_getElem?;intro j;rw[Array.getElem?_setIfInBounds];rcases Nat.lt_or_ge j n with h | h
 · rw[wa_get _ h,wa_get _ h,wa_size];by_cases e:i=j
   · subst e;simp[h]
   · rw[if_neg e,if_neg (Ne.symm e)]
 · rw[Array.getElem?_eq_none (by rw[wa_size];exact h),Array.getElem?_eq_none (by rw[wa_size];exact h)];by_cases e:i=j
   · subst e;simp[wa_size];omega
   · rw[if_neg e]
theorem wa_congr{n:Nat}{f g:Nat→BitVec 32}(h:∀ i,i<n→f i=g i):wa n f=wa n g:=by
 unfold wa;congr 1;apply List.map_congr_left;intro i hi;rw[h i (by simpa using hi)]
theorem wa_one(n:Nat)(f:Nat→BitVec 32):(wa n f).all (·.oneCell')=true:=by
 rw[Array.all_eq_true'];intro v hv;simp only[wa,List.mem_toArray,List.mem_map]at hv;obtain⟨i,_,rfl⟩:=hv;rfl
theorem wa_zero(n:Nat):wa n (fun _=>0)=madeCells #[.int .u32 0] n:=by
 apply Array.ext_getElem?;intro j;rcases Nat.lt_or_ge j n with h | h
 · rw[wa_get _ h];unfold madeCells;simp[wi,h];rw[Nat.mod_one];rfl
 · rw[Array.getElem?_eq_none (by rw[wa_size];exact h),Array.getElem?_eq_none (by rw[size_madeCells];exact h)]
theorem kv_arr:wa 64 kv=(kL.map fun n:Nat=>Value.int .u32 (n:Int)).toArray:=by kernel_rfl
def RowW(w:World)(B n:Nat)(T:TypeId)(f:Nat→BitVec 32):Prop:=w.heap[B]? =some (.cells (wa n f) T (0,0))
theorem RowW.cell{w:World}{B n:Nat}{T:TypeId}{f:Nat→BitVec 32}(h:RowW w B n T f){k:Nat}(hk:k<n):w.cell? ⟨B,k,none⟩=some (.int .u32 (wi (f k))):=by
 rw[Lib.cell_of_heap h,wa_get f hk]
theorem RowW.free{w:World}{B n:Nat}{T:TypeId}{f:Nat→BitVec 32}(h:RowW w B n T f)(k:Nat):w.frozen? ⟨B,k,none⟩=false:=Lib.frozen_of_heap h k
theorem RowW.set{w:World}{B n:Nat}{T:TypeId}{f:Nat→BitVec 32}(h:RowW w B n T f)(k:Nat)(x:BitVec 32):RowW (w.setCell ⟨B,k,none⟩ (.int .u32 (wi x))) B n T (fun j=>if j=k then x else f j):=by
 unfold RowW;rw[block_setCell h,wa_set]
theorem RowW.kept{w w':World}{K B n:Nat}{T:TypeId}{f:Nat→BitVec 32}(h:RowW w B n T f)(hb:Below K w w')(hB:B<K):RowW w' B n T f:=(hb.block B hB).trans h
theorem RowW.lt{w:World}{B n:Nat}{T:TypeId}{f:Nat→BitVec 32}(h:RowW w B n T f):B<w.heap.size:=block_lt h
theorem RowW.drew{w:World}{B n:Nat}{T:TypeId}{f:Nat→BitVec 32}(h:RowW w B n T f):RowW w.drew B n T f:=h
theorem RowW.congr{w:World}{B n:Nat}{T:TypeId}{f g:Nat→BitVec 32}(h:RowW w B n T f)(hfg:∀ i,i<n→f i=g i):RowW w B n T g:=by
 unfold RowW;rw[←wa_congr hfg];exact h
theorem h_first(w:World):Calls Tryz.prog 259 #[] w (Ret (.agg st0.arr) w):=by
 go_enter Tryz.func259,Tryz.ntmps259;go_wp2;refine bodyPost_ret (v:=.agg st0.arr) (results_cell_row rfl _ _ w.heap.size 282 st0.arr (0,0) _ rfl (heap_alloc_new _ _) Tryz.underlying282 rfl (by kernel_rfl)) rfl ⟨rfl,(Below.refl _ _).alloc (Nat.le_refl _) _⟩
theorem h_constants(w:World):Calls Tryz.prog 265 #[] w (Ret (.agg (wa 64 kv)) w):=by
 go_enter Tryz.func265,Tryz.ntmps265;iterate 2 go_step
 refine Great.wpList_allocTo rfl _ rfl (.pointer (some ⟨w.heap.size,0,none⟩)) (.cells (madeCells #[.int .u32 0] 64) 289) (by kernel_rfl) ?_;obtain⟨W,hW⟩:∃ W,w.alloc (.cells (madeCells #[.int .u32 0] 64) 289)=W:=⟨_,rfl⟩;have HB:Below w.heap.size w W:=hW▸(Below.refl _ _).alloc (Nat.le_refl _) _;have HC:W.heap[w.heap.size]? =some (.cells (madeCells #[.int .u32 0] 64) 289 (0,0)):=hW▸heap_alloc_new _ _;rw[hW];clear hW;iterate 5 go_step
 refine wpList_buildFlatArrTo rfl 289 232 64 _ rfl .u32 (kL.map fun n:Nat=>(n:Int)) (some 1) rfl (Tryz.underlying289) (by kernel_rfl) (by kernel_rfl) (by kernel_rfl) ?_;refine wpList_store_rowTo rfl 289 _ _ rfl rfl w.heap.size (wa 64 kv) (by kernel_rfl) (by kernel_rfl) 289 _ HC (by kernel_rfl) (by kernel_rfl) (wa_one _ _) ?_;obtain⟨X,hX⟩:∃ X,W.setRow w.heap.size (wa 64 kv)=X:=⟨_,rfl⟩;have HB2:Below w.heap.size w X:=hX▸below_setRow HB (Nat.le_refl _) _;have HC2:X.heap[w.heap.size]? =some (.cells (wa 64 kv) 289 (0,0)):=hX▸setRow_heap _ _ _ _ _ _ HC;rw[hX];clear hX HB HC;go_wp2;refine bodyPost_ret (v:=.agg (wa 64 kv)) (results_cell_row rfl _ _ w.heap.size 289 (wa 64 kv) (0,0) _ rfl HC2 Tryz.underlying289 rfl (by rw[wa_size];kernel_rfl)) rfl ⟨rfl,HB2⟩
theorem r05_constants(w:World):Calls Tryz.prog 269 #[] w fun e w'=>e=.returned (.slice (some ⟨w.heap.size,0,none⟩) 64 64)∧RowW w' w.heap.size 64 232 kv∧Below w.heap.size w w':=by
 go_enter Tryz.func269,Tryz.ntmps269;go_wp2;go_ret;refine⟨rfl,?_,(Below.refl _ _).alloc (Nat.le_refl _) _⟩;unfold RowW;rw[kv_arr];exact heap_alloc_new _ _
end Go.Proofs.YthcekkeknonefaaGreat

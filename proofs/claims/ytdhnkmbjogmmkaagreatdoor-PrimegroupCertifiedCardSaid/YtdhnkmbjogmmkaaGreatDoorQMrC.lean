import Derived.Test.YtdhnkmbjogmmkaaGreatDoorQLdC
import Derived.Test.YtdhnkmbjogmmkaaGreatDoorQMrB
set_option linter.unusedVariables false
set_option linter.unusedSimpArgs false
namespace Go.Proofs.YtdhnkmbjogmmkaaGreatDoor
set_option maxRecDepth 100000
set_option maxHeartbeats 4000000
open Go.RowKit
structure ColF (w:World) (B n:Nat) (f:Nat→Nat):Prop where
 cell:∀ j,j<n→w.cell? ⟨B,j,none⟩=some (.int .i64 (f j))
 free:∀ j,j<n→w.frozen? ⟨B,j,none⟩=false
theorem ColF.drew{w:World}{B n:Nat}{f:Nat→Nat}(h:ColF w B n f):ColF w.drew B n f:=⟨h.cell,h.free⟩
theorem ColF.set{w:World}{B n p c:Nat}{f:Nat→Nat}(h:ColF w B n f)(hp:p<n):ColF (w.setCell ⟨B,p,none⟩ (.int .i64 (c:Int))) B n (fun j=>if j=p then c else f j):=by
 refine⟨fun j hj=>?_,fun j hj=>by rw[World.frozen?_setCell];exact h.free j hj⟩;by_cases e:j=p
 · subst e;rw[World.cell?_setCell_same _ _ _ (h.cell j hj),if_pos rfl]
 · rw[World.cell?_setCell_other _ _ _ _ (fun he=>e (by cases he;rfl)),h.cell j hj];simp[e]
theorem ColF.kept{w w':World}{K B n:Nat}{f:Nat→Nat}(h:ColF w B n f)(hb:Below K w w')(hB:B<K):ColF w' B n f:=by
 have e:=hb.block B hB;refine⟨fun j hj=>?_,fun j hj=>?_⟩
 · rw[←h.cell j hj];unfold World.cell?;simp only[e]
 · rw[←h.free j hj];unfold World.frozen?;simp only[e]
theorem ColF.lt{w:World}{B n:Nat}{f:Nat→Nat}(h:ColF w B n f)(hn:0<n):B<w.heap.size:=by
 have h1:=h.cell 0 hn;rcases Nat.lt_or_ge B w.heap.size with h' | h'
 · exact h'
 · simp[World.cell?,Array.getElem?_eq_none h']at h1
theorem ColF.clear{w:World}{B n:Nat}{f:Nat→Nat}(h:ColF w B n f):ColF (w.setCells B 0 (List.replicate n (.int .i64 0))) B n (fun _=>0):=by
 refine⟨fun j hj=>?_,fun j hj=>by rw[World.frozen?_setCells];exact h.free j hj⟩;have h1:=World.cell?_setCells_in B (List.replicate n (.int .i64 0)) 0 w (fun i hi=>by rw[Nat.zero_add,h.cell i (by simpa using hi)];rfl) j (by simpa using hj);rw[Nat.zero_add]at h1;rw[h1];simp
theorem below_setC{B g:Nat}{a:World}(hg:B≤g):∀(vs:List Value) (o:Nat) (w:World),Below B a w→Below B a (w.setCells g o vs)
 | [],_,_,h=>h
 | v::r,o,w,h=>below_setC hg r (o+1) _ (h.setCell (p:=⟨g,o,none⟩) hg v)
theorem zero_int(w:World):(zeroValue 3).run Tryz.prog w=.ok (.int .i64 0) w:=by kernel_rfl
theorem nat_product(x y B:Nat)(f0:Nat→Nat)(hs1:(nS x).size≤128)(hs2:(nS y).size≤128)(w:World)(h0:ColF w B 256 f0):Calls Tryz.prog 121 #[.string (nS x),.string (nS y),.pointer (some ⟨B,0,none⟩)] w (RetB B (.string (nS (x * y))) w):=by
 have hmx:x<256 ^ (nS x).size:=nS_size_le.1 nlr;have hmy:y<256 ^ (nS y).size:=nS_size_le.1 nlr;obtain⟨s,hs⟩:∃ s,nS x=s:=⟨_,rfl⟩;obtain⟨t,ht⟩:∃ t,nS y=t:=⟨_,rfl⟩;rw[hs]at hs1 hmx⊢;rw[ht]at hs2 hmy⊢;have HS:=Hq hs;have HT:=Hq ht;have HX:=Hq (show (nS x).size≤1000 from by rw[hs];omega);have HY:=Hq (show (nS y).size≤1000 from by rw[ht];omega);clear hs ht;obtain⟨a,ha⟩:∃ a,s.size=a:=⟨_,rfl⟩;obtain⟨b,hb⟩:∃ b,t.size=b:=⟨_,rfl⟩;rw[ha]at hs1 hmx;rw[hb]at hs2 hmy;have HMX:=Hq hmx;have HMY:=Hq hmy;have HXY:=Hq (show x * y<256 ^ (a+b)from by rw[Nat.pow_add];exact Nat.mul_lt_mul'' hmx hmy);have hmk:=fun(w:World)=>make_bytes (a+b) (by omega) w;simp only[Int.natCast_add]at hmk;have hai:(s.size:Int)=(a:Int):=by omega
 have hbi:(t.size:Int)=(b:Int):=by omega
 have hcl:∀ ty,(Builtin.clear_ #[34] ty #[.slice (some ⟨B,0,none⟩) 256 256]).run Tryz.prog w=.ok (.tuple #[]) (w.setCells B 0 (List.replicate 256 (.int .i64 0))):=
  fun ty=>Lib.run_clear_slice w 34 3 ty (.int .i64 0) Tryz.underlying34 zero_int rfl rfl B 0 256 256 (by decide) (fun j hj=>by rw[Nat.zero_add,h0.cell j hj];rfl) (fun j hj=>by rw[Nat.zero_add];exact h0.free j hj)
 obtain⟨W1,hW1⟩:∃ W1,w.setCells B 0 (List.replicate 256 (.int .i64 0))=W1:=⟨_,rfl⟩;rw[hW1]at hcl;have HC1:=Hq (show ColF W1 B 256 (fun _=>0)from by rw[←hW1];exact h0.clear);have HB1:=Hq (show Below B w W1 from by rw[←hW1];exact below_setC nlr _ _ _ blr);clear hmx hmy hW1 h0;go_enter Tryz.func121,Tryz.ntmps121;go_wp2_with (simp only[hcl]);clear hcl;go_loopw [19] (fun i wr=>∃(k:Nat) (f:Nat→Nat),k≤a∧i=.int .i64 k∧cs f (a+b) 0=x%256 ^ k * y∧(∀ p,f p≤8323200 * k)∧ColF wr B 256 f∧Below B w wr) (fun i _=>a - (intOf i).toNat);case atStart=>exact⟨0,fun _=>0,Nat.zero_le _,rfl,by rw[cs_zero,Nat.pow_zero,Nat.mod_one,Nat.zero_mul],fun p=>Nat.zero_le _,HC1.out,HB1.out⟩
 case round =>
  obtain⟨k,f,hk,rfl,hcs,hfb,hC,hB⟩:=hrel;have HC:=Hq hC;have HB:=Hq hB;have HCS:=Hq hcs;have HFB:=Hq hfb;clear hC hB hcs hfb;by_cases hlt:k<a
  · have HD:=Hq (nat_digit x k HX.out);rw[HS.out]at HD;have hd1:=dig_lt x k;obtain⟨d,hde⟩:∃ d,dig x k=d:=⟨_,rfl⟩;have HDE:=Hq hde;rw[hde]at hd1 HD;clear hde;go_wp2_with fail;refine(HD.out _).mono ?_;rintro e w1 ⟨rfl,rfl⟩;go_wp2;go_loopw [27] (fun i wr=>∃(j:Nat) (f:Nat→Nat),j≤b∧i=.int .i64 j∧cs f (a+b) 0=x%256 ^ k * y+dig x k * 256 ^ k * (y%256 ^ j)∧(∀ p,f p≤8323200 * k+65025 * j)∧ColF wr B 256 f∧Below B w wr) (fun i _=>b - (intOf i).toNat);case atStart=>exact⟨0,f,Nat.zero_le _,rfl,by rw[HCS.out,Nat.pow_zero,Nat.mod_one,Nat.mul_zero,Nat.add_zero],fun p=>by have:=HFB.out p;omega,HC.out,HB.out⟩
    case round =>
     obtain⟨j,f,hj,rfl,hcs,hfb,hC,hB⟩:=hrel;have HC:=Hq hC;have HB:=Hq hB;have HCS:=Hq hcs;have HFB:=Hq hfb;clear hC hB hcs hfb;by_cases hlt2:j<b
     · have HE:=Hq (nat_digit y j HY.out);rw[HT.out]at HE;have hd2:=dig_lt y j;obtain⟨e2,hee⟩:∃ d,dig y j=d:=⟨_,rfl⟩;have HEE:=Hq hee;rw[hee]at hd2 HE;clear hee;obtain⟨p,hp⟩:∃ p,k+j=p:=⟨_,rfl⟩;have hpi:(k:Int)+(j:Int)=(p:Int):=by omega
       have hpn:p<256:=by omega
       have hpab:p<a+b:=by omega
       have hpw:IntKind.i64.wrap (p:Int)=(p:Int):=by rw[IntKind.wrap_i64];omega
       have hp0:(0:Int)≤(p:Int):=by omega
       have hp1:(p:Int)<256:=by omega
       have c0:=HC.out.drew.cell p hpn;have hf0:=HC.out.drew.free p hpn;have hfv:=HFB.out p;obtain⟨v,hv⟩:∃ v,f p=v:=⟨_,rfl⟩;rw[hv]at c0 hfv;have HV:=Hq hv;obtain⟨m,hm⟩:∃ m,d * e2=m:=⟨_,rfl⟩;have hmi:(d:Int) * (e2:Int)=(m:Int):=by rw[←hm];simp
       have hm9:m≤65025:=(by rw[←hm];exact Nat.mul_le_mul (show d≤255 by omega) (show e2≤255 by omega));have HP:=Hq hp;have HM:=Hq hm;have HPAB:=Hq hpab;have HPN:=Hq hpn;clear hv hm hp;obtain⟨wd,hwd⟩:∃ wd,wr.drew=wd:=⟨_,rfl⟩;rw[hwd]at c0 hf0;go_wp2;refine wp_region_K 15 (Eq wd) (by kernel_rfl) ?_;intro hD;rw[hwd];refine qPD 0 30 15 rfl hD rfl ?_;clear hD;intro hD;simp only[Act.put,sqA,sqB,sqC];refine qPD 1 31 14 rfl hD rfl ?_;clear hD;intro hD;simp only[Act.put,sqA,sqB,sqC];refine qPD 2 32 13 rfl hD rfl ?_;clear hD;intro hD;simp only[Act.put,sqA,sqB,sqC];refine qPD 3 33 12 rfl hD rfl ?_;clear hD;intro hD;simp only[Act.put,sqA,sqB,sqC];refine qPD 4 34 11 rfl hD rfl ?_;clear hD;intro hD;simp only[Act.put,sqA,sqB,sqC];refine qPD 5 35 10 rfl hD rfl ?_;clear hD;intro hD;simp only[Act.put,sqA,sqB,sqC];refine qTD 6 36 9 rfl hD rfl (by intro w' hS';have e0:=(hS'▸c0);go_simp;with_reducible rfl) ?_;clear hD;intro hD;simp only[Act.put,sqA,sqB,sqC];refine qPD 7 37 8 rfl hD rfl ?_;clear hD;intro hD;simp only[Act.put,sqA,sqB,sqC];refine qPD 8 38 7 rfl hD rfl ?_;clear hD;intro hD;simp only[Act.put,sqA,sqB,sqC];refine qPD 9 39 6 rfl hD rfl ?_;clear hD;intro hD;simp only[Act.put,sqA,sqB,sqC];refine qPD 13 43 5 rfl hD rfl ?_;clear hD;intro hD;simp only[Act.put,sqA,sqB,sqC];refine rO 10 4 rfl hD ?_;clear hD;intro K10 hK10;go_wp2_with fail;refine(HE.out _).mono ?_;rintro e w1 ⟨rfl,rfl⟩;go_wp2;refine hK10 _ _ (by rfl) ?_;clear hK10;intro hS_9_10 hD;refine qPD 11 41 3 rfl hD hS_9_10 ?_;clear hD;intro hD;simp only[Act.put,sqA,sqB,sqC];refine qPD 12 42 2 rfl hD hS_9_10 ?_;clear hD;intro hD;simp only[Act.put,sqA,sqB,sqC];refine qPD 14 44 1 rfl hD hS_9_10 ?_;clear hD;intro hD;simp only[Act.put,sqA,sqB,sqC];refine wpAnyK_oneT (i:=15) (fuel:=0) (by kernel_rfl) rfl hD (by kernel_rfl) ?_;clear hD;intro K15 hK15;go_wp2;refine hK15 _ _ ?_;clear hK15;intro hD;refine wpAnyK_done (by kernel_rfl) ?_ 0;clear hD;go_wp2;go_roundw;case rel =>
        refine⟨j+1,fun q=>if q=p then f p+m else f q,by omega,by go_num,?_,fun q=>?_,?_,?_⟩
        · rw[cs_set,if_pos (by have:=HPAB.out;omega),HCS.out,←HM.out,←HDE.out,←HEE.out,←HP.out,Nat.sub_zero];exact tim_step rfl
        · have h1:=HFB.out q;have h2:=HFB.out p;by_cases e:q=p
          · simp only[if_pos e];omega
          · simp only[if_neg e];omega
        · rw[←hwd,show (v:Int)+(m:Int)=((f p+m:Nat):Int)from by rw[HV.out];omega];exact HC.out.drew.set HPN.out
        · rw[←hwd];exact(HB.out.drew).setCell (p:=⟨B,p,none⟩) nlr _
       case measure=>simp[intOf];omega
     · obtain rfl:j=b:=by omega
       have HROW:=Hq (show x%256 ^ k * y+dig x k * 256 ^ k * (y%256 ^ j)=x%256 ^ (k+1) * y from by rw[Nat.mod_eq_of_lt HMY.out];exact tim_row);go_wp2;go_roundw;case rel=>exact⟨k+1,f,by omega,by go_num,by rw[HCS.out,HROW.out],fun q=>by have:=HFB.out q;omega,HC.out,HB.out⟩
       case measure=>simp[intOf];omega
  · obtain rfl:k=a:=by omega
    have HV:=Hq (show cs f (k+b) 0=x * y from by rw[HCS.out,Nat.mod_eq_of_lt HMX.out]);have hgb:B<wr.heap.size:=HC.out.lt (by decide);go_wp2;obtain⟨V,hV⟩:∃ V,V=wr:=⟨_,rfl⟩;subst hV;go_loopw [12,55] (fun c i wr=>∃(z q:Nat),z≤k+b∧i=.int .i64 z∧c=.int .i64 q∧q≤8323200 * k∧x * y / 256 ^ z=cs f (k+b - z) z+q∧OutB wr V.heap.size (k+b) z (x * y)∧Below V.heap.size V wr) (fun _ i _=>k+b - (intOf i).toNat);case atStart=>exact⟨0,0,Nat.zero_le _,rfl,rfl,Nat.zero_le _,by rw[Nat.pow_zero,Nat.div_one,Nat.sub_zero,Nat.add_zero,HV.out],OutB.start _ _,(blr).alloc nlr _⟩
    case round =>
     obtain⟨z,q,hz,rfl,rfl,hq,hdiv,hO,hBq⟩:=hrel;have HO:=Hq hO;have HBQ:=Hq hBq;have HDV:=Hq hdiv;clear hO hBq hdiv;by_cases hlt3:z<k+b
     · obtain⟨j,hj⟩:∃ j,j+z+1=k+b:=⟨k+b - z - 1,by omega⟩;have hix:(k:Int)+(b:Int) - 1 - (z:Int)=(j:Int):=by omega
       have hjm:j<k+b:=by omega
       have c0:=(HC.out.kept HBQ.out hgb).cell z (by omega);obtain⟨u,hu⟩:=HO.out.cell hjm;have hf:=HO.out.free j;have hfz:=HFB.out z;have hst:=car_step (V:=x * y) (f:=f z) (r:=cs f j (z+1)) (q:=q) (i:=z) (by
        rw[HDV.out,show k+b - z=j+1 from by omega];simp only[cs]
        )
       obtain⟨v,hv⟩:∃ v,f z=v:=⟨_,rfl⟩;rw[hv]at c0 hfz hst;have HV2:=Hq hv;have HST:=Hq hst;have HJ:=Hq hj;clear hv hst hj;go_wp2;refine⟨⟨z+1,(v+q) / 256,by omega,by go_num,by go_num,by omega,?_,?_,HBQ.out.setCell (p:=⟨_,j,none⟩) nlr _⟩,by simp[intOf];omega⟩
       · rw[HST.out.1,show k+b - (z+1)=j from by have:=HJ.out;omega]
       · have h1:=HO.out.step (k:=j) (by have:=HJ.out;omega);rw[HST.out.2]at h1;have e1:((q:Int)+(v:Int))%256=(((v+q)%256:Nat):Int):=by omega
         rw[e1];exact h1
     · obtain rfl:z=k+b:=by omega
       have HBY:=Hq (HO.out.bytes (by omega));go_wp2_with fail;refine(nat_trimmed _ _ _ _ _ HBY.out).mono ?_;rintro e w1 ⟨rfl,rfl⟩;rw[trim_beN HXY.out];go_wp2;go_ret;exact⟨rfl,HB.out.trans (HBQ.out.mono (by omega))⟩
set_option maxRecDepth 100000
set_option maxHeartbeats 2000000
theorem fitR_form'(n:Nat):∃ s c,fitR n=.tuple #[.string s,.int .i64 c]:=by
 unfold fitR;split
 · exact⟨_,_,rfl⟩
 · exact⟨_,_,rfl⟩
theorem zero256:Tryz.zeroCells142=Array.replicate 256 (.int .i64 0):=by kernel_rfl
theorem colF_zero(w:World):ColF (w.alloc (.cells Tryz.zeroCells142 142)) w.heap.size 256 (fun _=>0):=by
 have h:=heap_alloc_new w (.cells Tryz.zeroCells142 142);refine⟨fun j hj=>?_,fun j hj=>Lib.frozen_of_heap h j⟩;rw[Lib.cell_of_heap h,zero256];simp[hj]
theorem nat_Mul_core(x y x2 y2 hi lo:Nat)(ok1 ok2:Bool)(hx:x<256 ^ 128)(hy:y<256 ^ 128)(hN1:∀ w,Calls Tryz.prog 73 #[.string (nS x)] w (RetQ (.tuple #[.int .u64 x2,.bool ok1]) w))(hN2:∀ w,Calls Tryz.prog 73 #[.string (nS y)] w (RetQ (.tuple #[.int .u64 y2,.bool ok2]) w))
 (hx2:x2<18446744073709551616) (hy2:y2<18446744073709551616) (hhi:x2 * y2 / 18446744073709551616=hi) (hlo:x2 * y2%18446744073709551616=lo) (hc:¬ ((nS x).size≤8∧(nS y).size≤8∧hi=0)) (w:World):Calls Tryz.prog 91 #[.string (nS x),.string (nS y)] w (Ret (fitR (x * y)) w):=by
 have hz1:=nS_size_le.2 hx;have hz2:=nS_size_le.2 hy;have HV1:=Hq (nvalid_nS.2 hx);have HV2:=Hq (nvalid_nS.2 hy);have HN1:=Hq hN1;have HN2:=Hq hN2;have HQ:=Hq (Tryz.bits_Mul64 x2 y2 hx2 hy2);rw[hhi,hlo]at HQ;have HPR:=Hq (fun(B:Nat) (f0:Nat→Nat) (w:World) (h0:ColF w B 256 f0)=>nat_product x y B f0 hz1 hz2 w h0);have hxy:x * y<256 ^ 256:=(by rw[show 256=128+128 from rfl,Nat.pow_add];exact Nat.mul_lt_mul'' hx hy);have HFI:=Hq (nat_fitting (x * y) (by have:=nS_size_le.2 hxy;omega));obtain⟨fs,fc,hfr⟩:=fitR_form' (x * y);rw[hfr]at HFI⊢;obtain⟨P,hP⟩:∃ P,nS (x * y)=P:=⟨_,rfl⟩;rw[hP]at HFI HPR;obtain⟨s,hs⟩:∃ s,nS x=s:=⟨_,rfl⟩;obtain⟨t,ht⟩:∃ t,nS y=t:=⟨_,rfl⟩;rw[hs]at hz1 HV1 HN1 hc HPR⊢;rw[ht]at hz2 HV2 HN2 hc HPR⊢;clear hs ht hx hy hN1 hN2 hx2 hy2 hhi hlo hxy hP hfr;by_cases i1:s.size≤8
 · by_cases i2:t.size≤8
   · have i3:¬ (hi=0):=fun h=>hc ⟨i1,i2,h⟩;have j1:(s.size:Int)≤8:=by omega
     have j2:(t.size:Int)≤8:=by omega
     have j3:((hi:Int)==0)=false:=beq_eq_false_iff_ne.2 (by omega);clear hc i1 i2;go_enter Tryz.func91,Tryz.ntmps91;go_wp2_with fail;refine(nat_Valid s (by omega) _).mono ?_;rintro e w1 ⟨rfl,rfl⟩;rw[HV1.out];go_wp2_with fail;refine(nat_Valid t (by omega) _).mono ?_;rintro e w1 ⟨rfl,rfl⟩;rw[HV2.out];go_wp2_with fail;refine(HN1.out _).mono ?_;rintro e w1 ⟨rfl,rfl⟩;go_wp2_with fail;refine(HN2.out _).mono ?_;rintro e w1 ⟨rfl,rfl⟩;go_wp2_with fail;refine(HQ.out _).mono ?_;rintro e w ⟨rfl,rfl⟩;go_wp2_with fail;have hcf:ColF (w.alloc (.cells Tryz.zeroCells142 142)) w.heap.size 256 (fun _=>0):=colF_zero w;have HB0:=Hq ((Below.refl w.heap.size w).alloc nlr (.cells Tryz.zeroCells142 142));refine(HPR.out _ _ _ hcf).mono ?_;rintro e w3 ⟨rfl,hb3⟩;have HB3:=Hq (HB0.out.trans hb3);clear hb3 hcf HB0;go_wp2_with fail;refine(HFI.out _).mono ?_;rintro e w4 ⟨rfl,rfl⟩;go_wp2;go_ret2;exact⟨rfl,HB3.out⟩
   · have j1:(s.size:Int)≤8:=by omega
     have j2:¬ ((t.size:Int)≤8):=by omega
     clear hc i1 i2;go_enter Tryz.func91,Tryz.ntmps91;go_wp2_with fail;refine(nat_Valid s (by omega) _).mono ?_;rintro e w1 ⟨rfl,rfl⟩;rw[HV1.out];go_wp2_with fail;refine(nat_Valid t (by omega) _).mono ?_;rintro e w1 ⟨rfl,rfl⟩;rw[HV2.out];go_wp2_with fail;refine(HN1.out _).mono ?_;rintro e w1 ⟨rfl,rfl⟩;go_wp2_with fail;refine(HN2.out _).mono ?_;rintro e w1 ⟨rfl,rfl⟩;go_wp2_with fail;refine(HQ.out _).mono ?_;rintro e w ⟨rfl,rfl⟩;go_wp2_with fail;have hcf:ColF (w.alloc (.cells Tryz.zeroCells142 142)) w.heap.size 256 (fun _=>0):=colF_zero w;have HB0:=Hq ((Below.refl w.heap.size w).alloc nlr (.cells Tryz.zeroCells142 142));refine(HPR.out _ _ _ hcf).mono ?_;rintro e w3 ⟨rfl,hb3⟩;have HB3:=Hq (HB0.out.trans hb3);clear hb3 hcf HB0;go_wp2_with fail;refine(HFI.out _).mono ?_;rintro e w4 ⟨rfl,rfl⟩;go_wp2;go_ret2;exact⟨rfl,HB3.out⟩
 · have j1:¬ ((s.size:Int)≤8):=by omega
   clear hc i1;go_enter Tryz.func91,Tryz.ntmps91;go_wp2_with fail;refine(nat_Valid s (by omega) _).mono ?_;rintro e w1 ⟨rfl,rfl⟩;rw[HV1.out];go_wp2_with fail;refine(nat_Valid t (by omega) _).mono ?_;rintro e w1 ⟨rfl,rfl⟩;rw[HV2.out];go_wp2_with fail;refine(HN1.out _).mono ?_;rintro e w1 ⟨rfl,rfl⟩;go_wp2_with fail;refine(HN2.out _).mono ?_;rintro e w1 ⟨rfl,rfl⟩;go_wp2_with fail;refine(HQ.out _).mono ?_;rintro e w ⟨rfl,rfl⟩;go_wp2_with fail;have hcf:ColF (w.alloc (.cells Tryz.zeroCells142 142)) w.heap.size 256 (fun _=>0):=colF_zero w;have HB0:=Hq ((Below.refl w.heap.size w).alloc nlr (.cells Tryz.zeroCells142 142));refine(HPR.out _ _ _ hcf).mono ?_;rintro e w3 ⟨rfl,hb3⟩;have HB3:=Hq (HB0.out.trans hb3);clear hb3 hcf HB0;go_wp2_with fail;refine(HFI.out _).mono ?_;rintro e w4 ⟨rfl,rfl⟩;go_wp2;go_ret2;exact⟨rfl,HB3.out⟩
theorem nat_MulA(x y:Nat)(hx:x<256 ^ 128)(hy:y<256 ^ 128)(w:World):Calls Tryz.prog 91 #[.string (nS x),.string (nS y)] w (Ret (fitR (x * y)) w):=by
 have hs:∀ z:Nat,z<256 ^ 128→∃(z2:Nat) (ok:Bool),(∀ w,Calls Tryz.prog 73 #[.string (nS z)] w (RetQ (.tuple #[.int .u64 z2,.bool ok]) w))∧z2<18446744073709551616∧((nS z).size≤8→z2=z):=fun z hz=>by
  by_cases h8:(nS z).size≤8
  · have hz8:z<18446744073709551616:=nS_size_le.1 h8;exact⟨z,true,nat_Small_n z hz8,hz8,fun _=>rfl⟩
  · exact⟨0,false,nat_Small_no (nS z) (by have:=nS_size_le.2 hz;omega) (.inr ⟨nvalid_nS.2 hz,by omega⟩),by decide,fun h=>absurd h h8⟩
 obtain⟨x2,ok1,hN1,hx2,hxe⟩:=hs x hx;obtain⟨y2,ok2,hN2,hy2,hye⟩:=hs y hy;by_cases hc:(nS x).size≤8∧(nS y).size≤8∧x2 * y2 / 18446744073709551616=0
 · obtain⟨c1,c2,c3⟩:=hc;obtain rfl:=hxe c1;obtain rfl:=hye c2;have hp:x2 * y2<18446744073709551616:=by omega
   have h:=nat_Mul_small x2 y2 hx2 hy2 hp w;have hf:fitR (x2 * y2)=.tuple #[.string (nS (x2 * y2)),.int .i64 0]:=(by unfold fitR;rw[if_pos (lt128_of_lt8 hp)]);rw[hf];exact h
 · exact nat_Mul_core x y x2 y2 _ _ ok1 ok2 hx hy hN1 hN2 hx2 hy2 rfl rfl hc w
theorem nat_DivModA(x y:Nat)(hx:x<256 ^ 128)(hy:y<256 ^ 128)(h0:0<y)(w:World):Calls Tryz.prog 35 #[.string (nS x),.string (nS y)] w (Ret (.tuple #[.string (nS (x / y)),.string (nS (x%y)),.int .i64 0]) w):=by
 have HD:=Hq (nat_dividedA x y hx hy h0);have hem:=empty_nS h0;have hs1:=nS_size_le.2 hx;have hs2:=nS_size_le.2 hy;have HV1:=Hq (nvalid_nS.2 hx);have HV2:=Hq (nvalid_nS.2 hy);obtain⟨s,hs⟩:∃ s,nS x=s:=⟨_,rfl⟩;obtain⟨t,ht⟩:∃ t,nS y=t:=⟨_,rfl⟩;rw[hs]at hs1 HV1 HD⊢;rw[ht]at hs2 HV2 hem HD⊢;clear hs ht hx hy;go_enter Tryz.func35,Tryz.ntmps35;go_wp2_with fail;refine(nat_Valid s (by omega) _).mono ?_;rintro e w1 ⟨rfl,rfl⟩;rw[HV1.out];go_wp2_with fail;refine(nat_Valid t (by omega) _).mono ?_;rintro e w1 ⟨rfl,rfl⟩;rw[HV2.out];go_wp2_with fail;refine(HD.out _).mono ?_;rintro e w1 ⟨rfl,hb⟩;have HB:=Hq hb;clear hb;go_wp2;go_ret3;exact⟨rfl,HB.out⟩
set_option maxRecDepth 100000
theorem prime_is_n(n:Nat)(h8:n<18446744073709551616)(w:World)(ht:TabAt w):Calls Tryz.prog 47 #[.int .u64 n] w (Ret (.bool (isN n)) w):=by
 rcases Nat.lt_or_ge n 2 with a | a
 · rw[isN_lt a];have hi:(n:Int)<2:=by omega
   clear ht h8;go_enter Tryz.func47,Tryz.ntmps47;go_wp2;go_step3;go_wp2;go_ret;exact⟨rfl,Below.refl _ _⟩
 · rcases isN_cases a with⟨i,hi,hd,hno,e⟩ | ⟨hno,e⟩
   · rw[e];exact prime_is_small n i a h8 hi hd hno w
   · rw[e];exact prime_is_big n a h8 hno w ht
theorem prime_Is_t(n:Nat)(h8:n<18446744073709551616)(b:Bool)(h:∀ w,TabAt w→Calls Tryz.prog 47 #[.int .u64 n] w (Ret (.bool b) w))(w:World)(ht:TabAt w):Calls Tryz.prog 30 #[.string (nS n)] w (Ret (.tuple #[.bool b,.int .i64 0]) w):=by
 have HS:=Hq (prime_small_n n h8);have HI:=Hq h;have HT:=Hq ht;obtain⟨s,hs⟩:∃ s,nS n=s:=⟨_,rfl⟩;rw[hs]at HS⊢;clear hs h8 h ht;go_enter Tryz.func30,Tryz.ntmps30;go_wp2_with fail;refine(HS.out _).mono ?_;rintro e w1 ⟨rfl,rfl⟩;go_wp2_with fail;refine(HI.out _ HT.out).mono ?_;rintro e w1 ⟨rfl,hb1⟩;have HB1:=Hq hb1;clear hb1;go_wp2;go_ret2;exact⟨rfl,HB1.out⟩
end Go.Proofs.YtdhnkmbjogmmkaaGreatDoor

import Derived.Test.YtkfgdcgmlobhfaaGreatQLdD
import Derived.Test.YtkfgdcgmlobhfaaGreatQGsa
import Derived.Test.YtkfgdcgmlobhfaaGreatQBit
set_option linter.unusedVariables false
set_option linter.unusedSimpArgs false
namespace Go.Proofs.YtkfgdcgmlobhfaaGreat
set_option maxRecDepth 100000
set_option maxHeartbeats 4000000
open Go.RowKit
structure ColF (w:World) (B n:Nat) (f:Nat→Nat):Prop where
 cell:∀ j,j<n→w.cell? ⟨B,j,none⟩=some (.int .i64 (f j))
 free:∀ j,j<n→w.frozen? ⟨B,j,none⟩=false
theorem ColF.drew{w:World}{B n:Nat}{f:Nat→Nat}(h:ColF w B n f):ColF w.drew B n f:=⟨h.cell,h.free⟩
theorem ColF.set{w:World}{B n p c:Nat}{f:Nat→Nat}(h:ColF w B n f)(hp:p<n):ColF (w.setCell ⟨B,p,none⟩ (.int .i64 (c:Int))) B n (fun j=>if j=p then c else f j):=by
 refine⟨fun j hj=>?_,fun j hj=>by rw[World.frozen?_setCell];exact h.free j hj⟩;by_cases e:j=p
 · subst e;rw[World.cell?_setCell_same _ _ _ (h.cell j hj),if_pos rfl]
 · rw[World.cell?_setCell_other _ _ _ _ (fun he=>e (by cases he;rfl)),h.cell j hj];simp[e]
theorem ColF.kept{w w':World}{K B n:Nat}{f:Nat→Nat}(h:ColF w B n f)(hb:Below K w w')(hB:B<K):ColF w' B n f:=by
 have e:=hb.block B hB;refine⟨fun j hj=>?_,fun j hj=>?_⟩
 · rw[←h.cell j hj];unfold World.cell?;simp only[e]
 · rw[←h.free j hj];unfold World.frozen?;simp only[e]
theorem ColF.lt{w:World}{B n:Nat}{f:Nat→Nat}(h:ColF w B n f)(hn:0<n):B<w.heap.size:=by
 have h1:=h.cell 0 hn;rcases Nat.lt_or_ge B w.heap.size with h' | h'
 · exact h'
 · simp[World.cell?,Array.getElem?_eq_none h']at h1
theorem ColF.clear{w:World}{B n:Nat}{f:Nat→Nat}(h:ColF w B n f):ColF (w.setCells B 0 (List.replicate n (.int .i64 0))) B n (fun _=>0):=by
 refine⟨fun j hj=>?_,fun j hj=>by rw[World.frozen?_setCells];exact h.free j hj⟩;have h1:=World.cell?_setCells_in B (List.replicate n (.int .i64 0)) 0 w (fun i hi=>by rw[Nat.zero_add,h.cell i (by simpa using hi)];rfl) j (by simpa using hj);rw[Nat.zero_add]at h1;rw[h1];simp
theorem zfl{B g:Nat}{a:World}(hg:B≤g):∀(vs:List Value) (o:Nat) (w:World),Below B a w→Below B a (w.setCells g o vs)
 | [],_,_,h=>h
 | v::r,o,w,h=>zfl hg r (o+1) _ (h.setCell (p:=⟨g,o,none⟩) hg v)
theorem znb(w:World):(zeroValue 3).run Tryz.prog w=.ok (.int .i64 0) w:=by kernel_rfl
theorem zij(x y B:Nat)(f0:Nat→Nat)(hs1:(nS x).size≤128)(hs2:(nS y).size≤128)(w:World)(h0:ColF w B 256 f0):Calls Tryz.prog 166 #[.string (nS x),.string (nS y),.pointer (some ⟨B,0,none⟩)] w (RetB B (.string (nS (x * y))) w):=by
 have hmx:x<256 ^ (nS x).size:=zf.1 nlr;have hmy:y<256 ^ (nS y).size:=zf.1 nlr;obtain⟨s,hs⟩:∃ s,nS x=s:=⟨_,rfl⟩;obtain⟨t,ht⟩:∃ t,nS y=t:=⟨_,rfl⟩;rw[hs]at hs1 hmx⊢;rw[ht]at hs2 hmy⊢;have HS:=Hq hs;have HT:=Hq ht;have HX:=Hq (show (nS x).size≤1000 from by rw[hs];omega);have HY:=Hq (show (nS y).size≤1000 from by rw[ht];omega);clear hs ht;obtain⟨a,ha⟩:∃ a,s.size=a:=⟨_,rfl⟩;obtain⟨b,hb⟩:∃ b,t.size=b:=⟨_,rfl⟩;rw[ha]at hs1 hmx;rw[hb]at hs2 hmy;have HMX:=Hq hmx;have HMY:=Hq hmy;have HXY:=Hq (show x * y<256 ^ (a+b)from by rw[Nat.pow_add];exact Nat.mul_lt_mul'' hmx hmy);have hmk:=fun(w:World)=>xr (a+b) (by omega) w;simp only[Int.natCast_add]at hmk;have hai:(s.size:Int)=(a:Int):=by omega
 have hbi:(t.size:Int)=(b:Int):=by omega
 have hcl:∀ ty,(Builtin.clear_ #[175] ty #[.slice (some ⟨B,0,none⟩) 256 256]).run Tryz.prog w=.ok (.tuple #[]) (w.setCells B 0 (List.replicate 256 (.int .i64 0))):=
  fun ty=>Lib.run_clear_slice w 175 3 ty (.int .i64 0) Tryz.underlying175 znb rfl rfl B 0 256 256 (by decide) (fun j hj=>by rw[Nat.zero_add,h0.cell j hj];rfl) (fun j hj=>by rw[Nat.zero_add];exact h0.free j hj)
 obtain⟨W1,hW1⟩:∃ W1,w.setCells B 0 (List.replicate 256 (.int .i64 0))=W1:=⟨_,rfl⟩;rw[hW1]at hcl;have HC1:=Hq (show ColF W1 B 256 (fun _=>0)from by rw[←hW1];exact h0.clear);have HB1:=Hq (show Below B w W1 from by rw[←hW1];exact zfl nlr _ _ _ blr);clear hmx hmy hW1 h0;go_enter Tryz.func166,Tryz.ntmps166;go_wp2_with (simp only[hcl]);clear hcl;go_loopw [19] (fun i wr=>∃(k:Nat) (f:Nat→Nat),k≤a∧i=.int .i64 k∧cs f (a+b) 0=x%256 ^ k * y∧(∀ p,f p≤8323200 * k)∧ColF wr B 256 f∧Below B w wr) (fun i _=>a - (intOf i).toNat);case atStart=>exact⟨0,fun _=>0,Nat.zero_le _,rfl,by rw[zmy,Nat.pow_zero,Nat.mod_one,Nat.zero_mul],fun p=>Nat.zero_le _,HC1.out,HB1.out⟩
 case round =>
  obtain⟨k,f,hk,rfl,hcs,hfb,hC,hB⟩:=hrel;have HC:=Hq hC;have HB:=Hq hB;have HCS:=Hq hcs;have HFB:=Hq hfb;clear hC hB hcs hfb;by_cases hlt:k<a
  · have HD:=Hq (xm x k HX.out);rw[HS.out]at HD;have hd1:=xk x k;obtain⟨d,hde⟩:∃ d,dig x k=d:=⟨_,rfl⟩;have HDE:=Hq hde;rw[hde]at hd1 HD;clear hde;go_wp2_with fail;refine(HD.out _).mono ?_;rintro e w1 ⟨rfl,rfl⟩;go_wp2;go_loopw [27] (fun i wr=>∃(j:Nat) (f:Nat→Nat),j≤b∧i=.int .i64 j∧cs f (a+b) 0=x%256 ^ k * y+dig x k * 256 ^ k * (y%256 ^ j)∧(∀ p,f p≤8323200 * k+65025 * j)∧ColF wr B 256 f∧Below B w wr) (fun i _=>b - (intOf i).toNat);case atStart=>exact⟨0,f,Nat.zero_le _,rfl,by rw[HCS.out,Nat.pow_zero,Nat.mod_one,Nat.mul_zero,Nat.add_zero],fun p=>by have:=HFB.out p;omega,HC.out,HB.out⟩
    case round =>
     obtain⟨j,f,hj,rfl,hcs,hfb,hC,hB⟩:=hrel;have HC:=Hq hC;have HB:=Hq hB;have HCS:=Hq hcs;have HFB:=Hq hfb;clear hC hB hcs hfb;by_cases hlt2:j<b
     · have HE:=Hq (xm y j HY.out);rw[HT.out]at HE;have hd2:=xk y j;obtain⟨e2,hee⟩:∃ d,dig y j=d:=⟨_,rfl⟩;have HEE:=Hq hee;rw[hee]at hd2 HE;clear hee;obtain⟨p,hp⟩:∃ p,k+j=p:=⟨_,rfl⟩;have hpi:(k:Int)+(j:Int)=(p:Int):=by omega
       have hpn:p<256:=by omega
       have hpab:p<a+b:=by omega
       have hpw:IntKind.i64.wrap (p:Int)=(p:Int):=by rw[IntKind.wrap_i64];omega
       have hp0:(0:Int)≤(p:Int):=by omega
       have hp1:(p:Int)<256:=by omega
       have c0:=HC.out.drew.cell p hpn;have hf0:=HC.out.drew.free p hpn;have hfv:=HFB.out p;obtain⟨v,hv⟩:∃ v,f p=v:=⟨_,rfl⟩;rw[hv]at c0 hfv;have HV:=Hq hv;obtain⟨m,hm⟩:∃ m,d * e2=m:=⟨_,rfl⟩;have hmi:(d:Int) * (e2:Int)=(m:Int):=by rw[←hm];simp
       have hm9:m≤65025:=(by rw[←hm];exact Nat.mul_le_mul (show d≤255 by omega) (show e2≤255 by omega));have HP:=Hq hp;have HM:=Hq hm;have HPAB:=Hq hpab;have HPN:=Hq hpn;clear hv hm hp;obtain⟨wd,hwd⟩:∃ wd,wr.drew=wd:=⟨_,rfl⟩;rw[hwd]at c0 hf0;go_wp2;refine zg 15 (Eq wd) (by kernel_rfl) ?_;intro hD;rw[hwd];refine qPD 0 30 15 rfl hD rfl ?_;clear hD;intro hD;simp only[Act.put,sqA,sqB,sqC];refine qPD 1 31 14 rfl hD rfl ?_;clear hD;intro hD;simp only[Act.put,sqA,sqB,sqC];refine qPD 2 32 13 rfl hD rfl ?_;clear hD;intro hD;simp only[Act.put,sqA,sqB,sqC];refine qPD 3 33 12 rfl hD rfl ?_;clear hD;intro hD;simp only[Act.put,sqA,sqB,sqC];refine qPD 4 34 11 rfl hD rfl ?_;clear hD;intro hD;simp only[Act.put,sqA,sqB,sqC];refine qPD 5 35 10 rfl hD rfl ?_;clear hD;intro hD;simp only[Act.put,sqA,sqB,sqC];refine qTD 6 36 9 rfl hD rfl (by intro w' hS';have e0:=(hS'▸c0);go_simp;with_reducible rfl) ?_;clear hD;intro hD;simp only[Act.put,sqA,sqB,sqC];refine qPD 7 37 8 rfl hD rfl ?_;clear hD;intro hD;simp only[Act.put,sqA,sqB,sqC];refine qPD 8 38 7 rfl hD rfl ?_;clear hD;intro hD;simp only[Act.put,sqA,sqB,sqC];refine qPD 9 39 6 rfl hD rfl ?_;clear hD;intro hD;simp only[Act.put,sqA,sqB,sqC];refine qPD 13 43 5 rfl hD rfl ?_;clear hD;intro hD;simp only[Act.put,sqA,sqB,sqC];refine rO 10 4 rfl hD ?_;clear hD;intro K10 hK10;go_wp2_with fail;refine(HE.out _).mono ?_;rintro e w1 ⟨rfl,rfl⟩;go_wp2;refine hK10 _ _ (by rfl) ?_;clear hK10;intro hS_9_10 hD;refine qPD 11 41 3 rfl hD hS_9_10 ?_;clear hD;intro hD;simp only[Act.put,sqA,sqB,sqC];refine qPD 12 42 2 rfl hD hS_9_10 ?_;clear hD;intro hD;simp only[Act.put,sqA,sqB,sqC];refine qPD 14 44 1 rfl hD hS_9_10 ?_;clear hD;intro hD;simp only[Act.put,sqA,sqB,sqC];refine ja (i:=15) (fuel:=0) (by kernel_rfl) rfl hD (by kernel_rfl) ?_;clear hD;intro K15 hK15;go_wp2;refine hK15 _ _ ?_;clear hK15;intro hD;refine ze (by kernel_rfl) ?_ 0;clear hD;go_wp2;go_roundw;case rel =>
        refine⟨j+1,fun q=>if q=p then f p+m else f q,by omega,by go_num,?_,fun q=>?_,?_,?_⟩
        · rw[zps,if_pos (by have:=HPAB.out;omega),HCS.out,←HM.out,←HDE.out,←HEE.out,←HP.out,Nat.sub_zero];exact zi0 rfl
        · have h1:=HFB.out q;have h2:=HFB.out p;by_cases e:q=p
          · simp only[if_pos e];omega
          · simp only[if_neg e];omega
        · rw[←hwd,show (v:Int)+(m:Int)=((f p+m:Nat):Int)from by rw[HV.out];omega];exact HC.out.drew.set HPN.out
        · rw[←hwd];exact(HB.out.drew).setCell (p:=⟨B,p,none⟩) nlr _
       case measure=>simp[intOf];omega
     · obtain rfl:j=b:=by omega
       have HROW:=Hq (show x%256 ^ k * y+dig x k * 256 ^ k * (y%256 ^ j)=x%256 ^ (k+1) * y from by rw[Nat.mod_eq_of_lt HMY.out];exact zli);go_wp2;go_roundw;case rel=>exact⟨k+1,f,by omega,by go_num,by rw[HCS.out,HROW.out],fun q=>by have:=HFB.out q;omega,HC.out,HB.out⟩
       case measure=>simp[intOf];omega
  · obtain rfl:k=a:=by omega
    have HV:=Hq (show cs f (k+b) 0=x * y from by rw[HCS.out,Nat.mod_eq_of_lt HMX.out]);have hgb:B<wr.heap.size:=HC.out.lt (by decide);go_wp2;obtain⟨V,hV⟩:∃ V,V=wr:=⟨_,rfl⟩;subst hV;go_loopw [12,55] (fun c i wr=>∃(z q:Nat),z≤k+b∧i=.int .i64 z∧c=.int .i64 q∧q≤8323200 * k∧x * y / 256 ^ z=cs f (k+b - z) z+q∧OutB wr V.heap.size (k+b) z (x * y)∧Below V.heap.size V wr) (fun _ i _=>k+b - (intOf i).toNat);case atStart=>exact⟨0,0,Nat.zero_le _,rfl,rfl,Nat.zero_le _,by rw[Nat.pow_zero,Nat.div_one,Nat.sub_zero,Nat.add_zero,HV.out],OutB.start _ _,(blr).alloc nlr _⟩
    case round =>
     obtain⟨z,q,hz,rfl,rfl,hq,hdiv,hO,hBq⟩:=hrel;have HO:=Hq hO;have HBQ:=Hq hBq;have HDV:=Hq hdiv;clear hO hBq hdiv;by_cases hlt3:z<k+b
     · obtain⟨j,hj⟩:∃ j,j+z+1=k+b:=⟨k+b - z - 1,by omega⟩;have hix:(k:Int)+(b:Int) - 1 - (z:Int)=(j:Int):=by omega
       have hjm:j<k+b:=by omega
       have c0:=(HC.out.kept HBQ.out hgb).cell z (by omega);obtain⟨u,hu⟩:=HO.out.cell hjm;have hf:=HO.out.free j;have hfz:=HFB.out z;have hst:=zjy (V:=x * y) (f:=f z) (r:=cs f j (z+1)) (q:=q) (i:=z) (by
        rw[HDV.out,show k+b - z=j+1 from by omega];simp only[cs]
        )
       obtain⟨v,hv⟩:∃ v,f z=v:=⟨_,rfl⟩;rw[hv]at c0 hfz hst;have HV2:=Hq hv;have HST:=Hq hst;have HJ:=Hq hj;clear hv hst hj;go_wp2;refine⟨⟨z+1,(v+q) / 256,by omega,by go_num,by go_num,by omega,?_,?_,HBQ.out.setCell (p:=⟨_,j,none⟩) nlr _⟩,by simp[intOf];omega⟩
       · rw[HST.out.1,show k+b - (z+1)=j from by have:=HJ.out;omega]
       · have h1:=HO.out.step (k:=j) (by have:=HJ.out;omega);rw[HST.out.2]at h1;have e1:((q:Int)+(v:Int))%256=(((v+q)%256:Nat):Int):=by omega
         rw[e1];exact h1
     · obtain rfl:z=k+b:=by omega
       have HBY:=Hq (HO.out.bytes (by omega));go_wp2_with fail;refine(ki _ _ _ _ _ HBY.out).mono ?_;rintro e w1 ⟨rfl,rfl⟩;rw[ko HXY.out];go_wp2;go_ret;exact⟨rfl,HB.out.trans (HBQ.out.mono (by omega))⟩
set_option maxRecDepth 100000
set_option maxHeartbeats 2000000
theorem zhj(xs ms:List ByteArray)(g c1 n1 B:Nat)(ad:Addr)(n2 c2:Nat)(w:World)(hown:w.ownsRow B 22 1 (.slice (some ⟨g,0,none⟩) n1 c1) n1 (xs.map Value.string))(hs:SlN w (some ad) n2 c2 ms)(hg:ad.block≠g)(hlb1:n1≤1000)(hlb2:n2≤1000)(h0:0<n2)(hB:B≤w.heap.size)
 (hv:∀(k:Nat) (s:ByteArray),(xs++ms)[k]? =some s→zd s=true) (hm:∀(k:Nat) (s:ByteArray),ms[k]? =some s→s.toList.isEmpty=false) :
 Calls Tryz.prog 113 #[.slice (some ⟨g,0,none⟩) n1 c1,.slice (some ad) n2 c2] w (RetB B (.int .i64 0) w):=by
 have hl2:=hs.1;have hlc2:=hs.2.1;have hmx2:=hs.2.2.1;have hcells:=hs.cells;have hgB:B≤g:=(hown.lt g rfl).1;have HC:=Hq hcells;have HOWN:=Hq hown;have HS:=Hq hs;have HV:=Hq hv;have HM:=Hq hm;have HL:=Hq (show (ms.map Value.string).length=n2 * 1 from by rw[List.length_map,hl2,Nat.mul_one]);obtain⟨i0,hi,iz0,iz1,iz2⟩:=info_parts kg;clear hcells hown hs hv hm hl2;go_enter Tryz.func113,Tryz.ntmps113;go_wp2_with (at_builtin;refine wpList_append_lies _ rfl (.tmp 9) (.tmp 10) 25 rfl B 22 i0 _ 1 16 Tryz.underlying25 hi iz0 iz1 iz2 rfl (by decide) _ n1 (xs.map Value.string) rfl HOWN.out ad n2 c2 (ms.map Value.string) rfl HL.out HC.out (zb0 ms) h0 ?n3 ?n4 hB _ rfl ?_);case n3=>unfold maxLen;omega
 case n4=>omega
 intro g2 cap2 w2 hown2 hgrow2 hat2 hlt2;have hb2:Below B w w2:=(blr).grown hgrow2 hB (fun k e=>by simp only[Value.ownBlock,Option.some.injEq]at e;omega);obtain⟨hl3,A3,c3,hv3,hs3⟩:=SlN.of_owns (l:=xs++ms) (by rw[List.map_append];exact hown2);simp only[Value.slice.injEq,true_and]at hv3;obtain⟨rfl,rfl⟩:=hv3;have hms2:SlN w2 (some ad) n2 c2 ms:=by
  refine⟨HS.out.1,HS.out.2.1,HS.out.2.2.1,?_⟩;obtain⟨b',o',h4,h5⟩:=HS.out.2.2.2;have e:=h4 h0;simp only[Option.some.injEq]at e;subst e;refine⟨b',o',fun _=>rfl,fun k s hk=>?_⟩;have hc:=h5 k s hk;rw[hgrow2.cell_far ⟨b',o'+k,none⟩ (World.block_lt_of_cell? _ _ hc) (by simp only[Value.ownBlock,ne_eq,Option.some.injEq];exact hg)];exact hc
 have HS3:=Hq hs3;have HL3:=Hq hl3;have HMS:=Hq hms2;have HB2:=Hq hb2;have hcap3:=hs3.2.1;have hcm3:=hs3.2.2.1;clear hown2 hgrow2 hat2 hlt2 hb2 hl3 hs3 hms2;go_wp2
 go_loop [13] (fun i=>∃ k:Nat,k≤n1+n2∧i=.int .i64 k) (fun i=>n1+n2 - (intOf i).toNat)
 case atStart=>exact⟨0,Nat.zero_le _,rfl⟩
 case round =>
  obtain⟨k,hk,rfl⟩:=hrel;by_cases hlt:k<n1+n2
  · obtain⟨s,he⟩:∃ s,(xs++ms)[k]? =some s:=⟨_,List.getElem?_eq_getElem (by rw[HL3.out];exact hlt)⟩;have c0:=HS3.out.get? k he;rw[Nat.zero_add]at c0;have hvs:=HV.out k s he;have hsz:s.size≤128:=by unfold zd at hvs;simp at hvs;exact hvs.1
    have HVS:=Hq hvs;clear he hvs;go_wp2_with fail;refine(zn s (by omega) _).mono ?_;rintro e w1 ⟨rfl,rfl⟩;rw[HVS.out];go_wp2;go_round;case rel=>exact⟨k+1,by omega,by go_num⟩
    case measure=>simp[intOf];omega
  · obtain rfl:k=n1+n2:=by omega
    go_wp2
    go_loop [23] (fun i=>∃ k:Nat,k≤n2∧i=.int .i64 k) (fun i=>n2 - (intOf i).toNat)
    case atStart=>exact⟨0,Nat.zero_le _,rfl⟩
    case round =>
     obtain⟨k,hk,rfl⟩:=hrel;by_cases hlt:k<n2
     · obtain⟨s,he⟩:∃ s,ms[k]? =some s:=⟨_,List.getElem?_eq_getElem (by rw[HMS.out.1];exact hlt)⟩;obtain⟨b',o',rfl'⟩:=HMS.out.head h0;have c0:w2.cell? (ad.add k)=some (.string s):=HMS.out.cells k _ (by rw[List.getElem?_map,he];rfl);have hem:=HM.out k s he;simp only[Option.some.injEq]at rfl';subst rfl';rw[zbb]at c0;clear he;go_wp2;go_round;case rel=>exact⟨k+1,by omega,by go_num⟩
       case measure=>simp[intOf];omega
     · obtain rfl:k=n2:=by omega
       go_wp2;go_ret;exact⟨rfl,HB2.out⟩
theorem zai(x m:Nat)(hx8:x<18446744073709551616)(hm:m<256 ^ 128)(h0:0<m)(w:World):Calls Tryz.prog 114 #[.string (nS x),.string (nS m)] w (Ret (.string (nS (x%m))) w):=by
 have HD:=Hq (ze9 x m hx8 hm h0);obtain⟨s,hs⟩:∃ s,nS x=s:=⟨_,rfl⟩;obtain⟨t,ht⟩:∃ t,nS m=t:=⟨_,rfl⟩;rw[hs,ht]at HD;rw[hs,ht];clear hs ht hm hx8;go_enter Tryz.func114,Tryz.ntmps114;go_wp2_with fail;refine(HD.out _).mono ?_;rintro e w1 ⟨rfl,hb⟩;have HB:=Hq hb;clear hb;go_wp2;go_ret;exact⟨rfl,HB.out⟩
theorem zdy(x y m:Nat)(hx8:x<18446744073709551616)(hy8:y<18446744073709551616)(hm8:m<18446744073709551616)(h0:0<m)(w:World):Calls Tryz.prog 116 #[.string (nS x),.string (nS y),.string (nS m)] w (Ret (.string (nS (x * y%m))) w):=by
 have hz1:=zo hx8;have hz2:=zo hy8;have hz3:=zo hm8;have HN1:=Hq (xn x hx8);have HN2:=Hq (xn y hy8);have HN3:=Hq (xn m hm8);have hx2:x%m<18446744073709551616:=Nat.lt_trans (Nat.mod_lt x h0) hm8;have hy2:y%m<18446744073709551616:=Nat.lt_trans (Nat.mod_lt y h0) hm8;have HX2:=Hq hx2;have HY2:=Hq hy2;obtain⟨p,hp⟩:∃ p,p=x%m * (y%m):=⟨_,rfl⟩;have hph:p / 18446744073709551616<18446744073709551616:=(by rw[Nat.div_lt_iff_lt_mul (by decide),hp];have h1:=Nat.mul_le_mul (Nat.le_of_lt hx2) (show y%m≤18446744073709551615 by omega);omega);have hpl:p%18446744073709551616<18446744073709551616:=Nat.mod_lt _ (by decide);have HR:=Hq (zk9 (p / 18446744073709551616) (p%18446744073709551616) m hph hm8 hpl h0);have HE:=Hq (show (p / 18446744073709551616 * 18446744073709551616+p%18446744073709551616)%m=x * y%m from by rw[Nat.mul_comm,Nat.div_add_mod,hp,←Nat.mul_mod]);have HO:=Hq (qe (x * y%m) (Nat.lt_trans (Nat.mod_lt _ h0) hm8));have HP:=Hq hp;have hm3:¬ (m=0):=by omega
 have hm2:(0:Int)<(m:Int):=by omega
 have hwx:IntKind.u64.wrap ((x:Int)%(m:Int))=(x:Int)%(m:Int):=jw (x%m) hx2;have hwy:IntKind.u64.wrap ((y:Int)%(m:Int))=(y:Int)%(m:Int):=jw (y%m) hy2;obtain⟨s,hs⟩:∃ s,nS x=s:=⟨_,rfl⟩;obtain⟨t,ht⟩:∃ t,nS y=t:=⟨_,rfl⟩;obtain⟨u,hu⟩:∃ u,nS m=u:=⟨_,rfl⟩;rw[hs]at hz1 HN1⊢;rw[ht]at hz2 HN2⊢;rw[hu]at hz3 HN3⊢;have i1:(s.size:Int)≤8:=by omega
 have i2:(t.size:Int)≤8:=by omega
 have i3:(u.size:Int)≤8:=by omega
 clear hs ht hu hx8 hy8 hm8 hx2 hy2 hp hph hpl hz1 hz2 hz3;go_enter Tryz.func116,Tryz.ntmps116;go_wp2_with fail;refine(HN1.out _).mono ?_;rintro e w1 ⟨rfl,rfl⟩;go_wp2_with fail;refine(HN2.out _).mono ?_;rintro e w1 ⟨rfl,rfl⟩;go_wp2_with fail;refine(HN3.out _).mono ?_;rintro e w1 ⟨rfl,rfl⟩;go_wp2;refine zg 12 (Below (w.drew).heap.size (w.drew)) (by kernel_rfl) ?_;intro hD;refine qP 0 11 rfl hD blr ?_;clear hD;intro hD;refine qP 1 10 rfl hD blr ?_;clear hD;intro hD;refine qP 2 9 rfl hD blr ?_;clear hD;intro hD;refine qP 3 8 rfl hD blr ?_;clear hD;intro hD;refine qP 4 7 rfl hD blr ?_;clear hD;intro hD;refine qP 5 6 rfl hD blr ?_;clear hD;intro hD;simp only[Act.put,sqA,sqB,sqC];refine zc (i:=6) (fuel:=5) (by kernel_rfl) rfl hD ?_;clear hD;intro K6 hK6;go_wp2_with fail;refine(Tryz.bits_Mul64 (x%m) (y%m) HX2.out HY2.out _).mono ?_;rintro e w6 ⟨rfl,rfl⟩;rw[←HP.out];go_wp2;refine hK6 _ _ (by exact Below.refl _ _) ?_;clear hK6;intro hS_5_6 hD;refine qP 7 4 rfl hD hS_5_6 ?_;clear hD;intro hD;refine qP 8 3 rfl hD hS_5_6 ?_;clear hD;intro hD;refine qP 9 2 rfl hD hS_5_6 ?_;clear hD;intro hD;simp only[Act.put,sqA,sqB,sqC];refine zc (i:=10) (fuel:=1) (by kernel_rfl) rfl hD ?_;clear hD;intro K10 hK10;go_wp2;refine hK10 _ _ (by exact hS_5_6) ?_;clear hK10;intro hS_5_10 hD;refine zc (i:=11) (fuel:=0) (by kernel_rfl) rfl hD ?_;clear hD;intro K11 hK11;go_wp2;refine hK11 _ _ (by exact hS_5_10) ?_;clear hK11;intro hS_5_11 hD;refine ze (by kernel_rfl) ?_ 0;clear hD;go_wp2_with fail;refine(HR.out _).mono ?_;rintro e w2 ⟨rfl,hb2⟩;rw[HE.out];have HB2:=Hq ((blr).drew.trans hb2);clear hb2;go_wp2_with fail;refine(HO.out _).mono ?_;rintro e w3 ⟨rfl,hb3⟩;have HB3:=Hq (HB2.out.trans (hb3.mono HB2.out.size));clear hb3;go_wp2;go_ret;exact⟨rfl,HB3.out⟩
theorem zhz(w:World)(a b m:ByteArray)(n:Nat)(hn:n=w.heap.size)(ha:zd a=true)(hb:zd b=true)(hm:zd m=true)(h0:m.toList.isEmpty=false)(n2:Nat)(hn2:n2=w.heap.size+1) :
 Calls Tryz.prog 113 #[.slice (some ⟨n,0,none⟩) 2 2,.slice (some ⟨n2,0,none⟩) 1 1] ((w.alloc (.cells #[.string a,.string b] 22)).alloc (.cells #[.string m] 22)) (RetB w.heap.size (.int .i64 0) ((w.alloc (.cells #[.string a,.string b] 22)).alloc (.cells #[.string m] 22))):=by
 subst hn hn2;have h1:=(zdw w [a,b] 22 w.heap.size nlr (by simp[maxLen])).alloc (.cells #[.string m] 22);have h2:=xv (w.alloc (.cells #[.string a,.string b] 22)) [m] 22 (by simp);rw[show (w.alloc (.cells #[.string a,.string b] 22)).heap.size=w.heap.size+1 from by simp]at h2;refine zhj [a,b] [m] _ 2 2 w.heap.size _ 1 1 _ h1 h2 (by simp) (by omega) (by omega) (by omega) (by simp;omega) ?_ ?_
 · intro k s hk;have:=List.mem_of_getElem? hk;simp only[List.cons_append,List.nil_append,List.mem_cons,List.mem_nil_iff,or_false]at this;rcases this with rfl | rfl | rfl
   · exact ha
   · exact hb
   · exact hm
 · intro k s hk;have:=List.mem_of_getElem? hk;simp only[List.mem_cons,List.mem_nil_iff,or_false]at this;rw[this];exact h0
theorem zmz(w:World)(a m:ByteArray)(n:Nat)(hn:n=w.heap.size)(ha:zd a=true)(hm:zd m=true)(h0:m.toList.isEmpty=false)(n2:Nat)(hn2:n2=w.heap.size+1) :
 Calls Tryz.prog 113 #[.slice (some ⟨n,0,none⟩) 1 1,.slice (some ⟨n2,0,none⟩) 1 1] ((w.alloc (.cells #[.string a] 22)).alloc (.cells #[.string m] 22)) (RetB w.heap.size (.int .i64 0) ((w.alloc (.cells #[.string a] 22)).alloc (.cells #[.string m] 22))):=by
 subst hn hn2;have h1:=(zdw w [a] 22 w.heap.size nlr (by simp[maxLen])).alloc (.cells #[.string m] 22);have h2:=xv (w.alloc (.cells #[.string a] 22)) [m] 22 (by simp);rw[show (w.alloc (.cells #[.string a] 22)).heap.size=w.heap.size+1 from by simp]at h2;refine zhj [a] [m] _ 1 1 w.heap.size _ 1 1 _ h1 h2 (by simp) (by omega) (by omega) (by omega) (by simp;omega) ?_ ?_
 · intro k s hk;have:=List.mem_of_getElem? hk;simp only[List.cons_append,List.nil_append,List.mem_cons,List.mem_nil_iff,or_false]at this;rcases this with rfl | rfl
   · exact ha
   · exact hm
 · intro k s hk;have:=List.mem_of_getElem? hk;simp only[List.mem_cons,List.mem_nil_iff,or_false]at this;rw[this];exact h0
theorem zqv(x y m:Nat)(hx8:x<18446744073709551616)(hy8:y<18446744073709551616)(hm8:m<18446744073709551616)(h0:0<m)(w:World):Calls Tryz.prog 62 #[.string (nS x),.string (nS y),.string (nS m)] w (Ret (.tuple #[.string (nS (x * y%m)),.int .i64 0]) w):=by
 have HC:=Hq (fun w=>zhz w (nS x) (nS y) (nS m) _ rfl (zz hx8) (zz hy8) (zz hm8) (zy h0) _ rfl);have HT:=Hq (zdy x y m hx8 hy8 hm8 h0);obtain⟨s,hs⟩:∃ s,nS x=s:=⟨_,rfl⟩;obtain⟨t,ht⟩:∃ t,nS y=t:=⟨_,rfl⟩;obtain⟨u,hu⟩:∃ u,nS m=u:=⟨_,rfl⟩;rw[hs,ht,hu]at HC HT;rw[hs,ht,hu];clear hs ht hu hx8 hy8 hm8;go_enter Tryz.func62,Tryz.ntmps62;go_wp2_with fail;refine(HC.out w).mono ?_;rintro e w1 ⟨rfl,hb1⟩;have HB1:=Hq ((((Below.refl w.heap.size w).alloc nlr _).alloc (by simp) _).trans hb1);clear hb1;go_wp2_with fail;refine(HT.out _).mono ?_;rintro e w2 ⟨rfl,hb2⟩;have HB2:=Hq (HB1.out.trans (hb2.mono HB1.out.size));clear hb2;go_wp2;go_ret2;exact⟨rfl,HB2.out⟩
set_option maxRecDepth 100000
def zV(b:Bool)(s:ByteArray):Value:=.agg #[.bool b,.string s]
def intV(z:Int):Value:=zV (decide (z<0)) (nS z.natAbs)
def jz(b:Bool)(s:ByteArray):Bool:=zd s && !(b&&s.toList.isEmpty)
theorem zhk(b:Bool)(s:ByteArray)(hs:s.size≤9223372036854775807)(w:World):Calls Tryz.prog 112 #[zV b s] w (Ret (.bool (jz b s)) w):=by
 have HV:=Hq (zn s hs);have HB:=Hq ((Below.refl w.heap.size w).alloc nlr (.cells #[.bool b,.string s] 78));unfold zV
 cases hv:zd s with
 | false =>
  have HR:=Hq (show jz b s=false from by unfold jz;rw[hv];rfl);rw[hv]at HV;clear hv;rw[HR.out];go_enter Tryz.func112,Tryz.ntmps112;go_wp2_with fail;refine(HV.out _).mono ?_;rintro e w1 ⟨rfl,rfl⟩;go_wp2;go_ret;exact⟨rfl,HB.out⟩
 | true =>
  have HR:=Hq (show jz b s = !(b&&s.toList.isEmpty)from by unfold jz;rw[hv,Bool.true_and]);rw[hv]at HV;clear hv;rw[HR.out]
  cases b with
  | false =>
   go_enter Tryz.func112,Tryz.ntmps112;go_wp2_with fail;refine(HV.out _).mono ?_;rintro e w1 ⟨rfl,rfl⟩;go_wp2;go_ret;exact⟨rfl,HB.out⟩
  | true =>
   go_enter Tryz.func112,Tryz.ntmps112;go_wp2_with fail;refine(HV.out _).mono ?_;rintro e w1 ⟨rfl,rfl⟩;go_wp2;go_ret;exact⟨rfl,HB.out⟩
theorem zds(b:Bool)(s:ByteArray)(hs:s.size≤9223372036854775807)(w:World):Calls Tryz.prog 81 #[zV b s] w (Ret (.bool (jz b s)) w):=by
 have HV:=Hq (zu s hs);have HB:=Hq ((Below.refl w.heap.size w).alloc nlr (.cells #[.bool b,.string s] 78));unfold zV
 cases hv:zd s with
 | false =>
  have HR:=Hq (show jz b s=false from by unfold jz;rw[hv];rfl);rw[hv]at HV;clear hv;rw[HR.out];go_enter Tryz.func81,Tryz.ntmps81;go_wp2_with fail;refine(HV.out _).mono ?_;rintro e w1 ⟨rfl,rfl⟩;go_wp2;go_ret;exact⟨rfl,HB.out⟩
 | true =>
  have HR:=Hq (show jz b s = !(b&&s.toList.isEmpty)from by unfold jz;rw[hv,Bool.true_and]);rw[hv]at HV;clear hv;rw[HR.out]
  cases b with
  | false =>
   go_enter Tryz.func81,Tryz.ntmps81;go_wp2_with fail;refine(HV.out _).mono ?_;rintro e w1 ⟨rfl,rfl⟩;go_wp2;go_ret;exact⟨rfl,HB.out⟩
  | true =>
   go_enter Tryz.func81,Tryz.ntmps81;go_wp2_with fail;refine(HV.out _).mono ?_;rintro e w1 ⟨rfl,rfl⟩;go_wp2;go_ret;exact⟨rfl,HB.out⟩
theorem zjx(w:World)(x y:Value)(T:TypeId):(w.alloc (.cells #[x,y] T)).cell? ⟨w.heap.size,0,none⟩=some x∧(w.alloc (.cells #[x,y] T)).cell? ⟨w.heap.size,1,none⟩=some y:=⟨by rw[Lib.cell_of_heap (heap_alloc_new _ _)];rfl,by rw[Lib.cell_of_heap (heap_alloc_new _ _)];rfl⟩
theorem zog(b:Bool)(s:ByteArray)(w:World):Calls Tryz.prog 111 #[.bool b,.string s] w (Ret (zV (b && !s.toList.isEmpty) s) w):=by
 unfold zV
 cases b with
 | false =>
  go_enter Tryz.func111,Tryz.ntmps111;go_wp2;obtain⟨q0,q1⟩:=zjx w (.bool false) (.string s) 78;exact bodyPost_ret (v:=.agg #[.bool (false && !s.toList.isEmpty),.string s]) (by simp[results,Tryz.results111,go_sem,q0,q1]) rfl ⟨rfl,(blr).alloc nlr _⟩
 | true =>
  go_enter Tryz.func111,Tryz.ntmps111;go_wp2;obtain⟨q0,q1⟩:=zjx w (.bool !s.toList.isEmpty) (.string s) 78;exact bodyPost_ret (v:=.agg #[.bool (true && !s.toList.isEmpty),.string s]) (by simp[results,Tryz.results111,go_sem,q0,q1]) rfl ⟨rfl,(blr).alloc nlr _⟩
theorem zfu(b:Bool)(s:ByteArray)(w:World):Calls Tryz.prog 79 #[.bool b,.string s] w (Ret (zV (b && !s.toList.isEmpty) s) w):=by
 unfold zV
 cases b with
 | false =>
  go_enter Tryz.func79,Tryz.ntmps79;go_wp2;obtain⟨q0,q1⟩:=zjx w (.bool false) (.string s) 78;exact bodyPost_ret (v:=.agg #[.bool (false && !s.toList.isEmpty),.string s]) (by simp[results,Tryz.results79,go_sem,q0,q1]) rfl ⟨rfl,(blr).alloc nlr _⟩
 | true =>
  go_enter Tryz.func79,Tryz.ntmps79;go_wp2;obtain⟨q0,q1⟩:=zjx w (.bool !s.toList.isEmpty) (.string s) 78;exact bodyPost_ret (v:=.agg #[.bool (true && !s.toList.isEmpty),.string s]) (by simp[results,Tryz.results79,go_sem,q0,q1]) rfl ⟨rfl,(blr).alloc nlr _⟩
def sg(b:Bool)(n:Nat):Int:=if b then -(n:Int)else n
theorem zd2(b:Bool)(n:Nat):zV (b && !(nS n).toList.isEmpty) (nS n)=intV (sg b n):=by
 unfold intV sg
 cases b with
 | false =>
  rw[if_neg (by decide),decide_eq_false (by omega)];rfl
 | true =>
  rw[if_pos rfl];rcases Nat.eq_zero_or_pos n with h | h
  · subst h;rw[jf (a:=nS 0) rfl];rfl
  · rw[zy h,decide_eq_true (by omega),Int.natAbs_neg];rfl
theorem kl(b:Bool)(n:Nat)(w:World):Calls Tryz.prog 111 #[.bool b,.string (nS n)] w (Ret (intV (sg b n)) w):=by
 rw[←zd2];exact zog b (nS n) w
theorem x8(b:Bool)(n:Nat)(w:World):Calls Tryz.prog 79 #[.bool b,.string (nS n)] w (Ret (intV (sg b n)) w):=by
 rw[←zd2];exact zfu b (nS n) w
theorem zd1(z:Int):intV z=zV (decide (z<0)) (nS z.natAbs):=rfl
theorem zet{z:Int}(h:z.natAbs<256 ^ 128):jz (decide (z<0)) (nS z.natAbs)=true:=by
 unfold jz;rw[zj.2 h,Bool.true_and];by_cases hz:z<0
 · rw[zy (by omega),Bool.and_false];rfl
 · rw[decide_eq_false hz];rfl
def Bx2(W:World)(B:Nat)(x y:Value)(T:TypeId):Prop:=W.heap[B]? =some (.cells #[x,y] T (0,0))
theorem Bx2.new(W:World)(x y:Value)(T:TypeId):Bx2 (W.alloc (.cells #[x,y] T)) W.heap.size x y T:=heap_alloc_new _ _
theorem Bx2.kept{W W':World}{K B:Nat}{x y:Value}{T:TypeId}(h:Bx2 W B x y T)(hb:Below K W W')(hB:B<K):Bx2 W' B x y T:=(hb.block B hB).trans h
theorem Bx2.lt{W:World}{B:Nat}{x y:Value}{T:TypeId}(h:Bx2 W B x y T):B<W.heap.size:=zw h
theorem Bx2.next{W W':World}{B:Nat}{x y:Value}{T:TypeId}(h:Bx2 W B x y T)(hb:Below W.heap.size W W'):Bx2 W' B x y T:=h.kept hb h.lt
theorem Bx2.c0{W:World}{B:Nat}{x y:Value}{T:TypeId}(h:Bx2 W B x y T):W.cell? ⟨B,0,none⟩=some x:=by rw[Lib.cell_of_heap h];rfl
theorem Bx2.c1{W:World}{B:Nat}{x y:Value}{T:TypeId}(h:Bx2 W B x y T):W.cell? ⟨B,1,none⟩=some y:=by rw[Lib.cell_of_heap h];rfl
theorem Bx2.f0{W:World}{B:Nat}{x y:Value}{T:TypeId}(h:Bx2 W B x y T):W.frozen? ⟨B,0,none⟩=false:=Lib.frozen_of_heap h 0
theorem Bx2.f1{W:World}{B:Nat}{x y:Value}{T:TypeId}(h:Bx2 W B x y T):W.frozen? ⟨B,1,none⟩=false:=Lib.frozen_of_heap h 1
theorem Bx2.set2{W:World}{B:Nat}{x y u v:Value}{T:TypeId}(h:Bx2 W B x y T):Bx2 ((W.setCell ⟨B,0,none⟩ u).setCell ⟨B,1,none⟩ v) B u v T:=zv (zv h u) v
theorem zdb(n:Nat)(hn:n<256 ^ 128)(w:World):Calls Tryz.prog 57 #[.string (nS n)] w (Ret (intV n) w):=by
 have HV:=Hq (zn (nS n) (by have:=zf.2 hn;omega));rw[zj.2 hn]at HV;have HM:=Hq (kl false n);obtain⟨s,hs⟩:∃ s,nS n=s:=⟨_,rfl⟩;have HI:=Hq (show intV (sg false n)=.agg #[.bool false,.string s]from by rw[←zd2,←hs];rfl);rw[HI.out]at HM;have HG:=Hq (show intV (n:Int)=.agg #[.bool false,.string s]from HI.out);rw[hs]at HV HM;rw[hs,HG.out];clear hs hn;go_enter Tryz.func57,Tryz.ntmps57;go_wp2_with fail;refine(HV.out _).mono ?_;rintro e w1 ⟨rfl,rfl⟩;go_wp2_with fail;refine(HM.out _).mono ?_;rintro e w1 ⟨rfl,hb1⟩;have hX:=(Bx2.new w (.bool false) (.string ⟨#[]⟩) 78).next hb1;have HB:=Hq (((Below.refl w.heap.size w).alloc nlr (.cells #[.bool false,.string ⟨#[]⟩] 78)).trans (hb1.mono (by simp)));have HX:=Hq hX;have c0:=hX.c0;have c1:=hX.c1;have f0:=hX.f0;have f1:=hX.f1;clear hX hb1;go_wp2;have hY:=HX.out.set2 (u:=.bool false) (v:=.string s);have q0:=hY.c0;have q1:=hY.c1;exact bodyPost_ret (v:=.agg #[.bool false,.string s]) (by simp[results,Tryz.results57,go_sem,q0,q1]) rfl ⟨rfl,(HB.out.setCell (p:=⟨w.heap.size,0,none⟩) nlr _).setCell (p:=⟨w.heap.size,1,none⟩) nlr _⟩
theorem zb4(n:Nat)(hn:n<256 ^ 128)(w:World):Calls Tryz.prog 130 #[.string (nS n)] w (Ret (intV n) w):=by
 have HV:=Hq (zu (nS n) (by have:=zf.2 hn;omega));rw[zj.2 hn]at HV;have HM:=Hq (x8 false n);obtain⟨s,hs⟩:∃ s,nS n=s:=⟨_,rfl⟩;have HI:=Hq (show intV (sg false n)=.agg #[.bool false,.string s]from by rw[←zd2,←hs];rfl);rw[HI.out]at HM;have HG:=Hq (show intV (n:Int)=.agg #[.bool false,.string s]from HI.out);rw[hs]at HV HM;rw[hs,HG.out];clear hs hn;go_enter Tryz.func130,Tryz.ntmps130;go_wp2_with fail;refine(HV.out _).mono ?_;rintro e w1 ⟨rfl,rfl⟩;go_wp2_with fail;refine(HM.out _).mono ?_;rintro e w1 ⟨rfl,hb1⟩;have hX:=(Bx2.new w (.bool false) (.string ⟨#[]⟩) 78).next hb1;have HB:=Hq (((Below.refl w.heap.size w).alloc nlr (.cells #[.bool false,.string ⟨#[]⟩] 78)).trans (hb1.mono (by simp)));have HX:=Hq hX;have c0:=hX.c0;have c1:=hX.c1;have f0:=hX.f0;have f1:=hX.f1;clear hX hb1;go_wp2;have hY:=HX.out.set2 (u:=.bool false) (v:=.string s);have q0:=hY.c0;have q1:=hY.c1;exact bodyPost_ret (v:=.agg #[.bool false,.string s]) (by simp[results,Tryz.results130,go_sem,q0,q1]) rfl ⟨rfl,(HB.out.setCell (p:=⟨w.heap.size,0,none⟩) nlr _).setCell (p:=⟨w.heap.size,1,none⟩) nlr _⟩
theorem zpd(n:Nat)(hn:n<1000)(w:World):Calls Tryz.prog 106 #[.int .i64 n] w (Ret (intV n) w):=by
 have HM:=Hq (kl false n);have HO:=Hq (qe n (by omega));obtain⟨s,hs⟩:∃ s,nS n=s:=⟨_,rfl⟩;have HI:=Hq (show intV (sg false n)=.agg #[.bool false,.string s]from by rw[←zd2,←hs];rfl);rw[HI.out]at HM;have HG:=Hq (show intV (n:Int)=.agg #[.bool false,.string s]from HI.out);rw[show bstr (encN n)=s from hs]at HO;rw[hs]at HM;rw[HG.out];clear hs;have h0:(0:Int)≤(n:Int):=by omega
 have hw:IntKind.u64.wrap (n:Int)=(n:Int):=jw n (by omega);go_enter Tryz.func106,Tryz.ntmps106;go_wp2_with fail;refine(HO.out _).mono ?_;rintro e w1 ⟨rfl,hb1⟩;have HX1:=Hq ((Bx2.new w (.bool false) (.string ⟨#[]⟩) 78).next hb1);have HB1:=Hq (((Below.refl w.heap.size w).alloc nlr (.cells #[.bool false,.string ⟨#[]⟩] 78)).trans (hb1.mono (by simp)));clear hb1;go_wp2_with fail;refine(HM.out _).mono ?_;rintro e w2 ⟨rfl,hb2⟩;have hX:=HX1.out.next hb2;have HB:=Hq (HB1.out.trans (hb2.mono HB1.out.size));have HX:=Hq hX;have c0:=hX.c0;have c1:=hX.c1;have f0:=hX.f0;have f1:=hX.f1;clear hX hb2;go_wp2;have hY:=HX.out.set2 (u:=.bool false) (v:=.string s);have q0:=hY.c0;have q1:=hY.c1;exact bodyPost_ret (v:=.agg #[.bool false,.string s]) (by simp[results,Tryz.results106,go_sem,q0,q1]) rfl ⟨rfl,(HB.out.setCell (p:=⟨w.heap.size,0,none⟩) nlr _).setCell (p:=⟨w.heap.size,1,none⟩) nlr _⟩
theorem zbs(z:Int)(h:z.natAbs<256 ^ 128)(w:World):Calls Tryz.prog 112 #[intV z] w (Ret (.bool true) w):=by
 have:=zhk (decide (z<0)) (nS z.natAbs) (by have:=zf.2 h;omega) w;rwa[zet h]at this
theorem jh(z:Int)(h:z.natAbs<256 ^ 128)(w:World):Calls Tryz.prog 81 #[intV z] w (Ret (.bool true) w):=by
 have:=zds (decide (z<0)) (nS z.natAbs) (by have:=zf.2 h;omega) w;rwa[zet h]at this
theorem zcc(x y:Int)(hx:x.natAbs<256 ^ 128)(hy:y.natAbs<256 ^ 128)(w:World):Calls Tryz.prog 110 #[intV x,intV y] w (Ret (.bool true) w):=by
 have HV1:=Hq (zbs x hx);have HV2:=Hq (zbs y hy);unfold intV zV at *;obtain⟨a,ha⟩:∃ a,decide (x<0)=a:=⟨_,rfl⟩;obtain⟨b,hb⟩:∃ b,decide (y<0)=b:=⟨_,rfl⟩;obtain⟨s,hs⟩:∃ s,nS x.natAbs=s:=⟨_,rfl⟩;obtain⟨t,ht⟩:∃ t,nS y.natAbs=t:=⟨_,rfl⟩;rw[ha,hs]at HV1;rw[hb,ht]at HV2;rw[ha,hs,hb,ht];clear ha hs hb ht hx hy;go_enter Tryz.func110,Tryz.ntmps110;go_wp2_with fail;refine(HV1.out _).mono ?_;rintro e w1 ⟨rfl,hb1⟩;have hY0:Bx2 ((w.alloc (.cells #[.bool a,.string s] 78)).alloc (.cells #[.bool b,.string t] 78)) (w.heap.size+1) (.bool b) (.string t) 78:=(by have:=Bx2.new (w.alloc (.cells #[.bool a,.string s] 78)) (.bool b) (.string t) 78;rwa[World.size_alloc]at this);have HB0:=Hq (((Below.refl w.heap.size w).alloc nlr (.cells #[.bool a,.string s] 78)).alloc (by simp) (.cells #[.bool b,.string t] 78));have hY1:=hY0.next hb1;have HB1:=Hq (HB0.out.trans (hb1.mono HB0.out.size));have c0:=hY1.c0;have c1:=hY1.c1;clear hb1 hY0 hY1;go_wp2_with fail;refine(HV2.out _).mono ?_;rintro e w2 ⟨rfl,hb2⟩;have HB2:=Hq (HB1.out.trans (hb2.mono HB1.out.size));clear hb2;go_wp2;go_ret;exact⟨rfl,HB2.out⟩
theorem zq4(z:Int)(hz:z.natAbs<256 ^ 128)(w:World):Calls Tryz.prog 167 #[intV z] w (Ret (intV (-z)) w):=by
 have HV:=Hq (zbs z hz);have HM:=Hq (kl (!decide (z<0)) z.natAbs);have HE:=Hq (show sg (!decide (z<0)) z.natAbs = -z from by
  unfold sg;by_cases h:z<0
  · rw[decide_eq_true h];simp;omega
  · rw[decide_eq_false h];simp;omega)
 rw[HE.out]at HM;unfold intV zV at *;obtain⟨a,ha⟩:∃ a,decide (z<0)=a:=⟨_,rfl⟩;obtain⟨s,hs⟩:∃ s,nS z.natAbs=s:=⟨_,rfl⟩;obtain⟨b,hb⟩:∃ b,decide (-z<0)=b:=⟨_,rfl⟩;obtain⟨t,ht⟩:∃ t,nS (-z).natAbs=t:=⟨_,rfl⟩;rw[ha,hs]at HV;rw[ha,hs,hb,ht]at HM;rw[ha,hs,hb,ht];clear ha hs hb ht hz HE;go_enter Tryz.func167,Tryz.ntmps167;go_wp2_with fail;refine(HV.out _).mono ?_;rintro e w1 ⟨rfl,hb1⟩;have HB0:=Hq (((Below.refl w.heap.size w).alloc nlr (.cells #[.bool a,.string s] 78)).alloc (by simp) (.cells #[.bool false,.string ⟨#[]⟩] 78));have hX1:=((Bx2.new w (.bool a) (.string s) 78).kept ((blr).alloc nlr (.cells #[.bool false,.string ⟨#[]⟩] 78)) (by simp)).next hb1;have hY0:Bx2 ((w.alloc (.cells #[.bool a,.string s] 78)).alloc (.cells #[.bool false,.string ⟨#[]⟩] 78)) (w.heap.size+1) (.bool false) (.string ⟨#[]⟩) 78:=by
  have:=Bx2.new (w.alloc (.cells #[.bool a,.string s] 78)) (.bool false) (.string ⟨#[]⟩) 78;rwa[World.size_alloc]at this
 have HY1:=Hq (hY0.next hb1);have HB1:=Hq (HB0.out.trans (hb1.mono HB0.out.size));have c0:=hX1.c0;have c1:=hX1.c1;clear hb1 hY0 hX1;go_wp2_with fail;refine(HM.out _).mono ?_;rintro e w2 ⟨rfl,hb2⟩;have hY2:=HY1.out.next hb2;have HY2:=Hq hY2;have HB2:=Hq (HB1.out.trans (hb2.mono HB1.out.size));have d0:=hY2.c0;have d1:=hY2.c1;have f0:=hY2.f0;have f1:=hY2.f1;clear hb2 hY2;go_wp2;have hY:=HY2.out.set2 (u:=.bool b) (v:=.string t);have q0:=hY.c0;have q1:=hY.c1;exact bodyPost_ret (v:=.agg #[.bool b,.string t]) (by simp[results,Tryz.results167,go_sem,q0,q1]) rfl ⟨rfl,(HB2.out.setCell (p:=⟨w.heap.size+1,0,none⟩) (by simp) _).setCell (p:=⟨w.heap.size+1,1,none⟩) (by simp) _⟩
set_option maxRecDepth 100000
set_option maxHeartbeats 1000000
theorem zgb(x y:Nat)(hx:x<18446744073709551616)(hy:y<18446744073709551616)(hp:x * y<18446744073709551616)(w:World):Calls Tryz.prog 105 #[.string (nS x),.string (nS y)] w (Ret (.tuple #[.string (nS (x * y)),.int .i64 0]) w):=by
 have hz1:=zo hx;have hz2:=zo hy;have HV1:=Hq (zz hx);have HV2:=Hq (zz hy);have HN1:=Hq (xn x hx);have HN2:=Hq (xn y hy);have HQ:=Hq (Tryz.bits_Mul64 x y hx hy);have HO:=Hq (qe (x * y) hp);have hh:x * y / 18446744073709551616=0:=Nat.div_eq_of_lt hp;have hl:x * y%18446744073709551616=x * y:=Nat.mod_eq_of_lt hp;obtain⟨p,hpe⟩:∃ p,x * y=p:=⟨_,rfl⟩;rw[hpe]at hh hl HO HQ;rw[hh,hl]at HQ;rw[hpe];have HH:=Hq hh;have HL:=Hq hl;have HPE:=Hq hpe;obtain⟨s,hs⟩:∃ s,nS x=s:=⟨_,rfl⟩;obtain⟨t,ht⟩:∃ t,nS y=t:=⟨_,rfl⟩;rw[hs]at hz1 HV1 HN1⊢;rw[ht]at hz2 HV2 HN2⊢;have i1:(s.size:Int)≤8:=by omega
 have i2:(t.size:Int)≤8:=by omega
 clear hs ht hx hy hp hpe hh hl;go_enter Tryz.func105,Tryz.ntmps105;go_wp2_with fail;refine(zn s (by omega) _).mono ?_;rintro e w1 ⟨rfl,rfl⟩;rw[HV1.out];go_wp2_with fail;refine(zn t (by omega) _).mono ?_;rintro e w1 ⟨rfl,rfl⟩;rw[HV2.out];go_wp2_with fail;refine(HN1.out _).mono ?_;rintro e w1 ⟨rfl,rfl⟩;go_wp2_with fail;refine(HN2.out _).mono ?_;rintro e w1 ⟨rfl,rfl⟩;go_wp2_with fail;refine(HQ.out _).mono ?_;rintro e w1 ⟨rfl,rfl⟩;go_wp2_with fail;refine(HO.out _).mono ?_;rintro e w3 ⟨rfl,hb3⟩;have HB3:=Hq hb3;clear hb3;go_wp2;go_ret2;exact⟨rfl,HB3.out⟩
theorem ze8{x y:Nat}(hx:x<256 ^ 128)(hy:y<256 ^ 128):ncmp (nS x) (nS y)=cmpI x y:=by
 unfold ncmp;rw[zj.2 hx,zj.2 hy,Bool.and_true,if_pos rfl,xl]
theorem Bx2.other{W:World}{B C k:Nat}{x y:Value}{T:TypeId}(h:Bx2 W B x y T)(hne:B≠C)(v:Value):Bx2 (W.setCell ⟨C,k,none⟩ v) B x y T:=(heap_setCell_other _ _ _ _ hne).trans h
theorem zll{x y:Int}(h:(decide (x<0)==decide (y<0))=false)(hge:y.natAbs≤x.natAbs):intV (sg (decide (x<0)) (x.natAbs - y.natAbs))=intV (x+y):=by
 congr 1;unfold sg;by_cases h1:x<0
 · by_cases h2:y<0
   · rw[decide_eq_true h1,decide_eq_true h2]at h;cases h
   · rw[decide_eq_true h1];simp;omega
 · by_cases h2:y<0
   · rw[decide_eq_false h1];simp;omega
   · rw[decide_eq_false h1,decide_eq_false h2]at h;cases h
theorem zqy{n:Nat}(h:n<256 ^ 100):n<256 ^ 128:=Nat.lt_of_lt_of_le h (Nat.pow_le_pow_right (by omega) (by omega))
end Go.Proofs.YtkfgdcgmlobhfaaGreat

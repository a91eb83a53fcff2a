import Derived.Test.YtdhnkmbjogmmkaaGreatDoorQCeF
set_option linter.unusedVariables false
set_option linter.unusedSimpArgs false
namespace Go.Proofs.YtdhnkmbjogmmkaaGreatDoor
set_option maxRecDepth 100000
set_option maxHeartbeats 4000000
open Go.RowKit
theorem allW_of{l:List Stp}{n:Nat}(hn:l.length=n)(h:∀ m s,m<n→l[m]? =some s→wfP s m):allW l:=fun i s hi=>h i s (by have:=(List.getElem?_eq_some_iff.1 hi).1;omega) hi
theorem ce_Check(l:List Stp)(hc:ShortC l)(A:Option Addr)(len cap:Nat)(w:World)(hs:SlT w A len cap l)(ht:TabAt w):Calls Tryz.prog 17 #[.agg #[.slice A len cap]] w (Ret (.int .i64 (chkC corC l)) w):=by
 obtain⟨W0,hW0⟩:∃ W,w.alloc (.cells #[.slice A len cap] 27)=W:=⟨_,rfl⟩;have hb0:Below w.heap.size w W0:=by rw[←hW0];exact(blr).alloc nlr _
 have HX0:=Hq (show BxT W0 w.heap.size #[.slice A len cap] 27 from by rw[←hW0];exact BxT.new _ _ _);have HB0:=Hq hb0;have HS0:=Hq (hs.kept hb0 nlr);have HT:=Hq (ht.kept hb0 nlr);have HL:=Hq hs.1;have HC:=Hq hc;have HLE:=Hq (show len≤20 from by rw[←hs.1];exact hc.len);have hcap:=hs.2.1;have hcap2:=hs.2.2.1;have x0:W0.cell? ⟨w.heap.size,0,none⟩=some (.slice A len cap):=HX0.out.cell 0;clear hs ht hc hb0;go_enter Tryz.func17,Tryz.ntmps17;go_wp2;try rw[hW0]
 clear hW0 x0;go_loopw [9] (fun k wr=>∃ j:Nat,j≤len∧k=.int .i64 j∧(∀ m s,m<j→l[m]? =some s→wfP s m)∧Below W0.heap.size W0 wr) (fun k _=>len - (intOf k).toNat);case atStart=>exact⟨0,Nat.zero_le _,rfl,fun m s h=>absurd h (Nat.not_lt_zero _),Below.refl _ _⟩
 case round =>
  obtain⟨j,hj,rfl,hall,hbw⟩:=hrel;have HALL:=Hq hall;have HBW:=Hq hbw;have HXR:=Hq (HX0.out.next hbw);clear hall hbw;have x0:wr.cell? ⟨w.heap.size,0,none⟩=some (.slice A len cap):=HXR.out.cell 0;by_cases hlt:j<len
  · obtain⟨s,he⟩:∃ s,l[j]? =some s:=⟨_,List.getElem?_eq_getElem (by rw[HL.out];exact hlt)⟩;have hm:=List.mem_of_getElem? he;have HWF:=Hq (ce_wellFormed l j s he ⟨HC.out.p s hm,HC.out.b s hm,by have:=HC.out.f s hm;omega⟩ A len cap wr (HS0.out.kept HBW.out nlr));have HE:=Hq he;clear he hm;by_cases hw:wfP s j
    · rw[wfB_true.2 hw]at HWF;have HA2:=Hq (show ∀ m t,m<j+1→l[m]? =some t→wfP t m from fun m t hm ht=>by
       rcases Nat.lt_or_ge m j with h | h
       · exact HALL.out m t h ht
       · obtain rfl:m=j:=by omega
         rw[HE.out]at ht;cases ht
         exact hw)
      clear hw;go_wp2_with fail;refine HWF.out.mono ?_;rintro e w1 ⟨rfl,hb⟩;have HB1:=Hq (HBW.out.trans (hb.mono HBW.out.size));clear hb x0;go_wp2;go_roundw;case rel=>exact⟨j+1,by omega,by go_num,HA2.out,HB1.out⟩
      case measure=>simp[intOf];omega
    · rw[wfB_false hw]at HWF;have HR:=Hq (show chkC corC l=3 from chkC_form (fun h=>hw (h.1 j s HE.out)));clear hw;go_wp2_with fail;refine HWF.out.mono ?_;rintro e w1 ⟨rfl,hb⟩;have HB1:=Hq (HBW.out.trans (hb.mono HBW.out.size));clear hb x0;go_wp2;go_ret;exact⟨by show Ending.returned (.int .i64 3)=_;rw[HR.out],HB0.out.trans (HB1.out.mono HB0.out.size)⟩
  · obtain rfl:j=len:=by omega
    have HW:=Hq (allW_of HL.out HALL.out);have HBR:=Hq (HB0.out.trans (HBW.out.mono HB0.out.size));have HSR:=Hq (HS0.out.kept HBW.out nlr);have HTR:=Hq (HT.out.kept HBW.out nlr);clear hlt hj HALL HX0 HS0 HT HBW HB0;by_cases h0:j=0
    · have HR:=Hq (show chkC corC l=3 from chkC_form (fun h=>h.2 (List.length_eq_zero_iff.1 (HL.out.trans h0))));have hz':((j:Int)==0)=true:=by rw[h0];rfl
      clear h0;go_wp2;go_ret;exact⟨by show Ending.returned (.int .i64 3)=_;rw[HR.out],HBR.out⟩
    · have hz':((j:Int)==0)=false:=by rw[beq_eq_false_iff_ne];omega
      have hz2:decide ((256:Int)<(j:Int))=false:=decide_eq_false (by have:=HLE.out;omega);have hz3:decide (256<j)=false:=decide_eq_false (by have:=HLE.out;omega);have hz4:¬ ((j:Int)=0):=by omega
      have HNE:=Hq (show l≠[]from fun h=>h0 (by rw[←HL.out,h];rfl));clear h0;obtain⟨V,hV⟩:∃ V,V=wr:=⟨_,rfl⟩;subst hV;go_wp2;clear x0;go_loopw [31] (fun k wr=>∃ i:Nat,i≤j∧k=.int .i64 i∧(∀ m,m<i→stC corC l m=true)∧Below V.heap.size V wr) (fun k _=>j - (intOf k).toNat);case atStart=>exact⟨0,Nat.zero_le _,rfl,fun m h=>absurd h (Nat.not_lt_zero _),Below.refl _ _⟩
      case round =>
       obtain⟨i,hi,rfl,hall,hbw⟩:=hrel;have HALL:=Hq hall;have HBW:=Hq hbw;have HX2:=Hq (HXR.out.next hbw);clear hall hbw;by_cases hlt:i<j
       · obtain⟨s,he⟩:∃ s,l[i]? =some s:=⟨_,List.getElem?_eq_getElem (by rw[HL.out];exact hlt)⟩;obtain⟨b,o,rfl,A1,n1,c1,x1,x2,x3,hsf⟩:=(HSR.out.kept HBW.out nlr).get he;obtain⟨W1,hW1⟩:∃ W,wr.alloc (.cells #[.string s.p,.string s.b,.slice A1 n1 c1] 36)=W:=⟨_,rfl⟩;have hb1:Below wr.heap.size wr W1:=by rw[←hW1];exact(blr).alloc nlr _
         have HY:=Hq (show BxT W1 wr.heap.size #[.string s.p,.string s.b,.slice A1 n1 c1] 36 from by rw[←hW1];exact BxT.new _ _ _);have HBV:=Hq (HBW.out.trans (hb1.mono HBW.out.size));have HCO:=Hq (ce_correct l HC.out HW.out i s he (some ⟨b,o,none⟩) j cap A1 n1 c1 W1 (HSR.out.kept HBV.out nlr) (hsf.kept hb1 nlr) (HTR.out.kept HBV.out nlr));have HXV:=Hq (HXR.out.next HBV.out);have HE:=Hq he;clear hsf he hb1;have z0:W1.cell? ⟨w.heap.size,0,none⟩=some (.slice (some ⟨b,o,none⟩) j cap):=HXV.out.cell 0;have y0:W1.cell? ⟨wr.heap.size,0,none⟩=some (.string s.p):=HY.out.cell 0;have y1:W1.cell? ⟨wr.heap.size,1,none⟩=some (.string s.b):=HY.out.cell 1;have y2:W1.cell? ⟨wr.heap.size,2,none⟩=some (.slice A1 n1 c1):=HY.out.cell 2
         cases hst:stC corC l i with
         | true =>
          rw[hst]at HCO;have HA2:=Hq (show ∀ m,m<i+1→stC corC l m=true from fun m hm=>by
           rcases Nat.lt_or_ge m i with h | h
           · exact HALL.out m h
           · obtain rfl:m=i:=by omega
             exact hst)
          clear hst;go_wp2_with fail;try rw[hW1]
          clear hW1;refine HCO.out.mono ?_;rintro e w2 ⟨rfl,hb⟩;have HB2:=Hq (HBV.out.trans (hb.mono HBV.out.size));clear hb x1 x2 x3 z0 y0 y1 y2;go_wp2;go_roundw;case rel=>exact⟨i+1,by omega,by go_num,HA2.out,HB2.out⟩
          case measure=>simp[intOf];omega
         | false =>
          rw[hst]at HCO;have HR:=Hq (show chkC corC l=12 from chkC_bad HW.out HNE.out (fun h=>by have:=h i (by have:=HL.out;omega);rw[hst]at this;cases this));clear hst;go_wp2_with fail;try rw[hW1]
          clear hW1;refine HCO.out.mono ?_;rintro e w2 ⟨rfl,hb⟩;have HB2:=Hq (HBV.out.trans (hb.mono HBV.out.size));clear hb x1 x2 x3 z0 y0 y1 y2;go_wp2;go_ret;exact⟨by show Ending.returned (.int .i64 12)=_;rw[HR.out],HBR.out.trans (HB2.out.mono HBR.out.size)⟩
       · obtain rfl:i=j:=by omega
         have HR:=Hq (show chkC corC l=0 from chkC_ok HW.out HNE.out (fun m hm=>HALL.out m (by rw[←HL.out];exact hm)));go_wp2;go_ret;exact⟨by show Ending.returned (.int .i64 0)=_;rw[HR.out],HBR.out.trans (HBW.out.mono HBR.out.size)⟩
set_option maxRecDepth 100000
set_option maxHeartbeats 1000000
def lastP(l:List Stp):ByteArray:=match l[l.length - 1]? with | some s=>s.p | none=>⟨#[]⟩
theorem lastP_nil{l:List Stp}(h:l.length=0):lastP l=⟨#[]⟩:=by
 rw[List.length_eq_zero_iff.1 h];rfl
theorem lastP_at{l:List Stp}{j:Nat}{s:Stp}(hl:l.length=j+1)(h:l[j]? =some s):lastP l=s.p:=by
 unfold lastP;rw[hl,Nat.add_sub_cancel,h]
noncomputable def cfR(C:Nat→Nat→List Nat→Bool)(M O:ByteArray)(p q:List Stp):Int:=
 if (nvalid M&&nvalid O)=false then 3 else if ¬ chkC C p=0 then chkC C p else if ¬ chkC C q=0 then chkC C q else if ¬ (lastP p=M∧lastP q=O)then 12 else if (num M - 1)%num O=0 then 0 else 13
theorem cfR_same(M O:ByteArray)(p q:List Stp):cfR corR M O p q=cfR corC M O p q:=by unfold cfR;rw[chkC_same,chkC_same]
theorem chkC_last{C:Nat→Nat→List Nat→Bool}{l:List Stp}(h:chkC C l=0):nvalid (lastP l)=true∧2≤num (lastP l):=by
 by_cases hw:allW l∧l≠[]
 · obtain⟨j,hj⟩:∃ j,l.length=j+1:=⟨l.length - 1,by have:=List.length_pos_iff.2 hw.2;omega⟩;obtain⟨s,hs⟩:∃ s,l[j]? =some s:=⟨_,List.getElem?_eq_getElem (by omega)⟩;rw[lastP_at hj hs];exact⟨(hw.1 j s hs).1,(hw.1 j s hs).2.1⟩
 · rw[chkC_form hw]at h;cases h
theorem pg_last(l:List Stp)(A:Option Addr)(len cap:Nat)(w:World)(hs:SlT w A len cap l):Calls Tryz.prog 18 #[.agg #[.slice A len cap]] w (Ret (.string (lastP l)) w):=by
 obtain⟨W0,hW0⟩:∃ W,w.alloc (.cells #[.slice A len cap] 27)=W:=⟨_,rfl⟩;have hb0:Below w.heap.size w W0:=by rw[←hW0];exact(blr).alloc nlr _
 have HX0:=Hq (show BxT W0 w.heap.size #[.slice A len cap] 27 from by rw[←hW0];exact BxT.new _ _ _);have HB0:=Hq hb0;have HS0:=Hq (hs.kept hb0 nlr);have HL:=Hq hs.1;have hcap:=hs.2.1;have hcap2:=hs.2.2.1;have x0:W0.cell? ⟨w.heap.size,0,none⟩=some (.slice A len cap):=HX0.out.cell 0;clear hs hb0;rcases Nat.eq_zero_or_pos len with h0 | h0
 · have hz':((len:Int)==0)=true:=by rw[h0];rfl
   have HR:=Hq (lastP_nil (HL.out.trans h0));clear h0;go_enter Tryz.func18,Tryz.ntmps18;go_wp2;try rw[hW0]
   go_ret;exact⟨by show Ending.returned (.string ⟨#[]⟩)=_;rw[HR.out],HB0.out⟩
 · obtain⟨j,rfl⟩:∃ j,len=j+1:=⟨len - 1,by omega⟩;obtain⟨s,he⟩:∃ s,l[j]? =some s:=⟨_,List.getElem?_eq_getElem (by rw[HL.out];omega)⟩;obtain⟨b,o,rfl,A1,n1,c1,x1,_⟩:=HS0.out.get he;have HR:=Hq (lastP_at HL.out he);have hjj:((j+1:Nat):Int)=(j:Int)+1:=rfl;have hj1:(j:Int)+1 - 1=j:=by omega
   have hw1:IntKind.i64.wrap (j:Int)=j:=by rw[IntKind.wrap_i64];omega
   have hz':¬ ((j:Int)+1=0):=by omega
   have hj4:(j:Int)<(j:Int)+1:=by omega
   have hj5:j<j+1:=by omega
   clear he h0;go_enter Tryz.func18,Tryz.ntmps18;go_wp2;try rw[hW0]
   go_ret;exact⟨by show Ending.returned (.string s.p)=_;rw[HR.out],HB0.out⟩
theorem pg_cofactorL(m q:Nat)(hm:1≤m)(hm8:m<256 ^ 128)(hq:1≤q)(hq8:q<256 ^ 128)(w:World):Calls Tryz.prog 19 #[gV (nS m) (nS q)] w (Ret (.tuple #[.string (nS ((m - 1) / q)),.bool (decide ((m - 1)%q=0))]) w):=by
 have HS:=Hq (nat_Sub_ge m 1 hm8 (by decide) hm);have HD:=Hq (nat_DivModA (m - 1) q (by omega) hq8 hq);have hq0:=empty_nS (n:=q) hq;rw[nS_one]at HS;have HZ:=Hq (show (nS ((m - 1)%q)).toList.isEmpty=decide ((m - 1)%q=0)from by
  cases e:decide ((m - 1)%q=0)with
  | true=>rw[of_decide_eq_true e];exact sempty_true rfl
  | false=>exact empty_nS (by have:=of_decide_eq_false e;omega))
 obtain⟨s,hs⟩:∃ s,nS m=s:=⟨_,rfl⟩;obtain⟨t,ht⟩:∃ t,nS q=t:=⟨_,rfl⟩;obtain⟨u,hu⟩:∃ u,nS (m - 1)=u:=⟨_,rfl⟩;obtain⟨r,hr⟩:∃ r,nS ((m - 1)%q)=r:=⟨_,rfl⟩;rw[hs,hu]at HS;rw[hu,ht,hr]at HD;rw[ht]at hq0;rw[hr]at HZ;rw[hs,ht,←HZ.out];clear hs ht hu hr hm hm8 hq hq8;have HX0:=Hq (Bx2.new w (.string s) (.string t) 24);have HB0:=Hq ((Below.refl w.heap.size w).alloc nlr (.cells #[.string s,.string t] 24));have c0:=HX0.out.c0;unfold gV;go_enter Tryz.func19,Tryz.ntmps19;go_wp2_with fail;refine(HS.out _).mono ?_;rintro e w1 ⟨rfl,hb1⟩;have HX1:=Hq (HX0.out.next hb1);have HB1:=Hq (HB0.out.trans (hb1.mono HB0.out.size));clear hb1 c0;have c1:=HX1.out.c1;go_wp2_with fail;refine(HD.out _).mono ?_;rintro e w2 ⟨rfl,hb2⟩;have HB2:=Hq (HB1.out.trans (hb2.mono HB1.out.size));clear hb2;go_wp2;go_ret2;exact⟨rfl,HB2.out⟩
theorem r09_divides_ofL(m q:Nat)(hm:1≤m)(hm8:m<256 ^ 128)(hq:1≤q)(hov:∀ w,Calls Tryz.prog 39 #[.string (nS (m - 1)),.string (nS q)] w (Ret (.tuple #[.string (nS ((m - 1) / q)),.string (nS ((m - 1)%q))]) w))(w:World):Calls Tryz.prog 23 #[gV (nS m) (nS q)] w (Ret (.bool (decide ((m - 1)%q=0))) w):=by
 have hz1:=nS_size_le.2 hm8;have HS:=Hq (r01_Minus m 1 (by omega) hm);have HD:=Hq hov;clear hov;have hm0:=empty_nS (n:=m) hm;rw[nS_one]at HS;have HZ:=Hq (show (nS ((m - 1)%q)).toList.isEmpty=decide ((m - 1)%q=0)from by
  cases e:decide ((m - 1)%q=0)with
  | true=>rw[of_decide_eq_true e];exact sempty_true rfl
  | false=>exact empty_nS (by have:=of_decide_eq_false e;omega))
 obtain⟨s,hs⟩:∃ s,nS m=s:=⟨_,rfl⟩;obtain⟨t,ht⟩:∃ t,nS q=t:=⟨_,rfl⟩;obtain⟨u,hu⟩:∃ u,nS (m - 1)=u:=⟨_,rfl⟩;obtain⟨r,hr⟩:∃ r,nS ((m - 1)%q)=r:=⟨_,rfl⟩;obtain⟨dv,hdv⟩:∃ d,nS ((m - 1) / q)=d:=⟨_,rfl⟩;rw[hs,hu]at HS;rw[hu,ht,hr,hdv]at HD;rw[hs]at hm0;rw[hr]at HZ;rw[hs,ht,←HZ.out];clear hs ht hu hr hm hm8 hq hz1 hdv;have HX0:=Hq (Bx2.new w (.string s) (.string t) 24);have HB0:=Hq ((Below.refl w.heap.size w).alloc nlr (.cells #[.string s,.string t] 24));have c0:=HX0.out.c0;have c1:=HX0.out.c1;unfold gV;go_enter Tryz.func23,Tryz.ntmps23;go_wp2;obtain⟨wd,hwd⟩:∃ wd,(w.alloc (.cells #[.string s,.string t] 24)).drew=wd:=⟨_,rfl⟩;have HBd:=Hq (show Below w.heap.size w wd from by rw[←hwd];exact HB0.out.drew);obtain⟨d0,d1⟩:wd.cell? ⟨w.heap.size,0,none⟩=some (.string s)∧wd.cell? ⟨w.heap.size,1,none⟩=some (.string t):=by rw[←hwd];exact⟨HX0.out.c0,HX0.out.c1⟩
 clear c0 c1;refine wp_region_K 5 (Below (wd).heap.size (wd)) (by kernel_rfl) ?_;intro hD;rw[hwd];refine qP 0 10 rfl hD blr ?_;clear hD;intro hD;refine qT 1 9 rfl hD blr (by intro w' hS';have e0:=kc hS' d0;have e1:=kc hS' d1;go_simp;with_reducible rfl) ?_;clear hD;intro hD;refine qP 3 8 rfl hD blr ?_;clear hD;intro hD;refine qT 4 7 rfl hD blr (by intro w' hS';have e0:=kc hS' d0;have e1:=kc hS' d1;go_simp;with_reducible rfl) ?_;clear hD;intro hD;simp only[Act.put,sqA,sqB,sqC];refine rO 2 6 rfl hD ?_;clear hD;intro K2 hK2;go_wp2_with fail;refine(HS.out _).mono ?_;rintro ev w3 ⟨rfl,hb3⟩;have HB2:=Hq hb3;clear hb3;go_wp2;refine hK2 _ _ (by exact HB2.out) ?_;clear hK2;intro hS_3_2 hD;refine wpAnyK_oneT (i:=5) (fuel:=5) (by kernel_rfl) rfl hD (by kernel_rfl) ?_;clear hD;intro K5 hK5;go_wp2_with fail;refine(HD.out _).mono ?_;rintro ev w4 ⟨rfl,hb4⟩;have HB5:=Hq hb4;clear hb4;go_wp2;refine hK5 _ _ ?_;clear hK5;intro hD;refine wpAnyK_pureT (i:=6) (v:=?v3_6b1) (fuel:=4) rfl (by kernel_rfl) (by kernel_rfl) (fun _ _ _ h=>h) hD (.inl ⟨by kernel_rfl,?y3_6b1⟩) ?n3_6b1
 case y3_6b1=>intro w' _;go_simp;with_reducible rfl
 clear hD;intro hD;simp only[Act.put,sqA,sqB,sqC];refine wpAnyK_pureT (i:=7) (v:=?v3_7b1) (fuel:=3) rfl (by kernel_rfl) (by kernel_rfl) (fun _ _ _ h=>h) hD (.inl ⟨by kernel_rfl,?y3_7b1⟩) ?n3_7b1
 case y3_7b1=>intro w' _;go_simp;with_reducible rfl
 clear hD;intro hD;simp only[Act.put,sqA,sqB,sqC];refine wpAnyK_pureT (i:=8) (v:=?v3_8b1) (fuel:=2) rfl (by kernel_rfl) (by kernel_rfl) (fun _ _ _ h=>h) hD (.inl ⟨by kernel_rfl,?y3_8b1⟩) ?n3_8b1
 case y3_8b1=>intro w' _;go_simp;with_reducible rfl
 clear hD;intro hD;simp only[Act.put,sqA,sqB,sqC];refine wpAnyK_oneT (i:=9) (fuel:=1) (by kernel_rfl) rfl hD (by kernel_rfl) ?_;clear hD;intro K9 hK9;go_wp2;refine hK9 _ _ ?_;clear hK9;intro hD;refine wpAnyK_oneT (i:=10) (fuel:=0) (by kernel_rfl) rfl hD (by kernel_rfl) ?_;clear hD;intro K10 hK10;go_wp2;refine hK10 _ _ ?_;clear hK10;intro hD;refine wpAnyK_done (by kernel_rfl) ?_ 0;clear hD;go_wp2;go_ret;exact⟨rfl,HBd.out.trans ((HB2.out.trans (HB5.out.mono HB2.out.size)).mono HBd.out.size)⟩
end Go.Proofs.YtdhnkmbjogmmkaaGreatDoor

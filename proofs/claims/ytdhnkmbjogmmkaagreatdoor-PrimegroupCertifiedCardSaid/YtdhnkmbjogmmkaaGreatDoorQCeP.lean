import Derived.Test.YtdhnkmbjogmmkaaGreatDoorQCeO
import Derived.Test.YtdhnkmbjogmmkaaGreatDoorQCeI
set_option linter.unusedVariables false
set_option linter.unusedSimpArgs false
namespace Go.Proofs.YtdhnkmbjogmmkaaGreatDoor
set_option maxRecDepth 100000
set_option maxHeartbeats 4000000
open Go.RowKit
theorem r07_Check(l:List Stp)(hc:ShortC l)(A:Option Addr)(len cap:Nat)(w:World)(hs:SlT w A len cap l):Calls Tryz.prog 21 #[.agg #[.slice A len cap]] w (Ret (.int .i64 (chkC corR l)) w):=by
 obtain⟨W0,hW0⟩:∃ W,w.alloc (.cells #[.slice A len cap] 27)=W:=⟨_,rfl⟩;have hb0:Below w.heap.size w W0:=by rw[←hW0];exact(blr).alloc nlr _
 have HX0:=Hq (show BxT W0 w.heap.size #[.slice A len cap] 27 from by rw[←hW0];exact BxT.new _ _ _);have HB0:=Hq hb0;have HS0:=Hq (hs.kept hb0 nlr);have HL:=Hq hs.1;have HC:=Hq hc;have HLE:=Hq (show len≤20 from by rw[←hs.1];exact hc.len);have hcap:=hs.2.1;have hcap2:=hs.2.2.1;clear hs hc hb0;go_enter Tryz.func21,Tryz.ntmps21;go_wp2;try rw[hW0]
 clear hW0;go_loopw [3] (fun k wr=>∃ j:Nat,j≤len∧k=.int .i64 j∧(∀ m s,m<j→l[m]? =some s→wfP s m)∧Below W0.heap.size W0 wr) (fun k _=>len - (intOf k).toNat);case atStart=>exact⟨0,Nat.zero_le _,rfl,fun m s h=>absurd h (Nat.not_lt_zero _),Below.refl _ _⟩
 case round =>
  obtain⟨j,hj,rfl,hall,hbw⟩:=hrel;have HALL:=Hq hall;have HBW:=Hq hbw;have HXR:=Hq (HX0.out.next hbw);clear hall hbw;have x0:wr.cell? ⟨w.heap.size,0,none⟩=some (.slice A len cap):=HXR.out.cell 0;by_cases hlt:j<len
  · obtain⟨s,he⟩:∃ s,l[j]? =some s:=⟨_,List.getElem?_eq_getElem (by rw[HL.out];exact hlt)⟩;have hm:=List.mem_of_getElem? he;obtain⟨b,o,rfl,A1,n1,c1,y0,y1,y2,hsf⟩:=(HS0.out.kept HBW.out nlr).get he;have HWF:=Hq (r07_formed j s ⟨HC.out.p s hm,HC.out.b s hm,by have:=HC.out.f s hm;omega⟩ A1 n1 c1 wr hsf);have HE:=Hq he;clear he hm hsf;by_cases hw:wfP s j
    · rw[wfB_true.2 hw]at HWF;have HA2:=Hq (show ∀ m t,m<j+1→l[m]? =some t→wfP t m from fun m t hm ht=>by
       rcases Nat.lt_or_ge m j with h | h
       · exact HALL.out m t h ht
       · obtain rfl:m=j:=by omega
         rw[HE.out]at ht;cases ht
         exact hw)
      clear hw;go_wp2_with fail;refine HWF.out.mono ?_;rintro e w1 ⟨rfl,hb⟩;have HB1:=Hq (HBW.out.trans (hb.mono HBW.out.size));clear hb x0 y0 y1 y2;go_wp2;go_roundw;case rel=>exact⟨j+1,by omega,by go_num,HA2.out,HB1.out⟩
      case measure=>simp[intOf];omega
    · rw[wfB_false hw]at HWF;have HR:=Hq (show chkC corR l=3 from chkC_form (fun h=>hw (h.1 j s HE.out)));clear hw;go_wp2_with fail;refine HWF.out.mono ?_;rintro e w1 ⟨rfl,hb⟩;have HB1:=Hq (HBW.out.trans (hb.mono HBW.out.size));clear hb x0 y0 y1 y2;go_wp2;go_ret;exact⟨by show Ending.returned (.int .i64 3)=_;rw[HR.out],HB0.out.trans (HB1.out.mono HB0.out.size)⟩
  · obtain rfl:j=len:=by omega
    have HW:=Hq (allW_of HL.out HALL.out);have HBR:=Hq (HB0.out.trans (HBW.out.mono HB0.out.size));have HSR:=Hq (HS0.out.kept HBW.out nlr);clear hlt hj HALL HX0 HS0 HBW HB0;by_cases h0:j=0
    · have HR:=Hq (show chkC corR l=3 from chkC_form (fun h=>h.2 (List.length_eq_zero_iff.1 (HL.out.trans h0))));have hz':((j:Int)==0)=true:=by rw[h0];rfl
      clear h0;go_wp2;go_ret;exact⟨by show Ending.returned (.int .i64 3)=_;rw[HR.out],HBR.out⟩
    · have hz':((j:Int)==0)=false:=by rw[beq_eq_false_iff_ne];omega
      have hz2:decide ((256:Int)<(j:Int))=false:=decide_eq_false (by have:=HLE.out;omega);have hz3:decide (256<j)=false:=decide_eq_false (by have:=HLE.out;omega);have HNE:=Hq (show l≠[]from fun h=>h0 (by rw[←HL.out,h];rfl));clear h0;obtain⟨V,hV⟩:∃ V,V=wr:=⟨_,rfl⟩;subst hV;go_wp2;clear x0;go_loopw [4] (fun k wr=>∃ i:Nat,i≤j∧k=.int .i64 i∧(∀ m,m<i→stC corR l m=true)∧Below V.heap.size V wr) (fun k _=>j - (intOf k).toNat);case atStart=>exact⟨0,Nat.zero_le _,rfl,fun m h=>absurd h (Nat.not_lt_zero _),Below.refl _ _⟩
      case round =>
       obtain⟨i,hi,rfl,hall,hbw⟩:=hrel;have HALL:=Hq hall;have HBW:=Hq hbw;have HX2:=Hq (HXR.out.next hbw);have z0:wr.cell? ⟨w.heap.size,0,none⟩=some (.slice A j cap):=HX2.out.cell 0;clear hall hbw;by_cases hlt:i<j
       · obtain⟨s,he⟩:∃ s,l[i]? =some s:=⟨_,List.getElem?_eq_getElem (by rw[HL.out];exact hlt)⟩;have HCO:=Hq (r07_correct l HC.out HW.out i s he A j cap wr (HSR.out.kept HBW.out nlr));clear he
         cases hst:stC corR l i with
         | true =>
          rw[hst]at HCO;have HA2:=Hq (show ∀ m,m<i+1→stC corR l m=true from fun m hm=>by
           rcases Nat.lt_or_ge m i with h | h
           · exact HALL.out m h
           · obtain rfl:m=i:=by omega
             exact hst)
          clear hst;go_wp2_with fail;refine HCO.out.mono ?_;rintro e w2 ⟨rfl,hb⟩;have HB2:=Hq (HBW.out.trans (hb.mono HBW.out.size));clear hb z0;go_wp2;go_roundw;case rel=>exact⟨i+1,by omega,by go_num,HA2.out,HB2.out⟩
          case measure=>simp[intOf];omega
         | false =>
          rw[hst]at HCO;have HR:=Hq (show chkC corR l=12 from chkC_bad HW.out HNE.out (fun h=>by have:=h i (by have:=HL.out;omega);rw[hst]at this;cases this));clear hst;go_wp2_with fail;refine HCO.out.mono ?_;rintro e w2 ⟨rfl,hb⟩;have HB2:=Hq (HBW.out.trans (hb.mono HBW.out.size));clear hb z0;go_wp2;go_ret;exact⟨by show Ending.returned (.int .i64 12)=_;rw[HR.out],HBR.out.trans (HB2.out.mono HBR.out.size)⟩
       · obtain rfl:i=j:=by omega
         have HR:=Hq (show chkC corR l=0 from chkC_ok HW.out HNE.out (fun m hm=>HALL.out m (by rw[←HL.out];exact hm)));go_wp2;go_ret;exact⟨by show Ending.returned (.int .i64 0)=_;rw[HR.out],HBR.out.trans (HBW.out.mono HBR.out.size)⟩
theorem r07_Prime(l:List Stp)(A:Option Addr)(len cap:Nat)(w:World)(hs:SlT w A len cap l):Calls Tryz.prog 22 #[.agg #[.slice A len cap]] w (Ret (.string (lastP l)) w):=by
 obtain⟨W0,hW0⟩:∃ W,w.alloc (.cells #[.slice A len cap] 27)=W:=⟨_,rfl⟩;have hb0:Below w.heap.size w W0:=by rw[←hW0];exact(blr).alloc nlr _
 have HX0:=Hq (show BxT W0 w.heap.size #[.slice A len cap] 27 from by rw[←hW0];exact BxT.new _ _ _);have HB0:=Hq hb0;have HS0:=Hq (hs.kept hb0 nlr);have HL:=Hq hs.1;have hcap:=hs.2.1;have hcap2:=hs.2.2.1;have x0:W0.cell? ⟨w.heap.size,0,none⟩=some (.slice A len cap):=HX0.out.cell 0;clear hs hb0;rcases Nat.eq_zero_or_pos len with h0 | h0
 · have hz':((len:Int)==0)=true:=by rw[h0];rfl
   have HR:=Hq (lastP_nil (HL.out.trans h0));clear h0;go_enter Tryz.func22,Tryz.ntmps22;go_wp2;try rw[hW0]
   go_ret;exact⟨by show Ending.returned (.string ⟨#[]⟩)=_;rw[HR.out],HB0.out⟩
 · obtain⟨j,rfl⟩:∃ j,len=j+1:=⟨len - 1,by omega⟩;obtain⟨s,he⟩:∃ s,l[j]? =some s:=⟨_,List.getElem?_eq_getElem (by rw[HL.out];omega)⟩;obtain⟨b,o,rfl,A1,n1,c1,x1,_⟩:=HS0.out.get he;have HR:=Hq (lastP_at HL.out he);have hjj:((j+1:Nat):Int)=(j:Int)+1:=rfl;have hj1:(j:Int)+1 - 1=j:=by omega
   have hw1:IntKind.i64.wrap (j:Int)=j:=by rw[IntKind.wrap_i64];omega
   have hz':¬ ((j:Int)+1=0):=by omega
   have hj4:(j:Int)<(j:Int)+1:=by omega
   have hj5:j<j+1:=by omega
   clear he h0;go_enter Tryz.func22,Tryz.ntmps22;go_wp2;try rw[hW0]
   go_ret;exact⟨by show Ending.returned (.string s.p)=_;rw[HR.out],HB0.out⟩
theorem r09_Certified(M O:ByteArray)(hM:M.size≤16)(hO:O.size≤16)(p q:List Stp)(hp:ShortC p)(hq:ShortC q)(A1:Option Addr)(n1 c1:Nat)(A2:Option Addr)(n2 c2:Nat)(w:World)(h1:SlT w A1 n1 c1 p)(h2:SlT w A2 n2 c2 q) :
 Calls Tryz.prog 7 #[gV M O,.agg #[.slice A1 n1 c1],.agg #[.slice A2 n2 c2]] w (Ret (.int .i64 (cfR corR M O p q)) w):=by
 have HFM:=Hq (r09_form M O (by omega) (by omega));have HM:=Hq (And.intro hM hO);have hx:=Bx3.new w M O (.slice A1 n1 c1) (.slice A2 n2 c2);obtain⟨W0,hW0⟩:∃ W,((w.alloc (.cells #[.string M,.string O] 24)).alloc (.cells #[.slice A1 n1 c1] 27)).alloc (.cells #[.slice A2 n2 c2] 27)=W:=⟨_,rfl⟩;rw[hW0]at hx;have HX0:=Hq hx;have HS1:=Hq (fun W (hb:Below w.heap.size w W)=>h1.kept hb nlr);have HS2:=Hq (fun W (hb:Below w.heap.size w W)=>h2.kept hb nlr);have HC1:=Hq (fun W (hb:Below w.heap.size w W)=>r07_Check p hp A1 n1 c1 W (h1.kept hb nlr));have HC2:=Hq (fun W (hb:Below w.heap.size w W)=>r07_Check q hq A2 n2 c2 W (h2.kept hb nlr));clear hx h1 h2 hp hq hM hO;unfold gV at HFM⊢;have g0:W0.cell? ⟨w.heap.size,0,none⟩=some (.string M):=HX0.out.g.cell 0;have g1:W0.cell? ⟨w.heap.size,1,none⟩=some (.string O):=HX0.out.g.cell 1;have p0:W0.cell? ⟨w.heap.size+1,0,none⟩=some (.slice A1 n1 c1):=HX0.out.p.cell 0;have q0:W0.cell? ⟨w.heap.size+1+1,0,none⟩=some (.slice A2 n2 c2):=HX0.out.q.cell 0;go_enter Tryz.func7,Tryz.ntmps7;go_wp2_with fail;try rw[hW0]
 clear hW0;refine(HFM.out _).mono ?_;rintro e w1 ⟨rfl,hb⟩;have HX1:=Hq (HX0.out.next hb);clear hb g0 g1 p0 q0
 cases hf:(nvalid M&&nvalid O)with
 | false =>
  have HR:=Hq (show cfR corR M O p q=3 from by unfold cfR;rw[hf,if_pos rfl]);clear hf;go_wp2;go_ret;exact⟨by show Ending.returned (.int .i64 (3))=_;rw[HR.out],HX1.out.b⟩
 | true =>
  have HF:=Hq hf;clear hf;have g0:w1.cell? ⟨w.heap.size,0,none⟩=some (.string M):=HX1.out.g.cell 0;have g1:w1.cell? ⟨w.heap.size,1,none⟩=some (.string O):=HX1.out.g.cell 1;have p0:w1.cell? ⟨w.heap.size+1,0,none⟩=some (.slice A1 n1 c1):=HX1.out.p.cell 0;have q0:w1.cell? ⟨w.heap.size+1+1,0,none⟩=some (.slice A2 n2 c2):=HX1.out.q.cell 0;have HCP:=Hq (HC1.out w1 HX1.out.b);obtain⟨zp,hzp⟩:∃ z,chkC corR p=z:=⟨_,rfl⟩;rw[hzp]at HCP;have HZP:=Hq hzp;clear hzp;go_wp2_with fail;refine HCP.out.mono ?_;rintro e w2 ⟨rfl,hb⟩;have HX2:=Hq (HX1.out.next hb);clear hb g0 g1 p0 q0;by_cases hz:zp=0
  · have HP0:=Hq (HZP.out.trans hz);have hz':(zp != 0)=false:=by rw[hz];rfl
    clear hz;have g0:w2.cell? ⟨w.heap.size,0,none⟩=some (.string M):=HX2.out.g.cell 0;have g1:w2.cell? ⟨w.heap.size,1,none⟩=some (.string O):=HX2.out.g.cell 1;have p0:w2.cell? ⟨w.heap.size+1,0,none⟩=some (.slice A1 n1 c1):=HX2.out.p.cell 0;have q0:w2.cell? ⟨w.heap.size+1+1,0,none⟩=some (.slice A2 n2 c2):=HX2.out.q.cell 0;have HCQ:=Hq (HC2.out w2 HX2.out.b);obtain⟨zq,hzq⟩:∃ z,chkC corR q=z:=⟨_,rfl⟩;rw[hzq]at HCQ;have HZQ:=Hq hzq;clear hzq;go_wp2_with fail;refine HCQ.out.mono ?_;rintro e w3 ⟨rfl,hb⟩;have HX3:=Hq (HX2.out.next hb);clear hb g0 g1 p0 q0;by_cases hy:zq=0
    · have HQ0:=Hq (HZQ.out.trans hy);have hy':(zq != 0)=false:=by rw[hy];rfl
      clear hy;have HR0:=Hq (show cfR corR M O p q=if ¬ (lastP p=M∧lastP q=O)then 12 else if (num M - 1)%num O=0 then 0 else 13 from by unfold cfR;rw[HF.out,if_neg (by decide),if_neg (fun h=>h HP0.out),if_neg (fun h=>h HQ0.out)]);go_wp2;obtain⟨wd,hwd⟩:∃ wd,w3.drew=wd:=⟨_,rfl⟩;have hbd:Below w3.heap.size w3 wd:=by rw[←hwd];exact(blr).drew
      have HXD:=Hq (HX3.out.next hbd);clear hbd;have g0:wd.cell? ⟨w.heap.size,0,none⟩=some (.string M):=HXD.out.g.cell 0;have g1:wd.cell? ⟨w.heap.size,1,none⟩=some (.string O):=HXD.out.g.cell 1;have p0:wd.cell? ⟨w.heap.size+1,0,none⟩=some (.slice A1 n1 c1):=HXD.out.p.cell 0;have q0:wd.cell? ⟨w.heap.size+1+1,0,none⟩=some (.slice A2 n2 c2):=HXD.out.q.cell 0;have HLP:=Hq (r07_Prime p A1 n1 c1 wd (HS1.out wd HXD.out.b));have HLQ:=Hq (fun W (hb:Below wd.heap.size wd W)=>r07_Prime q A2 n2 c2 W (HS2.out W (HXD.out.b.trans (hb.mono HXD.out.b.size))));have HVP:=Hq (chkC_last HP0.out);have HVQ:=Hq (chkC_last HQ0.out);obtain⟨L,hL⟩:∃ L,lastP p=L:=⟨_,rfl⟩;obtain⟨N,hN⟩:∃ N,lastP q=N:=⟨_,rfl⟩;rw[hL]at HLP HVP HR0;rw[hN]at HLQ HVQ HR0;clear hL hN
      cases hm:(L.toList==M.toList)with
      | false =>
       have hm2:(L.toList != M.toList)=true:=by rw[bne,hm];rfl
       have HR:=Hq (show cfR corR M O p q=12 from by rw[HR0.out,if_pos (fun h=>by rw[h.1]at hm;simp at hm)]);refine wp_region_K 12 (Below (wd).heap.size (wd)) (by kernel_rfl) ?_;intro hD;rw[hwd];have KK1:=Hq (fun w' (hS':(Below (wd).heap.size (wd)) w')=>And.intro (kC hS' g0) (And.intro (kC hS' g1) (And.intro (kC hS' p0) (kC hS' q0))));refine rT 0 22 11 rfl hD blr (by intro w' hS';obtain⟨e0,e1,e2,e3⟩:=KK1.out w' hS';go_simp;with_reducible rfl) ?_;clear hD;intro hD;refine rP 2 24 10 rfl hD blr ?_;clear hD;intro hD;refine rT 3 25 9 rfl hD blr (by intro w' hS';obtain⟨e0,e1,e2,e3⟩:=KK1.out w' hS';go_simp;with_reducible rfl) ?_;clear hD;intro hD;simp only[Act.put,sqA,sqB,sqC];refine rO 1 8 rfl hD ?_;clear hD;intro K1 hK1;go_wp2_with fail;refine HLP.out.mono ?_;rintro ev w6 ⟨rfl,hb⟩;have HB1:=Hq hb;clear hb;go_wp2;refine hK1 _ _ (by exact HB1.out) ?_;clear hK1;intro hS_9_1 hD;refine rP 4 26 7 rfl hD hS_9_1 ?_;clear hD;intro hD;refine rP 5 27 6 rfl hD hS_9_1 ?_;clear hD;intro hD;refine rU 6 28 5 rfl hD hS_9_1 ?_;clear hD;intro hD;refine rU 7 29 4 rfl hD hS_9_1 ?_;clear hD;intro hD;refine rU 8 30 3 rfl hD hS_9_1 ?_;clear hD;intro hD;refine rU 9 31 2 rfl hD hS_9_1 ?_;clear hD;intro hD;refine rU 10 32 1 rfl hD hS_9_1 ?_;clear hD;intro hD;refine rP 11 33 0 rfl hD hS_9_1 ?_;clear hD;intro hD;simp only[Act.put,sqA,sqB,sqC];refine wpAnyK_done (by kernel_rfl) ?_ 0;clear hD;have HBE:=Hq (HXD.out.b.trans (HB1.out.mono HXD.out.b.size));go_wp2;go_ret;exact⟨by show Ending.returned (.int .i64 (12))=_;rw[HR.out],HBE.out⟩
      | true =>
       have hm2:(L.toList != M.toList)=false:=by rw[bne,hm];rfl
       have HLM:=Hq (toList_injC hm)
       cases hn:(N.toList==O.toList)with
       | false =>
        have hn2:(N.toList != O.toList)=true:=by rw[bne,hn];rfl
        have HR:=Hq (show cfR corR M O p q=12 from by rw[HR0.out,if_pos (fun h=>by rw[h.2]at hn;simp at hn)]);refine wp_region_K 12 (Below (wd).heap.size (wd)) (by kernel_rfl) ?_;intro hD;rw[hwd];have KK2:=Hq (fun w' (hS':(Below (wd).heap.size (wd)) w')=>And.intro (kC hS' g0) (And.intro (kC hS' g1) (And.intro (kC hS' p0) (kC hS' q0))));refine rT 0 22 11 rfl hD blr (by intro w' hS';obtain⟨e0,e1,e2,e3⟩:=KK2.out w' hS';go_simp;with_reducible rfl) ?_;clear hD;intro hD;refine rP 2 24 10 rfl hD blr ?_;clear hD;intro hD;refine rT 3 25 9 rfl hD blr (by intro w' hS';obtain⟨e0,e1,e2,e3⟩:=KK2.out w' hS';go_simp;with_reducible rfl) ?_;clear hD;intro hD;simp only[Act.put,sqA,sqB,sqC];refine rO 1 8 rfl hD ?_;clear hD;intro K1 hK1;go_wp2_with fail;refine HLP.out.mono ?_;rintro ev w6 ⟨rfl,hb⟩;have HB1:=Hq hb;clear hb;go_wp2;refine hK1 _ _ (by exact HB1.out) ?_;clear hK1;intro hS_9_1 hD;refine rP 4 26 7 rfl hD hS_9_1 ?_;clear hD;intro hD;refine rP 5 27 6 rfl hD hS_9_1 ?_;clear hD;intro hD;refine rT 6 28 5 rfl hD hS_9_1 (by intro w' hS';obtain⟨e0,e1,e2,e3⟩:=KK2.out w' hS';go_simp;with_reducible rfl) ?_;clear hD;intro hD;refine rP 8 30 4 rfl hD hS_9_1 ?_;clear hD;intro hD;refine rT 9 31 3 rfl hD hS_9_1 (by intro w' hS';obtain⟨e0,e1,e2,e3⟩:=KK2.out w' hS';go_simp;with_reducible rfl) ?_;clear hD;intro hD;simp only[Act.put,sqA,sqB,sqC];refine rO 7 2 rfl hD ?_;clear hD;intro K7 hK7;go_wp2_with fail;refine(HLQ.out _ hS_9_1).mono ?_;rintro ev w7 ⟨rfl,hb⟩;have HB7:=Hq hb;clear hb;go_wp2;refine hK7 _ _ (by exact Below.trans hS_9_1 (Below.mono HB7.out (Below.size hS_9_1))) ?_;clear hK7;intro hS_9_7 hD;refine rP 10 32 1 rfl hD hS_9_7 ?_;clear hD;intro hD;refine rP 11 33 0 rfl hD hS_9_7 ?_;clear hD;intro hD;simp only[Act.put,sqA,sqB,sqC];refine wpAnyK_done (by kernel_rfl) ?_ 0;clear hD;have HBE:=Hq (HXD.out.b.trans (Below.mono hS_9_7 HXD.out.b.size));go_wp2;go_ret;exact⟨by show Ending.returned (.int .i64 (12))=_;rw[HR.out],HBE.out⟩
       | true =>
        have hn2:(N.toList != O.toList)=false:=by rw[bne,hn];rfl
        have HNO:=Hq (toList_injC hn);refine wp_region_K 12 (Below (wd).heap.size (wd)) (by kernel_rfl) ?_;intro hD;rw[hwd];have KK3:=Hq (fun w' (hS':(Below (wd).heap.size (wd)) w')=>And.intro (kC hS' g0) (And.intro (kC hS' g1) (And.intro (kC hS' p0) (kC hS' q0))));refine rT 0 22 11 rfl hD blr (by intro w' hS';obtain⟨e0,e1,e2,e3⟩:=KK3.out w' hS';go_simp;with_reducible rfl) ?_;clear hD;intro hD;refine rP 2 24 10 rfl hD blr ?_;clear hD;intro hD;refine rT 3 25 9 rfl hD blr (by intro w' hS';obtain⟨e0,e1,e2,e3⟩:=KK3.out w' hS';go_simp;with_reducible rfl) ?_;clear hD;intro hD;simp only[Act.put,sqA,sqB,sqC];refine rO 1 8 rfl hD ?_;clear hD;intro K1 hK1;go_wp2_with fail;refine HLP.out.mono ?_;rintro ev w6 ⟨rfl,hb⟩;have HB1:=Hq hb;clear hb;go_wp2;refine hK1 _ _ (by exact HB1.out) ?_;clear hK1;intro hS_9_1 hD;refine rP 4 26 7 rfl hD hS_9_1 ?_;clear hD;intro hD;refine rP 5 27 6 rfl hD hS_9_1 ?_;clear hD;intro hD;refine rT 6 28 5 rfl hD hS_9_1 (by intro w' hS';obtain⟨e0,e1,e2,e3⟩:=KK3.out w' hS';go_simp;with_reducible rfl) ?_;clear hD;intro hD;refine rP 8 30 4 rfl hD hS_9_1 ?_;clear hD;intro hD;refine rT 9 31 3 rfl hD hS_9_1 (by intro w' hS';obtain⟨e0,e1,e2,e3⟩:=KK3.out w' hS';go_simp;with_reducible rfl) ?_;clear hD;intro hD;simp only[Act.put,sqA,sqB,sqC];refine rO 7 2 rfl hD ?_;clear hD;intro K7 hK7;go_wp2_with fail;refine(HLQ.out _ hS_9_1).mono ?_;rintro ev w7 ⟨rfl,hb⟩;have HB7:=Hq hb;clear hb;go_wp2;refine hK7 _ _ (by exact Below.trans hS_9_1 (Below.mono HB7.out (Below.size hS_9_1))) ?_;clear hK7;intro hS_9_7 hD;refine rP 10 32 1 rfl hD hS_9_7 ?_;clear hD;intro hD;refine rP 11 33 0 rfl hD hS_9_7 ?_;clear hD;intro hD;simp only[Act.put,sqA,sqB,sqC];refine wpAnyK_done (by kernel_rfl) ?_ 0;clear hD g0 g1 p0 q0;have HXE:=Hq (HXD.out.next hS_9_7);clear hS_9_1 hS_9_7 hwd;have HDV:=Hq (show ∀ w,Calls Tryz.prog 23 #[.agg #[.string M,.string O]] w (Ret (.bool (decide ((num M - 1)%num O=0))) w)from by
         have:=r09_divides_ofL (num M) (num O) (by rw[←HLM.out];have:=HVP.out.2;omega) (num16 HM.out.1) (by rw[←HNO.out];have:=HVQ.out.2;omega) (r01_Over (num M - 1) (num O) (Nat.le_trans (nS_size_le.2 (show num M - 1<256 ^ 128 by have:=num16 HM.out.1;omega)) (by decide)) (Nat.le_trans (nS_size_le.2 (num16 HM.out.2)) (by decide)) (by rw[←HNO.out];have:=HVQ.out.2;omega));unfold gV at this
         rwa[←nS_num (by rw[←HLM.out];exact HVP.out.1),←nS_num (by rw[←HNO.out];exact HVQ.out.1)]at this)
        have g0:w7.cell? ⟨w.heap.size,0,none⟩=some (.string M):=HXE.out.g.cell 0;have g1:w7.cell? ⟨w.heap.size,1,none⟩=some (.string O):=HXE.out.g.cell 1;have HR1:=Hq (show cfR corR M O p q=if (num M - 1)%num O=0 then 0 else 13 from by rw[HR0.out,if_neg (fun h=>h ⟨HLM.out,HNO.out⟩)]);by_cases hd:(num M - 1)%num O=0
        · rw[decide_eq_true hd]at HDV;have HR:=Hq (show cfR corR M O p q=0 from by rw[HR1.out,if_pos hd]);clear hd;go_wp2_with fail;refine(HDV.out _).mono ?_;rintro e w5 ⟨rfl,hb⟩;have HB5:=Hq (HXE.out.b.trans (hb.mono HXE.out.b.size));clear hb g0 g1;go_wp2;go_ret;exact⟨by show Ending.returned (.int .i64 (0))=_;rw[HR.out],HB5.out⟩
        · rw[decide_eq_false hd]at HDV;have HR:=Hq (show cfR corR M O p q=13 from by rw[HR1.out,if_neg hd]);clear hd;go_wp2_with fail;refine(HDV.out _).mono ?_;rintro e w5 ⟨rfl,hb⟩;have HB5:=Hq (HXE.out.b.trans (hb.mono HXE.out.b.size));clear hb g0 g1;go_wp2;go_ret;exact⟨by show Ending.returned (.int .i64 (13))=_;rw[HR.out],HB5.out⟩
    · have hy':(zq != 0)=true:=by rw[bne_iff_ne];exact hy
      have HR:=Hq (show cfR corR M O p q=zq from by unfold cfR;rw[HF.out,if_neg (by decide),if_neg (fun h=>h HP0.out),HZQ.out,if_pos hy]);clear hy;go_wp2;go_ret;exact⟨by show Ending.returned (.int .i64 (zq))=_;rw[HR.out],HX3.out.b⟩
  · have hz':(zp != 0)=true:=by rw[bne_iff_ne];exact hz
    have HR:=Hq (show cfR corR M O p q=zp from by unfold cfR;rw[HF.out,if_neg (by decide),HZP.out,if_pos hz]);clear hz;go_wp2;go_ret;exact⟨by show Ending.returned (.int .i64 (zp))=_;rw[HR.out],HX2.out.b⟩
end Go.Proofs.YtdhnkmbjogmmkaaGreatDoor

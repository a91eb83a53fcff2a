import Derived.Test.YtamhonjkgkmdbaaGreatQRoA
import Derived.Test.YtamhonjkgkmdbaaGreatQRoD
import Derived.Test.YtamhonjkgkmdbaaGreatQKyW
set_option linter.unusedVariables false
set_option linter.unusedSimpArgs false
namespace Go.Proofs.YtamhonjkgkmdbaaGreat
open Go.RowKit
theorem SlV.single{w:World}{g:Nat}{v:Ver}{A:Option Addr}{n c:Nat}{T:TypeId}(h:BxC w g (v.arr (.slice A n c)) T)(hs:SlN w A n c v.kr):SlV w (some ⟨g,0,none⟩) 1 1 [v]:=by
 refine⟨rfl,Nat.le_refl _,by omega,g,0,fun _=>rfl,fun k x hk=>?_⟩
 match k,hk with
 | 0,hk =>
  cases hk;refine⟨A,n,c,?_,hs⟩;have:=h.ver;exact this
theorem wpList_build_verG{ops:Array Oper}{rest:List Oper}{o:Oper}{a:Act}{w:World}{Q:Exit→Act→World→Prop}(hw:Region.wanted o (yielded ops a.tmps)=true)(x:Operand)(ho:o.op=.buildSlice 29 1 #[(0,x)])(v:Ver)(A:Option Addr)(n c:Nat)(hx:a.eval x=.agg (v.arr (.slice A n c)))
 (h:wpList Tryz.prog ops Q rest (a.put o.dst (.slice (some ⟨w.heap.size,0,none⟩) 1 1)) (w.alloc (.cells (v.arr (.slice A n c)) 36))):wpList Tryz.prog ops Q (o::rest) a w:=by
 obtain⟨i0,hi,iz0,iz1,iz2⟩:=info_parts ver_info;refine wpList_step fun K hK=>?_;rw[if_pos hw];refine wp_buildSlice _ 36 1 _ ho (v.arr (.slice A n c)) i0 _ Tryz.underlying29 hi iz0 (by rw[iz1];decide) (by rw[iz1];decide) ?_ (hK _ _ h);rw[iz1];have e:(Array.map (fun x=>(x.1,a.eval x.2)) #[(0,x)]).toList=[(0,.agg (v.arr (.slice A n c)))]:=by simp[hx]
 show Instr.fill _ _ (Array.map (fun x=>(x.1,a.eval x.2)) #[(0,x)]).toList=_;rw[e];exact ver_fill v A n c
set_option maxRecDepth 100000
set_option maxHeartbeats 4000000
theorem addL_few{l:List Ver}{v:Ver}(hl:FwV l)(hv:v.kr.length≤1000000):FwV (addL l v).1∧(addL l v).1.length≤l.length+1:=by
 have h0:FwV ([]:List Ver):=fun k x h=>by simp at h
 have h1:FwV (l++[v]):=fun k x h=>by
  rcases Nat.lt_or_ge k l.length with a | a
  · rw[List.getElem?_append_left a]at h;exact hl k x h
  · rw[List.getElem?_append_right a]at h;have : k - l.length=0:=by have:=(List.getElem?_eq_some_iff.1 h).1;simp at this;omega
    rw[this]at h;simp only[List.getElem?_cons_zero,Option.some.injEq]at h;subst h;exact hv
 unfold addL;split
 · split
   · exact⟨h0,Nat.zero_le _⟩
   · exact⟨h1,by simp⟩
 · split
   · exact⟨h0,Nat.zero_le _⟩
   · split
     · exact⟨h0,Nat.zero_le _⟩
     · split
       · exact⟨h0,Nat.zero_le _⟩
       · exact⟨h1,by simp⟩
theorem addR_few{ck:Int}{l:List Ver}{v:Ver}(hl:FwV l)(hv:v.kr.length≤1000000):FwV (addR ck l v).1∧(addR ck l v).1.length≤l.length+1:=by
 have h0:FwV ([]:List Ver):=fun k x h=>by simp at h
 unfold addR;split
 · exact⟨h0,Nat.zero_le _⟩
 · split
   · exact⟨h0,Nat.zero_le _⟩
   · split
     · exact⟨h0,Nat.zero_le _⟩
     · exact addL_few hl hv
theorem walk_adds58(M O G Y X:ByteArray)(l:List Ver)(A:Option Addr)(len cap:Nat)(v:Ver)(A1:Option Addr)(n c:Nat)(w:World)(hs:SlV w A len cap l)(hz:SzVs l)(hv:SlN w A1 n c v.kr)(hvz:SzL v.str) :
 Calls Tryz.prog 3 #[rtV M O G Y X,.slice A len cap,.agg (v.arr (.slice A1 n c))] w (Ret (.bool true) w):=by
 obtain⟨cs,hcs⟩:∃ cs,v.arr (.slice A1 n c)=cs:=⟨_,rfl⟩;rw[hcs];have HVA:=Hq hcs;have HCS:=Hq (show cs.size=18 from by rw[←hcs];rfl);have HS:=Hq hs;have HSL:=Hq hv;have HZS:=Hq hz;have HVZ:=Hq hvz;have HLEN:=Hq hs.1;have hcap:=hs.2.1;have hcap2:=hs.2.2.1;obtain⟨W0,hW0⟩:∃ W0,(w.alloc (.cells #[.string M,.string O,.string G,.string Y,.string X] 28)).alloc (.cells cs 36)=W0:=⟨_,rfl⟩;have HR0:=Hq (show BxC W0 w.heap.size #[.string M,.string O,.string G,.string Y,.string X] 28 from by rw[←hW0];exact(BxC.new w _ _).next ((Below.refl _ _).alloc (Nat.le_refl _) _));have HX0:=Hq (show BxC W0 (w.heap.size+1) cs 36 from by rw[←hW0];exact BxC.new1 w _ _ _);have HB0:=Hq (show Below w.heap.size w W0 from by rw[←hW0];exact((Below.refl _ _).alloc (Nat.le_refl _) _).alloc (by simp) _);have c0:W0.cell? ⟨w.heap.size,0,none⟩=some (.string M):=HR0.out.cell 0;have c1:W0.cell? ⟨w.heap.size,1,none⟩=some (.string O):=HR0.out.cell 1;have c2:W0.cell? ⟨w.heap.size,2,none⟩=some (.string G):=HR0.out.cell 2;have c3:W0.cell? ⟨w.heap.size,3,none⟩=some (.string Y):=HR0.out.cell 3;have c4:W0.cell? ⟨w.heap.size,4,none⟩=some (.string X):=HR0.out.cell 4;have HFR:=Hq (law58_few M O G Y X W0);obtain⟨f,hf⟩:∃ f,fewR M O G Y X=f:=⟨_,rfl⟩;rw[hf]at HFR;have HF:=Hq hf;unfold rtV at HFR⊢;clear hs hz hv hvz hcs hf;go_enter Tryz.func3,Tryz.ntmps3;go_wp2_with fail;try rw[hW0]
 clear hW0;refine HFR.out.mono ?_;rintro e w1 ⟨rfl,hb1⟩;have HR1:=Hq (HR0.out.next hb1);have HX1:=Hq (HX0.out.next hb1);have HB1:=Hq (HB0.out.trans (Below.mono hb1 HB0.out.size));clear hb1 c0 c1 c2 c3 c4 HFR
 cases f with
 | false =>
  go_wp2_with fail;refine(law_awake _).mono ?_;rintro e wa ⟨rfl,hba⟩;have HBA:=Hq (HB1.out.trans (hba.mono HB1.out.size));clear hba;go_wp2;go_ret;exact⟨rfl,HBA.out⟩
 | true =>
  go_wp2_with fail;refine(law58_Few l A len cap w1 (HS.out.kept HB1.out (Nat.le_refl _)) HZS.out).mono ?_;rintro e w2 ⟨rfl,hb2⟩;have HR2:=Hq (HR1.out.next hb2);have HX2:=Hq (HX1.out.next hb2);have HB2:=Hq (HB1.out.trans (Below.mono hb2 HB1.out.size));clear hb2
  cases hf:fewL l with
  | false =>
   clear hf;go_wp2_with fail;refine(law_awake _).mono ?_;rintro e wa ⟨rfl,hba⟩;have HBA:=Hq (HB2.out.trans (hba.mono HB2.out.size));clear hba;go_wp2;go_ret;exact⟨rfl,HBA.out⟩
  | true =>
   have HFW:=Hq (few_open hf);clear hf;have hl12:len≤100:=by have:=HFW.out.1;rw[HLEN.out]at this;omega
   have HSZ:=Hq (show SzV l from fun k v hk=>by have:=(HFW.out.2 k v hk).1;unfold maxLen;omega);have HFV:=Hq (show FwV l from fun k v hk=>by have:=(HFW.out.2 k v hk).2;omega);dsimp only;iterate 9 go_step
   refine load_rowG (by kernel_rfl) 36 _ rfl (w.heap.size+1) rfl 36 cs (0,0) _ HX2.out Tryz.underlying36 rfl (by rw[HCS.out];kernel_rfl) ?_;refine wpList_build_verG (by kernel_rfl) _ rfl v A1 n c (congrArg Value.agg HVA.out.symm) ?_;have hbt:Below w2.heap.size w2 (w2.alloc (.cells (v.arr (.slice A1 n c)) 36)):=(Below.refl _ _).alloc (Nat.le_refl _) _;have HR3:=Hq (HR2.out.next hbt);have HX3:=Hq (HX2.out.next hbt);have HB3:=Hq (HB2.out.trans (Below.mono hbt HB2.out.size));have HFE:=Hq (law58_Few [v] (some ⟨w2.heap.size,0,none⟩) 1 1 (w2.alloc (.cells (v.arr (.slice A1 n c)) 36)) (SlV.single (BxC.new _ _ _) (HSL.out.kept HB3.out (Nat.le_refl _))) (fun k x hk=>by
    have hl:=(List.getElem?_eq_some_iff.1 hk).1;obtain rfl:k=0:=by simp at hl;omega
    cases hk;exact HVZ.out))
   obtain⟨W3,hW3⟩:∃ W3,w2.alloc (.cells (v.arr (.slice A1 n c)) 36)=W3:=⟨_,rfl⟩;rw[hW3]at HFE HR3 HX3 HB3⊢;clear hW3 hbt;obtain⟨fl,hfl⟩:∃ fl,fewL [v]=fl:=⟨_,rfl⟩;rw[hfl]at HFE;have HFL:=Hq hfl;clear hfl;go_wp2_with fail;refine HFE.out.mono ?_;rintro e w4 ⟨rfl,hb4⟩;have HR4:=Hq (HR3.out.next hb4);have HX4:=Hq (HX3.out.next hb4);have HB4:=Hq (HB3.out.trans (Below.mono hb4 HB3.out.size));clear hb4 HFE HR1 HX1 HB1 HR2 HX2 HB2 HR3 HX3 HB3
   cases fl with
   | false =>
    go_wp2_with fail;refine(law_awake _).mono ?_;rintro e wa ⟨rfl,hba⟩;have HBA:=Hq (HB4.out.trans (hba.mono HB4.out.size));clear hba;go_wp2;go_ret;exact⟨rfl,HBA.out⟩
   | true =>
    have hq:=HFL.out;simp only[fewL,List.take,List.all_cons,List.all_nil,Bool.and_eq_true]at hq;obtain⟨nv,zc,zr⟩:=fewV_open hq.1.1;have hnm:=((few_open HFL.out).2 0 v rfl).1;have hm:=HF.out;unfold fewR at hm;simp only[Bool.and_eq_true,decide_eq_true_eq]at hm;obtain⟨hM,hO,hG,hY,-⟩:=hm;have hn:n≤100:=by have:=HSL.out.1;omega
    have HA1:=Hq (show ∀ W,Below w.heap.size w W→Calls Tryz.prog 7 #[.agg #[.string M,.string O,.string G,.string Y],.slice A len cap,.agg cs] W (RetAd (addR (ckV M O G Y v) l v) W)from fun W hb=>by
     rw[←HVA.out]
     exact ky_Add M O G Y l A len cap v A1 n c W (HS.out.kept hb (Nat.le_refl _)) hl12 HSZ.out HFV.out (HSL.out.kept hb (Nat.le_refl _)) hn HVZ.out (by unfold maxLen;omega) (by omega) (by omega) (by omega) (by omega) (by omega) (by omega))
    have HA2:=Hq (show ∀ W,Below w.heap.size w W→Calls Tryz.prog 8 #[.agg #[.string M,.string O,.string G,.string Y],.slice A len cap,.agg cs] W (RetAd (addR (ckV M O G Y v) l v) W)from fun W hb=>by
     rw[←HVA.out]
     exact r58_Add M O G Y l A len cap v A1 n c W (HS.out.kept hb (Nat.le_refl _)) hl12 HSZ.out HFV.out (HSL.out.kept hb (Nat.le_refl _)) hn HVZ.out (by unfold maxLen;omega) (by omega) (by omega) (by omega) (by omega) (by omega) (by omega))
    have HK:=Hq (addR_few (ck:=ckV M O G Y v) HFV.out (show v.kr.length≤1000000 by omega));obtain⟨⟨ll,f⟩,hr⟩:∃ r,addR (ckV M O G Y v) l v=r:=⟨_,rfl⟩;rw[hr]at HA1 HA2 HK;have hcc:(f==f)=true:=beq_self_eq_true f;have hlk:ll.length≤4096:=by have:=HK.out.2;have:=HLEN.out;simp only[]at *;omega
    clear hq hr hM hO hG hY nv zc zr hn hnm;dsimp only;have c0:w4.cell? ⟨w.heap.size,0,none⟩=some (.string M):=HR4.out.cell 0;have c1:w4.cell? ⟨w.heap.size,1,none⟩=some (.string O):=HR4.out.cell 1;have c2:w4.cell? ⟨w.heap.size,2,none⟩=some (.string G):=HR4.out.cell 2;have c3:w4.cell? ⟨w.heap.size,3,none⟩=some (.string Y):=HR4.out.cell 3;go_upto_region 3 with fail
    refine wp_region_lit ?_;iterate 9 go_step
    refine wpList_load_row rfl 36 _ rfl (w.heap.size+1) rfl 36 cs (0,0) _ HX4.out Tryz.underlying36 rfl (by rw[HCS.out];kernel_rfl) ?_;go_wp2_with fail;refine(HA1.out w4 HB4.out).mono ?_;rintro e w5 ⟨A5,c5,rfl,hs5,hb5⟩;have HR5:=Hq (HR4.out.next hb5);have HX5:=Hq (HX4.out.next hb5);have HB5:=Hq (HB4.out.trans (Below.mono hb5 HB4.out.size));have HL5:=Hq (show SlV w5 A5 ll.length c5 ll from hs5);clear hb5 hs5 c0 c1 c2 c3 HA1 HR4 HX4 HB4;dsimp only;have c0:w5.cell? ⟨w.heap.size,0,none⟩=some (.string M):=HR5.out.cell 0;have c1:w5.cell? ⟨w.heap.size,1,none⟩=some (.string O):=HR5.out.cell 1;have c2:w5.cell? ⟨w.heap.size,2,none⟩=some (.string G):=HR5.out.cell 2;have c3:w5.cell? ⟨w.heap.size,3,none⟩=some (.string Y):=HR5.out.cell 3;go_upto_region 4 with fail
    refine wp_region_lit ?_;iterate 9 go_step
    refine wpList_load_row rfl 36 _ rfl (w.heap.size+1) rfl 36 cs (0,0) _ HX5.out Tryz.underlying36 rfl (by rw[HCS.out];kernel_rfl) ?_;go_wp2_with fail;refine(HA2.out w5 HB5.out).mono ?_;rintro e w6 ⟨A6,c6,rfl,hs6,hb6⟩;have HR6:=Hq (HR5.out.next hb6);have HX6:=Hq (HX5.out.next hb6);have HB6:=Hq (HB5.out.trans (Below.mono hb6 HB5.out.size));have HL6:=Hq (show SlV w6 A6 ll.length c6 ll from hs6);have HL7:=Hq (HL5.out.kept hb6 (Nat.le_refl _));clear hb6 hs6 c0 c1 c2 c3 HA2 HR5 HX5 HB5 HL5;dsimp only;go_upto_region 5 with fail
    refine wp_region_lit ?_;go_wp2_with fail;refine(law_awake w6).mono ?_;rintro e w7 ⟨rfl,hb7⟩;have HB7:=Hq (HB6.out.trans (hb7.mono HB6.out.size));have HL8:=Hq (HL6.out.kept hb7 (Nat.le_refl _));have HL9:=Hq (HL7.out.kept hb7 (Nat.le_refl _));clear hb7 HL6 HL7 HB6 HR6 HX6;go_wp2_with fail;refine(r58_SameList ll A5 A6 ll.length c5 ll.length c6 w7 HL9.out HL8.out hlk HK.out.1).mono ?_;rintro e w8 ⟨rfl,hb8⟩;have HB8:=Hq (HB7.out.trans (hb8.mono HB7.out.size));clear hb8 HL8 HL9 HB7;go_wp2;go_ret;exact⟨rfl,HB8.out⟩
end Go.Proofs.YtamhonjkgkmdbaaGreat

import Derived.Test.YtmahgbhpdfbbjaaGreatDoorQWiF
set_option linter.unusedVariables false
set_option linter.unusedSimpArgs false
namespace Go.Proofs.YtmahgbhpdfbbjaaGreatDoor
set_option maxRecDepth 100000
set_option maxHeartbeats 4000000
open Go.RowKit
theorem slZ_two(W:World)(a:Bool)(s:ByteArray)(b:Bool)(t:ByteArray)(T:TypeId):SlZ (W.alloc (.cells #[.bool a,.string s,.bool b,.string t] T)) (some ⟨W.heap.size,0,none⟩) 2 2 [(a,s),(b,t)]:=by
 have hc:=fun k=>Lib.cell_of_heap (j:=k) (heap_alloc_new W (.cells #[.bool a,.string s,.bool b,.string t] T));refine⟨rfl,Nat.le_refl _,by omega,W.heap.size,0,fun _=>rfl,fun k z hk=>?_⟩
 match k,hk with
 | 0,hk=>cases hk;exact⟨hc 0,hc 1⟩
 | 1,hk=>cases hk;exact⟨hc 2,hc 3⟩
theorem ex_bounds{u:ByteArray}{ad rm:List ByteArray}(hu:0<num u)(hr:0<prodN rm)(h:(exR u ad rm).2=0):(exR u ad rm).1.1.natAbs<256 ^ 128∧(exR u ad rm).1.2.natAbs<256 ^ 128:=by
 unfold exR at *;split at h
 · cases h
 · rename_i h1;rw[if_neg h1];split at h
   · cases h
   · rename_i h2;rw[if_neg h2];split at h
     · cases h
     · rename_i h3;rw[if_neg h3];split at h
       · rename_i h4;rw[if_pos h4];exact⟨h4,Nat.lt_of_le_of_lt (Bzt.xle (bzP_spec hu hr)) (Decidable.not_not.1 h2).2⟩
       · cases h
theorem up_rdy{M O w u acc:ByteArray}{ad rm:List ByteArray}(h:rdyR M O [w,acc] (u::(ad++rm))≠0):upR M O w u ad rm acc=(⟨#[]⟩,rdyR M O [w,acc] (u::(ad++rm))):=by unfold upR;rw[if_pos h]
theorem up_ex{M O w u acc:ByteArray}{ad rm:List ByteArray}(h:rdyR M O [w,acc] (u::(ad++rm))=0)(h2:(exR u ad rm).2≠0):upR M O w u ad rm acc=(⟨#[]⟩,(exR u ad rm).2):=by unfold upR;rw[if_neg (fun c=>c h),if_pos h2]
theorem up_ok{M O w u acc:ByteArray}{ad rm:List ByteArray}(h:rdyR M O [w,acc] (u::(ad++rm))=0)(h2:(exR u ad rm).2=0):upR M O w u ad rm acc=(nS (pz (num M) (num w) (exR u ad rm).1.1 * pz (num M) (num acc) (exR u ad rm).1.2%num M),0):=by unfold upR;rw[if_neg (fun c=>c h),if_neg (fun c=>c h2)]
theorem two_sz{a b:ByteArray}{K:Nat}(ha:a.size≤K)(hb:b.size≤K):∀ s∈[a,b],s.size≤K:=by
 intro s hs;simp only[List.mem_cons,List.mem_nil_iff,or_false]at hs;rcases hs with rfl | rfl
 · exact ha
 · exact hb
theorem two_szZ{a b:ByteArray}{x y:Bool}{K:Nat}(ha:a.size≤K)(hb:b.size≤K):∀ z∈[(x,a),(y,b)],z.2.size≤K:=by
 intro s hs;simp only[List.mem_cons,List.mem_nil_iff,or_false]at hs;rcases hs with rfl | rfl
 · exact ha
 · exact hb
structure Rdy (M O w acc u:ByteArray) (ad rm:List ByteArray):Prop where
 vw:nvalid w=true
 va:nvalid acc=true
 vu:nvalid u=true
 pu:0<num u
 vad:∀ x∈ad,nvalid x=true
 vrm:∀ x∈rm,nvalid x=true
 pad:∀ x∈ad,0<num x
 prm:∀ x∈rm,0<num x
 chk:chkK M O=0
 hw:hasN (num M) (num O) (num w)=true
 ha:hasN (num M) (num O) (num acc)=true
theorem rdy_of{M O w acc u:ByteArray}{ad rm:List ByteArray}(h:rdyR M O [w,acc] (u::(ad++rm))=0):Rdy M O w acc u ad rm:=by
 obtain⟨_,_,h1,h2,h3,h4,h5⟩:=rdy_zero h;have hv:∀ x∈u::(ad++rm),nvalid x=true:=List.all_eq_true.1 h2;have hp:∀ x∈u::(ad++rm),0<num x:=fun x hx=>num_posV (hv x hx) (fun e=>by
  rw[memB_nz,Bool.not_eq_false',List.all_eq_true]at h5;have:=h5 x hx;rw[e]at this
  exact absurd (nzB_t this) (by rw[ByteArray.toList_eq];decide))
 simp only[List.all_cons,List.all_nil,Bool.and_true,Bool.and_eq_true]at h1 h4;exact⟨h1.1,h1.2,hv u (by simp),hp u (by simp),fun x hx=>hv x (by simp[hx]),fun x hx=>hv x (by simp[hx]),fun x hx=>hp x (by simp[hx]),fun x hx=>hp x (by simp[hx]),h3,h4.1,h4.2⟩
theorem wi_Update(N M O Z S:ByteArray)(RA:Option Addr)(rn rc:Nat)(U H wt u acc:ByteArray)(ad rm:List ByteArray)(A1 A2:Option Addr)(n1 c1 n2 c2:Nat)(w:World)(hM:M.size≤8)(hO:O.size≤8)(hwt:wt.size≤1000)(hac:acc.size≤1000)(hus:u.size≤16)
 (h1:SlN w A1 n1 c1 ad) (h2:SlN w A2 n2 c2 rm) (z1:SzL ad) (z2:SzL rm) :
 Calls Tryz.prog 9 #[.agg (ikC N M O Z S RA rn rc U H),.string wt,.string u,.slice A1 n1 c1,.slice A2 n2 c2,.string acc] w (Ret (.tuple #[.string (upR M O wt u ad rm acc).1,.int .i64 (upR M O wt u ad rm acc).2]) w):=by
 have HS1:=Hq h1;have HS2:=Hq h2;obtain⟨W0,hW0⟩:=nm (w.alloc (.cells (ikC N M O Z S RA rn rc U H) 27));have hx0:BxC W0 w.heap.size (ikC N M O Z S RA rn rc U H) 27:=by rw[←hW0];exact BxC.new _ _ _
 have hb0:Below w.heap.size w W0:=by rw[←hW0];exact(blr).alloc nlr _
 have HX0:=Hq hx0;have HB0:=Hq hb0;obtain⟨W1,hW1⟩:=nm (((W0.alloc (.cells #[.string wt,.string acc] 22)).alloc (.cells #[.string u] 22)).alloc (.cells #[.slice (some ⟨W0.heap.size+1,0,none⟩) 1 1,.slice A1 n1 c1,.slice A2 n2 c2] 25));have hb1:Below W0.heap.size W0 W1:=(by rw[←hW1];exact(((Below.refl W0.heap.size W0).alloc nlr _).alloc (by simp) _).alloc (by simp;omega) _);have HE1:=Hq (show SlN W1 (some ⟨W0.heap.size,0,none⟩) 2 2 [wt,acc]from by
  rw[←hW1]
  exact(((sln_alloc W0 [wt,acc] 22 (by simp)).kept ((blr).alloc nlr _) nlr).kept ((blr).alloc nlr _) nlr))
 have HU1:=Hq (show SlN W1 (some ⟨W0.heap.size+1,0,none⟩) 1 1 [u]from by
  rw[←hW1];have:=(sln_alloc (W0.alloc (.cells #[.string wt,.string acc] 22)) [u] 22 (by simp)).kept ((blr).alloc nlr (.cells #[.slice (some ⟨W0.heap.size+1,0,none⟩) 1 1,.slice A1 n1 c1,.slice A2 n2 c2] 25)) nlr;rw[World.size_alloc]at this
  exact this)
 have HR1:=Hq (show W1.heap[W0.heap.size+1+1]? =some (.cells #[slT (some ⟨W0.heap.size+1,0,none⟩,1,1),slT (A1,n1,c1),slT (A2,n2,c2)] 25 (0,0))from by
  rw[←hW1];have:=heap_alloc_new ((W0.alloc (.cells #[.string wt,.string acc] 22)).alloc (.cells #[.string u] 22)) (.cells #[.slice (some ⟨W0.heap.size+1,0,none⟩) 1 1,.slice A1 n1 c1,.slice A2 n2 c2] 25);rw[World.size_alloc,World.size_alloc]at this
  exact this)
 have HX1:=Hq (hx0.next hb1);have HB1:=Hq (hb0.trans (hb1.mono hb0.size));have HRD:=Hq (wi_ready N M O Z S RA rn rc U H [wt,acc] (some ⟨W0.heap.size,0,none⟩) 2 2 (W0.heap.size+1+1) (some ⟨W0.heap.size+1,0,none⟩,1,1) (A1,n1,c1) (A2,n2,c2) [u] ad rm W1 hM hO HE1.out (by decide)
  (by intro s hs;simp only[List.mem_cons,List.mem_nil_iff,or_false]at hs;rcases hs with rfl | rfl<;>omega)
  ⟨HU1.out,h1.kept HB1.out nlr,h2.kept HB1.out nlr,trivial⟩
  (by intro l hl; simp only [List.mem_cons, List.mem_nil_iff, or_false] at hl; rcases hl with rfl | rfl | rfl; · intro s hs; rw [List.mem_singleton] at hs; rw [hs]; omega
      · exact z1
      · exact z2) HR1.out)
 rw[show [u]++(ad++rm)=u::(ad++rm)from rfl]at HRD;have HEX:=Hq (fun(hr:Rdy M O wt acc u ad rm) W (hb:Below w.heap.size w W)=>wi_exponents u ad rm A1 A2 n1 c1 n2 c2 W (h1.kept hb nlr) (h2.kept hb nlr) hr.vu hr.pu hus hr.vad hr.vrm hr.pad hr.prm);have HPW:=Hq (fun l zs A B W h3 h4 hl hz=>pw_Product M O l zs A B 2 2 2 2 hM hO h3 h4 (by decide) (by decide) W hl hz);have HSZ:=Hq (And.intro hwt hac);obtain⟨RR,hRR⟩:=nm (upR M O wt u ad rm acc);rw[hRR];obtain⟨R1,R2⟩:=RR;have HRR:=Hq hRR;dsimp only;clear hRR h1 h2 z1 z2 hM hO hwt hac hus hx0 hb0 hb1;unfold ikC at *;have k1:W0.cell? ⟨w.heap.size,1,none⟩=some (.string M):=HX0.out.cell 1;have k0:W0.cell? ⟨w.heap.size,0,none⟩=some (.string N):=HX0.out.cell 0;have k2:W0.cell? ⟨w.heap.size,2,none⟩=some (.string O):=HX0.out.cell 2;have k3:W0.cell? ⟨w.heap.size,3,none⟩=some (.string Z):=HX0.out.cell 3;have k4:W0.cell? ⟨w.heap.size,4,none⟩=some (.string S):=HX0.out.cell 4;have k5:W0.cell? ⟨w.heap.size,5,none⟩=some (.slice RA rn rc):=HX0.out.cell 5;have k6:W0.cell? ⟨w.heap.size,6,none⟩=some (.string U):=HX0.out.cell 6;have k7:W0.cell? ⟨w.heap.size,7,none⟩=some (.string H):=HX0.out.cell 7;go_enter Tryz.func9,Tryz.ntmps9;go_wp2_with fail;try rw[hW0]
 clear hW0;try rw[hW1]
 obtain⟨P,hP⟩:=nm (W0.heap.size);rw[hP]at HRD⊢;clear hW1 hP k0 k1 k2 k3 k4 k5 k6 k7;by_cases hr:rdyR M O [wt,acc] (u::(ad++rm))=0
 · have hy:=rdy_of hr;have HRY:=Hq hy;have HRZ:=Hq hr;rw[hr]at HRD;clear hr hy;refine HRD.out.mono ?_;rintro e w2 ⟨rfl,hb⟩;have HX2:=Hq (HX1.out.next hb);have HB2:=bTr HB1 hb;clear hb;have HEX2:=Hq (HEX.out HRY.out w2 HB2.out);by_cases he:(exR u ad rm).2=0
   · obtain⟨hbx,hby⟩:=ex_bounds HRY.out.pu (prodN_pos HRY.out.prm) he;have hres:=up_ok HRZ.out he;rw[HRR.out]at hres;obtain⟨r,hr⟩:=nm (exR u ad rm);rw[hr]at he hbx hby hres HEX2;clear hr;obtain⟨⟨x,y⟩,k⟩:=r;simp only[]at he hbx hby hres;obtain⟨e1,e2⟩:=Prod.mk.inj hres;subst he;subst e2;have HPR:=Hq (pr_two HRY.out.vw HRY.out.va HRY.out.chk HRY.out.hw HRY.out.ha hbx hby);rw[←e1]at HPR;have HXB:=Hq (show (nS x.natAbs).size≤1000∧(nS y.natAbs).size≤1000 from⟨by have:=nS_size_le.2 hbx;omega,by have:=nS_size_le.2 hby;omega⟩);unfold exV intV zV at HEX2;try simp only[]at HEX2
     try simp only[]
     obtain⟨xb,hxb⟩:=nm (decide (x<0));obtain⟨xs,hxs⟩:=nm (nS x.natAbs);obtain⟨yb,hyb⟩:=nm (decide (y<0));obtain⟨ys,hys⟩:=nm (nS y.natAbs);rw[hxb,hxs,hyb,hys]at HPR;rw[hxb,hxs,hyb,hys]at HEX2;rw[hxs,hys]at HXB;clear hxb hxs hyb hys hbx hby HRR e1 hres;go_wp2_with fail;refine HEX2.out.mono ?_;rintro e w3 ⟨rfl,hb⟩;have HX3:=Hq (HX2.out.next hb);have HB3:=bTr HB2 hb;clear hb;go_upto_region 5 with(fail)
     have hv5:=(Bx2.new w3 (.bool xb) (.string xs) 74).next ((blr).alloc nlr (.cells #[.bool yb,.string ys] 74));have hy5:=Bx2.new (w3.alloc (.cells #[.bool xb,.string xs] 74)) (.bool yb) (.string ys) 74;rw[World.size_alloc]at hy5;have hb5:=((Below.refl w3.heap.size w3).alloc nlr (.cells #[.bool xb,.string xs] 74)).alloc (by simp) (.cells #[.bool yb,.string ys] 74);obtain⟨W5,hW5⟩:=nm ((w3.alloc (.cells #[.bool xb,.string xs] 74)).alloc (.cells #[.bool yb,.string ys] 74));rw[hW5]at hv5 hy5 hb5⊢;have hx5:=HX3.out.next hb5;have HB5:=bTr HB3 hb5;obtain⟨Q,hQ⟩:=nm (w3.heap.size);rw[hQ]at hv5 hy5⊢;have hba:Below W5.heap.size W5 (W5.alloc (.cells #[.string wt,.string acc] 22)):=(blr).alloc nlr _;have v0:=(hv5.next hba).c0;have v1:=(hv5.next hba).c1;have y0:=(hy5.next hba).c0;have y1:=(hy5.next hba).c1;clear hba;have k1:W5.cell? ⟨w.heap.size,1,none⟩=some (.string M):=hx5.cell 1;have k2:W5.cell? ⟨w.heap.size,2,none⟩=some (.string O):=hx5.cell 2;have hb6:Below W5.heap.size W5 ((W5.alloc (.cells #[.string wt,.string acc] 22)).alloc (.cells #[.bool xb,.string xs,.bool yb,.string ys] 74)):=((blr).alloc nlr _).alloc (by simp) _;have HSN:=Hq (show SlN ((W5.alloc (.cells #[.string wt,.string acc] 22)).alloc (.cells #[.bool xb,.string xs,.bool yb,.string ys] 74)) (some ⟨W5.heap.size,0,none⟩) 2 2 [wt,acc]from
      (sln_alloc W5 [wt,acc] 22 (by simp)).kept ((blr).alloc nlr _) nlr)
     have hsz:=slZ_two (W5.alloc (.cells #[.string wt,.string acc] 22)) xb xs yb ys 74;rw[World.size_alloc]at hsz;have HSZZ:=Hq hsz;have HB6:=Hq hb6;have HP5:=Hq (HPW.out [wt,acc] [(xb,xs),(yb,ys)] _ _ _ (two_sz HSZ.out.1 HSZ.out.2) (two_szZ HXB.out.1 HXB.out.2) HSN.out HSZZ.out);rw[HPR.out]at HP5;unfold gV at HP5;clear hv5 hy5 hb5 hx5 hQ hW5 hb6 hsz;go_wp2_with fail;refine(show Calls _ _ _ _ _ from HP5.out).mono ?_;rintro e w7 ⟨rfl,hb⟩;have HB7:=Hq (HB5.out.trans ((HB6.out.trans (hb.mono HB6.out.size)).mono HB5.out.size));clear hb v0 v1 y0 y1 k1 k2;go_wp2;go_ret2;exact⟨by rfl,HB7.out⟩
   · have hres:=up_ex HRZ.out he;rw[HRR.out]at hres;obtain⟨r,hr⟩:=nm (exR u ad rm);rw[hr]at he hres HEX2;clear hr;obtain⟨⟨x,y⟩,k⟩:=r;simp only[]at he hres;obtain⟨rfl,rfl⟩:=Prod.mk.inj hres;clear hres;unfold exV intV zV at HEX2;try simp only[]at HEX2
     try simp only[]
     obtain⟨xb,hxb⟩:=nm (decide (x<0));obtain⟨xs,hxs⟩:=nm (nS x.natAbs);obtain⟨yb,hyb⟩:=nm (decide (y<0));obtain⟨ys,hys⟩:=nm (nS y.natAbs);rw[hxb,hxs,hyb,hys]at HEX2;have hkb:(R2 != 0)=true:=by rw[bne_iff_ne];exact he
     clear hxb hxs hyb hys he HRR;go_wp2_with fail;refine HEX2.out.mono ?_;rintro e w3 ⟨rfl,hb⟩;have hb5:=((Below.refl w3.heap.size w3).alloc nlr (.cells #[.bool xb,.string xs] 74)).alloc (by simp) (.cells #[.bool yb,.string ys] 74);have HB3:=Hq (HB2.out.trans ((hb.trans (hb5.mono hb.size)).mono HB2.out.size));clear hb hb5;go_wp2;go_ret2;exact⟨by rfl,HB3.out⟩
 · have hres:=up_rdy hr;rw[HRR.out]at hres;obtain⟨v,hv⟩:=nm (rdyR M O [wt,acc] (u::(ad++rm)));rw[hv]at hr HRD hres;obtain⟨rfl,rfl⟩:=Prod.mk.inj hres;clear hres;have hvb:(R2 != 0)=true:=by rw[bne_iff_ne];exact hr
   clear hr hv HRR;refine HRD.out.mono ?_;rintro e w2 ⟨rfl,hb⟩;have HB2:=bTr HB1 hb;clear hb;go_wp2;go_ret2;exact⟨by rfl,HB2.out⟩
end Go.Proofs.YtmahgbhpdfbbjaaGreatDoor

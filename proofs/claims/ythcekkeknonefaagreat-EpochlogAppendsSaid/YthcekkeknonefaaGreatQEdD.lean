import Derived.Test.YthcekkeknonefaaGreatQEpG
import Derived.Test.YthcekkeknonefaaGreatQEpH
import Derived.Test.YthcekkeknonefaaGreatQScT
import Derived.Test.YthcekkeknonefaaGreatQEdB
set_option linter.unusedVariables false
set_option linter.unusedSimpArgs false
namespace Go.Proofs.YthcekkeknonefaaGreat
set_option maxRecDepth 100000
set_option maxHeartbeats 4000000
open Go.RowKit
def ckD(M O G Y:ByteArray)(d:Dl):Int:=if d.msg.2=0 then veK M O G Y d.sc d.sr d.msg.1 else d.msg.2
theorem encS_sizeE(x:It):(encS x).1.size≤1000000:=by
 unfold encS;split
 · decide
 split
 · decide
 split
 · decide
 · rw[bstr_size];omega
theorem Dl.msg_size(d:Dl):d.msg.1.size≤1000000:=by
 unfold Dl.msg;split
 · exact encS_sizeE _
 · exact Nat.zero_le _
theorem ep_Check(M O G Y:ByteArray)(d:Dl)(A A':Option Addr)(n c n' c':Nat)(w:World)(hs:SlN w A n c d.ad)(hs':SlN w A' n' c' d.rm)(hn:n≤400000)(hn':n'≤400000)(hz:SzL d.str)(hM:M.size≤8)(hO:O.size≤100)(hG:G.size≤1000)(hY:Y.size≤1000)(hc:d.sc.size≤1000)(hr:d.sr.size≤1000) :
 Calls Tryz.prog 20 #[kV M O G Y,.agg (d.arr (.slice A n c) (.slice A' n' c'))] w (Ret (.int .i64 (ckD M O G Y d)) w):=by
 obtain⟨W0,hW0⟩:∃ W0,(w.alloc (.cells #[.string M,.string O,.string G,.string Y] 26)).alloc (.cells (d.arr (.slice A n c) (.slice A' n' c')) 32)=W0:=⟨_,rfl⟩;have hx1:BxC W0 (w.heap.size+1) (d.arr (.slice A n c) (.slice A' n' c')) 32:=(by rw[←hW0];have:=BxC.new (w.alloc (.cells #[.string M,.string O,.string G,.string Y] 26)) (d.arr (.slice A n c) (.slice A' n' c')) 32;rw[World.size_alloc]at this;exact this);have HK0:=Hq (show BxC W0 w.heap.size #[.string M,.string O,.string G,.string Y] 26 from by rw[←hW0];exact(BxC.new w _ _).next ((Below.refl _ _).alloc (Nat.le_refl _) _));have HX0:=Hq hx1;have HB0:=Hq (show Below w.heap.size w W0 from by rw[←hW0];exact((Below.refl _ _).alloc (Nat.le_refl _) _).alloc (by simp) _);have HM:=Hq (ep_Message d A A' n c n' c' W0 (hs.kept HB0.out (Nat.le_refl _)) (hs'.kept HB0.out (Nat.le_refl _)) hn hn' hz);have HV:=Hq (fun W=>sc_Verify M O G Y d.sc d.sr d.msg.1 hM hO hG hY hc hr d.msg_size W);obtain⟨r1,r2,hr1⟩:∃ r1 r2,d.msg=(r1,r2):=⟨_,_,rfl⟩;have HCK:=Hq (show ckD M O G Y d=if r2=0 then veK M O G Y d.sc d.sr r1 else r2 from by unfold ckD;rw[hr1]);rw[hr1]at HM HV;have p0:W0.cell? ⟨w.heap.size+1,0,none⟩=some (.int .i64 d.fr):=hx1.cell 0;have p1:W0.cell? ⟨w.heap.size+1,1,none⟩=some (.int .i64 d.to):=hx1.cell 1;have p2:W0.cell? ⟨w.heap.size+1,2,none⟩=some (.slice A n c):=hx1.cell 2;have p3:W0.cell? ⟨w.heap.size+1,3,none⟩=some (.slice A' n' c'):=hx1.cell 3;have p4:W0.cell? ⟨w.heap.size+1,4,none⟩=some (.string d.be):=hx1.cell 4;have p5:W0.cell? ⟨w.heap.size+1,5,none⟩=some (.string d.af):=hx1.cell 5;have p6:W0.cell? ⟨w.heap.size+1,6,none⟩=some (.string d.sc):=hx1.cell 6;have p7:W0.cell? ⟨w.heap.size+1,7,none⟩=some (.string d.sr):=hx1.cell 7;unfold Dl.arr at *;unfold kV at HV⊢;clear hs hs' hr1 hx1;go_enter Tryz.func20,Tryz.ntmps20;go_upto_region 1 with fail
 try rw[hW0]
 clear hW0;go_wp2_with fail;refine(show Calls _ _ _ _ _ from HM.out).mono ?_;rintro e w1 ⟨rfl,hb1⟩;have HK1:=Hq (HK0.out.next hb1);have HX1:=Hq (HX0.out.next hb1);have HB1:=Hq (HB0.out.trans (hb1.mono HB0.out.size));clear hb1 p0 p1 p2 p3 p4 p5 p6 p7;by_cases hz2:r2=0
 · subst hz2;have HCK:=Hq (show ckD M O G Y d=veK M O G Y d.sc d.sr r1 from by rw[HCK.out,if_pos rfl]);have k0:w1.cell? ⟨w.heap.size,0,none⟩=some (.string M):=HK1.out.cell 0;have k1:w1.cell? ⟨w.heap.size,1,none⟩=some (.string O):=HK1.out.cell 1;have k2:w1.cell? ⟨w.heap.size,2,none⟩=some (.string G):=HK1.out.cell 2;have k3:w1.cell? ⟨w.heap.size,3,none⟩=some (.string Y):=HK1.out.cell 3;have x6:w1.cell? ⟨w.heap.size+1,6,none⟩=some (.string d.sc):=HX1.out.cell 6;have x7:w1.cell? ⟨w.heap.size+1,7,none⟩=some (.string d.sr):=HX1.out.cell 7;go_wp2_with fail;refine(HV.out w1).mono ?_;rintro e w2 ⟨rfl,hb2⟩;have HB2:=Hq (HB1.out.trans (hb2.mono HB1.out.size));clear hb2;go_wp2;go_ret;exact⟨by rw[HCK.out];rfl,HB2.out⟩
 · have hne:(r2 != 0)=true:=by simp[hz2]
   have HCK:=Hq (show ckD M O G Y d=r2 from by rw[HCK.out,if_neg hz2]);go_wp2;go_ret;exact⟨by rw[HCK.out];rfl,HB1.out⟩
theorem r37_Check(M O G Y:ByteArray)(d:Dl)(A A':Option Addr)(n c n' c':Nat)(w:World)(hs:SlN w A n c d.ad)(hs':SlN w A' n' c' d.rm)(hn:n≤400000)(hn':n'≤400000)(hz:SzL d.str)(hM:M.size≤8)(hO:O.size≤100)(hG:G.size≤1000)(hY:Y.size≤1000)(hc:d.sc.size≤1000)(hr:d.sr.size≤1000) :
 Calls Tryz.prog 22 #[kV M O G Y,.agg (d.arr (.slice A n c) (.slice A' n' c'))] w (Ret (.int .i64 (ckD M O G Y d)) w):=by
 obtain⟨W0,hW0⟩:∃ W0,(w.alloc (.cells #[.string M,.string O,.string G,.string Y] 26)).alloc (.cells (d.arr (.slice A n c) (.slice A' n' c')) 32)=W0:=⟨_,rfl⟩;have hx1:BxC W0 (w.heap.size+1) (d.arr (.slice A n c) (.slice A' n' c')) 32:=(by rw[←hW0];have:=BxC.new (w.alloc (.cells #[.string M,.string O,.string G,.string Y] 26)) (d.arr (.slice A n c) (.slice A' n' c')) 32;rw[World.size_alloc]at this;exact this);have HK0:=Hq (show BxC W0 w.heap.size #[.string M,.string O,.string G,.string Y] 26 from by rw[←hW0];exact(BxC.new w _ _).next ((Below.refl _ _).alloc (Nat.le_refl _) _));have HX0:=Hq hx1;have HB0:=Hq (show Below w.heap.size w W0 from by rw[←hW0];exact((Below.refl _ _).alloc (Nat.le_refl _) _).alloc (by simp) _);have HM:=Hq (r37_Message d A A' n c n' c' W0 (hs.kept HB0.out (Nat.le_refl _)) (hs'.kept HB0.out (Nat.le_refl _)) hn hn' hz);have HV:=Hq (fun W=>r33_Verify M O G Y d.sc d.sr d.msg.1 hM hO hG hY hc hr d.msg_size W);obtain⟨r1,r2,hr1⟩:∃ r1 r2,d.msg=(r1,r2):=⟨_,_,rfl⟩;have HCK:=Hq (show ckD M O G Y d=if r2=0 then veK M O G Y d.sc d.sr r1 else r2 from by unfold ckD;rw[hr1]);rw[hr1]at HM HV;have p0:W0.cell? ⟨w.heap.size+1,0,none⟩=some (.int .i64 d.fr):=hx1.cell 0;have p1:W0.cell? ⟨w.heap.size+1,1,none⟩=some (.int .i64 d.to):=hx1.cell 1;have p2:W0.cell? ⟨w.heap.size+1,2,none⟩=some (.slice A n c):=hx1.cell 2;have p3:W0.cell? ⟨w.heap.size+1,3,none⟩=some (.slice A' n' c'):=hx1.cell 3;have p4:W0.cell? ⟨w.heap.size+1,4,none⟩=some (.string d.be):=hx1.cell 4;have p5:W0.cell? ⟨w.heap.size+1,5,none⟩=some (.string d.af):=hx1.cell 5;have p6:W0.cell? ⟨w.heap.size+1,6,none⟩=some (.string d.sc):=hx1.cell 6;have p7:W0.cell? ⟨w.heap.size+1,7,none⟩=some (.string d.sr):=hx1.cell 7;unfold Dl.arr at *;unfold kV at HV⊢;clear hs hs' hr1 hx1;go_enter Tryz.func22,Tryz.ntmps22;go_upto_region 1 with fail
 try rw[hW0]
 clear hW0;go_wp2_with fail;refine(show Calls _ _ _ _ _ from HM.out).mono ?_;rintro e w1 ⟨rfl,hb1⟩;have HK1:=Hq (HK0.out.next hb1);have HX1:=Hq (HX0.out.next hb1);have HB1:=Hq (HB0.out.trans (hb1.mono HB0.out.size));clear hb1 p0 p1 p2 p3 p4 p5 p6 p7;by_cases hz2:r2=0
 · subst hz2;have HCK:=Hq (show ckD M O G Y d=veK M O G Y d.sc d.sr r1 from by rw[HCK.out,if_pos rfl]);have k0:w1.cell? ⟨w.heap.size,0,none⟩=some (.string M):=HK1.out.cell 0;have k1:w1.cell? ⟨w.heap.size,1,none⟩=some (.string O):=HK1.out.cell 1;have k2:w1.cell? ⟨w.heap.size,2,none⟩=some (.string G):=HK1.out.cell 2;have k3:w1.cell? ⟨w.heap.size,3,none⟩=some (.string Y):=HK1.out.cell 3;have x6:w1.cell? ⟨w.heap.size+1,6,none⟩=some (.string d.sc):=HX1.out.cell 6;have x7:w1.cell? ⟨w.heap.size+1,7,none⟩=some (.string d.sr):=HX1.out.cell 7;go_wp2_with fail;refine(HV.out w1).mono ?_;rintro e w2 ⟨rfl,hb2⟩;have HB2:=Hq (HB1.out.trans (hb2.mono HB1.out.size));clear hb2;go_wp2;go_ret;exact⟨by rw[HCK.out];rfl,HB2.out⟩
 · have hne:(r2 != 0)=true:=by simp[hz2]
   have HCK:=Hq (show ckD M O G Y d=r2 from by rw[HCK.out,if_neg hz2]);go_wp2;go_ret;exact⟨by rw[HCK.out];rfl,HB1.out⟩
set_option maxRecDepth 100000
set_option maxHeartbeats 4000000
theorem r37_Append(M O G Y:ByteArray)(l:List Dl)(A:Option Addr)(len cap:Nat)(d:Dl)(A1:Option Addr)(n1 c1:Nat)(A2:Option Addr)(n2 c2:Nat)(w:World)(hs:SlD w A len cap l)(hlen:len≤100)(h1:SlN w A1 n1 c1 d.ad)(h2:SlN w A2 n2 c2 d.rm)(g1:n1≤400000)(g2:n2≤400000)(hz:SzL d.str)(hM:M.size≤8)(hO:O.size≤100)(hG:G.size≤1000)(hY:Y.size≤1000)(hc:d.sc.size≤1000)(hr:d.sr.size≤1000) :
 Calls Tryz.prog 9 #[kV M O G Y,.slice A len cap,.agg (d.arr (.slice A1 n1 c1) (.slice A2 n2 c2))] w (RetLg .i64 (apR (ckD M O G Y d) l d) w):=by
 obtain⟨cs,hcs⟩:∃ cs,d.arr (.slice A1 n1 c1) (.slice A2 n2 c2)=cs:=⟨_,rfl⟩;rw[hcs];have HVA:=Hq hcs;have HCS:=Hq (show cs.size=8 from by rw[←hcs];rfl);obtain⟨W0,hW0⟩:∃ W0,(w.alloc (.cells #[.string M,.string O,.string G,.string Y] 26)).alloc (.cells cs 32)=W0:=⟨_,rfl⟩;have HK0:=Hq (show BxC W0 w.heap.size #[.string M,.string O,.string G,.string Y] 26 from by rw[←hW0];exact(BxC.new w _ _).next ((Below.refl _ _).alloc (Nat.le_refl _) _));have HX0:=Hq (show BxC W0 (w.heap.size+1) cs 32 from by rw[←hW0];exact BxC.new1 w _ _ _);have HB0:=Hq (show Below w.heap.size w W0 from by rw[←hW0];exact((Below.refl _ _).alloc (Nat.le_refl _) _).alloc (by simp) _);have HSW:=Hq hs;have HS1:=Hq h1;have HS2:=Hq h2;have HLEN:=Hq hs.1;have hcap:=hs.2.1;have hcap2:=hs.2.2.1;have HCK:=Hq (show ∀ W,Below w.heap.size w W→Calls Tryz.prog 22 #[.agg #[.string M,.string O,.string G,.string Y],.agg cs] W (Ret (.int .i64 (ckD M O G Y d)) W)from fun W hb=>by
  rw[←hcs]
  exact r37_Check M O G Y d A1 A2 n1 c1 n2 c2 W (h1.kept hb (Nat.le_refl _)) (h2.kept hb (Nat.le_refl _)) g1 g2 hz hM hO hG hY hc hr)
 obtain⟨ck,hck⟩:∃ ck,ckD M O G Y d=ck:=⟨_,rfl⟩;rw[hck]at HCK⊢;have HCE:=Hq hck;unfold kV;clear hs h1 h2 hcs hck hz hM hO hG hY hc hr;go_enter Tryz.func9,Tryz.ntmps9;go_upto_region 1 with fail
 try rw[hW0]
 clear hW0;refine wp_region_lit ?_;refine wpList_load_row rfl 26 _ rfl w.heap.size rfl 26 #[.string M,.string O,.string G,.string Y] (0,0) _ HK0.out Tryz.underlying26 rfl (by kernel_rfl) ?_;refine wpList_load_row rfl 32 _ rfl (w.heap.size+1) rfl 32 cs (0,0) _ HX0.out Tryz.underlying32 rfl (by rw[HCS.out];kernel_rfl) ?_;go_wp2_with fail;refine(HCK.out W0 HB0.out).mono ?_;rintro e w1 ⟨rfl,hb1⟩;have HX1:=Hq (HX0.out.next hb1);have HB1:=Hq (HB0.out.trans (hb1.mono HB0.out.size));clear hb1 HCK HK0 HX0 HB0;by_cases h0:ck=0
 · subst h0;have x0:w1.cell? ⟨w.heap.size+1,0,none⟩=some (.int .i64 d.fr):=(HX1.out.cell 0).trans (by rw[←HVA.out];rfl);have x1:w1.cell? ⟨w.heap.size+1,1,none⟩=some (.int .i64 d.to):=(HX1.out.cell 1).trans (by rw[←HVA.out];rfl);by_cases q1:d.fr=(len:Int)
   · have q1':(d.fr != (len:Int))=false:=by simp[q1]
     have f1:d.fr≤100:=by omega
     have f2:0≤d.fr:=by omega
     have Q1:=Hq q1;clear q1;by_cases q2:d.to=d.fr+1
     · have q2':(d.to != d.fr+1)=false:=by simp[q2]
       have HAP:=Hq (show apR 0 l d=apL l d from by unfold apR;rw[if_neg (by simp),if_neg (by rw[HLEN.out];exact fun h=>h.elim (fun h=>h Q1.out) (fun h=>h q2))]);clear q2;have x4:w1.drew.cell? ⟨w.heap.size+1,4,none⟩=some (.string d.be):=(HX1.out.cell 4).trans (by rw[←HVA.out];rfl);rcases Nat.eq_zero_or_pos len with e0 | e0
       · have hnil:l=[]:=List.length_eq_zero_iff.1 (HLEN.out.trans e0);have HRA:=Hq (show apR 0 l d=(l++[d],0)from by rw[HAP.out];unfold apL;rw[hnil];rfl);subst e0;clear hnil;go_wp2;go_region;obtain⟨wd,hwd⟩:∃ wd,w1.drew=wd:=⟨_,rfl⟩;have hdd:Below w1.heap.size w1 wd:=by rw[←hwd];exact(Below.refl _ _).drew
         have HXD:=Hq (HX1.out.next hdd);have HBD:=Hq (HB1.out.trans (hdd.mono HB1.out.size));have HSD:=Hq (HSW.out.kept HBD.out (Nat.le_refl _));clear hdd;go_upto_region 9 with fail
         rw[hwd];refine wp_region_lit ?_;iterate 6 go_step
         refine wpList_append_dls rfl (.tmp 44) (.tmp 45) rfl rfl _ 0 cap rfl l HSD.out hlen ?_;intro rv vs w6 hown hvb hb6;have HOW:=Hq hown;have HVB:=Hq hvb;have HX6:=Hq (HXD.out.next hb6);have HB6:=Hq (HBD.out.trans (hb6.mono HBD.out.size));have HDB:=Hq hb6;clear hown hvb hb6;go_upto_region 10 with fail
         refine wp_region_lit ?_;iterate 3 go_step
         refine wpList_load_row rfl 32 _ rfl (w.heap.size+1) rfl 32 cs (0,0) _ HX6.out Tryz.underlying32 rfl (by rw[HCS.out];kernel_rfl) ?_;refine wpList_build_dl rfl _ rfl d A1 n1 c1 A2 n2 c2 (congrArg Value.agg HVA.out.symm) ?_;obtain⟨w7,hw7⟩:∃ w7,w6.alloc (.cells (d.arr (.slice A1 n1 c1) (.slice A2 n2 c2)) 32)=w7:=⟨_,rfl⟩;have hb:Below w6.heap.size w6 w7:=by rw[←hw7];exact(Below.refl _ _).alloc (Nat.le_refl _) _
         have HX7:=Hq (show BxC w7 w6.heap.size (d.arr (.slice A1 n1 c1) (.slice A2 n2 c2)) 32 from by rw[←hw7];exact BxC.new _ _ _);rw[hw7];have HO7:=Hq (owns_kept HOW.out hb (Nat.le_refl _));have HB7:=Hq (HB6.out.trans (hb.mono HB6.out.size));have HD7:=Hq (HDB.out.trans (hb.mono HDB.out.size));have hr1:SlO w7 rv.ownBlock A1 n1 c1 d.ad:=⟨HS1.out.kept HB7.out (Nat.le_refl _),fun hn a e h=>by
          have h1:=(HOW.out.lt _ h).1;have h2:=HBD.out.size;have h3:a.block<w.heap.size:=by subst e;exact HS1.out.lt hn
          omega⟩
         have hr2:SlO w7 rv.ownBlock A2 n2 c2 d.rm:=⟨HS2.out.kept HB7.out (Nat.le_refl _),fun hn a e h=>by
          have h1:=(HOW.out.lt _ h).1;have h2:=HBD.out.size;have h3:a.block<w.heap.size:=by subst e;exact HS2.out.lt hn
          omega⟩
         have HVR:=Hq ((HVB.out.kept hb (Nat.le_refl _)).snoc hr1 hr2);clear hb hw7 hr1 hr2;obtain⟨i0,hi,iz0,iz1,iz2⟩:=info_parts dl_info;refine wpList_append_lies _ rfl (.tmp 47) (.tmp 49) 27 rfl wd.heap.size 32 i0 _ 8 128 Tryz.underlying27 hi iz0 iz1 iz2 rfl (by decide) rv 0 vs rfl HO7.out ⟨w6.heap.size,0,none⟩ 1 1 (d.vals (.slice A1 n1 c1) (.slice A2 n2 c2)) rfl rfl (World.news_of_block HX7.out) d.oneV (by decide) (by unfold maxLen;omega) (by omega) HD7.out.size _ rfl ?_;intro g cap7 w8 hown8 hgrow8 hat8 hlt8;have hb8:=HD7.out.grown hgrow8 HD7.out.size (fun k e=>(HO7.out.lt k e).1);have HB8:=Hq (HBD.out.trans (hb8.mono HBD.out.size));have HFIN:=Hq (show SlD w8 (some ⟨g,0,none⟩) (l++[d]).length cap7 (l++[d])from by
          obtain⟨hl8,A8,c8,e8,hs8⟩:=SlD.of_owns hown8 (HVR.out.grow hgrow8 hat8);cases e8;rw[hl8]
          exact hs8)
         clear hown8 hgrow8 hat8 hlt8 hi iz0 iz1 iz2 hb8;go_wp2;go_ret2;exact⟨some ⟨g,0,none⟩,cap7,by show Ending.returned (.tuple #[.slice (some ⟨g,0,none⟩) (0+1) cap7,.int .i64 0])=_;rw[HRA.out];simp[HLEN.out],by rw[HRA.out];exact HFIN.out,HB8.out⟩
       · obtain⟨m,hm⟩:∃ m,len=m+1:=⟨len - 1,by omega⟩;obtain⟨y,hy⟩:∃ y,l[m]? =some y:=⟨_,List.getElem?_eq_getElem (by rw[HLEN.out];omega)⟩;obtain⟨b,o,rfl,B1,m1,k1,B2,m2,k2,hin⟩:=(HSW.out.kept HB1.out (Nat.le_refl _)).get hy;have z5:w1.drew.cell? ⟨b,o+m * 8+5,none⟩=some (.string y.af):=hin.cell 5 rfl;have hlast:l.getLast? =some y:=by rw[List.getLast?_eq_getElem?,HLEN.out,hm,Nat.add_sub_cancel];exact hy
         by_cases q3:y.af=d.be
         · have q3':(y.af.toList==d.be.toList)=true:=by rw[q3];exact beq_self_eq_true _
           have HRA:=Hq (show apR 0 l d=(l++[d],0)from by rw[HAP.out];unfold apL;rw[hlast];exact if_neg (fun h=>h q3));subst hm;clear hy hin hlast q3;go_wp2;go_region;obtain⟨wd,hwd⟩:∃ wd,w1.drew=wd:=⟨_,rfl⟩;have hdd:Below w1.heap.size w1 wd:=by rw[←hwd];exact(Below.refl _ _).drew
           have HXD:=Hq (HX1.out.next hdd);have HBD:=Hq (HB1.out.trans (hdd.mono HB1.out.size));have HSD:=Hq (HSW.out.kept HBD.out (Nat.le_refl _));clear hdd;go_upto_region 9 with fail
           rw[hwd];refine wp_region_lit ?_;iterate 6 go_step
           refine wpList_append_dls rfl (.tmp 44) (.tmp 45) rfl rfl _ (m+1) cap rfl l HSD.out hlen ?_;intro rv vs w6 hown hvb hb6;have HOW:=Hq hown;have HVB:=Hq hvb;have HX6:=Hq (HXD.out.next hb6);have HB6:=Hq (HBD.out.trans (hb6.mono HBD.out.size));have HDB:=Hq hb6;clear hown hvb hb6;go_upto_region 10 with fail
           refine wp_region_lit ?_;iterate 3 go_step
           refine wpList_load_row rfl 32 _ rfl (w.heap.size+1) rfl 32 cs (0,0) _ HX6.out Tryz.underlying32 rfl (by rw[HCS.out];kernel_rfl) ?_;refine wpList_build_dl rfl _ rfl d A1 n1 c1 A2 n2 c2 (congrArg Value.agg HVA.out.symm) ?_;obtain⟨w7,hw7⟩:∃ w7,w6.alloc (.cells (d.arr (.slice A1 n1 c1) (.slice A2 n2 c2)) 32)=w7:=⟨_,rfl⟩;have hb:Below w6.heap.size w6 w7:=by rw[←hw7];exact(Below.refl _ _).alloc (Nat.le_refl _) _
           have HX7:=Hq (show BxC w7 w6.heap.size (d.arr (.slice A1 n1 c1) (.slice A2 n2 c2)) 32 from by rw[←hw7];exact BxC.new _ _ _);rw[hw7];have HO7:=Hq (owns_kept HOW.out hb (Nat.le_refl _));have HB7:=Hq (HB6.out.trans (hb.mono HB6.out.size));have HD7:=Hq (HDB.out.trans (hb.mono HDB.out.size));have hr1:SlO w7 rv.ownBlock A1 n1 c1 d.ad:=⟨HS1.out.kept HB7.out (Nat.le_refl _),fun hn a e h=>by
            have h1:=(HOW.out.lt _ h).1;have h2:=HBD.out.size;have h3:a.block<w.heap.size:=by subst e;exact HS1.out.lt hn
            omega⟩
           have hr2:SlO w7 rv.ownBlock A2 n2 c2 d.rm:=⟨HS2.out.kept HB7.out (Nat.le_refl _),fun hn a e h=>by
            have h1:=(HOW.out.lt _ h).1;have h2:=HBD.out.size;have h3:a.block<w.heap.size:=by subst e;exact HS2.out.lt hn
            omega⟩
           have HVR:=Hq ((HVB.out.kept hb (Nat.le_refl _)).snoc hr1 hr2);clear hb hw7 hr1 hr2;obtain⟨i0,hi,iz0,iz1,iz2⟩:=info_parts dl_info;refine wpList_append_lies _ rfl (.tmp 47) (.tmp 49) 27 rfl wd.heap.size 32 i0 _ 8 128 Tryz.underlying27 hi iz0 iz1 iz2 rfl (by decide) rv (m+1) vs rfl HO7.out ⟨w6.heap.size,0,none⟩ 1 1 (d.vals (.slice A1 n1 c1) (.slice A2 n2 c2)) rfl rfl (World.news_of_block HX7.out) d.oneV (by decide) (by unfold maxLen;omega) (by omega) HD7.out.size _ rfl ?_;intro g cap7 w8 hown8 hgrow8 hat8 hlt8;have hb8:=HD7.out.grown hgrow8 HD7.out.size (fun k e=>(HO7.out.lt k e).1);have HB8:=Hq (HBD.out.trans (hb8.mono HBD.out.size));have HFIN:=Hq (show SlD w8 (some ⟨g,0,none⟩) (l++[d]).length cap7 (l++[d])from by
            obtain⟨hl8,A8,c8,e8,hs8⟩:=SlD.of_owns hown8 (HVR.out.grow hgrow8 hat8);cases e8;rw[hl8]
            exact hs8)
           clear hown8 hgrow8 hat8 hlt8 hi iz0 iz1 iz2 hb8;go_wp2;go_ret2;exact⟨some ⟨g,0,none⟩,cap7,by show Ending.returned (.tuple #[.slice (some ⟨g,0,none⟩) ((m+1)+1) cap7,.int .i64 0])=_;rw[HRA.out];simp[HLEN.out],by rw[HRA.out];exact HFIN.out,HB8.out⟩
         · have q3':(y.af.toList==d.be.toList)=false:=(by rw[beq_eq_false_iff_ne];exact fun h=>q3 (toList_inj h));have HR:=Hq (show apR 0 l d=([],1)from by rw[HAP.out];unfold apL;rw[hlast];exact if_pos q3);subst hm;clear hy hin hlast q3;go_wp2;go_region;go_wp2;go_ret2;exact⟨none,0,by rw[HR.out];rfl,by rw[HR.out];exact SlD.nil _ none 0 (by omega),HB1.out.drew⟩
     · have q2':(d.to != d.fr+1)=true:=by simp[q2]
       have HR:=Hq (show apR 0 l d=([],21)from by unfold apR;rw[if_neg (by simp),if_pos (.inr q2)]);clear q2;go_wp2;go_ret2;exact⟨none,0,by rw[HR.out];rfl,by rw[HR.out];exact SlD.nil _ none 0 (by omega),HB1.out⟩
   · have q1':(d.fr != (len:Int))=true:=by simp[q1]
     have HR:=Hq (show apR 0 l d=([],21)from by unfold apR;rw[if_neg (by simp),if_pos (.inl (by rw[HLEN.out];exact q1))]);clear q1;go_wp2;go_ret2;exact⟨none,0,by rw[HR.out];rfl,by rw[HR.out];exact SlD.nil _ none 0 (by omega),HB1.out⟩
 · have hne:(ck != 0)=true:=by simp[h0]
   have HR:=Hq (show apR ck l d=([],ck)from by unfold apR;rw[if_pos h0]);go_wp2;go_ret2;exact⟨none,0,by rw[HR.out];rfl,by rw[HR.out];exact SlD.nil _ none 0 (by omega),HB1.out⟩
set_option maxRecDepth 100000
set_option maxHeartbeats 2000000
theorem ep_AtG(l:List Dl)(A:Option Addr)(len cap:Nat)(i:Int)(w:World)(hs:SlD w A len cap l)(hlen:len≤100)(h1:-10≤i)(h2:i≤1000):Calls Tryz.prog 11 #[.slice A len cap,.int .i64 i] w (RetQ (.tuple #[.string (atR l i).1,.int .i64 (atR l i).2]) w):=by
 have HLEN:=Hq hs.1;have HS:=Hq hs;have hcap:=hs.2.1;have hcap2:=hs.2.2.1;clear hs;by_cases g1:i<0
 · have HR:=Hq (show atR l i=(⟨#[]⟩,2)from if_pos (.inl g1));go_enter Tryz.func11,Tryz.ntmps11;go_wp2;go_ret2;exact⟨by rw[HR.out];rfl,rfl⟩
 · by_cases g2:(len:Int)<i
   · have HR:=Hq (show atR l i=(⟨#[]⟩,2)from if_pos (.inr (by rw[HLEN.out];exact g2)));go_enter Tryz.func11,Tryz.ntmps11;go_wp2;go_ret2;exact⟨by rw[HR.out];rfl,rfl⟩
   · rcases Nat.eq_zero_or_pos len with h0 | h0
     · have hnil:l=[]:=List.length_eq_zero_iff.1 (HLEN.out.trans h0);have HR:=Hq (show atR l i=(⟨#[]⟩,9)from by unfold atR;rw[if_neg (by rw[HLEN.out];omega),hnil]);subst h0;clear hnil;go_enter Tryz.func11,Tryz.ntmps11;go_wp2;go_ret2;exact⟨by rw[HR.out];rfl,rfl⟩
     · by_cases g3:i=0
       · obtain⟨x,hx⟩:∃ x,l[0]? =some x:=⟨_,List.getElem?_eq_getElem (by rw[HLEN.out];omega)⟩;obtain⟨b,o,rfl,B1,m1,k1,B2,m2,k2,hin⟩:=HS.out.get hx;have z4:w.cell? ⟨b,o+4,none⟩=some (.string x.be):=by have:=hin.cell 4 rfl;rw[show o+0 * 8+4=o+4 from by omega]at this;exact this
         have HR:=Hq (show atR l i=(x.be,0)from by
          unfold atR;rw[if_neg (by rw[HLEN.out];omega)];obtain⟨y,t,rfl⟩:∃ y t,l=y::t:=List.exists_cons_of_length_pos (by rw[HLEN.out];omega);simp only[List.getElem?_cons_zero,Option.some.injEq]at hx;subst hx
          exact if_pos g3)
         subst g3;clear hx hin;go_enter Tryz.func11,Tryz.ntmps11;go_wp2;go_ret2;exact⟨by rw[HR.out];rfl,rfl⟩
       · obtain⟨m,rfl⟩:∃ m:Nat,i=(m:Int)+1:=⟨(i - 1).toNat,by omega⟩;obtain⟨x,hx⟩:∃ x,l[m]? =some x:=⟨_,List.getElem?_eq_getElem (by rw[HLEN.out];omega)⟩;obtain⟨b,o,rfl,B1,m1,k1,B2,m2,k2,hin⟩:=HS.out.get hx;have z5:w.cell? ⟨b,o+m * 8+5,none⟩=some (.string x.af):=hin.cell 5 rfl;have HR:=Hq (show atR l ((m:Int)+1)=(x.af,0)from by
          unfold atR;rw[if_neg (by rw[HLEN.out];omega)];obtain⟨y,t,rfl⟩:∃ y t,l=y::t:=List.exists_cons_of_length_pos (by rw[HLEN.out];omega);rw[show ((m:Int)+1 - 1).toNat=m from by omega]
          simp only[if_neg g3,hx])
         clear hx hin;go_enter Tryz.func11,Tryz.ntmps11;go_wp2;go_ret2;exact⟨by rw[HR.out];rfl,rfl⟩
theorem r37_At(l:List Dl)(A:Option Addr)(len cap:Nat)(i:Int)(w:World)(hs:SlD w A len cap l)(hlen:len≤100)(h1:-10≤i)(h2:i≤1000):Calls Tryz.prog 12 #[.slice A len cap,.int .i64 i] w (RetQ (.tuple #[.string (atR l i).1,.int .i64 (atR l i).2]) w):=by
 have HLEN:=Hq hs.1;have HS:=Hq hs;have hcap:=hs.2.1;have hcap2:=hs.2.2.1;clear hs;by_cases g1:i<0
 · have HR:=Hq (show atR l i=(⟨#[]⟩,2)from if_pos (.inl g1));go_enter Tryz.func12,Tryz.ntmps12;go_wp2;go_ret2;exact⟨by rw[HR.out];rfl,rfl⟩
 · by_cases g2:(len:Int)<i
   · have HR:=Hq (show atR l i=(⟨#[]⟩,2)from if_pos (.inr (by rw[HLEN.out];exact g2)));go_enter Tryz.func12,Tryz.ntmps12;go_wp2;go_ret2;exact⟨by rw[HR.out];rfl,rfl⟩
   · rcases Nat.eq_zero_or_pos len with h0 | h0
     · have hnil:l=[]:=List.length_eq_zero_iff.1 (HLEN.out.trans h0);have HR:=Hq (show atR l i=(⟨#[]⟩,9)from by unfold atR;rw[if_neg (by rw[HLEN.out];omega),hnil]);subst h0;clear hnil;go_enter Tryz.func12,Tryz.ntmps12;go_wp2;go_ret2;exact⟨by rw[HR.out];rfl,rfl⟩
     · by_cases g3:i=0
       · obtain⟨x,hx⟩:∃ x,l[0]? =some x:=⟨_,List.getElem?_eq_getElem (by rw[HLEN.out];omega)⟩;obtain⟨b,o,rfl,B1,m1,k1,B2,m2,k2,hin⟩:=HS.out.get hx;have z4:w.cell? ⟨b,o+4,none⟩=some (.string x.be):=by have:=hin.cell 4 rfl;rw[show o+0 * 8+4=o+4 from by omega]at this;exact this
         have HR:=Hq (show atR l i=(x.be,0)from by
          unfold atR;rw[if_neg (by rw[HLEN.out];omega)];obtain⟨y,t,rfl⟩:∃ y t,l=y::t:=List.exists_cons_of_length_pos (by rw[HLEN.out];omega);simp only[List.getElem?_cons_zero,Option.some.injEq]at hx;subst hx
          exact if_pos g3)
         subst g3;clear hx hin;go_enter Tryz.func12,Tryz.ntmps12;go_wp2;go_ret2;exact⟨by rw[HR.out];rfl,rfl⟩
       · obtain⟨m,rfl⟩:∃ m:Nat,i=(m:Int)+1:=⟨(i - 1).toNat,by omega⟩;obtain⟨x,hx⟩:∃ x,l[m]? =some x:=⟨_,List.getElem?_eq_getElem (by rw[HLEN.out];omega)⟩;obtain⟨b,o,rfl,B1,m1,k1,B2,m2,k2,hin⟩:=HS.out.get hx;have z5:w.cell? ⟨b,o+m * 8+5,none⟩=some (.string x.af):=hin.cell 5 rfl;have HR:=Hq (show atR l ((m:Int)+1)=(x.af,0)from by
          unfold atR;rw[if_neg (by rw[HLEN.out];omega)];obtain⟨y,t,rfl⟩:∃ y t,l=y::t:=List.exists_cons_of_length_pos (by rw[HLEN.out];omega);rw[show ((m:Int)+1 - 1).toNat=m from by omega]
          simp only[if_neg g3,hx])
         clear hx hin;go_enter Tryz.func12,Tryz.ntmps12;go_wp2;go_ret2;exact⟨by rw[HR.out];rfl,rfl⟩
end Go.Proofs.YthcekkeknonefaaGreat

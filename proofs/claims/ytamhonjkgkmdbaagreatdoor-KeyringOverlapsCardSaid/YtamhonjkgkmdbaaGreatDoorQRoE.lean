import Derived.Test.YtamhonjkgkmdbaaGreatDoorQAdA
import Derived.Test.YtamhonjkgkmdbaaGreatDoorQOpK
import Derived.Test.YtamhonjkgkmdbaaGreatDoorQKyV
import Derived.Test.YtamhonjkgkmdbaaGreatDoorQScY
import Derived.Test.YtamhonjkgkmdbaaGreatDoorQKyX
import Derived.Test.YtamhonjkgkmdbaaGreatDoorQKyT
import Derived.Test.YtamhonjkgkmdbaaGreatDoorQKyS
import Derived.Test.YtamhonjkgkmdbaaGreatDoorQEncE
set_option linter.unusedVariables false
set_option linter.unusedSimpArgs false
namespace Go.Proofs.YtamhonjkgkmdbaaGreatDoor
set_option maxRecDepth 100000
set_option maxHeartbeats 4000000
open Go.RowKit
open Go.Maps Go.WideMaps
theorem ck_msg{M O G Y:ByteArray}{v:Ver}(h:ckV M O G Y v=0):v.msg.2=0:=by
 unfold ckV at h;split at h
 · assumption
 · exact h
def FrV(w:World)(lo:Nat)(A:Option Addr)(n c:Nat)(l:List Ver):Prop:=∀ W:World,(∀ b,lo≤b→b<w.heap.size→W.heap[b]? =w.heap[b]?)→SlV W A n c l
theorem FrV.sl{w:World}{lo:Nat}{A:Option Addr}{n c:Nat}{l:List Ver}(h:FrV w lo A n c l):SlV w A n c l:=h w fun _ _ _=>rfl
theorem FrV.next{w w1:World}{lo:Nat}{A:Option Addr}{n c:Nat}{l:List Ver}(h:FrV w lo A n c l)(hb:∀ b,lo≤b→b<w.heap.size→w1.heap[b]? =w.heap[b]?)(hs:w.heap.size≤w1.heap.size):FrV w1 lo A n c l:=
 fun W hW=>h W fun b h1 h2=>(hW b h1 (Nat.lt_of_lt_of_le h2 hs)).trans (hb b h1 h2)
theorem FrV.kept{w w1:World}{lo:Nat}{A:Option Addr}{n c:Nat}{l:List Ver}(h:FrV w lo A n c l)(hb:Below w.heap.size w w1):FrV w1 lo A n c l:=h.next (fun b _ h2=>hb.block b h2) hb.size
theorem FrV.low{w:World}{lo lo':Nat}{A:Option Addr}{n c:Nat}{l:List Ver}(h:FrV w lo' A n c l)(hl:lo≤lo'):FrV w lo A n c l:=fun W hW=>h W fun b h1 h2=>hW b (Nat.le_trans hl h1) h2
theorem plain_rowF{w w4:World}{g n cap base:Nat}{vs:List Value}{l:List Ver}(hown:w.ownsRow base 35 18 (.slice (some ⟨g,0,none⟩) n cap) n vs)(hr:VRowO w (some g) base vs l)(hw4:∀ b,base≤b→b<w.heap.size→w4.heap[b]? =w.heap[b]?):SlV w4 (some ⟨g,0,none⟩) n cap l:=by
 have hln:=hr.len hown;have hcl:=hown.cells (g:=g) rfl;rcases hown.2 with⟨h,_⟩ | ⟨g',cap',cur,hv,hb,hh,hc,hm,hs,ht⟩
 · cases h
 · cases hv;refine⟨hln.symm,hc,by unfold maxLen at hm;exact hm,g,0,fun _=>rfl,fun k v hk=>?_⟩;obtain⟨A,m,c,h1,h2⟩:=hr.get hk;refine⟨A,m,c,fun j x hx=>?_,h1.1.of_blocks fun h0 a ha=>hw4 _ (h1.2 h0 a ha).2 (by subst ha;exact h1.1.lt h0)⟩;have:=hcl _ x (h2 j x hx);rw[addr_add]at this;rw[World.cell?_of_block (w:=w) (hw4 g hb (block_lt hh)),show 0+k * 18+j=0+(k * 18+j)from by omega];exact this
def RetAdF(r:List Ver×Int)(w:World)(e:Ending)(w':World):Prop:=∃ A c,e=.returned (.tuple #[.slice A r.1.length c,.int .i64 r.2])∧FrV w' w.heap.size A r.1.length c r.1∧Below w.heap.size w w'
theorem ky_AddF(M O G Y:ByteArray)(l:List Ver)(A:Option Addr)(len cap:Nat)(v:Ver)(A1:Option Addr)(n1 c1:Nat)(w:World)(hs:SlV w A len cap l)(hlen:len≤100)(hz:SzV l)(hfw:FwV l)(hv:SlN w A1 n1 c1 v.kr)(hn1:n1≤100)(hvz:SzL v.str)(hnm:v.name.size≤maxLen)(hM:M.size≤8)(hO:O.size≤100)(hG:G.size≤1000)(hY:Y.size≤1000)(hc:v.sc.size≤1000)(hr:v.sr.size≤1000) :
 Calls Tryz.prog 9 #[kV M O G Y,.slice A len cap,.agg (v.arr (.slice A1 n1 c1))] w (RetAdF (addR (ckV M O G Y v) l v) w):=by
 obtain⟨cs,hcs⟩:∃ cs,v.arr (.slice A1 n1 c1)=cs:=⟨_,rfl⟩;rw[hcs];have HVA:=Hq hcs;have HCS:=Hq (show cs.size=18 from by rw[←hcs];rfl);obtain⟨W0,hW0⟩:∃ W0,(w.alloc (.cells #[.string M,.string O,.string G,.string Y] 26)).alloc (.cells cs 35)=W0:=⟨_,rfl⟩;have HK0:=Hq (show BxC W0 w.heap.size #[.string M,.string O,.string G,.string Y] 26 from by rw[←hW0];exact(BxC.new w _ _).next ((Below.refl _ _).alloc (Nat.le_refl _) _));have HX0:=Hq (show BxC W0 (w.heap.size+1) cs 35 from by rw[←hW0];exact BxC.new1 w _ _ _);have HB0:=Hq (show Below w.heap.size w W0 from by rw[←hW0];exact((Below.refl _ _).alloc (Nat.le_refl _) _).alloc (by simp) _);have HSW:=Hq hs;have HSL:=Hq hv;have HZ:=Hq hz;have HFW:=Hq hfw;have HNM:=Hq hnm;have HLEN:=Hq hs.1;have hcap:=hs.2.1;have hcap2:=hs.2.2.1;have HCK:=Hq (show ∀ W,Below w.heap.size w W→Calls Tryz.prog 20 #[.agg #[.string M,.string O,.string G,.string Y],.agg cs] W (Ret (.int .i64 (ckV M O G Y v)) W)from fun W hb=>by
  rw[←hcs]
  exact ky_Check M O G Y v A1 n1 c1 W (hv.kept hb (Nat.le_refl _)) hn1 hvz hM hO hG hY hc hr)
 have HCO:=Hq (show ∀ W,Below w.heap.size w W→Calls Tryz.prog 25 #[.agg cs] W (RetVV v W)from fun W hb=>by
  rw[←hcs]
  exact ky_copied v A1 n1 c1 W (hv.kept hb (Nat.le_refl _)) (by omega))
 obtain⟨ck,hck⟩:∃ ck,ckV M O G Y v=ck:=⟨_,rfl⟩;rw[hck]at HCK⊢;have HCE:=Hq hck;unfold kV;clear hs hz hfw hnm hvz hcs hv hck hM hO hG hY hc hr;go_enter Tryz.func9,Tryz.ntmps9;go_upto_region 1 with fail
 try rw[hW0]
 clear hW0;refine wp_region_lit ?_;refine wpList_load_row rfl 26 _ rfl w.heap.size rfl 26 #[.string M,.string O,.string G,.string Y] (0,0) _ HK0.out Tryz.underlying26 rfl (by kernel_rfl) ?_;refine wpList_load_row rfl 35 _ rfl (w.heap.size+1) rfl 35 cs (0,0) _ HX0.out Tryz.underlying35 rfl (by rw[HCS.out];kernel_rfl) ?_;go_wp2_with fail;refine(HCK.out W0 HB0.out).mono ?_;rintro e w1 ⟨rfl,hb1⟩;have HX1:=Hq (HX0.out.next hb1);have HB1:=Hq (HB0.out.trans (hb1.mono HB0.out.size));clear hb1 HCK HK0 HX0 HB0;by_cases h0:ck=0
 · subst h0;obtain⟨-,-,m1,m2,m3,m4,m5,-⟩:=Ver.msg_ok (ck_msg HCE.out);have x0:w1.cell? ⟨w.heap.size+1,0,none⟩=some (.string v.name):=(HX1.out.cell 0).trans (by rw[←HVA.out];rfl);have x1:w1.cell? ⟨w.heap.size+1,1,none⟩=some (.int .i64 v.num):=(HX1.out.cell 1).trans (by rw[←HVA.out];rfl);have HCA:=Hq (sl_ContainsA l A len cap v.name v.num (w.heap.size+1) w1 (HSW.out.kept HB1.out (Nat.le_refl _)) (by omega) x0 x1);have hl40:decide (((len:Nat):Int)≥4096)=false:=decide_eq_false (by omega);obtain⟨q,hq⟩:∃ q,l.any (hitV v.name v.num)=q:=⟨_,rfl⟩;rw[hq]at HCA;have HQ:=Hq hq;clear hq x0 x1;go_upto_region 6 with fail
   go_wp2_with fail;refine HCA.out.mono ?_;rintro e wb ⟨rfl,hb⟩;have HXB:=Hq (HX1.out.next hb);have HBB:=Hq (HB1.out.trans (hb.mono HB1.out.size));clear hb HX1 HB1 HCA
   cases q with
   | true =>
    have HR:=Hq (show addR 0 l v=([],8)from by unfold addR;rw[if_neg (by simp),if_neg (by rw[HLEN.out];omega),if_pos HQ.out]);go_wp2;go_ret2;exact⟨none,0,by rw[HR.out];rfl,by rw[HR.out];exact fun _ _=>SlV.nil _ 0 (by omega) none,HBB.out⟩
   | false =>
    have HAD:=Hq (show addR 0 l v=addL l v from by unfold addR;rw[if_neg (by simp),if_neg (by rw[HLEN.out];omega),if_neg (by rw[HQ.out];simp)]);have x0:wb.drew.cell? ⟨w.heap.size+1,0,none⟩=some (.string v.name):=(HXB.out.cell 0).trans (by rw[←HVA.out];rfl);go_wp2;refine wp_region_K 10 (Below (wb.drew).heap.size (wb.drew)) (by kernel_rfl) ?_;intro hD;refine qP 0 9 rfl hD (Below.refl _ _) ?_;clear hD;intro hD;simp only[Act.put,sqA,sqB,sqC];refine qP 2 8 rfl hD (Below.refl _ _) ?_;clear hD;intro hD;simp only[Act.put,sqA,sqB,sqC];refine qS 3 7 rfl hD (Below.refl _ _) (by intro w' hS';have e0:=cell_kept hS' (Nat.le_refl _) x0;go_simp;with_reducible rfl) ?_;clear hD;intro hD;simp only[Act.put,sqA,sqB,sqC];refine wpAnyK_one (i:=1) (fuel:=6) (by kernel_rfl) rfl hD ?_;clear hD;intro K1 hK1;go_wp2_with fail;refine(ky_last l A len cap _ ((HSW.out.kept HBB.out (Nat.le_refl _)).kept (Below.refl _ _).drew (Nat.le_refl _)) (by omega) HZ.out).mono ?_;rintro e w2 ⟨mb,rfl,hmb,⟨D,hD,hF⟩,hb1⟩;have HB1:=Hq hb1;have HOWN1:=Hq hD;have HF:=Hq hF;clear hb1 hD hF;go_wp2;refine hK1 _ _ (by exact HB1.out) ?_;clear hK1;intro hS_8_1 hD;refine wpAnyK_one (i:=4) (fuel:=5) (by kernel_rfl) rfl hD ?_;clear hD;intro K4 hK4;refine wpList_lookup_own_ok_int _ rfl _ _ 70 rfl 9 3 .i64 lawS Tryz.underlying70 Tryz.underlying3 (zeroI _) mb l.length D rfl HOWN1.out (.string v.name) (.string v.name.data.toList) rfl (keyS HNM.out) ?_;intro c hat hwc;go_wp2;refine hK4 _ _ (by exact hS_8_1) ?_;clear hK4;intro hS_8_4 hD;refine qP 5 4 rfl hD hS_8_4 ?_;clear hD;intro hD;simp only[Act.put,sqA,sqB,sqC];refine qP 6 3 rfl hD hS_8_4 ?_;clear hD;intro hD;simp only[Act.put,sqA,sqB,sqC];refine qP 7 2 rfl hD hS_8_4 ?_;clear hD;intro hD;simp only[Act.put,sqA,sqB,sqC];refine wpAnyK_one (i:=8) (fuel:=1) (by kernel_rfl) rfl hD ?_;clear hD;intro K8 hK8;go_wp2;refine hK8 _ _ (by exact hS_8_4) ?_;clear hK8;intro hS_8_8 hD;refine wpAnyK_one (i:=9) (fuel:=0) (by kernel_rfl) rfl hD ?_;clear hD;intro K9 hK9;go_wp2;refine hK9 _ _ (by exact hS_8_8) ?_;clear hK9;intro hS_8_9 hD;have HL1:=Hq hS_8_8;refine wpAnyK_done (by kernel_rfl) ?_ 0;clear hD;have hb01:Below wb.heap.size wb w2:=((Below.refl _ _).drew).trans HL1.out;have HX2:=Hq (HXB.out.next hb01);have HB2:=Hq (HBB.out.trans (hb01.mono HBB.out.size));clear hb01 x0;have y1:w2.drew.cell? ⟨w.heap.size+1,1,none⟩=some (.int .i64 v.num):=(HX2.out.cell 1).trans (by rw[←HVA.out];rfl);have y4:w2.drew.drew.cell? ⟨w.heap.size+1,14,none⟩=some (.int .i64 v.fr):=(HX2.out.cell 14).trans (by rw[←HVA.out];rfl)
    cases hi:lastI l v.name with
    | none =>
     rw[show Maps.has D (.string v.name.data.toList)=false from by rw[(HF.out v.name).1,hi];rfl];have HI:=Hq hi;clear hi hat hwc;by_cases q1:v.num=1
     · have q1':(v.num != 1)=false:=by simp[q1]
       go_wp2;go_region;go_wp2;go_region;go_upto_region 13 with fail
       have HRA:=Hq (show addR 0 l v=(l++[v],0)from by rw[HAD.out];unfold addL;rw[HI.out];exact if_neg (by omega));obtain⟨wd,hwd⟩:∃ wd,w2.drew.drew.drew=wd:=⟨_,rfl⟩;have hdd:Below w2.heap.size w2 wd:=by rw[←hwd];exact(((Below.refl _ _).drew).drew).drew
       have HXD:=Hq (HX2.out.next hdd);have HBD:=Hq (HB2.out.trans (hdd.mono HB2.out.size));have HSD:=Hq (HSW.out.kept HBD.out (Nat.le_refl _));have HVD:=Hq (HSL.out.kept HBD.out (Nat.le_refl _));clear hdd;refine wp_region_K 8 (Below (wd).heap.size (wd)) (by kernel_rfl) ?_;intro hD;rw[hwd];refine rP 0 76 7 rfl hD (Below.refl _ _) ?_;clear hD;intro hD;simp only[Act.put,sqA,sqB,sqC];refine wpAnyK_takeSD (i:=2) (d:=some 78) (v:=(.agg cs)) (fuel:=6) rfl (by kernel_rfl) (by kernel_rfl) (by kernel_rfl) (fun _ _ _ h=>h) hD (Below.refl _ _) (.inl ⟨by kernel_rfl,?y13_2b2⟩) ?n13_2b2;case y13_2b2 =>
        intro w' hS';exact load_rowR 35 _ rfl (w.heap.size+1) rfl 35 cs (0,0) _ (HXD.out.next hS') Tryz.underlying35 rfl (by rw[HCS.out];kernel_rfl)
       clear hD;intro hD;simp only[Act.put,sqA,sqB,sqC];refine rO 1 5 rfl hD ?_;clear hD;intro K1 hK1;go_wp2_with fail;refine(ky_all l _ len cap wd HSD.out (by omega) HFW.out).mono ?_;rintro e w5 ⟨rv,vs,rfl,hown,hvr,hb5⟩;have HB1:=Hq hb5;have HOW:=Hq hown;have HVR:=Hq hvr;clear hb5 hown hvr;go_wp2;refine hK1 _ _ (by exact HB1.out) ?_;clear hK1;intro hS_13_1 hD;refine rO 3 4 rfl hD ?_;clear hD;intro K3 hK3;go_wp2_with fail;refine(HCO.out w5 (HBD.out.trans (Below.mono hS_13_1 HBD.out.size))).mono ?_;rintro e w6 ⟨A3,n3,c3,rfl,⟨B3,hB3,hown⟩,hb6⟩;have HB3:=Hq hb6;have HOW3:=Hq hown;have HBL3:=Hq hB3;clear hb6 hown hB3;go_wp2;refine hK3 _ _ (by exact Below.trans hS_13_1 (Below.mono HB3.out (Below.size hS_13_1))) ?_;clear hK3;intro hS_13_3 hD;refine rO 4 3 rfl hD ?_;clear hD;intro K4 hK4;refine wpList_build_ver rfl _ rfl v A3 n3 c3 rfl ?_;go_wp2;refine name_world ?_;intro w7 hw7;have hb:=below_allocK hw7;have hwd5:wd.heap.size≤w5.heap.size:=HB1.out.size;have hwd7:wd.heap.size≤w7.heap.size:=Nat.le_trans hwd5 (Nat.le_trans HB3.out.size hb.size);have hSN:=SlN.of_owns HOW3.out;obtain⟨hl4,A4,c4,e4,hs4⟩:=hSN;cases e4;have HX7:=Hq (bxc_alloc hw7);have HO7:=Hq (owns_kept (owns_kept HOW.out HB3.out (Nat.le_refl _)) hb (Nat.le_refl _));have hlt5:∀ k,rv.ownBlock=some k→k<w5.heap.size:=fun k e=>(HOW.out.lt k e).2;have hso:SlO w6 rv.ownBlock wd.heap.size A3 n3 c3 v.kr:=⟨hs4,fun hn a e=>by
        have h2:=(HOW3.out.lt a.block (by rw[e];rfl)).1;have h3:=HBL3.out
        exact⟨fun h=>by have h1:=hlt5 _ h;omega,by omega⟩⟩
       have HVR7:=Hq (VRowO.kept hb (Nat.le_refl _) ((HVR.out.kept HB3.out (Nat.le_refl _)).snoc hso));have HW7:=Hq hwd7;have HB4:=Hq hb;clear hb hw7 hwd5 hwd7 hs4 hl4 hso hlt5;refine hK4 _ _ (by exact Below.trans hS_13_3 (Below.mono HB4.out (Below.size hS_13_3))) ?_;clear hK4;intro hS_13_4 hD;refine rO 5 2 rfl hD ?_;clear hD;intro K5 hK5;obtain⟨i0,hi,iz0,iz1,iz2⟩:=info_parts ver_info;refine wpList_append_lies _ rfl (.tmp 77) (.tmp 80) 40 rfl wd.heap.size 35 i0 _ 18 272 Tryz.underlying40 hi iz0 iz1 iz2 rfl (by decide) rv l.length vs rfl HO7.out ⟨w6.heap.size,0,none⟩ 1 1 (v.vals (.slice A3 n3 c3)) rfl rfl (World.news_of_block HX7.out) v.one (by decide) (by have:=HLEN.out;unfold maxLen;omega) (by have:=HLEN.out;omega) HW7.out _ rfl ?_;intro g cap7 w8 hown8 hgrow8 hat8 hlt8;have HFIN:=Hq (show FrV w8 w.heap.size (some ⟨g,0,none⟩) (l++[v]).length cap7 (l++[v])from by
        rw[show (l++[v]).length=l.length+1 from by simp]
        exact fun W hW=>plain_rowF hown8 (HVR7.out.grow hgrow8 hat8) fun b h1 h2=>hW b (Nat.le_trans HBD.out.size h1) h2)
       have HG5:=Hq hgrow8;have HLT:=Hq (fun k (e:rv.ownBlock=some k)=>(HO7.out.lt k e).1);clear hown8 hgrow8 hat8 hlt8 hi iz0 iz1 iz2;go_wp2;refine hK5 _ _ (by exact Below.grown hS_13_4 HG5.out (Below.size hS_13_4) (fun k e=>HLT.out k e)) ?_;clear hK5;intro hS_13_5 hD;refine rO 6 1 rfl hD ?_;clear hD;intro K6 hK6;go_wp2;refine hK6 _ _ (by exact hS_13_5) ?_;clear hK6;intro hS_13_6 hD;refine rO 7 0 rfl hD ?_;clear hD;intro K7 hK7;go_wp2;refine hK7 _ _ (by exact hS_13_6) ?_;clear hK7;intro hS_13_7 hD;have HL:=Hq hS_13_7;refine wpAnyK_done (by kernel_rfl) ?_ 0;clear hD;go_wp2;go_ret2;exact⟨some ⟨g,0,none⟩,cap7,by show Ending.returned (.tuple #[.slice (some ⟨g,0,none⟩) (l.length+1) cap7,.int .i64 0])=_;rw[HRA.out];simp,by rw[HRA.out];exact HFIN.out,HBD.out.trans (HL.out.mono HBD.out.size)⟩
     · have q1':(v.num != 1)=true:=by simp[q1]
       have HR:=Hq (show addR 0 l v=([],22)from by rw[HAD.out];unfold addL;rw[HI.out];exact if_pos q1);clear q1;go_wp2;go_region;go_wp2;go_ret2;exact⟨none,0,by rw[HR.out];rfl,by rw[HR.out];exact fun _ _=>SlV.nil _ 0 (by omega) none,HB2.out.drew⟩
    | some i =>
     obtain⟨hil,u,hu,_⟩:=bestI_lt hi;obtain rfl:c=(i:Int):=by
      rw[(HF.out v.name).2 i hi]at hat;injection hat with h1
      injection h1 with _ h2
      exact h2.symm
     rw[show Maps.has D (.string v.name.data.toList)=true from by rw[(HF.out v.name).1,hi];rfl];have HI:=Hq hi;have HU:=Hq hu;have hll:i<len:=by rw[←HLEN.out];exact hil
     obtain⟨b,p,rfl⟩:=HSW.out.head (by omega);obtain⟨A2,n2,c2,hvc,_⟩:=(HSW.out.kept HB2.out (Nat.le_refl _)).get? i hu;have z1:w2.drew.cell? ⟨b,p+i * 18+1,none⟩=some (.int .i64 u.num):=hvc.open.2.1;have z14:w2.drew.drew.cell? ⟨b,p+i * 18+14,none⟩=some (.int .i64 u.fr):=hvc.open.2.2.2.2.2.2.2.2.2.2.2.2.2.2.1;have z15:w2.drew.drew.cell? ⟨b,p+i * 18+15,none⟩=some (.int .i64 u.to):=hvc.open.2.2.2.2.2.2.2.2.2.2.2.2.2.2.2.1;have HAU:=Hq (show addR 0 l v=if v.num - 1≠u.num then([],22)else if v.fr≤u.fr∨u.to<v.fr - 1 then([],21)else(l++[v],0)from by rw[HAD.out];unfold addL;rw[HI.out];simp only[HU.out]);clear hi hu hvc hat hwc hil;by_cases q1:v.num - 1=u.num
     · have q1':(v.num - 1 != u.num)=false:=by simp[q1]
       by_cases g1:v.fr≤u.fr
       · have HR:=Hq (show addR 0 l v=([],21)from by rw[HAU.out,if_neg (by simp[q1]),if_pos (.inl g1)]);have g1':decide (v.fr≤u.fr)=true:=decide_eq_true g1;clear g1 q1;go_wp2;go_region;go_wp2;go_region;go_wp2;go_ret2;exact⟨none,0,by rw[HR.out];rfl,by rw[HR.out];exact fun _ _=>SlV.nil _ 0 (by omega) none,HB2.out.drew.drew⟩
       · by_cases g2:u.to<v.fr - 1
         · have HR:=Hq (show addR 0 l v=([],21)from by rw[HAU.out,if_neg (by simp[q1]),if_pos (.inr g2)]);have g1':decide (v.fr≤u.fr)=false:=decide_eq_false g1;have g2':decide (u.to<v.fr - 1)=true:=decide_eq_true g2;clear g1 g2 q1;go_wp2;go_region;go_wp2;go_region;go_wp2;go_ret2;exact⟨none,0,by rw[HR.out];rfl,by rw[HR.out];exact fun _ _=>SlV.nil _ 0 (by omega) none,HB2.out.drew.drew⟩
         · have hq2:¬ (v.fr≤u.fr∨u.to<v.fr - 1):=fun h=>h.elim g1 g2;have hq1:¬ (v.num - 1≠u.num):=fun h=>h q1;have HQ1:=Hq hq1;have HQ2:=Hq hq2;have g1':decide (v.fr≤u.fr)=false:=decide_eq_false g1;have g2':decide (u.to<v.fr - 1)=false:=decide_eq_false g2;clear g1 g2 q1 hq1 hq2;go_wp2;go_region;go_wp2;go_region;go_upto_region 13 with fail
           have HRA:=Hq (show addR 0 l v=(l++[v],0)from by rw[HAU.out,if_neg HQ1.out,if_neg HQ2.out]);obtain⟨wd,hwd⟩:∃ wd,w2.drew.drew.drew=wd:=⟨_,rfl⟩;have hdd:Below w2.heap.size w2 wd:=by rw[←hwd];exact(((Below.refl _ _).drew).drew).drew
           have HXD:=Hq (HX2.out.next hdd);have HBD:=Hq (HB2.out.trans (hdd.mono HB2.out.size));have HSD:=Hq (HSW.out.kept HBD.out (Nat.le_refl _));have HVD:=Hq (HSL.out.kept HBD.out (Nat.le_refl _));clear hdd;refine wp_region_K 8 (Below (wd).heap.size (wd)) (by kernel_rfl) ?_;intro hD;rw[hwd];refine rP 0 76 7 rfl hD (Below.refl _ _) ?_;clear hD;intro hD;simp only[Act.put,sqA,sqB,sqC];refine wpAnyK_takeSD (i:=2) (d:=some 78) (v:=(.agg cs)) (fuel:=6) rfl (by kernel_rfl) (by kernel_rfl) (by kernel_rfl) (fun _ _ _ h=>h) hD (Below.refl _ _) (.inl ⟨by kernel_rfl,?y13_2b3⟩) ?n13_2b3;case y13_2b3 =>
            intro w' hS';exact load_rowR 35 _ rfl (w.heap.size+1) rfl 35 cs (0,0) _ (HXD.out.next hS') Tryz.underlying35 rfl (by rw[HCS.out];kernel_rfl)
           clear hD;intro hD;simp only[Act.put,sqA,sqB,sqC];refine rO 1 5 rfl hD ?_;clear hD;intro K1 hK1;go_wp2_with fail;refine(ky_all l _ len cap wd HSD.out (by omega) HFW.out).mono ?_;rintro e w5 ⟨rv,vs,rfl,hown,hvr,hb5⟩;have HB1:=Hq hb5;have HOW:=Hq hown;have HVR:=Hq hvr;clear hb5 hown hvr;go_wp2;refine hK1 _ _ (by exact HB1.out) ?_;clear hK1;intro hS_13_1 hD;refine rO 3 4 rfl hD ?_;clear hD;intro K3 hK3;go_wp2_with fail;refine(HCO.out w5 (HBD.out.trans (Below.mono hS_13_1 HBD.out.size))).mono ?_;rintro e w6 ⟨A3,n3,c3,rfl,⟨B3,hB3,hown⟩,hb6⟩;have HB3:=Hq hb6;have HOW3:=Hq hown;have HBL3:=Hq hB3;clear hb6 hown hB3;go_wp2;refine hK3 _ _ (by exact Below.trans hS_13_1 (Below.mono HB3.out (Below.size hS_13_1))) ?_;clear hK3;intro hS_13_3 hD;refine rO 4 3 rfl hD ?_;clear hD;intro K4 hK4;refine wpList_build_ver rfl _ rfl v A3 n3 c3 rfl ?_;go_wp2;refine name_world ?_;intro w7 hw7;have hb:=below_allocK hw7;have hwd5:wd.heap.size≤w5.heap.size:=HB1.out.size;have hwd7:wd.heap.size≤w7.heap.size:=Nat.le_trans hwd5 (Nat.le_trans HB3.out.size hb.size);have hSN:=SlN.of_owns HOW3.out;obtain⟨hl4,A4,c4,e4,hs4⟩:=hSN;cases e4;have HX7:=Hq (bxc_alloc hw7);have HO7:=Hq (owns_kept (owns_kept HOW.out HB3.out (Nat.le_refl _)) hb (Nat.le_refl _));have hlt5:∀ k,rv.ownBlock=some k→k<w5.heap.size:=fun k e=>(HOW.out.lt k e).2;have hso:SlO w6 rv.ownBlock wd.heap.size A3 n3 c3 v.kr:=⟨hs4,fun hn a e=>by
            have h2:=(HOW3.out.lt a.block (by rw[e];rfl)).1;have h3:=HBL3.out
            exact⟨fun h=>by have h1:=hlt5 _ h;omega,by omega⟩⟩
           have HVR7:=Hq (VRowO.kept hb (Nat.le_refl _) ((HVR.out.kept HB3.out (Nat.le_refl _)).snoc hso));have HW7:=Hq hwd7;have HB4:=Hq hb;clear hb hw7 hwd5 hwd7 hs4 hl4 hso hlt5;refine hK4 _ _ (by exact Below.trans hS_13_3 (Below.mono HB4.out (Below.size hS_13_3))) ?_;clear hK4;intro hS_13_4 hD;refine rO 5 2 rfl hD ?_;clear hD;intro K5 hK5;obtain⟨i0,hi,iz0,iz1,iz2⟩:=info_parts ver_info;refine wpList_append_lies _ rfl (.tmp 77) (.tmp 80) 40 rfl wd.heap.size 35 i0 _ 18 272 Tryz.underlying40 hi iz0 iz1 iz2 rfl (by decide) rv l.length vs rfl HO7.out ⟨w6.heap.size,0,none⟩ 1 1 (v.vals (.slice A3 n3 c3)) rfl rfl (World.news_of_block HX7.out) v.one (by decide) (by have:=HLEN.out;unfold maxLen;omega) (by have:=HLEN.out;omega) HW7.out _ rfl ?_;intro g cap7 w8 hown8 hgrow8 hat8 hlt8;have HFIN:=Hq (show FrV w8 w.heap.size (some ⟨g,0,none⟩) (l++[v]).length cap7 (l++[v])from by
            rw[show (l++[v]).length=l.length+1 from by simp]
            exact fun W hW=>plain_rowF hown8 (HVR7.out.grow hgrow8 hat8) fun b h1 h2=>hW b (Nat.le_trans HBD.out.size h1) h2)
           have HG5:=Hq hgrow8;have HLT:=Hq (fun k (e:rv.ownBlock=some k)=>(HO7.out.lt k e).1);clear hown8 hgrow8 hat8 hlt8 hi iz0 iz1 iz2;go_wp2;refine hK5 _ _ (by exact Below.grown hS_13_4 HG5.out (Below.size hS_13_4) (fun k e=>HLT.out k e)) ?_;clear hK5;intro hS_13_5 hD;refine rO 6 1 rfl hD ?_;clear hD;intro K6 hK6;go_wp2;refine hK6 _ _ (by exact hS_13_5) ?_;clear hK6;intro hS_13_6 hD;refine rO 7 0 rfl hD ?_;clear hD;intro K7 hK7;go_wp2;refine hK7 _ _ (by exact hS_13_6) ?_;clear hK7;intro hS_13_7 hD;have HL:=Hq hS_13_7;refine wpAnyK_done (by kernel_rfl) ?_ 0;clear hD;go_wp2;go_ret2;exact⟨some ⟨g,0,none⟩,cap7,by show Ending.returned (.tuple #[.slice (some ⟨g,0,none⟩) (l.length+1) cap7,.int .i64 0])=_;rw[HRA.out];simp,by rw[HRA.out];exact HFIN.out,HBD.out.trans (HL.out.mono HBD.out.size)⟩
     · have q1':(v.num - 1 != u.num)=true:=by simp[q1]
       have HR:=Hq (show addR 0 l v=([],22)from by rw[HAU.out,if_pos q1]);clear q1;go_wp2;go_region;go_wp2;go_ret2;exact⟨none,0,by rw[HR.out];rfl,by rw[HR.out];exact fun _ _=>SlV.nil _ 0 (by omega) none,HB2.out.drew⟩
 · have hne:(ck != 0)=true:=by simp[h0]
   have HR:=Hq (show addR ck l v=([],ck)from by unfold addR;rw[if_pos h0]);go_wp2;go_ret2;exact⟨none,0,by rw[HR.out];rfl,by rw[HR.out];exact fun _ _=>SlV.nil _ 0 (by omega) none,HB1.out⟩
set_option maxRecDepth 100000
set_option maxHeartbeats 1000000
def Ver.tame(v:Ver):Prop:=¬ 1099511627776<v.fr∧¬ v.fr < -1099511627776∧¬ 1099511627776<v.to∧¬ v.to < -1099511627776∧¬ 1099511627776<v.num
instance (v:Ver):Decidable v.tame:=by unfold Ver.tame;exact inferInstance
def plainB(l:List Ver):Bool:=l.all (fun v=>decide v.tame)
theorem plain_no{l:List Ver}{j:Nat}{v:Ver}(hv:l[j]? =some v)(h:¬ v.tame):plainB l=false:=by
 unfold plainB;rw[List.all_eq_false];exact⟨v,List.mem_of_getElem? hv,by simpa using h⟩
theorem law_plain(l:List Ver)(A:Option Addr)(len cap:Nat)(w:World)(hs:SlV w A len cap l):Calls Tryz.prog 13 #[.slice A len cap] w (Ret (.bool (plainB l)) w):=by
 have HS:=Hq hs;have HLEN:=Hq hs.1;have hcap:=hs.2.1;have hcap2:=hs.2.2.1;clear hs;go_enter Tryz.func13,Tryz.ntmps13;go_wp2
 go_loop [3] (fun i=>∃(j:Nat),j≤len∧i=.int .i64 j∧∀ v∈l.take j,v.tame) (fun i=>len - (intOf i).toNat)
 case atStart=>exact⟨0,Nat.zero_le _,rfl,by simp⟩
 case round =>
  obtain⟨j,hj,rfl,hall⟩:=hrel;have HALL:=Hq hall;clear hall;by_cases hlt:j<len
  · obtain⟨b,o,rfl⟩:=HS.out.head (by omega);obtain⟨v,he⟩:∃ v,l[j]? =some v:=⟨_,List.getElem?_eq_getElem (by rw[HLEN.out];exact hlt)⟩;obtain⟨A1,n1,c1,hvc,_⟩:=HS.out.get? j he;have d1:=hvc.open.2.1;have d14:=hvc.open.2.2.2.2.2.2.2.2.2.2.2.2.2.2.1;have d15:=hvc.open.2.2.2.2.2.2.2.2.2.2.2.2.2.2.2.1;have HE:=Hq he;clear hvc he;by_cases h1:1099511627776<v.fr
    · have e1:decide (1099511627776<v.fr)=true:=decide_eq_true h1;have HF:=Hq (plain_no HE.out (show ¬ v.tame from fun h=>h.1 h1));go_wp2;go_ret;exact⟨by rw[HF.out];rfl,Below.refl _ _⟩
    · have e1:decide (1099511627776<v.fr)=false:=decide_eq_false h1;by_cases h2:v.fr < -1099511627776
      · have e2:decide (v.fr < -1099511627776)=true:=decide_eq_true h2;have HF:=Hq (plain_no HE.out (show ¬ v.tame from fun h=>h.2.1 h2));go_wp2;go_ret;exact⟨by rw[HF.out];rfl,Below.refl _ _⟩
      · have e2:decide (v.fr < -1099511627776)=false:=decide_eq_false h2;by_cases h3:1099511627776<v.to
        · have e3:decide (1099511627776<v.to)=true:=decide_eq_true h3;have HF:=Hq (plain_no HE.out (show ¬ v.tame from fun h=>h.2.2.1 h3));go_wp2;go_ret;exact⟨by rw[HF.out];rfl,Below.refl _ _⟩
        · have e3:decide (1099511627776<v.to)=false:=decide_eq_false h3;by_cases h4:v.to < -1099511627776
          · have e4:decide (v.to < -1099511627776)=true:=decide_eq_true h4;have HF:=Hq (plain_no HE.out (show ¬ v.tame from fun h=>h.2.2.2.1 h4));go_wp2;go_ret;exact⟨by rw[HF.out];rfl,Below.refl _ _⟩
          · have e4:decide (v.to < -1099511627776)=false:=decide_eq_false h4;by_cases h5:1099511627776<v.num
            · have e5:decide (1099511627776<v.num)=true:=decide_eq_true h5;have HF:=Hq (plain_no HE.out (show ¬ v.tame from fun h=>h.2.2.2.2 h5));go_wp2;go_ret;exact⟨by rw[HF.out];rfl,Below.refl _ _⟩
            · have e5:decide (1099511627776<v.num)=false:=decide_eq_false h5;have HA2:=Hq (show ∀ u∈l.take (j+1),u.tame from fun u hu=>by
               rw[List.take_add_one,HE.out,Option.toList_some,List.mem_append,List.mem_singleton]at hu;rcases hu with hu | rfl
               · exact HALL.out u hu
               · exact⟨h1,h2,h3,h4,h5⟩)
              clear h1 h2 h3 h4 h5;go_wp2;go_round;case rel=>exact⟨j+1,by omega,by go_num,HA2.out⟩
              case measure=>simp[intOf];omega
  · obtain rfl:j=len:=by omega
    have HF:=Hq (show plainB l=true from by
     unfold plainB;rw[List.all_eq_true];intro v hv;have:=HALL.out;rw[←HLEN.out,List.take_length]at this
     exact decide_eq_true (this v hv))
    clear hlt hj;go_wp2;go_ret;exact⟨by rw[HF.out];rfl,Below.refl _ _⟩
def rotR(l:List Ver)(v:Ver)(o:Int):Ver×List Ver×Int:=
 if o<0∨4096<o then(ver0,[],2)else match lastI l v.name with
 | none=>(ver0,[],22)
 | some i=>match l[i]? with
  | none=>(ver0,[],22)
  | some u=>if v.fr≤u.fr∨u.to<v.fr - 1 then(ver0,[],21)else if (v.next u).msg.2≠0 then(ver0,[],(v.next u).msg.2)else(v.next u,rotL l i u (v.fr+o - 1),0)
theorem RetRot.pair{l:List Ver}{v:Ver}{o:Int}{w w':World}{x:Ending}(h:RetRot l v o w x w'):RetRv .i64 (rotR l v o).1 (rotR l v o).2.1 (rotR l v o).2.2 w x w':=by
 unfold rotR;rcases h with⟨h1,h2⟩ | ⟨h1,h2,h3⟩ | ⟨i,u,h1,h2,h3,h4⟩
 · rw[if_pos h1];exact h2
 · rw[if_neg h1,h2];exact h3
 · rw[if_neg h1,h2];simp only[h3];rcases h4 with⟨h5,h6⟩ | ⟨h5,h6⟩
   · rw[if_pos h5];exact h6
   · rw[if_neg h5];rcases h6 with⟨h7,h8⟩ | ⟨h7,h8⟩
     · rw[if_pos h7];exact h8
     · rw[if_neg (by rw[h7];decide)];exact h8
theorem rotL_few{l:List Ver}{i:Nat}{u:Ver}{e:Int}(hu:l[i]? =some u)(h:FwV l):FwV (rotL l i u e):=by
 unfold rotL;split
 · intro k v hk;by_cases hki:i=k
   · subst hki;rw[List.getElem?_set_self (List.getElem?_eq_some_iff.1 hu).1]at hk;cases hk;exact h i u hu
   · rw[List.getElem?_set_ne hki]at hk;exact h k v hk
 · exact h
theorem rotL_length{l:List Ver}{i:Nat}{u:Ver}{e:Int}:(rotL l i u e).length=l.length:=by
 unfold rotL;split
 · rw[List.length_set]
 · rfl
theorem rotR_few{l:List Ver}{v:Ver}{o:Int}(h:FwV l)(hv:v.kr.length≤1000000)(hl:l.length≤4096):(rotR l v o).1.kr.length≤1000000∧FwV (rotR l v o).2.1∧(rotR l v o).2.1.length≤4096:=by
 have h0:ver0.kr.length≤1000000∧FwV []∧([]:List Ver).length≤4096:=⟨by simp[ver0],fun k v h=>by simp at h,by simp⟩;unfold rotR;split
 · exact h0
 · split
   · exact h0
   · split
     · exact h0
     · rename_i u hu;split
       · exact h0
       · split
         · exact h0
         · exact⟨hv,rotL_few hu h,by rw[rotL_length];exact hl⟩
theorem plain_open{l:List Ver}(h:plainB l=true)(hn:∀(k:Nat) (v:Ver),l[k]? =some v → -9223372036854775808≤v.num):CalmL l:=by
 unfold plainB at h;rw[List.all_eq_true]at h;intro k v hk;have h1:v.tame:=of_decide_eq_true (h v (List.mem_of_getElem? hk));have h2:=hn k v hk;obtain⟨a,b,c,d,e⟩:=h1;exact⟨by omega,by omega,by omega,by omega,by omega,by omega⟩
end Go.Proofs.YtamhonjkgkmdbaaGreatDoor

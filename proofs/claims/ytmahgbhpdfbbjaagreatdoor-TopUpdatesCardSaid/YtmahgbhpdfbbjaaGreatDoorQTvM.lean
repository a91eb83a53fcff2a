import Derived.Test.YtmahgbhpdfbbjaaGreatDoorQTvE
import Derived.Test.YtmahgbhpdfbbjaaGreatDoorQTvL
import Derived.Test.YtmahgbhpdfbbjaaGreatDoorQWiB
set_option linter.unusedVariables false
set_option linter.unusedSimpArgs false
namespace Go.Proofs.YtmahgbhpdfbbjaaGreatDoor
set_option maxRecDepth 100000
set_option maxHeartbeats 8000000
open Go.RowKit
abbrev hiC(N M O Z S:ByteArray)(RA:Option Addr)(rn rc:Nat)(U H P Q:ByteArray)(MA:Option Addr)(mn mc:Nat)(u:ByteArray)(CA:Option Addr)(cn cc:Nat):Array Value:=
 #[.string N,.string M,.string O,.string Z,.string S,.slice RA rn rc,.string U,.string H,.string P,.string Q,.slice MA mn mc,.string u,.slice CA cn cc]
structure HistP (M O U:ByteArray) (Ms:List ByteArray) (u:ByteArray) (Cs:List (List ByteArray)):Prop where
 sm:M.size≤8
 so:O.size≤8
 su:U.size≤9
 ms:HanC Ms
 mem:u∈Ms
 cl:Cs.length≤6
 cs:∀ C∈Cs,HanC C
 el:EltP M O U
theorem top_ready(N M O Z S:ByteArray)(RA:Option Addr)(rn rc:Nat)(U H P Q:ByteArray)(MA:Option Addr)(mn mc:Nat)(u:ByteArray)(CA:Option Addr)(cn cc:Nat)(rl Ms:List ByteArray)(Cs:List (List ByteArray))(w:World)
 (hr:SlN w RA rn rc rl) (hrz:SzL rl) (hk:SzL [N,M,O,Z,S,U,H]) (hpq:SzL [P,Q]) (hm:SlN w MA mn mc Ms) (hmz:SzL Ms) (hc:SlR w CA cn cc Cs) (hcz:∀ C∈Cs,SzL C) (ht:TabAt w) :
 Calls Tryz.prog 4 #[.agg (hiC N M O Z S RA rn rc U H P Q MA mn mc u CA cn cc)] w (RetF (HistP M O U Ms u Cs) w):=by
 have HT:=Hq ht;have HM:=Hq hm;have HC:=Hq hc;have HCL:=Hq hc.1;have hc1:=hc.2.1;have hc2:=hc.2.2.1;have hp1:P.size≤9223372036854775807:=hpq _ (by simp);have hp2:Q.size≤9223372036854775807:=hpq _ (by simp);have HFK:=Hq (fun(W:World) (hb:Below w.heap.size w W)=>t30_FewKey N M O Z S RA rn rc U H rl W (hr.kept hb nlr) hrz hk);have HHM:=Hq (fun(W:World) (hb:Below w.heap.size w W) (h1:P.size≤8) (h2:Q.size≤8)=>top_handles P Q Ms MA mn mc W h1 h2 (hm.kept hb nlr) hmz (ht.kept hb nlr));have HHH:=Hq (fun(W:World) (hb:Below w.heap.size w W)=>top_has Ms MA mn mc u W (hm.kept hb nlr));have HHC:=Hq (fun(W:World) (hb:Below w.heap.size w W) (h1:P.size≤8) (h2:Q.size≤8) (C:List ByteArray) (A':Option Addr) (n' c':Nat) (hC:C∈Cs) (hs:SlN W A' n' c' C)=>top_handles P Q C A' n' c' W h1 h2 hs (hcz C hC) (ht.kept hb nlr));have HSQ:=Hq (fun(W:World) (hb:Below w.heap.size w W) (a1:M.size≤8) (a2:O.size≤8) (h1:P.size≤8) (h2:Q.size≤8) (a3:U.size≤1000)=>rsa_IsSquare M O P Q U a1 a2 h1 h2 a3 W (ht.kept hb nlr));unfold gV at HSQ;unfold ikC at HFK;obtain⟨W0,hW0⟩:=nm (w.alloc (.cells (hiC N M O Z S RA rn rc U H P Q MA mn mc u CA cn cc) 32));have HB0:=Hq (show Below w.heap.size w W0 from by rw[←hW0];exact(blr).alloc nlr _);have HX:=Hq (show BxC W0 w.heap.size (hiC N M O Z S RA rn rc U H P Q MA mn mc u CA cn cc) 32 from by rw[←hW0];exact BxC.new w _ _);clear hr hrz hk hpq hm hmz hc hcz ht;have x0:W0.cell? ⟨w.heap.size,0,none⟩=some (.string N):=HX.out.cell 0;have x1:W0.cell? ⟨w.heap.size,1,none⟩=some (.string M):=HX.out.cell 1;have x2:W0.cell? ⟨w.heap.size,2,none⟩=some (.string O):=HX.out.cell 2;have x3:W0.cell? ⟨w.heap.size,3,none⟩=some (.string Z):=HX.out.cell 3;have x4:W0.cell? ⟨w.heap.size,4,none⟩=some (.string S):=HX.out.cell 4;have x5:W0.cell? ⟨w.heap.size,5,none⟩=some (.slice RA rn rc):=HX.out.cell 5;have x6:W0.cell? ⟨w.heap.size,6,none⟩=some (.string U):=HX.out.cell 6;have x7:W0.cell? ⟨w.heap.size,7,none⟩=some (.string H):=HX.out.cell 7;have x8:W0.cell? ⟨w.heap.size,8,none⟩=some (.string P):=HX.out.cell 8;have x9:W0.cell? ⟨w.heap.size,9,none⟩=some (.string Q):=HX.out.cell 9;have x10:W0.cell? ⟨w.heap.size,10,none⟩=some (.slice MA mn mc):=HX.out.cell 10;have x11:W0.cell? ⟨w.heap.size,11,none⟩=some (.string u):=HX.out.cell 11;have x12:W0.cell? ⟨w.heap.size,12,none⟩=some (.slice CA cn cc):=HX.out.cell 12;unfold hiC at hW0⊢;go_enter Tryz.func4,Tryz.ntmps4;go_wp2_with fail;try rw[hW0]
 clear hW0;refine(HFK.out W0 HB0.out).mono ?_;rintro e w1 ⟨b,hb1,rfl,hb⟩;have HX1:=Hq (HX.out.next hb);have HB1:=bTr HB0 hb;clear hb;clear x0 x1 x2 x3 x4 x5 x6 x7 x8 x9 x10 x11 x12;have x0:w1.cell? ⟨w.heap.size,0,none⟩=some (.string N):=HX1.out.cell 0;have x1:w1.cell? ⟨w.heap.size,1,none⟩=some (.string M):=HX1.out.cell 1;have x2:w1.cell? ⟨w.heap.size,2,none⟩=some (.string O):=HX1.out.cell 2;have x3:w1.cell? ⟨w.heap.size,3,none⟩=some (.string Z):=HX1.out.cell 3;have x4:w1.cell? ⟨w.heap.size,4,none⟩=some (.string S):=HX1.out.cell 4;have x5:w1.cell? ⟨w.heap.size,5,none⟩=some (.slice RA rn rc):=HX1.out.cell 5;have x6:w1.cell? ⟨w.heap.size,6,none⟩=some (.string U):=HX1.out.cell 6;have x7:w1.cell? ⟨w.heap.size,7,none⟩=some (.string H):=HX1.out.cell 7;have x8:w1.cell? ⟨w.heap.size,8,none⟩=some (.string P):=HX1.out.cell 8;have x9:w1.cell? ⟨w.heap.size,9,none⟩=some (.string Q):=HX1.out.cell 9;have x10:w1.cell? ⟨w.heap.size,10,none⟩=some (.slice MA mn mc):=HX1.out.cell 10;have x11:w1.cell? ⟨w.heap.size,11,none⟩=some (.string u):=HX1.out.cell 11;have x12:w1.cell? ⟨w.heap.size,12,none⟩=some (.slice CA cn cc):=HX1.out.cell 12
 cases b with
 | false =>
  clear hb1;go_wp2;go_ret;exact⟨false,rfl,(fun h=>by cases h),HB1.out⟩
 | true =>
  have HK:=Hq (hb1 rfl);clear hb1;by_cases hp:P.size≤8
  · by_cases hq:Q.size≤8
    · have d1:decide ((P.size:Int) > 8)=false:=decide_eq_false (by omega);have d2:decide ((Q.size:Int) > 8)=false:=decide_eq_false (by omega);have HPQ:=Hq (And.intro hp hq);clear hp hq;by_cases hcn:cn≤6
      · go_wp2_with fail;refine(HHM.out w1 HB1.out HPQ.out.1 HPQ.out.2).mono ?_;rintro e w2 ⟨b,rfl,hbm,hb⟩;have HX2:=Hq (HX1.out.next hb);have HB2:=bTr HB1 hb;clear hb;clear x0 x1 x2 x3 x4 x5 x6 x7 x8 x9 x10 x11 x12;have x0:w2.cell? ⟨w.heap.size,0,none⟩=some (.string N):=HX2.out.cell 0;have x1:w2.cell? ⟨w.heap.size,1,none⟩=some (.string M):=HX2.out.cell 1;have x2:w2.cell? ⟨w.heap.size,2,none⟩=some (.string O):=HX2.out.cell 2;have x3:w2.cell? ⟨w.heap.size,3,none⟩=some (.string Z):=HX2.out.cell 3;have x4:w2.cell? ⟨w.heap.size,4,none⟩=some (.string S):=HX2.out.cell 4;have x5:w2.cell? ⟨w.heap.size,5,none⟩=some (.slice RA rn rc):=HX2.out.cell 5;have x6:w2.cell? ⟨w.heap.size,6,none⟩=some (.string U):=HX2.out.cell 6;have x7:w2.cell? ⟨w.heap.size,7,none⟩=some (.string H):=HX2.out.cell 7;have x8:w2.cell? ⟨w.heap.size,8,none⟩=some (.string P):=HX2.out.cell 8;have x9:w2.cell? ⟨w.heap.size,9,none⟩=some (.string Q):=HX2.out.cell 9;have x10:w2.cell? ⟨w.heap.size,10,none⟩=some (.slice MA mn mc):=HX2.out.cell 10;have x11:w2.cell? ⟨w.heap.size,11,none⟩=some (.string u):=HX2.out.cell 11;have x12:w2.cell? ⟨w.heap.size,12,none⟩=some (.slice CA cn cc):=HX2.out.cell 12
        cases b with
        | false =>
         clear hbm;go_wp2;go_ret;exact⟨false,rfl,(fun h=>by cases h),HB2.out⟩
        | true =>
         have HHN:=Hq (hbm rfl);clear hbm;go_wp2_with fail;refine(HHH.out w2 HB2.out).mono ?_;rintro e w3 ⟨rfl,hb⟩;have HX3:=Hq (HX2.out.next hb);have HB3:=bTr HB2 hb;clear hb;clear x0 x1 x2 x3 x4 x5 x6 x7 x8 x9 x10 x11 x12
         cases hmem:memB Ms u with
         | false =>
          clear hmem;go_wp2;go_ret;exact⟨false,rfl,(fun h=>by cases h),HB3.out⟩
         | true =>
          have HMEM:=Hq (memB_iff.1 hmem);have HCN:=Hq hcn;clear hmem d1 d2 hcn;go_wp2;go_loopw [3] (fun i wr=>∃ k:Nat,k≤cn∧i=.int .i64 k∧(∀ C∈Cs.take k,HanC C)∧Below w3.heap.size w3 wr) (fun i _=>cn - (intOf i).toNat);case atStart=>exact⟨0,Nat.zero_le _,rfl,by simp,Below.refl _ _⟩
          case round =>
           obtain⟨k,hkn,rfl,hall,hbb⟩:=hrel;have HALL:=Hq hall;have HBR:=bTr HB3 hbb;have HXR:=Hq (HX3.out.next hbb);have HBW:=Hq hbb;clear hall hbb;by_cases hlt:k<cn
           · obtain⟨C,he⟩:∃ C,Cs[k]? =some C:=⟨_,List.getElem?_eq_getElem (by rw[HCL.out];exact hlt)⟩;obtain⟨cb,co,rfl,A',n',c',ec,hsc⟩:=(HC.out.kept HBR.out nlr).2.2.2 k C he;have HSC:=Hq hsc;have HCM:=Hq (List.mem_of_getElem? he);have HCT:=Hq (show Cs.take (k+1)=Cs.take k++[C]from by rw[List.take_add_one,he,Option.toList_some]);have EC:=Hq ec;clear hsc he ec;have x12:wr.cell? ⟨w.heap.size,12,none⟩=some (.slice (some ⟨cb,co,none⟩) cn cc):=HXR.out.cell 12;go_wp2;clear x12;obtain⟨wd,hwd⟩:=nm (wr.drew);have hbd:Below wr.heap.size wr wd:=by rw[←hwd];exact(blr).drew
             have HXD:=Hq (HXR.out.next hbd);have HBD:=bTr HBW hbd;have ec:=kc hbd EC.out;have HCC:=Hq (HHC.out wd (HBR.out.trans (hbd.mono HBR.out.size)) HPQ.out.1 HPQ.out.2 C A' n' c' HCM.out (HSC.out.kept hbd nlr));clear hbd;have x8:wd.cell? ⟨w.heap.size,8,none⟩=some (.string P):=HXD.out.cell 8;have x9:wd.cell? ⟨w.heap.size,9,none⟩=some (.string Q):=HXD.out.cell 9;have x12:wd.cell? ⟨w.heap.size,12,none⟩=some (.slice (some ⟨cb,co,none⟩) cn cc):=HXD.out.cell 12;refine wp_region_K 9 (Below (wd).heap.size (wd)) (by kernel_rfl) ?_;rw[hwd];have KK1:=Hq (fun w' (hS':(Below (wd).heap.size (wd)) w')=>And.intro (kC hS' x8) (And.intro (kC hS' x9) (And.intro (kC hS' x12) (kC hS' ec))));refine rPs 0 53 8 blr ?_;refine rTs 1 54 7 blr KK1.out ?_;refine rPs 2 55 6 blr ?_;refine rTs 3 56 5 blr KK1.out ?_;refine rPs 4 57 4 blr ?_;refine rPs 5 58 3 blr ?_;refine rTs 6 59 2 blr KK1.out ?_;refine rO 7 1 ?_;intro K7 hK7;go_wp2_with fail;refine(show Calls _ _ _ _ _ from HCC.out).mono ?_;rintro ev w7 ⟨b,rfl,hbc,hb⟩;have HB7:=Hq hb;have HBC:=Hq hbc;clear hb hbc;go_wp2;refine hK7 _ _ (by exact HB7.out) ?_;clear hK7;intro hS_6_7;refine rPs 8 61 0 hS_6_7 ?_;refine wDn ?_;clear ec x8 x9 x12 hS_6_7 hwd;have HB9:=bTr HBD HB7.out
             cases b with
             | false =>
              have HB8:=bTr HB3 HB9.out;go_wp2;go_ret;exact⟨false,rfl,(fun h=>by cases h),HB8.out⟩
             | true =>
              have HA2:=Hq (show ∀ D∈Cs.take (k+1),HanC D from fun D hDm=>by
               rw[HCT.out,List.mem_append,List.mem_singleton]at hDm;rcases hDm with hDm | rfl
               · exact HALL.out D hDm
               · exact HBC.out rfl)
              go_wp2;go_roundw;case rel=>exact⟨k+1,by omega,by go_num,HA2.out,HB9.out⟩
              case measure=>simp[intOf];omega
           · obtain rfl:cn=k:=by omega
             have HALLC:=Hq (show ∀ C∈Cs,HanC C from by have h:=HALL.out;rwa[List.take_of_length_le (by have:=HCL.out;omega)]at h);have HSQR:=Hq (HSQ.out wr HBR.out HK.out.1 HK.out.2.1 HPQ.out.1 HPQ.out.2 (by have:=HK.out.2.2;omega));have x0:wr.cell? ⟨w.heap.size,0,none⟩=some (.string N):=HXR.out.cell 0;have x1:wr.cell? ⟨w.heap.size,1,none⟩=some (.string M):=HXR.out.cell 1;have x2:wr.cell? ⟨w.heap.size,2,none⟩=some (.string O):=HXR.out.cell 2;have x3:wr.cell? ⟨w.heap.size,3,none⟩=some (.string Z):=HXR.out.cell 3;have x4:wr.cell? ⟨w.heap.size,4,none⟩=some (.string S):=HXR.out.cell 4;have x5:wr.cell? ⟨w.heap.size,5,none⟩=some (.slice RA rn rc):=HXR.out.cell 5;have x6:wr.cell? ⟨w.heap.size,6,none⟩=some (.string U):=HXR.out.cell 6;have x7:wr.cell? ⟨w.heap.size,7,none⟩=some (.string H):=HXR.out.cell 7;have x8:wr.cell? ⟨w.heap.size,8,none⟩=some (.string P):=HXR.out.cell 8;have x9:wr.cell? ⟨w.heap.size,9,none⟩=some (.string Q):=HXR.out.cell 9;have x10:wr.cell? ⟨w.heap.size,10,none⟩=some (.slice MA mn mc):=HXR.out.cell 10;have x11:wr.cell? ⟨w.heap.size,11,none⟩=some (.string u):=HXR.out.cell 11;have x12:wr.cell? ⟨w.heap.size,12,none⟩=some (.slice CA cn cc):=HXR.out.cell 12;go_wp2_with fail;refine(show Calls _ _ _ _ _ from HSQR.out).mono ?_;rintro e w8 ⟨b,z,rfl,hz,hb⟩;have HB8:=bTr HBR hb;clear hb;clear x0 x1 x2 x3 x4 x5 x6 x7 x8 x9 x10 x11 x12;by_cases hz0:z=0
             · have HEL:=Hq (hz hz0);subst hz0;clear hz;go_wp2;go_ret;exact⟨_,rfl,(fun _=>⟨HK.out.1,HK.out.2.1,HK.out.2.2,HHN.out,HMEM.out,by rw[HCL.out];exact HCN.out,HALLC.out,HEL.out⟩),HB8.out⟩
             · have hzb:(z==0)=false:=by rw[beq_eq_false_iff_ne];exact hz0
               clear hz hz0;go_wp2;go_ret;exact⟨false,rfl,(fun h=>by cases h),HB8.out⟩
      · skip;go_wp2;go_ret;exact⟨false,rfl,(fun h=>by cases h),HB1.out⟩
    · have d1:decide ((P.size:Int) > 8)=false:=decide_eq_false (by omega);have d2:decide ((Q.size:Int) > 8)=true:=decide_eq_true (by omega);clear hp hq;go_wp2;go_ret;exact⟨false,rfl,(fun h=>by cases h),HB1.out⟩
  · have d1:decide ((P.size:Int) > 8)=true:=decide_eq_true (by omega);clear hp;go_wp2;go_ret;exact⟨false,rfl,(fun h=>by cases h),HB1.out⟩
end Go.Proofs.YtmahgbhpdfbbjaaGreatDoor

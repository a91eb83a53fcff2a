import Derived.Test.YtamhonjkgkmdbaaGreatQKyL
set_option linter.unusedVariables false
set_option linter.unusedSimpArgs false
namespace Go.Proofs.YtamhonjkgkmdbaaGreat
set_option maxRecDepth 100000
set_option maxHeartbeats 4000000
open Go.RowKit
def shortB(most:Nat)(l:List ByteArray):Bool:=l.all (fun s=>decide (s.size≤most))
def SzL(l:List ByteArray):Prop:=∀ s∈l,s.size≤9223372036854775807
theorem SlN.new(w:World)(l:List ByteArray)(T:TypeId)(hl:l.length≤1000000):SlN (w.alloc (.cells (l.map Value.string).toArray T)) (some ⟨w.heap.size,0,none⟩) l.length l.length l:=by
 refine⟨rfl,Nat.le_refl _,by omega,w.heap.size,0,fun _=>rfl,fun k s hk=>?_⟩;rw[Lib.cell_of_heap (heap_alloc_new w _)];rw[List.getElem?_toArray,List.getElem?_map,Nat.zero_add,hk];rfl
theorem law_short(most:Nat)(l:List ByteArray)(A:Option Addr)(len cap:Nat)(w:World)(hs:SlN w A len cap l)(hz:SzL l)(hm:most≤100):Calls Tryz.prog 24 #[.int .i64 most,.slice A len cap] w (Ret (.bool (shortB most l)) w):=by
 have HS:=Hq hs;have HZ:=Hq hz;have HLEN:=Hq hs.1;have hcap:=hs.2.1;have hcap2:=hs.2.2.1;clear hs hz;go_enter Tryz.func24,Tryz.ntmps24;go_wp2
 go_loop [5] (fun i=>∃(j:Nat),j≤len∧i=.int .i64 j∧∀ s∈l.take j,s.size≤most) (fun i=>len - (intOf i).toNat)
 case atStart=>exact⟨0,Nat.zero_le _,rfl,by simp⟩
 case round =>
  obtain⟨j,hj,rfl,hall⟩:=hrel;have HALL:=Hq hall;clear hall;by_cases hlt:j<len
  · obtain⟨s,he⟩:∃ s,l[j]? =some s:=⟨_,List.getElem?_eq_getElem (by rw[HLEN.out];exact hlt)⟩;obtain⟨b,o,rfl,e1⟩:=HS.out.cell he;have hsz:=HZ.out s (List.mem_of_getElem? he);have HE:=Hq he;clear he;by_cases hss:s.size≤most
    · have HA2:=Hq (show ∀ u∈l.take (j+1),u.size≤most from fun u hu=>by
       rw[List.take_add_one,HE.out,Option.toList_some,List.mem_append,List.mem_singleton]at hu;rcases hu with hu | rfl
       · exact HALL.out u hu
       · exact hss)
      go_wp2;go_round;case rel=>exact⟨j+1,by omega,by go_num,HA2.out⟩
      case measure=>simp[intOf];omega
    · have HF:=Hq (show shortB most l=false from by
       unfold shortB;rw[List.all_eq_false]
       exact⟨s,List.mem_of_getElem? HE.out,by simpa using hss⟩)
      go_wp2;go_ret;exact⟨by rw[HF.out];rfl,Below.refl _ _⟩
  · obtain rfl:j=len:=by omega
    have HF:=Hq (show shortB most l=true from by
     unfold shortB;rw[List.all_eq_true];intro s hs;rw[←HLEN.out,List.take_length]at HALL
     exact decide_eq_true (HALL.out s hs))
    clear hlt hj;go_wp2;go_ret;exact⟨by rw[HF.out];rfl,Below.refl _ _⟩
def fewKeyB(v:Ver):Bool:=shortB 8 [v.km,v.ko]&&(shortB 9 [v.kz,v.ks,v.ku,v.kh]&&(decide (v.kr.length≤6)&&(shortB 9 v.kr&&decide (v.kn.size≤60))))
def Ver.keyStr(v:Ver):List ByteArray:=[v.km,v.ko,v.kz,v.ks,v.ku,v.kh,v.kn]++v.kr
theorem law_FewKey(v:Ver)(A:Option Addr)(n c:Nat)(w:World)(h:SlN w A n c v.kr)(hz:SzL v.keyStr):Calls Tryz.prog 10 #[.agg (v.key (.slice A n c))] w (Ret (.bool (fewKeyB v)) w):=by
 obtain⟨W0,hW0⟩:∃ W0,w.alloc (.cells (v.key (.slice A n c)) 32)=W0:=⟨_,rfl⟩;have HB0:=Hq (show Below w.heap.size w W0 from by rw[←hW0];exact(Below.refl _ _).alloc (Nat.le_refl _) _);have HX:=Hq (show BxC W0 w.heap.size (v.key (.slice A n c)) 32 from by rw[←hW0];exact BxC.new w _ _);have HS:=Hq h;have HZ:=Hq hz;have hlen:=h.1;have hcap:=h.2.1;have hcap2:=h.2.2.1;have hzn:v.kn.size≤9223372036854775807:=hz _ (by simp[Ver.keyStr]);have x1:W0.cell? ⟨w.heap.size,1,none⟩=some (.string v.km):=HX.out.cell 1;have x2:W0.cell? ⟨w.heap.size,2,none⟩=some (.string v.ko):=HX.out.cell 2;have HW0:=Hq hW0;have HC:=Hq (fun(W:World) (hb:Below w.heap.size w W)=>law_short 9 v.kr A n c W (h.kept hb (Nat.le_refl _)) (fun s hs=>hz s (by simp[Ver.keyStr,hs])) (by omega));obtain⟨kl,hkl⟩:∃ kl,v.kr.length=kl:=⟨_,rfl⟩;rw[hkl]at hlen;have HKL:=Hq hkl;have HLN:=Hq hlen;unfold Ver.key at hW0⊢;clear h hz hkl hlen;go_enter Tryz.func10,Tryz.ntmps10;go_wp2_with fail;try rw[hW0]
 clear hW0;refine(law_short 8 [v.km,v.ko] _ 2 2 _ (SlN.new W0 [v.km,v.ko] 22 (by simp)) (fun s hs=>HZ.out s (by simp[Ver.keyStr]at hs⊢;rcases hs with rfl | rfl<;>simp)) (by omega)).mono ?_;rintro e w1 ⟨rfl,hb1⟩;have hb1':=((Below.refl W0.heap.size W0).alloc (Nat.le_refl _) (.cells #[.string v.km,.string v.ko] 22)).trans (hb1.mono (by simp));have HX1:=Hq (HX.out.next hb1');have HB1:=Hq (HB0.out.trans (hb1'.mono HB0.out.size));clear hb1 hb1' x1 x2
 cases r1:shortB 8 [v.km,v.ko]with
 | false =>
  have HR:=Hq (show fewKeyB v=false from by unfold fewKeyB;rw[r1];rfl);clear r1;go_wp2;go_ret;exact⟨by rw[HR.out];rfl,HB1.out⟩
 | true =>
  have y2:w1.cell? ⟨w.heap.size,3,none⟩=some (.string v.kz):=HX1.out.cell 3;have y3:w1.cell? ⟨w.heap.size,4,none⟩=some (.string v.ks):=HX1.out.cell 4;have y5:w1.cell? ⟨w.heap.size,6,none⟩=some (.string v.ku):=HX1.out.cell 6;have y6:w1.cell? ⟨w.heap.size,7,none⟩=some (.string v.kh):=HX1.out.cell 7;have R1:=Hq r1;clear r1;go_wp2_with fail;refine(law_short 9 [v.kz,v.ks,v.ku,v.kh] _ 4 4 _ (SlN.new w1 [v.kz,v.ks,v.ku,v.kh] 22 (by simp)) (fun s hs=>HZ.out s (by simp[Ver.keyStr]at hs⊢;rcases hs with rfl | rfl | rfl | rfl<;>simp)) (by omega)).mono ?_;rintro e w2 ⟨rfl,hb2⟩;have hb2':=((Below.refl w1.heap.size w1).alloc (Nat.le_refl _) (.cells #[.string v.kz,.string v.ks,.string v.ku,.string v.kh] 22)).trans (hb2.mono (by simp));have HX2:=Hq (HX1.out.next hb2');have HB2:=Hq (HB1.out.trans (hb2'.mono HB1.out.size));clear hb2 hb2' y2 y3 y5 y6;have z4:w2.cell? ⟨w.heap.size,5,none⟩=some (.slice A n c):=HX2.out.cell 5;have z0:w2.cell? ⟨w.heap.size,0,none⟩=some (.string v.kn):=HX2.out.cell 0
  cases r2:shortB 9 [v.kz,v.ks,v.ku,v.kh]with
  | false =>
   have HR:=Hq (show fewKeyB v=false from by unfold fewKeyB;rw[R1.out,r2];rfl);clear r2;go_wp2;go_ret;exact⟨by rw[HR.out];rfl,HB2.out⟩
  | true =>
   have R2:=Hq r2;clear r2;by_cases h3:n≤6
   · have R3:=Hq (show decide (v.kr.length≤6)=true from decide_eq_true (by rw[HKL.out,HLN.out];exact h3));go_wp2_with fail;refine(HC.out w2 HB2.out).mono ?_;rintro e w3 ⟨rfl,hb3⟩;have HX3:=Hq (HX2.out.next hb3);have HB3:=Hq (HB2.out.trans (hb3.mono HB2.out.size));clear hb3 z4 z0;have z0:w3.cell? ⟨w.heap.size,0,none⟩=some (.string v.kn):=HX3.out.cell 0
     cases r4:shortB 9 v.kr with
     | false =>
      have HR:=Hq (show fewKeyB v=false from by unfold fewKeyB;rw[R1.out,R2.out,R3.out,r4];rfl);clear r4;go_wp2;go_ret;exact⟨by rw[HR.out];rfl,HB3.out⟩
     | true =>
      have R4:=Hq r4;clear r4;by_cases h5:v.kn.size≤60
      · have HR:=Hq (show fewKeyB v=true from by unfold fewKeyB;rw[R1.out,R2.out,R3.out,R4.out,decide_eq_true h5];rfl);have hd5:decide ((v.kn.size:Int)≤60)=true:=decide_eq_true (by omega);go_wp2;go_ret;exact⟨by rw[HR.out];rfl,HB3.out⟩
      · have HR:=Hq (show fewKeyB v=false from by unfold fewKeyB;rw[R1.out,R2.out,R3.out,R4.out,decide_eq_false h5];rfl);have hd5:decide ((v.kn.size:Int)≤60)=false:=decide_eq_false (by omega);go_wp2;go_ret;exact⟨by rw[HR.out];rfl,HB3.out⟩
   · have HR:=Hq (show fewKeyB v=false from by unfold fewKeyB;rw[R1.out,R2.out,decide_eq_false (show ¬ v.kr.length≤6 by rw[HKL.out,HLN.out];exact h3)];rfl);go_wp2;go_ret;exact⟨by rw[HR.out];rfl,HB2.out⟩
set_option maxRecDepth 100000
set_option maxHeartbeats 4000000
def fewV(v:Ver):Bool:=decide (v.name.size≤60)&&(fewKeyB v&&shortB 9 [v.sm,v.so,v.sg,v.sy,v.sc,v.sr])
def fewL(l:List Ver):Bool:=(l.take 12).all fewV&&decide (l.length≤12)
def Ver.str(v:Ver):List ByteArray:=[v.name,v.sm,v.so,v.sg,v.sy,v.sc,v.sr]++v.keyStr
def SzVs(l:List Ver):Prop:=∀(k:Nat) (v:Ver),l[k]? =some v→SzL v.str
theorem few_no{l:List Ver}{j:Nat}{v:Ver}(hv:l[j]? =some v)(hj:j<12)(h:fewV v=false):fewL l=false:=by
 unfold fewL;have : (l.take 12).all fewV=false:=by
  rw[List.all_eq_false];refine⟨v,List.mem_of_getElem? (i:=j) ?_,by simp[h]⟩;rw[List.getElem?_take_of_lt hj];exact hv
 rw[this];rfl
theorem few_step{l:List Ver}{j:Nat}{v:Ver}(hv:l[j]? =some v)(h:fewV v=true)(ha:(l.take j).all fewV=true):(l.take (j+1)).all fewV=true:=by
 rw[List.take_add_one,hv,Option.toList_some,List.all_append,ha];simp[h]
theorem law_version(a b c:Int)(w:World):Calls Tryz.prog 11 #[.int .i64 a,.int .i64 b,.int .i64 c] w (fun e w'=>e=.returned (.agg (Ver.arr ⟨⟨#[97]⟩,a,⟨#[97]⟩,⟨#[]⟩,⟨#[]⟩,⟨#[]⟩,⟨#[]⟩,[],⟨#[]⟩,⟨#[]⟩,⟨#[]⟩,⟨#[]⟩,⟨#[]⟩,⟨#[]⟩,b,c,⟨#[]⟩,⟨#[]⟩⟩ (.slice none 0 0)))∧Below w.heap.size w w'):=by
 obtain⟨vv,hvv⟩:∃ vv,(Ver.arr ⟨⟨#[97]⟩,a,⟨#[97]⟩,⟨#[]⟩,⟨#[]⟩,⟨#[]⟩,⟨#[]⟩,[],⟨#[]⟩,⟨#[]⟩,⟨#[]⟩,⟨#[]⟩,⟨#[]⟩,⟨#[]⟩,b,c,⟨#[]⟩,⟨#[]⟩⟩ (.slice none 0 0))=vv:=⟨_,rfl⟩;rw[hvv];have HVV:=Hq hvv;have HSV:=Hq (show vv.size=18 from by rw[←hvv];rfl);have HON:=Hq (show vv.all (·.oneCell')=true from by rw[←hvv];exact Ver.arr_one _);clear hvv;go_enter Tryz.func11,Tryz.ntmps11;have HY:=Hq (BxC.new w (ver0.arr (.slice none 0 0)) 36);have HB:=Hq ((Below.refl w.heap.size w).alloc (Nat.le_refl _) (.cells (ver0.arr (.slice none 0 0)) 36));obtain⟨W0,hW0⟩:∃ W0,w.alloc (.cells (ver0.arr (.slice none 0 0)) 36)=W0:=⟨_,rfl⟩;rw[hW0]at HY HB;unfold ver0 Ver.arr at hW0;go_upto_region 1 with fail
 try rw[hW0]
 clear hW0;refine wp_region_lit ?_;iterate 15 go_step
 refine wpList_store_rowTo rfl 36 _ _ rfl rfl w.heap.size vv rfl (by rw[←HVV.out];rfl) 36 (ver0.arr (.slice none 0 0)) HY.out (by rw[HSV.out];kernel_rfl) (by rw[HSV.out];rfl) HON.out ?_;have HY2:=Hq (setRow_heap W0 w.heap.size _ vv _ _ HY.out);have HB2:=Hq (below_setRow HB.out (Nat.le_refl _) vv);obtain⟨w2,hw2⟩:∃ w2,W0.setRow w.heap.size vv=w2:=⟨_,rfl⟩;rw[hw2]at HY2 HB2⊢;clear hw2;go_wp2;refine bodyPost_ret (v:=.agg vv) (results_cell_row rfl _ _ w.heap.size 36 vv (0,0) _ rfl HY2.out Tryz.underlying36 rfl (by rw[HSV.out];kernel_rfl)) rfl ⟨rfl,HB2.out⟩
theorem law58_Few(l:List Ver)(A:Option Addr)(len cap:Nat)(w:World)(hs:SlV w A len cap l)(hz:SzVs l):Calls Tryz.prog 5 #[.slice A len cap] w (Ret (.bool (fewL l)) w):=by
 have HS:=Hq hs;have HZ:=Hq hz;have HLEN:=Hq hs.1;have hcap:=hs.2.1;have hcap2:=hs.2.2.1;clear hs hz;go_enter Tryz.func5,Tryz.ntmps5;go_wp2;go_loopw [3] (fun i wr=>∃(j:Nat),j≤len∧j≤12∧i=.int .i64 j∧(l.take j).all fewV=true∧Below w.heap.size w wr) (fun i _=>len - (intOf i).toNat);case atStart=>exact⟨0,Nat.zero_le _,by omega,rfl,rfl,Below.refl _ _⟩
 case round =>
  obtain⟨j,hj,hj12,rfl,hall,hbb⟩:=hrel;have HB:=Hq hbb;have HALL:=Hq hall;have HSR:=Hq (HS.out.kept hbb (Nat.le_refl _));clear hbb hall;by_cases hlt:j<len
  · by_cases hlt12:j<12
    · obtain⟨b,o,rfl⟩:=HS.out.head (by omega);obtain⟨v,he⟩:∃ v,l[j]? =some v:=⟨_,List.getElem?_eq_getElem (by rw[HLEN.out];exact hlt)⟩;obtain⟨A1,n1,c1,hvc,hsl⟩:=HSR.out.get? j he;have HZV:=Hq (HZ.out j v he);have HE:=Hq he;have HSL:=Hq hsl;have HRA:=Hq (show wr.rangeAt b (o+j * 18) (v.vals (.slice A1 n1 c1))from hvc);have HSZ:=Hq (show (Tryz.prog.info? 36).map (·.size)=some (v.vals (.slice A1 n1 c1)).length from by kernel_rfl);have HON:=Hq (v.arr_one (A:=A1) (n:=n1) (c:=c1));obtain⟨cs,hcs⟩:∃ cs,v.arr (.slice A1 n1 c1)=cs:=⟨_,rfl⟩;have HCS:=Hq (show cs.size=18 from by rw[←hcs];rfl);have hva:(v.vals (.slice A1 n1 c1)).toArray=cs:=hcs;rw[hcs]at HON;have HVA:=Hq hcs;have hzn:v.name.size≤9223372036854775807:=HZV.out _ (by simp[Ver.str]);clear hvc he hcs hsl;go_upto_region 4 with fail
      refine wp_region_lit ?_;iterate 9 go_step
      refine wpList_load_mid rfl 36 _ rfl b (o+j * 18) rfl _ _ HRA.out Tryz.underlying36 rfl HSZ.out ?_;rw[hva];clear hva;refine Great.wpList_allocTo rfl _ rfl (.pointer (some ⟨wr.heap.size,0,none⟩)) (.cells (ver0.arr (.slice none 0 0)) 36) (by kernel_rfl) ?_;refine wpList_store_rowTo rfl 36 _ _ rfl rfl wr.heap.size cs rfl rfl 36 (ver0.arr (.slice none 0 0)) (BxC.new wr _ _) (by rw[HCS.out];kernel_rfl) (by rw[HCS.out];rfl) HON.out ?_;have HX:=Hq (box_row wr (ver0.arr (.slice none 0 0)) cs 36);have HW:=Hq (box_below wr (ver0.arr (.slice none 0 0)) cs 36);obtain⟨w2,hw2⟩:∃ w2,(wr.alloc (.cells (ver0.arr (.slice none 0 0)) 36)).setRow wr.heap.size cs=w2:=⟨_,rfl⟩;rw[hw2]at HX HW⊢;clear hw2;have HSL2:=Hq (HSL.out.kept HW.out (Nat.le_refl _));have HB2:=Hq (HB.out.trans (HW.out.mono HB.out.size));have x0:w2.cell? ⟨wr.heap.size,0,none⟩=some (.string v.name):=(HX.out.cell 0).trans (by rw[←HVA.out];rfl);have x1:w2.cell? ⟨wr.heap.size,1,none⟩=some (.int .i64 v.num):=(HX.out.cell 1).trans (by rw[←HVA.out];rfl);have x2:w2.cell? ⟨wr.heap.size,2,none⟩=some (.string v.kn):=(HX.out.cell 2).trans (by rw[←HVA.out];rfl);have x3:w2.cell? ⟨wr.heap.size,3,none⟩=some (.string v.km):=(HX.out.cell 3).trans (by rw[←HVA.out];rfl);have x4:w2.cell? ⟨wr.heap.size,4,none⟩=some (.string v.ko):=(HX.out.cell 4).trans (by rw[←HVA.out];rfl);have x5:w2.cell? ⟨wr.heap.size,5,none⟩=some (.string v.kz):=(HX.out.cell 5).trans (by rw[←HVA.out];rfl);have x6:w2.cell? ⟨wr.heap.size,6,none⟩=some (.string v.ks):=(HX.out.cell 6).trans (by rw[←HVA.out];rfl);have x7:w2.cell? ⟨wr.heap.size,7,none⟩=some (.slice A1 n1 c1):=(HX.out.cell 7).trans (by rw[←HVA.out];rfl);have x8:w2.cell? ⟨wr.heap.size,8,none⟩=some (.string v.ku):=(HX.out.cell 8).trans (by rw[←HVA.out];rfl);have x9:w2.cell? ⟨wr.heap.size,9,none⟩=some (.string v.kh):=(HX.out.cell 9).trans (by rw[←HVA.out];rfl);have x10:w2.cell? ⟨wr.heap.size,10,none⟩=some (.string v.sm):=(HX.out.cell 10).trans (by rw[←HVA.out];rfl);have x11:w2.cell? ⟨wr.heap.size,11,none⟩=some (.string v.so):=(HX.out.cell 11).trans (by rw[←HVA.out];rfl);have x12:w2.cell? ⟨wr.heap.size,12,none⟩=some (.string v.sg):=(HX.out.cell 12).trans (by rw[←HVA.out];rfl);have x13:w2.cell? ⟨wr.heap.size,13,none⟩=some (.string v.sy):=(HX.out.cell 13).trans (by rw[←HVA.out];rfl);have x14:w2.cell? ⟨wr.heap.size,14,none⟩=some (.int .i64 v.fr):=(HX.out.cell 14).trans (by rw[←HVA.out];rfl);have x15:w2.cell? ⟨wr.heap.size,15,none⟩=some (.int .i64 v.to):=(HX.out.cell 15).trans (by rw[←HVA.out];rfl);have x16:w2.cell? ⟨wr.heap.size,16,none⟩=some (.string v.sc):=(HX.out.cell 16).trans (by rw[←HVA.out];rfl);have x17:w2.cell? ⟨wr.heap.size,17,none⟩=some (.string v.sr):=(HX.out.cell 17).trans (by rw[←HVA.out];rfl);by_cases h1:v.name.size≤60
      · have hd1:decide (60<(v.name.size:Int))=false:=decide_eq_false (by omega);have h1':decide (v.name.size≤60)=true:=decide_eq_true h1;have HD1:=Hq h1';clear h1';go_wp2_with fail;refine(law_FewKey v A1 n1 c1 w2 HSL2.out (fun s hs=>HZV.out s (by simp only[Ver.str,List.mem_append];exact .inr hs))).mono ?_;rintro e w3 ⟨rfl,hb3⟩;have HX3:=Hq (HX.out.next hb3);have HB3:=Hq (HB2.out.trans (hb3.mono HB2.out.size));clear hb3 x0 x1 x2 x3 x4 x5 x6 x7 x8 x9 x10 x11 x12 x13 x14 x15 x16 x17
        cases r2:fewKeyB v with
        | false =>
         have HF:=Hq (few_no HE.out hlt12 (show fewV v=false from by unfold fewV;rw[HD1.out,r2];rfl));go_wp2;go_ret;exact⟨by rw[HF.out];rfl,HB3.out⟩
        | true =>
         have R2:=Hq r2;clear r2;have x0:w3.cell? ⟨wr.heap.size,0,none⟩=some (.string v.name):=(HX3.out.cell 0).trans (by rw[←HVA.out];rfl);have x1:w3.cell? ⟨wr.heap.size,1,none⟩=some (.int .i64 v.num):=(HX3.out.cell 1).trans (by rw[←HVA.out];rfl);have x2:w3.cell? ⟨wr.heap.size,2,none⟩=some (.string v.kn):=(HX3.out.cell 2).trans (by rw[←HVA.out];rfl);have x3:w3.cell? ⟨wr.heap.size,3,none⟩=some (.string v.km):=(HX3.out.cell 3).trans (by rw[←HVA.out];rfl);have x4:w3.cell? ⟨wr.heap.size,4,none⟩=some (.string v.ko):=(HX3.out.cell 4).trans (by rw[←HVA.out];rfl);have x5:w3.cell? ⟨wr.heap.size,5,none⟩=some (.string v.kz):=(HX3.out.cell 5).trans (by rw[←HVA.out];rfl);have x6:w3.cell? ⟨wr.heap.size,6,none⟩=some (.string v.ks):=(HX3.out.cell 6).trans (by rw[←HVA.out];rfl);have x7:w3.cell? ⟨wr.heap.size,7,none⟩=some (.slice A1 n1 c1):=(HX3.out.cell 7).trans (by rw[←HVA.out];rfl);have x8:w3.cell? ⟨wr.heap.size,8,none⟩=some (.string v.ku):=(HX3.out.cell 8).trans (by rw[←HVA.out];rfl);have x9:w3.cell? ⟨wr.heap.size,9,none⟩=some (.string v.kh):=(HX3.out.cell 9).trans (by rw[←HVA.out];rfl);have x10:w3.cell? ⟨wr.heap.size,10,none⟩=some (.string v.sm):=(HX3.out.cell 10).trans (by rw[←HVA.out];rfl);have x11:w3.cell? ⟨wr.heap.size,11,none⟩=some (.string v.so):=(HX3.out.cell 11).trans (by rw[←HVA.out];rfl);have x12:w3.cell? ⟨wr.heap.size,12,none⟩=some (.string v.sg):=(HX3.out.cell 12).trans (by rw[←HVA.out];rfl);have x13:w3.cell? ⟨wr.heap.size,13,none⟩=some (.string v.sy):=(HX3.out.cell 13).trans (by rw[←HVA.out];rfl);have x14:w3.cell? ⟨wr.heap.size,14,none⟩=some (.int .i64 v.fr):=(HX3.out.cell 14).trans (by rw[←HVA.out];rfl);have x15:w3.cell? ⟨wr.heap.size,15,none⟩=some (.int .i64 v.to):=(HX3.out.cell 15).trans (by rw[←HVA.out];rfl);have x16:w3.cell? ⟨wr.heap.size,16,none⟩=some (.string v.sc):=(HX3.out.cell 16).trans (by rw[←HVA.out];rfl);have x17:w3.cell? ⟨wr.heap.size,17,none⟩=some (.string v.sr):=(HX3.out.cell 17).trans (by rw[←HVA.out];rfl);obtain⟨W4,hW4⟩:∃ W4,w3.alloc (.cells #[.string v.sm,.string v.so,.string v.sg,.string v.sy,.string v.sc,.string v.sr] 22)=W4:=⟨_,rfl⟩;have HS4:=Hq (show SlN W4 (some ⟨w3.heap.size,0,none⟩) 6 6 [v.sm,v.so,v.sg,v.sy,v.sc,v.sr]from by rw[←hW4];exact SlN.new w3 [v.sm,v.so,v.sg,v.sy,v.sc,v.sr] 22 (by simp));have HB4:=Hq (show Below w.heap.size w W4 from by rw[←hW4];exact HB3.out.alloc HB3.out.size _);have HZ6:=Hq (show SzL [v.sm,v.so,v.sg,v.sy,v.sc,v.sr]from fun s hs=>HZV.out s (by simp[Ver.str]at hs⊢;rcases hs with rfl | rfl | rfl | rfl | rfl | rfl<;>simp));obtain⟨l6,hl6⟩:∃ l6,[v.sm,v.so,v.sg,v.sy,v.sc,v.sr]=l6:=⟨_,rfl⟩;have HL6:=Hq (show l6.length=6 from by rw[←hl6];rfl);rw[hl6]at HS4 HZ6;have HLL:=Hq hl6;clear hl6;go_wp2;try rw[hW4]
         clear hW4 x0 x1 x2 x3 x4 x5 x6 x7 x8 x9 x10 x11 x12 x13 x14 x15 x16 x17
         go_loop [53] (fun i=>∃(m:Nat),m≤6∧i=.int .i64 m∧∀ s∈l6.take m,s.size≤9) (fun i=>6 - (intOf i).toNat)
         case atStart=>exact⟨0,by omega,rfl,by simp⟩
         case round =>
          obtain⟨m,hm,rfl,hall6⟩:=hrel;have HALL6:=Hq hall6;clear hall6;by_cases hlm:m<6
          · obtain⟨s,he⟩:∃ s,l6[m]? =some s:=⟨_,List.getElem?_eq_getElem (by rw[HL6.out];exact hlm)⟩;have e1:W4.cell? ⟨w3.heap.size,m,none⟩=some (.string s):=(by have:=HS4.out.get? m he;rwa[Nat.zero_add]at this);have hsz:=HZ6.out s (List.mem_of_getElem? he);have HE6:=Hq he;clear he;by_cases hss:s.size≤9
            · have HA2:=Hq (show ∀ u∈l6.take (m+1),u.size≤9 from fun u hu=>by
               rw[List.take_add_one,HE6.out,Option.toList_some,List.mem_append,List.mem_singleton]at hu;rcases hu with hu | rfl
               · exact HALL6.out u hu
               · exact hss)
              have hd9:decide (9<(s.size:Int))=false:=decide_eq_false (by omega);go_wp2;go_round;case rel=>exact⟨m+1,by omega,by go_num,HA2.out⟩
              case measure=>simp[intOf];omega
            · have R6:=Hq (show shortB 9 [v.sm,v.so,v.sg,v.sy,v.sc,v.sr]=false from by
               rw[HLL.out];unfold shortB;rw[List.all_eq_false]
               exact⟨s,List.mem_of_getElem? HE6.out,by simpa using hss⟩)
              have hd9:decide (9<(s.size:Int))=true:=decide_eq_true (by omega);have HF:=Hq (few_no HE.out hlt12 (show fewV v=false from by unfold fewV;rw[HD1.out,R2.out,R6.out];rfl));go_wp2;go_ret;exact⟨by rw[HF.out];rfl,HB4.out⟩
          · obtain rfl:m=6:=by omega
            have R6:=Hq (show shortB 9 [v.sm,v.so,v.sg,v.sy,v.sc,v.sr]=true from by
             rw[HLL.out];unfold shortB;rw[List.all_eq_true];intro s hs;have:=HALL6.out;rw[←HL6.out,List.take_length]at this
             exact decide_eq_true (this s hs))
            have HNX:=Hq (few_step HE.out (show fewV v=true from by unfold fewV;rw[HD1.out,R2.out,R6.out];rfl) HALL.out);clear hlm hm;go_wp2;go_roundw;case rel=>exact⟨j+1,by omega,by omega,by go_num,HNX.out,HB4.out⟩
            case measure=>simp[intOf];omega
      · have hd1:decide (60<(v.name.size:Int))=true:=decide_eq_true (by omega);have h1':decide (v.name.size≤60)=false:=decide_eq_false h1;have HD1:=Hq h1';clear h1';have HF:=Hq (few_no HE.out hlt12 (show fewV v=false from by unfold fewV;rw[HD1.out];rfl));go_wp2;go_ret;exact⟨by rw[HF.out];rfl,HB2.out⟩
    · obtain rfl:j=12:=by omega
      by_cases hl12:len≤12
      · exact absurd hlt (by omega)
      · have HF:=Hq (show fewL l=false from by unfold fewL;rw[decide_eq_false (show ¬ l.length≤12 by rw[HLEN.out];exact hl12),Bool.and_false]);have hld:decide ((len:Int)≤12)=false:=decide_eq_false (by omega);clear hlt12 hj hj12;go_wp2;go_ret;exact⟨by rw[HF.out];rfl,HB.out⟩
  · obtain rfl:j=len:=by omega
    have HF:=Hq (show fewL l=true from by
     unfold fewL;have e1:l.take 12=l.take j:=by rw[←HLEN.out,List.take_length,List.take_of_length_le (by rw[HLEN.out];exact hj12)]
     rw[e1,HALL.out,decide_eq_true (show l.length≤12 by rw[HLEN.out];exact hj12)];rfl)
    have hld:decide ((j:Int)≤12)=true:=decide_eq_true (by omega);clear hlt hj;go_wp2;go_ret;exact⟨by rw[HF.out];rfl,HB.out⟩
def SlO(w:World)(row:Option Nat)(lo:Nat)(A:Option Addr)(n c:Nat)(l:List ByteArray):Prop:=SlN w A n c l∧(0<n→∀ a,A=some a→row≠some a.block∧lo≤a.block)
theorem SlN.lt{w:World}{a:Addr}{n c:Nat}{l:List ByteArray}(h:SlN w (some a) n c l)(hn:0<n):a.block<w.heap.size:=by
 obtain⟨b,o,e⟩:=h.head hn;cases e;obtain⟨s,hs⟩:∃ s,l[0]? =some s:=⟨_,List.getElem?_eq_getElem (by rw[h.1];exact hn)⟩;have:=h.get? 0 hs;rcases Nat.lt_or_ge b w.heap.size with h1 | h1
 · exact h1
 · exfalso;unfold World.cell? at this;rw[Array.getElem?_eq_none h1]at this;simp at this
theorem SlN.of_blocks{w w':World}{A:Option Addr}{n c:Nat}{l:List ByteArray}(h:SlN w A n c l)(hb:0<n→∀ a,A=some a→w'.heap[a.block]? =w.heap[a.block]?):SlN w' A n c l:=by
 obtain⟨h1,h2,h3,b,o,h4,h5⟩:=h;refine⟨h1,h2,h3,b,o,h4,fun k s hk=>?_⟩;have hl:=(List.getElem?_eq_some_iff.1 hk).1;have:=hb (by omega) _ (h4 (by omega));have h6:=h5 k s hk;unfold World.cell? at h6⊢;simp only at this h6⊢;rw[this];exact h6
theorem SlO.kept{B lo:Nat}{w w':World}{row:Option Nat}(hb:Below B w w')(hB:w.heap.size≤B){A:Option Addr}{n c:Nat}{l:List ByteArray}(h:SlO w row lo A n c l):SlO w' row lo A n c l:=⟨h.1.kept hb hB,h.2⟩
theorem SlO.grow{w w':World}{row:Option Nat}{g lo:Nat}(hg:w.grownBy w' row)(ha:row=some g∨g=w.heap.size){A:Option Addr}{n c:Nat}{l:List ByteArray}(h:SlO w row lo A n c l):SlO w' (some g) lo A n c l:=by
 refine⟨h.1.of_blocks fun hn a e=>?_,fun hn a e=>?_⟩
 · subst e;exact hg.block a.block (h.1.lt hn) (fun e=>(h.2 hn a rfl).1 e.symm)
 · rcases ha with ha | ha
   · rw[←ha];exact h.2 hn a e
   · subst e;have:=h.1.lt hn;refine⟨?_,(h.2 hn a rfl).2⟩;simp only[ne_eq,Option.some.injEq];omega
def VRowO(w:World)(row:Option Nat)(lo:Nat):List Value→List Ver→Prop
 | vs,[]=>vs=[]
 | vs,v::l=>∃ A n c rest,vs=v.vals (.slice A n c)++rest∧SlO w row lo A n c v.kr∧VRowO w row lo rest l
theorem VRowO.imp{w w':World}{row row':Option Nat}{lo:Nat}(hi:∀ A n c l,SlO w row lo A n c l→SlO w' row' lo A n c l):∀ {vs:List Value} {l:List Ver},VRowO w row lo vs l→VRowO w' row' lo vs l
 | _,[],h=>h
 | _,_::_,⟨A,n,c,rest,h1,h2,h3⟩=>⟨A,n,c,rest,h1,hi _ _ _ _ h2,h3.imp hi⟩
theorem VRowO.kept{B lo:Nat}{w w':World}{row:Option Nat}(hb:Below B w w')(hB:w.heap.size≤B){vs:List Value}{l:List Ver}(h:VRowO w row lo vs l):VRowO w' row lo vs l:=h.imp fun _ _ _ _ h=>h.kept hb hB
theorem VRowO.grow{w w':World}{row:Option Nat}{g lo:Nat}(hg:w.grownBy w' row)(ha:row=some g∨g=w.heap.size){vs:List Value}{l:List Ver}(h:VRowO w row lo vs l):VRowO w' (some g) lo vs l:=h.imp fun _ _ _ _ h=>h.grow hg ha
theorem VRowO.row{w:World}{row:Option Nat}{lo:Nat}:∀ {vs:List Value} {l:List Ver},VRowO w row lo vs l→VRow w vs l
 | _,[],h=>h
 | _,_::_,⟨A,n,c,rest,h1,h2,h3⟩=>⟨A,n,c,rest,h1,h2.1,h3.row⟩
theorem VRowO.snoc{w:World}{row:Option Nat}{lo:Nat}{v:Ver}{A:Option Addr}{n c:Nat}(hs:SlO w row lo A n c v.kr):∀ {vs:List Value} {l:List Ver},VRowO w row lo vs l→VRowO w row lo (vs++v.vals (.slice A n c)) (l++[v])
 | vs,[],h=>⟨A,n,c,[],by rw[show vs=[]from h];simp,hs,rfl⟩
 | _,_::_,⟨A',n',c',rest,h1,h2,h3⟩=>⟨A',n',c',rest++v.vals (.slice A n c),by rw[h1,List.append_assoc],h2,h3.snoc hs⟩
theorem VRowO.get{w:World}{row:Option Nat}{lo:Nat}:∀ {vs:List Value} {l:List Ver} {k:Nat} {v:Ver},VRowO w row lo vs l→l[k]? =some v→∃ A n c,SlO w row lo A n c v.kr∧∀ j u,(v.vals (.slice A n c))[j]? =some u→vs[k * 18+j]? =some u
 | _,[],_,_,_,hk=>by simp at hk
 | _,v'::l,0,v,⟨A,n,c,rest,h1,h2,h3⟩,hk=>by
  simp only[List.getElem?_cons_zero,Option.some.injEq]at hk;subst hk;refine⟨A,n,c,h2,fun j u hu=>?_⟩;have hj:=(List.getElem?_eq_some_iff.1 hu).1;rw[h1,Nat.zero_mul,Nat.zero_add,List.getElem?_append_left hj];exact hu
 | _,v'::l,k+1,v,⟨A,n,c,rest,h1,h2,h3⟩,hk=>by
  obtain⟨A',n',c',h4,h5⟩:=h3.get (k:=k) (by simpa using hk);refine⟨A',n',c',h4,fun j u hu=>?_⟩;rw[h1,List.getElem?_append_right (by rw[Ver.vals_length];omega),Ver.vals_length,show (k+1) * 18+j - 18=k * 18+j from by omega];exact h5 j u hu
theorem VRowO.len{w w':World}{base m lo:Nat}{row:Option Nat}{T:TypeId}{s:Value}{vs:List Value}{l:List Ver}(hr:VRowO w row lo vs l)(h:w'.ownsRow base T 18 s m vs):m=l.length:=hr.row.len h
end Go.Proofs.YtamhonjkgkmdbaaGreat

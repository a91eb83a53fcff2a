import Derived.Test.YtamhonjkgkmdbaaGreatDoorQKyM
set_option linter.unusedVariables false
set_option linter.unusedSimpArgs false
namespace Go.Proofs.YtamhonjkgkmdbaaGreatDoor
set_option maxRecDepth 100000
set_option maxHeartbeats 4000000
open Go.RowKit
def fewV(v:Ver):Bool:=decide (v.name.size≤60)&&(fewKeyB v&&shortB 9 [v.sm,v.so,v.sg,v.sy,v.sc,v.sr])
def fewL(l:List Ver):Bool:=(l.take 12).all fewV&&decide (l.length≤12)
def Ver.str(v:Ver):List ByteArray:=[v.name,v.sm,v.so,v.sg,v.sy,v.sc,v.sr]++v.keyStr
def SzVs(l:List Ver):Prop:=∀(k:Nat) (v:Ver),l[k]? =some v→SzL v.str
theorem few_no{l:List Ver}{j:Nat}{v:Ver}(hv:l[j]? =some v)(hj:j<12)(h:fewV v=false):fewL l=false:=by
 unfold fewL;have : (l.take 12).all fewV=false:=by
  rw[List.all_eq_false];refine⟨v,List.mem_of_getElem? (i:=j) ?_,by simp[h]⟩;rw[List.getElem?_take_of_lt hj];exact hv
 rw[this];rfl
theorem few_step{l:List Ver}{j:Nat}{v:Ver}(hv:l[j]? =some v)(h:fewV v=true)(ha:(l.take j).all fewV=true):(l.take (j+1)).all fewV=true:=by
 rw[List.take_add_one,hv,Option.toList_some,List.all_append,ha];simp[h]
theorem law_version(a b c:Int)(w:World):Calls Tryz.prog 17 #[.int .i64 a,.int .i64 b,.int .i64 c] w (fun e w'=>e=.returned (.agg (Ver.arr ⟨⟨#[97]⟩,a,⟨#[97]⟩,⟨#[]⟩,⟨#[]⟩,⟨#[]⟩,⟨#[]⟩,[],⟨#[]⟩,⟨#[]⟩,⟨#[]⟩,⟨#[]⟩,⟨#[]⟩,⟨#[]⟩,b,c,⟨#[]⟩,⟨#[]⟩⟩ (.slice none 0 0)))∧Below w.heap.size w w'):=by
 obtain⟨vv,hvv⟩:∃ vv,(Ver.arr ⟨⟨#[97]⟩,a,⟨#[97]⟩,⟨#[]⟩,⟨#[]⟩,⟨#[]⟩,⟨#[]⟩,[],⟨#[]⟩,⟨#[]⟩,⟨#[]⟩,⟨#[]⟩,⟨#[]⟩,⟨#[]⟩,b,c,⟨#[]⟩,⟨#[]⟩⟩ (.slice none 0 0))=vv:=⟨_,rfl⟩;rw[hvv];have HVV:=Hq hvv;have HSV:=Hq (show vv.size=18 from by rw[←hvv];rfl);have HON:=Hq (show vv.all (·.oneCell')=true from by rw[←hvv];exact Ver.arr_one _);clear hvv;go_enter Tryz.func17,Tryz.ntmps17;have HY:=Hq (BxC.new w (ver0.arr (.slice none 0 0)) 35);have HB:=Hq ((Below.refl w.heap.size w).alloc (Nat.le_refl _) (.cells (ver0.arr (.slice none 0 0)) 35));obtain⟨W0,hW0⟩:∃ W0,w.alloc (.cells (ver0.arr (.slice none 0 0)) 35)=W0:=⟨_,rfl⟩;rw[hW0]at HY HB;unfold ver0 Ver.arr at hW0;go_upto_region 1 with fail
 try rw[hW0]
 clear hW0;refine wp_region_lit ?_;iterate 15 go_step
 refine wpList_store_rowTo rfl 35 _ _ rfl rfl w.heap.size vv rfl (by rw[←HVV.out];rfl) 35 (ver0.arr (.slice none 0 0)) HY.out (by rw[HSV.out];kernel_rfl) (by rw[HSV.out];rfl) HON.out ?_;have HY2:=Hq (setRow_heap W0 w.heap.size _ vv _ _ HY.out);have HB2:=Hq (below_setRow HB.out (Nat.le_refl _) vv);obtain⟨w2,hw2⟩:∃ w2,W0.setRow w.heap.size vv=w2:=⟨_,rfl⟩;rw[hw2]at HY2 HB2⊢;clear hw2;go_wp2;refine bodyPost_ret (v:=.agg vv) (results_cell_row rfl _ _ w.heap.size 35 vv (0,0) _ rfl HY2.out Tryz.underlying35 rfl (by rw[HSV.out];kernel_rfl)) rfl ⟨rfl,HB2.out⟩
theorem law58_Few(l:List Ver)(A:Option Addr)(len cap:Nat)(w:World)(hs:SlV w A len cap l)(hz:SzVs l):Calls Tryz.prog 6 #[.slice A len cap] w (Ret (.bool (fewL l)) w):=by
 have HS:=Hq hs;have HZ:=Hq hz;have HLEN:=Hq hs.1;have hcap:=hs.2.1;have hcap2:=hs.2.2.1;clear hs hz;go_enter Tryz.func6,Tryz.ntmps6;go_wp2;go_loopw [3] (fun i wr=>∃(j:Nat),j≤len∧j≤12∧i=.int .i64 j∧(l.take j).all fewV=true∧Below w.heap.size w wr) (fun i _=>len - (intOf i).toNat);case atStart=>exact⟨0,Nat.zero_le _,by omega,rfl,rfl,Below.refl _ _⟩
 case round =>
  obtain⟨j,hj,hj12,rfl,hall,hbb⟩:=hrel;have HB:=Hq hbb;have HALL:=Hq hall;have HSR:=Hq (HS.out.kept hbb (Nat.le_refl _));clear hbb hall;by_cases hlt:j<len
  · by_cases hlt12:j<12
    · obtain⟨b,o,rfl⟩:=HS.out.head (by omega);obtain⟨v,he⟩:∃ v,l[j]? =some v:=⟨_,List.getElem?_eq_getElem (by rw[HLEN.out];exact hlt)⟩;obtain⟨A1,n1,c1,hvc,hsl⟩:=HSR.out.get? j he;have HZV:=Hq (HZ.out j v he);have HE:=Hq he;have HSL:=Hq hsl;have HRA:=Hq (show wr.rangeAt b (o+j * 18) (v.vals (.slice A1 n1 c1))from hvc);have HSZ:=Hq (show (Tryz.prog.info? 35).map (·.size)=some (v.vals (.slice A1 n1 c1)).length from by kernel_rfl);have HON:=Hq (v.arr_one (A:=A1) (n:=n1) (c:=c1));obtain⟨cs,hcs⟩:∃ cs,v.arr (.slice A1 n1 c1)=cs:=⟨_,rfl⟩;have HCS:=Hq (show cs.size=18 from by rw[←hcs];rfl);have hva:(v.vals (.slice A1 n1 c1)).toArray=cs:=hcs;rw[hcs]at HON;have HVA:=Hq hcs;have hzn:v.name.size≤9223372036854775807:=HZV.out _ (by simp[Ver.str]);clear hvc he hcs hsl;go_upto_region 4 with fail
      refine wp_region_lit ?_;iterate 9 go_step
      refine wpList_load_mid rfl 35 _ rfl b (o+j * 18) rfl _ _ HRA.out Tryz.underlying35 rfl HSZ.out ?_;rw[hva];clear hva;refine Great.wpList_allocTo rfl _ rfl (.pointer (some ⟨wr.heap.size,0,none⟩)) (.cells (ver0.arr (.slice none 0 0)) 35) (by kernel_rfl) ?_;refine wpList_store_rowTo rfl 35 _ _ rfl rfl wr.heap.size cs rfl rfl 35 (ver0.arr (.slice none 0 0)) (BxC.new wr _ _) (by rw[HCS.out];kernel_rfl) (by rw[HCS.out];rfl) HON.out ?_;have HX:=Hq (box_row wr (ver0.arr (.slice none 0 0)) cs 35);have HW:=Hq (box_below wr (ver0.arr (.slice none 0 0)) cs 35);obtain⟨w2,hw2⟩:∃ w2,(wr.alloc (.cells (ver0.arr (.slice none 0 0)) 35)).setRow wr.heap.size cs=w2:=⟨_,rfl⟩;rw[hw2]at HX HW⊢;clear hw2;have HSL2:=Hq (HSL.out.kept HW.out (Nat.le_refl _));have HB2:=Hq (HB.out.trans (HW.out.mono HB.out.size));have x0:w2.cell? ⟨wr.heap.size,0,none⟩=some (.string v.name):=(HX.out.cell 0).trans (by rw[←HVA.out];rfl);have x1:w2.cell? ⟨wr.heap.size,1,none⟩=some (.int .i64 v.num):=(HX.out.cell 1).trans (by rw[←HVA.out];rfl);have x2:w2.cell? ⟨wr.heap.size,2,none⟩=some (.string v.kn):=(HX.out.cell 2).trans (by rw[←HVA.out];rfl);have x3:w2.cell? ⟨wr.heap.size,3,none⟩=some (.string v.km):=(HX.out.cell 3).trans (by rw[←HVA.out];rfl);have x4:w2.cell? ⟨wr.heap.size,4,none⟩=some (.string v.ko):=(HX.out.cell 4).trans (by rw[←HVA.out];rfl);have x5:w2.cell? ⟨wr.heap.size,5,none⟩=some (.string v.kz):=(HX.out.cell 5).trans (by rw[←HVA.out];rfl);have x6:w2.cell? ⟨wr.heap.size,6,none⟩=some (.string v.ks):=(HX.out.cell 6).trans (by rw[←HVA.out];rfl);have x7:w2.cell? ⟨wr.heap.size,7,none⟩=some (.slice A1 n1 c1):=(HX.out.cell 7).trans (by rw[←HVA.out];rfl);have x8:w2.cell? ⟨wr.heap.size,8,none⟩=some (.string v.ku):=(HX.out.cell 8).trans (by rw[←HVA.out];rfl);have x9:w2.cell? ⟨wr.heap.size,9,none⟩=some (.string v.kh):=(HX.out.cell 9).trans (by rw[←HVA.out];rfl);have x10:w2.cell? ⟨wr.heap.size,10,none⟩=some (.string v.sm):=(HX.out.cell 10).trans (by rw[←HVA.out];rfl);have x11:w2.cell? ⟨wr.heap.size,11,none⟩=some (.string v.so):=(HX.out.cell 11).trans (by rw[←HVA.out];rfl);have x12:w2.cell? ⟨wr.heap.size,12,none⟩=some (.string v.sg):=(HX.out.cell 12).trans (by rw[←HVA.out];rfl);have x13:w2.cell? ⟨wr.heap.size,13,none⟩=some (.string v.sy):=(HX.out.cell 13).trans (by rw[←HVA.out];rfl);have x14:w2.cell? ⟨wr.heap.size,14,none⟩=some (.int .i64 v.fr):=(HX.out.cell 14).trans (by rw[←HVA.out];rfl);have x15:w2.cell? ⟨wr.heap.size,15,none⟩=some (.int .i64 v.to):=(HX.out.cell 15).trans (by rw[←HVA.out];rfl);have x16:w2.cell? ⟨wr.heap.size,16,none⟩=some (.string v.sc):=(HX.out.cell 16).trans (by rw[←HVA.out];rfl);have x17:w2.cell? ⟨wr.heap.size,17,none⟩=some (.string v.sr):=(HX.out.cell 17).trans (by rw[←HVA.out];rfl);by_cases h1:v.name.size≤60
      · have hd1:decide (60<(v.name.size:Int))=false:=decide_eq_false (by omega);have h1':decide (v.name.size≤60)=true:=decide_eq_true h1;have HD1:=Hq h1';clear h1';go_wp2_with fail;refine(law_FewKey v A1 n1 c1 w2 HSL2.out (fun s hs=>HZV.out s (by simp only[Ver.str,List.mem_append];exact .inr hs))).mono ?_;rintro e w3 ⟨rfl,hb3⟩;have HX3:=Hq (HX.out.next hb3);have HB3:=Hq (HB2.out.trans (hb3.mono HB2.out.size));clear hb3 x0 x1 x2 x3 x4 x5 x6 x7 x8 x9 x10 x11 x12 x13 x14 x15 x16 x17
        cases r2:fewKeyB v with
        | false =>
         have HF:=Hq (few_no HE.out hlt12 (show fewV v=false from by unfold fewV;rw[HD1.out,r2];rfl));go_wp2;go_ret;exact⟨by rw[HF.out];rfl,HB3.out⟩
        | true =>
         have R2:=Hq r2;clear r2;have x0:w3.cell? ⟨wr.heap.size,0,none⟩=some (.string v.name):=(HX3.out.cell 0).trans (by rw[←HVA.out];rfl);have x1:w3.cell? ⟨wr.heap.size,1,none⟩=some (.int .i64 v.num):=(HX3.out.cell 1).trans (by rw[←HVA.out];rfl);have x2:w3.cell? ⟨wr.heap.size,2,none⟩=some (.string v.kn):=(HX3.out.cell 2).trans (by rw[←HVA.out];rfl);have x3:w3.cell? ⟨wr.heap.size,3,none⟩=some (.string v.km):=(HX3.out.cell 3).trans (by rw[←HVA.out];rfl);have x4:w3.cell? ⟨wr.heap.size,4,none⟩=some (.string v.ko):=(HX3.out.cell 4).trans (by rw[←HVA.out];rfl);have x5:w3.cell? ⟨wr.heap.size,5,none⟩=some (.string v.kz):=(HX3.out.cell 5).trans (by rw[←HVA.out];rfl);have x6:w3.cell? ⟨wr.heap.size,6,none⟩=some (.string v.ks):=(HX3.out.cell 6).trans (by rw[←HVA.out];rfl);have x7:w3.cell? ⟨wr.heap.size,7,none⟩=some (.slice A1 n1 c1):=(HX3.out.cell 7).trans (by rw[←HVA.out];rfl);have x8:w3.cell? ⟨wr.heap.size,8,none⟩=some (.string v.ku):=(HX3.out.cell 8).trans (by rw[←HVA.out];rfl);have x9:w3.cell? ⟨wr.heap.size,9,none⟩=some (.string v.kh):=(HX3.out.cell 9).trans (by rw[←HVA.out];rfl);have x10:w3.cell? ⟨wr.heap.size,10,none⟩=some (.string v.sm):=(HX3.out.cell 10).trans (by rw[←HVA.out];rfl);have x11:w3.cell? ⟨wr.heap.size,11,none⟩=some (.string v.so):=(HX3.out.cell 11).trans (by rw[←HVA.out];rfl);have x12:w3.cell? ⟨wr.heap.size,12,none⟩=some (.string v.sg):=(HX3.out.cell 12).trans (by rw[←HVA.out];rfl);have x13:w3.cell? ⟨wr.heap.size,13,none⟩=some (.string v.sy):=(HX3.out.cell 13).trans (by rw[←HVA.out];rfl);have x14:w3.cell? ⟨wr.heap.size,14,none⟩=some (.int .i64 v.fr):=(HX3.out.cell 14).trans (by rw[←HVA.out];rfl);have x15:w3.cell? ⟨wr.heap.size,15,none⟩=some (.int .i64 v.to):=(HX3.out.cell 15).trans (by rw[←HVA.out];rfl);have x16:w3.cell? ⟨wr.heap.size,16,none⟩=some (.string v.sc):=(HX3.out.cell 16).trans (by rw[←HVA.out];rfl);have x17:w3.cell? ⟨wr.heap.size,17,none⟩=some (.string v.sr):=(HX3.out.cell 17).trans (by rw[←HVA.out];rfl);obtain⟨W4,hW4⟩:∃ W4,w3.alloc (.cells #[.string v.sm,.string v.so,.string v.sg,.string v.sy,.string v.sc,.string v.sr] 22)=W4:=⟨_,rfl⟩;have HS4:=Hq (show SlN W4 (some ⟨w3.heap.size,0,none⟩) 6 6 [v.sm,v.so,v.sg,v.sy,v.sc,v.sr]from by rw[←hW4];exact SlN.new w3 [v.sm,v.so,v.sg,v.sy,v.sc,v.sr] 22 (by simp));have HB4:=Hq (show Below w.heap.size w W4 from by rw[←hW4];exact HB3.out.alloc HB3.out.size _);have HZ6:=Hq (show SzL [v.sm,v.so,v.sg,v.sy,v.sc,v.sr]from fun s hs=>HZV.out s (by simp[Ver.str]at hs⊢;rcases hs with rfl | rfl | rfl | rfl | rfl | rfl<;>simp));obtain⟨l6,hl6⟩:∃ l6,[v.sm,v.so,v.sg,v.sy,v.sc,v.sr]=l6:=⟨_,rfl⟩;have HL6:=Hq (show l6.length=6 from by rw[←hl6];rfl);rw[hl6]at HS4 HZ6;have HLL:=Hq hl6;clear hl6;go_wp2;try rw[hW4]
         clear hW4 x0 x1 x2 x3 x4 x5 x6 x7 x8 x9 x10 x11 x12 x13 x14 x15 x16 x17
         go_loop [53] (fun i=>∃(m:Nat),m≤6∧i=.int .i64 m∧∀ s∈l6.take m,s.size≤9) (fun i=>6 - (intOf i).toNat)
         case atStart=>exact⟨0,by omega,rfl,by simp⟩
         case round =>
          obtain⟨m,hm,rfl,hall6⟩:=hrel;have HALL6:=Hq hall6;clear hall6;by_cases hlm:m<6
          · obtain⟨s,he⟩:∃ s,l6[m]? =some s:=⟨_,List.getElem?_eq_getElem (by rw[HL6.out];exact hlm)⟩;have e1:W4.cell? ⟨w3.heap.size,m,none⟩=some (.string s):=(by have:=HS4.out.get? m he;rwa[Nat.zero_add]at this);have hsz:=HZ6.out s (List.mem_of_getElem? he);have HE6:=Hq he;clear he;by_cases hss:s.size≤9
            · have HA2:=Hq (show ∀ u∈l6.take (m+1),u.size≤9 from fun u hu=>by
               rw[List.take_add_one,HE6.out,Option.toList_some,List.mem_append,List.mem_singleton]at hu;rcases hu with hu | rfl
               · exact HALL6.out u hu
               · exact hss)
              have hd9:decide (9<(s.size:Int))=false:=decide_eq_false (by omega);go_wp2;go_round;case rel=>exact⟨m+1,by omega,by go_num,HA2.out⟩
              case measure=>simp[intOf];omega
            · have R6:=Hq (show shortB 9 [v.sm,v.so,v.sg,v.sy,v.sc,v.sr]=false from by
               rw[HLL.out];unfold shortB;rw[List.all_eq_false]
               exact⟨s,List.mem_of_getElem? HE6.out,by simpa using hss⟩)
              have hd9:decide (9<(s.size:Int))=true:=decide_eq_true (by omega);have HF:=Hq (few_no HE.out hlt12 (show fewV v=false from by unfold fewV;rw[HD1.out,R2.out,R6.out];rfl));go_wp2;go_ret;exact⟨by rw[HF.out];rfl,HB4.out⟩
          · obtain rfl:m=6:=by omega
            have R6:=Hq (show shortB 9 [v.sm,v.so,v.sg,v.sy,v.sc,v.sr]=true from by
             rw[HLL.out];unfold shortB;rw[List.all_eq_true];intro s hs;have:=HALL6.out;rw[←HL6.out,List.take_length]at this
             exact decide_eq_true (this s hs))
            have HNX:=Hq (few_step HE.out (show fewV v=true from by unfold fewV;rw[HD1.out,R2.out,R6.out];rfl) HALL.out);clear hlm hm;go_wp2;go_roundw;case rel=>exact⟨j+1,by omega,by omega,by go_num,HNX.out,HB4.out⟩
            case measure=>simp[intOf];omega
      · have hd1:decide (60<(v.name.size:Int))=true:=decide_eq_true (by omega);have h1':decide (v.name.size≤60)=false:=decide_eq_false h1;have HD1:=Hq h1';clear h1';have HF:=Hq (few_no HE.out hlt12 (show fewV v=false from by unfold fewV;rw[HD1.out];rfl));go_wp2;go_ret;exact⟨by rw[HF.out];rfl,HB2.out⟩
    · obtain rfl:j=12:=by omega
      by_cases hl12:len≤12
      · exact absurd hlt (by omega)
      · have HF:=Hq (show fewL l=false from by unfold fewL;rw[decide_eq_false (show ¬ l.length≤12 by rw[HLEN.out];exact hl12),Bool.and_false]);have hld:decide ((len:Int)≤12)=false:=decide_eq_false (by omega);clear hlt12 hj hj12;go_wp2;go_ret;exact⟨by rw[HF.out];rfl,HB.out⟩
  · obtain rfl:j=len:=by omega
    have HF:=Hq (show fewL l=true from by
     unfold fewL;have e1:l.take 12=l.take j:=by rw[←HLEN.out,List.take_length,List.take_of_length_le (by rw[HLEN.out];exact hj12)]
     rw[e1,HALL.out,decide_eq_true (show l.length≤12 by rw[HLEN.out];exact hj12)];rfl)
    have hld:decide ((j:Int)≤12)=true:=decide_eq_true (by omega);clear hlt hj;go_wp2;go_ret;exact⟨by rw[HF.out];rfl,HB.out⟩
def SlO(w:World)(row:Option Nat)(lo:Nat)(A:Option Addr)(n c:Nat)(l:List ByteArray):Prop:=SlN w A n c l∧(0<n→∀ a,A=some a→row≠some a.block∧lo≤a.block)
theorem SlN.lt{w:World}{a:Addr}{n c:Nat}{l:List ByteArray}(h:SlN w (some a) n c l)(hn:0<n):a.block<w.heap.size:=by
 obtain⟨b,o,e⟩:=h.head hn;cases e;obtain⟨s,hs⟩:∃ s,l[0]? =some s:=⟨_,List.getElem?_eq_getElem (by rw[h.1];exact hn)⟩;have:=h.get? 0 hs;rcases Nat.lt_or_ge b w.heap.size with h1 | h1
 · exact h1
 · exfalso;unfold World.cell? at this;rw[Array.getElem?_eq_none h1]at this;simp at this
theorem SlN.of_blocks{w w':World}{A:Option Addr}{n c:Nat}{l:List ByteArray}(h:SlN w A n c l)(hb:0<n→∀ a,A=some a→w'.heap[a.block]? =w.heap[a.block]?):SlN w' A n c l:=by
 obtain⟨h1,h2,h3,b,o,h4,h5⟩:=h;refine⟨h1,h2,h3,b,o,h4,fun k s hk=>?_⟩;have hl:=(List.getElem?_eq_some_iff.1 hk).1;have:=hb (by omega) _ (h4 (by omega));have h6:=h5 k s hk;unfold World.cell? at h6⊢;simp only at this h6⊢;rw[this];exact h6
theorem SlO.kept{B lo:Nat}{w w':World}{row:Option Nat}(hb:Below B w w')(hB:w.heap.size≤B){A:Option Addr}{n c:Nat}{l:List ByteArray}(h:SlO w row lo A n c l):SlO w' row lo A n c l:=⟨h.1.kept hb hB,h.2⟩
theorem SlO.grow{w w':World}{row:Option Nat}{g lo:Nat}(hg:w.grownBy w' row)(ha:row=some g∨g=w.heap.size){A:Option Addr}{n c:Nat}{l:List ByteArray}(h:SlO w row lo A n c l):SlO w' (some g) lo A n c l:=by
 refine⟨h.1.of_blocks fun hn a e=>?_,fun hn a e=>?_⟩
 · subst e;exact hg.block a.block (h.1.lt hn) (fun e=>(h.2 hn a rfl).1 e.symm)
 · rcases ha with ha | ha
   · rw[←ha];exact h.2 hn a e
   · subst e;have:=h.1.lt hn;refine⟨?_,(h.2 hn a rfl).2⟩;simp only[ne_eq,Option.some.injEq];omega
def VRowO(w:World)(row:Option Nat)(lo:Nat):List Value→List Ver→Prop
 | vs,[]=>vs=[]
 | vs,v::l=>∃ A n c rest,vs=v.vals (.slice A n c)++rest∧SlO w row lo A n c v.kr∧VRowO w row lo rest l
theorem VRowO.imp{w w':World}{row row':Option Nat}{lo:Nat}(hi:∀ A n c l,SlO w row lo A n c l→SlO w' row' lo A n c l):∀ {vs:List Value} {l:List Ver},VRowO w row lo vs l→VRowO w' row' lo vs l
 | _,[],h=>h
 | _,_::_,⟨A,n,c,rest,h1,h2,h3⟩=>⟨A,n,c,rest,h1,hi _ _ _ _ h2,h3.imp hi⟩
theorem VRowO.kept{B lo:Nat}{w w':World}{row:Option Nat}(hb:Below B w w')(hB:w.heap.size≤B){vs:List Value}{l:List Ver}(h:VRowO w row lo vs l):VRowO w' row lo vs l:=h.imp fun _ _ _ _ h=>h.kept hb hB
theorem VRowO.grow{w w':World}{row:Option Nat}{g lo:Nat}(hg:w.grownBy w' row)(ha:row=some g∨g=w.heap.size){vs:List Value}{l:List Ver}(h:VRowO w row lo vs l):VRowO w' (some g) lo vs l:=h.imp fun _ _ _ _ h=>h.grow hg ha
theorem VRowO.row{w:World}{row:Option Nat}{lo:Nat}:∀ {vs:List Value} {l:List Ver},VRowO w row lo vs l→VRow w vs l
 | _,[],h=>h
 | _,_::_,⟨A,n,c,rest,h1,h2,h3⟩=>⟨A,n,c,rest,h1,h2.1,h3.row⟩
theorem VRowO.snoc{w:World}{row:Option Nat}{lo:Nat}{v:Ver}{A:Option Addr}{n c:Nat}(hs:SlO w row lo A n c v.kr):∀ {vs:List Value} {l:List Ver},VRowO w row lo vs l→VRowO w row lo (vs++v.vals (.slice A n c)) (l++[v])
 | vs,[],h=>⟨A,n,c,[],by rw[show vs=[]from h];simp,hs,rfl⟩
 | _,_::_,⟨A',n',c',rest,h1,h2,h3⟩=>⟨A',n',c',rest++v.vals (.slice A n c),by rw[h1,List.append_assoc],h2,h3.snoc hs⟩
theorem VRowO.get{w:World}{row:Option Nat}{lo:Nat}:∀ {vs:List Value} {l:List Ver} {k:Nat} {v:Ver},VRowO w row lo vs l→l[k]? =some v→∃ A n c,SlO w row lo A n c v.kr∧∀ j u,(v.vals (.slice A n c))[j]? =some u→vs[k * 18+j]? =some u
 | _,[],_,_,_,hk=>by simp at hk
 | _,v'::l,0,v,⟨A,n,c,rest,h1,h2,h3⟩,hk=>by
  simp only[List.getElem?_cons_zero,Option.some.injEq]at hk;subst hk;refine⟨A,n,c,h2,fun j u hu=>?_⟩;have hj:=(List.getElem?_eq_some_iff.1 hu).1;rw[h1,Nat.zero_mul,Nat.zero_add,List.getElem?_append_left hj];exact hu
 | _,v'::l,k+1,v,⟨A,n,c,rest,h1,h2,h3⟩,hk=>by
  obtain⟨A',n',c',h4,h5⟩:=h3.get (k:=k) (by simpa using hk);refine⟨A',n',c',h4,fun j u hu=>?_⟩;rw[h1,List.getElem?_append_right (by rw[Ver.vals_length];omega),Ver.vals_length,show (k+1) * 18+j - 18=k * 18+j from by omega];exact h5 j u hu
theorem VRowO.len{w w':World}{base m lo:Nat}{row:Option Nat}{T:TypeId}{s:Value}{vs:List Value}{l:List Ver}(hr:VRowO w row lo vs l)(h:w'.ownsRow base T 18 s m vs):m=l.length:=hr.row.len h
set_option maxRecDepth 100000
set_option maxHeartbeats 4000000
def RetAll(l:List Ver)(w:World)(e:Ending)(w':World):Prop:=∃ rv vs,e=.returned rv∧w'.ownsRow w.heap.size 35 18 rv l.length vs∧VRowO w' rv.ownBlock w.heap.size vs l∧Below w.heap.size w w'
theorem ky_all(l:List Ver)(A:Option Addr)(len cap:Nat)(w:World)(hs:SlV w A len cap l)(hlen:len≤4096)(hfw:FwV l):Calls Tryz.prog 24 #[.slice A len cap] w (RetAll l w):=by
 have HS:=Hq hs;have HLEN:=Hq hs.1;have HFW:=Hq hfw;have hcap:=hs.2.1;have hcap2:=hs.2.2.1;clear hs hfw;go_enter Tryz.func24,Tryz.ntmps24;go_wp2;go_loopw [3,8] (fun s i wr=>∃(j:Nat) (vs:List Value),j≤len∧i=.int .i64 j∧wr.ownsRow w.heap.size 35 18 s j vs∧VRowO wr s.ownBlock w.heap.size vs (l.take j)∧Below w.heap.size w wr) (fun _ i _=>len - (intOf i).toNat);case atStart=>exact⟨0,[],Nat.zero_le _,rfl,World.ownsRow_nil _ _ _ _,rfl,Below.refl _ _⟩
 case round =>
  obtain⟨j,vs,hj,rfl,hown,hvr,hbb⟩:=hrel;have HB:=Hq hbb;have HOWN:=Hq hown;have HVR:=Hq hvr;have HSR:=Hq (HS.out.kept hbb (Nat.le_refl _));clear hbb hown hvr;by_cases hlt:j<len
  · obtain⟨b,o,rfl⟩:=HS.out.head (by omega);obtain⟨v,he⟩:∃ v,l[j]? =some v:=⟨_,List.getElem?_eq_getElem (by rw[HLEN.out];exact hlt)⟩;obtain⟨A1,n1,c1,hvc,hsl⟩:=HSR.out.get? j he;have HSL:=Hq hsl;have HE:=Hq he;have HRA:=Hq (show wr.rangeAt b (o+j * 18) (v.vals (.slice A1 n1 c1))from hvc);have HSZ:=Hq (show (Tryz.prog.info? 35).map (·.size)=some (v.vals (.slice A1 n1 c1)).length from by kernel_rfl);have HON:=Hq (v.arr_one (A:=A1) (n:=n1) (c:=c1));obtain⟨cs,hcs⟩:∃ cs,v.arr (.slice A1 n1 c1)=cs:=⟨_,rfl⟩;have HCS:=Hq (show cs.size=18 from by rw[←hcs];rfl);have hva:(v.vals (.slice A1 n1 c1)).toArray=cs:=hcs;rw[hcs]at HON;have HVA:=Hq hcs;clear hvc he hcs hsl;go_upto_region 4 with fail
    refine wp_region_lit ?_;iterate 3 go_step
    refine wpList_load_mid rfl 35 _ rfl b (o+j * 18) rfl _ _ HRA.out Tryz.underlying35 rfl HSZ.out ?_;rw[hva];clear hva;refine Great.wpList_allocTo rfl _ rfl (.pointer (some ⟨wr.heap.size,0,none⟩)) (.cells (ver0.arr (.slice none 0 0)) 35) (by kernel_rfl) ?_;refine wpList_store_rowTo rfl 35 _ _ rfl rfl wr.heap.size cs rfl rfl 35 (ver0.arr (.slice none 0 0)) (BxC.new wr _ _) (by rw[HCS.out];kernel_rfl) (by rw[HCS.out];rfl) HON.out ?_;have HX:=Hq (box_row wr (ver0.arr (.slice none 0 0)) cs 35);have HW:=Hq (box_below wr (ver0.arr (.slice none 0 0)) cs 35);obtain⟨w2,hw2⟩:∃ w2,(wr.alloc (.cells (ver0.arr (.slice none 0 0)) 35)).setRow wr.heap.size cs=w2:=⟨_,rfl⟩;rw[hw2]at HX HW⊢;clear hw2;have HCO:=Hq (show Calls Tryz.prog 25 #[.agg cs] w2 (RetVV v w2)from by
     rw[←HVA.out]
     exact ky_copied v A1 n1 c1 w2 (HSL.out.kept HW.out (Nat.le_refl _)) (by rw[←HSL.out.1];exact HFW.out j v HE.out))
    go_upto_region 5 with fail
    refine wp_region_lit ?_;iterate 3 go_step
    refine wpList_load_row rfl 35 _ rfl wr.heap.size rfl 35 cs (0,0) _ HX.out Tryz.underlying35 rfl (by rw[HCS.out];kernel_rfl) ?_;go_wp2_with fail;refine HCO.out.mono ?_;rintro ev w3 ⟨A2,n2,c2,rfl,⟨B2,hB2,hown2⟩,hb3⟩;have hww:wr.heap.size≤w2.heap.size:=HW.out.size;have HB3:=Hq (HW.out.trans (hb3.mono hww));have HBB3:=Hq (HB.out.trans (HB3.out.mono HB.out.size));have HO3:=Hq ((owns_kept HOWN.out HB3.out (Nat.le_refl _)).alloc (.cells (v.arr (.slice A2 n2 c2)) 35));have HLT:=Hq (fun k (e:u3.ownBlock=some k)=>(HOWN.out.lt k e).2);obtain⟨hl4,A4,c4,e4,hs4⟩:=SlN.of_owns hown2;cases e4;have HSO:=Hq (show SlO w3 u3.ownBlock w.heap.size A2 n2 c2 v.kr from⟨hs4,fun hn a e=>by
     have h2:=(hown2.lt a.block (by rw[e];rfl)).1;have h3:=HB.out.size
     exact⟨fun h=>by have h1:=HLT.out _ h;omega,by omega⟩⟩)
    have HVR3:=Hq (show VRowO (w3.alloc (.cells (v.arr (.slice A2 n2 c2)) 35)) u3.ownBlock w.heap.size (vs++v.vals (.slice A2 n2 c2)) (l.take (j+1))from by
     rw[List.take_add_one,HE.out,Option.toList_some]
     exact VRowO.kept ((Below.refl _ _).alloc (Nat.le_refl _) _) (Nat.le_refl _) ((HVR.out.kept HB3.out (Nat.le_refl _)).snoc HSO.out))
    clear hb3 hown2 hs4 hl4 hB2 hww;rw[show v.val (.slice A2 n2 c2)=.agg (v.arr (.slice A2 n2 c2))from rfl];dsimp only;iterate 1 go_step
    refine wpList_build_ver rfl _ rfl v A2 n2 c2 rfl ?_;obtain⟨i0,hi,iz0,iz1,iz2⟩:=info_parts ver_info;refine wpList_append_lies _ rfl (.tmp 12) (.tmp 15) 40 rfl w.heap.size 35 i0 _ 18 272 Tryz.underlying40 hi iz0 iz1 iz2 rfl (by decide) u3 j vs rfl HO3.out ⟨w3.heap.size,0,none⟩ 1 1 (v.vals (.slice A2 n2 c2)) rfl rfl (World.news_of_block (heap_alloc_new w3 (.cells (v.arr (.slice A2 n2 c2)) 35))) v.one (by decide) (by unfold maxLen;omega) (by omega) (by have:=HBB3.out.size;simp;omega) _ rfl ?_;intro g cap7 w7 hown7 hgrow7 hat7 hlt7;have HO7:=Hq hown7;have HVR7:=Hq (HVR3.out.grow hgrow7 hat7);have HB7:=Hq ((HBB3.out.alloc HBB3.out.size _).grown hgrow7 (by have:=HBB3.out.size;simp;omega) (fun k hk=>(HO3.out.lt k hk).1));clear hown7 hgrow7 hat7 hlt7 hi iz0 iz1 iz2;go_wp2;go_roundw;case rel=>exact⟨j+1,_,by omega,by go_num,HO7.out,HVR7.out,HB7.out⟩
    case measure=>simp[intOf];omega
  · obtain rfl:j=len:=by omega
    have HO:=Hq (show wr.ownsRow w.heap.size 35 18 u3 l.length vs from by rw[HLEN.out];exact HOWN.out);have HV:=Hq (show VRowO wr u3.ownBlock w.heap.size vs l from by have:=HVR.out;rw[←HLEN.out,List.take_length]at this;exact this);clear hlt hj;go_wp2;go_ret;exact⟨u3,vs,rfl,HO.out,HV.out,HB.out⟩
set_option maxRecDepth 100000
set_option maxHeartbeats 4000000
def kletB(c:Int):Bool:=decide (97≤c)&&decide (c≤122)||decide (65≤c)&&decide (c≤90)
def kgoodB(i:Nat)(c:Int):Bool:=kletB c||(decide (i≠0)&&(decide (c=95)||(decide (48≤c)&&decide (c≤57))))
def kbyte(s:ByteArray)(k:Nat):Int:=((s.data.toList.getD k 0).toNat:Int)
theorem kbyte_get(s:ByteArray)(k:Nat)(h:k<s.size):kbyte s k=(s[k].toNat:Int):=by unfold kbyte;rw[data_getD s k h]
def knameB(s:ByteArray):Bool:=((List.range s.size).all fun i=>kgoodB i (kbyte s i))&&(decide (s.size≠0)&&decide (s.size≤32))
theorem kname_no{s:ByteArray}{k:Nat}(hk:k<s.size)(h:kgoodB k (kbyte s k)=false):knameB s=false:=by
 have : ((List.range s.size).all fun i=>kgoodB i (kbyte s i))=false:=(by rw[List.all_eq_false];exact⟨k,List.mem_range.2 hk,by simp[h]⟩);unfold knameB;rw[this];rfl
theorem kname_end{s:ByteArray}(h:∀ j,j<s.size→kgoodB j (kbyte s j)=true):knameB s=(decide (s.size≠0)&&decide (s.size≤32)):=by
 have : ((List.range s.size).all fun i=>kgoodB i (kbyte s i))=true:=(by rw[List.all_eq_true];intro i hi;exact h i (List.mem_range.1 hi));unfold knameB;rw[this,Bool.true_and]
theorem kcases(c:Int):(97≤c∧c≤122)∨(65≤c∧c≤90)∨122<c∨(90<c∧c<97)∨c<65:=by omega
theorem ky_isName(s:ByteArray)(w:World)(hs:s.size≤9223372036854775807):Calls Tryz.prog 32 #[.string s] w (RetQ (.bool (knameB s)) w):=by
 go_enter Tryz.func32,Tryz.ntmps32;go_wp2
 go_loop [8] (fun i=>∃ k:Nat,k≤s.size∧i=.int .i64 k∧∀ j,j<k→kgoodB j (kbyte s j)=true) (fun i=>s.size - (intOf i).toNat)
 case atStart=>exact⟨0,Nat.zero_le _,rfl,fun j hj=>absurd hj (by omega)⟩
 case round =>
  obtain⟨k,hk,rfl,hall⟩:=hrel;have HALL:=Hq hall;clear hall;by_cases hlt:k<s.size
  · have hkb:=kbyte_get s k hlt;have hcb:0≤kbyte s k:=by rw[hkb];omega
    obtain⟨c,hc⟩:∃ c:Int,(s[k].toNat:Int)=c:=⟨_,rfl⟩;rw[hc]at hkb;have HKB:=Hq hkb;rw[hkb]at hcb;have hmk:∀ b,kgoodB k c=b→kgoodB k (kbyte s k)=b:=fun b h=>by rw[HKB.out];exact h
    clear hkb;rcases kcases c with⟨c1,c2⟩ | ⟨c1,c2⟩ | c1 | ⟨c1,c2⟩ | c1
    · skip;have e0:(97≤c)=True:=eq_true (by omega);have e1:(c≤122)=True:=eq_true (by omega);have e2:(65≤c)=True:=eq_true (by omega);have e3:(c≤90)=False:=eq_false (by omega);have e4:(c<48)=False:=eq_false (by omega);have e5:(57<c)=True:=eq_true (by omega);have HG:=Hq (hmk true (by simp[kgoodB,kletB];omega));clear hmk hcb c1 c2;go_wp2;go_round;case rel=>exact⟨k+1,by omega,by go_num,fun j hj=>(by rcases Nat.lt_succ_iff_lt_or_eq.1 hj with h | h;exact HALL.out j h;subst h;exact HG.out)⟩
      case measure=>simp[intOf];omega
    · skip;have e0:(97≤c)=False:=eq_false (by omega);have e1:(c≤122)=True:=eq_true (by omega);have e2:(65≤c)=True:=eq_true (by omega);have e3:(c≤90)=True:=eq_true (by omega);have e4:(c<48)=False:=eq_false (by omega);have e5:(57<c)=True:=eq_true (by omega);have HG:=Hq (hmk true (by simp[kgoodB,kletB];omega));clear hmk hcb c1 c2;go_wp2;go_round;case rel=>exact⟨k+1,by omega,by go_num,fun j hj=>(by rcases Nat.lt_succ_iff_lt_or_eq.1 hj with h | h;exact HALL.out j h;subst h;exact HG.out)⟩
      case measure=>simp[intOf];omega
    · skip;by_cases hk0:k=0
      · subst hk0;have e0:(97≤c)=True:=eq_true (by omega);have e1:(c≤122)=False:=eq_false (by omega);have e2:(65≤c)=True:=eq_true (by omega);have e3:(c≤90)=False:=eq_false (by omega);have e4:(c<48)=False:=eq_false (by omega);have e5:(57<c)=True:=eq_true (by omega);have e8:(c != 95)=true:=by simp;omega
        have HG:=Hq (hmk false (by simp[kgoodB,kletB];omega));clear hmk hcb c1;have HF:=Hq (kname_no hlt HG.out);go_wp2;go_ret;exact⟨by rw[HF.out];rfl,rfl⟩
      · skip;have e0:(97≤c)=True:=eq_true (by omega);have e1:(c≤122)=False:=eq_false (by omega);have e2:(65≤c)=True:=eq_true (by omega);have e3:(c≤90)=False:=eq_false (by omega);have e4:(c<48)=False:=eq_false (by omega);have e5:(57<c)=True:=eq_true (by omega);have e8:(c != 95)=true:=by simp;omega
        have e9:((k:Int)==0)=false:=by simp;omega
        have HG:=Hq (hmk false (by simp[kgoodB,kletB];omega));clear hmk hcb c1 hk0;have HF:=Hq (kname_no hlt HG.out);go_wp2;go_ret;exact⟨by rw[HF.out];rfl,rfl⟩
    · skip;by_cases hk0:k=0
      · subst hk0;have e0:(97≤c)=False:=eq_false (by omega);have e1:(c≤122)=True:=eq_true (by omega);have e2:(65≤c)=True:=eq_true (by omega);have e3:(c≤90)=False:=eq_false (by omega);have e4:(c<48)=False:=eq_false (by omega);have e5:(57<c)=True:=eq_true (by omega);have HG:=Hq (hmk false (by simp[kgoodB,kletB];omega));clear hmk hcb c1 c2;have HF:=Hq (kname_no hlt HG.out);go_wp2;go_ret;exact⟨by rw[HF.out];rfl,rfl⟩
      · skip;by_cases c3:c=95
        · skip;have e0:(97≤c)=False:=eq_false (by omega);have e1:(c≤122)=True:=eq_true (by omega);have e2:(65≤c)=True:=eq_true (by omega);have e3:(c≤90)=False:=eq_false (by omega);have e4:(c<48)=False:=eq_false (by omega);have e5:(57<c)=True:=eq_true (by omega);have e8:(c != 95)=false:=by simp;omega
          have e9:((k:Int)==0)=false:=by simp;omega
          have HG:=Hq (hmk true (by simp[kgoodB,kletB];omega));clear hmk hcb c1 c2 c3 hk0;go_wp2;go_round;case rel=>exact⟨k+1,by omega,by go_num,fun j hj=>(by rcases Nat.lt_succ_iff_lt_or_eq.1 hj with h | h;exact HALL.out j h;subst h;exact HG.out)⟩
          case measure=>simp[intOf];omega
        · skip;have e0:(97≤c)=False:=eq_false (by omega);have e1:(c≤122)=True:=eq_true (by omega);have e2:(65≤c)=True:=eq_true (by omega);have e3:(c≤90)=False:=eq_false (by omega);have e4:(c<48)=False:=eq_false (by omega);have e5:(57<c)=True:=eq_true (by omega);have e8:(c != 95)=true:=by simp;omega
          have e9:((k:Int)==0)=false:=by simp;omega
          have HG:=Hq (hmk false (by simp[kgoodB,kletB];omega));clear hmk hcb c1 c2 c3 hk0;have HF:=Hq (kname_no hlt HG.out);go_wp2;go_ret;exact⟨by rw[HF.out];rfl,rfl⟩
    · skip;by_cases hk0:k=0
      · subst hk0;have e0:(97≤c)=False:=eq_false (by omega);have e1:(c≤122)=True:=eq_true (by omega);have e2:(65≤c)=False:=eq_false (by omega);have e3:(c≤90)=True:=eq_true (by omega);have e8:(c != 95)=true:=by simp;omega
        have HG:=Hq (hmk false (by simp[kgoodB,kletB];omega));clear hmk hcb c1;have HF:=Hq (kname_no hlt HG.out);go_wp2;go_ret;exact⟨by rw[HF.out];rfl,rfl⟩
      · skip;by_cases c3:c<48
        · skip;have e0:(97≤c)=False:=eq_false (by omega);have e1:(c≤122)=True:=eq_true (by omega);have e2:(65≤c)=False:=eq_false (by omega);have e3:(c≤90)=True:=eq_true (by omega);have e4:(c<48)=True:=eq_true (by omega);have e5:(57<c)=False:=eq_false (by omega);have e8:(c != 95)=true:=by simp;omega
          have e9:((k:Int)==0)=false:=by simp;omega
          have HG:=Hq (hmk false (by simp[kgoodB,kletB];omega));clear hmk hcb c1 c3 hk0;have HF:=Hq (kname_no hlt HG.out);go_wp2;go_ret;exact⟨by rw[HF.out];rfl,rfl⟩
        · by_cases c4:c≤57
          · skip;have e0:(97≤c)=False:=eq_false (by omega);have e1:(c≤122)=True:=eq_true (by omega);have e2:(65≤c)=False:=eq_false (by omega);have e3:(c≤90)=True:=eq_true (by omega);have e4:(c<48)=False:=eq_false (by omega);have e5:(57<c)=False:=eq_false (by omega);have e8:(c != 95)=true:=by simp;omega
            have e9:((k:Int)==0)=false:=by simp;omega
            have HG:=Hq (hmk true (by simp[kgoodB,kletB];omega));clear hmk hcb c1 c3 c4 hk0;go_wp2;go_round;case rel=>exact⟨k+1,by omega,by go_num,fun j hj=>(by rcases Nat.lt_succ_iff_lt_or_eq.1 hj with h | h;exact HALL.out j h;subst h;exact HG.out)⟩
            case measure=>simp[intOf];omega
          · skip;have e0:(97≤c)=False:=eq_false (by omega);have e1:(c≤122)=True:=eq_true (by omega);have e2:(65≤c)=False:=eq_false (by omega);have e3:(c≤90)=True:=eq_true (by omega);have e4:(c<48)=False:=eq_false (by omega);have e5:(57<c)=True:=eq_true (by omega);have e8:(c != 95)=true:=by simp;omega
            have e9:((k:Int)==0)=false:=by simp;omega
            have HG:=Hq (hmk false (by simp[kgoodB,kletB];omega));clear hmk hcb c1 c3 c4 hk0;have HF:=Hq (kname_no hlt HG.out);go_wp2;go_ret;exact⟨by rw[HF.out];rfl,rfl⟩
  · obtain rfl:k=s.size:=by omega
    have HE:=Hq (kname_end HALL.out);clear hlt hk;by_cases h0:s.size=0
    · have e0:=sempty_true h0;have HF:=Hq (show knameB s=false from by rw[HE.out,decide_eq_false (show ¬ s.size≠0 by simp[h0])];rfl);clear h0;go_wp2;go_ret;exact⟨by rw[HF.out];rfl,rfl⟩
    · have e0:=sempty_false (show 0<s.size by omega);by_cases h1:s.size≤32
      · have HF:=Hq (show knameB s=true from by rw[HE.out,decide_eq_true h0,decide_eq_true h1];rfl);have hd:decide ((s.size:Int)≤32)=true:=decide_eq_true (by omega);clear h0;go_wp2;go_ret;exact⟨by rw[HF.out];rfl,rfl⟩
      · have HF:=Hq (show knameB s=false from by rw[HE.out,decide_eq_false h1,Bool.and_false]);have hd:decide ((s.size:Int)≤32)=false:=decide_eq_false (by omega);clear h0;go_wp2;go_ret;exact⟨by rw[HF.out];rfl,rfl⟩
end Go.Proofs.YtamhonjkgkmdbaaGreatDoor

import Derived.Test.YtmahgbhpdfbbjaaGreatDoorQRdy
import Derived.Shelf.SlSortCmp.Whole1
set_option linter.unusedVariables false
set_option linter.unusedSimpArgs false
namespace Go.Proofs.YtmahgbhpdfbbjaaGreatDoor
open Go.RowKit
def BxC(W:World)(B:Nat)(cs:Array Value)(T:TypeId):Prop:=W.heap[B]? =some (.cells cs T (0,0))
theorem BxC.new(W:World)(cs:Array Value)(T:TypeId):BxC (W.alloc (.cells cs T)) W.heap.size cs T:=heap_alloc_new _ _
theorem BxC.kept{W W':World}{K B:Nat}{cs:Array Value}{T:TypeId}(h:BxC W B cs T)(hb:Below K W W')(hB:B<K):BxC W' B cs T:=(hb.block B hB).trans h
theorem BxC.lt{W:World}{B:Nat}{cs:Array Value}{T:TypeId}(h:BxC W B cs T):B<W.heap.size:=block_lt h
theorem BxC.next{W W':World}{B:Nat}{cs:Array Value}{T:TypeId}(h:BxC W B cs T)(hb:Below W.heap.size W W'):BxC W' B cs T:=h.kept hb h.lt
theorem BxC.cell{W:World}{B:Nat}{cs:Array Value}{T:TypeId}(h:BxC W B cs T)(k:Nat):W.cell? ⟨B,k,none⟩=cs[k]?:=by
 rw[Lib.cell_of_heap h]
theorem BxC.free{W:World}{B:Nat}{cs:Array Value}{T:TypeId}(h:BxC W B cs T)(k:Nat):W.frozen? ⟨B,k,none⟩=false:=Lib.frozen_of_heap h k
theorem BxC.set{W:World}{B k:Nat}{cs:Array Value}{T:TypeId}(h:BxC W B cs T)(u:Value):BxC (W.setCell ⟨B,k,none⟩ u) B (cs.setIfInBounds k u) T:=block_setCell h u
theorem BxC.other{W:World}{B C k:Nat}{cs:Array Value}{T:TypeId}(h:BxC W B cs T)(hne:B≠C)(u:Value):BxC (W.setCell ⟨C,k,none⟩ u) B cs T:=(heap_setCell_other _ _ _ _ hne).trans h
theorem BxC.alloc{W:World}{B:Nat}{cs:Array Value}{T:TypeId}(h:BxC W B cs T)(o:Obj):BxC (W.alloc o) B cs T:=h.kept ((blr).alloc nlr o) h.lt
theorem BxC.new1(W:World)(cs:Array Value)(T:TypeId)(o:Obj):BxC ((W.alloc o).alloc (.cells cs T)) (W.heap.size+1) cs T:=by
 have:=BxC.new (W.alloc o) cs T;rwa[World.size_alloc]at this
structure Dl where
 fr:Int
 «to» : Int
 ad:List ByteArray
 rm:List ByteArray
 be:ByteArray
 af:ByteArray
 sc:ByteArray
 sr:ByteArray
def Dl.arr(d:Dl)(a r:Value):Array Value:=#[.int .i64 d.fr,.int .i64 d.to,a,r,.string d.be,.string d.af,.string d.sc,.string d.sr]
def Dl.okN(d:Dl):Bool:=(d.ad++d.rm++[d.be,d.af]).all nvalid
def Dl.rng(d:Dl):Prop:=d.fr<0∨d.to≤d.fr∨4096<d.to
instance (d:Dl):Decidable d.rng:=by unfold Dl.rng;exact inferInstance
def Dl.twice(d:Dl):Bool:=!ascB d.ad || !ascB d.rm||d.ad.any (memB d.rm)
def Dl.low(d:Dl):Bool:=(d.ad++d.rm).any (fun x=>decide (num x<3))
def Dl.form(d:Dl):Int:=if d.okN=false then 3 else if d.rng then 2 else if d.twice=true then 8 else if d.low=true then 2 else 0
def SzL(l:List ByteArray):Prop:=∀ s∈l,s.size≤9223372036854775807
def Dl.str(d:Dl):List ByteArray:=d.ad++d.rm++[d.be,d.af,d.sc,d.sr]
theorem three_num:num ⟨#[3]⟩=3:=by decide
theorem three_ok:nvalid ⟨#[3]⟩=true:=by decide
theorem Dl.form_N{d:Dl}(h:d.okN=false):d.form=3:=by unfold Dl.form;rw[if_pos h]
theorem Dl.form_R{d:Dl}(h:d.okN=true)(h1:d.rng):d.form=2:=by unfold Dl.form;rw[if_neg (by rw[h];decide),if_pos h1]
theorem Dl.form_T{d:Dl}(h:d.okN=true)(h1:¬ d.rng)(h2:d.twice=true):d.form=8:=by unfold Dl.form;rw[if_neg (by rw[h];decide),if_neg h1,if_pos h2]
theorem Dl.form_L{d:Dl}(h:d.okN=true)(h1:¬ d.rng)(h2:d.twice=false)(h3:d.low=true):d.form=2:=by unfold Dl.form;rw[if_neg (by rw[h];decide),if_neg h1,if_neg (by rw[h2];decide),if_pos h3]
theorem Dl.form_0{d:Dl}(h:d.okN=true)(h1:¬ d.rng)(h2:d.twice=false)(h3:d.low=false):d.form=0:=by unfold Dl.form;rw[if_neg (by rw[h];decide),if_neg h1,if_neg (by rw[h2];decide),if_neg (by rw[h3];decide)]
theorem Dl.okN_no{d:Dl}{j:Nat}{y:ByteArray}(h:(d.ad++d.rm++[d.be,d.af])[j]? =some y)(hv:nvalid y=false):d.okN=false:=by
 cases h1:d.okN with
 | false=>rfl
 | true =>
  have:=List.all_eq_true.1 h1 y (List.mem_of_getElem? h);rw[hv]at this;cases this
theorem Dl.okN_all{d:Dl}(h:∀(i:Nat) y,(d.ad++d.rm++[d.be,d.af])[i]? =some y→nvalid y=true):d.okN=true:=by
 refine List.all_eq_true.2 (fun y hy=>?_);obtain⟨i,hi⟩:=List.getElem?_of_mem hy;exact h i y hi
theorem Dl.okN_mem{d:Dl}(h:d.okN=true){y:ByteArray}(hy:y∈d.ad++d.rm++[d.be,d.af]):nvalid y=true:=List.all_eq_true.1 h y hy
theorem Dl.okN_ad{d:Dl}(h:d.okN=true):∀ y∈d.ad,nvalid y=true:=fun y hy=>d.okN_mem h (by simp[hy])
theorem Dl.okN_rm{d:Dl}(h:d.okN=true):∀ y∈d.rm,nvalid y=true:=fun y hy=>d.okN_mem h (by simp[hy])
theorem Dl.twice_ad{d:Dl}(h:ascB d.ad=false):d.twice=true:=by unfold Dl.twice;rw[h];rfl
theorem Dl.twice_rm{d:Dl}(h:ascB d.rm=false):d.twice=true:=by unfold Dl.twice;rw[h];simp
theorem Dl.twice_any{d:Dl}(h:d.ad.any (memB d.rm)=true):d.twice=true:=by unfold Dl.twice;rw[h];simp
theorem Dl.twice_no{d:Dl}(h:ascB d.ad=true)(h1:ascB d.rm=true)(h2:d.ad.any (memB d.rm)=false):d.twice=false:=by unfold Dl.twice;rw[h,h1,h2];rfl
theorem Dl.low_no{d:Dl}(h:∀(i:Nat) y,i<d.ad.length+d.rm.length→(d.ad++d.rm++[d.be,d.af])[i]? =some y→¬ num y<3):d.low=false:=by
 refine any_take (fun i y hi=>decide_eq_false (h i y ?_ ?_))
 · have:=(List.getElem?_eq_some_iff.1 hi).1;simp at this;omega
 · have:=(List.getElem?_eq_some_iff.1 hi).1;rw[List.getElem?_append_left this];exact hi
set_option maxRecDepth 100000
set_option maxHeartbeats 4000000
open Go.RowKit
theorem ep_form(d:Dl)(A A':Option Addr)(n c n' c':Nat)(w:World)(hs:SlN w A n c d.ad)(hs':SlN w A' n' c' d.rm)(hn:n≤400000)(hn':n'≤400000)(hz:SzL d.str):Calls Tryz.prog 87 #[.agg (d.arr (.slice A n c) (.slice A' n' c'))] w (Ret (.int .i64 d.form) w):=by
 obtain⟨W0,hW0⟩:=nm (w.alloc (.cells (d.arr (.slice A n c) (.slice A' n' c')) 50));have HX0:=Hq (show BxC W0 w.heap.size (d.arr (.slice A n c) (.slice A' n' c')) 50 from by rw[←hW0];exact BxC.new w _ _);have HB0:=Hq (show Below w.heap.size w W0 from by rw[←hW0];exact(blr).alloc nlr _);have HW0:=Hq (show w.heap.size+1=W0.heap.size from by rw[←hW0];simp);have HS:=Hq (hs.kept HB0.out nlr);have HS':=Hq (hs'.kept HB0.out nlr);have HZ:=Hq hz;have hc:=hs.2.1;have hc2:=hs.2.2.1;have hc':=hs'.2.1;have hc2':=hs'.2.2.1;have HN:=Hq hs.1;have HN':=Hq hs'.1;have x2:W0.cell? ⟨w.heap.size,2,none⟩=some (.slice A n c):=HX0.out.cell 2;have x3:W0.cell? ⟨w.heap.size,3,none⟩=some (.slice A' n' c'):=HX0.out.cell 3;clear hs hs' hz;unfold Dl.arr at hW0⊢;go_enter Tryz.func87,Tryz.ntmps87;go_wp2_with fail;have HCC:=Hq (sl_Concat d.ad d.rm A A' n c n' c' W0.heap.size (W0.alloc (.cells #[.slice A n c,.slice A' n' c'] 25)) (HS.out.kept ((blr).alloc nlr _) nlr) (HS'.out.kept ((blr).alloc nlr _) nlr) (by omega) (by omega) ((BxC.new W0 _ _).cell 0) ((BxC.new W0 _ _).cell 1));refine HCC.out.mono ?_;rintro e w1 ⟨v1,rfl,hown,hb⟩;obtain⟨hl1,A1,c1,rfl,hs1⟩:=SlN.of_owns hown;have HB1:=Hq (((Below.refl W0.heap.size W0).alloc nlr _).trans (hb.mono (by simp)));have HS1:=Hq hs1;have HX1:=Hq (HX0.out.kept HB1.out HX0.out.lt);have x4:w1.cell? ⟨w.heap.size,4,none⟩=some (.string d.be):=HX1.out.cell 4;have x5:w1.cell? ⟨w.heap.size,5,none⟩=some (.string d.af):=HX1.out.cell 5;have hc1:=hs1.2.1;have hc12:=hs1.2.2.1;clear hown hb hs1 hl1 HCC x2 x3;go_wp2_with fail;have HCC:=Hq (sl_Concat (d.ad++d.rm) [d.be,d.af] A1 (some ⟨w1.heap.size,0,none⟩) (n+n') c1 2 2 (w1.heap.size+1) ((w1.alloc (.cells #[.string d.be,.string d.af] 22)).alloc (.cells #[.slice A1 (n+n') c1,.slice (some ⟨w1.heap.size,0,none⟩) 2 2] 25))
  (HS1.out.kept (((blr).alloc nlr _).alloc (by simp) _) nlr) ((SlN.new w1 [d.be,d.af] 22 (by simp)).kept ((blr).alloc nlr _) nlr) (by omega) (by omega) ((BxC.new1 w1 _ _ _).cell 0) ((BxC.new1 w1 _ _ _).cell 1))
 refine HCC.out.mono ?_;rintro e w3 ⟨v3,rfl,hown,hb⟩;obtain⟨hl3,A3,c3,rfl,hs3⟩:=SlN.of_owns hown;have HL3:=Hq hl3;have HS3:=Hq hs3;have HB13:=Hq (show Below w1.heap.size w1 w3 from(((Below.refl w1.heap.size w1).alloc nlr _).alloc (by simp) _).trans (hb.mono (by simp;omega)));have HB3:=bTr HB1 HB13.out;have HX3:=Hq (HX0.out.kept HB3.out HX0.out.lt);have HS13:=Hq (HS1.out.kept HB13.out nlr);have HBT:=bTr HB0 HB3.out;have HSA:=Hq (HS.out.kept HB3.out nlr);have HSR:=Hq (HS'.out.kept HB3.out nlr);have hc3:=hs3.2.1;have hc32:=hs3.2.2.1;have q0:w3.cell? ⟨w.heap.size,0,none⟩=some (.int .i64 d.fr):=HX3.out.cell 0;have q1:w3.cell? ⟨w.heap.size,1,none⟩=some (.int .i64 d.to):=HX3.out.cell 1;have q2:w3.cell? ⟨w.heap.size,2,none⟩=some (.slice A n c):=HX3.out.cell 2;have q3:w3.cell? ⟨w.heap.size,3,none⟩=some (.slice A' n' c'):=HX3.out.cell 3;clear hown hb hs3 hl3 x4 x5 hW0 HCC;obtain⟨L,hL⟩:=nm (d.ad++d.rm++[d.be,d.af]);rw[hL]at HL3 HS3;have HLE:=Hq hL;have HZL:=Hq (show SzL L from fun s hs=>HZ.out s (by rw[←hL]at hs;unfold Dl.str;simp only[List.mem_append,List.mem_cons,List.mem_nil_iff,or_false]at hs⊢;rcases hs with(h | h) | h | h<;>simp[h]));clear hL;go_wp2
 go_loop [22] (fun k=>∃ j:Nat,j≤n+n'+2∧k=.int .i64 j∧(∀(i:Nat) y,i<j→L[i]? =some y→nvalid y=true)) (fun k=>n+n'+2 - (intOf k).toNat)
 case atStart=>exact⟨0,Nat.zero_le _,rfl,fun i u h=>absurd h (Nat.not_lt_zero _)⟩
 case round =>
  obtain⟨j,hj,rfl,hall⟩:=hrel;have HALL:=Hq hall;clear hall;by_cases hlt:j<n+n'+2
  · obtain⟨y,he⟩:∃ y,L[j]? =some y:=⟨_,List.getElem?_eq_getElem (by rw[HL3.out];exact hlt)⟩;obtain⟨b,o,rfl,e1⟩:=HS3.out.cell he;have hy:=HZL.out y (List.mem_of_getElem? he);have HC:=Hq (nat_Valid y hy w3);have HE:=Hq he;clear he hy;go_wp2_with fail;refine HC.out.mono ?_;rintro e w4 ⟨rfl,rfl⟩
    cases hh:nvalid y with
    | false =>
     have HF:=Hq (Dl.form_N (Dl.okN_no (by rw[HLE.out];exact HE.out) hh));clear hh;go_wp2;go_ret;exact⟨by rw[HF.out];rfl,HBT.out⟩
    | true =>
     have HA2:=Hq (show ∀(i:Nat) u,i<j+1→L[i]? =some u→nvalid u=true from fun i u hi hu=>by
      rcases Nat.lt_or_ge i j with h | h
      · exact HALL.out i u h hu
      · obtain rfl:i=j:=by omega
        rw[HE.out]at hu;cases hu;exact hh)
     clear hh;go_wp2;go_round;case rel=>exact⟨j+1,by omega,by go_num,HA2.out⟩
     case measure=>simp[intOf];omega
  · obtain rfl:j=n+n'+2:=by omega
    have HOK:=Hq (show d.okN=true from Dl.okN_all (fun i y h=>HALL.out i y (by rw[HLE.out]at h;have:=(List.getElem?_eq_some_iff.1 h).1;have:=HL3.out;omega) (by rw[←HLE.out];exact h)));clear hlt hj;by_cases h1:d.fr<0
    · have HF:=Hq (Dl.form_R HOK.out (.inl h1));have g1:decide (d.fr<0)=true:=decide_eq_true h1;go_wp2;go_ret;exact⟨by rw[HF.out];rfl,HBT.out⟩
    · have g1:decide (d.fr<0)=false:=decide_eq_false h1;by_cases h2:d.to≤d.fr
      · have HF:=Hq (Dl.form_R HOK.out (.inr (.inl h2)));have g2:decide (d.to≤d.fr)=true:=decide_eq_true h2;go_wp2;go_ret;exact⟨by rw[HF.out];rfl,HBT.out⟩
      · have g2:decide (d.to≤d.fr)=false:=decide_eq_false h2;by_cases h3:4096<d.to
        · have HF:=Hq (Dl.form_R HOK.out (.inr (.inr h3)));have g3:decide (4096<d.to)=true:=decide_eq_true h3;go_wp2;go_ret;exact⟨by rw[HF.out];rfl,HBT.out⟩
        · have g3:decide (4096<d.to)=false:=decide_eq_false h3;have HNR:=Hq (show ¬ d.rng from fun h=>by rcases h with h | h | h<;>contradiction);go_wp2_with fail;refine(ep_ascends d.ad A n c w3 HSA.out (Dl.okN_ad HOK.out)).mono ?_;rintro e w4 ⟨rfl,hb⟩;have HB4:=Hq hb;have HBU:=bTr HBT hb;have r3:w4.cell? ⟨w.heap.size,3,none⟩=some (.slice A' n' c'):=kc hb q3;have r2:w4.cell? ⟨w.heap.size,2,none⟩=some (.slice A n c):=kc hb q2;clear hb
          cases ha:ascB d.ad with
          | false =>
           have HF:=Hq (Dl.form_T HOK.out HNR.out (Dl.twice_ad ha));clear ha;go_wp2;go_ret;exact⟨by rw[HF.out];rfl,HBU.out⟩
          | true =>
           have HA:=Hq ha;clear ha;go_wp2_with fail;refine(ep_ascends d.rm A' n' c' w4 (HSR.out.kept HB4.out nlr) (Dl.okN_rm HOK.out)).mono ?_;rintro e w5 ⟨rfl,hb⟩;have HB5:=bTr HB4 hb;have HBV:=bTr HBT HB5.out;clear hb r3 r2
           cases ha:ascB d.rm with
           | false =>
            have HF:=Hq (Dl.form_T HOK.out HNR.out (Dl.twice_rm ha));clear ha;go_wp2;go_ret;exact⟨by rw[HF.out];rfl,HBV.out⟩
           | true =>
            have HR:=Hq ha;have r2:w5.cell? ⟨w.heap.size,2,none⟩=some (.slice A n c):=kc HB5.out q2;clear ha h1 h2 h3 g1 g2 g3;go_wp2_with fail;refine(sl_ContainsFunc1 d.ad A n c w.heap.size (memB d.rm) w5 (HSA.out.kept HB5.out nlr) (fun x hx W hW=>ep_form1 x w.heap.size d.rm A' n' c' W (cell_kept (HB5.out.trans (hW.mono HB5.out.size)) nlr q3) (HSR.out.kept (HB5.out.trans (hW.mono HB5.out.size)) nlr))).mono ?_;rintro e w6 ⟨rfl,hb⟩;have HB6:=bTr HB5 hb;have HBX:=bTr HBT HB6.out;clear hb r2
            cases ha:d.ad.any (memB d.rm)with
            | true =>
             have HF:=Hq (Dl.form_T HOK.out HNR.out (Dl.twice_any ha));clear ha;go_wp2;go_ret;exact⟨by rw[HF.out];rfl,HBX.out⟩
            | false =>
             have HT:=Hq (show d.twice=false from Dl.twice_no HA.out HR.out ha);clear ha;go_wp2_with fail;refine(nat_Of 3 (by decide) w6).mono ?_;rintro e w7 ⟨rfl,hb⟩;rw[show bstr (encN 3)=⟨#[3]⟩from by decide];have HB7:=bTr HB6 hb;clear hb;go_wp2_with fail;have HP:=Hq (sl_ContainsFunc2 (d.ad++d.rm) A1 (n+n') c1 w7.heap.size (fun x=>decide (num x<3)) (w7.alloc (.cells #[.string ⟨#[3]⟩] 22)) (HS13.out.kept (HB7.out.alloc HB7.out.size _) nlr) (fun x hx W hW=>by
              have h:=ep_form2 x w7.heap.size ⟨#[3]⟩ W (((BxC.new w7 #[.string ⟨#[3]⟩] 22).kept hW (by simp)).cell 0) (Dl.okN_mem HOK.out (by simp only[List.mem_append]at hx⊢;exact .inl hx)) three_ok
              rwa[three_num]at h))
             refine HP.out.mono ?_;rintro e w8 ⟨rfl,hb⟩;have HBY:=Hq (HBT.out.trans (((HB7.out.alloc HB7.out.size _).trans (hb.mono (by have:=HB7.out.size;simp;omega))).mono HBT.out.size));clear hb;have HLO:=Hq (show (d.ad++d.rm).any (fun x=>decide (num x<3))=d.low from rfl);rw[HLO.out]
             cases ha:d.low with
             | true =>
              have HF:=Hq (Dl.form_L HOK.out HNR.out HT.out ha);clear ha;go_wp2;go_ret;exact⟨by rw[HF.out];rfl,HBY.out⟩
             | false =>
              have HF:=Hq (Dl.form_0 HOK.out HNR.out HT.out ha);clear ha;go_wp2;go_ret;exact⟨by rw[HF.out];rfl,HBY.out⟩
set_option maxRecDepth 100000
set_option maxHeartbeats 4000000
open Go.RowKit Go.Shelf
def txt(a:ByteArray):It:=.mk 1 ⟨#[]⟩ a []
def lstI(l:List It):It:=.mk 2 ⟨#[]⟩ ⟨#[]⟩ l
def Dl.it(d:Dl):It:=lstI [txt ⟨#[100,101,108,116,97]⟩,natIt (bstr (encN d.fr.toNat)),natIt (bstr (encN d.to.toNat)),lstI (d.ad.map natIt),lstI (d.rm.map natIt),natIt d.be,natIt d.af]
def Dl.msg(d:Dl):ByteArray×Int:=if d.form=0 then encS d.it else(⟨#[]⟩,d.form)
theorem Dl.form_ok{d:Dl}(h:d.form=0):d.okN=true∧¬ d.rng∧d.twice=false∧d.low=false:=by
 unfold Dl.form at h;split at h
 · cases h
 · split at h
   · cases h
   · split at h
     · cases h
     · split at h
       · cases h
       · rename_i h1 h2 h3 h4;exact⟨by simpa using h1,h2,by simpa using h3,by simpa using h4⟩
theorem below_allocE{W W':World}{o:Obj}(h:W'=W.alloc o):Below W.heap.size W W':=by rw[h];exact(blr).alloc nlr _
theorem bxc_alloc{W W':World}{cs:Array Value}{T:TypeId}(h:W'=W.alloc (.cells cs T)):BxC W' W.heap.size cs T:=by rw[h];exact BxC.new _ _ _
theorem natIt_weight(l:List ByteArray)(h:∀ s∈l,s.size≤128):Its.weight (l.map natIt)≤l.length * 139:=by
 induction l with
 | nil=>simp[Its.weight]
 | cons a l ih =>
  have h1:=ih (fun s hs=>h s (List.mem_cons_of_mem _ hs));have h2:=h a List.mem_cons_self;have e1:(⟨#[]⟩:ByteArray).size=0:=rfl;simp only[List.map_cons,Its.weight,natIt,It.weight,List.length_cons]at h1⊢;omega
theorem Dl.it_weight{d:Dl}(h:d.form=0)(hn:d.ad.length≤400000)(hn':d.rm.length≤400000):d.it.weight≤1000000000∧Its.nodes d.it.list≤1000000000000:=by
 obtain⟨hv,hr,_⟩:=d.form_ok h;have g1:=natIt_weight d.ad (fun s h=>size_valid (d.okN_ad hv s h));have g2:=natIt_weight d.rm (fun s h=>size_valid (d.okN_rm hv s h));have g3:=size_valid (d.okN_mem hv (y:=d.be) (by simp));have g4:=size_valid (d.okN_mem hv (y:=d.af) (by simp));have e0:(⟨#[]⟩:ByteArray).size=0:=rfl;have e1:(⟨#[100,101,108,116,97]⟩:ByteArray).size=5:=rfl;have h1:d.fr.toNat≤4096:=by unfold Dl.rng at hr;omega
 have h2:d.to.toNat≤4096:=by unfold Dl.rng at hr;omega
 have n1:(encN d.fr.toNat).length≤8:=encN_length_le.2 (by omega);have n2:(encN d.to.toNat).length≤8:=encN_length_le.2 (by omega);have hd1:=natIt_nodes d.ad;have hd2:=natIt_nodes d.rm;constructor
 · generalize hq:List.map natIt d.ad=q at *;generalize hq':List.map natIt d.rm=q' at *;simp only[Dl.it,lstI,txt,hq,hq',It.weight,Its.weight];simp only[natIt,It.weight,Its.weight,bstr_size,e0,e1];omega
 · generalize hq:List.map natIt d.ad=q at *;generalize hq':List.map natIt d.rm=q' at *;simp only[Dl.it,lstI,txt,hq,hq',It.list,It.nodes,Its.nodes];simp only[natIt,It.nodes,Its.nodes];omega
theorem row7{w:World}{T:TypeId}{fr:Nat×Nat}{b:Nat}{k0 k1 k2 k3 k4 k5 k6:Int}{n0 n1 n2 n3 n4 n5 n6 t0 t1 t2 t3 t4 t5 t6:ByteArray}{A3 A4:Option Addr}{l3 c3 l4 c4:Nat}{i3 i4:List It}{ok3 ok4:Nat→Prop}
 (hb:w.heap[b]? =some (.cells #[.int .i64 k0,.string n0,.string t0,.slice none 0 0,.int .i64 k1,.string n1,.string t1,.slice none 0 0,.int .i64 k2,.string n2,.string t2,.slice none 0 0,.int .i64 k3,.string n3,.string t3,.slice A3 l3 c3,.int .i64 k4,.string n4,.string t4,.slice A4 l4 c4,.int .i64 k5,.string n5,.string t5,.slice none 0 0,.int .i64 k6,.string n6,.string t6,.slice none 0 0] T fr))
 (h3:SlAt w ok3 A3 l3 c3 i3) (h4:SlAt w ok4 A4 l4 c4 i4) :
 SlAt w (fun _=>True) (some ⟨b,0,none⟩) 7 7 [.mk k0 n0 t0 [],.mk k1 n1 t1 [],.mk k2 n2 t2 [],.mk k3 n3 t3 i3,.mk k4 n4 t4 i4,.mk k5 n5 t5 [],.mk k6 n6 t6 []]:=by
 have hc:=fun k=>Lib.cell_of_heap hb (j:=k);refine⟨rfl,Nat.le_refl _,by omega,b,0,fun _=>⟨rfl,trivial⟩,?_⟩;exact⟨CellsAt.mk' (hc 0) (hc 1) (hc 2) (hc 3) (SlAt.nil _ _),CellsAt.mk' (hc 4) (hc 5) (hc 6) (hc 7) (SlAt.nil _ _),CellsAt.mk' (hc 8) (hc 9) (hc 10) (hc 11) (SlAt.nil _ _),CellsAt.mk' (hc 12) (hc 13) (hc 14) (hc 15) (h3.low (fun _ _=>trivial)),CellsAt.mk' (hc 16) (hc 17) (hc 18) (hc 19) (h4.low (fun _ _=>trivial)),CellsAt.mk' (hc 20) (hc 21) (hc 22) (hc 23) (SlAt.nil _ _),CellsAt.mk' (hc 24) (hc 25) (hc 26) (hc 27) (SlAt.nil _ _),trivial⟩
theorem ep_Message(d:Dl)(A A':Option Addr)(n c n' c':Nat)(w:World)(hs:SlN w A n c d.ad)(hs':SlN w A' n' c' d.rm)(hn:n≤400000)(hn':n'≤400000)(hz:SzL d.str):Calls Tryz.prog 56 #[.agg (d.arr (.slice A n c) (.slice A' n' c'))] w (RetSE d.msg w):=by
 obtain⟨W0,hW0⟩:=nm (w.alloc (.cells (d.arr (.slice A n c) (.slice A' n' c')) 50));have HX0:=Hq (show BxC W0 w.heap.size (d.arr (.slice A n c) (.slice A' n' c')) 50 from by rw[←hW0];exact BxC.new w _ _);have HB0:=Hq (show Below w.heap.size w W0 from by rw[←hW0];exact(blr).alloc nlr _);have HW0:=Hq (show w.heap.size+1=W0.heap.size from by rw[←hW0];simp);have HS:=Hq (hs.kept HB0.out nlr);have HS':=Hq (hs'.kept HB0.out nlr);have HZ:=Hq hz;have hc:=hs.2.1;have hc2:=hs.2.2.1;have hc':=hs'.2.1;have hc2':=hs'.2.2.1;have HN:=Hq hs.1;have HN':=Hq hs'.1;have x0:W0.cell? ⟨w.heap.size,0,none⟩=some (.int .i64 d.fr):=HX0.out.cell 0;have x1:W0.cell? ⟨w.heap.size,1,none⟩=some (.int .i64 d.to):=HX0.out.cell 1;have x2:W0.cell? ⟨w.heap.size,2,none⟩=some (.slice A n c):=HX0.out.cell 2;have x3:W0.cell? ⟨w.heap.size,3,none⟩=some (.slice A' n' c'):=HX0.out.cell 3;have x4:W0.cell? ⟨w.heap.size,4,none⟩=some (.string d.be):=HX0.out.cell 4;have x5:W0.cell? ⟨w.heap.size,5,none⟩=some (.string d.af):=HX0.out.cell 5;have x6:W0.cell? ⟨w.heap.size,6,none⟩=some (.string d.sc):=HX0.out.cell 6;have x7:W0.cell? ⟨w.heap.size,7,none⟩=some (.string d.sr):=HX0.out.cell 7;have HC:=Hq (ep_form d A A' n c n' c' W0 HS.out HS'.out hn hn' hz);clear hs hs' hz;unfold Dl.arr at hW0⊢;go_enter Tryz.func56,Tryz.ntmps56;go_wp2_with fail;refine(show Calls _ _ _ _ _ from HC.out).mono ?_;rintro e w1 ⟨rfl,hb⟩;have HX1:=Hq (HX0.out.kept hb HX0.out.lt);have HB1:=bTr HB0 hb;have HSA:=Hq (HS.out.kept hb nlr);have HSR:=Hq (HS'.out.kept hb nlr);clear hb x0 x1 x2 x3 x4 x5 x6 x7 hW0 HC;obtain⟨F,hF⟩:=nm (d.form);rw[hF];by_cases h0:F=0
 · subst h0;have HFO:=Hq hF;have HM:=Hq (show d.msg=encS d.it from by unfold Dl.msg;rw[if_pos hF]);obtain⟨hv,hr,_⟩:=d.form_ok hF;have hwn:=d.it_weight hF (by rw[HN.out];exact hn) (by rw[HN'.out];exact hn');obtain⟨N,hN⟩:=nm (d.fr.toNat);obtain⟨T,hT⟩:=nm (d.to.toNat);unfold Dl.rng at hr;have hN4:N≤4096:=by omega
   have hT4:T≤4096:=by omega
   have hNe:d.fr=(N:Int):=by omega
   have hTe:d.to=(T:Int):=by omega
   have HIE:=Hq (show It.mk 2 ⟨#[]⟩ ⟨#[]⟩ [.mk 1 ⟨#[]⟩ ⟨#[100,101,108,116,97]⟩ [],.mk 0 (bstr (encN N)) ⟨#[]⟩ [],.mk 0 (bstr (encN T)) ⟨#[]⟩ [],.mk 2 ⟨#[]⟩ ⟨#[]⟩ (d.ad.map natIt),.mk 2 ⟨#[]⟩ ⟨#[]⟩ (d.rm.map natIt),.mk 0 d.be ⟨#[]⟩ [],.mk 0 d.af ⟨#[]⟩ []]=d.it from by rw[←hN,←hT];rfl);have HWE:=Hq hwn.1;have HNO:=Hq hwn.2;rw[←HIE.out]at HWE HNO;have b0:w1.drew.cell? ⟨w.heap.size,0,none⟩=some (.int .i64 (N:Int)):=(HX1.out.cell 0).trans (by rw[←hNe];rfl);have b1:w1.drew.cell? ⟨w.heap.size,1,none⟩=some (.int .i64 (T:Int)):=(HX1.out.cell 1).trans (by rw[←hTe];rfl);have b2:w1.drew.cell? ⟨w.heap.size,2,none⟩=some (.slice A n c):=HX1.out.cell 2;have b3:w1.drew.cell? ⟨w.heap.size,3,none⟩=some (.slice A' n' c'):=HX1.out.cell 3;have b4:w1.drew.cell? ⟨w.heap.size,4,none⟩=some (.string d.be):=HX1.out.cell 4;have b5:w1.drew.cell? ⟨w.heap.size,5,none⟩=some (.string d.af):=HX1.out.cell 5;have HSAd:=Hq (show SlN w1.drew A n c d.ad from HSA.out.kept (blr).drew nlr);have HSRd:=Hq (show SlN w1.drew A' n' c' d.rm from HSR.out.kept (blr).drew nlr);clear hF hv hr hwn hN hT;obtain⟨aw,haw⟩:∃ aw:Array Value,aw=#[.int .i64 d.fr,.int .i64 d.to,.slice A n c,.slice A' n' c',.string d.be,.string d.af,.string d.sc,.string d.sr]:=⟨_,rfl⟩;rw[←haw];clear haw hNe hTe;go_wp2;refine wp_region_K 23 (Below (w1.drew).heap.size (w1.drew)) (by kernel_rfl) ?_;refine qPDs 1 12 27 blr ?_;refine qPDs 2 13 26 blr ?_;refine qTDs 3 14 25 blr (fun w' hS'=>(And.intro (kc hS' b0) (And.intro (kc hS' b1) (And.intro (kc hS' b2) (And.intro (kc hS' b3) (And.intro (kc hS' b4) (kc hS' b5))))))) ?_;refine qPDs 5 16 24 blr ?_;refine qPDs 6 17 23 blr ?_;refine qTDs 7 18 22 blr (fun w' hS'=>(And.intro (kc hS' b0) (And.intro (kc hS' b1) (And.intro (kc hS' b2) (And.intro (kc hS' b3) (And.intro (kc hS' b4) (kc hS' b5))))))) ?_;refine qPDs 9 20 21 blr ?_;refine qTDs 10 21 20 blr (fun w' hS'=>(And.intro (kc hS' b0) (And.intro (kc hS' b1) (And.intro (kc hS' b2) (And.intro (kc hS' b3) (And.intro (kc hS' b4) (kc hS' b5))))))) ?_;refine qPDs 12 23 19 blr ?_;refine qTDs 13 24 18 blr (fun w' hS'=>(And.intro (kc hS' b0) (And.intro (kc hS' b1) (And.intro (kc hS' b2) (And.intro (kc hS' b3) (And.intro (kc hS' b4) (kc hS' b5))))))) ?_;refine qPDs 15 26 17 blr ?_;refine qTDs 16 27 16 blr (fun w' hS'=>(And.intro (kc hS' b0) (And.intro (kc hS' b1) (And.intro (kc hS' b2) (And.intro (kc hS' b3) (And.intro (kc hS' b4) (kc hS' b5))))))) ?_;refine qPDs 18 29 15 blr ?_;refine qTDs 19 30 14 blr (fun w' hS'=>(And.intro (kc hS' b0) (And.intro (kc hS' b1) (And.intro (kc hS' b2) (And.intro (kc hS' b3) (And.intro (kc hS' b4) (kc hS' b5))))))) ?_;refine oO 0 13 ?_;intro K0 hK0;go_wp2_with fail;refine(enc_TextVe _ _).mono ?_;rintro e wz0 ⟨rfl,hb⟩;have HB0:=Hq hb;clear hb;go_wp2;refine hK0 _ _ (by exact HB0.out) ?_;clear hK0;intro hS_5_0;refine oO 4 12 ?_;intro K4 hK4;go_wp2_with fail;refine(ep_number N _ (by omega)).mono ?_;rintro e wz4 ⟨rfl,hb⟩;have HB4:=Hq hb;clear hb;go_wp2;refine hK4 _ _ (by exact Below.trans hS_5_0 (Below.mono HB4.out (Below.size hS_5_0))) ?_;clear hK4;intro hS_5_4;refine oO 8 11 ?_;intro K8 hK8;go_wp2_with fail;refine(ep_number T _ (by omega)).mono ?_;rintro e wz8 ⟨rfl,hb⟩;have HB8:=Hq hb;clear hb;go_wp2;refine hK8 _ _ (by exact Below.trans hS_5_4 (Below.mono HB8.out (Below.size hS_5_4))) ?_;clear hK8;intro hS_5_8;refine oO 11 10 ?_;intro K11 hK11;go_wp2_with fail;refine(ep_list d.ad A n c _ (HSAd.out.kept hS_5_8 nlr) (by omega)).mono ?_;rintro e wz11 ⟨v11,rfl,⟨A11,l11,c11,rfl,hs11⟩,hb⟩;have HB11:=Hq hb;have HI11:=Hq hs11;clear hb hs11;go_wp2;refine hK11 _ _ (by exact Below.trans hS_5_8 (Below.mono HB11.out (Below.size hS_5_8))) ?_;clear hK11;intro hS_5_11;refine oO 14 9 ?_;intro K14 hK14;go_wp2_with fail;refine(ep_list d.rm A' n' c' _ (HSRd.out.kept hS_5_11 nlr) (by omega)).mono ?_;rintro e wz14 ⟨v14,rfl,⟨A14,l14,c14,rfl,hs14⟩,hb⟩;have HB14:=Hq hb;have HI14:=Hq hs14;clear hb hs14;go_wp2;refine hK14 _ _ (by exact Below.trans hS_5_11 (Below.mono HB14.out (Below.size hS_5_11))) ?_;clear hK14;intro hS_5_14;refine oO 17 8 ?_;intro K17 hK17;go_wp2_with fail;refine(enc_NatVe _ _).mono ?_;rintro e wz17 ⟨rfl,hb⟩;have HB17:=Hq hb;clear hb;go_wp2;refine hK17 _ _ (by exact Below.trans hS_5_14 (Below.mono HB17.out (Below.size hS_5_14))) ?_;clear hK17;intro hS_5_17;refine oO 20 7 ?_;intro K20 hK20;go_wp2_with fail;refine(enc_NatVe _ _).mono ?_;rintro e wz20 ⟨rfl,hb⟩;have HB20:=Hq hb;clear hb;go_wp2;refine hK20 _ _ (by exact Below.trans hS_5_17 (Below.mono HB20.out (Below.size hS_5_17))) ?_;clear hK20;intro hS_5_20;refine oO 21 6 ?_;intro K21 hK21;go_wp2;refine name_world ?_;intro w23 hw23;have hb:=below_allocE hw23;have HR23:=Hq (row7 (bxc_alloc hw23) ((((HI11.out.below HB14.out nlr).below HB17.out nlr).below HB20.out nlr).below hb nlr) (((HI14.out.below HB17.out nlr).below HB20.out nlr).below hb nlr));have HB21:=Hq hb;clear hb hw23;refine hK21 _ _ (by exact Below.trans hS_5_20 (Below.mono HB21.out (Below.size hS_5_20))) ?_;clear hK21;intro hS_5_21;refine oO 22 5 ?_;intro K22 hK22;go_wp2_with fail;refine(enc_List _ _ 7 7 _ _ HNO.out HR23.out).mono ?_;rintro e w24 ⟨v24,rfl,hi24,hb⟩;have HI24:=Hq hi24;have HB22:=Hq hb;clear hb hi24;go_wp2;refine hK22 _ _ (by exact Below.trans hS_5_21 (Below.mono HB22.out (Below.size hS_5_21))) ?_;clear hK22;intro hS_5_22;refine oT 23 4 ?_;intro K23 hK23;go_wp2_with fail;refine(enc_Encode _ v24 _ _ HWE.out HI24.out).mono ?_;rintro e w25 ⟨rfl,hb⟩;rw[HIE.out];have hbl:=Below.trans hS_5_22 (Below.mono hb (Below.size hS_5_22));have HB25:=Hq (HB1.out.trans ((((blr).drew).trans hbl).mono HB1.out.size));obtain⟨r1,r2,hr⟩:∃ r1 r2,encS d.it=(r1,r2):=⟨_,_,rfl⟩;rw[hr];have HMR:=Hq hr;clear hb hbl hr;go_wp2;refine hK23 _ _ ?_;clear hK23;intro hD;refine wpAnyK_pureTD (i:=24) (d:=some 35) (v:=?v5_24b1) (fuel:=3) rfl (by kernel_rfl) (by kernel_rfl) (by kernel_rfl) (fun _ _ _ h=>h) hD (.inl ⟨by kernel_rfl,?y5_24b1⟩) ?n5_24b1
   case y5_24b1=>intro w' _;go_simp;with_reducible rfl
   simp only[Act.put,sqA,sqB,sqC];intro hD;refine wpAnyK_pureTD (i:=25) (d:=some 36) (v:=?v5_25b1) (fuel:=2) rfl (by kernel_rfl) (by kernel_rfl) (by kernel_rfl) (fun _ _ _ h=>h) hD (.inl ⟨by kernel_rfl,?y5_25b1⟩) ?n5_25b1
   case y5_25b1=>intro w' _;go_simp;with_reducible rfl
   simp only[Act.put,sqA,sqB,sqC];refine oT 26 1 ?_;intro K26 hK26;go_wp2;refine hK26 _ _ ?_;clear hK26;refine oT 27 0 ?_;intro K27 hK27;go_wp2;refine hK27 _ _ ?_;clear hK27;refine wDn ?_;go_wp2;go_ret2;exact⟨by show Ending.returned (.tuple #[.string r1,.int .i64 r2])=_;rw[HM.out,HMR.out],HB25.out⟩
 · have HM:=Hq (show d.msg=(⟨#[]⟩,F)from by unfold Dl.msg;rw[if_neg (by rw[hF];exact h0),hF]);have hd:(F != 0)=true:=by simpa using h0
   clear hF;go_wp2;go_ret2;exact⟨by show Ending.returned (.tuple #[.string ⟨#[]⟩,.int .i64 F])=_;rw[HM.out],HB1.out⟩
end Go.Proofs.YtmahgbhpdfbbjaaGreatDoor
/-
 DERIVED: THE SHELF's CONTRACTS AT THIS DUMP, IN PLAIN WORDS (tools/lay-plain.mjs out of 'TryShel2.lean', which tools/lay-shelf.mjs wrote): THE SAME DECLARATIONS UNDER THE SAME NAMES: 'import', 'namespace', 'open', 'def', 'theorem' AND NOTHING ELSE: no command of the shelf's: FOR A HAND-IN. Each laying: the table of numbers ('.._ren') and one theorem, a field a fact of the dump's own or the kernel's comparison; each contract: ONE APPLICATION.
-/
namespace Go.Proofs
open Go.Shelf
def Tryz.sortN_ren:Go.Shelf.Ren:=⟨fun | 6=>120 | 15=>141 | 14=>140 | 28=>151 | 29=>160 | 20=>152 | 21=>153 | 22=>154 | 23=>155 | 24=>156 | 25=>157 | 26=>158 | 27=>159 | 46=>163 | 47=>164 | 48=>165 | 49=>166 | 50=>167 | 57=>169 | n=>n,fun | 22=>25 | 24=>22 | 25=>96 | 3=>3 | 39=>118 | 0=>0 | 53=>192 | 55=>39 | 4=>4 | 46=>215 | 45=>214 | 50=>219 | 5=>5 | 9=>9 | 66=>224 | 70=>228 | 76=>232 | 77=>233 | n=>n,fun | n=>n⟩
theorem Tryz.sortN:Go.Proofs.SlLaysF.n6 Tryz.prog Tryz.sortN_ren:={
 mixed:=by kernel_rfl
 f6:=⟨Tryz.f120.name,by decide,Tryz.func120.trans (congrArg some (by kernel_rfl))⟩
 f14:=⟨Tryz.f140.name,by decide,Tryz.func140.trans (congrArg some (by kernel_rfl))⟩
 f15:=Tryz.func141.trans (congrArg some (by kernel_rfl))
 f20:=⟨Tryz.f152.name,by decide,Tryz.func152.trans (congrArg some (by kernel_rfl))⟩
 f21:=⟨Tryz.f153.name,by decide,Tryz.func153.trans (congrArg some (by kernel_rfl))⟩
 f22:=⟨Tryz.f154.name,by decide,Tryz.func154.trans (congrArg some (by kernel_rfl))⟩
 f23:=⟨Tryz.f155.name,by decide,Tryz.func155.trans (congrArg some (by kernel_rfl))⟩
 f24:=⟨Tryz.f156.name,by decide,Tryz.func156.trans (congrArg some (by kernel_rfl))⟩
 f25:=⟨Tryz.f157.name,by decide,Tryz.func157.trans (congrArg some (by kernel_rfl))⟩
 f26:=⟨Tryz.f158.name,by decide,Tryz.func158.trans (congrArg some (by kernel_rfl))⟩
 f27:=⟨Tryz.f159.name,by decide,Tryz.func159.trans (congrArg some (by kernel_rfl))⟩
 f28:=Tryz.func151.trans (congrArg some (by kernel_rfl))
 f29:=Tryz.func160.trans (congrArg some (by kernel_rfl))
 f46:=⟨Tryz.f163.name,by decide,Tryz.func163.trans (congrArg some (by kernel_rfl))⟩
 f47:=Tryz.func164.trans (congrArg some (by kernel_rfl))
 f48:=Tryz.func165.trans (congrArg some (by kernel_rfl))
 f49:=⟨Tryz.f166.name,by decide,Tryz.func166.trans (congrArg some (by kernel_rfl))⟩
 f50:=⟨Tryz.f167.name,by decide,Tryz.func167.trans (congrArg some (by kernel_rfl))⟩
 f57:=⟨Tryz.f169.name,by decide,Tryz.func169.trans (congrArg some (by kernel_rfl))⟩
 t0:=Tryz.underlying0
 a0:=Tryz.isAgg0
 z0:=Tryz.sizeOf0
 v0:=Tryz.zeroValue0
 t3:=Tryz.underlying3
 a3:=Tryz.isAgg3
 z3:=Tryz.sizeOf3
 v3:=Tryz.zeroValue3
 t4:=Tryz.underlying4
 a4:=Tryz.isAgg4
 z4:=Tryz.sizeOf4
 v4:=Tryz.zeroValue4
 t5:=Tryz.underlying5
 a5:=Tryz.isAgg5
 z5:=Tryz.sizeOf5
 v5:=Tryz.zeroValue5
 t9:=Tryz.underlying9
 a9:=Tryz.isAgg9
 z9:=Tryz.sizeOf9
 v9:=Tryz.zeroValue9
 t22:=Tryz.underlying25
 a22:=Tryz.isAgg25
 z22:=Tryz.sizeOf25
 v22:=Tryz.zeroValue25
 a24:=Tryz.isAgg22
 z24:=Tryz.sizeOf22
 t25:=Tryz.underlying96
 a25:=Tryz.isAgg96
 z25:=Tryz.sizeOf96
 v25:=Tryz.zeroValue96
 t39:=Tryz.underlying118
 a39:=Tryz.isAgg118
 z39:=Tryz.sizeOf118
 v39:=Tryz.zeroValue118
 t45:=Tryz.underlying214
 a45:=Tryz.isAgg214
 z45:=Tryz.sizeOf214
 v45:=Tryz.zeroValue214
 t46:=Tryz.underlying215
 a46:=Tryz.isAgg215
 z46:=Tryz.sizeOf215
 v46:=Tryz.zeroValue215
 t50:=Tryz.underlying219
 a50:=Tryz.isAgg219
 z50:=Tryz.sizeOf219
 v50:=Tryz.zeroValue219
 t53:=Tryz.underlying192
 a53:=Tryz.isAgg192
 z53:=Tryz.sizeOf192
 v53:=Tryz.zeroValue192
 t55:=Tryz.underlying39
 a55:=Tryz.isAgg39
 z55:=Tryz.sizeOf39
 v55:=Tryz.zeroValue39
 t66:=Tryz.underlying224
 a66:=Tryz.isAgg224
 z66:=Tryz.sizeOf224
 v66:=Tryz.zeroValue224
 t70:=Tryz.underlying228
 a70:=Tryz.isAgg228
 z70:=Tryz.sizeOf228
 v70:=Tryz.zeroValue228
 t76:=Tryz.underlying232
 a76:=Tryz.isAgg232
 z76:=Tryz.sizeOf232
 v76:=Tryz.zeroValue232
 t77:=Tryz.underlying233
 a77:=Tryz.isAgg233
 z77:=Tryz.sizeOf233
 v77:=Tryz.zeroValue233 }
end Go.Proofs
namespace Go.Proofs.YtmahgbhpdfbbjaaGreatDoor
set_option maxRecDepth 100000
open Go.RowKit
open Go.Sort Go.Shelf
abbrev VN:={s:ByteArray // nvalid s=true}
instance : Inhabited VN:=⟨⟨⟨#[]⟩,by decide⟩⟩
def VN.enc(x:VN):Value:=.string x.1
def VN.cf(x y:VN):Int:=cmpI (num x.1) (num y.1)
theorem VN.lt_iff(x y:VN):ltOf VN.cf x y=decide (num x.1<num y.1):=decide_eq_decide.2 cmpI_neg
theorem VN.swo:SWO (ltOf VN.cf) where
 irrefl x:=by rw[VN.lt_iff];exact decide_eq_false (Nat.lt_irrefl _)
 trans x y z h1 h2:=by rw[VN.lt_iff]at *;simp only[decide_eq_true_eq]at *;omega
 ntrans x y z h1 h2:=by rw[VN.lt_iff]at *;simp only[decide_eq_false_iff_not]at *;omega
theorem VN.reads(blk off size:Nat)(w:World):CmpReads Tryz.prog 40 #[] VN.enc VN.cf blk off size w:=by
 intro m os dk _ x y;have h:=nat_Cmp x.1 y.1 (by have:=size_valid x.2;omega) (by have:=size_valid y.2;omega) (sortWorld VN.enc w blk off m dk os);rw[ncmp_num x.2 y.2]at h;exact h.mono fun e w' ⟨he,hw⟩=>⟨he,0,hw.symm⟩
theorem ins_none(w:World):Calls Tryz.prog 152 #[.slice none 0 0,.int .i64 0,.int .i64 0,.func (.func 40) #[] #[]] w (fun e w'=>e=.returned (.tuple #[])∧w'=w):=by
 go_enter Tryz.func152,Tryz.ntmps152;go_wp2;refine wp_loop_rounds 1 ?_;rw[rounds_succ];go_wp2;go_end0;exact⟨rfl,rfl⟩
theorem pdq_none(w:World)(l:Int):Calls Tryz.prog 140 #[.slice none 0 0,.int .i64 0,.int .i64 0,.int .i64 l,.func (.func 40) #[] #[]] w (fun e w'=>e=.returned (.tuple #[])∧w'=w):=by
 go_enter Tryz.func140,Tryz.ntmps140;go_wp2_with fail;refine wp_loop_rounds 1 ?_;rw[rounds_succ];go_wp2_with fail;refine(ins_none _).mono ?_;rintro e w1 ⟨rfl,rfl⟩;go_wp2;exact bodyPost_ret (v:=.tuple #[]) (by simp[results,Tryz.results140,go_sem]) rfl ⟨rfl,rfl⟩
theorem sort_none(w:World):Calls Tryz.prog 120 #[.slice none 0 0,.func (.func 40) #[] #[]] w (fun e w'=>e=.returned (.tuple #[])∧w'=w):=by
 go_enter Tryz.func120,Tryz.ntmps120;go_wp2_with fail;refine(Tryz.bits_Len 0 _ (by decide) (by decide)).mono ?_;rintro e w1 ⟨rfl,rfl⟩;go_wp2_with fail;refine(pdq_none _ _).mono ?_;rintro e w1 ⟨rfl,rfl⟩;go_wp2;go_end0;exact⟨rfl,rfl⟩
def SortedK(K l:List ByteArray):Prop:=(∀ s∈l,nvalid s=true)∧(∀(i j:Nat) a b,i<j→l[i]? =some a→l[j]? =some b→num a<num b)∧∀ s,s∈l↔s∈K
theorem below_sort{B:Nat}(w:World)(blk n:Nat)(d:Array VN)(os:Array Obj)(hB:B≤blk)(hblk:blk<w.heap.size):Go.RowKit.Below B w (sortWorld VN.enc w blk 0 n d os):=by
 refine⟨rfl,rfl,rfl,?_,fun k hk=>?_⟩
 · unfold sortWorld putRow mapBlock Sort.ahead;rw[Go.Sort.size_grow];simp
 · unfold sortWorld;rw[Go.Sort.heap_grow_old _ _ (by unfold putRow mapBlock Sort.ahead;simp;omega)];unfold putRow mapBlock Sort.ahead;simp only[Array.getElem?_modify];rw[if_neg (by omega)]
theorem sort_row(d:Array VN)(blk cap:Nat)(w:World)(hH:Holds VN.enc w blk 0 d)(hblk:blk<w.heap.size)(hsz:d.size<4611686018427387904)(hcap:d.size≤cap)(hc2:cap≤9223372036854775807) :
 Calls Tryz.prog 120 #[.slice (some ⟨blk,0,none⟩) d.size cap,.func (.func 40) #[] #[]] w (fun e w'=>e=.returned (.tuple #[])∧∃ d':Array VN,PermIn 0 d.size d d'∧SortedIn (ltOf VN.cf) 0 d.size d'∧SlN w' (some ⟨blk,0,none⟩) d.size cap (d'.toList.map (fun x=>x.1))∧∀ B,B≤blk→Go.RowKit.Below B w w'):=by
 have eg:∀ args w,(callFunc 40 args).run Tryz.prog w=.ok (.enter 40 args) w:=enters_of Tryz.func40 (by kernel_rfl) rfl;have h:=Any.slices_SortFunc Tryz.sortN VN.enc (fun _=>rfl) VN.cf VN.swo 40 #[] blk 0 cap d w eg (VN.reads blk 0 d.size w).lays hH hblk hsz;refine(show Calls _ 120 _ _ _ from h).mono ?_;rintro e w' ⟨rfl,d',n,os,hp,hs,rfl⟩;have hsw:SW VN.enc w blk 0 d' (sortWorld VN.enc w blk 0 n d' os):=⟨n,os,rfl⟩;have hh:=hsw.holds hblk hH hp.1;refine⟨rfl,d',hp,hs,⟨by simp[hp.1],hcap,hc2,blk,0,fun _=>rfl,fun k s hk=>?_⟩,fun B hB=>?_⟩
 · rw[List.getElem?_map,Option.map_eq_some_iff]at hk;obtain⟨x,hx,rfl⟩:=hk;rw[Array.getElem?_toList]at hx;obtain⟨hlt,hx⟩:=Array.getElem?_eq_some_iff.1 hx;have:=(hh k hlt).1;rw[getElem!_pos d' k hlt,hx]at this;exact this
 · exact below_sort w blk n d' os hB hblk
end Go.Proofs.YtmahgbhpdfbbjaaGreatDoor

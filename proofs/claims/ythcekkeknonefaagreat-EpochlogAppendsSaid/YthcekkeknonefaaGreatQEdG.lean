import Derived.Test.YthcekkeknonefaaGreatQGrp
import Derived.Test.YthcekkeknonefaaGreatQInB
import Derived.Test.YthcekkeknonefaaGreatQRowN
import Derived.Test.YthcekkeknonefaaGreatQScS
import Derived.Test.YthcekkeknonefaaGreatQPeDB
import Derived.Test.YthcekkeknonefaaGreatQScG
import Derived.Test.YthcekkeknonefaaGreatQBit
import Derived.Test.YthcekkeknonefaaGreatQTrB
import Derived.Test.YthcekkeknonefaaGreatQNatB
import Derived.Test.YthcekkeknonefaaGreatQCtB
import Derived.Test.YthcekkeknonefaaGreatQNum2
import Derived.Great.Walk
import Derived.Laws.CopyOwn
import Derived.Deep.Cut
import Derived.Test.YthcekkeknonefaaGreatQEdD
import Derived.Test.YthcekkeknonefaaGreatQEpS
set_option linter.unusedVariables false
set_option linter.unusedSimpArgs false
namespace Go.Proofs.YthcekkeknonefaaGreat
set_option maxRecDepth 100000
set_option maxHeartbeats 1000000
open Go.RowKit Go.Shelf
attribute [local go_sem] Oper.semAt_some
def few9(M O:ByteArray)(l:List ByteArray):Bool:=l.all (fun s=>decide (s.size≤20))&&(decide (M.size≤8)&&decide (O.size≤10))
theorem few9_big{M O:ByteArray}{l:List ByteArray}{k:Nat}{s:ByteArray}(h:l[k]? =some s)(hb:20<s.size):few9 M O l=false:=by
 unfold few9;have : l.all (fun s=>decide (s.size≤20))=false:=by
  rw[List.all_eq_false];exact⟨s,List.mem_of_getElem? h,by simp;omega⟩
 rw[this];rfl
theorem few9_all{M O:ByteArray}{l:List ByteArray}(h:∀ k,k<l.length→∃ s,l[k]? =some s∧s.size≤20):few9 M O l=(decide (M.size≤8)&&decide (O.size≤10)):=by
 unfold few9;have : l.all (fun s=>decide (s.size≤20))=true:=by
  rw[List.all_eq_true];intro s hs;obtain⟨k,hk⟩:=List.mem_iff_getElem?.1 hs;obtain⟨s',h1,h2⟩:=h k (List.getElem?_eq_some_iff.1 hk).1;rw[hk]at h1;cases h1;exact decide_eq_true h2
 rw[this];rfl
theorem few9_of{M O:ByteArray}{l:List ByteArray}(h:few9 M O l=true):M.size≤8∧O.size≤10∧∀ s∈l,s.size≤20:=by
 unfold few9 at h;simp only[Bool.and_eq_true,decide_eq_true_eq,List.all_eq_true]at h;exact⟨h.2.1,h.2.2,h.1⟩
theorem law_Few(M O:ByteArray)(l:List ByteArray)(A:Option Addr)(len cap:Nat)(hl:len≤1000)(w:World)(hs:SlN w A len cap l):Calls Tryz.prog 17 #[gV M O,.slice A len cap] w (Ret (.bool (few9 M O l)) w):=by
 have HX0:=Hq (Bx2.new w (.string M) (.string O) 24);have HB0:=Hq ((Below.refl w.heap.size w).alloc (Nat.le_refl _) (.cells #[.string M,.string O] 24));have c0:=HX0.out.c0;have c1:=HX0.out.c1;have HS:=Hq (hs.kept HB0.out (Nat.le_refl _));have HLEN:=Hq hs.1;have hcap:=hs.2.1;have hcap2:=hs.2.2.1;clear hs;unfold gV;go_enter Tryz.func17,Tryz.ntmps17;go_wp2
 go_loop [5] (fun i=>∃ k:Nat,k≤len∧i=.int .i64 k∧∀ j,j<k→∃ s,l[j]? =some s∧s.size≤20) (fun i=>len - (intOf i).toNat)
 case atStart=>exact⟨0,Nat.zero_le _,rfl,fun j h=>by omega⟩
 case round =>
  obtain⟨k,hk,rfl,hall⟩:=hrel;have HALL:=Hq hall;clear hall;by_cases hlt:k<len
  · obtain⟨b,o,rfl⟩:=HS.out.head (by omega);obtain⟨s,he⟩:∃ s,l[k]? =some s:=⟨_,List.getElem?_eq_getElem (by rw[HLEN.out];exact hlt)⟩;have d0:=HS.out.get? k he;have HE:=Hq he;clear he;by_cases h1:20<s.size
    · have HF:=Hq (few9_big (M:=M) (O:=O) HE.out h1);have i1:decide ((20:Int)<(s.size:Int))=true:=decide_eq_true (by omega);go_wp2;go_ret;exact⟨by rw[HF.out];rfl,HB0.out⟩
    · have i1:decide ((20:Int)<(s.size:Int))=false:=decide_eq_false (by omega);go_wp2;go_round;case rel =>
       refine⟨k+1,by omega,by go_num,fun j hj=>?_⟩;by_cases hjk:j<k
       · exact HALL.out j hjk
       · obtain rfl:j=k:=by omega
         exact⟨s,HE.out,by omega⟩
      case measure=>simp[intOf];omega
  · obtain rfl:k=len:=by omega
    have HF:=Hq (few9_all (M:=M) (O:=O) (l:=l) (fun j hj=>HALL.out j (by have:=HLEN.out;omega)));by_cases h8:M.size≤8
    · rw[decide_eq_true h8,Bool.true_and]at HF;have h8':(M.size:Int)≤8:=by omega
      by_cases h10:O.size≤10
      · rw[decide_eq_true h10]at HF;have h10':(O.size:Int)≤10:=by omega
        go_wp2;go_ret;exact⟨by rw[HF.out];rfl,HB0.out⟩
      · rw[decide_eq_false h10]at HF;have h10':decide ((O.size:Int)≤10)=false:=decide_eq_false (by omega);go_wp2;go_ret;exact⟨by rw[HF.out];rfl,HB0.out⟩
    · rw[decide_eq_false h8,Bool.false_and]at HF;have h8':decide ((M.size:Int)≤8)=false:=decide_eq_false (by omega);go_wp2;go_ret;exact⟨by rw[HF.out];rfl,HB0.out⟩
set_option maxRecDepth 100000
set_option maxHeartbeats 1000000
open Go.RowKit Go.Lib
def few33(M O G H:ByteArray)(l:List ByteArray):Bool:=few9 M O [G,H]&&few9 M O l
theorem few33_of{M O G H:ByteArray}{l:List ByteArray}(h:few33 M O G H l=true):M.size≤8∧O.size≤10∧G.size≤20∧H.size≤20∧∀ s∈l,s.size≤20:=by
 unfold few33 at h;rw[Bool.and_eq_true]at h;obtain⟨a,b,c⟩:=few9_of h.1;exact⟨a,b,c G (by simp),c H (by simp),(few9_of h.2).2.2⟩
theorem law33_Few(M O G H:ByteArray)(l:List ByteArray)(A:Option Addr)(n cap:Nat)(hn:n≤1000)(w:World)(hsl:SlN w A n cap l):Calls Tryz.prog 6 #[kV M O G H,.slice A n cap] w (Ret (.bool (few33 M O G H l)) w):=by
 have HK0:=Hq (SB.new w M O G H);have HS0:=Hq (hsl.kept ((Below.refl _ _).alloc (Nat.le_refl _) (.cells #[.string M,.string O,.string G,.string H] 26)) (Nat.le_refl _));obtain⟨W0,hW0⟩:∃ W,w.alloc (.cells #[.string M,.string O,.string G,.string H] 26)=W:=⟨_,rfl⟩;rw[hW0]at HK0 HS0;have hs2:=sln_alloc W0 [G,H] 22 (by simp);have hbb:=(Below.refl W0.heap.size W0).alloc (Nat.le_refl _) (.cells #[.string G,.string H] 22);have HF1:=Hq (law_Few M O [G,H] _ 2 2 (by omega) _ hs2);have HK1:=Hq (HK0.out.next hbb);have HS1:=Hq (HS0.out.kept hbb (Nat.le_refl _));have HLF:=Hq (fun w hs=>law_Few M O l A n cap hn w hs);obtain⟨c0,c1,c2,c3⟩:=HK0.out.1.cells
 cases h1:few9 M O [G,H]with
 | false =>
  rw[h1]at HF1;have HR:=Hq (show few33 M O G H l=false from by unfold few33;rw[h1];rfl);rw[HR.out];unfold kV gV at *;clear hsl hn hs2 hbb h1;go_enter Tryz.func6,Tryz.ntmps6;go_wp2_with fail;try rw[hW0]
  clear hW0;refine HF1.out.mono ?_;rintro ev w1 ⟨rfl,hb⟩;have HK2:=Hq (HK1.out.next hb);clear hb c0 c1 c2 c3;go_wp2;go_ret;exact⟨rfl,HK2.out.2⟩
 | true =>
  rw[h1]at HF1;have HR:=Hq (show few33 M O G H l=few9 M O l from by unfold few33;rw[h1];rfl);rw[HR.out];unfold kV gV at *;clear hsl hn hs2 hbb h1;go_enter Tryz.func6,Tryz.ntmps6;go_wp2_with fail;try rw[hW0]
  clear hW0;refine HF1.out.mono ?_;rintro ev w1 ⟨rfl,hb⟩;have HK2:=Hq (HK1.out.next hb);have HLL:=Hq (HLF.out _ (HS1.out.kept hb (Nat.le_refl _)));clear hb c0 c1 c2 c3;obtain⟨c0,c1,c2,c3⟩:=HK2.out.1.cells;go_wp2_with fail;refine HLL.out.mono ?_;rintro ev w2 ⟨rfl,hb⟩;have HK3:=Hq (HK2.out.next hb);clear hb c0 c1 c2 c3;go_wp2;go_ret;exact⟨rfl,HK3.out.2⟩
set_option maxRecDepth 100000
set_option maxHeartbeats 8000000
open Go.RowKit
theorem walk_appends37(M O G Y:ByteArray)(l:List Dl)(A:Option Addr)(len cap:Nat)(d:Dl)(A1:Option Addr)(n1 c1:Nat)(A2:Option Addr)(n2 c2:Nat)(w:World)(hs:SlD w A len cap l)(hzl:SzD l)(h1:SlN w A1 n1 c1 d.ad)(h2:SlN w A2 n2 c2 d.rm)(hz:SzL d.str) :
 Calls Tryz.prog 3 #[kV M O G Y,.slice A len cap,.agg (d.arr (.slice A1 n1 c1) (.slice A2 n2 c2))] w (Ret (.bool true) w):=by
 obtain⟨W0,hW0⟩:∃ W0,(w.alloc (.cells #[.string M,.string O,.string G,.string Y] 26)).alloc (.cells (d.arr (.slice A1 n1 c1) (.slice A2 n2 c2)) 32)=W0:=⟨_,rfl⟩;have hx1:BxC W0 (w.heap.size+1) (d.arr (.slice A1 n1 c1) (.slice A2 n2 c2)) 32:=by rw[←hW0];exact BxC.new1 w _ _ _
 have HK0:=Hq (show BxC W0 w.heap.size #[.string M,.string O,.string G,.string Y] 26 from by rw[←hW0];exact(BxC.new w _ _).next ((Below.refl _ _).alloc (Nat.le_refl _) _));have HX0:=Hq hx1;have HB0:=Hq (show Below w.heap.size w W0 from by rw[←hW0];exact((Below.refl _ _).alloc (Nat.le_refl _) _).alloc (by simp) _);have HSW:=Hq hs;have HS1:=Hq h1;have HS2:=Hq h2;have HZ:=Hq hz;have HLEN:=Hq hs.1;have hcap:=hs.2.1;have hcap2:=hs.2.2.1;have HFL:=Hq (law37_Few l A len cap W0 (hs.kept HB0.out (Nat.le_refl _)) hzl);clear hs hx1 h1 h2 hz hzl;unfold Dl.arr at *;unfold kV;go_enter Tryz.func3,Tryz.ntmps3;go_wp2_with fail;try rw[hW0]
 clear hW0;refine HFL.out.mono ?_;rintro e w1 ⟨b,rfl,hf,hb⟩;have HK1:=Hq (HK0.out.next hb);have HX1:=Hq (HX0.out.next hb);have HB1:=Hq (HB0.out.trans (hb.mono HB0.out.size));have HF:=Hq hf;clear hb hf HK0 HX0 HB0 HFL
 cases b with
 | false =>
  go_wp2_with fail;refine(law_awake _).mono ?_;rintro e wa ⟨rfl,hba⟩;have HBA:=Hq (HB1.out.trans (hba.mono HB1.out.size));clear hba;go_wp2;go_ret;exact⟨rfl,HBA.out⟩
 | true =>
  have hlen:len≤12:=(HF.out rfl).1;have HFWL:=Hq (HF.out rfl).2;have hb01:Below w1.heap.size w1 (w1.alloc (.cells #[.int .i64 d.fr,.int .i64 d.to,.slice A1 n1 c1,.slice A2 n2 c2,.string d.be,.string d.af,.string d.sc,.string d.sr] 32)):=(Below.refl _ _).alloc (Nat.le_refl _) _;have hbw:=HB1.out.trans (hb01.mono HB1.out.size);have HFW:=Hq (law37_Few [d] (some ⟨w1.heap.size,0,none⟩) 1 1 (w1.alloc (.cells #[.int .i64 d.fr,.int .i64 d.to,.slice A1 n1 c1,.slice A2 n2 c2,.string d.be,.string d.af,.string d.sc,.string d.sr] 32)) (sld_one (BxC.new w1 _ _) (HS1.out.kept hbw (Nat.le_refl _)) (HS2.out.kept hbw (Nat.le_refl _))) (fun e he=>by simp at he;subst he;exact HZ.out));have p0:w1.cell? ⟨w.heap.size+1,0,none⟩=some (.int .i64 d.fr):=BxC.cell HX1.out 0;have p1:w1.cell? ⟨w.heap.size+1,1,none⟩=some (.int .i64 d.to):=BxC.cell HX1.out 1;have p2:w1.cell? ⟨w.heap.size+1,2,none⟩=some (.slice A1 n1 c1):=BxC.cell HX1.out 2;have p3:w1.cell? ⟨w.heap.size+1,3,none⟩=some (.slice A2 n2 c2):=BxC.cell HX1.out 3;have p4:w1.cell? ⟨w.heap.size+1,4,none⟩=some (.string d.be):=BxC.cell HX1.out 4;have p5:w1.cell? ⟨w.heap.size+1,5,none⟩=some (.string d.af):=BxC.cell HX1.out 5;have p6:w1.cell? ⟨w.heap.size+1,6,none⟩=some (.string d.sc):=BxC.cell HX1.out 6;have p7:w1.cell? ⟨w.heap.size+1,7,none⟩=some (.string d.sr):=BxC.cell HX1.out 7;clear hb01 hbw HF;go_wp2_with fail;refine HFW.out.mono ?_;rintro e w2 ⟨b,rfl,hf,hb⟩;have hb1:Below w1.heap.size w1 w2:=((Below.refl _ _).alloc (Nat.le_refl _) _).trans (hb.mono (by simp));have HK2:=Hq (HK1.out.next hb1);have HX2:=Hq (HX1.out.next hb1);have HB2:=Hq (HB1.out.trans (hb1.mono HB1.out.size));have HF:=Hq hf;clear hb hb1 p0 p1 p2 p3 p4 p5 p6 p7 hf HFW
  cases b with
  | false =>
   go_wp2_with fail;refine(law_awake _).mono ?_;rintro e wa ⟨rfl,hba⟩;have HBA:=Hq (HB2.out.trans (hba.mono HB2.out.size));clear hba;go_wp2;go_ret;exact⟨rfl,HBA.out⟩
  | true =>
   have hfd:FewD d:=(HF.out rfl).2 d (by simp);have hn:n1≤20:=by have:=hfd.ad.1;rw[HS1.out.1]at this;exact this
   have hn':n2≤20:=by have:=hfd.rm.1;rw[HS2.out.1]at this;exact this
   have zc:=hfd.xs.2 d.sc (by simp);have zr:=hfd.xs.2 d.sr (by simp);have k0:w2.cell? ⟨w.heap.size,0,none⟩=some (.string M):=HK2.out.cell 0;have k1:w2.cell? ⟨w.heap.size,1,none⟩=some (.string O):=HK2.out.cell 1;have k2:w2.cell? ⟨w.heap.size,2,none⟩=some (.string G):=HK2.out.cell 2;have k3:w2.cell? ⟨w.heap.size,3,none⟩=some (.string Y):=HK2.out.cell 3;have HF3:=Hq (law33_Few M O G Y [] none 0 0 (by omega) w2 ⟨rfl,Nat.le_refl _,Nat.zero_le _,0,0,fun h=>absurd h (Nat.lt_irrefl _),fun k s h=>by simp at h⟩);obtain⟨f,hfe⟩:∃ f,few33 M O G Y []=f:=⟨_,rfl⟩;rw[hfe]at HF3;have HFE:=Hq hfe;unfold kV at HF3;clear hfd hfe HF;go_wp2_with fail;refine HF3.out.mono ?_;rintro e w3 ⟨rfl,hb2⟩;have HK3:=Hq (HK2.out.next hb2);have HX3:=Hq (HX2.out.next hb2);have HB3:=Hq (HB2.out.trans (hb2.mono HB2.out.size));clear hb2 k0 k1 k2 k3 HF3
   cases f with
   | false =>
    go_wp2_with fail;refine(law_awake _).mono ?_;rintro e wa ⟨rfl,hba⟩;have HBA:=Hq (HB3.out.trans (hba.mono HB3.out.size));clear hba;go_wp2;go_ret;exact⟨rfl,HBA.out⟩
   | true =>
    obtain⟨hM,hO,hG,hY,-⟩:=few33_of HFE.out;have HC1:=Hq (fun W (hb:Below w.heap.size w W)=>ep_Append M O G Y l A len cap d A1 n1 c1 A2 n2 c2 W (HSW.out.kept hb (Nat.le_refl _)) (by omega) (fun x hx=>⟨by have:=(HFWL.out x hx).ad.1;omega,by have:=(HFWL.out x hx).rm.1;omega⟩) (HS1.out.kept hb (Nat.le_refl _)) (HS2.out.kept hb (Nat.le_refl _)) (by omega) (by omega) HZ.out hM (by omega) (by omega) (by omega) (by omega) (by omega));have HC2:=Hq (fun W (hb:Below w.heap.size w W)=>r37_Append M O G Y l A len cap d A1 n1 c1 A2 n2 c2 W (HSW.out.kept hb (Nat.le_refl _)) (by omega) (HS1.out.kept hb (Nat.le_refl _)) (HS2.out.kept hb (Nat.le_refl _)) (by omega) (by omega) HZ.out hM (by omega) (by omega) (by omega) (by omega) (by omega));obtain⟨r,hr⟩:∃ r,apR (ckD M O G Y d) l d=r:=⟨_,rfl⟩;rw[hr]at HC1 HC2;obtain⟨rl,re⟩:=r;have hcc:(re != re)=false:=by simp
    unfold kV Dl.arr at HC1 HC2;clear hM hO hG hY zc zr hr hn hn';have p0:w3.cell? ⟨w.heap.size+1,0,none⟩=some (.int .i64 d.fr):=BxC.cell HX3.out 0;have p1:w3.cell? ⟨w.heap.size+1,1,none⟩=some (.int .i64 d.to):=BxC.cell HX3.out 1;have p2:w3.cell? ⟨w.heap.size+1,2,none⟩=some (.slice A1 n1 c1):=BxC.cell HX3.out 2;have p3:w3.cell? ⟨w.heap.size+1,3,none⟩=some (.slice A2 n2 c2):=BxC.cell HX3.out 3;have p4:w3.cell? ⟨w.heap.size+1,4,none⟩=some (.string d.be):=BxC.cell HX3.out 4;have p5:w3.cell? ⟨w.heap.size+1,5,none⟩=some (.string d.af):=BxC.cell HX3.out 5;have p6:w3.cell? ⟨w.heap.size+1,6,none⟩=some (.string d.sc):=BxC.cell HX3.out 6;have p7:w3.cell? ⟨w.heap.size+1,7,none⟩=some (.string d.sr):=BxC.cell HX3.out 7;have k0:w3.cell? ⟨w.heap.size,0,none⟩=some (.string M):=HK3.out.cell 0;have k1:w3.cell? ⟨w.heap.size,1,none⟩=some (.string O):=HK3.out.cell 1;have k2:w3.cell? ⟨w.heap.size,2,none⟩=some (.string G):=HK3.out.cell 2;have k3:w3.cell? ⟨w.heap.size,3,none⟩=some (.string Y):=HK3.out.cell 3;go_wp2_with fail;refine(HC1.out _ HB3.out).mono ?_;rintro e w4 ⟨Ax,cx,rfl,hsx,hb4⟩;dsimp only at hsx;have HSX:=Hq hsx;have HK4:=Hq (HK3.out.next hb4);have HX4:=Hq (HX3.out.next hb4);have HB4:=Hq (HB3.out.trans (hb4.mono HB3.out.size));clear hb4 hsx p0 p1 p2 p3 p4 p5 p6 p7 k0 k1 k2 k3;obtain⟨rn,hrn⟩:∃ rn,rl.length=rn:=⟨_,rfl⟩;dsimp only;rw[hrn]at HSX⊢;have p0:w4.cell? ⟨w.heap.size+1,0,none⟩=some (.int .i64 d.fr):=BxC.cell HX4.out 0;have p1:w4.cell? ⟨w.heap.size+1,1,none⟩=some (.int .i64 d.to):=BxC.cell HX4.out 1;have p2:w4.cell? ⟨w.heap.size+1,2,none⟩=some (.slice A1 n1 c1):=BxC.cell HX4.out 2;have p3:w4.cell? ⟨w.heap.size+1,3,none⟩=some (.slice A2 n2 c2):=BxC.cell HX4.out 3;have p4:w4.cell? ⟨w.heap.size+1,4,none⟩=some (.string d.be):=BxC.cell HX4.out 4;have p5:w4.cell? ⟨w.heap.size+1,5,none⟩=some (.string d.af):=BxC.cell HX4.out 5;have p6:w4.cell? ⟨w.heap.size+1,6,none⟩=some (.string d.sc):=BxC.cell HX4.out 6;have p7:w4.cell? ⟨w.heap.size+1,7,none⟩=some (.string d.sr):=BxC.cell HX4.out 7;have k0:w4.cell? ⟨w.heap.size,0,none⟩=some (.string M):=HK4.out.cell 0;have k1:w4.cell? ⟨w.heap.size,1,none⟩=some (.string O):=HK4.out.cell 1;have k2:w4.cell? ⟨w.heap.size,2,none⟩=some (.string G):=HK4.out.cell 2;have k3:w4.cell? ⟨w.heap.size,3,none⟩=some (.string Y):=HK4.out.cell 3;go_wp2_with fail;refine(HC2.out _ HB4.out).mono ?_;rintro e w5 ⟨Ay,cy,rfl,hsy,hb5⟩;dsimp only at hsy;rw[hrn]at hsy;have HSY:=Hq hsy;have HSX5:=Hq (HSX.out.kept hb5 (Nat.le_refl _));have HB5:=Hq (HB4.out.trans (hb5.mono HB4.out.size));clear hb5 hsy p0 p1 p2 p3 p4 p5 p6 p7 k0 k1 k2 k3 HSX;dsimp only;rw[hrn];clear hrn;have HSM:=Hq (law37_same rl Ax Ay rn cx rn cy w5 HSX5.out HSY.out);go_wp2_with fail;refine HSM.out.mono ?_;rintro e w6 ⟨rfl,hb6⟩;have HB6:=Hq (HB5.out.trans (hb6.mono HB5.out.size));clear hb6;go_wp2;go_loopw [11] (fun i wr=>∃ z:Int,-1≤z∧z≤(len:Int)+2∧i=.int .i64 z∧Below w.heap.size w wr) (fun i _=>((len:Int)+2 - intOf i).toNat);case atStart=>exact⟨-1,by omega,by omega,rfl,HB6.out⟩
    case round =>
     obtain⟨z,hz1,hz2,rfl,hbb⟩:=hrel;have HB:=Hq hbb;clear hbb;by_cases hlt:z≤(len:Int)+1
     · have HA1:=Hq (ep_AtG l A len cap z wr (HSW.out.kept HB.out (Nat.le_refl _)) (by omega) (by omega) (by omega));have HA2:=Hq (r37_At l A len cap z wr (HSW.out.kept HB.out (Nat.le_refl _)) (by omega) (by omega) (by omega));obtain⟨ra,hra⟩:∃ ra,atR l z=ra:=⟨_,rfl⟩;rw[hra]at HA1 HA2;clear hra;obtain⟨rx,rg⟩:=ra;have hxx:(rx.toList==rx.toList)=true:=beq_self_eq_true _;have hgg:(rg != rg)=false:=by simp
       dsimp only at HA1 HA2;go_wp2_with fail;refine HA1.out.mono ?_;rintro e w7 ⟨rfl,rfl⟩;go_wp2_with fail;refine HA2.out.mono ?_;rintro e w8 ⟨rfl,rfl⟩;go_wp2;go_roundw;case rel=>exact⟨z+1,by omega,by omega,rfl,HB.out⟩
       case measure=>simp[intOf];omega
     · skip;go_wp2_with fail;refine(law_awake _).mono ?_;rintro e wa ⟨rfl,hba⟩;have HBA:=Hq (HB.out.trans (hba.mono HB.out.size));clear hba;go_wp2;go_ret;exact⟨rfl,HBA.out⟩
end Go.Proofs.YthcekkeknonefaaGreat

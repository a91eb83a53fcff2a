import Derived.Test.YtkfgdcgmlobhfaaGreatQEpN
set_option linter.unusedVariables false
set_option linter.unusedSimpArgs false
namespace Go.Proofs.YtkfgdcgmlobhfaaGreat
set_option maxRecDepth 100000
set_option maxHeartbeats 4000000
open Go.RowKit
def Dl.vals(d:Dl)(a r:Value):List Value:=[.int .i64 d.fr,.int .i64 d.to,a,r,.string d.be,.string d.af,.string d.sc,.string d.sr]
def DIn(w:World)(b p:Nat)(d:Dl)(A1:Option Addr)(n1 c1:Nat)(A2:Option Addr)(n2 c2:Nat):Prop:=(∀ j u,(d.vals (.slice A1 n1 c1) (.slice A2 n2 c2))[j]? =some u→w.cell? ⟨b,p+j,none⟩=some u)∧SlN w A1 n1 c1 d.ad∧SlN w A2 n2 c2 d.rm
theorem DIn.kept{B:Nat}{w w':World}{b p n1 c1 n2 c2:Nat}{d:Dl}{A1 A2:Option Addr}(h:DIn w b p d A1 n1 c1 A2 n2 c2)(hb:Below B w w')(hB:w.heap.size≤B):DIn w' b p d A1 n1 c1 A2 n2 c2:=
 ⟨fun j u hu=>cell_kept hb hB (h.1 j u hu),h.2.1.kept hb hB,h.2.2.kept hb hB⟩
def SlD(w:World)(A:Option Addr)(len cap:Nat)(l:List Dl):Prop:=
 l.length=len∧len≤cap∧cap≤9223372036854775807∧∃ b o,(0<len→A=some ⟨b,o,none⟩)∧∀ k d,l[k]? =some d→∃ A1 n1 c1 A2 n2 c2,DIn w b (o+k * 8) d A1 n1 c1 A2 n2 c2
theorem SlD.kept{B:Nat}{w w':World}{A:Option Addr}{len cap:Nat}{l:List Dl}(h:SlD w A len cap l)(hb:Below B w w')(hB:w.heap.size≤B):SlD w' A len cap l:=
 let ⟨h1,h2,h3,b,o,h4,h5⟩:=h
 ⟨h1,h2,h3,b,o,h4,fun k d hk=>let ⟨A1,n1,c1,A2,n2,c2,h6⟩:=h5 k d hk;⟨A1,n1,c1,A2,n2,c2,h6.kept hb hB⟩⟩
theorem SlD.get{w:World}{A:Option Addr}{len cap:Nat}{l:List Dl}(h:SlD w A len cap l){k:Nat}{d:Dl}(hk:l[k]? =some d):∃ b o,A=some ⟨b,o,none⟩∧∃ A1 n1 c1 A2 n2 c2,DIn w b (o+k * 8) d A1 n1 c1 A2 n2 c2:=by
 obtain⟨h1,_,_,b,o,h4,h5⟩:=h;have:=(List.getElem?_eq_some_iff.1 hk).1;exact⟨b,o,h4 (by omega),h5 k d hk⟩
theorem SlD.nil(w:World)(A:Option Addr)(cap:Nat)(h:cap≤9223372036854775807):SlD w A 0 cap []:=⟨rfl,Nat.zero_le _,h,0,0,fun h=>by omega,fun k e h=>by simp at h⟩
def RetF(P:Prop)(w:World)(e:Ending)(w':World):Prop:=∃ b,e=.returned (.bool b)∧(b=true→P)∧Below w.heap.size w w'
def zgs(l:List ByteArray):Prop:=l.length≤20∧∀ s∈l,s.size≤16
structure FewD (d:Dl):Prop where
 ad:zgs d.ad
 rm:zgs d.rm
 xs:zgs [d.be,d.af,d.sc,d.sr]
theorem zca(l:List ByteArray)(A:Option Addr)(n c:Nat)(w:World)(hs:SlN w A n c l)(hz:SzL l):Calls Tryz.prog 5 #[.slice A n c] w (RetF (zgs l) w):=by
 have HS:=Hq hs;have HLEN:=Hq hs.1;have HZ:=Hq hz;have hcap:=hs.2.1;have hcap2:=hs.2.2.1;clear hs hz;go_enter Tryz.func5,Tryz.ntmps5;go_wp2
 go_loop [3] (fun k=>∃ j:Nat,j≤n∧j≤20∧k=.int .i64 j∧(∀(i:Nat) y,i<j→l[i]? =some y→y.size≤16)) (fun k=>n - (intOf k).toNat)
 case atStart=>exact⟨0,Nat.zero_le _,by omega,rfl,fun i u h=>absurd h (Nat.not_lt_zero _)⟩
 case round =>
  obtain⟨j,hj,hj2,rfl,hall⟩:=hrel;have HALL:=Hq hall;clear hall;by_cases hlt:j<n
  · by_cases h20:j<20
    · obtain⟨y,he⟩:∃ y,l[j]? =some y:=⟨_,List.getElem?_eq_getElem (by rw[HLEN.out];exact hlt)⟩;obtain⟨b,o,rfl,e1⟩:=HS.out.cell he;have hy:=HZ.out y (List.mem_of_getElem? he);have HE:=Hq he;clear he;have i20:(j:Int)<20:=by omega
      by_cases h16:y.size≤16
      · have hd:decide (16<(y.size:Int))=false:=decide_eq_false (by omega);have hd':decide (16<y.size)=false:=decide_eq_false (by omega);have HA2:=Hq (show ∀(i:Nat) u,i<j+1→l[i]? =some u→u.size≤16 from fun i u hi hu=>by
         rcases Nat.lt_or_ge i j with h | h
         · exact HALL.out i u h hu
         · obtain rfl:i=j:=by omega
           rw[HE.out]at hu;cases hu;exact h16)
        clear h16;go_wp2;go_round;case rel=>exact⟨j+1,by omega,by omega,by go_num,HA2.out⟩
        case measure=>simp[intOf];omega
      · have hd:decide (16<(y.size:Int))=true:=decide_eq_true (by omega);have hd':decide (16<y.size)=true:=decide_eq_true (by omega);clear h16;go_wp2;go_ret;exact⟨false,rfl,(fun h=>by cases h),Below.refl _ _⟩
    · obtain rfl:j=20:=by omega
      have hd:decide ((n:Int)≤20)=false:=decide_eq_false (by omega);have hd':decide (n≤20)=false:=decide_eq_false (by omega);clear HALL h20;go_wp2;go_ret;exact⟨false,rfl,(fun h=>by cases h),Below.refl _ _⟩
  · obtain rfl:j=n:=by omega
    have HF:=Hq (show zgs l from⟨by rw[HLEN.out];exact hj2,fun s hs=>by
     obtain⟨i,hi⟩:=List.getElem?_of_mem hs
     exact HALL.out i s (by have:=(List.getElem?_eq_some_iff.1 hi).1;rw[HLEN.out]at this;exact this) hi⟩)
    have hd:decide ((j:Int)≤20)=true:=decide_eq_true (by omega);have hd':decide (j≤20)=true:=decide_eq_true (by omega);clear hlt hj;go_wp2;go_ret;exact⟨true,rfl,(fun _=>HF.out),Below.refl _ _⟩
def SzD(l:List Dl):Prop:=∀ d∈l,SzL d.str
theorem DIn.cell{w:World}{b p n1 c1 n2 c2:Nat}{d:Dl}{A1 A2:Option Addr}(h:DIn w b p d A1 n1 c1 A2 n2 c2)(j:Nat){u:Value}(hu:(d.vals (.slice A1 n1 c1) (.slice A2 n2 c2))[j]? =some u):w.cell? ⟨b,p+j,none⟩=some u:=h.1 j u hu
theorem zmi(l:List Dl)(A:Option Addr)(n c:Nat)(w:World)(hs:SlD w A n c l)(hz:SzD l):Calls Tryz.prog 4 #[.slice A n c] w (RetF (n≤12∧∀ d∈l,FewD d) w):=by
 have HS:=Hq hs;have HLEN:=Hq hs.1;have HZ:=Hq hz;have hcap:=hs.2.1;have hcap2:=hs.2.2.1;clear hs hz;go_enter Tryz.func4,Tryz.ntmps4;go_wp2;go_loopw [3] (fun k wr=>∃ j:Nat,j≤n∧j≤20∧k=.int .i64 j∧(∀(i:Nat) d,i<j→l[i]? =some d→FewD d)∧Below w.heap.size w wr) (fun k _=>n - (intOf k).toNat);case atStart=>exact⟨0,Nat.zero_le _,by omega,rfl,fun i u h=>absurd h (Nat.not_lt_zero _),Below.refl _ _⟩
 case round =>
  obtain⟨j,hj,hj2,rfl,hall,hbb⟩:=hrel;have HALL:=Hq hall;have HB:=Hq hbb;clear hall hbb;by_cases hlt:j<n
  · by_cases h20:j<20
    · obtain⟨d,he⟩:∃ d,l[j]? =some d:=⟨_,List.getElem?_eq_getElem (by rw[HLEN.out];exact hlt)⟩;obtain⟨b,o,rfl,A1,n1,c1,A2,n2,c2,hin⟩:=(HS.out.kept HB.out nlr).get he;have HZD:=Hq (HZ.out d (List.mem_of_getElem? he));have HIN:=Hq hin;have HE:=Hq he;clear he hin;have i20:(j:Int)<20:=by omega
      have x0:wr.cell? ⟨b,o+j * 8,none⟩=some (.int .i64 d.fr):=HIN.out.cell 0 rfl;have x1:wr.cell? ⟨b,o+j * 8+1,none⟩=some (.int .i64 d.to):=HIN.out.cell 1 rfl;have x2:wr.cell? ⟨b,o+j * 8+2,none⟩=some (.slice A1 n1 c1):=HIN.out.cell 2 rfl;have x3:wr.cell? ⟨b,o+j * 8+3,none⟩=some (.slice A2 n2 c2):=HIN.out.cell 3 rfl;have x4:wr.cell? ⟨b,o+j * 8+4,none⟩=some (.string d.be):=HIN.out.cell 4 rfl;have x5:wr.cell? ⟨b,o+j * 8+5,none⟩=some (.string d.af):=HIN.out.cell 5 rfl;have x6:wr.cell? ⟨b,o+j * 8+6,none⟩=some (.string d.sc):=HIN.out.cell 6 rfl;have x7:wr.cell? ⟨b,o+j * 8+7,none⟩=some (.string d.sr):=HIN.out.cell 7 rfl;obtain⟨WX,hWX⟩:∃ WX,wr.alloc (.cells #[.int .i64 d.fr,.int .i64 d.to,.slice A1 n1 c1,.slice A2 n2 c2,.string d.be,.string d.af,.string d.sc,.string d.sr] 50)=WX:=⟨_,rfl⟩;obtain⟨BX,hBX⟩:∃ BX,wr.heap.size=BX:=⟨_,rfl⟩;have hbX:Below wr.heap.size wr WX:=by rw[←hWX];exact(blr).alloc nlr _
      have HX:=Hq (show BxC WX BX #[.int .i64 d.fr,.int .i64 d.to,.slice A1 n1 c1,.slice A2 n2 c2,.string d.be,.string d.af,.string d.sc,.string d.sr] 50 from by rw[←hWX,←hBX];exact BxC.new _ _ _);have HAD:=Hq (HIN.out.2.1.kept hbX nlr);have HRM:=Hq (HIN.out.2.2.kept hbX nlr);have HBX:=Hq (HB.out.trans (hbX.mono HB.out.size));have y2:WX.cell? ⟨BX,2,none⟩=some (.slice A1 n1 c1):=HX.out.cell 2;have y3:WX.cell? ⟨BX,3,none⟩=some (.slice A2 n2 c2):=HX.out.cell 3;clear hbX;go_wp2_with fail;refine(zca d.ad A1 n1 c1 WX HAD.out (fun s hs=>HZD.out s (by unfold Dl.str;simp[hs]))).mono ?_;rintro e w1 ⟨b1,rfl,h1,hb⟩;have HB1:=Hq (HBX.out.trans (hb.mono HBX.out.size));have HX1:=Hq (HX.out.next hb);have HRM1:=Hq (HRM.out.kept hb nlr);have z3:w1.cell? ⟨BX,3,none⟩=some (.slice A2 n2 c2):=HX1.out.cell 3;have H1:=Hq h1;clear hb h1 x0 x1 x2 x3 x4 x5 x6 x7 y2 y3 hWX hBX
      cases b1 with
      | false =>
       go_wp2;go_ret;exact⟨false,rfl,(fun h=>by cases h),HB1.out⟩
      | true =>
       go_wp2_with fail;refine(zca d.rm A2 n2 c2 w1 HRM1.out (fun s hs=>HZD.out s (by unfold Dl.str;simp[hs]))).mono ?_;rintro e w2 ⟨b2,rfl,h2,hb⟩;have HB2:=Hq (HB1.out.trans (hb.mono HB1.out.size));have HX2:=Hq (HX1.out.next hb);have H2:=Hq h2;clear hb h2 z3;have y4:w2.cell? ⟨BX,4,none⟩=some (.string d.be):=HX2.out.cell 4;have y5:w2.cell? ⟨BX,5,none⟩=some (.string d.af):=HX2.out.cell 5;have y6:w2.cell? ⟨BX,6,none⟩=some (.string d.sc):=HX2.out.cell 6;have y7:w2.cell? ⟨BX,7,none⟩=some (.string d.sr):=HX2.out.cell 7
       cases b2 with
       | false =>
        go_wp2;go_ret;exact⟨false,rfl,(fun h=>by cases h),HB2.out⟩
       | true =>
        go_wp2_with fail;refine(zca [d.be,d.af,d.sc,d.sr] (some ⟨w2.heap.size,0,none⟩) 4 4 (w2.alloc (.cells #[.string d.be,.string d.af,.string d.sc,.string d.sr] 22)) (SlN.new w2 [d.be,d.af,d.sc,d.sr] 22 (by simp)) (fun s hs=>HZD.out s (by unfold Dl.str;simp only[List.mem_append];exact .inr hs))).mono ?_;rintro e w3 ⟨b3,rfl,h3,hb⟩;have HB3:=Hq (HB2.out.trans ((((Below.refl w2.heap.size w2).alloc nlr _).trans (hb.mono (by simp))).mono HB2.out.size));have H3:=Hq h3;clear hb h3 y4 y5 y6 y7
        cases b3 with
        | false =>
         go_wp2;go_ret;exact⟨false,rfl,(fun h=>by cases h),HB3.out⟩
        | true =>
         have HA2:=Hq (show ∀(i:Nat) u,i<j+1→l[i]? =some u→FewD u from fun i u hi hu=>by
          rcases Nat.lt_or_ge i j with h | h
          · exact HALL.out i u h hu
          · obtain rfl:i=j:=by omega
            rw[HE.out]at hu;cases hu;exact⟨H1.out (by trivial),H2.out (by trivial),H3.out (by trivial)⟩)
         go_wp2;go_roundw;case rel=>exact⟨j+1,by omega,by omega,by go_num,HA2.out,HB3.out⟩
         case measure=>simp[intOf];omega
    · obtain rfl:j=20:=by omega
      have hd:decide ((n:Int)≤12)=false:=decide_eq_false (by omega);have hd':decide (n≤12)=false:=decide_eq_false (by omega);clear HALL h20;go_wp2;go_ret;exact⟨false,rfl,(fun h=>by cases h),HB.out⟩
  · obtain rfl:j=n:=by omega
    have HF:=Hq (show ∀ d∈l,FewD d from fun s hs=>by
     obtain⟨i,hi⟩:=List.getElem?_of_mem hs
     exact HALL.out i s (by have:=(List.getElem?_eq_some_iff.1 hi).1;rw[HLEN.out]at this;exact this) hi)
    clear hlt hj HALL;by_cases h12:j≤12
    · have hd:decide ((j:Int)≤12)=true:=decide_eq_true (by omega);have hd':decide (j≤12)=true:=decide_eq_true (by omega);have HN:=Hq h12;clear h12;go_wp2;go_ret;exact⟨true,rfl,(fun _=>⟨HN.out,HF.out⟩),HB.out⟩
    · have hd:decide ((j:Int)≤12)=false:=decide_eq_false (by omega);have hd':decide (j≤12)=false:=decide_eq_false (by omega);clear h12;go_wp2;go_ret;exact⟨false,rfl,(fun h=>by cases h),HB.out⟩
set_option maxRecDepth 100000
set_option maxHeartbeats 1000000
theorem zns(l:List ByteArray)(A B:Option Addr)(n c n' c':Nat)(w:World)(hs:SlN w A n c l)(hs':SlN w B n' c' l):Calls Tryz.prog 20 #[.slice A n c,.slice B n' c'] w (Ret (.bool true) w):=by
 obtain rfl:n'=n:=by rw[←hs.1,←hs'.1]
 have HS:=Hq hs;have HS':=Hq hs';have HLEN:=Hq hs.1;have hcap:=hs.2.1;have hcap2:=hs.2.2.1;have hcap':=hs'.2.1;have hcap2':=hs'.2.2.1;clear hs hs';go_enter Tryz.func20,Tryz.ntmps20;go_wp2;go_loopw [5] (fun k wr=>∃ j:Nat,j≤n'∧k=.int .i64 j∧Below w.heap.size w wr) (fun k _=>n' - (intOf k).toNat);case atStart=>exact⟨0,Nat.zero_le _,rfl,Below.refl _ _⟩
 case round =>
  obtain⟨j,hj,rfl,hbb⟩:=hrel;have HB:=Hq hbb;clear hbb;by_cases hlt:j<n'
  · obtain⟨y,he⟩:∃ y,l[j]? =some y:=⟨_,List.getElem?_eq_getElem (by rw[HLEN.out];exact hlt)⟩;obtain⟨b,o,rfl,e1⟩:=(HS.out.kept HB.out nlr).cell he;obtain⟨b2,o2,rfl,e2⟩:=(HS'.out.kept HB.out nlr).cell he;have e1:wr.drew.cell? ⟨b,o+j,none⟩=some (.string y):=e1;have e2:wr.drew.cell? ⟨b2,o2+j,none⟩=some (.string y):=e2;clear he;go_wp2;refine zg 9 (Below (wr.drew).heap.size (wr.drew)) (by kernel_rfl) ?_;intro hD;refine qPD 0 17 8 rfl hD blr ?_;clear hD;intro hD;simp only[Act.put,sqA,sqB,sqC];refine qPD 1 18 7 rfl hD blr ?_;clear hD;intro hD;simp only[Act.put,sqA,sqB,sqC];refine qPD 2 19 6 rfl hD blr ?_;clear hD;intro hD;simp only[Act.put,sqA,sqB,sqC];refine qSD 3 20 5 rfl hD blr (by intro w' hS';have e0:=kc hS' e1;have e1:=kc hS' e2;go_simp;with_reducible rfl) ?_;clear hD;intro hD;simp only[Act.put,sqA,sqB,sqC];refine qPD 4 21 4 rfl hD blr ?_;clear hD;intro hD;simp only[Act.put,sqA,sqB,sqC];refine qPD 5 22 3 rfl hD blr ?_;clear hD;intro hD;simp only[Act.put,sqA,sqB,sqC];refine qPD 6 23 2 rfl hD blr ?_;clear hD;intro hD;simp only[Act.put,sqA,sqB,sqC];refine qSD 7 24 1 rfl hD blr (by intro w' hS';have e0:=kc hS' e1;have e1:=kc hS' e2;go_simp;with_reducible rfl) ?_;clear hD;intro hD;simp only[Act.put,sqA,sqB,sqC];refine qPD 8 25 0 rfl hD blr ?_;clear hD;intro hD;simp only[Act.put,sqA,sqB,sqC];refine ze (by kernel_rfl) ?_ 0;clear hD;have HB2:=Hq (show Below w.heap.size w wr.drew from HB.out.trans ((Below.refl wr.heap.size wr).drew.mono HB.out.size));go_wp2;go_roundw;case rel=>exact⟨j+1,by omega,by go_num,HB2.out⟩
    case measure=>simp[intOf];omega
  · obtain rfl:j=n':=by omega
    clear hlt hj;go_wp2;go_ret;exact⟨rfl,HB.out⟩
theorem znm(l:List ByteArray)(A B:Option Addr)(n c n' c':Nat)(w:World)(hs:SlN w A n c l)(hs':SlN w B n' c' l):Calls Tryz.prog 12 #[.slice A n c,.slice B n' c'] w (Ret (.bool true) w):=by
 obtain rfl:n'=n:=by rw[←hs.1,←hs'.1]
 have HS:=Hq hs;have HS':=Hq hs';have HLEN:=Hq hs.1;have hcap:=hs.2.1;have hcap2:=hs.2.2.1;have hcap':=hs'.2.1;have hcap2':=hs'.2.2.1;clear hs hs';go_enter Tryz.func12,Tryz.ntmps12;go_wp2;go_loopw [13] (fun k wr=>∃ j:Nat,j≤n'∧k=.int .i64 j∧Below w.heap.size w wr) (fun k _=>n' - (intOf k).toNat);case atStart=>exact⟨0,Nat.zero_le _,rfl,Below.refl _ _⟩
 case round =>
  obtain⟨j,hj,rfl,hbb⟩:=hrel;have HB:=Hq hbb;clear hbb;by_cases hlt:j<n'
  · obtain⟨y,he⟩:∃ y,l[j]? =some y:=⟨_,List.getElem?_eq_getElem (by rw[HLEN.out];exact hlt)⟩;obtain⟨b,o,rfl,e1⟩:=(HS.out.kept HB.out nlr).cell he;obtain⟨b2,o2,rfl,e2⟩:=(HS'.out.kept HB.out nlr).cell he;have e1:wr.drew.cell? ⟨b,o+j,none⟩=some (.string y):=e1;have e2:wr.drew.cell? ⟨b2,o2+j,none⟩=some (.string y):=e2;clear he;go_wp2;refine zg 9 (Below (wr.drew).heap.size (wr.drew)) (by kernel_rfl) ?_;intro hD;refine qPD 0 16 8 rfl hD blr ?_;clear hD;intro hD;simp only[Act.put,sqA,sqB,sqC];refine qPD 1 17 7 rfl hD blr ?_;clear hD;intro hD;simp only[Act.put,sqA,sqB,sqC];refine qPD 2 18 6 rfl hD blr ?_;clear hD;intro hD;simp only[Act.put,sqA,sqB,sqC];refine qSD 3 19 5 rfl hD blr (by intro w' hS';have e0:=kc hS' e1;have e1:=kc hS' e2;go_simp;with_reducible rfl) ?_;clear hD;intro hD;simp only[Act.put,sqA,sqB,sqC];refine qPD 4 20 4 rfl hD blr ?_;clear hD;intro hD;simp only[Act.put,sqA,sqB,sqC];refine qPD 5 21 3 rfl hD blr ?_;clear hD;intro hD;simp only[Act.put,sqA,sqB,sqC];refine qPD 6 22 2 rfl hD blr ?_;clear hD;intro hD;simp only[Act.put,sqA,sqB,sqC];refine qSD 7 23 1 rfl hD blr (by intro w' hS';have e0:=kc hS' e1;have e1:=kc hS' e2;go_simp;with_reducible rfl) ?_;clear hD;intro hD;simp only[Act.put,sqA,sqB,sqC];refine qPD 8 24 0 rfl hD blr ?_;clear hD;intro hD;simp only[Act.put,sqA,sqB,sqC];refine ze (by kernel_rfl) ?_ 0;clear hD;have HB2:=Hq (show Below w.heap.size w wr.drew from HB.out.trans ((Below.refl wr.heap.size wr).drew.mono HB.out.size));go_wp2;go_roundw;case rel=>exact⟨j+1,by omega,by go_num,HB2.out⟩
    case measure=>simp[intOf];omega
  · obtain rfl:j=n':=by omega
    clear hlt hj;go_wp2;go_ret;exact⟨rfl,HB.out⟩
theorem zs4(d:Dl)(b:Nat)(a r:Value)(w:World)(hb:BxC w b (d.arr a r) 50):Calls Tryz.prog 11 #[.slice (some ⟨b,0,none⟩) 1 1,.int .i64 1] w (RetQ (.tuple #[.string d.af,.int .i64 0]) w):=by
 have c5:w.cell? ⟨b,5,none⟩=some (.string d.af):=hb.cell 5;clear hb;go_enter Tryz.func11,Tryz.ntmps11;go_wp2;go_ret2;exact⟨rfl,rfl⟩
def Dl.strip(d:Dl):Dl:={ d with sc:=⟨#[]⟩,sr:=⟨#[]⟩ }
def xp(d:Dl):List Dl→Dl×Int
 | []=>(d,0)
 | x::l=>if (jn d x).2=0 then xp (jn d x).1 l else(Dl.zero,(jn d x).2)
def btw(l:List Dl)(F T:Nat):Dl×Int:=match l[F]? with
 | none=>(Dl.zero,2)
 | some d=>if T=F+1∧d.strip.msg.2≠0 then(Dl.zero,d.strip.msg.2)else xp d.strip ((l.drop (F+1)).take (T - (F+1)))
def bt(l:List Dl)(f t:Int):Dl×Int:=if f<0∨t≤f∨(l.length:Int)<t then(Dl.zero,2)else btw l f.toNat t.toNat
theorem zmh(na nb:ByteArray→Bool)(a b:List ByteArray):(mrg na nb a b).length≤a.length+b.length:=by
 fun_induction mrg na nb a b<;>simp only[List.length_nil,List.length_cons]at *<;>omega
theorem zq2{a b:Dl}(h:(jn a b).2=0):(jn a b).1=⟨a.fr,b.to,mrg (memB b.rm) (memB a.rm) a.ad b.ad,mrg (memB b.ad) (memB a.ad) a.rm b.rm,a.be,b.af,⟨#[]⟩,⟨#[]⟩⟩∧a.msg.2=0∧b.msg.2=0∧a.to=b.fr∧a.af=b.be∧qt a b=false:=by
 unfold jn at h⊢;by_cases h1:a.msg.2=0
 · rw[if_neg (by simpa using h1)]at h⊢;by_cases h2:b.msg.2=0
   · rw[if_neg (by simpa using h2)]at h⊢;by_cases h3:a.to=b.fr
     · rw[if_neg (by simpa using h3)]at h⊢;by_cases h4:a.af=b.be
       · rw[if_neg (by simpa using h4)]at h⊢
         cases h5:qt a b with
         | false=>rw[if_neg (by simp)];exact⟨rfl,h1,h2,h3,h4,rfl⟩
         | true=>rw[h5,if_pos rfl]at h;cases h
       · rw[if_pos h4]at h;cases h
     · rw[if_pos h3]at h;cases h
   · rw[if_pos h2]at h;exact absurd h h2
 · rw[if_pos h1]at h;exact absurd h h1
theorem zmj{a b:Dl}(h:(jn a b).2≠0):(jn a b).1=Dl.zero:=by
 unfold jn at h⊢;split
 · rfl
 · split
   · rfl
   · split
     · rfl
     · split
       · rfl
       · split
         · rfl
         · rename_i h1 h2 h3 h4 h5;rw[if_neg h1,if_neg h2,if_neg h3,if_neg h4,if_neg h5]at h;exact absurd rfl h
theorem zjg{a b:Dl}:(jn a b).1.ad.length≤a.ad.length+b.ad.length∧(jn a b).1.rm.length≤a.rm.length+b.rm.length:=by
 by_cases h:(jn a b).2=0
 · rw[(zq2 h).1];exact⟨zmh _ _ _ _,zmh _ _ _ _⟩
 · rw[zmj h];exact⟨Nat.zero_le _,Nat.zero_le _⟩
theorem zq1{a b:Dl}(ha:SzL a.str)(hb:SzL b.str):SzL (jn a b).1.str:=by
 by_cases h:(jn a b).2=0
 · rw[(zq2 h).1];intro s hs;simp only[Dl.str,List.mem_append,zaz,List.mem_cons,List.mem_nil_iff,or_false]at hs;rcases hs with((⟨h,_⟩ | ⟨h,_⟩) | (⟨h,_⟩ | ⟨h,_⟩)) | rfl | rfl | rfl | rfl
   · exact ha s (by unfold Dl.str;simp[h])
   · exact hb s (by unfold Dl.str;simp[h])
   · exact ha s (by unfold Dl.str;simp[h])
   · exact hb s (by unfold Dl.str;simp[h])
   · exact ha _ (by unfold Dl.str;simp)
   · exact hb _ (by unfold Dl.str;simp)
   · decide
   · decide
 · rw[zmj h];intro s hs;simp[Dl.str,Dl.zero]at hs;subst hs;decide
theorem zi4{d:Dl}(h:SzL d.str):SzL d.strip.str:=by
 intro s hs;simp only[Dl.str,Dl.strip,List.mem_append,List.mem_cons,List.mem_nil_iff,or_false]at hs;rcases hs with(h' | h') | rfl | rfl | rfl | rfl
 · exact h s (by unfold Dl.str;simp[h'])
 · exact h s (by unfold Dl.str;simp[h'])
 · exact h _ (by unfold Dl.str;simp)
 · exact h _ (by unfold Dl.str;simp)
 · decide
 · decide
theorem zb1{l:List Dl}{i T:Nat}{x:Dl}(hx:l[i]? =some x)(hT:i<T):(l.drop i).take (T - i)=x::(l.drop (i+1)).take (T - (i+1)):=by
 obtain⟨hl,rfl⟩:=List.getElem?_eq_some_iff.1 hx;rw[List.drop_eq_getElem_cons hl,show T - i=(T - (i+1))+1 from by omega,List.take_succ_cons]
theorem zff{d:Dl}{l:List Dl}{i T:Nat}{x:Dl}(hx:l[i]? =some x)(hT:i<T)(h:(jn d x).2=0):xp d ((l.drop i).take (T - i))=xp (jn d x).1 ((l.drop (i+1)).take (T - (i+1))):=by
 rw[zb1 hx hT,xp,if_pos h]
theorem zhn{d:Dl}{l:List Dl}{i T:Nat}{x:Dl}(hx:l[i]? =some x)(hT:i<T)(h:(jn d x).2≠0):xp d ((l.drop i).take (T - i))=(Dl.zero,(jn d x).2):=by
 rw[zb1 hx hT,xp,if_neg h]
theorem zmo(d:Dl)(l:List Dl)(T:Nat):xp d ((l.drop T).take (T - T))=(d,0):=by
 rw[Nat.sub_self,List.take_zero,xp]
end Go.Proofs.YtkfgdcgmlobhfaaGreat

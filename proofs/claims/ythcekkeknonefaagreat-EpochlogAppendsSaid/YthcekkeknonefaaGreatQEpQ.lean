import Derived.Test.YthcekkeknonefaaGreatQEpG
set_option linter.unusedVariables false
set_option linter.unusedSimpArgs false
namespace Go.Proofs.YthcekkeknonefaaGreat
set_option maxRecDepth 100000
set_option maxHeartbeats 4000000
open Go.RowKit
def Dl.vals(d:Dl)(a r:Value):List Value:=[.int .i64 d.fr,.int .i64 d.to,a,r,.string d.be,.string d.af,.string d.sc,.string d.sr]
def DIn(w:World)(b p:Nat)(d:Dl)(A1:Option Addr)(n1 c1:Nat)(A2:Option Addr)(n2 c2:Nat):Prop:=(∀ j u,(d.vals (.slice A1 n1 c1) (.slice A2 n2 c2))[j]? =some u→w.cell? ⟨b,p+j,none⟩=some u)∧SlN w A1 n1 c1 d.ad∧SlN w A2 n2 c2 d.rm
theorem DIn.kept{B:Nat}{w w':World}{b p n1 c1 n2 c2:Nat}{d:Dl}{A1 A2:Option Addr}(h:DIn w b p d A1 n1 c1 A2 n2 c2)(hb:Below B w w')(hB:w.heap.size≤B):DIn w' b p d A1 n1 c1 A2 n2 c2:=
 ⟨fun j u hu=>cell_kept hb hB (h.1 j u hu),h.2.1.kept hb hB,h.2.2.kept hb hB⟩
def SlD(w:World)(A:Option Addr)(len cap:Nat)(l:List Dl):Prop:=
 l.length=len∧len≤cap∧cap≤9223372036854775807∧∃ b o,(0<len→A=some ⟨b,o,none⟩)∧∀ k d,l[k]? =some d→∃ A1 n1 c1 A2 n2 c2,DIn w b (o+k * 8) d A1 n1 c1 A2 n2 c2
theorem SlD.kept{B:Nat}{w w':World}{A:Option Addr}{len cap:Nat}{l:List Dl}(h:SlD w A len cap l)(hb:Below B w w')(hB:w.heap.size≤B):SlD w' A len cap l:=
 let ⟨h1,h2,h3,b,o,h4,h5⟩:=h
 ⟨h1,h2,h3,b,o,h4,fun k d hk=>let ⟨A1,n1,c1,A2,n2,c2,h6⟩:=h5 k d hk;⟨A1,n1,c1,A2,n2,c2,h6.kept hb hB⟩⟩
theorem SlD.get{w:World}{A:Option Addr}{len cap:Nat}{l:List Dl}(h:SlD w A len cap l){k:Nat}{d:Dl}(hk:l[k]? =some d):∃ b o,A=some ⟨b,o,none⟩∧∃ A1 n1 c1 A2 n2 c2,DIn w b (o+k * 8) d A1 n1 c1 A2 n2 c2:=by
 obtain⟨h1,_,_,b,o,h4,h5⟩:=h;have:=(List.getElem?_eq_some_iff.1 hk).1;exact⟨b,o,h4 (by omega),h5 k d hk⟩
theorem SlD.nil(w:World)(A:Option Addr)(cap:Nat)(h:cap≤9223372036854775807):SlD w A 0 cap []:=⟨rfl,Nat.zero_le _,h,0,0,fun h=>by omega,fun k e h=>by simp at h⟩
def RetF(P:Prop)(w:World)(e:Ending)(w':World):Prop:=∃ b,e=.returned (.bool b)∧(b=true→P)∧Below w.heap.size w w'
def Short(l:List ByteArray):Prop:=l.length≤20∧∀ s∈l,s.size≤16
structure FewD (d:Dl):Prop where
 ad:Short d.ad
 rm:Short d.rm
 xs:Short [d.be,d.af,d.sc,d.sr]
theorem law_nats(l:List ByteArray)(A:Option Addr)(n c:Nat)(w:World)(hs:SlN w A n c l)(hz:SzL l):Calls Tryz.prog 13 #[.slice A n c] w (RetF (Short l) w):=by
 have HS:=Hq hs;have HLEN:=Hq hs.1;have HZ:=Hq hz;have hcap:=hs.2.1;have hcap2:=hs.2.2.1;clear hs hz;go_enter Tryz.func13,Tryz.ntmps13;go_wp2
 go_loop [3] (fun k=>∃ j:Nat,j≤n∧j≤20∧k=.int .i64 j∧(∀(i:Nat) y,i<j→l[i]? =some y→y.size≤16)) (fun k=>n - (intOf k).toNat)
 case atStart=>exact⟨0,Nat.zero_le _,by omega,rfl,fun i u h=>absurd h (Nat.not_lt_zero _)⟩
 case round =>
  obtain⟨j,hj,hj2,rfl,hall⟩:=hrel;have HALL:=Hq hall;clear hall;by_cases hlt:j<n
  · by_cases h20:j<20
    · obtain⟨y,he⟩:∃ y,l[j]? =some y:=⟨_,List.getElem?_eq_getElem (by rw[HLEN.out];exact hlt)⟩;obtain⟨b,o,rfl,e1⟩:=HS.out.cell he;have hy:=HZ.out y (List.mem_of_getElem? he);have HE:=Hq he;clear he;have i20:(j:Int)<20:=by omega
      by_cases h16:y.size≤16
      · have hd:decide (16<(y.size:Int))=false:=decide_eq_false (by omega);have hd':decide (16<y.size)=false:=decide_eq_false (by omega);have HA2:=Hq (show ∀(i:Nat) u,i<j+1→l[i]? =some u→u.size≤16 from fun i u hi hu=>by
         rcases Nat.lt_or_ge i j with h | h
         · exact HALL.out i u h hu
         · obtain rfl:i=j:=by omega
           rw[HE.out]at hu;cases hu;exact h16)
        clear h16;go_wp2;go_round;case rel=>exact⟨j+1,by omega,by omega,by go_num,HA2.out⟩
        case measure=>simp[intOf];omega
      · have hd:decide (16<(y.size:Int))=true:=decide_eq_true (by omega);have hd':decide (16<y.size)=true:=decide_eq_true (by omega);clear h16;go_wp2;go_ret;exact⟨false,rfl,(fun h=>by cases h),Below.refl _ _⟩
    · obtain rfl:j=20:=by omega
      have hd:decide ((n:Int)≤20)=false:=decide_eq_false (by omega);have hd':decide (n≤20)=false:=decide_eq_false (by omega);clear HALL h20;go_wp2;go_ret;exact⟨false,rfl,(fun h=>by cases h),Below.refl _ _⟩
  · obtain rfl:j=n:=by omega
    have HF:=Hq (show Short l from⟨by rw[HLEN.out];exact hj2,fun s hs=>by
     obtain⟨i,hi⟩:=List.getElem?_of_mem hs
     exact HALL.out i s (by have:=(List.getElem?_eq_some_iff.1 hi).1;rw[HLEN.out]at this;exact this) hi⟩)
    have hd:decide ((j:Int)≤20)=true:=decide_eq_true (by omega);have hd':decide (j≤20)=true:=decide_eq_true (by omega);clear hlt hj;go_wp2;go_ret;exact⟨true,rfl,(fun _=>HF.out),Below.refl _ _⟩
def SzD(l:List Dl):Prop:=∀ d∈l,SzL d.str
theorem DIn.cell{w:World}{b p n1 c1 n2 c2:Nat}{d:Dl}{A1 A2:Option Addr}(h:DIn w b p d A1 n1 c1 A2 n2 c2)(j:Nat){u:Value}(hu:(d.vals (.slice A1 n1 c1) (.slice A2 n2 c2))[j]? =some u):w.cell? ⟨b,p+j,none⟩=some u:=h.1 j u hu
theorem law37_Few(l:List Dl)(A:Option Addr)(n c:Nat)(w:World)(hs:SlD w A n c l)(hz:SzD l):Calls Tryz.prog 5 #[.slice A n c] w (RetF (n≤12∧∀ d∈l,FewD d) w):=by
 have HS:=Hq hs;have HLEN:=Hq hs.1;have HZ:=Hq hz;have hcap:=hs.2.1;have hcap2:=hs.2.2.1;clear hs hz;go_enter Tryz.func5,Tryz.ntmps5;go_wp2;go_loopw [3] (fun k wr=>∃ j:Nat,j≤n∧j≤20∧k=.int .i64 j∧(∀(i:Nat) d,i<j→l[i]? =some d→FewD d)∧Below w.heap.size w wr) (fun k _=>n - (intOf k).toNat);case atStart=>exact⟨0,Nat.zero_le _,by omega,rfl,fun i u h=>absurd h (Nat.not_lt_zero _),Below.refl _ _⟩
 case round =>
  obtain⟨j,hj,hj2,rfl,hall,hbb⟩:=hrel;have HALL:=Hq hall;have HB:=Hq hbb;clear hall hbb;by_cases hlt:j<n
  · by_cases h20:j<20
    · obtain⟨d,he⟩:∃ d,l[j]? =some d:=⟨_,List.getElem?_eq_getElem (by rw[HLEN.out];exact hlt)⟩;obtain⟨b,o,rfl,A1,n1,c1,A2,n2,c2,hin⟩:=(HS.out.kept HB.out (Nat.le_refl _)).get he;have HZD:=Hq (HZ.out d (List.mem_of_getElem? he));have HIN:=Hq hin;have HE:=Hq he;clear he hin;have i20:(j:Int)<20:=by omega
      have x0:wr.cell? ⟨b,o+j * 8,none⟩=some (.int .i64 d.fr):=HIN.out.cell 0 rfl;have x1:wr.cell? ⟨b,o+j * 8+1,none⟩=some (.int .i64 d.to):=HIN.out.cell 1 rfl;have x2:wr.cell? ⟨b,o+j * 8+2,none⟩=some (.slice A1 n1 c1):=HIN.out.cell 2 rfl;have x3:wr.cell? ⟨b,o+j * 8+3,none⟩=some (.slice A2 n2 c2):=HIN.out.cell 3 rfl;have x4:wr.cell? ⟨b,o+j * 8+4,none⟩=some (.string d.be):=HIN.out.cell 4 rfl;have x5:wr.cell? ⟨b,o+j * 8+5,none⟩=some (.string d.af):=HIN.out.cell 5 rfl;have x6:wr.cell? ⟨b,o+j * 8+6,none⟩=some (.string d.sc):=HIN.out.cell 6 rfl;have x7:wr.cell? ⟨b,o+j * 8+7,none⟩=some (.string d.sr):=HIN.out.cell 7 rfl;obtain⟨WX,hWX⟩:∃ WX,wr.alloc (.cells #[.int .i64 d.fr,.int .i64 d.to,.slice A1 n1 c1,.slice A2 n2 c2,.string d.be,.string d.af,.string d.sc,.string d.sr] 32)=WX:=⟨_,rfl⟩;obtain⟨BX,hBX⟩:∃ BX,wr.heap.size=BX:=⟨_,rfl⟩;have hbX:Below wr.heap.size wr WX:=by rw[←hWX];exact(Below.refl _ _).alloc (Nat.le_refl _) _
      have HX:=Hq (show BxC WX BX #[.int .i64 d.fr,.int .i64 d.to,.slice A1 n1 c1,.slice A2 n2 c2,.string d.be,.string d.af,.string d.sc,.string d.sr] 32 from by rw[←hWX,←hBX];exact BxC.new _ _ _);have HAD:=Hq (HIN.out.2.1.kept hbX (Nat.le_refl _));have HRM:=Hq (HIN.out.2.2.kept hbX (Nat.le_refl _));have HBX:=Hq (HB.out.trans (hbX.mono HB.out.size));have y2:WX.cell? ⟨BX,2,none⟩=some (.slice A1 n1 c1):=HX.out.cell 2;have y3:WX.cell? ⟨BX,3,none⟩=some (.slice A2 n2 c2):=HX.out.cell 3;clear hbX;go_wp2_with fail;refine(law_nats d.ad A1 n1 c1 WX HAD.out (fun s hs=>HZD.out s (by unfold Dl.str;simp[hs]))).mono ?_;rintro e w1 ⟨b1,rfl,h1,hb⟩;have HB1:=Hq (HBX.out.trans (hb.mono HBX.out.size));have HX1:=Hq (HX.out.next hb);have HRM1:=Hq (HRM.out.kept hb (Nat.le_refl _));have z3:w1.cell? ⟨BX,3,none⟩=some (.slice A2 n2 c2):=HX1.out.cell 3;have H1:=Hq h1;clear hb h1 x0 x1 x2 x3 x4 x5 x6 x7 y2 y3 hWX hBX
      cases b1 with
      | false =>
       go_wp2;go_ret;exact⟨false,rfl,(fun h=>by cases h),HB1.out⟩
      | true =>
       go_wp2_with fail;refine(law_nats d.rm A2 n2 c2 w1 HRM1.out (fun s hs=>HZD.out s (by unfold Dl.str;simp[hs]))).mono ?_;rintro e w2 ⟨b2,rfl,h2,hb⟩;have HB2:=Hq (HB1.out.trans (hb.mono HB1.out.size));have HX2:=Hq (HX1.out.next hb);have H2:=Hq h2;clear hb h2 z3;have y4:w2.cell? ⟨BX,4,none⟩=some (.string d.be):=HX2.out.cell 4;have y5:w2.cell? ⟨BX,5,none⟩=some (.string d.af):=HX2.out.cell 5;have y6:w2.cell? ⟨BX,6,none⟩=some (.string d.sc):=HX2.out.cell 6;have y7:w2.cell? ⟨BX,7,none⟩=some (.string d.sr):=HX2.out.cell 7
       cases b2 with
       | false =>
        go_wp2;go_ret;exact⟨false,rfl,(fun h=>by cases h),HB2.out⟩
       | true =>
        go_wp2_with fail;refine(law_nats [d.be,d.af,d.sc,d.sr] (some ⟨w2.heap.size,0,none⟩) 4 4 (w2.alloc (.cells #[.string d.be,.string d.af,.string d.sc,.string d.sr] 22)) (SlN.new w2 [d.be,d.af,d.sc,d.sr] 22 (by simp)) (fun s hs=>HZD.out s (by unfold Dl.str;simp only[List.mem_append];exact .inr hs))).mono ?_;rintro e w3 ⟨b3,rfl,h3,hb⟩;have HB3:=Hq (HB2.out.trans ((((Below.refl w2.heap.size w2).alloc (Nat.le_refl _) _).trans (hb.mono (by simp))).mono HB2.out.size));have H3:=Hq h3;clear hb h3 y4 y5 y6 y7
        cases b3 with
        | false =>
         go_wp2;go_ret;exact⟨false,rfl,(fun h=>by cases h),HB3.out⟩
        | true =>
         have HA2:=Hq (show ∀(i:Nat) u,i<j+1→l[i]? =some u→FewD u from fun i u hi hu=>by
          rcases Nat.lt_or_ge i j with h | h
          · exact HALL.out i u h hu
          · obtain rfl:i=j:=by omega
            rw[HE.out]at hu;cases hu;exact⟨H1.out (by trivial),H2.out (by trivial),H3.out (by trivial)⟩)
         go_wp2;go_roundw;case rel=>exact⟨j+1,by omega,by omega,by go_num,HA2.out,HB3.out⟩
         case measure=>simp[intOf];omega
    · obtain rfl:j=20:=by omega
      have hd:decide ((n:Int)≤12)=false:=decide_eq_false (by omega);have hd':decide (n≤12)=false:=decide_eq_false (by omega);clear HALL h20;go_wp2;go_ret;exact⟨false,rfl,(fun h=>by cases h),HB.out⟩
  · obtain rfl:j=n:=by omega
    have HF:=Hq (show ∀ d∈l,FewD d from fun s hs=>by
     obtain⟨i,hi⟩:=List.getElem?_of_mem hs
     exact HALL.out i s (by have:=(List.getElem?_eq_some_iff.1 hi).1;rw[HLEN.out]at this;exact this) hi)
    clear hlt hj HALL;by_cases h12:j≤12
    · have hd:decide ((j:Int)≤12)=true:=decide_eq_true (by omega);have hd':decide (j≤12)=true:=decide_eq_true (by omega);have HN:=Hq h12;clear h12;go_wp2;go_ret;exact⟨true,rfl,(fun _=>⟨HN.out,HF.out⟩),HB.out⟩
    · have hd:decide ((j:Int)≤12)=false:=decide_eq_false (by omega);have hd':decide (j≤12)=false:=decide_eq_false (by omega);clear h12;go_wp2;go_ret;exact⟨false,rfl,(fun h=>by cases h),HB.out⟩
set_option maxRecDepth 100000
set_option maxHeartbeats 4000000
theorem r37_nats(l:List ByteArray)(A B:Option Addr)(n c n' c':Nat)(w:World)(hs:SlN w A n c l)(hs':SlN w B n' c' l):Calls Tryz.prog 32 #[.slice A n c,.slice B n' c'] w (Ret (.bool true) w):=by
 obtain rfl:n'=n:=by rw[←hs.1,←hs'.1]
 have HS:=Hq hs;have HS':=Hq hs';have HLEN:=Hq hs.1;have hcap:=hs.2.1;have hcap2:=hs.2.2.1;have hcap':=hs'.2.1;have hcap2':=hs'.2.2.1;clear hs hs';go_enter Tryz.func32,Tryz.ntmps32;go_wp2;go_loopw [5] (fun k wr=>∃ j:Nat,j≤n'∧k=.int .i64 j∧Below w.heap.size w wr) (fun k _=>n' - (intOf k).toNat);case atStart=>exact⟨0,Nat.zero_le _,rfl,Below.refl _ _⟩
 case round =>
  obtain⟨j,hj,rfl,hbb⟩:=hrel;have HB:=Hq hbb;clear hbb;by_cases hlt:j<n'
  · obtain⟨y,he⟩:∃ y,l[j]? =some y:=⟨_,List.getElem?_eq_getElem (by rw[HLEN.out];exact hlt)⟩;obtain⟨b,o,rfl,e1⟩:=(HS.out.kept HB.out (Nat.le_refl _)).cell he;obtain⟨b2,o2,rfl,e2⟩:=(HS'.out.kept HB.out (Nat.le_refl _)).cell he;have e1:wr.drew.cell? ⟨b,o+j,none⟩=some (.string y):=e1;have e2:wr.drew.cell? ⟨b2,o2+j,none⟩=some (.string y):=e2;clear he;go_wp2;refine wp_region_K 9 (Below (wr.drew).heap.size (wr.drew)) (by kernel_rfl) ?_;intro hD;refine qPD 0 17 8 rfl hD (Below.refl _ _) ?_;clear hD;intro hD;simp only[Act.put,sqA,sqB,sqC];refine qPD 1 18 7 rfl hD (Below.refl _ _) ?_;clear hD;intro hD;simp only[Act.put,sqA,sqB,sqC];refine qPD 2 19 6 rfl hD (Below.refl _ _) ?_;clear hD;intro hD;simp only[Act.put,sqA,sqB,sqC];refine qSD 3 20 5 rfl hD (Below.refl _ _) (by intro w' hS';have e0:=cell_kept hS' (Nat.le_refl _) e1;have e1:=cell_kept hS' (Nat.le_refl _) e2;go_simp;with_reducible rfl) ?_;clear hD;intro hD;simp only[Act.put,sqA,sqB,sqC];refine qPD 4 21 4 rfl hD (Below.refl _ _) ?_;clear hD;intro hD;simp only[Act.put,sqA,sqB,sqC];refine qPD 5 22 3 rfl hD (Below.refl _ _) ?_;clear hD;intro hD;simp only[Act.put,sqA,sqB,sqC];refine qPD 6 23 2 rfl hD (Below.refl _ _) ?_;clear hD;intro hD;simp only[Act.put,sqA,sqB,sqC];refine qSD 7 24 1 rfl hD (Below.refl _ _) (by intro w' hS';have e0:=cell_kept hS' (Nat.le_refl _) e1;have e1:=cell_kept hS' (Nat.le_refl _) e2;go_simp;with_reducible rfl) ?_;clear hD;intro hD;simp only[Act.put,sqA,sqB,sqC];refine qPD 8 25 0 rfl hD (Below.refl _ _) ?_;clear hD;intro hD;simp only[Act.put,sqA,sqB,sqC];refine wpAnyK_done (by kernel_rfl) ?_ 0;clear hD;have HB2:=Hq (show Below w.heap.size w wr.drew from HB.out.trans ((Below.refl wr.heap.size wr).drew.mono HB.out.size));go_wp2;go_roundw;case rel=>exact⟨j+1,by omega,by go_num,HB2.out⟩
    case measure=>simp[intOf];omega
  · obtain rfl:j=n':=by omega
    clear hlt hj;go_wp2;go_ret;exact⟨rfl,HB.out⟩
theorem sl_Equal(l:List ByteArray)(A B:Option Addr)(n c n' c':Nat)(w:World)(hs:SlN w A n c l)(hs':SlN w B n' c' l):Calls Tryz.prog 19 #[.slice A n c,.slice B n' c'] w (Ret (.bool true) w):=by
 obtain rfl:n'=n:=by rw[←hs.1,←hs'.1]
 have HS:=Hq hs;have HS':=Hq hs';have HLEN:=Hq hs.1;have hcap:=hs.2.1;have hcap2:=hs.2.2.1;have hcap':=hs'.2.1;have hcap2':=hs'.2.2.1;clear hs hs';go_enter Tryz.func19,Tryz.ntmps19;go_wp2;go_loopw [13] (fun k wr=>∃ j:Nat,j≤n'∧k=.int .i64 j∧Below w.heap.size w wr) (fun k _=>n' - (intOf k).toNat);case atStart=>exact⟨0,Nat.zero_le _,rfl,Below.refl _ _⟩
 case round =>
  obtain⟨j,hj,rfl,hbb⟩:=hrel;have HB:=Hq hbb;clear hbb;by_cases hlt:j<n'
  · obtain⟨y,he⟩:∃ y,l[j]? =some y:=⟨_,List.getElem?_eq_getElem (by rw[HLEN.out];exact hlt)⟩;obtain⟨b,o,rfl,e1⟩:=(HS.out.kept HB.out (Nat.le_refl _)).cell he;obtain⟨b2,o2,rfl,e2⟩:=(HS'.out.kept HB.out (Nat.le_refl _)).cell he;have e1:wr.drew.cell? ⟨b,o+j,none⟩=some (.string y):=e1;have e2:wr.drew.cell? ⟨b2,o2+j,none⟩=some (.string y):=e2;clear he;go_wp2;refine wp_region_K 9 (Below (wr.drew).heap.size (wr.drew)) (by kernel_rfl) ?_;intro hD;refine qPD 0 16 8 rfl hD (Below.refl _ _) ?_;clear hD;intro hD;simp only[Act.put,sqA,sqB,sqC];refine qPD 1 17 7 rfl hD (Below.refl _ _) ?_;clear hD;intro hD;simp only[Act.put,sqA,sqB,sqC];refine qPD 2 18 6 rfl hD (Below.refl _ _) ?_;clear hD;intro hD;simp only[Act.put,sqA,sqB,sqC];refine qSD 3 19 5 rfl hD (Below.refl _ _) (by intro w' hS';have e0:=cell_kept hS' (Nat.le_refl _) e1;have e1:=cell_kept hS' (Nat.le_refl _) e2;go_simp;with_reducible rfl) ?_;clear hD;intro hD;simp only[Act.put,sqA,sqB,sqC];refine qPD 4 20 4 rfl hD (Below.refl _ _) ?_;clear hD;intro hD;simp only[Act.put,sqA,sqB,sqC];refine qPD 5 21 3 rfl hD (Below.refl _ _) ?_;clear hD;intro hD;simp only[Act.put,sqA,sqB,sqC];refine qPD 6 22 2 rfl hD (Below.refl _ _) ?_;clear hD;intro hD;simp only[Act.put,sqA,sqB,sqC];refine qSD 7 23 1 rfl hD (Below.refl _ _) (by intro w' hS';have e0:=cell_kept hS' (Nat.le_refl _) e1;have e1:=cell_kept hS' (Nat.le_refl _) e2;go_simp;with_reducible rfl) ?_;clear hD;intro hD;simp only[Act.put,sqA,sqB,sqC];refine qPD 8 24 0 rfl hD (Below.refl _ _) ?_;clear hD;intro hD;simp only[Act.put,sqA,sqB,sqC];refine wpAnyK_done (by kernel_rfl) ?_ 0;clear hD;have HB2:=Hq (show Below w.heap.size w wr.drew from HB.out.trans ((Below.refl wr.heap.size wr).drew.mono HB.out.size));go_wp2;go_roundw;case rel=>exact⟨j+1,by omega,by go_num,HB2.out⟩
    case measure=>simp[intOf];omega
  · obtain rfl:j=n':=by omega
    clear hlt hj;go_wp2;go_ret;exact⟨rfl,HB.out⟩
theorem r37_Same(d:Dl)(A1 A2 A3 A4:Option Addr)(n1 c1 n2 c2 n3 c3 n4 c4:Nat)(w:World)(h1:SlN w A1 n1 c1 d.ad)(h2:SlN w A2 n2 c2 d.rm)(h3:SlN w A3 n3 c3 d.ad)(h4:SlN w A4 n4 c4 d.rm) :
 Calls Tryz.prog 24 #[.agg (d.arr (.slice A1 n1 c1) (.slice A2 n2 c2)),.agg (d.arr (.slice A3 n3 c3) (.slice A4 n4 c4))] w (Ret (.bool true) w):=by
 obtain⟨W0,hW0⟩:∃ W0,(w.alloc (.cells (d.arr (.slice A1 n1 c1) (.slice A2 n2 c2)) 32)).alloc (.cells (d.arr (.slice A3 n3 c3) (.slice A4 n4 c4)) 32)=W0:=⟨_,rfl⟩;obtain⟨P,hP⟩:∃ P,w.heap.size=P:=⟨_,rfl⟩;have HP0:=Hq (show BxC W0 P (d.arr (.slice A1 n1 c1) (.slice A2 n2 c2)) 32 from by rw[←hW0,←hP];exact(BxC.new w _ _).alloc _);have HQ0:=Hq (show BxC W0 (P+1) (d.arr (.slice A3 n3 c3) (.slice A4 n4 c4)) 32 from by rw[←hW0,←hP];exact BxC.new1 w _ _ _);have HB0:=Hq (show Below P w W0 from by rw[←hW0,←hP];exact((Below.refl _ _).alloc (Nat.le_refl _) _).alloc (by simp) _);have HPE:=Hq hP;have HW0:=Hq (show P+2=W0.heap.size from by rw[←hW0,←hP];simp);have H1:=Hq (h1.kept HB0.out (Nat.le_of_eq hP));have H2:=Hq (h2.kept HB0.out (Nat.le_of_eq hP));have H3:=Hq (h3.kept HB0.out (Nat.le_of_eq hP));have H4:=Hq (h4.kept HB0.out (Nat.le_of_eq hP));have p0:W0.cell? ⟨P,0,none⟩=some (.int .i64 d.fr):=BxC.cell HP0.out 0;have p1:W0.cell? ⟨P,1,none⟩=some (.int .i64 d.to):=BxC.cell HP0.out 1;have p2:W0.cell? ⟨P,2,none⟩=some (.slice A1 n1 c1):=BxC.cell HP0.out 2;have p3:W0.cell? ⟨P,3,none⟩=some (.slice A2 n2 c2):=BxC.cell HP0.out 3;have p4:W0.cell? ⟨P,4,none⟩=some (.string d.be):=BxC.cell HP0.out 4;have p5:W0.cell? ⟨P,5,none⟩=some (.string d.af):=BxC.cell HP0.out 5;have p6:W0.cell? ⟨P,6,none⟩=some (.string d.sc):=BxC.cell HP0.out 6;have p7:W0.cell? ⟨P,7,none⟩=some (.string d.sr):=BxC.cell HP0.out 7;have q0:W0.cell? ⟨P+1,0,none⟩=some (.int .i64 d.fr):=BxC.cell HQ0.out 0;have q1:W0.cell? ⟨P+1,1,none⟩=some (.int .i64 d.to):=BxC.cell HQ0.out 1;have q2:W0.cell? ⟨P+1,2,none⟩=some (.slice A3 n3 c3):=BxC.cell HQ0.out 2;have q3:W0.cell? ⟨P+1,3,none⟩=some (.slice A4 n4 c4):=BxC.cell HQ0.out 3;have q4:W0.cell? ⟨P+1,4,none⟩=some (.string d.be):=BxC.cell HQ0.out 4;have q5:W0.cell? ⟨P+1,5,none⟩=some (.string d.af):=BxC.cell HQ0.out 5;have q6:W0.cell? ⟨P+1,6,none⟩=some (.string d.sc):=BxC.cell HQ0.out 6;have q7:W0.cell? ⟨P+1,7,none⟩=some (.string d.sr):=BxC.cell HQ0.out 7;clear h1 h2 h3 h4;unfold Dl.arr at hW0;unfold Dl.arr;go_enter Tryz.func24,Tryz.ntmps24;go_wp2_with fail;refine(r37_nats d.ad A1 A3 n1 c1 n3 c3 W0 H1.out H3.out).mono ?_;rintro e w1 ⟨rfl,hb⟩;have HB1:=Hq (HB0.out.trans (hb.mono (by have:=HW0.out;omega)));have HP1:=Hq (HP0.out.next hb);have HQ1:=Hq (HQ0.out.next hb);have HBB:=Hq hb;clear hb p0 p1 p2 p3 p4 p5 p6 p7 q0 q1 q2 q3 q4 q5 q6 q7 hW0;have p0:w1.cell? ⟨P,0,none⟩=some (.int .i64 d.fr):=BxC.cell HP1.out 0;have p1:w1.cell? ⟨P,1,none⟩=some (.int .i64 d.to):=BxC.cell HP1.out 1;have p2:w1.cell? ⟨P,2,none⟩=some (.slice A1 n1 c1):=BxC.cell HP1.out 2;have p3:w1.cell? ⟨P,3,none⟩=some (.slice A2 n2 c2):=BxC.cell HP1.out 3;have p4:w1.cell? ⟨P,4,none⟩=some (.string d.be):=BxC.cell HP1.out 4;have p5:w1.cell? ⟨P,5,none⟩=some (.string d.af):=BxC.cell HP1.out 5;have p6:w1.cell? ⟨P,6,none⟩=some (.string d.sc):=BxC.cell HP1.out 6;have p7:w1.cell? ⟨P,7,none⟩=some (.string d.sr):=BxC.cell HP1.out 7;have q0:w1.cell? ⟨P+1,0,none⟩=some (.int .i64 d.fr):=BxC.cell HQ1.out 0;have q1:w1.cell? ⟨P+1,1,none⟩=some (.int .i64 d.to):=BxC.cell HQ1.out 1;have q2:w1.cell? ⟨P+1,2,none⟩=some (.slice A3 n3 c3):=BxC.cell HQ1.out 2;have q3:w1.cell? ⟨P+1,3,none⟩=some (.slice A4 n4 c4):=BxC.cell HQ1.out 3;have q4:w1.cell? ⟨P+1,4,none⟩=some (.string d.be):=BxC.cell HQ1.out 4;have q5:w1.cell? ⟨P+1,5,none⟩=some (.string d.af):=BxC.cell HQ1.out 5;have q6:w1.cell? ⟨P+1,6,none⟩=some (.string d.sc):=BxC.cell HQ1.out 6;have q7:w1.cell? ⟨P+1,7,none⟩=some (.string d.sr):=BxC.cell HQ1.out 7;go_wp2_with fail;refine(r37_nats d.rm A2 A4 n2 c2 n4 c4 w1 (H2.out.kept HBB.out (Nat.le_refl _)) (H4.out.kept HBB.out (Nat.le_refl _))).mono ?_;rintro e w2 ⟨rfl,hb⟩;have HB2:=Hq (HB1.out.trans (hb.mono (by have:=HP1.out.lt;omega)));have HP2:=Hq (HP1.out.next hb);have HQ2:=Hq (HQ1.out.next hb);clear hb p0 p1 p2 p3 p4 p5 p6 p7 q0 q1 q2 q3 q4 q5 q6 q7;have p0:w2.cell? ⟨P,0,none⟩=some (.int .i64 d.fr):=BxC.cell HP2.out 0;have p1:w2.cell? ⟨P,1,none⟩=some (.int .i64 d.to):=BxC.cell HP2.out 1;have p2:w2.cell? ⟨P,2,none⟩=some (.slice A1 n1 c1):=BxC.cell HP2.out 2;have p3:w2.cell? ⟨P,3,none⟩=some (.slice A2 n2 c2):=BxC.cell HP2.out 3;have p4:w2.cell? ⟨P,4,none⟩=some (.string d.be):=BxC.cell HP2.out 4;have p5:w2.cell? ⟨P,5,none⟩=some (.string d.af):=BxC.cell HP2.out 5;have p6:w2.cell? ⟨P,6,none⟩=some (.string d.sc):=BxC.cell HP2.out 6;have p7:w2.cell? ⟨P,7,none⟩=some (.string d.sr):=BxC.cell HP2.out 7;have q0:w2.cell? ⟨P+1,0,none⟩=some (.int .i64 d.fr):=BxC.cell HQ2.out 0;have q1:w2.cell? ⟨P+1,1,none⟩=some (.int .i64 d.to):=BxC.cell HQ2.out 1;have q2:w2.cell? ⟨P+1,2,none⟩=some (.slice A3 n3 c3):=BxC.cell HQ2.out 2;have q3:w2.cell? ⟨P+1,3,none⟩=some (.slice A4 n4 c4):=BxC.cell HQ2.out 3;have q4:w2.cell? ⟨P+1,4,none⟩=some (.string d.be):=BxC.cell HQ2.out 4;have q5:w2.cell? ⟨P+1,5,none⟩=some (.string d.af):=BxC.cell HQ2.out 5;have q6:w2.cell? ⟨P+1,6,none⟩=some (.string d.sc):=BxC.cell HQ2.out 6;have q7:w2.cell? ⟨P+1,7,none⟩=some (.string d.sr):=BxC.cell HQ2.out 7;go_wp2;go_ret;exact⟨rfl,by rw[HPE.out];exact HB2.out⟩
theorem ep_At(d:Dl)(b:Nat)(a r:Value)(w:World)(hb:BxC w b (d.arr a r) 32):Calls Tryz.prog 11 #[.slice (some ⟨b,0,none⟩) 1 1,.int .i64 1] w (RetQ (.tuple #[.string d.af,.int .i64 0]) w):=by
 have c5:w.cell? ⟨b,5,none⟩=some (.string d.af):=hb.cell 5;clear hb;go_enter Tryz.func11,Tryz.ntmps11;go_wp2;go_ret2;exact⟨rfl,rfl⟩
end Go.Proofs.YthcekkeknonefaaGreat

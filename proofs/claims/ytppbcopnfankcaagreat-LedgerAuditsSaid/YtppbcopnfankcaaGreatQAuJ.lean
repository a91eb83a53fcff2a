import Derived.Test.YtppbcopnfankcaaGreatQAuG
import Derived.Test.YtppbcopnfankcaaGreatQMkC
set_option linter.unusedVariables false
set_option linter.unusedSimpArgs false
namespace Go.Proofs.YtppbcopnfankcaaGreat
set_option maxRecDepth 100000
set_option maxHeartbeats 4000000
open Go.RowKit
def Dl.vals(d:Dl)(a r:Value):List Value:=[.int .i64 d.fr,.int .i64 d.to,a,r,.string d.be,.string d.af,.string d.sc,.string d.sr]
def DIn(w:World)(b p:Nat)(d:Dl)(A1:Option Addr)(n1 c1:Nat)(A2:Option Addr)(n2 c2:Nat):Prop:=(∀ j u,(d.vals (.slice A1 n1 c1) (.slice A2 n2 c2))[j]? =some u→w.cell? ⟨b,p+j,none⟩=some u)∧SlN w A1 n1 c1 d.ad∧SlN w A2 n2 c2 d.rm
theorem DIn.kept{B:Nat}{w w':World}{b p n1 c1 n2 c2:Nat}{d:Dl}{A1 A2:Option Addr}(h:DIn w b p d A1 n1 c1 A2 n2 c2)(hb:Below B w w')(hB:w.heap.size≤B):DIn w' b p d A1 n1 c1 A2 n2 c2:=
 ⟨fun j u hu=>cell_kept hb hB (h.1 j u hu),h.2.1.kept hb hB,h.2.2.kept hb hB⟩
def SlD(w:World)(A:Option Addr)(len cap:Nat)(l:List Dl):Prop:=
 l.length=len∧len≤cap∧cap≤9223372036854775807∧∃ b o,(0<len→A=some ⟨b,o,none⟩)∧∀ k d,l[k]? =some d→∃ A1 n1 c1 A2 n2 c2,DIn w b (o+k * 8) d A1 n1 c1 A2 n2 c2
theorem SlD.kept{B:Nat}{w w':World}{A:Option Addr}{len cap:Nat}{l:List Dl}(h:SlD w A len cap l)(hb:Below B w w')(hB:w.heap.size≤B):SlD w' A len cap l:=
 let ⟨h1,h2,h3,b,o,h4,h5⟩:=h
 ⟨h1,h2,h3,b,o,h4,fun k d hk=>let ⟨A1,n1,c1,A2,n2,c2,h6⟩:=h5 k d hk;⟨A1,n1,c1,A2,n2,c2,h6.kept hb hB⟩⟩
theorem SlD.get{w:World}{A:Option Addr}{len cap:Nat}{l:List Dl}(h:SlD w A len cap l){k:Nat}{d:Dl}(hk:l[k]? =some d):∃ b o,A=some ⟨b,o,none⟩∧∃ A1 n1 c1 A2 n2 c2,DIn w b (o+k * 8) d A1 n1 c1 A2 n2 c2:=by
 obtain⟨h1,_,_,b,o,h4,h5⟩:=h;have:=(List.getElem?_eq_some_iff.1 hk).1;exact⟨b,o,h4 (by omega),h5 k d hk⟩
theorem SlD.nil(w:World)(A:Option Addr)(cap:Nat)(h:cap≤9223372036854775807):SlD w A 0 cap []:=⟨rfl,Nat.zero_le _,h,0,0,fun h=>by omega,fun k e h=>by simp at h⟩
def RetF(P:Prop)(w:World)(e:Ending)(w':World):Prop:=∃ b,e=.returned (.bool b)∧(b=true→P)∧Below w.heap.size w w'
def ztc(l:List ByteArray):Prop:=l.length≤20∧∀ s∈l,s.size≤16
structure FewD (d:Dl):Prop where
 ad:ztc d.ad
 rm:ztc d.rm
 xs:ztc [d.be,d.af,d.sc,d.sr]
theorem zji(l:List ByteArray)(A:Option Addr)(n c:Nat)(w:World)(hs:SlN w A n c l)(hz:SzL l):Calls Tryz.prog 38 #[.slice A n c] w (RetF (ztc l) w):=by
 have HS:=Hq hs;have HLEN:=Hq hs.1;have HZ:=Hq hz;have hcap:=hs.2.1;have hcap2:=hs.2.2.1;clear hs hz;go_enter Tryz.func38,Tryz.ntmps38;go_wp2
 go_loop [3] (fun k=>∃ j:Nat,j≤n∧j≤20∧k=.int .i64 j∧(∀(i:Nat) y,i<j→l[i]? =some y→y.size≤16)) (fun k=>n - (intOf k).toNat)
 case atStart=>exact⟨0,Nat.zero_le _,by omega,rfl,fun i u h=>absurd h (Nat.not_lt_zero _)⟩
 case round =>
  obtain⟨j,hj,hj2,rfl,hall⟩:=hrel;have HALL:=Hq hall;clear hall;by_cases hlt:j<n
  · by_cases h20:j<20
    · obtain⟨y,he⟩:∃ y,l[j]? =some y:=⟨_,List.getElem?_eq_getElem (by rw[HLEN.out];exact hlt)⟩;obtain⟨b,o,rfl,e1⟩:=HS.out.cell he;have hy:=HZ.out y (List.mem_of_getElem? he);have HE:=Hq he;clear he;have i20:(j:Int)<20:=by omega
      by_cases h16:y.size≤16
      · have hd:decide (16<(y.size:Int))=false:=decide_eq_false (by omega);have hd':decide (16<y.size)=false:=decide_eq_false (by omega);have HA2:=Hq (show ∀(i:Nat) u,i<j+1→l[i]? =some u→u.size≤16 from fun i u hi hu=>by
         rcases Nat.lt_or_ge i j with h | h
         · exact HALL.out i u h hu
         · obtain rfl:i=j:=by omega
           rw[HE.out]at hu;cases hu;exact h16)
        clear h16;go_wp2;go_round;case rel=>exact⟨j+1,by omega,by omega,by go_num,HA2.out⟩
        case measure=>simp[intOf];omega
      · have hd:decide (16<(y.size:Int))=true:=decide_eq_true (by omega);have hd':decide (16<y.size)=true:=decide_eq_true (by omega);clear h16;go_wp2;go_ret;exact⟨false,rfl,(fun h=>by cases h),Below.refl _ _⟩
    · obtain rfl:j=20:=by omega
      have hd:decide ((n:Int)≤20)=false:=decide_eq_false (by omega);have hd':decide (n≤20)=false:=decide_eq_false (by omega);clear HALL h20;go_wp2;go_ret;exact⟨false,rfl,(fun h=>by cases h),Below.refl _ _⟩
  · obtain rfl:j=n:=by omega
    have HF:=Hq (show ztc l from⟨by rw[HLEN.out];exact hj2,fun s hs=>by
     obtain⟨i,hi⟩:=List.getElem?_of_mem hs
     exact HALL.out i s (by have:=(List.getElem?_eq_some_iff.1 hi).1;rw[HLEN.out]at this;exact this) hi⟩)
    have hd:decide ((j:Int)≤20)=true:=decide_eq_true (by omega);have hd':decide (j≤20)=true:=decide_eq_true (by omega);clear hlt hj;go_wp2;go_ret;exact⟨true,rfl,(fun _=>HF.out),Below.refl _ _⟩
def SzD(l:List Dl):Prop:=∀ d∈l,SzL d.str
theorem DIn.cell{w:World}{b p n1 c1 n2 c2:Nat}{d:Dl}{A1 A2:Option Addr}(h:DIn w b p d A1 n1 c1 A2 n2 c2)(j:Nat){u:Value}(hu:(d.vals (.slice A1 n1 c1) (.slice A2 n2 c2))[j]? =some u):w.cell? ⟨b,p+j,none⟩=some u:=h.1 j u hu
theorem zr4(l:List Dl)(A:Option Addr)(n c:Nat)(w:World)(hs:SlD w A n c l)(hz:SzD l):Calls Tryz.prog 10 #[.slice A n c] w (RetF (n≤12∧∀ d∈l,FewD d) w):=by
 have HS:=Hq hs;have HLEN:=Hq hs.1;have HZ:=Hq hz;have hcap:=hs.2.1;have hcap2:=hs.2.2.1;clear hs hz;go_enter Tryz.func10,Tryz.ntmps10;go_wp2;go_loopw [3] (fun k wr=>∃ j:Nat,j≤n∧j≤20∧k=.int .i64 j∧(∀(i:Nat) d,i<j→l[i]? =some d→FewD d)∧Below w.heap.size w wr) (fun k _=>n - (intOf k).toNat);case atStart=>exact⟨0,Nat.zero_le _,by omega,rfl,fun i u h=>absurd h (Nat.not_lt_zero _),Below.refl _ _⟩
 case round =>
  obtain⟨j,hj,hj2,rfl,hall,hbb⟩:=hrel;have HALL:=Hq hall;have HB:=Hq hbb;clear hall hbb;by_cases hlt:j<n
  · by_cases h20:j<20
    · obtain⟨d,he⟩:∃ d,l[j]? =some d:=⟨_,List.getElem?_eq_getElem (by rw[HLEN.out];exact hlt)⟩;obtain⟨b,o,rfl,A1,n1,c1,A2,n2,c2,hin⟩:=(HS.out.kept HB.out nlr).get he;have HZD:=Hq (HZ.out d (List.mem_of_getElem? he));have HIN:=Hq hin;have HE:=Hq he;clear he hin;have i20:(j:Int)<20:=by omega
      have x0:wr.cell? ⟨b,o+j * 8,none⟩=some (.int .i64 d.fr):=HIN.out.cell 0 rfl;have x1:wr.cell? ⟨b,o+j * 8+1,none⟩=some (.int .i64 d.to):=HIN.out.cell 1 rfl;have x2:wr.cell? ⟨b,o+j * 8+2,none⟩=some (.slice A1 n1 c1):=HIN.out.cell 2 rfl;have x3:wr.cell? ⟨b,o+j * 8+3,none⟩=some (.slice A2 n2 c2):=HIN.out.cell 3 rfl;have x4:wr.cell? ⟨b,o+j * 8+4,none⟩=some (.string d.be):=HIN.out.cell 4 rfl;have x5:wr.cell? ⟨b,o+j * 8+5,none⟩=some (.string d.af):=HIN.out.cell 5 rfl;have x6:wr.cell? ⟨b,o+j * 8+6,none⟩=some (.string d.sc):=HIN.out.cell 6 rfl;have x7:wr.cell? ⟨b,o+j * 8+7,none⟩=some (.string d.sr):=HIN.out.cell 7 rfl;obtain⟨WX,hWX⟩:=nm (wr.alloc (.cells #[.int .i64 d.fr,.int .i64 d.to,.slice A1 n1 c1,.slice A2 n2 c2,.string d.be,.string d.af,.string d.sc,.string d.sr] 72));obtain⟨BX,hBX⟩:=nm (wr.heap.size);have hbX:Below wr.heap.size wr WX:=by rw[←hWX];exact(blr).alloc nlr _
      have HX:=Hq (show BxC WX BX #[.int .i64 d.fr,.int .i64 d.to,.slice A1 n1 c1,.slice A2 n2 c2,.string d.be,.string d.af,.string d.sc,.string d.sr] 72 from by rw[←hWX,←hBX];exact BxC.new _ _ _);have HAD:=Hq (HIN.out.2.1.kept hbX nlr);have HRM:=Hq (HIN.out.2.2.kept hbX nlr);have HBX:=bt HB hbX;have y2:WX.cell? ⟨BX,2,none⟩=some (.slice A1 n1 c1):=HX.out.cell 2;have y3:WX.cell? ⟨BX,3,none⟩=some (.slice A2 n2 c2):=HX.out.cell 3;clear hbX;go_wp2_with fail;refine(zji d.ad A1 n1 c1 WX HAD.out (fun s hs=>HZD.out s (by unfold Dl.str;simp[hs]))).mono ?_;rintro e w1 ⟨b1,rfl,h1,hb⟩;have HB1:=bt HBX hb;have HX1:=Hq (HX.out.next hb);have HRM1:=Hq (HRM.out.kept hb nlr);have z3:w1.cell? ⟨BX,3,none⟩=some (.slice A2 n2 c2):=HX1.out.cell 3;have H1:=Hq h1;clear hb h1 x0 x1 x2 x3 x4 x5 x6 x7 y2 y3 hWX hBX
      cases b1 with
      | false =>
       go_wp2;go_ret;exact⟨false,rfl,(fun h=>by cases h),HB1.out⟩
      | true =>
       go_wp2_with fail;refine(zji d.rm A2 n2 c2 w1 HRM1.out (fun s hs=>HZD.out s (by unfold Dl.str;simp[hs]))).mono ?_;rintro e w2 ⟨b2,rfl,h2,hb⟩;have HB2:=bt HB1 hb;have HX2:=Hq (HX1.out.next hb);have H2:=Hq h2;clear hb h2 z3;have y4:w2.cell? ⟨BX,4,none⟩=some (.string d.be):=HX2.out.cell 4;have y5:w2.cell? ⟨BX,5,none⟩=some (.string d.af):=HX2.out.cell 5;have y6:w2.cell? ⟨BX,6,none⟩=some (.string d.sc):=HX2.out.cell 6;have y7:w2.cell? ⟨BX,7,none⟩=some (.string d.sr):=HX2.out.cell 7
       cases b2 with
       | false =>
        go_wp2;go_ret;exact⟨false,rfl,(fun h=>by cases h),HB2.out⟩
       | true =>
        go_wp2_with fail;refine(zji [d.be,d.af,d.sc,d.sr] (some ⟨w2.heap.size,0,none⟩) 4 4 (w2.alloc (.cells #[.string d.be,.string d.af,.string d.sc,.string d.sr] 22)) (SlN.new w2 [d.be,d.af,d.sc,d.sr] 22 (by simp)) (fun s hs=>HZD.out s (by unfold Dl.str;simp only[List.mem_append];exact .inr hs))).mono ?_;rintro e w3 ⟨b3,rfl,h3,hb⟩;have HB3:=Hq (HB2.out.trans ((((Below.refl w2.heap.size w2).alloc nlr _).trans (hb.mono (by simp))).mono HB2.out.size));have H3:=Hq h3;clear hb h3 y4 y5 y6 y7
        cases b3 with
        | false =>
         go_wp2;go_ret;exact⟨false,rfl,(fun h=>by cases h),HB3.out⟩
        | true =>
         have HA2:=Hq (show ∀(i:Nat) u,i<j+1→l[i]? =some u→FewD u from fun i u hi hu=>by
          rcases Nat.lt_or_ge i j with h | h
          · exact HALL.out i u h hu
          · obtain rfl:i=j:=by omega
            rw[HE.out]at hu;cases hu;exact⟨H1.out (by trivial),H2.out (by trivial),H3.out (by trivial)⟩)
         go_wp2;go_roundw;case rel=>exact⟨j+1,by omega,by omega,by go_num,HA2.out,HB3.out⟩
         case measure=>simp[intOf];omega
    · obtain rfl:j=20:=by omega
      have hd:decide ((n:Int)≤12)=false:=decide_eq_false (by omega);have hd':decide (n≤12)=false:=decide_eq_false (by omega);clear HALL h20;go_wp2;go_ret;exact⟨false,rfl,(fun h=>by cases h),HB.out⟩
  · obtain rfl:j=n:=by omega
    have HF:=Hq (show ∀ d∈l,FewD d from fun s hs=>by
     obtain⟨i,hi⟩:=List.getElem?_of_mem hs
     exact HALL.out i s (by have:=(List.getElem?_eq_some_iff.1 hi).1;rw[HLEN.out]at this;exact this) hi)
    clear hlt hj HALL;by_cases h12:j≤12
    · have hd:decide ((j:Int)≤12)=true:=decide_eq_true (by omega);have hd':decide (j≤12)=true:=decide_eq_true (by omega);have HN:=Hq h12;clear h12;go_wp2;go_ret;exact⟨true,rfl,(fun _=>⟨HN.out,HF.out⟩),HB.out⟩
    · have hd:decide ((j:Int)≤12)=false:=decide_eq_false (by omega);have hd':decide (j≤12)=false:=decide_eq_false (by omega);clear h12;go_wp2;go_ret;exact⟨false,rfl,(fun h=>by cases h),HB.out⟩
noncomputable def scan{α:Type}(f:Nat→α→Int):Nat→List α→Int×Int
 | _,[]=>(0,0)
 | k,x::l=>if f k x≠0 then((k:Int),f k x)else scan f (k+1) l
theorem zet{α:Type}{f:Nat→α→Int}{l:List α}:∀ {k:Nat},(∀(i:Nat) x,i<k→l[i]? =some x→f i x=0)→scan f 0 l=scan f k (l.drop k)
 | 0,_=>by rw[List.drop_zero]
 | k+1,h=>by
  rw[zet (k:=k) (fun i x hi hx=>h i x (by omega) hx)];rcases Nat.lt_or_ge k l.length with hk | hk
  · rw[List.drop_eq_getElem_cons hk];show (if f k l[k]≠0 then _ else scan f (k+1) (l.drop (k+1)))=_;rw[if_neg (fun c=>c (h k l[k] (by omega) (List.getElem?_eq_getElem hk)))]
  · rw[List.drop_eq_nil_of_le hk,List.drop_eq_nil_of_le (by omega)];rfl
theorem zcs{α:Type}{f:Nat→α→Int}{l:List α}{k:Nat}{x:α}(h:∀(i:Nat) x,i<k→l[i]? =some x→f i x=0)(hx:l[k]? =some x)(hne:f k x≠0):scan f 0 l=((k:Int),f k x):=by
 obtain⟨hk,e⟩:=List.getElem?_eq_some_iff.1 hx;rw[zet h,List.drop_eq_getElem_cons hk,e];show (if f k x≠0 then _ else _)=_;rw[if_pos hne]
theorem zd6{α:Type}{f:Nat→α→Int}{l:List α}(h:∀(i:Nat) x,l[i]? =some x→f i x=0):scan f 0 l=(0,0):=by
 rw[zet (k:=l.length) (fun i x _ hx=>h i x hx),List.drop_length];rfl
set_option maxRecDepth 100000
set_option maxHeartbeats 8000000
def MemF(l:List En)(E:Nat)(mem:Nat→List ByteArray):Prop:=∀ n,n≤E→memS l (n:Int)=(mem n,0)∧(∀ x∈mem n,zc x=true)∧(mem n).length≤100000
def ModD(d:Dl):Prop:=d.ad.length≤400000∧d.rm.length≤400000∧SzL d.str∧d.sc.size≤1000∧d.sr.size≤1000
theorem zpq(N M O Z S:ByteArray)(RA:Option Addr)(rn rc:Nat)(U H kM kO kG kY:ByteArray)(l:List En)(A:Option Addr)(len cap:Nat)(log:List Dl)(B:Option Addr)(n c:Nat)(mem:Nat→List ByteArray)(bl bk bs be:Nat)(w:World)
 (hM:M.size≤8) (hO:O.size≤8) (hU:U.size≤9223372036854775807) (gM:kM.size≤8) (gO:kO.size≤100) (gG:kG.size≤1000) (gY:kY.size≤1000)
 (hl:SlE w A len cap l) (hlb:len≤100000) (hsz:SzE l) (hd:SlD w B n c log) (hn:n≤10000) (hmd:∀ d∈log,ModD d) (hmem:MemF l n mem)
 (x1:BxC w bl #[.slice B n c] 31) (x2:BxC w bk (ikC N M O Z S RA rn rc U H) 27) (x3:BxC w bs #[.string kM,.string kO,.string kG,.string kY] 29) (x4:BxC w be #[.slice A len cap] 30) :
 Calls Tryz.prog 25 #[.pointer (some ⟨bl,0,none⟩),.pointer (some ⟨bk,0,none⟩),.pointer (some ⟨bs,0,none⟩),.pointer (some ⟨be,0,none⟩)] w
  (Ret (.tuple #[.int .i64 (scan (fun i d=>dlR M O U kM kO kG kY (mem i) (mem (i+1)) d i) 0 log).1,.int .i64 (scan (fun i d=>dlR M O U kM kO kG kY (mem i) (mem (i+1)) d i) 0 log).2]) w):=by
 have HX1:=Hq x1;have HX2:=Hq x2;have HX3:=Hq x3;have HX4:=Hq x4;have HD:=Hq hd;have HDL:=Hq hd.1;have hc1:=hd.2.1;have hc2:=hd.2.2.1;have HDE:=Hq (fun(d:Dl) (A1:Option Addr) (n1 c1:Nat) (A2:Option Addr) (n2 c2 i:Nat) (W:World) (hb:Below w.heap.size w W) (hi:i<n) (hm:ModD d) (h1:SlN W A1 n1 c1 d.ad) (h2:SlN W A2 n2 c2 d.rm) =>
  zr1 N M O Z S RA rn rc U H kM kO kG kY l A len cap d A1 n1 c1 A2 n2 c2 i (mem i) (mem (i+1)) W hM hO hU gM gO gG gY hm.2.2.2.1 hm.2.2.2.2 (by have:=h1.1;have:=hm.1;omega) (by have:=h2.1;have:=hm.2.1;omega) hm.2.2.1 (SlE.kept hb nlr hl) hlb hsz h1 h2 (by omega) (hmem i (by omega)).1 (by have:=(hmem (i+1) (by omega)).1;exact this) (hmem i (by omega)).2.1 (hmem (i+1) (by omega)).2.1 (hmem i (by omega)).2.2 (hmem (i+1) (by omega)).2.2)
 have HMD:=Hq hmd;obtain⟨f,hf⟩:∃ f:Nat→Dl→Int,(fun i d=>dlR M O U kM kO kG kY (mem i) (mem (i+1)) d i)=f:=⟨_,rfl⟩;have HFE:=Hq (fun i d=>(show dlR M O U kM kO kG kY (mem i) (mem (i+1)) d i=f i d from by rw[←hf]));rw[hf];obtain⟨R,hR⟩:=nm (scan f 0 log);rw[hR];have HR:=Hq hR;unfold ikC kV Dl.arr at HDE;unfold ikC at HX2;clear x1 x2 x3 x4 hd hmd hmem hl hsz hf hR hM hO hU gM gO gG gY;have cl:w.cell? ⟨bl,0,none⟩=some (.slice B n c):=HX1.out.cell 0;go_enter Tryz.func25,Tryz.ntmps25;go_wp2;go_loopw [11] (fun i wr=>∃ k:Nat,k≤n∧i=.int .i64 k∧(∀(j:Nat) x,j<k→log[j]? =some x→f j x=0)∧Below w.heap.size w wr) (fun i _=>n - (intOf i).toNat);case atStart=>exact⟨0,Nat.zero_le _,rfl,fun j x h=>absurd h (Nat.not_lt_zero _),Below.refl _ _⟩
 case round =>
  obtain⟨k,hk,rfl,hall,hbb⟩:=hrel;have HB:=Hq hbb;have HALL:=Hq hall;clear hall cl;by_cases hlt:k<n
  · obtain⟨d,he⟩:∃ d,log[k]? =some d:=⟨_,List.getElem?_eq_getElem (by rw[HDL.out];exact hlt)⟩;obtain⟨b,o,rfl,A1,n1,c1,A2,n2,c2,hin⟩:=(HD.out.kept hbb nlr).get he;have HIN:=Hq hin;have HE:=Hq he;have HM:=Hq (HMD.out d (List.mem_of_getElem? he));have x0:wr.cell? ⟨b,o+k * 8,none⟩=some (.int .i64 d.fr):=HIN.out.cell 0 rfl;have x1:wr.cell? ⟨b,o+k * 8+1,none⟩=some (.int .i64 d.to):=HIN.out.cell 1 rfl;have x2:wr.cell? ⟨b,o+k * 8+2,none⟩=some (.slice A1 n1 c1):=HIN.out.cell 2 rfl;have x3:wr.cell? ⟨b,o+k * 8+3,none⟩=some (.slice A2 n2 c2):=HIN.out.cell 3 rfl;have x4:wr.cell? ⟨b,o+k * 8+4,none⟩=some (.string d.be):=HIN.out.cell 4 rfl;have x5:wr.cell? ⟨b,o+k * 8+5,none⟩=some (.string d.af):=HIN.out.cell 5 rfl;have x6:wr.cell? ⟨b,o+k * 8+6,none⟩=some (.string d.sc):=HIN.out.cell 6 rfl;have x7:wr.cell? ⟨b,o+k * 8+7,none⟩=some (.string d.sr):=HIN.out.cell 7 rfl;clear he hin;go_upto_region 4 with(fail)
    obtain⟨W5,hW5⟩:=nm (wr.alloc (.cells #[.int .i64 d.fr,.int .i64 d.to,.slice A1 n1 c1,.slice A2 n2 c2,.string d.be,.string d.af,.string d.sc,.string d.sr] 72));have hx5:BxC W5 wr.heap.size #[.int .i64 d.fr,.int .i64 d.to,.slice A1 n1 c1,.slice A2 n2 c2,.string d.be,.string d.af,.string d.sc,.string d.sr] 72:=by rw[←hW5];exact BxC.new _ _ _
    have hb5:Below wr.heap.size wr W5:=by rw[←hW5];exact(blr).alloc nlr _
    have hbw:=hbb.trans (hb5.mono hbb.size);have HBW:=Hq hbw;have HCA:=Hq (HDE.out d A1 n1 c1 A2 n2 c2 k W5 hbw hlt HM.out (HIN.out.2.1.kept hb5 nlr) (HIN.out.2.2.kept hb5 nlr));rw[HFE.out k d]at HCA;rw[hW5];clear x0 x1 x2 x3 x4 x5 x6 x7 hW5 hbb;have d0:W5.cell? ⟨wr.heap.size,0,none⟩=some (.int .i64 d.fr):=hx5.cell 0;have d1:W5.cell? ⟨wr.heap.size,1,none⟩=some (.int .i64 d.to):=hx5.cell 1;have d2:W5.cell? ⟨wr.heap.size,2,none⟩=some (.slice A1 n1 c1):=hx5.cell 2;have d3:W5.cell? ⟨wr.heap.size,3,none⟩=some (.slice A2 n2 c2):=hx5.cell 3;have d4:W5.cell? ⟨wr.heap.size,4,none⟩=some (.string d.be):=hx5.cell 4;have d5:W5.cell? ⟨wr.heap.size,5,none⟩=some (.string d.af):=hx5.cell 5;have d6:W5.cell? ⟨wr.heap.size,6,none⟩=some (.string d.sc):=hx5.cell 6;have d7:W5.cell? ⟨wr.heap.size,7,none⟩=some (.string d.sr):=hx5.cell 7;have s0:W5.cell? ⟨bs,0,none⟩=some (.string kM):=(HX3.out.next hbw).cell 0;have s1:W5.cell? ⟨bs,1,none⟩=some (.string kO):=(HX3.out.next hbw).cell 1;have s2:W5.cell? ⟨bs,2,none⟩=some (.string kG):=(HX3.out.next hbw).cell 2;have s3:W5.cell? ⟨bs,3,none⟩=some (.string kY):=(HX3.out.next hbw).cell 3;have l0:W5.cell? ⟨be,0,none⟩=some (.slice A len cap):=(HX4.out.next hbw).cell 0;have hx:=HX2.out.next hbw;have k0:W5.cell? ⟨bk,0,none⟩=some (.string N):=hx.cell 0;have k1:W5.cell? ⟨bk,1,none⟩=some (.string M):=hx.cell 1;have k2:W5.cell? ⟨bk,2,none⟩=some (.string O):=hx.cell 2;have k3:W5.cell? ⟨bk,3,none⟩=some (.string Z):=hx.cell 3;have k4:W5.cell? ⟨bk,4,none⟩=some (.string S):=hx.cell 4;have k5:W5.cell? ⟨bk,5,none⟩=some (.slice RA rn rc):=hx.cell 5;have k6:W5.cell? ⟨bk,6,none⟩=some (.string U):=hx.cell 6;have k7:W5.cell? ⟨bk,7,none⟩=some (.string H):=hx.cell 7;clear hx;clear hx5 hb5 hbw;go_wp2_with fail;refine(show Calls _ _ _ _ _ from HCA.out).mono ?_;rintro e w6 ⟨rfl,hb⟩;have HB6:=bt HBW hb;clear hb d0 d1 d2 d3 d4 d5 d6 d7 s0 s1 s2 s3 l0 k0 k1 k2 k3 k4 k5 k6 k7;obtain⟨v,hv⟩:=nm (f k d);rw[hv];by_cases hv0:v=0
    · subst hv0;have HV:=Hq hv;clear hv;go_wp2;go_roundw;case rel =>
       refine⟨k+1,by omega,by go_num,fun j x hj hx=>?_,HB6.out⟩;rcases Nat.lt_or_ge j k with h | h
       · exact HALL.out j x h hx
       · obtain rfl:j=k:=by omega
         rw[HE.out]at hx;cases hx;exact HV.out
      case measure=>simp[intOf];omega
    · have hvb:(v != 0)=true:=by rw[bne_iff_ne];exact hv0
      have HRR:=Hq (show R=((k:Int),v)from by rw[←HR.out,zcs HALL.out HE.out (by rw[hv];exact hv0),hv]);clear hv hv0;go_wp2;go_ret2;exact⟨by rw[HRR.out];rfl,HB6.out⟩
  · obtain rfl:k=n:=by omega
    have HRR:=Hq (show R=(0,0)from by rw[←HR.out];exact zd6 (fun i x hx=>HALL.out i x (by have:=(List.getElem?_eq_some_iff.1 hx).1;have:=HDL.out;omega) hx));go_wp2;go_ret2;exact⟨by rw[HRR.out];rfl,hbb⟩
set_option maxRecDepth 100000
set_option maxHeartbeats 4000000
def SmE(l:List En):Prop:=∀(j:Nat) (e:En),l[j]? =some e→e.handle.size≤9223372036854775807∧e.schema.size≤9223372036854775807
theorem zj7:(Tryz.prog.info? 9).map (fun i=>(i.zero,i.size,i.bytes))=some (some (.string ⟨#[]⟩),1,16):=by kernel_rfl
def zxy(r:List ByteArray×Int)(w:World)(e:Ending)(w':World):Prop:=∃ A c,e=.returned (.tuple #[.slice A r.1.length c,.int .i64 r.2])∧SlN w' A r.1.length c r.1∧Below w.heap.size w w'
def msV(l:List En)(j:Nat):List Value:=((l.take j).map (fun e=>(msgS e).1)).map Value.string
theorem znt{l:List En}{j:Nat}{e:En}(he:l[j]? =some e):msV l (j+1)=msV l j++[.string (msgS e).1]:=by
 unfold msV;rw[List.take_add_one,he,Option.toList_some,List.map_append,List.map_append];rfl
theorem znu(l:List En):msV l l.length=(l.map (fun e=>(msgS e).1)).map Value.string:=by unfold msV;rw[List.take_length]
theorem zlf(l:List En)(A:Option Addr)(len cap:Nat)(w:World)(hs:SlE w A len cap l)(hlen:len≤4096)(hsm:SmE l):Calls Tryz.prog 23 #[.slice A len cap] w (zxy (zbm l) w):=by
 have HLEN:=Hq hs.1;have hcap:=hs.2.1;have hcap2:=hs.2.2.1;have HS:=Hq hs;have HSM:=Hq hsm;clear hs hsm;go_enter Tryz.func23,Tryz.ntmps23;go_wp2;go_loopw [4,14] (fun s i wr=>∃ j:Nat,j≤len∧i=.int .i64 j∧(∀(k:Nat) y,k<j→l[k]? =some y→(msgS y).2=0)∧wr.ownsRow w.heap.size 9 1 s j (msV l j)∧Below w.heap.size w wr) (fun _ i _=>len - (intOf i).toNat);case atStart=>exact⟨0,Nat.zero_le _,rfl,fun k y h=>absurd h (Nat.not_lt_zero _),World.ownsRow_nil _ _ _ _,Below.refl _ _⟩
 case round =>
  obtain⟨j,hj,rfl,hall,hown,hbb⟩:=hrel;have HALL:=Hq hall;have HOWN:=Hq hown;have HB:=Hq hbb;clear hall hown hbb;by_cases hlt:j<len
  · obtain⟨b,o,rfl⟩:=HS.out.head (by omega);obtain⟨x,he⟩:∃ x,l[j]? =some x:=⟨_,List.getElem?_eq_getElem (by rw[HLEN.out];exact hlt)⟩;have HE:=Hq he;obtain⟨c0,c1,c2,c3⟩:=(HS.out.kept HB.out nlr).get? j he;have HMG:=Hq (qz x (wr.alloc (.cells #[.int .i64 x.kind,.string x.handle,.string x.schema,.int .i64 x.epoch] 53)) (HSM.out j x he).1 (HSM.out j x he).2);have HB1:=Hq (show Below wr.heap.size wr (wr.alloc (.cells #[.int .i64 x.kind,.string x.handle,.string x.schema,.int .i64 x.epoch] 53))from(blr).alloc nlr _);have HBA:=bt HB HB1.out;have HOA:=Hq (jp HOWN.out HB1.out nlr);unfold En.val at HMG;obtain⟨r1,r2,hr⟩:∃ r1 r2,msgS x=(r1,r2):=⟨_,_,rfl⟩;have HMR:=Hq hr;rw[hr]at HMG;clear hr he;go_wp2_with fail;refine(show Calls _ _ _ _ _ from HMG.out).mono ?_;rintro ev w2 ⟨rfl,hb2⟩;have HB2:=bt HBA hb2;have HO2:=Hq (jp HOA.out hb2 nlr);clear hb2;by_cases hz:r2=0
    · subst hz;have HAL:=Hq (show ∀(i:Nat) y,i<j+1→l[i]? =some y→(msgS y).2=0 from fun i y hi hy=>by
       rcases Nat.lt_or_ge i j with a | a
       · exact HALL.out i y a hy
       · obtain rfl:i=j:=by omega
         rw[HE.out]at hy;cases hy
         rw[HMR.out])
      obtain⟨i0,hi,iz0,iz1,iz2⟩:=info_parts zj7;have HO3:=Hq (HO2.out.alloc (.cells #[.string r1] 9));have HB3:=Hq (HB2.out.alloc HB2.out.size (.cells #[.string r1] 9));have HN3:=Hq (heap_alloc_new w2 (.cells #[.string r1] 9));go_wp2_with (at_builtin;refine(wpList_append_lies _ rfl (.tmp 26) (.tmp 28) 63 rfl w.heap.size 9 i0 _ 1 16 Tryz.underlying63 hi iz0 iz1 iz2 rfl (by decide) _ j (msV l j) rfl HO3.out ⟨w2.heap.size,0,none⟩ 1 1 [.string r1] rfl rfl (World.news_of_block HN3.out) ?n2 (by decide) ?n3 ?n4 HB3.out.size _ rfl ?_));case n2=>intro u hu;simp only[List.mem_cons,List.mem_nil_iff,or_false]at hu;subst hu;rfl
      case n3=>unfold maxLen;omega
      case n4=>omega
      intro g cap7 w7 hown7 hgrow7 hat7 hlt7;have HB7:=Hq (HB3.out.grown hgrow7 HB3.out.size (fun k e=>(HO3.out.lt k e).1));have HO7:=Hq (show w7.ownsRow w.heap.size 9 1 _ (j+1) (msV l (j+1))from by rw[znt HE.out,HMR.out];exact hown7);clear hown7 hgrow7 hat7 hlt7 hi iz0 iz1 iz2;go_wp2;go_roundw;case rel=>exact⟨j+1,by omega,by go_num,HAL.out,HO7.out,HB7.out⟩
      case measure=>simp[intOf];omega
    · have hne:(r2 != 0)=true:=by simp[hz]
      have HR:=Hq (show zbm l=([],r2)from by
       have:=zk9 HE.out (by rw[HMR.out];exact hz) (fun i y hi hy=>HALL.out i y hi hy)
       rw[this,HMR.out])
      go_wp2;go_ret2;exact⟨none,0,by rw[HR.out];rfl,by rw[HR.out];exact SlN.nil _ 0 (by omega) _,HB2.out⟩
  · skip;obtain rfl:j=len:=by omega
    have HR:=Hq (zdh (l:=l) (fun i y hy=>HALL.out i y (by have:=(List.getElem?_eq_some_iff.1 hy).1;have:=HLEN.out;omega) hy));have HOL:=Hq (show wr.ownsRow w.heap.size 9 1 u4 j ((l.map (fun e=>(msgS e).1)).map Value.string)from by have:=HOWN.out;rw[show msV l j=msV l l.length from by rw[HLEN.out],znu]at this;exact this);clear hlt hj;go_wp2;go_ret2;obtain⟨hl7,A7,c7,e7,hs7⟩:=SlN.of_owns HOL.out;subst e7;exact⟨A7,c7,by rw[HR.out];show Ending.returned (.tuple #[.slice A7 j c7,.int .i64 0])=.returned (.tuple #[.slice A7 (l.map (fun e=>(msgS e).1)).length c7,.int .i64 0]);rw[List.length_map,HLEN.out],by rw[HR.out];show SlN _ A7 (l.map (fun e=>(msgS e).1)).length c7 (l.map (fun e=>(msgS e).1));rw[List.length_map,HLEN.out];exact hs7,HB.out⟩
theorem zki(l:List En)(A:Option Addr)(len cap:Nat)(w:World)(hs:SlE w A len cap l)(hlen:len≤4096)(hsm:SmE l):Calls Tryz.prog 29 #[.slice A len cap] w (zxy (zbm l) w):=by
 have HLEN:=Hq hs.1;have hcap:=hs.2.1;have hcap2:=hs.2.2.1;have HS:=Hq hs;have HSM:=Hq hsm;clear hs hsm;go_enter Tryz.func29,Tryz.ntmps29;go_wp2;go_loopw [4,5] (fun s i wr=>∃ j:Nat,j≤len∧i=.int .i64 j∧(∀(k:Nat) y,k<j→l[k]? =some y→(msgS y).2=0)∧wr.ownsRow w.heap.size 9 1 s j (msV l j)∧Below w.heap.size w wr) (fun _ i _=>len - (intOf i).toNat);case atStart=>exact⟨0,Nat.zero_le _,rfl,fun k y h=>absurd h (Nat.not_lt_zero _),World.ownsRow_nil _ _ _ _,Below.refl _ _⟩
 case round =>
  obtain⟨j,hj,rfl,hall,hown,hbb⟩:=hrel;have HALL:=Hq hall;have HOWN:=Hq hown;have HB:=Hq hbb;clear hall hown hbb;by_cases hlt:j<len
  · obtain⟨b,o,rfl⟩:=HS.out.head (by omega);obtain⟨x,he⟩:∃ x,l[j]? =some x:=⟨_,List.getElem?_eq_getElem (by rw[HLEN.out];exact hlt)⟩;have HE:=Hq he;obtain⟨c0,c1,c2,c3⟩:=(HS.out.kept HB.out nlr).get? j he;have HMG:=Hq (ze6 x wr (HSM.out j x he).1 (HSM.out j x he).2);unfold En.val at HMG;obtain⟨r1,r2,hr⟩:∃ r1 r2,msgS x=(r1,r2):=⟨_,_,rfl⟩;have HMR:=Hq hr;rw[hr]at HMG;clear hr he;go_wp2_with fail;refine(show Calls _ _ _ _ _ from HMG.out).mono ?_;rintro ev w2 ⟨rfl,hb2⟩;have HB2:=bt HB hb2;have HO2:=Hq (jp HOWN.out hb2 nlr);clear hb2;by_cases hz:r2=0
    · subst hz;have HAL:=Hq (show ∀(i:Nat) y,i<j+1→l[i]? =some y→(msgS y).2=0 from fun i y hi hy=>by
       rcases Nat.lt_or_ge i j with a | a
       · exact HALL.out i y a hy
       · obtain rfl:i=j:=by omega
         rw[HE.out]at hy;cases hy
         rw[HMR.out])
      obtain⟨i0,hi,iz0,iz1,iz2⟩:=info_parts zj7;have HO3:=Hq (HO2.out.alloc (.cells #[.string r1] 9));have HB3:=Hq (HB2.out.alloc HB2.out.size (.cells #[.string r1] 9));have HN3:=Hq (heap_alloc_new w2 (.cells #[.string r1] 9));go_wp2_with (at_builtin;refine(wpList_append_lies _ rfl (.tmp 28) (.tmp 30) 63 rfl w.heap.size 9 i0 _ 1 16 Tryz.underlying63 hi iz0 iz1 iz2 rfl (by decide) _ j (msV l j) rfl HO3.out ⟨w2.heap.size,0,none⟩ 1 1 [.string r1] rfl rfl (World.news_of_block HN3.out) ?n2 (by decide) ?n3 ?n4 HB3.out.size _ rfl ?_));case n2=>intro u hu;simp only[List.mem_cons,List.mem_nil_iff,or_false]at hu;subst hu;rfl
      case n3=>unfold maxLen;omega
      case n4=>omega
      intro g cap7 w7 hown7 hgrow7 hat7 hlt7;have HB7:=Hq (HB3.out.grown hgrow7 HB3.out.size (fun k e=>(HO3.out.lt k e).1));have HO7:=Hq (show w7.ownsRow w.heap.size 9 1 _ (j+1) (msV l (j+1))from by rw[znt HE.out,HMR.out];exact hown7);clear hown7 hgrow7 hat7 hlt7 hi iz0 iz1 iz2;go_wp2;go_roundw;case rel=>exact⟨j+1,by omega,by go_num,HAL.out,HO7.out,HB7.out⟩
      case measure=>simp[intOf];omega
    · have hne:(r2 != 0)=true:=by simp[hz]
      have HR:=Hq (show zbm l=([],r2)from by
       have:=zk9 HE.out (by rw[HMR.out];exact hz) (fun i y hi hy=>HALL.out i y hi hy)
       rw[this,HMR.out])
      go_wp2;go_ret2;exact⟨none,0,by rw[HR.out];rfl,by rw[HR.out];exact SlN.nil _ 0 (by omega) _,HB2.out⟩
  · skip;obtain rfl:j=len:=by omega
    have HR:=Hq (zdh (l:=l) (fun i y hy=>HALL.out i y (by have:=(List.getElem?_eq_some_iff.1 hy).1;have:=HLEN.out;omega) hy));have HOL:=Hq (show wr.ownsRow w.heap.size 9 1 u4 j ((l.map (fun e=>(msgS e).1)).map Value.string)from by have:=HOWN.out;rw[show msV l j=msV l l.length from by rw[HLEN.out],znu]at this;exact this);clear hlt hj;go_wp2;go_ret2;obtain⟨hl7,A7,c7,e7,hs7⟩:=SlN.of_owns HOL.out;subst e7;exact⟨A7,c7,by rw[HR.out];show Ending.returned (.tuple #[.slice A7 j c7,.int .i64 0])=.returned (.tuple #[.slice A7 (l.map (fun e=>(msgS e).1)).length c7,.int .i64 0]);rw[List.length_map,HLEN.out],by rw[HR.out];show SlN _ A7 (l.map (fun e=>(msgS e).1)).length c7 (l.map (fun e=>(msgS e).1));rw[List.length_map,HLEN.out];exact hs7,HB.out⟩
set_option maxRecDepth 100000
set_option maxHeartbeats 4000000
theorem zpt(l:List En)(A:Option Addr)(len cap:Nat)(be:Nat)(w:World)(hs:SlE w A len cap l)(hlb:len≤100000)(hsz:∀(k:Nat) (e:En),l[k]? =some e→e.handle.size≤maxLen∧e.schema.size≤9223372036854775807)(x4:BxC w be #[.slice A len cap] 30) :
 Calls Tryz.prog 16 #[.pointer (some ⟨be,0,none⟩)] w (Ret (.tuple #[.int .i64 (scan (fun i e=>zv (l.take i) e) 0 l).1,.int .i64 (scan (fun i e=>zv (l.take i) e) 0 l).2]) w):=by
 have HS:=Hq hs;have HLEN:=Hq hs.1;have hc1:=hs.2.1;have hc2:=hs.2.2.1;have HSZ:=Hq hsz;have HX4:=Hq x4;obtain⟨R,hR⟩:=nm (scan (fun i e=>zv (l.take i) e) 0 l);rw[hR];have HR:=Hq hR;clear hs hsz x4 hR;go_enter Tryz.func16,Tryz.ntmps16;go_wp2_with fail;refine(qy [] none 0 0 _ ⟨rfl,Nat.le_refl _,by omega,0,0,fun h=>absurd h (Nat.lt_irrefl _),fun k e h=>by simp at h⟩ (by omega) (fun k e h=>by simp at h)).mono ?_;rintro e w1 ⟨sb,bi,br,rfl,hst,g1,g2,g3,hb⟩;have HST1:=Hq hst;have HB1:=Hq hb;have l0:w1.cell? ⟨be,0,none⟩=some (.slice A len cap):=(HX4.out.next hb).cell 0;clear hst hb;go_wp2;clear l0;go_loopw [10] (fun i wr=>∃ k:Nat,k≤len∧i=.int .i64 k∧(∀(j:Nat) x,j<k→l[j]? =some x→zv (l.take j) x=0)∧StAt wr sb k (epochN (l.take k)) bi br (hasB (l.take k) 0) (hasB (l.take k) 1)∧Below w.heap.size w wr) (fun i _=>len - (intOf i).toNat);case atStart=>exact⟨0,Nat.zero_le _,rfl,fun j x h=>absurd h (Nat.not_lt_zero _),HST1.out,HB1.out⟩
 case round =>
  obtain⟨k,hk,rfl,hall,hst,hbb⟩:=hrel;have HB:=Hq hbb;have HALL:=Hq hall;have HST:=Hq hst;clear hall hst;by_cases hlt:k<len
  · obtain⟨e,he⟩:∃ e,l[k]? =some e:=⟨_,List.getElem?_eq_getElem (by rw[HLEN.out];exact hlt)⟩;have hs1:=HS.out.kept hbb nlr;obtain⟨b,o,rfl⟩:=hs1.head (by omega);obtain⟨c0,c1,c2,c3⟩:=hs1.get? k he;have HE:=Hq he;clear he hbb hs1;go_upto_region 5 with(fail)
    obtain⟨W5,hW5⟩:=nm (wr.alloc (.cells #[.int .i64 e.kind,.string e.handle,.string e.schema,.int .i64 e.epoch] 53));have hx5:BxC W5 wr.heap.size #[.int .i64 e.kind,.string e.handle,.string e.schema,.int .i64 e.epoch] 53:=by rw[←hW5];exact BxC.new _ _ _
    have hb5:Below wr.heap.size wr W5:=by rw[←hW5];exact(blr).alloc nlr _
    have HX5:=Hq hx5;have HB5:=bt HB hb5;have HST5:=Hq (HST.out.kept hb5 nlr);rw[hW5];clear c0 c1 c2 c3 hW5 hb5;have d0:W5.cell? ⟨wr.heap.size,0,none⟩=some (.int .i64 e.kind):=hx5.cell 0;have d1:W5.cell? ⟨wr.heap.size,1,none⟩=some (.string e.handle):=hx5.cell 1;have d2:W5.cell? ⟨wr.heap.size,2,none⟩=some (.string e.schema):=hx5.cell 2;have d3:W5.cell? ⟨wr.heap.size,3,none⟩=some (.int .i64 e.epoch):=hx5.cell 3;have hep:epochN (l.take k)≤100000:=by have:=zau (l.take k);rw[List.length_take]at this;omega
    have hfo:=zde sb k (epochN (l.take k)) bi br (hasB (l.take k) 0) (hasB (l.take k) 1) e W5 HST5.out (HSZ.out k e HE.out).1 (HSZ.out k e HE.out).2 (by omega);have hfe:folF (msgS e).2 k (epochN (l.take k)) (hasB (l.take k) 0 e.handle) (hasB (l.take k) 1 e.handle) e.kind e.epoch=zv (l.take k) e:=by unfold zv;rw[List.length_take,Nat.min_eq_left (by have:=HLEN.out;omega)]
    rw[hfe]at hfo;obtain⟨v,hv⟩:=nm (zv (l.take k) e);rw[hv]at hfo;unfold En.val at hfo;have HFO:=Hq hfo;clear hx5 hfo hfe;go_wp2_with fail;refine(show Calls _ _ _ _ _ from HFO.out).mono ?_;rintro e6 w6 ⟨rfl,hb⟩;have HB6:=bt HB5 hb;have HST6:=Hq (HST5.out.kept hb nlr);have hx6:=HX5.out.next hb;clear hb d0 d1 d2 d3;by_cases hv0:v=0
    · subst hv0;have HV:=Hq hv;have d0:w6.cell? ⟨wr.heap.size,0,none⟩=some (.int .i64 e.kind):=hx6.cell 0;have d1:w6.cell? ⟨wr.heap.size,1,none⟩=some (.string e.handle):=hx6.cell 1;have d2:w6.cell? ⟨wr.heap.size,2,none⟩=some (.string e.schema):=hx6.cell 2;have d3:w6.cell? ⟨wr.heap.size,3,none⟩=some (.int .i64 e.epoch):=hx6.cell 3;have had:=zvn w.heap.size sb k (epochN (l.take k)) bi br (hasB (l.take k) 0) (hasB (l.take k) 1) e w6 HST6.out g1 g2 g3 HB6.out.size (by omega) (by omega) (HSZ.out k e HE.out).1;unfold En.val at had;have HAD:=Hq had;clear hv hx6 had;go_wp2_with fail;refine(show Calls _ _ _ _ _ from HAD.out).mono ?_;rintro e7 w7 ⟨rfl,hst7,hb7⟩;have HST7:=Hq hst7;have HB7:=Hq (HB6.out.trans hb7);clear hst7 hb7 d0 d1 d2 d3;go_wp2;go_roundw;case rel =>
       refine⟨k+1,by omega,by go_num,fun j x hj hx=>?_,?_,HB7.out⟩
       · rcases Nat.lt_or_ge j k with h | h
         · exact HALL.out j x h hx
         · obtain rfl:j=k:=by omega
           rw[HE.out]at hx;cases hx;exact HV.out
       · obtain⟨h1,h2,h3,h4⟩:=HST7.out;rw[xv HE.out];exact⟨h1,h2.congr fun u=>(zbn HE.out).symm,h3.congr fun u=>(zbn HE.out).symm,h4⟩
      case measure=>simp[intOf];omega
    · have hvb:(v != 0)=true:=by rw[bne_iff_ne];exact hv0
      have HRR:=Hq (show R=((k:Int),v)from by rw[←HR.out,zcs (f:=fun i e=>zv (l.take i) e) HALL.out HE.out (by show zv (l.take k) e≠0;rw[hv];exact hv0)];show ((k:Int),zv (l.take k) e)=_;rw[hv]);clear hv hv0 hx6;go_wp2;go_ret2;exact⟨by rw[HRR.out];rfl,HB6.out⟩
  · obtain rfl:k=len:=by omega
    have HRR:=Hq (show R=(0,0)from by rw[←HR.out];exact zd6 (fun i x hx=>HALL.out i x (by have:=(List.getElem?_eq_some_iff.1 hx).1;have:=HLEN.out;omega) hx));go_wp2;go_ret2;exact⟨by rw[HRR.out];rfl,hbb⟩
theorem zps(kM kO kG kY:ByteArray)(z:Int)(rt a b:ByteArray)(bs bh:Nat)(w:World)(gM:kM.size≤8)(gO:kO.size≤100)(gG:kG.size≤1000)(gY:kY.size≤1000)(ha:a.size≤1000)(hb:b.size≤1000)(hr:rt.size≤100)
 (x3:BxC w bs #[.string kM,.string kO,.string kG,.string kY] 29) (x5:BxC w bh #[.int .i64 z,.string rt,.string a,.string b] 35) :
 Calls Tryz.prog 20 #[.pointer (some ⟨bs,0,none⟩),.pointer (some ⟨bh,0,none⟩)] w (Ret (.tuple #[.int .i64 0,.int .i64 (ckH kM kO kG kY z rt a b)]) w):=by
 have HCK:=Hq (zjf kM kO kG kY rt a b z gM gO gG gY ha hb hr w);unfold kV at HCK;obtain⟨v,hv⟩:=nm (ckH kM kO kG kY z rt a b);rw[hv]at HCK⊢;clear hv gM gO gG gY ha hb hr;have s0:w.cell? ⟨bs,0,none⟩=some (.string kM):=x3.cell 0;have s1:w.cell? ⟨bs,1,none⟩=some (.string kO):=x3.cell 1;have s2:w.cell? ⟨bs,2,none⟩=some (.string kG):=x3.cell 2;have s3:w.cell? ⟨bs,3,none⟩=some (.string kY):=x3.cell 3;have h0:w.cell? ⟨bh,0,none⟩=some (.int .i64 z):=x5.cell 0;have h1:w.cell? ⟨bh,1,none⟩=some (.string rt):=x5.cell 1;have h2:w.cell? ⟨bh,2,none⟩=some (.string a):=x5.cell 2;have h3:w.cell? ⟨bh,3,none⟩=some (.string b):=x5.cell 3;clear x3 x5;go_enter Tryz.func20,Tryz.ntmps20;go_wp2_with fail;refine(show Calls _ _ _ _ _ from HCK.out).mono ?_;rintro e w1 ⟨rfl,hb⟩;have HB:=Hq hb;clear hb s0 s1 s2 s3 h0 h1 h2 h3;go_wp2;go_ret2;exact⟨rfl,HB.out⟩
end Go.Proofs.YtppbcopnfankcaaGreat

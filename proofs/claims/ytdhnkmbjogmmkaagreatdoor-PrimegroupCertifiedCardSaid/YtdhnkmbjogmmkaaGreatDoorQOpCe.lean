import Derived.Test.YtdhnkmbjogmmkaaGreatDoorQCeP
import Derived.Test.YtdhnkmbjogmmkaaGreatDoorQAwL
import Derived.Lib.SmallJoins
import Derived.LaidMore
import Derived.Stop.Joined
set_option linter.unusedVariables false
set_option linter.unusedSimpArgs false
namespace Go.Proofs.YtdhnkmbjogmmkaaGreatDoor
set_option maxRecDepth 100000
set_option maxHeartbeats 4000000
open Go.RowKit
def RetFc(P:Prop)(w:World)(e:Ending)(w':World):Prop:=∃ b,e=.returned (.bool b)∧(b=true→P)∧Below w.heap.size w w'
def ShS(s:Stp):Prop:=s.p.size≤16∧s.b.size≤16∧s.f.length≤20
theorem law_short(l:List Stp)(A:Option Addr)(len cap:Nat)(w:World)(hs:SlT w A len cap l):Calls Tryz.prog 4 #[.agg #[.slice A len cap]] w (RetFc (ShortC l) w):=by
 obtain⟨W0,hW0⟩:∃ W,w.alloc (.cells #[.slice A len cap] 27)=W:=⟨_,rfl⟩;have hb0:Below w.heap.size w W0:=by rw[←hW0];exact(blr).alloc nlr _
 have HX0:=Hq (show BxT W0 w.heap.size #[.slice A len cap] 27 from by rw[←hW0];exact BxT.new _ _ _);have HB0:=Hq hb0;have HS0:=Hq (hs.kept hb0 nlr);have HL:=Hq hs.1;have hcap:=hs.2.1;have hcap2:=hs.2.2.1;clear hs hb0;go_enter Tryz.func4,Tryz.ntmps4;go_wp2;try rw[hW0]
 clear hW0;go_loopw [3] (fun k wr=>∃ j:Nat,j≤len∧j≤20∧k=.int .i64 j∧(∀(m:Nat) s,m<j→l[m]? =some s→ShS s)∧wr=W0) (fun k _=>len - (intOf k).toNat);case atStart=>exact⟨0,Nat.zero_le _,by omega,rfl,fun m s h=>absurd h (Nat.not_lt_zero _),rfl⟩
 case round =>
  obtain⟨j,hj,hj2,rfl,hall,rfl⟩:=hrel;have HALL:=Hq hall;have x0:wr.cell? ⟨w.heap.size,0,none⟩=some (.slice A len cap):=HX0.out.cell 0;clear hall;by_cases hlt:j<len
  · by_cases h20:j<20
    · obtain⟨s,he⟩:∃ s,l[j]? =some s:=⟨_,List.getElem?_eq_getElem (by rw[HL.out];exact hlt)⟩;obtain⟨b,o,rfl,A1,n1,c1,y0,y1,y2,hsf⟩:=HS0.out.get he;have hn1:=hsf.1;have HN1:=Hq hn1;have i20:(j:Int)<20:=by omega
      have HE:=Hq he;clear he hsf hn1;by_cases h1:s.p.size≤16
      · have d1:decide ((16:Int)<(s.p.size:Int))=false:=decide_eq_false (by omega);have d1':decide (16<s.p.size)=false:=decide_eq_false (by omega);have H1:=Hq h1;clear h1;by_cases h2:s.b.size≤16
        · have d2:decide ((16:Int)<(s.b.size:Int))=false:=decide_eq_false (by omega);have d2':decide (16<s.b.size)=false:=decide_eq_false (by omega);have H2:=Hq h2;clear h2;by_cases h3:n1≤20
          · have d3:decide ((20:Int)<(n1:Int))=false:=decide_eq_false (by omega);have d3':decide (20<n1)=false:=decide_eq_false (by omega);have HA2:=Hq (show ∀(m:Nat) t,m<j+1→l[m]? =some t→ShS t from fun m t hm ht=>by
             rcases Nat.lt_or_ge m j with h | h
             · exact HALL.out m t h ht
             · obtain rfl:m=j:=by omega
               rw[HE.out]at ht;cases ht
               exact⟨H1.out,H2.out,by rw[HN1.out];exact h3⟩)
            clear h3;go_wp2;go_roundw;case rel=>exact⟨j+1,by omega,by omega,by go_num,HA2.out,trivial⟩
            case measure=>simp[intOf];omega
          · have d3:decide ((20:Int)<(n1:Int))=true:=decide_eq_true (by omega);have d3':decide (20<n1)=true:=decide_eq_true (by omega);clear h3;go_wp2;go_ret;exact⟨false,rfl,(fun h=>by cases h),HB0.out⟩
        · have d2:decide ((16:Int)<(s.b.size:Int))=true:=decide_eq_true (by omega);have d2':decide (16<s.b.size)=true:=decide_eq_true (by omega);clear h2;go_wp2;go_ret;exact⟨false,rfl,(fun h=>by cases h),HB0.out⟩
      · have d1:decide ((16:Int)<(s.p.size:Int))=true:=decide_eq_true (by omega);have d1':decide (16<s.p.size)=true:=decide_eq_true (by omega);clear h1;go_wp2;go_ret;exact⟨false,rfl,(fun h=>by cases h),HB0.out⟩
    · obtain rfl:j=20:=by omega
      have hd:decide ((len:Int)≤20)=false:=decide_eq_false (by omega);have hd':decide (len≤20)=false:=decide_eq_false (by omega);clear HALL h20;go_wp2;go_ret;exact⟨false,rfl,(fun h=>by cases h),HB0.out⟩
  · obtain rfl:j=len:=by omega
    have HF:=Hq (show ShortC l from by
     have h:∀ s∈l,ShS s:=fun s hs=>by
      obtain⟨i,hi⟩:=List.getElem?_of_mem hs;exact HALL.out i s (by have:=(List.getElem?_eq_some_iff.1 hi).1;rw[HL.out]at this;exact this) hi
     exact⟨by rw[HL.out];exact hj2,fun s hs=>(h s hs).1,fun s hs=>(h s hs).2.1,fun s hs=>(h s hs).2.2⟩)
    have hd:decide ((j:Int)≤20)=true:=decide_eq_true (by omega);have hd':decide (j≤20)=true:=decide_eq_true (by omega);clear hlt hj;go_wp2;go_ret;exact⟨true,rfl,(fun _=>HF.out),HB0.out⟩
theorem walk_certified(M O:ByteArray)(p q:List Stp)(A1:Option Addr)(n1 c1:Nat)(A2:Option Addr)(n2 c2:Nat)(w:World)(h1:SlT w A1 n1 c1 p)(h2:SlT w A2 n2 c2 q)(ht:TabAt w) :
 Calls Tryz.prog 3 #[gV M O,.agg #[.slice A1 n1 c1],.agg #[.slice A2 n2 c2]] w (Ret (.bool true) w):=by
 have HAW:=Hq awake9;have hx:=Bx3.new w M O (.slice A1 n1 c1) (.slice A2 n2 c2);obtain⟨W0,hW0⟩:∃ W,((w.alloc (.cells #[.string M,.string O] 24)).alloc (.cells #[.slice A1 n1 c1] 27)).alloc (.cells #[.slice A2 n2 c2] 27)=W:=⟨_,rfl⟩;rw[hW0]at hx;have HX0:=Hq hx;have HS1:=Hq (fun W (hb:Below w.heap.size w W)=>h1.kept hb nlr);have HS2:=Hq (fun W (hb:Below w.heap.size w W)=>h2.kept hb nlr);have HT:=Hq (fun W (hb:Below w.heap.size w W)=>ht.kept hb nlr);have HQ1:=Hq (law_short p A1 n1 c1 W0 (h1.kept hx.b nlr));have HQ2:=Hq (fun W (hb:Below w.heap.size w W)=>law_short q A2 n2 c2 W (h2.kept hb nlr));clear hx h1 h2 ht;unfold gV;have g0:W0.cell? ⟨w.heap.size,0,none⟩=some (.string M):=HX0.out.g.cell 0;have g1:W0.cell? ⟨w.heap.size,1,none⟩=some (.string O):=HX0.out.g.cell 1;have p0:W0.cell? ⟨w.heap.size+1,0,none⟩=some (.slice A1 n1 c1):=HX0.out.p.cell 0;have q0:W0.cell? ⟨w.heap.size+1+1,0,none⟩=some (.slice A2 n2 c2):=HX0.out.q.cell 0;by_cases h1:M.size≤16
 · have i1:decide ((16:Int)<(M.size:Int))=false:=decide_eq_false (by omega);have i1':¬ ((16:Int)<(M.size:Int)):=by omega
   have H1:=Hq h1;clear h1;by_cases h2:O.size≤16
   · have i2:decide ((16:Int)<(O.size:Int))=false:=decide_eq_false (by omega);have i2':¬ ((16:Int)<(O.size:Int)):=by omega
     have H2:=Hq h2;clear h2;go_enter Tryz.func3,Tryz.ntmps3;go_wp2_with fail;try rw[hW0]
     clear hW0;refine HQ1.out.mono ?_;rintro e w1 ⟨b1,rfl,hb1,hb⟩;have HX1:=Hq (HX0.out.next hb);clear hb g0 g1 p0 q0
     cases b1 with
     | false =>
      clear hb1;go_wp2_with fail;refine(HAW.out _).mono ?_;rintro e wz ⟨rfl,hb⟩;have HBZ:=Hq (HX1.out.b.trans (hb.mono HX1.out.b.size));clear hb;go_wp2;go_ret;exact⟨rfl,HBZ.out⟩
     | true =>
      have HP:=Hq (hb1 rfl);clear hb1;have q0:w1.cell? ⟨w.heap.size+1+1,0,none⟩=some (.slice A2 n2 c2):=HX1.out.q.cell 0;have HQ:=Hq (HQ2.out w1 HX1.out.b);go_wp2_with fail;refine HQ.out.mono ?_;rintro e w2 ⟨b2,rfl,hb2,hb⟩;have HX2:=Hq (HX1.out.next hb);clear hb q0
      cases b2 with
      | false =>
       clear hb2;go_wp2_with fail;refine(HAW.out _).mono ?_;rintro e wz ⟨rfl,hb⟩;have HBZ:=Hq (HX2.out.b.trans (hb.mono HX2.out.b.size));clear hb;go_wp2;go_ret;exact⟨rfl,HBZ.out⟩
      | true =>
       have HQQ:=Hq (hb2 rfl);clear hb2;go_wp2;obtain⟨wd,hwd⟩:∃ wd,w2.drew=wd:=⟨_,rfl⟩;have hbd:Below w2.heap.size w2 wd:=by rw[←hwd];exact(blr).drew
       have HXD:=Hq (HX2.out.next hbd);clear hbd;have g0:wd.cell? ⟨w.heap.size,0,none⟩=some (.string M):=HXD.out.g.cell 0;have g1:wd.cell? ⟨w.heap.size,1,none⟩=some (.string O):=HXD.out.g.cell 1;have p0:wd.cell? ⟨w.heap.size+1,0,none⟩=some (.slice A1 n1 c1):=HXD.out.p.cell 0;have q0:wd.cell? ⟨w.heap.size+1+1,0,none⟩=some (.slice A2 n2 c2):=HXD.out.q.cell 0;have HCP:=Hq (pg_Certified M O H1.out H2.out p q HP.out HQQ.out A1 n1 c1 A2 n2 c2 wd (HS1.out wd HXD.out.b) (HS2.out wd HXD.out.b) (HT.out wd HXD.out.b));have HCR:=Hq (fun W (hb:Below wd.heap.size wd W)=>r09_Certified M O H1.out H2.out p q HP.out HQQ.out A1 n1 c1 A2 n2 c2 W (HS1.out W (HXD.out.b.trans (hb.mono HXD.out.b.size))) (HS2.out W (HXD.out.b.trans (hb.mono HXD.out.b.size))));rw[cfR_same]at HCR;unfold gV at HCP HCR;obtain⟨z,hz⟩:∃ z,cfR corC M O p q=z:=⟨_,rfl⟩;rw[hz]at HCP HCR;clear hz;refine wp_region_K 13 (Below (wd).heap.size (wd)) (by kernel_rfl) ?_;intro hD;rw[hwd];have KK1:=Hq (fun w' (hS':(Below (wd).heap.size (wd)) w')=>And.intro (kC hS' g0) (And.intro (kC hS' g1) (And.intro (kC hS' p0) (kC hS' q0))));refine rT 0 28 12 rfl hD blr (by intro w' hS';obtain⟨e0,e1,e2,e3⟩:=KK1.out w' hS';go_simp;with_reducible rfl) ?_;clear hD;intro hD;refine rT 1 29 11 rfl hD blr (by intro w' hS';obtain⟨e0,e1,e2,e3⟩:=KK1.out w' hS';go_simp;with_reducible rfl) ?_;clear hD;intro hD;refine rT 2 30 10 rfl hD blr (by intro w' hS';obtain⟨e0,e1,e2,e3⟩:=KK1.out w' hS';go_simp;with_reducible rfl) ?_;clear hD;intro hD;refine rT 4 32 9 rfl hD blr (by intro w' hS';obtain⟨e0,e1,e2,e3⟩:=KK1.out w' hS';go_simp;with_reducible rfl) ?_;clear hD;intro hD;refine rT 5 33 8 rfl hD blr (by intro w' hS';obtain⟨e0,e1,e2,e3⟩:=KK1.out w' hS';go_simp;with_reducible rfl) ?_;clear hD;intro hD;refine rT 6 34 7 rfl hD blr (by intro w' hS';obtain⟨e0,e1,e2,e3⟩:=KK1.out w' hS';go_simp;with_reducible rfl) ?_;clear hD;intro hD;simp only[Act.put,sqA,sqB,sqC];refine rO 3 6 rfl hD ?_;clear hD;intro K3 hK3;go_wp2_with fail;refine HCP.out.mono ?_;rintro ev w3 ⟨rfl,hb⟩;have HB3:=Hq hb;clear hb;go_wp2;refine hK3 _ _ (by exact HB3.out) ?_;clear hK3;intro hS_3_3 hD;refine rO 7 5 rfl hD ?_;clear hD;intro K7 hK7;go_wp2_with fail;refine(HCR.out _ hS_3_3).mono ?_;rintro ev w4 ⟨rfl,hb⟩;have HB7:=Hq hb;clear hb;go_wp2;refine hK7 _ _ (by exact Below.trans hS_3_3 (Below.mono HB7.out (Below.size hS_3_3))) ?_;clear hK7;intro hS_3_7 hD;refine rP 8 36 4 rfl hD hS_3_7 ?_;clear hD;intro hD;refine rP 9 37 3 rfl hD hS_3_7 ?_;clear hD;intro hD;simp only[Act.put,sqA,sqB,sqC];refine rO 10 2 rfl hD ?_;clear hD;intro K10 hK10;go_wp2_with fail;refine(HAW.out _).mono ?_;rintro ev w5 ⟨rfl,hb⟩;have HB10:=Hq hb;clear hb;go_wp2;refine hK10 _ _ (by exact Below.trans hS_3_7 (Below.mono HB10.out (Below.size hS_3_7))) ?_;clear hK10;intro hS_3_10 hD;refine rP 11 39 1 rfl hD hS_3_10 ?_;clear hD;intro hD;simp only[Act.put,sqA,sqB,sqC];refine rO 12 0 rfl hD ?_;clear hD;intro K12 hK12;go_wp2;refine hK12 _ _ (by exact hS_3_10) ?_;clear hK12;intro hS_3_12 hD;refine wpAnyK_done (by kernel_rfl) ?_ 0;clear hD;have HBE:=Hq (HXD.out.b.trans (Below.mono hS_3_12 HXD.out.b.size));go_wp2;go_ret;exact⟨rfl,HBE.out⟩
   · have i2:decide ((16:Int)<(O.size:Int))=true:=decide_eq_true (by omega);have i2':(16:Int)<(O.size:Int):=by omega
     clear h2;go_enter Tryz.func3,Tryz.ntmps3;go_wp2_with fail;try rw[hW0]
     clear hW0 g0 g1 p0 q0;refine(HAW.out _).mono ?_;rintro e wz ⟨rfl,hb⟩;have HBZ:=Hq (HX0.out.b.trans (hb.mono HX0.out.b.size));clear hb;go_wp2;go_ret;exact⟨rfl,HBZ.out⟩
 · have i1:decide ((16:Int)<(M.size:Int))=true:=decide_eq_true (by omega);have i1':(16:Int)<(M.size:Int):=by omega
   clear h1;go_enter Tryz.func3,Tryz.ntmps3;go_wp2_with fail;try rw[hW0]
   clear hW0 g0 g1 p0 q0;refine(HAW.out _).mono ?_;rintro e wz ⟨rfl,hb⟩;have HBZ:=Hq (HX0.out.b.trans (hb.mono HX0.out.b.size));clear hb;go_wp2;go_ret;exact⟨rfl,HBZ.out⟩
set_option maxRecDepth 100000
open Go.ChangeShapes Go.WideShapes Go.Joins Go.RowKit
open Go.ChangeMaps (open_string shut_string)
theorem own9:ownKnob Tryz.prog.godebug=none:=by kernel_rfl
theorem laidOut9:laidOutB Tryz.prog=true:=by kernel_rfl
section
variable {H : Type} {enc : TypeId × Value → H} {W : World} {sp : Nat → Bool} {held : Bool}
theorem open_group{r:Reach}{b0:Nat}{v:Value}{d:DataW H}{p:List MemPlace}(hv:Value.okWide Tryz.prog W r b0 24 v)(h:DataW.Trod enc Tryz.prog W 0 sp held 24 v d p):∃ M O:ByteArray,v=gV M O:=by
 obtain⟨v0,v1,y0,y1,n,rfl,_,_,g0,g1⟩:=open_agg2 Tryz.underlying24 (by kernel_rfl) (by kernel_rfl) hv h;obtain⟨n0,e0,_,z0⟩:=DataW.trod_string Tryz.underlying22 g0;obtain⟨n1,e1,_,z1⟩:=DataW.trod_string Tryz.underlying22 g1;simp only[List.cons.injEq,and_true]at e0 e1;subst e0 e1;exact⟨n0,n1,rfl⟩
end
set_option maxRecDepth 100000
open Go.ChangeShapes Go.WideShapes Go.Deep Go.Joins Go.RowKit
open Go.ChangeMaps (open_string shut_string)
theorem list_ofC{α:Type}{Q:Nat→α→Prop}:∀(n:Nat),(∀ i,i<n→∃ e,Q i e)→∃ l:List α,l.length=n∧∀ k e,l[k]? =some e→Q k e
 | 0,_=>⟨[],rfl,fun k e h=>by simp at h⟩
 | n+1,h=>by
  obtain⟨l,hl,hq⟩:=list_ofC n (fun i hi=>h i (by omega));obtain⟨e,he⟩:=h n (by omega);refine⟨l++[e],by simp[hl],fun k e' hk=>?_⟩;by_cases hkn:k<l.length
  · rw[List.getElem?_append_left hkn]at hk;exact hq k e' hk
  · rw[List.getElem?_append_right (by omega)]at hk;have h0:k - l.length=0:=by
     rcases Nat.eq_zero_or_pos (k - l.length)with h0 | h0
     · exact h0
     · rw[List.getElem?_eq_none (by simp;omega)]at hk;cases hk
    rw[h0]at hk;simp only[List.getElem?_cons_zero,Option.some.injEq]at hk;subst hk;rw[show k=n from by omega];exact he
section
variable {H : Type} {enc : TypeId × Value → H} {W : World} {sp : Nat → Bool} {held : Bool}
theorem trod_atC{P:Program}{w:World}{base:Nat}{spare:Nat→Bool}{fuel:Nat}{t:TypeId}{cs:List Value}{x:DataW H×List MemPlace}{fs:Array Field}(ht:P.underlying t=some (.struct fs))(h:DataW.trod enc P w base spare held fuel t cs=some x)(i:Nat)(f:Field)(hf:fs[i]? =some f)(k:Nat)(hk:P.cellsOf f.type=k) :
 ∃ n y,DataW.trod enc P w base spare held n f.type ((cs.drop f.offset).take k)=some y:=by
 obtain⟨xs,n,_,_,_,hl,hx⟩:=DataW.trod_struct ht h;have h1:=hx i f hf;have hi:i<xs.length:=by rw[hl];exact(Array.getElem?_eq_some_iff.1 hf).1
 rw[hk,List.getElem?_eq_getElem hi]at h1;exact⟨n,_,h1⟩
theorem trod_lenC{P:Program}{w:World}{base:Nat}{spare:Nat→Bool}{fuel:Nat}{t:TypeId}{cs:List Value}{x:DataW H×List MemPlace}{fs:Array Field}(ht:P.underlying t=some (.struct fs))(h:DataW.trod enc P w base spare held fuel t cs=some x):cs.length=P.cellsOf t:=by
 obtain⟨_,_,_,_,h1,_,_⟩:=DataW.trod_struct ht h;exact h1
theorem open_ints{fuel:Nat}{cs:List Value}{x:DataW H×List MemPlace}(h:DataW.trod enc Tryz.prog W 0 (fun _=>true) held fuel 34 cs=some x):∃ A n c l,cs=[.slice A n c]∧SlI W A n c l:=by
 rcases open_slice Tryz.underlying34 h with⟨rfl,_⟩ | ⟨ad,len,cap,m,n,D,Pl,rfl,hb,hl,hm,hmm,hx,hi⟩
 · exact⟨none,0,0,[],rfl,rfl,Nat.le_refl _,Nat.zero_le _,0,0,fun h=>absurd h (Nat.lt_irrefl _),fun k s h=>by simp at h⟩
 · have hC:Tryz.prog.cellsOf 3=1:=by kernel_rfl
   have hq:∀ i,i<len→∃ s:Int,W.cell? (ad.add i)=some (.int .i64 s):=fun i hi'=>by
    obtain⟨cs',hc,ht'⟩:=hi i (by rw[hmm];simp;omega);obtain⟨s,e,_,z⟩:=DataW.trod_int Tryz.underlying3 ht';rw[hC,Nat.mul_one]at hc;obtain⟨_,hcl,hat⟩:=World.cells?_some hc;have:=hat 0 (by omega);rw[e]at this;exact⟨s,by simpa[Addr.add]using this⟩
   obtain⟨l,hll,hq⟩:=list_ofC len hq;refine⟨some ad,len,cap,l,rfl,hll,hl,by unfold maxLen at hm;exact hm,?_⟩;rcases Nat.eq_zero_or_pos len with h0 | h0
   · exact⟨0,0,fun h=>by omega,fun k e hk=>by have:=(List.getElem?_eq_some_iff.1 hk).1;omega⟩
   · obtain⟨b,off,spot⟩:=ad;obtain⟨e,he⟩:∃ e,l[0]? =some e:=⟨_,List.getElem?_eq_getElem (by omega)⟩;have h1:=hq 0 e he;have hspot:spot=none:=by simpa[Addr.add]using World.cell?_spot h1
     subst hspot;refine⟨b,off,fun _=>rfl,fun k e hk=>?_⟩;have:=hq k e hk;rw[addr_add]at this;exact this
theorem threeC{cs:List Value}(h:cs.length=3):∃ c0 c1 c2,cs=[c0,c1,c2]:=
 match cs,h with
 | [c0,c1,c2],_=>⟨c0,c1,c2,rfl⟩
theorem open_stp{fuel:Nat}{cs:List Value}{x:DataW H×List MemPlace}(h:DataW.trod enc Tryz.prog W 0 (fun _=>true) held fuel 36 cs=some x):∃(s:Stp) (A1:Option Addr) (n1 c1:Nat),cs=[.string s.p,.string s.b,.slice A1 n1 c1]∧SlI W A1 n1 c1 s.f:=by
 have hl:=trod_lenC Tryz.underlying36 h;rw[show Tryz.prog.cellsOf 36=3 from by kernel_rfl]at hl;obtain⟨c0,c1,c2,rfl⟩:=threeC hl;clear hl;obtain⟨na,ya,ga⟩:=trod_atC Tryz.underlying36 h 0 _ rfl 1 (by kernel_rfl);have ga:DataW.trod enc Tryz.prog W 0 (fun _=>true) held na 22 [c0]=some ya:=ga;obtain⟨nb,yb,gb⟩:=trod_atC Tryz.underlying36 h 1 _ rfl 1 (by kernel_rfl);have gb:DataW.trod enc Tryz.prog W 0 (fun _=>true) held nb 22 [c1]=some yb:=gb;obtain⟨nc,yc,gc⟩:=trod_atC Tryz.underlying36 h 2 _ rfl 1 (by kernel_rfl);have gc:DataW.trod enc Tryz.prog W 0 (fun _=>true) held nc 34 [c2]=some yc:=gc;obtain⟨v0,e0,_,z0⟩:=DataW.trod_string Tryz.underlying22 ga;cases e0;obtain⟨v1,e1,_,z1⟩:=DataW.trod_string Tryz.underlying22 gb;cases e1;obtain⟨A1,n1,c1,l1,e2,hs1⟩:=open_ints gc;cases e2;exact⟨⟨v0,v1,l1⟩,A1,n1,c1,rfl,hs1⟩
theorem open_stps{fuel:Nat}{cs:List Value}{x:DataW H×List MemPlace}(h:DataW.trod enc Tryz.prog W 0 (fun _=>true) held fuel 25 cs=some x):∃ A n c l,cs=[.slice A n c]∧SlT W A n c l:=by
 have hC:Tryz.prog.cellsOf 36=3:=by kernel_rfl
 rcases open_slice Tryz.underlying25 h with⟨rfl,_⟩ | ⟨ad,len,cap,m,n,D,Pl,rfl,hb,hl,hm,hmm,hx,hi⟩
 · exact⟨none,0,0,[],rfl,SlT.nil _ _ _ (by omega)⟩
 · have hq:∀ i,i<len→∃ s:Stp,∃ A1 n1 c1,W.cell? (ad.add (i * 3))=some (.string s.p)∧W.cell? (ad.add (i * 3+1))=some (.string s.b)∧W.cell? (ad.add (i * 3+2))=some (.slice A1 n1 c1)∧SlI W A1 n1 c1 s.f:=fun i hi'=>by
    obtain⟨cs',hc,ht'⟩:=hi i (by rw[hmm];simp;omega);obtain⟨s,A1,n1,c1,rfl,hs1⟩:=open_stp ht';rw[hC]at hc;obtain⟨_,hcl,hat⟩:=World.cells?_some hc;have h0:=hat 0 (by omega);have h1:=hat 1 (by omega);have h2:=hat 2 (by omega);rw[Go.Deep.add_add]at h0 h1 h2;exact⟨s,A1,n1,c1,h0,h1,h2,hs1⟩
   obtain⟨l,hll,hq⟩:=list_ofC len hq;refine⟨some ad,len,cap,l,rfl,hll,hl,by unfold maxLen at hm;exact hm,?_⟩;rcases Nat.eq_zero_or_pos len with h0 | h0
   · exact⟨0,0,fun h=>by omega,fun k e hk=>by have:=(List.getElem?_eq_some_iff.1 hk).1;omega⟩
   · obtain⟨b,off,spot⟩:=ad;obtain⟨d,hd⟩:∃ d,l[0]? =some d:=⟨_,List.getElem?_eq_getElem (by omega)⟩;obtain⟨_,_,_,h1,_⟩:=hq 0 d hd;have hspot:spot=none:=by simpa[Addr.add]using World.cell?_spot h1
     subst hspot;refine⟨b,off,fun _=>rfl,fun k e hk=>?_⟩;obtain⟨A1,n1,c1,h0,h1,h2,h3⟩:=hq k e hk;rw[addr_add]at h0 h1 h2;exact⟨A1,n1,c1,h0,h1,h2,h3⟩
theorem open_cert{r:Reach}{b0:Nat}{v:Value}{d:DataW H}{p:List MemPlace}(hv:Value.okWide Tryz.prog W r b0 27 v)(h:DataW.Trod enc Tryz.prog W 0 (fun _=>true) held 27 v d p):∃ A n c l,v=.agg #[.slice A n c]∧SlT W A n c l:=by
 obtain⟨cs,rfl,hsz⟩:=okWide_struct Tryz.underlying27 hv;have hsz:cs.size=1:=hsz.trans (show Tryz.prog.cellsOf 27=1 from by kernel_rfl);obtain⟨c0,rfl⟩:∃ c0,cs=#[c0]:=by
  obtain⟨l⟩:=cs
  match l,hsz with
  | [a],_=>exact⟨a,rfl⟩
 obtain⟨fuel,hf⟩:=h;have hf:DataW.trod enc Tryz.prog W 0 (fun _=>true) held fuel 27 [c0]=some (d,p):=hf;obtain⟨na,ya,ga⟩:=trod_atC Tryz.underlying27 hf 0 _ rfl 1 (by kernel_rfl);have ga:DataW.trod enc Tryz.prog W 0 (fun _=>true) held na 25 [c0]=some ya:=ga;obtain⟨A,n,c,l,e,hs⟩:=open_stps ga;cases e;exact⟨A,n,c,l,rfl,hs⟩
end
end Go.Proofs.YtdhnkmbjogmmkaaGreatDoor

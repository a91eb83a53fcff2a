import Derived.Test.YtkfgdcgmlobhfaaGreatQShelb
import Derived.Deep.Upon
set_option linter.unusedVariables false
set_option linter.unusedSimpArgs false
namespace Go.Proofs.YtkfgdcgmlobhfaaGreat
set_option maxRecDepth 100000
set_option maxHeartbeats 2000000
open Go.RowKit
theorem zpz(n:Nat)(w:World)(hn:n≤2000000):Calls Tryz.prog 140 #[.slice none 0 0,.int .i64 n] w (fun e w'=>∃ v,e=.returned v∧w'.ownsRow w.heap.size 22 1 v 0 []∧Below w.heap.size w w'):=by
 rcases Nat.eq_zero_or_pos n with h0 | h0
 · subst h0;refine(show Calls Tryz.prog 140 _ _ _ from Any8.slices_Grow_room Tryz.growN none 0 0 0 w nlr (by omega) (by omega) (by omega)).mono ?_;rintro e w' ⟨rfl,rfl⟩;exact⟨_,rfl,World.ownsRow_nil _ _ _ _,Below.refl _ _⟩
 · obtain⟨i0,hi,hz0,hz1,hz2⟩:=info_parts kg;refine(show Calls Tryz.prog 140 _ _ _ from Any8.slices_Grow_grow Tryz.growN i0 _ hi hz0 (by rw[hz1];decide) none 0 0 n [] w nlr (by omega) (by rw[hz2];omega) (by omega) (by simp) (fun _=>rfl) (fun a h=>by cases h)).mono ?_;rintro e w' ⟨rfl,rfl⟩;have hge:=grownCap_ge w (0+n) 0 22;have hle:=grownCap_le_maxLen w (0+n) 0 22 (by unfold maxLen;omega);refine⟨_,rfl,World.ownsRow_made (base:=w.heap.size) w.drew _ _ nlr hle ?_,(blr).drew.alloc nlr _⟩;have hz:(Value.string ⟨#[]⟩).cells.size=1:=rfl;show (List.toArray []++Builtin.zeroCells (Value.string ⟨#[]⟩).cells (0+n - 0)++Builtin.zeroCells (Value.string ⟨#[]⟩).cells (grownCap w (0+n) 0 22 - (0+n))).size=grownCap w (0+n) 0 22 * 1;rw[Array.size_append,Array.size_append,size_zeroCells,size_zeroCells,hz];simp only[List.size_toArray,List.length_nil];omega
def cnt(n1 n2:Nat):Nat→Nat
 | 0=>0
 | 1=>n1
 | _+2=>n1+n2
def lst(l1 l2:List ByteArray):Nat→List ByteArray
 | 0=>[]
 | 1=>l1
 | _+2=>l1++l2
theorem zg0(l1 l2:List ByteArray)(A1 A2:Option Addr)(n1 c1 n2 c2 g:Nat)(w:World)(h1:SlN w A1 n1 c1 l1)(h2:SlN w A2 n2 c2 l2)(hn1:n1≤1000000)(hn2:n2≤1000000)(g0:w.cell? ⟨g,0,none⟩=some (.slice A1 n1 c1))(g1:w.cell? ⟨g,1,none⟩=some (.slice A2 n2 c2)) :
 Calls Tryz.prog 85 #[.slice (some ⟨g,0,none⟩) 2 2] w (zm9 22 1 (n1+n2) ((l1++l2).map Value.string) w):=by
 have H1:=Hq h1;have H2:=Hq h2;have hc1:=h1.2.1;have hc2:=h2.2.1;have hm1:=h1.2.2.1;have hm2:=h2.2.2.1;have G0:=Hq g0;have G1:=Hq g1;clear h1 h2 g0 g1;go_enter Tryz.func85,Tryz.ntmps85;go_wp2
 go_loop [3,11] (fun s i=>∃ j:Nat,j≤2∧i=.int .i64 j∧s=.int .i64 (cnt n1 n2 j)) (fun _ i=>2 - (intOf i).toNat)
 case atStart=>exact⟨0,by omega,rfl,rfl⟩
 case round =>
  obtain⟨j,hj,rfl,rfl⟩:=hrel
  match j,hj with
  | 0,_ =>
   have g0:=G0.out;simp only[cnt,Int.natCast_zero];go_wp2;go_round;case rel=>exact⟨1,by omega,by go_num,by simp only[cnt]⟩
   case measure=>simp[intOf]
  | 1,_ =>
   have g1:=G1.out;simp only[cnt];go_wp2;go_round;case rel=>exact⟨2,by omega,by go_num,by simp only[cnt];go_num⟩
   case measure=>simp[intOf]
  | 2,_ =>
   simp only[cnt];go_wp2_with fail;refine(zpz (n1+n2) w (by omega)).mono ?_;rintro e w1 ⟨v,rfl,hown,hb⟩;have HO1:=Hq hown;have HB1:=Hq hb;clear hown hb;go_wp2;go_loopw [6,27] (fun v i wr=>∃ j:Nat,j≤2∧i=.int .i64 j∧wr.ownsRow w.heap.size 22 1 v (cnt n1 n2 j) ((lst l1 l2 j).map Value.string)∧Below w.heap.size w wr) (fun _ i _=>2 - (intOf i).toNat);case atStart=>exact⟨0,by omega,rfl,HO1.out,HB1.out⟩
   case round =>
    obtain⟨j,hj,rfl,hown,hbb⟩:=hrel;have HB:=Hq hbb;clear hbb
    match j,hj with
    | 0,_ =>
     have g0:=kc HB.out G0.out;simp only[Int.natCast_zero];have HA1:=Hq hown;clear hown
     cases A1 with
     | none =>
      have h0:n1=0:=by
       rcases Nat.eq_zero_or_pos n1 with h | h
       · exact h
       · obtain⟨b,o,e⟩:=H1.out.head h;cases e
      have hl:l1=[]:=List.length_eq_zero_iff.1 (by rw[H1.out.1,h0]);have H0:=Hq h0;have HL:=Hq hl;clear h0 hl;obtain⟨A6,m6,c6,hu6⟩:∃ A m c,u6=.slice A m c:=by
       rcases HA1.out.2 with⟨h,_⟩ | ⟨g,c,_,h,_⟩
       · exact⟨_,_,_,h⟩
       · exact⟨_,_,_,h⟩
      have hmc:m6≤c6:=by
       rcases HA1.out.2 with⟨h,_⟩ | ⟨g,c,_,h,_,_,h2,_⟩
       · rw[hu6]at h;cases h;exact Nat.le_refl _
       · rw[hu6]at h;cases h;exact h2
      obtain⟨i0,hi,iz0,iz1,iz2⟩:=info_parts kg;go_wp2_with (at_builtin;refine x9 _ rfl (.tmp 31) (.tmp 32) 25 rfl 22 i0 Tryz.underlying25 hi _ _ _ hu6 hmc c1 (congrArg (fun n=>Value.slice none n c1) H0.out) ?_);rw[←hu6];clear hu6;have HO7:=Hq (show wr.ownsRow w.heap.size 22 1 u6 (cnt n1 n2 (0+1)) ((lst l1 l2 (0+1)).map Value.string)from by have:=HA1.out;have h0:=H0.out;have hl:=HL.out;simp only[cnt,lst,hl,h0]at this⊢;simpa using this);have HB7:=Hq HB.out;clear hi iz0 iz1 iz2;go_wp2;go_roundw;case rel=>exact⟨0+1,by omega,by go_num,HO7.out,HB7.out⟩
      case measure=>simp[intOf]
     | some ad =>
      have HC:=Hq (H1.out.kept HB.out nlr).cells;have HV:=Hq (show (l1.map Value.string).length=n1 * 1 from by rw[List.length_map,H1.out.1,Nat.mul_one]);obtain⟨i0,hi,iz0,iz1,iz2⟩:=info_parts kg;go_wp2_with (at_builtin;refine wpList_append_own _ rfl (.tmp 31) (.tmp 32) 25 rfl w.heap.size 22 i0 _ 1 16 Tryz.underlying25 hi iz0 iz1 iz2 rfl (by decide) _ (cnt n1 n2 0) _ rfl HA1.out ad n1 c1 (l1.map Value.string) rfl ?h1 ?h2 (zb0 _) ?h4 ?h5 ?h6 ?_);case h1=>exact HV.out
      case h2=>exact HC.out
      case h4=>simp only[cnt];unfold maxLen;omega
      case h5=>simp only[cnt];omega
      case h6=>exact HB.out.size
      intro v' w' hown hgrow _;have HB7:=Hq (HB.out.grown hgrow HB.out.size (fun k hk=>(HA1.out.lt k hk).1));have HO7:=Hq (show w'.ownsRow w.heap.size 22 1 v' (cnt n1 n2 (0+1)) ((lst l1 l2 (0+1)).map Value.string)from by have:=hown;simp only[cnt,lst]at this⊢;simpa using this);clear hown hgrow hi iz0 iz1 iz2;go_wp2;go_roundw;case rel=>exact⟨0+1,by omega,by go_num,HO7.out,HB7.out⟩
      case measure=>simp[intOf]
    | 1,_ =>
     have g1:=kc HB.out G1.out;simp only[Int.natCast_one];have HA1:=Hq hown;clear hown
     cases A2 with
     | none =>
      have h0:n2=0:=by
       rcases Nat.eq_zero_or_pos n2 with h | h
       · exact h
       · obtain⟨b,o,e⟩:=H2.out.head h;cases e
      have hl:l2=[]:=List.length_eq_zero_iff.1 (by rw[H2.out.1,h0]);have H0:=Hq h0;have HL:=Hq hl;clear h0 hl;obtain⟨A6,m6,c6,hu6⟩:∃ A m c,u6=.slice A m c:=by
       rcases HA1.out.2 with⟨h,_⟩ | ⟨g,c,_,h,_⟩
       · exact⟨_,_,_,h⟩
       · exact⟨_,_,_,h⟩
      have hmc:m6≤c6:=by
       rcases HA1.out.2 with⟨h,_⟩ | ⟨g,c,_,h,_,_,h2,_⟩
       · rw[hu6]at h;cases h;exact Nat.le_refl _
       · rw[hu6]at h;cases h;exact h2
      obtain⟨i0,hi,iz0,iz1,iz2⟩:=info_parts kg;go_wp2_with (at_builtin;refine x9 _ rfl (.tmp 31) (.tmp 32) 25 rfl 22 i0 Tryz.underlying25 hi _ _ _ hu6 hmc c2 (congrArg (fun n=>Value.slice none n c2) H0.out) ?_);rw[←hu6];clear hu6;have HO7:=Hq (show wr.ownsRow w.heap.size 22 1 u6 (cnt n1 n2 (1+1)) ((lst l1 l2 (1+1)).map Value.string)from by have:=HA1.out;have h0:=H0.out;have hl:=HL.out;simp only[cnt,lst,hl,h0]at this⊢;simpa using this);have HB7:=Hq HB.out;clear hi iz0 iz1 iz2;go_wp2;go_roundw;case rel=>exact⟨1+1,by omega,by go_num,HO7.out,HB7.out⟩
      case measure=>simp[intOf]
     | some ad =>
      have HC:=Hq (H2.out.kept HB.out nlr).cells;have HV:=Hq (show (l2.map Value.string).length=n2 * 1 from by rw[List.length_map,H2.out.1,Nat.mul_one]);obtain⟨i0,hi,iz0,iz1,iz2⟩:=info_parts kg;go_wp2_with (at_builtin;refine wpList_append_own _ rfl (.tmp 31) (.tmp 32) 25 rfl w.heap.size 22 i0 _ 1 16 Tryz.underlying25 hi iz0 iz1 iz2 rfl (by decide) _ (cnt n1 n2 1) _ rfl HA1.out ad n2 c2 (l2.map Value.string) rfl ?h1 ?h2 (zb0 _) ?h4 ?h5 ?h6 ?_);case h1=>exact HV.out
      case h2=>exact HC.out
      case h4=>simp only[cnt];unfold maxLen;omega
      case h5=>simp only[cnt];omega
      case h6=>exact HB.out.size
      intro v' w' hown hgrow _;have HB7:=Hq (HB.out.grown hgrow HB.out.size (fun k hk=>(HA1.out.lt k hk).1));have HO7:=Hq (show w'.ownsRow w.heap.size 22 1 v' (cnt n1 n2 (1+1)) ((lst l1 l2 (1+1)).map Value.string)from by have:=hown;simp only[cnt,lst]at this⊢;simpa using this);clear hown hgrow hi iz0 iz1 iz2;go_wp2;go_roundw;case rel=>exact⟨1+1,by omega,by go_num,HO7.out,HB7.out⟩
      case measure=>simp[intOf]
    | 2,_ =>
     have HO:=Hq (show wr.ownsRow w.heap.size 22 1 u6 (n1+n2) ((l1++l2).map Value.string)from hown);clear hown;go_wp2;go_ret;exact⟨_,rfl,HO.out,HB.out⟩
set_option maxRecDepth 100000
set_option maxHeartbeats 1000000
def memB(l:List ByteArray)(x:ByteArray):Bool:=l.any (fun y=>x.toList==y.toList)
theorem qm{l:List ByteArray}{p:ByteArray→Bool}(h:∀(i:Nat) y,l[i]? =some y→p y=false):l.any p=false:=by
 rw[List.any_eq_false];intro y hy;obtain⟨i,hi⟩:=List.getElem?_of_mem hy;simp[h i y hi]
theorem zc0{l:List ByteArray}{p:ByteArray→Bool}{i:Nat}{y:ByteArray}(hi:l[i]? =some y)(h:p y=true):l.any p=true:=by
 rw[List.any_eq_true];exact⟨y,List.mem_of_getElem? hi,h⟩
def RetK(b:Bool)(w:World)(e:Ending)(w':World):Prop:=∃ k:Int,e=.returned (.int .i64 k)∧decide (0≤k)=b∧Below w.heap.size w w'
theorem znl(l:List ByteArray)(A:Option Addr)(len cap:Nat)(x:ByteArray)(w:World)(hs:SlN w A len cap l):Calls Tryz.prog 104 #[.slice A len cap,.string x] w (RetK (memB l x) w):=by
 have HS:=Hq hs;have HLEN:=Hq hs.1;have hcap:=hs.2.1;have hcap2:=hs.2.2.1;clear hs;go_enter Tryz.func104,Tryz.ntmps104;go_wp2
 go_loop [8] (fun k=>∃ j:Nat,j≤len∧k=.int .i64 j∧(∀(i:Nat) y,i<j→l[i]? =some y→(x.toList==y.toList)=false)) (fun k=>len - (intOf k).toNat)
 case atStart=>exact⟨0,Nat.zero_le _,rfl,fun i u h=>absurd h (Nat.not_lt_zero _)⟩
 case round =>
  obtain⟨j,hj,rfl,hall⟩:=hrel;have HALL:=Hq hall;clear hall;by_cases hlt:j<len
  · obtain⟨y,he⟩:∃ y,l[j]? =some y:=⟨_,List.getElem?_eq_getElem (by rw[HLEN.out];exact hlt)⟩;obtain⟨b,o,rfl,e1⟩:=HS.out.cell he;have HE:=Hq he;clear he
    cases hh:(x.toList==y.toList)with
    | true =>
     have HM:=Hq (zc0 (p:=fun y=>x.toList==y.toList) HE.out hh);go_wp2;go_ret;exact⟨j,rfl,by unfold memB;rw[HM.out];exact decide_eq_true (by omega),Below.refl _ _⟩
    | false =>
     have HA2:=Hq (show ∀(i:Nat) y,i<j+1→l[i]? =some y→(fun y=>x.toList==y.toList) y=false from fun i u hi hu=>by
      rcases Nat.lt_or_ge i j with a | a
      · exact HALL.out i u a hu
      · obtain rfl:i=j:=by omega
        rw[HE.out]at hu;cases hu
        exact hh)
     go_wp2;go_round;case rel=>exact⟨j+1,by omega,by go_num,HA2.out⟩
     case measure=>simp[intOf];omega
  · obtain rfl:j=len:=by omega
    have HM:=Hq (show memB l x=false from qm (fun i y h=>HALL.out i y (by have:=(List.getElem?_eq_some_iff.1 h).1;have:=HLEN.out;omega) h));clear hlt hj;go_wp2;go_ret;exact⟨-1,rfl,by rw[HM.out];rfl,Below.refl _ _⟩
theorem zdl(l:List ByteArray)(A:Option Addr)(len cap:Nat)(x:ByteArray)(w:World)(hs:SlN w A len cap l):Calls Tryz.prog 53 #[.slice A len cap,.string x] w (Ret (.bool (memB l x)) w):=by
 have HC:=Hq (znl l A len cap x w hs);clear hs;go_enter Tryz.func53,Tryz.ntmps53;go_wp2_with fail;refine HC.out.mono ?_;rintro e w1 ⟨k,rfl,hk,hb⟩;have HK:=Hq hk;have HB:=Hq hb;clear hk hb;go_wp2;go_ret;exact⟨by rw[←HK.out];rfl,HB.out⟩
theorem zbi(l:List ByteArray)(A:Option Addr)(len cap:Nat)(x:ByteArray)(w:World)(hs:SlN w A len cap l):Calls Tryz.prog 71 #[.slice A len cap,.string x] w (Ret (.bool (memB l x)) w):=by
 have HS:=Hq hs;have HLEN:=Hq hs.1;have hcap:=hs.2.1;have hcap2:=hs.2.2.1;clear hs;go_enter Tryz.func71,Tryz.ntmps71;go_wp2
 go_loop [5] (fun k=>∃ j:Nat,j≤len∧k=.int .i64 j∧(∀(i:Nat) y,i<j→l[i]? =some y→(x.toList==y.toList)=false)) (fun k=>len - (intOf k).toNat)
 case atStart=>exact⟨0,Nat.zero_le _,rfl,fun i u h=>absurd h (Nat.not_lt_zero _)⟩
 case round =>
  obtain⟨j,hj,rfl,hall⟩:=hrel;have HALL:=Hq hall;clear hall;by_cases hlt:j<len
  · obtain⟨y,he⟩:∃ y,l[j]? =some y:=⟨_,List.getElem?_eq_getElem (by rw[HLEN.out];exact hlt)⟩;obtain⟨b,o,rfl,e1⟩:=HS.out.cell he;have HE:=Hq he;clear he
    cases hh:(x.toList==y.toList)with
    | true =>
     have hh2:(y.toList==x.toList)=true:=by rw[beq_iff_eq]at hh⊢;exact hh.symm
     have HM:=Hq (zc0 (p:=fun y=>x.toList==y.toList) HE.out hh);clear hh;go_wp2;go_ret;exact⟨by unfold memB;rw[HM.out];rfl,Below.refl _ _⟩
    | false =>
     have hh2:(y.toList==x.toList)=false:=by rw[beq_eq_false_iff_ne]at hh⊢;exact fun h=>hh h.symm
     have HA2:=Hq (show ∀(i:Nat) y,i<j+1→l[i]? =some y→(fun y=>x.toList==y.toList) y=false from fun i u hi hu=>by
      rcases Nat.lt_or_ge i j with a | a
      · exact HALL.out i u a hu
      · obtain rfl:i=j:=by omega
        rw[HE.out]at hu;cases hu
        exact hh)
     clear hh;go_wp2;go_round;case rel=>exact⟨j+1,by omega,by go_num,HA2.out⟩
     case measure=>simp[intOf];omega
  · obtain rfl:j=len:=by omega
    have HM:=Hq (show memB l x=false from qm (fun i y h=>HALL.out i y (by have:=(List.getElem?_eq_some_iff.1 h).1;have:=HLEN.out;omega) h));clear hlt hj;go_wp2;go_ret;exact⟨by rw[HM.out];rfl,Below.refl _ _⟩
theorem zfo(l:List ByteArray)(A:Option Addr)(len cap B:Nat)(p:ByteArray→Bool)(w:World)(hs:SlN w A len cap l)(hp:∀ x∈l,∀ W,Below w.heap.size w W→Calls Tryz.prog 88 #[.string x,.pointer (some ⟨B,0,none⟩)] W (Ret (.bool (p x)) W)) :
 Calls Tryz.prog 141 #[.slice A len cap,.func (.func 88) #[] #[.pointer (some ⟨B,0,none⟩)]] w (RetK (l.any p) w):=by
 have HS:=Hq hs;have HP:=Hq hp;have HLEN:=Hq hs.1;have hcap:=hs.2.1;have hcap2:=hs.2.2.1;clear hs hp;go_enter Tryz.func141,Tryz.ntmps141;go_wp2;go_loopw [8] (fun k wr=>∃ j:Nat,j≤len∧k=.int .i64 j∧(∀(i:Nat) y,i<j→l[i]? =some y→p y=false)∧Below w.heap.size w wr) (fun k _=>len - (intOf k).toNat);case atStart=>exact⟨0,Nat.zero_le _,rfl,fun i u h=>absurd h (Nat.not_lt_zero _),Below.refl _ _⟩
 case round =>
  obtain⟨j,hj,rfl,hall,hB⟩:=hrel;have HALL:=Hq hall;have HB:=Hq hB;clear hall hB;by_cases hlt:j<len
  · obtain⟨y,he⟩:∃ y,l[j]? =some y:=⟨_,List.getElem?_eq_getElem (by rw[HLEN.out];exact hlt)⟩;obtain⟨b,o,rfl,e0⟩:=HS.out.cell he;have e1:=kc HB.out e0;have HC:=Hq (HP.out y (List.mem_of_getElem? he) wr HB.out);have HE:=Hq he;clear he e0;go_wp2_with fail;refine HC.out.mono ?_;rintro e w1 ⟨rfl,hb1⟩;have HB1:=Hq (HB.out.trans (hb1.mono HB.out.size));clear hb1
    cases hh:p y with
    | true =>
     have HM:=Hq (zc0 HE.out hh);clear hh;go_wp2;go_ret;exact⟨j,rfl,by rw[HM.out];exact decide_eq_true (by omega),HB1.out⟩
    | false =>
     have HA2:=Hq (show ∀(i:Nat) y,i<j+1→l[i]? =some y→p y=false from fun i u hi hu=>by
      rcases Nat.lt_or_ge i j with a | a
      · exact HALL.out i u a hu
      · obtain rfl:i=j:=by omega
        rw[HE.out]at hu;cases hu
        exact hh)
     clear hh;go_wp2;go_roundw;case rel=>exact⟨j+1,by omega,by go_num,HA2.out,HB1.out⟩
     case measure=>simp[intOf];omega
  · obtain rfl:j=len:=by omega
    have HM:=Hq (show l.any p=false from qm (fun i y h=>HALL.out i y (by have:=(List.getElem?_eq_some_iff.1 h).1;have:=HLEN.out;omega) h));clear hlt hj;go_wp2;go_ret;exact⟨-1,rfl,by rw[HM.out];rfl,HB.out⟩
theorem zc2(l:List ByteArray)(A:Option Addr)(len cap B:Nat)(p:ByteArray→Bool)(w:World)(hs:SlN w A len cap l)(hp:∀ x∈l,∀ W,Below w.heap.size w W→Calls Tryz.prog 88 #[.string x,.pointer (some ⟨B,0,none⟩)] W (Ret (.bool (p x)) W)) :
 Calls Tryz.prog 87 #[.slice A len cap,.func (.func 88) #[] #[.pointer (some ⟨B,0,none⟩)]] w (Ret (.bool (l.any p)) w):=by
 have HC:=Hq (zfo l A len cap B p w hs hp);clear hs hp;go_enter Tryz.func87,Tryz.ntmps87;go_wp2_with fail;refine HC.out.mono ?_;rintro e w1 ⟨k,rfl,hk,hb⟩;have HK:=Hq hk;have HB:=Hq hb;clear hk hb;go_wp2;go_ret;exact⟨by rw[←HK.out];rfl,HB.out⟩
theorem zfn(l:List ByteArray)(A:Option Addr)(len cap B:Nat)(p:ByteArray→Bool)(w:World)(hs:SlN w A len cap l)(hp:∀ x∈l,∀ W,Below w.heap.size w W→Calls Tryz.prog 89 #[.string x,.pointer (some ⟨B,0,none⟩)] W (Ret (.bool (p x)) W)) :
 Calls Tryz.prog 141 #[.slice A len cap,.func (.func 89) #[] #[.pointer (some ⟨B,0,none⟩)]] w (RetK (l.any p) w):=by
 have HS:=Hq hs;have HP:=Hq hp;have HLEN:=Hq hs.1;have hcap:=hs.2.1;have hcap2:=hs.2.2.1;clear hs hp;go_enter Tryz.func141,Tryz.ntmps141;go_wp2;go_loopw [8] (fun k wr=>∃ j:Nat,j≤len∧k=.int .i64 j∧(∀(i:Nat) y,i<j→l[i]? =some y→p y=false)∧Below w.heap.size w wr) (fun k _=>len - (intOf k).toNat);case atStart=>exact⟨0,Nat.zero_le _,rfl,fun i u h=>absurd h (Nat.not_lt_zero _),Below.refl _ _⟩
 case round =>
  obtain⟨j,hj,rfl,hall,hB⟩:=hrel;have HALL:=Hq hall;have HB:=Hq hB;clear hall hB;by_cases hlt:j<len
  · obtain⟨y,he⟩:∃ y,l[j]? =some y:=⟨_,List.getElem?_eq_getElem (by rw[HLEN.out];exact hlt)⟩;obtain⟨b,o,rfl,e0⟩:=HS.out.cell he;have e1:=kc HB.out e0;have HC:=Hq (HP.out y (List.mem_of_getElem? he) wr HB.out);have HE:=Hq he;clear he e0;go_wp2_with fail;refine HC.out.mono ?_;rintro e w1 ⟨rfl,hb1⟩;have HB1:=Hq (HB.out.trans (hb1.mono HB.out.size));clear hb1
    cases hh:p y with
    | true =>
     have HM:=Hq (zc0 HE.out hh);clear hh;go_wp2;go_ret;exact⟨j,rfl,by rw[HM.out];exact decide_eq_true (by omega),HB1.out⟩
    | false =>
     have HA2:=Hq (show ∀(i:Nat) y,i<j+1→l[i]? =some y→p y=false from fun i u hi hu=>by
      rcases Nat.lt_or_ge i j with a | a
      · exact HALL.out i u a hu
      · obtain rfl:i=j:=by omega
        rw[HE.out]at hu;cases hu
        exact hh)
     clear hh;go_wp2;go_roundw;case rel=>exact⟨j+1,by omega,by go_num,HA2.out,HB1.out⟩
     case measure=>simp[intOf];omega
  · obtain rfl:j=len:=by omega
    have HM:=Hq (show l.any p=false from qm (fun i y h=>HALL.out i y (by have:=(List.getElem?_eq_some_iff.1 h).1;have:=HLEN.out;omega) h));clear hlt hj;go_wp2;go_ret;exact⟨-1,rfl,by rw[HM.out];rfl,HB.out⟩
theorem zc1(l:List ByteArray)(A:Option Addr)(len cap B:Nat)(p:ByteArray→Bool)(w:World)(hs:SlN w A len cap l)(hp:∀ x∈l,∀ W,Below w.heap.size w W→Calls Tryz.prog 89 #[.string x,.pointer (some ⟨B,0,none⟩)] W (Ret (.bool (p x)) W)) :
 Calls Tryz.prog 87 #[.slice A len cap,.func (.func 89) #[] #[.pointer (some ⟨B,0,none⟩)]] w (Ret (.bool (l.any p)) w):=by
 have HC:=Hq (zfn l A len cap B p w hs hp);clear hs hp;go_enter Tryz.func87,Tryz.ntmps87;go_wp2_with fail;refine HC.out.mono ?_;rintro e w1 ⟨k,rfl,hk,hb⟩;have HK:=Hq hk;have HB:=Hq hb;clear hk hb;go_wp2;go_ret;exact⟨by rw[←HK.out];rfl,HB.out⟩
theorem zoo(x:ByteArray)(B:Nat)(l:List ByteArray)(A:Option Addr)(n c:Nat)(w:World)(hB:w.cell? ⟨B,3,none⟩=some (.slice A n c))(hs:SlN w A n c l):Calls Tryz.prog 88 #[.string x,.pointer (some ⟨B,0,none⟩)] w (Ret (.bool (memB l x)) w):=by
 have HC:=Hq (zdl l A n c x w hs);clear hs;go_enter Tryz.func88,Tryz.ntmps88;go_wp2_with fail;refine HC.out.mono ?_;rintro e w1 ⟨rfl,hb⟩;have HB:=Hq hb;clear hb hB;go_wp2;go_ret;exact⟨rfl,HB.out⟩
theorem zon(x:ByteArray)(B:Nat)(t:ByteArray)(w:World)(hB:w.cell? ⟨B,0,none⟩=some (.string t))(hx:zd x=true)(ht:zd t=true):Calls Tryz.prog 89 #[.string x,.pointer (some ⟨B,0,none⟩)] w (Ret (.bool (decide (num x<num t))) w):=by
 have HC:=Hq (qp x t (by have:=size_valid hx;omega) (by have:=size_valid ht;omega) w);rw[ncmp_num hx ht]at HC;have HD:=Hq (show decide (cmpI (num x) (num t)<0)=decide (num x<num t)from decide_eq_decide.2 cmpI_neg);obtain⟨cc,hcc⟩:∃ cc,cmpI (num x) (num t)=cc:=⟨_,rfl⟩;rw[hcc]at HC HD;clear hcc hx ht;go_enter Tryz.func89,Tryz.ntmps89;go_wp2_with fail;refine HC.out.mono ?_;rintro e w1 ⟨rfl,rfl⟩;go_wp2;go_ret;exact⟨by rw[←HD.out];rfl,Below.refl _ _⟩
def eegF:Nat→Nat→Nat→Int→Int→Int→Int→Int×Int
 | 0,_,_,x0,_,y0,_=>(x0,y0)
 | n+1,r0,r1,x0,x1,y0,y1=>if r1=0 then(x0,y0)else eegF n r1 (r0%r1) x1 (x0 - (r0 / r1:Nat) * x1) y1 (y0 - (r0 / r1:Nat) * y1)
def bzP(a b:Nat):Int×Int:=
 ((eegF (b+1) a b 1 0 0 1).1%(b / Nat.gcd a b:Nat),(eegF (b+1) a b 1 0 0 1).2+(eegF (b+1) a b 1 0 0 1).1 / (b / Nat.gcd a b:Nat) * (a / Nat.gcd a b:Nat))
theorem zhu{a b:Nat}(hb:0<b):∀(n r0 r1:Nat) (x0 x1 y0 y1:Int),r1<n→EIw a b r0 r1 x0 x1 y0 y1→(a:Int) * (eegF n r0 r1 x0 x1 y0 y1).1+b * (eegF n r0 r1 x0 x1 y0 y1).2=Nat.gcd a b
 | 0,_,_,_,_,_,_,h,_=>absurd h (Nat.not_lt_zero _)
 | n+1,r0,r1,x0,x1,y0,y1,h,he=>by
  unfold eegF;by_cases h0:r1=0
  · rw[if_pos h0];subst h0;obtain⟨hg,_,_,hz⟩:=he.last hb;rw[hz,hg]
  · rw[if_neg h0];exact zhu hb n _ _ _ _ _ _ (Nat.lt_of_lt_of_le (Nat.mod_lt r0 (Nat.pos_of_ne_zero h0)) (Nat.le_of_lt_succ h)) (he.step hb (Nat.pos_of_ne_zero h0))
theorem zj0{a b:Nat}(ha:0<a)(hb:0<b):Bzt a b (bzP a b).1 (bzP a b).2:=
 Bzt.red hb (zhu hb (b+1) a b 1 0 0 1 (Nat.lt_succ_self _) (EIw.start ha))
theorem zpt{a b:Nat}{x y:Int}(ha:0<a)(hb:0<b)(h:Bzt a b x y):bzP a b=(x,y):=by
 obtain⟨h1,h2⟩:=Bzt.eq hb (zj0 ha hb) h;exact Prod.ext h1 h2
def prodN:List ByteArray→Nat
 | []=>1
 | x::l=>num x * prodN l
theorem zax:∀(l m:List ByteArray),prodN (l++m)=prodN l * prodN m
 | [],m=>by rw[List.nil_append,prodN,Nat.one_mul]
 | x::l,m=>by rw[List.cons_append,prodN,prodN,zax l m,Nat.mul_assoc]
theorem ze4{l:List ByteArray}{k:Nat}{x:ByteArray}(h:l[k]? =some x):prodN (l.take (k+1))=prodN (l.take k) * num x:=by
 rw[List.take_add_one,h,Option.toList,zax,prodN,prodN,Nat.mul_one]
theorem qz:∀ {l:List ByteArray},(∀ x∈l,0<num x)→0<prodN l
 | [],_=>Nat.one_pos
 | x::l,h=>Nat.mul_pos (h x List.mem_cons_self) (qz (fun y hy=>h y (List.mem_cons_of_mem _ hy)))
theorem zkr{l:List ByteArray}(h:∀ x∈l,0<num x)(k:Nat):prodN (l.take k)≤prodN l:=by
 have e:prodN l=prodN (l.take k) * prodN (l.drop k):=by rw[←zax,List.take_append_drop]
 rw[e];exact Nat.le_mul_of_pos_right _ (qz (fun x hx=>h x (List.mem_of_mem_drop hx)))
theorem zi5:∀ {l:List ByteArray},(∀ x∈l,x.size≤16)→prodN l≤256 ^ (16 * l.length)
 | [],_=>by simp[prodN]
 | x::l,h=>by
  rw[prodN,List.length_cons,Nat.mul_add,Nat.mul_one,Nat.add_comm,Nat.pow_add];exact Nat.mul_le_mul (Nat.le_trans (Nat.le_of_lt (qd x)) (Nat.pow_le_pow_right (by decide) (h x List.mem_cons_self))) (zi5 (fun y hy=>h y (List.mem_cons_of_mem _ hy)))
theorem zkt{n k K:Nat}(h:n≤256 ^ k)(hk:k<K):(nS n).size≤K:=
 zf.2 (Nat.lt_of_le_of_lt h (Nat.pow_lt_pow_right (by decide) hk))
theorem zcp{l:List ByteArray}(h:∀ x∈l,x.size≤16)(hl:l.length≤300)(k:Nat):(nS (prodN (l.take k))).size≤4801:=
 zkt (zi5 (fun x hx=>h x (List.mem_of_mem_take hx))) (by rw[List.length_take];omega)
theorem zn0{x:ByteArray}(hv:zd x=true)(h:x≠⟨#[]⟩):0<num x:=by
 rcases Nat.eq_zero_or_pos (num x)with e | e
 · exact absurd ((jm hv).trans (by rw[e];rfl)) h
 · exact e
def exR(u:ByteArray)(ad rm:List ByteArray):(Int×Int)×Int:=
 if memB rm u=true then((0,0),20)
 else if ¬ (prodN ad<256 ^ 128∧prodN rm<256 ^ 128)then((0,0),5)
 else if Nat.gcd (num u) (prodN rm)≠1 then((0,0),1)
 else if ((bzP (num u) (prodN rm)).2 * prodN ad).natAbs<256 ^ 128 then(((bzP (num u) (prodN rm)).2 * prodN ad,(bzP (num u) (prodN rm)).1),0)else((0,0),5)
def rdyR(M O:ByteArray)(els hs:List ByteArray):Int:=
 if (zd M&&zd O&&els.all zd&&hs.all zd)=false then 3 else if chkK M O≠0 then chkK M O else if els.all (fun x=>hasN (num M) (num O) (num x))=false then 13 else if memB hs ⟨#[]⟩=true then 11 else 0
def upR(M O w u:ByteArray)(ad rm:List ByteArray)(acc:ByteArray):ByteArray×Int:=
 if rdyR M O [w,acc] (u::(ad++rm))≠0 then(⟨#[]⟩,rdyR M O [w,acc] (u::(ad++rm)))
 else if (exR u ad rm).2≠0 then(⟨#[]⟩,(exR u ad rm).2)
 else(nS (pz (num M) (num w) (exR u ad rm).1.1 * pz (num M) (num acc) (exR u ad rm).1.2%num M),0)
theorem zrw{M O a b:ByteArray}(va:zd a=true)(vb:zd b=true)(hc:chkK M O=0)(ha:hasN (num M) (num O) (num a)=true)(hb:hasN (num M) (num O) (num b)=true){x y:Int}(hx:x.natAbs<256 ^ 128)(hy:y.natAbs<256 ^ 128) :
 prR M O [a,b] [(decide (x<0),nS x.natAbs),(decide (y<0),nS y.natAbs)]=.tuple #[.string (nS (pz (num M) (num a) x * pz (num M) (num b) y%num M)),.int .i64 0]:=by
 unfold prR;rw[if_pos (show ckR M O [a,b] [(decide (x<0),nS x.natAbs),(decide (y<0),nS y.natAbs)] (decide ([a,b].length=[(decide (x<0),nS x.natAbs),(decide (y<0),nS y.natAbs)].length))=0 from zrb va vb (zcn hx) (zcn hy) hc ha hb)];have e:prV (num M) [a,b] [(decide (x<0),nS x.natAbs),(decide (y<0),nS y.natAbs)]=pz (num M) (num a) x * pz (num M) (num b) y%num M:=by
  show zbc (num a) (decide (x<0)) (num M) ^ (num (nS x.natAbs) / 2 ^ 0) * (zbc (num b) (decide (y<0)) (num M) ^ (num (nS y.natAbs) / 2 ^ 0) * 1)%num M=_;rw[qc,qc,Nat.pow_zero,Nat.div_one,Nat.div_one,Nat.mul_one,zrs]
 rw[e]
theorem zpb{M O a:ByteArray}(va:zd a=true)(hc:chkK M O=0)(ha:hasN (num M) (num O) (num a)=true){x:Int}(hx:x.natAbs<256 ^ 128) :
 prR M O [a] [(decide (x<0),nS x.natAbs)]=.tuple #[.string (nS (pz (num M) (num a) x)),.int .i64 0]:=by
 unfold prR;rw[if_pos (show ckR M O [a] [(decide (x<0),nS x.natAbs)] (decide ([a].length=[(decide (x<0),nS x.natAbs)].length))=0 from zrc va (zcn hx) hc ha)];have e:prV (num M) [a] [(decide (x<0),nS x.natAbs)]=pz (num M) (num a) x:=by
  show zbc (num a) (decide (x<0)) (num M) ^ (num (nS x.natAbs) / 2 ^ 0) * 1%num M=_;rw[qc,Nat.pow_zero,Nat.div_one,Nat.mul_one];rfl
 rw[e]
theorem zr3{M O:ByteArray}{A B:Nat}(hc:chkK M O=0)(hA:hasN (num M) (num O) A=true)(hB:hasN (num M) (num O) B=true):mlR M O (nS A) (nS B)=.tuple #[.string (nS (A * B%num M)),.int .i64 0]:=by
 have hM:=kf (xd hc).1;have a1:=zj.2 (Nat.lt_trans (zml hA) hM);have a2:=zj.2 (Nat.lt_trans (zml hB) hM);unfold mlR;rw[if_pos (zrd a1 a2 hc (by rw[qc];exact hA) (by rw[qc];exact hB)),qc,qc]
theorem znr{M O:ByteArray}{els hs:List ByteArray}(h:rdyR M O els hs=0):zd M=true∧zd O=true∧els.all zd=true∧hs.all zd=true∧chkK M O=0∧els.all (fun x=>hasN (num M) (num O) (num x))=true∧memB hs ⟨#[]⟩=false:=by
 unfold rdyR at h;by_cases h1:(zd M&&zd O&&els.all zd&&hs.all zd)=false
 · rw[if_pos h1]at h;cases h
 · rw[if_neg h1]at h;rw[Bool.not_eq_false,Bool.and_eq_true,Bool.and_eq_true,Bool.and_eq_true]at h1;by_cases h2:chkK M O=0
   · rw[if_neg (fun c=>c h2)]at h
     cases h3:els.all (fun x=>hasN (num M) (num O) (num x))with
     | false=>rw[h3]at h;cases h
     | true =>
      rw[h3,if_neg (by decide)]at h
      cases h4:memB hs ⟨#[]⟩with
      | true=>rw[h4]at h;cases h
      | false=>exact⟨h1.1.1.1,h1.1.1.2,h1.1.2,h1.2,h2,rfl,rfl⟩
   · rw[if_pos h2]at h;exact absurd h h2
set_option maxRecDepth 100000
set_option maxHeartbeats 4000000
def BxC(W:World)(B:Nat)(cs:Array Value)(T:TypeId):Prop:=W.heap[B]? =some (.cells cs T (0,0))
theorem BxC.new(W:World)(cs:Array Value)(T:TypeId):BxC (W.alloc (.cells cs T)) W.heap.size cs T:=heap_alloc_new _ _
theorem BxC.kept{W W':World}{K B:Nat}{cs:Array Value}{T:TypeId}(h:BxC W B cs T)(hb:Below K W W')(hB:B<K):BxC W' B cs T:=(hb.block B hB).trans h
theorem BxC.lt{W:World}{B:Nat}{cs:Array Value}{T:TypeId}(h:BxC W B cs T):B<W.heap.size:=zw h
theorem BxC.next{W W':World}{B:Nat}{cs:Array Value}{T:TypeId}(h:BxC W B cs T)(hb:Below W.heap.size W W'):BxC W' B cs T:=h.kept hb h.lt
theorem BxC.cell{W:World}{B:Nat}{cs:Array Value}{T:TypeId}(h:BxC W B cs T)(k:Nat):W.cell? ⟨B,k,none⟩=cs[k]?:=by
 rw[Lib.cell_of_heap h]
theorem BxC.free{W:World}{B:Nat}{cs:Array Value}{T:TypeId}(h:BxC W B cs T)(k:Nat):W.frozen? ⟨B,k,none⟩=false:=Lib.frozen_of_heap h k
theorem BxC.set{W:World}{B k:Nat}{cs:Array Value}{T:TypeId}(h:BxC W B cs T)(u:Value):BxC (W.setCell ⟨B,k,none⟩ u) B (cs.setIfInBounds k u) T:=zv h u
theorem BxC.other{W:World}{B C k:Nat}{cs:Array Value}{T:TypeId}(h:BxC W B cs T)(hne:B≠C)(u:Value):BxC (W.setCell ⟨C,k,none⟩ u) B cs T:=(heap_setCell_other _ _ _ _ hne).trans h
theorem BxC.alloc{W:World}{B:Nat}{cs:Array Value}{T:TypeId}(h:BxC W B cs T)(o:Obj):BxC (W.alloc o) B cs T:=h.kept ((blr).alloc nlr o) h.lt
theorem BxC.new1(W:World)(cs:Array Value)(T:TypeId)(o:Obj):BxC ((W.alloc o).alloc (.cells cs T)) (W.heap.size+1) cs T:=by
 have:=BxC.new (W.alloc o) cs T;rwa[World.size_alloc]at this
structure Dl where
 fr:Int
 «to» : Int
 ad:List ByteArray
 rm:List ByteArray
 be:ByteArray
 af:ByteArray
 sc:ByteArray
 sr:ByteArray
def Dl.arr(d:Dl)(a r:Value):Array Value:=#[.int .i64 d.fr,.int .i64 d.to,a,r,.string d.be,.string d.af,.string d.sc,.string d.sr]
def Dl.okN(d:Dl):Bool:=(d.ad++d.rm++[d.be,d.af]).all zd
def Dl.rng(d:Dl):Prop:=d.fr<0∨d.to≤d.fr∨4096<d.to
instance (d:Dl):Decidable d.rng:=by unfold Dl.rng;exact inferInstance
def Dl.twice(d:Dl):Bool:=!ascB d.ad || !ascB d.rm||d.ad.any (memB d.rm)
def Dl.low(d:Dl):Bool:=(d.ad++d.rm).any (fun x=>decide (num x<3))
def Dl.form(d:Dl):Int:=if d.okN=false then 3 else if d.rng then 2 else if d.twice=true then 8 else if d.low=true then 2 else 0
def SzL(l:List ByteArray):Prop:=∀ s∈l,s.size≤9223372036854775807
def Dl.str(d:Dl):List ByteArray:=d.ad++d.rm++[d.be,d.af,d.sc,d.sr]
theorem zgz:num ⟨#[3]⟩=3:=by decide
theorem zi1:zd ⟨#[3]⟩=true:=by decide
theorem Dl.form_N{d:Dl}(h:d.okN=false):d.form=3:=by unfold Dl.form;rw[if_pos h]
theorem Dl.form_R{d:Dl}(h:d.okN=true)(h1:d.rng):d.form=2:=by unfold Dl.form;rw[if_neg (by rw[h];decide),if_pos h1]
theorem Dl.form_T{d:Dl}(h:d.okN=true)(h1:¬ d.rng)(h2:d.twice=true):d.form=8:=by unfold Dl.form;rw[if_neg (by rw[h];decide),if_neg h1,if_pos h2]
theorem Dl.form_L{d:Dl}(h:d.okN=true)(h1:¬ d.rng)(h2:d.twice=false)(h3:d.low=true):d.form=2:=by unfold Dl.form;rw[if_neg (by rw[h];decide),if_neg h1,if_neg (by rw[h2];decide),if_pos h3]
theorem Dl.form_0{d:Dl}(h:d.okN=true)(h1:¬ d.rng)(h2:d.twice=false)(h3:d.low=false):d.form=0:=by unfold Dl.form;rw[if_neg (by rw[h];decide),if_neg h1,if_neg (by rw[h2];decide),if_neg (by rw[h3];decide)]
theorem Dl.okN_no{d:Dl}{j:Nat}{y:ByteArray}(h:(d.ad++d.rm++[d.be,d.af])[j]? =some y)(hv:zd y=false):d.okN=false:=by
 cases h1:d.okN with
 | false=>rfl
 | true =>
  have:=List.all_eq_true.1 h1 y (List.mem_of_getElem? h);rw[hv]at this;cases this
theorem Dl.okN_all{d:Dl}(h:∀(i:Nat) y,(d.ad++d.rm++[d.be,d.af])[i]? =some y→zd y=true):d.okN=true:=by
 refine List.all_eq_true.2 (fun y hy=>?_);obtain⟨i,hi⟩:=List.getElem?_of_mem hy;exact h i y hi
theorem Dl.okN_mem{d:Dl}(h:d.okN=true){y:ByteArray}(hy:y∈d.ad++d.rm++[d.be,d.af]):zd y=true:=List.all_eq_true.1 h y hy
theorem Dl.okN_ad{d:Dl}(h:d.okN=true):∀ y∈d.ad,zd y=true:=fun y hy=>d.okN_mem h (by simp[hy])
theorem Dl.okN_rm{d:Dl}(h:d.okN=true):∀ y∈d.rm,zd y=true:=fun y hy=>d.okN_mem h (by simp[hy])
theorem Dl.twice_ad{d:Dl}(h:ascB d.ad=false):d.twice=true:=by unfold Dl.twice;rw[h];rfl
theorem Dl.twice_rm{d:Dl}(h:ascB d.rm=false):d.twice=true:=by unfold Dl.twice;rw[h];simp
theorem Dl.twice_any{d:Dl}(h:d.ad.any (memB d.rm)=true):d.twice=true:=by unfold Dl.twice;rw[h];simp
theorem Dl.twice_no{d:Dl}(h:ascB d.ad=true)(h1:ascB d.rm=true)(h2:d.ad.any (memB d.rm)=false):d.twice=false:=by unfold Dl.twice;rw[h,h1,h2];rfl
theorem Dl.low_at{d:Dl}{j:Nat}{y:ByteArray}(h:(d.ad++d.rm++[d.be,d.af])[j]? =some y)(hj:j<d.ad.length+d.rm.length)(hv:num y<3):d.low=true:=by
 rw[List.getElem?_append_left (by simp;omega)]at h;exact zc0 h (decide_eq_true hv)
theorem Dl.low_no{d:Dl}(h:∀(i:Nat) y,i<d.ad.length+d.rm.length→(d.ad++d.rm++[d.be,d.af])[i]? =some y→¬ num y<3):d.low=false:=by
 refine qm (fun i y hi=>decide_eq_false (h i y ?_ ?_))
 · have:=(List.getElem?_eq_some_iff.1 hi).1;simp at this;omega
 · have:=(List.getElem?_eq_some_iff.1 hi).1;rw[List.getElem?_append_left this];exact hi
theorem znt(d:Dl)(A A':Option Addr)(n c n' c':Nat)(w:World)(hs:SlN w A n c d.ad)(hs':SlN w A' n' c' d.rm)(hn:n≤1000000)(hn':n'≤999998)(hz:SzL d.str):Calls Tryz.prog 64 #[.agg (d.arr (.slice A n c) (.slice A' n' c'))] w (Ret (.int .i64 d.form) w):=by
 obtain⟨W0,hW0⟩:∃ W0,w.alloc (.cells (d.arr (.slice A n c) (.slice A' n' c')) 50)=W0:=⟨_,rfl⟩;have HX0:=Hq (show BxC W0 w.heap.size (d.arr (.slice A n c) (.slice A' n' c')) 50 from by rw[←hW0];exact BxC.new w _ _);have HB0:=Hq (show Below w.heap.size w W0 from by rw[←hW0];exact(blr).alloc nlr _);have HW0:=Hq (show w.heap.size+1=W0.heap.size from by rw[←hW0];simp);have HS:=Hq (hs.kept HB0.out nlr);have HS':=Hq (hs'.kept HB0.out nlr);have HZ:=Hq hz;have hc:=hs.2.1;have hc2:=hs.2.2.1;have hc':=hs'.2.1;have hc2':=hs'.2.2.1;have HN:=Hq hs.1;have HN':=Hq hs'.1;have x0:W0.cell? ⟨w.heap.size,0,none⟩=some (.int .i64 d.fr):=HX0.out.cell 0;have x1:W0.cell? ⟨w.heap.size,1,none⟩=some (.int .i64 d.to):=HX0.out.cell 1;have x2:W0.cell? ⟨w.heap.size,2,none⟩=some (.slice A n c):=HX0.out.cell 2;have x3:W0.cell? ⟨w.heap.size,3,none⟩=some (.slice A' n' c'):=HX0.out.cell 3;clear hs hs' hz;unfold Dl.arr at hW0⊢;go_enter Tryz.func64,Tryz.ntmps64;go_wp2_with (at_builtin;refine jk W0 _ rfl (.tmp 8) (.tmp 10) rfl W0.heap.size _ 0 [] rfl (World.ownsRow_nil _ _ _ _) A n c d.ad rfl HS.out (by omega) blr nlr ?_);intro v1 w1 hown hb hsz;have HO1:=Hq (show w1.ownsRow W0.heap.size 22 1 v1 n (d.ad.map Value.string)from hown);have HB1:=Hq hb;have HX1:=Hq (HX0.out.kept hb HX0.out.lt);have y3:w1.cell? ⟨w.heap.size,3,none⟩=some (.slice A' n' c'):=HX1.out.cell 3;have HSZ1:=Hq hsz;clear hown hb hsz;go_wp2_with (at_builtin;refine jk W0 _ rfl (.tmp 12) (.tmp 14) rfl W0.heap.size _ n _ rfl HO1.out A' n' c' d.rm rfl (HS'.out.kept HB1.out nlr) (by omega) HB1.out HSZ1.out ?_);intro v2 w2 hown hb hsz;have HO2:=Hq (show w2.ownsRow W0.heap.size 22 1 v2 (n+n') ((d.ad++d.rm).map Value.string)from by rw[List.map_append];exact hown);have HB2:=Hq hb;have HX2:=Hq (HX0.out.kept hb HX0.out.lt);have z4:w2.cell? ⟨w.heap.size,4,none⟩=some (.string d.be):=HX2.out.cell 4;have z5:w2.cell? ⟨w.heap.size,5,none⟩=some (.string d.af):=HX2.out.cell 5;have HSZ2:=Hq hsz;clear hown hb hsz y3;have hv2:∃ A2 c2,v2=.slice A2 (n+n') c2:=(by obtain⟨_,A2,c2,e,_⟩:=SlN.of_owns HO2.out;exact⟨A2,c2,e⟩);obtain⟨A2,c2,rfl⟩:=hv2;go_wp2_with (at_builtin;go_must (refine jk W0 _ rfl (.tmp 18) (.tmp 23) rfl W0.heap.size _ (n+n') _ rfl (HO2.out.alloc (.cells ([d.be,d.af].map Value.string).toArray 22)) (some ⟨w2.heap.size,0,none⟩) 2 2 [d.be,d.af] rfl (SlN.new w2 [d.be,d.af] 22 (by simp)) (by omega) (HB2.out.alloc HSZ2.out _) (by have:=HSZ2.out;simp;omega) ?_));intro v3 w3 hown hb hsz;obtain⟨hl3,A3,c3,rfl,hs3⟩:=SlN.of_owns (l:=d.ad++d.rm++[d.be,d.af]) (by rw[List.map_append,List.map_append,List.append_assoc];exact hown);have HL3:=Hq hl3;have HS3:=Hq hs3;have HX3:=Hq (HX0.out.kept hb HX0.out.lt);have HBT:=Hq (HB0.out.trans (hb.mono HB0.out.size));have HSA:=Hq (HS.out.kept hb nlr);have HSR:=Hq (HS'.out.kept hb nlr);have hc3:=hs3.2.1;have hc32:=hs3.2.2.1;have q0:w3.cell? ⟨w.heap.size,0,none⟩=some (.int .i64 d.fr):=HX3.out.cell 0;have q1:w3.cell? ⟨w.heap.size,1,none⟩=some (.int .i64 d.to):=HX3.out.cell 1;have q2:w3.cell? ⟨w.heap.size,2,none⟩=some (.slice A n c):=HX3.out.cell 2;have q3:w3.cell? ⟨w.heap.size,3,none⟩=some (.slice A' n' c'):=HX3.out.cell 3;clear hown hb hsz hs3 hl3 z4 z5 x0 x1 x2 x3 hW0;obtain⟨L,hL⟩:∃ L,d.ad++d.rm++[d.be,d.af]=L:=⟨_,rfl⟩;rw[hL]at HL3 HS3;have HLE:=Hq hL;have HZL:=Hq (show SzL L from fun s hs=>HZ.out s (by rw[←hL]at hs;unfold Dl.str;simp only[List.mem_append,List.mem_cons,List.mem_nil_iff,or_false]at hs⊢;rcases hs with(h | h) | h | h<;>simp[h]));clear hL;go_wp2
 go_loop [5] (fun k=>∃ j:Nat,j≤n+n'+2∧k=.int .i64 j∧(∀(i:Nat) y,i<j→L[i]? =some y→zd y=true)) (fun k=>n+n'+2 - (intOf k).toNat)
 case atStart=>exact⟨0,Nat.zero_le _,rfl,fun i u h=>absurd h (Nat.not_lt_zero _)⟩
 case round =>
  obtain⟨j,hj,rfl,hall⟩:=hrel;have HALL:=Hq hall;clear hall;by_cases hlt:j<n+n'+2
  · obtain⟨y,he⟩:∃ y,L[j]? =some y:=⟨_,List.getElem?_eq_getElem (by rw[HL3.out];exact hlt)⟩;obtain⟨b,o,rfl,e1⟩:=HS3.out.cell he;have hy:=HZL.out y (List.mem_of_getElem? he);have HC:=Hq (zu y hy w3);have HE:=Hq he;clear he hy;go_wp2_with fail;refine HC.out.mono ?_;rintro e w4 ⟨rfl,rfl⟩
    cases hh:zd y with
    | false =>
     have HF:=Hq (Dl.form_N (Dl.okN_no (by rw[HLE.out];exact HE.out) hh));clear hh;go_wp2;go_ret;exact⟨by rw[HF.out];rfl,HBT.out⟩
    | true =>
     have HA2:=Hq (show ∀(i:Nat) u,i<j+1→L[i]? =some u→zd u=true from fun i u hi hu=>by
      rcases Nat.lt_or_ge i j with h | h
      · exact HALL.out i u h hu
      · obtain rfl:i=j:=by omega
        rw[HE.out]at hu;cases hu;exact hh)
     clear hh;go_wp2;go_round;case rel=>exact⟨j+1,by omega,by go_num,HA2.out⟩
     case measure=>simp[intOf];omega
  · obtain rfl:j=n+n'+2:=by omega
    have HOK:=Hq (show d.okN=true from Dl.okN_all (fun i y h=>HALL.out i y (by rw[HLE.out]at h;have:=(List.getElem?_eq_some_iff.1 h).1;have:=HL3.out;omega) (by rw[←HLE.out];exact h)));clear hlt hj;by_cases h1:d.fr<0
    · have HF:=Hq (Dl.form_R HOK.out (.inl h1));have g1:decide (d.fr<0)=true:=decide_eq_true h1;go_wp2;go_ret;exact⟨by rw[HF.out];rfl,HBT.out⟩
    · have g1:decide (d.fr<0)=false:=decide_eq_false h1;by_cases h2:d.to≤d.fr
      · have HF:=Hq (Dl.form_R HOK.out (.inr (.inl h2)));have g2:decide (d.to≤d.fr)=true:=decide_eq_true h2;go_wp2;go_ret;exact⟨by rw[HF.out];rfl,HBT.out⟩
      · have g2:decide (d.to≤d.fr)=false:=decide_eq_false h2;by_cases h3:4096<d.to
        · have HF:=Hq (Dl.form_R HOK.out (.inr (.inr h3)));have g3:decide (4096<d.to)=true:=decide_eq_true h3;go_wp2;go_ret;exact⟨by rw[HF.out];rfl,HBT.out⟩
        · have g3:decide (4096<d.to)=false:=decide_eq_false h3;have HNR:=Hq (show ¬ d.rng from fun h=>by rcases h with h | h | h<;>contradiction);go_wp2_with fail;refine(r37_ascends d.ad A n c w3 HSA.out (Dl.okN_ad HOK.out)).mono ?_;rintro e w4 ⟨rfl,hb⟩;have HB4:=Hq hb;have HBU:=Hq (HBT.out.trans (hb.mono HBT.out.size));have r3:w4.cell? ⟨w.heap.size,3,none⟩=some (.slice A' n' c'):=kc hb q3;have r2:w4.cell? ⟨w.heap.size,2,none⟩=some (.slice A n c):=kc hb q2;clear hb
          cases ha:ascB d.ad with
          | false =>
           have HF:=Hq (Dl.form_T HOK.out HNR.out (Dl.twice_ad ha));clear ha;go_wp2;go_ret;exact⟨by rw[HF.out];rfl,HBU.out⟩
          | true =>
           have HA:=Hq ha;clear ha;go_wp2_with fail;refine(r37_ascends d.rm A' n' c' w4 (HSR.out.kept HB4.out nlr) (Dl.okN_rm HOK.out)).mono ?_;rintro e w5 ⟨rfl,hb⟩;have HB5:=Hq (HB4.out.trans (hb.mono HB4.out.size));have HBV:=Hq (HBT.out.trans (HB5.out.mono HBT.out.size));clear hb r3 r2
           cases ha:ascB d.rm with
           | false =>
            have HF:=Hq (Dl.form_T HOK.out HNR.out (Dl.twice_rm ha));clear ha;go_wp2;go_ret;exact⟨by rw[HF.out];rfl,HBV.out⟩
           | true =>
            have HR:=Hq ha;clear ha h1 h2 h3 g1 g2 g3;go_wp2;go_loopw [6] (fun i wr=>∃ j:Nat,j≤n∧i=.int .i64 j∧(∀(i:Nat) y,i<j→d.ad[i]? =some y→memB d.rm y=false)∧Below w3.heap.size w3 wr) (fun i _=>n - (intOf i).toNat);case atStart=>exact⟨0,Nat.zero_le _,rfl,fun i u h=>absurd h (Nat.not_lt_zero _),HB5.out⟩
            case round =>
                  obtain⟨j,hj,rfl,hall,hbb⟩:=hrel;have HALI:=Hq hall;have HB:=Hq hbb;have HBW:=Hq (HBT.out.trans (hbb.mono HBT.out.size));have t2:wr.cell? ⟨w.heap.size,2,none⟩=some (.slice A n c):=kc hbb q2;clear hall hbb;by_cases hlt:j<n
                  · obtain⟨y,he⟩:∃ y,d.ad[j]? =some y:=⟨_,List.getElem?_eq_getElem (by rw[HN.out];exact hlt)⟩;obtain⟨b,o,rfl,e1⟩:=(HSA.out.kept HB.out nlr).cell he;have e1:wr.drew.cell? ⟨b,o+j,none⟩=some (.string y):=e1;have e2:wr.drew.cell? ⟨w.heap.size,2,none⟩=some (.slice (some ⟨b,o,none⟩) n c):=t2;have e3:wr.drew.cell? ⟨w.heap.size,3,none⟩=some (.slice A' n' c'):=kc HB.out q3;have HCM:=Hq (zbi d.rm A' n' c' y wr.drew ((HSR.out.kept HB.out nlr).kept (Below.refl _ wr).drew nlr));have HE:=Hq he;clear he;go_wp2;refine zg 8 (Below (wr.drew).heap.size (wr.drew)) (by kernel_rfl) ?_;intro hD;refine qPD 0 69 7 rfl hD blr ?_;clear hD;intro hD;simp only[Act.put,sqA,sqB,sqC];refine qSD 1 70 6 rfl hD blr (by intro w' hS';have e0:=kc hS' e1;have e1:=kc hS' e2;have e2:=kc hS' e3;go_simp;with_reducible rfl) ?_;clear hD;intro hD;simp only[Act.put,sqA,sqB,sqC];refine qPD 2 71 5 rfl hD blr ?_;clear hD;intro hD;simp only[Act.put,sqA,sqB,sqC];refine qSD 3 72 4 rfl hD blr (by intro w' hS';have e0:=kc hS' e1;have e1:=kc hS' e2;have e2:=kc hS' e3;go_simp;with_reducible rfl) ?_;clear hD;intro hD;simp only[Act.put,sqA,sqB,sqC];refine qPD 4 73 3 rfl hD blr ?_;clear hD;intro hD;simp only[Act.put,sqA,sqB,sqC];refine qPD 5 74 2 rfl hD blr ?_;clear hD;intro hD;simp only[Act.put,sqA,sqB,sqC];refine qSD 6 75 1 rfl hD blr (by intro w' hS';have e0:=kc hS' e1;have e1:=kc hS' e2;have e2:=kc hS' e3;go_simp;with_reducible rfl) ?_;clear hD;intro hD;simp only[Act.put,sqA,sqB,sqC];refine zc (i:=7) (fuel:=0) (by kernel_rfl) rfl hD ?_;clear hD;intro K7 hK7;go_wp2_with fail;refine HCM.out.mono ?_;rintro e w1 ⟨rfl,hb⟩;have HL1:=Hq hb;go_wp2;refine hK7 _ _ (by exact hb) ?_;clear hK7;intro hS_18_7 hD;refine ze (by kernel_rfl) ?_ 0;clear hD
                    cases hh:memB d.rm y with
                    | true =>
                     have HF:=Hq (Dl.form_T HOK.out HNR.out (Dl.twice_any (zc0 HE.out hh)));clear hh;go_wp2;go_ret;exact⟨by rw[HF.out];rfl,HBW.out.trans (((Below.refl wr.heap.size wr).drew.trans HL1.out).mono HBW.out.size)⟩
                    | false =>
                     have HA2:=Hq (show ∀(i:Nat) u,i<j+1→d.ad[i]? =some u→memB d.rm u=false from fun i u hi hu=>by
                      rcases Nat.lt_or_ge i j with h | h
                      · exact HALI.out i u h hu
                      · obtain rfl:i=j:=by omega
                        rw[HE.out]at hu;cases hu;exact hh)
                     have HBX:=Hq (HB.out.trans (((Below.refl wr.heap.size wr).drew.trans HL1.out).mono HB.out.size));clear hh;go_wp2;go_roundw;case rel=>exact⟨j+1,by omega,by go_num,HA2.out,HBX.out⟩
                     case measure=>simp[intOf];omega
                  · obtain rfl:j=n:=by omega
                    obtain⟨wz,hwz⟩:∃ wz,wz=wr:=⟨_,rfl⟩;subst hwz;have HT:=Hq (show d.twice=false from Dl.twice_no HA.out HR.out (qm (fun i y h=>HALI.out i y (by have:=(List.getElem?_eq_some_iff.1 h).1;have:=HN.out;omega) h)));have HSW:=Hq (HS3.out.kept HB.out nlr);clear hlt hj q0 q1 q2 q3;go_wp2;go_loopw [7] (fun i wr=>∃ k:Nat,k≤j+n'∧i=.int .i64 k∧(∀(i:Nat) y,i<k→L[i]? =some y→¬ num y<3)∧Below wz.heap.size wz wr) (fun i _=>j+n' - (intOf i).toNat);case atStart=>exact⟨0,Nat.zero_le _,rfl,fun i u h=>absurd h (Nat.not_lt_zero _),Below.refl _ _⟩
                    case round =>
                     obtain⟨k,hk,rfl,hall,hbb⟩:=hrel;have HALM:=Hq hall;have HBQ:=Hq hbb;clear hall hbb;by_cases hlt:k<j+n'
                     · obtain⟨y,he⟩:∃ y,L[k]? =some y:=⟨_,List.getElem?_eq_getElem (by rw[HL3.out];omega)⟩;obtain⟨b,o,rfl,e1⟩:=(HSW.out.kept HBQ.out nlr).cell he;have hy:=HZL.out y (List.mem_of_getElem? he);have hv:zd y=true:=Dl.okN_mem HOK.out (by rw[HLE.out];exact List.mem_of_getElem? he);have HC:=Hq (jv y ⟨#[3]⟩ hy (by decide) wr);have HE:=Hq he;rw[ordB_num hv zi1,zgz]at HC;clear he hy hv;go_wp2_with fail;refine HC.out.mono ?_;rintro e w6 ⟨rfl,hb⟩;have HB6:=Hq (HBQ.out.trans (hb.mono HBQ.out.size));clear hb;by_cases hlt2:num y<3
                       · have h0:cmpI (num y) 3<0:=cmpI_neg.2 hlt2;have HF:=Hq (Dl.form_L HOK.out HNR.out HT.out (Dl.low_at (by rw[HLE.out];exact HE.out) (by rw[HN.out,HN'.out];exact hlt) hlt2));obtain⟨cc,hcc⟩:∃ cc,cmpI (num y) 3=cc:=⟨_,rfl⟩;rw[hcc]at h0⊢;clear hcc hlt2;go_wp2;go_ret;exact⟨by rw[HF.out];rfl,HBW.out.trans (HB6.out.mono HBW.out.size)⟩
                       · have h0:¬ (cmpI (num y) 3<0):=fun h=>hlt2 (cmpI_neg.1 h);have HA2:=Hq (show ∀(i:Nat) u,i<k+1→L[i]? =some u→¬ num u<3 from fun i u hi hu=>by
                          rcases Nat.lt_or_ge i k with h | h
                          · exact HALM.out i u h hu
                          · obtain rfl:i=k:=by omega
                            rw[HE.out]at hu;cases hu;exact hlt2)
                         obtain⟨cc,hcc⟩:∃ cc,cmpI (num y) 3=cc:=⟨_,rfl⟩;rw[hcc]at h0⊢;clear hcc hlt2;go_wp2;go_roundw;case rel=>exact⟨k+1,by omega,by go_num,HA2.out,HB6.out⟩
                         case measure=>simp[intOf];omega
                     · obtain rfl:k=j+n':=by omega
                       have HF:=Hq (Dl.form_0 HOK.out HNR.out HT.out (Dl.low_no (fun i y hi h=>HALM.out i y (by rw[HN.out,HN'.out]at hi;exact hi) (by rw[←HLE.out];exact h))));clear hlt hk;go_wp2;go_ret;exact⟨by rw[HF.out];rfl,HBW.out.trans (HBQ.out.mono HBW.out.size)⟩
end Go.Proofs.YtkfgdcgmlobhfaaGreat

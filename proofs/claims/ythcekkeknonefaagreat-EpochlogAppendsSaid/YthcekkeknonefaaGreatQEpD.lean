/-
 DERIVED: THE SHELF's CONTRACTS AT THIS DUMP, IN PLAIN WORDS (tools/lay-plain.mjs out of 'TryShel2.lean', which tools/lay-shelf.mjs wrote): THE SAME DECLARATIONS UNDER THE SAME NAMES: 'import', 'namespace', 'open', 'def', 'theorem' AND NOTHING ELSE: no command of the shelf's: FOR A HAND-IN. Each laying: the table of numbers ('.._ren') and one theorem, a field a fact of the dump's own or the kernel's comparison; each contract: ONE APPLICATION.
-/
import Derived.Shelf.Spec.SlicesGrow
import Derived.Shelf.SlIter.Collect
import Derived.Ground.Names8Prog
import Derived.Ground.GgzProg
import Derived.Test.YthcekkeknonefaaGreatProg
import Derived.Test.YthcekkeknonefaaGreatQEncB
import Derived.Test.YthcekkeknonefaaGreatQEpB
import Derived.Deep.Upon
set_option linter.unusedVariables false
set_option linter.unusedSimpArgs false
namespace Go.Proofs
open Go.Shelf
def Tryz.growN_ren:Go.Shelf.Ren:=⟨fun | 4=>172 | n=>n,fun | 22=>28 | 25=>22 | 3=>3 | 4=>4 | 9=>9 | 20=>20 | 0=>0 | n=>n,fun | n=>n⟩
theorem Tryz.growN:Go.Proofs.Lays8.n4 Tryz.prog Tryz.growN_ren:={
 mixed:=by kernel_rfl
 f4:=⟨Tryz.f172.name,by decide,Tryz.func172.trans (congrArg some (by kernel_rfl))⟩
 t0:=Tryz.underlying0
 a0:=Tryz.isAgg0
 z0:=Tryz.sizeOf0
 v0:=Tryz.zeroValue0
 t3:=Tryz.underlying3
 a3:=Tryz.isAgg3
 z3:=Tryz.sizeOf3
 v3:=Tryz.zeroValue3
 t4:=Tryz.underlying4
 a4:=Tryz.isAgg4
 z4:=Tryz.sizeOf4
 v4:=Tryz.zeroValue4
 t9:=Tryz.underlying9
 a9:=Tryz.isAgg9
 z9:=Tryz.sizeOf9
 v9:=Tryz.zeroValue9
 t20:=Tryz.underlying20
 a20:=Tryz.isAgg20
 z20:=Tryz.sizeOf20
 v20:=Tryz.zeroValue20
 t22:=Tryz.underlying28
 a22:=Tryz.isAgg28
 z22:=Tryz.sizeOf28
 v22:=Tryz.zeroValue28 }
def Tryz.keysN_ren:Go.Shelf.Ren:=⟨fun | 7=>35 | 10=>59 | n=>n,fun | 23=>82 | 26=>22 | 3=>3 | 28=>85 | 0=>0 | 27=>84 | 33=>73 | 4=>4 | n=>n,fun | n=>n⟩
theorem Tryz.keysN:Go.Proofs.SlLaysZ.n7 Tryz.prog Tryz.keysN_ren:={
 mixed:=by kernel_rfl
 f7:=⟨Tryz.f35.name,by decide,Tryz.func35.trans (congrArg some (by kernel_rfl))⟩
 f10:=⟨Tryz.f59.name,by decide,Tryz.func59.trans (congrArg some (by kernel_rfl))⟩
 t0:=Tryz.underlying0
 a0:=Tryz.isAgg0
 z0:=Tryz.sizeOf0
 v0:=Tryz.zeroValue0
 t4:=Tryz.underlying4
 a4:=Tryz.isAgg4
 z4:=Tryz.sizeOf4
 v4:=Tryz.zeroValue4
 t23:=Tryz.underlying82
 a23:=Tryz.isAgg82
 z23:=Tryz.sizeOf82
 v23:=Tryz.zeroValue82
 t26:=Tryz.underlying22
 a26:=Tryz.isAgg22
 z26:=Tryz.sizeOf22
 v26:=Tryz.zeroValue22
 t27:=Tryz.underlying84
 a27:=Tryz.isAgg84
 z27:=Tryz.sizeOf84
 v27:=Tryz.zeroValue84
 t28:=Tryz.underlying85
 a28:=Tryz.isAgg85
 z28:=Tryz.sizeOf85
 v28:=Tryz.zeroValue85
 t33:=Tryz.underlying73
 a33:=Tryz.isAgg73
 z33:=Tryz.sizeOf73
 v33:=Tryz.zeroValue73 }
def Tryz.collectN_ren:Go.Shelf.Ren:=⟨fun | 8=>57 | 11=>117 | n=>n,fun | 26=>22 | 28=>85 | 24=>28 | 0=>0 | 33=>73 | 4=>4 | n=>n,fun | n=>n⟩
theorem Tryz.collectN:Go.Proofs.SlLaysZ.n8 Tryz.prog Tryz.collectN_ren:={
 mixed:=by kernel_rfl
 f8:=⟨Tryz.f57.name,by decide,Tryz.func57.trans (congrArg some (by kernel_rfl))⟩
 f11:=⟨Tryz.f117.name,by decide,Tryz.func117.trans (congrArg some (by kernel_rfl))⟩
 t0:=Tryz.underlying0
 a0:=Tryz.isAgg0
 z0:=Tryz.sizeOf0
 v0:=Tryz.zeroValue0
 t24:=Tryz.underlying28
 a24:=Tryz.isAgg28
 z24:=Tryz.sizeOf28
 v24:=Tryz.zeroValue28
 t26:=Tryz.underlying22
 a26:=Tryz.isAgg22
 z26:=Tryz.sizeOf22
 v26:=Tryz.zeroValue22
 t28:=Tryz.underlying85
 a28:=Tryz.isAgg85
 z28:=Tryz.sizeOf85
 v28:=Tryz.zeroValue85
 i26:=by kernel_rfl }
end Go.Proofs
namespace Go.Proofs.YthcekkeknonefaaGreat
set_option maxRecDepth 100000
set_option maxHeartbeats 2000000
open Go.RowKit
theorem sl_Grow(n:Nat)(w:World)(hn:n≤2000000):Calls Tryz.prog 172 #[.slice none 0 0,.int .i64 n] w (fun e w'=>∃ v,e=.returned v∧w'.ownsRow w.heap.size 22 1 v 0 []∧Below w.heap.size w w'):=by
 rcases Nat.eq_zero_or_pos n with h0 | h0
 · subst h0;refine(show Calls Tryz.prog 172 _ _ _ from Any8.slices_Grow_room Tryz.growN none 0 0 0 w (Nat.le_refl _) (by omega) (by omega) (by omega)).mono ?_;rintro e w' ⟨rfl,rfl⟩;exact⟨_,rfl,World.ownsRow_nil _ _ _ _,Below.refl _ _⟩
 · obtain⟨i0,hi,hz0,hz1,hz2⟩:=info_parts nat_info;refine(show Calls Tryz.prog 172 _ _ _ from Any8.slices_Grow_grow Tryz.growN i0 _ hi hz0 (by rw[hz1];decide) none 0 0 n [] w (Nat.le_refl _) (by omega) (by rw[hz2];omega) (by omega) (by simp) (fun _=>rfl) (fun a h=>by cases h)).mono ?_;rintro e w' ⟨rfl,rfl⟩;have hge:=grownCap_ge w (0+n) 0 22;have hle:=grownCap_le_maxLen w (0+n) 0 22 (by unfold maxLen;omega);refine⟨_,rfl,World.ownsRow_made (base:=w.heap.size) w.drew _ _ (Nat.le_refl _) hle ?_,(Below.refl _ _).drew.alloc (Nat.le_refl _) _⟩;have hz:(Value.string ⟨#[]⟩).cells.size=1:=rfl;show (List.toArray []++Builtin.zeroCells (Value.string ⟨#[]⟩).cells (0+n - 0)++Builtin.zeroCells (Value.string ⟨#[]⟩).cells (grownCap w (0+n) 0 22 - (0+n))).size=grownCap w (0+n) 0 22 * 1;rw[Array.size_append,Array.size_append,size_zeroCells,size_zeroCells,hz];simp only[List.size_toArray,List.length_nil];omega
def cnt(n1 n2:Nat):Nat→Nat
 | 0=>0
 | 1=>n1
 | _+2=>n1+n2
def lst(l1 l2:List ByteArray):Nat→List ByteArray
 | 0=>[]
 | 1=>l1
 | _+2=>l1++l2
theorem sl_Concat(l1 l2:List ByteArray)(A1 A2:Option Addr)(n1 c1 n2 c2 g:Nat)(w:World)(h1:SlN w A1 n1 c1 l1)(h2:SlN w A2 n2 c2 l2)(hn1:n1≤1000000)(hn2:n2≤1000000)(g0:w.cell? ⟨g,0,none⟩=some (.slice A1 n1 c1))(g1:w.cell? ⟨g,1,none⟩=some (.slice A2 n2 c2)) :
 Calls Tryz.prog 107 #[.slice (some ⟨g,0,none⟩) 2 2] w (RetRow 22 1 (n1+n2) ((l1++l2).map Value.string) w):=by
 have H1:=Hq h1;have H2:=Hq h2;have hc1:=h1.2.1;have hc2:=h2.2.1;have hm1:=h1.2.2.1;have hm2:=h2.2.2.1;have G0:=Hq g0;have G1:=Hq g1;clear h1 h2 g0 g1;go_enter Tryz.func107,Tryz.ntmps107;go_wp2
 go_loop [3,11] (fun s i=>∃ j:Nat,j≤2∧i=.int .i64 j∧s=.int .i64 (cnt n1 n2 j)) (fun _ i=>2 - (intOf i).toNat)
 case atStart=>exact⟨0,by omega,rfl,rfl⟩
 case round =>
  obtain⟨j,hj,rfl,rfl⟩:=hrel
  match j,hj with
  | 0,_ =>
   have g0:=G0.out;simp only[cnt,Int.natCast_zero];go_wp2;go_round;case rel=>exact⟨1,by omega,by go_num,by simp only[cnt]⟩
   case measure=>simp[intOf]
  | 1,_ =>
   have g1:=G1.out;simp only[cnt];go_wp2;go_round;case rel=>exact⟨2,by omega,by go_num,by simp only[cnt];go_num⟩
   case measure=>simp[intOf]
  | 2,_ =>
   simp only[cnt];go_wp2_with fail;refine(sl_Grow (n1+n2) w (by omega)).mono ?_;rintro e w1 ⟨v,rfl,hown,hb⟩;have HO1:=Hq hown;have HB1:=Hq hb;clear hown hb;go_wp2;go_loopw [6,27] (fun v i wr=>∃ j:Nat,j≤2∧i=.int .i64 j∧wr.ownsRow w.heap.size 22 1 v (cnt n1 n2 j) ((lst l1 l2 j).map Value.string)∧Below w.heap.size w wr) (fun _ i _=>2 - (intOf i).toNat);case atStart=>exact⟨0,by omega,rfl,HO1.out,HB1.out⟩
   case round =>
    obtain⟨j,hj,rfl,hown,hbb⟩:=hrel;have HB:=Hq hbb;clear hbb
    match j,hj with
    | 0,_ =>
     have g0:=cell_kept HB.out (Nat.le_refl _) G0.out;simp only[Int.natCast_zero];have HA1:=Hq hown;clear hown
     cases A1 with
     | none =>
      have h0:n1=0:=by
       rcases Nat.eq_zero_or_pos n1 with h | h
       · exact h
       · obtain⟨b,o,e⟩:=H1.out.head h;cases e
      have hl:l1=[]:=List.length_eq_zero_iff.1 (by rw[H1.out.1,h0]);have H0:=Hq h0;have HL:=Hq hl;clear h0 hl;obtain⟨A6,m6,c6,hu6⟩:∃ A m c,u6=.slice A m c:=by
       rcases HA1.out.2 with⟨h,_⟩ | ⟨g,c,_,h,_⟩
       · exact⟨_,_,_,h⟩
       · exact⟨_,_,_,h⟩
      have hmc:m6≤c6:=by
       rcases HA1.out.2 with⟨h,_⟩ | ⟨g,c,_,h,_,_,h2,_⟩
       · rw[hu6]at h;cases h;exact Nat.le_refl _
       · rw[hu6]at h;cases h;exact h2
      obtain⟨i0,hi,iz0,iz1,iz2⟩:=info_parts nat_info;go_wp2_with (at_builtin;refine wpList_append_none _ rfl (.tmp 31) (.tmp 32) 28 rfl 22 i0 Tryz.underlying28 hi _ _ _ hu6 hmc c1 (congrArg (fun n=>Value.slice none n c1) H0.out) ?_);rw[←hu6];clear hu6;have HO7:=Hq (show wr.ownsRow w.heap.size 22 1 u6 (cnt n1 n2 (0+1)) ((lst l1 l2 (0+1)).map Value.string)from by have:=HA1.out;have h0:=H0.out;have hl:=HL.out;simp only[cnt,lst,hl,h0]at this⊢;simpa using this);have HB7:=Hq HB.out;clear hi iz0 iz1 iz2;go_wp2;go_roundw;case rel=>exact⟨0+1,by omega,by go_num,HO7.out,HB7.out⟩
      case measure=>simp[intOf]
     | some ad =>
      have HC:=Hq (H1.out.kept HB.out (Nat.le_refl _)).cells;have HV:=Hq (show (l1.map Value.string).length=n1 * 1 from by rw[List.length_map,H1.out.1,Nat.mul_one]);obtain⟨i0,hi,iz0,iz1,iz2⟩:=info_parts nat_info;go_wp2_with (at_builtin;refine wpList_append_own _ rfl (.tmp 31) (.tmp 32) 28 rfl w.heap.size 22 i0 _ 1 16 Tryz.underlying28 hi iz0 iz1 iz2 rfl (by decide) _ (cnt n1 n2 0) _ rfl HA1.out ad n1 c1 (l1.map Value.string) rfl ?h1 ?h2 (strs_one _) ?h4 ?h5 ?h6 ?_);case h1=>exact HV.out
      case h2=>exact HC.out
      case h4=>simp only[cnt];unfold maxLen;omega
      case h5=>simp only[cnt];omega
      case h6=>exact HB.out.size
      intro v' w' hown hgrow _;have HB7:=Hq (HB.out.grown hgrow HB.out.size (fun k hk=>(HA1.out.lt k hk).1));have HO7:=Hq (show w'.ownsRow w.heap.size 22 1 v' (cnt n1 n2 (0+1)) ((lst l1 l2 (0+1)).map Value.string)from by have:=hown;simp only[cnt,lst]at this⊢;simpa using this);clear hown hgrow hi iz0 iz1 iz2;go_wp2;go_roundw;case rel=>exact⟨0+1,by omega,by go_num,HO7.out,HB7.out⟩
      case measure=>simp[intOf]
    | 1,_ =>
     have g1:=cell_kept HB.out (Nat.le_refl _) G1.out;simp only[Int.natCast_one];have HA1:=Hq hown;clear hown
     cases A2 with
     | none =>
      have h0:n2=0:=by
       rcases Nat.eq_zero_or_pos n2 with h | h
       · exact h
       · obtain⟨b,o,e⟩:=H2.out.head h;cases e
      have hl:l2=[]:=List.length_eq_zero_iff.1 (by rw[H2.out.1,h0]);have H0:=Hq h0;have HL:=Hq hl;clear h0 hl;obtain⟨A6,m6,c6,hu6⟩:∃ A m c,u6=.slice A m c:=by
       rcases HA1.out.2 with⟨h,_⟩ | ⟨g,c,_,h,_⟩
       · exact⟨_,_,_,h⟩
       · exact⟨_,_,_,h⟩
      have hmc:m6≤c6:=by
       rcases HA1.out.2 with⟨h,_⟩ | ⟨g,c,_,h,_,_,h2,_⟩
       · rw[hu6]at h;cases h;exact Nat.le_refl _
       · rw[hu6]at h;cases h;exact h2
      obtain⟨i0,hi,iz0,iz1,iz2⟩:=info_parts nat_info;go_wp2_with (at_builtin;refine wpList_append_none _ rfl (.tmp 31) (.tmp 32) 28 rfl 22 i0 Tryz.underlying28 hi _ _ _ hu6 hmc c2 (congrArg (fun n=>Value.slice none n c2) H0.out) ?_);rw[←hu6];clear hu6;have HO7:=Hq (show wr.ownsRow w.heap.size 22 1 u6 (cnt n1 n2 (1+1)) ((lst l1 l2 (1+1)).map Value.string)from by have:=HA1.out;have h0:=H0.out;have hl:=HL.out;simp only[cnt,lst,hl,h0]at this⊢;simpa using this);have HB7:=Hq HB.out;clear hi iz0 iz1 iz2;go_wp2;go_roundw;case rel=>exact⟨1+1,by omega,by go_num,HO7.out,HB7.out⟩
      case measure=>simp[intOf]
     | some ad =>
      have HC:=Hq (H2.out.kept HB.out (Nat.le_refl _)).cells;have HV:=Hq (show (l2.map Value.string).length=n2 * 1 from by rw[List.length_map,H2.out.1,Nat.mul_one]);obtain⟨i0,hi,iz0,iz1,iz2⟩:=info_parts nat_info;go_wp2_with (at_builtin;refine wpList_append_own _ rfl (.tmp 31) (.tmp 32) 28 rfl w.heap.size 22 i0 _ 1 16 Tryz.underlying28 hi iz0 iz1 iz2 rfl (by decide) _ (cnt n1 n2 1) _ rfl HA1.out ad n2 c2 (l2.map Value.string) rfl ?h1 ?h2 (strs_one _) ?h4 ?h5 ?h6 ?_);case h1=>exact HV.out
      case h2=>exact HC.out
      case h4=>simp only[cnt];unfold maxLen;omega
      case h5=>simp only[cnt];omega
      case h6=>exact HB.out.size
      intro v' w' hown hgrow _;have HB7:=Hq (HB.out.grown hgrow HB.out.size (fun k hk=>(HA1.out.lt k hk).1));have HO7:=Hq (show w'.ownsRow w.heap.size 22 1 v' (cnt n1 n2 (1+1)) ((lst l1 l2 (1+1)).map Value.string)from by have:=hown;simp only[cnt,lst]at this⊢;simpa using this);clear hown hgrow hi iz0 iz1 iz2;go_wp2;go_roundw;case rel=>exact⟨1+1,by omega,by go_num,HO7.out,HB7.out⟩
      case measure=>simp[intOf]
    | 2,_ =>
     have HO:=Hq (show wr.ownsRow w.heap.size 22 1 u6 (n1+n2) ((l1++l2).map Value.string)from hown);clear hown;go_wp2;go_ret;exact⟨_,rfl,HO.out,HB.out⟩
end Go.Proofs.YthcekkeknonefaaGreat
namespace Go.Proofs.YthcekkeknonefaaGreat
set_option maxRecDepth 100000
set_option maxHeartbeats 1000000
open Go.RowKit
def memB(l:List ByteArray)(x:ByteArray):Bool:=l.any (fun y=>x.toList==y.toList)
theorem any_take{l:List ByteArray}{p:ByteArray→Bool}(h:∀(i:Nat) y,l[i]? =some y→p y=false):l.any p=false:=by
 rw[List.any_eq_false];intro y hy;obtain⟨i,hi⟩:=List.getElem?_of_mem hy;simp[h i y hi]
theorem any_at{l:List ByteArray}{p:ByteArray→Bool}{i:Nat}{y:ByteArray}(hi:l[i]? =some y)(h:p y=true):l.any p=true:=by
 rw[List.any_eq_true];exact⟨y,List.mem_of_getElem? hi,h⟩
def RetK(b:Bool)(w:World)(e:Ending)(w':World):Prop:=∃ k:Int,e=.returned (.int .i64 k)∧decide (0≤k)=b∧Below w.heap.size w w'
theorem sl_Index(l:List ByteArray)(A:Option Addr)(len cap:Nat)(x:ByteArray)(w:World)(hs:SlN w A len cap l):Calls Tryz.prog 143 #[.slice A len cap,.string x] w (RetK (memB l x) w):=by
 have HS:=Hq hs;have HLEN:=Hq hs.1;have hcap:=hs.2.1;have hcap2:=hs.2.2.1;clear hs;go_enter Tryz.func143,Tryz.ntmps143;go_wp2
 go_loop [8] (fun k=>∃ j:Nat,j≤len∧k=.int .i64 j∧(∀(i:Nat) y,i<j→l[i]? =some y→(x.toList==y.toList)=false)) (fun k=>len - (intOf k).toNat)
 case atStart=>exact⟨0,Nat.zero_le _,rfl,fun i u h=>absurd h (Nat.not_lt_zero _)⟩
 case round =>
  obtain⟨j,hj,rfl,hall⟩:=hrel;have HALL:=Hq hall;clear hall;by_cases hlt:j<len
  · obtain⟨y,he⟩:∃ y,l[j]? =some y:=⟨_,List.getElem?_eq_getElem (by rw[HLEN.out];exact hlt)⟩;obtain⟨b,o,rfl,e1⟩:=HS.out.cell he;have HE:=Hq he;clear he
    cases hh:(x.toList==y.toList)with
    | true =>
     have HM:=Hq (any_at (p:=fun y=>x.toList==y.toList) HE.out hh);go_wp2;go_ret;exact⟨j,rfl,by unfold memB;rw[HM.out];exact decide_eq_true (by omega),Below.refl _ _⟩
    | false =>
     have HA2:=Hq (show ∀(i:Nat) y,i<j+1→l[i]? =some y→(fun y=>x.toList==y.toList) y=false from fun i u hi hu=>by
      rcases Nat.lt_or_ge i j with a | a
      · exact HALL.out i u a hu
      · obtain rfl:i=j:=by omega
        rw[HE.out]at hu;cases hu
        exact hh)
     go_wp2;go_round;case rel=>exact⟨j+1,by omega,by go_num,HA2.out⟩
     case measure=>simp[intOf];omega
  · obtain rfl:j=len:=by omega
    have HM:=Hq (show memB l x=false from any_take (fun i y h=>HALL.out i y (by have:=(List.getElem?_eq_some_iff.1 h).1;have:=HLEN.out;omega) h));clear hlt hj;go_wp2;go_ret;exact⟨-1,rfl,by rw[HM.out];rfl,Below.refl _ _⟩
theorem sl_Contains(l:List ByteArray)(A:Option Addr)(len cap:Nat)(x:ByteArray)(w:World)(hs:SlN w A len cap l):Calls Tryz.prog 82 #[.slice A len cap,.string x] w (Ret (.bool (memB l x)) w):=by
 have HC:=Hq (sl_Index l A len cap x w hs);clear hs;go_enter Tryz.func82,Tryz.ntmps82;go_wp2_with fail;refine HC.out.mono ?_;rintro e w1 ⟨k,rfl,hk,hb⟩;have HK:=Hq hk;have HB:=Hq hb;clear hk hb;go_wp2;go_ret;exact⟨by rw[←HK.out];rfl,HB.out⟩
theorem r37_has(l:List ByteArray)(A:Option Addr)(len cap:Nat)(x:ByteArray)(w:World)(hs:SlN w A len cap l):Calls Tryz.prog 93 #[.slice A len cap,.string x] w (Ret (.bool (memB l x)) w):=by
 have HS:=Hq hs;have HLEN:=Hq hs.1;have hcap:=hs.2.1;have hcap2:=hs.2.2.1;clear hs;go_enter Tryz.func93,Tryz.ntmps93;go_wp2
 go_loop [5] (fun k=>∃ j:Nat,j≤len∧k=.int .i64 j∧(∀(i:Nat) y,i<j→l[i]? =some y→(x.toList==y.toList)=false)) (fun k=>len - (intOf k).toNat)
 case atStart=>exact⟨0,Nat.zero_le _,rfl,fun i u h=>absurd h (Nat.not_lt_zero _)⟩
 case round =>
  obtain⟨j,hj,rfl,hall⟩:=hrel;have HALL:=Hq hall;clear hall;by_cases hlt:j<len
  · obtain⟨y,he⟩:∃ y,l[j]? =some y:=⟨_,List.getElem?_eq_getElem (by rw[HLEN.out];exact hlt)⟩;obtain⟨b,o,rfl,e1⟩:=HS.out.cell he;have HE:=Hq he;clear he
    cases hh:(x.toList==y.toList)with
    | true =>
     have hh2:(y.toList==x.toList)=true:=by rw[beq_iff_eq]at hh⊢;exact hh.symm
     have HM:=Hq (any_at (p:=fun y=>x.toList==y.toList) HE.out hh);clear hh;go_wp2;go_ret;exact⟨by unfold memB;rw[HM.out];rfl,Below.refl _ _⟩
    | false =>
     have hh2:(y.toList==x.toList)=false:=by rw[beq_eq_false_iff_ne]at hh⊢;exact fun h=>hh h.symm
     have HA2:=Hq (show ∀(i:Nat) y,i<j+1→l[i]? =some y→(fun y=>x.toList==y.toList) y=false from fun i u hi hu=>by
      rcases Nat.lt_or_ge i j with a | a
      · exact HALL.out i u a hu
      · obtain rfl:i=j:=by omega
        rw[HE.out]at hu;cases hu
        exact hh)
     clear hh;go_wp2;go_round;case rel=>exact⟨j+1,by omega,by go_num,HA2.out⟩
     case measure=>simp[intOf];omega
  · obtain rfl:j=len:=by omega
    have HM:=Hq (show memB l x=false from any_take (fun i y h=>HALL.out i y (by have:=(List.getElem?_eq_some_iff.1 h).1;have:=HLEN.out;omega) h));clear hlt hj;go_wp2;go_ret;exact⟨by rw[HM.out];rfl,Below.refl _ _⟩
theorem sl_IndexFunc1(l:List ByteArray)(A:Option Addr)(len cap B:Nat)(p:ByteArray→Bool)(w:World)(hs:SlN w A len cap l)(hp:∀ x∈l,∀ W,Below w.heap.size w W→Calls Tryz.prog 110 #[.string x,.pointer (some ⟨B,0,none⟩)] W (Ret (.bool (p x)) W)) :
 Calls Tryz.prog 173 #[.slice A len cap,.func (.func 110) #[] #[.pointer (some ⟨B,0,none⟩)]] w (RetK (l.any p) w):=by
 have HS:=Hq hs;have HP:=Hq hp;have HLEN:=Hq hs.1;have hcap:=hs.2.1;have hcap2:=hs.2.2.1;clear hs hp;go_enter Tryz.func173,Tryz.ntmps173;go_wp2;go_loopw [8] (fun k wr=>∃ j:Nat,j≤len∧k=.int .i64 j∧(∀(i:Nat) y,i<j→l[i]? =some y→p y=false)∧Below w.heap.size w wr) (fun k _=>len - (intOf k).toNat);case atStart=>exact⟨0,Nat.zero_le _,rfl,fun i u h=>absurd h (Nat.not_lt_zero _),Below.refl _ _⟩
 case round =>
  obtain⟨j,hj,rfl,hall,hB⟩:=hrel;have HALL:=Hq hall;have HB:=Hq hB;clear hall hB;by_cases hlt:j<len
  · obtain⟨y,he⟩:∃ y,l[j]? =some y:=⟨_,List.getElem?_eq_getElem (by rw[HLEN.out];exact hlt)⟩;obtain⟨b,o,rfl,e0⟩:=HS.out.cell he;have e1:=cell_kept HB.out (Nat.le_refl _) e0;have HC:=Hq (HP.out y (List.mem_of_getElem? he) wr HB.out);have HE:=Hq he;clear he e0;go_wp2_with fail;refine HC.out.mono ?_;rintro e w1 ⟨rfl,hb1⟩;have HB1:=Hq (HB.out.trans (hb1.mono HB.out.size));clear hb1
    cases hh:p y with
    | true =>
     have HM:=Hq (any_at HE.out hh);clear hh;go_wp2;go_ret;exact⟨j,rfl,by rw[HM.out];exact decide_eq_true (by omega),HB1.out⟩
    | false =>
     have HA2:=Hq (show ∀(i:Nat) y,i<j+1→l[i]? =some y→p y=false from fun i u hi hu=>by
      rcases Nat.lt_or_ge i j with a | a
      · exact HALL.out i u a hu
      · obtain rfl:i=j:=by omega
        rw[HE.out]at hu;cases hu
        exact hh)
     clear hh;go_wp2;go_roundw;case rel=>exact⟨j+1,by omega,by go_num,HA2.out,HB1.out⟩
     case measure=>simp[intOf];omega
  · obtain rfl:j=len:=by omega
    have HM:=Hq (show l.any p=false from any_take (fun i y h=>HALL.out i y (by have:=(List.getElem?_eq_some_iff.1 h).1;have:=HLEN.out;omega) h));clear hlt hj;go_wp2;go_ret;exact⟨-1,rfl,by rw[HM.out];rfl,HB.out⟩
theorem sl_ContainsFunc1(l:List ByteArray)(A:Option Addr)(len cap B:Nat)(p:ByteArray→Bool)(w:World)(hs:SlN w A len cap l)(hp:∀ x∈l,∀ W,Below w.heap.size w W→Calls Tryz.prog 110 #[.string x,.pointer (some ⟨B,0,none⟩)] W (Ret (.bool (p x)) W)) :
 Calls Tryz.prog 109 #[.slice A len cap,.func (.func 110) #[] #[.pointer (some ⟨B,0,none⟩)]] w (Ret (.bool (l.any p)) w):=by
 have HC:=Hq (sl_IndexFunc1 l A len cap B p w hs hp);clear hs hp;go_enter Tryz.func109,Tryz.ntmps109;go_wp2_with fail;refine HC.out.mono ?_;rintro e w1 ⟨k,rfl,hk,hb⟩;have HK:=Hq hk;have HB:=Hq hb;clear hk hb;go_wp2;go_ret;exact⟨by rw[←HK.out];rfl,HB.out⟩
theorem sl_IndexFunc2(l:List ByteArray)(A:Option Addr)(len cap B:Nat)(p:ByteArray→Bool)(w:World)(hs:SlN w A len cap l)(hp:∀ x∈l,∀ W,Below w.heap.size w W→Calls Tryz.prog 111 #[.string x,.pointer (some ⟨B,0,none⟩)] W (Ret (.bool (p x)) W)) :
 Calls Tryz.prog 173 #[.slice A len cap,.func (.func 111) #[] #[.pointer (some ⟨B,0,none⟩)]] w (RetK (l.any p) w):=by
 have HS:=Hq hs;have HP:=Hq hp;have HLEN:=Hq hs.1;have hcap:=hs.2.1;have hcap2:=hs.2.2.1;clear hs hp;go_enter Tryz.func173,Tryz.ntmps173;go_wp2;go_loopw [8] (fun k wr=>∃ j:Nat,j≤len∧k=.int .i64 j∧(∀(i:Nat) y,i<j→l[i]? =some y→p y=false)∧Below w.heap.size w wr) (fun k _=>len - (intOf k).toNat);case atStart=>exact⟨0,Nat.zero_le _,rfl,fun i u h=>absurd h (Nat.not_lt_zero _),Below.refl _ _⟩
 case round =>
  obtain⟨j,hj,rfl,hall,hB⟩:=hrel;have HALL:=Hq hall;have HB:=Hq hB;clear hall hB;by_cases hlt:j<len
  · obtain⟨y,he⟩:∃ y,l[j]? =some y:=⟨_,List.getElem?_eq_getElem (by rw[HLEN.out];exact hlt)⟩;obtain⟨b,o,rfl,e0⟩:=HS.out.cell he;have e1:=cell_kept HB.out (Nat.le_refl _) e0;have HC:=Hq (HP.out y (List.mem_of_getElem? he) wr HB.out);have HE:=Hq he;clear he e0;go_wp2_with fail;refine HC.out.mono ?_;rintro e w1 ⟨rfl,hb1⟩;have HB1:=Hq (HB.out.trans (hb1.mono HB.out.size));clear hb1
    cases hh:p y with
    | true =>
     have HM:=Hq (any_at HE.out hh);clear hh;go_wp2;go_ret;exact⟨j,rfl,by rw[HM.out];exact decide_eq_true (by omega),HB1.out⟩
    | false =>
     have HA2:=Hq (show ∀(i:Nat) y,i<j+1→l[i]? =some y→p y=false from fun i u hi hu=>by
      rcases Nat.lt_or_ge i j with a | a
      · exact HALL.out i u a hu
      · obtain rfl:i=j:=by omega
        rw[HE.out]at hu;cases hu
        exact hh)
     clear hh;go_wp2;go_roundw;case rel=>exact⟨j+1,by omega,by go_num,HA2.out,HB1.out⟩
     case measure=>simp[intOf];omega
  · obtain rfl:j=len:=by omega
    have HM:=Hq (show l.any p=false from any_take (fun i y h=>HALL.out i y (by have:=(List.getElem?_eq_some_iff.1 h).1;have:=HLEN.out;omega) h));clear hlt hj;go_wp2;go_ret;exact⟨-1,rfl,by rw[HM.out];rfl,HB.out⟩
theorem sl_ContainsFunc2(l:List ByteArray)(A:Option Addr)(len cap B:Nat)(p:ByteArray→Bool)(w:World)(hs:SlN w A len cap l)(hp:∀ x∈l,∀ W,Below w.heap.size w W→Calls Tryz.prog 111 #[.string x,.pointer (some ⟨B,0,none⟩)] W (Ret (.bool (p x)) W)) :
 Calls Tryz.prog 109 #[.slice A len cap,.func (.func 111) #[] #[.pointer (some ⟨B,0,none⟩)]] w (Ret (.bool (l.any p)) w):=by
 have HC:=Hq (sl_IndexFunc2 l A len cap B p w hs hp);clear hs hp;go_enter Tryz.func109,Tryz.ntmps109;go_wp2_with fail;refine HC.out.mono ?_;rintro e w1 ⟨k,rfl,hk,hb⟩;have HK:=Hq hk;have HB:=Hq hb;clear hk hb;go_wp2;go_ret;exact⟨by rw[←HK.out];rfl,HB.out⟩
theorem ep_form1(x:ByteArray)(B:Nat)(l:List ByteArray)(A:Option Addr)(n c:Nat)(w:World)(hB:w.cell? ⟨B,3,none⟩=some (.slice A n c))(hs:SlN w A n c l):Calls Tryz.prog 110 #[.string x,.pointer (some ⟨B,0,none⟩)] w (Ret (.bool (memB l x)) w):=by
 have HC:=Hq (sl_Contains l A n c x w hs);clear hs;go_enter Tryz.func110,Tryz.ntmps110;go_wp2_with fail;refine HC.out.mono ?_;rintro e w1 ⟨rfl,hb⟩;have HB:=Hq hb;clear hb hB;go_wp2;go_ret;exact⟨rfl,HB.out⟩
theorem ep_form2(x:ByteArray)(B:Nat)(t:ByteArray)(w:World)(hB:w.cell? ⟨B,0,none⟩=some (.string t))(hx:nvalid x=true)(ht:nvalid t=true):Calls Tryz.prog 111 #[.string x,.pointer (some ⟨B,0,none⟩)] w (Ret (.bool (decide (num x<num t))) w):=by
 have HC:=Hq (nat_Cmp x t (by have:=size_valid hx;omega) (by have:=size_valid ht;omega) w);rw[ncmp_num hx ht]at HC;have HD:=Hq (show decide (cmpI (num x) (num t)<0)=decide (num x<num t)from decide_eq_decide.2 cmpI_neg);obtain⟨cc,hcc⟩:∃ cc,cmpI (num x) (num t)=cc:=⟨_,rfl⟩;rw[hcc]at HC HD;clear hcc hx ht;go_enter Tryz.func111,Tryz.ntmps111;go_wp2_with fail;refine HC.out.mono ?_;rintro e w1 ⟨rfl,rfl⟩;go_wp2;go_ret;exact⟨by rw[←HD.out];rfl,Below.refl _ _⟩
end Go.Proofs.YthcekkeknonefaaGreat

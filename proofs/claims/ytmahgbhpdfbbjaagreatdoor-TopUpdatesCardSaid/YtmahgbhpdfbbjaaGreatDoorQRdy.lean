import Derived.Test.YtmahgbhpdfbbjaaGreatDoorQEpA
import Derived.Shelf.Spec.SlicesGrow
import Derived.Shelf.SlIter.Collect
import Derived.Test.YtmahgbhpdfbbjaaGreatDoorQApn
import Derived.Deep.Upon
set_option linter.unusedVariables false
set_option linter.unusedSimpArgs false
namespace Go.Proofs.YtmahgbhpdfbbjaaGreatDoor
set_option maxRecDepth 100000
set_option maxHeartbeats 1000000
open Go.RowKit
theorem canon_valid{s:ByteArray}(h:nvalid s=true):canon s.data.toList:=by
 unfold nvalid at h;rw[Bool.and_eq_true,Bool.not_eq_true',beq_eq_false_iff_ne]at h;exact h.2
theorem size_valid{s:ByteArray}(h:nvalid s=true):s.size≤128:=by
 unfold nvalid at h;rw[Bool.and_eq_true]at h;exact of_decide_eq_true h.1
theorem ordB_num{a b:ByteArray}(ha:nvalid a=true)(hb:nvalid b=true):ordB a b=cmpI (num a) (num b):=ordL_canon (canon_valid ha) (canon_valid hb)
theorem ncmp_num{a b:ByteArray}(ha:nvalid a=true)(hb:nvalid b=true):ncmp a b=cmpI (num a) (num b):=by
 unfold ncmp;rw[ha,hb];exact ordB_num ha hb
theorem cmpI_neg{a b:Nat}:cmpI a b<0↔a<b:=by
 unfold cmpI;split
 · simp_all
 · split<;>simp_all
theorem num_inj{a b:ByteArray}(ha:nvalid a=true)(hb:nvalid b=true)(h:num a=num b):a=b:=by
 have h1:=encN_bnat (canon_valid ha);have h2:=encN_bnat (canon_valid hb);have : a.data.toList=b.data.toList:=(by rw[←h1,←h2];exact congrArg encN h);exact ByteArray.ext (Array.toList_inj.1 this)
def ascB(l:List ByteArray):Bool:=(List.range l.length).all (fun k=>match l[k]?,l[k+1]? with
 | some a,some b=>decide (num a<num b)
 | _,_=>true)
theorem ascB_iff{l:List ByteArray}:ascB l=true↔∀(k:Nat) a b,l[k]? =some a→l[k+1]? =some b→num a<num b:=by
 unfold ascB;rw[List.all_eq_true];constructor
 · intro h k a b h1 h2;have:=h k (List.mem_range.2 (List.getElem?_eq_some_iff.1 h1).1);rw[h1,h2]at this;exact of_decide_eq_true this
 · intro h k _
   cases h1:l[k]? with
   | none=>rfl
   | some a =>
    cases h2:l[k+1]? with
    | none=>rfl
    | some b=>exact decide_eq_true (h k a b h1 h2)
theorem ascB_no{l:List ByteArray}{k:Nat}{a b:ByteArray}(h1:l[k]? =some a)(h2:l[k+1]? =some b)(h:¬ num a<num b):ascB l=false:=by
 cases h3:ascB l with
 | false=>rfl
 | true=>exact absurd (ascB_iff.1 h3 k a b h1 h2) h
theorem ep_ascends(l:List ByteArray)(A:Option Addr)(len cap:Nat)(w:World)(hs:SlN w A len cap l)(hv:∀ s∈l,nvalid s=true):Calls Tryz.prog 123 #[.slice A len cap] w (Ret (.bool (ascB l)) w):=by
 have HS:=Hq hs;have HV:=Hq hv;have HLEN:=Hq hs.1;have hcap:=hs.2.1;have hcap2:=hs.2.2.1;clear hs hv;go_enter Tryz.func123,Tryz.ntmps123;go_wp2;go_loopw [3] (fun i wr=>∃ k:Nat,(k+1≤len∨k=0)∧i=.int .i64 ((k:Int)+1)∧(∀(m:Nat) a b,m<k→l[m]? =some a→l[m+1]? =some b→num a<num b)∧Below w.heap.size w wr) (fun i _=>len+1 - (intOf i).toNat);case atStart=>exact⟨0,.inr rfl,rfl,fun m a b h=>absurd h (Nat.not_lt_zero _),Below.refl _ _⟩
 case round =>
  obtain⟨k,hk,rfl,hall,hbb⟩:=hrel;have HALL:=Hq hall;have HB:=Hq hbb;clear hall hbb;by_cases hlt:k+1<len
  · obtain⟨a,ha⟩:∃ a,l[k]? =some a:=⟨_,List.getElem?_eq_getElem (by rw[HLEN.out];omega)⟩;obtain⟨c,hc⟩:∃ c,l[k+1]? =some c:=⟨_,List.getElem?_eq_getElem (by rw[HLEN.out];exact hlt)⟩;have va:=HV.out a (List.mem_of_getElem? ha);have vc:=HV.out c (List.mem_of_getElem? hc);have hsa:=size_valid va;have hsc:=size_valid vc;obtain⟨b,o,rfl,e1⟩:=(HS.out.kept HB.out nlr).cell ha;obtain⟨_,_,e,e2⟩:=(HS.out.kept HB.out nlr).cell hc;cases e;have e1:wr.drew.cell? ⟨b,o+k,none⟩=some (.string a):=e1;have e2:wr.drew.cell? ⟨b,o+(k+1),none⟩=some (.string c):=e2;have HCM:=Hq (show ∀ w,Calls Tryz.prog 40 #[.string a,.string c] w (Ret (.int .i64 (cmpI (num a) (num c))) w)from fun w=>by
     have:=nat_Cmp a c (by omega) (by omega) w;rw[ncmp_num va vc]at this
     exact this.mono fun _ _ h=>⟨h.1,h.2▸Below.refl _ _⟩)
    have HA:=Hq ha;have HC:=Hq hc;have k1:(k:Int)+1 - 1=k:=by omega
    have k2:IntKind.i64.wrap (k:Int)=k:=by rw[IntKind.wrap_i64];omega
    have k3:k<len:=by omega
    have k4:(0:Int)≤(k:Int)+1:=by omega
    clear ha hc va vc hsa hsc;go_wp2;refine wp_region_K 11 (Below (wr.drew).heap.size (wr.drew)) (by kernel_rfl) ?_;refine qPDs 0 10 10 blr ?_;refine qPDs 1 11 9 blr ?_;refine qPDs 2 12 8 blr ?_;refine qPDs 3 13 7 blr ?_;refine qSDs 4 14 6 blr (fun w' hS'=>(And.intro (kc hS' e1) (kc hS' e2))) ?_;refine qPDs 5 15 5 blr ?_;refine qPDs 6 16 4 blr ?_;refine qPDs 7 17 3 blr ?_;refine qSDs 8 18 2 blr (fun w' hS'=>(And.intro (kc hS' e1) (kc hS' e2))) ?_;refine oO 9 1 ?_;intro K9 hK9;go_wp2_with fail;refine(HCM.out _).mono ?_;rintro e w1 ⟨rfl,hb⟩;have HL1:=Hq hb;go_wp2;refine hK9 _ _ (by exact hb) ?_;clear hK9;intro hS_4_9;refine qPDs 10 20 0 hS_4_9 ?_;refine wDn ?_;have HB1:=Hq (HB.out.trans (((Below.refl wr.heap.size wr).drew.trans HL1.out).mono HB.out.size));by_cases hlt2:num a<num c
    · have h0:cmpI (num a) (num c)<0:=cmpI_neg.2 hlt2;have HA2:=Hq (show ∀(m:Nat) a b,m<k+1→l[m]? =some a→l[m+1]? =some b→num a<num b from fun m x y hm hx hy=>by
       rcases Nat.lt_or_ge m k with h | h
       · exact HALL.out m x y h hx hy
       · obtain rfl:m=k:=by omega
         rw[HA.out]at hx;rw[HC.out]at hy;cases hx;cases hy
         exact hlt2)
      obtain⟨cc,hcc⟩:=nm (cmpI (num a) (num c));rw[hcc]at h0⊢;clear hcc hlt2;go_wp2;go_roundw;case rel=>exact⟨k+1,.inl (by omega),by go_num,HA2.out,HB1.out⟩
      case measure=>simp[intOf];omega
    · have h0:¬ (cmpI (num a) (num c)<0):=fun h=>hlt2 (cmpI_neg.1 h);have HF:=Hq (ascB_no HA.out HC.out hlt2);obtain⟨cc,hcc⟩:=nm (cmpI (num a) (num c));rw[hcc]at h0⊢;clear hcc hlt2;go_wp2;go_ret;exact⟨by rw[HF.out];rfl,HB1.out⟩
  · have HF:=Hq (show ascB l=true from ascB_iff.2 (fun m a b h1 h2=>HALL.out m a b (by have:=(List.getElem?_eq_some_iff.1 h2).1;rw[HLEN.out]at this;omega) h1 h2));clear hk;go_wp2;go_ret;exact⟨by rw[HF.out];rfl,HB.out⟩
end Go.Proofs.YtmahgbhpdfbbjaaGreatDoor
/-
 DERIVED: THE SHELF's CONTRACTS AT THIS DUMP, IN PLAIN WORDS (tools/lay-plain.mjs out of 'TryShel2.lean', which tools/lay-shelf.mjs wrote): THE SAME DECLARATIONS UNDER THE SAME NAMES: 'import', 'namespace', 'open', 'def', 'theorem' AND NOTHING ELSE: no command of the shelf's: FOR A HAND-IN. Each laying: the table of numbers ('.._ren') and one theorem, a field a fact of the dump's own or the kernel's comparison; each contract: ONE APPLICATION.
-/
namespace Go.Proofs
open Go.Shelf
def Tryz.growN_ren:Go.Shelf.Ren:=⟨fun | 4=>142 | n=>n,fun | 22=>25 | 25=>22 | 3=>3 | 4=>4 | 9=>9 | 20=>20 | 0=>0 | n=>n,fun | n=>n⟩
theorem Tryz.growN:Go.Proofs.Lays8.n4 Tryz.prog Tryz.growN_ren:={
 mixed:=by kernel_rfl
 f4:=⟨Tryz.f142.name,by decide,Tryz.func142.trans (congrArg some (by kernel_rfl))⟩
 t0:=Tryz.underlying0
 a0:=Tryz.isAgg0
 z0:=Tryz.sizeOf0
 v0:=Tryz.zeroValue0
 t3:=Tryz.underlying3
 a3:=Tryz.isAgg3
 z3:=Tryz.sizeOf3
 v3:=Tryz.zeroValue3
 t4:=Tryz.underlying4
 a4:=Tryz.isAgg4
 z4:=Tryz.sizeOf4
 v4:=Tryz.zeroValue4
 t9:=Tryz.underlying9
 a9:=Tryz.isAgg9
 z9:=Tryz.sizeOf9
 v9:=Tryz.zeroValue9
 t20:=Tryz.underlying20
 a20:=Tryz.isAgg20
 z20:=Tryz.sizeOf20
 v20:=Tryz.zeroValue20
 t22:=Tryz.underlying25
 a22:=Tryz.isAgg25
 z22:=Tryz.sizeOf25
 v22:=Tryz.zeroValue25 }
def Tryz.keysN_ren:Go.Shelf.Ren:=⟨fun | 7=>86 | 10=>121 | n=>n,fun | 23=>145 | 26=>22 | 3=>3 | 28=>131 | 0=>0 | 27=>130 | 33=>79 | 4=>4 | n=>n,fun | n=>n⟩
theorem Tryz.keysN:Go.Proofs.SlLaysZ.n7 Tryz.prog Tryz.keysN_ren:={
 mixed:=by kernel_rfl
 f7:=⟨Tryz.f86.name,by decide,Tryz.func86.trans (congrArg some (by kernel_rfl))⟩
 f10:=⟨Tryz.f121.name,by decide,Tryz.func121.trans (congrArg some (by kernel_rfl))⟩
 t0:=Tryz.underlying0
 a0:=Tryz.isAgg0
 z0:=Tryz.sizeOf0
 v0:=Tryz.zeroValue0
 t4:=Tryz.underlying4
 a4:=Tryz.isAgg4
 z4:=Tryz.sizeOf4
 v4:=Tryz.zeroValue4
 t23:=Tryz.underlying145
 a23:=Tryz.isAgg145
 z23:=Tryz.sizeOf145
 v23:=Tryz.zeroValue145
 t26:=Tryz.underlying22
 a26:=Tryz.isAgg22
 z26:=Tryz.sizeOf22
 v26:=Tryz.zeroValue22
 t27:=Tryz.underlying130
 a27:=Tryz.isAgg130
 z27:=Tryz.sizeOf130
 v27:=Tryz.zeroValue130
 t28:=Tryz.underlying131
 a28:=Tryz.isAgg131
 z28:=Tryz.sizeOf131
 v28:=Tryz.zeroValue131
 t33:=Tryz.underlying79
 a33:=Tryz.isAgg79
 z33:=Tryz.sizeOf79
 v33:=Tryz.zeroValue79 }
def Tryz.collectN_ren:Go.Shelf.Ren:=⟨fun | 8=>119 | 11=>139 | n=>n,fun | 26=>22 | 28=>131 | 24=>25 | 0=>0 | 33=>79 | 4=>4 | n=>n,fun | n=>n⟩
theorem Tryz.collectN:Go.Proofs.SlLaysZ.n8 Tryz.prog Tryz.collectN_ren:={
 mixed:=by kernel_rfl
 f8:=⟨Tryz.f119.name,by decide,Tryz.func119.trans (congrArg some (by kernel_rfl))⟩
 f11:=⟨Tryz.f139.name,by decide,Tryz.func139.trans (congrArg some (by kernel_rfl))⟩
 t0:=Tryz.underlying0
 a0:=Tryz.isAgg0
 z0:=Tryz.sizeOf0
 v0:=Tryz.zeroValue0
 t24:=Tryz.underlying25
 a24:=Tryz.isAgg25
 z24:=Tryz.sizeOf25
 v24:=Tryz.zeroValue25
 t26:=Tryz.underlying22
 a26:=Tryz.isAgg22
 z26:=Tryz.sizeOf22
 v26:=Tryz.zeroValue22
 t28:=Tryz.underlying131
 a28:=Tryz.isAgg131
 z28:=Tryz.sizeOf131
 v28:=Tryz.zeroValue131
 i26:=by kernel_rfl }
end Go.Proofs
namespace Go.Proofs.YtmahgbhpdfbbjaaGreatDoor
set_option maxRecDepth 100000
set_option maxHeartbeats 2000000
open Go.RowKit
theorem sl_Grow(n:Nat)(w:World)(hn:n≤2000000):Calls Tryz.prog 142 #[.slice none 0 0,.int .i64 n] w (fun e w'=>∃ v,e=.returned v∧w'.ownsRow w.heap.size 22 1 v 0 []∧Below w.heap.size w w'):=by
 rcases Nat.eq_zero_or_pos n with h0 | h0
 · subst h0;refine(show Calls Tryz.prog 142 _ _ _ from Any8.slices_Grow_room Tryz.growN none 0 0 0 w nlr (by omega) (by omega) (by omega)).mono ?_;rintro e w' ⟨rfl,rfl⟩;exact⟨_,rfl,World.ownsRow_nil _ _ _ _,Below.refl _ _⟩
 · obtain⟨i0,hi,hz0,hz1,hz2⟩:=info_parts nat_info;refine(show Calls Tryz.prog 142 _ _ _ from Any8.slices_Grow_grow Tryz.growN i0 _ hi hz0 (by rw[hz1];decide) none 0 0 n [] w nlr (by omega) (by rw[hz2];omega) (by omega) (by simp) (fun _=>rfl) (fun a h=>by cases h)).mono ?_;rintro e w' ⟨rfl,rfl⟩;have hge:=grownCap_ge w (0+n) 0 22;have hle:=grownCap_le_maxLen w (0+n) 0 22 (by unfold maxLen;omega);refine⟨_,rfl,World.ownsRow_made (base:=w.heap.size) w.drew _ _ nlr hle ?_,(blr).drew.alloc nlr _⟩;have hz:(Value.string ⟨#[]⟩).cells.size=1:=rfl;show (List.toArray []++Builtin.zeroCells (Value.string ⟨#[]⟩).cells (0+n - 0)++Builtin.zeroCells (Value.string ⟨#[]⟩).cells (grownCap w (0+n) 0 22 - (0+n))).size=grownCap w (0+n) 0 22 * 1;rw[Array.size_append,Array.size_append,size_zeroCells,size_zeroCells,hz];simp only[List.size_toArray,List.length_nil];omega
def cnt(n1 n2:Nat):Nat→Nat
 | 0=>0
 | 1=>n1
 | _+2=>n1+n2
def lst(l1 l2:List ByteArray):Nat→List ByteArray
 | 0=>[]
 | 1=>l1
 | _+2=>l1++l2
theorem sl_Concat(l1 l2:List ByteArray)(A1 A2:Option Addr)(n1 c1 n2 c2 g:Nat)(w:World)(h1:SlN w A1 n1 c1 l1)(h2:SlN w A2 n2 c2 l2)(hn1:n1≤1000000)(hn2:n2≤1000000)(g0:w.cell? ⟨g,0,none⟩=some (.slice A1 n1 c1))(g1:w.cell? ⟨g,1,none⟩=some (.slice A2 n2 c2)) :
 Calls Tryz.prog 122 #[.slice (some ⟨g,0,none⟩) 2 2] w (RetRow 22 1 (n1+n2) ((l1++l2).map Value.string) w):=by
 have H1:=Hq h1;have H2:=Hq h2;have hc1:=h1.2.1;have hc2:=h2.2.1;have hm1:=h1.2.2.1;have hm2:=h2.2.2.1;have G0:=Hq g0;have G1:=Hq g1;clear h1 h2 g0 g1;go_enter Tryz.func122,Tryz.ntmps122;go_wp2
 go_loop [3,11] (fun s i=>∃ j:Nat,j≤2∧i=.int .i64 j∧s=.int .i64 (cnt n1 n2 j)) (fun _ i=>2 - (intOf i).toNat)
 case atStart=>exact⟨0,by omega,rfl,rfl⟩
 case round =>
  obtain⟨j,hj,rfl,rfl⟩:=hrel
  match j,hj with
  | 0,_ =>
   have g0:=G0.out;simp only[cnt,Int.natCast_zero];go_wp2;go_round;case rel=>exact⟨1,by omega,by go_num,by simp only[cnt]⟩
   case measure=>simp[intOf]
  | 1,_ =>
   have g1:=G1.out;simp only[cnt];go_wp2;go_round;case rel=>exact⟨2,by omega,by go_num,by simp only[cnt];go_num⟩
   case measure=>simp[intOf]
  | 2,_ =>
   simp only[cnt];go_wp2_with fail;refine(sl_Grow (n1+n2) w (by omega)).mono ?_;rintro e w1 ⟨v,rfl,hown,hb⟩;have HO1:=Hq hown;have HB1:=Hq hb;clear hown hb;go_wp2;go_loopw [6,27] (fun v i wr=>∃ j:Nat,j≤2∧i=.int .i64 j∧wr.ownsRow w.heap.size 22 1 v (cnt n1 n2 j) ((lst l1 l2 j).map Value.string)∧Below w.heap.size w wr) (fun _ i _=>2 - (intOf i).toNat);case atStart=>exact⟨0,by omega,rfl,HO1.out,HB1.out⟩
   case round =>
    obtain⟨j,hj,rfl,hown,hbb⟩:=hrel;have HB:=Hq hbb;clear hbb
    match j,hj with
    | 0,_ =>
     have g0:=kc HB.out G0.out;simp only[Int.natCast_zero];have HA1:=Hq hown;clear hown
     cases A1 with
     | none =>
      have h0:n1=0:=by
       rcases Nat.eq_zero_or_pos n1 with h | h
       · exact h
       · obtain⟨b,o,e⟩:=H1.out.head h;cases e
      have hl:l1=[]:=List.length_eq_zero_iff.1 (by rw[H1.out.1,h0]);have H0:=Hq h0;have HL:=Hq hl;clear h0 hl;obtain⟨A6,m6,c6,hu6⟩:∃ A m c,u6=.slice A m c:=by
       rcases HA1.out.2 with⟨h,_⟩ | ⟨g,c,_,h,_⟩
       · exact⟨_,_,_,h⟩
       · exact⟨_,_,_,h⟩
      have hmc:m6≤c6:=by
       rcases HA1.out.2 with⟨h,_⟩ | ⟨g,c,_,h,_,_,h2,_⟩
       · rw[hu6]at h;cases h;exact Nat.le_refl _
       · rw[hu6]at h;cases h;exact h2
      obtain⟨i0,hi,iz0,iz1,iz2⟩:=info_parts nat_info;go_wp2_with (at_builtin;refine wpList_append_none _ rfl (.tmp 31) (.tmp 32) 25 rfl 22 i0 Tryz.underlying25 hi _ _ _ hu6 hmc c1 (congrArg (fun n=>Value.slice none n c1) H0.out) ?_);rw[←hu6];clear hu6;have HO7:=Hq (show wr.ownsRow w.heap.size 22 1 u6 (cnt n1 n2 (0+1)) ((lst l1 l2 (0+1)).map Value.string)from by have:=HA1.out;have h0:=H0.out;have hl:=HL.out;simp only[cnt,lst,hl,h0]at this⊢;simpa using this);have HB7:=Hq HB.out;clear hi iz0 iz1 iz2;go_wp2;go_roundw;case rel=>exact⟨0+1,by omega,by go_num,HO7.out,HB7.out⟩
      case measure=>simp[intOf]
     | some ad =>
      have HC:=Hq (H1.out.kept HB.out nlr).cells;have HV:=Hq (show (l1.map Value.string).length=n1 * 1 from by rw[List.length_map,H1.out.1,Nat.mul_one]);obtain⟨i0,hi,iz0,iz1,iz2⟩:=info_parts nat_info;go_wp2_with (at_builtin;refine wpList_append_own _ rfl (.tmp 31) (.tmp 32) 25 rfl w.heap.size 22 i0 _ 1 16 Tryz.underlying25 hi iz0 iz1 iz2 rfl (by decide) _ (cnt n1 n2 0) _ rfl HA1.out ad n1 c1 (l1.map Value.string) rfl ?h1 ?h2 (strs_one _) ?h4 ?h5 ?h6 ?_);case h1=>exact HV.out
      case h2=>exact HC.out
      case h4=>simp only[cnt];unfold maxLen;omega
      case h5=>simp only[cnt];omega
      case h6=>exact HB.out.size
      intro v' w' hown hgrow _;have HB7:=Hq (HB.out.grown hgrow HB.out.size (fun k hk=>(HA1.out.lt k hk).1));have HO7:=Hq (show w'.ownsRow w.heap.size 22 1 v' (cnt n1 n2 (0+1)) ((lst l1 l2 (0+1)).map Value.string)from by have:=hown;simp only[cnt,lst]at this⊢;simpa using this);clear hown hgrow hi iz0 iz1 iz2;go_wp2;go_roundw;case rel=>exact⟨0+1,by omega,by go_num,HO7.out,HB7.out⟩
      case measure=>simp[intOf]
    | 1,_ =>
     have g1:=kc HB.out G1.out;simp only[Int.natCast_one];have HA1:=Hq hown;clear hown
     cases A2 with
     | none =>
      have h0:n2=0:=by
       rcases Nat.eq_zero_or_pos n2 with h | h
       · exact h
       · obtain⟨b,o,e⟩:=H2.out.head h;cases e
      have hl:l2=[]:=List.length_eq_zero_iff.1 (by rw[H2.out.1,h0]);have H0:=Hq h0;have HL:=Hq hl;clear h0 hl;obtain⟨A6,m6,c6,hu6⟩:∃ A m c,u6=.slice A m c:=by
       rcases HA1.out.2 with⟨h,_⟩ | ⟨g,c,_,h,_⟩
       · exact⟨_,_,_,h⟩
       · exact⟨_,_,_,h⟩
      have hmc:m6≤c6:=by
       rcases HA1.out.2 with⟨h,_⟩ | ⟨g,c,_,h,_,_,h2,_⟩
       · rw[hu6]at h;cases h;exact Nat.le_refl _
       · rw[hu6]at h;cases h;exact h2
      obtain⟨i0,hi,iz0,iz1,iz2⟩:=info_parts nat_info;go_wp2_with (at_builtin;refine wpList_append_none _ rfl (.tmp 31) (.tmp 32) 25 rfl 22 i0 Tryz.underlying25 hi _ _ _ hu6 hmc c2 (congrArg (fun n=>Value.slice none n c2) H0.out) ?_);rw[←hu6];clear hu6;have HO7:=Hq (show wr.ownsRow w.heap.size 22 1 u6 (cnt n1 n2 (1+1)) ((lst l1 l2 (1+1)).map Value.string)from by have:=HA1.out;have h0:=H0.out;have hl:=HL.out;simp only[cnt,lst,hl,h0]at this⊢;simpa using this);have HB7:=Hq HB.out;clear hi iz0 iz1 iz2;go_wp2;go_roundw;case rel=>exact⟨1+1,by omega,by go_num,HO7.out,HB7.out⟩
      case measure=>simp[intOf]
     | some ad =>
      have HC:=Hq (H2.out.kept HB.out nlr).cells;have HV:=Hq (show (l2.map Value.string).length=n2 * 1 from by rw[List.length_map,H2.out.1,Nat.mul_one]);obtain⟨i0,hi,iz0,iz1,iz2⟩:=info_parts nat_info;go_wp2_with (at_builtin;refine wpList_append_own _ rfl (.tmp 31) (.tmp 32) 25 rfl w.heap.size 22 i0 _ 1 16 Tryz.underlying25 hi iz0 iz1 iz2 rfl (by decide) _ (cnt n1 n2 1) _ rfl HA1.out ad n2 c2 (l2.map Value.string) rfl ?h1 ?h2 (strs_one _) ?h4 ?h5 ?h6 ?_);case h1=>exact HV.out
      case h2=>exact HC.out
      case h4=>simp only[cnt];unfold maxLen;omega
      case h5=>simp only[cnt];omega
      case h6=>exact HB.out.size
      intro v' w' hown hgrow _;have HB7:=Hq (HB.out.grown hgrow HB.out.size (fun k hk=>(HA1.out.lt k hk).1));have HO7:=Hq (show w'.ownsRow w.heap.size 22 1 v' (cnt n1 n2 (1+1)) ((lst l1 l2 (1+1)).map Value.string)from by have:=hown;simp only[cnt,lst]at this⊢;simpa using this);clear hown hgrow hi iz0 iz1 iz2;go_wp2;go_roundw;case rel=>exact⟨1+1,by omega,by go_num,HO7.out,HB7.out⟩
      case measure=>simp[intOf]
    | 2,_ =>
     have HO:=Hq (show wr.ownsRow w.heap.size 22 1 u6 (n1+n2) ((l1++l2).map Value.string)from hown);clear hown;go_wp2;go_ret;exact⟨_,rfl,HO.out,HB.out⟩
set_option maxRecDepth 100000
set_option maxHeartbeats 1000000
open Go.RowKit
def memB(l:List ByteArray)(x:ByteArray):Bool:=l.any (fun y=>x.toList==y.toList)
theorem any_take{l:List ByteArray}{p:ByteArray→Bool}(h:∀(i:Nat) y,l[i]? =some y→p y=false):l.any p=false:=by
 rw[List.any_eq_false];intro y hy;obtain⟨i,hi⟩:=List.getElem?_of_mem hy;simp[h i y hi]
theorem any_at{l:List ByteArray}{p:ByteArray→Bool}{i:Nat}{y:ByteArray}(hi:l[i]? =some y)(h:p y=true):l.any p=true:=by
 rw[List.any_eq_true];exact⟨y,List.mem_of_getElem? hi,h⟩
def RetK(b:Bool)(w:World)(e:Ending)(w':World):Prop:=∃ k:Int,e=.returned (.int .i64 k)∧decide (0≤k)=b∧Below w.heap.size w w'
theorem sl_Index(l:List ByteArray)(A:Option Addr)(len cap:Nat)(x:ByteArray)(w:World)(hs:SlN w A len cap l):Calls Tryz.prog 72 #[.slice A len cap,.string x] w (RetK (memB l x) w):=by
 have HS:=Hq hs;have HLEN:=Hq hs.1;have hcap:=hs.2.1;have hcap2:=hs.2.2.1;clear hs;go_enter Tryz.func72,Tryz.ntmps72;go_wp2
 go_loop [8] (fun k=>∃ j:Nat,j≤len∧k=.int .i64 j∧(∀(i:Nat) y,i<j→l[i]? =some y→(x.toList==y.toList)=false)) (fun k=>len - (intOf k).toNat)
 case atStart=>exact⟨0,Nat.zero_le _,rfl,fun i u h=>absurd h (Nat.not_lt_zero _)⟩
 case round =>
  obtain⟨j,hj,rfl,hall⟩:=hrel;have HALL:=Hq hall;clear hall;by_cases hlt:j<len
  · obtain⟨y,he⟩:∃ y,l[j]? =some y:=⟨_,List.getElem?_eq_getElem (by rw[HLEN.out];exact hlt)⟩;obtain⟨b,o,rfl,e1⟩:=HS.out.cell he;have HE:=Hq he;clear he
    cases hh:(x.toList==y.toList)with
    | true =>
     have HM:=Hq (any_at (p:=fun y=>x.toList==y.toList) HE.out hh);go_wp2;go_ret;exact⟨j,rfl,by unfold memB;rw[HM.out];exact decide_eq_true (by omega),Below.refl _ _⟩
    | false =>
     have HA2:=Hq (show ∀(i:Nat) y,i<j+1→l[i]? =some y→(fun y=>x.toList==y.toList) y=false from fun i u hi hu=>by
      rcases Nat.lt_or_ge i j with a | a
      · exact HALL.out i u a hu
      · obtain rfl:i=j:=by omega
        rw[HE.out]at hu;cases hu
        exact hh)
     go_wp2;go_round;case rel=>exact⟨j+1,by omega,by go_num,HA2.out⟩
     case measure=>simp[intOf];omega
  · obtain rfl:j=len:=by omega
    have HM:=Hq (show memB l x=false from any_take (fun i y h=>HALL.out i y (by have:=(List.getElem?_eq_some_iff.1 h).1;have:=HLEN.out;omega) h));clear hlt hj;go_wp2;go_ret;exact⟨-1,rfl,by rw[HM.out];rfl,Below.refl _ _⟩
theorem sl_Contains(l:List ByteArray)(A:Option Addr)(len cap:Nat)(x:ByteArray)(w:World)(hs:SlN w A len cap l):Calls Tryz.prog 43 #[.slice A len cap,.string x] w (Ret (.bool (memB l x)) w):=by
 have HC:=Hq (sl_Index l A len cap x w hs);clear hs;go_enter Tryz.func43,Tryz.ntmps43;go_wp2_with fail;refine HC.out.mono ?_;rintro e w1 ⟨k,rfl,hk,hb⟩;have HK:=Hq hk;have HB:=Hq hb;clear hk hb;go_wp2;go_ret;exact⟨by rw[←HK.out];rfl,HB.out⟩
theorem sl_IndexFunc1(l:List ByteArray)(A:Option Addr)(len cap B:Nat)(p:ByteArray→Bool)(w:World)(hs:SlN w A len cap l)(hp:∀ x∈l,∀ W,Below w.heap.size w W→Calls Tryz.prog 125 #[.string x,.pointer (some ⟨B,0,none⟩)] W (Ret (.bool (p x)) W)) :
 Calls Tryz.prog 143 #[.slice A len cap,.func (.func 125) #[] #[.pointer (some ⟨B,0,none⟩)]] w (RetK (l.any p) w):=by
 have HS:=Hq hs;have HP:=Hq hp;have HLEN:=Hq hs.1;have hcap:=hs.2.1;have hcap2:=hs.2.2.1;clear hs hp;go_enter Tryz.func143,Tryz.ntmps143;go_wp2;go_loopw [8] (fun k wr=>∃ j:Nat,j≤len∧k=.int .i64 j∧(∀(i:Nat) y,i<j→l[i]? =some y→p y=false)∧Below w.heap.size w wr) (fun k _=>len - (intOf k).toNat);case atStart=>exact⟨0,Nat.zero_le _,rfl,fun i u h=>absurd h (Nat.not_lt_zero _),Below.refl _ _⟩
 case round =>
  obtain⟨j,hj,rfl,hall,hB⟩:=hrel;have HALL:=Hq hall;have HB:=Hq hB;clear hall hB;by_cases hlt:j<len
  · obtain⟨y,he⟩:∃ y,l[j]? =some y:=⟨_,List.getElem?_eq_getElem (by rw[HLEN.out];exact hlt)⟩;obtain⟨b,o,rfl,e0⟩:=HS.out.cell he;have e1:=kc HB.out e0;have HC:=Hq (HP.out y (List.mem_of_getElem? he) wr HB.out);have HE:=Hq he;clear he e0;go_wp2_with fail;refine HC.out.mono ?_;rintro e w1 ⟨rfl,hb1⟩;have HB1:=bTr HB hb1;clear hb1
    cases hh:p y with
    | true =>
     have HM:=Hq (any_at HE.out hh);clear hh;go_wp2;go_ret;exact⟨j,rfl,by rw[HM.out];exact decide_eq_true (by omega),HB1.out⟩
    | false =>
     have HA2:=Hq (show ∀(i:Nat) y,i<j+1→l[i]? =some y→p y=false from fun i u hi hu=>by
      rcases Nat.lt_or_ge i j with a | a
      · exact HALL.out i u a hu
      · obtain rfl:i=j:=by omega
        rw[HE.out]at hu;cases hu
        exact hh)
     clear hh;go_wp2;go_roundw;case rel=>exact⟨j+1,by omega,by go_num,HA2.out,HB1.out⟩
     case measure=>simp[intOf];omega
  · obtain rfl:j=len:=by omega
    have HM:=Hq (show l.any p=false from any_take (fun i y h=>HALL.out i y (by have:=(List.getElem?_eq_some_iff.1 h).1;have:=HLEN.out;omega) h));clear hlt hj;go_wp2;go_ret;exact⟨-1,rfl,by rw[HM.out];rfl,HB.out⟩
theorem sl_ContainsFunc1(l:List ByteArray)(A:Option Addr)(len cap B:Nat)(p:ByteArray→Bool)(w:World)(hs:SlN w A len cap l)(hp:∀ x∈l,∀ W,Below w.heap.size w W→Calls Tryz.prog 125 #[.string x,.pointer (some ⟨B,0,none⟩)] W (Ret (.bool (p x)) W)) :
 Calls Tryz.prog 124 #[.slice A len cap,.func (.func 125) #[] #[.pointer (some ⟨B,0,none⟩)]] w (Ret (.bool (l.any p)) w):=by
 have HC:=Hq (sl_IndexFunc1 l A len cap B p w hs hp);clear hs hp;go_enter Tryz.func124,Tryz.ntmps124;go_wp2_with fail;refine HC.out.mono ?_;rintro e w1 ⟨k,rfl,hk,hb⟩;have HK:=Hq hk;have HB:=Hq hb;clear hk hb;go_wp2;go_ret;exact⟨by rw[←HK.out];rfl,HB.out⟩
theorem sl_IndexFunc2(l:List ByteArray)(A:Option Addr)(len cap B:Nat)(p:ByteArray→Bool)(w:World)(hs:SlN w A len cap l)(hp:∀ x∈l,∀ W,Below w.heap.size w W→Calls Tryz.prog 126 #[.string x,.pointer (some ⟨B,0,none⟩)] W (Ret (.bool (p x)) W)) :
 Calls Tryz.prog 143 #[.slice A len cap,.func (.func 126) #[] #[.pointer (some ⟨B,0,none⟩)]] w (RetK (l.any p) w):=by
 have HS:=Hq hs;have HP:=Hq hp;have HLEN:=Hq hs.1;have hcap:=hs.2.1;have hcap2:=hs.2.2.1;clear hs hp;go_enter Tryz.func143,Tryz.ntmps143;go_wp2;go_loopw [8] (fun k wr=>∃ j:Nat,j≤len∧k=.int .i64 j∧(∀(i:Nat) y,i<j→l[i]? =some y→p y=false)∧Below w.heap.size w wr) (fun k _=>len - (intOf k).toNat);case atStart=>exact⟨0,Nat.zero_le _,rfl,fun i u h=>absurd h (Nat.not_lt_zero _),Below.refl _ _⟩
 case round =>
  obtain⟨j,hj,rfl,hall,hB⟩:=hrel;have HALL:=Hq hall;have HB:=Hq hB;clear hall hB;by_cases hlt:j<len
  · obtain⟨y,he⟩:∃ y,l[j]? =some y:=⟨_,List.getElem?_eq_getElem (by rw[HLEN.out];exact hlt)⟩;obtain⟨b,o,rfl,e0⟩:=HS.out.cell he;have e1:=kc HB.out e0;have HC:=Hq (HP.out y (List.mem_of_getElem? he) wr HB.out);have HE:=Hq he;clear he e0;go_wp2_with fail;refine HC.out.mono ?_;rintro e w1 ⟨rfl,hb1⟩;have HB1:=bTr HB hb1;clear hb1
    cases hh:p y with
    | true =>
     have HM:=Hq (any_at HE.out hh);clear hh;go_wp2;go_ret;exact⟨j,rfl,by rw[HM.out];exact decide_eq_true (by omega),HB1.out⟩
    | false =>
     have HA2:=Hq (show ∀(i:Nat) y,i<j+1→l[i]? =some y→p y=false from fun i u hi hu=>by
      rcases Nat.lt_or_ge i j with a | a
      · exact HALL.out i u a hu
      · obtain rfl:i=j:=by omega
        rw[HE.out]at hu;cases hu
        exact hh)
     clear hh;go_wp2;go_roundw;case rel=>exact⟨j+1,by omega,by go_num,HA2.out,HB1.out⟩
     case measure=>simp[intOf];omega
  · obtain rfl:j=len:=by omega
    have HM:=Hq (show l.any p=false from any_take (fun i y h=>HALL.out i y (by have:=(List.getElem?_eq_some_iff.1 h).1;have:=HLEN.out;omega) h));clear hlt hj;go_wp2;go_ret;exact⟨-1,rfl,by rw[HM.out];rfl,HB.out⟩
theorem sl_ContainsFunc2(l:List ByteArray)(A:Option Addr)(len cap B:Nat)(p:ByteArray→Bool)(w:World)(hs:SlN w A len cap l)(hp:∀ x∈l,∀ W,Below w.heap.size w W→Calls Tryz.prog 126 #[.string x,.pointer (some ⟨B,0,none⟩)] W (Ret (.bool (p x)) W)) :
 Calls Tryz.prog 124 #[.slice A len cap,.func (.func 126) #[] #[.pointer (some ⟨B,0,none⟩)]] w (Ret (.bool (l.any p)) w):=by
 have HC:=Hq (sl_IndexFunc2 l A len cap B p w hs hp);clear hs hp;go_enter Tryz.func124,Tryz.ntmps124;go_wp2_with fail;refine HC.out.mono ?_;rintro e w1 ⟨k,rfl,hk,hb⟩;have HK:=Hq hk;have HB:=Hq hb;clear hk hb;go_wp2;go_ret;exact⟨by rw[←HK.out];rfl,HB.out⟩
theorem ep_form1(x:ByteArray)(B:Nat)(l:List ByteArray)(A:Option Addr)(n c:Nat)(w:World)(hB:w.cell? ⟨B,3,none⟩=some (.slice A n c))(hs:SlN w A n c l):Calls Tryz.prog 125 #[.string x,.pointer (some ⟨B,0,none⟩)] w (Ret (.bool (memB l x)) w):=by
 have HC:=Hq (sl_Contains l A n c x w hs);clear hs;go_enter Tryz.func125,Tryz.ntmps125;go_wp2_with fail;refine HC.out.mono ?_;rintro e w1 ⟨rfl,hb⟩;have HB:=Hq hb;clear hb hB;go_wp2;go_ret;exact⟨rfl,HB.out⟩
theorem ep_form2(x:ByteArray)(B:Nat)(t:ByteArray)(w:World)(hB:w.cell? ⟨B,0,none⟩=some (.string t))(hx:nvalid x=true)(ht:nvalid t=true):Calls Tryz.prog 126 #[.string x,.pointer (some ⟨B,0,none⟩)] w (Ret (.bool (decide (num x<num t))) w):=by
 have HC:=Hq (nat_Cmp x t (by have:=size_valid hx;omega) (by have:=size_valid ht;omega) w);rw[ncmp_num hx ht]at HC;have HD:=Hq (show decide (cmpI (num x) (num t)<0)=decide (num x<num t)from decide_eq_decide.2 cmpI_neg);obtain⟨cc,hcc⟩:=nm (cmpI (num x) (num t));rw[hcc]at HC HD;clear hcc hx ht;go_enter Tryz.func126,Tryz.ntmps126;go_wp2_with fail;refine HC.out.mono ?_;rintro e w1 ⟨rfl,rfl⟩;go_wp2;go_ret;exact⟨by rw[←HD.out];rfl,Below.refl _ _⟩
open Go.RowKit
theorem num_posV{x:ByteArray}(hv:nvalid x=true)(h:x≠⟨#[]⟩):0<num x:=by
 rcases Nat.eq_zero_or_pos (num x)with e | e
 · exact absurd ((nS_num hv).trans (by rw[e];rfl)) h
 · exact e
def rdyR(M O:ByteArray)(els hs:List ByteArray):Int:=
 if (nvalid M&&nvalid O&&els.all nvalid&&hs.all nvalid)=false then 3 else if chkK M O≠0 then chkK M O else if els.all (fun x=>hasN (num M) (num O) (num x))=false then 13 else if memB hs ⟨#[]⟩=true then 11 else 0
theorem rdy_zero{M O:ByteArray}{els hs:List ByteArray}(h:rdyR M O els hs=0):nvalid M=true∧nvalid O=true∧els.all nvalid=true∧hs.all nvalid=true∧chkK M O=0∧els.all (fun x=>hasN (num M) (num O) (num x))=true∧memB hs ⟨#[]⟩=false:=by
 unfold rdyR at h;by_cases h1:(nvalid M&&nvalid O&&els.all nvalid&&hs.all nvalid)=false
 · rw[if_pos h1]at h;cases h
 · rw[if_neg h1]at h;rw[Bool.not_eq_false,Bool.and_eq_true,Bool.and_eq_true,Bool.and_eq_true]at h1;by_cases h2:chkK M O=0
   · rw[if_neg (fun c=>c h2)]at h
     cases h3:els.all (fun x=>hasN (num M) (num O) (num x))with
     | false=>rw[h3]at h;cases h
     | true =>
      rw[h3,if_neg (by decide)]at h
      cases h4:memB hs ⟨#[]⟩with
      | true=>rw[h4]at h;cases h
      | false=>exact⟨h1.1.1.1,h1.1.1.2,h1.1.2,h1.2,h2,rfl,rfl⟩
   · rw[if_pos h2]at h;exact absurd h h2
def nzB(s:ByteArray):Bool:=!s.toList.isEmpty
theorem nzB_t{s:ByteArray}(h:nzB s=true):s.toList.isEmpty=false:=by unfold nzB at h;cases e:s.toList.isEmpty<;>simp_all
theorem nzB_f{s:ByteArray}(h:nzB s=false):s.toList.isEmpty=true:=by unfold nzB at h;cases e:s.toList.isEmpty<;>simp_all
theorem memB_nz(l:List ByteArray):memB l ⟨#[]⟩ = !(l.all nzB):=by
 induction l with
 | nil=>rfl
 | cons a l ih =>
  unfold memB at ih⊢;rw[List.any_cons,List.all_cons,ih,Bool.not_and];congr 1;unfold nzB;rw[Bool.not_not];have e:(⟨#[]⟩:ByteArray).toList=[]:=by rw[ByteArray.toList_eq]
  rw[e];cases a.toList<;>rfl
theorem rdy_form{M O:ByteArray}{els hs:List ByteArray}(h:(nvalid M&&nvalid O&&els.all nvalid&&hs.all nvalid)=false):rdyR M O els hs=3:=by unfold rdyR;rw[if_pos h]
theorem rdy_chk{M O:ByteArray}{els hs:List ByteArray}(h:(nvalid M&&nvalid O&&els.all nvalid&&hs.all nvalid)=true)(h2:chkK M O≠0):rdyR M O els hs=chkK M O:=by unfold rdyR;rw[h,if_neg (by decide),if_pos h2]
theorem rdy_has{M O:ByteArray}{els hs:List ByteArray}(h:(nvalid M&&nvalid O&&els.all nvalid&&hs.all nvalid)=true)(h2:chkK M O=0)(h3:els.all (fun x=>hasN (num M) (num O) (num x))=false):rdyR M O els hs=13:=by unfold rdyR;rw[h,if_neg (by decide),if_neg (fun c=>c h2),h3,if_pos rfl]
theorem rdy_nz{M O:ByteArray}{els hs:List ByteArray}(h:(nvalid M&&nvalid O&&els.all nvalid&&hs.all nvalid)=true)(h2:chkK M O=0)(h3:els.all (fun x=>hasN (num M) (num O) (num x))=true):rdyR M O els hs=if hs.all nzB=true then 0 else 11:=by
 unfold rdyR;rw[h,if_neg (by decide),if_neg (fun c=>c h2),h3,if_neg (by decide),memB_nz];cases hs.all nzB<;>rfl
theorem pr_one{M O a:ByteArray}(va:nvalid a=true)(hc:chkK M O=0)(ha:hasN (num M) (num O) (num a)=true){x:Int}(hx:x.natAbs<256 ^ 128) :
 prR M O [a] [(decide (x<0),nS x.natAbs)]=.tuple #[.string (nS (pz (num M) (num a) x)),.int .i64 0]:=by
 unfold prR;rw[if_pos (show ckR M O [a] [(decide (x<0),nS x.natAbs)] (decide ([a].length=[(decide (x<0),nS x.natAbs)].length))=0 from cka_one va (zvalid_all hx) hc ha)];have e:prV (num M) [a] [(decide (x<0),nS x.natAbs)]=pz (num M) (num a) x:=by
  show baseN (num a) (decide (x<0)) (num M) ^ (num (nS x.natAbs) / 2 ^ 0) * 1%num M=_;rw[num_nS,Nat.pow_zero,Nat.div_one,Nat.mul_one];rfl
 rw[e]
def ikC(N M O Z S:ByteArray)(A:Option Addr)(n c:Nat)(U H:ByteArray):Array Value:=#[.string N,.string M,.string O,.string Z,.string S,.slice A n c,.string U,.string H]
end Go.Proofs.YtmahgbhpdfbbjaaGreatDoor

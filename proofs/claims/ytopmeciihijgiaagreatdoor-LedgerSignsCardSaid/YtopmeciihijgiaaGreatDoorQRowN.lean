import Derived.Test.YtopmeciihijgiaaGreatDoorQNatB
import Derived.Test.YtopmeciihijgiaaGreatDoorQShelf
import Derived.BigQuiet
import Derived.Deep.AppendLies
set_option linter.unusedVariables false
set_option linter.unusedSimpArgs false
namespace Go.Proofs.YtopmeciihijgiaaGreatDoor
set_option maxRecDepth 100000
set_option maxHeartbeats 400000
open Go.RowKit
theorem compareBytes_ord{l m:List UInt8}(h:l.length=m.length):Lib.compareBytes l m=cmpI (bnat l) (bnat m):=by
 induction l generalizing m with
 | nil=>cases m with
  | nil=>rfl
  | cons y m=>simp at h
 | cons x l ih=>cases m with
  | nil=>simp at h
  | cons y m =>
   have hl:l.length=m.length:=by simpa using h
   unfold Lib.compareBytes;by_cases h1:x<y
   · have:=bnat_lt_first (p:=[]) (a:=l) (b:=m) hl (UInt8.lt_iff_toNat_lt.1 h1);rw[List.nil_append,List.nil_append]at this;rw[if_pos h1,cmpI_lt this]
   · rw[if_neg h1];by_cases h2:y<x
     · have:=bnat_lt_first (p:=[]) (a:=m) (b:=l) hl.symm (UInt8.lt_iff_toNat_lt.1 h2);rw[List.nil_append,List.nil_append]at this;rw[if_pos h2,cmpI_gt this]
     · rw[if_neg h2,ih hl];have : x=y:=by
        apply UInt8.toNat_inj.1;rw[UInt8.lt_iff_toNat_lt]at h1 h2;omega
       subst this;rw[bnat_cons,bnat_cons,hl];unfold cmpI;simp
def ordB(a b:ByteArray):Int:=ordL a.data.toList b.data.toList
theorem ordB_ne{a b:ByteArray}(h:a.size≠b.size):ordB a b=Lib.compareInt a.size b.size:=by
 unfold ordB ordL Lib.compareInt;rw[data_len,data_len];by_cases h1:a.size<b.size
 · rw[if_pos h1,if_pos (by omega)]
 · rw[if_neg h1,if_pos (by omega),if_neg (by omega),if_pos (by omega)]
theorem ordB_eq{a b:ByteArray}(h:a.size=b.size):ordB a b=Lib.compareBytes a.data.toList b.data.toList:=by
 unfold ordB ordL;rw[data_len,data_len,if_neg (by omega),if_neg (by omega),compareBytes_ord (by rw[data_len,data_len,h])]
theorem compareInt_ne{x y:Int}(h:x≠y):(Lib.compareInt x y != 0)=true:=by
 unfold Lib.compareInt;split
 · rfl
 · rw[if_pos (by omega)];rfl
theorem nat_compare(a b:ByteArray)(ha:a.size≤9223372036854775807)(hb:b.size≤9223372036854775807)(w:World) :
 Calls Tryz.prog 75 #[.string a,.string b] w (RetQ (.int .i64 (ordB a b)) w):=by
 by_cases h:a.size=b.size
 · have H:=Hq h;rw[ordB_eq h];have hc:Lib.compareInt a.size b.size=0:=by unfold Lib.compareInt;rw[h];simp
   have HC:=Hq hc;clear h hc;go_enter Tryz.func75,Tryz.ntmps75;go_wp2_with fail;refine(Tryz.cmp_Compare_int _ _ _).mono ?_;rintro e w1 ⟨rfl,rfl⟩;rw[HC.out];go_wp2_with fail;refine(Tryz.strings_Compare _ _ _).mono ?_;rintro e w1 ⟨rfl,rfl⟩;go_wp2;go_ret;exact⟨rfl,rfl⟩
 · rw[ordB_ne h];have hc:=compareInt_ne (x:=a.size) (y:=b.size) (by omega);clear h;go_enter Tryz.func75,Tryz.ntmps75;go_wp2_with fail;refine(Tryz.cmp_Compare_int _ _ _).mono ?_;rintro e w1 ⟨rfl,rfl⟩;go_wp2;go_ret;exact⟨rfl,rfl⟩
def ncmp(a b:ByteArray):Int:=if nvalid a&&nvalid b then ordB a b else 0
theorem nat_Cmp(a b:ByteArray)(ha:a.size≤9223372036854775807)(hb:b.size≤9223372036854775807)(w:World) :
 Calls Tryz.prog 29 #[.string a,.string b] w (RetQ (.int .i64 (ncmp a b)) w):=by
 cases h1:nvalid a with
 | false =>
  have hn:ncmp a b=0:=by simp[ncmp,h1]
  rw[hn];have H1:=Hq h1;clear h1 hn;go_enter Tryz.func29,Tryz.ntmps29;go_wp2_with fail;refine(nat_Valid _ ha _).mono ?_;rintro e w1 ⟨rfl,rfl⟩;rw[H1.out];go_wp2;go_ret;exact⟨rfl,rfl⟩
 | true=>cases h2:nvalid b with
  | false =>
   have hn:ncmp a b=0:=by simp[ncmp,h2]
   rw[hn];have H1:=Hq h1;have H2:=Hq h2;clear h1 h2 hn;go_enter Tryz.func29,Tryz.ntmps29;go_wp2_with fail;refine(nat_Valid _ ha _).mono ?_;rintro e w1 ⟨rfl,rfl⟩;rw[H1.out];go_wp2_with fail;refine(nat_Valid _ hb _).mono ?_;rintro e w1 ⟨rfl,rfl⟩;rw[H2.out];go_wp2;go_ret;exact⟨rfl,rfl⟩
  | true =>
   have hn:ncmp a b=ordB a b:=by simp[ncmp,h1,h2]
   rw[hn];have H1:=Hq h1;have H2:=Hq h2;clear h1 h2 hn;go_enter Tryz.func29,Tryz.ntmps29;go_wp2_with fail;refine(nat_Valid _ ha _).mono ?_;rintro e w1 ⟨rfl,rfl⟩;rw[H1.out];go_wp2_with fail;refine(nat_Valid _ hb _).mono ?_;rintro e w1 ⟨rfl,rfl⟩;rw[H2.out];go_wp2_with fail;refine(nat_compare _ _ ha hb _).mono ?_;rintro e w1 ⟨rfl,rfl⟩;go_wp2;go_ret;exact⟨rfl,rfl⟩
theorem take_step{l m:List UInt8}{k:Nat}(hl:l.length=m.length)(h:l.take k=m.take k)(hk:k<l.length)(he:l.getD k 0=m.getD k 0):l.take (k+1)=m.take (k+1):=by
 rw[List.take_succ_eq_append_getElem hk,List.take_succ_eq_append_getElem (by omega),h];have e:l[k]=m[k]:=by
  rw[List.getD_eq_getElem?_getD,List.getD_eq_getElem?_getD,List.getElem?_eq_getElem hk,List.getElem?_eq_getElem (by omega)]at he;exact he
 rw[e]
theorem r01_Order(a b:ByteArray)(ha:a.size≤9223372036854775807)(hb:b.size≤9223372036854775807)(w:World) :
 Calls Tryz.prog 103 #[.string a,.string b] w (Ret (.int .i64 (ordB a b)) w):=by
 by_cases h:a.size=b.size
 · have hl:a.data.toList.length=b.data.toList.length:=by rw[data_len,data_len,h]
   have HL:=Hq hl;have H:=Hq h;have hne:((a.size:Int) != (b.size:Int))=false:=by rw[h];simp
   have h1:a.size≤b.size:=by omega
   have h2:b.size≤a.size:=by omega
   clear h hl;go_enter Tryz.func103,Tryz.ntmps103;go_wp2;go_loopw [5] (fun i wr=>∃ k:Nat,k≤a.size∧i=.int .i64 k∧a.data.toList.take k=b.data.toList.take k∧Below w.heap.size w wr) (fun i _=>a.size - (intOf i).toNat);case atStart=>exact⟨0,Nat.zero_le _,rfl,rfl,Below.refl _ _⟩
   case round =>
    obtain⟨k,hk,rfl,he,hB⟩:=hrel;have HE:=Hq he;have HB:=Hq hB;clear he hB;by_cases hlt:k<a.size
    · have hlt2:k<b.size:=by omega
      by_cases hx:(a[k].toNat:Int)=b[k].toNat
      · have hx2:((a[k].toNat:Int) != b[k].toNat)=false:=by rw[hx];simp
        have HX:=Hq hx;clear hx;go_wp2
        go_quiet (fail)
        go_wp2;go_roundw;case rel=>exact⟨k+1,by omega,by go_num,take_step HL.out HE.out (by rw[data_len];exact hlt) (by rw[data_getD _ _ hlt,data_getD _ _ hlt2];exact UInt8.toNat_inj.1 (by have:=HX.out;omega)),below_drewN HB.out _⟩
        case measure=>simp[intOf];omega
      · have hx2:((a[k].toNat:Int) != b[k].toNat)=true:=by rw[bne_iff_ne];exact hx
        by_cases hy:(a[k].toNat:Int)<b[k].toNat
        · have hr:=(ordL_first (k:=k) HL.out (by rw[data_len];exact hlt) HE.out (by rw[data_getD _ _ hlt,data_getD _ _ hlt2];omega)).1;have hn:ordB a b = -1:=hr;rw[hn];clear hr hn hx;go_wp2
          go_quiet (fail)
          go_wp2
          go_quiet (fail)
          go_wp2;go_ret;exact⟨rfl,below_drewN (below_drewN HB.out _) _⟩
        · have hr:=(ordL_first (k:=k) HL.out.symm (by rw[data_len];exact hlt2) HE.out.symm (by rw[data_getD _ _ hlt,data_getD _ _ hlt2];omega)).2;have hn:ordB a b=1:=hr;rw[hn];clear hr hn hx;go_wp2
          go_quiet (fail)
          go_wp2
          go_quiet (fail)
          go_wp2;go_ret;exact⟨rfl,below_drewN (below_drewN HB.out _) _⟩
    · obtain rfl:k=a.size:=by omega
      have hr:ordB a b=0:=ordL_same (by
       have:=HE.out;rw[List.take_of_length_le (by rw[data_len];omega),List.take_of_length_le (by rw[data_len];omega)]at this
       exact this)
      have HR:=Hq hr;clear hr;go_wp2;go_ret;exact⟨by rw[HR.out];rfl,HB.out⟩
 · by_cases h2:a.size<b.size
   · have hn:ordB a b = -1:=by rw[ordB_ne h];unfold Lib.compareInt;rw[if_pos (by omega)]
     rw[hn];have hne:((a.size:Int) != (b.size:Int))=true:=by rw[bne_iff_ne];omega
     clear hn h;go_enter Tryz.func103,Tryz.ntmps103;go_wp2;go_ret;exact⟨rfl,Below.refl _ _⟩
   · have hn:ordB a b=1:=by rw[ordB_ne h];unfold Lib.compareInt;rw[if_neg (by omega),if_pos (by omega)]
     rw[hn];have hne:((a.size:Int) != (b.size:Int))=true:=by rw[bne_iff_ne];omega
     clear hn h;go_enter Tryz.func103,Tryz.ntmps103;go_wp2;go_ret;exact⟨rfl,Below.refl _ _⟩
theorem addr_add(b o j:Nat):(⟨b,o,none⟩:Addr).add j=⟨b,o+j,none⟩:=by unfold Addr.add;split<;>simp_all
def SlN(w:World)(A:Option Addr)(len cap:Nat)(l:List ByteArray):Prop:=
 l.length=len∧len≤cap∧cap≤9223372036854775807∧∃ b o,(0<len→A=some ⟨b,o,none⟩)∧∀ k s,l[k]? =some s→w.cell? ⟨b,o+k,none⟩=some (.string s)
theorem SlN.kept{B:Nat}{w w':World}(hb:Below B w w')(hB:w.heap.size≤B){A:Option Addr}{len cap:Nat}{l:List ByteArray}(h:SlN w A len cap l):SlN w' A len cap l:=
 let ⟨h1,h2,h3,b,o,h4,h5⟩:=h
 ⟨h1,h2,h3,b,o,h4,fun k e hk=>cell_kept hb hB (h5 k e hk)⟩
theorem SlN.head{w:World}{A:Option Addr}{len cap:Nat}{l:List ByteArray}(h:SlN w A len cap l)(h0:0<len):∃ b o,A=some ⟨b,o,none⟩:=
 let ⟨_,_,_,b,o,h4,_⟩:=h
 ⟨b,o,h4 h0⟩
theorem SlN.get?{w:World}{b o len cap:Nat}{l:List ByteArray}(h:SlN w (some ⟨b,o,none⟩) len cap l)(k:Nat){s:ByteArray}(hk:l[k]? =some s):w.cell? ⟨b,o+k,none⟩=some (.string s):=by
 obtain⟨h1,h2,h3,b',o',h4,h5⟩:=h;have hl:=(List.getElem?_eq_some_iff.1 hk).1;have:=h4 (by omega);simp only[Option.some.injEq,Addr.mk.injEq,and_true]at this;obtain⟨rfl,rfl⟩:=this;exact h5 k s hk
theorem SlN.cells{w:World}{ad:Addr}{len cap:Nat}{l:List ByteArray}(h:SlN w (some ad) len cap l):∀ j u,(l.map Value.string)[j]? =some u→w.cell? (ad.add j)=some u:=by
 intro j u hj;rw[List.getElem?_map,Option.map_eq_some_iff]at hj;obtain⟨s,hs,rfl⟩:=hj;have hlt:=(List.getElem?_eq_some_iff.1 hs).1;obtain⟨b,o,e⟩:=h.head (by have:=h.1;omega);cases e;rw[addr_add];exact h.get? j hs
theorem SlN.of_owns{w:World}{base:Nat}{T:TypeId}{v:Value}{n:Nat}{l:List ByteArray}(h:w.ownsRow base T 1 v n (l.map Value.string)):l.length=n∧∃ A cap,v=.slice A n cap∧SlN w A n cap l:=by
 have hl:=h.1;rw[List.length_map]at hl;have hln:l.length=n:=by omega
 refine⟨hln,?_⟩;rcases h.2 with⟨hv,h0⟩ | ⟨g,cap,cur,hv,hb,hh,hc,hm,hs,ht⟩
 · subst h0;have : l=[]:=List.length_eq_zero_iff.1 hln;subst this;exact⟨none,0,hv,rfl,Nat.le_refl _,by omega,0,0,fun h=>by omega,fun k e h=>by simp at h⟩
 · refine⟨_,cap,hv,hln,hc,by unfold maxLen at hm;exact hm,g,0,fun _=>rfl,fun k s hk=>?_⟩;have hcell:=h.cells (g:=g) (by rw[hv];rfl) k (.string s) (by rw[List.getElem?_map,hk];rfl);rw[addr_add]at hcell;exact hcell
theorem SlN.nil(w:World)(cap:Nat)(h:cap≤9223372036854775807)(A:Option Addr):SlN w A 0 cap []:=⟨rfl,Nat.zero_le _,h,0,0,fun h=>by omega,fun k e h=>by simp at h⟩
theorem strs_one(l:List ByteArray):∀ u∈l.map Value.string,u.oneCell'=true:=by
 intro u h;obtain⟨s,_,rfl⟩:=List.mem_map.1 h;rfl
def RetRow(T:TypeId)(size n:Nat)(vs:List Value)(w:World)(e:Ending)(w':World):Prop:=∃ v,e=.returned v∧w'.ownsRow w.heap.size T size v n vs∧Below w.heap.size w w'
def RetNs(l:List ByteArray)(k:IntKind)(f:Int)(w:World)(e:Ending)(w':World):Prop:=∃ A cap,e=.returned (.tuple #[.slice A l.length cap,.int k f])∧SlN w' A l.length cap l∧Below w.heap.size w w'
theorem RetNs.mk'{w w':World}{v:Value}{n B:Nat}{T:TypeId}{l:List ByteArray}{f:Int}(h:w'.ownsRow B T 1 v n (l.map Value.string))(hb:Below w.heap.size w w'):RetNs l .i64 f w (.returned (.tuple #[v,.int .i64 f])) w':=by
 obtain⟨hl,A,cap,rfl,hs⟩:=SlN.of_owns h;subst hl;exact⟨A,cap,rfl,hs,hb⟩
theorem nat_info:(Tryz.prog.info? 22).map (fun i=>(i.zero,i.size,i.bytes))=some (some (.string ⟨#[]⟩),1,16):=by kernel_rfl
theorem below_dN{B:Nat}{w0 w:World}(h:Below B w0 w)(q:Nat):Below B w0 (w.drewN q):=h.trans ⟨rfl,rfl,rfl,Nat.le_refl _,fun _ _=>rfl⟩
theorem sln_alloc(w:World)(l:List ByteArray)(T:TypeId)(h:l.length≤9223372036854775807:=by decide):SlN (w.alloc (.cells (l.map Value.string).toArray T)) (some ⟨w.heap.size,0,none⟩) l.length l.length l:=by
 refine⟨rfl,Nat.le_refl _,h,w.heap.size,0,fun _=>rfl,fun k s hk=>?_⟩;rw[World.cell?_alloc_at (hn:=rfl),Nat.zero_add];simp[hk]
theorem own_alloc(w:World)(l:List ByteArray)(T:TypeId)(B:Nat)(hB:B≤w.heap.size)(h:l.length≤maxLen):(w.alloc (.cells (l.map Value.string).toArray T)).ownsRow B T 1 (.slice (some ⟨w.heap.size,0,none⟩) l.length l.length) l.length (l.map Value.string):=
 ⟨by simp,.inr ⟨w.heap.size,l.length,_,rfl,hB,heap_alloc_new w _,Nat.le_refl _,h,by simp,by rw[Nat.mul_one];exact List.take_of_length_le (by simp)⟩⟩
def RetB(B:Nat)(v:Value)(w:World)(e:Ending)(w':World):Prop:=e=.returned v∧Below B w w'
end Go.Proofs.YtopmeciihijgiaaGreatDoor

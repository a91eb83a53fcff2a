import Derived.Test.YtmahgbhpdfbbjaaGreatDoorQAcF
set_option linter.unusedVariables false
set_option linter.unusedSimpArgs false
namespace Go.Proofs.YtmahgbhpdfbbjaaGreatDoor
set_option maxRecDepth 100000
set_option maxHeartbeats 4000000
open Go.RowKit
open Go.Maps Go.WideMaps
theorem szl_two{a b:ByteArray}(ha:a.size≤1000)(hb:b.size≤1000):SzL [a,b]:=by
 intro s hs;simp only[List.mem_cons,List.mem_nil_iff,or_false]at hs;rcases hs with rfl | rfl<;>omega
theorem szl_one{a:ByteArray}(ha:a.size≤1000):SzL [a]:=by
 intro s hs;simp only[List.mem_cons,List.mem_nil_iff,or_false]at hs;subst hs;omega
theorem sln_pair(W:World)(l m:List ByteArray)(hl:l.length≤1000000)(hm:m.length≤1000000) :
 SlN ((W.alloc (.cells (l.map Value.string).toArray 22)).alloc (.cells (m.map Value.string).toArray 22)) (some ⟨W.heap.size,0,none⟩) l.length l.length l ∧
 SlN ((W.alloc (.cells (l.map Value.string).toArray 22)).alloc (.cells (m.map Value.string).toArray 22)) (some ⟨W.heap.size+1,0,none⟩) m.length m.length m:=by
 refine⟨(SlN.new W l 22 hl).kept ((blr).alloc nlr _) nlr,?_⟩;have:=SlN.new (W.alloc (.cells (l.map Value.string).toArray 22)) m 22 hm;rwa[World.size_alloc]at this
theorem ac_Check(N M O Z S:ByteArray)(RA:Option Addr)(rn rc:Nat)(U H acc u x:ByteArray)(w:World)(hM:M.size≤8)(hO:O.size≤8)(ha:acc.size≤1000)(hu:u.size≤1000)(hx:x.size≤1000)
 (hr:rdyR M O [acc,x] [u]=0) (he:nS (pz (num M) (num x) (num u))=acc) :
 Calls Tryz.prog 11 #[.agg (ikC N M O Z S RA rn rc U H),.string acc,.string u,.string x] w (Ret (.int .i64 0) w):=by
 have hrr:=rdy_zero hr;have HRD:=Hq (fun(W:World)=>ac_ready M O [acc,x] [u] (some ⟨W.heap.size,0,none⟩) (some ⟨W.heap.size+1,0,none⟩) 2 2 1 1 ((W.alloc (.cells #[.string acc,.string x] 22)).alloc (.cells #[.string u] 22)) hM hO (sln_pair W [acc,x] [u] (by simp) (by simp)).1 (szl_two ha hx) (sln_pair W [acc,x] [u] (by simp) (by simp)).2 (szl_one hu));rw[hr]at HRD;have HRS:=Hq (fun(W:World)=>ac_raised M O x [u] (some ⟨W.heap.size,0,none⟩) 1 1 (W.alloc (.cells #[.string u] 22)) hM hO hrr.2.2.2.2.1 (by have:=hrr.2.2.1;simp at this;exact this.2) (by have:=hrr.2.2.2.2.2.1;simp at this;exact this.2) hrr.2.2.2.1 (SlN.new W [u] 22 (by simp)));rw[show valF (num M) (num x) [u]=pz (num M) (num x) (num u)from rfl,he]at HRS;unfold gV at HRD HRS;unfold ikC;clear hr hrr he hM hO ha hu hx;obtain⟨W0,hW0⟩:=nm (w.alloc (.cells #[.string N,.string M,.string O,.string Z,.string S,.slice RA rn rc,.string U,.string H] 27));have hx0:BxC W0 w.heap.size #[.string N,.string M,.string O,.string Z,.string S,.slice RA rn rc,.string U,.string H] 27:=by rw[←hW0];exact BxC.new _ _ _
 have hb0:Below w.heap.size w W0:=by rw[←hW0];exact(blr).alloc nlr _
 have HX0:=Hq hx0;have HB0:=Hq hb0;clear hx0 hb0;go_enter Tryz.func11,Tryz.ntmps11;have hx:=HX0.out;have k1:W0.cell? ⟨w.heap.size,1,none⟩=some (.string M):=hx.cell 1;have k2:W0.cell? ⟨w.heap.size,2,none⟩=some (.string O):=hx.cell 2;have k6:W0.cell? ⟨w.heap.size,6,none⟩=some (.string U):=hx.cell 6;clear hx;clear k6;go_wp2_with fail;try rw[hW0]
 clear hW0 k1 k2;have hrd:=HRD.out W0;have hb1:Below W0.heap.size W0 ((W0.alloc (.cells #[.string acc,.string x] 22)).alloc (.cells #[.string u] 22)):=((blr).alloc nlr _).alloc (by simp) _;obtain⟨W1,hW1⟩:=nm ((W0.alloc (.cells #[.string acc,.string x] 22)).alloc (.cells #[.string u] 22));rw[hW1]at hrd hb1⊢;have HX1:=Hq (HX0.out.next hb1);have HB1:=bTr HB0 hb1;clear hW1 hb1;refine hrd.mono ?_;rintro e w2 ⟨rfl,hb⟩;have HX2:=Hq (HX1.out.next hb);have HB2:=bTr HB1 hb;clear hb hrd;have hx:=HX2.out;have k1:w2.cell? ⟨w.heap.size,1,none⟩=some (.string M):=hx.cell 1;have k2:w2.cell? ⟨w.heap.size,2,none⟩=some (.string O):=hx.cell 2;have k6:w2.cell? ⟨w.heap.size,6,none⟩=some (.string U):=hx.cell 6;clear hx;clear k6;go_wp2_with fail;have hrs:=HRS.out w2;have hb1:Below w2.heap.size w2 (w2.alloc (.cells #[.string u] 22)):=(blr).alloc nlr _;obtain⟨W3,hW3⟩:=nm (w2.alloc (.cells #[.string u] 22));rw[hW3]at hrs hb1⊢;have HB3:=bTr HB2 hb1;clear hW3 hb1 k1 k2;refine hrs.mono ?_;rintro e w4 ⟨rfl,hb⟩;have HB4:=bTr HB3 hb;clear hb hrs;go_wp2;go_ret;exact⟨rfl,HB4.out⟩
def flt(a b:List ByteArray):List ByteArray:=a.filter (fun x => !memB b x)
def SrtL(l:List ByteArray):Prop:=l.Pairwise (fun a b=>num a≤num b)
def minL(a b:List ByteArray):List ByteArray:=(flt a b).mergeSort (fun x y=>decide (num x≤num y))
theorem minL_eq{a b l:List ByteArray}(hv:∀ x∈a,nvalid x=true)(hs:SrtL l)(hp:l.Perm (flt a b)):l=minL a b:=by
 have hq:l.Perm (minL a b):=hp.trans (List.mergeSort_perm _ _).symm;have hf:∀ x∈l,nvalid x=true:=fun x hx=>hv x (List.mem_filter.1 (hp.mem_iff.1 hx)).1;refine List.Perm.eq_of_pairwise (le:=fun a b=>num a≤num b) (fun x y hx hy h1 h2=>num_inj (hf x hx) (hf y (hq.mem_iff.2 hy)) (Nat.le_antisymm h1 h2)) hs ?_ hq;refine(List.pairwise_mergeSort (le:=fun x y=>decide (num x≤num y)) (fun a b c h1 h2=>?_) (fun a b=>?_) (flt a b)).imp (fun {x y} h=>of_decide_eq_true h)
 · simp only[decide_eq_true_eq]at h1 h2⊢;omega
 · simp only[Bool.or_eq_true,decide_eq_true_eq];omega
theorem flt_step{a b:List ByteArray}{k:Nat}{x:ByteArray}(he:a[k]? =some x):flt (a.take (k+1)) b=flt (a.take k) b++(if memB b x=true then []else [x]):=by
 unfold flt;rw[List.take_add_one,he,Option.toList_some,List.filter_append];congr 1;rw[List.filter_cons];cases memB b x<;>rfl
def Bub(s:List ByteArray)(x:ByteArray)(L:List ByteArray)(k:Nat):Prop:=∃ p q,s=p++q∧L=p++x::q∧p.length=k∧∀ y∈q,num x<num y
theorem bub_start(s:List ByteArray)(x:ByteArray):Bub s x (s++[x]) s.length:=⟨s,[],by simp,rfl,rfl,fun y h=>by cases h⟩
theorem bub_len{s:List ByteArray}{x:ByteArray}{L:List ByteArray}{k:Nat}(h:Bub s x L k):L.length=s.length+1∧k≤s.length∧L[k]? =some x∧L.Perm (s++[x]):=by
 obtain⟨p,q,rfl,rfl,rfl,_⟩:=h;refine⟨by simp;omega,by simp,by simp,?_⟩;rw[List.append_assoc];exact List.Perm.append_left p (List.perm_append_comm (l₁:=[x]) (l₂:=q))
theorem bub_step{s:List ByteArray}{x y:ByteArray}{L:List ByteArray}{k:Nat}(h:Bub s x L (k+1))(hy:L[k]? =some y)(hl:num x<num y):Bub s x ((L.set (k+1) y).set k x) k:=by
 obtain⟨p,q,rfl,rfl,hk,hq⟩:=h;obtain⟨p',z,rfl⟩:∃ p' z,p=p'++[z]:=by
  rcases List.eq_nil_or_concat p with e | ⟨p',z,e⟩
  · rw[e]at hk;cases hk
  · exact⟨p',z,by rw[e,List.concat_eq_append]⟩
 have hk':p'.length=k:=by simpa using hk
 subst hk';have hz:z=y:=by simpa using hy
 subst hz;refine⟨p',z::q,by simp,?_,rfl,fun u hu=>?_⟩
 · rw[List.append_assoc,List.set_append_right _ _ (by omega),List.set_append_right _ _ (by omega)];simp
 · rcases List.mem_cons.1 hu with rfl | hu
   · exact hl
   · exact hq u hu
theorem bub_done{s:List ByteArray}{x:ByteArray}{L:List ByteArray}{k:Nat}(h:Bub s x L k)(hs:SrtL s)(hd:k=0∨∃ y,L[k - 1]? =some y∧num y≤num x):SrtL L:=by
 obtain⟨p,q,rfl,rfl,rfl,hq⟩:=h;have hs:=List.pairwise_append.1 hs;refine List.pairwise_append.2 ⟨hs.1,List.pairwise_cons.2 ⟨fun y hy=>Nat.le_of_lt (hq y hy),hs.2.1⟩,fun u hu v hv=>?_⟩;rcases List.mem_cons.1 hv with rfl | hv
 · rcases hd with h0 | ⟨y,hy,hle⟩
   · rw[List.length_eq_zero_iff.1 h0]at hu;cases hu
   · rcases List.eq_nil_or_concat p with e | ⟨p',z,e⟩
     · rw[e]at hu;cases hu
     · rw[List.concat_eq_append]at e;subst e;have hz:z=y:=by
        have e1:(p'++[z]).length - 1=p'.length:=by simp
        rw[e1]at hy;simpa using hy
       subst hz;rcases List.mem_append.1 hu with h' | h'
       · exact Nat.le_trans ((List.pairwise_append.1 hs.1).2.2 u h' z (by simp)) hle
       · rw[List.mem_singleton]at h';subst h';exact hle
 · exact hs.2.2 u hu v hv
def OwnN(w:World)(B g m c:Nat)(L:List ByteArray):Prop:=w.ownsRow B 22 1 (.slice (some ⟨g,0,none⟩) m c) m (L.map Value.string)
theorem OwnN.parts{w:World}{B g m c:Nat}{L:List ByteArray}(h:OwnN w B g m c L):L.length=m∧B≤g∧m≤c∧c≤9223372036854775807∧g<w.heap.size∧SlN w (some ⟨g,0,none⟩) m c L∧(∀ j x,L[j]? =some x→w.cell? ⟨g,j,none⟩=some (.string x))∧∀ j,w.frozen? ⟨g,j,none⟩=false:=by
 have hl:L.length=m:=by have:=h.1;simpa using this
 rcases h.2 with⟨h1,_⟩ | ⟨g',cap,cur,hv,hg,hh,r1,r2,r3,r4⟩
 · cases h1
 · cases hv;have hlt:g<w.heap.size:=by
    rcases Nat.lt_or_ge g w.heap.size with hlt | hge
    · exact hlt
    · rw[Array.getElem?_eq_none hge]at hh;cases hh
   have hc:∀ j x,L[j]? =some x→w.cell? ⟨g,j,none⟩=some (.string x):=fun j x hx=>by
    have hj:=(List.getElem?_eq_some_iff.1 hx).1;have e:(cur.toList.take (m * 1))[j]? =some (.string x):=by rw[r4,List.getElem?_map,hx];rfl
    rw[List.getElem?_take]at e;split at e
    · rw[Array.getElem?_toList]at e;simp[World.cell?,hh,e]
    · cases e
   refine⟨hl,hg,r1,by unfold maxLen at r2;omega,hlt,⟨hl,r1,by unfold maxLen at r2;omega,g,0,fun _=>rfl,fun k s hk=>by rw[Nat.zero_add];exact hc k s hk⟩,hc,fun j=>Lib.frozen_of_heap hh j⟩
theorem OwnN.set{w:World}{B g m c:Nat}{L:List ByteArray}(h:OwnN w B g m c L)(j:Nat)(y:ByteArray):OwnN (w.setCell ⟨g,j,none⟩ (.string y)) B g m c (L.set j y):=by
 refine⟨by have:=h.1;simpa using this,?_⟩;rcases h.2 with⟨h1,_⟩ | ⟨g',cap,cur,hv,hg,hh,r1,r2,r3,r4⟩
 · cases h1
 · cases hv;refine .inr ⟨g,c,_,rfl,hg,block_setCell hh _,r1,r2,by simpa using r3,?_⟩;rw[Array.toList_setIfInBounds,List.take_set,r4,List.map_set]
theorem OwnN.kept{w w':World}{B D g m c:Nat}{L:List ByteArray}(h:OwnN w B g m c L)(hb:Below D w w')(hD:w.heap.size≤D):OwnN w' B g m c L:=owns_kept h hb hD
theorem OwnN.drew{w:World}{B g m c:Nat}{L:List ByteArray}(h:OwnN w B g m c L):OwnN w.drew B g m c L:=h
theorem own_slnA{w:World}{base:Nat}{v:Value}{n:Nat}{l:List ByteArray}(h:w.ownsRow base 22 1 v n (l.map Value.string)):∃ A c,v=.slice A n c∧SlN w A n c l∧(0<n→∀ a,A=some a→base≤a.block∧a.block<w.heap.size):=by
 obtain⟨_,A,c,rfl,hs⟩:=SlN.of_owns h;refine⟨A,c,rfl,hs,fun h0 a he=>?_⟩;obtain⟨g,cap,hv,h1,h2⟩:=h.form h0;cases hv;cases he;exact⟨h1,h2⟩
theorem str_ne{x y:ByteArray}(h:(x.toList==y.toList)=false):x≠y:=fun e=>by rw[e]at h;simp at h
theorem str_eq{x y:ByteArray}(h:(x.toList==y.toList)=true):x=y:=by
 have h:=eq_of_beq h;rw[ByteArray.toList_eq,ByteArray.toList_eq]at h;exact ByteArray.ext (Array.toList_inj.1 h)
end Go.Proofs.YtmahgbhpdfbbjaaGreatDoor

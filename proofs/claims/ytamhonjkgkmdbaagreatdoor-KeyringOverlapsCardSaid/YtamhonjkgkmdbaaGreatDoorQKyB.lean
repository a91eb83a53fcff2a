import Derived.Test.YtamhonjkgkmdbaaGreatDoorQRowN
import Derived.Lib.SliceRun
import Derived.Deep.MidRow
import Derived.Great.BuildSlice
import Derived.Deep.DeepCutAuto
set_option linter.unusedVariables false
set_option linter.unusedSimpArgs false
namespace Go.Proofs.YtamhonjkgkmdbaaGreatDoor
open Go.RowKit
structure Ver where
 name:ByteArray
 num:Int
 kn:ByteArray
 km:ByteArray
 ko:ByteArray
 kz:ByteArray
 ks:ByteArray
 kr:List ByteArray
 ku:ByteArray
 kh:ByteArray
 sm:ByteArray
 so:ByteArray
 sg:ByteArray
 sy:ByteArray
 fr:Int
 «to» : Int
 sc:ByteArray
 sr:ByteArray
def Ver.vals(v:Ver)(rv:Value):List Value:=[.string v.name,.int .i64 v.num,.string v.kn,.string v.km,.string v.ko,.string v.kz,.string v.ks,rv,.string v.ku,.string v.kh,.string v.sm,.string v.so,.string v.sg,.string v.sy,.int .i64 v.fr,.int .i64 v.to,.string v.sc,.string v.sr]
def Ver.val(v:Ver)(rv:Value):Value:=.agg #[.string v.name,.int .i64 v.num,.string v.kn,.string v.km,.string v.ko,.string v.kz,.string v.ks,rv,.string v.ku,.string v.kh,.string v.sm,.string v.so,.string v.sg,.string v.sy,.int .i64 v.fr,.int .i64 v.to,.string v.sc,.string v.sr]
def VCells(w:World)(b p:Nat)(v:Ver)(rv:Value):Prop:=∀ j u,(v.vals rv)[j]? =some u→w.cell? ⟨b,p+j,none⟩=some u
theorem VCells.kept{B:Nat}{w w':World}(hb:Below B w w')(hB:w.heap.size≤B){b p:Nat}{v:Ver}{rv:Value}(h:VCells w b p v rv):VCells w' b p v rv:=fun j u hu=>cell_kept hb hB (h j u hu)
theorem VCells.open{w:World}{b p:Nat}{v:Ver}{rv:Value}(h:VCells w b p v rv) :
 w.cell? ⟨b,p,none⟩=some (.string v.name)∧w.cell? ⟨b,p+1,none⟩=some (.int .i64 v.num)∧w.cell? ⟨b,p+2,none⟩=some (.string v.kn)∧w.cell? ⟨b,p+3,none⟩=some (.string v.km)∧w.cell? ⟨b,p+4,none⟩=some (.string v.ko)∧w.cell? ⟨b,p+5,none⟩=some (.string v.kz) ∧
 w.cell? ⟨b,p+6,none⟩=some (.string v.ks)∧w.cell? ⟨b,p+7,none⟩=some rv∧w.cell? ⟨b,p+8,none⟩=some (.string v.ku)∧w.cell? ⟨b,p+9,none⟩=some (.string v.kh)∧w.cell? ⟨b,p+10,none⟩=some (.string v.sm)∧w.cell? ⟨b,p+11,none⟩=some (.string v.so) ∧
 w.cell? ⟨b,p+12,none⟩=some (.string v.sg)∧w.cell? ⟨b,p+13,none⟩=some (.string v.sy)∧w.cell? ⟨b,p+14,none⟩=some (.int .i64 v.fr)∧w.cell? ⟨b,p+15,none⟩=some (.int .i64 v.to)∧w.cell? ⟨b,p+16,none⟩=some (.string v.sc)∧w.cell? ⟨b,p+17,none⟩=some (.string v.sr):=
 ⟨h 0 _ rfl,h 1 _ rfl,h 2 _ rfl,h 3 _ rfl,h 4 _ rfl,h 5 _ rfl,h 6 _ rfl,h 7 _ rfl,h 8 _ rfl,h 9 _ rfl,h 10 _ rfl,h 11 _ rfl,h 12 _ rfl,h 13 _ rfl,h 14 _ rfl,h 15 _ rfl,h 16 _ rfl,h 17 _ rfl⟩
def VIn(w:World)(b p:Nat)(v:Ver):Prop:=∃ A n c,VCells w b p v (.slice A n c)∧SlN w A n c v.kr
theorem VIn.kept{B:Nat}{w w':World}(hb:Below B w w')(hB:w.heap.size≤B){b p:Nat}{v:Ver}(h:VIn w b p v):VIn w' b p v:=
 let ⟨A,n,c,h1,h2⟩:=h
 ⟨A,n,c,h1.kept hb hB,h2.kept hb hB⟩
def SlV(w:World)(A:Option Addr)(len cap:Nat)(l:List Ver):Prop:=
 l.length=len∧len≤cap∧cap≤9223372036854775807∧∃ b o,(0<len→A=some ⟨b,o,none⟩)∧∀ k v,l[k]? =some v→VIn w b (o+k * 18) v
theorem SlV.kept{B:Nat}{w w':World}(hb:Below B w w')(hB:w.heap.size≤B){A:Option Addr}{len cap:Nat}{l:List Ver}(h:SlV w A len cap l):SlV w' A len cap l:=
 let ⟨h1,h2,h3,b,o,h4,h5⟩:=h
 ⟨h1,h2,h3,b,o,h4,fun k e hk=>(h5 k e hk).kept hb hB⟩
theorem SlV.head{w:World}{A:Option Addr}{len cap:Nat}{l:List Ver}(h:SlV w A len cap l)(h0:0<len):∃ b o,A=some ⟨b,o,none⟩:=
 let ⟨_,_,_,b,o,h4,_⟩:=h
 ⟨b,o,h4 h0⟩
theorem SlV.get?{w:World}{b o len cap:Nat}{l:List Ver}(h:SlV w (some ⟨b,o,none⟩) len cap l)(k:Nat){v:Ver}(hk:l[k]? =some v):VIn w b (o+k * 18) v:=by
 obtain⟨h1,h2,h3,b',o',h4,h5⟩:=h;have hl:=(List.getElem?_eq_some_iff.1 hk).1;have:=h4 (by omega);simp only[Option.some.injEq,Addr.mk.injEq,and_true]at this;obtain⟨rfl,rfl⟩:=this;exact h5 k v hk
theorem SlV.nil(w:World)(cap:Nat)(h:cap≤9223372036854775807)(A:Option Addr):SlV w A 0 cap []:=⟨rfl,Nat.zero_le _,h,0,0,fun h=>by omega,fun k e h=>by simp at h⟩
def VRow(w:World):List Value→List Ver→Prop
 | vs,[]=>vs=[]
 | vs,v::l=>∃ A n c rest,vs=v.vals (.slice A n c)++rest∧SlN w A n c v.kr∧VRow w rest l
theorem VRow.kept{B:Nat}{w w':World}(hb:Below B w w')(hB:w.heap.size≤B):∀ {vs:List Value} {l:List Ver},VRow w vs l→VRow w' vs l
 | _,[],h=>h
 | _,_::_,⟨A,n,c,rest,h1,h2,h3⟩=>⟨A,n,c,rest,h1,h2.kept hb hB,h3.kept hb hB⟩
theorem Ver.vals_length(v:Ver)(rv:Value):(v.vals rv).length=18:=rfl
theorem VRow.length{w:World}:∀ {vs:List Value} {l:List Ver},VRow w vs l→vs.length=l.length * 18
 | _,[],h=>by rw[show _=[]from h];rfl
 | _,_::_,⟨A,n,c,rest,h1,h2,h3⟩=>by rw[h1,List.length_append,h3.length,Ver.vals_length,List.length_cons];omega
theorem VRow.snoc{w:World}{v:Ver}{A:Option Addr}{n c:Nat}(hs:SlN w A n c v.kr):∀ {vs:List Value} {l:List Ver},VRow w vs l→VRow w (vs++v.vals (.slice A n c)) (l++[v])
 | vs,[],h=>⟨A,n,c,[],by rw[show vs=[]from h];simp,hs,rfl⟩
 | _,_::_,⟨A',n',c',rest,h1,h2,h3⟩=>⟨A',n',c',rest++v.vals (.slice A n c),by rw[h1,List.append_assoc],h2,h3.snoc hs⟩
theorem VRow.get{w:World}:∀ {vs:List Value} {l:List Ver} {k:Nat} {v:Ver},VRow w vs l→l[k]? =some v→∃ A n c,SlN w A n c v.kr∧∀ j u,(v.vals (.slice A n c))[j]? =some u→vs[k * 18+j]? =some u
 | _,[],_,_,_,hk=>by simp at hk
 | _,v'::l,0,v,⟨A,n,c,rest,h1,h2,h3⟩,hk=>by
  simp only[List.getElem?_cons_zero,Option.some.injEq]at hk;subst hk;refine⟨A,n,c,h2,fun j u hu=>?_⟩;have hj:=(List.getElem?_eq_some_iff.1 hu).1;rw[h1,Nat.zero_mul,Nat.zero_add,List.getElem?_append_left hj];exact hu
 | _,v'::l,k+1,v,⟨A,n,c,rest,h1,h2,h3⟩,hk=>by
  obtain⟨A',n',c',h4,h5⟩:=h3.get (k:=k) (by simpa using hk);refine⟨A',n',c',h4,fun j u hu=>?_⟩;rw[h1,List.getElem?_append_right (by rw[Ver.vals_length];omega),Ver.vals_length,show (k+1) * 18+j - 18=k * 18+j from by omega];exact h5 j u hu
theorem Ver.one(v:Ver){A:Option Addr}{n c:Nat}:∀ u∈v.vals (.slice A n c),u.oneCell'=true:=by
 intro u h;simp only[Ver.vals,List.mem_cons,List.mem_nil_iff,or_false]at h;rcases h with rfl | rfl | rfl | rfl | rfl | rfl | rfl | rfl | rfl | rfl | rfl | rfl | rfl | rfl | rfl | rfl | rfl | rfl<;>rfl
theorem VRow.one{w:World}:∀ {vs:List Value} {l:List Ver},VRow w vs l→∀ u∈vs,u.oneCell'=true
 | _,[],h=>by rw[show _=[]from h];intro u hu;cases hu
 | _,v::_,⟨A,n,c,rest,h1,h2,h3⟩=>by
  intro u hu;rw[h1,List.mem_append]at hu;rcases hu with hu | hu
  · exact v.one u hu
  · exact h3.one u hu
theorem SlV.of_owns{w:World}{base:Nat}{T:TypeId}{rv:Value}{n:Nat}{vs:List Value}{l:List Ver}(h:w.ownsRow base T 18 rv n vs)(hr:VRow w vs l):l.length=n∧∃ A cap,rv=.slice A n cap∧SlV w A n cap l:=by
 have hl:=h.1;rw[hr.length]at hl;have hln:l.length=n:=by omega
 refine⟨hln,?_⟩;rcases h.2 with⟨hv,h0⟩ | ⟨g,cap,cur,hv,hb,hh,hc,hm,hs,ht⟩
 · subst h0;have : l=[]:=List.length_eq_zero_iff.1 hln;subst this;exact⟨none,0,hv,SlV.nil _ _ (by omega) _⟩
 · refine⟨_,cap,hv,hln,hc,by unfold maxLen at hm;exact hm,g,0,fun _=>rfl,fun k v hk=>?_⟩;obtain⟨A,m,c,h1,h2⟩:=hr.get hk;refine⟨A,m,c,fun j u hu=>?_,h1⟩;have hcell:=h.cells (g:=g) (by rw[hv];rfl) (k * 18+j) u (h2 j u hu);rw[addr_add,Nat.zero_add]at hcell;rw[Nat.zero_add];exact hcell
def RetV(v:Ver)(f:Int)(w:World)(e:Ending)(w':World):Prop:=∃ A n c,e=.returned (.tuple #[v.val (.slice A n c),.int .i64 f])∧SlN w' A n c v.kr∧Below w.heap.size w w'
def ver0:Ver:=⟨⟨#[]⟩,0,⟨#[]⟩,⟨#[]⟩,⟨#[]⟩,⟨#[]⟩,⟨#[]⟩,[],⟨#[]⟩,⟨#[]⟩,⟨#[]⟩,⟨#[]⟩,⟨#[]⟩,⟨#[]⟩,0,0,⟨#[]⟩,⟨#[]⟩⟩
set_option maxRecDepth 100000
set_option maxHeartbeats 1000000
theorem cl_nats(l:List ByteArray)(A:Option Addr)(len cap:Nat)(w:World)(hs:SlN w A len cap l)(hlb:len≤1000000000000):Calls Tryz.prog 49 #[.slice A len cap] w (RetRow 22 1 len (l.map Value.string) w):=by
 have hee:=fun(w:World) (a:Option Addr) (n c:Nat)=>Lib.run_eql_slice_nil (P:=Tryz.prog) w 29 22 a n c 0 0 Tryz.underlying29
 cases A with
 | none =>
  have h0:len=0:=by
   rcases Nat.eq_zero_or_pos len with h | h
   · exact h
   · obtain⟨b,o,e⟩:=hs.head h;cases e
  subst h0;have hl:l=[]:=List.length_eq_zero_iff.1 hs.1;subst hl;clear hs;go_enter Tryz.func49,Tryz.ntmps49;go_wp2;go_ret;exact⟨_,rfl,World.ownsRow_nil _ _ _ _,Below.refl _ _⟩
 | some ad =>
  have hcells:=hs.cells;have HC:=Hq hcells;have HV:=Hq (show (l.map Value.string).length=len * 1 from by rw[List.length_map,hs.1,Nat.mul_one]);have HO:=Hq (strs_one l);obtain⟨i0,hi,hz0,hz1,hz2⟩:=info_parts nat_info;clear hs hcells;go_enter Tryz.func49,Tryz.ntmps49;go_wp2_with (at_builtin;refine wpList_append_own _ rfl (.tmp 5) (.tmp 6) 29 rfl w.heap.size 22 i0 _ 1 16 Tryz.underlying29 hi hz0 hz1 hz2 rfl (by decide) _ 0 [] rfl (World.ownsRow_made w _ _ (Nat.le_refl _) ?h0 ?h9) ad len cap (l.map Value.string) rfl ?h1 ?h2 HO.out ?h4 ?h5 ?h6 ?_);case h0=>unfold maxLen;omega
  case h9=>rfl
  case h1=>exact HV.out
  case h2=>exact fun j u hj=>cell_kept (w:=w) ((Below.refl _ _).alloc (Nat.le_refl _) _) (Nat.le_refl _) (HC.out j u hj)
  case h4=>unfold maxLen;omega
  case h5=>omega
  case h6=>simp
  intro v' w' hown hgrow _;have hb:Below w.heap.size w w':=((Below.refl _ _).alloc (Nat.le_refl _) _).grown hgrow (by simp) (fun k e=>by simp only[Value.ownBlock,Option.some.injEq]at e;omega);have HOWN:=Hq hown;have HB:=Hq hb;clear hown hgrow hb;go_wp2;go_ret;exact⟨_,rfl,HOWN.out,HB.out⟩
set_option maxRecDepth 100000
set_option maxHeartbeats 4000000
def vvalid(v:Ver)(e:Int):Bool:=decide (v.fr≤e)&&decide (e≤v.to)
theorem ky_valid(v:Ver)(rv:Value)(e:Int)(w:World):Calls Tryz.prog 26 #[v.val rv,.int .i64 e] w (Ret (.bool (vvalid v e)) w):=by
 unfold Ver.val vvalid;by_cases h1:v.fr≤e
 · rw[decide_eq_true h1,Bool.true_and];have h1':decide (v.fr≤e)=true:=decide_eq_true h1;clear h1;go_enter Tryz.func26,Tryz.ntmps26;go_wp2;go_ret;exact⟨rfl,(Below.refl _ _).alloc (Nat.le_refl _) _⟩
 · rw[decide_eq_false h1,Bool.false_and];have h1':decide (v.fr≤e)=false:=decide_eq_false h1;clear h1;go_enter Tryz.func26,Tryz.ntmps26;go_wp2;go_ret;exact⟨rfl,(Below.refl _ _).alloc (Nat.le_refl _) _⟩
def RetVV(v:Ver)(w:World)(e:Ending)(w':World):Prop:=∃ A n c,e=.returned (v.val (.slice A n c))∧(∃ B,w.heap.size≤B∧w'.ownsRow B 22 1 (.slice A n c) n (v.kr.map Value.string))∧Below w.heap.size w w'
def BxC(W:World)(B:Nat)(cs:Array Value)(T:TypeId):Prop:=W.heap[B]? =some (.cells cs T (0,0))
theorem BxC.new(W:World)(cs:Array Value)(T:TypeId):BxC (W.alloc (.cells cs T)) W.heap.size cs T:=heap_alloc_new _ _
theorem BxC.kept{W W':World}{K B:Nat}{cs:Array Value}{T:TypeId}(h:BxC W B cs T)(hb:Below K W W')(hB:B<K):BxC W' B cs T:=(hb.block B hB).trans h
theorem BxC.lt{W:World}{B:Nat}{cs:Array Value}{T:TypeId}(h:BxC W B cs T):B<W.heap.size:=block_lt h
theorem BxC.next{W W':World}{B:Nat}{cs:Array Value}{T:TypeId}(h:BxC W B cs T)(hb:Below W.heap.size W W'):BxC W' B cs T:=h.kept hb h.lt
theorem BxC.cell{W:World}{B:Nat}{cs:Array Value}{T:TypeId}(h:BxC W B cs T)(k:Nat):W.cell? ⟨B,k,none⟩=cs[k]?:=by
 rw[Lib.cell_of_heap h]
theorem BxC.free{W:World}{B:Nat}{cs:Array Value}{T:TypeId}(h:BxC W B cs T)(k:Nat):W.frozen? ⟨B,k,none⟩=false:=Lib.frozen_of_heap h k
theorem BxC.set{W:World}{B k:Nat}{cs:Array Value}{T:TypeId}(h:BxC W B cs T)(u:Value):BxC (W.setCell ⟨B,k,none⟩ u) B (cs.setIfInBounds k u) T:=block_setCell h u
theorem BxC.other{W:World}{B C k:Nat}{cs:Array Value}{T:TypeId}(h:BxC W B cs T)(hne:B≠C)(u:Value):BxC (W.setCell ⟨C,k,none⟩ u) B cs T:=(heap_setCell_other _ _ _ _ hne).trans h
def Ver.arr(v:Ver)(rv:Value):Array Value:=#[.string v.name,.int .i64 v.num,.string v.kn,.string v.km,.string v.ko,.string v.kz,.string v.ks,rv,.string v.ku,.string v.kh,.string v.sm,.string v.so,.string v.sg,.string v.sy,.int .i64 v.fr,.int .i64 v.to,.string v.sc,.string v.sr]
theorem BxC.ver{W:World}{B:Nat}{v:Ver}{rv:Value}{T:TypeId}(h:BxC W B (v.arr rv) T):VCells W B 0 v rv:=fun j u hu=>by
 rw[Nat.zero_add,h.cell];have e:(v.arr rv)=(v.vals rv).toArray:=rfl;rw[e,List.getElem?_toArray];exact hu
theorem BxC.open{w:World}{B:Nat}{v:Ver}{rv:Value}{T:TypeId}(h:BxC w B (v.arr rv) T) :
 w.cell? ⟨B,0,none⟩=some (.string v.name)∧w.cell? ⟨B,1,none⟩=some (.int .i64 v.num)∧w.cell? ⟨B,2,none⟩=some (.string v.kn)∧w.cell? ⟨B,3,none⟩=some (.string v.km)∧w.cell? ⟨B,4,none⟩=some (.string v.ko)∧w.cell? ⟨B,5,none⟩=some (.string v.kz) ∧
 w.cell? ⟨B,6,none⟩=some (.string v.ks)∧w.cell? ⟨B,7,none⟩=some rv∧w.cell? ⟨B,8,none⟩=some (.string v.ku)∧w.cell? ⟨B,9,none⟩=some (.string v.kh)∧w.cell? ⟨B,10,none⟩=some (.string v.sm)∧w.cell? ⟨B,11,none⟩=some (.string v.so) ∧
 w.cell? ⟨B,12,none⟩=some (.string v.sg)∧w.cell? ⟨B,13,none⟩=some (.string v.sy)∧w.cell? ⟨B,14,none⟩=some (.int .i64 v.fr)∧w.cell? ⟨B,15,none⟩=some (.int .i64 v.to)∧w.cell? ⟨B,16,none⟩=some (.string v.sc)∧w.cell? ⟨B,17,none⟩=some (.string v.sr):=
 ⟨h.cell 0,h.cell 1,h.cell 2,h.cell 3,h.cell 4,h.cell 5,h.cell 6,h.cell 7,h.cell 8,h.cell 9,h.cell 10,h.cell 11,h.cell 12,h.cell 13,h.cell 14,h.cell 15,h.cell 16,h.cell 17⟩
theorem arr_set7(v:Ver)(r s:Value):(v.arr r).setIfInBounds 7 s=v.arr s:=by
 unfold Ver.arr;simp only[List.setIfInBounds_toArray,List.set_cons_zero,List.set_cons_succ]
theorem Ver.arr_one(v:Ver){A:Option Addr}{n c:Nat}:(v.arr (.slice A n c)).all (·.oneCell')=true:=by
 show (v.vals (.slice A n c)).toArray.all (·.oneCell')=true;exact all_oneCell_toArray (fun u hu=>v.one u hu)
theorem below_setRow{B:Nat}{w w':World}(h:Below B w w'){g:Nat}(hg:B≤g)(cs:Array Value):Below B w (w'.setRow g cs):=
 ⟨h.os,h.tape,h.output,by rw[size_setRow];exact h.size,fun k hk=>(setRow_other _ _ _ _ (by omega)).trans (h.block k hk)⟩
theorem ownsRow_below_row{base:Nat}{e:TypeId}{size:Nat}{v:Value}{n:Nat}{xs:List Value}{w:World}(h:w.ownsRow base e size v n xs){g:Nat}(hg:g<base)(cs:Array Value):(w.setRow g cs).ownsRow base e size v n xs:=by
 refine⟨h.1,?_⟩;rcases h.2 with h | ⟨g',cap,cur,h1,h2,h3,h4⟩
 · exact .inl h
 · exact .inr ⟨g',cap,cur,h1,h2,by rw[setRow_other _ _ _ _ (by omega)];exact h3,h4⟩
theorem ky_copied(v:Ver)(A:Option Addr)(n c:Nat)(w:World)(hs:SlN w A n c v.kr)(hn:n≤1000000):Calls Tryz.prog 25 #[v.val (.slice A n c)] w (RetVV v w):=by
 obtain⟨W0,hW0⟩:∃ W0,(w.alloc (.cells (v.arr (.slice A n c)) 35)).alloc (.cells (ver0.arr (.slice none 0 0)) 35)=W0:=⟨_,rfl⟩;have HX0:=Hq (show BxC W0 w.heap.size (v.arr (.slice A n c)) 35 from by
  rw[←hW0]
  exact(BxC.new w _ _).next ((Below.refl _ _).alloc (Nat.le_refl _) _))
 have HY0:=Hq (show BxC W0 (w.heap.size+1) (ver0.arr (.slice none 0 0)) 35 from by
  rw[←hW0];have:=BxC.new (w.alloc (.cells (v.arr (.slice A n c)) 35)) (ver0.arr (.slice none 0 0)) 35;rw[World.size_alloc]at this
  exact this)
 have HB0:=Hq (show Below w.heap.size w W0 from by
  rw[←hW0]
  exact((Below.refl w.heap.size w).alloc (Nat.le_refl _) _).alloc (by simp) _)
 have HS0:=Hq (hs.kept HB0.out (Nat.le_refl _));have c7:=HX0.out.ver.open.2.2.2.2.2.2.2.1;have hsz:W0.heap.size=w.heap.size+1+1:=by rw[←hW0,World.size_alloc,World.size_alloc]
 have HW0:=Hq hW0;have HSZ:=Hq hsz;have hval:v.val (.slice A n c)=.agg (v.arr (.slice A n c)):=rfl;rw[hval];clear hs hW0 hsz hval c7;obtain⟨cs,hcs⟩:∃ cs,v.arr (.slice A n c)=cs:=⟨_,rfl⟩;have hc7:cs[7]? =some (.slice A n c):=by rw[←hcs];rfl
 rw[hcs]at HX0 HW0⊢;have HCS:=Hq hcs;clear hcs;go_enter Tryz.func25,Tryz.ntmps25;go_wp2_with fail;have hcl:=cl_nats v.kr A n c W0 HS0.out (by omega);rw[←HW0.out]at hcl;refine hcl.mono ?_;rintro e w1 ⟨rv',rfl,hown,hb1⟩;rw[HW0.out]at hb1 hown;obtain⟨hl,A',c',rfl,hs1⟩:=SlN.of_owns hown;have HX1:=Hq (HX0.out.next hb1);have HY1:=Hq (HY0.out.next hb1);have HB1:=Hq (HB0.out.trans (hb1.mono HB0.out.size));have HOWN:=Hq hown;have xf:=HX1.out.free 7;have xc:=HX1.out.cell 7;rw[hc7]at xc;clear hown hb1 hs1 hcl hc7 hl;go_upto_region 2 with fail
 have hx2:=HX1.out.set (k:=7) (.slice A' n c');rw[←HCS.out,arr_set7]at hx2;have HX2:=Hq hx2;have HY2:=Hq (HY1.out.other (C:=w.heap.size) (k:=7) (by omega) (.slice A' n c'));have HB2:=Hq (HB1.out.setCell (p:=⟨w.heap.size,7,none⟩) (Nat.le_refl _) (.slice A' n c'));have HO2:=Hq (owns_setCell HOWN.out (a:=⟨w.heap.size,7,none⟩) (by rw[HSZ.out];simp only[];omega) (.slice A' n c'));obtain⟨w2,hw2⟩:∃ w2,w1.setCell ⟨w.heap.size,7,none⟩ (.slice A' n c')=w2:=⟨_,rfl⟩;rw[hw2]at HX2 HY2 HB2 HO2⊢;clear xf xc hx2 hw2;refine wp_region_lit ?_;refine wpList_load_row rfl 35 _ rfl w.heap.size rfl 35 (v.arr (.slice A' n c')) (0,0) _ HX2.out Tryz.underlying35 rfl (by kernel_rfl) ?_;refine wpList_store_rowTo rfl 35 _ _ rfl rfl (w.heap.size+1) (v.arr (.slice A' n c')) rfl rfl 35 (ver0.arr (.slice none 0 0)) HY2.out (by kernel_rfl) rfl v.arr_one ?_;refine wpList_nil ?_;have hy3:=setRow_heap w2 (w.heap.size+1) _ (v.arr (.slice A' n c')) _ _ HY2.out;have hsl:=ownsRow_below_row HO2.out (g:=w.heap.size+1) (by rw[HSZ.out];omega) (v.arr (.slice A' n c'));have hbb:=below_setRow HB2.out (g:=w.heap.size+1) (by omega) (v.arr (.slice A' n c'));obtain⟨w3,hw3⟩:∃ w3,w2.setRow (w.heap.size+1) (v.arr (.slice A' n c'))=w3:=⟨_,rfl⟩;rw[hw3]at hy3 hsl hbb⊢;clear hw3;have HY3:=Hq hy3;have HSL:=Hq hsl;have HBB:=Hq hbb;obtain⟨rr,hrr⟩:∃ rr,v.arr (.slice A' n c')=rr:=⟨_,rfl⟩;rw[hrr]at HY3⊢;have HRR:=Hq hrr;clear hy3 hsl hbb hrr;go_wp2;refine bodyPost_ret (v:=.agg rr) (results_cell_row rfl _ _ (w.heap.size+1) 35 rr (0,0) _ rfl HY3.out Tryz.underlying35 rfl (by rw[←HRR.out];kernel_rfl)) rfl ⟨A',n,c',by rw[←HRR.out];rfl,⟨_,by rw[HSZ.out];omega,HSL.out⟩,HBB.out⟩
set_option maxRecDepth 100000
set_option maxHeartbeats 2000000
def hitV(name:ByteArray)(num:Int)(v:Ver):Bool:=(v.name.toList==name.toList)&&(v.num==num)
theorem ky_find1(cs:Array Value)(nm:ByteArray)(k:Int)(h0:cs[0]? =some (.string nm))(h1:cs[1]? =some (.int .i64 k))(name:ByteArray)(num:Int)(N F:Nat)(w:World)(hN:w.cell? ⟨N,0,none⟩=some (.string name))(hF:w.cell? ⟨F,0,none⟩=some (.int .i64 num)):Calls Tryz.prog 28 #[.agg cs,.pointer (some ⟨N,0,none⟩),.pointer (some ⟨F,0,none⟩)] w (Ret (.bool ((nm.toList==name.toList)&&(k==num))) w):=by
 have kN:=cell_kept ((Below.refl w.heap.size w).alloc (Nat.le_refl _) (.cells cs 35)) (Nat.le_refl _) hN;have kF:=cell_kept ((Below.refl w.heap.size w).alloc (Nat.le_refl _) (.cells cs 35)) (Nat.le_refl _) hF;clear hN hF
 cases hq:(nm.toList==name.toList)with
 | true =>
  go_enter Tryz.func28,Tryz.ntmps28;go_wp2;go_ret;exact⟨rfl,(Below.refl _ _).alloc (Nat.le_refl _) _⟩
 | false =>
  go_enter Tryz.func28,Tryz.ntmps28;go_wp2;go_ret;exact⟨rfl,(Below.refl _ _).alloc (Nat.le_refl _) _⟩
def findV(l:List Ver)(name:ByteArray)(num:Int):Option Nat:=(List.range l.length).find? (fun i=>(l[i]?).any (hitV name num))
def idxV(l:List Ver)(name:ByteArray)(num:Int):Int:=match findV l name num with
 | some k=>k
 | none => -1
theorem findV_some{l:List Ver}{name:ByteArray}{num:Int}{k:Nat}{v:Ver}(hk:l[k]? =some v)(hv:hitV name num v=true)(hb:∀(i:Nat) u,i<k→l[i]? =some u→hitV name num u=false):findV l name num=some k:=by
 unfold findV;rw[List.find?_range_eq_some];have hl:=(List.getElem?_eq_some_iff.1 hk).1;refine⟨by simp[hk,hv],by simp[hl],fun j hj=>?_⟩;have : l[j]? =some l[j]:=List.getElem?_eq_getElem (by omega);rw[this];simp[hb j _ hj this]
theorem findV_none{l:List Ver}{name:ByteArray}{num:Int}(hb:∀(i:Nat) u,l[i]? =some u→hitV name num u=false):findV l name num=none:=by
 unfold findV;rw[List.find?_eq_none];intro j hj;have hl:=List.mem_range.1 hj;have e:l[j]? =some l[j]:=List.getElem?_eq_getElem hl;rw[e];have:=hb j _ e;simp[this]
theorem sl_IndexFunc(l:List Ver)(A:Option Addr)(len cap:Nat)(name:ByteArray)(num:Int)(N F:Nat)(w:World)(hs:SlV w A len cap l)(hlen:len≤4096)(hN:w.cell? ⟨N,0,none⟩=some (.string name))(hF:w.cell? ⟨F,0,none⟩=some (.int .i64 num)) :
 Calls Tryz.prog 27 #[.slice A len cap,.func (.func 28) #[] #[.pointer (some ⟨N,0,none⟩),.pointer (some ⟨F,0,none⟩)]] w (Ret (.int .i64 (idxV l name num)) w):=by
 have HS:=Hq hs;have HN:=Hq hN;have HF:=Hq hF;have HLEN:=Hq hs.1;have hcap:=hs.2.1;have hcap2:=hs.2.2.1;clear hs hN hF;go_enter Tryz.func27,Tryz.ntmps27;go_wp2;go_loopw [8] (fun k wr=>∃ j:Nat,j≤len∧k=.int .i64 j∧(∀(i:Nat) u,i<j→l[i]? =some u→hitV name num u=false)∧Below w.heap.size w wr) (fun k _=>len - (intOf k).toNat);case atStart=>exact⟨0,Nat.zero_le _,rfl,fun i u h=>absurd h (Nat.not_lt_zero _),Below.refl _ _⟩
 case round =>
  obtain⟨j,hj,rfl,hall,hB⟩:=hrel;have HALL:=Hq hall;have HB:=Hq hB;clear hall hB;by_cases hlt:j<len
  · obtain⟨b,o,rfl⟩:=HS.out.head (by omega);obtain⟨v,he⟩:∃ v,l[j]? =some v:=⟨_,List.getElem?_eq_getElem (by rw[HLEN.out];exact hlt)⟩;obtain⟨A1,n1,c1,hvc,_⟩:=(HS.out.kept HB.out (Nat.le_refl _)).get? j he;have HE:=Hq he;have hra:wr.rangeAt b (o+j * 18) (v.vals (.slice A1 n1 c1)):=hvc;have hsz:(Tryz.prog.info? 35).map (·.size)=some (v.vals (.slice A1 n1 c1)).length:=by kernel_rfl
    have HC:=Hq (ky_find1 (v.vals (.slice A1 n1 c1)).toArray v.name v.num rfl rfl name num N F wr (cell_kept HB.out (Nat.le_refl _) HN.out) (cell_kept HB.out (Nat.le_refl _) HF.out));obtain⟨cs,hcs⟩:∃ cs,v.vals (.slice A1 n1 c1)=cs:=⟨_,rfl⟩;rw[hcs]at hra hsz HC;have HRA:=Hq hra;have HSZ:=Hq hsz;clear hvc he hcs hra hsz;go_upto_region 4 with fail
    refine wp_region_lit ?_;iterate 13 go_step
    refine wp_load_mid 35 _ rfl b (o+j * 18) rfl cs _ HRA.out Tryz.underlying35 rfl HSZ.out ?_;go_wp2_with fail;refine HC.out.mono ?_;rintro e w1 ⟨rfl,hb1⟩;have HB1:=Hq (HB.out.trans (hb1.mono HB.out.size));clear hb1
    cases hh:((v.name.toList==name.toList)&&(v.num==num))with
    | true =>
     have HI:=Hq (show idxV l name num=(j:Int)from by unfold idxV;rw[findV_some HE.out hh HALL.out]);clear hh;go_wp2;go_ret;exact⟨by rw[HI.out];rfl,HB1.out⟩
    | false =>
     have HA2:=Hq (show ∀(i:Nat) u,i<j+1→l[i]? =some u→hitV name num u=false from fun i u hi hu=>by
      rcases Nat.lt_or_ge i j with a | a
      · exact HALL.out i u a hu
      · obtain rfl:i=j:=by omega
        rw[HE.out]at hu;cases hu
        exact hh)
     clear hh;go_wp2;go_roundw;case rel=>exact⟨j+1,by omega,by go_num,HA2.out,HB1.out⟩
     case measure=>simp[intOf];omega
  · obtain rfl:j=len:=by omega
    have HI:=Hq (show idxV l name num = -1 from by unfold idxV;rw[findV_none (fun i u hu=>HALL.out i u (by have:=(List.getElem?_eq_some_iff.1 hu).1;have:=HLEN.out;omega) hu)]);clear hlt hj;go_wp2;go_ret;exact⟨by rw[HI.out];rfl,HB.out⟩
end Go.Proofs.YtamhonjkgkmdbaaGreatDoor

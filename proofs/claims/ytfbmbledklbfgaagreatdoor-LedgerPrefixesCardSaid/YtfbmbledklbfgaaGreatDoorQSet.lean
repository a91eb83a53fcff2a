import Derived.Test.YtfbmbledklbfgaaGreatDoorQEnt
set_option linter.unusedVariables false
set_option linter.unusedSimpArgs false
namespace Go.Proofs.YtfbmbledklbfgaaGreatDoor
open Go.RowKit
theorem addr_add(b o j:Nat):(⟨b,o,none⟩:Addr).add j=⟨b,o+j,none⟩:=by unfold Addr.add;split<;>simp_all
def SlN(w:World)(A:Option Addr)(len cap:Nat)(l:List ByteArray):Prop:=
 l.length=len∧len≤cap∧cap≤9223372036854775807∧∃ b o,(0<len→A=some ⟨b,o,none⟩)∧∀ k s,l[k]? =some s→w.cell? ⟨b,o+k,none⟩=some (.string s)
theorem SlN.kept{B:Nat}{w w':World}(hb:Below B w w')(hB:w.heap.size≤B){A:Option Addr}{len cap:Nat}{l:List ByteArray}(h:SlN w A len cap l):SlN w' A len cap l:=
 let ⟨h1,h2,h3,b,o,h4,h5⟩:=h
 ⟨h1,h2,h3,b,o,h4,fun k e hk=>cell_kept hb hB (h5 k e hk)⟩
theorem SlN.head{w:World}{A:Option Addr}{len cap:Nat}{l:List ByteArray}(h:SlN w A len cap l)(h0:0<len):∃ b o,A=some ⟨b,o,none⟩:=
 let ⟨_,_,_,b,o,h4,_⟩:=h
 ⟨b,o,h4 h0⟩
theorem SlN.get?{w:World}{b o len cap:Nat}{l:List ByteArray}(h:SlN w (some ⟨b,o,none⟩) len cap l)(k:Nat){s:ByteArray}(hk:l[k]? =some s):w.cell? ⟨b,o+k,none⟩=some (.string s):=by
 obtain⟨h1,h2,h3,b',o',h4,h5⟩:=h;have hl:=(List.getElem?_eq_some_iff.1 hk).1;have:=h4 (by omega);simp only[Option.some.injEq,Addr.mk.injEq,and_true]at this;obtain⟨rfl,rfl⟩:=this;exact h5 k s hk
theorem SlN.cells{w:World}{ad:Addr}{len cap:Nat}{l:List ByteArray}(h:SlN w (some ad) len cap l):∀ j u,(l.map Value.string)[j]? =some u→w.cell? (ad.add j)=some u:=by
 intro j u hj;rw[List.getElem?_map,Option.map_eq_some_iff]at hj;obtain⟨s,hs,rfl⟩:=hj;have hlt:=(List.getElem?_eq_some_iff.1 hs).1;obtain⟨b,o,e⟩:=h.head (by have:=h.1;omega);cases e;rw[addr_add];exact h.get? j hs
theorem SlN.of_owns{w:World}{base:Nat}{T:TypeId}{v:Value}{n:Nat}{l:List ByteArray}(h:w.ownsRow base T 1 v n (l.map Value.string)):l.length=n∧∃ A cap,v=.slice A n cap∧SlN w A n cap l:=by
 have hl:=h.1;rw[List.length_map]at hl;have hln:l.length=n:=by omega
 refine⟨hln,?_⟩;rcases h.2 with⟨hv,h0⟩ | ⟨g,cap,cur,hv,hb,hh,hc,hm,hs,ht⟩
 · subst h0;have : l=[]:=List.length_eq_zero_iff.1 hln;subst this;exact⟨none,0,hv,rfl,Nat.le_refl _,by omega,0,0,fun h=>by omega,fun k e h=>by simp at h⟩
 · refine⟨_,cap,hv,hln,hc,by unfold maxLen at hm;exact hm,g,0,fun _=>rfl,fun k s hk=>?_⟩;have hcell:=h.cells (g:=g) (by rw[hv];rfl) k (.string s) (by rw[List.getElem?_map,hk];rfl);rw[addr_add]at hcell;exact hcell
theorem SlN.nil(w:World)(cap:Nat)(h:cap≤9223372036854775807)(A:Option Addr):SlN w A 0 cap []:=⟨rfl,Nat.zero_le _,h,0,0,fun h=>by omega,fun k e h=>by simp at h⟩
theorem strs_one(l:List ByteArray):∀ u∈l.map Value.string,u.oneCell'=true:=by
 intro u h;obtain⟨s,_,rfl⟩:=List.mem_map.1 h;rfl
def RetRow(T:TypeId)(size n:Nat)(vs:List Value)(w:World)(e:Ending)(w':World):Prop:=∃ v,e=.returned v∧w'.ownsRow w.heap.size T size v n vs∧Below w.heap.size w w'
def RetNs(l:List ByteArray)(k:IntKind)(f:Int)(w:World)(e:Ending)(w':World):Prop:=∃ A cap,e=.returned (.tuple #[.slice A l.length cap,.int k f])∧SlN w' A l.length cap l∧Below w.heap.size w w'
theorem RetNs.mk'{w w':World}{v:Value}{n B:Nat}{T:TypeId}{l:List ByteArray}{f:Int}(h:w'.ownsRow B T 1 v n (l.map Value.string))(hb:Below w.heap.size w w'):RetNs l .i64 f w (.returned (.tuple #[v,.int .i64 f])) w':=by
 obtain⟨hl,A,cap,rfl,hs⟩:=SlN.of_owns h;subst hl;exact⟨A,cap,rfl,hs,hb⟩
theorem nat_info:(Tryz.prog.info? 22).map (fun i=>(i.zero,i.size,i.bytes))=some (some (.string ⟨#[]⟩),1,16):=by kernel_rfl
theorem below_dN{B:Nat}{w0 w:World}(h:Below B w0 w)(q:Nat):Below B w0 (w.drewN q):=h.trans ⟨rfl,rfl,rfl,Nat.le_refl _,fun _ _=>rfl⟩
theorem sln_alloc(w:World)(l:List ByteArray)(T:TypeId)(h:l.length≤9223372036854775807:=by decide):SlN (w.alloc (.cells (l.map Value.string).toArray T)) (some ⟨w.heap.size,0,none⟩) l.length l.length l:=by
 refine⟨rfl,Nat.le_refl _,h,w.heap.size,0,fun _=>rfl,fun k s hk=>?_⟩;rw[World.cell?_alloc_at (hn:=rfl),Nat.zero_add];simp[hk]
theorem own_alloc(w:World)(l:List ByteArray)(T:TypeId)(B:Nat)(hB:B≤w.heap.size)(h:l.length≤maxLen):(w.alloc (.cells (l.map Value.string).toArray T)).ownsRow B T 1 (.slice (some ⟨w.heap.size,0,none⟩) l.length l.length) l.length (l.map Value.string):=
 ⟨by simp,.inr ⟨w.heap.size,l.length,_,rfl,hB,heap_alloc_new w _,Nat.le_refl _,h,by simp,by rw[Nat.mul_one];exact List.take_of_length_le (by simp)⟩⟩
def RetB(B:Nat)(v:Value)(w:World)(e:Ending)(w':World):Prop:=e=.returned v∧Below B w w'
set_option maxRecDepth 100000
set_option maxHeartbeats 1000000
def En.cells(e:En):List Value:=[.int .i64 e.kind,.string e.handle,.string e.schema,.int .i64 e.epoch]
def enVals:List En→List Value
 | []=>[]
 | e::l=>e.cells++enVals l
theorem enVals_append(l m:List En):enVals (l++m)=enVals l++enVals m:=by
 induction l with
 | nil=>rfl
 | cons e l ih=>simp[enVals,ih]
theorem enVals_length(l:List En):(enVals l).length=l.length * 4:=by
 induction l with
 | nil=>rfl
 | cons e l ih=>simp only[enVals,List.length_append,ih,List.length_cons,En.cells,List.length_nil];omega
theorem enVals_get:∀(l:List En) (k r:Nat) (e:En),l[k]? =some e→r<4→(enVals l)[k * 4+r]? =e.cells[r]?
 | [],k,r,e,h,_=>by simp at h
 | x::l,0,r,e,h,hr=>by
  simp only[List.getElem?_cons_zero,Option.some.injEq]at h;subst h;rw[enVals,Nat.zero_mul,Nat.zero_add,List.getElem?_append_left (by simp[En.cells];omega)]
 | x::l,k+1,r,e,h,hr=>by
  rw[List.getElem?_cons_succ]at h;have:=enVals_get l k r e h hr;rw[enVals,List.getElem?_append_right (by simp[En.cells];omega)];rw[←this];congr 1;simp only[En.cells,List.length_cons,List.length_nil];omega
theorem enVals_one(l:List En):∀ u∈enVals l,u.oneCell'=true:=by
 induction l with
 | nil=>intro u h;cases h
 | cons e l ih =>
  intro u h;rcases List.mem_append.1 h with h | h
  · simp only[En.cells,List.mem_cons,List.mem_nil_iff,or_false]at h;rcases h with rfl | rfl | rfl | rfl<;>rfl
  · exact ih u h
theorem SlE.cells{w:World}{ad:Addr}{len cap:Nat}{l:List En}(h:SlE w (some ad) len cap l):∀ j u,(enVals l)[j]? =some u→w.cell? (ad.add j)=some u:=by
 intro j u hj;have hlt:=(List.getElem?_eq_some_iff.1 hj).1;rw[enVals_length]at hlt;obtain⟨b,o,e⟩:=h.head (by have:=h.1;omega);cases e;obtain⟨e,he⟩:∃ e,l[j / 4]? =some e:=⟨_,List.getElem?_eq_getElem (by omega)⟩;have hc:=h.get? _ he;have hg:=enVals_get l (j / 4) (j%4) e he (by omega);rw[show j / 4 * 4+j%4=j from by omega,hj]at hg;rw[addr_add,show o+j=o+j / 4 * 4+j%4 from by omega];have h4:j%4<4:=by omega
 revert hg
 generalize j%4=r at h4
 match r,h4 with
 | 0,_=>intro hg;rw[hg];exact hc.1
 | 1,_=>intro hg;rw[hg];exact hc.2.1
 | 2,_=>intro hg;rw[hg];exact hc.2.2.1
 | 3,_=>intro hg;rw[hg];exact hc.2.2.2
theorem SlE.of_owns{w:World}{base:Nat}{T:TypeId}{v:Value}{n:Nat}{l:List En}(h:w.ownsRow base T 4 v n (enVals l)):l.length=n∧∃ A cap,v=.slice A n cap∧SlE w A n cap l:=by
 have hl:=h.1;rw[enVals_length]at hl;have hln:l.length=n:=by omega
 refine⟨hln,?_⟩;rcases h.2 with⟨hv,h0⟩ | ⟨g,cap,cur,hv,hb,hh,hc,hm,hs,ht⟩
 · subst h0;have : l=[]:=List.length_eq_zero_iff.1 hln;subst this;exact⟨none,0,hv,rfl,Nat.le_refl _,by omega,0,0,fun h=>by omega,fun k e h=>by simp at h⟩
 · refine⟨_,cap,hv,hln,hc,by unfold maxLen at hm;exact hm,g,0,fun _=>rfl,fun k e he=>?_⟩;have hcell:=h.cells (g:=g) (by rw[hv];rfl);have hx:∀ r,r<4→∀ u,e.cells[r]? =some u→w.cell? ⟨g,0+k * 4+r,none⟩=some u:=fun r hr u hu=>by
    have:=hcell (k * 4+r) u (by rw[enVals_get l k r e he hr];exact hu);rw[addr_add]at this;rw[show 0+k * 4+r=0+(k * 4+r)from by omega];exact this
   exact⟨hx 0 (by omega) _ rfl,hx 1 (by omega) _ rfl,hx 2 (by omega) _ rfl,hx 3 (by omega) _ rfl⟩
theorem SlE.nil(w:World)(cap:Nat)(h:cap≤9223372036854775807)(A:Option Addr):SlE w A 0 cap []:=⟨rfl,Nat.zero_le _,h,0,0,fun h=>by omega,fun k e h=>by simp at h⟩
def RetEs(l:List En)(k:IntKind)(f:Int)(w:World)(e:Ending)(w':World):Prop:=∃ A cap,e=.returned (.tuple #[.slice A l.length cap,.int k f])∧SlE w' A l.length cap l∧Below w.heap.size w w'
theorem RetEs.mk'{w w':World}{v:Value}{n B:Nat}{T:TypeId}{l:List En}{f:Int}(h:w'.ownsRow B T 4 v n (enVals l))(hb:Below w.heap.size w w'):RetEs l .i64 f w (.returned (.tuple #[v,.int .i64 f])) w':=by
 obtain⟨hl,A,cap,rfl,hs⟩:=SlE.of_owns h;subst hl;exact⟨A,cap,rfl,hs,hb⟩
theorem enVals_snoc(l:List En)(e:En):enVals l++e.cells=enVals (l++[e]):=by rw[enVals_append];simp[enVals]
theorem en_info:(Tryz.prog.info? 43).map (fun i=>(i.zero,i.size,i.bytes))=some (some (.agg #[.int .i64 0,.string ⟨#[]⟩,.string ⟨#[]⟩,.int .i64 0]),4,48):=by kernel_rfl
theorem cl_entries(l:List En)(A:Option Addr)(len cap:Nat)(w:World)(hs:SlE w A len cap l)(hlb:len≤1000000000000):Calls Tryz.prog 37 #[.slice A len cap] w (RetRow 43 4 len (enVals l) w):=by
 have hee:=fun(w:World) (a:Option Addr) (n c:Nat)=>Lib.run_eql_slice_nil (P:=Tryz.prog) w 27 43 a n c 0 0 Tryz.underlying27
 cases A with
 | none =>
  have h0:len=0:=by
   rcases Nat.eq_zero_or_pos len with h | h
   · exact h
   · obtain⟨b,o,e⟩:=hs.head h;cases e
  subst h0;have hl:l=[]:=List.length_eq_zero_iff.1 hs.1;subst hl;clear hs;go_enter Tryz.func37,Tryz.ntmps37;go_wp2;go_ret;exact⟨_,rfl,World.ownsRow_nil _ _ _ _,Below.refl _ _⟩
 | some ad =>
  have hcells:=hs.cells;have hvl:=enVals_length l;rw[hs.1]at hvl;have HC:=Hq hcells;have HV:=Hq hvl;have HO:=Hq (enVals_one l);obtain⟨i0,hi,hz0,hz1,hz2⟩:=info_parts en_info;clear hs hcells hvl;go_enter Tryz.func37,Tryz.ntmps37;go_wp2_with (at_builtin;refine wpList_append_own _ rfl (.tmp 5) (.tmp 6) 27 rfl w.heap.size 43 i0 _ 4 48 Tryz.underlying27 hi hz0 hz1 hz2 rfl (by decide) _ 0 [] rfl (World.ownsRow_made w _ _ nlr ?h0 ?h9) ad len cap (enVals l) rfl ?h1 ?h2 HO.out ?h4 ?h5 ?h6 ?_);case h0=>unfold maxLen;omega
  case h9=>rfl
  case h1=>exact HV.out
  case h2=>exact fun j u hj=>cell_kept (w:=w) ((blr).alloc nlr _) nlr (HC.out j u hj)
  case h4=>unfold maxLen;omega
  case h5=>omega
  case h6=>simp
  intro v' w' hown hgrow _;have hb:Below w.heap.size w w':=((blr).alloc nlr _).grown hgrow (by simp) (fun k e=>by simp only[Value.ownBlock,Option.some.injEq]at e;omega);have HOWN:=Hq hown;have HB:=Hq hb;clear hown hgrow hb;go_wp2;go_ret;exact⟨_,rfl,HOWN.out,HB.out⟩
def folF(f:Int)(n m:Nat)(was gone:Bool)(q p:Int):Int:=
 if f≠0 then f else if 4096≤n then 6 else if p≠(m:Int)+(if q=2 then 1 else 0)then 21 else if q=0∧was=true then 8 else if q=1∧was=false then 9 else if q=1∧gone=true then 20 else 0
def followsS(l:List En)(e:En):Int:=folF (msgS e).2 l.length (epochN l) (hasB l 0 e.handle) (hasB l 1 e.handle) e.kind e.epoch
theorem folF_f{f:Int}(h:f≠0)(n m:Nat)(a b:Bool)(q p:Int):folF f n m a b q p=f:=by unfold folF;rw[if_pos h]
theorem folF_n{n:Nat}(h:4096≤n)(m:Nat)(a b:Bool)(q p:Int):folF 0 n m a b q p=6:=by unfold folF;rw[if_neg (by simp),if_pos h]
theorem folF_p{n m:Nat}(h:n<4096){q p:Int}(hp:p≠(m:Int)+(if q=2 then 1 else 0))(a b:Bool):folF 0 n m a b q p=21:=by unfold folF;rw[if_neg (by simp),if_neg (by omega),if_pos hp]
theorem folF_s{n m:Nat}(h:n<4096){q p:Int}(hp:p=(m:Int)+(if q=2 then 1 else 0))(a b:Bool):folF 0 n m a b q p=if q=0∧a=true then 8 else if q=1∧a=false then 9 else if q=1∧b=true then 20 else 0:=by
 unfold folF;rw[if_neg (by simp),if_neg (by omega),if_neg (by simp[hp])]
theorem msg_kind{e:En}(h:(msgS e).2=0):e.kind=0∨e.kind=1∨e.kind=2:=by
 unfold msgS formB at h;by_cases h0:e.kind=0
 · exact .inl h0
 · by_cases h1:e.kind=1
   · exact .inr (.inl h1)
   · by_cases h2:e.kind=2
     · exact .inr (.inr h2)
     · simp[h0,h1,h2]at h
set_option maxRecDepth 100000
set_option maxHeartbeats 2000000
open Go.Maps Go.WideMaps
theorem lawN:Keyed Tryz.prog 22:=string_keyed Tryz.underlying22
theorem zeroU(w:World):(zeroValue 91).run Tryz.prog w=.ok (.agg #[]) w:=by kernel_rfl
theorem keyN{s:ByteArray}(h:s.size≤maxLen):keyOf Tryz.prog 22 (.string s)=some (.string s.data.toList):=keyOf_string_mk Tryz.underlying22 h
def SetM(w:World)(b n:Nat)(mem:ByteArray→Bool):Prop:=∃ D:DataW Unit,w.ownsMap Tryz.prog 22 (unitElem (H:=Unit)) b n D∧∀ s:ByteArray,Maps.has D (.string s.data.toList)=mem s
theorem SetM.made(w:World):SetM (w.alloc (.map #[] 0)) w.heap.size 0 (fun _=>false):=⟨_,World.ownsMap_made _ _ _ _,fun _=>rfl⟩
theorem SetM.of_block{w w':World}{b n:Nat}{mem:ByteArray→Bool}(h:SetM w b n mem)(e:w'.heap[b]? =w.heap[b]?):SetM w' b n mem:=by
 obtain⟨D,⟨es,clock,h1,h2⟩,h3⟩:=h;exact⟨D,⟨es,clock,e.trans h1,h2⟩,h3⟩
theorem SetM.lt{w:World}{b n:Nat}{mem:ByteArray→Bool}(h:SetM w b n mem):b<w.heap.size:=by
 obtain⟨D,h1,_⟩:=h;exact h1.lt
theorem SetM.kept{B:Nat}{w w':World}{b n:Nat}{mem:ByteArray→Bool}(h:SetM w b n mem)(hb:Below B w w')(hB:w.heap.size≤B):SetM w' b n mem:=
 h.of_block (hb.block b (Nat.lt_of_lt_of_le h.lt hB))
theorem SetM.mono{w:World}{b n n':Nat}{mem:ByteArray→Bool}(h:SetM w b n mem)(hn:n≤n'):SetM w b n' mem:=by
 obtain⟨D,h1,h2⟩:=h;exact⟨D,h1.mono hn,h2⟩
theorem SetM.congr{w:World}{b n:Nat}{mem mem':ByteArray→Bool}(h:SetM w b n mem)(he:∀ s,mem s=mem' s):SetM w b n mem':=by
 obtain⟨D,h1,h2⟩:=h;exact⟨D,h1,fun s=>(h2 s).trans (he s)⟩
def StCells(w:World)(sb n m bi br:Nat):Prop:=w.heap[sb]? =some (.cells #[.int .i64 n,.int .i64 m,.map (some bi),.map (some br)] 90 (0,0))
def StAt(w:World)(sb n m bi br:Nat)(I R:ByteArray→Bool):Prop:=StCells w sb n m bi br∧SetM w bi n I∧SetM w br n R∧bi≠br∧sb≠bi∧sb≠br
theorem StAt.kept{B:Nat}{w w':World}{sb n m bi br:Nat}{I R:ByteArray→Bool}(h:StAt w sb n m bi br I R)(hb:Below B w w')(hB:w.heap.size≤B):StAt w' sb n m bi br I R:=
 ⟨block_kept hb hB h.1,h.2.1.kept hb hB,h.2.2.1.kept hb hB,h.2.2.2⟩
theorem StAt.alloc{w:World}{sb n m bi br:Nat}{I R:ByteArray→Bool}(h:StAt w sb n m bi br I R)(o:Obj):StAt (w.alloc o) sb n m bi br I R:=
 h.kept ((blr).alloc nlr o) nlr
def AddPost(B sb n m bi br:Nat)(I R:ByteArray→Bool)(q:Int)(h:ByteArray)(w:World)(e:Ending)(w':World):Prop:=
 e=.returned (.tuple #[])∧StAt w' sb (n+1) (m+if q=2 then 1 else 0) bi br (fun u=>I u||(q==0&&decide (h=u))) (fun u=>R u||(q==1&&decide (h=u)))∧Below B w w'
theorem set_put{w':World}{b n:Nat}{mem:ByteArray→Bool}{h:ByteArray}{D:DataW Unit}(hmem:∀ s:ByteArray,Maps.has D (.string s.data.toList)=mem s)(hm:IsMap D) 
 (hown:w'.ownsMap Tryz.prog 22 (unitElem (H:=Unit)) b (n+1) (D.put (.string h.data.toList) (.agg []))):SetM w' b (n+1) (fun u=>mem u||decide (h=u)):=by
 have hk:WideAt.IsKeyLit (.string h.data.toList):=trivial;refine⟨_,hown,fun s=>?_⟩;by_cases e:h=s
 · subst e;rw[has_put_same hm hk];simp
 · rw[has_put_other (fun hh=>e (by simp only[Lit.string.injEq]at hh;rw[←bstr_of h,←bstr_of s,hh])),hmem s];show mem s=(mem s||decide (h=s));rw[decide_eq_false e,Bool.or_false]
theorem st_add_0(B sb n m bi br:Nat)(I R:ByteArray→Bool)(q p:Int)(h s:ByteArray)(w:World)(hst:StAt w sb n m bi br I R)(hB1:B≤sb)(hB2:B≤bi)(hB3:B≤br)(hBw:B≤w.heap.size)(hn:n≤4611686018427387904)(hmn:m≤4611686018427387904)(hh:h.size≤maxLen)(hq:(q==0)=true)(hq1:(q==1)=false)(hq2:(q==2)=false)(hqq:¬ q=2) :
 Calls Tryz.prog 62 #[.pointer (some ⟨sb,0,none⟩),.agg #[.int .i64 q,.string h,.string s,.int .i64 p]] w (AddPost B sb n m bi br I R q h w):=by
 obtain⟨hsc,hI,hR,hn1,hn2,hn3⟩:=hst;obtain⟨W0,hW0⟩:∃ W0,w.alloc (.cells #[.int .i64 q,.string h,.string s,.int .i64 p] 43)=W0:=⟨_,rfl⟩;have hb0:Below w.heap.size w W0:=by rw[←hW0];exact(blr).alloc nlr _
 have hbox:W0.heap[w.heap.size]? =some (.cells #[.int .i64 q,.string h,.string s,.int .i64 p] 43 (0,0)):=by rw[←hW0];exact heap_alloc_new _ _
 have hsc0:=block_kept hb0 nlr hsc;have hsbl:=block_lt hsc;have hI0:=hI.kept hb0 nlr;have hR0:=hR.kept hb0 nlr;have hbil:=hI.lt;have hbrl:=hR.lt;obtain⟨c0,c1,c2,c3⟩:=four_cells hsc0;obtain⟨f0,f1,f2,f3⟩:=four_free hsc0;obtain⟨b0,b1,b2,b3⟩:=four_cells hbox;have HB0:=Hq hb0;have HW0:=Hq hW0;have HSC0:=Hq hsc0;have HBOX:=Hq hbox;have HI0:=Hq hI0;have HR0:=Hq hR0;have HSC:=Hq hsc;have HI:=Hq hI;have HR:=Hq hR;clear hsc hI hR hb0 hsc0 hbox hI0 hR0;subst hW0;go_enter Tryz.func62,Tryz.ntmps62;go_wp2;obtain⟨W1,hW1⟩:∃ W1,(w.setCell ⟨sb,0,none⟩ (.int .i64 ((n:Int)+1))).alloc (.cells #[.int .i64 q,.string h,.string s,.int .i64 p] 43)=W1:=⟨_,rfl⟩;rw[hW1];have hsz:(w.setCell ⟨sb,0,none⟩ (.int .i64 ((n:Int)+1))).heap.size=w.heap.size:=by simp[World.setCell]
 have hsc1:StCells W1 sb (n+1) m bi br:=by unfold StCells;rw[←hW1,Below.heap_alloc _ _ _ (by rw[hsz];exact hsbl)];exact block_setCell HSC.out _
 have hbox1:W1.heap[w.heap.size]? =some (.cells #[.int .i64 q,.string h,.string s,.int .i64 p] 43 (0,0)):=by rw[←hW1,←hsz];exact heap_alloc_new _ _
 have hI1:SetM W1 bi n I:=HI.out.of_block (by rw[←hW1,Below.heap_alloc _ _ _ (by rw[hsz];exact hbil),Below.heap_setCell _ _ _ _ (by simp;omega)]);have hR1:SetM W1 br n R:=HR.out.of_block (by rw[←hW1,Below.heap_alloc _ _ _ (by rw[hsz];exact hbrl),Below.heap_setCell _ _ _ _ (by simp;omega)]);have hb1:Below B w W1:=by rw[←hW1];exact((Below.refl B w).setCell (p:=⟨sb,0,none⟩) hB1 _).alloc (by rw[hsz];exact hBw) _
 clear c0 c1 c2 c3 f0 f1 f2 f3 b0 b1 b2 b3 HB0 HW0 HSC0 HBOX HI0 HR0 HSC HI HR hW1 hsz;obtain⟨c0,c1,c2,c3⟩:=four_cells hsc1;obtain⟨f0,f1,f2,f3⟩:=four_free hsc1;obtain⟨b0,b1,b2,b3⟩:=four_cells hbox1;have HSC1:=Hq hsc1;have HI1:=Hq hI1;have HR1:=Hq hR1;have HB1:=Hq hb1;clear hsc1 hbox1 hI1 hR1 hb1;obtain⟨D,hown,hmem⟩:=HI1.out;have HOWN:=Hq hown;have HMEM:=Hq hmem;clear hown hmem;refine wp_region_K 7 (Below (W1.drew).heap.size (W1.drew)) (by kernel_rfl) ?_;intro hD;refine qP 0 7 rfl hD blr ?_;clear hD;intro hD;refine qP 1 6 rfl hD blr ?_;clear hD;intro hD;refine qP 2 5 rfl hD blr ?_;clear hD;intro hD;refine qT 3 4 rfl hD blr (by intro w' hS';have e0:=kc hS' c2;have e1:=kc hS' c3;have e2:=kc hS' b1;go_simp;with_reducible rfl) ?_;clear hD;intro hD;refine qP 4 3 rfl hD blr ?_;clear hD;intro hD;refine qT 5 2 rfl hD blr (by intro w' hS';have e0:=kc hS' c2;have e1:=kc hS' c3;have e2:=kc hS' b1;go_simp;with_reducible rfl) ?_;clear hD;intro hD;refine qP 6 1 rfl hD blr ?_;clear hD;intro hD;simp only[Act.put,sqA,sqB,sqC];refine wpAnyK_oneT (i:=7) (fuel:=0) (by kernel_rfl) rfl hD (by kernel_rfl) ?_;clear hD;intro K7 hK7;refine(wpList_mapUpdate_own _ rfl _ _ _ 88 rfl 22 91 lawN Tryz.underlying88 unitElem bi n D (by kernel_rfl) HOWN.out.drew (by unfold maxLen;omega) (.string h) (.agg #[]) (.string h.data.toList) (by kernel_rfl) (by kernel_rfl) (keyN hh) (.agg []) [] unitElem_mk ?_);intro w2 hown2 hgrow2;have HOWN2:=Hq hown2;have HG:=Hq hgrow2;clear hown2 hgrow2;go_wp2;refine hK7 _ _ ?_;clear hK7;intro hD;refine wpD ?_;clear hD;go_wp2;go_end0;have hz1:sb<W1.heap.size:=block_lt HSC1.out;have hset:=set_put HMEM.out HOWN.out.isMap HOWN2.out;have hoth:=(HR1.out.mono (Nat.le_succ n)).of_block (w':=w2) (HG.out.block _ HR1.out.lt (fun e=>by simp only[Option.some.injEq]at e;omega));have hcel:StCells w2 sb (n+1) m bi br:=(HG.out.block _ hz1 (fun e=>by simp only[Option.some.injEq]at e;omega)).trans HSC1.out;have hbel:Below B w w2:=HB1.out.drew.grown HG.out (Nat.le_trans hBw HB1.out.size) (fun k hk=>by simp only[Option.some.injEq]at hk;omega);refine⟨rfl,⟨by rw[if_neg hqq];exact hcel,hset.congr (fun u=>by rw[hq,Bool.true_and]),hoth.congr (fun u=>by rw[hq1,Bool.false_and,Bool.or_false]),hn1,hn2,hn3⟩,hbel⟩
theorem st_add_1(B sb n m bi br:Nat)(I R:ByteArray→Bool)(q p:Int)(h s:ByteArray)(w:World)(hst:StAt w sb n m bi br I R)(hB1:B≤sb)(hB2:B≤bi)(hB3:B≤br)(hBw:B≤w.heap.size)(hn:n≤4611686018427387904)(hmn:m≤4611686018427387904)(hh:h.size≤maxLen)(hq:(q==0)=false)(hq1:(q==1)=true)(hq2:(q==2)=false)(hqq:¬ q=2) :
 Calls Tryz.prog 62 #[.pointer (some ⟨sb,0,none⟩),.agg #[.int .i64 q,.string h,.string s,.int .i64 p]] w (AddPost B sb n m bi br I R q h w):=by
 obtain⟨hsc,hI,hR,hn1,hn2,hn3⟩:=hst;obtain⟨W0,hW0⟩:∃ W0,w.alloc (.cells #[.int .i64 q,.string h,.string s,.int .i64 p] 43)=W0:=⟨_,rfl⟩;have hb0:Below w.heap.size w W0:=by rw[←hW0];exact(blr).alloc nlr _
 have hbox:W0.heap[w.heap.size]? =some (.cells #[.int .i64 q,.string h,.string s,.int .i64 p] 43 (0,0)):=by rw[←hW0];exact heap_alloc_new _ _
 have hsc0:=block_kept hb0 nlr hsc;have hsbl:=block_lt hsc;have hI0:=hI.kept hb0 nlr;have hR0:=hR.kept hb0 nlr;have hbil:=hI.lt;have hbrl:=hR.lt;obtain⟨c0,c1,c2,c3⟩:=four_cells hsc0;obtain⟨f0,f1,f2,f3⟩:=four_free hsc0;obtain⟨b0,b1,b2,b3⟩:=four_cells hbox;have HB0:=Hq hb0;have HW0:=Hq hW0;have HSC0:=Hq hsc0;have HBOX:=Hq hbox;have HI0:=Hq hI0;have HR0:=Hq hR0;have HSC:=Hq hsc;have HI:=Hq hI;have HR:=Hq hR;clear hsc hI hR hb0 hsc0 hbox hI0 hR0;subst hW0;go_enter Tryz.func62,Tryz.ntmps62;go_wp2;obtain⟨W1,hW1⟩:∃ W1,(w.setCell ⟨sb,0,none⟩ (.int .i64 ((n:Int)+1))).alloc (.cells #[.int .i64 q,.string h,.string s,.int .i64 p] 43)=W1:=⟨_,rfl⟩;rw[hW1];have hsz:(w.setCell ⟨sb,0,none⟩ (.int .i64 ((n:Int)+1))).heap.size=w.heap.size:=by simp[World.setCell]
 have hsc1:StCells W1 sb (n+1) m bi br:=by unfold StCells;rw[←hW1,Below.heap_alloc _ _ _ (by rw[hsz];exact hsbl)];exact block_setCell HSC.out _
 have hbox1:W1.heap[w.heap.size]? =some (.cells #[.int .i64 q,.string h,.string s,.int .i64 p] 43 (0,0)):=by rw[←hW1,←hsz];exact heap_alloc_new _ _
 have hI1:SetM W1 bi n I:=HI.out.of_block (by rw[←hW1,Below.heap_alloc _ _ _ (by rw[hsz];exact hbil),Below.heap_setCell _ _ _ _ (by simp;omega)]);have hR1:SetM W1 br n R:=HR.out.of_block (by rw[←hW1,Below.heap_alloc _ _ _ (by rw[hsz];exact hbrl),Below.heap_setCell _ _ _ _ (by simp;omega)]);have hb1:Below B w W1:=by rw[←hW1];exact((Below.refl B w).setCell (p:=⟨sb,0,none⟩) hB1 _).alloc (by rw[hsz];exact hBw) _
 clear c0 c1 c2 c3 f0 f1 f2 f3 b0 b1 b2 b3 HB0 HW0 HSC0 HBOX HI0 HR0 HSC HI HR hW1 hsz;obtain⟨c0,c1,c2,c3⟩:=four_cells hsc1;obtain⟨f0,f1,f2,f3⟩:=four_free hsc1;obtain⟨b0,b1,b2,b3⟩:=four_cells hbox1;have HSC1:=Hq hsc1;have HI1:=Hq hI1;have HR1:=Hq hR1;have HB1:=Hq hb1;clear hsc1 hbox1 hI1 hR1 hb1;obtain⟨D,hown,hmem⟩:=HR1.out;have HOWN:=Hq hown;have HMEM:=Hq hmem;clear hown hmem;refine wp_region_K 7 (Below (W1.drew).heap.size (W1.drew)) (by kernel_rfl) ?_;intro hD;refine qP 0 7 rfl hD blr ?_;clear hD;intro hD;refine qP 1 6 rfl hD blr ?_;clear hD;intro hD;refine qP 2 5 rfl hD blr ?_;clear hD;intro hD;refine qT 3 4 rfl hD blr (by intro w' hS';have e0:=kc hS' c2;have e1:=kc hS' c3;have e2:=kc hS' b1;go_simp;with_reducible rfl) ?_;clear hD;intro hD;refine qP 4 3 rfl hD blr ?_;clear hD;intro hD;refine qT 5 2 rfl hD blr (by intro w' hS';have e0:=kc hS' c2;have e1:=kc hS' c3;have e2:=kc hS' b1;go_simp;with_reducible rfl) ?_;clear hD;intro hD;refine qP 6 1 rfl hD blr ?_;clear hD;intro hD;simp only[Act.put,sqA,sqB,sqC];refine wpAnyK_oneT (i:=7) (fuel:=0) (by kernel_rfl) rfl hD (by kernel_rfl) ?_;clear hD;intro K7 hK7;refine(wpList_mapUpdate_own _ rfl _ _ _ 88 rfl 22 91 lawN Tryz.underlying88 unitElem br n D (by kernel_rfl) HOWN.out.drew (by unfold maxLen;omega) (.string h) (.agg #[]) (.string h.data.toList) (by kernel_rfl) (by kernel_rfl) (keyN hh) (.agg []) [] unitElem_mk ?_);intro w2 hown2 hgrow2;have HOWN2:=Hq hown2;have HG:=Hq hgrow2;clear hown2 hgrow2;go_wp2;refine hK7 _ _ ?_;clear hK7;intro hD;refine wpD ?_;clear hD;go_wp2;go_end0;have hz1:sb<W1.heap.size:=block_lt HSC1.out;have hset:=set_put HMEM.out HOWN.out.isMap HOWN2.out;have hoth:=(HI1.out.mono (Nat.le_succ n)).of_block (w':=w2) (HG.out.block _ HI1.out.lt (fun e=>by simp only[Option.some.injEq]at e;omega));have hcel:StCells w2 sb (n+1) m bi br:=(HG.out.block _ hz1 (fun e=>by simp only[Option.some.injEq]at e;omega)).trans HSC1.out;have hbel:Below B w w2:=HB1.out.drew.grown HG.out (Nat.le_trans hBw HB1.out.size) (fun k hk=>by simp only[Option.some.injEq]at hk;omega);refine⟨rfl,⟨by rw[if_neg hqq];exact hcel,hoth.congr (fun u=>by rw[hq,Bool.false_and,Bool.or_false]),hset.congr (fun u=>by rw[hq1,Bool.true_and]),hn1,hn2,hn3⟩,hbel⟩
theorem st_add_3(B sb n m bi br:Nat)(I R:ByteArray→Bool)(q p:Int)(h s:ByteArray)(w:World)(hst:StAt w sb n m bi br I R)(hB1:B≤sb)(hB2:B≤bi)(hB3:B≤br)(hBw:B≤w.heap.size)(hn:n≤4611686018427387904)(hmn:m≤4611686018427387904)(hh:h.size≤maxLen)(hq:(q==0)=false)(hq1:(q==1)=false)(hq2:(q==2)=false)(hqq:¬ q=2) :
 Calls Tryz.prog 62 #[.pointer (some ⟨sb,0,none⟩),.agg #[.int .i64 q,.string h,.string s,.int .i64 p]] w (AddPost B sb n m bi br I R q h w):=by
 obtain⟨hsc,hI,hR,hn1,hn2,hn3⟩:=hst;obtain⟨W0,hW0⟩:∃ W0,w.alloc (.cells #[.int .i64 q,.string h,.string s,.int .i64 p] 43)=W0:=⟨_,rfl⟩;have hb0:Below w.heap.size w W0:=by rw[←hW0];exact(blr).alloc nlr _
 have hbox:W0.heap[w.heap.size]? =some (.cells #[.int .i64 q,.string h,.string s,.int .i64 p] 43 (0,0)):=by rw[←hW0];exact heap_alloc_new _ _
 have hsc0:=block_kept hb0 nlr hsc;have hsbl:=block_lt hsc;have hI0:=hI.kept hb0 nlr;have hR0:=hR.kept hb0 nlr;have hbil:=hI.lt;have hbrl:=hR.lt;obtain⟨c0,c1,c2,c3⟩:=four_cells hsc0;obtain⟨f0,f1,f2,f3⟩:=four_free hsc0;obtain⟨b0,b1,b2,b3⟩:=four_cells hbox;have HB0:=Hq hb0;have HW0:=Hq hW0;have HSC0:=Hq hsc0;have HBOX:=Hq hbox;have HI0:=Hq hI0;have HR0:=Hq hR0;have HSC:=Hq hsc;have HI:=Hq hI;have HR:=Hq hR;clear hsc hI hR hb0 hsc0 hbox hI0 hR0;subst hW0;go_enter Tryz.func62,Tryz.ntmps62;go_wp2;go_end0;obtain⟨W1,hW1⟩:∃ W1,(w.setCell ⟨sb,0,none⟩ (.int .i64 ((n:Int)+1))).alloc (.cells #[.int .i64 q,.string h,.string s,.int .i64 p] 43)=W1:=⟨_,rfl⟩;rw[hW1];have hsz:(w.setCell ⟨sb,0,none⟩ (.int .i64 ((n:Int)+1))).heap.size=w.heap.size:=by simp[World.setCell]
 have hsc1:StCells W1 sb (n+1) m bi br:=by unfold StCells;rw[←hW1,Below.heap_alloc _ _ _ (by rw[hsz];exact hsbl)];exact block_setCell HSC.out _
 have hbox1:W1.heap[w.heap.size]? =some (.cells #[.int .i64 q,.string h,.string s,.int .i64 p] 43 (0,0)):=by rw[←hW1,←hsz];exact heap_alloc_new _ _
 have hI1:SetM W1 bi n I:=HI.out.of_block (by rw[←hW1,Below.heap_alloc _ _ _ (by rw[hsz];exact hbil),Below.heap_setCell _ _ _ _ (by simp;omega)]);have hR1:SetM W1 br n R:=HR.out.of_block (by rw[←hW1,Below.heap_alloc _ _ _ (by rw[hsz];exact hbrl),Below.heap_setCell _ _ _ _ (by simp;omega)]);have hb1:Below B w W1:=by rw[←hW1];exact((Below.refl B w).setCell (p:=⟨sb,0,none⟩) hB1 _).alloc (by rw[hsz];exact hBw) _
 clear c0 c1 c2 c3 f0 f1 f2 f3 b0 b1 b2 b3 HB0 HW0 HSC0 HBOX HI0 HR0 HSC HI HR hW1 hsz;exact⟨rfl,⟨by rw[if_neg hqq];exact hsc1,(hI1.mono (Nat.le_succ n)).congr (fun u=>by rw[hq,Bool.false_and,Bool.or_false]),(hR1.mono (Nat.le_succ n)).congr (fun u=>by rw[hq1,Bool.false_and,Bool.or_false]),hn1,hn2,hn3⟩,hb1⟩
theorem st_add_2(B sb n m bi br:Nat)(I R:ByteArray→Bool)(q p:Int)(h s:ByteArray)(w:World)(hst:StAt w sb n m bi br I R)(hB1:B≤sb)(hB2:B≤bi)(hB3:B≤br)(hBw:B≤w.heap.size)(hn:n≤4611686018427387904)(hmn:m≤4611686018427387904)(hh:h.size≤maxLen)(hq:(q==0)=false)(hq1:(q==1)=false)(hq2:(q==2)=true)(hqq:q=2) :
 Calls Tryz.prog 62 #[.pointer (some ⟨sb,0,none⟩),.agg #[.int .i64 q,.string h,.string s,.int .i64 p]] w (AddPost B sb n m bi br I R q h w):=by
 have HQQ:=Hq hqq;clear hqq;obtain⟨hsc,hI,hR,hn1,hn2,hn3⟩:=hst;obtain⟨W0,hW0⟩:∃ W0,w.alloc (.cells #[.int .i64 q,.string h,.string s,.int .i64 p] 43)=W0:=⟨_,rfl⟩;have hb0:Below w.heap.size w W0:=by rw[←hW0];exact(blr).alloc nlr _
 have hbox:W0.heap[w.heap.size]? =some (.cells #[.int .i64 q,.string h,.string s,.int .i64 p] 43 (0,0)):=by rw[←hW0];exact heap_alloc_new _ _
 have hsc0:=block_kept hb0 nlr hsc;have hsbl:=block_lt hsc;have hI0:=hI.kept hb0 nlr;have hR0:=hR.kept hb0 nlr;have hbil:=hI.lt;have hbrl:=hR.lt;obtain⟨c0,c1,c2,c3⟩:=four_cells hsc0;obtain⟨f0,f1,f2,f3⟩:=four_free hsc0;obtain⟨b0,b1,b2,b3⟩:=four_cells hbox;have HB0:=Hq hb0;have HW0:=Hq hW0;have HSC0:=Hq hsc0;have HBOX:=Hq hbox;have HI0:=Hq hI0;have HR0:=Hq hR0;have HSC:=Hq hsc;have HI:=Hq hI;have HR:=Hq hR;clear hsc hI hR hb0 hsc0 hbox hI0 hR0;subst hW0;go_enter Tryz.func62,Tryz.ntmps62;have hsz:(w.setCell ⟨sb,0,none⟩ (.int .i64 ((n:Int)+1))).heap.size=w.heap.size:=by simp[World.setCell]
 have hV:StCells ((w.setCell ⟨sb,0,none⟩ (.int .i64 ((n:Int)+1))).alloc (.cells #[.int .i64 q,.string h,.string s,.int .i64 p] 43)) sb (n+1) m bi br:=by unfold StCells;rw[Below.heap_alloc _ _ _ (by rw[hsz];exact hsbl)];exact block_setCell HSC.out _
 obtain⟨g0,g1,g2,g3⟩:=four_cells hV;obtain⟨k0,k1,k2,k3⟩:=four_free hV;have HSZ:=Hq hsz;clear hsz hV g0 g2 g3 k0 k2 k3;go_wp2;go_end0;obtain⟨W2,hW2⟩:∃ W2,(((w.setCell ⟨sb,0,none⟩ (.int .i64 ((n:Int)+1))).setCell ⟨sb,1,none⟩ (.int .i64 ((m:Int)+1))).alloc (.cells #[.int .i64 q,.string h,.string s,.int .i64 p] 43))=W2:=⟨_,rfl⟩;rw[hW2];have hsz:((w.setCell ⟨sb,0,none⟩ (.int .i64 ((n:Int)+1))).setCell ⟨sb,1,none⟩ (.int .i64 ((m:Int)+1))).heap.size=w.heap.size:=by simp[World.setCell]
 have hsc2:StCells W2 sb (n+1) (m+1) bi br:=by unfold StCells;rw[←hW2,Below.heap_alloc _ _ _ (by rw[hsz];exact hsbl)];exact block_setCell (block_setCell HSC.out _) _
 have hI2:SetM W2 bi n I:=HI.out.of_block (by rw[←hW2,Below.heap_alloc _ _ _ (by rw[hsz];exact hbil),Below.heap_setCell _ _ _ _ (by simp;omega),Below.heap_setCell _ _ _ _ (by simp;omega)]);have hR2:SetM W2 br n R:=HR.out.of_block (by rw[←hW2,Below.heap_alloc _ _ _ (by rw[hsz];exact hbrl),Below.heap_setCell _ _ _ _ (by simp;omega),Below.heap_setCell _ _ _ _ (by simp;omega)]);have hb2:Below B w W2:=by rw[←hW2];exact(((Below.refl B w).setCell (p:=⟨sb,0,none⟩) hB1 _).setCell (p:=⟨sb,1,none⟩) hB1 _).alloc (by rw[hsz];exact hBw) _
 exact⟨rfl,⟨by rw[if_pos HQQ.out];exact hsc2,(hI2.mono (Nat.le_succ n)).congr (fun u=>by rw[hq,Bool.false_and,Bool.or_false]),(hR2.mono (Nat.le_succ n)).congr (fun u=>by rw[hq1,Bool.false_and,Bool.or_false]),hn1,hn2,hn3⟩,hb2⟩
theorem st_add(B sb n m bi br:Nat)(I R:ByteArray→Bool)(e:En)(w:World)(hst:StAt w sb n m bi br I R)(hB1:B≤sb)(hB2:B≤bi)(hB3:B≤br)(hBw:B≤w.heap.size)(hn:n≤4611686018427387904)(hmn:m≤4611686018427387904)(hh:e.handle.size≤maxLen) :
 Calls Tryz.prog 62 #[.pointer (some ⟨sb,0,none⟩),e.val] w (AddPost B sb n m bi br I R e.kind e.handle w):=by
 obtain⟨q,h,s,p⟩:=e;by_cases k0:q=0
 · exact st_add_0 B sb n m bi br I R q p h s w hst hB1 hB2 hB3 hBw hn hmn hh (eqI k0) (neI (by omega)) (neI (by omega)) (by omega)
 · by_cases k1:q=1
   · exact st_add_1 B sb n m bi br I R q p h s w hst hB1 hB2 hB3 hBw hn hmn hh (neI k0) (eqI k1) (neI (by omega)) (by omega)
   · by_cases k2:q=2
     · exact st_add_2 B sb n m bi br I R q p h s w hst hB1 hB2 hB3 hBw hn hmn hh (neI k0) (neI k1) (eqI k2) k2
     · exact st_add_3 B sb n m bi br I R q p h s w hst hB1 hB2 hB3 hBw hn hmn hh (neI k0) (neI k1) (neI k2) k2
end Go.Proofs.YtfbmbledklbfgaaGreatDoor

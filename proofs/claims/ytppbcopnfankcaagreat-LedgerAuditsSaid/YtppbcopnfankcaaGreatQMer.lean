import Derived.Test.YtppbcopnfankcaaGreatQNaE
import Derived.Test.YtppbcopnfankcaaGreatQFolC
set_option linter.unusedVariables false
set_option linter.unusedSimpArgs false
namespace Go.Proofs.YtppbcopnfankcaaGreat
set_option maxRecDepth 100000
set_option maxHeartbeats 1000000
open Go.RowKit
def En.cells(e:En):List Value:=[.int .i64 e.kind,.string e.handle,.string e.schema,.int .i64 e.epoch]
def jx:List En→List Value
 | []=>[]
 | e::l=>e.cells++jx l
theorem zjs(l m:List En):jx (l++m)=jx l++jx m:=by
 induction l with
 | nil=>rfl
 | cons e l ih=>simp[jx,ih]
theorem za9(l:List En):(jx l).length=l.length * 4:=by
 induction l with
 | nil=>rfl
 | cons e l ih=>simp only[jx,List.length_append,ih,List.length_cons,En.cells,List.length_nil];omega
theorem zdk:∀(l:List En) (k r:Nat) (e:En),l[k]? =some e→r<4→(jx l)[k * 4+r]? =e.cells[r]?
 | [],k,r,e,h,_=>by simp at h
 | x::l,0,r,e,h,hr=>by
  simp only[List.getElem?_cons_zero,Option.some.injEq]at h;subst h;rw[jx,Nat.zero_mul,Nat.zero_add,List.getElem?_append_left (by simp[En.cells];omega)]
 | x::l,k+1,r,e,h,hr=>by
  rw[List.getElem?_cons_succ]at h;have:=zdk l k r e h hr;rw[jx,List.getElem?_append_right (by simp[En.cells];omega)];rw[←this];congr 1;simp only[En.cells,List.length_cons,List.length_nil];omega
theorem zaw(l:List En):∀ u∈jx l,u.oneCell'=true:=by
 induction l with
 | nil=>intro u h;cases h
 | cons e l ih =>
  intro u h;rcases List.mem_append.1 h with h | h
  · simp only[En.cells,List.mem_cons,List.mem_nil_iff,or_false]at h;rcases h with rfl | rfl | rfl | rfl<;>rfl
  · exact ih u h
theorem SlE.cells{w:World}{ad:Addr}{len cap:Nat}{l:List En}(h:SlE w (some ad) len cap l):∀ j u,(jx l)[j]? =some u→w.cell? (ad.add j)=some u:=by
 intro j u hj;have hlt:=(List.getElem?_eq_some_iff.1 hj).1;rw[za9]at hlt;obtain⟨b,o,e⟩:=h.head (by have:=h.1;omega);cases e;obtain⟨e,he⟩:∃ e,l[j / 4]? =some e:=⟨_,List.getElem?_eq_getElem (by omega)⟩;have hc:=h.get? _ he;have hg:=zdk l (j / 4) (j%4) e he (by omega);rw[show j / 4 * 4+j%4=j from by omega,hj]at hg;rw[zaf,show o+j=o+j / 4 * 4+j%4 from by omega];have h4:j%4<4:=by omega
 revert hg
 generalize j%4=r at h4
 match r,h4 with
 | 0,_=>intro hg;rw[hg];exact hc.1
 | 1,_=>intro hg;rw[hg];exact hc.2.1
 | 2,_=>intro hg;rw[hg];exact hc.2.2.1
 | 3,_=>intro hg;rw[hg];exact hc.2.2.2
theorem SlE.of_owns{w:World}{base:Nat}{T:TypeId}{v:Value}{n:Nat}{l:List En}(h:w.ownsRow base T 4 v n (jx l)):l.length=n∧∃ A cap,v=.slice A n cap∧SlE w A n cap l:=by
 have hl:=h.1;rw[za9]at hl;have hln:l.length=n:=by omega
 refine⟨hln,?_⟩;rcases h.2 with⟨hv,h0⟩ | ⟨g,cap,cur,hv,hb,hh,hc,hm,hs,ht⟩
 · subst h0;have : l=[]:=List.length_eq_zero_iff.1 hln;subst this;exact⟨none,0,hv,rfl,Nat.le_refl _,by omega,0,0,fun h=>by omega,fun k e h=>by simp at h⟩
 · refine⟨_,cap,hv,hln,hc,by unfold maxLen at hm;exact hm,g,0,fun _=>rfl,fun k e he=>?_⟩;have hcell:=h.cells (g:=g) (by rw[hv];rfl);have hx:∀ r,r<4→∀ u,e.cells[r]? =some u→w.cell? ⟨g,0+k * 4+r,none⟩=some u:=fun r hr u hu=>by
    have:=hcell (k * 4+r) u (by rw[zdk l k r e he hr];exact hu);rw[zaf]at this;rw[show 0+k * 4+r=0+(k * 4+r)from by omega];exact this
   exact⟨hx 0 (by omega) _ rfl,hx 1 (by omega) _ rfl,hx 2 (by omega) _ rfl,hx 3 (by omega) _ rfl⟩
theorem SlE.nil(w:World)(cap:Nat)(h:cap≤9223372036854775807)(A:Option Addr):SlE w A 0 cap []:=⟨rfl,Nat.zero_le _,h,0,0,fun h=>by omega,fun k e h=>by simp at h⟩
def RetEs(l:List En)(k:IntKind)(f:Int)(w:World)(e:Ending)(w':World):Prop:=∃ A cap,e=.returned (.tuple #[.slice A l.length cap,.int k f])∧SlE w' A l.length cap l∧Below w.heap.size w w'
theorem RetEs.mk'{w w':World}{v:Value}{n B:Nat}{T:TypeId}{l:List En}{f:Int}(h:w'.ownsRow B T 4 v n (jx l))(hb:Below w.heap.size w w'):RetEs l .i64 f w (.returned (.tuple #[v,.int .i64 f])) w':=by
 obtain⟨hl,A,cap,rfl,hs⟩:=SlE.of_owns h;subst hl;exact⟨A,cap,rfl,hs,hb⟩
theorem zgc(l:List En)(e:En):jx l++e.cells=jx (l++[e]):=by rw[zjs];simp[jx]
theorem zsq:(Tryz.prog.info? 53).map (fun i=>(i.zero,i.size,i.bytes))=some (some (.agg #[.int .i64 0,.string ⟨#[]⟩,.string ⟨#[]⟩,.int .i64 0]),4,48):=by kernel_rfl
theorem zby(l:List En)(A:Option Addr)(len cap:Nat)(w:World)(hs:SlE w A len cap l)(hlb:len≤1000000000000):Calls Tryz.prog 39 #[.slice A len cap] w (zv4 53 4 len (jx l) w):=by
 have hee:=fun(w:World) (a:Option Addr) (n c:Nat)=>Lib.run_eql_slice_nil (P:=Tryz.prog) w 30 53 a n c 0 0 Tryz.underlying30
 cases A with
 | none =>
  have h0:len=0:=by
   rcases Nat.eq_zero_or_pos len with h | h
   · exact h
   · obtain⟨b,o,e⟩:=hs.head h;cases e
  subst h0;have hl:l=[]:=List.length_eq_zero_iff.1 hs.1;subst hl;clear hs;go_enter Tryz.func39,Tryz.ntmps39;go_wp2;go_ret;exact⟨_,rfl,World.ownsRow_nil _ _ _ _,Below.refl _ _⟩
 | some ad =>
  have hcells:=hs.cells;have hvl:=za9 l;rw[hs.1]at hvl;have HC:=Hq hcells;have HV:=Hq hvl;have HO:=Hq (zaw l);obtain⟨i0,hi,hz0,hz1,hz2⟩:=info_parts zsq;clear hs hcells hvl;go_enter Tryz.func39,Tryz.ntmps39;go_wp2_with (at_builtin;refine wpList_append_own _ rfl (.tmp 5) (.tmp 6) 30 rfl w.heap.size 53 i0 _ 4 48 Tryz.underlying30 hi hz0 hz1 hz2 rfl (by decide) _ 0 [] rfl (World.ownsRow_made w _ _ nlr ?h0 ?h9) ad len cap (jx l) rfl ?h1 ?h2 HO.out ?h4 ?h5 ?h6 ?_);case h0=>unfold maxLen;omega
  case h9=>rfl
  case h1=>exact HV.out
  case h2=>exact fun j u hj=>cell_kept (w:=w) ((blr).alloc nlr _) nlr (HC.out j u hj)
  case h4=>unfold maxLen;omega
  case h5=>omega
  case h6=>simp
  intro v' w' hown hgrow _;have hb:Below w.heap.size w w':=((blr).alloc nlr _).grown hgrow (by simp) (fun k e=>by simp only[Value.ownBlock,Option.some.injEq]at e;omega);have HOWN:=Hq hown;have HB:=Hq hb;clear hown hgrow hb;go_wp2;go_ret;exact⟨_,rfl,HOWN.out,HB.out⟩
set_option maxRecDepth 100000
set_option maxHeartbeats 2000000
def appS(l:List En)(e:En):List En×Int:=if zv l e=0 then(l++[e],0)else([],zv l e)
def SzE(l:List En):Prop:=∀(k:Nat) (e:En),l[k]? =some e→e.handle.size≤maxLen
theorem zjh(l:List En)(A:Option Addr)(len cap:Nat)(e:En)(w:World)(hs:SlE w A len cap l)(hlb:len≤1000000000)(hsz:SzE l)(hh:e.handle.size≤maxLen)(hsc:e.schema.size≤9223372036854775807)(f:Int)(hf:zv l e=f)(hne:(f != 0)=true)(hll:l.length≤1000000000) :
 Calls Tryz.prog 13 #[.slice A len cap,e.val] w (RetEs [] .i64 f w):=by
 obtain⟨q,h,s,p⟩:=e;show Calls Tryz.prog _ #[.slice A len cap,.agg #[.int .i64 q,.string h,.string s,.int .i64 p]] w _;obtain⟨W0,hW0⟩:=nm (w.alloc (.cells #[.int .i64 q,.string h,.string s,.int .i64 p] 53));have hb0:Below w.heap.size w W0:=by rw[←hW0];exact(blr).alloc nlr _
 have hbox:W0.heap[w.heap.size]? =some (.cells #[.int .i64 q,.string h,.string s,.int .i64 p] 53 (0,0)):=by rw[←hW0];exact heap_alloc_new _ _
 obtain⟨c0,c1,c2,c3⟩:=zf hbox;have hz0:=zn hbox;have HS0:=Hq (hs.kept hb0 nlr);have HB0:=Hq hb0;have HW0:=Hq hW0;have HF:=Hq hf;have HSZ:=Hq hsz;clear hb0 hW0 hf hsz hs hbox;go_enter Tryz.func13,Tryz.ntmps13;go_wp2;rw[HW0.out];refine za 3 (Below (W0.drew).heap.size (W0.drew)) (by kernel_rfl) ?_;refine qPs 0 4 blr ?_;refine qTs 2 3 blr (fun w' hS'=>(And.intro (kc hS' c0) (And.intro (kc hS' c1) (And.intro (kc hS' c2) (kc hS' c3))))) ?_;refine oO 1 2 ?_;intro K1 hK1;go_wp2_with fail;refine(qy l A len cap _ (HS0.out.kept (blr).drew nlr) (by omega) HSZ.out).mono ?_;rintro e1 w1 ⟨sb,bi,br,rfl,hst,hB1,hB2,hB3,hb1⟩;have HB1:=Hq hb1;have HST:=Hq hst;clear hst hB1 hB2 hB3 hb1;go_wp2;refine hK1 _ _ (by exact HB1.out) ?_;clear hK1;intro hS_1_1;refine oT 3 1 ?_;intro K3 hK3;go_wp2_with fail;refine(zde sb _ _ bi br _ _ ⟨q,h,s,p⟩ _ HST.out hh hsc (by have:=zau l;omega)).mono ?_;rintro e2 w2 ⟨rfl,hb2⟩;have HB3:=Hq hb2;clear hb2;rw[show folF (msgS ⟨q,h,s,p⟩).2 l.length (epochN l) (hasB l 0 (En.mk q h s p).handle) (hasB l 1 (En.mk q h s p).handle) (En.mk q h s p).kind (En.mk q h s p).epoch=zv l ⟨q,h,s,p⟩from rfl,HF.out];go_wp2;refine hK3 _ _ ?_;clear hK3;refine oT 4 0 ?_;intro K4 hK4;go_wp2;refine hK4 _ _ ?_;clear hK4;refine wDn ?_;have HX:=Hq (Below.trans hS_1_1 (Below.mono HB3.out (Below.size hS_1_1)));go_wp2;go_ret2;exact⟨none,0,rfl,SlE.nil _ _ (by omega) _,HB0.out.drew.trans (HX.out.mono (by simp;omega))⟩
theorem zg9(l:List En)(A:Option Addr)(len cap:Nat)(e:En)(w:World)(hs:SlE w A len cap l)(hlb:len≤1000000000)(hsz:SzE l)(hh:e.handle.size≤maxLen)(hsc:e.schema.size≤9223372036854775807)(hf:zv l e=0)(hll:l.length≤1000000000) :
 Calls Tryz.prog 13 #[.slice A len cap,e.val] w (RetEs (l++[e]) .i64 0 w):=by
 obtain⟨i0,hi,iz0,iz1,iz2⟩:=info_parts zsq;obtain⟨q,h,s,p⟩:=e;show Calls Tryz.prog _ #[.slice A len cap,.agg #[.int .i64 q,.string h,.string s,.int .i64 p]] w _;obtain⟨W0,hW0⟩:=nm (w.alloc (.cells #[.int .i64 q,.string h,.string s,.int .i64 p] 53));have hb0:Below w.heap.size w W0:=by rw[←hW0];exact(blr).alloc nlr _
 have hbox:W0.heap[w.heap.size]? =some (.cells #[.int .i64 q,.string h,.string s,.int .i64 p] 53 (0,0)):=by rw[←hW0];exact heap_alloc_new _ _
 obtain⟨c0,c1,c2,c3⟩:=zf hbox;have hz0:=zn hbox;have HS0:=Hq (hs.kept hb0 nlr);have HB0:=Hq hb0;have HW0:=Hq hW0;have HF:=Hq hf;have HSZ:=Hq hsz;clear hb0 hW0 hf hsz hs hbox;go_enter Tryz.func13,Tryz.ntmps13;go_wp2;rw[HW0.out];refine za 3 (Below (W0.drew).heap.size (W0.drew)) (by kernel_rfl) ?_;refine qPs 0 4 blr ?_;refine qTs 2 3 blr (fun w' hS'=>(And.intro (kc hS' c0) (And.intro (kc hS' c1) (And.intro (kc hS' c2) (kc hS' c3))))) ?_;refine oO 1 2 ?_;intro K1 hK1;go_wp2_with fail;refine(qy l A len cap _ (HS0.out.kept (blr).drew nlr) (by omega) HSZ.out).mono ?_;rintro e1 w1 ⟨sb,bi,br,rfl,hst,hB1,hB2,hB3,hb1⟩;have HB1:=Hq hb1;have HST:=Hq hst;clear hst hB1 hB2 hB3 hb1;go_wp2;refine hK1 _ _ (by exact HB1.out) ?_;clear hK1;intro hS_1_1;refine oT 3 1 ?_;intro K3 hK3;go_wp2_with fail;refine(zde sb _ _ bi br _ _ ⟨q,h,s,p⟩ _ HST.out hh hsc (by have:=zau l;omega)).mono ?_;rintro e2 w2 ⟨rfl,hb2⟩;have HB3:=Hq hb2;clear hb2;rw[show folF (msgS ⟨q,h,s,p⟩).2 l.length (epochN l) (hasB l 0 (En.mk q h s p).handle) (hasB l 1 (En.mk q h s p).handle) (En.mk q h s p).kind (En.mk q h s p).epoch=zv l ⟨q,h,s,p⟩from rfl,HF.out];go_wp2;refine hK3 _ _ ?_;clear hK3;refine oT 4 0 ?_;intro K4 hK4;go_wp2;refine hK4 _ _ ?_;clear hK4;refine wDn ?_;have HX:=Hq (Below.trans hS_1_1 (Below.mono HB3.out (Below.size hS_1_1)));have d0:=kc HX.out c0;have d1:=kc HX.out c1;have d2:=kc HX.out c2;have d3:=kc HX.out c3;have HS2:=Hq (SlE.kept (w:=W0.drew) HX.out nlr (HS0.out.kept (blr).drew nlr));have HB2:=Hq (HB0.out.drew.trans (HX.out.mono (by simp;omega)));have hz2':w.heap.size<w2.heap.size:=Nat.lt_of_lt_of_le hz0 HX.out.size;clear c0 c1 c2 c3 HS0 HX HW0 HB3 HB1 HST;go_wp2;refine za 7 (Below (w2.drew).heap.size (w2.drew)) (by kernel_rfl) ?_;refine qPs 0 6 blr ?_;refine qSs 2 5 blr (fun w' hS'=>(And.intro (kc hS' d0) (And.intro (kc hS' d1) (And.intro (kc hS' d2) (kc hS' d3))))) ?_;intro hD;refine jg (i:=1) (i':=3) (fuel:=4) (by kernel_rfl) rfl rfl hD ?_ ?_ 
 · unfold xn;intro K1 hK1;go_wp2_with fail;first
   | (refine(zby l A len cap w2.drew (HS2.out.kept (blr).drew nlr) (by omega)).mono ?_)
   | (refine(zby l A len cap (w2.drew.alloc _) ((HS2.out.kept (blr).drew nlr).kept ((blr).alloc nlr _) nlr) (by omega)).mono ?_)
   rintro e1 w3 ⟨v3,rfl,hown1,hb1⟩;have HB1:=Hq hb1;have HOWN1:=Hq hown1;clear hown1 hb1;go_wp2;refine hK1 _ _ (by exact HB1.out) ?_;clear hK1;intro hS_4_1;refine oO 3 3 ?_;intro K3 hK3;go_wp2;refine hK3 _ _ (by exact Below.alloc hS_4_1 (Below.size hS_4_1) _) ?_;clear hK3;intro hS_4_3_1;refine oO 4 2 ?_;intro K4 hK4;first
   | have hown:(w3.alloc (.cells #[.int .i64 q,.string h,.string s,.int .i64 p] 53)).ownsRow w2.drew.heap.size 53 4 v3 len (jx l):=HOWN1.out.alloc _
     refine(wpList_append_lies _ rfl (.tmp 15) (.tmp 17) 30 rfl _ 53 i0 _ 4 48 Tryz.underlying30 hi iz0 iz1 iz2 rfl (by decide) v3 len (jx l) rfl hown ⟨w3.heap.size,0,none⟩ 1 1 (En.cells ⟨q,h,s,p⟩) rfl rfl (World.news_of_block (heap_alloc_new _ _)) (fun u hu=>zaw [⟨q,h,s,p⟩] u (by simpa[jx]using hu)) (by decide) (by unfold maxLen;omega) (by omega) (by have:=HB1.out.size;simp at this⊢;omega) _ rfl ?_);intro g cap7 w7 hown7 hgrow7 hat7 hlt7;have HLT:=Hq (fun k (e:v3.ownBlock=some k)=>(hown.lt k e).1);have HOWN7:=Hq hown7;have HG4:=Hq hgrow7;clear hown7 hgrow7 hat7 hlt7 hown
   | have hown:w3.ownsRow (w2.drew.alloc (.cells #[.int .i64 q,.string h,.string s,.int .i64 p] 53)).heap.size 53 4 v3 len (jx l):=HOWN1.out
     refine(wpList_append_lies _ rfl (.tmp 15) (.tmp 17) 30 rfl _ 53 i0 _ 4 48 Tryz.underlying30 hi iz0 iz1 iz2 rfl (by decide) v3 len (jx l) rfl hown ⟨w2.heap.size,0,none⟩ 1 1 (En.cells ⟨q,h,s,p⟩) rfl rfl (World.news_of_block (zr HB1.out nlr (heap_alloc_new w2.drew _))) (fun u hu=>zaw [⟨q,h,s,p⟩] u (by simpa[jx]using hu)) (by decide) (by unfold maxLen;omega) (by omega) HB1.out.size _ rfl ?_);intro g cap7 w7 hown7 hgrow7 hat7 hlt7;have HLT:=Hq (fun k (e:v3.ownBlock=some k)=>(hown.lt k e).1);have HOWN7:=Hq hown7;have HG4:=Hq hgrow7;clear hown7 hgrow7 hat7 hlt7 hown
   go_wp2;refine hK4 _ _ (by exact Below.grown hS_4_3_1 HG4.out (Below.size hS_4_3_1) (fun k e=>by have:=HLT.out k e;simp at this⊢;omega)) ?_;clear hK4;intro hS_4_4_1;refine oO 5 1 ?_;intro K5 hK5;go_wp2;refine hK5 _ _ (by exact hS_4_4_1) ?_;clear hK5;intro hS_4_5_1;refine oO 6 0 ?_;intro K6 hK6;go_wp2;refine hK6 _ _ (by exact hS_4_5_1) ?_;clear hK6;intro hS_4_6_1;refine wDn ?_;have HX:=Hq hS_4_6_1;go_wp2;go_ret2;exact RetEs.mk' (by have:=HOWN7.out;rw[zgc]at this;exact this) (HB2.out.drew.trans (HX.out.mono (by simp;omega)))
 · unfold xn;intro K3 hK3;go_wp2;refine hK3 _ _ (by exact(blr).alloc nlr _) ?_;clear hK3;intro hS_4_3;refine oO 1 3 ?_;intro K1 hK1;go_wp2_with fail;first
   | (refine(zby l A len cap w2.drew (HS2.out.kept (blr).drew nlr) (by omega)).mono ?_)
   | (refine(zby l A len cap (w2.drew.alloc _) ((HS2.out.kept (blr).drew nlr).kept ((blr).alloc nlr _) nlr) (by omega)).mono ?_)
   rintro e1 w3 ⟨v3,rfl,hown1,hb1⟩;have HB1:=Hq hb1;have HOWN1:=Hq hown1;clear hown1 hb1;go_wp2;refine hK1 _ _ (by exact Below.trans hS_4_3 (Below.mono HB1.out (Below.size hS_4_3))) ?_;clear hK1;intro hS_4_1_3;refine oO 4 2 ?_;intro K4 hK4;first
   | have hown:(w3.alloc (.cells #[.int .i64 q,.string h,.string s,.int .i64 p] 53)).ownsRow w2.drew.heap.size 53 4 v3 len (jx l):=HOWN1.out.alloc _
     refine(wpList_append_lies _ rfl (.tmp 15) (.tmp 17) 30 rfl _ 53 i0 _ 4 48 Tryz.underlying30 hi iz0 iz1 iz2 rfl (by decide) v3 len (jx l) rfl hown ⟨w3.heap.size,0,none⟩ 1 1 (En.cells ⟨q,h,s,p⟩) rfl rfl (World.news_of_block (heap_alloc_new _ _)) (fun u hu=>zaw [⟨q,h,s,p⟩] u (by simpa[jx]using hu)) (by decide) (by unfold maxLen;omega) (by omega) (by have:=HB1.out.size;simp at this⊢;omega) _ rfl ?_);intro g cap7 w7 hown7 hgrow7 hat7 hlt7;have HLT:=Hq (fun k (e:v3.ownBlock=some k)=>(hown.lt k e).1);have HOWN7:=Hq hown7;have HG4:=Hq hgrow7;clear hown7 hgrow7 hat7 hlt7 hown
   | have hown:w3.ownsRow (w2.drew.alloc (.cells #[.int .i64 q,.string h,.string s,.int .i64 p] 53)).heap.size 53 4 v3 len (jx l):=HOWN1.out
     refine(wpList_append_lies _ rfl (.tmp 15) (.tmp 17) 30 rfl _ 53 i0 _ 4 48 Tryz.underlying30 hi iz0 iz1 iz2 rfl (by decide) v3 len (jx l) rfl hown ⟨w2.heap.size,0,none⟩ 1 1 (En.cells ⟨q,h,s,p⟩) rfl rfl (World.news_of_block (zr HB1.out nlr (heap_alloc_new w2.drew _))) (fun u hu=>zaw [⟨q,h,s,p⟩] u (by simpa[jx]using hu)) (by decide) (by unfold maxLen;omega) (by omega) HB1.out.size _ rfl ?_);intro g cap7 w7 hown7 hgrow7 hat7 hlt7;have HLT:=Hq (fun k (e:v3.ownBlock=some k)=>(hown.lt k e).1);have HOWN7:=Hq hown7;have HG4:=Hq hgrow7;clear hown7 hgrow7 hat7 hlt7 hown
   go_wp2;refine hK4 _ _ (by exact Below.grown hS_4_1_3 HG4.out (Below.size hS_4_1_3) (fun k e=>by have:=HLT.out k e;simp at this⊢;omega)) ?_;clear hK4;intro hS_4_4_3;refine oO 5 1 ?_;intro K5 hK5;go_wp2;refine hK5 _ _ (by exact hS_4_4_3) ?_;clear hK5;intro hS_4_5_3;refine oO 6 0 ?_;intro K6 hK6;go_wp2;refine hK6 _ _ (by exact hS_4_5_3) ?_;clear hK6;intro hS_4_6_3;refine wDn ?_;have HX:=Hq hS_4_6_3;go_wp2;go_ret2;exact RetEs.mk' (by have:=HOWN7.out;rw[zgc]at this;exact this) (HB2.out.drew.trans (HX.out.mono (by simp;omega)))
theorem zht(l:List En)(A:Option Addr)(len cap:Nat)(e:En)(w:World)(hs:SlE w A len cap l)(hlb:len≤1000000000)(hsz:SzE l)(hh:e.handle.size≤maxLen)(hsc:e.schema.size≤9223372036854775807) :
 Calls Tryz.prog 13 #[.slice A len cap,e.val] w (RetEs (appS l e).1 .i64 (appS l e).2 w):=by
 have hll:l.length≤1000000000:=by rw[hs.1];exact hlb
 unfold appS;by_cases h:zv l e=0
 · rw[if_pos h];exact zg9 l A len cap e w hs hlb hsz hh hsc h hll
 · rw[if_neg h];exact zjh l A len cap e w hs hlb hsz hh hsc _ rfl (bnT h) hll
set_option maxRecDepth 100000
set_option maxHeartbeats 4000000
def endN:List En→Nat→Nat
 | [],_=>0
 | _::_,0=>0
 | e::l,n+1=>endN l (if e.kind=2 then n else n+1)+1
theorem zlr(l:List En):endN l 0=0:=by cases l<;>rfl
theorem zc2{l:List En}{k c P:Nat}{e:En}(h:l[k]? =some e)(hc:c<P)(hi:k+endN (l.drop k) (P - c)=endN l P) :
 k+1+endN (l.drop (k+1)) (P - (c+if e.kind=2 then 1 else 0))=endN l P:=by
 have hk:=(List.getElem?_eq_some_iff.1 h).1;have hx:=(List.getElem?_eq_some_iff.1 h).2;rw[List.drop_eq_getElem_cons hk,hx,show P - c=(P - c - 1)+1 from by omega,endN]at hi;rw[←hi];by_cases h2:e.kind=2
 · rw[if_pos h2,if_pos h2,show P - (c+1)=P - c - 1 from by omega];omega
 · rw[if_neg h2,if_neg h2,show P - (c+0)=P - c - 1+1 from by omega];omega
theorem zhb(l:List En)(k:Nat):epochN (l.take k)≤epochN l:=by
 unfold epochN;exact List.Sublist.countP_le (List.take_sublist _ _)
def memF(R:ByteArray→Bool)(l:List En):List ByteArray:=(l.filter fun e=>e.kind==0 && !R e.handle).map (·.handle)
def memH(l:List En):List ByteArray:=memF (hasB l 1) l
def memS(l:List En)(p:Int):List ByteArray×Int:=if p<0∨(epochN l:Int)<p then([],2)else(memH (l.take (endN l p.toNat)),0)
theorem zlc{R:ByteArray→Bool}{l:List En}{k:Nat}{e:En}(h:l[k]? =some e):memF R (l.take (k+1))=memF R (l.take k)++(if e.kind=0∧R e.handle=false then [e.handle]else []):=by
 unfold memF;rw[qu h,List.filter_append,List.map_append];congr 1;by_cases h1:e.kind=0<;>cases h2:R e.handle<;>simp[List.filter_cons,h1,h2]
theorem zw8(R:ByteArray→Bool)(l:List En):(memF R l).length≤l.length:=by
 unfold memF;rw[List.length_map];exact List.length_filter_le _ _
def zv6(l:List En)(len P:Nat)(end' n:Value):Prop:=∃ k c:Nat,k≤len∧end'=.int .i64 k∧n=.int .i64 c∧epochN (l.take k)=c∧c≤P∧k+endN (l.drop k) (P - c)=endN l P
theorem zf3(A:Option Addr)(len cap:Nat)(p:Int)(hp:p<0)(w:World) :
 Calls Tryz.prog 14 #[.slice A len cap,.int .i64 p] w (RetNs [] .i64 2 w):=by
 go_enter Tryz.func14,Tryz.ntmps14;go_wp2;go_ret2;exact⟨none,0,rfl,SlN.nil _ _ (by omega) _,Below.refl _ _⟩
def zv5(R:ByteArray→Bool)(t:List En)(B:Nat)(W:World)(out i:Value)(wr:World):Prop:=
 ∃(j m:Nat),j≤t.length∧m≤j∧i=.int .i64 j∧wr.ownsRow B 22 1 out m ((memF R (t.take j)).map Value.string)∧Below B W wr
theorem zf2(l:List En)(A:Option Addr)(len cap:Nat)(P:Nat)(w:World)(hs:SlE w A len cap l)(hlb:len≤1000000000)(hsz:SzE l)(hP:P≤9223372036854775807)(r:List ByteArray×Int)(hr:memS l P=r) :
 Calls Tryz.prog 14 #[.slice A len cap,.int .i64 P] w (RetNs r.1 .i64 r.2 w):=by
 have hlen:=hs.1;have hlc:=hs.2.1;have HS:=Hq hs;have HLEN:=Hq hlen;have HR:=Hq hr;have HSZ:=Hq hsz;have hP0:¬ ((P:Int)<0):=by omega
 clear hs hlen hr hsz;go_enter Tryz.func14,Tryz.ntmps14;go_wp2
 go_loop [6,7] (fun e n=>zv6 l len P e n) (fun e _=>len - (intOf e).toNat)
 case atStart=>exact⟨0,0,Nat.zero_le _,rfl,rfl,rfl,Nat.zero_le _,by simp⟩
 case round =>
  obtain⟨k,c,hk,rfl,rfl,hc,hcP,hi⟩:=hrel;have HC:=Hq hc;have HI:=Hq hi;clear hc hi;by_cases hlt:c<P
  · by_cases hkl:k<len
    · obtain⟨b,o,rfl⟩:=HS.out.head (by omega);obtain⟨e,he⟩:∃ e,l[k]? =some e:=⟨_,List.getElem?_eq_getElem (by rw[HLEN.out];exact hkl)⟩;obtain⟨c0,c1,c2,c3⟩:=HS.out.get? k he;have hne:((k:Int)==(len:Int))=false:=neI (by omega);have HE:=Hq he;clear he;by_cases h2:e.kind=2
      · have e2:=eqI h2;have H2:=Hq h2;clear h2;go_wp2;go_round;case rel =>
         have h1:=xv HE.out;have h3:=zc2 HE.out hlt HI.out;rw[if_pos H2.out]at h1 h3;exact⟨k+1,c+1,by omega,by go_num,by go_num,by rw[h1,HC.out],by omega,h3⟩
        case measure=>simp[intOf];omega
      · have e2:=neI h2;have H2:=Hq h2;clear h2;go_wp2;go_round;case rel =>
         have h1:=xv HE.out;have h3:=zc2 HE.out hlt HI.out;rw[if_neg H2.out]at h1 h3;exact⟨k+1,c,by omega,by go_num,rfl,by rw[h1,HC.out,Nat.add_zero],by omega,h3⟩
        case measure=>simp[intOf];omega
    · obtain rfl:k=len:=by omega
      have hne:((k:Int)==(k:Int))=true:=eqI rfl;have hr:=HR.out;unfold memS at hr;have hcc:=HC.out;rw[List.take_of_length_le (by have:=HLEN.out;omega)]at hcc;rw[if_pos (.inr (by omega))]at hr;clear hcc;have HR2:=Hq hr;clear hr;go_wp2;go_ret2;rw[←HR2.out];exact⟨none,0,rfl,SlN.nil _ _ (by omega) _,Below.refl _ _⟩
  · obtain rfl:c=P:=by omega
    have hi:=HI.out;rw[Nat.sub_self,zlr,Nat.add_zero]at hi;have hcc:=HC.out;have hle:=zhb l k;have hr:=HR.out;unfold memS at hr;rw[if_neg (by omega),Int.toNat_natCast,←hi]at hr;have HR2:=Hq hr;have hst:=HS.out.take k hk;have hszt:SzE (l.take k):=fun j e he=>HSZ.out j e (by rw[List.getElem?_take]at he;split at he;exact he;cases he);obtain⟨t,ht⟩:=nm (l.take k);rw[ht]at hst hszt;have HT:=Hq ht;have HST:=Hq hst;have HSZT:=Hq hszt;have hkc:k≤cap:=by omega
    clear hi hcc hle hr hst hszt HI HC HR HS HSZ ht;go_wp2_with fail;refine(qy t A k cap _ HST.out (by omega) HSZT.out).mono ?_;rintro e1 w1 ⟨sb,bi,br,rfl,hst1,hB1,hB2,hB3,hb1⟩;obtain⟨s0,s1,s2,s3⟩:=zf hst1.1;have HSET:=Hq hst1.2.2.1;have HB1:=Hq hb1;clear hst1 hB1 hB2 hB3 hb1;go_wp2;clear s0 s1 s2 s3;go_loopw [9,44] (fun out i wr=>zv5 (hasB t 1) t w1.heap.size w1 out i wr) (fun _ i _=>k - (intOf i).toNat);case atStart=>exact⟨0,0,Nat.zero_le _,Nat.le_refl _,rfl,World.ownsRow_nil _ _ _ _,Below.refl _ _⟩
    case round =>
     obtain⟨j,m,hj,hm,rfl,hown,hB⟩:=hrel;have htl:t.length=k:=HST.out.1;rw[htl]at hj;have HTL:=Hq htl;clear htl;have HOWN:=Hq hown;have HB:=Hq hB;clear hown hB;by_cases hjk:j<k
     · obtain⟨b,o,rfl⟩:=HST.out.head (by omega);obtain⟨e,he⟩:∃ e,t[j]? =some e:=⟨_,List.getElem?_eq_getElem (by rw[HTL.out];exact hjk)⟩;obtain⟨c0,c1,c2,c3⟩:=((HST.out.kept HB1.out nlr).kept HB.out nlr).get? j he;have hh:e.handle.size≤maxLen:=HSZT.out j e he;have hl:=SetM.look ((HSET.out.kept HB.out nlr).kept ((Below.refl wr.heap.size wr).alloc nlr (.cells #[.int .i64 e.kind,.string e.handle,.string e.schema,.int .i64 e.epoch] 53)) nlr) hh;have HE:=Hq he;have HH:=Hq hh;clear he hh;have hms:=zlc (R:=hasB t 1) HE.out;obtain⟨g,hg⟩:=nm (hasB t 1 e.handle);rw[hg]at hl hms;by_cases h0:e.kind=0
       · have e0:=eqI h0
         cases g with
         | true =>
          rw[if_neg (by simp),List.append_nil]at hms;have HMS:=Hq hms;clear h0 hms hg;go_wp2;go_roundw;case rel=>exact⟨j+1,m,by rw[HTL.out];omega,by omega,by go_num,by rw[HMS.out];exact(HOWN.out.alloc _).alloc _,(HB.out.alloc HB.out.size _).alloc (by have:=HB.out.size;simp;omega) _⟩
          case measure=>simp[intOf];omega
         | false =>
          rw[if_pos ⟨h0,rfl⟩]at hms;have HMS:=Hq hms;clear h0 hms hg;obtain⟨i0,hi,iz0,iz1,iz2⟩:=info_parts ky;go_wp2_with (at_builtin;refine(wpList_append_lies _ rfl (.tmp 62) (.tmp 65) 25 rfl w1.heap.size 22 i0 _ 1 16 Tryz.underlying25 hi iz0 iz1 iz2 rfl (by decide) _ m ((memF (hasB t 1) (t.take j)).map Value.string) rfl ?n0 ⟨wr.heap.size+1+1,0,none⟩ 1 1 [.string e.handle] rfl rfl ?n1 ?n2 (by decide) ?n3 ?n4 ?n5 _ rfl ?_));case n0=>exact((HOWN.out.alloc _).alloc _).alloc _
          case n1=>rw[show wr.heap.size+1+1=((wr.alloc (.cells #[.int .i64 e.kind,.string e.handle,.string e.schema,.int .i64 e.epoch] 53)).alloc (.cells #[] 89)).heap.size from by simp];exact World.news_of_block (heap_alloc_new _ _)
          case n2=>intro u hu;simp only[List.mem_cons,List.mem_nil_iff,or_false]at hu;subst hu;rfl
          case n3=>unfold maxLen;omega
          case n4=>omega
          case n5=>have:=HB.out.size;simp;omega
          intro g' cap7 w7 hown7 hgrow7 hat7 hlt7;have hlt6:=HOWN.out.lt;have HB7:=Hq ((((HB.out.alloc HB.out.size (.cells #[.int .i64 e.kind,.string e.handle,.string e.schema,.int .i64 e.epoch] 53)).alloc (by have:=HB.out.size;simp;omega) (.cells #[] 89)).alloc (by have:=HB.out.size;simp;omega) _).grown hgrow7 (by have:=HB.out.size;simp;omega) (fun k e=>(hlt6 k e).1));have HOWN7:=Hq hown7;clear hown7 hgrow7 hat7 hlt7 hlt6;go_wp2;go_roundw;case rel=>exact⟨j+1,m+1,by rw[HTL.out];omega,by omega,by go_num,by rw[HMS.out,List.map_append];exact HOWN7.out,HB7.out⟩
          case measure=>simp[intOf];omega
       · have e0:=neI h0;rw[if_neg (by simp[h0]),List.append_nil]at hms;have HMS:=Hq hms;clear h0 hms hg;go_wp2;go_roundw;case rel=>exact⟨j+1,m,by rw[HTL.out];omega,by omega,by go_num,by rw[HMS.out];exact(HOWN.out.alloc _).alloc _,(HB.out.alloc HB.out.size _).alloc (by have:=HB.out.size;simp;omega) _⟩
         case measure=>simp[intOf];omega
     · obtain rfl:j=k:=by omega
       have hown:=HOWN.out;rw[List.take_of_length_le (by have:=HTL.out;omega)]at hown;have HOWN2:=Hq hown;clear hown;go_wp2;go_ret2;rw[←HR2.out,HT.out];exact RetNs.mk' HOWN2.out (HB1.out.trans (HB.out.mono HB1.out.size))
set_option maxRecDepth 100000
set_option maxHeartbeats 4000000
theorem zcg(l:List En)(A:Option Addr)(len cap:Nat)(p:Int)(w:World)(hs:SlE w A len cap l)(hlb:len≤1000000000)(hsz:SzE l)(hp:p≤9223372036854775807) :
 Calls Tryz.prog 14 #[.slice A len cap,.int .i64 p] w (RetNs (memS l p).1 .i64 (memS l p).2 w):=by
 by_cases h:p<0
 · have:=zf3 A len cap p h w;unfold memS;rw[if_pos (.inl h)];exact this
 · obtain⟨P,rfl⟩:=Int.eq_ofNat_of_zero_le (Int.not_lt.1 h);exact zf2 l A len cap P w hs hlb hsz (by omega) _ rfl
theorem ze8(A:Option Addr)(len cap:Nat)(p:Int)(hp:p<0)(w:World) :
 Calls Tryz.prog 33 #[.slice A len cap,.int .i64 p] w (RetNs [] .i64 2 w):=by
 go_enter Tryz.func33,Tryz.ntmps33;go_wp2;go_ret2;exact⟨none,0,rfl,SlN.nil _ _ (by omega) _,Below.refl _ _⟩
theorem zgx(l:List En)(A:Option Addr)(len cap:Nat)(P E:Nat)(w:World)(hs:SlE w A len cap l)(hE:epochN l=E)(hP:E<P) :
 Calls Tryz.prog 33 #[.slice A len cap,.int .i64 P] w (RetNs [] .i64 2 w):=by
 have HS:=Hq hs;have HE:=Hq hE;have hP0:¬ ((P:Int)<0):=by omega
 clear hs hE;go_enter Tryz.func33,Tryz.ntmps33;go_wp2_with fail;refine(zcv l A len cap _ HS.out).mono ?_;rintro e w1 ⟨rfl,rfl⟩;rw[HE.out];go_wp2;go_ret2;exact⟨none,0,rfl,SlN.nil _ _ (by omega) _,Below.refl _ _⟩
theorem zxn{l:List En}{k c P:Nat}(h:epochN (l.take k)=c)(hc:c<P)(hP:P≤epochN l):k<l.length:=by
 rcases Nat.lt_or_ge k l.length with h' | h'
 · exact h'
 · rw[List.take_of_length_le h']at h;omega
theorem zy8(l:List En)(A:Option Addr)(len cap:Nat)(q:Int)(u:ByteArray)(g:Bool)(w:World)(n:Nat)(hs:SlE (w.drewN n) A len cap l)(hg:hasB l q u=g):Calls Tryz.prog 51 #[.slice A len cap,.int .i64 q,.string u] (w.drewN n) fun e w'=>e=.returned (.bool g)∧w'=w.drewN n:=
 (zih l A len cap q u _ hs).mono fun e w' ⟨h1,h2⟩=>⟨by rw[h1,hg],h2.symm⟩
theorem ze7(l:List En)(A:Option Addr)(len cap:Nat)(P E:Nat)(w:World)(hs:SlE w A len cap l)(hlb:len≤1000000000)(hE:epochN l=E)(hPE:P≤E)(hP:P≤9223372036854775807) :
 Calls Tryz.prog 33 #[.slice A len cap,.int .i64 P] w (RetNs (memH (l.take (endN l P))) .i64 0 w):=by
 have hlen:=hs.1;have hlc:=hs.2.1;have HS:=Hq hs;have HLEN:=Hq hlen;have HE:=Hq hE;have hP0:¬ ((P:Int)<0):=by omega
 clear hs hlen hE;go_enter Tryz.func33,Tryz.ntmps33;go_wp2_with fail;refine(zcv l A len cap _ HS.out).mono ?_;rintro e w1 ⟨rfl,rfl⟩;rw[HE.out];go_wp2
 go_loop [6,7] (fun e n=>zv6 l len P e n) (fun e _=>len - (intOf e).toNat)
 case atStart=>exact⟨0,0,Nat.zero_le _,rfl,rfl,rfl,Nat.zero_le _,by simp⟩
 case round =>
  obtain⟨k,c,hk,rfl,rfl,hc,hcP,hi⟩:=hrel;have HC:=Hq hc;have HI:=Hq hi;clear hc hi;by_cases hlt:c<P
  · have hkl:k<len:=by have:=zxn HC.out hlt (by rw[HE.out];exact hPE);have:=HLEN.out;omega
    obtain⟨b,o,rfl⟩:=HS.out.head (by omega);obtain⟨e,he⟩:∃ e,l[k]? =some e:=⟨_,List.getElem?_eq_getElem (by rw[HLEN.out];exact hkl)⟩;obtain⟨c0,c1,c2,c3⟩:=HS.out.get? k he;have HEE:=Hq he;clear he;by_cases h2:e.kind=2
    · have e2:=eqI h2;have H2:=Hq h2;clear h2;go_wp2;go_round;case rel =>
       have h1:=xv HEE.out;have h3:=zc2 HEE.out hlt HI.out;rw[if_pos H2.out]at h1 h3;exact⟨k+1,c+1,by omega,by go_num,by go_num,by rw[h1,HC.out],by omega,h3⟩
      case measure=>simp[intOf];omega
    · have e2:=neI h2;have H2:=Hq h2;clear h2;go_wp2;go_round;case rel =>
       have h1:=xv HEE.out;have h3:=zc2 HEE.out hlt HI.out;rw[if_neg H2.out]at h1 h3;exact⟨k+1,c,by omega,by go_num,rfl,by rw[h1,HC.out,Nat.add_zero],by omega,h3⟩
      case measure=>simp[intOf];omega
  · obtain rfl:c=P:=by omega
    have hi:=HI.out;rw[Nat.sub_self,zlr,Nat.add_zero]at hi;have hst:=HS.out.take k hk;obtain⟨t,ht⟩:=nm (l.take k);rw[ht]at hst;have HST:=Hq hst;have HI2:=Hq hi;have HT:=Hq ht;have hkc:k≤cap:=by omega
    clear hi hst HI HC HS ht HE;go_wp2;go_loopw [8,9] (fun out i wr=>zv5 (hasB t 1) t w.heap.size w out i wr) (fun _ i _=>k - (intOf i).toNat);case atStart=>exact⟨0,0,Nat.zero_le _,Nat.le_refl _,rfl,World.ownsRow_nil _ _ _ _,Below.refl _ _⟩
    case round =>
     obtain⟨j,m,hj,hm,rfl,hown,hB⟩:=hrel;have htl:t.length=k:=HST.out.1;rw[htl]at hj;have HTL:=Hq htl;clear htl;have HOWN:=Hq hown;have HB:=Hq hB;clear hown hB;by_cases hjk:j<k
     · obtain⟨b,o,rfl⟩:=HST.out.head (by omega);obtain⟨e,he⟩:∃ e,t[j]? =some e:=⟨_,List.getElem?_eq_getElem (by rw[HTL.out];exact hjk)⟩;obtain⟨c0,c1,c2,c3⟩:=(HST.out.kept HB.out nlr).get? j he;have HE:=Hq he;clear he;have hms:=zlc (R:=hasB t 1) HE.out;have i1:(0:Int)≤(j:Int):=by omega
       have i2:(j:Int)<(len:Int):=by omega
       have i3:(k:Int)≤(cap:Int):=by omega
       by_cases h0:e.kind=0
       · have e0:=eqI h0;obtain⟨g,hg⟩:=nm (hasB t 1 e.handle);rw[hg]at hms;have HG:=Hq hg
         cases g with
         | true =>
          rw[if_neg (by simp),List.append_nil]at hms;have HMS:=Hq hms;clear h0 hms hg;go_wp2
          go_quiet ((go_at_call 51;exact Calls.quiet_of_same (zy8 t _ k cap 1 e.handle true _ _ (HST.out.kept (zbe HB.out _) nlr) HG.out)))
          go_wp2;go_roundw;case rel=>exact⟨j+1,m,by rw[HTL.out];omega,by omega,by go_num,by rw[HMS.out];exact zfj HOWN.out _,zbe HB.out _⟩
          case measure=>simp[intOf];omega
         | false =>
          rw[if_pos ⟨h0,rfl⟩]at hms;have HMS:=Hq hms;clear h0 hms hg;obtain⟨i0,hi,iz0,iz1,iz2⟩:=info_parts ky;go_wp2
          go_quiet ((go_at_call 51;exact Calls.quiet_of_same (zy8 t _ k cap 1 e.handle false _ _ (HST.out.kept (zbe HB.out _) nlr) HG.out)))
          rename_i nq;go_wp2_with (at_builtin;refine wpList_append_lies _ rfl (.tmp 54) (.tmp 60) 25 rfl w.heap.size 22 i0 _ 1 16 Tryz.underlying25 hi iz0 iz1 iz2 rfl (by decide) _ m ((memF (hasB t 1) (t.take j)).map Value.string) rfl ?n0 ⟨wr.heap.size,0,none⟩ 1 1 [.string e.handle] rfl rfl ?n1 ?n2 (by decide) ?n3 ?n4 ?n5 _ rfl ?_);case n0=>exact(zfj HOWN.out _).alloc _
          case n1=>exact World.news_of_block (heap_alloc_new _ _)
          case n2=>intro u hu;simp only[List.mem_cons,List.mem_nil_iff,or_false]at hu;subst hu;rfl
          case n3=>unfold maxLen;omega
          case n4=>omega
          case n5=>have:=HB.out.size;simp;omega
          intro g' cap7 w7 hown7 hgrow7 hat7 hlt7;have hlt6:=HOWN.out.lt;have HB7:=Hq (((zbe HB.out _).alloc HB.out.size _).grown hgrow7 (by have:=HB.out.size;simp;omega) (fun k e=>(hlt6 k e).1));have HOWN7:=Hq hown7;clear hown7 hgrow7 hat7 hlt7 hlt6;go_wp2;go_roundw;case rel=>exact⟨j+1,m+1,by rw[HTL.out];omega,by omega,by go_num,by rw[HMS.out,List.map_append];exact HOWN7.out,HB7.out⟩
          case measure=>simp[intOf];omega
       · have e0:=neI h0;rw[if_neg (by simp[h0]),List.append_nil]at hms;have HMS:=Hq hms;clear h0 hms;go_wp2
         go_quiet (fail)
         go_wp2;go_roundw;case rel=>exact⟨j+1,m,by rw[HTL.out];omega,by omega,by go_num,by rw[HMS.out];exact zfj HOWN.out _,zbe HB.out _⟩
         case measure=>simp[intOf];omega
     · obtain rfl:j=k:=by omega
       have hown:=HOWN.out;rw[List.take_of_length_le (by have:=HTL.out;omega)]at hown;have HOWN2:=Hq hown;clear hown;go_wp2;go_ret2;rw[←HI2.out,HT.out];exact RetNs.mk' (l:=memF (hasB t 1) t) HOWN2.out HB.out
theorem zmc(l:List En)(A:Option Addr)(len cap:Nat)(p:Int)(w:World)(hs:SlE w A len cap l)(hlb:len≤1000000000)(hp:p≤9223372036854775807) :
 Calls Tryz.prog 33 #[.slice A len cap,.int .i64 p] w (RetNs (memS l p).1 .i64 (memS l p).2 w):=by
 unfold memS;by_cases h:p<0
 · rw[if_pos (.inl h)];exact ze8 A len cap p h w
 · obtain⟨P,rfl⟩:=Int.eq_ofNat_of_zero_le (Int.not_lt.1 h);by_cases h2:(epochN l:Int)<P
   · rw[if_pos (.inr h2)];exact zgx l A len cap P _ w hs rfl (by omega)
   · rw[if_neg (by omega),Int.toNat_natCast];exact ze7 l A len cap P _ w hs hlb rfl (by omega) (by omega)
end Go.Proofs.YtppbcopnfankcaaGreat

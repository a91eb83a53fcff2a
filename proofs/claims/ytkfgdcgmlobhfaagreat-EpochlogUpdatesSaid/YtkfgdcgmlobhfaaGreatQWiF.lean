import Derived.Test.YtkfgdcgmlobhfaaGreatQWiB
set_option linter.unusedVariables false
set_option linter.unusedSimpArgs false
namespace Go.Proofs.YtkfgdcgmlobhfaaGreat
set_option maxRecDepth 100000
set_option maxHeartbeats 2000000
open Go.RowKit Go.Shelf
attribute [local go_sem] Oper.semAt_some
theorem zd0{W W':World}(h:Below W.heap.size W W'):KeepsOthers W W':=⟨h.size,fun k o hk _=>(h.block k (zw hk)).trans hk⟩
def FI(w:World)(p:ByteArray→Bool)(pre:List SzH)(W:World):Prop:=BxC W w.heap.size #[.int .i64 0] 40∧(∀ x∈pre,p x.val=true)∧Below w.heap.size w W
def FX(w:World)(p:ByteArray→Bool)(e:Int)(c:Code)(pre:List SzH)(W:World):Prop:=c=.ret∧(∃ x∈pre,p x.val=false)∧BxC W w.heap.size #[.int .i64 e] 40∧Below w.heap.size w W
theorem zpi{w:World}{p:ByteArray→Bool}{B:Nat}(hB:w.heap.size≤B):OwnFrom B (FI w p):=
 OwnFrom.and (Own.from (fun s X Y row hs hg hr=>qf _ _ 40 s X Y row hs hg hr) _) (OwnFrom.and (fun _ _ _ _ hs _ _=>hs) (ownFrom_below nlr hB))
theorem zph{w:World}{p:ByteArray→Bool}{e:Int}{B:Nat}(hB:w.heap.size≤B)(c:Code):OwnFrom B (FX w p e c):=
 OwnFrom.and (fun _ _ _ _ hs _ _=>hs) (OwnFrom.and (fun _ _ _ _ hs _ _=>hs) (OwnFrom.and (Own.from (fun s X Y row hs hg hr=>qf _ _ 40 s X Y row hs hg hr) _) (ownFrom_below nlr hB)))
theorem zle(L:List (List ByteArray))(A:Option Addr)(n c:Nat)(w:World)(hs:SlR w A n c L)(hz:∀ l∈L,SzL l):Calls Tryz.prog 49 #[.slice A n c] w (Ret (.int .i64 (if L.flatten.all zd=true then 0 else 3)) w):=by
 obtain⟨V,hV⟩:∃ v,(if L.flatten.all zd=true then(0:Int)else 3)=v:=⟨_,rfl⟩;rw[hV];have HVV:=Hq hV;clear hV;obtain⟨W0,hW0⟩:∃ W0,w.alloc (.cells #[.int .i64 0] 40)=W0:=⟨_,rfl⟩;have HX0:=Hq (show BxC W0 w.heap.size #[.int .i64 0] 40 from by rw[←hW0];exact BxC.new w _ _);have HB0:=Hq (show Below w.heap.size w W0 from by rw[←hW0];exact(blr).alloc nlr _);have HSZ0:=Hq (show W0.heap.size=w.heap.size+1 from by rw[←hW0];simp);have HST:=Hq (fun k hk W hw D hD=>zcf k hk w L A n c hs hz W hw D hD);clear hs hz;refine(callsIn_wide (n:=3)).1 ?_;refine callsIn_of_wp_marks Tryz.func49 rfl trivial ?_ rfl;simp only[Tryz.ntmps49,List.size_toArray,List.length_cons,List.length_nil,Nat.reduceAdd,Nat.reduceSub,Array.replicate_succ,Array.replicate_zero,List.push_toArray,List.append_toArray,List.nil_append,List.cons_append];refine wpIn_wide.2 ?_;go_wp2_with fail;try rw[hW0]
 clear hW0;refine(zew A n c _).mono ?_;rintro e w1 ⟨rfl,rfl⟩;have HD1:=Hq (BxC.new W0 #[.slice A n c] 106);have HX1:=Hq (HX0.out.alloc (.cells #[.slice A n c] 106));have HB1:=Hq (HB0.out.alloc HB0.out.size (.cells #[.slice A n c] 106));have hsz1:(W0.alloc (.cells #[.slice A n c] 106)).heap.size=w.heap.size+1+1:=by rw[World.size_alloc,HSZ0.out]
 obtain⟨W1,hW1⟩:∃ W1,W0.alloc (.cells #[.slice A n c] 106)=W1:=⟨_,rfl⟩;obtain⟨D,hD⟩:∃ D,W0.heap.size=D:=⟨_,rfl⟩;rw[hW1]at HD1 HX1 HB1 hsz1⊢;rw[hD]at HD1⊢;have HSZ1:=Hq hsz1;clear hW1 hD HSZ0 hsz1 HX0 HB0;go_wp2;rename_i K5 hK5;refine(wpIn_wide (n:=3)).1 ?_;refine wpIn_rangeFunc_ownF rfl (by omega) (gf:=158) (lb:=#[.pointer (some ⟨D,0,none⟩)]) rfl trivial (enters_of Tryz.func158 (by kernel_rfl) rfl)
  (HST.out 2 (by omega) W1 HB1.out D HD1.out) (fun h k=>KpB.trans h k) (fun W l o o' hl _ _ _=>⟨by simp,fun k hk=>World.putObj_heap_other (by have:=HSZ1.out;omega)⟩) blr (fun _=>rfl)
  (FI w zd) (FX w zd 3) (zpi (by have:=HSZ1.out;omega)) (zph (by have:=HSZ1.out;omega)) ⟨HX1.out,(fun _ h=>by cases h),HB1.out⟩
  (fun x => { tmps:=#[.slice A n c,undef,.pointer (some ⟨w.heap.size,0,none⟩),.string x.val,.slice A n c,.func (.func 158) #[] #[.pointer (some ⟨D,0,none⟩)],.string x.val,undef,undef,undef],defers:=[] }) ?assign ?body ?done ?stop
 case assign =>
  intro l x W K hK;gi_wp2;exact hK
 case body =>
  rintro l pre x W ⟨hX,hall,hB⟩ _;have HX:=Hq hX;have HB:=Hq hB;have HALL:=Hq hall;have cX:W.cell? ⟨w.heap.size,0,none⟩=some (.int .i64 0):=hX.cell 0;have fX:=hX.free 0;clear hX hB hall
  cases hv:zd x.val with
  | true =>
   have HV:=Hq hv;clear hv cX fX;gi_wp2;refine⟨trivial,CallsIn.inRound l (callsIn_wide.2 ((zn x.val x.2 _).mono ?_))⟩;rintro ev w6 ⟨rfl,rfl⟩;rw[HV.out];gi_wp2;exact⟨zd0 blr,KpB.refl _ _,HX.out,(fun y hy=>by
    rcases List.mem_append.1 hy with h | h
    · exact HALL.out y h
    · rw[List.mem_singleton.1 h];exact HV.out),HB.out⟩
  | false =>
   have HV:=Hq hv;have HKK:=Hq (KeepsOthers.setCell W ⟨w.heap.size,0,none⟩ (.int .i64 3));have HX2:=Hq (HX.out.set (k:=0) (.int .i64 3));have HB2:=Hq (HB.out.setCell (p:=⟨w.heap.size,0,none⟩) nlr (.int .i64 3));have HKP:=Hq (show KpB w.heap.size W (W.setCell ⟨w.heap.size,0,none⟩ (.int .i64 3))from KpB.of_below ((blr).setCell (p:=⟨w.heap.size,0,none⟩) nlr (.int .i64 3)));clear hv;gi_wp2;refine⟨trivial,CallsIn.inRound l (callsIn_wide.2 ((zn x.val x.2 _).mono ?_))⟩;rintro ev w6 ⟨rfl,rfl⟩;rw[HV.out];gi_wp2;exact⟨HKK.out,rfl,⟨x,by simp,HV.out⟩,HX2.out,HB2.out⟩
 case stop =>
  rintro D' c' pre W hD' hSp ⟨rfl,⟨x,hx,hv⟩,hX,hB⟩ hK;have HM:=Hq (show V=3 from by
   rw[←HVV.out,if_neg];intro h;rw[List.all_eq_true]at h;have:=h x.val (hSp.subset (List.mem_map.2 ⟨x,hx,rfl⟩));rw[hv]at this
   cases this)
  have HX:=Hq hX;have HB:=Hq hB;have HK:=Hq hK;have hdl:=zw hK;clear hX hB hK hSp hx hv;gi_wp2;refine⟨by simp,.inl ⟨_,_,rfl,run_takeDeferred HK.out,?_⟩⟩;have hsz1:=HSZ1.out;have e1:(W.putObj D' (.deferred none)).cell? ⟨w.heap.size,0,none⟩=some (.int .i64 3):=(zp (k:=0) _ HX.out (by omega)).trans rfl;exact⟨.int .i64 3,by simp[results,Tryz.results49,go_sem,e1],by rw[HM.out],HB.out.trans (belowK_b (w:=w) nlr W D' _ _ (by omega) HK.out rfl rfl)⟩
 case done =>
  rintro D' ys W hD' hys ⟨hX,hall,hB⟩ hK;have HM:=Hq (show V=0 from by
   rw[←HVV.out,if_pos];rw[List.all_eq_true];intro s hs;rw[←hys]at hs;obtain⟨x,hx,rfl⟩:=List.mem_map.1 hs
   exact hall x hx)
  have HX:=Hq hX;have HB:=Hq hB;have HK:=Hq hK;have HDL:=Hq hD';have cX:W.cell? ⟨w.heap.size,0,none⟩=some (.int .i64 0):=hX.cell 0;have fX:=hX.free 0;clear hys hall hX hB hK hD';refine hK5 _ _ ?_;go_wp2;have HX2:=Hq (HX.out.set (k:=0) (.int .i64 0));have HB2:=Hq (HB.out.setCell (p:=⟨w.heap.size,0,none⟩) nlr (.int .i64 0));have hsz1:=HSZ1.out;have hdl:=HDL.out;have HK2:=Hq (show (W.setCell ⟨w.heap.size,0,none⟩ (.int .i64 0)).heap[D']? =some (.deferred (some []))from by
   rw[heap_setCell_other _ _ _ _ (show D'≠w.heap.size by omega)];exact HK.out)
  refine⟨by simp,.inl ⟨_,_,rfl,run_takeDeferred HK2.out,?_⟩⟩;have e1:((W.setCell ⟨w.heap.size,0,none⟩ (.int .i64 0)).putObj D' (.deferred none)).cell? ⟨w.heap.size,0,none⟩=some (.int .i64 0):=(zp (k:=0) _ HX2.out (by omega)).trans rfl;exact⟨.int .i64 0,by simp[results,Tryz.results49,go_sem,e1],by rw[HM.out],HB2.out.trans (belowK_b (w:=w) nlr _ D' _ _ (by omega) HK2.out rfl rfl)⟩
def nzB(s:ByteArray):Bool:=!s.toList.isEmpty
theorem zqq{s:ByteArray}(h:nzB s=true):s.toList.isEmpty=false:=by unfold nzB at h;cases e:s.toList.isEmpty<;>simp_all
theorem zr1{s:ByteArray}(h:nzB s=false):s.toList.isEmpty=true:=by unfold nzB at h;cases e:s.toList.isEmpty<;>simp_all
theorem zkb(L:List (List ByteArray))(A:Option Addr)(n c:Nat)(w:World)(hs:SlR w A n c L)(hz:∀ l∈L,SzL l):Calls Tryz.prog 52 #[.slice A n c] w (Ret (.int .i64 (if L.flatten.all nzB=true then 0 else 11)) w):=by
 obtain⟨V,hV⟩:∃ v,(if L.flatten.all nzB=true then(0:Int)else 11)=v:=⟨_,rfl⟩;rw[hV];have HVV:=Hq hV;clear hV;obtain⟨W0,hW0⟩:∃ W0,w.alloc (.cells #[.int .i64 0] 40)=W0:=⟨_,rfl⟩;have HX0:=Hq (show BxC W0 w.heap.size #[.int .i64 0] 40 from by rw[←hW0];exact BxC.new w _ _);have HB0:=Hq (show Below w.heap.size w W0 from by rw[←hW0];exact(blr).alloc nlr _);have HSZ0:=Hq (show W0.heap.size=w.heap.size+1 from by rw[←hW0];simp);have HST:=Hq (fun k hk W hw D hD=>zcf k hk w L A n c hs hz W hw D hD);clear hs hz;refine(callsIn_wide (n:=3)).1 ?_;refine callsIn_of_wp_marks Tryz.func52 rfl trivial ?_ rfl;simp only[Tryz.ntmps52,List.size_toArray,List.length_cons,List.length_nil,Nat.reduceAdd,Nat.reduceSub,Array.replicate_succ,Array.replicate_zero,List.push_toArray,List.append_toArray,List.nil_append,List.cons_append];refine wpIn_wide.2 ?_;go_wp2_with fail;try rw[hW0]
 clear hW0;refine(zew A n c _).mono ?_;rintro e w1 ⟨rfl,rfl⟩;have HD1:=Hq (BxC.new W0 #[.slice A n c] 106);have HX1:=Hq (HX0.out.alloc (.cells #[.slice A n c] 106));have HB1:=Hq (HB0.out.alloc HB0.out.size (.cells #[.slice A n c] 106));have hsz1:(W0.alloc (.cells #[.slice A n c] 106)).heap.size=w.heap.size+1+1:=by rw[World.size_alloc,HSZ0.out]
 obtain⟨W1,hW1⟩:∃ W1,W0.alloc (.cells #[.slice A n c] 106)=W1:=⟨_,rfl⟩;obtain⟨D,hD⟩:∃ D,W0.heap.size=D:=⟨_,rfl⟩;rw[hW1]at HD1 HX1 HB1 hsz1⊢;rw[hD]at HD1⊢;have HSZ1:=Hq hsz1;clear hW1 hD HSZ0 hsz1 HX0 HB0;go_wp2;rename_i K5 hK5;refine(wpIn_wide (n:=3)).1 ?_;refine wpIn_rangeFunc_ownF rfl (by omega) (gf:=158) (lb:=#[.pointer (some ⟨D,0,none⟩)]) rfl trivial (enters_of Tryz.func158 (by kernel_rfl) rfl)
  (HST.out 2 (by omega) W1 HB1.out D HD1.out) (fun h k=>KpB.trans h k) (fun W l o o' hl _ _ _=>⟨by simp,fun k hk=>World.putObj_heap_other (by have:=HSZ1.out;omega)⟩) blr (fun _=>rfl)
  (FI w nzB) (FX w nzB 11) (zpi (by have:=HSZ1.out;omega)) (zph (by have:=HSZ1.out;omega)) ⟨HX1.out,(fun _ h=>by cases h),HB1.out⟩
  (fun x => { tmps:=#[.slice A n c,undef,.pointer (some ⟨w.heap.size,0,none⟩),.string x.val,.slice A n c,.func (.func 158) #[] #[.pointer (some ⟨D,0,none⟩)],.string x.val,undef,undef],defers:=[] }) ?assign ?body ?done ?stop
 case assign =>
  intro l x W K hK;gi_wp2;exact hK
 case body =>
  rintro l pre x W ⟨hX,hall,hB⟩ _;have HX:=Hq hX;have HB:=Hq hB;have HALL:=Hq hall;have cX:W.cell? ⟨w.heap.size,0,none⟩=some (.int .i64 0):=hX.cell 0;have fX:=hX.free 0;clear hX hB hall
  cases hv:nzB x.val with
  | true =>
   have HV:=Hq hv;have he:x.val.toList.isEmpty=false:=zqq HV.out;clear hv cX fX;gi_wp2;skip;exact⟨zd0 blr,KpB.refl _ _,HX.out,(fun y hy=>by
    rcases List.mem_append.1 hy with h | h
    · exact HALL.out y h
    · rw[List.mem_singleton.1 h];exact HV.out),HB.out⟩
  | false =>
   have HV:=Hq hv;have HKK:=Hq (KeepsOthers.setCell W ⟨w.heap.size,0,none⟩ (.int .i64 11));have HX2:=Hq (HX.out.set (k:=0) (.int .i64 11));have HB2:=Hq (HB.out.setCell (p:=⟨w.heap.size,0,none⟩) nlr (.int .i64 11));have HKP:=Hq (show KpB w.heap.size W (W.setCell ⟨w.heap.size,0,none⟩ (.int .i64 11))from KpB.of_below ((blr).setCell (p:=⟨w.heap.size,0,none⟩) nlr (.int .i64 11)));have he:x.val.toList.isEmpty=true:=zr1 HV.out;clear hv;gi_wp2;skip;exact⟨HKK.out,rfl,⟨x,by simp,HV.out⟩,HX2.out,HB2.out⟩
 case stop =>
  rintro D' c' pre W hD' hSp ⟨rfl,⟨x,hx,hv⟩,hX,hB⟩ hK;have HM:=Hq (show V=11 from by
   rw[←HVV.out,if_neg];intro h;rw[List.all_eq_true]at h;have:=h x.val (hSp.subset (List.mem_map.2 ⟨x,hx,rfl⟩));rw[hv]at this
   cases this)
  have HX:=Hq hX;have HB:=Hq hB;have HK:=Hq hK;have hdl:=zw hK;clear hX hB hK hSp hx hv;gi_wp2;refine⟨by simp,.inl ⟨_,_,rfl,run_takeDeferred HK.out,?_⟩⟩;have hsz1:=HSZ1.out;have e1:(W.putObj D' (.deferred none)).cell? ⟨w.heap.size,0,none⟩=some (.int .i64 11):=(zp (k:=0) _ HX.out (by omega)).trans rfl;exact⟨.int .i64 11,by simp[results,Tryz.results52,go_sem,e1],by rw[HM.out],HB.out.trans (belowK_b (w:=w) nlr W D' _ _ (by omega) HK.out rfl rfl)⟩
 case done =>
  rintro D' ys W hD' hys ⟨hX,hall,hB⟩ hK;have HM:=Hq (show V=0 from by
   rw[←HVV.out,if_pos];rw[List.all_eq_true];intro s hs;rw[←hys]at hs;obtain⟨x,hx,rfl⟩:=List.mem_map.1 hs
   exact hall x hx)
  have HX:=Hq hX;have HB:=Hq hB;have HK:=Hq hK;have HDL:=Hq hD';have cX:W.cell? ⟨w.heap.size,0,none⟩=some (.int .i64 0):=hX.cell 0;have fX:=hX.free 0;clear hys hall hX hB hK hD';refine hK5 _ _ ?_;go_wp2;have HX2:=Hq (HX.out.set (k:=0) (.int .i64 0));have HB2:=Hq (HB.out.setCell (p:=⟨w.heap.size,0,none⟩) nlr (.int .i64 0));have hsz1:=HSZ1.out;have hdl:=HDL.out;have HK2:=Hq (show (W.setCell ⟨w.heap.size,0,none⟩ (.int .i64 0)).heap[D']? =some (.deferred (some []))from by
   rw[heap_setCell_other _ _ _ _ (show D'≠w.heap.size by omega)];exact HK.out)
  refine⟨by simp,.inl ⟨_,_,rfl,run_takeDeferred HK2.out,?_⟩⟩;have e1:((W.setCell ⟨w.heap.size,0,none⟩ (.int .i64 0)).putObj D' (.deferred none)).cell? ⟨w.heap.size,0,none⟩=some (.int .i64 0):=(zp (k:=0) _ HX2.out (by omega)).trans rfl;exact⟨.int .i64 0,by simp[results,Tryz.results52,go_sem,e1],by rw[HM.out],HB2.out.trans (belowK_b (w:=w) nlr _ D' _ _ (by omega) HK2.out rfl rfl)⟩
set_option maxRecDepth 100000
set_option maxHeartbeats 4000000
open Go.RowKit
abbrev slT(t:Option Addr×Nat×Nat):Value:=.slice t.1 t.2.1 t.2.2
def SlsAt(w:World):List (Option Addr×Nat×Nat)→List (List ByteArray)→Prop
 | [],[]=>True
 | t::S,l::L=>SlN w t.1 t.2.1 t.2.2 l∧SlsAt w S L
 | _,_=>False
theorem SlsAt.kept{B:Nat}{w w':World}(hb:Below B w w')(hB:w.heap.size≤B):∀ {S:List (Option Addr×Nat×Nat)} {L:List (List ByteArray)},SlsAt w S L→SlsAt w' S L
 | [],[],_=>trivial
 | _::_,_::_,h=>⟨h.1.kept hb hB,h.2.kept hb hB⟩
 | [],_::_,h=>h.elim
 | _::_,[],h=>h.elim
theorem SlsAt.len{w:World}:∀ {S:List (Option Addr×Nat×Nat)} {L:List (List ByteArray)},SlsAt w S L→L.length=S.length
 | [],[],_=>rfl
 | _::_,_::_,h=>congrArg (· + 1) h.2.len
 | [],_::_,h=>h.elim
 | _::_,[],h=>h.elim
theorem SlsAt.get{w:World}:∀ {S:List (Option Addr×Nat×Nat)} {L:List (List ByteArray)} (k:Nat) (l:List ByteArray),SlsAt w S L→L[k]? =some l→∃ t,S[k]? =some t∧SlN w t.1 t.2.1 t.2.2 l
 | [],[],_,_,_,h=>by simp at h
 | t::_,_::_,0,l,h,e=>⟨t,rfl,by cases e;exact h.1⟩
 | _::_,_::_,k+1,l,h,e=>h.2.get k l e
 | [],_::_,_,_,h,_=>h.elim
 | _::_,[],_,_,h,_=>h.elim
theorem SlR.of{w:World}{b n c:Nat}{S:List (Option Addr×Nat×Nat)}{L:List (List ByteArray)}(h:SlsAt w S L)(hn:S.length=n)(hc:n≤c)(hm:c≤9223372036854775807)(hcell:∀ k t,S[k]? =some t→w.cell? ⟨b,k,none⟩=some (slT t)):SlR w (some ⟨b,0,none⟩) n c L:=
 ⟨by rw[h.len,hn],hc,hm,fun k l hk =>
  let ⟨t,ht,hs⟩:=h.get k l hk
  ⟨b,0,rfl,t.1,t.2.1,t.2.2,by rw[Nat.zero_add];exact hcell k t ht,hs⟩⟩
theorem SlR.of_block{w:World}{b:Nat}{T:TypeId}{fr:Nat×Nat}{S:List (Option Addr×Nat×Nat)}{L:List (List ByteArray)}(h:SlsAt w S L)(hb:w.heap[b]? =some (.cells (S.map slT).toArray T fr))(hm:S.length≤9223372036854775807):SlR w (some ⟨b,0,none⟩) S.length S.length L:=
 SlR.of h rfl nlr hm fun k t ht=>by rw[Lib.cell_of_heap hb];simp[ht]
theorem SlR.of_own{w:World}{base g n c:Nat}{T:TypeId}{S:List (Option Addr×Nat×Nat)}{L:List (List ByteArray)}(h:SlsAt w S L)(hs:S.length=n)(h0:0<n)(ho:w.ownsRow base T 1 (.slice (some ⟨g,0,none⟩) n c) n (S.map slT)):SlR w (some ⟨g,0,none⟩) n c L:=by
 rcases ho.2 with⟨_,h1⟩ | ⟨g2,cap,cur,hv,hb,hh,hc,hm,_⟩
 · omega
 · simp only[Value.slice.injEq,Option.some.injEq,Addr.mk.injEq,and_true,true_and]at hv;obtain⟨rfl,rfl⟩:=hv;refine SlR.of h hs hc (by unfold maxLen at hm;exact hm) fun k t ht=>?_;have:=ho.cells (g:=g) rfl k (slT t) (by rw[List.getElem?_map,ht];rfl);rwa[zbb,Nat.zero_add]at this
theorem znn:(Tryz.prog.info? 25).map (fun i=>(i.zero,i.size,i.bytes))=some (some (.slice none 0 0),1,24):=by kernel_rfl
theorem zp1(S:List (Option Addr×Nat×Nat)):∀ u∈S.map slT,u.oneCell'=true:=by
 intro u h;obtain⟨s,_,rfl⟩:=List.mem_map.1 h;rfl
theorem zql(w:World)(S:List (Option Addr×Nat×Nat))(T:TypeId)(n:Nat)(hn:S.length=n)(h:n≤maxLen):(w.alloc (.cells (S.map slT).toArray T)).ownsRow w.heap.size T 1 (.slice (some ⟨w.heap.size,0,none⟩) n n) n (S.map slT):=
 ⟨by simp[hn],.inr ⟨w.heap.size,n,_,rfl,Nat.le_refl _,heap_alloc_new w _,Nat.le_refl _,h,by simp[hn],by rw[Nat.mul_one];exact List.take_of_length_le (by simp[hn])⟩⟩
def ikC(N M O Z S:ByteArray)(A:Option Addr)(n c:Nat)(U H:ByteArray):Array Value:=#[.string N,.string M,.string O,.string Z,.string S,.slice A n c,.string U,.string H]
theorem zme(l:List ByteArray):memB l ⟨#[]⟩ = !(l.all nzB):=by
 induction l with
 | nil=>rfl
 | cons a l ih =>
  unfold memB at ih⊢;rw[List.any_cons,List.all_cons,ih,Bool.not_and];congr 1;unfold nzB;rw[Bool.not_not];have e:(⟨#[]⟩:ByteArray).toList=[]:=by rw[ByteArray.toList_eq]
  rw[e];cases a.toList<;>rfl
theorem zb2{M O:ByteArray}{els hs:List ByteArray}(h:(zd M&&zd O&&els.all zd&&hs.all zd)=false):rdyR M O els hs=3:=by unfold rdyR;rw[if_pos h]
theorem zln{M O:ByteArray}{els hs:List ByteArray}(h:(zd M&&zd O&&els.all zd&&hs.all zd)=true)(h2:chkK M O≠0):rdyR M O els hs=chkK M O:=by unfold rdyR;rw[h,if_neg (by decide),if_pos h2]
theorem zlm{M O:ByteArray}{els hs:List ByteArray}(h:(zd M&&zd O&&els.all zd&&hs.all zd)=true)(h2:chkK M O=0)(h3:els.all (fun x=>hasN (num M) (num O) (num x))=false):rdyR M O els hs=13:=by unfold rdyR;rw[h,if_neg (by decide),if_neg (fun c=>c h2),h3,if_pos rfl]
theorem zo4{M O:ByteArray}{els hs:List ByteArray}(h:(zd M&&zd O&&els.all zd&&hs.all zd)=true)(h2:chkK M O=0)(h3:els.all (fun x=>hasN (num M) (num O) (num x))=true):rdyR M O els hs=if hs.all nzB=true then 0 else 11:=by
 unfold rdyR;rw[h,if_neg (by decide),if_neg (fun c=>c h2),h3,if_neg (by decide),zme];cases hs.all nzB<;>rfl
theorem znc(N M O Z S:ByteArray)(RA:Option Addr)(rn rc:Nat)(U H:ByteArray)(els:List ByteArray)(A:Option Addr)(n c:Nat)(b:Nat)(s1 s2 s3:Option Addr×Nat×Nat)(l1 l2 l3:List ByteArray)(w:World)(hM:M.size≤8)(hO:O.size≤8)
 (hes:SlN w A n c els) (hn:n≤1000) (hez:SzL els) (hL:SlsAt w [s1,s2,s3] [l1,l2,l3]) (hz:∀ l∈[l1,l2,l3],SzL l) (hb:w.heap[b]? =some (.cells #[slT s1,slT s2,slT s3] 25 (0,0))) :
 Calls Tryz.prog 27 #[.agg (ikC N M O Z S RA rn rc U H),.slice A n c,.slice (some ⟨b,0,none⟩) 3 3] w (Ret (.int .i64 (rdyR M O els (l1++(l2++l3)))) w):=by
 have HSE:=Hq hes;have HNL:=Hq hes.1;have hcap:=hes.2.1;have hcap2:=hes.2.2.1;have HSL:=Hq hL;have HBK:=Hq hb;obtain⟨RR,hRR⟩:∃ r,rdyR M O els (l1++(l2++l3))=r:=⟨_,rfl⟩;rw[hRR];have HRR:=Hq hRR;have HFL:=Hq (show [l1,l2,l3].flatten=l1++(l2++l3)from by simp);have HFL5:=Hq (show ([[M,O],els,l1,l2,l3].flatten.all zd)=(zd M&&zd O&&els.all zd&&(l1++(l2++l3)).all zd)from by
  rw[List.flatten_cons,List.flatten_cons,show [l1,l2,l3].flatten=l1++(l2++l3)from by simp,List.all_append,List.all_append]
  simp[Bool.and_assoc])
 have HZ5:=Hq (show ∀ l∈[[M,O],els,l1,l2,l3],SzL l from fun l hl=>by
  rcases List.mem_cons.1 hl with rfl | hl
  · intro s hs;simp only[List.mem_cons,List.mem_nil_iff,or_false]at hs;rcases hs with rfl | rfl<;>omega
  · rcases List.mem_cons.1 hl with rfl | hl
    · exact hez
    · exact hz l hl)
 have HZ3:=Hq hz;have HCK:=Hq (zf5 M O hM hO);have HHS:=Hq (fun x hx=>zru M O x hM hO hx);unfold gV at HCK HHS;obtain⟨W0,hW0⟩:∃ W,w.alloc (.cells (ikC N M O Z S RA rn rc U H) 27)=W:=⟨_,rfl⟩;have hx0:BxC W0 w.heap.size (ikC N M O Z S RA rn rc U H) 27:=by rw[←hW0];exact BxC.new _ _ _
 have hb0:Below w.heap.size w W0:=by rw[←hW0];exact(blr).alloc nlr _
 have HX0:=Hq hx0;have HB0:=Hq hb0;have k1:W0.cell? ⟨w.heap.size,1,none⟩=some (.string M):=hx0.cell 1;have k2:W0.cell? ⟨w.heap.size,2,none⟩=some (.string O):=hx0.cell 2;clear hes hL hb hRR hz hez hx0 hb0 hM hO;unfold ikC at hW0⊢;unfold ikC at HX0;go_enter Tryz.func27,Tryz.ntmps27;go_upto_region 2 with(fail)
 try rw[hW0]
 clear hW0 k1 k2;have hs1:SlN (W0.alloc (.cells #[.string M,.string O] 22)) (some ⟨W0.heap.size,0,none⟩) 2 2 [M,O]:=xv W0 [M,O] 22 (by simp);have hb1:Below w.heap.size w (W0.alloc (.cells #[.string M,.string O] 22)):=HB0.out.alloc HB0.out.size _;have hx1:=HX0.out.alloc (.cells #[.string M,.string O] 22);obtain⟨W1,hW1⟩:∃ W,W0.alloc (.cells #[.string M,.string O] 22)=W:=⟨_,rfl⟩;rw[hW1]at hs1 hb1 hx1⊢;obtain⟨P,hP⟩:∃ P,W0.heap.size=P:=⟨_,rfl⟩;rw[hP]at hs1⊢;clear hW1 hP HB0 HX0;have hb2:Below W1.heap.size W1 (W1.alloc (.cells #[.slice (some ⟨P,0,none⟩) 2 2,.slice A n c] 25)):=(blr).alloc nlr _;have HO2:=Hq (show (W1.alloc (.cells #[.slice (some ⟨P,0,none⟩) 2 2,.slice A n c] 25)).ownsRow W1.heap.size 25 1 (.slice (some ⟨W1.heap.size,0,none⟩) 2 2) 2 ([(some ⟨P,0,none⟩,2,2),(A,n,c)].map slT)from zql W1 [(some ⟨P,0,none⟩,2,2),(A,n,c)] 25 2 rfl (by decide));have HB1:=Hq hb1;have HB2:=Hq hb2;have HX1:=Hq hx1;have HSL1:=Hq (show SlsAt W1 [(some ⟨P,0,none⟩,2,2),(A,n,c),s1,s2,s3] [[M,O],els,l1,l2,l3]from⟨hs1,HSE.out.kept hb1 nlr,HSL.out.kept hb1 nlr⟩);have HBK2:=Hq (show (W1.alloc (.cells #[.slice (some ⟨P,0,none⟩) 2 2,.slice A n c] 25)).heap[b]? =some (.cells #[slT s1,slT s2,slT s3] 25 (0,0))from((hb1.trans (hb2.mono hb1.size)).block b (zw HBK.out)).trans HBK.out);clear hs1 hb1 hx1 hb2;obtain⟨i0,hi,iz0,iz1,iz2⟩:=info_parts znn;go_wp2_with (at_builtin;refine(wpList_append_lies _ rfl (.tmp 21) (.tmp 22) 106 rfl W1.heap.size 25 i0 _ 1 24 Tryz.underlying106 hi iz0 iz1 iz2 rfl (by decide) _ 2 _ rfl HO2.out ⟨b,0,none⟩ 3 3 ([s1,s2,s3].map slT) rfl rfl (World.news_of_block HBK2.out) (zp1 _) (by decide) (by decide) (by decide) ?n5 _ rfl ?_));case n5=>simp
 intro g cap3 w3 hown3 hgrow3 hat3 hlt3;have hb3:Below W1.heap.size W1 w3:=HB2.out.grown hgrow3 (by simp) (fun k e=>(HO2.out.lt k e).1);have HSR:=Hq (show SlR w3 (some ⟨g,0,none⟩) 5 cap3 [[M,O],els,l1,l2,l3]from SlR.of_own (HSL1.out.kept hb3 nlr) rfl (by decide) hown3);have HX3:=Hq (HX1.out.next hb3);have HB3:=Hq (HB1.out.trans (hb3.mono HB1.out.size));clear hown3 hgrow3 hat3 hlt3 hb3 hi iz0 iz1 iz2 HO2 HB2 HBK2 HSL1 HX1 HB1;have HFO:=Hq (zle _ _ 5 cap3 w3 HSR.out HZ5.out);rw[HFL5.out]at HFO
 cases hf:(zd M&&zd O&&els.all zd&&(l1++(l2++l3)).all zd)with
 | false =>
  have HR3:=Hq (show RR=3 from by rw[←HRR.out];exact zb2 hf);rw[hf,if_neg (by decide)]at HFO;clear hf;go_wp2_with fail;refine HFO.out.mono ?_;rintro e w4 ⟨rfl,hb⟩;have HB4:=Hq (HB3.out.trans (hb.mono HB3.out.size));clear hb;go_wp2;go_ret;exact⟨by rw[HR3.out];rfl,HB4.out⟩
 | true =>
  have HFT:=Hq hf;rw[hf,if_pos rfl]at HFO;have HEV:=Hq (show ∀ x∈els,zd x=true from by
   rw[Bool.and_eq_true,Bool.and_eq_true]at hf
   exact List.all_eq_true.1 hf.1.2)
  clear hf;go_wp2_with fail;refine HFO.out.mono ?_;rintro e w4 ⟨rfl,hb⟩;have hx4:=HX3.out.next hb;have HX4:=Hq hx4;have HB4:=Hq (HB3.out.trans (hb.mono HB3.out.size));have k1:w4.cell? ⟨w.heap.size,1,none⟩=some (.string M):=hx4.cell 1;have k2:w4.cell? ⟨w.heap.size,2,none⟩=some (.string O):=hx4.cell 2;clear hb hx4;by_cases hc:chkK M O=0
  · have HCC:=Hq hc;rw[hc]at HCK;have HRZ:=Hq (fun h3=>(HRR.out.symm.trans (zo4 HFT.out hc h3)));have HRH:=Hq (fun h3=>(HRR.out.symm.trans (zlm HFT.out hc h3)));clear hc;go_wp2_with fail;refine(HCK.out _).mono ?_;rintro e w5 ⟨rfl,hb⟩;have HX5:=Hq (HX4.out.next hb);have HB5:=Hq (HB4.out.trans (hb.mono HB4.out.size));clear hb k1 k2;go_wp2;go_loopw [36] (fun i wr=>∃ k:Nat,k≤n∧i=.int .i64 k∧(els.take k).all (fun x=>hasN (num M) (num O) (num x))=true∧Below w5.heap.size w5 wr) (fun i _=>n - (intOf i).toNat);case atStart=>exact⟨0,Nat.zero_le _,rfl,by simp,Below.refl _ _⟩
    case round =>
     obtain⟨k,hk,rfl,hall,hbb⟩:=hrel;have HB:=Hq hbb;have HALL:=Hq hall;clear hbb hall;by_cases hlt:k<n
     · obtain⟨x,he⟩:∃ x,els[k]? =some x:=⟨_,List.getElem?_eq_getElem (by rw[HNL.out];exact hlt)⟩;obtain⟨eb,eo,rfl⟩:=HSE.out.head (by omega);have hbr:=HB5.out.trans (HB.out.mono HB5.out.size);have c0:=(HSE.out.kept hbr nlr).get? k he;have hxr:=HX5.out.next HB.out;have k1:wr.cell? ⟨w.heap.size,1,none⟩=some (.string M):=hxr.cell 1;have k2:wr.cell? ⟨w.heap.size,2,none⟩=some (.string O):=hxr.cell 2;have hv:=HEV.out x (List.mem_of_getElem? he);have HH:=Hq (HHS.out x hv);have HBR:=Hq hbr;have hk2:hasK M O x=hasN (num M) (num O) (num x):=by unfold hasK;rw[hv,decide_eq_true HCC.out];simp
       rw[hk2]at HH;have HE:=Hq he;clear he hbr hxr hv hk2
       cases hh:hasN (num M) (num O) (num x)with
       | true =>
        have HHV:=Hq hh;rw[hh]at HH;clear hh;go_wp2_with fail;refine(HH.out _).mono ?_;rintro e w6 ⟨rfl,hb⟩;have HB6:=Hq (HB.out.trans (hb.mono HB.out.size));clear hb c0 k1 k2;go_wp2;go_roundw;case rel=>exact⟨k+1,by omega,by go_num,zao HALL.out HE.out HHV.out,HB6.out⟩
        case measure=>simp[intOf];omega
       | false =>
        have HR13:=Hq (show RR=13 from HRH.out (qh HE.out hh));rw[hh]at HH;clear hh;go_wp2_with fail;refine(HH.out _).mono ?_;rintro e w6 ⟨rfl,hb⟩;have HB6:=Hq (HBR.out.trans (hb.mono HBR.out.size));clear hb c0 k1 k2;go_wp2;go_ret;exact⟨by rw[HR13.out];rfl,HB6.out⟩
     · obtain rfl:k=n:=by omega
       have HRN:=Hq (HRZ.out (zbw HALL.out HNL.out));have hbr:=HB5.out.trans (HB.out.mono HB5.out.size);have HBR:=Hq hbr;have HNZ:=Hq (zkb [l1,l2,l3] (some ⟨b,0,none⟩) 3 3 wr (SlR.of_block (S:=[s1,s2,s3]) (HSL.out.kept hbr nlr) ((hbr.block b (zw HBK.out)).trans HBK.out) (by simp)) HZ3.out);rw[HFL.out,←HRN.out]at HNZ;clear hbr;go_wp2_with fail;refine HNZ.out.mono ?_;rintro e w6 ⟨rfl,hb⟩;have HB6:=Hq (HBR.out.trans (hb.mono HBR.out.size));clear hb;go_wp2;go_ret;exact⟨rfl,HB6.out⟩
  · have HRC:=Hq (show RR=chkK M O from by rw[←HRR.out];exact zln HFT.out hc);obtain⟨v,hv⟩:∃ v,chkK M O=v:=⟨_,rfl⟩;have hvb:(v != 0)=true:=by rw[bne_iff_ne,←hv];exact hc
    rw[hv]at HCK HRC;clear hc hv;go_wp2_with fail;refine(HCK.out _).mono ?_;rintro e w5 ⟨rfl,hb⟩;have HB5:=Hq (HB4.out.trans (hb.mono HB4.out.size));clear hb k1 k2;go_wp2;go_ret;exact⟨by rw[HRC.out];rfl,HB5.out⟩
end Go.Proofs.YtkfgdcgmlobhfaaGreat

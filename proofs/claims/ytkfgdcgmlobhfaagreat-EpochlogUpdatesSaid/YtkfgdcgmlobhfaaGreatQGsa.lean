import Derived.Test.YtkfgdcgmlobhfaaGreatQNaE
import Derived.Great.Walk
set_option linter.unusedVariables false
namespace Go.Proofs.YtkfgdcgmlobhfaaGreat
def zss(K:Act→World→Prop):Exit→Act→World→Prop
 | .normal,a,w=>K a w
 | _,_,_=>False
theorem jp{P:Program}{c:Code}{K:Act→World→Prop}{Q:Exit→Act→World→Prop}{a:Act}{w:World}(h:c.wp P (zss K) a w):c.wp P (Exit.then K Q) a w:=
 wp_mono h (fun e a w hh=>by
  cases e<;>first | exact hh | exact hh.elim)
theorem zfa{K:Act→World→Prop}{Q:Exit→Act→World→Prop}{a:Act}{w:World}(h:∀ W,W=w→EndK K Q .normal a W):EndK K Q .normal a w:=h w rfl
section
variable {P : Program} {ops : Array Oper} {Q : Exit → Act → World → Prop} {md : Region.Mode} {S : World → Prop} {k : Nat}
def qn(P:Program)(md:Region.Mode)(ops:Array Oper)(Q:Exit→Act→World→Prop)(k:Nat)(S:World→Prop)(i:Nat)(d:Tmp)(fuel:Nat)(listed:Array Bool)(a:Act)(I:Bool→Value→World→Prop):Prop:=
 (∀ x w,I true x w→jb P md ops Q k S fuel (listed.setIfInBounds i true) (a.put (some d) x) w)∧(∀ w,I false undef w→jb P md ops Q k S (fuel+1) listed a w)
theorem xa{i j:Nat}{oi oj:Oper}{d dj:Tmp}{fuel:Nat}{listed:Array Bool}{a:Act}{I:Bool→Value→World→Prop}{β:Type}(val:β→Value)(I':β→Bool→Value→World→Prop)
 (hr:Region.ready md ops listed=[j,i]) (hr':Region.ready md ops (listed.setIfInBounds i true)=[j]) (hi:ops[i]? =some oi) (hj:ops[j]? =some oj) (hD:Down md ops listed)
 (ha:a.put (some d) undef=a) (hdd:d≠dj) (hS':∀ v b x w,I' v b x w→S w) (hS:∀ b x w,I b x w→S w)
 (halloc:∀ w,I false undef w→∀ K:Act→World→Prop,(∀ x w',I true x w'→K (a.put (some d) x) w')→wpList P ops (EndK K Q) [oi] a w)
 (hstep:∀ b x w,I b x w→∀ K:Act→World→Prop,(∀ v w',I' v b x w'→K ((a.put (some d) x).put (some dj) (val v)) w')→wpList P ops (EndK K Q) [oj] (a.put (some d) x) w)
 (hnext:∀ v,Down md ops (listed.setIfInBounds j true)→qn P md ops Q k S i d fuel (listed.setIfInBounds j true) (a.put (some dj) (val v)) (I' v)) :
 qn P md ops Q k S i d (fuel+1) listed a I:=by
 have hmi:i∈Region.ready md ops listed:=by rw[hr];simp
 have hmj:j∈Region.ready md ops listed:=by rw[hr];simp
 have hDj:=hD.set hmj;have hji:i≠j:=fun e=>by
  have:=(mem_ready.1 (show j∈Region.ready md ops (listed.setIfInBounds i true)by rw[hr'];simp)).1;subst e;have h2:=(mem_ready.1 hmi).1;have h3:=zgj h2;rw[Array.getD_eq_getD_getElem?]at this h3
  cases e:(listed.setIfInBounds i true)[i]? with
  | none=>rw[e]at h3;cases h3
  | some b=>rw[e]at this h3;cases b<;>cases this<;>cases h3
 have hcomm:∀ x v,(a.put (some d) x).put (some dj) v=(a.put (some dj) v).put (some d) x:=fun x v=>Act.put_comm a x v (fun d' h h'=>by cases h;cases h';exact hdd rfl);have htrue:∀ x w,I true x w→jb P md ops Q k S (fuel+1) (listed.setIfInBounds i true) (a.put (some d) x) w:=fun x w h=>by
  refine zc hr' hj (hD.set hmi) (fun K hK=>hstep true x w h K fun v w' h'=>hK _ w' (hS' _ _ _ _ h') fun _ _=>?_);rw[hcomm,Array.setIfInBounds_comm _ _ hji];exact(hnext v hDj).1 x w' h'
 refine⟨htrue,fun w h=>?_⟩;refine je hr hj hi hD (fun K hK=>?_) (fun K hK=>?_)
 · have h1:=hstep false undef w h K fun v w' h'=>by
    rw[hcomm];have e:(a.put (some dj) (val v)).put (some d) undef=a.put (some dj) (val v):=by rw[←hcomm,ha]
    rw[e];exact hK _ w' (hS' _ _ _ _ h') fun _ _=>(hnext v hDj).2 w' h'
   rw[ha]at h1;exact h1
 · exact halloc w h K fun x w' h'=>hK _ w' (hS _ _ _ h') fun _ _=>htrue x w' h'
theorem zaa{i:Nat}{oi:Oper}{d:Tmp}{fuel:Nat}{listed:Array Bool}{a:Act}{I:Bool→Value→World→Prop}
 (hr:Region.ready md ops listed=[i]) (hi:ops[i]? =some oi) (hD:Down md ops listed) (hS:∀ b x w,I b x w→S w)
 (halloc:∀ w,I false undef w→∀ K:Act→World→Prop,(∀ x w',I true x w'→K (a.put (some d) x) w')→wpList P ops (EndK K Q) [oi] a w)
 (hnext:∀ x w,I true x w→Down md ops (listed.setIfInBounds i true)→jb P md ops Q k S fuel (listed.setIfInBounds i true) (a.put (some d) x) w) :
 qn P md ops Q k S i d fuel listed a I:=by
 have hmi:i∈Region.ready md ops listed:=by rw[hr];simp
 refine⟨fun x w h=>hnext x w h (hD.set hmi),fun w h=>?_⟩;exact zc hr hi hD fun K hK=>halloc w h K fun x w' h'=>hK _ w' (hS _ _ _ h') fun _ _=>hnext x w' h' (hD.set hmi)
theorem zgw{i:Nat}{oi:Oper}{d:Option Tmp}{v:Value}{fuel:Nat}{listed:Array Bool}{a:Act}{w:World}(hi:ops[i]? =some oi)(hd:oi.dst=d)(hst:qo md ops listed k i=true)(hre:zdn md ops ops.size k i=true)
 (hQ:∀ c a w,Q (.panic c) (a.put d v) w→Q (.panic c) a w) (hD:Down md ops listed) (hS:S w) (hy:YieldsIf P ops S oi v a)
 (h:Down md ops (listed.setIfInBounds i true)→jb P md ops Q k S fuel (listed.setIfInBounds i true) (a.put d v) w):jb P md ops Q k S (fuel+1) listed a w:=by
 subst hd;exact zdj hi hst hre hQ hD hS hy h
theorem zbx{i:Nat}{oi:Oper}{d:Option Tmp}{v:Value}{fuel:Nat}{listed:Array Bool}{a:Act}{w:World}(hi:ops[i]? =some oi)(hd:oi.dst=d)(hst:qo md ops listed k i=true)(hre:decide (ops.size≤k)=true)
 (hQ:∀ c a w,Q (.panic c) (a.put d v) w→Q (.panic c) a w) (hD:Down md ops listed) (hS:S w) (hy:YieldsIf P ops S oi v a)
 (h:Down md ops (listed.setIfInBounds i true)→jb P md ops Q k S fuel (listed.setIfInBounds i true) (a.put d v) w):jb P md ops Q k S (fuel+1) listed a w:=by
 subst hd;exact zcw hi hst hre hQ hD hS hy h
theorem zr{i:Nat}{oi:Oper}{d:Option Tmp}{v:Value}{fuel:Nat}{listed:Array Bool}{a:Act}{w:World}(hi:ops[i]? =some oi)(hd:oi.dst=d)(hst:qo md ops listed k i=true)
 (hQ:∀ c a w,Q (.panic c) (a.put d v) w→Q (.panic c) a w) (hD:Down md ops listed) (hS:S w) (hy:YieldsIf P ops (fun _=>True) oi v a)
 (h:Down md ops (listed.setIfInBounds i true)→jb P md ops Q k S fuel (listed.setIfInBounds i true) (a.put d v) w):jb P md ops Q k S (fuel+1) listed a w:=by
 subst hd;exact zdk hi hst hQ hD hS hy h
theorem ka{i:Nat}{oi:Oper}{d:Option Tmp}{v:Value}{fuel:Nat}{listed:Array Bool}{a:Act}{w:World}(hi:ops[i]? =some oi)(hd:oi.dst=d)(hst:qo md ops listed k i=true)(hk:listed.getD k false=true)
 (hQ:∀ c a w,Q (.panic c) (a.put d v) w→Q (.panic c) a w) (hD:Down md ops listed) (hy:YieldsIf P ops (fun _=>True) oi v a)
 (h:Down md ops (listed.setIfInBounds i true)→jb P md ops Q k S fuel (listed.setIfInBounds i true) (a.put d v) w):jb P md ops Q k S (fuel+1) listed a w:=by
 subst hd;exact zat hi hst hk hQ hD hy h
theorem jx{i j:Nat}{oj:Oper}{d dj:Tmp}{v:Value}{fuel:Nat}{listed:Array Bool}{a:Act}{I:Bool→Value→World→Prop}(hj:ops[j]? =some oj)(hdj:oj.dst=some dj)(hmi:(Region.ready md ops listed).contains i=true)(hst:qo md ops listed k j=true)(hst':qo md ops (listed.setIfInBounds i true) k j=true)
 (hQ:∀ c a w,Q (.panic c) (a.put (some dj) v) w→Q (.panic c) a w) (hD:Down md ops listed) (ha:a.put (some d) undef=a) (hdd:d≠dj) (hij:i≠j) (hS:∀ b x w,I b x w→S w) (hy:∀ x,YieldsIf P ops (fun _=>True) oj v (a.put (some d) x))
 (h:Down md ops (listed.setIfInBounds j true)→qn P md ops Q k S i d fuel (listed.setIfInBounds j true) (a.put (some dj) v) I):qn P md ops Q k S i d (fuel+1) listed a I:=by
 have hmi':i∈Region.ready md ops listed:=by rwa[List.contains_iff_mem]at hmi
 have hD':=hD.set hmi';have hDj:=hD.set (qw hst).2.2.1;subst_vars;refine⟨fun x w hI=>?_,fun w hI=>?_⟩
 · refine zr hj hdj hst' hQ hD' (hS _ _ _ hI) (hy x) fun _=>?_;rw[Act.put_comm a x v (fun d' h h'=>by cases h;cases h';exact hdd rfl),Array.setIfInBounds_comm _ _ hij];exact(h hDj).1 x w hI
 · exact zr hj hdj hst hQ hD (hS _ _ _ hI) (by have:=hy undef;rwa[ha]at this) fun _=>(h hDj).2 w hI
end
section
variable {P : Program} {ops : Array Oper} {Q : Exit → Act → World → Prop} {md : Region.Mode} {S : World → Prop} {k : Nat}
theorem qPD{oi:Oper}{v:Value}{listed:Array Bool}{a:Act}{w:World}(i d fuel:Nat)(hi:ops[i]? =some oi)(hD:Down md ops listed)(hS:S w)(h:Down md ops (listed.setIfInBounds i true)→jb P md ops Q k S fuel (listed.setIfInBounds i true) (a.put (some d) v) w)(hy:∀ w',True→(execOp a.eval oi).run P w'=.ok (.value v) w':=by intro w' _;go_simp;with_reducible rfl)(hd:oi.dst=some d:=by kernel_rfl)(hst:qo md ops listed k i=true:=by kernel_rfl)(hg:Region.wanted oi (yielded ops a.tmps)=true:=by kernel_rfl)(hQ:∀ c a w,Q (.panic c) (a.put (some d) v) w→Q (.panic c) a w:=by exact fun _ _ _ h=>h):jb P md ops Q k S (fuel+1) listed a w:=zr hi hd hst hQ hD hS (.inl ⟨hg,hy⟩) h
theorem qTD{oi:Oper}{v:Value}{listed:Array Bool}{a:Act}{w:World}(i d fuel:Nat)(hi:ops[i]? =some oi)(hD:Down md ops listed)(hS:S w)(hy:∀ w',S w'→(execOp a.eval oi).run P w'=.ok (.value v) w')(h:Down md ops (listed.setIfInBounds i true)→jb P md ops Q k S fuel (listed.setIfInBounds i true) (a.put (some d) v) w)(hd:oi.dst=some d:=by kernel_rfl)(hst:qo md ops listed k i=true:=by kernel_rfl)(hre:zdn md ops ops.size k i=true:=by kernel_rfl)(hg:Region.wanted oi (yielded ops a.tmps)=true:=by kernel_rfl)(hQ:∀ c a w,Q (.panic c) (a.put (some d) v) w→Q (.panic c) a w:=by exact fun _ _ _ h=>h):jb P md ops Q k S (fuel+1) listed a w:=zgw hi hd hst hre hQ hD hS (.inl ⟨hg,hy⟩) h
theorem qSD{oi:Oper}{v:Value}{listed:Array Bool}{a:Act}{w:World}(i d fuel:Nat)(hi:ops[i]? =some oi)(hD:Down md ops listed)(hS:S w)(hy:∀ w',S w'→(execOp a.eval oi).run P w'=.ok (.value v) w')(h:Down md ops (listed.setIfInBounds i true)→jb P md ops Q k S fuel (listed.setIfInBounds i true) (a.put (some d) v) w)(hd:oi.dst=some d:=by kernel_rfl)(hst:qo md ops listed k i=true:=by kernel_rfl)(hre:decide (ops.size≤k)=true:=by kernel_rfl)(hg:Region.wanted oi (yielded ops a.tmps)=true:=by kernel_rfl)(hQ:∀ c a w,Q (.panic c) (a.put (some d) v) w→Q (.panic c) a w:=by exact fun _ _ _ h=>h):jb P md ops Q k S (fuel+1) listed a w:=zbx hi hd hst hre hQ hD hS (.inl ⟨hg,hy⟩) h
end
open Go.RowKit
theorem kC{w w':World}(h:Below w.heap.size w w'){a:Addr}{v:Value}(c:w.cell? a=some v):w'.cell? a=some v:=kc h c
section
variable {P : Program} {ops : Array Oper} {Q : Exit → Act → World → Prop} {md : Region.Mode} {S : World → Prop} {k : Nat}
theorem rP{oi:Oper}{v:Value}{listed:Array Bool}{a:Act}{w:World}(i d fuel:Nat)(hi:ops[i]? =some oi)(hD:Down md ops listed)(hS:S w)
 (h:Down md ops (listed.setIfInBounds i true)→jb P md ops Q k S fuel (listed.setIfInBounds i true) (a.put (some d) v) w)
 (hd:oi.dst=some d:=by kernel_rfl) (hst:qo md ops listed k i=true:=by kernel_rfl) (hg:Region.wanted oi (yielded ops a.tmps)=true:=by kernel_rfl)
 (hy:∀ w',True→(execOp a.eval oi).run P w'=.ok (.value v) w':=by intro w' _;go_simp;with_reducible rfl)
 (hQ:∀ c a w,Q (.panic c) (a.put (some d) v) w→Q (.panic c) a w:=by exact fun _ _ _ h=>h):jb P md ops Q k S (fuel+1) listed a w:=
 zr hi hd hst hQ hD hS (.inl ⟨hg,hy⟩) h
theorem rU{oi:Oper}{listed:Array Bool}{a:Act}{w:World}(i d fuel:Nat)(hi:ops[i]? =some oi)(hD:Down md ops listed)(hS:S w)
 (h:Down md ops (listed.setIfInBounds i true)→jb P md ops Q k S fuel (listed.setIfInBounds i true) (a.put (some d) undef) w)
 (hd:oi.dst=some d:=by kernel_rfl) (hst:qo md ops listed k i=true:=by kernel_rfl) (hg:Region.wanted oi (yielded ops a.tmps)=false:=by kernel_rfl)
 (hQ:∀ c a w,Q (.panic c) (a.put (some d) undef) w→Q (.panic c) a w:=by exact fun _ _ _ h=>h):jb P md ops Q k S (fuel+1) listed a w:=
 zr hi hd hst hQ hD hS (.inr ⟨hg,rfl⟩) h
theorem rT{oi:Oper}{v:Value}{listed:Array Bool}{a:Act}{w:World}(i d fuel:Nat)(hi:ops[i]? =some oi)(hD:Down md ops listed)(hS:S w)
 (hy:∀ w',S w'→(execOp a.eval oi).run P w'=.ok (.value v) w')
 (h:Down md ops (listed.setIfInBounds i true)→jb P md ops Q k S fuel (listed.setIfInBounds i true) (a.put (some d) v) w)
 (hd:oi.dst=some d:=by kernel_rfl) (hst:qo md ops listed k i=true:=by kernel_rfl) (hre:decide (ops.size≤k)=true:=by kernel_rfl) (hg:Region.wanted oi (yielded ops a.tmps)=true:=by kernel_rfl)
 (hQ:∀ c a w,Q (.panic c) (a.put (some d) v) w→Q (.panic c) a w:=by exact fun _ _ _ h=>h):jb P md ops Q k S (fuel+1) listed a w:=
 zbx hi hd hst hre hQ hD hS (.inl ⟨hg,hy⟩) h
theorem rO{oi:Oper}{listed:Array Bool}{a:Act}{w:World}(i fuel:Nat)(hi:ops[i]? =some oi)(hD:Down md ops listed)
 (h:∀ K:Act→World→Prop,(∀ a' w',S w'→(S w'→Down md ops (listed.setIfInBounds i true)→jb P md ops Q k S fuel (listed.setIfInBounds i true) a' w')→K a' w')→wpList P ops (EndK K Q) [oi] a w)
 (hr:Region.ready md ops listed=[i]:=by kernel_rfl):jb P md ops Q k S (fuel+1) listed a w:=zc hr hi hD h
end
def GIz(W0:World)(cs:Array Value)(T:TypeId)(b:Bool)(x:Value)(w:World):Prop:=
 Below W0.heap.size W0 w∧(b=true→∃ B,x=.pointer (some ⟨B,0,none⟩)∧W0.heap.size≤B∧w.heap[B]? =some (.cells cs T (0,0)))
theorem GIz.start{W0:World}{cs:Array Value}{T:TypeId}{x:Value}{w:World}(h:Below W0.heap.size W0 w):GIz W0 cs T false x w:=⟨h,fun e=>by cases e⟩
theorem GIz.step{W0 w w':World}{cs:Array Value}{T:TypeId}{b:Bool}{x:Value}(h:GIz W0 cs T b x w)(hb:Below w.heap.size w w'):GIz W0 cs T b x w':=by
 refine⟨h.1.trans (hb.mono h.1.size),fun e=>?_⟩;obtain⟨B,rfl,hB,hz⟩:=h.2 e;exact⟨B,rfl,hB,(hb.block B (zw hz)).trans hz⟩
theorem xg{P:Program}{ops:Array Oper}{o:Oper}{a:Act}{Q:Exit→Act→World→Prop}{d:Tmp}{cs:Array Value}{T:TypeId}(hg:o.guard=none)(hd:o.dst=some d)(hop:∀(w:World) (ρ:Operand→Value),(execOp ρ o).run P w=.ok (.value (.pointer (some ⟨w.heap.size,0,none⟩))) (w.alloc (.cells cs T))){W0:World} :
 ∀ w,GIz W0 cs T false undef w→∀ K:Act→World→Prop,(∀ x w',GIz W0 cs T true x w'→K (a.put (some d) x) w')→wpList P ops (EndK K Q) [o] a w:=fun w h K hK =>
 Great.wpList_allocTo hg (some d) hd _ _ (hop w a.eval) (hK _ _ ⟨h.1.alloc h.1.size _,fun _=>⟨_,rfl,h.1.size,heap_alloc_new _ _⟩⟩)
end Go.Proofs.YtkfgdcgmlobhfaaGreat

import Derived.Test.YtdhnkmbjogmmkaaGreatDoorQReg
set_option linter.unusedVariables false
namespace Go.Proofs.YtdhnkmbjogmmkaaGreatDoor
section
variable {P : Program} {ops : Array Oper} {Q : Exit → Act → World → Prop} {md : Region.Mode} {S : World → Prop} {k : Nat}
def GhostK(P:Program)(md:Region.Mode)(ops:Array Oper)(Q:Exit→Act→World→Prop)(k:Nat)(S:World→Prop)(i:Nat)(d:Tmp)(fuel:Nat)(listed:Array Bool)(a:Act)(I:Bool→Value→World→Prop):Prop:=
 (∀ x w,I true x w→wpAnyK P md ops Q k S fuel (listed.setIfInBounds i true) (a.put (some d) x) w)∧(∀ w,I false undef w→wpAnyK P md ops Q k S (fuel+1) listed a w)
theorem ghost_step{i j:Nat}{oi oj:Oper}{d dj:Tmp}{fuel:Nat}{listed:Array Bool}{a:Act}{I:Bool→Value→World→Prop}{β:Type}(val:β→Value)(I':β→Bool→Value→World→Prop)
 (hr:Region.ready md ops listed=[j,i]) (hr':Region.ready md ops (listed.setIfInBounds i true)=[j]) (hi:ops[i]? =some oi) (hj:ops[j]? =some oj) (hD:Down md ops listed)
 (ha:a.put (some d) undef=a) (hdd:d≠dj) (hS':∀ v b x w,I' v b x w→S w) (hS:∀ b x w,I b x w→S w)
 (halloc:∀ w,I false undef w→∀ K:Act→World→Prop,(∀ x w',I true x w'→K (a.put (some d) x) w')→wpList P ops (EndK K Q) [oi] a w)
 (hstep:∀ b x w,I b x w→∀ K:Act→World→Prop,(∀ v w',I' v b x w'→K ((a.put (some d) x).put (some dj) (val v)) w')→wpList P ops (EndK K Q) [oj] (a.put (some d) x) w)
 (hnext:∀ v,Down md ops (listed.setIfInBounds j true)→GhostK P md ops Q k S i d fuel (listed.setIfInBounds j true) (a.put (some dj) (val v)) (I' v)) :
 GhostK P md ops Q k S i d (fuel+1) listed a I:=by
 have hmi:i∈Region.ready md ops listed:=by rw[hr];simp
 have hmj:j∈Region.ready md ops listed:=by rw[hr];simp
 have hDj:=hD.set hmj;have hji:i≠j:=fun e=>by
  have:=(mem_ready.1 (show j∈Region.ready md ops (listed.setIfInBounds i true)by rw[hr'];simp)).1;subst e;have h2:=(mem_ready.1 hmi).1;have h3:=getD_set_self h2;rw[Array.getD_eq_getD_getElem?]at this h3
  cases e:(listed.setIfInBounds i true)[i]? with
  | none=>rw[e]at h3;cases h3
  | some b=>rw[e]at this h3;cases b<;>cases this<;>cases h3
 have hcomm:∀ x v,(a.put (some d) x).put (some dj) v=(a.put (some dj) v).put (some d) x:=fun x v=>Act.put_comm a x v (fun d' h h'=>by cases h;cases h';exact hdd rfl);have htrue:∀ x w,I true x w→wpAnyK P md ops Q k S (fuel+1) (listed.setIfInBounds i true) (a.put (some d) x) w:=fun x w h=>by
  refine wpAnyK_one hr' hj (hD.set hmi) (fun K hK=>hstep true x w h K fun v w' h'=>hK _ w' (hS' _ _ _ _ h') fun _ _=>?_);rw[hcomm,Array.setIfInBounds_comm _ _ hji];exact(hnext v hDj).1 x w' h'
 refine⟨htrue,fun w h=>?_⟩;refine wpAnyK_two hr hj hi hD (fun K hK=>?_) (fun K hK=>?_)
 · have h1:=hstep false undef w h K fun v w' h'=>by
    rw[hcomm];have e:(a.put (some dj) (val v)).put (some d) undef=a.put (some dj) (val v):=by rw[←hcomm,ha]
    rw[e];exact hK _ w' (hS' _ _ _ _ h') fun _ _=>(hnext v hDj).2 w' h'
   rw[ha]at h1;exact h1
 · exact halloc w h K fun x w' h'=>hK _ w' (hS _ _ _ h') fun _ _=>htrue x w' h'
theorem ghost_end{i:Nat}{oi:Oper}{d:Tmp}{fuel:Nat}{listed:Array Bool}{a:Act}{I:Bool→Value→World→Prop}
 (hr:Region.ready md ops listed=[i]) (hi:ops[i]? =some oi) (hD:Down md ops listed) (hS:∀ b x w,I b x w→S w)
 (halloc:∀ w,I false undef w→∀ K:Act→World→Prop,(∀ x w',I true x w'→K (a.put (some d) x) w')→wpList P ops (EndK K Q) [oi] a w)
 (hnext:∀ x w,I true x w→Down md ops (listed.setIfInBounds i true)→wpAnyK P md ops Q k S fuel (listed.setIfInBounds i true) (a.put (some d) x) w) :
 GhostK P md ops Q k S i d fuel listed a I:=by
 have hmi:i∈Region.ready md ops listed:=by rw[hr];simp
 refine⟨fun x w h=>hnext x w h (hD.set hmi),fun w h=>?_⟩;exact wpAnyK_one hr hi hD fun K hK=>halloc w h K fun x w' h'=>hK _ w' (hS _ _ _ h') fun _ _=>hnext x w' h' (hD.set hmi)
theorem wpAnyK_takeD{i:Nat}{oi:Oper}{d:Option Tmp}{v:Value}{fuel:Nat}{listed:Array Bool}{a:Act}{w:World}(hi:ops[i]? =some oi)(hd:oi.dst=d)(hst:stepB md ops listed k i=true)(hre:reachB md ops ops.size k i=true)
 (hQ:∀ c a w,Q (.panic c) (a.put d v) w→Q (.panic c) a w) (hD:Down md ops listed) (hS:S w) (hy:YieldsIf P ops S oi v a)
 (h:Down md ops (listed.setIfInBounds i true)→wpAnyK P md ops Q k S fuel (listed.setIfInBounds i true) (a.put d v) w):wpAnyK P md ops Q k S (fuel+1) listed a w:=by
 subst hd;exact wpAnyK_take hi hst hre hQ hD hS hy h
theorem wpAnyK_takeSD{i:Nat}{oi:Oper}{d:Option Tmp}{v:Value}{fuel:Nat}{listed:Array Bool}{a:Act}{w:World}(hi:ops[i]? =some oi)(hd:oi.dst=d)(hst:stepB md ops listed k i=true)(hre:decide (ops.size≤k)=true)
 (hQ:∀ c a w,Q (.panic c) (a.put d v) w→Q (.panic c) a w) (hD:Down md ops listed) (hS:S w) (hy:YieldsIf P ops S oi v a)
 (h:Down md ops (listed.setIfInBounds i true)→wpAnyK P md ops Q k S fuel (listed.setIfInBounds i true) (a.put d v) w):wpAnyK P md ops Q k S (fuel+1) listed a w:=by
 subst hd;exact wpAnyK_takeS hi hst hre hQ hD hS hy h
theorem wpAnyK_pureD{i:Nat}{oi:Oper}{d:Option Tmp}{v:Value}{fuel:Nat}{listed:Array Bool}{a:Act}{w:World}(hi:ops[i]? =some oi)(hd:oi.dst=d)(hst:stepB md ops listed k i=true)
 (hQ:∀ c a w,Q (.panic c) (a.put d v) w→Q (.panic c) a w) (hD:Down md ops listed) (hS:S w) (hy:YieldsIf P ops (fun _=>True) oi v a)
 (h:Down md ops (listed.setIfInBounds i true)→wpAnyK P md ops Q k S fuel (listed.setIfInBounds i true) (a.put d v) w):wpAnyK P md ops Q k S (fuel+1) listed a w:=by
 subst hd;exact wpAnyK_pure hi hst hQ hD hS hy h
end
section
variable {P : Program} {ops : Array Oper} {Q : Exit → Act → World → Prop} {md : Region.Mode} {S : World → Prop} {k : Nat}
theorem qPD{oi:Oper}{v:Value}{listed:Array Bool}{a:Act}{w:World}(i d fuel:Nat)(hi:ops[i]? =some oi)(hD:Down md ops listed)(hS:S w)(h:Down md ops (listed.setIfInBounds i true)→wpAnyK P md ops Q k S fuel (listed.setIfInBounds i true) (a.put (some d) v) w)(hy:∀ w',True→(execOp a.eval oi).run P w'=.ok (.value v) w':=by intro w' _;go_simp;with_reducible rfl)(hd:oi.dst=some d:=by kernel_rfl)(hst:stepB md ops listed k i=true:=by kernel_rfl)(hg:Region.wanted oi (yielded ops a.tmps)=true:=by kernel_rfl)(hQ:∀ c a w,Q (.panic c) (a.put (some d) v) w→Q (.panic c) a w:=by exact fun _ _ _ h=>h):wpAnyK P md ops Q k S (fuel+1) listed a w:=wpAnyK_pureD hi hd hst hQ hD hS (.inl ⟨hg,hy⟩) h
theorem qTD{oi:Oper}{v:Value}{listed:Array Bool}{a:Act}{w:World}(i d fuel:Nat)(hi:ops[i]? =some oi)(hD:Down md ops listed)(hS:S w)(hy:∀ w',S w'→(execOp a.eval oi).run P w'=.ok (.value v) w')(h:Down md ops (listed.setIfInBounds i true)→wpAnyK P md ops Q k S fuel (listed.setIfInBounds i true) (a.put (some d) v) w)(hd:oi.dst=some d:=by kernel_rfl)(hst:stepB md ops listed k i=true:=by kernel_rfl)(hre:reachB md ops ops.size k i=true:=by kernel_rfl)(hg:Region.wanted oi (yielded ops a.tmps)=true:=by kernel_rfl)(hQ:∀ c a w,Q (.panic c) (a.put (some d) v) w→Q (.panic c) a w:=by exact fun _ _ _ h=>h):wpAnyK P md ops Q k S (fuel+1) listed a w:=wpAnyK_takeD hi hd hst hre hQ hD hS (.inl ⟨hg,hy⟩) h
theorem qSD{oi:Oper}{v:Value}{listed:Array Bool}{a:Act}{w:World}(i d fuel:Nat)(hi:ops[i]? =some oi)(hD:Down md ops listed)(hS:S w)(hy:∀ w',S w'→(execOp a.eval oi).run P w'=.ok (.value v) w')(h:Down md ops (listed.setIfInBounds i true)→wpAnyK P md ops Q k S fuel (listed.setIfInBounds i true) (a.put (some d) v) w)(hd:oi.dst=some d:=by kernel_rfl)(hst:stepB md ops listed k i=true:=by kernel_rfl)(hre:decide (ops.size≤k)=true:=by kernel_rfl)(hg:Region.wanted oi (yielded ops a.tmps)=true:=by kernel_rfl)(hQ:∀ c a w,Q (.panic c) (a.put (some d) v) w→Q (.panic c) a w:=by exact fun _ _ _ h=>h):wpAnyK P md ops Q k S (fuel+1) listed a w:=wpAnyK_takeSD hi hd hst hre hQ hD hS (.inl ⟨hg,hy⟩) h
end
open Go.RowKit
theorem kC{w w':World}(h:Below w.heap.size w w'){a:Addr}{v:Value}(c:w.cell? a=some v):w'.cell? a=some v:=kc h c
section
variable {P : Program} {ops : Array Oper} {Q : Exit → Act → World → Prop} {md : Region.Mode} {S : World → Prop} {k : Nat}
theorem rP{oi:Oper}{v:Value}{listed:Array Bool}{a:Act}{w:World}(i d fuel:Nat)(hi:ops[i]? =some oi)(hD:Down md ops listed)(hS:S w)
 (h:Down md ops (listed.setIfInBounds i true)→wpAnyK P md ops Q k S fuel (listed.setIfInBounds i true) (a.put (some d) v) w)
 (hd:oi.dst=some d:=by kernel_rfl) (hst:stepB md ops listed k i=true:=by kernel_rfl) (hg:Region.wanted oi (yielded ops a.tmps)=true:=by kernel_rfl)
 (hy:∀ w',True→(execOp a.eval oi).run P w'=.ok (.value v) w':=by intro w' _;go_simp;with_reducible rfl)
 (hQ:∀ c a w,Q (.panic c) (a.put (some d) v) w→Q (.panic c) a w:=by exact fun _ _ _ h=>h):wpAnyK P md ops Q k S (fuel+1) listed a w:=
 wpAnyK_pureD hi hd hst hQ hD hS (.inl ⟨hg,hy⟩) h
theorem rU{oi:Oper}{listed:Array Bool}{a:Act}{w:World}(i d fuel:Nat)(hi:ops[i]? =some oi)(hD:Down md ops listed)(hS:S w)
 (h:Down md ops (listed.setIfInBounds i true)→wpAnyK P md ops Q k S fuel (listed.setIfInBounds i true) (a.put (some d) undef) w)
 (hd:oi.dst=some d:=by kernel_rfl) (hst:stepB md ops listed k i=true:=by kernel_rfl) (hg:Region.wanted oi (yielded ops a.tmps)=false:=by kernel_rfl)
 (hQ:∀ c a w,Q (.panic c) (a.put (some d) undef) w→Q (.panic c) a w:=by exact fun _ _ _ h=>h):wpAnyK P md ops Q k S (fuel+1) listed a w:=
 wpAnyK_pureD hi hd hst hQ hD hS (.inr ⟨hg,rfl⟩) h
theorem rT{oi:Oper}{v:Value}{listed:Array Bool}{a:Act}{w:World}(i d fuel:Nat)(hi:ops[i]? =some oi)(hD:Down md ops listed)(hS:S w)
 (hy:∀ w',S w'→(execOp a.eval oi).run P w'=.ok (.value v) w')
 (h:Down md ops (listed.setIfInBounds i true)→wpAnyK P md ops Q k S fuel (listed.setIfInBounds i true) (a.put (some d) v) w)
 (hd:oi.dst=some d:=by kernel_rfl) (hst:stepB md ops listed k i=true:=by kernel_rfl) (hre:decide (ops.size≤k)=true:=by kernel_rfl) (hg:Region.wanted oi (yielded ops a.tmps)=true:=by kernel_rfl)
 (hQ:∀ c a w,Q (.panic c) (a.put (some d) v) w→Q (.panic c) a w:=by exact fun _ _ _ h=>h):wpAnyK P md ops Q k S (fuel+1) listed a w:=
 wpAnyK_takeSD hi hd hst hre hQ hD hS (.inl ⟨hg,hy⟩) h
theorem rO{oi:Oper}{listed:Array Bool}{a:Act}{w:World}(i fuel:Nat)(hi:ops[i]? =some oi)(hD:Down md ops listed)
 (h:∀ K:Act→World→Prop,(∀ a' w',S w'→(S w'→Down md ops (listed.setIfInBounds i true)→wpAnyK P md ops Q k S fuel (listed.setIfInBounds i true) a' w')→K a' w')→wpList P ops (EndK K Q) [oi] a w)
 (hr:Region.ready md ops listed=[i]:=by kernel_rfl):wpAnyK P md ops Q k S (fuel+1) listed a w:=wpAnyK_one hr hi hD h
end
end Go.Proofs.YtdhnkmbjogmmkaaGreatDoor

import Derived.OrdersHeld
import Derived.Tactics
import Derived.KernelRfl
import Derived.Test.YtamhonjkgkmdbaaGreatDoorQBld
import Derived.Test.YtamhonjkgkmdbaaGreatDoorRows
set_option linter.unusedVariables false
namespace Go.Proofs.YtamhonjkgkmdbaaGreatDoor
theorem sqA{α:Type _}(l:List α)(i:Nat)(a:α):l.toArray.setIfInBounds i a=(l.set i a).toArray:=List.setIfInBounds_toArray _ _ _
theorem sqB{α:Type _}(a b:α)(l:List α):(a::l).set 0 b=b::l:=rfl
theorem sqC{α:Type _}(a b:α)(l:List α)(n:Nat):(a::l).set (n+1) b=a::l.set n b:=rfl
section
variable {P : Program} {ops : Array Oper} {Q : Exit → Act → World → Prop} {md : Region.Mode} {S : World → Prop} {k : Nat}
def Down(md:Region.Mode)(ops:Array Oper)(listed:Array Bool):Prop:=
 listed.size=ops.size∧∀ j o,ops[j]? =some o→listed.getD j false=true→∀ e∈o.after,Region.binds md e=true→listed.getD e.on false=true
theorem getD_repl_false(n j:Nat):(Array.replicate n false).getD j false=false:=by
 rw[Array.getD_eq_getD_getElem?,Array.getElem?_replicate];split<;>rfl
theorem Down.start:Down md ops (Array.replicate ops.size false):=by
 refine⟨Array.size_replicate,fun j o _ h=>?_⟩;rw[getD_repl_false]at h;cases h
theorem Down.beyond{listed:Array Bool}(h:Down md ops listed){j:Nat}(hj:ops.size≤j):listed.getD j false=false:=by
 rw[Array.getD_eq_getD_getElem?,Array.getElem?_eq_none (by rw[h.1];exact hj)];rfl
theorem getD_agree{listed:Array Bool}{j:Nat}(h:listed.getD j true=false):listed.getD j false=false:=by
 rw[Array.getD_eq_getD_getElem?]at *
 cases e:listed[j]? with
 | none=>rfl
 | some b=>rw[e]at h;exact h
theorem getD_set_self{listed:Array Bool}{i:Nat}(h:listed.getD i true=false):(listed.setIfInBounds i true).getD i false=true:=by
 rw[Array.getD_eq_getD_getElem?]at *;have hi:i<listed.size:=by
  rcases Nat.lt_or_ge i listed.size with h' | h'
  · exact h'
  · rw[Array.getElem?_eq_none h']at h;cases h
 rw[Array.getElem?_setIfInBounds_self];rw[if_pos hi];rfl
theorem Down.set{listed:Array Bool}(h:Down md ops listed){i:Nat}(hi:i∈Region.ready md ops listed):Down md ops (listed.setIfInBounds i true):=by
 refine⟨by rw[Array.size_setIfInBounds];exact h.1,fun j o hj hl e he hb=>?_⟩;by_cases hij:i=j
 · subst hij;obtain⟨_,o',ho',hall⟩:=mem_ready.1 hi;rw[hj]at ho';cases ho';exact getD_set_true (hall e he hb)
 · rw[getD_set_ne false hij]at hl;exact getD_set_true (h.2 j o hj hl e he hb)
def reachB(md:Region.Mode)(ops:Array Oper):Nat→Nat→Nat→Bool
 | 0,_,_=>false
 | n+1,k,i=>match ops[k]? with
  | none=>false
  | some o=>o.after.any fun e=>Region.binds md e&&(e.on==i||reachB md ops n e.on i)
theorem reachB_spec{listed:Array Bool}(h:Down md ops listed):∀(n k i:Nat),reachB md ops n k i=true→listed.getD k false=true→listed.getD i false=true
 | 0,_,_,hr,_=>by cases hr
 | n+1,k,i,hr,hk=>by
  unfold reachB at hr
  cases ho:ops[k]? with
  | none=>rw[ho]at hr;cases hr
  | some o =>
   rw[ho]at hr;simp only[Array.any_eq_true',Bool.and_eq_true,Bool.or_eq_true,beq_iff_eq]at hr;obtain⟨e,he,hb,h1 | h1⟩:=hr
   · rw[←h1];exact h.2 k o ho hk e he hb
   · exact reachB_spec h n e.on i h1 (h.2 k o ho hk e he hb)
def wpAnyK(P:Program)(md:Region.Mode)(ops:Array Oper)(Q:Exit→Act→World→Prop)(k:Nat)(S:World→Prop):Nat→Array Bool→Act→World→Prop
 | 0,listed,a,w=>Region.ready md ops listed=[]∧Q .normal a w
 | fuel+1,listed,a,w =>
  (Region.ready md ops listed=[]→Q .normal a w) ∧
  ∀ i∈Region.ready md ops listed,wpOp P ops Q i (fun a' w'=>((listed.setIfInBounds i true).getD k false=false→S w')∧wpAnyK P md ops Q k S fuel (listed.setIfInBounds i true) a' w') a w
theorem wpAny_of_K:∀(fuel:Nat) (listed:Array Bool) (a:Act) (w:World),wpAnyK P md ops Q k S fuel listed a w→wpAny P md ops Q fuel listed a w
 | 0,_,_,_,h=>h
 | fuel+1,_,_,_,h=>⟨h.1,fun i hi=>wpOp_mono (fun a' w' h'=>wpAny_of_K fuel _ a' w' h'.2) (h.2 i hi)⟩
theorem wpAnyK_first{i:Nat}{oi:Oper}{v:Value}{T:World→Prop}(hi:ops[i]? =some oi)(hsel:∀(j:Nat) (o:Oper) cs b,ops[j]? =some o→o.op≠.select cs b)
 (hT:∀(listed:Array Bool) (w:World),Down md ops listed→listed.getD i true=false→(listed.getD k false=false→S w)→T w) (hki:k≠i)
 (hQ:∀ c a w,Q (.panic c) (a.put oi.dst v) w→Q (.panic c) a w) :
 ∀(fuel:Nat) (listed:Array Bool) (a:Act) (w:World),Down md ops listed →
  (∀ j oj,ops[j]? =some oj→j≠i→listed.getD j true=false→(∀ e∈oj.after,Region.binds md e=true→e.on≠i)→oi.apart ops oj=true) →
  i∈Region.ready md ops listed→YieldsIf P ops T oi v a→(listed.getD k false=false→S w) →
  wpAnyK P md ops Q k S fuel (listed.setIfInBounds i true) (a.put oi.dst v) w→wpAnyK P md ops Q k S (fuel+1) listed a w:=by
 intro fuel
 induction fuel with
 | zero =>
  intro listed a w hD _ hr hy hS H;refine⟨fun h=>(by rw[h]at hr;cases hr),fun j hj=>?_⟩;have hTw:=hT listed w hD (mem_ready.1 hr).1 hS;by_cases hji:j=i
  · subst hji;exact hy.wpOp hi hTw ⟨fun h=>hS (by rw[getD_set_ne false (Ne.symm hki)]at h;exact h),H⟩
  · have:=ready_mono hj hji;rw[H.1]at this;cases this
 | succ fuel ih =>
  intro listed a w hD hfree hr hy hS H;refine⟨fun h=>(by rw[h]at hr;cases hr),fun j hj=>?_⟩;have hTw:=hT listed w hD (mem_ready.1 hr).1 hS;by_cases hji:j=i
  · subst hji;exact hy.wpOp hi hTw ⟨fun h=>hS (by rw[getD_set_ne false (Ne.symm hki)]at h;exact h),H⟩
  · have h1:=H.2 j (ready_mono hj hji);obtain⟨hjun,oj,hoj,hall⟩:=mem_ready.1 hj;have hnot:∀ e∈oj.after,Region.binds md e=true→e.on≠i:=fun e he hb heq=>by
     have h1:=hall e he hb;have h0:=getD_agree (mem_ready.1 hr).1;rw[heq,h0]at h1;cases h1
    have h2:=wpOp_putIf hoj (hfree j oj hoj hji hjun hnot) (fun cs b=>hsel i oi cs b hi) (fun cs b=>hsel j oj cs b hoj) hQ hy h1;have hfree':∀ m om,ops[m]? =some om→m≠i→(listed.setIfInBounds j true).getD m true=false →
     (∀ e∈om.after,Region.binds md e=true→e.on≠i)→oi.apart ops om=true:=fun m om hm hmi hun hno=>by
     refine hfree m om hm hmi ?_ hno;by_cases hjm:j=m
     · subst hjm;exact hjun
     · rw[getD_set_ne true hjm]at hun;exact hun
    refine wpOp_mono (fun a' w' h3=>?_) h2;have hS':(listed.setIfInBounds j true).getD k false=false→S w':=fun h=>h3.2.1 (by
     rw[Array.setIfInBounds_comm _ _ (Ne.symm hji),getD_set_ne false (Ne.symm hki)]
     exact h)
    refine⟨hS',ih (listed.setIfInBounds j true) a' w' (hD.set hj) hfree' (ready_mono hr (Ne.symm hji)) h3.1 hS' ?_⟩;rw[Array.setIfInBounds_comm _ _ hji];exact h3.2.2
def stepB(md:Region.Mode)(ops:Array Oper)(listed:Array Bool)(k i:Nat):Bool:=
 Region.noSelect ops&&Region.free md ops listed i&&(Region.ready md ops listed).contains i && !(k==i)
theorem stepB_spec{listed:Array Bool}{i:Nat}(h:stepB md ops listed k i=true):Region.noSelect ops=true∧Region.free md ops listed i=true∧i∈Region.ready md ops listed∧k≠i:=by
 simp only[stepB,Bool.and_eq_true,Bool.not_eq_true',beq_eq_false_iff_ne,List.contains_iff_mem]at h;exact⟨h.1.1.1,h.1.1.2,h.1.2,h.2⟩
theorem wpAnyK_take{i:Nat}{oi:Oper}{v:Value}{fuel:Nat}{listed:Array Bool}{a:Act}{w:World}(hi:ops[i]? =some oi)(hst:stepB md ops listed k i=true)(hre:reachB md ops ops.size k i=true)
 (hQ:∀ c a w,Q (.panic c) (a.put oi.dst v) w→Q (.panic c) a w) (hD:Down md ops listed) (hS:S w) (hy:YieldsIf P ops S oi v a)
 (h:Down md ops (listed.setIfInBounds i true)→wpAnyK P md ops Q k S fuel (listed.setIfInBounds i true) (a.put oi.dst v) w):wpAnyK P md ops Q k S (fuel+1) listed a w:=by
 obtain⟨hs,hf,hr',hki'⟩:=stepB_spec hst;refine wpAnyK_first (T:=S) hi (Region.noSelect_spec hs) (fun l w' hD' hl hS'=>hS' ?_) hki' hQ fuel listed a w hD (Region.free_spec hi hf) hr' hy (fun _=>hS) (h (hD.set hr'))
 cases hk:l.getD k false with
 | false=>rfl
 | true=>rw[←getD_agree hl];exact(reachB_spec hD' _ k i hre hk).symm
theorem wpAnyK_takeS{i:Nat}{oi:Oper}{v:Value}{fuel:Nat}{listed:Array Bool}{a:Act}{w:World}(hi:ops[i]? =some oi)(hst:stepB md ops listed k i=true)(hre:decide (ops.size≤k)=true)
 (hQ:∀ c a w,Q (.panic c) (a.put oi.dst v) w→Q (.panic c) a w) (hD:Down md ops listed) (hS:S w) (hy:YieldsIf P ops S oi v a)
 (h:Down md ops (listed.setIfInBounds i true)→wpAnyK P md ops Q k S fuel (listed.setIfInBounds i true) (a.put oi.dst v) w):wpAnyK P md ops Q k S (fuel+1) listed a w:=by
 obtain⟨hs,hf,hr',hki'⟩:=stepB_spec hst;exact wpAnyK_first (T:=S) hi (Region.noSelect_spec hs) (fun l w' hD' hl hS'=>hS' (hD'.beyond (of_decide_eq_true hre))) hki' hQ fuel listed a w hD (Region.free_spec hi hf) hr' hy (fun _=>hS) (h (hD.set hr'))
theorem wpAnyK_pure{i:Nat}{oi:Oper}{v:Value}{fuel:Nat}{listed:Array Bool}{a:Act}{w:World}(hi:ops[i]? =some oi)(hst:stepB md ops listed k i=true)
 (hQ:∀ c a w,Q (.panic c) (a.put oi.dst v) w→Q (.panic c) a w) (hD:Down md ops listed) (hS:S w) (hy:YieldsIf P ops (fun _=>True) oi v a)
 (h:Down md ops (listed.setIfInBounds i true)→wpAnyK P md ops Q k S fuel (listed.setIfInBounds i true) (a.put oi.dst v) w):wpAnyK P md ops Q k S (fuel+1) listed a w:=by
 obtain⟨hs,hf,hr',hki'⟩:=stepB_spec hst;exact wpAnyK_first (T:=fun _=>True) hi (Region.noSelect_spec hs) (fun _ _ _ _ _=>trivial) hki' hQ fuel listed a w hD (Region.free_spec hi hf) hr' hy (fun _=>hS) (h (hD.set hr'))
theorem wpAnyK_pureT{i:Nat}{oi:Oper}{v:Value}{fuel:Nat}{listed:Array Bool}{a:Act}{w:World}(hi:ops[i]? =some oi)(hst:stepB md ops listed k i=true)(hk:listed.getD k false=true)
 (hQ:∀ c a w,Q (.panic c) (a.put oi.dst v) w→Q (.panic c) a w) (hD:Down md ops listed) (hy:YieldsIf P ops (fun _=>True) oi v a)
 (h:Down md ops (listed.setIfInBounds i true)→wpAnyK P md ops Q k S fuel (listed.setIfInBounds i true) (a.put oi.dst v) w):wpAnyK P md ops Q k S (fuel+1) listed a w:=by
 obtain⟨hs,hf,hr',hki'⟩:=stepB_spec hst;exact wpAnyK_first (T:=fun _=>True) hi (Region.noSelect_spec hs) (fun _ _ _ _ _=>trivial) hki' hQ fuel listed a w hD (Region.free_spec hi hf) hr' hy (fun h0=>by rw[hk]at h0;cases h0) (h (hD.set hr'))
theorem wp_other_end{o:Oper}{a:Act}{w:World}{K:Act→World→Prop}{Q':Exit→Act→World→Prop}(hQ:∀ c a w,Q' (.panic c) a w→Q (.panic c) a w)(hO:LetsOut Q'→LetsOut Q)
 (h:o.wp P a w K Q'):o.wp P a w K Q:=by
 unfold Oper.wp at *;generalize (execOp a.eval o).run P w=r at *
 cases r with
 | ok n w' =>
  cases n<;>simp only[Oper.upon]at h⊢;case value u=>exact h
  case skip=>exact h
  case defer d=>exact h
  case enter f args =>
   refine Calls.mono h fun e w'' he=>?_
   cases e with
   | returned u=>exact he
   | panicked c=>exact hQ _ _ _ he
   | outgrown=>exact hO he
  case row row args=>exact h
 | halt x w' =>
  cases x<;>simp only[Oper.upon]at h⊢;case panic u=>exact hQ _ _ _ h
def EndK(K:Act→World→Prop)(Q:Exit→Act→World→Prop):Exit→Act→World→Prop
 | .normal,a,w=>K a w
 | e,a,w=>Q e a w
def StepK(P:Program)(md:Region.Mode)(ops:Array Oper)(Q:Exit→Act→World→Prop)(k:Nat)(S:World→Prop)(i:Nat)(oi:Oper)(fuel:Nat)(listed:Array Bool)(a:Act)(w:World):Prop:=
 ∀ K:Act→World→Prop,(∀ a' w',S w'→(S w'→Down md ops (listed.setIfInBounds i true)→wpAnyK P md ops Q k S fuel (listed.setIfInBounds i true) a' w')→K a' w')→wpList P ops (EndK K Q) [oi] a w
theorem step_of{i:Nat}{oi:Oper}{fuel:Nat}{listed:Array Bool}{a:Act}{w:World}(hi':i∈Region.ready md ops listed)(hi:ops[i]? =some oi)(hD:Down md ops listed)(R:World→Prop)(hR:∀ w',R w'→(listed.setIfInBounds i true).getD k false=false→S w')
 (h:∀ K:Act→World→Prop,(∀ a' w',R w'→(R w'→Down md ops (listed.setIfInBounds i true)→wpAnyK P md ops Q k S fuel (listed.setIfInBounds i true) a' w')→K a' w')→wpList P ops (EndK K Q) [oi] a w) :
 wpOp P ops Q i (fun a' w'=>((listed.setIfInBounds i true).getD k false=false→S w')∧wpAnyK P md ops Q k S fuel (listed.setIfInBounds i true) a' w') a w:=by
 have h1:=h (fun a' w'=>((listed.setIfInBounds i true).getD k false=false→S w')∧wpAnyK P md ops Q k S fuel (listed.setIfInBounds i true) a' w') (fun a' w' hS hh=>⟨hR w' hS,hh hS (hD.set hi')⟩);have hO:LetsOut (EndK (fun a' w'=>((listed.setIfInBounds i true).getD k false=false→S w')∧wpAnyK P md ops Q k S fuel (listed.setIfInBounds i true) a' w') Q)→LetsOut Q:=fun⟨a',w',hh⟩=>⟨a',w',hh⟩;unfold wpList at h1;unfold wpOp;simp only[hi];split
 · rename_i hw;rw[if_pos hw]at h1;rcases h1 with h1 | ⟨h2,h3⟩
   · exact .inl (wp_other_end (fun _ _ _ hh=>hh) hO h1)
   · exact .inr ⟨h2,hO h3⟩
 · rename_i hw;rw[if_neg hw]at h1;exact h1
theorem wpAnyK_oneT{i:Nat}{oi:Oper}{fuel:Nat}{listed:Array Bool}{a:Act}{w:World}(hr:Region.ready md ops listed=[i])(hi:ops[i]? =some oi)(hD:Down md ops listed)(hk:(listed.setIfInBounds i true).getD k false=true)
 (h:∀ K:Act→World→Prop,(∀ a' w',(Down md ops (listed.setIfInBounds i true)→wpAnyK P md ops Q k S fuel (listed.setIfInBounds i true) a' w')→K a' w')→wpList P ops (EndK K Q) [oi] a w):wpAnyK P md ops Q k S (fuel+1) listed a w:=by
 refine⟨fun h0=>(by rw[hr]at h0;cases h0),fun j hj=>?_⟩;have hi':i∈Region.ready md ops listed:=by rw[hr];exact List.mem_singleton.2 rfl
 rw[hr]at hj;obtain rfl:=List.mem_singleton.1 hj;exact step_of hi' hi hD (fun _=>True) (fun _ _ h0=>by rw[hk]at h0;cases h0) (fun K hK=>h K fun a' w' hh=>hK a' w' trivial fun _=>hh)
theorem wpAnyK_one{i:Nat}{oi:Oper}{fuel:Nat}{listed:Array Bool}{a:Act}{w:World}(hr:Region.ready md ops listed=[i])(hi:ops[i]? =some oi)(hD:Down md ops listed)
 (h:∀ K:Act→World→Prop,(∀ a' w',S w'→(S w'→Down md ops (listed.setIfInBounds i true)→wpAnyK P md ops Q k S fuel (listed.setIfInBounds i true) a' w')→K a' w')→wpList P ops (EndK K Q) [oi] a w):wpAnyK P md ops Q k S (fuel+1) listed a w:=by
 refine⟨fun h0=>(by rw[hr]at h0;cases h0),fun j hj=>?_⟩;have hi':i∈Region.ready md ops listed:=by rw[hr];exact List.mem_singleton.2 rfl
 rw[hr]at hj;obtain rfl:=List.mem_singleton.1 hj;exact step_of hi' hi hD S (fun _ h _=>h) h
theorem wpAnyK_two{i i':Nat}{oi oi':Oper}{fuel:Nat}{listed:Array Bool}{a:Act}{w:World}(hr:Region.ready md ops listed=[i,i'])(hi:ops[i]? =some oi)(hi':ops[i']? =some oi')(hD:Down md ops listed)
 (h:StepK P md ops Q k S i oi fuel listed a w) (h':StepK P md ops Q k S i' oi' fuel listed a w):wpAnyK P md ops Q k S (fuel+1) listed a w:=by
 refine⟨fun h0=>(by rw[hr]at h0;cases h0),fun j hj=>?_⟩;have hj':=hj;rw[hr]at hj;simp only[List.mem_cons,List.mem_nil_iff,or_false]at hj;rcases hj with rfl | rfl
 · exact step_of hj' hi hD S (fun _ h _=>h) h
 · exact step_of hj' hi' hD S (fun _ h _=>h) h'
theorem wpAnyK_done{listed:Array Bool}{a:Act}{w:World}(hr:Region.ready md ops listed=[])(h:Q .normal a w) :
 ∀ fuel,wpAnyK P md ops Q k S fuel listed a w
 | 0=>⟨hr,h⟩
 | _+1=>⟨fun _=>h,by rw[hr];simp⟩
theorem wp_region_K(k:Nat)(S:World→Prop){id:Nat}{a:Act}{w:World}(hm:P.follows .mixedOrders=true)
 (h:Down .any ops (Array.replicate ops.size false)→wpAnyK P .any ops Q k S ops.size (Array.replicate ops.size false) a w.drew):(Code.region id ops true).wp P Q a w:=
 wp_region_any hm (wpAny_of_K _ _ _ _ (h Down.start))
end
section
variable {P : Program} {ops : Array Oper} {Q : Exit → Act → World → Prop} {md : Region.Mode} {S : World → Prop} {k : Nat}
theorem qP{oi:Oper}{v:Value}{listed:Array Bool}{a:Act}{w:World}(i fuel:Nat)(hi:ops[i]? =some oi)(hD:Down md ops listed)(hS:S w)(h:Down md ops (listed.setIfInBounds i true)→wpAnyK P md ops Q k S fuel (listed.setIfInBounds i true) (a.put oi.dst v) w)(hy:∀ w',True→(execOp a.eval oi).run P w'=.ok (.value v) w':=by intro w' _;go_simp;with_reducible rfl)(hst:stepB md ops listed k i=true:=by kernel_rfl)(hg:Region.wanted oi (yielded ops a.tmps)=true:=by kernel_rfl)(hQ:∀ c a w,Q (.panic c) (a.put oi.dst v) w→Q (.panic c) a w:=by exact fun _ _ _ h=>h):wpAnyK P md ops Q k S (fuel+1) listed a w:=wpAnyK_pure hi hst hQ hD hS (.inl ⟨hg,hy⟩) h
theorem qT{oi:Oper}{v:Value}{listed:Array Bool}{a:Act}{w:World}(i fuel:Nat)(hi:ops[i]? =some oi)(hD:Down md ops listed)(hS:S w)(hy:∀ w',S w'→(execOp a.eval oi).run P w'=.ok (.value v) w')(h:Down md ops (listed.setIfInBounds i true)→wpAnyK P md ops Q k S fuel (listed.setIfInBounds i true) (a.put oi.dst v) w)(hst:stepB md ops listed k i=true:=by kernel_rfl)(hre:reachB md ops ops.size k i=true:=by kernel_rfl)(hg:Region.wanted oi (yielded ops a.tmps)=true:=by kernel_rfl)(hQ:∀ c a w,Q (.panic c) (a.put oi.dst v) w→Q (.panic c) a w:=by exact fun _ _ _ h=>h):wpAnyK P md ops Q k S (fuel+1) listed a w:=wpAnyK_take hi hst hre hQ hD hS (.inl ⟨hg,hy⟩) h
theorem qS{oi:Oper}{v:Value}{listed:Array Bool}{a:Act}{w:World}(i fuel:Nat)(hi:ops[i]? =some oi)(hD:Down md ops listed)(hS:S w)(hy:∀ w',S w'→(execOp a.eval oi).run P w'=.ok (.value v) w')(h:Down md ops (listed.setIfInBounds i true)→wpAnyK P md ops Q k S fuel (listed.setIfInBounds i true) (a.put oi.dst v) w)(hst:stepB md ops listed k i=true:=by kernel_rfl)(hre:decide (ops.size≤k)=true:=by kernel_rfl)(hg:Region.wanted oi (yielded ops a.tmps)=true:=by kernel_rfl)(hQ:∀ c a w,Q (.panic c) (a.put oi.dst v) w→Q (.panic c) a w:=by exact fun _ _ _ h=>h):wpAnyK P md ops Q k S (fuel+1) listed a w:=wpAnyK_takeS hi hst hre hQ hD hS (.inl ⟨hg,hy⟩) h
end
def onlyN(K:Act→World→Prop):Exit→Act→World→Prop
 | .normal,a,w=>K a w
 | _,_,_=>False
theorem wp_onlyN{P:Program}{c:Code}{K:Act→World→Prop}{Q:Exit→Act→World→Prop}{a:Act}{w:World}(h:c.wp P (onlyN K) a w):c.wp P (Exit.then K Q) a w:=
 wp_mono h (fun e a w hh=>by
  cases e<;>first | exact hh | exact hh.elim)
theorem name_world{K:Act→World→Prop}{Q:Exit→Act→World→Prop}{a:Act}{w:World}(h:∀ W,W=w→EndK K Q .normal a W):EndK K Q .normal a w:=h w rfl
section
variable {P : Program} {ops : Array Oper} {Q : Exit → Act → World → Prop} {md : Region.Mode} {S : World → Prop} {k : Nat}
def GhostK(P:Program)(md:Region.Mode)(ops:Array Oper)(Q:Exit→Act→World→Prop)(k:Nat)(S:World→Prop)(i:Nat)(d:Tmp)(fuel:Nat)(listed:Array Bool)(a:Act)(I:Bool→Value→World→Prop):Prop:=
 (∀ x w,I true x w→wpAnyK P md ops Q k S fuel (listed.setIfInBounds i true) (a.put (some d) x) w)∧(∀ w,I false undef w→wpAnyK P md ops Q k S (fuel+1) listed a w)
theorem ghost_step{i j:Nat}{oi oj:Oper}{d dj:Tmp}{fuel:Nat}{listed:Array Bool}{a:Act}{I:Bool→Value→World→Prop}{β:Type}(val:β→Value)(I':β→Bool→Value→World→Prop)
 (hr:Region.ready md ops listed=[j,i]) (hr':Region.ready md ops (listed.setIfInBounds i true)=[j]) (hi:ops[i]? =some oi) (hj:ops[j]? =some oj) (hD:Down md ops listed)
 (ha:a.put (some d) undef=a) (hdd:d≠dj) (hS':∀ v b x w,I' v b x w→S w) (hS:∀ b x w,I b x w→S w)
 (halloc:∀ w,I false undef w→∀ K:Act→World→Prop,(∀ x w',I true x w'→K (a.put (some d) x) w')→wpList P ops (EndK K Q) [oi] a w)
 (hstep:∀ b x w,I b x w→∀ K:Act→World→Prop,(∀ v w',I' v b x w'→K ((a.put (some d) x).put (some dj) (val v)) w')→wpList P ops (EndK K Q) [oj] (a.put (some d) x) w)
 (hnext:∀ v,Down md ops (listed.setIfInBounds j true)→GhostK P md ops Q k S i d fuel (listed.setIfInBounds j true) (a.put (some dj) (val v)) (I' v)) :
 GhostK P md ops Q k S i d (fuel+1) listed a I:=by
 have hmi:i∈Region.ready md ops listed:=by rw[hr];simp
 have hmj:j∈Region.ready md ops listed:=by rw[hr];simp
 have hDj:=hD.set hmj;have hji:i≠j:=fun e=>by
  have:=(mem_ready.1 (show j∈Region.ready md ops (listed.setIfInBounds i true)by rw[hr'];simp)).1;subst e;have h2:=(mem_ready.1 hmi).1;have h3:=getD_set_self h2;rw[Array.getD_eq_getD_getElem?]at this h3
  cases e:(listed.setIfInBounds i true)[i]? with
  | none=>rw[e]at h3;cases h3
  | some b=>rw[e]at this h3;cases b<;>cases this<;>cases h3
 have hcomm:∀ x v,(a.put (some d) x).put (some dj) v=(a.put (some dj) v).put (some d) x:=fun x v=>Act.put_comm a x v (fun d' h h'=>by cases h;cases h';exact hdd rfl);have htrue:∀ x w,I true x w→wpAnyK P md ops Q k S (fuel+1) (listed.setIfInBounds i true) (a.put (some d) x) w:=fun x w h=>by
  refine wpAnyK_one hr' hj (hD.set hmi) (fun K hK=>hstep true x w h K fun v w' h'=>hK _ w' (hS' _ _ _ _ h') fun _ _=>?_);rw[hcomm,Array.setIfInBounds_comm _ _ hji];exact(hnext v hDj).1 x w' h'
 refine⟨htrue,fun w h=>?_⟩;refine wpAnyK_two hr hj hi hD (fun K hK=>?_) (fun K hK=>?_)
 · have h1:=hstep false undef w h K fun v w' h'=>by
    rw[hcomm];have e:(a.put (some dj) (val v)).put (some d) undef=a.put (some dj) (val v):=by rw[←hcomm,ha]
    rw[e];exact hK _ w' (hS' _ _ _ _ h') fun _ _=>(hnext v hDj).2 w' h'
   rw[ha]at h1;exact h1
 · exact halloc w h K fun x w' h'=>hK _ w' (hS _ _ _ h') fun _ _=>htrue x w' h'
theorem ghost_end{i:Nat}{oi:Oper}{d:Tmp}{fuel:Nat}{listed:Array Bool}{a:Act}{I:Bool→Value→World→Prop}
 (hr:Region.ready md ops listed=[i]) (hi:ops[i]? =some oi) (hD:Down md ops listed) (hS:∀ b x w,I b x w→S w)
 (halloc:∀ w,I false undef w→∀ K:Act→World→Prop,(∀ x w',I true x w'→K (a.put (some d) x) w')→wpList P ops (EndK K Q) [oi] a w)
 (hnext:∀ x w,I true x w→Down md ops (listed.setIfInBounds i true)→wpAnyK P md ops Q k S fuel (listed.setIfInBounds i true) (a.put (some d) x) w) :
 GhostK P md ops Q k S i d fuel listed a I:=by
 have hmi:i∈Region.ready md ops listed:=by rw[hr];simp
 refine⟨fun x w h=>hnext x w h (hD.set hmi),fun w h=>?_⟩;exact wpAnyK_one hr hi hD fun K hK=>halloc w h K fun x w' h'=>hK _ w' (hS _ _ _ h') fun _ _=>hnext x w' h' (hD.set hmi)
theorem wpAnyK_takeD{i:Nat}{oi:Oper}{d:Option Tmp}{v:Value}{fuel:Nat}{listed:Array Bool}{a:Act}{w:World}(hi:ops[i]? =some oi)(hd:oi.dst=d)(hst:stepB md ops listed k i=true)(hre:reachB md ops ops.size k i=true)
 (hQ:∀ c a w,Q (.panic c) (a.put d v) w→Q (.panic c) a w) (hD:Down md ops listed) (hS:S w) (hy:YieldsIf P ops S oi v a)
 (h:Down md ops (listed.setIfInBounds i true)→wpAnyK P md ops Q k S fuel (listed.setIfInBounds i true) (a.put d v) w):wpAnyK P md ops Q k S (fuel+1) listed a w:=by
 subst hd;exact wpAnyK_take hi hst hre hQ hD hS hy h
theorem wpAnyK_takeSD{i:Nat}{oi:Oper}{d:Option Tmp}{v:Value}{fuel:Nat}{listed:Array Bool}{a:Act}{w:World}(hi:ops[i]? =some oi)(hd:oi.dst=d)(hst:stepB md ops listed k i=true)(hre:decide (ops.size≤k)=true)
 (hQ:∀ c a w,Q (.panic c) (a.put d v) w→Q (.panic c) a w) (hD:Down md ops listed) (hS:S w) (hy:YieldsIf P ops S oi v a)
 (h:Down md ops (listed.setIfInBounds i true)→wpAnyK P md ops Q k S fuel (listed.setIfInBounds i true) (a.put d v) w):wpAnyK P md ops Q k S (fuel+1) listed a w:=by
 subst hd;exact wpAnyK_takeS hi hst hre hQ hD hS hy h
theorem wpAnyK_pureD{i:Nat}{oi:Oper}{d:Option Tmp}{v:Value}{fuel:Nat}{listed:Array Bool}{a:Act}{w:World}(hi:ops[i]? =some oi)(hd:oi.dst=d)(hst:stepB md ops listed k i=true)
 (hQ:∀ c a w,Q (.panic c) (a.put d v) w→Q (.panic c) a w) (hD:Down md ops listed) (hS:S w) (hy:YieldsIf P ops (fun _=>True) oi v a)
 (h:Down md ops (listed.setIfInBounds i true)→wpAnyK P md ops Q k S fuel (listed.setIfInBounds i true) (a.put d v) w):wpAnyK P md ops Q k S (fuel+1) listed a w:=by
 subst hd;exact wpAnyK_pure hi hst hQ hD hS hy h
theorem wpAnyK_pureTD{i:Nat}{oi:Oper}{d:Option Tmp}{v:Value}{fuel:Nat}{listed:Array Bool}{a:Act}{w:World}(hi:ops[i]? =some oi)(hd:oi.dst=d)(hst:stepB md ops listed k i=true)(hk:listed.getD k false=true)
 (hQ:∀ c a w,Q (.panic c) (a.put d v) w→Q (.panic c) a w) (hD:Down md ops listed) (hy:YieldsIf P ops (fun _=>True) oi v a)
 (h:Down md ops (listed.setIfInBounds i true)→wpAnyK P md ops Q k S fuel (listed.setIfInBounds i true) (a.put d v) w):wpAnyK P md ops Q k S (fuel+1) listed a w:=by
 subst hd;exact wpAnyK_pureT hi hst hk hQ hD hy h
end
section
variable {P : Program} {ops : Array Oper} {Q : Exit → Act → World → Prop} {md : Region.Mode} {S : World → Prop} {k : Nat}
theorem qPD{oi:Oper}{v:Value}{listed:Array Bool}{a:Act}{w:World}(i d fuel:Nat)(hi:ops[i]? =some oi)(hD:Down md ops listed)(hS:S w)(h:Down md ops (listed.setIfInBounds i true)→wpAnyK P md ops Q k S fuel (listed.setIfInBounds i true) (a.put (some d) v) w)(hy:∀ w',True→(execOp a.eval oi).run P w'=.ok (.value v) w':=by intro w' _;go_simp;with_reducible rfl)(hd:oi.dst=some d:=by kernel_rfl)(hst:stepB md ops listed k i=true:=by kernel_rfl)(hg:Region.wanted oi (yielded ops a.tmps)=true:=by kernel_rfl)(hQ:∀ c a w,Q (.panic c) (a.put (some d) v) w→Q (.panic c) a w:=by exact fun _ _ _ h=>h):wpAnyK P md ops Q k S (fuel+1) listed a w:=wpAnyK_pureD hi hd hst hQ hD hS (.inl ⟨hg,hy⟩) h
theorem qTD{oi:Oper}{v:Value}{listed:Array Bool}{a:Act}{w:World}(i d fuel:Nat)(hi:ops[i]? =some oi)(hD:Down md ops listed)(hS:S w)(hy:∀ w',S w'→(execOp a.eval oi).run P w'=.ok (.value v) w')(h:Down md ops (listed.setIfInBounds i true)→wpAnyK P md ops Q k S fuel (listed.setIfInBounds i true) (a.put (some d) v) w)(hd:oi.dst=some d:=by kernel_rfl)(hst:stepB md ops listed k i=true:=by kernel_rfl)(hre:reachB md ops ops.size k i=true:=by kernel_rfl)(hg:Region.wanted oi (yielded ops a.tmps)=true:=by kernel_rfl)(hQ:∀ c a w,Q (.panic c) (a.put (some d) v) w→Q (.panic c) a w:=by exact fun _ _ _ h=>h):wpAnyK P md ops Q k S (fuel+1) listed a w:=wpAnyK_takeD hi hd hst hre hQ hD hS (.inl ⟨hg,hy⟩) h
theorem qSD{oi:Oper}{v:Value}{listed:Array Bool}{a:Act}{w:World}(i d fuel:Nat)(hi:ops[i]? =some oi)(hD:Down md ops listed)(hS:S w)(hy:∀ w',S w'→(execOp a.eval oi).run P w'=.ok (.value v) w')(h:Down md ops (listed.setIfInBounds i true)→wpAnyK P md ops Q k S fuel (listed.setIfInBounds i true) (a.put (some d) v) w)(hd:oi.dst=some d:=by kernel_rfl)(hst:stepB md ops listed k i=true:=by kernel_rfl)(hre:decide (ops.size≤k)=true:=by kernel_rfl)(hg:Region.wanted oi (yielded ops a.tmps)=true:=by kernel_rfl)(hQ:∀ c a w,Q (.panic c) (a.put (some d) v) w→Q (.panic c) a w:=by exact fun _ _ _ h=>h):wpAnyK P md ops Q k S (fuel+1) listed a w:=wpAnyK_takeSD hi hd hst hre hQ hD hS (.inl ⟨hg,hy⟩) h
end
open Go.RowKit
theorem kC{w w':World}(h:Below w.heap.size w w'){a:Addr}{v:Value}(c:w.cell? a=some v):w'.cell? a=some v:=cell_kept h (Nat.le_refl _) c
section
variable {P : Program} {ops : Array Oper} {Q : Exit → Act → World → Prop} {md : Region.Mode} {S : World → Prop} {k : Nat}
theorem rP{oi:Oper}{v:Value}{listed:Array Bool}{a:Act}{w:World}(i d fuel:Nat)(hi:ops[i]? =some oi)(hD:Down md ops listed)(hS:S w)
 (h:Down md ops (listed.setIfInBounds i true)→wpAnyK P md ops Q k S fuel (listed.setIfInBounds i true) (a.put (some d) v) w)
 (hd:oi.dst=some d:=by kernel_rfl) (hst:stepB md ops listed k i=true:=by kernel_rfl) (hg:Region.wanted oi (yielded ops a.tmps)=true:=by kernel_rfl)
 (hy:∀ w',True→(execOp a.eval oi).run P w'=.ok (.value v) w':=by intro w' _;go_simp;with_reducible rfl)
 (hQ:∀ c a w,Q (.panic c) (a.put (some d) v) w→Q (.panic c) a w:=by exact fun _ _ _ h=>h):wpAnyK P md ops Q k S (fuel+1) listed a w:=
 wpAnyK_pureD hi hd hst hQ hD hS (.inl ⟨hg,hy⟩) h
theorem rU{oi:Oper}{listed:Array Bool}{a:Act}{w:World}(i d fuel:Nat)(hi:ops[i]? =some oi)(hD:Down md ops listed)(hS:S w)
 (h:Down md ops (listed.setIfInBounds i true)→wpAnyK P md ops Q k S fuel (listed.setIfInBounds i true) (a.put (some d) undef) w)
 (hd:oi.dst=some d:=by kernel_rfl) (hst:stepB md ops listed k i=true:=by kernel_rfl) (hg:Region.wanted oi (yielded ops a.tmps)=false:=by kernel_rfl)
 (hQ:∀ c a w,Q (.panic c) (a.put (some d) undef) w→Q (.panic c) a w:=by exact fun _ _ _ h=>h):wpAnyK P md ops Q k S (fuel+1) listed a w:=
 wpAnyK_pureD hi hd hst hQ hD hS (.inr ⟨hg,rfl⟩) h
theorem rT{oi:Oper}{v:Value}{listed:Array Bool}{a:Act}{w:World}(i d fuel:Nat)(hi:ops[i]? =some oi)(hD:Down md ops listed)(hS:S w)
 (hy:∀ w',S w'→(execOp a.eval oi).run P w'=.ok (.value v) w')
 (h:Down md ops (listed.setIfInBounds i true)→wpAnyK P md ops Q k S fuel (listed.setIfInBounds i true) (a.put (some d) v) w)
 (hd:oi.dst=some d:=by kernel_rfl) (hst:stepB md ops listed k i=true:=by kernel_rfl) (hre:decide (ops.size≤k)=true:=by kernel_rfl) (hg:Region.wanted oi (yielded ops a.tmps)=true:=by kernel_rfl)
 (hQ:∀ c a w,Q (.panic c) (a.put (some d) v) w→Q (.panic c) a w:=by exact fun _ _ _ h=>h):wpAnyK P md ops Q k S (fuel+1) listed a w:=
 wpAnyK_takeSD hi hd hst hre hQ hD hS (.inl ⟨hg,hy⟩) h
theorem rO{oi:Oper}{listed:Array Bool}{a:Act}{w:World}(i fuel:Nat)(hi:ops[i]? =some oi)(hD:Down md ops listed)
 (h:∀ K:Act→World→Prop,(∀ a' w',S w'→(S w'→Down md ops (listed.setIfInBounds i true)→wpAnyK P md ops Q k S fuel (listed.setIfInBounds i true) a' w')→K a' w')→wpList P ops (EndK K Q) [oi] a w)
 (hr:Region.ready md ops listed=[i]:=by kernel_rfl):wpAnyK P md ops Q k S (fuel+1) listed a w:=wpAnyK_one hr hi hD h
end
set_option maxRecDepth 100000
set_option maxHeartbeats 400000
theorem nat_Valid(a:ByteArray)(h:a.size≤9223372036854775807)(w:World) :
 Calls Tryz.prog 15 #[.string a] w (RetQ (.bool (nvalid a)) w):=by
 by_cases h1:a.size≤128
 · by_cases h2:a.size=0
   · rw[nvalid_nil h2];go_enter Tryz.func15,Tryz.ntmps15;go_wp2;go_ret;exact⟨rfl,rfl⟩
   · have h3:0<a.size:=by omega
     have h4:((a.size:Int)==0)=false:=beq_eq_false_iff_ne.2 (by omega);rw[nvalid_some h1 h3];go_enter Tryz.func15,Tryz.ntmps15;go_wp2;go_ret;exact⟨rfl,rfl⟩
 · rw[nvalid_long h1];go_enter Tryz.func15,Tryz.ntmps15;go_wp2;go_ret;exact⟨rfl,rfl⟩
def TrRel(w:World)(bs:List UInt8)(v:Value):Prop:=∃ A len cap bs',v=.slice A len cap∧BytesAt w A len cap bs'∧trimZ bs'=trimZ bs
theorem nat_trimmed(A:Option Addr)(len cap:Nat)(bs:List UInt8)(w:World)(h:BytesAt w A len cap bs) :
 Calls Tryz.prog 76 #[.slice A len cap] w (RetQ (.string (bstr (trimZ bs))) w):=by
 go_enter Tryz.func76,Tryz.ntmps76;go_wp2
 go_loop [0] (fun v=>TrRel w bs v) (fun v=>sliceLen v)
 case atStart=>exact⟨A,len,cap,bs,rfl,h,rfl⟩
 case round =>
  clear h;obtain⟨A',len',cap',bs',rfl,hB,hd⟩:=hrel;have HD:=Hq hd;clear hd;have hconv:=BytesAt.conv hB 130 22 5 Tryz.underlying130 Tryz.underlying5 Tryz.underlying22;by_cases h0:0<len'
  · obtain⟨b,o,rfl,hcel⟩:=hB.2.2.2 h0;have hl:=hB.1;have hcap:len'≤cap':=hB.2.1;have hm:cap'≤9223372036854775807:=hB.2.2.1;have hT:=hB.tail h0;have HB:=Hq hT;have hc0:=hcel 0 h0;simp only[Nat.add_zero]at hc0;clear hcel hT hB;by_cases hz:byteI bs' 0=0
    · have hr:trimZ (bs'.drop 1)=trimZ bs:=by rw[←HD.out,trimZ_zero (by omega) hz]
      have HL:=Hq hl;have HR:=Hq hr;have hz2:(byteI bs' 0==0)=true:=beq_iff_eq.2 hz;clear hl hr hconv hz;go_wp2;exact⟨⟨_,_,_,_,rfl,HB.out,HR.out⟩,by show len' - 1<len';omega⟩
    · have hz2:(byteI bs' 0==0)=false:=beq_eq_false_iff_ne.2 hz;have hr:trimZ bs=bs':=by rw[←HD.out];exact trimZ_stop (.inr hz)
      have HL:=Hq hl;have HR:=Hq hr;clear hl hr hz;go_wp2;go_ret;rw[HR.out];exact⟨rfl,rfl⟩
  · have h00:len'=0:=by omega
    subst h00;have hl:=hB.1;have hr:trimZ bs=bs':=by rw[←HD.out];exact trimZ_stop (.inl hl)
    have HR:=Hq hr;clear hr hl hB h0;go_wp2;go_ret;rw[HR.out];exact⟨rfl,rfl⟩
end Go.Proofs.YtamhonjkgkmdbaaGreatDoor

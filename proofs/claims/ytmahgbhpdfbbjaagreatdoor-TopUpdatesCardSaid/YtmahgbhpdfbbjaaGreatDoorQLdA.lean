import Derived.OrdersHeld
import Derived.Test.YtmahgbhpdfbbjaaGreatDoorQNaD
set_option linter.unusedVariables false
set_option linter.unusedSimpArgs false
namespace Go.Proofs.YtmahgbhpdfbbjaaGreatDoor
theorem sqA{α:Type _}(l:List α)(i:Nat)(a:α):l.toArray.setIfInBounds i a=(l.set i a).toArray:=List.setIfInBounds_toArray _ _ _
theorem sqB{α:Type _}(a b:α)(l:List α):(a::l).set 0 b=b::l:=rfl
theorem sqC{α:Type _}(a b:α)(l:List α)(n:Nat):(a::l).set (n+1) b=a::l.set n b:=rfl
section
variable {P : Program} {ops : Array Oper} {Q : Exit → Act → World → Prop} {md : Region.Mode} {S : World → Prop} {k : Nat}
def Down(md:Region.Mode)(ops:Array Oper)(listed:Array Bool):Prop:=
 listed.size=ops.size∧∀ j o,ops[j]? =some o→listed.getD j false=true→∀ e∈o.after,Region.binds md e=true→listed.getD e.on false=true
theorem getD_repl_false(n j:Nat):(Array.replicate n false).getD j false=false:=by
 rw[Array.getD_eq_getD_getElem?,Array.getElem?_replicate];split<;>rfl
theorem Down.start:Down md ops (Array.replicate ops.size false):=by
 refine⟨Array.size_replicate,fun j o _ h=>?_⟩;rw[getD_repl_false]at h;cases h
theorem Down.beyond{listed:Array Bool}(h:Down md ops listed){j:Nat}(hj:ops.size≤j):listed.getD j false=false:=by
 rw[Array.getD_eq_getD_getElem?,Array.getElem?_eq_none (by rw[h.1];exact hj)];rfl
theorem getD_agree{listed:Array Bool}{j:Nat}(h:listed.getD j true=false):listed.getD j false=false:=by
 rw[Array.getD_eq_getD_getElem?]at *
 cases e:listed[j]? with
 | none=>rfl
 | some b=>rw[e]at h;exact h
theorem getD_set_self{listed:Array Bool}{i:Nat}(h:listed.getD i true=false):(listed.setIfInBounds i true).getD i false=true:=by
 rw[Array.getD_eq_getD_getElem?]at *;have hi:i<listed.size:=by
  rcases Nat.lt_or_ge i listed.size with h' | h'
  · exact h'
  · rw[Array.getElem?_eq_none h']at h;cases h
 rw[Array.getElem?_setIfInBounds_self];rw[if_pos hi];rfl
theorem Down.set{listed:Array Bool}(h:Down md ops listed){i:Nat}(hi:i∈Region.ready md ops listed):Down md ops (listed.setIfInBounds i true):=by
 refine⟨by rw[Array.size_setIfInBounds];exact h.1,fun j o hj hl e he hb=>?_⟩;by_cases hij:i=j
 · subst hij;obtain⟨_,o',ho',hall⟩:=mem_ready.1 hi;rw[hj]at ho';cases ho';exact getD_set_true (hall e he hb)
 · rw[getD_set_ne false hij]at hl;exact getD_set_true (h.2 j o hj hl e he hb)
def reachB(md:Region.Mode)(ops:Array Oper):Nat→Nat→Nat→Bool
 | 0,_,_=>false
 | n+1,k,i=>match ops[k]? with
  | none=>false
  | some o=>o.after.any fun e=>Region.binds md e&&(e.on==i||reachB md ops n e.on i)
theorem reachB_spec{listed:Array Bool}(h:Down md ops listed):∀(n k i:Nat),reachB md ops n k i=true→listed.getD k false=true→listed.getD i false=true
 | 0,_,_,hr,_=>by cases hr
 | n+1,k,i,hr,hk=>by
  unfold reachB at hr
  cases ho:ops[k]? with
  | none=>rw[ho]at hr;cases hr
  | some o =>
   rw[ho]at hr;simp only[Array.any_eq_true',Bool.and_eq_true,Bool.or_eq_true,beq_iff_eq]at hr;obtain⟨e,he,hb,h1 | h1⟩:=hr
   · rw[←h1];exact h.2 k o ho hk e he hb
   · exact reachB_spec h n e.on i h1 (h.2 k o ho hk e he hb)
def wpAnyK(P:Program)(md:Region.Mode)(ops:Array Oper)(Q:Exit→Act→World→Prop)(k:Nat)(S:World→Prop):Nat→Array Bool→Act→World→Prop
 | 0,listed,a,w=>Region.ready md ops listed=[]∧Q .normal a w
 | fuel+1,listed,a,w =>
  (Region.ready md ops listed=[]→Q .normal a w) ∧
  ∀ i∈Region.ready md ops listed,wpOp P ops Q i (fun a' w'=>((listed.setIfInBounds i true).getD k false=false→S w')∧wpAnyK P md ops Q k S fuel (listed.setIfInBounds i true) a' w') a w
theorem wpAny_of_K:∀(fuel:Nat) (listed:Array Bool) (a:Act) (w:World),wpAnyK P md ops Q k S fuel listed a w→wpAny P md ops Q fuel listed a w
 | 0,_,_,_,h=>h
 | fuel+1,_,_,_,h=>⟨h.1,fun i hi=>wpOp_mono (fun a' w' h'=>wpAny_of_K fuel _ a' w' h'.2) (h.2 i hi)⟩
theorem wpAnyK_first{i:Nat}{oi:Oper}{v:Value}{T:World→Prop}(hi:ops[i]? =some oi)(hsel:∀(j:Nat) (o:Oper) cs b,ops[j]? =some o→o.op≠.select cs b)
 (hT:∀(listed:Array Bool) (w:World),Down md ops listed→listed.getD i true=false→(listed.getD k false=false→S w)→T w) (hki:k≠i)
 (hQ:∀ c a w,Q (.panic c) (a.put oi.dst v) w→Q (.panic c) a w) :
 ∀(fuel:Nat) (listed:Array Bool) (a:Act) (w:World),Down md ops listed →
  (∀ j oj,ops[j]? =some oj→j≠i→listed.getD j true=false→(∀ e∈oj.after,Region.binds md e=true→e.on≠i)→oi.apart ops oj=true) →
  i∈Region.ready md ops listed→YieldsIf P ops T oi v a→(listed.getD k false=false→S w) →
  wpAnyK P md ops Q k S fuel (listed.setIfInBounds i true) (a.put oi.dst v) w→wpAnyK P md ops Q k S (fuel+1) listed a w:=by
 intro fuel
 induction fuel with
 | zero =>
  intro listed a w hD _ hr hy hS H;refine⟨fun h=>(by rw[h]at hr;cases hr),fun j hj=>?_⟩;have hTw:=hT listed w hD (mem_ready.1 hr).1 hS;by_cases hji:j=i
  · subst hji;exact hy.wpOp hi hTw ⟨fun h=>hS (by rw[getD_set_ne false (Ne.symm hki)]at h;exact h),H⟩
  · have:=ready_mono hj hji;rw[H.1]at this;cases this
 | succ fuel ih =>
  intro listed a w hD hfree hr hy hS H;refine⟨fun h=>(by rw[h]at hr;cases hr),fun j hj=>?_⟩;have hTw:=hT listed w hD (mem_ready.1 hr).1 hS;by_cases hji:j=i
  · subst hji;exact hy.wpOp hi hTw ⟨fun h=>hS (by rw[getD_set_ne false (Ne.symm hki)]at h;exact h),H⟩
  · have h1:=H.2 j (ready_mono hj hji);obtain⟨hjun,oj,hoj,hall⟩:=mem_ready.1 hj;have hnot:∀ e∈oj.after,Region.binds md e=true→e.on≠i:=fun e he hb heq=>by
     have h1:=hall e he hb;have h0:=getD_agree (mem_ready.1 hr).1;rw[heq,h0]at h1;cases h1
    have h2:=wpOp_putIf hoj (hfree j oj hoj hji hjun hnot) (fun cs b=>hsel i oi cs b hi) (fun cs b=>hsel j oj cs b hoj) hQ hy h1;have hfree':∀ m om,ops[m]? =some om→m≠i→(listed.setIfInBounds j true).getD m true=false →
     (∀ e∈om.after,Region.binds md e=true→e.on≠i)→oi.apart ops om=true:=fun m om hm hmi hun hno=>by
     refine hfree m om hm hmi ?_ hno;by_cases hjm:j=m
     · subst hjm;exact hjun
     · rw[getD_set_ne true hjm]at hun;exact hun
    refine wpOp_mono (fun a' w' h3=>?_) h2;have hS':(listed.setIfInBounds j true).getD k false=false→S w':=fun h=>h3.2.1 (by
     rw[Array.setIfInBounds_comm _ _ (Ne.symm hji),getD_set_ne false (Ne.symm hki)]
     exact h)
    refine⟨hS',ih (listed.setIfInBounds j true) a' w' (hD.set hj) hfree' (ready_mono hr (Ne.symm hji)) h3.1 hS' ?_⟩;rw[Array.setIfInBounds_comm _ _ hji];exact h3.2.2
def stepB(md:Region.Mode)(ops:Array Oper)(listed:Array Bool)(k i:Nat):Bool:=
 Region.noSelect ops&&Region.free md ops listed i&&(Region.ready md ops listed).contains i && !(k==i)
theorem stepB_spec{listed:Array Bool}{i:Nat}(h:stepB md ops listed k i=true):Region.noSelect ops=true∧Region.free md ops listed i=true∧i∈Region.ready md ops listed∧k≠i:=by
 simp only[stepB,Bool.and_eq_true,Bool.not_eq_true',beq_eq_false_iff_ne,List.contains_iff_mem]at h;exact⟨h.1.1.1,h.1.1.2,h.1.2,h.2⟩
theorem wpAnyK_take{i:Nat}{oi:Oper}{v:Value}{fuel:Nat}{listed:Array Bool}{a:Act}{w:World}(hi:ops[i]? =some oi)(hst:stepB md ops listed k i=true)(hre:reachB md ops ops.size k i=true)
 (hQ:∀ c a w,Q (.panic c) (a.put oi.dst v) w→Q (.panic c) a w) (hD:Down md ops listed) (hS:S w) (hy:YieldsIf P ops S oi v a)
 (h:Down md ops (listed.setIfInBounds i true)→wpAnyK P md ops Q k S fuel (listed.setIfInBounds i true) (a.put oi.dst v) w):wpAnyK P md ops Q k S (fuel+1) listed a w:=by
 obtain⟨hs,hf,hr',hki'⟩:=stepB_spec hst;refine wpAnyK_first (T:=S) hi (Region.noSelect_spec hs) (fun l w' hD' hl hS'=>hS' ?_) hki' hQ fuel listed a w hD (Region.free_spec hi hf) hr' hy (fun _=>hS) (h (hD.set hr'))
 cases hk:l.getD k false with
 | false=>rfl
 | true=>rw[←getD_agree hl];exact(reachB_spec hD' _ k i hre hk).symm
theorem wpAnyK_takeS{i:Nat}{oi:Oper}{v:Value}{fuel:Nat}{listed:Array Bool}{a:Act}{w:World}(hi:ops[i]? =some oi)(hst:stepB md ops listed k i=true)(hre:decide (ops.size≤k)=true)
 (hQ:∀ c a w,Q (.panic c) (a.put oi.dst v) w→Q (.panic c) a w) (hD:Down md ops listed) (hS:S w) (hy:YieldsIf P ops S oi v a)
 (h:Down md ops (listed.setIfInBounds i true)→wpAnyK P md ops Q k S fuel (listed.setIfInBounds i true) (a.put oi.dst v) w):wpAnyK P md ops Q k S (fuel+1) listed a w:=by
 obtain⟨hs,hf,hr',hki'⟩:=stepB_spec hst;exact wpAnyK_first (T:=S) hi (Region.noSelect_spec hs) (fun l w' hD' hl hS'=>hS' (hD'.beyond (of_decide_eq_true hre))) hki' hQ fuel listed a w hD (Region.free_spec hi hf) hr' hy (fun _=>hS) (h (hD.set hr'))
theorem wpAnyK_pure{i:Nat}{oi:Oper}{v:Value}{fuel:Nat}{listed:Array Bool}{a:Act}{w:World}(hi:ops[i]? =some oi)(hst:stepB md ops listed k i=true)
 (hQ:∀ c a w,Q (.panic c) (a.put oi.dst v) w→Q (.panic c) a w) (hD:Down md ops listed) (hS:S w) (hy:YieldsIf P ops (fun _=>True) oi v a)
 (h:Down md ops (listed.setIfInBounds i true)→wpAnyK P md ops Q k S fuel (listed.setIfInBounds i true) (a.put oi.dst v) w):wpAnyK P md ops Q k S (fuel+1) listed a w:=by
 obtain⟨hs,hf,hr',hki'⟩:=stepB_spec hst;exact wpAnyK_first (T:=fun _=>True) hi (Region.noSelect_spec hs) (fun _ _ _ _ _=>trivial) hki' hQ fuel listed a w hD (Region.free_spec hi hf) hr' hy (fun _=>hS) (h (hD.set hr'))
theorem wpAnyK_pureT{i:Nat}{oi:Oper}{v:Value}{fuel:Nat}{listed:Array Bool}{a:Act}{w:World}(hi:ops[i]? =some oi)(hst:stepB md ops listed k i=true)(hk:listed.getD k false=true)
 (hQ:∀ c a w,Q (.panic c) (a.put oi.dst v) w→Q (.panic c) a w) (hD:Down md ops listed) (hy:YieldsIf P ops (fun _=>True) oi v a)
 (h:Down md ops (listed.setIfInBounds i true)→wpAnyK P md ops Q k S fuel (listed.setIfInBounds i true) (a.put oi.dst v) w):wpAnyK P md ops Q k S (fuel+1) listed a w:=by
 obtain⟨hs,hf,hr',hki'⟩:=stepB_spec hst;exact wpAnyK_first (T:=fun _=>True) hi (Region.noSelect_spec hs) (fun _ _ _ _ _=>trivial) hki' hQ fuel listed a w hD (Region.free_spec hi hf) hr' hy (fun h0=>by rw[hk]at h0;cases h0) (h (hD.set hr'))
theorem wp_other_end{o:Oper}{a:Act}{w:World}{K:Act→World→Prop}{Q':Exit→Act→World→Prop}(hQ:∀ c a w,Q' (.panic c) a w→Q (.panic c) a w)(hO:LetsOut Q'→LetsOut Q)
 (h:o.wp P a w K Q'):o.wp P a w K Q:=by
 unfold Oper.wp at *;generalize (execOp a.eval o).run P w=r at *
 cases r with
 | ok n w' =>
  cases n<;>simp only[Oper.upon]at h⊢;case value u=>exact h
  case skip=>exact h
  case defer d=>exact h
  case enter f args =>
   refine Calls.mono h fun e w'' he=>?_
   cases e with
   | returned u=>exact he
   | panicked c=>exact hQ _ _ _ he
   | outgrown=>exact hO he
  case row row args=>exact h
 | halt x w' =>
  cases x<;>simp only[Oper.upon]at h⊢;case panic u=>exact hQ _ _ _ h
def EndK(K:Act→World→Prop)(Q:Exit→Act→World→Prop):Exit→Act→World→Prop
 | .normal,a,w=>K a w
 | e,a,w=>Q e a w
def StepK(P:Program)(md:Region.Mode)(ops:Array Oper)(Q:Exit→Act→World→Prop)(k:Nat)(S:World→Prop)(i:Nat)(oi:Oper)(fuel:Nat)(listed:Array Bool)(a:Act)(w:World):Prop:=
 ∀ K:Act→World→Prop,(∀ a' w',S w'→(S w'→Down md ops (listed.setIfInBounds i true)→wpAnyK P md ops Q k S fuel (listed.setIfInBounds i true) a' w')→K a' w')→wpList P ops (EndK K Q) [oi] a w
theorem step_of{i:Nat}{oi:Oper}{fuel:Nat}{listed:Array Bool}{a:Act}{w:World}(hi':i∈Region.ready md ops listed)(hi:ops[i]? =some oi)(hD:Down md ops listed)(R:World→Prop)(hR:∀ w',R w'→(listed.setIfInBounds i true).getD k false=false→S w')
 (h:∀ K:Act→World→Prop,(∀ a' w',R w'→(R w'→Down md ops (listed.setIfInBounds i true)→wpAnyK P md ops Q k S fuel (listed.setIfInBounds i true) a' w')→K a' w')→wpList P ops (EndK K Q) [oi] a w) :
 wpOp P ops Q i (fun a' w'=>((listed.setIfInBounds i true).getD k false=false→S w')∧wpAnyK P md ops Q k S fuel (listed.setIfInBounds i true) a' w') a w:=by
 have h1:=h (fun a' w'=>((listed.setIfInBounds i true).getD k false=false→S w')∧wpAnyK P md ops Q k S fuel (listed.setIfInBounds i true) a' w') (fun a' w' hS hh=>⟨hR w' hS,hh hS (hD.set hi')⟩);have hO:LetsOut (EndK (fun a' w'=>((listed.setIfInBounds i true).getD k false=false→S w')∧wpAnyK P md ops Q k S fuel (listed.setIfInBounds i true) a' w') Q)→LetsOut Q:=fun⟨a',w',hh⟩=>⟨a',w',hh⟩;unfold wpList at h1;unfold wpOp;simp only[hi];split
 · rename_i hw;rw[if_pos hw]at h1;rcases h1 with h1 | ⟨h2,h3⟩
   · exact .inl (wp_other_end (fun _ _ _ hh=>hh) hO h1)
   · exact .inr ⟨h2,hO h3⟩
 · rename_i hw;rw[if_neg hw]at h1;exact h1
theorem wpAnyK_oneT{i:Nat}{oi:Oper}{fuel:Nat}{listed:Array Bool}{a:Act}{w:World}(hr:Region.ready md ops listed=[i])(hi:ops[i]? =some oi)(hD:Down md ops listed)(hk:(listed.setIfInBounds i true).getD k false=true)
 (h:∀ K:Act→World→Prop,(∀ a' w',(Down md ops (listed.setIfInBounds i true)→wpAnyK P md ops Q k S fuel (listed.setIfInBounds i true) a' w')→K a' w')→wpList P ops (EndK K Q) [oi] a w):wpAnyK P md ops Q k S (fuel+1) listed a w:=by
 refine⟨fun h0=>(by rw[hr]at h0;cases h0),fun j hj=>?_⟩;have hi':i∈Region.ready md ops listed:=by rw[hr];exact List.mem_singleton.2 rfl
 rw[hr]at hj;obtain rfl:=List.mem_singleton.1 hj;exact step_of hi' hi hD (fun _=>True) (fun _ _ h0=>by rw[hk]at h0;cases h0) (fun K hK=>h K fun a' w' hh=>hK a' w' trivial fun _=>hh)
theorem wpAnyK_one{i:Nat}{oi:Oper}{fuel:Nat}{listed:Array Bool}{a:Act}{w:World}(hr:Region.ready md ops listed=[i])(hi:ops[i]? =some oi)(hD:Down md ops listed)
 (h:∀ K:Act→World→Prop,(∀ a' w',S w'→(S w'→Down md ops (listed.setIfInBounds i true)→wpAnyK P md ops Q k S fuel (listed.setIfInBounds i true) a' w')→K a' w')→wpList P ops (EndK K Q) [oi] a w):wpAnyK P md ops Q k S (fuel+1) listed a w:=by
 refine⟨fun h0=>(by rw[hr]at h0;cases h0),fun j hj=>?_⟩;have hi':i∈Region.ready md ops listed:=by rw[hr];exact List.mem_singleton.2 rfl
 rw[hr]at hj;obtain rfl:=List.mem_singleton.1 hj;exact step_of hi' hi hD S (fun _ h _=>h) h
theorem wpAnyK_two{i i':Nat}{oi oi':Oper}{fuel:Nat}{listed:Array Bool}{a:Act}{w:World}(hr:Region.ready md ops listed=[i,i'])(hi:ops[i]? =some oi)(hi':ops[i']? =some oi')(hD:Down md ops listed)
 (h:StepK P md ops Q k S i oi fuel listed a w) (h':StepK P md ops Q k S i' oi' fuel listed a w):wpAnyK P md ops Q k S (fuel+1) listed a w:=by
 refine⟨fun h0=>(by rw[hr]at h0;cases h0),fun j hj=>?_⟩;have hj':=hj;rw[hr]at hj;simp only[List.mem_cons,List.mem_nil_iff,or_false]at hj;rcases hj with rfl | rfl
 · exact step_of hj' hi hD S (fun _ h _=>h) h
 · exact step_of hj' hi' hD S (fun _ h _=>h) h'
theorem wpAnyK_done{listed:Array Bool}{a:Act}{w:World}(hr:Region.ready md ops listed=[])(h:Q .normal a w) :
 ∀ fuel,wpAnyK P md ops Q k S fuel listed a w
 | 0=>⟨hr,h⟩
 | _+1=>⟨fun _=>h,by rw[hr];simp⟩
theorem wp_region_K(k:Nat)(S:World→Prop){id:Nat}{a:Act}{w:World}(hm:P.follows .mixedOrders=true)
 (h:Down .any ops (Array.replicate ops.size false)→wpAnyK P .any ops Q k S ops.size (Array.replicate ops.size false) a w.drew):(Code.region id ops true).wp P Q a w:=
 wp_region_any hm (wpAny_of_K _ _ _ _ (h Down.start))
end
section
variable {P : Program} {ops : Array Oper} {Q : Exit → Act → World → Prop} {md : Region.Mode} {S : World → Prop} {k : Nat}
theorem qP{oi:Oper}{v:Value}{listed:Array Bool}{a:Act}{w:World}(i fuel:Nat)(hS:S w)(h:Down md ops (listed.setIfInBounds i true)→wpAnyK P md ops Q k S fuel (listed.setIfInBounds i true) (a.put oi.dst v) w)(hi:ops[i]? =some oi:=by rfl)(hy:∀ w',True→(execOp a.eval oi).run P w'=.ok (.value v) w':=by intro w' _;go_simp;with_reducible rfl)(hst:stepB md ops listed k i=true:=by kernel_rfl)(hg:Region.wanted oi (yielded ops a.tmps)=true:=by kernel_rfl)(hQ:∀ c a w,Q (.panic c) (a.put oi.dst v) w→Q (.panic c) a w:=by exact fun _ _ _ h=>h):Down md ops listed→wpAnyK P md ops Q k S (fuel+1) listed a w:=fun hD=>wpAnyK_pure hi hst hQ hD hS (.inl ⟨hg,hy⟩) h
theorem qPs{oi:Oper}{v:Value}{listed:Array Bool}{a a':Act}{w:World}(i fuel:Nat)(hS:S w)(h:Down md ops (listed.setIfInBounds i true)→wpAnyK P md ops Q k S fuel (listed.setIfInBounds i true) a' w)(hi:ops[i]? =some oi:=by rfl)(hy:∀ w',True→(execOp a.eval oi).run P w'=.ok (.value v) w':=by intro w' _;go_simp;with_reducible rfl)(hst:stepB md ops listed k i=true:=by kernel_rfl)(hg:Region.wanted oi (yielded ops a.tmps)=true:=by kernel_rfl)(hQ:∀ c a w,Q (.panic c) (a.put oi.dst v) w→Q (.panic c) a w:=by exact fun _ _ _ h=>h)(ha:a.put oi.dst v=a':=by simp only[Act.put,sqA,sqB,sqC];rfl):Down md ops listed→wpAnyK P md ops Q k S (fuel+1) listed a w:=by subst ha;exact qP i fuel hS h hi hy hst hg hQ
theorem qT{oi:Oper}{v:Value}{listed:Array Bool}{a:Act}{w:World}(i fuel:Nat)(hS:S w){F:World→Prop}(K:∀ w',S w'→F w')(h:Down md ops (listed.setIfInBounds i true)→wpAnyK P md ops Q k S fuel (listed.setIfInBounds i true) (a.put oi.dst v) w)(hi:ops[i]? =some oi:=by rfl)(hst:stepB md ops listed k i=true:=by kernel_rfl)(hre:reachB md ops ops.size k i=true:=by kernel_rfl)(hg:Region.wanted oi (yielded ops a.tmps)=true:=by kernel_rfl)(hy:∀ w',F w'→(execOp a.eval oi).run P w'=.ok (.value v) w':=by intro w' hF;go_simp;with_reducible rfl)(hQ:∀ c a w,Q (.panic c) (a.put oi.dst v) w→Q (.panic c) a w:=by exact fun _ _ _ h=>h):Down md ops listed→wpAnyK P md ops Q k S (fuel+1) listed a w:=fun hD=>wpAnyK_take hi hst hre hQ hD hS (.inl ⟨hg,fun w' h'=>hy w' (K w' h')⟩) h
theorem qTs{oi:Oper}{v:Value}{listed:Array Bool}{a a':Act}{w:World}(i fuel:Nat)(hS:S w){F:World→Prop}(K:∀ w',S w'→F w')(h:Down md ops (listed.setIfInBounds i true)→wpAnyK P md ops Q k S fuel (listed.setIfInBounds i true) a' w)(hi:ops[i]? =some oi:=by rfl)(hst:stepB md ops listed k i=true:=by kernel_rfl)(hre:reachB md ops ops.size k i=true:=by kernel_rfl)(hg:Region.wanted oi (yielded ops a.tmps)=true:=by kernel_rfl)(hy:∀ w',F w'→(execOp a.eval oi).run P w'=.ok (.value v) w':=by intro w' hF;go_simp;with_reducible rfl)(hQ:∀ c a w,Q (.panic c) (a.put oi.dst v) w→Q (.panic c) a w:=by exact fun _ _ _ h=>h)(ha:a.put oi.dst v=a':=by simp only[Act.put,sqA,sqB,sqC];rfl):Down md ops listed→wpAnyK P md ops Q k S (fuel+1) listed a w:=by subst ha;exact qT i fuel hS K h hi hst hre hg hy hQ
theorem qS{oi:Oper}{v:Value}{listed:Array Bool}{a:Act}{w:World}(i fuel:Nat)(hS:S w){F:World→Prop}(K:∀ w',S w'→F w')(h:Down md ops (listed.setIfInBounds i true)→wpAnyK P md ops Q k S fuel (listed.setIfInBounds i true) (a.put oi.dst v) w)(hi:ops[i]? =some oi:=by rfl)(hst:stepB md ops listed k i=true:=by kernel_rfl)(hre:decide (ops.size≤k)=true:=by kernel_rfl)(hg:Region.wanted oi (yielded ops a.tmps)=true:=by kernel_rfl)(hy:∀ w',F w'→(execOp a.eval oi).run P w'=.ok (.value v) w':=by intro w' hF;go_simp;with_reducible rfl)(hQ:∀ c a w,Q (.panic c) (a.put oi.dst v) w→Q (.panic c) a w:=by exact fun _ _ _ h=>h):Down md ops listed→wpAnyK P md ops Q k S (fuel+1) listed a w:=fun hD=>wpAnyK_takeS hi hst hre hQ hD hS (.inl ⟨hg,fun w' h'=>hy w' (K w' h')⟩) h
theorem qSs{oi:Oper}{v:Value}{listed:Array Bool}{a a':Act}{w:World}(i fuel:Nat)(hS:S w){F:World→Prop}(K:∀ w',S w'→F w')(h:Down md ops (listed.setIfInBounds i true)→wpAnyK P md ops Q k S fuel (listed.setIfInBounds i true) a' w)(hi:ops[i]? =some oi:=by rfl)(hst:stepB md ops listed k i=true:=by kernel_rfl)(hre:decide (ops.size≤k)=true:=by kernel_rfl)(hg:Region.wanted oi (yielded ops a.tmps)=true:=by kernel_rfl)(hy:∀ w',F w'→(execOp a.eval oi).run P w'=.ok (.value v) w':=by intro w' hF;go_simp;with_reducible rfl)(hQ:∀ c a w,Q (.panic c) (a.put oi.dst v) w→Q (.panic c) a w:=by exact fun _ _ _ h=>h)(ha:a.put oi.dst v=a':=by simp only[Act.put,sqA,sqB,sqC];rfl):Down md ops listed→wpAnyK P md ops Q k S (fuel+1) listed a w:=by subst ha;exact qS i fuel hS K h hi hst hre hg hy hQ
end
section
variable {P : Program} {ops : Array Oper} {Q : Exit → Act → World → Prop} {md : Region.Mode} {S : World → Prop} {k : Nat}
theorem wDn{listed:Array Bool}{a:Act}{w:World}{fuel:Nat}(h:Q .normal a w)(hr:Region.ready md ops listed=[]:=by kernel_rfl):Down md ops listed→wpAnyK P md ops Q k S fuel listed a w:=fun _=>wpAnyK_done hr h _
theorem oT{oi:Oper}{listed:Array Bool}{a:Act}{w:World}(i fuel:Nat)
 (h:∀ K:Act→World→Prop,(∀ a' w',(Down md ops (listed.setIfInBounds i true)→wpAnyK P md ops Q k S fuel (listed.setIfInBounds i true) a' w')→K a' w')→wpList P ops (EndK K Q) [oi] a w)
 (hi:ops[i]? =some oi:=by rfl) (hr:Region.ready md ops listed=[i]:=by kernel_rfl) (hk:(listed.setIfInBounds i true).getD k false=true:=by kernel_rfl):Down md ops listed→wpAnyK P md ops Q k S (fuel+1) listed a w:=fun hD=>wpAnyK_oneT hr hi hD hk h
theorem oO{oi:Oper}{listed:Array Bool}{a:Act}{w:World}(i fuel:Nat)
 (h:∀ K:Act→World→Prop,(∀ a' w',S w'→(S w'→Down md ops (listed.setIfInBounds i true)→wpAnyK P md ops Q k S fuel (listed.setIfInBounds i true) a' w')→K a' w')→wpList P ops (EndK K Q) [oi] a w)
 (hi:ops[i]? =some oi:=by rfl) (hr:Region.ready md ops listed=[i]:=by kernel_rfl):Down md ops listed→wpAnyK P md ops Q k S (fuel+1) listed a w:=fun hD=>wpAnyK_one hr hi hD h
end
set_option maxRecDepth 100000
set_option maxHeartbeats 1000000
open Go.RowKit
theorem cmpI_nonneg{x y:Nat}(h:y≤x):0≤cmpI x y:=by
 unfold cmpI;rw[if_neg (by omega)];split<;>omega
theorem nat_Sub_less(x y:Nat)(hx:x<256 ^ 128)(hy:y<256 ^ 128)(h:x<y)(w:World):Calls Tryz.prog 67 #[.string (nS x),.string (nS y)] w (RetQ (.tuple #[.string ⟨#[]⟩,.int .i64 2]) w):=by
 have hs1:=nS_size_le.2 hx;have hs2:=nS_size_le.2 hy;have HV1:=Hq (nvalid_nS.2 hx);have HV2:=Hq (nvalid_nS.2 hy);have HO:=Hq (ordB_nS x y);obtain⟨s,hs⟩:=nm (nS x);obtain⟨t,ht⟩:=nm (nS y);rw[hs]at hs1 HV1 HO⊢;rw[ht]at hs2 HV2 HO⊢;have HS:=Hq hs;have HT:=Hq ht;have HX:=Hq hx;have HY:=Hq hy;clear hs ht hx hy;go_enter Tryz.func67,Tryz.ntmps67;go_wp2_with fail;refine(nat_Valid s (by omega) _).mono ?_;rintro e w1 ⟨rfl,rfl⟩;rw[HV1.out];go_wp2_with fail;refine(nat_Valid t (by omega) _).mono ?_;rintro e w1 ⟨rfl,rfl⟩;rw[HV2.out];go_wp2_with fail;refine(nat_compare s t (by omega) (by omega) _).mono ?_;rintro e w1 ⟨rfl,rfl⟩;rw[HO.out,cmpI_lt h];go_wp2;go_ret2;exact⟨rfl,rfl⟩
theorem nat_Sub_ge(x y:Nat)(hx:x<256 ^ 128)(hy:y<256 ^ 128)(h:y≤x)(w:World):Calls Tryz.prog 67 #[.string (nS x),.string (nS y)] w (Ret (.tuple #[.string (nS (x - y)),.int .i64 0]) w):=by
 have HG:=Hq (cmpI_nonneg h);have hs1:=nS_size_le.2 hx;have hs2:=nS_size_le.2 hy;have HV1:=Hq (nvalid_nS.2 hx);have HV2:=Hq (nvalid_nS.2 hy);have HO:=Hq (ordB_nS x y);obtain⟨s,hs⟩:=nm (nS x);obtain⟨t,ht⟩:=nm (nS y);rw[hs]at hs1 HV1 HO⊢;rw[ht]at hs2 HV2 HO⊢;have HS:=Hq hs;have HT:=Hq ht;have HX:=Hq hx;have HY:=Hq hy;clear hs ht hx hy;go_enter Tryz.func67,Tryz.ntmps67;go_wp2_with fail;refine(nat_Valid s (by omega) _).mono ?_;rintro e w1 ⟨rfl,rfl⟩;rw[HV1.out];go_wp2_with fail;refine(nat_Valid t (by omega) _).mono ?_;rintro e w1 ⟨rfl,rfl⟩;rw[HV2.out];go_wp2_with fail;refine(nat_compare s t (by omega) (by omega) _).mono ?_;rintro e w1 ⟨rfl,rfl⟩;rw[HO.out];have hg:=HG.out;obtain⟨c,hc⟩:=nm (cmpI x y);rw[hc]at hg⊢;clear hc HG;go_wp2_with fail;rw[←HS.out,←HT.out];refine(nat_less x y (by rw[HS.out];omega) h _).mono ?_;rintro e w1 ⟨rfl,hb⟩;have HB:=Hq hb;clear hb;go_wp2;go_ret2;exact⟨rfl,HB.out⟩
/-! Division at numbers below 2^64. -/
theorem nat_divided_lt(x y:Nat)(hx:x<256 ^ 128)(hy:y<256 ^ 128)(h:x<y)(w:World):Calls Tryz.prog 62 #[.string (nS x),.string (nS y)] w (RetQ (.tuple #[.string (nS (x / y)),.string (nS (x%y))]) w):=by
 rw[Nat.div_eq_of_lt h,Nat.mod_eq_of_lt h,nS_zero];have hs1:=nS_size_le.2 hx;have hs2:=nS_size_le.2 hy;have HV1:=Hq (nvalid_nS.2 hx);have HV2:=Hq (nvalid_nS.2 hy);have HO:=Hq (ordB_nS x y);obtain⟨s,hs⟩:=nm (nS x);obtain⟨t,ht⟩:=nm (nS y);rw[hs]at hs1 HV1 HO⊢;rw[ht]at hs2 HV2 HO⊢;have HS:=Hq hs;have HT:=Hq ht;have HX:=Hq hx;have HY:=Hq hy;clear hs ht hx hy;go_enter Tryz.func62,Tryz.ntmps62;go_wp2_with fail;refine(nat_compare s t (by omega) (by omega) _).mono ?_;rintro e w1 ⟨rfl,rfl⟩;rw[HO.out,cmpI_lt h];go_wp2;go_ret2;exact⟨rfl,rfl⟩
theorem nat_divided_ge(x y:Nat)(hx8:x<18446744073709551616)(h:y≤x)(h0:0<y)(w:World):Calls Tryz.prog 62 #[.string (nS x),.string (nS y)] w (Ret (.tuple #[.string (nS (x / y)),.string (nS (x%y))]) w):=by
 have hy8:y<18446744073709551616:=by omega
 have HX8:=Hq hx8;have HY8:=Hq hy8;have hz1:=nS_small_size hx8;have hz2:=nS_small_size hy8;have hq8:x / y<18446744073709551616:=Nat.lt_of_le_of_lt (Nat.div_le_self x y) hx8;have hr8:x%y<18446744073709551616:=Nat.lt_trans (Nat.mod_lt x h0) hy8;have HQ8:=Hq hq8;have HR8:=Hq hr8;have HG:=Hq (cmpI_nonneg h);have HO:=Hq (ordB_nS x y);have HN1:=Hq (nat_Small_n x hx8);have HN2:=Hq (nat_Small_n y hy8);obtain⟨s,hs⟩:=nm (nS x);obtain⟨t,ht⟩:=nm (nS y);rw[hs]at hz1 HO HN1⊢;rw[ht]at hz2 HO HN2⊢;clear hs ht hq8 hr8 hx8 hy8;have hy1:((y:Int)==0)=false:=beq_eq_false_iff_ne.2 (by omega);have hy2:(0:Int)<(y:Int):=by omega
 have hy3:¬ (y=0):=by omega
 have hwq:IntKind.u64.wrap ((x:Int) / (y:Int))=(x:Int) / (y:Int):=u64_wrap (x / y) HQ8.out;have hwr:IntKind.u64.wrap ((x:Int)%(y:Int))=(x:Int)%(y:Int):=u64_wrap (x%y) HR8.out;have hsz:¬ (8<(s.size:Int)):=by omega
 go_enter Tryz.func62,Tryz.ntmps62;go_wp2_with fail;refine(nat_compare s t (by omega) (by omega) _).mono ?_;rintro e w1 ⟨rfl,rfl⟩;rw[HO.out];have hg:=HG.out;obtain⟨c,hc⟩:=nm (cmpI x y);rw[hc]at hg⊢;clear hc HG;go_wp2_with fail;refine(HN1.out _).mono ?_;rintro e w1 ⟨rfl,rfl⟩;go_wp2_with fail;refine(HN2.out _).mono ?_;rintro e w1 ⟨rfl,rfl⟩;go_wp2;refine wp_region_K 10 (Below (w.drew).heap.size (w.drew)) (by kernel_rfl) ?_;refine qPs 0 9 blr ?_;refine qPs 1 8 blr ?_;refine qPs 2 7 blr ?_;refine qPs 4 6 blr ?_;refine qPs 5 5 blr ?_;refine qPs 6 4 blr ?_;refine oO 3 3 ?_;intro K3 hK3;go_wp2_with fail;refine(nat_Of (x / y) HQ8.out _).mono ?_;rintro e w3 ⟨rfl,hb3⟩;have HB3:=Hq hb3;clear hb3;go_wp2;refine hK3 _ _ (by exact HB3.out) ?_;clear hK3;intro hS_6_3;refine oO 7 2 ?_;intro K7 hK7;go_wp2_with fail;refine(nat_Of (x%y) HR8.out _).mono ?_;rintro e w7 ⟨rfl,hb7⟩;have HB7:=Hq hb7;clear hb7;go_wp2;refine hK7 _ _ (by exact Below.trans hS_6_3 (Below.mono HB7.out (Below.size hS_6_3))) ?_;clear hK7;intro hS_6_7;refine oO 8 1 ?_;intro K8 hK8;go_wp2;refine hK8 _ _ (by exact hS_6_7) ?_;clear hK8;intro hS_6_8;refine oO 9 0 ?_;intro K9 hK9;go_wp2;refine hK9 _ _ (by exact hS_6_8) ?_;clear hK9;intro hS_6_9;refine wDn ?_;have HX:=Hq hS_6_9;go_wp2;go_ret2;exact⟨rfl,(blr).drew.trans HX.out⟩
theorem nat_divided(x y:Nat)(hx:x<18446744073709551616)(hy:y<256 ^ 128)(h0:0<y)(w:World):Calls Tryz.prog 62 #[.string (nS x),.string (nS y)] w (Ret (.tuple #[.string (nS (x / y)),.string (nS (x%y))]) w):=by
 rcases Nat.lt_or_ge x y with h | h
 · exact(nat_divided_lt x y (lt128_of_lt8 hx) hy h w).mono fun e w' ⟨h1,h2⟩=>⟨h1,by rw[←h2];exact Below.refl _ _⟩
 · exact nat_divided_ge x y hx h h0 w
theorem empty_nS{n:Nat}(h:0<n):(nS n).toList.isEmpty=false:=sempty_false (by have:=nS_size_zero (n:=n);omega)
theorem nat_DivMod(x y:Nat)(hx8:x<18446744073709551616)(hy:y<256 ^ 128)(h0:0<y)(w:World):Calls Tryz.prog 32 #[.string (nS x),.string (nS y)] w (Ret (.tuple #[.string (nS (x / y)),.string (nS (x%y)),.int .i64 0]) w):=by
 have hx:=lt128_of_lt8 hx8;have HD:=Hq (nat_divided x y hx8 hy h0);have hem:=empty_nS h0;have hs1:=nS_size_le.2 hx;have hs2:=nS_size_le.2 hy;have HV1:=Hq (nvalid_nS.2 hx);have HV2:=Hq (nvalid_nS.2 hy);obtain⟨s,hs⟩:=nm (nS x);obtain⟨t,ht⟩:=nm (nS y);rw[hs]at hs1 HV1 HD⊢;rw[ht]at hs2 HV2 hem HD⊢;clear hs ht hx hy hx8;go_enter Tryz.func32,Tryz.ntmps32;go_wp2_with fail;refine(nat_Valid s (by omega) _).mono ?_;rintro e w1 ⟨rfl,rfl⟩;rw[HV1.out];go_wp2_with fail;refine(nat_Valid t (by omega) _).mono ?_;rintro e w1 ⟨rfl,rfl⟩;rw[HV2.out];go_wp2_with fail;refine(HD.out _).mono ?_;rintro e w1 ⟨rfl,hb⟩;have HB:=Hq hb;clear hb;go_wp2;go_ret3;exact⟨rfl,HB.out⟩
/-! The reference: numbers of any length, bit by bit; those below 2^64 at once. -/
def zi(n:Nat):Array Value:=madeCells #[.int .i64 0] n
theorem zi_size(n:Nat):(zi n).size=n:=size_madeCells _ _
theorem int_info:(Tryz.prog.info? 3).map (fun i=>(i.zero,i.size,i.bytes))=some (some (.int .i64 0),1,8):=by kernel_rfl
theorem make_ints(n:Nat)(hn:n≤1000000)(w:World):(Instr.makeSlice 170 (.int .i64 n) (.int .i64 n)).run Tryz.prog w=.ok (.slice (some ⟨w.heap.size,0,none⟩) n n) (w.alloc (.cells (zi n) 3)):=by
 obtain⟨i0,hi,hz0,hz1,hz2⟩:=info_parts int_info;have h:=run_make (P:=Tryz.prog) w 170 3 i0 (.int .i64 0) Tryz.underlying170 hi hz0 .i64 .i64 (n:Int) (n:Int) (by omega) (Int.le_refl _) (by rw[hz2];omega) (by omega);rw[h,hz1,Int.toNat_natCast,Nat.mul_one];rfl
def cs(f:Nat→Nat):Nat→Nat→Nat
 | 0,_=>0
 | n+1,i=>f i+256 * cs f n (i+1)
theorem cs_zero(n i:Nat):cs (fun _=>0) n i=0:=by
 induction n generalizing i with
 | zero=>rfl
 | succ n IH=>simp[cs,IH]
theorem cs_set(f:Nat→Nat)(v n i p:Nat):cs (fun j=>if j=p then f p+v else f j) n i=cs f n i+(if i≤p∧p<i+n then v * 256 ^ (p - i)else 0):=by
 induction n generalizing i with
 | zero=>rw[if_neg (by omega)];rfl
 | succ n IH =>
  simp only[cs];rw[IH];by_cases e:i=p
  · subst e;rw[if_pos rfl,if_neg (by omega),if_pos (by omega),Nat.sub_self];omega
  · rw[if_neg e];by_cases h:i+1≤p∧p<i+1+n
    · rw[if_pos h,if_pos (by omega),show p - i=p - (i+1)+1 from by omega,Nat.pow_succ,←Nat.mul_assoc];omega
    · rw[if_neg h,if_neg (by omega)];omega
theorem mod_more(x i:Nat):x%256 ^ (i+1)=x%256 ^ i+256 ^ i * dig x i:=by
 rw[Nat.mod_pow_succ];rfl
theorem tim_step{x y i j S:Nat}(h:S=x%256 ^ i * y+dig x i * 256 ^ i * (y%256 ^ j)):S+dig x i * dig y j * 256 ^ (i+j)=x%256 ^ i * y+dig x i * 256 ^ i * (y%256 ^ (j+1)):=by
 rw[h,mod_more y j,Nat.pow_add,Nat.mul_add (dig x i * 256 ^ i),Nat.add_assoc];congr 2;rw[Nat.mul_mul_mul_comm,Nat.mul_comm (dig y j)]
theorem tim_row{x y i:Nat}:x%256 ^ i * y+dig x i * 256 ^ i * y=x%256 ^ (i+1) * y:=by
 rw[mod_more,Nat.add_mul,Nat.mul_comm (dig x i)]
theorem car_step{V f r q i:Nat}(h:V / 256 ^ i=f+256 * r+q):V / 256 ^ (i+1)=r+(f+q) / 256∧dig V i=(f+q)%256:=by
 unfold dig;rw[Nat.pow_succ,←Nat.div_div_eq_div_mul,h];omega
def vN(f:Nat→Nat):Nat→Nat
 | 0=>0
 | n+1=>vN f n+f n * 256 ^ n
theorem vN_lt{f:Nat→Nat}:∀ {n:Nat},(∀ i,i<n→f i<256)→vN f n<256 ^ n
 | 0,_=>Nat.one_pos
 | n+1,h=>by
  have h1:=vN_lt (n:=n) (fun i hi=>h i (by omega));have h2:f n+1≤256:=h n (by omega);have h3:=Nat.mul_le_mul_right (256 ^ n) h2;unfold vN;rw[Nat.pow_succ];rw[Nat.add_mul]at h3;omega
theorem vN_congr{f g:Nat→Nat}:∀ {n:Nat},(∀ i,i<n→f i=g i)→vN f n=vN g n
 | 0,_=>rfl
 | n+1,h=>by unfold vN;rw[vN_congr (n:=n) (fun i hi=>h i (by omega)),h n (by omega)]
theorem vN_dig(v:Nat):∀ n,vN (dig v) n=v%256 ^ n
 | 0=>by rw[Nat.pow_zero,Nat.mod_one];rfl
 | n+1=>by
  unfold vN;rw[vN_dig v n,Nat.pow_succ,Nat.mod_mul,dig,Nat.mul_comm (256 ^ n)]
theorem vN_split(f:Nat→Nat)(j:Nat):∀ k,vN f (j+k)=vN f j+256 ^ j * vN (fun i=>f (j+i)) k
 | 0=>rfl
 | k+1=>by
  show vN f (j+k)+f (j+k) * 256 ^ (j+k)=_+256 ^ j * (vN (fun i=>f (j+i)) k+f (j+k) * 256 ^ k);rw[vN_split f j k,Nat.pow_add,Nat.mul_add,Nat.add_assoc];congr 1;congr 1;rw[Nat.mul_left_comm]
theorem vN_div{f:Nat→Nat}{j k:Nat}(h:∀ i,i<j→f i<256):vN f (j+k) / 256 ^ j=vN (fun i=>f (j+i)) k:=by
 rw[vN_split,Nat.add_mul_div_left _ _ (Nat.pow_pos (by decide)),Nat.div_eq_of_lt (vN_lt h),Nat.zero_add]
theorem dig_vN{f:Nat→Nat}{n:Nat}(h:∀ i,i<n→f i<256){i:Nat}(hi:i<n):dig (vN f n) i=f i:=by
 obtain⟨k,rfl⟩:∃ k,n=i+(1+k):=⟨n - i - 1,by omega⟩;unfold dig;rw[vN_div (fun j hj=>h j (by omega)),vN_split];show (0+f (i+0) * 256 ^ 0+256 ^ 1 * _)%256=_;rw[Nat.pow_one,Nat.add_mul_mod_self_left,Nat.zero_add,Nat.pow_zero,Nat.mul_one,Nat.add_zero];exact Nat.mod_eq_of_lt (h i (by omega))
theorem dig_scaled{v s i:Nat}(hs:s≤7):dig (v * 2 ^ s) (i+1)=dig v (i+1) * 2 ^ s%256+dig v i / 2 ^ (8 - s):=by
 unfold dig;have e:v * 2 ^ s / 256 ^ (i+1)=v / 256 ^ i / 2 ^ (8 - s):=by
  rw[Nat.pow_succ,show (256:Nat)=2 ^ (8 - s) * 2 ^ s from by rw[←Nat.pow_add,show 8 - s+s=8 from by omega],←Nat.mul_assoc,Nat.mul_div_mul_right _ _ (Nat.pow_pos (by decide)),Nat.div_div_eq_div_mul]
 have e2:v / 256 ^ (i+1)=v / 256 ^ i / 256:=by rw[Nat.pow_succ,Nat.div_div_eq_div_mul]
 rw[e,e2];generalize v / 256 ^ i=z
 match s,hs with
 | 0,_=>simp only[Nat.pow_zero,Nat.mul_one];omega
 | 1,_=>simp only[Nat.reducePow,Nat.reduceSub];omega
 | 2,_=>simp only[Nat.reducePow,Nat.reduceSub];omega
 | 3,_=>simp only[Nat.reducePow,Nat.reduceSub];omega
 | 4,_=>simp only[Nat.reducePow,Nat.reduceSub];omega
 | 5,_=>simp only[Nat.reducePow,Nat.reduceSub];omega
 | 6,_=>simp only[Nat.reducePow,Nat.reduceSub];omega
 | 7,_=>simp only[Nat.reducePow,Nat.reduceSub];omega
theorem dig_scaled0{v s:Nat}:dig (v * 2 ^ s) 0=dig v 0 * 2 ^ s%256:=by
 unfold dig;rw[Nat.pow_zero,Nat.div_one,Nat.div_one,Nat.mod_mul_mod]
theorem dig_back{v s i:Nat}(hs:s≤7):dig (v / 2 ^ s) i=(dig v i+dig v (i+1) * 256) / 2 ^ s%256:=by
 unfold dig;have e2:v / 256 ^ (i+1)=v / 256 ^ i / 256:=by rw[Nat.pow_succ,Nat.div_div_eq_div_mul]
 rw[e2,Nat.div_div_eq_div_mul,Nat.mul_comm,←Nat.div_div_eq_div_mul];generalize v / 256 ^ i=z
 match s,hs with
 | 0,_=>simp only[Nat.pow_zero,Nat.div_one];omega
 | 1,_=>simp only[Nat.reducePow];omega
 | 2,_=>simp only[Nat.reducePow];omega
 | 3,_=>simp only[Nat.reducePow];omega
 | 4,_=>simp only[Nat.reducePow];omega
 | 5,_=>simp only[Nat.reducePow];omega
 | 6,_=>simp only[Nat.reducePow];omega
 | 7,_=>simp only[Nat.reducePow];omega
theorem guess_ge{u d:Nat→Nat}{n:Nat}(hn:0<n)(hu:∀ i,i<n+1→u i<256)(hd:0<d (n - 1))(h:vN u (n+1)<256 * vN d n):vN u (n+1) / vN d n≤min ((u n * 256+u (n - 1)) / d (n - 1)) 255:=by
 obtain⟨m,rfl⟩:∃ m,n=m+1:=⟨n - 1,by omega⟩;rw[Nat.add_sub_cancel]at *;have hD:0<vN d (m+1):=by omega
 have h1:vN u (m+1+1) / vN d (m+1)<256:=by rw[Nat.div_lt_iff_lt_mul hD];omega
 refine Nat.le_min.2 ⟨?_,by omega⟩;rw[Nat.le_div_iff_mul_le hd];have h2:=Nat.div_mul_le_self (vN u (m+1+1)) (vN d (m+1));generalize vN u (m+1+1) / vN d (m+1)=q at *;have h3:vN u m<256 ^ m:=vN_lt (fun i hi=>hu i (by omega));have e1:vN u (m+1+1)=vN u m+(u (m+1) * 256+u m) * 256 ^ m:=by
  show vN u m+u m * 256 ^ m+u (m+1) * 256 ^ (m+1)=_
  rw[Nat.pow_succ];grind
 have e2:vN d (m+1)=vN d m+d m * 256 ^ m:=rfl;rw[e1,e2]at h2;have hP:0<256 ^ m:=Nat.pow_pos (by decide);generalize 256 ^ m=P at *;generalize u (m+1) * 256+u m=U at *;have h4:q * d m * P<(U+1) * P:=by
  have : q * (vN d m+d m * P)=q * vN d m+q * d m * P:=by rw[Nat.mul_add,Nat.mul_assoc]
  rw[Nat.add_mul];omega
 have:=Nat.lt_of_mul_lt_mul_right h4;omega
theorem ms_step{x g d r c b b2 P V1 V2 V3:Nat}(h:x+(c+g * d)%256+b=r+256 * b2)(ih:V1+g * V2=V3+(c+b) * P):(V1+x * P)+g * (V2+d * P)=(V3+r * P)+((c+g * d) / 256+b2) * (256 * P):=by
 have h2:x+g * d+c+b=r+((c+g * d) / 256+b2) * 256:=by omega
 generalize (c+g * d) / 256=c2 at *
 grind
theorem ab_step{x d r c P V1 V2 V3:Nat}(h:x=c+(r+d))(ih:V1+c * P=V3+V2):(V1+x%256 * P)+x / 256 * (256 * P)=(V3+r * P)+(V2+d * P):=by
 have h2:x%256+x / 256 * 256=c+(r+d):=by omega
 generalize x / 256=c2 at *;generalize x%256=c1 at *
 grind
theorem ld_round{f f':Nat→Nat}{A D n j L:Nat}(hf:∀ i,i<L→f i<256)(hL:j+n<L)(hD:0<D)(hDn:D<256 ^ n)(hV:vN f L=A%(D * 256 ^ (j+1)))(hlo:∀ k,k<j→f' k=f k)(hhi:∀ k,j+n<k→f' k=f k)
 (hw:vN (fun i=>f' (j+i)) (n+1)=vN (fun i=>f (j+i)) (n+1)%D):vN f' L=A%(D * 256 ^ j):=by
 obtain⟨k,rfl⟩:∃ k,L=j+((n+1)+k):=⟨L - j - n - 1,by omega⟩;have hPj:0<256 ^ j:=Nat.pow_pos (by decide);have hlt:vN f (j+((n+1)+k))<256 ^ (j+(n+1)):=(by rw[hV];have h1:A%(D * 256 ^ (j+1))<D * 256 ^ (j+1):=Nat.mod_lt _ (Nat.mul_pos hD (Nat.pow_pos (by decide)));have h2:D * 256 ^ (j+1)≤256 ^ n * 256 ^ (j+1):=Nat.mul_le_mul_right _ (Nat.le_of_lt hDn);rw[←Nat.pow_add]at h2;rw[show j+(n+1)=n+(j+1)from by omega];omega);have hup:vN (fun i=>f (j+((n+1)+i))) k=0:=(by have h1:=vN_div (f:=f) (j:=j+(n+1)) (k:=k) (fun i hi=>hf i (by omega));rw[Nat.add_assoc,Nat.div_eq_of_lt hlt]at h1;rw[h1];exact vN_congr (fun i _=>congrArg f (by omega)));have hup':vN (fun i=>f' (j+((n+1)+i))) k=0:=by rw[←hup];exact vN_congr (fun i _=>hhi _ (by omega))
 have e1:vN f' (j+((n+1)+k))=vN f j+256 ^ j * (vN (fun i=>f (j+i)) (n+1)%D):=(by rw[vN_split,vN_split,hup',Nat.mul_zero,Nat.add_zero,hw,vN_congr hlo]);have e2:vN f (j+((n+1)+k))=vN f j+256 ^ j * vN (fun i=>f (j+i)) (n+1):=(by rw[vN_split,vN_split (fun i=>f (j+i)),hup,Nat.mul_zero,Nat.add_zero]);have hl:vN f j<256 ^ j:=vN_lt (fun i hi=>hf i (by omega));rw[e1];have e3:A%(D * 256 ^ j)=(A%(D * 256 ^ (j+1)))%(D * 256 ^ j):=(by rw[Nat.pow_succ,←Nat.mul_assoc,Nat.mod_mul_right_mod]);rw[e3,←hV,e2];generalize vN (fun i=>f (j+i)) (n+1)=U;rw[Nat.mul_comm D,Nat.mod_mul,Nat.add_mul_mod_self_left,Nat.mod_eq_of_lt hl,Nat.add_mul_div_left _ _ hPj,Nat.div_eq_of_lt hl,Nat.zero_add]
theorem ld_digit{f:Nat→Nat}{A D n j L:Nat}(hf:∀ i,i<L→f i<256)(hL:j+n<L)(hD:0<D)(hDn:D<256 ^ n)(hV:vN f L=A%(D * 256 ^ (j+1))):vN (fun i=>f (j+i)) (n+1)=vN f L / 256 ^ j∧vN (fun i=>f (j+i)) (n+1)<256 * D∧vN (fun i=>f (j+i)) (n+1) / D=dig (A / D) j:=by
 obtain⟨k,rfl⟩:∃ k,L=j+((n+1)+k):=⟨L - j - n - 1,by omega⟩;have hPj:0<256 ^ j:=Nat.pow_pos (by decide);have h1:vN f (j+((n+1)+k))<D * 256 ^ (j+1):=by rw[hV];exact Nat.mod_lt _ (Nat.mul_pos hD (Nat.pow_pos (by decide)))
 have hlt:vN f (j+((n+1)+k))<256 ^ (j+(n+1)):=(by have h2:D * 256 ^ (j+1)≤256 ^ n * 256 ^ (j+1):=Nat.mul_le_mul_right _ (Nat.le_of_lt hDn);rw[←Nat.pow_add]at h2;rw[show j+(n+1)=n+(j+1)from by omega];omega);have hup:vN (fun i=>f (j+((n+1)+i))) k=0:=(by have h1:=vN_div (f:=f) (j:=j+(n+1)) (k:=k) (fun i hi=>hf i (by omega));rw[Nat.add_assoc,Nat.div_eq_of_lt hlt]at h1;rw[h1];exact vN_congr (fun i _=>congrArg f (by omega)));have e0:vN f (j+((n+1)+k)) / 256 ^ j=vN (fun i=>f (j+i)) (n+1):=(by rw[vN_div (fun i hi=>hf i (by omega)),vN_split (fun i=>f (j+i)),hup,Nat.mul_zero,Nat.add_zero]);have e1:vN (fun i=>f (j+i)) (n+1)<256 * D:=by
  rw[←e0,Nat.div_lt_iff_lt_mul hPj];rw[Nat.pow_succ]at h1
  grind
 refine⟨e0.symm,e1,?_⟩;rw[←e0,hV,Nat.div_div_eq_div_mul,Nat.pow_succ,←Nat.mul_assoc,Nat.mul_comm (256 ^ j) D,Nat.mod_mul_right_div_self];unfold dig;rw[Nat.div_div_eq_div_mul]
theorem ld_start{A B s n L:Nat}(hnL:n≤L)(hA:A<256 ^ L)(hB:256 ^ (n - 1)≤B)(hn:0<n):A * 2 ^ s=A * 2 ^ s%(B * 2 ^ s * 256 ^ (L - n+1)):=by
 refine(Nat.mod_eq_of_lt ?_).symm;have h1:256 ^ L≤B * 256 ^ (L - n+1):=by
  have:=Nat.mul_le_mul_right (256 ^ (L - n+1)) hB;rw[←Nat.pow_add,show n - 1+(L - n+1)=L from by omega]at this;exact this
 have hP:0<2 ^ s:=Nat.pow_pos (by decide);rw[Nat.mul_right_comm];exact Nat.mul_lt_mul_of_pos_right (by omega) hP
end Go.Proofs.YtmahgbhpdfbbjaaGreatDoor

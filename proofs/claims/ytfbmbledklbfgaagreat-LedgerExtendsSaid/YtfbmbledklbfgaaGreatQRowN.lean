import Derived.OrdersHeld
import Derived.Test.YtfbmbledklbfgaaGreatQNaD
import Derived.Deep.AppendLies
set_option linter.unusedVariables false
set_option linter.unusedSimpArgs false
namespace Go.Proofs.YtfbmbledklbfgaaGreat
theorem sqA{α:Type _}(l:List α)(i:Nat)(a:α):l.toArray.setIfInBounds i a=(l.set i a).toArray:=List.setIfInBounds_toArray _ _ _
theorem sqB{α:Type _}(a b:α)(l:List α):(a::l).set 0 b=b::l:=rfl
theorem sqC{α:Type _}(a b:α)(l:List α)(n:Nat):(a::l).set (n+1) b=a::l.set n b:=rfl
section
variable {P : Program} {ops : Array Oper} {Q : Exit → Act → World → Prop} {md : Region.Mode} {S : World → Prop} {k : Nat}
def Down(md:Region.Mode)(ops:Array Oper)(listed:Array Bool):Prop:=
 listed.size=ops.size∧∀ j o,ops[j]? =some o→listed.getD j false=true→∀ e∈o.after,Region.binds md e=true→listed.getD e.on false=true
theorem getD_repl_false(n j:Nat):(Array.replicate n false).getD j false=false:=by
 rw[Array.getD_eq_getD_getElem?,Array.getElem?_replicate];split<;>rfl
theorem Down.start:Down md ops (Array.replicate ops.size false):=by
 refine⟨Array.size_replicate,fun j o _ h=>?_⟩;rw[getD_repl_false]at h;cases h
theorem Down.beyond{listed:Array Bool}(h:Down md ops listed){j:Nat}(hj:ops.size≤j):listed.getD j false=false:=by
 rw[Array.getD_eq_getD_getElem?,Array.getElem?_eq_none (by rw[h.1];exact hj)];rfl
theorem getD_agree{listed:Array Bool}{j:Nat}(h:listed.getD j true=false):listed.getD j false=false:=by
 rw[Array.getD_eq_getD_getElem?]at *
 cases e:listed[j]? with
 | none=>rfl
 | some b=>rw[e]at h;exact h
theorem Down.set{listed:Array Bool}(h:Down md ops listed){i:Nat}(hi:i∈Region.ready md ops listed):Down md ops (listed.setIfInBounds i true):=by
 refine⟨by rw[Array.size_setIfInBounds];exact h.1,fun j o hj hl e he hb=>?_⟩;by_cases hij:i=j
 · subst hij;obtain⟨_,o',ho',hall⟩:=mem_ready.1 hi;rw[hj]at ho';cases ho';exact getD_set_true (hall e he hb)
 · rw[getD_set_ne false hij]at hl;exact getD_set_true (h.2 j o hj hl e he hb)
def reachB(md:Region.Mode)(ops:Array Oper):Nat→Nat→Nat→Bool
 | 0,_,_=>false
 | n+1,k,i=>match ops[k]? with
  | none=>false
  | some o=>o.after.any fun e=>Region.binds md e&&(e.on==i||reachB md ops n e.on i)
theorem reachB_spec{listed:Array Bool}(h:Down md ops listed):∀(n k i:Nat),reachB md ops n k i=true→listed.getD k false=true→listed.getD i false=true
 | 0,_,_,hr,_=>by cases hr
 | n+1,k,i,hr,hk=>by
  unfold reachB at hr
  cases ho:ops[k]? with
  | none=>rw[ho]at hr;cases hr
  | some o =>
   rw[ho]at hr;simp only[Array.any_eq_true',Bool.and_eq_true,Bool.or_eq_true,beq_iff_eq]at hr;obtain⟨e,he,hb,h1 | h1⟩:=hr
   · rw[←h1];exact h.2 k o ho hk e he hb
   · exact reachB_spec h n e.on i h1 (h.2 k o ho hk e he hb)
def wpAnyK(P:Program)(md:Region.Mode)(ops:Array Oper)(Q:Exit→Act→World→Prop)(k:Nat)(S:World→Prop):Nat→Array Bool→Act→World→Prop
 | 0,listed,a,w=>Region.ready md ops listed=[]∧Q .normal a w
 | fuel+1,listed,a,w =>
  (Region.ready md ops listed=[]→Q .normal a w) ∧
  ∀ i∈Region.ready md ops listed,wpOp P ops Q i (fun a' w'=>((listed.setIfInBounds i true).getD k false=false→S w')∧wpAnyK P md ops Q k S fuel (listed.setIfInBounds i true) a' w') a w
theorem wpAny_of_K:∀(fuel:Nat) (listed:Array Bool) (a:Act) (w:World),wpAnyK P md ops Q k S fuel listed a w→wpAny P md ops Q fuel listed a w
 | 0,_,_,_,h=>h
 | fuel+1,_,_,_,h=>⟨h.1,fun i hi=>wpOp_mono (fun a' w' h'=>wpAny_of_K fuel _ a' w' h'.2) (h.2 i hi)⟩
theorem wpAnyK_first{i:Nat}{oi:Oper}{v:Value}{T:World→Prop}(hi:ops[i]? =some oi)(hsel:∀(j:Nat) (o:Oper) cs b,ops[j]? =some o→o.op≠.select cs b)
 (hT:∀(listed:Array Bool) (w:World),Down md ops listed→listed.getD i true=false→(listed.getD k false=false→S w)→T w) (hki:k≠i)
 (hQ:∀ c a w,Q (.panic c) (a.put oi.dst v) w→Q (.panic c) a w) :
 ∀(fuel:Nat) (listed:Array Bool) (a:Act) (w:World),Down md ops listed →
  (∀ j oj,ops[j]? =some oj→j≠i→listed.getD j true=false→(∀ e∈oj.after,Region.binds md e=true→e.on≠i)→oi.apart ops oj=true) →
  i∈Region.ready md ops listed→YieldsIf P ops T oi v a→(listed.getD k false=false→S w) →
  wpAnyK P md ops Q k S fuel (listed.setIfInBounds i true) (a.put oi.dst v) w→wpAnyK P md ops Q k S (fuel+1) listed a w:=by
 intro fuel
 induction fuel with
 | zero =>
  intro listed a w hD _ hr hy hS H;refine⟨fun h=>(by rw[h]at hr;cases hr),fun j hj=>?_⟩;have hTw:=hT listed w hD (mem_ready.1 hr).1 hS;by_cases hji:j=i
  · subst hji;exact hy.wpOp hi hTw ⟨fun h=>hS (by rw[getD_set_ne false (Ne.symm hki)]at h;exact h),H⟩
  · have:=ready_mono hj hji;rw[H.1]at this;cases this
 | succ fuel ih =>
  intro listed a w hD hfree hr hy hS H;refine⟨fun h=>(by rw[h]at hr;cases hr),fun j hj=>?_⟩;have hTw:=hT listed w hD (mem_ready.1 hr).1 hS;by_cases hji:j=i
  · subst hji;exact hy.wpOp hi hTw ⟨fun h=>hS (by rw[getD_set_ne false (Ne.symm hki)]at h;exact h),H⟩
  · have h1:=H.2 j (ready_mono hj hji);obtain⟨hjun,oj,hoj,hall⟩:=mem_ready.1 hj;have hnot:∀ e∈oj.after,Region.binds md e=true→e.on≠i:=fun e he hb heq=>by
     have h1:=hall e he hb;have h0:=getD_agree (mem_ready.1 hr).1;rw[heq,h0]at h1;cases h1
    have h2:=wpOp_putIf hoj (hfree j oj hoj hji hjun hnot) (fun cs b=>hsel i oi cs b hi) (fun cs b=>hsel j oj cs b hoj) hQ hy h1;have hfree':∀ m om,ops[m]? =some om→m≠i→(listed.setIfInBounds j true).getD m true=false →
     (∀ e∈om.after,Region.binds md e=true→e.on≠i)→oi.apart ops om=true:=fun m om hm hmi hun hno=>by
     refine hfree m om hm hmi ?_ hno;by_cases hjm:j=m
     · subst hjm;exact hjun
     · rw[getD_set_ne true hjm]at hun;exact hun
    refine wpOp_mono (fun a' w' h3=>?_) h2;have hS':(listed.setIfInBounds j true).getD k false=false→S w':=fun h=>h3.2.1 (by
     rw[Array.setIfInBounds_comm _ _ (Ne.symm hji),getD_set_ne false (Ne.symm hki)]
     exact h)
    refine⟨hS',ih (listed.setIfInBounds j true) a' w' (hD.set hj) hfree' (ready_mono hr (Ne.symm hji)) h3.1 hS' ?_⟩;rw[Array.setIfInBounds_comm _ _ hji];exact h3.2.2
def stepB(md:Region.Mode)(ops:Array Oper)(listed:Array Bool)(k i:Nat):Bool:=
 Region.noSelect ops&&Region.free md ops listed i&&(Region.ready md ops listed).contains i && !(k==i)
theorem stepB_spec{listed:Array Bool}{i:Nat}(h:stepB md ops listed k i=true):Region.noSelect ops=true∧Region.free md ops listed i=true∧i∈Region.ready md ops listed∧k≠i:=by
 simp only[stepB,Bool.and_eq_true,Bool.not_eq_true',beq_eq_false_iff_ne,List.contains_iff_mem]at h;exact⟨h.1.1.1,h.1.1.2,h.1.2,h.2⟩
theorem wpAnyK_take{i:Nat}{oi:Oper}{v:Value}{fuel:Nat}{listed:Array Bool}{a:Act}{w:World}(hi:ops[i]? =some oi)(hst:stepB md ops listed k i=true)(hre:reachB md ops ops.size k i=true)
 (hQ:∀ c a w,Q (.panic c) (a.put oi.dst v) w→Q (.panic c) a w) (hD:Down md ops listed) (hS:S w) (hy:YieldsIf P ops S oi v a)
 (h:Down md ops (listed.setIfInBounds i true)→wpAnyK P md ops Q k S fuel (listed.setIfInBounds i true) (a.put oi.dst v) w):wpAnyK P md ops Q k S (fuel+1) listed a w:=by
 obtain⟨hs,hf,hr',hki'⟩:=stepB_spec hst;refine wpAnyK_first (T:=S) hi (Region.noSelect_spec hs) (fun l w' hD' hl hS'=>hS' ?_) hki' hQ fuel listed a w hD (Region.free_spec hi hf) hr' hy (fun _=>hS) (h (hD.set hr'))
 cases hk:l.getD k false with
 | false=>rfl
 | true=>rw[←getD_agree hl];exact(reachB_spec hD' _ k i hre hk).symm
theorem wpAnyK_takeS{i:Nat}{oi:Oper}{v:Value}{fuel:Nat}{listed:Array Bool}{a:Act}{w:World}(hi:ops[i]? =some oi)(hst:stepB md ops listed k i=true)(hre:decide (ops.size≤k)=true)
 (hQ:∀ c a w,Q (.panic c) (a.put oi.dst v) w→Q (.panic c) a w) (hD:Down md ops listed) (hS:S w) (hy:YieldsIf P ops S oi v a)
 (h:Down md ops (listed.setIfInBounds i true)→wpAnyK P md ops Q k S fuel (listed.setIfInBounds i true) (a.put oi.dst v) w):wpAnyK P md ops Q k S (fuel+1) listed a w:=by
 obtain⟨hs,hf,hr',hki'⟩:=stepB_spec hst;exact wpAnyK_first (T:=S) hi (Region.noSelect_spec hs) (fun l w' hD' hl hS'=>hS' (hD'.beyond (of_decide_eq_true hre))) hki' hQ fuel listed a w hD (Region.free_spec hi hf) hr' hy (fun _=>hS) (h (hD.set hr'))
theorem wpAnyK_pure{i:Nat}{oi:Oper}{v:Value}{fuel:Nat}{listed:Array Bool}{a:Act}{w:World}(hi:ops[i]? =some oi)(hst:stepB md ops listed k i=true)
 (hQ:∀ c a w,Q (.panic c) (a.put oi.dst v) w→Q (.panic c) a w) (hD:Down md ops listed) (hS:S w) (hy:YieldsIf P ops (fun _=>True) oi v a)
 (h:Down md ops (listed.setIfInBounds i true)→wpAnyK P md ops Q k S fuel (listed.setIfInBounds i true) (a.put oi.dst v) w):wpAnyK P md ops Q k S (fuel+1) listed a w:=by
 obtain⟨hs,hf,hr',hki'⟩:=stepB_spec hst;exact wpAnyK_first (T:=fun _=>True) hi (Region.noSelect_spec hs) (fun _ _ _ _ _=>trivial) hki' hQ fuel listed a w hD (Region.free_spec hi hf) hr' hy (fun _=>hS) (h (hD.set hr'))
theorem wpAnyK_pureT{i:Nat}{oi:Oper}{v:Value}{fuel:Nat}{listed:Array Bool}{a:Act}{w:World}(hi:ops[i]? =some oi)(hst:stepB md ops listed k i=true)(hk:listed.getD k false=true)
 (hQ:∀ c a w,Q (.panic c) (a.put oi.dst v) w→Q (.panic c) a w) (hD:Down md ops listed) (hy:YieldsIf P ops (fun _=>True) oi v a)
 (h:Down md ops (listed.setIfInBounds i true)→wpAnyK P md ops Q k S fuel (listed.setIfInBounds i true) (a.put oi.dst v) w):wpAnyK P md ops Q k S (fuel+1) listed a w:=by
 obtain⟨hs,hf,hr',hki'⟩:=stepB_spec hst;exact wpAnyK_first (T:=fun _=>True) hi (Region.noSelect_spec hs) (fun _ _ _ _ _=>trivial) hki' hQ fuel listed a w hD (Region.free_spec hi hf) hr' hy (fun h0=>by rw[hk]at h0;cases h0) (h (hD.set hr'))
theorem wp_other_end{o:Oper}{a:Act}{w:World}{K:Act→World→Prop}{Q':Exit→Act→World→Prop}(hQ:∀ c a w,Q' (.panic c) a w→Q (.panic c) a w)(hO:LetsOut Q'→LetsOut Q)
 (h:o.wp P a w K Q'):o.wp P a w K Q:=by
 unfold Oper.wp at *;generalize (execOp a.eval o).run P w=r at *
 cases r with
 | ok n w' =>
  cases n<;>simp only[Oper.upon]at h⊢;case value u=>exact h
  case skip=>exact h
  case defer d=>exact h
  case enter f args =>
   refine Calls.mono h fun e w'' he=>?_
   cases e with
   | returned u=>exact he
   | panicked c=>exact hQ _ _ _ he
   | outgrown=>exact hO he
  case row row args=>exact h
 | halt x w' =>
  cases x<;>simp only[Oper.upon]at h⊢;case panic u=>exact hQ _ _ _ h
def EndK(K:Act→World→Prop)(Q:Exit→Act→World→Prop):Exit→Act→World→Prop
 | .normal,a,w=>K a w
 | e,a,w=>Q e a w
def StepK(P:Program)(md:Region.Mode)(ops:Array Oper)(Q:Exit→Act→World→Prop)(k:Nat)(S:World→Prop)(i:Nat)(oi:Oper)(fuel:Nat)(listed:Array Bool)(a:Act)(w:World):Prop:=
 ∀ K:Act→World→Prop,(∀ a' w',S w'→(S w'→Down md ops (listed.setIfInBounds i true)→wpAnyK P md ops Q k S fuel (listed.setIfInBounds i true) a' w')→K a' w')→wpList P ops (EndK K Q) [oi] a w
theorem step_of{i:Nat}{oi:Oper}{fuel:Nat}{listed:Array Bool}{a:Act}{w:World}(hi':i∈Region.ready md ops listed)(hi:ops[i]? =some oi)(hD:Down md ops listed)(R:World→Prop)(hR:∀ w',R w'→(listed.setIfInBounds i true).getD k false=false→S w')
 (h:∀ K:Act→World→Prop,(∀ a' w',R w'→(R w'→Down md ops (listed.setIfInBounds i true)→wpAnyK P md ops Q k S fuel (listed.setIfInBounds i true) a' w')→K a' w')→wpList P ops (EndK K Q) [oi] a w) :
 wpOp P ops Q i (fun a' w'=>((listed.setIfInBounds i true).getD k false=false→S w')∧wpAnyK P md ops Q k S fuel (listed.setIfInBounds i true) a' w') a w:=by
 have h1:=h (fun a' w'=>((listed.setIfInBounds i true).getD k false=false→S w')∧wpAnyK P md ops Q k S fuel (listed.setIfInBounds i true) a' w') (fun a' w' hS hh=>⟨hR w' hS,hh hS (hD.set hi')⟩);have hO:LetsOut (EndK (fun a' w'=>((listed.setIfInBounds i true).getD k false=false→S w')∧wpAnyK P md ops Q k S fuel (listed.setIfInBounds i true) a' w') Q)→LetsOut Q:=fun⟨a',w',hh⟩=>⟨a',w',hh⟩;unfold wpList at h1;unfold wpOp;simp only[hi];split
 · rename_i hw;rw[if_pos hw]at h1;rcases h1 with h1 | ⟨h2,h3⟩
   · exact .inl (wp_other_end (fun _ _ _ hh=>hh) hO h1)
   · exact .inr ⟨h2,hO h3⟩
 · rename_i hw;rw[if_neg hw]at h1;exact h1
theorem wpAnyK_oneT{i:Nat}{oi:Oper}{fuel:Nat}{listed:Array Bool}{a:Act}{w:World}(hr:Region.ready md ops listed=[i])(hi:ops[i]? =some oi)(hD:Down md ops listed)(hk:(listed.setIfInBounds i true).getD k false=true)
 (h:∀ K:Act→World→Prop,(∀ a' w',(Down md ops (listed.setIfInBounds i true)→wpAnyK P md ops Q k S fuel (listed.setIfInBounds i true) a' w')→K a' w')→wpList P ops (EndK K Q) [oi] a w):wpAnyK P md ops Q k S (fuel+1) listed a w:=by
 refine⟨fun h0=>(by rw[hr]at h0;cases h0),fun j hj=>?_⟩;have hi':i∈Region.ready md ops listed:=by rw[hr];exact List.mem_singleton.2 rfl
 rw[hr]at hj;obtain rfl:=List.mem_singleton.1 hj;exact step_of hi' hi hD (fun _=>True) (fun _ _ h0=>by rw[hk]at h0;cases h0) (fun K hK=>h K fun a' w' hh=>hK a' w' trivial fun _=>hh)
theorem wpAnyK_one{i:Nat}{oi:Oper}{fuel:Nat}{listed:Array Bool}{a:Act}{w:World}(hr:Region.ready md ops listed=[i])(hi:ops[i]? =some oi)(hD:Down md ops listed)
 (h:∀ K:Act→World→Prop,(∀ a' w',S w'→(S w'→Down md ops (listed.setIfInBounds i true)→wpAnyK P md ops Q k S fuel (listed.setIfInBounds i true) a' w')→K a' w')→wpList P ops (EndK K Q) [oi] a w):wpAnyK P md ops Q k S (fuel+1) listed a w:=by
 refine⟨fun h0=>(by rw[hr]at h0;cases h0),fun j hj=>?_⟩;have hi':i∈Region.ready md ops listed:=by rw[hr];exact List.mem_singleton.2 rfl
 rw[hr]at hj;obtain rfl:=List.mem_singleton.1 hj;exact step_of hi' hi hD S (fun _ h _=>h) h
theorem wpAnyK_two{i i':Nat}{oi oi':Oper}{fuel:Nat}{listed:Array Bool}{a:Act}{w:World}(hr:Region.ready md ops listed=[i,i'])(hi:ops[i]? =some oi)(hi':ops[i']? =some oi')(hD:Down md ops listed)
 (h:StepK P md ops Q k S i oi fuel listed a w) (h':StepK P md ops Q k S i' oi' fuel listed a w):wpAnyK P md ops Q k S (fuel+1) listed a w:=by
 refine⟨fun h0=>(by rw[hr]at h0;cases h0),fun j hj=>?_⟩;have hj':=hj;rw[hr]at hj;simp only[List.mem_cons,List.mem_nil_iff,or_false]at hj;rcases hj with rfl | rfl
 · exact step_of hj' hi hD S (fun _ h _=>h) h
 · exact step_of hj' hi' hD S (fun _ h _=>h) h'
theorem wpAnyK_done{listed:Array Bool}{a:Act}{w:World}(hr:Region.ready md ops listed=[])(h:Q .normal a w) :
 ∀ fuel,wpAnyK P md ops Q k S fuel listed a w
 | 0=>⟨hr,h⟩
 | _+1=>⟨fun _=>h,by rw[hr];simp⟩
theorem wp_region_K(k:Nat)(S:World→Prop){id:Nat}{a:Act}{w:World}(hm:P.follows .mixedOrders=true)
 (h:Down .any ops (Array.replicate ops.size false)→wpAnyK P .any ops Q k S ops.size (Array.replicate ops.size false) a w.drew):(Code.region id ops true).wp P Q a w:=
 wp_region_any hm (wpAny_of_K _ _ _ _ (h Down.start))
end
section
variable {P : Program} {ops : Array Oper} {Q : Exit → Act → World → Prop} {md : Region.Mode} {S : World → Prop} {k : Nat}
theorem qP{oi:Oper}{v:Value}{listed:Array Bool}{a:Act}{w:World}(i fuel:Nat)(hi:ops[i]? =some oi)(hD:Down md ops listed)(hS:S w)(h:Down md ops (listed.setIfInBounds i true)→wpAnyK P md ops Q k S fuel (listed.setIfInBounds i true) (a.put oi.dst v) w)(hy:∀ w',True→(execOp a.eval oi).run P w'=.ok (.value v) w':=by intro w' _;go_simp;with_reducible rfl)(hst:stepB md ops listed k i=true:=by kernel_rfl)(hg:Region.wanted oi (yielded ops a.tmps)=true:=by kernel_rfl)(hQ:∀ c a w,Q (.panic c) (a.put oi.dst v) w→Q (.panic c) a w:=by exact fun _ _ _ h=>h):wpAnyK P md ops Q k S (fuel+1) listed a w:=wpAnyK_pure hi hst hQ hD hS (.inl ⟨hg,hy⟩) h
theorem qT{oi:Oper}{v:Value}{listed:Array Bool}{a:Act}{w:World}(i fuel:Nat)(hi:ops[i]? =some oi)(hD:Down md ops listed)(hS:S w)(hy:∀ w',S w'→(execOp a.eval oi).run P w'=.ok (.value v) w')(h:Down md ops (listed.setIfInBounds i true)→wpAnyK P md ops Q k S fuel (listed.setIfInBounds i true) (a.put oi.dst v) w)(hst:stepB md ops listed k i=true:=by kernel_rfl)(hre:reachB md ops ops.size k i=true:=by kernel_rfl)(hg:Region.wanted oi (yielded ops a.tmps)=true:=by kernel_rfl)(hQ:∀ c a w,Q (.panic c) (a.put oi.dst v) w→Q (.panic c) a w:=by exact fun _ _ _ h=>h):wpAnyK P md ops Q k S (fuel+1) listed a w:=wpAnyK_take hi hst hre hQ hD hS (.inl ⟨hg,hy⟩) h
theorem qS{oi:Oper}{v:Value}{listed:Array Bool}{a:Act}{w:World}(i fuel:Nat)(hi:ops[i]? =some oi)(hD:Down md ops listed)(hS:S w)(hy:∀ w',S w'→(execOp a.eval oi).run P w'=.ok (.value v) w')(h:Down md ops (listed.setIfInBounds i true)→wpAnyK P md ops Q k S fuel (listed.setIfInBounds i true) (a.put oi.dst v) w)(hst:stepB md ops listed k i=true:=by kernel_rfl)(hre:decide (ops.size≤k)=true:=by kernel_rfl)(hg:Region.wanted oi (yielded ops a.tmps)=true:=by kernel_rfl)(hQ:∀ c a w,Q (.panic c) (a.put oi.dst v) w→Q (.panic c) a w:=by exact fun _ _ _ h=>h):wpAnyK P md ops Q k S (fuel+1) listed a w:=wpAnyK_takeS hi hst hre hQ hD hS (.inl ⟨hg,hy⟩) h
end
set_option maxRecDepth 100000
set_option maxHeartbeats 1000000
open Go.RowKit
theorem cmpI_nonneg{x y:Nat}(h:y≤x):0≤cmpI x y:=by
 unfold cmpI;rw[if_neg (by omega)];split<;>omega
theorem nat_Sub_less(x y:Nat)(hx:x<256 ^ 128)(hy:y<256 ^ 128)(h:x<y)(w:World):Calls Tryz.prog 144 #[.string (nS x),.string (nS y)] w (RetQ (.tuple #[.string ⟨#[]⟩,.int .i64 2]) w):=by
 have hs1:=nS_size_le.2 hx;have hs2:=nS_size_le.2 hy;have HV1:=Hq (nvalid_nS.2 hx);have HV2:=Hq (nvalid_nS.2 hy);have HO:=Hq (ordB_nS x y);obtain⟨s,hs⟩:∃ s,nS x=s:=⟨_,rfl⟩;obtain⟨t,ht⟩:∃ t,nS y=t:=⟨_,rfl⟩;rw[hs]at hs1 HV1 HO⊢;rw[ht]at hs2 HV2 HO⊢;have HS:=Hq hs;have HT:=Hq ht;have HX:=Hq hx;have HY:=Hq hy;clear hs ht hx hy;go_enter Tryz.func144,Tryz.ntmps144;go_wp2_with fail;refine(nat_Valid s (by omega) _).mono ?_;rintro e w1 ⟨rfl,rfl⟩;rw[HV1.out];go_wp2_with fail;refine(nat_Valid t (by omega) _).mono ?_;rintro e w1 ⟨rfl,rfl⟩;rw[HV2.out];go_wp2_with fail;refine(nat_compare s t (by omega) (by omega) _).mono ?_;rintro e w1 ⟨rfl,rfl⟩;rw[HO.out,cmpI_lt h];go_wp2;go_ret2;exact⟨rfl,rfl⟩
theorem nat_Sub_ge(x y:Nat)(hx:x<256 ^ 128)(hy:y<256 ^ 128)(h:y≤x)(w:World):Calls Tryz.prog 144 #[.string (nS x),.string (nS y)] w (Ret (.tuple #[.string (nS (x - y)),.int .i64 0]) w):=by
 have HG:=Hq (cmpI_nonneg h);have hs1:=nS_size_le.2 hx;have hs2:=nS_size_le.2 hy;have HV1:=Hq (nvalid_nS.2 hx);have HV2:=Hq (nvalid_nS.2 hy);have HO:=Hq (ordB_nS x y);obtain⟨s,hs⟩:∃ s,nS x=s:=⟨_,rfl⟩;obtain⟨t,ht⟩:∃ t,nS y=t:=⟨_,rfl⟩;rw[hs]at hs1 HV1 HO⊢;rw[ht]at hs2 HV2 HO⊢;have HS:=Hq hs;have HT:=Hq ht;have HX:=Hq hx;have HY:=Hq hy;clear hs ht hx hy;go_enter Tryz.func144,Tryz.ntmps144;go_wp2_with fail;refine(nat_Valid s (by omega) _).mono ?_;rintro e w1 ⟨rfl,rfl⟩;rw[HV1.out];go_wp2_with fail;refine(nat_Valid t (by omega) _).mono ?_;rintro e w1 ⟨rfl,rfl⟩;rw[HV2.out];go_wp2_with fail;refine(nat_compare s t (by omega) (by omega) _).mono ?_;rintro e w1 ⟨rfl,rfl⟩;rw[HO.out];have hg:=HG.out;obtain⟨c,hc⟩:∃ c,cmpI x y=c:=⟨_,rfl⟩;rw[hc]at hg⊢;clear hc HG;go_wp2_with fail;rw[←HS.out,←HT.out];refine(nat_less x y (by rw[HS.out];omega) h _).mono ?_;rintro e w1 ⟨rfl,hb⟩;have HB:=Hq hb;clear hb;go_wp2;go_ret2;exact⟨rfl,HB.out⟩
/-! Division at numbers below 2^64. -/
theorem nat_divided_lt(x y:Nat)(hx:x<256 ^ 128)(hy:y<256 ^ 128)(h:x<y)(w:World):Calls Tryz.prog 196 #[.string (nS x),.string (nS y)] w (RetQ (.tuple #[.string (nS (x / y)),.string (nS (x%y))]) w):=by
 rw[Nat.div_eq_of_lt h,Nat.mod_eq_of_lt h,nS_zero];have hs1:=nS_size_le.2 hx;have hs2:=nS_size_le.2 hy;have HV1:=Hq (nvalid_nS.2 hx);have HV2:=Hq (nvalid_nS.2 hy);have HO:=Hq (ordB_nS x y);obtain⟨s,hs⟩:∃ s,nS x=s:=⟨_,rfl⟩;obtain⟨t,ht⟩:∃ t,nS y=t:=⟨_,rfl⟩;rw[hs]at hs1 HV1 HO⊢;rw[ht]at hs2 HV2 HO⊢;have HS:=Hq hs;have HT:=Hq ht;have HX:=Hq hx;have HY:=Hq hy;clear hs ht hx hy;go_enter Tryz.func196,Tryz.ntmps196;go_wp2_with fail;refine(nat_compare s t (by omega) (by omega) _).mono ?_;rintro e w1 ⟨rfl,rfl⟩;rw[HO.out,cmpI_lt h];go_wp2;go_ret2;exact⟨rfl,rfl⟩
theorem nat_divided_ge(x y:Nat)(hx8:x<18446744073709551616)(h:y≤x)(h0:0<y)(w:World):Calls Tryz.prog 196 #[.string (nS x),.string (nS y)] w (Ret (.tuple #[.string (nS (x / y)),.string (nS (x%y))]) w):=by
 have hy8:y<18446744073709551616:=by omega
 have HX8:=Hq hx8;have HY8:=Hq hy8;have hz1:=nS_small_size hx8;have hz2:=nS_small_size hy8;have hq8:x / y<18446744073709551616:=Nat.lt_of_le_of_lt (Nat.div_le_self x y) hx8;have hr8:x%y<18446744073709551616:=Nat.lt_trans (Nat.mod_lt x h0) hy8;have HQ8:=Hq hq8;have HR8:=Hq hr8;have HG:=Hq (cmpI_nonneg h);have HO:=Hq (ordB_nS x y);have HN1:=Hq (nat_Small_n x hx8);have HN2:=Hq (nat_Small_n y hy8);obtain⟨s,hs⟩:∃ s,nS x=s:=⟨_,rfl⟩;obtain⟨t,ht⟩:∃ t,nS y=t:=⟨_,rfl⟩;rw[hs]at hz1 HO HN1⊢;rw[ht]at hz2 HO HN2⊢;clear hs ht hq8 hr8 hx8 hy8;have hy1:((y:Int)==0)=false:=beq_eq_false_iff_ne.2 (by omega);have hy2:(0:Int)<(y:Int):=by omega
 have hy3:¬ (y=0):=by omega
 have hwq:IntKind.u64.wrap ((x:Int) / (y:Int))=(x:Int) / (y:Int):=u64_wrap (x / y) HQ8.out;have hwr:IntKind.u64.wrap ((x:Int)%(y:Int))=(x:Int)%(y:Int):=u64_wrap (x%y) HR8.out;have hsz:¬ (8<(s.size:Int)):=by omega
 go_enter Tryz.func196,Tryz.ntmps196;go_wp2_with fail;refine(nat_compare s t (by omega) (by omega) _).mono ?_;rintro e w1 ⟨rfl,rfl⟩;rw[HO.out];have hg:=HG.out;obtain⟨c,hc⟩:∃ c,cmpI x y=c:=⟨_,rfl⟩;rw[hc]at hg⊢;clear hc HG;go_wp2_with fail;refine(HN1.out _).mono ?_;rintro e w1 ⟨rfl,rfl⟩;go_wp2_with fail;refine(HN2.out _).mono ?_;rintro e w1 ⟨rfl,rfl⟩;go_wp2;refine wp_region_K 10 (Below (w.drew).heap.size (w.drew)) (by kernel_rfl) ?_;intro hD;refine qP 0 9 rfl hD blr ?_;clear hD;intro hD;refine qP 1 8 rfl hD blr ?_;clear hD;intro hD;refine qP 2 7 rfl hD blr ?_;clear hD;intro hD;refine qP 4 6 rfl hD blr ?_;clear hD;intro hD;refine qP 5 5 rfl hD blr ?_;clear hD;intro hD;refine qP 6 4 rfl hD blr ?_;clear hD;intro hD;simp only[Act.put,sqA,sqB,sqC];refine wpAnyK_one (i:=3) (fuel:=3) (by kernel_rfl) rfl hD ?_;clear hD;intro K3 hK3;go_wp2_with fail;refine(nat_Of (x / y) HQ8.out _).mono ?_;rintro e w3 ⟨rfl,hb3⟩;have HB3:=Hq hb3;clear hb3;go_wp2;refine hK3 _ _ (by exact HB3.out) ?_;clear hK3;intro hS_6_3 hD;refine wpAnyK_one (i:=7) (fuel:=2) (by kernel_rfl) rfl hD ?_;clear hD;intro K7 hK7;go_wp2_with fail;refine(nat_Of (x%y) HR8.out _).mono ?_;rintro e w7 ⟨rfl,hb7⟩;have HB7:=Hq hb7;clear hb7;go_wp2;refine hK7 _ _ (by exact Below.trans hS_6_3 (Below.mono HB7.out (Below.size hS_6_3))) ?_;clear hK7;intro hS_6_7 hD;refine wpAnyK_one (i:=8) (fuel:=1) (by kernel_rfl) rfl hD ?_;clear hD;intro K8 hK8;go_wp2;refine hK8 _ _ (by exact hS_6_7) ?_;clear hK8;intro hS_6_8 hD;refine wpAnyK_one (i:=9) (fuel:=0) (by kernel_rfl) rfl hD ?_;clear hD;intro K9 hK9;go_wp2;refine hK9 _ _ (by exact hS_6_8) ?_;clear hK9;intro hS_6_9 hD;refine wpAnyK_done (by kernel_rfl) ?_ 0;clear hD;have HX:=Hq hS_6_9;go_wp2;go_ret2;exact⟨rfl,(blr).drew.trans HX.out⟩
theorem nat_divided(x y:Nat)(hx:x<18446744073709551616)(hy:y<256 ^ 128)(h0:0<y)(w:World):Calls Tryz.prog 196 #[.string (nS x),.string (nS y)] w (Ret (.tuple #[.string (nS (x / y)),.string (nS (x%y))]) w):=by
 rcases Nat.lt_or_ge x y with h | h
 · exact(nat_divided_lt x y (lt128_of_lt8 hx) hy h w).mono fun e w' ⟨h1,h2⟩=>⟨h1,by rw[←h2];exact Below.refl _ _⟩
 · exact nat_divided_ge x y hx h h0 w
theorem empty_nS{n:Nat}(h:0<n):(nS n).toList.isEmpty=false:=sempty_false (by have:=nS_size_zero (n:=n);omega)
theorem nat_DivMod(x y:Nat)(hx8:x<18446744073709551616)(hy:y<256 ^ 128)(h0:0<y)(w:World):Calls Tryz.prog 145 #[.string (nS x),.string (nS y)] w (Ret (.tuple #[.string (nS (x / y)),.string (nS (x%y)),.int .i64 0]) w):=by
 have hx:=lt128_of_lt8 hx8;have HD:=Hq (nat_divided x y hx8 hy h0);have hem:=empty_nS h0;have hs1:=nS_size_le.2 hx;have hs2:=nS_size_le.2 hy;have HV1:=Hq (nvalid_nS.2 hx);have HV2:=Hq (nvalid_nS.2 hy);obtain⟨s,hs⟩:∃ s,nS x=s:=⟨_,rfl⟩;obtain⟨t,ht⟩:∃ t,nS y=t:=⟨_,rfl⟩;rw[hs]at hs1 HV1 HD⊢;rw[ht]at hs2 HV2 hem HD⊢;clear hs ht hx hy hx8;go_enter Tryz.func145,Tryz.ntmps145;go_wp2_with fail;refine(nat_Valid s (by omega) _).mono ?_;rintro e w1 ⟨rfl,rfl⟩;rw[HV1.out];go_wp2_with fail;refine(nat_Valid t (by omega) _).mono ?_;rintro e w1 ⟨rfl,rfl⟩;rw[HV2.out];go_wp2_with fail;refine(HD.out _).mono ?_;rintro e w1 ⟨rfl,hb⟩;have HB:=Hq hb;clear hb;go_wp2;go_ret3;exact⟨rfl,HB.out⟩
/-! The reference: numbers of any length, bit by bit; those below 2^64 at once. -/
theorem r01_Over_small(x y:Nat)(hx8:x<18446744073709551616)(hy8:y<18446744073709551616)(h0:0<y)(w:World):Calls Tryz.prog 158 #[.string (nS x),.string (nS y)] w (Ret (.tuple #[.string (nS (x / y)),.string (nS (x%y))]) w):=by
 have HX8:=Hq hx8;have HY8:=Hq hy8;have hz1:=nS_small_size hx8;have hz2:=nS_small_size hy8;have hq8:x / y<18446744073709551616:=Nat.lt_of_le_of_lt (Nat.div_le_self x y) hx8;have hr8:x%y<18446744073709551616:=Nat.lt_trans (Nat.mod_lt x h0) hy8;have HQ8:=Hq hq8;have HR8:=Hq hr8;have HN1:=Hq (r01_U64_n x hx8);have HN2:=Hq (r01_U64_n y hy8);obtain⟨s,hs⟩:∃ s,nS x=s:=⟨_,rfl⟩;obtain⟨t,ht⟩:∃ t,nS y=t:=⟨_,rfl⟩;rw[hs]at hz1 HN1⊢;rw[ht]at hz2 HN2⊢;clear hs ht hq8 hr8 hx8 hy8;have hy1:((y:Int)==0)=false:=beq_eq_false_iff_ne.2 (by omega);have hy2:(0:Int)<(y:Int):=by omega
 have hy3:¬ (y=0):=by omega
 have hwq:IntKind.u64.wrap ((x:Int) / (y:Int))=(x:Int) / (y:Int):=u64_wrap (x / y) HQ8.out;have hwr:IntKind.u64.wrap ((x:Int)%(y:Int))=(x:Int)%(y:Int):=u64_wrap (x%y) HR8.out;have hsz1:(s.size:Int)≤8:=by omega
 have hsz2:(t.size:Int)≤8:=by omega
 go_enter Tryz.func158,Tryz.ntmps158;go_wp2_with fail;refine(HN1.out _).mono ?_;rintro e w1 ⟨rfl,rfl⟩;go_wp2_with fail;refine(HN2.out _).mono ?_;rintro e w1 ⟨rfl,rfl⟩;go_wp2;refine wp_region_K 10 (Below (w.drew).heap.size (w.drew)) (by kernel_rfl) ?_;intro hD;refine qP 0 9 rfl hD blr ?_;clear hD;intro hD;refine qP 1 8 rfl hD blr ?_;clear hD;intro hD;refine qP 2 7 rfl hD blr ?_;clear hD;intro hD;refine qP 4 6 rfl hD blr ?_;clear hD;intro hD;refine qP 5 5 rfl hD blr ?_;clear hD;intro hD;refine qP 6 4 rfl hD blr ?_;clear hD;intro hD;simp only[Act.put,sqA,sqB,sqC];refine wpAnyK_one (i:=3) (fuel:=3) (by kernel_rfl) rfl hD ?_;clear hD;intro K3 hK3;go_wp2_with fail;refine(r01_Of (x / y) HQ8.out _).mono ?_;rintro e w3 ⟨rfl,hb3⟩;have HB3:=Hq hb3;clear hb3;go_wp2;refine hK3 _ _ (by exact HB3.out) ?_;clear hK3;intro hS_3_3 hD;refine wpAnyK_one (i:=7) (fuel:=2) (by kernel_rfl) rfl hD ?_;clear hD;intro K7 hK7;go_wp2_with fail;refine(r01_Of (x%y) HR8.out _).mono ?_;rintro e w7 ⟨rfl,hb7⟩;have HB7:=Hq hb7;clear hb7;go_wp2;refine hK7 _ _ (by exact Below.trans hS_3_3 (Below.mono HB7.out (Below.size hS_3_3))) ?_;clear hK7;intro hS_3_7 hD;refine wpAnyK_one (i:=8) (fuel:=1) (by kernel_rfl) rfl hD ?_;clear hD;intro K8 hK8;go_wp2;refine hK8 _ _ (by exact hS_3_7) ?_;clear hK8;intro hS_3_8 hD;refine wpAnyK_one (i:=9) (fuel:=0) (by kernel_rfl) rfl hD ?_;clear hD;intro K9 hK9;go_wp2;refine hK9 _ _ (by exact hS_3_8) ?_;clear hK9;intro hS_3_9 hD;refine wpAnyK_done (by kernel_rfl) ?_ 0;clear hD;have HX:=Hq hS_3_9;go_wp2;go_ret2;exact⟨rfl,(blr).drew.trans HX.out⟩
structure Est (B u u1 y1 y0 q r:Nat):Prop where
 eq:q * y1+r=u
 ge:(u * B+u1) / (y1 * B+y0)≤q
 le:q≤B+1
theorem est_test{B u u1 y1 y0 q r:Nat}(h:q * y1+r=u):q * y0≤B * r+u1↔q * (y1 * B+y0)≤u * B+u1:=by
 subst h;have e1:q * (y1 * B+y0)=q * y1 * B+q * y0:=by rw[Nat.mul_add,Nat.mul_assoc]
 have e2:(q * y1+r) * B=q * y1 * B+B * r:=by rw[Nat.add_mul,Nat.mul_comm B r]
 rw[e1,e2];omega
theorem est_true{B u u1 y1 y0 q:Nat}(hy:0<y1 * B+y0):q * (y1 * B+y0)≤u * B+u1↔q≤(u * B+u1) / (y1 * B+y0):=(Nat.le_div_iff_mul_le hy).symm
theorem est_digit{B u u1 y1 y0:Nat}(h1:u1<B)(hu:u<y1 * B+y0):(u * B+u1) / (y1 * B+y0)<B:=by
 rw[Nat.div_lt_iff_lt_mul (by omega)];have:=Nat.mul_le_mul_right B (show u+1≤y1 * B+y0 from hu);rw[Nat.succ_mul]at this;rw[Nat.mul_comm B];omega
theorem est_start{B u u1 y1 y0:Nat}(h1:u1<B)(hy1:B≤2 * y1)(hy0:y0<B)(hu:u<y1 * B+y0):Est B u u1 y1 y0 (u / y1) (u%y1):=by
 have hB:0<B:=by omega
 have hp:0<y1:=by omega
 refine⟨by rw[Nat.mul_comm];exact Nat.div_add_mod u y1,?_,?_⟩
 · rw[Nat.le_div_iff_mul_le hp];have h2:=Nat.div_mul_le_self (u * B+u1) (y1 * B+y0);generalize (u * B+u1) / (y1 * B+y0)=d at *;have e1:d * (y1 * B+y0)=d * y1 * B+d * y0:=by rw[Nat.mul_add,Nat.mul_assoc]
   rw[e1]at h2;rcases Nat.lt_or_ge u (d * y1)with h3 | h3
   · have h4:=Nat.mul_le_mul_right B (show u+1≤d * y1 from h3);rw[Nat.succ_mul]at h4;omega
   · exact h3
 · have : u / y1<B+2:=by
    rw[Nat.div_lt_iff_lt_mul hp];have e1:(B+2) * y1=y1 * B+2 * y1:=by rw[Nat.add_mul,Nat.mul_comm B]
    omega
   omega
theorem est_less{B u u1 y1 y0 q r:Nat}(h:Est B u u1 y1 y0 q r)(h1:u1<B)(hu:u<y1 * B+y0)(ht:B≤q∨B * r+u1<q * y0):1≤q∧Est B u u1 y1 y0 (q - 1) (r+y1):=by
 have hd:=est_digit h1 hu;have hlt:(u * B+u1) / (y1 * B+y0)<q:=by
  rcases ht with ht | ht
  · omega
  · rcases Nat.lt_or_ge ((u * B+u1) / (y1 * B+y0)) q with h' | h'
    · exact h'
    · have:=(est_test (B:=B) (u1:=u1) (y0:=y0) h.eq).2 ((est_true (by omega)).2 h');omega
 have h2:=h.eq;have h5:=h.le;have hge:(u * B+u1) / (y1 * B+y0)≤q - 1:=(by generalize (u * B+u1) / (y1 * B+y0)=d at *;omega);have hq1:1≤q:=Nat.lt_of_le_of_lt (Nat.zero_le _) hlt;refine⟨hq1,⟨?_,hge,by omega⟩⟩;obtain⟨k,rfl⟩:∃ k,q=k+1:=⟨q - 1,by omega⟩;rw[Nat.add_sub_cancel];rw[Nat.succ_mul]at h2;omega
theorem est_done{B u u1 y1 y0 q r:Nat}(h:Est B u u1 y1 y0 q r)(hy:0<y1 * B+y0)(ht:q * y0≤B * r+u1):q=(u * B+u1) / (y1 * B+y0):=
 Nat.le_antisymm ((est_true hy).1 ((est_test h.eq).1 ht)) h.ge
theorem est_break{B u u1 y1 y0 q r:Nat}(h:Est B u u1 y1 y0 q r)(hy:0<y1 * B+y0)(hy0:y0<B)(hr:B≤r)(hq:q≤B):q=(u * B+u1) / (y1 * B+y0):=by
 refine est_done h hy ?_;have h1:q * y0≤B * y0:=Nat.mul_le_mul_right _ hq;have h3:B * y0≤B * B:=Nat.mul_le_mul_left _ (by omega);have h2:B * B≤B * r:=Nat.mul_le_mul_left _ hr;omega
theorem two_digits(B N1 n1 n0 Y:Nat):((N1 * B+n1)%Y * B+n0)%Y=((N1 * B+n1) * B+n0)%Y:=by
 rw[Nat.add_mod,Nat.mod_mul_mod,←Nat.add_mod]
theorem scaled_rem(N y s:Nat):(N * 2 ^ s)%(y * 2 ^ s) / 2 ^ s=N%y:=by
 rw[Nat.mul_mod_mul_right,Nat.mul_div_cancel _ (Nat.pow_pos (by omega))]
theorem addr_add(b o j:Nat):(⟨b,o,none⟩:Addr).add j=⟨b,o+j,none⟩:=by unfold Addr.add;split<;>simp_all
def SlN(w:World)(A:Option Addr)(len cap:Nat)(l:List ByteArray):Prop:=
 l.length=len∧len≤cap∧cap≤9223372036854775807∧∃ b o,(0<len→A=some ⟨b,o,none⟩)∧∀ k s,l[k]? =some s→w.cell? ⟨b,o+k,none⟩=some (.string s)
theorem SlN.kept{B:Nat}{w w':World}(hb:Below B w w')(hB:w.heap.size≤B){A:Option Addr}{len cap:Nat}{l:List ByteArray}(h:SlN w A len cap l):SlN w' A len cap l:=
 let ⟨h1,h2,h3,b,o,h4,h5⟩:=h
 ⟨h1,h2,h3,b,o,h4,fun k e hk=>cell_kept hb hB (h5 k e hk)⟩
theorem SlN.head{w:World}{A:Option Addr}{len cap:Nat}{l:List ByteArray}(h:SlN w A len cap l)(h0:0<len):∃ b o,A=some ⟨b,o,none⟩:=
 let ⟨_,_,_,b,o,h4,_⟩:=h
 ⟨b,o,h4 h0⟩
theorem SlN.get?{w:World}{b o len cap:Nat}{l:List ByteArray}(h:SlN w (some ⟨b,o,none⟩) len cap l)(k:Nat){s:ByteArray}(hk:l[k]? =some s):w.cell? ⟨b,o+k,none⟩=some (.string s):=by
 obtain⟨h1,h2,h3,b',o',h4,h5⟩:=h;have hl:=(List.getElem?_eq_some_iff.1 hk).1;have:=h4 (by omega);simp only[Option.some.injEq,Addr.mk.injEq,and_true]at this;obtain⟨rfl,rfl⟩:=this;exact h5 k s hk
theorem SlN.cells{w:World}{ad:Addr}{len cap:Nat}{l:List ByteArray}(h:SlN w (some ad) len cap l):∀ j u,(l.map Value.string)[j]? =some u→w.cell? (ad.add j)=some u:=by
 intro j u hj;rw[List.getElem?_map,Option.map_eq_some_iff]at hj;obtain⟨s,hs,rfl⟩:=hj;have hlt:=(List.getElem?_eq_some_iff.1 hs).1;obtain⟨b,o,e⟩:=h.head (by have:=h.1;omega);cases e;rw[addr_add];exact h.get? j hs
theorem SlN.of_owns{w:World}{base:Nat}{T:TypeId}{v:Value}{n:Nat}{l:List ByteArray}(h:w.ownsRow base T 1 v n (l.map Value.string)):l.length=n∧∃ A cap,v=.slice A n cap∧SlN w A n cap l:=by
 have hl:=h.1;rw[List.length_map]at hl;have hln:l.length=n:=by omega
 refine⟨hln,?_⟩;rcases h.2 with⟨hv,h0⟩ | ⟨g,cap,cur,hv,hb,hh,hc,hm,hs,ht⟩
 · subst h0;have : l=[]:=List.length_eq_zero_iff.1 hln;subst this;exact⟨none,0,hv,rfl,Nat.le_refl _,by omega,0,0,fun h=>by omega,fun k e h=>by simp at h⟩
 · refine⟨_,cap,hv,hln,hc,by unfold maxLen at hm;exact hm,g,0,fun _=>rfl,fun k s hk=>?_⟩;have hcell:=h.cells (g:=g) (by rw[hv];rfl) k (.string s) (by rw[List.getElem?_map,hk];rfl);rw[addr_add]at hcell;exact hcell
theorem SlN.nil(w:World)(cap:Nat)(h:cap≤9223372036854775807)(A:Option Addr):SlN w A 0 cap []:=⟨rfl,Nat.zero_le _,h,0,0,fun h=>by omega,fun k e h=>by simp at h⟩
theorem strs_one(l:List ByteArray):∀ u∈l.map Value.string,u.oneCell'=true:=by
 intro u h;obtain⟨s,_,rfl⟩:=List.mem_map.1 h;rfl
def RetRow(T:TypeId)(size n:Nat)(vs:List Value)(w:World)(e:Ending)(w':World):Prop:=∃ v,e=.returned v∧w'.ownsRow w.heap.size T size v n vs∧Below w.heap.size w w'
def RetNs(l:List ByteArray)(k:IntKind)(f:Int)(w:World)(e:Ending)(w':World):Prop:=∃ A cap,e=.returned (.tuple #[.slice A l.length cap,.int k f])∧SlN w' A l.length cap l∧Below w.heap.size w w'
theorem RetNs.mk'{w w':World}{v:Value}{n B:Nat}{T:TypeId}{l:List ByteArray}{f:Int}(h:w'.ownsRow B T 1 v n (l.map Value.string))(hb:Below w.heap.size w w'):RetNs l .i64 f w (.returned (.tuple #[v,.int .i64 f])) w':=by
 obtain⟨hl,A,cap,rfl,hs⟩:=SlN.of_owns h;subst hl;exact⟨A,cap,rfl,hs,hb⟩
theorem nat_info:(Tryz.prog.info? 22).map (fun i=>(i.zero,i.size,i.bytes))=some (some (.string ⟨#[]⟩),1,16):=by kernel_rfl
theorem below_dN{B:Nat}{w0 w:World}(h:Below B w0 w)(q:Nat):Below B w0 (w.drewN q):=h.trans ⟨rfl,rfl,rfl,Nat.le_refl _,fun _ _=>rfl⟩
theorem sln_alloc(w:World)(l:List ByteArray)(T:TypeId)(h:l.length≤9223372036854775807:=by decide):SlN (w.alloc (.cells (l.map Value.string).toArray T)) (some ⟨w.heap.size,0,none⟩) l.length l.length l:=by
 refine⟨rfl,Nat.le_refl _,h,w.heap.size,0,fun _=>rfl,fun k s hk=>?_⟩;rw[World.cell?_alloc_at (hn:=rfl),Nat.zero_add];simp[hk]
theorem own_alloc(w:World)(l:List ByteArray)(T:TypeId)(B:Nat)(hB:B≤w.heap.size)(h:l.length≤maxLen):(w.alloc (.cells (l.map Value.string).toArray T)).ownsRow B T 1 (.slice (some ⟨w.heap.size,0,none⟩) l.length l.length) l.length (l.map Value.string):=
 ⟨by simp,.inr ⟨w.heap.size,l.length,_,rfl,hB,heap_alloc_new w _,Nat.le_refl _,h,by simp,by rw[Nat.mul_one];exact List.take_of_length_le (by simp)⟩⟩
def RetB(B:Nat)(v:Value)(w:World)(e:Ending)(w':World):Prop:=e=.returned v∧Below B w w'
end Go.Proofs.YtfbmbledklbfgaaGreat

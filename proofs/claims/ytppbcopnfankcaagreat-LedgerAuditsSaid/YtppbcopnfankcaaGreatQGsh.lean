import Derived.Test.YtppbcopnfankcaaGreatQEncB
set_option linter.unusedVariables false
namespace Go.Proofs.YtppbcopnfankcaaGreat
def zzw(K:Act→World→Prop):Exit→Act→World→Prop
 | .normal,a,w=>K a w
 | _,_,_=>False
theorem j6{P:Program}{c:Code}{K:Act→World→Prop}{Q:Exit→Act→World→Prop}{a:Act}{w:World}(h:c.wp P (zzw K) a w):c.wp P (Exit.then K Q) a w:=
 wp_mono h (fun e a w hh=>by
  cases e<;>first | exact hh | exact hh.elim)
theorem zhq{K:Act→World→Prop}{Q:Exit→Act→World→Prop}{a:Act}{w:World}(h:∀ W,W=w→EndK K Q .normal a W):EndK K Q .normal a w:=h w rfl
section
variable {P : Program} {ops : Array Oper} {Q : Exit → Act → World → Prop} {md : Region.Mode} {S : World → Prop} {k : Nat}
def zgm(P:Program)(md:Region.Mode)(ops:Array Oper)(Q:Exit→Act→World→Prop)(k:Nat)(S:World→Prop)(i:Nat)(d:Tmp)(fuel:Nat)(listed:Array Bool)(a:Act)(I:Bool→Value→World→Prop):Prop:=
 (∀ x w,I true x w→zq P md ops Q k S fuel (listed.setIfInBounds i true) (a.put (some d) x) w)∧(∀ w,I false undef w→zq P md ops Q k S (fuel+1) listed a w)
theorem zp1{i j:Nat}{oi oj:Oper}{d dj:Tmp}{fuel:Nat}{listed:Array Bool}{a:Act}{I:Bool→Value→World→Prop}{β:Type}(val:β→Value)(I':β→Bool→Value→World→Prop)
 (hr:Region.ready md ops listed=[j,i]) (hr':Region.ready md ops (listed.setIfInBounds i true)=[j]) (hi:ops[i]? =some oi) (hj:ops[j]? =some oj) (hD:Down md ops listed)
 (ha:a.put (some d) undef=a) (hdd:d≠dj) (hS':∀ v b x w,I' v b x w→S w) (hS:∀ b x w,I b x w→S w)
 (halloc:∀ w,I false undef w→∀ K:Act→World→Prop,(∀ x w',I true x w'→K (a.put (some d) x) w')→wpList P ops (EndK K Q) [oi] a w)
 (hstep:∀ b x w,I b x w→∀ K:Act→World→Prop,(∀ v w',I' v b x w'→K ((a.put (some d) x).put (some dj) (val v)) w')→wpList P ops (EndK K Q) [oj] (a.put (some d) x) w)
 (hnext:∀ v,Down md ops (listed.setIfInBounds j true)→zgm P md ops Q k S i d fuel (listed.setIfInBounds j true) (a.put (some dj) (val v)) (I' v)) :
 zgm P md ops Q k S i d (fuel+1) listed a I:=by
 have hmi:i∈Region.ready md ops listed:=by rw[hr];simp
 have hmj:j∈Region.ready md ops listed:=by rw[hr];simp
 have hDj:=hD.set hmj;have hji:i≠j:=fun e=>by
  have:=(mem_ready.1 (show j∈Region.ready md ops (listed.setIfInBounds i true)by rw[hr'];simp)).1;subst e;have h2:=(mem_ready.1 hmi).1;have h3:=zjl h2;rw[Array.getD_eq_getD_getElem?]at this h3
  cases e:(listed.setIfInBounds i true)[i]? with
  | none=>rw[e]at h3;cases h3
  | some b=>rw[e]at this h3;cases b<;>cases this<;>cases h3
 have hcomm:∀ x v,(a.put (some d) x).put (some dj) v=(a.put (some dj) v).put (some d) x:=fun x v=>Act.put_comm a x v (fun d' h h'=>by cases h;cases h';exact hdd rfl);have htrue:∀ x w,I true x w→zq P md ops Q k S (fuel+1) (listed.setIfInBounds i true) (a.put (some d) x) w:=fun x w h=>by
  refine zaj hr' hj (hD.set hmi) (fun K hK=>hstep true x w h K fun v w' h'=>hK _ w' (hS' _ _ _ _ h') fun _ _=>?_);rw[hcomm,Array.setIfInBounds_comm _ _ hji];exact(hnext v hDj).1 x w' h'
 refine⟨htrue,fun w h=>?_⟩;refine jg hr hj hi hD (fun K hK=>?_) (fun K hK=>?_)
 · have h1:=hstep false undef w h K fun v w' h'=>by
    rw[hcomm];have e:(a.put (some dj) (val v)).put (some d) undef=a.put (some dj) (val v):=by rw[←hcomm,ha]
    rw[e];exact hK _ w' (hS' _ _ _ _ h') fun _ _=>(hnext v hDj).2 w' h'
   rw[ha]at h1;exact h1
 · exact halloc w h K fun x w' h'=>hK _ w' (hS _ _ _ h') fun _ _=>htrue x w' h'
theorem zsc{i:Nat}{oi:Oper}{d:Tmp}{fuel:Nat}{listed:Array Bool}{a:Act}{I:Bool→Value→World→Prop}
 (hr:Region.ready md ops listed=[i]) (hi:ops[i]? =some oi) (hD:Down md ops listed) (hS:∀ b x w,I b x w→S w)
 (halloc:∀ w,I false undef w→∀ K:Act→World→Prop,(∀ x w',I true x w'→K (a.put (some d) x) w')→wpList P ops (EndK K Q) [oi] a w)
 (hnext:∀ x w,I true x w→Down md ops (listed.setIfInBounds i true)→zq P md ops Q k S fuel (listed.setIfInBounds i true) (a.put (some d) x) w) :
 zgm P md ops Q k S i d fuel listed a I:=by
 have hmi:i∈Region.ready md ops listed:=by rw[hr];simp
 refine⟨fun x w h=>hnext x w h (hD.set hmi),fun w h=>?_⟩;exact zaj hr hi hD fun K hK=>halloc w h K fun x w' h'=>hK _ w' (hS _ _ _ h') fun _ _=>hnext x w' h' (hD.set hmi)
theorem zbh{i:Nat}{oi:Oper}{d:Option Tmp}{v:Value}{fuel:Nat}{listed:Array Bool}{a:Act}{w:World}(hi:ops[i]? =some oi)(hd:oi.dst=d)(hst:kg md ops listed k i=true)(hre:zcu md ops ops.size k i=true)
 (hQ:∀ c a w,Q (.panic c) (a.put d v) w→Q (.panic c) a w) (hD:Down md ops listed) (hS:S w) (hy:YieldsIf P ops S oi v a)
 (h:Down md ops (listed.setIfInBounds i true)→zq P md ops Q k S fuel (listed.setIfInBounds i true) (a.put d v) w):zq P md ops Q k S (fuel+1) listed a w:=by
 subst hd;exact zem hi hst hre hQ hD hS hy h
theorem ji{i:Nat}{oi:Oper}{d:Option Tmp}{v:Value}{fuel:Nat}{listed:Array Bool}{a:Act}{w:World}(hi:ops[i]? =some oi)(hd:oi.dst=d)(hst:kg md ops listed k i=true)(hre:decide (ops.size≤k)=true)
 (hQ:∀ c a w,Q (.panic c) (a.put d v) w→Q (.panic c) a w) (hD:Down md ops listed) (hS:S w) (hy:YieldsIf P ops S oi v a)
 (h:Down md ops (listed.setIfInBounds i true)→zq P md ops Q k S fuel (listed.setIfInBounds i true) (a.put d v) w):zq P md ops Q k S (fuel+1) listed a w:=by
 subst hd;exact zdm hi hst hre hQ hD hS hy h
theorem zbi{i:Nat}{oi:Oper}{d:Option Tmp}{v:Value}{fuel:Nat}{listed:Array Bool}{a:Act}{w:World}(hi:ops[i]? =some oi)(hd:oi.dst=d)(hst:kg md ops listed k i=true)
 (hQ:∀ c a w,Q (.panic c) (a.put d v) w→Q (.panic c) a w) (hD:Down md ops listed) (hS:S w) (hy:YieldsIf P ops (fun _=>True) oi v a)
 (h:Down md ops (listed.setIfInBounds i true)→zq P md ops Q k S fuel (listed.setIfInBounds i true) (a.put d v) w):zq P md ops Q k S (fuel+1) listed a w:=by
 subst hd;exact zen hi hst hQ hD hS hy h
theorem xy{i:Nat}{oi:Oper}{d:Option Tmp}{v:Value}{fuel:Nat}{listed:Array Bool}{a:Act}{w:World}(hi:ops[i]? =some oi)(hd:oi.dst=d)(hst:kg md ops listed k i=true)(hk:listed.getD k false=true)
 (hQ:∀ c a w,Q (.panic c) (a.put d v) w→Q (.panic c) a w) (hD:Down md ops listed) (hy:YieldsIf P ops (fun _=>True) oi v a)
 (h:Down md ops (listed.setIfInBounds i true)→zq P md ops Q k S fuel (listed.setIfInBounds i true) (a.put d v) w):zq P md ops Q k S (fuel+1) listed a w:=by
 subst hd;exact xw hi hst hk hQ hD hy h
end
section
variable {P : Program} {ops : Array Oper} {Q : Exit → Act → World → Prop} {md : Region.Mode} {S : World → Prop} {k : Nat}
theorem qPD{oi:Oper}{v:Value}{listed:Array Bool}{a:Act}{w:World}(i d fuel:Nat)(hS:S w)(h:Down md ops (listed.setIfInBounds i true)→zq P md ops Q k S fuel (listed.setIfInBounds i true) (a.put (some d) v) w)(hi:ops[i]? =some oi:=by rfl)(hy:∀ w',True→(execOp a.eval oi).run P w'=.ok (.value v) w':=by intro w' _;go_simp;with_reducible rfl)(hd:oi.dst=some d:=by kernel_rfl)(hst:kg md ops listed k i=true:=by kernel_rfl)(hg:Region.wanted oi (yielded ops a.tmps)=true:=by kernel_rfl)(hQ:∀ c a w,Q (.panic c) (a.put (some d) v) w→Q (.panic c) a w:=by exact fun _ _ _ h=>h):Down md ops listed→zq P md ops Q k S (fuel+1) listed a w:=fun hD=>zbi hi hd hst hQ hD hS (.inl ⟨hg,hy⟩) h
theorem qPDs{oi:Oper}{v:Value}{listed:Array Bool}{a a':Act}{w:World}(i d fuel:Nat)(hS:S w)(h:Down md ops (listed.setIfInBounds i true)→zq P md ops Q k S fuel (listed.setIfInBounds i true) a' w)(hi:ops[i]? =some oi:=by rfl)(hy:∀ w',True→(execOp a.eval oi).run P w'=.ok (.value v) w':=by intro w' _;go_simp;with_reducible rfl)(hd:oi.dst=some d:=by kernel_rfl)(hst:kg md ops listed k i=true:=by kernel_rfl)(hg:Region.wanted oi (yielded ops a.tmps)=true:=by kernel_rfl)(hQ:∀ c a w,Q (.panic c) (a.put (some d) v) w→Q (.panic c) a w:=by exact fun _ _ _ h=>h)(ha:a.put (some d) v=a':=by simp only[Act.put,sqA,sqB,sqC];rfl):Down md ops listed→zq P md ops Q k S (fuel+1) listed a w:=by subst ha;exact qPD i d fuel hS h hi hy hd hst hg hQ
theorem qTD{oi:Oper}{v:Value}{listed:Array Bool}{a:Act}{w:World}(i d fuel:Nat)(hS:S w){F:World→Prop}(K:∀ w',S w'→F w')(h:Down md ops (listed.setIfInBounds i true)→zq P md ops Q k S fuel (listed.setIfInBounds i true) (a.put (some d) v) w)(hi:ops[i]? =some oi:=by rfl)(hd:oi.dst=some d:=by kernel_rfl)(hst:kg md ops listed k i=true:=by kernel_rfl)(hre:zcu md ops ops.size k i=true:=by kernel_rfl)(hg:Region.wanted oi (yielded ops a.tmps)=true:=by kernel_rfl)(hy:∀ w',F w'→(execOp a.eval oi).run P w'=.ok (.value v) w':=by intro w' hF;go_simp;with_reducible rfl)(hQ:∀ c a w,Q (.panic c) (a.put (some d) v) w→Q (.panic c) a w:=by exact fun _ _ _ h=>h):Down md ops listed→zq P md ops Q k S (fuel+1) listed a w:=fun hD=>zbh hi hd hst hre hQ hD hS (.inl ⟨hg,fun w' h'=>hy w' (K w' h')⟩) h
theorem qTDs{oi:Oper}{v:Value}{listed:Array Bool}{a a':Act}{w:World}(i d fuel:Nat)(hS:S w){F:World→Prop}(K:∀ w',S w'→F w')(h:Down md ops (listed.setIfInBounds i true)→zq P md ops Q k S fuel (listed.setIfInBounds i true) a' w)(hi:ops[i]? =some oi:=by rfl)(hd:oi.dst=some d:=by kernel_rfl)(hst:kg md ops listed k i=true:=by kernel_rfl)(hre:zcu md ops ops.size k i=true:=by kernel_rfl)(hg:Region.wanted oi (yielded ops a.tmps)=true:=by kernel_rfl)(hy:∀ w',F w'→(execOp a.eval oi).run P w'=.ok (.value v) w':=by intro w' hF;go_simp;with_reducible rfl)(hQ:∀ c a w,Q (.panic c) (a.put (some d) v) w→Q (.panic c) a w:=by exact fun _ _ _ h=>h)(ha:a.put (some d) v=a':=by simp only[Act.put,sqA,sqB,sqC];rfl):Down md ops listed→zq P md ops Q k S (fuel+1) listed a w:=by subst ha;exact qTD i d fuel hS K h hi hd hst hre hg hy hQ
theorem qSD{oi:Oper}{v:Value}{listed:Array Bool}{a:Act}{w:World}(i d fuel:Nat)(hS:S w){F:World→Prop}(K:∀ w',S w'→F w')(h:Down md ops (listed.setIfInBounds i true)→zq P md ops Q k S fuel (listed.setIfInBounds i true) (a.put (some d) v) w)(hi:ops[i]? =some oi:=by rfl)(hd:oi.dst=some d:=by kernel_rfl)(hst:kg md ops listed k i=true:=by kernel_rfl)(hre:decide (ops.size≤k)=true:=by kernel_rfl)(hg:Region.wanted oi (yielded ops a.tmps)=true:=by kernel_rfl)(hy:∀ w',F w'→(execOp a.eval oi).run P w'=.ok (.value v) w':=by intro w' hF;go_simp;with_reducible rfl)(hQ:∀ c a w,Q (.panic c) (a.put (some d) v) w→Q (.panic c) a w:=by exact fun _ _ _ h=>h):Down md ops listed→zq P md ops Q k S (fuel+1) listed a w:=fun hD=>ji hi hd hst hre hQ hD hS (.inl ⟨hg,fun w' h'=>hy w' (K w' h')⟩) h
theorem qSDs{oi:Oper}{v:Value}{listed:Array Bool}{a a':Act}{w:World}(i d fuel:Nat)(hS:S w){F:World→Prop}(K:∀ w',S w'→F w')(h:Down md ops (listed.setIfInBounds i true)→zq P md ops Q k S fuel (listed.setIfInBounds i true) a' w)(hi:ops[i]? =some oi:=by rfl)(hd:oi.dst=some d:=by kernel_rfl)(hst:kg md ops listed k i=true:=by kernel_rfl)(hre:decide (ops.size≤k)=true:=by kernel_rfl)(hg:Region.wanted oi (yielded ops a.tmps)=true:=by kernel_rfl)(hy:∀ w',F w'→(execOp a.eval oi).run P w'=.ok (.value v) w':=by intro w' hF;go_simp;with_reducible rfl)(hQ:∀ c a w,Q (.panic c) (a.put (some d) v) w→Q (.panic c) a w:=by exact fun _ _ _ h=>h)(ha:a.put (some d) v=a':=by simp only[Act.put,sqA,sqB,sqC];rfl):Down md ops listed→zq P md ops Q k S (fuel+1) listed a w:=by subst ha;exact qSD i d fuel hS K h hi hd hst hre hg hy hQ
end
open Go.RowKit
theorem kC{w w':World}(h:Below w.heap.size w w'){a:Addr}{v:Value}(c:w.cell? a=some v):w'.cell? a=some v:=kc h c
theorem k1{w:World}{a:Addr}{v:Value}(c:w.cell? a=some v):∀ w',Below w.heap.size w w'→w'.cell? a=some v:=fun _ h=>kC h c
theorem k2{w:World}{a b:Addr}{v u:Value}(c:w.cell? a=some v)(d:w.cell? b=some u):∀ w',Below w.heap.size w w'→w'.cell? a=some v∧w'.cell? b=some u:=fun _ h=>⟨kC h c,kC h d⟩
theorem k3{w:World}{a b e:Addr}{v u x:Value}(c:w.cell? a=some v)(d:w.cell? b=some u)(f:w.cell? e=some x):∀ w',Below w.heap.size w w'→w'.cell? a=some v∧w'.cell? b=some u∧w'.cell? e=some x:=fun _ h=>⟨kC h c,kC h d,kC h f⟩
theorem k4{w:World}{a b e g:Addr}{v u x y:Value}(c:w.cell? a=some v)(d:w.cell? b=some u)(f:w.cell? e=some x)(p:w.cell? g=some y):∀ w',Below w.heap.size w w'→w'.cell? a=some v∧w'.cell? b=some u∧w'.cell? e=some x∧w'.cell? g=some y:=fun _ h=>⟨kC h c,kC h d,kC h f,kC h p⟩
section
variable {P : Program} {ops : Array Oper} {Q : Exit → Act → World → Prop} {md : Region.Mode} {S : World → Prop} {k : Nat}
theorem rP{oi:Oper}{v:Value}{listed:Array Bool}{a:Act}{w:World}(i d fuel:Nat)(hS:S w)
 (h:Down md ops (listed.setIfInBounds i true)→zq P md ops Q k S fuel (listed.setIfInBounds i true) (a.put (some d) v) w)
 (hi:ops[i]? =some oi:=by rfl) (hd:oi.dst=some d:=by kernel_rfl) (hst:kg md ops listed k i=true:=by kernel_rfl) (hg:Region.wanted oi (yielded ops a.tmps)=true:=by kernel_rfl)
 (hy:∀ w',True→(execOp a.eval oi).run P w'=.ok (.value v) w':=by intro w' _;go_simp;with_reducible rfl)
 (hQ:∀ c a w,Q (.panic c) (a.put (some d) v) w→Q (.panic c) a w:=by exact fun _ _ _ h=>h):Down md ops listed→zq P md ops Q k S (fuel+1) listed a w:=fun hD=>zbi hi hd hst hQ hD hS (.inl ⟨hg,hy⟩) h
theorem rPs{oi:Oper}{v:Value}{listed:Array Bool}{a a':Act}{w:World}(i d fuel:Nat)(hS:S w)
 (h:Down md ops (listed.setIfInBounds i true)→zq P md ops Q k S fuel (listed.setIfInBounds i true) a' w)
 (hi:ops[i]? =some oi:=by rfl) (hd:oi.dst=some d:=by kernel_rfl) (hst:kg md ops listed k i=true:=by kernel_rfl) (hg:Region.wanted oi (yielded ops a.tmps)=true:=by kernel_rfl)
 (hy:∀ w',True→(execOp a.eval oi).run P w'=.ok (.value v) w':=by intro w' _;go_simp;with_reducible rfl)
 (hQ:∀ c a w,Q (.panic c) (a.put (some d) v) w→Q (.panic c) a w:=by exact fun _ _ _ h=>h) (ha:a.put (some d) v=a':=by simp only[Act.put,sqA,sqB,sqC];rfl):Down md ops listed→zq P md ops Q k S (fuel+1) listed a w:=by subst ha;exact rP i d fuel hS h hi hd hst hg hy hQ
theorem rU{oi:Oper}{listed:Array Bool}{a:Act}{w:World}(i d fuel:Nat)(hS:S w)
 (h:Down md ops (listed.setIfInBounds i true)→zq P md ops Q k S fuel (listed.setIfInBounds i true) (a.put (some d) undef) w)
 (hi:ops[i]? =some oi:=by rfl) (hd:oi.dst=some d:=by kernel_rfl) (hst:kg md ops listed k i=true:=by kernel_rfl) (hg:Region.wanted oi (yielded ops a.tmps)=false:=by kernel_rfl)
 (hQ:∀ c a w,Q (.panic c) (a.put (some d) undef) w→Q (.panic c) a w:=by exact fun _ _ _ h=>h):Down md ops listed→zq P md ops Q k S (fuel+1) listed a w:=fun hD=>zbi hi hd hst hQ hD hS (.inr ⟨hg,rfl⟩) h
theorem rUs{oi:Oper}{listed:Array Bool}{a a':Act}{w:World}(i d fuel:Nat)(hS:S w)
 (h:Down md ops (listed.setIfInBounds i true)→zq P md ops Q k S fuel (listed.setIfInBounds i true) a' w)
 (hi:ops[i]? =some oi:=by rfl) (hd:oi.dst=some d:=by kernel_rfl) (hst:kg md ops listed k i=true:=by kernel_rfl) (hg:Region.wanted oi (yielded ops a.tmps)=false:=by kernel_rfl)
 (hQ:∀ c a w,Q (.panic c) (a.put (some d) undef) w→Q (.panic c) a w:=by exact fun _ _ _ h=>h) (ha:a.put (some d) undef=a':=by simp only[Act.put,sqA,sqB,sqC];rfl):Down md ops listed→zq P md ops Q k S (fuel+1) listed a w:=by subst ha;exact rU i d fuel hS h hi hd hst hg hQ
theorem rT{oi:Oper}{v:Value}{listed:Array Bool}{a:Act}{w:World}(i d fuel:Nat)(hS:S w)
 {F:World→Prop} (K:∀ w',S w'→F w')
 (h:Down md ops (listed.setIfInBounds i true)→zq P md ops Q k S fuel (listed.setIfInBounds i true) (a.put (some d) v) w)
 (hi:ops[i]? =some oi:=by rfl) (hd:oi.dst=some d:=by kernel_rfl) (hst:kg md ops listed k i=true:=by kernel_rfl) (hre:decide (ops.size≤k)=true:=by kernel_rfl) (hg:Region.wanted oi (yielded ops a.tmps)=true:=by kernel_rfl)
 (hy:∀ w',F w'→(execOp a.eval oi).run P w'=.ok (.value v) w':=by intro w' hF;go_simp;with_reducible rfl) (hQ:∀ c a w,Q (.panic c) (a.put (some d) v) w→Q (.panic c) a w:=by exact fun _ _ _ h=>h):Down md ops listed→zq P md ops Q k S (fuel+1) listed a w:=fun hD=>ji hi hd hst hre hQ hD hS (.inl ⟨hg,fun w' h'=>hy w' (K w' h')⟩) h
theorem rTs{oi:Oper}{v:Value}{listed:Array Bool}{a a':Act}{w:World}(i d fuel:Nat)(hS:S w)
 {F:World→Prop} (K:∀ w',S w'→F w')
 (h:Down md ops (listed.setIfInBounds i true)→zq P md ops Q k S fuel (listed.setIfInBounds i true) a' w)
 (hi:ops[i]? =some oi:=by rfl) (hd:oi.dst=some d:=by kernel_rfl) (hst:kg md ops listed k i=true:=by kernel_rfl) (hre:decide (ops.size≤k)=true:=by kernel_rfl) (hg:Region.wanted oi (yielded ops a.tmps)=true:=by kernel_rfl)
 (hy:∀ w',F w'→(execOp a.eval oi).run P w'=.ok (.value v) w':=by intro w' hF;go_simp;with_reducible rfl) (hQ:∀ c a w,Q (.panic c) (a.put (some d) v) w→Q (.panic c) a w:=by exact fun _ _ _ h=>h) (ha:a.put (some d) v=a':=by simp only[Act.put,sqA,sqB,sqC];rfl):Down md ops listed→zq P md ops Q k S (fuel+1) listed a w:=by subst ha;exact rT i d fuel hS K h hi hd hst hre hg hy hQ
theorem rO{oi:Oper}{listed:Array Bool}{a:Act}{w:World}(i fuel:Nat)
 (h:∀ K:Act→World→Prop,(∀ a' w',S w'→(S w'→Down md ops (listed.setIfInBounds i true)→zq P md ops Q k S fuel (listed.setIfInBounds i true) a' w')→K a' w')→wpList P ops (EndK K Q) [oi] a w)
 (hi:ops[i]? =some oi:=by rfl) (hr:Region.ready md ops listed=[i]:=by kernel_rfl):Down md ops listed→zq P md ops Q k S (fuel+1) listed a w:=fun hD=>zaj hr hi hD h
end
end Go.Proofs.YtppbcopnfankcaaGreat

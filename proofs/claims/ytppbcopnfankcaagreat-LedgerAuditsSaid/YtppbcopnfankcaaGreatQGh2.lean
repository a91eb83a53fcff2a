import Derived.Test.YtppbcopnfankcaaGreatQGsh
set_option linter.unusedVariables false
namespace Go.Proofs.YtppbcopnfankcaaGreat
section
variable {P : Program} {ops : Array Oper} {Q : Exit → Act → World → Prop} {md : Region.Mode} {S : World → Prop} {k : Nat}
def zox(P:Program)(md:Region.Mode)(ops:Array Oper)(Q:Exit→Act→World→Prop)(k:Nat)(S:World→Prop)(i1 i2:Nat)(d1 d2:Tmp)(fuel:Nat)(listed:Array Bool)(a:Act)(I:Bool→Value→Bool→Value→World→Prop):Prop:=
 (∀ y,zgm P md ops Q k S i1 d1 fuel (listed.setIfInBounds i2 true) (a.put (some d2) y) (fun b x w=>I b x true y w))∧zgm P md ops Q k S i1 d1 (fuel+1) listed a (fun b x w=>I b x false undef w)
theorem zbk(a:Act)(x v:Value){d e:Tmp}(h:d≠e):(a.put (some d) x).put (some e) v=(a.put (some e) v).put (some d) x:=Act.put_comm a x v (fun d' h1 h2=>by cases h1;cases h2;exact h rfl)
theorem za7{i1 i2 j:Nat}{o1 o2 oj:Oper}{d1 d2 dj:Tmp}{fuel:Nat}{listed:Array Bool}{a:Act}{I:Bool→Value→Bool→Value→World→Prop}{β:Type}(val:β→Value)(I':β→Bool→Value→Bool→Value→World→Prop)
 (hr0:Region.ready md ops listed=[j,i1,i2]) (hr1:Region.ready md ops (listed.setIfInBounds i1 true)=[j,i2]) (hr2:Region.ready md ops (listed.setIfInBounds i2 true)=[j,i1]) (hr3:Region.ready md ops ((listed.setIfInBounds i2 true).setIfInBounds i1 true)=[j])
 (h1:ops[i1]? =some o1) (h2:ops[i2]? =some o2) (hj:ops[j]? =some oj) (hD:Down md ops listed) (ha1:a.put (some d1) undef=a) (ha2:a.put (some d2) undef=a) (hne:i1≠i2) (hn1:i1≠j) (hn2:i2≠j) (n12:d1≠d2) (n1j:d1≠dj) (n2j:d2≠dj)
 (hS:∀ b x c y w,I b x c y w→S w) (hS':∀ v b x c y w,I' v b x c y w→S w)
 (al1:∀ c y w,I false undef c y w→∀ K:Act→World→Prop,(∀ x w',I true x c y w'→K ((a.put (some d2) y).put (some d1) x) w')→wpList P ops (EndK K Q) [o1] (a.put (some d2) y) w)
 (al2:∀ b x w,I b x false undef w→∀ K:Act→World→Prop,(∀ y w',I b x true y w'→K ((a.put (some d1) x).put (some d2) y) w')→wpList P ops (EndK K Q) [o2] (a.put (some d1) x) w)
 (st:∀ b x c y w,I b x c y w→∀ K:Act→World→Prop,(∀ v w',I' v b x c y w'→K (((a.put (some d2) y).put (some d1) x).put (some dj) (val v)) w')→wpList P ops (EndK K Q) [oj] ((a.put (some d2) y).put (some d1) x) w)
 (hnext:∀ v,Down md ops (listed.setIfInBounds j true)→zox P md ops Q k S i1 i2 d1 d2 fuel (listed.setIfInBounds j true) (a.put (some dj) (val v)) (I' v)) :
 zox P md ops Q k S i1 i2 d1 d2 (fuel+1) listed a I:=by
 have m1:i1∈Region.ready md ops listed:=by rw[hr0];simp
 have m2:i2∈Region.ready md ops listed:=by rw[hr0];simp
 have mj:j∈Region.ready md ops listed:=by rw[hr0];simp
 have hDj:=hD.set mj;have first:∀ y,zgm P md ops Q k S i1 d1 (fuel+1) (listed.setIfInBounds i2 true) (a.put (some d2) y) (fun b x w=>I b x true y w):=fun y=>by
  refine zp1 val (fun v b x w=>I' v b x true y w) hr2 hr3 h1 hj (hD.set m2) (by rw[zbk _ _ _ n12.symm,ha1]) n1j (fun v b x w h=>hS' _ _ _ _ _ _ h) (fun b x w h=>hS _ _ _ _ _ h) (fun w h K hK=>al1 true y w h K hK) (fun b x w h K hK=>st b x true y w h K hK) (fun v _=>?_);have h:=(hnext v hDj).1 y;rw[zbk _ _ _ n2j,Array.setIfInBounds_comm _ _ hn2];exact h
 have only1:∀ x w,I true x false undef w→zq P md ops Q k S (fuel+2) (listed.setIfInBounds i1 true) (a.put (some d1) x) w:=fun x w h=>by
  refine jg hr1 hj h2 (hD.set m1) (fun K hK=>?_) (fun K hK=>?_)
  · have h3:=st true x false undef w h K fun v w' h'=>by
     rw[ha2];refine hK _ w' (hS' _ _ _ _ _ _ h') fun _ _=>?_;rw[zbk _ _ _ n1j,Array.setIfInBounds_comm _ _ hn1];exact(hnext v hDj).2.1 x w' h'
    rw[ha2]at h3;exact h3
  · exact al2 true x w h K fun y w' h'=>hK _ w' (hS _ _ _ _ _ h') fun _ _=>by
     rw[zbk _ _ _ n12,Array.setIfInBounds_comm _ _ hne];exact(first y).1 x w' h'
 refine⟨first,only1,fun w h=>?_⟩;refine zj1 hr0 hj h1 h2 hD (fun K hK=>?_) (fun K hK=>?_) (fun K hK=>?_)
 · have h3:=st false undef false undef w h K fun v w' h'=>by
    rw[ha2,ha1];exact hK _ w' (hS' _ _ _ _ _ _ h') fun _ _=>(hnext v hDj).2.2 w' h'
   rw[ha2,ha1]at h3;exact h3
 · have h3:=al1 false undef w h K fun x w' h'=>by
    rw[ha2];exact hK _ w' (hS _ _ _ _ _ h') fun _ _=>only1 x w' h'
   rw[ha2]at h3;exact h3
 · have h3:=al2 false undef w h K fun y w' h'=>by
    rw[ha1];exact hK _ w' (hS _ _ _ _ _ h') fun _ _=>(first y).2 w' h'
   rw[ha1]at h3;exact h3
theorem zp2{i1 i2:Nat}{o1 o2:Oper}{d1 d2:Tmp}{fuel:Nat}{listed:Array Bool}{a:Act}{I:Bool→Value→Bool→Value→World→Prop}
 (hr0:Region.ready md ops listed=[i1,i2]) (hr2:Region.ready md ops (listed.setIfInBounds i2 true)=[i1])
 (h1:ops[i1]? =some o1) (h2:ops[i2]? =some o2) (hD:Down md ops listed) (ha1:a.put (some d1) undef=a) (ha2:a.put (some d2) undef=a) (hne:i1≠i2) (n12:d1≠d2)
 (hS:∀ b x c y w,I b x c y w→S w)
 (al1:∀ c y w,I false undef c y w→∀ K:Act→World→Prop,(∀ x w',I true x c y w'→K ((a.put (some d2) y).put (some d1) x) w')→wpList P ops (EndK K Q) [o1] (a.put (some d2) y) w)
 (al2:∀ b x w,I b x false undef w→∀ K:Act→World→Prop,(∀ y w',I b x true y w'→K ((a.put (some d1) x).put (some d2) y) w')→wpList P ops (EndK K Q) [o2] (a.put (some d1) x) w)
 (hnext:∀ x,Down md ops (listed.setIfInBounds i1 true)→zgm P md ops Q k S i2 d2 fuel (listed.setIfInBounds i1 true) (a.put (some d1) x) (fun c y w=>I true x c y w)) :
 zox P md ops Q k S i1 i2 d1 d2 fuel listed a I:=by
 have m1:i1∈Region.ready md ops listed:=by rw[hr0];simp
 have m2:i2∈Region.ready md ops listed:=by rw[hr0];simp
 have hD1:=hD.set m1;have both:∀ x y w,I true x true y w→zq P md ops Q k S fuel ((listed.setIfInBounds i2 true).setIfInBounds i1 true) ((a.put (some d2) y).put (some d1) x) w:=fun x y w h=>by
  have h3:=(hnext x hD1).1 y w h;rw[zbk _ _ _ n12,Array.setIfInBounds_comm _ _ hne]at h3;exact h3
 have only2:∀ y w,I false undef true y w→zq P md ops Q k S (fuel+1) (listed.setIfInBounds i2 true) (a.put (some d2) y) w:=fun y w h =>
  zaj hr2 h1 (hD.set m2) fun K hK=>al1 true y w h K fun x w' h'=>hK _ w' (hS _ _ _ _ _ h') fun _ _=>both x y w' h'
 refine⟨fun y=>⟨fun x w h=>both x y w h,fun w h=>only2 y w h⟩,fun x w h=>(hnext x hD1).2 w h,fun w h=>?_⟩;refine jg hr0 h1 h2 hD (fun K hK=>?_) (fun K hK=>?_)
 · have h3:=al1 false undef w h K fun x w' h'=>by
    rw[ha2];exact hK _ w' (hS _ _ _ _ _ h') fun _ _=>(hnext x hD1).2 w' h'
   rw[ha2]at h3;exact h3
 · have h3:=al2 false undef w h K fun y w' h'=>by
    rw[ha1];exact hK _ w' (hS _ _ _ _ _ h') fun _ _=>only2 y w' h'
   rw[ha1]at h3;exact h3
end
end Go.Proofs.YtppbcopnfankcaaGreat

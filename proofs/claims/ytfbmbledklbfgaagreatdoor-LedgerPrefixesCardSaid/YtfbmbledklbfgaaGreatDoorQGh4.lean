import Derived.Test.YtfbmbledklbfgaaGreatDoorQGh2
set_option linter.unusedVariables false
set_option linter.unusedSimpArgs false
namespace Go.Proofs.YtfbmbledklbfgaaGreatDoor
open Go.RowKit
section
variable {P : Program} {ops : Array Oper} {Q : Exit → Act → World → Prop} {md : Region.Mode} {S : World → Prop} {k : Nat}
theorem ghost2_pure{i1 i2 j:Nat}{oj:Oper}{d1 d2 dj:Tmp}{v:Value}{fuel:Nat}{listed:Array Bool}{a:Act}{I:Bool→Value→Bool→Value→World→Prop}(hj:ops[j]? =some oj)(hdj:oj.dst=some dj)
 (hm1:(Region.ready md ops listed).contains i1=true) (hm2:(Region.ready md ops listed).contains i2=true) (hm3:(Region.ready md ops (listed.setIfInBounds i2 true)).contains i1=true)
 (hs0:stepB md ops listed k j=true) (hs1:stepB md ops (listed.setIfInBounds i1 true) k j=true) (hs2:stepB md ops (listed.setIfInBounds i2 true) k j=true) (hs3:stepB md ops ((listed.setIfInBounds i2 true).setIfInBounds i1 true) k j=true)
 (hQ:∀ c a w,Q (.panic c) (a.put (some dj) v) w→Q (.panic c) a w) (hD:Down md ops listed) (ha1:a.put (some d1) undef=a) (ha2:a.put (some d2) undef=a) (n12:d1≠d2) (n1j:d1≠dj) (n2j:d2≠dj) (h1j:i1≠j) (h2j:i2≠j)
 (hS:∀ b x c y w,I b x c y w→S w) (hy:∀ x y,YieldsIf P ops (fun _=>True) oj v ((a.put (some d2) y).put (some d1) x))
 (h:Down md ops (listed.setIfInBounds j true)→Ghost2 P md ops Q k S i1 i2 d1 d2 fuel (listed.setIfInBounds j true) (a.put (some dj) v) I):Ghost2 P md ops Q k S i1 i2 d1 d2 (fuel+1) listed a I:=by
 have hm2':i2∈Region.ready md ops listed:=by rwa[List.contains_iff_mem]at hm2
 have hDj:=hD.set (stepB_spec hs0).2.2.1;refine⟨fun y=>?_,?_⟩
 · refine ghost_pure hj hdj hm3 hs2 hs3 hQ (hD.set hm2') (by rw[put_comm2 _ _ _ n12.symm,ha1]) n1j h1j (fun b x w h=>hS _ _ _ _ _ h) (fun x=>hy x y) fun _=>?_;have h3:=(h hDj).1 y;rw[put_comm2 _ _ _ n2j,Array.setIfInBounds_comm _ _ h2j];exact h3
 · exact ghost_pure hj hdj hm1 hs0 hs1 hQ hD ha1 n1j h1j (fun b x w h=>hS _ _ _ _ _ h) (fun x=>by have:=hy x undef;rwa[ha2]at this) fun hd=>(h hd).2
end
def tpZ:Array Value:=#[.slice none 0 0,.string ⟨#[]⟩,.int .i64 0]
theorem below_setRowG{B:Nat}{w w':World}(h:Below B w w'){g:Nat}(hg:B≤g)(cs:Array Value):Below B w (w'.setRow g cs):=
 ⟨h.os,h.tape,h.output,by rw[size_setRow];exact h.size,fun k hk=>(setRow_other _ _ _ _ (by omega)).trans (h.block k hk)⟩
def hdZ:Array Value:=#[.int .i64 0,.string ⟨#[]⟩,.string ⟨#[]⟩,.string ⟨#[]⟩]
def GHd(W0:World)(b:Bool)(x:Value)(c:Bool)(y:Value)(w:World):Prop:=
 Below W0.heap.size W0 w∧(b=true→∃ B,x=.pointer (some ⟨B,0,none⟩)∧W0.heap.size≤B∧w.heap[B]? =some (.cells hdZ 37 (0,0)))∧(c=true→∃ B,y=.pointer (some ⟨B,0,none⟩)∧W0.heap.size≤B∧w.heap[B]? =some (.cells tpZ 30 (0,0)))∧(b=true→c=true→x≠y)
theorem GHd.start(W0:World):GHd W0 false undef false undef W0:=⟨Below.refl _ _,(fun h=>by cases h),(fun h=>by cases h),(fun h=>by cases h)⟩
theorem GHd.step{W0 w w':World}{b c:Bool}{x y:Value}(h:GHd W0 b x c y w)(hb:Below w.heap.size w w'):GHd W0 b x c y w':=
 ⟨h.1.trans (hb.mono h.1.size),fun e=>let ⟨B,h1,h2,h3⟩:=h.2.1 e;⟨B,h1,h2,(hb.block _ (block_lt h3)).trans h3⟩,fun e=>let ⟨B,h1,h2,h3⟩:=h.2.2.1 e;⟨B,h1,h2,(hb.block _ (block_lt h3)).trans h3⟩,h.2.2.2⟩
theorem gh_al1{ops:Array Oper}{o:Oper}{a:Act}{Q:Exit→Act→World→Prop}{d1 d2:Tmp}{W0:World}(hg:o.guard=none)(hd:o.dst=some d1)(hop:∀(w:World) (ρ:Operand→Value),(execOp ρ o).run Tryz.prog w=.ok (.value (.pointer (some ⟨w.heap.size,0,none⟩))) (w.alloc (.cells hdZ 37))) :
 ∀ c y w,GHd W0 false undef c y w→∀ K:Act→World→Prop,(∀ x w',GHd W0 true x c y w'→K ((a.put (some d2) y).put (some d1) x) w')→wpList Tryz.prog ops (EndK K Q) [o] (a.put (some d2) y) w:=fun c y w h K hK =>
 Great.wpList_allocTo hg (some d1) hd _ _ (hop w _) (hK _ _ (by
  have hb:Below w.heap.size w (w.alloc (.cells hdZ 37)):=(blr).alloc nlr _;have hs:=h.step hb;refine⟨hs.1,fun _=>⟨w.heap.size,rfl,h.1.size,heap_alloc_new _ _⟩,hs.2.2.1,fun _ e he=>?_⟩;obtain⟨B',h1,_,h3⟩:=h.2.2.1 e;rw[h1]at he;cases he;have:=block_lt h3
  omega))
theorem gh_al2{ops:Array Oper}{o:Oper}{a:Act}{Q:Exit→Act→World→Prop}{d1 d2:Tmp}{W0:World}(hg:o.guard=none)(hd:o.dst=some d2)(hop:∀(w:World) (ρ:Operand→Value),(execOp ρ o).run Tryz.prog w=.ok (.value (.pointer (some ⟨w.heap.size,0,none⟩))) (w.alloc (.cells tpZ 30))) :
 ∀ b x w,GHd W0 b x false undef w→∀ K:Act→World→Prop,(∀ y w',GHd W0 b x true y w'→K ((a.put (some d1) x).put (some d2) y) w')→wpList Tryz.prog ops (EndK K Q) [o] (a.put (some d1) x) w:=fun b x w h K hK =>
 Great.wpList_allocTo hg (some d2) hd _ _ (hop w _) (hK _ _ (by
  have hb:Below w.heap.size w (w.alloc (.cells tpZ 30)):=(blr).alloc nlr _;have hs:=h.step hb;refine⟨hs.1,hs.2.1,fun _=>⟨w.heap.size,rfl,h.1.size,heap_alloc_new _ _⟩,fun e _ he=>?_⟩;obtain⟨B',h1,_,h3⟩:=h.2.1 e;rw[h1]at he;cases he;have:=block_lt h3
  omega))
end Go.Proofs.YtfbmbledklbfgaaGreatDoor

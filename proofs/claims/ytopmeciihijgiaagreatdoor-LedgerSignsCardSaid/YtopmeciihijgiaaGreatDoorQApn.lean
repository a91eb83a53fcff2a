import Derived.Test.YtopmeciihijgiaaGreatDoorQRowN
set_option linter.unusedVariables false
set_option linter.unusedSimpArgs false
namespace Go.Proofs.YtopmeciihijgiaaGreatDoor
open Go.RowKit
theorem wpList_append_none{P:Program}(w:World){ops:Array Oper}{rest:List Oper}{o:Oper}{a:Act}{Q:Exit→Act→World→Prop}(hg:o.guard=none)(s x:Operand)(t:TypeId)(hop:o.op=Op.call { callee:=Callee.builtin Builtin.append,args:=#[s,x],argTypes:=#[t,t] })
 (e:TypeId) (i:TypeInfo) (h1:P.underlying t=some (.slice e)) (h2:P.info? e=some i) (ao:Option Addr) (n cap:Nat) (hs:a.eval s=.slice ao n cap) (hle:n≤cap) (m:Nat) (hx:a.eval x=.slice none 0 m)
 (hK:wpList P ops Q rest (a.put o.dst (.slice ao n cap)) w):wpList P ops Q (o::rest) a w:=by
 refine wpList_plain hg fun K hK'=>?_;have hrun:(Builtin.append_ #[t,t] o.type #[.slice ao n cap,.slice none 0 m]).run P w=.ok (.slice ao n cap) w:=by
  cases ao<;>simp[Builtin.append_,run_underlying h1,sizeOf,typeInfo,h2,hle,storeCells,go_sem]
 unfold Oper.wp;simp[execOp,hop,resolve,invoke,builtin,hs,hx,hrun,Result.andThen];exact hK' _ _ hK
theorem wpList_append_sl(w0 w:World){ops:Array Oper}{rest:List Oper}{o:Oper}{a:Act}{Q:Exit→Act→World→Prop}(hg:o.guard=none)(s x:Operand)(hop:o.op=Op.call { callee:=Callee.builtin Builtin.append,args:=#[s,x],argTypes:=#[28,28] })
 (base:Nat) (v:Value) (n:Nat) (xs:List ByteArray) (hs:a.eval s=v) (hown:w.ownsRow base 22 1 v n (xs.map Value.string)) (A:Option Addr) (m c:Nat) (l:List ByteArray) (hx:a.eval x=.slice A m c) (hsl:SlN w A m c l) (hn:n+m≤4000000) (hb:Below base w0 w) (hbase:base≤w.heap.size)
 (hK:∀ v' w',w'.ownsRow base 22 1 v' (n+m) ((xs++l).map Value.string)→Below base w0 w'→base≤w'.heap.size→wpList Tryz.prog ops Q rest (a.put o.dst v') w'):wpList Tryz.prog ops Q (o::rest) a w:=by
 obtain⟨i0,hi,iz0,iz1,iz2⟩:=info_parts nat_info
 cases A with
 | none =>
  have h0:m=0:=by
   rcases Nat.eq_zero_or_pos m with h | h
   · exact h
   · obtain⟨b,o,e⟩:=hsl.head h;cases e
  have hl:l=[]:=List.length_eq_zero_iff.1 (by rw[hsl.1,h0]);subst h0 hl;obtain⟨A6,c6,hu6,hmc⟩:∃ A c,v=.slice A n c∧n≤c:=by
   rcases hown.2 with⟨h,h0⟩ | ⟨g,c,_,h,_,_,h2,_⟩
   · subst h0;exact⟨_,_,h,Nat.le_refl _⟩
   · exact⟨_,_,h,h2⟩
  refine wpList_append_none w hg s x 28 hop 22 i0 Tryz.underlying28 hi A6 n c6 (hs.trans hu6) hmc c hx ?_;have:=hK v w (by simpa using hown) hb hbase;rwa[hu6]at this
 | some ad =>
  refine wpList_append_own w hg s x 28 hop base 22 i0 _ 1 16 Tryz.underlying28 hi iz0 iz1 iz2 rfl (by decide) v n _ hs hown ad m c (l.map Value.string) hx (by rw[List.length_map,hsl.1,Nat.mul_one]) hsl.cells (strs_one _) (by unfold maxLen;omega) (by omega) hbase ?_;intro v' w' hown' hgrow _;have hb':=hb.grown hgrow hbase (fun k hk=>(hown.lt k hk).1);exact hK v' w' (by rw[List.map_append];exact hown') hb' (Nat.le_trans hbase hgrow.size)
end Go.Proofs.YtopmeciihijgiaaGreatDoor

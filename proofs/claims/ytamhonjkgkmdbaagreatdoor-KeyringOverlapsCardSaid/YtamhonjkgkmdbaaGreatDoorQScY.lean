import Derived.Test.YtamhonjkgkmdbaaGreatDoorQOpK
import Derived.OpenShut
import Derived.Test.YtamhonjkgkmdbaaGreatDoorQCoF
import Derived.Stop.LaidErr
import Derived.Deep.Slices
import Derived.MakeChecks
import Derived.Test.YtamhonjkgkmdbaaGreatDoorRows
import Derived.Test.YtamhonjkgkmdbaaGreatDoorQKyW
import Derived.Test.YtamhonjkgkmdbaaGreatDoorQScV
import Derived.Test.YtamhonjkgkmdbaaGreatDoorQScG
import Derived.Test.YtamhonjkgkmdbaaGreatDoorQScB
import Derived.Test.YtamhonjkgkmdbaaGreatDoorQPeB
import Derived.Test.YtamhonjkgkmdbaaGreatDoorQLdB
import Derived.Test.YtamhonjkgkmdbaaGreatDoorQTim
import Derived.Laws.Concat
import Derived.Test.YtamhonjkgkmdbaaGreatDoorQCoG
import Derived.Test.YtamhonjkgkmdbaaGreatDoorQExp
import Derived.Lib.ItoaNum
import Derived.Test.YtamhonjkgkmdbaaGreatDoorQNatA
import Derived.Test.YtamhonjkgkmdbaaGreatDoorQCoI
import Derived.Test.YtamhonjkgkmdbaaGreatDoorQRowN
import Derived.Laws.AppendOwn
import Derived.Deep.AppendLies
import Derived.Test.YtamhonjkgkmdbaaGreatDoorQPeP
import Derived.Test.YtamhonjkgkmdbaaGreatDoorQPeEA
import Derived.Test.YtamhonjkgkmdbaaGreatDoorQPeL
import Derived.Test.YtamhonjkgkmdbaaGreatDoorQLdF
import Derived.Test.YtamhonjkgkmdbaaGreatDoorQBld
import Derived.Great.Walk
import Derived.Deep.Cut
set_option linter.unusedVariables false
set_option linter.unusedSimpArgs false
namespace Go.Proofs.YtamhonjkgkmdbaaGreatDoor
set_option maxRecDepth 100000
open Go.ChangeShapes Go.WideShapes Go.ChangeAt Go.Deep Go.Joins Go.RowKit
theorem okWide_arr{P:Program}{w:World}{r:Reach}{base:Nat}{t:TypeId}{v:Value}{n:Nat}{e:TypeId}(ht:P.underlying t=some (.array n e))(h:Value.okWide P w r base t v):∃ cs,v=.agg cs∧cs.size=P.cellsOf t:=by
 simp only[Value.okWide,ht]at h;obtain⟨cs,h1,h2,_⟩:=h;exact⟨cs,h1,h2⟩
theorem open_two{H:Type}{enc:TypeId×Value→H}{W:World}{held:Bool}{r:Reach}{b0:Nat}{v:Value}{d:DataW H}{p:List MemPlace}(hv:Value.okWide Tryz.prog W r b0 53 v)(h:DataW.Trod enc Tryz.prog W 0 (fun _=>true) held 53 v d p):∃ x y:Int,v=.agg #[.int .i64 x,.int .i64 y]:=by
 obtain⟨cs,rfl,hsz⟩:=okWide_arr Tryz.underlying53 hv;have hsz:cs.toList.length=2:=hsz.trans (show Tryz.prog.cellsOf 53=2 from by kernel_rfl);obtain⟨c0,c1,hcs⟩:∃ c0 c1,cs.toList=[c0,c1]:=by
  match hc:cs.toList,hsz with
  | [c0,c1],_=>exact⟨c0,c1,rfl⟩
 obtain⟨fuel,hf⟩:=h;have hf:DataW.trod enc Tryz.prog W 0 (fun _=>true) held fuel 53 cs.toList=some (d,p):=hf;rw[hcs]at hf;obtain⟨xs,m,_,_,_,hl,hel⟩:=DataW.trod_array Tryz.underlying53 hf;have cI:Tryz.prog.cellsOf 3=1:=by kernel_rfl
 have h0:=hel 0 (by omega);have h1:=hel 1 (by omega);rw[cI]at h0 h1;rw[List.getElem?_eq_getElem (by omega)]at h0 h1;have h0:DataW.trod enc Tryz.prog W 0 (fun _=>true) held m 3 [c0]=some xs[0]:=h0;have h1:DataW.trod enc Tryz.prog W 0 (fun _=>true) held m 3 [c1]=some xs[1]:=h1;obtain⟨v0,e0,_,_⟩:=DataW.trod_int Tryz.underlying3 h0;obtain⟨v1,e1,_,_⟩:=DataW.trod_int Tryz.underlying3 h1;simp only[List.cons.injEq,and_true]at e0 e1;subst e0 e1;refine⟨v0,v1,?_⟩;rw[show cs=cs.toList.toArray from by simp,hcs]
theorem laid_pow:(Rows.laid_internal_strconv_uint64pow10:DataW Unit)=Lib.tabData .u64 Lib.pow10Tab:=by kernel_rfl
theorem t10_of {a b : String × DataW Unit} {W : World} {nm : String} (hnm : Tryz.prog.globalNamed nm = Tryz.prog.globalNamed "internal/strconv.uint64pow10") (h : laidMet Tryz.prog [a, b, (nm, Rows.laid_internal_strconv_uint64pow10)] W) : T10 W := by
 have h2 := laidMet.tail (laidMet.tail h);rw [laid_pow] at h2;have hs : (Tryz.prog.globalNamed "internal/strconv.uint64pow10").isSome = true := by kernel_rfl
 obtain⟨g,hg⟩:=Option.isSome_iff_exists.1 hs;have h3:Lib.TabIs Tryz.prog W nm .u64 Lib.pow10Tab:=by
  refine Lib.tabIs_of_head (t := 233) (e := 111) (n := 20) (hnm.trans hg) ?_ Tryz.underlying233 Tryz.underlying111 (by kernel_rfl) (by kernel_rfl) h2;have : g = (Tryz.prog.globalNamed "internal/strconv.uint64pow10").getD 0 := by rw [hg]; rfl
  rw[this];show _=_;kernel_rfl
 unfold T10 Lib.TabIs World.var? at *;rw[←hnm];exact h3
open Go.RowKit
theorem load_rowG{P:Program}{ops:Array Oper}{rest:List Oper}{o:Oper}{a:Act}{w:World}{Q:Exit→Act→World→Prop}(hw:Region.wanted o (yielded ops a.tmps)=true)(ty:TypeId)(x:Operand)(ho:o.op=.load ty x)
 (g:Nat) (hx:a.eval x=.pointer (some ⟨g,0,none⟩)) (t:TypeId) (cs:Array Value) (fr:Nat×Nat) (d:TypeDesc) (hg:w.heap[g]? =some (.cells cs t fr))
 (hu:P.underlying ty=some d) (hd:(match d with | .struct _ | .array _ _=>true | _=>false)=true) (hi:(P.info? ty).map (·.size)=some cs.size)
 (h:wpList P ops Q rest (a.put o.dst (.agg cs)) w):wpList P ops Q (o::rest) a w:=
 wpList_step fun K hK=>by
  rw[if_pos hw];exact wp_load_row ty x ho g hx t cs fr d hg hu hd hi (hK _ _ h)
theorem load_rowR{P:Program}{op:Oper}{a:Act}{w:World}(ty:TypeId)(x:Operand)(ho:op.op=.load ty x)(g:Nat)(hx:a.eval x=.pointer (some ⟨g,0,none⟩))(t:TypeId)(cs:Array Value)(fr:Nat×Nat)(d:TypeDesc)(hg:w.heap[g]? =some (.cells cs t fr))
 (hu:P.underlying ty=some d) (hd:(match d with | .struct _ | .array _ _=>true | _=>false)=true) (hi:(P.info? ty).map (·.size)=some cs.size):(execOp a.eval op).run P w=.ok (.value (.agg cs)) w:=by
 unfold execOp;simp only[ho,hx,Instr.loadAt,Instr.sureAddr,Sem.run_bind,Sem.run_pure,Result.andThen_ok,run_loadVar_row w g t ty cs fr d hg hu hd hi]
open Go.RowKit Go.Lib
theorem cm_sign{m q g y x n c i:Nat}(hu:Un m g i)(hp:g ^ q%m=1)(hyx:g ^ x%m=y)(hc:c<q):cmS m q g y c ((c * x%q+n)%q)=g ^ n%m:=by
 have hy:y=pz m g (x:Int):=by rw[pz_nat,hyx]
 obtain⟨j,hj⟩:=pz_un hu (x:Int);have hpy:y ^ q%m=1:=(by rw[hy,←pz_nat,pz_pow hu,Int.mul_comm,←pz_pow hu,show pz m g (q:Int)=1 from by rw[pz_nat,hp],pz_base1 hu.hm]);rw[←cmS_pz (hy▸hj) hpy hc,hy,pz_pow hu,←pz_add hu,←pz_red hu hp];have e:((((c * x%q+n)%q:Nat):Int)+(x:Int) * -(c:Int))%(q:Int)=(n:Int)%(q:Int):=(by rw[Int.natCast_emod,Int.emod_add_emod,Int.natCast_add,Int.natCast_emod,Int.add_assoc,Int.emod_add_emod,Int.natCast_mul];congr 1;rw[Int.mul_neg,Int.mul_comm];omega);rw[e,pz_red hu hp,pz_nat]
theorem sg_ok{M O G Y X msg:ByteArray}{l:List ByteArray}{s:ByteArray}{k:Int}(h:(sgN M O G Y X msg l s k).2.2=0) :
 ∃ nn,scK M O G Y=0∧(0<num X∧num X<num O∧num G ^ num X%num M=num Y)∧nn<num O∧∀ msg',sgN M O G Y X msg' l s k=(chS M O G Y (num G ^ nn%num M) msg',(chS M O G Y (num G ^ nn%num M) msg' * num X%num O+nn)%num O,0):=by
 unfold sgN at *;split at h
 · rename_i h1;split at h
   · rename_i h2;split at h
     · rename_i h3;split at h
       · rename_i h4;exact⟨(coN l s k O).1,h1,of_decide_eq_true h3,coN_lt h4,fun msg'=>by rw[if_pos h1,if_pos h2,if_pos h3,if_pos h4]⟩
       · rename_i h4;exact absurd h h4
     · cases h
   · cases h
 · rename_i h1;exact absurd h h1
theorem ve_sign{M O G Y X:ByteArray}{nn c:Nat}(hM:M.size≤8)(hk:scK M O G Y=0)(hs:num G ^ num X%num M=num Y)(hc:c<num O)(other:ByteArray) :
 veK M O G Y (nS c) (nS ((c * num X%num O+nn)%num O)) other=if chS M O G Y (num G ^ nn%num M) other=c then 0 else 19:=by
 obtain⟨hv4,hck,hz,hgg,hy⟩:=scK_ok hk;have h8:=chk_small hv4 hM hck;have lO:=num_small h8;have hgp:=genK_parts hgg;obtain⟨i,hu⟩:=has_un (chkK_parts hck).2.2 hgp.1;have hr:(c * num X%num O+nn)%num O<num O:=Nat.mod_lt _ (by omega);have v1:nvalid (nS c)=true:=nvalid_nS.2 (lt128_of_lt8 (by omega));have v2:nvalid (nS ((c * num X%num O+nn)%num O))=true:=nvalid_nS.2 (lt128_of_lt8 (by omega));unfold veK veB;rw[if_pos hk,v1,v2,if_pos (by rfl),num_nS,num_nS,decide_eq_true hc,decide_eq_true hr,cm_sign hu (has_ord (by omega) hgp.1) hs hc,Bool.true_and,Bool.true_and];simp only[decide_eq_true_eq]
end Go.Proofs.YtamhonjkgkmdbaaGreatDoor

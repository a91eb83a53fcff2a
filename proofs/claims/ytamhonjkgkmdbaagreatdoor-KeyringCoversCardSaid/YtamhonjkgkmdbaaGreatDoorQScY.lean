import Derived.Test.YtamhonjkgkmdbaaGreatDoorQKyZ
import Derived.Test.YtamhonjkgkmdbaaGreatDoorQCoF
import Derived.Stop.LaidErr
import Derived.Deep.Slices
import Derived.MakeChecks
import Derived.Test.YtamhonjkgkmdbaaGreatDoorRows
import Derived.Test.YtamhonjkgkmdbaaGreatDoorQOpK
import Derived.Test.YtamhonjkgkmdbaaGreatDoorQKyW
import Derived.Test.YtamhonjkgkmdbaaGreatDoorQScV
import Derived.Test.YtamhonjkgkmdbaaGreatDoorQScG
import Derived.Test.YtamhonjkgkmdbaaGreatDoorQScB
import Derived.Test.YtamhonjkgkmdbaaGreatDoorQPeB
import Derived.Test.YtamhonjkgkmdbaaGreatDoorQLdB
import Derived.Test.YtamhonjkgkmdbaaGreatDoorQTim
import Derived.Laws.Concat
import Derived.Test.YtamhonjkgkmdbaaGreatDoorQCoG
import Derived.Test.YtamhonjkgkmdbaaGreatDoorQExp
import Derived.Lib.ItoaNum
import Derived.Test.YtamhonjkgkmdbaaGreatDoorQNatA
import Derived.Test.YtamhonjkgkmdbaaGreatDoorQCoI
import Derived.Test.YtamhonjkgkmdbaaGreatDoorQRowN
import Derived.Laws.AppendOwn
import Derived.Deep.AppendLies
import Derived.Test.YtamhonjkgkmdbaaGreatDoorQPeP
import Derived.Test.YtamhonjkgkmdbaaGreatDoorQPeEA
import Derived.Test.YtamhonjkgkmdbaaGreatDoorQPeL
import Derived.Test.YtamhonjkgkmdbaaGreatDoorQLdF
import Derived.Test.YtamhonjkgkmdbaaGreatDoorQBld
import Derived.Great.Walk
import Derived.Deep.Cut
set_option linter.unusedVariables false
set_option linter.unusedSimpArgs false
namespace Go.Proofs.YtamhonjkgkmdbaaGreatDoor
set_option maxRecDepth 100000
open Go.ChangeShapes Go.WideShapes Go.ChangeAt Go.Deep Go.Joins Go.RowKit
def SlPl(w:World)(A:Option Addr)(len cap:Nat)(l:List (Int×Int)):Prop:=
 l.length=len∧len≤cap∧cap≤9223372036854775807∧∃ b o,(0<len→A=some ⟨b,o,none⟩)∧∀(k:Nat) p,l[k]? =some p→w.cell? ⟨b,o+k * 2,none⟩=some (.int .u8 p.1)∧w.cell? ⟨b,o+k * 2+1,none⟩=some (.int .u8 p.2)∧0≤p.1∧p.1≤255∧0≤p.2∧p.2≤255
theorem SlPl.kept{B:Nat}{w w':World}{A:Option Addr}{len cap:Nat}{l:List (Int×Int)}(h:SlPl w A len cap l)(hb:Below B w w')(hB:w.heap.size≤B):SlPl w' A len cap l:=
 let ⟨h1,h2,h3,b,o,h4,h5⟩:=h
 ⟨h1,h2,h3,b,o,h4,fun k p hk=>let ⟨g1,g2,g3⟩:=h5 k p hk;⟨cell_kept hb hB g1,cell_kept hb hB g2,g3⟩⟩
section
variable {H : Type} {enc : TypeId × Value → H} {W : World} {held : Bool}
theorem wf_u8{k:Int}(w:(Lit.int .u8 k).wf=true):0≤k∧k≤255:=by
 have h1:IntKind.u8.min=0:=rfl;have h2:IntKind.u8.max=255:=rfl;simp[Lit.wf,h1,h2]at w;exact w
theorem open_plans{a:Option Addr}{len cap fuel:Nat}{x:DataW H×List MemPlace}(h:DataW.trod enc Tryz.prog W 0 (fun _=>true) held fuel 36 (Value.cells (.slice a len cap)).toList=some x):∃ l,SlPl W a len cap l:=by
 have hC:Tryz.prog.cellsOf 42=2:=by kernel_rfl
 rcases open_slice Tryz.underlying36 h with⟨hcs,_⟩ | ⟨ad,len',cap',m,n,D,Pl,hcs,hb,hl,hm,hmm,hx,hi⟩
 · simp[Value.cells]at hcs;obtain⟨rfl,rfl,rfl⟩:=hcs;exact⟨[],rfl,Nat.le_refl _,Nat.zero_le _,0,0,fun h=>absurd h (Nat.lt_irrefl _),fun k p h=>by simp at h⟩
 · simp[Value.cells]at hcs;obtain⟨rfl,rfl,rfl⟩:=hcs;have hq:∀ i,i<len→∃ p:Int×Int,W.cell? (ad.add (i * 2))=some (.int .u8 p.1)∧W.cell? (ad.add (i * 2+1))=some (.int .u8 p.2)∧0≤p.1∧p.1≤255∧0≤p.2∧p.2≤255:=fun i hi'=>by
    obtain⟨cs',hc,ht'⟩:=hi i (by rw[hmm];simp;omega);have hl2:=trod_len Tryz.underlying42 ht';rw[hC]at hl2;obtain⟨c0,c1,hcs'⟩:∃ c0 c1,cs'=[c0,c1]:=by
     match cs',hl2 with
     | [c0,c1],_=>exact⟨c0,c1,rfl⟩
    subst hcs';obtain⟨na,ya,ga⟩:=trod_at Tryz.underlying42 ht' 0 _ rfl 1 (by kernel_rfl);have ga:DataW.trod enc Tryz.prog W 0 (fun _=>true) held na 5 [c0]=some ya:=ga;obtain⟨nb,yb,gb⟩:=trod_at Tryz.underlying42 ht' 1 _ rfl 1 (by kernel_rfl);have gb:DataW.trod enc Tryz.prog W 0 (fun _=>true) held nb 5 [c1]=some yb:=gb;obtain⟨v0,e0,_,w0⟩:=DataW.trod_int Tryz.underlying5 ga;obtain⟨v1,e1,_,w1⟩:=DataW.trod_int Tryz.underlying5 gb;simp only[List.cons.injEq,and_true]at e0 e1;subst e0 e1;rw[hC]at hc;obtain⟨_,hcl,hat⟩:=World.cells?_some hc;have h0:=hat 0 (by omega);have h1:=hat 1 (by omega);rw[Go.Deep.add_add]at h0 h1;exact⟨(v0,v1),h0,h1,(wf_u8 w0).1,(wf_u8 w0).2,(wf_u8 w1).1,(wf_u8 w1).2⟩
   obtain⟨l,hll,hq⟩:=list_of len hq;refine⟨l,hll,hl,by unfold maxLen at hm;exact hm,?_⟩;rcases Nat.eq_zero_or_pos len with h0 | h0
   · exact⟨0,0,fun h=>by omega,fun k e hk=>by have:=(List.getElem?_eq_some_iff.1 hk).1;omega⟩
   · obtain⟨b,off,spot⟩:=ad;obtain⟨v,hv⟩:∃ v,l[0]? =some v:=⟨_,List.getElem?_eq_getElem (by omega)⟩;have h1:=(hq 0 v hv).1;have hspot:spot=none:=by simpa[Addr.add]using World.cell?_spot h1
     subst hspot;refine⟨b,off,fun _=>rfl,fun k e hk=>?_⟩;obtain⟨g1,g2,g3⟩:=hq k e hk;rw[addr_add]at g1 g2;exact⟨g1,g2,g3⟩
end
theorem laid_pow:(Rows.laid_internal_strconv_uint64pow10:DataW Unit)=Lib.tabData .u64 Lib.pow10Tab:=by kernel_rfl
theorem t10_of {a b : String × DataW Unit} {W : World} {nm : String} (hnm : Tryz.prog.globalNamed nm = Tryz.prog.globalNamed "internal/strconv.uint64pow10") (h : laidMet Tryz.prog [a, b, (nm, Rows.laid_internal_strconv_uint64pow10)] W) : T10 W := by
 have h2 := laidMet.tail (laidMet.tail h);rw [laid_pow] at h2;have hs : (Tryz.prog.globalNamed "internal/strconv.uint64pow10").isSome = true := by kernel_rfl
 obtain⟨g,hg⟩:=Option.isSome_iff_exists.1 hs;have h3:Lib.TabIs Tryz.prog W nm .u64 Lib.pow10Tab:=by
  refine Lib.tabIs_of_head (t := 233) (e := 111) (n := 20) (hnm.trans hg) ?_ Tryz.underlying233 Tryz.underlying111 (by kernel_rfl) (by kernel_rfl) h2;have : g = (Tryz.prog.globalNamed "internal/strconv.uint64pow10").getD 0 := by rw [hg]; rfl
  rw[this];show _=_;kernel_rfl
 unfold T10 Lib.TabIs World.var? at *;rw[←hnm];exact h3
open Go.RowKit
theorem load_rowG{P:Program}{ops:Array Oper}{rest:List Oper}{o:Oper}{a:Act}{w:World}{Q:Exit→Act→World→Prop}(hw:Region.wanted o (yielded ops a.tmps)=true)(ty:TypeId)(x:Operand)(ho:o.op=.load ty x)
 (g:Nat) (hx:a.eval x=.pointer (some ⟨g,0,none⟩)) (t:TypeId) (cs:Array Value) (fr:Nat×Nat) (d:TypeDesc) (hg:w.heap[g]? =some (.cells cs t fr))
 (hu:P.underlying ty=some d) (hd:(match d with | .struct _ | .array _ _=>true | _=>false)=true) (hi:(P.info? ty).map (·.size)=some cs.size)
 (h:wpList P ops Q rest (a.put o.dst (.agg cs)) w):wpList P ops Q (o::rest) a w:=
 wpList_step fun K hK=>by
  rw[if_pos hw];exact wp_load_row ty x ho g hx t cs fr d hg hu hd hi (hK _ _ h)
theorem load_rowR{P:Program}{op:Oper}{a:Act}{w:World}(ty:TypeId)(x:Operand)(ho:op.op=.load ty x)(g:Nat)(hx:a.eval x=.pointer (some ⟨g,0,none⟩))(t:TypeId)(cs:Array Value)(fr:Nat×Nat)(d:TypeDesc)(hg:w.heap[g]? =some (.cells cs t fr))
 (hu:P.underlying ty=some d) (hd:(match d with | .struct _ | .array _ _=>true | _=>false)=true) (hi:(P.info? ty).map (·.size)=some cs.size):(execOp a.eval op).run P w=.ok (.value (.agg cs)) w:=by
 unfold execOp;simp only[ho,hx,Instr.loadAt,Instr.sureAddr,Sem.run_bind,Sem.run_pure,Result.andThen_ok,run_loadVar_row w g t ty cs fr d hg hu hd hi]
theorem fewV_open{v:Ver}(h:fewV v=true):v.kr.length≤6∧v.sc.size≤9∧v.sr.size≤9:=by
 unfold fewV fewKeyB shortB at h;simp only[Bool.and_eq_true,decide_eq_true_eq,List.all_cons,List.all_nil]at h;exact⟨h.2.1.2.2.1,h.2.2.2.2.2.2.1,h.2.2.2.2.2.2.2.1⟩
open Go.RowKit Go.Lib
theorem cm_sign{m q g y x n c i:Nat}(hu:Un m g i)(hp:g ^ q%m=1)(hyx:g ^ x%m=y)(hc:c<q):cmS m q g y c ((c * x%q+n)%q)=g ^ n%m:=by
 have hy:y=pz m g (x:Int):=by rw[pz_nat,hyx]
 obtain⟨j,hj⟩:=pz_un hu (x:Int);have hpy:y ^ q%m=1:=(by rw[hy,←pz_nat,pz_pow hu,Int.mul_comm,←pz_pow hu,show pz m g (q:Int)=1 from by rw[pz_nat,hp],pz_base1 hu.hm]);rw[←cmS_pz (hy▸hj) hpy hc,hy,pz_pow hu,←pz_add hu,←pz_red hu hp];have e:((((c * x%q+n)%q:Nat):Int)+(x:Int) * -(c:Int))%(q:Int)=(n:Int)%(q:Int):=(by rw[Int.natCast_emod,Int.emod_add_emod,Int.natCast_add,Int.natCast_emod,Int.add_assoc,Int.emod_add_emod,Int.natCast_mul];congr 1;rw[Int.mul_neg,Int.mul_comm];omega);rw[e,pz_red hu hp,pz_nat]
theorem sg_ok{M O G Y X msg:ByteArray}{l:List ByteArray}{s:ByteArray}{k:Int}(h:(sgN M O G Y X msg l s k).2.2=0) :
 ∃ nn,scK M O G Y=0∧(0<num X∧num X<num O∧num G ^ num X%num M=num Y)∧nn<num O∧∀ msg',sgN M O G Y X msg' l s k=(chS M O G Y (num G ^ nn%num M) msg',(chS M O G Y (num G ^ nn%num M) msg' * num X%num O+nn)%num O,0):=by
 unfold sgN at *;split at h
 · rename_i h1;split at h
   · rename_i h2;split at h
     · rename_i h3;split at h
       · rename_i h4;exact⟨(coN l s k O).1,h1,of_decide_eq_true h3,coN_lt h4,fun msg'=>by rw[if_pos h1,if_pos h2,if_pos h3,if_pos h4]⟩
       · rename_i h4;exact absurd h h4
     · cases h
   · cases h
 · rename_i h1;exact absurd h h1
theorem ve_sign{M O G Y X:ByteArray}{nn c:Nat}(hM:M.size≤8)(hk:scK M O G Y=0)(hs:num G ^ num X%num M=num Y)(hc:c<num O)(other:ByteArray) :
 veK M O G Y (nS c) (nS ((c * num X%num O+nn)%num O)) other=if chS M O G Y (num G ^ nn%num M) other=c then 0 else 19:=by
 obtain⟨hv4,hck,hz,hgg,hy⟩:=scK_ok hk;have h8:=chk_small hv4 hM hck;have lO:=num_small h8;have hgp:=genK_parts hgg;obtain⟨i,hu⟩:=has_un (chkK_parts hck).2.2 hgp.1;have hr:(c * num X%num O+nn)%num O<num O:=Nat.mod_lt _ (by omega);have v1:nvalid (nS c)=true:=nvalid_nS.2 (lt128_of_lt8 (by omega));have v2:nvalid (nS ((c * num X%num O+nn)%num O))=true:=nvalid_nS.2 (lt128_of_lt8 (by omega));unfold veK veB;rw[if_pos hk,v1,v2,if_pos (by rfl),num_nS,num_nS,decide_eq_true hc,decide_eq_true hr,cm_sign hu (has_ord (by omega) hgp.1) hs hc,Bool.true_and,Bool.true_and];simp only[decide_eq_true_eq]
end Go.Proofs.YtamhonjkgkmdbaaGreatDoor

import Derived.Test.YtkfgdcgmlobhfaaGreatQExt
set_option linter.unusedVariables false
set_option linter.unusedSimpArgs false
namespace Go.Proofs.YtkfgdcgmlobhfaaGreat
theorem zmn{a q m:Nat}(h:a ^ q%m=1)(hq:0<q):Nat.gcd a m=1:=by
 have h1:Nat.gcd a m ∣ a ^ q:=(by obtain⟨r,rfl⟩:∃ r,q=r+1:=⟨q - 1,by omega⟩;rw[Nat.pow_succ];exact Nat.dvd_trans (Nat.gcd_dvd_left a m) (Nat.dvd_mul_left _ _));have h2:Nat.gcd a m ∣ m * (a ^ q / m):=Nat.dvd_trans (Nat.gcd_dvd_right a m) (Nat.dvd_mul_right _ _);have h3:=Nat.div_add_mod (a ^ q) m;rw[h]at h3;rw[←h3]at h1;exact Nat.dvd_one.1 ((Nat.dvd_add_right h2).1 h1)
theorem zky{a m:Nat}{x y:Int}(hx:0≤x)(h:(a:Int) * x+m * y=1)(hm:1<m):a * x.natAbs%m=1:=by
 have e:((a * x.natAbs:Nat):Int)=1+m * (-y):=(by rw[Int.natCast_mul,Int.natAbs_of_nonneg hx,Int.mul_neg];omega);have e2:((a * x.natAbs%m:Nat):Int)=1:=(by rw[Int.natCast_emod,e,Int.add_mul_emod_self_left];exact Int.emod_eq_of_lt (by omega) (by omega));omega
theorem zq3{a m x:Nat}(h:a * x%m=1):a * (x%m)%m=1:=by rw[Nat.mul_mod,Nat.mod_mod,←Nat.mul_mod,h]
theorem zop{e:Int}{q:Nat}(he:0≤e):(e%q).toNat=e.natAbs%q:=by
 have : e=(e.natAbs:Int):=by omega
 conv=>lhs;rw[this]
 omega
open Go.RowKit
def RetE(a b:Nat)(w:World)(e:Ending)(w':World):Prop:=∃ x y:Int,e=.returned (.tuple #[.string (nS (Nat.gcd a b)),intV x,intV y,.int .i64 0])∧Below w.heap.size w w'∧0≤x∧x.natAbs<18446744073709551616∧(a:Int) * x+b * y=Nat.gcd a b
def EIB(W:World)(B:Nat)(x y:Int):Prop:=Bx4 W B (.bool (decide (x<0))) (.string (nS x.natAbs)) (.bool (decide (y<0))) (.string (nS y.natAbs)) 157
def msr(W:World)(B:Nat):Nat:=match W.cell? ⟨B,1,none⟩with
 | some (.string s)=>num s
 | _=>0
theorem zpc{W:World}{B n:Nat}{x:Value}{T:TypeId}(h:Bx2 W B x (.string (nS n)) T):msr W B=n:=by
 unfold msr;rw[h.c1];exact qc n
def Off2(B:Nat)(W W':World):Prop:=∀ k,k≠B→k≠B+1→W'.heap[k]? =W.heap[k]?
theorem Off2.refl(B:Nat)(W:World):Off2 B W W:=fun _ _ _=>rfl
theorem Off2.cell{B:Nat}{W W':World}(h:Off2 B W W'){p:Addr}{v:Value}(h1:p.block≠B)(h2:p.block≠B+1)(hc:W.cell? p=some v):W'.cell? p=some v:=(World.cell?_of_block (h _ h1 h2)).trans hc
theorem Off2.set{B:Nat}{W W':World}(h:Off2 B W W'){C k:Nat}(hC:C=B∨C=B+1)(v:Value):Off2 B W (W'.setCell ⟨C,k,none⟩ v):=fun j h1 h2=>(heap_setCell_other _ _ _ _ (by rcases hC with e | e<;>(simp only;omega))).trans (h j h1 h2)
theorem Bx4.set2{W:World}{B:Nat}{x y z u a b:Value}{T:TypeId}(h:Bx4 W B x y z u T):Bx4 ((W.setCell ⟨B,0,none⟩ a).setCell ⟨B,1,none⟩ b) B a b z u T:=zv (zv h a) b
end Go.Proofs.YtkfgdcgmlobhfaaGreat

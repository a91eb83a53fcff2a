import Derived.Test.YtppbcopnfankcaaGreatQPeH
set_option linter.unusedVariables false
set_option linter.unusedSimpArgs false
namespace Go.Proofs.YtppbcopnfankcaaGreat
open Go.RowKit
theorem zzf{a b:Nat}{x y:Int}(hb:1<b)(h:(a:Int) * x+b * y=1):a * (x%b).toNat%b=1:=by
 have h0:0≤x%(b:Int):=Int.emod_nonneg _ (by omega);have e1:((a * (x%b).toNat%b:Nat):Int)=1:=by
  rw[Int.natCast_emod,Int.natCast_mul,Int.toNat_of_nonneg h0,Int.mul_emod,Int.emod_emod,←Int.mul_emod];have e2:(a:Int) * x=1+b * (-y):=by rw[Int.mul_neg];omega
  rw[e2,Int.add_mul_emod_self_left];exact Int.emod_eq_of_lt (by omega) (by omega)
 omega
def kV(M O G H:ByteArray):Value:=.agg #[.string M,.string O,.string G,.string H]
def kF(M O G H:ByteArray):Bool:=zc M&&zc O&&zc G&&zc H
theorem zo6(w:World)(b1 b2:Bool)(s1 s2:ByteArray)(T:TypeId):SlZ (w.alloc (.cells #[.bool b1,.string s1,.bool b2,.string s2] T)) (some ⟨w.heap.size,0,none⟩) 2 2 [(b1,s1),(b2,s2)]:=by
 have h:=Bx4.new w (.bool b1) (.string s1) (.bool b2) (.string s2) T;obtain⟨c0,c1,c2,c3⟩:=h.cells;refine⟨rfl,Nat.le_refl _,by omega,w.heap.size,0,fun _=>rfl,fun k z hk=>?_⟩
 match k,hk with
 | 0,hk=>cases hk;exact⟨c0,c1⟩
 | 1,hk=>cases hk;exact⟨c2,c3⟩
theorem zdb{z:Int}(h:z.natAbs<256 ^ 128):jz (decide (z<0)) (nS z.natAbs)=true:=by
 unfold jz;rw[zj.2 h,Bool.true_and];by_cases hz:z<0
 · rw[zx (by omega),Bool.and_false];rfl
 · rw[decide_eq_false hz];rfl
set_option maxRecDepth 100000
set_option maxHeartbeats 2000000
theorem zo7(w:World)(b1:Bool)(s1:ByteArray)(T:TypeId):SlZ (w.alloc (.cells #[.bool b1,.string s1] T)) (some ⟨w.heap.size,0,none⟩) 1 1 [(b1,s1)]:=by
 have h:=Bx2.new w (.bool b1) (.string s1) T;refine⟨rfl,Nat.le_refl _,by omega,w.heap.size,0,fun _=>rfl,fun k z hk=>?_⟩
 match k,hk with
 | 0,hk=>cases hk;exact⟨h.c0,h.c1⟩
theorem zyl(M O x:ByteArray)(bb:Bool)(bt:ByteArray)(hM:M.size≤8)(hO:O.size≤8)(hx:x.size≤1000)(hb:bt.size≤1000)(w:World):Calls Tryz.prog 131 #[gV M O,.string x,zV bb bt] w (Ret (prR M O [x] [(bb,bt)]) w):=by
 have HPR:=Hq (fun(A B:Option Addr) (w:World) (hl:SlN w A 1 1 [x]) (hz:SlZ w B 1 1 [(bb,bt)])=>zhm M O [x] [(bb,bt)] A B 1 1 1 1 hM hO (by intro s hs;simp only[List.mem_cons,List.mem_nil_iff,or_false]at hs;subst hs;exact hx) (by intro z hz;simp only[List.mem_cons,List.mem_nil_iff,or_false]at hz;subst hz;exact hb) (by omega) (by omega) w hl hz);obtain⟨rs,rc,hpr⟩:∃ s c,prR M O [x] [(bb,bt)]=.tuple #[.string s,.int .i64 c]:=by
  unfold prR;split
  · exact⟨_,_,rfl⟩
  · exact⟨_,_,rfl⟩
 rw[hpr]at HPR⊢;clear hM hO hx hb hpr;unfold gV zV at *;have hx0:=(Bx2.new w (.string M) (.string O) 24).next ((blr).alloc nlr (.cells #[.bool bb,.string bt] 156));have hy0:Bx2 ((w.alloc (.cells #[.string M,.string O] 24)).alloc (.cells #[.bool bb,.string bt] 156)) (w.heap.size+1) (.bool bb) (.string bt) 156:=by
  have:=Bx2.new (w.alloc (.cells #[.string M,.string O] 24)) (.bool bb) (.string bt) 156;rwa[World.size_alloc]at this
 have HB0:=Hq (((Below.refl w.heap.size w).alloc nlr (.cells #[.string M,.string O] 24)).alloc (by simp) (.cells #[.bool bb,.string bt] 156));obtain⟨W0,hW0⟩:=nm ((w.alloc (.cells #[.string M,.string O] 24)).alloc (.cells #[.bool bb,.string bt] 156));rw[hW0]at hx0 hy0 HB0;have hs1:=jc W0 [x] 22 (by simp);have hb1:Below W0.heap.size W0 (W0.alloc (.cells #[.string x] 22)):=(blr).alloc nlr _;have hs2:=zo7 (W0.alloc (.cells #[.string x] 22)) bb bt 156;have hb2:Below (W0.alloc (.cells #[.string x] 22)).heap.size (W0.alloc (.cells #[.string x] 22)) ((W0.alloc (.cells #[.string x] 22)).alloc (.cells #[.bool bb,.string bt] 156)):=(blr).alloc nlr _;have HPP:=Hq (HPR.out _ _ _ (SlN.kept hb2 nlr hs1) hs2);have HBB:=Hq (HB0.out.trans ((hb1.trans (hb2.mono hb1.size)).mono HB0.out.size));rw[World.size_alloc]at HPP;have c0:=hx0.c0;have c1:=hx0.c1;have hy1:=hy0.next hb1;have d0:=hy1.c0;have d1:=hy1.c1;clear hs1 hb1 hs2 hb2 hx0 hy0 hy1;go_enter Tryz.func131,Tryz.ntmps131;go_wp2_with fail;try rw[hW0]
 clear hW0;refine HPP.out.mono ?_;rintro e w1 ⟨rfl,hb⟩;have HB1:=Hq (HBB.out.trans (hb.mono HBB.out.size));clear hb;go_wp2;go_ret2;exact⟨rfl,HB1.out⟩
end Go.Proofs.YtppbcopnfankcaaGreat

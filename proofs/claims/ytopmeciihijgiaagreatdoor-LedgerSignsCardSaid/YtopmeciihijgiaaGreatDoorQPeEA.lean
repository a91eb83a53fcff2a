import Derived.Test.YtopmeciihijgiaaGreatDoorQPeM
set_option linter.unusedVariables false
set_option linter.unusedSimpArgs false
namespace Go.Proofs.YtopmeciihijgiaaGreatDoor
open Go.RowKit
def kV(M O G H:ByteArray):Value:=.agg #[.string M,.string O,.string G,.string H]
def kF(M O G H:ByteArray):Bool:=nvalid M&&nvalid O&&nvalid G&&nvalid H
theorem zvalid_all{z:Int}(h:z.natAbs<256 ^ 128):zvalid (decide (z<0)) (nS z.natAbs)=true:=by
 unfold zvalid;rw[nvalid_nS.2 h,Bool.true_and];by_cases hz:z<0
 · rw[empty_nS (by omega),Bool.and_false];rfl
 · rw[decide_eq_false hz];rfl
set_option maxRecDepth 100000
set_option maxHeartbeats 2000000
theorem slz_alloc1(w:World)(b1:Bool)(s1:ByteArray)(T:TypeId):SlZ (w.alloc (.cells #[.bool b1,.string s1] T)) (some ⟨w.heap.size,0,none⟩) 1 1 [(b1,s1)]:=by
 have h:=Bx2.new w (.bool b1) (.string s1) T;refine⟨rfl,Nat.le_refl _,by omega,w.heap.size,0,fun _=>rfl,fun k z hk=>?_⟩
 match k,hk with
 | 0,hk=>cases hk;exact⟨h.c0,h.c1⟩
theorem pw_Exp(M O x:ByteArray)(bb:Bool)(bt:ByteArray)(hM:M.size≤8)(hO:O.size≤8)(hx:x.size≤1000)(hb:bt.size≤1000)(w:World):Calls Tryz.prog 53 #[gV M O,.string x,zV bb bt] w (Ret (prR M O [x] [(bb,bt)]) w):=by
 have HPR:=Hq (fun(A B:Option Addr) (w:World) (hl:SlN w A 1 1 [x]) (hz:SlZ w B 1 1 [(bb,bt)])=>pw_Product M O [x] [(bb,bt)] A B 1 1 1 1 hM hO (by intro s hs;simp only[List.mem_cons,List.mem_nil_iff,or_false]at hs;subst hs;exact hx) (by intro z hz;simp only[List.mem_cons,List.mem_nil_iff,or_false]at hz;subst hz;exact hb) (by omega) (by omega) w hl hz);obtain⟨rs,rc,hpr⟩:∃ s c,prR M O [x] [(bb,bt)]=.tuple #[.string s,.int .i64 c]:=by
  unfold prR;split
  · exact⟨_,_,rfl⟩
  · exact⟨_,_,rfl⟩
 rw[hpr]at HPR⊢;clear hM hO hx hb hpr;unfold gV zV at *;have hx0:=(Bx2.new w (.string M) (.string O) 24).next ((blr).alloc nlr (.cells #[.bool bb,.string bt] 112));have hy0:Bx2 ((w.alloc (.cells #[.string M,.string O] 24)).alloc (.cells #[.bool bb,.string bt] 112)) (w.heap.size+1) (.bool bb) (.string bt) 112:=by
  have:=Bx2.new (w.alloc (.cells #[.string M,.string O] 24)) (.bool bb) (.string bt) 112;rwa[World.size_alloc]at this
 have HB0:=Hq (((Below.refl w.heap.size w).alloc nlr (.cells #[.string M,.string O] 24)).alloc (by simp) (.cells #[.bool bb,.string bt] 112));obtain⟨W0,hW0⟩:∃ W0,(w.alloc (.cells #[.string M,.string O] 24)).alloc (.cells #[.bool bb,.string bt] 112)=W0:=⟨_,rfl⟩;rw[hW0]at hx0 hy0 HB0;have hs1:=sln_alloc W0 [x] 22 (by simp);have hb1:Below W0.heap.size W0 (W0.alloc (.cells #[.string x] 22)):=(blr).alloc nlr _;have hs2:=slz_alloc1 (W0.alloc (.cells #[.string x] 22)) bb bt 112;have hb2:Below (W0.alloc (.cells #[.string x] 22)).heap.size (W0.alloc (.cells #[.string x] 22)) ((W0.alloc (.cells #[.string x] 22)).alloc (.cells #[.bool bb,.string bt] 112)):=(blr).alloc nlr _;have HPP:=Hq (HPR.out _ _ _ (SlN.kept hb2 nlr hs1) hs2);have HBB:=Hq (HB0.out.trans ((hb1.trans (hb2.mono hb1.size)).mono HB0.out.size));rw[World.size_alloc]at HPP;have c0:=hx0.c0;have c1:=hx0.c1;have hy1:=hy0.next hb1;have d0:=hy1.c0;have d1:=hy1.c1;clear hs1 hb1 hs2 hb2 hx0 hy0 hy1;go_enter Tryz.func53,Tryz.ntmps53;go_wp2_with fail;try rw[hW0]
 clear hW0;refine HPP.out.mono ?_;rintro e w1 ⟨rfl,hb⟩;have HB1:=Hq (HBB.out.trans (hb.mono HBB.out.size));clear hb;go_wp2;go_ret2;exact⟨rfl,HB1.out⟩
structure Un (m x i:Nat):Prop where
 hm:1<m
 hx:x<m
 hi:i<m
 one:x * i%m=1
theorem bez(a b:Nat):∃ s t:Int,(a:Int) * s+b * t=(Nat.gcd a b:Nat):=by
 induction a,b using Nat.gcd.induction with
 | H0 n=>exact⟨0,1,by rw[Nat.gcd_zero_left];omega⟩
 | H1 m n h ih =>
  obtain⟨s,t,e⟩:=ih;refine⟨t - (n / m:Nat) * s,s,?_⟩;rw[Nat.gcd_rec,←e];have h1:(n:Int)=m * (n / m:Nat)+(n%m:Nat):=by exact_mod_cast (Nat.div_add_mod n m).symm
  generalize ((n / m:Nat):Int)=d at *;generalize ((n%m:Nat):Int)=r at *;rw[h1]
  grind
theorem un_of{m x:Nat}(hm:1<m)(hx:x<m)(hg:Nat.gcd x m=1):∃ i,Un m x i:=by
 obtain⟨s,t,e⟩:=bez x m;rw[hg]at e;have h1:=Int.emod_nonneg s (show (m:Int)≠0 by omega);have h2:=Int.emod_lt_of_pos s (show (0:Int)<(m:Int)by omega);exact⟨(s%m).toNat,hm,hx,by omega,ex_law (y:=t) hm e⟩
theorem has_un{m o x:Nat}(hc:chkN m o=0)(h:hasN m o x=true):∃ i,Un m x i:=by
 obtain⟨h1,h2,h3⟩:=hasN_unit h hc;exact un_of h2 h1 h3
theorem cka_one{M O a:ByteArray}{z1:Bool×ByteArray}(h1:nvalid a=true)(h3:zvalid z1.1 z1.2=true)(h5:chkK M O=0)(h6:hasN (num M) (num O) (num a)=true):ckR M O [a] [z1] true=0:=by
 unfold ckR;rw[if_neg (by simp[h1]),if_neg (by simp[h3]),if_pos h5,if_neg (by decide),if_neg (by simp[h6])]
end Go.Proofs.YtopmeciihijgiaaGreatDoor

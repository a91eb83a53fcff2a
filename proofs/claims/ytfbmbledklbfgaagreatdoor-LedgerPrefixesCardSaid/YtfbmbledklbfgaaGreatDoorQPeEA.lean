import Derived.Test.YtfbmbledklbfgaaGreatDoorQPeP
set_option linter.unusedVariables false
set_option linter.unusedSimpArgs false
namespace Go.Proofs.YtfbmbledklbfgaaGreatDoor
open Go.RowKit
theorem slz_alloc2(w:World)(b1 b2:Bool)(s1 s2:ByteArray)(T:TypeId):SlZ (w.alloc (.cells #[.bool b1,.string s1,.bool b2,.string s2] T)) (some ⟨w.heap.size,0,none⟩) 2 2 [(b1,s1),(b2,s2)]:=by
 have h:=Bx4.new w (.bool b1) (.string s1) (.bool b2) (.string s2) T;obtain⟨c0,c1,c2,c3⟩:=h.cells;refine⟨rfl,Nat.le_refl _,by omega,w.heap.size,0,fun _=>rfl,fun k z hk=>?_⟩
 match k,hk with
 | 0,hk=>cases hk;exact⟨c0,c1⟩
 | 1,hk=>cases hk;exact⟨c2,c3⟩
theorem zvalid_all{z:Int}(h:z.natAbs<256 ^ 128):zvalid (decide (z<0)) (nS z.natAbs)=true:=by
 unfold zvalid;rw[nvalid_nS.2 h,Bool.true_and];by_cases hz:z<0
 · rw[empty_nS (by omega),Bool.and_false];rfl
 · rw[decide_eq_false hz];rfl
set_option maxRecDepth 100000
set_option maxHeartbeats 2000000
theorem slz_alloc1(w:World)(b1:Bool)(s1:ByteArray)(T:TypeId):SlZ (w.alloc (.cells #[.bool b1,.string s1] T)) (some ⟨w.heap.size,0,none⟩) 1 1 [(b1,s1)]:=by
 have h:=Bx2.new w (.bool b1) (.string s1) T;refine⟨rfl,Nat.le_refl _,by omega,w.heap.size,0,fun _=>rfl,fun k z hk=>?_⟩
 match k,hk with
 | 0,hk=>cases hk;exact⟨h.c0,h.c1⟩
theorem pw_Exp(M O x:ByteArray)(bb:Bool)(bt:ByteArray)(hM:M.size≤8)(hO:O.size≤8)(hx:x.size≤1000)(hb:bt.size≤1000)(w:World):Calls Tryz.prog 46 #[gV M O,.string x,zV bb bt] w (Ret (prR M O [x] [(bb,bt)]) w):=by
 have HPR:=Hq (fun(A B:Option Addr) (w:World) (hl:SlN w A 1 1 [x]) (hz:SlZ w B 1 1 [(bb,bt)])=>pw_Product M O [x] [(bb,bt)] A B 1 1 1 1 hM hO (by intro s hs;simp only[List.mem_cons,List.mem_nil_iff,or_false]at hs;subst hs;exact hx) (by intro z hz;simp only[List.mem_cons,List.mem_nil_iff,or_false]at hz;subst hz;exact hb) (by omega) (by omega) w hl hz);obtain⟨rs,rc,hpr⟩:∃ s c,prR M O [x] [(bb,bt)]=.tuple #[.string s,.int .i64 c]:=by
  unfold prR;split
  · exact⟨_,_,rfl⟩
  · exact⟨_,_,rfl⟩
 rw[hpr]at HPR⊢;clear hM hO hx hb hpr;unfold gV zV at *;have hx0:=(Bx2.new w (.string M) (.string O) 24).next ((blr).alloc nlr (.cells #[.bool bb,.string bt] 103));have hy0:Bx2 ((w.alloc (.cells #[.string M,.string O] 24)).alloc (.cells #[.bool bb,.string bt] 103)) (w.heap.size+1) (.bool bb) (.string bt) 103:=by
  have:=Bx2.new (w.alloc (.cells #[.string M,.string O] 24)) (.bool bb) (.string bt) 103;rwa[World.size_alloc]at this
 have HB0:=Hq (((Below.refl w.heap.size w).alloc nlr (.cells #[.string M,.string O] 24)).alloc (by simp) (.cells #[.bool bb,.string bt] 103));obtain⟨W0,hW0⟩:∃ W0,(w.alloc (.cells #[.string M,.string O] 24)).alloc (.cells #[.bool bb,.string bt] 103)=W0:=⟨_,rfl⟩;rw[hW0]at hx0 hy0 HB0;have hs1:=sln_alloc W0 [x] 22 (by simp);have hb1:Below W0.heap.size W0 (W0.alloc (.cells #[.string x] 22)):=(blr).alloc nlr _;have hs2:=slz_alloc1 (W0.alloc (.cells #[.string x] 22)) bb bt 103;have hb2:Below (W0.alloc (.cells #[.string x] 22)).heap.size (W0.alloc (.cells #[.string x] 22)) ((W0.alloc (.cells #[.string x] 22)).alloc (.cells #[.bool bb,.string bt] 103)):=(blr).alloc nlr _;have HPP:=Hq (HPR.out _ _ _ (SlN.kept hb2 nlr hs1) hs2);have HBB:=Hq (HB0.out.trans ((hb1.trans (hb2.mono hb1.size)).mono HB0.out.size));rw[World.size_alloc]at HPP;have c0:=hx0.c0;have c1:=hx0.c1;have hy1:=hy0.next hb1;have d0:=hy1.c0;have d1:=hy1.c1;clear hs1 hb1 hs2 hb2 hx0 hy0 hy1;go_enter Tryz.func46,Tryz.ntmps46;go_wp2_with fail;try rw[hW0]
 clear hW0;refine HPP.out.mono ?_;rintro e w1 ⟨rfl,hb⟩;have HB1:=Hq (HBB.out.trans (hb.mono HBB.out.size));clear hb;go_wp2;go_ret2;exact⟨rfl,HB1.out⟩
structure Un (m x i:Nat):Prop where
 hm:1<m
 hx:x<m
 hi:i<m
 one:x * i%m=1
theorem Un.inv{m x i:Nat}(h:Un m x i):invN x m=i:=invN_of h.hi h.one
def EP(m x i K N:Nat):Nat:=x ^ K * i ^ N%m
theorem EP_more{m x i:Nat}(h:Un m x i)(K N:Nat):∀ j,EP m x i (K+j) (N+j)=EP m x i K N
 | 0=>rfl
 | j+1=>by
  rw[←EP_more h K N j];unfold EP;have e:x ^ (K+(j+1)) * i ^ (N+(j+1))=x ^ (K+j) * i ^ (N+j) * (x * i):=by
   rw[←Nat.add_assoc,←Nat.add_assoc,Nat.pow_succ,Nat.pow_succ]
   grind
  rw[e,Nat.mul_mod,h.one,Nat.mul_one,Nat.mod_mod]
theorem EP_eq{m x i K N K' N':Nat}(h:Un m x i)(e:(K:Int) - N=K' - N'):EP m x i K N=EP m x i K' N':=by
 rcases Nat.le_total K K' with h1 | h1
 · have:=EP_more h K N (K' - K);rw[show K+(K' - K)=K' from by omega,show N+(K' - K)=N' from by omega]at this;exact this.symm
 · have:=EP_more h K' N' (K - K');rw[show K'+(K - K')=K from by omega,show N'+(K - K')=N from by omega]at this;exact this
def pz(m x:Nat)(z:Int):Nat:=baseN x (decide (z<0)) m ^ z.natAbs%m
theorem pz_EP{m x i:Nat}(h:Un m x i){z:Int}{K N:Nat}(e:z=(K:Int) - N):pz m x z=EP m x i K N:=by
 unfold pz baseN;by_cases hz:z<0
 · rw[decide_eq_true hz,if_pos rfl,h.inv,←EP_eq (K:=0) (N:=z.natAbs) h (by omega)];unfold EP;rw[Nat.pow_zero,Nat.one_mul]
 · rw[decide_eq_false hz,if_neg (by decide),←EP_eq (K:=z.natAbs) (N:=0) h (by omega)];unfold EP;rw[Nat.pow_zero,Nat.mul_one]
theorem int_parts(z:Int):∃ K N:Nat,z=(K:Int) - N:=⟨z.toNat,(-z).toNat,by omega⟩
theorem EP_lt{m x i K N:Nat}(h:Un m x i):EP m x i K N<m:=Nat.mod_lt _ (by have:=h.hm;omega)
theorem EP_un{m x i:Nat}(h:Un m x i)(K N:Nat):Un m (EP m x i K N) (EP m x i N K):=by
 refine⟨h.hm,EP_lt h,EP_lt h,?_⟩;have e:EP m x i K N * EP m x i N K%m=EP m x i (K+N) (N+K):=by
  unfold EP;rw[←Nat.mul_mod,Nat.pow_add,Nat.pow_add];congr 1
  grind
 rw[e,←EP_eq (K:=0) (N:=0) h (by omega)];unfold EP;rw[Nat.pow_zero,Nat.pow_zero];exact Nat.mod_eq_of_lt h.hm
theorem pz_lt{m x:Nat}(z:Int)(hm:1<m):pz m x z<m:=Nat.mod_lt _ (by omega)
theorem pz_un{m x i:Nat}(h:Un m x i)(z:Int):∃ j,Un m (pz m x z) j:=by
 obtain⟨K,N,e⟩:=int_parts z;rw[pz_EP h e];exact⟨_,EP_un h K N⟩
theorem pz_add{m x i:Nat}(h:Un m x i)(a b:Int):pz m x (a+b)=pz m x a * pz m x b%m:=by
 obtain⟨K,N,ea⟩:=int_parts a;obtain⟨K',N',eb⟩:=int_parts b;rw[pz_EP h ea,pz_EP h eb,pz_EP (K:=K+K') (N:=N+N') h (by omega)];unfold EP;rw[←Nat.mul_mod,Nat.pow_add,Nat.pow_add];congr 1
 grind
theorem pz_pow{m x i:Nat}(h:Un m x i)(a b:Int):pz m (pz m x a) b=pz m x (a * b):=by
 obtain⟨K,N,ea⟩:=int_parts a;obtain⟨K',N',eb⟩:=int_parts b;rw[pz_EP h ea,pz_EP (EP_un h K N) eb,pz_EP (K:=K * K'+N * N') (N:=N * K'+K * N') h (by rw[ea,eb];push_cast;grind)];unfold EP;rw[Nat.mul_mod,←Nat.pow_mod,←Nat.pow_mod,←Nat.mul_mod,Nat.mul_pow,Nat.mul_pow,Nat.pow_add,Nat.pow_add,←Nat.pow_mul,←Nat.pow_mul,←Nat.pow_mul,←Nat.pow_mul];congr 1
 grind
theorem pz_nat{m x n:Nat}:pz m x (n:Int)=x ^ n%m:=by
 unfold pz baseN;rw[decide_eq_false (by omega),if_neg (by decide),Int.natAbs_natCast]
theorem one_un{m:Nat}(hm:1<m):Un m 1 1:=⟨hm,hm,hm,by rw[Nat.mul_one];exact Nat.mod_eq_of_lt hm⟩
theorem pz_base1{m:Nat}(hm:1<m)(z:Int):pz m 1 z=1:=by
 obtain⟨K,N,e⟩:=int_parts z;rw[pz_EP (one_un hm) e];unfold EP;rw[Nat.one_pow,Nat.one_pow];exact Nat.mod_eq_of_lt hm
theorem pz_red{m x i o:Nat}(h:Un m x i)(hp:x ^ o%m=1)(z:Int):pz m x (z%(o:Int))=pz m x z:=by
 have e:z=(o:Int) * (z / (o:Int))+z%(o:Int):=(Int.mul_ediv_add_emod z o).symm
 conv=>rhs;rw[e]
 rw[pz_add h,←pz_pow h,pz_nat,hp,pz_base1 h.hm,Nat.one_mul,Nat.mod_eq_of_lt (pz_lt _ h.hm)]
theorem bez(a b:Nat):∃ s t:Int,(a:Int) * s+b * t=(Nat.gcd a b:Nat):=by
 induction a,b using Nat.gcd.induction with
 | H0 n=>exact⟨0,1,by rw[Nat.gcd_zero_left];omega⟩
 | H1 m n h ih =>
  obtain⟨s,t,e⟩:=ih;refine⟨t - (n / m:Nat) * s,s,?_⟩;rw[Nat.gcd_rec,←e];have h1:(n:Int)=m * (n / m:Nat)+(n%m:Nat):=by exact_mod_cast (Nat.div_add_mod n m).symm
  generalize ((n / m:Nat):Int)=d at *;generalize ((n%m:Nat):Int)=r at *;rw[h1]
  grind
theorem un_of{m x:Nat}(hm:1<m)(hx:x<m)(hg:Nat.gcd x m=1):∃ i,Un m x i:=by
 obtain⟨s,t,e⟩:=bez x m;rw[hg]at e;have h1:=Int.emod_nonneg s (show (m:Int)≠0 by omega);have h2:=Int.emod_lt_of_pos s (show (0:Int)<(m:Int)by omega);exact⟨(s%m).toNat,hm,hx,by omega,ex_law (y:=t) hm e⟩
theorem has_un{m o x:Nat}(hc:chkN m o=0)(h:hasN m o x=true):∃ i,Un m x i:=by
 obtain⟨h1,h2,h3⟩:=hasN_unit h hc;exact un_of h2 h1 h3
theorem has_ord{m o x:Nat}(ho:0<o)(h:hasN m o x=true):x ^ o%m=1:=by
 unfold hasN at h;have h:=of_decide_eq_true h;rw[if_neg (by omega)]at h;exact h.2.2
theorem cka_two{M O a b:ByteArray}{z1 z2:Bool×ByteArray}(h1:nvalid a=true)(h2:nvalid b=true)(h3:zvalid z1.1 z1.2=true)(h4:zvalid z2.1 z2.2=true)(h5:chkK M O=0)(h6:hasN (num M) (num O) (num a)=true)(h7:hasN (num M) (num O) (num b)=true):ckR M O [a,b] [z1,z2] true=0:=by
 unfold ckR;rw[if_neg (by simp[h1,h2]),if_neg (by simp[h3,h4]),if_pos h5,if_neg (by decide),if_neg (by simp[h6,h7])]
theorem cka_one{M O a:ByteArray}{z1:Bool×ByteArray}(h1:nvalid a=true)(h3:zvalid z1.1 z1.2=true)(h5:chkK M O=0)(h6:hasN (num M) (num O) (num a)=true):ckR M O [a] [z1] true=0:=by
 unfold ckR;rw[if_neg (by simp[h1]),if_neg (by simp[h3]),if_pos h5,if_neg (by decide),if_neg (by simp[h6])]
theorem pz_two(m x y:Nat)(v r:Int):baseN x (decide (v<0)) m ^ v.natAbs * baseN y (decide (r<0)) m ^ r.natAbs%m=pz m x v * pz m y r%m:=by
 unfold pz;rw[←Nat.mul_mod]
end Go.Proofs.YtfbmbledklbfgaaGreatDoor

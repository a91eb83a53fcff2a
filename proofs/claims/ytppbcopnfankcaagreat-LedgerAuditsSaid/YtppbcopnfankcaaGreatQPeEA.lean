import Derived.Test.YtppbcopnfankcaaGreatQPeBA
set_option linter.unusedVariables false
set_option linter.unusedSimpArgs false
namespace Go.Proofs.YtppbcopnfankcaaGreat
structure Un (m x i:Nat):Prop where
 hm:1<m
 hx:x<m
 hi:i<m
 one:x * i%m=1
theorem Un.inv{m x i:Nat}(h:Un m x i):invN x m=i:=zr7 h.hi h.one
def EP(m x i K N:Nat):Nat:=x ^ K * i ^ N%m
theorem zm2{m x i:Nat}(h:Un m x i)(K N:Nat):∀ j,EP m x i (K+j) (N+j)=EP m x i K N
 | 0=>rfl
 | j+1=>by
  rw[←zm2 h K N j];unfold EP;have e:x ^ (K+(j+1)) * i ^ (N+(j+1))=x ^ (K+j) * i ^ (N+j) * (x * i):=by
   rw[←Nat.add_assoc,←Nat.add_assoc,Nat.pow_succ,Nat.pow_succ]
   grind
  rw[e,Nat.mul_mod,h.one,Nat.mul_one,Nat.mod_mod]
theorem zxz{m x i K N K' N':Nat}(h:Un m x i)(e:(K:Int) - N=K' - N'):EP m x i K N=EP m x i K' N':=by
 rcases Nat.le_total K K' with h1 | h1
 · have:=zm2 h K N (K' - K);rw[show K+(K' - K)=K' from by omega,show N+(K' - K)=N' from by omega]at this;exact this.symm
 · have:=zm2 h K' N' (K - K');rw[show K'+(K - K')=K from by omega,show N'+(K - K')=N from by omega]at this;exact this
def pz(m x:Nat)(z:Int):Nat:=zcm x (decide (z<0)) m ^ z.natAbs%m
theorem zks{m x i:Nat}(h:Un m x i){z:Int}{K N:Nat}(e:z=(K:Int) - N):pz m x z=EP m x i K N:=by
 unfold pz zcm;by_cases hz:z<0
 · rw[decide_eq_true hz,if_pos rfl,h.inv,←zxz (K:=0) (N:=z.natAbs) h (by omega)];unfold EP;rw[Nat.pow_zero,Nat.one_mul]
 · rw[decide_eq_false hz,if_neg (by decide),←zxz (K:=z.natAbs) (N:=0) h (by omega)];unfold EP;rw[Nat.pow_zero,Nat.mul_one]
theorem zas(z:Int):∃ K N:Nat,z=(K:Int) - N:=⟨z.toNat,(-z).toNat,by omega⟩
theorem zzp{m x i K N:Nat}(h:Un m x i):EP m x i K N<m:=Nat.mod_lt _ (by have:=h.hm;omega)
theorem zzo{m x i:Nat}(h:Un m x i)(K N:Nat):Un m (EP m x i K N) (EP m x i N K):=by
 refine⟨h.hm,zzp h,zzp h,?_⟩;have e:EP m x i K N * EP m x i N K%m=EP m x i (K+N) (N+K):=by
  unfold EP;rw[←Nat.mul_mod,Nat.pow_add,Nat.pow_add];congr 1
  grind
 rw[e,←zxz (K:=0) (N:=0) h (by omega)];unfold EP;rw[Nat.pow_zero,Nat.pow_zero];exact Nat.mod_eq_of_lt h.hm
theorem zzu{m x:Nat}(z:Int)(hm:1<m):pz m x z<m:=Nat.mod_lt _ (by omega)
theorem zzt{m x i:Nat}(h:Un m x i)(z:Int):∃ j,Un m (pz m x z) j:=by
 obtain⟨K,N,e⟩:=zas z;rw[zks h e];exact⟨_,zzo h K N⟩
theorem zyj{m x i:Nat}(h:Un m x i)(a b:Int):pz m x (a+b)=pz m x a * pz m x b%m:=by
 obtain⟨K,N,ea⟩:=zas a;obtain⟨K',N',eb⟩:=zas b;rw[zks h ea,zks h eb,zks (K:=K+K') (N:=N+N') h (by omega)];unfold EP;rw[←Nat.mul_mod,Nat.pow_add,Nat.pow_add];congr 1
 grind
theorem zrf{m x i:Nat}(h:Un m x i)(a b:Int):pz m (pz m x a) b=pz m x (a * b):=by
 obtain⟨K,N,ea⟩:=zas a;obtain⟨K',N',eb⟩:=zas b;rw[zks h ea,zks (zzo h K N) eb,zks (K:=K * K'+N * N') (N:=N * K'+K * N') h (by rw[ea,eb];push_cast;grind)];unfold EP;rw[Nat.mul_mod,←Nat.pow_mod,←Nat.pow_mod,←Nat.mul_mod,Nat.mul_pow,Nat.mul_pow,Nat.pow_add,Nat.pow_add,←Nat.pow_mul,←Nat.pow_mul,←Nat.pow_mul,←Nat.pow_mul];congr 1
 grind
theorem zhk{m x n:Nat}:pz m x (n:Int)=x ^ n%m:=by
 unfold pz zcm;rw[decide_eq_false (by omega),if_neg (by decide),Int.natAbs_natCast]
theorem zyq{m:Nat}(hm:1<m):Un m 1 1:=⟨hm,hm,hm,by rw[Nat.mul_one];exact Nat.mod_eq_of_lt hm⟩
theorem znj{m:Nat}(hm:1<m)(z:Int):pz m 1 z=1:=by
 obtain⟨K,N,e⟩:=zas z;rw[zks (zyq hm) e];unfold EP;rw[Nat.one_pow,Nat.one_pow];exact Nat.mod_eq_of_lt hm
theorem zvp{m x i o:Nat}(h:Un m x i)(hp:x ^ o%m=1)(z:Int):pz m x (z%(o:Int))=pz m x z:=by
 have e:z=(o:Int) * (z / (o:Int))+z%(o:Int):=(Int.mul_ediv_add_emod z o).symm
 conv=>rhs;rw[e]
 rw[zyj h,←zrf h,zhk,hp,znj h.hm,Nat.one_mul,Nat.mod_eq_of_lt (zzu _ h.hm)]
theorem bez(a b:Nat):∃ s t:Int,(a:Int) * s+b * t=(Nat.gcd a b:Nat):=by
 induction a,b using Nat.gcd.induction with
 | H0 n=>exact⟨0,1,by rw[Nat.gcd_zero_left];omega⟩
 | H1 m n h ih =>
  obtain⟨s,t,e⟩:=ih;refine⟨t - (n / m:Nat) * s,s,?_⟩;rw[Nat.gcd_rec,←e];have h1:(n:Int)=m * (n / m:Nat)+(n%m:Nat):=by exact_mod_cast (Nat.div_add_mod n m).symm
  generalize ((n / m:Nat):Int)=d at *;generalize ((n%m:Nat):Int)=r at *;rw[h1]
  grind
theorem zzr{m x:Nat}(hm:1<m)(hx:x<m)(hg:Nat.gcd x m=1):∃ i,Un m x i:=by
 obtain⟨s,t,e⟩:=bez x m;rw[hg]at e;have h1:=Int.emod_nonneg s (show (m:Int)≠0 by omega);have h2:=Int.emod_lt_of_pos s (show (0:Int)<(m:Int)by omega);exact⟨(s%m).toNat,hm,hx,by omega,zzf (y:=t) hm e⟩
theorem zx7{m x i:Nat}(h:Un m x i):Nat.gcd x m=1:=by
 have h1:Nat.gcd x m ∣ 1:=by
  have hd1:=Nat.gcd_dvd_left x m;have hd2:=Nat.gcd_dvd_right x m;have h2:x * i=m * (x * i / m)+1:=(by have:=Nat.div_add_mod (x * i) m;rw[h.one]at this;exact this.symm);have h3:Nat.gcd x m ∣ m * (x * i / m)+1:=by rw[←h2];exact Nat.dvd_trans hd1 (Nat.dvd_mul_right x i)
  exact(Nat.dvd_add_right (Nat.dvd_trans hd2 (Nat.dvd_mul_right m _))).1 h3
 exact Nat.dvd_one.1 h1
theorem zlk{m o x:Nat}(hc:chkN m o=0)(h:hasN m o x=true):∃ i,Un m x i:=by
 obtain⟨h1,h2,h3⟩:=zf5 h hc;exact zzr h2 h1 h3
theorem zsa{m o x:Nat}(ho:0<o)(h:hasN m o x=true):x ^ o%m=1:=by
 unfold hasN at h;have h:=of_decide_eq_true h;rw[if_neg (by omega)]at h;exact h.2.2
theorem zza{m o x i:Nat}(hu:Un m x i)(hp:0<o→x ^ o%m=1):hasN m o x=true:=by
 unfold hasN;have hm:=hu.hm;have h0:0<x:=by
  rcases Nat.eq_zero_or_pos x with h | h
  · subst h;have:=hu.one;rw[Nat.zero_mul,Nat.zero_mod]at this;cases this
  · exact h
 refine decide_eq_true ⟨h0,hu.hx,?_⟩;split
 · exact zx7 hu
 · exact hp (by omega)
theorem zy9{m o x:Nat}(hc:chkN m o=0)(h:hasN m o x=true)(z:Int):hasN m o (pz m x z)=true:=by
 obtain⟨i,hu⟩:=zlk hc h;obtain⟨j,hj⟩:=zzt hu z;refine zza hj (fun ho=>?_);have h1:=zsa ho h;rw[←zhk,zrf hu,Int.mul_comm,←zrf hu,zhk,h1,znj hu.hm]
theorem zvz{m o x:Nat}(h:hasN m o x=true):x<m:=(of_decide_eq_true h).2.1
theorem zxs{M O a b:ByteArray}{z1 z2:Bool×ByteArray}(h1:zc a=true)(h2:zc b=true)(h3:jz z1.1 z1.2=true)(h4:jz z2.1 z2.2=true)(h5:chkK M O=0)(h6:hasN (num M) (num O) (num a)=true)(h7:hasN (num M) (num O) (num b)=true):ckR M O [a,b] [z1,z2] true=0:=by
 unfold ckR;rw[if_neg (by simp[h1,h2]),if_neg (by simp[h3,h4]),if_pos h5,if_neg (by decide),if_neg (by simp[h6,h7])]
theorem zxt{M O a:ByteArray}{z1:Bool×ByteArray}(h1:zc a=true)(h3:jz z1.1 z1.2=true)(h5:chkK M O=0)(h6:hasN (num M) (num O) (num a)=true):ckR M O [a] [z1] true=0:=by
 unfold ckR;rw[if_neg (by simp[h1]),if_neg (by simp[h3]),if_pos h5,if_neg (by decide),if_neg (by simp[h6])]
theorem zyh(m x y:Nat)(v r:Int):zcm x (decide (v<0)) m ^ v.natAbs * zcm y (decide (r<0)) m ^ r.natAbs%m=pz m x v * pz m y r%m:=by
 unfold pz;rw[←Nat.mul_mod]
end Go.Proofs.YtppbcopnfankcaaGreat

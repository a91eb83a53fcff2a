import Derived.Test.YtdhnkmbjogmmkaaGreatDoorQMrB
set_option linter.unusedVariables false
set_option linter.unusedSimpArgs false
namespace Go.Proofs.YtdhnkmbjogmmkaaGreatDoor
set_option maxRecDepth 1000000
open Go.RowKit
def PrN(n:Nat):Prop:=2≤n∧∀ k,k ∣ n→k=1∨k=n
def primo:Nat:=7420738134810
def ckP:Bool:=(List.range 256).all fun p=>decide (p<2)||decide (Nat.gcd p primo≠1)||(List.range (65536 / p+1)).all fun q=>decide (q<p)||decide (Nat.gcd q primo≠1)||decide (2 ^ (p * q - 1)%(p * q)≠1)||decide (3 ^ (p * q - 1)%(p * q)≠1)||decide (5 ^ (p * q - 1)%(p * q)≠1)
theorem ckP_ok:ckP=true:=by decide +kernel
theorem ckP_at{p q:Nat}(hp:2≤p)(hp2:p<256)(gp:Nat.gcd p primo=1)(hq:p≤q)(gq:Nat.gcd q primo=1)(hpq:p * q<65536):¬ (2 ^ (p * q - 1)%(p * q)=1∧3 ^ (p * q - 1)%(p * q)=1∧5 ^ (p * q - 1)%(p * q)=1):=by
 have h:=List.all_eq_true.1 ckP_ok p (List.mem_range.2 hp2);rw[decide_eq_false (show ¬ p<2 by omega),decide_eq_false (fun c=>c gp),Bool.false_or,Bool.false_or]at h;have h2:=List.all_eq_true.1 h q (List.mem_range.2 (Nat.lt_succ_of_le ((Nat.le_div_iff_mul_le (by omega)).2 (by rw[Nat.mul_comm];omega))));rw[decide_eq_false (show ¬ q<p by omega),decide_eq_false (fun c=>c gq),Bool.false_or,Bool.false_or,Bool.or_eq_true,Bool.or_eq_true,decide_eq_true_eq,decide_eq_true_eq,decide_eq_true_eq]at h2;rintro⟨a,b,c⟩;rcases h2 with(h2 | h2) | h2
 · exact h2 a
 · exact h2 b
 · exact h2 c
theorem sq_last{n:Nat}(h:2≤n):(n - 1) * (n - 1)%n=1:=by
 obtain⟨m,rfl⟩:∃ m,n=m+2:=⟨n - 2,by omega⟩;have : (m+2 - 1) * (m+2 - 1)=1+(m+2) * m:=(by rw[show m+2 - 1=m+1 from rfl];simp only[Nat.add_mul,Nat.mul_add];omega);rw[this,Nat.add_mul_mod_self_left];exact Nat.mod_eq_of_lt (by omega)
theorem one_pw{n x:Nat}(h:2≤n)(hx:x%n=1)(k:Nat):x ^ k%n=1:=by
 rw[Nat.pow_mod,hx,Nat.one_pow];exact Nat.mod_eq_of_lt (by omega)
theorem strong_fermat{n a s d:Nat}(hn:2≤n)(hsd:2 ^ s * d=n - 1)(h:strongB n a s d=true):a ^ (n - 1)%n=1:=by
 unfold strongB at h;rw[Bool.or_eq_true,decide_eq_true_eq,List.any_eq_true]at h;rcases h with h | ⟨i,hi,h⟩
 · rw[←hsd,Nat.mul_comm,Nat.pow_mul];exact one_pw hn h _
 · rw[decide_eq_true_eq]at h;have hi:=List.mem_range.1 hi;have e:n - 1=d * 2 ^ i * 2 * 2 ^ (s - i - 1):=by
    rw[←hsd,Nat.mul_comm (2 ^ s),Nat.mul_assoc,Nat.mul_assoc];congr 1;rw[←Nat.pow_succ',←Nat.pow_add];congr 1;omega
   rw[e,Nat.pow_mul];refine one_pw hn ?_ _;rw[Nat.pow_mul,Nat.pow_two,Nat.mul_mod,h];exact sq_last hn
theorem prn_small:∀ j,j<12→∀ k,k<38→k ∣ bsN j→k=1∨k=bsN j:=by decide +kernel
theorem bs_range:∀ j,j<12→2≤bsN j∧bsN j<38:=by decide +kernel
theorem prn_bs{j:Nat}(hj:j<12):PrN (bsN j):=⟨(bs_range j hj).1,fun k hk=>prn_small j hj k (Nat.lt_of_le_of_lt (Nat.le_of_dvd (by have:=(bs_range j hj).1;omega) hk) (bs_range j hj).2) hk⟩
theorem prn_cop{p r:Nat}(hr:PrN r)(h:¬ r ∣ p):Nat.gcd p r=1:=by
 rcases hr.2 _ (Nat.gcd_dvd_right p r)with e | e
 · exact e
 · exact absurd (e▸Nat.gcd_dvd_left p r) h
theorem primo_eq:primo=bsN 0 * (bsN 1 * (bsN 2 * (bsN 3 * (bsN 4 * (bsN 5 * (bsN 6 * (bsN 7 * (bsN 8 * (bsN 9 * (bsN 10 * bsN 11)))))))))):=by decide +kernel
theorem cop_primo{p:Nat}(h:∀ j,j<12→¬ bsN j ∣ p):Nat.gcd p primo=1:=by
 have c:∀ j,j<12→Nat.Coprime p (bsN j):=fun j hj=>prn_cop (prn_bs hj) (h j hj);rw[primo_eq];exact(c 0 (by decide)).mul_right ((c 1 (by decide)).mul_right ((c 2 (by decide)).mul_right ((c 3 (by decide)).mul_right ((c 4 (by decide)).mul_right ((c 5 (by decide)).mul_right ((c 6 (by decide)).mul_right ((c 7 (by decide)).mul_right ((c 8 (by decide)).mul_right ((c 9 (by decide)).mul_right ((c 10 (by decide)).mul_right (c 11 (by decide))))))))))))
theorem prn_of_isN{n:Nat}(hn:n<65536)(h:isN n=true):PrN n:=by
 have h2:2≤n:=by
  rcases Nat.lt_or_ge n 2 with h' | h'
  · rw[isN_lt h']at h;cases h
  · exact h'
 rcases isN_cases h2 with⟨i,hi,_,_,e⟩ | ⟨hd,e⟩
 · rw[e,decide_eq_true_eq]at h;rw[h];exact prn_bs hi
 · rw[e]at h;refine⟨h2,fun k hk=>?_⟩;obtain⟨m,hm⟩:=hk;rcases Nat.lt_or_ge k 2 with h0 | h0
   · rcases Nat.eq_zero_or_pos k with z | z
     · rw[z,Nat.zero_mul]at hm;omega
     · exact .inl (by omega)
   · rcases Nat.lt_or_ge m 2 with m0 | m0
     · rcases Nat.eq_zero_or_pos m with z | z
       · rw[z,Nat.mul_zero]at hm;omega
       · exact .inr (by rw[hm,show m=1 from by omega,Nat.mul_one])
     · exfalso;have key:∀ p q:Nat,n=p * q→2≤p→p≤q→False:=by
        intro p q hpq hp hle;have hp2:p<256:=by
         rcases Nat.lt_or_ge p 256 with h | h
         · exact h
         · have : 256 * 256≤p * q:=Nat.mul_le_mul h (Nat.le_trans h hle);omega
        have nd:∀ x,x ∣ n→∀ j,j<12→¬ bsN j ∣ x:=fun x hx j hj hb=>hd j hj (Nat.mod_eq_zero_of_dvd (Nat.dvd_trans hb hx));have gp:=cop_primo (nd p ⟨q,hpq⟩);have gq:=cop_primo (nd q ⟨p,by rw[hpq,Nat.mul_comm]⟩);obtain⟨sd,_⟩:=sd_spec h2 (by omega);have fer:∀ j,j<12→bsN j ^ (n - 1)%n=1:=fun j hj=>strong_fermat h2 sd (by unfold allB at h;exact List.all_eq_true.1 h j (List.mem_range.2 hj));refine ckP_at hp hp2 gp hle gq (by omega) ?_;rw[←hpq];exact⟨fer 0 (by decide),fer 1 (by decide),fer 2 (by decide)⟩
       rcases Nat.le_total k m with hkm | hkm
       · exact key k m hm h0 hkm
       · exact key m k (by rw[hm,Nat.mul_comm]) m0 hkm
theorem prn_ex:∀ n,2≤n→∃ p,PrN p∧p ∣ n:=by
 intro n
 induction n using Nat.strongRecOn with
 | _ n ih =>
  intro h;by_cases hp:PrN n
  · exact⟨n,hp,Nat.dvd_refl n⟩
  · have : ∃ k,k ∣ n∧k≠1∧k≠n:=by
     apply Classical.byContradiction;intro hc;apply hp;refine⟨h,fun k hk=>?_⟩;by_cases h1:k=1
     · exact .inl h1
     · by_cases h2:k=n
       · exact .inr h2
       · exact absurd ⟨k,hk,h1,h2⟩ hc
    obtain⟨k,hk,h1,h2⟩:=this;have hle:=Nat.le_of_dvd (by omega) hk;have h0:k≠0:=(by rintro rfl;have:=Nat.eq_zero_of_zero_dvd hk;omega);obtain⟨p,hp1,hp2⟩:=ih k (by omega) (by omega);exact⟨p,hp1,Nat.dvd_trans hp2 hk⟩
theorem prn_root{n:Nat}(h:2≤n)(hn:¬ PrN n):∃ p,PrN p∧p ∣ n∧p * p≤n:=by
 have : ∃ k,k ∣ n∧k≠1∧k≠n:=by
  apply Classical.byContradiction;intro hc;apply hn;refine⟨h,fun k hk=>?_⟩;by_cases h1:k=1
  · exact .inl h1
  · by_cases h2:k=n
    · exact .inr h2
    · exact absurd ⟨k,hk,h1,h2⟩ hc
 obtain⟨k,⟨m,hm⟩,h1,h2⟩:=this;have k0:k≠0:=(by rintro rfl;rw[Nat.zero_mul]at hm;omega);have m0:m≠0:=(by rintro rfl;rw[Nat.mul_zero]at hm;omega);have m1:m≠1:=(by rintro rfl;rw[Nat.mul_one]at hm;exact h2 hm.symm);have key:∀ x y:Nat,n=x * y→2≤x→x≤y→∃ p,PrN p∧p ∣ n∧p * p≤n:=(by intro x y hxy hx hle;obtain⟨p,hp,hd⟩:=prn_ex x hx;have hpl:p≤x:=Nat.le_of_dvd (by omega) hd;exact⟨p,hp,hxy▸Nat.dvd_trans hd ⟨y,rfl⟩,hxy▸Nat.mul_le_mul hpl (Nat.le_trans hpl hle)⟩);rcases Nat.le_total k m with hkm | hkm
 · exact key k m hm (by omega) hkm
 · exact key m k (by rw[hm,Nat.mul_comm]) (by omega) hkm
theorem prn_mul{r x y:Nat}(hr:PrN r)(h:r ∣ x * y):r ∣ x∨r ∣ y:=by
 by_cases hx:r ∣ x
 · exact .inl hx
 · have : Nat.Coprime r x:=(by have:=prn_cop hr hx;rw[Nat.gcd_comm]at this;exact this);exact .inr (this.dvd_of_dvd_mul_left h)
theorem prn_pw{r x:Nat}(hr:PrN r):∀ {k:Nat},r ∣ x ^ k→r ∣ x
 | 0,h=>by
  rw[Nat.pow_zero]at h;have:=Nat.le_of_dvd (by omega) h;have:=hr.1;omega
 | k+1,h=>by
  rw[Nat.pow_succ]at h;rcases prn_mul hr h with c | c
  · exact prn_pw hr c
  · exact c
theorem prn_eq{r q:Nat}(hr:PrN r)(hq:PrN q)(h:r ∣ q):r=q:=by
 rcases hq.2 r h with e | e
 · have:=hr.1;omega
 · exact e
theorem pig:∀(n:Nat) (l:List Nat),l.Nodup→(∀ x∈l,x<n)→l.length≤n
 | 0,l,_,h=>by
  cases l with
  | nil=>exact Nat.le_refl _
  | cons x l=>exact absurd (h x List.mem_cons_self) (Nat.not_lt_zero _)
 | n+1,l,hl,h=>by
  have h1:=pig n (l.erase n) (hl.erase n) (by
   intro x hx;have:=(hl.mem_erase_iff).1 hx;have h2:=h x this.2;have:=this.1
   omega)
  rw[List.length_erase]at h1;split at h1
  · omega
  · omega
theorem pw_add1{b i j p:Nat}(h:b ^ i%p=1)(h1:1<p):b ^ (i+j)%p=b ^ j%p:=by
 rw[Nat.pow_add,Nat.mul_mod,h,Nat.one_mul,Nat.mod_mod]
theorem pw_mul1{b i p:Nat}(h:b ^ i%p=1)(h1:1<p)(k:Nat):b ^ (i * k)%p=1:=by
 rw[Nat.pow_mul];exact one_pw h1 h k
theorem ord_full{b F p:Nat}(h1:1<p)(hF:b ^ F%p=1)(hr:∀ r,PrN r→r ∣ F→b ^ (F / r)%p≠1):∀ d,0<d→d<F→b ^ d%p≠1:=by
 intro d
 induction d using Nat.strongRecOn with
 | _ d ih =>
  intro h0 hlt h;have hdm:=Nat.div_add_mod F d;by_cases hs:F%d=0
  · have hq:2≤F / d:=by
     rcases Nat.lt_or_ge (F / d) 2 with c | c
     · have : d * (F / d)≤d * 1:=Nat.mul_le_mul_left _ (by omega);omega
     · exact c
    obtain⟨r,hp,t,ht⟩:=prn_ex _ hq;have hFd:F=d * (F / d):=by omega
    have hr0:0<r:=by have:=hp.1;omega
    have e:F=r * (d * t):=by rw[hFd,ht,Nat.mul_left_comm]
    refine hr r hp ⟨d * t,e⟩ ?_;rw[show F / r=d * t from by rw[e];exact Nat.mul_div_cancel_left _ hr0];exact pw_mul1 h h1 t
  · refine ih (F%d) (Nat.mod_lt _ h0) (by omega) (Nat.lt_trans (Nat.mod_lt _ h0) hlt) ?_;have:=pw_mul1 h h1 (F / d);have:=pw_add1 (j:=F%d) this h1;rw[hdm,hF]at this;exact this.symm
theorem ord_lt{b F p:Nat}(h1:1<p)(h0:0<F)(hF:b ^ F%p=1)(hr:∀ r,PrN r→r ∣ F→b ^ (F / r)%p≠1):F<p:=by
 have ho:=ord_full h1 hF hr;have hne:∀ i j,i<j→j<F→b ^ i%p≠b ^ j%p:=by
  intro i j hij hj h;refine ho (j - i) (by omega) (by omega) ?_;have a1:b ^ (i+(F - i))%p=1:=by rw[show i+(F - i)=F from by omega];exact hF
  have a2:b ^ (j+(F - i))%p=b ^ (j - i)%p:=(by rw[show j+(F - i)=F+(j - i)from by omega];exact pw_add1 hF h1);rw[←a2,Nat.pow_add,Nat.mul_mod,←h,←Nat.mul_mod,←Nat.pow_add];exact a1
 have hz:∀ i,i<F→b ^ i%p≠0:=by
  intro i hi h;have : b ^ (i+(F - i))%p=0:=by rw[Nat.pow_add,Nat.mul_mod,h,Nat.zero_mul,Nat.zero_mod]
  rw[show i+(F - i)=F from by omega,hF]at this;exact absurd this (by decide)
 have hp:=pig p (0::(List.range F).map (fun i=>b ^ i%p)) (by
  refine List.nodup_cons.2 ⟨?_,?_⟩
  · intro hm;obtain⟨i,hi,e⟩:=List.mem_map.1 hm;exact hz i (List.mem_range.1 hi) e
  · refine List.pairwise_map.2 ?_;refine List.Pairwise.imp_of_mem ?_ List.pairwise_lt_range;intro i j hi hj hij
    exact hne i j hij (List.mem_range.1 hj)) (by
  intro x hx;rcases List.mem_cons.1 hx with e | hm
  · omega
  · obtain⟨i,hi,e⟩:=List.mem_map.1 hm;rw[←e]
    exact Nat.mod_lt _ (by omega))
 rw[List.length_cons,List.length_map,List.length_range]at hp;omega
theorem pock{n a F:Nat}(hn:2≤n)(hF:F ∣ n - 1)(hsq:n<F * F)(h1:a ^ (n - 1)%n=1)(hr:∀ r,PrN r→r ∣ F→a ^ ((n - 1) / r)%n≠0∧Nat.gcd (a ^ ((n - 1) / r)%n - 1) n=1):PrN n:=by
 apply Classical.byContradiction;intro hc;obtain⟨p,hp,hpn,hle⟩:=prn_root hn hc;have hp1:1<p:=hp.1;obtain⟨c,hcF⟩:=hF;have h0:0<F:=by
  rcases Nat.eq_zero_or_pos F with z | z
  · subst z;omega
  · exact z
 have hone:1%p=1:=Nat.mod_eq_of_lt hp1;have hlt:F<p:=by
  refine ord_lt (b:=a ^ c) hp1 h0 ?_ ?_
  · rw[←Nat.pow_mul,Nat.mul_comm,←hcF,←Nat.mod_mod_of_dvd _ hpn,h1,hone]
  · intro r hpr ⟨t,ht⟩ h;have hr0:0<r:=by have:=hpr.1;omega
    obtain⟨hy0,hg⟩:=hr r hpr ⟨t,ht⟩;have e:(n - 1) / r=c * (F / r):=(by rw[hcF,ht,Nat.mul_assoc,Nat.mul_div_cancel_left _ hr0,Nat.mul_div_cancel_left _ hr0,Nat.mul_comm]);rw[←Nat.pow_mul,←e,←Nat.mod_mod_of_dvd _ hpn]at h;obtain⟨y,hy⟩:∃ y,a ^ ((n - 1) / r)%n=y:=⟨_,rfl⟩;rw[hy]at hy0 hg h;have hd:p ∣ y - 1:=⟨y / p,by have:=Nat.div_add_mod y p;omega⟩;have:=Nat.dvd_gcd hd hpn;rw[hg]at this;have:=Nat.le_of_dvd (by omega) this;omega
 have : F * F<p * p:=Nat.mul_lt_mul_of_lt_of_lt hlt hlt;omega
def cutN(f:Nat):Nat→Nat→Nat×Nat
 | 0,n=>(n,1)
 | k+1,n=>if n%f=0 then((cutN f k (n / f)).1,(cutN f k (n / f)).2 * f)else(n,1)
theorem cut_stop{f k n:Nat}(h:¬ n%f=0):cutN f k n=(n,1):=by
 cases k with
 | zero=>rfl
 | succ k=>rw[cutN,if_neg h]
theorem cut_step{f k n:Nat}(h:n%f=0):cutN f (k+1) n=((cutN f k (n / f)).1,(cutN f k (n / f)).2 * f):=by rw[cutN,if_pos h]
theorem cut_fuel{f:Nat}(hf:2≤f):∀(k j n:Nat),0<n→n≤k→n≤j→cutN f k n=cutN f j n
 | 0,j,n,h0,h1,h2=>by omega
 | k+1,0,n,h0,h1,h2=>by omega
 | k+1,j+1,n,h0,h1,h2=>by
  by_cases h:n%f=0
  · have hlt:n / f<n:=Nat.div_lt_self h0 hf;have hp:0<n / f:=Nat.div_pos (Nat.le_of_dvd h0 (Nat.dvd_of_mod_eq_zero h)) (by omega);rw[cut_step h,cut_step h,cut_fuel hf k j (n / f) hp (by omega) (by omega)]
  · rw[cut_stop h,cut_stop h]
theorem cut_spec{f:Nat}(hf:2≤f):∀(k n:Nat),0<n→n≤k→(cutN f k n).1 * (cutN f k n).2=n∧0<(cutN f k n).1∧¬ f ∣ (cutN f k n).1∧∃ e,(cutN f k n).2=f ^ e∧(0<e↔f ∣ n)
 | 0,n,h0,h1=>by omega
 | k+1,n,h0,h1=>by
  by_cases h:n%f=0
  · have hlt:n / f<n:=Nat.div_lt_self h0 hf;have hd:=Nat.dvd_of_mod_eq_zero h;have hp:0<n / f:=Nat.div_pos (Nat.le_of_dvd h0 hd) (by omega);obtain⟨a,b,c,e,he,_⟩:=cut_spec hf k (n / f) hp (by omega);rw[cut_step h];refine⟨?_,b,c,e+1,by show _ * f=_;rw[he,Nat.pow_succ],fun _=>hd,fun _=>Nat.succ_pos e⟩;show (cutN f k (n / f)).1 * ((cutN f k (n / f)).2 * f)=n;rw[←Nat.mul_assoc,a];exact Nat.div_mul_cancel hd
  · rw[cut_stop h];have hn:¬ f ∣ n:=fun c=>h (Nat.mod_eq_zero_of_dvd c);exact⟨Nat.mul_one n,h0,hn,0,rfl,fun c=>absurd c (Nat.lt_irrefl 0),fun c=>absurd c hn⟩
def ptS(s:Nat×Nat)(f:Nat):Nat×Nat:=((cutN f s.1 s.1).1,s.2 * (cutN f s.1 s.1).2)
def partN(m:Nat)(l:List Nat):Nat×Nat:=l.foldl ptS (m,1)
theorem part_snoc(m:Nat)(l:List Nat)(f:Nat):partN m (l++[f])=ptS (partN m l) f:=by unfold partN;rw[List.foldl_append];rfl
theorem snoc_ind{P:List Nat→Prop}(h0:P [])(h1:∀ l x,P l→P (l++[x]))(l:List Nat):P l:=by
 have : ∀ k (l:List Nat),l.length=k→P l:=by
  intro k
  induction k with
  | zero=>intro l h;rw[List.length_eq_zero_iff.1 h];exact h0
  | succ k ih =>
   intro l h;have hne:l≠[]:=by rintro rfl;cases h
   rw[←List.dropLast_concat_getLast hne];exact h1 _ _ (ih _ (by rw[List.length_dropLast,h];rfl))
 exact this _ l rfl
theorem part_spec{m:Nat}(hm:0<m)(l:List Nat):(∀ x∈l,PrN x)→(partN m l).1 * (partN m l).2=m∧0<(partN m l).1∧(∀ x∈l,¬ x ∣ (partN m l).1)∧∀ r,PrN r→r ∣ (partN m l).2→r∈l:=by
 refine snoc_ind (P:=fun l=>(∀ x∈l,PrN x)→(partN m l).1 * (partN m l).2=m∧0<(partN m l).1∧(∀ x∈l,¬ x ∣ (partN m l).1)∧∀ r,PrN r→r ∣ (partN m l).2→r∈l) ?_ ?_ l
 · intro _;refine⟨Nat.mul_one m,hm,fun x hx=>(by cases hx),fun r hr hd=>?_⟩;have:=Nat.le_of_dvd (by decide) (show r ∣ 1 from hd);have:=hr.1;omega
 · intro l f ih hp;obtain⟨a,b,c,d⟩:=ih (fun x hx=>hp x (List.mem_append_left _ hx));have hf:=hp f (List.mem_append_right _ List.mem_cons_self);rw[part_snoc];obtain⟨R,hR⟩:∃ u,(partN m l).1=u:=⟨_,rfl⟩;obtain⟨O,hO⟩:∃ u,(partN m l).2=u:=⟨_,rfl⟩;rw[hR]at a b c;rw[hO]at a d;unfold ptS;rw[hR,hO];obtain⟨a1,b1,c1,e,he,hi⟩:=cut_spec hf.1 R R b nlr;refine⟨?_,b1,?_,?_⟩
   · show (cutN f R R).1 * (O * (cutN f R R).2)=m;rw[Nat.mul_left_comm,a1,Nat.mul_comm];exact a
   · intro x hx hd;rcases List.mem_append.1 hx with h | h
     · exact c x h (Nat.dvd_trans hd ⟨_,a1.symm⟩)
     · rw[List.mem_singleton.1 h]at hd;exact c1 hd
   · intro r hr hd;rcases prn_mul hr (show r ∣ O * (cutN f R R).2 from hd)with h | h
     · exact List.mem_append_left _ (d r hr h)
     · rw[he]at h;rw[prn_eq hr hf (prn_pw hr h)];exact List.mem_append_right _ List.mem_cons_self
theorem part_again{m:Nat}(hm:0<m){l:List Nat}(hl:∀ x∈l,PrN x){f:Nat}(hf:f∈l):partN m (l++[f])=partN m l:=by
 obtain⟨a,b,c,d⟩:=part_spec hm l hl;rw[part_snoc];unfold ptS;rw[cut_stop (fun h=>c f hf (Nat.dvd_of_mod_eq_zero h)),Nat.mul_one]
theorem part_new{m:Nat}(hm:0<m){l:List Nat}(hl:∀ x∈l,PrN x){f:Nat}(hp:PrN f)(hf:f∉l):f ∣ (partN m l).1↔f ∣ m:=by
 obtain⟨a,b,c,d⟩:=part_spec hm l hl;constructor
 · intro h;rw[←a];exact Nat.dvd_trans h ⟨_,rfl⟩
 · intro h;rw[←a]at h;rcases prn_mul hp h with h1 | h1
   · exact h1
   · exact absurd (d f hp h1) hf
def difN(l:List Nat):List Nat:=l.foldl (fun s f=>if f∈s then s else s++[f]) []
theorem dif_snoc(l:List Nat)(f:Nat):difN (l++[f])=if f∈difN l then difN l else difN l++[f]:=by unfold difN;rw[List.foldl_append];rfl
theorem dif_mem(l:List Nat):∀ x,x∈difN l↔x∈l:=by
 refine snoc_ind (P:=fun l=>∀ x,x∈difN l↔x∈l) (fun x=>Iff.rfl) ?_ l;intro l f ih x;rw[dif_snoc];by_cases h:f∈difN l
 · rw[if_pos h,ih,List.mem_append,List.mem_singleton];constructor
   · exact .inl
   · rintro(c | c)
     · exact c
     · rw[c];exact(ih f).1 h
 · rw[if_neg h,List.mem_append,ih,List.mem_append]
theorem part_dif{m:Nat}(hm:0<m)(l:List Nat):(∀ x∈l,PrN x)→partN m (difN l)=partN m l:=by
 refine snoc_ind (P:=fun l=>(∀ x∈l,PrN x)→partN m (difN l)=partN m l) (fun _=>rfl) ?_ l;intro l f ih hp;have hl:∀ x∈l,PrN x:=fun x hx=>hp x (List.mem_append_left _ hx);rw[dif_snoc];by_cases h:f∈difN l
 · rw[if_pos h,ih hl,part_again hm hl ((dif_mem l f).1 h)]
 · rw[if_neg h,part_snoc,part_snoc,ih hl]
def fndN(m:Nat):List Nat→List Nat→Bool
 | _,[]=>true
 | d,f::l=>decide (f ∣ (partN m d).1)&&fndN m (d++[f]) l
theorem fnd_dif{m:Nat}(hm:0<m):∀(l d:List Nat),(∀ x∈d++l,PrN x)→(d++l).Nodup→(fndN m d l=true↔∀ x∈l,x ∣ m)
 | [],d,_,_=>⟨fun _ x hx=>(by cases hx),fun _=>rfl⟩
 | f::l,d,hp,hn=>by
  have hp':∀ x∈d++[f]++l,PrN x:=by rw[List.append_assoc];exact hp
  have hn':(d++[f]++l).Nodup:=by rw[List.append_assoc];exact hn
  have ih:=fnd_dif hm l (d++[f]) hp' hn';have hf:f∉d:=fun h=>(List.nodup_append.1 hn).2.2 f h f List.mem_cons_self rfl;have hpf:=hp f (List.mem_append_right _ List.mem_cons_self);have hnew:=part_new hm (fun x hx=>hp x (List.mem_append_left _ hx)) hpf hf;unfold fndN;rw[Bool.and_eq_true,decide_eq_true_eq,ih,hnew,List.forall_mem_cons]
theorem dif_nodup(l:List Nat):(difN l).Nodup:=by
 refine snoc_ind (P:=fun l=>(difN l).Nodup) List.nodup_nil ?_ l;intro l f ih;rw[dif_snoc];by_cases h:f∈difN l
 · rw[if_pos h];exact ih
 · rw[if_neg h];refine List.nodup_append.2 ⟨ih,List.nodup_cons.2 ⟨(by intro c;cases c),List.nodup_nil⟩,fun a ha b hb=>?_⟩;rw[List.mem_singleton.1 hb];rintro rfl;exact h ha
theorem fnd_all{m:Nat}(hm:0<m){l:List Nat}(hp:∀ x∈l,PrN x):(fndN m [] (difN l)=true↔∀ x∈l,x ∣ m):=by
 rw[fnd_dif hm (difN l) [] (fun x hx=>hp x ((dif_mem l x).1 hx)) (dif_nodup l)];exact⟨fun h x hx=>h x ((dif_mem l x).2 hx),fun h x hx=>h x ((dif_mem l x).1 hx)⟩
end Go.Proofs.YtdhnkmbjogmmkaaGreatDoor

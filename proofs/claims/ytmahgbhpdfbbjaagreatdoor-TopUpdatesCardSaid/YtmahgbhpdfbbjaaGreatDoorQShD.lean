import Derived.Test.YtmahgbhpdfbbjaaGreatDoorQMrB
import Derived.Laws.CopyOwn
set_option linter.unusedVariables false
set_option linter.unusedSimpArgs false
namespace Go.Proofs.YtmahgbhpdfbbjaaGreatDoor
set_option maxRecDepth 1000000
open Go.RowKit
def PrN(n:Nat):Prop:=2≤n∧∀ k,k ∣ n→k=1∨k=n
def primo:Nat:=7420738134810
def ckP:Bool:=(List.range 256).all fun p=>decide (p<2)||decide (Nat.gcd p primo≠1)||(List.range (65536 / p+1)).all fun q=>decide (q<p)||decide (Nat.gcd q primo≠1)||decide (2 ^ (p * q - 1)%(p * q)≠1)||decide (3 ^ (p * q - 1)%(p * q)≠1)||decide (5 ^ (p * q - 1)%(p * q)≠1)
theorem ckP_ok:ckP=true:=by decide +kernel
theorem ckP_at{p q:Nat}(hp:2≤p)(hp2:p<256)(gp:Nat.gcd p primo=1)(hq:p≤q)(gq:Nat.gcd q primo=1)(hpq:p * q<65536):¬ (2 ^ (p * q - 1)%(p * q)=1∧3 ^ (p * q - 1)%(p * q)=1∧5 ^ (p * q - 1)%(p * q)=1):=by
 have h:=List.all_eq_true.1 ckP_ok p (List.mem_range.2 hp2);rw[decide_eq_false (show ¬ p<2 by omega),decide_eq_false (fun c=>c gp),Bool.false_or,Bool.false_or]at h;have h2:=List.all_eq_true.1 h q (List.mem_range.2 (Nat.lt_succ_of_le ((Nat.le_div_iff_mul_le (by omega)).2 (by rw[Nat.mul_comm];omega))));rw[decide_eq_false (show ¬ q<p by omega),decide_eq_false (fun c=>c gq),Bool.false_or,Bool.false_or,Bool.or_eq_true,Bool.or_eq_true,decide_eq_true_eq,decide_eq_true_eq,decide_eq_true_eq]at h2;rintro⟨a,b,c⟩;rcases h2 with(h2 | h2) | h2
 · exact h2 a
 · exact h2 b
 · exact h2 c
theorem sq_last{n:Nat}(h:2≤n):(n - 1) * (n - 1)%n=1:=by
 obtain⟨m,rfl⟩:∃ m,n=m+2:=⟨n - 2,by omega⟩;have : (m+2 - 1) * (m+2 - 1)=1+(m+2) * m:=(by rw[show m+2 - 1=m+1 from rfl];simp only[Nat.add_mul,Nat.mul_add];omega);rw[this,Nat.add_mul_mod_self_left];exact Nat.mod_eq_of_lt (by omega)
theorem one_pw{n x:Nat}(h:2≤n)(hx:x%n=1)(k:Nat):x ^ k%n=1:=by
 have:=powc (m:=n) (a:=x) (b:=1) (by rw[hx];exact(Nat.mod_eq_of_lt (by omega)).symm) k;rw[this,Nat.one_pow];exact Nat.mod_eq_of_lt (by omega)
theorem strong_fermat{n a s d:Nat}(hn:2≤n)(hsd:2 ^ s * d=n - 1)(h:strongB n a s d=true):a ^ (n - 1)%n=1:=by
 unfold strongB at h;rw[Bool.or_eq_true,decide_eq_true_eq,List.any_eq_true]at h;rcases h with h | ⟨i,hi,h⟩
 · rw[←hsd,Nat.mul_comm,Nat.pow_mul];exact one_pw hn h _
 · rw[decide_eq_true_eq]at h;have hi:=List.mem_range.1 hi;have e:n - 1=d * 2 ^ i * 2 * 2 ^ (s - i - 1):=by
    rw[←hsd,Nat.mul_comm (2 ^ s),Nat.mul_assoc,Nat.mul_assoc];congr 1;rw[←Nat.pow_succ',←Nat.pow_add];congr 1;omega
   rw[e,Nat.pow_mul];refine one_pw hn ?_ _;rw[Nat.pow_mul,Nat.pow_two,Nat.mul_mod,h];exact sq_last hn
theorem prn_small:∀ j,j<12→∀ k,k<38→k ∣ bsN j→k=1∨k=bsN j:=by decide +kernel
theorem bs_range:∀ j,j<12→2≤bsN j∧bsN j<38:=by decide +kernel
theorem prn_bs{j:Nat}(hj:j<12):PrN (bsN j):=⟨(bs_range j hj).1,fun k hk=>prn_small j hj k (Nat.lt_of_le_of_lt (Nat.le_of_dvd (by have:=(bs_range j hj).1;omega) hk) (bs_range j hj).2) hk⟩
theorem prn_cop{p r:Nat}(hr:PrN r)(h:¬ r ∣ p):Nat.gcd p r=1:=by
 rcases hr.2 _ (Nat.gcd_dvd_right p r)with e | e
 · exact e
 · exact absurd (e▸Nat.gcd_dvd_left p r) h
theorem primo_eq:primo=bsN 0 * (bsN 1 * (bsN 2 * (bsN 3 * (bsN 4 * (bsN 5 * (bsN 6 * (bsN 7 * (bsN 8 * (bsN 9 * (bsN 10 * bsN 11)))))))))):=by decide +kernel
theorem cop_primo{p:Nat}(h:∀ j,j<12→¬ bsN j ∣ p):Nat.gcd p primo=1:=by
 have c:∀ j,j<12→Nat.Coprime p (bsN j):=fun j hj=>prn_cop (prn_bs hj) (h j hj);rw[primo_eq];exact(c 0 (by decide)).mul_right ((c 1 (by decide)).mul_right ((c 2 (by decide)).mul_right ((c 3 (by decide)).mul_right ((c 4 (by decide)).mul_right ((c 5 (by decide)).mul_right ((c 6 (by decide)).mul_right ((c 7 (by decide)).mul_right ((c 8 (by decide)).mul_right ((c 9 (by decide)).mul_right ((c 10 (by decide)).mul_right (c 11 (by decide))))))))))))
theorem prn_of_isN{n:Nat}(hn:n<65536)(h:isN n=true):PrN n:=by
 have h2:2≤n:=by
  rcases Nat.lt_or_ge n 2 with h' | h'
  · rw[isN_lt h']at h;cases h
  · exact h'
 rcases isN_cases h2 with⟨i,hi,_,_,e⟩ | ⟨hd,e⟩
 · rw[e,decide_eq_true_eq]at h;rw[h];exact prn_bs hi
 · rw[e]at h;refine⟨h2,fun k hk=>?_⟩;obtain⟨m,hm⟩:=hk;rcases Nat.lt_or_ge k 2 with h0 | h0
   · rcases Nat.eq_zero_or_pos k with z | z
     · rw[z,Nat.zero_mul]at hm;omega
     · exact .inl (by omega)
   · rcases Nat.lt_or_ge m 2 with m0 | m0
     · rcases Nat.eq_zero_or_pos m with z | z
       · rw[z,Nat.mul_zero]at hm;omega
       · exact .inr (by rw[hm,show m=1 from by omega,Nat.mul_one])
     · exfalso;have key:∀ p q:Nat,n=p * q→2≤p→p≤q→False:=by
        intro p q hpq hp hle;have hp2:p<256:=by
         rcases Nat.lt_or_ge p 256 with h | h
         · exact h
         · have : 256 * 256≤p * q:=Nat.mul_le_mul h (Nat.le_trans h hle);omega
        have nd:∀ x,x ∣ n→∀ j,j<12→¬ bsN j ∣ x:=fun x hx j hj hb=>hd j hj (Nat.mod_eq_zero_of_dvd (Nat.dvd_trans hb hx));have gp:=cop_primo (nd p ⟨q,hpq⟩);have gq:=cop_primo (nd q ⟨p,by rw[hpq,Nat.mul_comm]⟩);obtain⟨sd,_⟩:=sd_spec h2 (by omega);have fer:∀ j,j<12→bsN j ^ (n - 1)%n=1:=fun j hj=>strong_fermat h2 sd (by unfold allB at h;exact List.all_eq_true.1 h j (List.mem_range.2 hj));refine ckP_at hp hp2 gp hle gq (by omega) ?_;rw[←hpq];exact⟨fer 0 (by decide),fer 1 (by decide),fer 2 (by decide)⟩
       rcases Nat.le_total k m with hkm | hkm
       · exact key k m hm h0 hkm
       · exact key m k (by rw[hm,Nat.mul_comm]) m0 hkm
theorem prn_gcd{p q:Nat}(hp:PrN p)(hq:PrN q)(h:p≠q):Nat.gcd p q=1:=by
 rcases hp.2 _ (Nat.gcd_dvd_left p q)with e | e
 · exact e
 · rcases hq.2 _ (Nat.gcd_dvd_right p q)with f | f
   · exact f
   · exact absurd (e.symm.trans f) h
theorem prn_prod{u:Nat}(hu:PrN u):∀ {l:List ByteArray},(∀ x∈l,PrN (num x)∧num x≠u)→Nat.gcd u (prodN l)=1
 | [],_=>Nat.gcd_one_right u
 | x::l,h=>by
  have h1:Nat.Coprime u (num x):=prn_gcd hu (h x List.mem_cons_self).1 (h x List.mem_cons_self).2.symm;have h2:Nat.Coprime u (prodN l):=prn_prod hu (fun y hy=>h y (List.mem_cons_of_mem _ hy));exact h1.mul_right h2
theorem prodN_perm{l m:List ByteArray}(h:l.Perm m):prodN l=prodN m:=by
 induction h with
 | nil=>rfl
 | cons x _ ih=>rw[prodN,prodN,ih]
 | swap x y l=>rw[prodN,prodN,prodN,prodN,Nat.mul_left_comm]
 | trans _ _ ih1 ih2=>exact ih1.trans ih2
theorem prod_chg{A B AD RM:List ByteArray}(hA:A.Nodup)(hB:B.Nodup)(nA:AD.Nodup)(nR:RM.Nodup)(ha:∀ x,x∈AD↔x∈B∧x∉A)(hr:∀ x,x∈RM↔x∈A∧x∉B):prodN A * prodN AD=prodN B * prodN RM:=by
 rw[←prodN_append,←prodN_append];refine prodN_perm ((List.perm_ext_iff_of_nodup ?_ ?_).2 fun x=>?_)
 · exact List.nodup_append.2 ⟨hA,nA,fun x hx y hy e=>((ha y).1 hy).2 (e▸hx)⟩
 · exact List.nodup_append.2 ⟨hB,nR,fun x hx y hy e=>((hr y).1 hy).2 (e▸hx)⟩
 · rw[List.mem_append,List.mem_append,ha,hr];by_cases h1:x∈A<;>by_cases h2:x∈B<;>simp[h1,h2]
theorem prodN_dvd{u:ByteArray}:∀ {l:List ByteArray},u∈l→num u ∣ prodN l
 | x::l,h=>by
  rw[prodN];rcases List.mem_cons.1 h with rfl | h
  · exact⟨prodN l,rfl⟩
  · exact Nat.dvd_trans (prodN_dvd h) ⟨num x,Nat.mul_comm _ _⟩
def wi(x:BitVec 32):Int:=(x.toNat:Int)
structure W8 where
 a:BitVec 32
 b:BitVec 32
 c:BitVec 32
 d:BitVec 32
 e:BitVec 32
 f:BitVec 32
 g:BitVec 32
 h:BitVec 32
def rr(x:BitVec 32)(n:Nat):BitVec 32:=x >>> n ||| x <<< (32 - n)
def sg0(x:BitVec 32):BitVec 32:=rr x 7 ^^^ rr x 18 ^^^ x >>> 3
def sg1(x:BitVec 32):BitVec 32:=rr x 17 ^^^ rr x 19 ^^^ x >>> 10
def wd(m:List UInt8)(i:Nat):BitVec 32:=BitVec.ofNat 32 ((((m.getD (4 * i) 0).toNat * 256+(m.getD (4 * i+1) 0).toNat) * 256+(m.getD (4 * i+2) 0).toNat) * 256+(m.getD (4 * i+3) 0).toNat)
def wf(w:List (BitVec 32))(n:Nat):BitVec 32:=w.getD (n - 16) 0+sg0 (w.getD (n - 15) 0)+w.getD (n - 7) 0+sg1 (w.getD (n - 2) 0)
def wl(m:List UInt8):Nat→List (BitVec 32)
 | 0=>[]
 | n+1=>wl m n++[if n<16 then wd m n else wf (wl m n) n]
def wv(m:List UInt8)(i:Nat):BitVec 32:=(wl m (i+1)).getD i 0
def kL:List Nat:=[
 0x428a2f98,0x71374491,0xb5c0fbcf,0xe9b5dba5,0x3956c25b,0x59f111f1,0x923f82a4,0xab1c5ed5,
 0xd807aa98,0x12835b01,0x243185be,0x550c7dc3,0x72be5d74,0x80deb1fe,0x9bdc06a7,0xc19bf174,
 0xe49b69c1,0xefbe4786,0x0fc19dc6,0x240ca1cc,0x2de92c6f,0x4a7484aa,0x5cb0a9dc,0x76f988da,
 0x983e5152,0xa831c66d,0xb00327c8,0xbf597fc7,0xc6e00bf3,0xd5a79147,0x06ca6351,0x14292967,
 0x27b70a85,0x2e1b2138,0x4d2c6dfc,0x53380d13,0x650a7354,0x766a0abb,0x81c2c92e,0x92722c85,
 0xa2bfe8a1,0xa81a664b,0xc24b8b70,0xc76c51a3,0xd192e819,0xd6990624,0xf40e3585,0x106aa070,
 0x19a4c116,0x1e376c08,0x2748774c,0x34b0bcb5,0x391c0cb3,0x4ed8aa4a,0x5b9cca4f,0x682e6ff3,
 0x748f82ee,0x78a5636f,0x84c87814,0x8cc70208,0x90befffa,0xa4506ceb,0xbef9a3f7,0xc67178f2]
def kv(i:Nat):BitVec 32:=BitVec.ofNat 32 (kL.getD i 0)
def tv(k w:BitVec 32)(s:W8):BitVec 32:=s.h+(rr s.e 6 ^^^ rr s.e 11 ^^^ rr s.e 25)+(s.e &&& s.f ^^^ ~~~ s.e &&& s.g)+k+w
def uv(s:W8):BitVec 32:=(rr s.a 2 ^^^ rr s.a 13 ^^^ rr s.a 22)+(s.a &&& s.b ^^^ s.a &&& s.c ^^^ s.b &&& s.c)
def rd(k w:BitVec 32)(s:W8):W8:=⟨tv k w s+uv s,s.a,s.b,s.c,s.d+tv k w s,s.e,s.f,s.g⟩
def rds(m:List UInt8)(s:W8):Nat→W8
 | 0=>s
 | n+1=>rd (kv n) (wv m n) (rds m s n)
def W8.add(s t:W8):W8:=⟨s.a+t.a,s.b+t.b,s.c+t.c,s.d+t.d,s.e+t.e,s.f+t.f,s.g+t.g,s.h+t.h⟩
def blk(s:W8)(m:List UInt8):W8:=(rds m s 64).add s
def st0:W8:=⟨BitVec.ofNat 32 0x6a09e667,BitVec.ofNat 32 0xbb67ae85,BitVec.ofNat 32 0x3c6ef372,BitVec.ofNat 32 0xa54ff53a,BitVec.ofNat 32 0x510e527f,BitVec.ofNat 32 0x9b05688c,BitVec.ofNat 32 0x1f83d9ab,BitVec.ofNat 32 0x5be0cd19⟩
def blks(s:W8):Nat→List UInt8→W8
 | 0,_=>s
 | n+1,m=>blks (blk s (m.take 64)) n (m.drop 64)
def shE8(n:Nat):List UInt8:=[UInt8.ofNat (n / 2 ^ 56),UInt8.ofNat (n / 2 ^ 48),UInt8.ofNat (n / 2 ^ 40),UInt8.ofNat (n / 2 ^ 32),UInt8.ofNat (n / 2 ^ 24),UInt8.ofNat (n / 2 ^ 16),UInt8.ofNat (n / 2 ^ 8),UInt8.ofNat n]
def zs(n:Nat):Nat:=(119 - n%64)%64
def padL(l:List UInt8):List UInt8:=l++[128]++List.replicate (zs l.length) 0++shE8 (l.length * 8)
def wo(x:BitVec 32):List UInt8:=[UInt8.ofNat (x.toNat / 2 ^ 24),UInt8.ofNat (x.toNat / 2 ^ 16),UInt8.ofNat (x.toNat / 2 ^ 8),UInt8.ofNat x.toNat]
def W8.ws(s:W8):List (BitVec 32):=[s.a,s.b,s.c,s.d,s.e,s.f,s.g,s.h]
def shaL(l:List UInt8):List UInt8:=(blks st0 ((padL l).length / 64) (padL l)).ws.flatMap wo
def xorL(k:List UInt8)(x:UInt8):List UInt8:=(List.range 64).map fun i=>k.getD i 0 ^^^ x
def macL(k l:List UInt8):List UInt8:=
 let k:=if 64<k.length then shaL k else k
 shaL (xorL k 92++shaL (xorL k 54++l))
def W8.arr(s:W8):Array Value:=#[.int .u32 (wi s.a),.int .u32 (wi s.b),.int .u32 (wi s.c),.int .u32 (wi s.d),.int .u32 (wi s.e),.int .u32 (wi s.f),.int .u32 (wi s.g),.int .u32 (wi s.h)]
def wz(m:List UInt8)(k:Nat)(j:Nat):BitVec 32:=if j<k then wv m j else 0
end Go.Proofs.YtmahgbhpdfbbjaaGreatDoor

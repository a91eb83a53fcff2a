import Derived.Lib.Hide
import Derived.WalkSpells
import Derived.WalkLawsBesides
set_option linter.unusedVariables false
set_option linter.unusedSimpArgs false
namespace Go.Proofs.YtkfgdcgmlobhfaaGreat
theorem Hq{p:Prop}(h:p):Go.RowKit.Hid p:=h
open Go.RowKit in
theorem blr{B:Nat}{w:World}:Below B w w:=Below.refl B w
theorem nlr{n:Nat}:n≤n:=Nat.le_refl n
def bnat(l:List UInt8):Nat:=l.foldl (fun n b=>n * 256+b.toNat) 0
def encF:Nat→Nat→List UInt8
 | 0,_=>[]
 | k+1,n=>if n=0 then []else encF k (n / 256)++[UInt8.ofNat (n%256)]
def encN(n:Nat):List UInt8:=encF n n
def kd(l:List UInt8):List UInt8:=l.dropWhile (· == 0)
def zad(l:List UInt8):Prop:=l.head? ≠ some 0
theorem zfe(l:List UInt8)(a:Nat):l.foldl (fun n b=>n * 256+b.toNat) a=a * 256 ^ l.length+bnat l:=by
 induction l generalizing a with
 | nil=>simp[bnat]
 | cons x l ih =>
  have h1:=ih (a * 256+x.toNat);have h2:=ih (0 * 256+x.toNat);simp only[List.foldl_cons,bnat,List.length_cons]at *;rw[h1,h2];simp only[Nat.pow_succ];rw[Nat.add_mul,Nat.zero_mul,Nat.zero_add,Nat.mul_assoc,Nat.mul_comm 256,Nat.add_assoc]
theorem xy(x:UInt8)(l:List UInt8):bnat (x::l)=x.toNat * 256 ^ l.length+bnat l:=by
 have:=zfe l (0 * 256+x.toNat);simp only[bnat,List.foldl_cons]at *;rw[this];simp
theorem zbt(l m:List UInt8):bnat (l++m)=bnat l * 256 ^ m.length+bnat m:=by
 have:=zfe m (bnat l);rw[←this];simp[bnat,List.foldl_append]
theorem za4(l:List UInt8)(x:UInt8):bnat (l++[x])=bnat l * 256+x.toNat:=by
 rw[zbt];simp[bnat]
theorem zan(l:List UInt8):bnat l<256 ^ l.length:=by
 induction l with
 | nil=>simp[bnat]
 | cons x l ih =>
  rw[xy,List.length_cons,Nat.pow_succ];have hx:=x.toNat_lt;have : x.toNat * 256 ^ l.length+256 ^ l.length≤256 * 256 ^ l.length:=by
   rw[←Nat.succ_mul];exact Nat.mul_le_mul_right _ (by omega)
  rw[Nat.mul_comm (256 ^ l.length)];omega
theorem zm2(x:UInt8)(l:List UInt8)(hx:x≠0):256 ^ l.length≤bnat (x::l):=by
 rw[xy];have : 1≤x.toNat:=by
  rcases Nat.eq_zero_or_pos x.toNat with h | h
  · exact absurd (UInt8.toNat_inj.1 (by simpa using h)) hx
  · exact h
 have:=Nat.mul_le_mul_right (256 ^ l.length) this;omega
theorem zh6(l:List UInt8):zad (kd l):=by
 induction l with
 | nil=>simp[kd,zad]
 | cons x l ih =>
  unfold kd at *;rw[List.dropWhile_cons];by_cases h:(x==0)=true
  · rw[if_pos h];exact ih
  · rw[if_neg h];simpa[zad]using h
theorem zk7(l:List UInt8):bnat (kd l)=bnat l:=by
 induction l with
 | nil=>rfl
 | cons x l ih =>
  unfold kd at *;rw[List.dropWhile_cons];by_cases h:(x==0)=true
  · rw[if_pos h,ih,xy];have : x=0:=by simpa using h
    subst this;simp
  · rw[if_neg h]
theorem zel{l:List UInt8}(h:zad l):kd l=l:=by
 cases l with
 | nil=>rfl
 | cons x l =>
  unfold kd zad at *;rw[List.dropWhile_cons,if_neg];simpa using h
theorem zck:zad []:=by simp[zad]
theorem kn{x:UInt8}{l:List UInt8}:zad (x::l)↔x≠0:=by simp[zad]
theorem yz(n:Nat):(UInt8.ofNat (n%256)).toNat=n%256:=by
 simp[UInt8.toNat_ofNat']
theorem zht(k n:Nat)(h:n≤k):bnat (encF k n)=n:=by
 induction k generalizing n with
 | zero => have : n = 0 := by omega
           subst this;rfl
 | succ k ih =>
  unfold encF;by_cases h0:n=0
  · rw[if_pos h0,h0];rfl
  · rw[if_neg h0,za4,ih (n / 256) (by omega),yz];omega
theorem zk5(k n:Nat)(h:n≤k):zad (encF k n):=by
 induction k generalizing n with
 | zero=>exact zck
 | succ k ih =>
  unfold encF;by_cases h0:n=0
  · rw[if_pos h0];exact zck
  · rw[if_neg h0];by_cases h1:n / 256=0
    · have : encF k (n / 256)=[]:=by rw[h1];cases k<;>simp[encF]
      rw[this,List.nil_append,kn];intro e;have:=congrArg UInt8.toNat e;rw[yz]at this;simp at this;omega
    · have hc:=ih (n / 256) (by omega);have hb:=zht k (n / 256) (by omega)
      cases hl:encF k (n / 256)with
      | nil=>rw[hl]at hb;exact absurd hb.symm h1
      | cons x l=>rw[hl]at hc;exact kn.2 (kn.1 hc)
theorem xi(n:Nat):bnat (encN n)=n:=zht n n (Nat.le_refl n)
theorem kz(n:Nat):zad (encN n):=zk5 n n (Nat.le_refl n)
theorem ql{a b:List UInt8}(hb:zad b)(h:a.length<b.length):bnat a<bnat b:=by
 cases b with
 | nil=>simp at h
 | cons x l =>
  have h1:=zm2 x l (kn.1 hb);have h2:=zan a;have h3:256 ^ a.length≤256 ^ l.length:=Nat.pow_le_pow_right (by omega) (by simp at h;omega);omega
theorem zh1{a b:List UInt8}(hl:a.length=b.length)(h:bnat a=bnat b):a=b:=by
 induction a generalizing b with
 | nil=>cases b with
  | nil=>rfl
  | cons y m=>simp at hl
 | cons x l ih=>cases b with
  | nil=>simp at hl
  | cons y m =>
   have hlm:l.length=m.length:=by simpa using hl
   rw[xy,xy,hlm]at h;have h1:=zan l;have h2:=zan m;rw[hlm]at h1;have hp:0<256 ^ m.length:=Nat.pow_pos (by omega);have hx:x.toNat=y.toNat:=by
    have e1:(x.toNat * 256 ^ m.length+bnat l) / 256 ^ m.length=x.toNat:=(by rw[Nat.add_comm,Nat.add_mul_div_right _ _ hp,Nat.div_eq_of_lt h1];omega);have e2:(y.toNat * 256 ^ m.length+bnat m) / 256 ^ m.length=y.toNat:=(by rw[Nat.add_comm,Nat.add_mul_div_right _ _ hp,Nat.div_eq_of_lt h2];omega);rw[←e1,h,e2]
   have hxy:x=y:=UInt8.toNat_inj.1 hx;subst hxy;rw[ih hlm (by omega)]
theorem zm0{a b:List UInt8}(ha:zad a)(hb:zad b)(h:bnat a=bnat b):a=b:=by
 rcases Nat.lt_trichotomy a.length b.length with hl | hl | hl
 · have:=ql hb hl;omega
 · exact zh1 hl h
 · have:=ql ha hl;omega
theorem zch{l:List UInt8}(h:zad l):encN (bnat l)=l:=zm0 (kz _) h (xi _)
theorem ziz(l:List UInt8):kd l=encN (bnat l):=by rw[←zk7,zch (zh6 l)]
theorem zea{n:Nat}:encN n=[]↔n=0:=⟨fun h=>by rw[←xi n,h];rfl,fun h=>by rw[h];rfl⟩
theorem xw{n k:Nat}:(encN n).length≤k↔n<256 ^ k:=by
 constructor
 · intro h;have:=zan (encN n);rw[xi]at this;exact Nat.lt_of_lt_of_le this (Nat.pow_le_pow_right (by omega) h)
 · intro h
   cases hl:encN n with
   | nil=>simp
   | cons x l =>
    have hc:=kz n;rw[hl]at hc;have h1:=zm2 x l (kn.1 hc);rw[←hl,xi]at h1;rcases Nat.lt_or_ge l.length k with h2 | h2
    · (simp only[List.length_cons];omega)
    · have:=Nat.pow_le_pow_right (show 0<256 by omega) h2;omega
theorem zar{m n:Nat}(h:m≤n):(encN m).length≤(encN n).length:=
 xw.2 (Nat.lt_of_le_of_lt h (xw.1 nlr))
def cmpI(a b:Nat):Int:=if a<b then -1 else if b<a then 1 else 0
theorem zam{p a b:List UInt8}{x y:UInt8}(hl:a.length=b.length)(h:x.toNat<y.toNat):bnat (p++x::a)<bnat (p++y::b):=by
 rw[zbt,zbt,xy,xy,List.length_cons,List.length_cons,hl];have h1:=zan a;rw[hl]at h1;have h2:(x.toNat+1) * 256 ^ b.length≤y.toNat * 256 ^ b.length:=Nat.mul_le_mul_right _ h;rw[Nat.succ_mul]at h2;omega
theorem ks{a b:Nat}(h:a<b):cmpI a b = -1:=by simp[cmpI,h]
theorem zit{a b:Nat}(h:b<a):cmpI a b=1:=by simp[cmpI,h];omega
def ordL(a b:List UInt8):Int:=if a.length<b.length then -1 else if b.length<a.length then 1 else cmpI (bnat a) (bnat b)
theorem ze6{a b:List UInt8}(ha:zad a)(hb:zad b):ordL a b=cmpI (bnat a) (bnat b):=by
 unfold ordL;split
 · rw[ks (ql hb ‹_›)]
 · split
   · rw[zit (ql ha ‹_›)]
   · rfl
theorem ze5{a b:List UInt8}{k:Nat}(hl:a.length=b.length)(hk:k<a.length)(he:a.take k=b.take k)(h:(a.getD k 0).toNat<(b.getD k 0).toNat) :
 ordL a b = -1∧ordL b a=1:=by
 have ea:a=b.take k++a.getD k 0::a.drop (k+1):=(by rw[←he,List.getD_eq_getElem?_getD,List.getElem?_eq_getElem hk,Option.getD_some,List.getElem_cons_drop,List.take_append_drop]);have eb:b=b.take k++b.getD k 0::b.drop (k+1):=(by rw[List.getD_eq_getElem?_getD,List.getElem?_eq_getElem (by omega),Option.getD_some,List.getElem_cons_drop,List.take_append_drop]);have hlt:bnat a<bnat b:=(by have:=zam (p:=b.take k) (a:=a.drop (k+1)) (b:=b.drop (k+1)) (by simp[hl]) h;rw[←ea,←eb]at this;exact this);constructor
 · unfold ordL;rw[if_neg (by omega),if_neg (by omega),ks hlt]
 · unfold ordL;rw[if_neg (by omega),if_neg (by omega),zit hlt]
theorem zl5{a b:List UInt8}(h:a=b):ordL a b=0:=by subst h;simp[ordL,cmpI]
theorem zdg{x0 x1:Int}{q:Nat}(h:(x0≤0∧0≤x1)∨(0≤x0∧x1≤0)):(x0 - q * x1).natAbs=x0.natAbs+q * x1.natAbs∧((x1≤0∧0≤x0 - q * x1)∨(0≤x1∧x0 - q * x1≤0)):=by
 rcases h with⟨h0,h1⟩ | ⟨h0,h1⟩
 · have hp:0≤(q:Int) * x1:=Int.mul_nonneg (by omega) h1;have e:((q * x1.natAbs:Nat):Int)=q * x1:=by rw[Int.natCast_mul];congr 1;omega
   exact⟨by omega,.inr ⟨h1,by omega⟩⟩
 · have hp:(q:Int) * x1≤0:=Int.mul_nonpos_of_nonneg_of_nonpos (by omega) h1;have e:((q * x1.natAbs:Nat):Int) = -(q * x1):=by rw[Int.natCast_mul,←Int.mul_neg];congr 1;omega
   exact⟨by omega,.inl ⟨h1,by omega⟩⟩
theorem zj6{r0 r1 s0 s1:Nat}(h:0<r1):(s0+r0 / r1 * s1) * r1+s1 * (r0%r1)=s1 * r0+s0 * r1:=by
 have e:=Nat.div_add_mod r0 r1;have e2:s1 * r0=s1 * (r1 * (r0 / r1))+s1 * (r0%r1):=by rw[←Nat.mul_add,e]
 have e3:s1 * (r1 * (r0 / r1))=r0 / r1 * s1 * r1:=by rw[Nat.mul_comm r1,←Nat.mul_assoc,Nat.mul_comm s1]
 rw[e2,e3,Nat.add_mul];omega
structure EIw (a b r0 r1:Nat) (x0 x1 y0 y1:Int):Prop where
 e0:(a:Int) * x0+b * y0=r0
 e1:(a:Int) * x1+b * y1=r1
 bx:x1.natAbs * r0+x0.natAbs * r1=b
 bY:y1.natAbs * r0+y0.natAbs * r1=a
 sx:(x0≤0∧0≤x1)∨(0≤x0∧x1≤0)
 sy:(y0≤0∧0≤y1)∨(0≤y0∧y1≤0)
 gc:Nat.gcd r0 r1=Nat.gcd a b
 pos:0<r0
 lx:x0.natAbs * r0<b∨r1=b
 lt:x1=0∨r1<r0
theorem EIw.start{a b:Nat}(ha:0<a):EIw a b a b 1 0 0 1:=
 ⟨by simp,by simp,by simp,by simp,.inr ⟨by decide,by decide⟩,.inl ⟨by decide,by decide⟩,rfl,ha,.inr rfl,.inl rfl⟩
theorem EIw.step{a b r0 r1:Nat}{x0 x1 y0 y1:Int}(hb:0<b)(h:EIw a b r0 r1 x0 x1 y0 y1)(h1:0<r1):EIw a b r1 (r0%r1) x1 (x0 - (r0 / r1:Nat) * x1) y1 (y0 - (r0 / r1:Nat) * y1):=by
 have ax:=zdg (q:=r0 / r1) h.sx;have ay:=zdg (q:=r0 / r1) h.sy;have em:((r0%r1:Nat):Int)=r0 - (r0 / r1:Nat) * r1:=by
  have:=Nat.div_add_mod r0 r1;have e:((r1 * (r0 / r1)+r0%r1:Nat):Int)=r0:=by rw[this]
  rw[Int.natCast_add,Int.natCast_mul]at e;rw[Int.mul_comm]at e;omega
 refine⟨h.e1,?_,?_,?_,ax.2,ay.2,?_,h1,.inl ?_,.inr (Nat.mod_lt _ h1)⟩
 · rw[em,←h.e0,←h.e1,Int.mul_sub,Int.mul_sub,Int.mul_add];rw[←Int.mul_assoc (a:Int),Int.mul_comm (a:Int) ((r0 / r1:Nat):Int),Int.mul_assoc,←Int.mul_assoc (b:Int),Int.mul_comm (b:Int) ((r0 / r1:Nat):Int),Int.mul_assoc];omega
 · rw[ax.1,zj6 h1];exact h.bx
 · rw[ay.1,zj6 h1];exact h.bY
 · rw[←h.gc,Nat.gcd_comm r1,←Nat.gcd_rec,Nat.gcd_comm]
 · have hb2:=h.bx;rcases h.lt with e | e
   · rw[e];simpa using hb
   · rcases Nat.eq_zero_or_pos x1.natAbs with z | z
     · rw[z];simpa using hb
     · have:=Nat.mul_lt_mul_of_pos_left e z;omega
theorem EIw.small{a b r0 r1:Nat}{x0 x1 y0 y1:Int}(hb0:0<b)(h:EIw a b r0 r1 x0 x1 y0 y1)(h1:0<r1)(N:Nat)(ha:a<N)(hb:b<N) :
 x0.natAbs<N∧x1.natAbs<N∧y0.natAbs<N∧y1.natAbs<N∧((r0 / r1:Nat) * x1).natAbs<N∧((r0 / r1:Nat) * y1).natAbs<N:=by
 have hbx:=h.bx;have hby:=h.bY;have m0:x0.natAbs≤x0.natAbs * r1:=Nat.le_mul_of_pos_right _ h1;have m1:x1.natAbs≤x1.natAbs * r0:=Nat.le_mul_of_pos_right _ h.pos;have n0:y0.natAbs≤y0.natAbs * r1:=Nat.le_mul_of_pos_right _ h1;have n1:y1.natAbs≤y1.natAbs * r0:=Nat.le_mul_of_pos_right _ h.pos;have hs:=h.step hb0 h1;have ax:=(zdg (q:=r0 / r1) h.sx).1;have ay:=(zdg (q:=r0 / r1) h.sy).1;have sx:=hs.bx;have sy:=hs.bY;have p0:(x0 - (r0 / r1:Nat) * x1).natAbs≤(x0 - (r0 / r1:Nat) * x1).natAbs * r1:=Nat.le_mul_of_pos_right _ h1;have p1:(y0 - (r0 / r1:Nat) * y1).natAbs≤(y0 - (r0 / r1:Nat) * y1).natAbs * r1:=Nat.le_mul_of_pos_right _ h1;have q0:((r0 / r1:Nat) * x1).natAbs=r0 / r1 * x1.natAbs:=by rw[Int.natAbs_mul,Int.natAbs_natCast]
 have q1:((r0 / r1:Nat) * y1).natAbs=r0 / r1 * y1.natAbs:=by rw[Int.natAbs_mul,Int.natAbs_natCast]
 refine⟨by omega,by omega,by omega,by omega,by omega,by omega⟩
theorem EIw.last{a b r0:Nat}{x0 x1 y0 y1:Int}(hb:0<b)(h:EIw a b r0 0 x0 x1 y0 y1):r0=Nat.gcd a b∧0<r0∧x0.natAbs * r0<b∧(a:Int) * x0+b * y0=r0:=by
 refine⟨by rw[←h.gc,Nat.gcd_zero_right],h.pos,?_,h.e0⟩;rcases h.lx with e | e
 · exact e
 · omega
def Bzt(a b:Nat)(x y:Int):Prop:=0≤x∧x<(b / Nat.gcd a b:Nat)∧(a:Int) * x+b * y=Nat.gcd a b
theorem zd6{a b:Nat}(hb:0<b):0<Nat.gcd a b:=Nat.gcd_pos_of_pos_right a hb
theorem zdv{a b:Nat}(hb:0<b):(a:Int)=(a / Nat.gcd a b:Nat) * (Nat.gcd a b:Nat)∧(b:Int)=(b / Nat.gcd a b:Nat) * (Nat.gcd a b:Nat):=by
 constructor
 · rw[←Int.natCast_mul,Nat.div_mul_cancel (Nat.gcd_dvd_left a b)]
 · rw[←Int.natCast_mul,Nat.div_mul_cancel (Nat.gcd_dvd_right a b)]
theorem Bzt.eq{a b:Nat}{x y x' y':Int}(hb:0<b)(h:Bzt a b x y)(h':Bzt a b x' y'):x=x'∧y=y':=by
 obtain⟨h1,h2,h3⟩:=h;obtain⟨k1,k2,k3⟩:=h';obtain⟨pa,pb⟩:=zdv (a:=a) hb;have hg:=zd6 (a:=a) hb;obtain⟨g,hgg⟩:∃ g,Nat.gcd a b=g:=⟨_,rfl⟩;have hco:Nat.Coprime (b / g) (a / g):=(by rw[←hgg];exact(Nat.coprime_div_gcd_div_gcd hg).symm);rw[hgg]at h2 h3 k2 k3 pa pb hg;obtain⟨A,hA⟩:∃ A,a / g=A:=⟨_,rfl⟩;obtain⟨B,hB⟩:∃ B,b / g=B:=⟨_,rfl⟩;rw[hA,hB]at hco;rw[hA]at pa;rw[hB]at pb h2 k2;have e:(g:Int) * (A * (x - x'))=g * (B * (y' - y)):=by
  have e1:(a:Int) * x+b * y=a * x'+b * y':=h3.trans k3.symm;rw[pa,pb]at e1
  grind
 have hg':(g:Int)≠0:=by omega
 have e2:=Int.eq_of_mul_eq_mul_left hg' e;have hd:(B:Int) ∣ A * (x - x'):=⟨y' - y,e2⟩;have hd2:(B:Int) ∣ (x - x'):=(by have:=Int.natAbs_dvd_natAbs.2 hd;rw[Int.natAbs_mul,Int.natAbs_natCast,Int.natAbs_natCast]at this;have:=hco.dvd_of_dvd_mul_left this;exact Int.natAbs_dvd_natAbs.1 (by rw[Int.natAbs_natCast];exact this));have hx:x=x':=by
  obtain⟨q,hq⟩:=hd2;have hB0:0<(B:Int):=by omega
  have : q=0:=by
   rcases Int.lt_trichotomy q 0 with c | c | c
   · have : (B:Int) * q≤B * (-1):=Int.mul_le_mul_of_nonneg_left (by omega) (by omega);omega
   · exact c
   · have : (B:Int) * 1≤B * q:=Int.mul_le_mul_of_nonneg_left (by omega) (by omega);omega
  rw[this,Int.mul_zero]at hq;omega
 refine⟨hx,?_⟩;subst hx;have e3:(b:Int) * y=b * y':=by omega
 exact Int.eq_of_mul_eq_mul_left (by omega) e3
theorem Bzt.neg{a b:Nat}{x y:Int}(hb:0<b)(h:(a:Int) * x+b * y=Nat.gcd a b)(hx:x.natAbs * Nat.gcd a b<b)(hn:x<0):Bzt a b (x+(b / Nat.gcd a b:Nat)) (y - (a / Nat.gcd a b:Nat)):=by
 obtain⟨pa,pb⟩:=zdv (a:=a) hb;have hg:=zd6 (a:=a) hb;obtain⟨g,hgg⟩:∃ g,Nat.gcd a b=g:=⟨_,rfl⟩;unfold Bzt;rw[hgg]at h hx pa pb hg⊢;have hlt:x.natAbs<b / g:=Nat.lt_of_mul_lt_mul_right (a:=g) (by
  have : b / g * g=b:=by rw[←hgg];exact Nat.div_mul_cancel (Nat.gcd_dvd_right a b)
  omega)
 refine⟨by omega,by omega,?_⟩;obtain⟨A,hA⟩:∃ A,a / g=A:=⟨_,rfl⟩;obtain⟨B,hB⟩:∃ B,b / g=B:=⟨_,rfl⟩;rw[hA]at pa⊢;rw[hB]at pb⊢;rw[←h,pa,pb]
 grind
theorem Bzt.nonneg{a b:Nat}{x y:Int}(hb:0<b)(h:(a:Int) * x+b * y=Nat.gcd a b)(hx:x.natAbs * Nat.gcd a b<b)(hn:¬ x<0):Bzt a b x y:=by
 have hg:=zd6 (a:=a) hb;have hlt:x.natAbs<b / Nat.gcd a b:=Nat.lt_of_mul_lt_mul_right (a:=Nat.gcd a b) (by
  have : b / Nat.gcd a b * Nat.gcd a b=b:=Nat.div_mul_cancel (Nat.gcd_dvd_right a b)
  omega)
 exact⟨by omega,by omega,h⟩
theorem Bzt.red{a b:Nat}{x y:Int}(hb:0<b)(h:(a:Int) * x+b * y=Nat.gcd a b):Bzt a b (x%(b / Nat.gcd a b:Nat)) (y+x / (b / Nat.gcd a b:Nat) * (a / Nat.gcd a b:Nat)):=by
 obtain⟨pa,pb⟩:=zdv (a:=a) hb;have hg:=zd6 (a:=a) hb;obtain⟨g,hgg⟩:∃ g,Nat.gcd a b=g:=⟨_,rfl⟩;unfold Bzt;rw[hgg]at h pa pb hg⊢;have hB0:0<b / g:=Nat.div_pos (by rw[←hgg];exact Nat.gcd_le_right a hb) hg;obtain⟨A,hA⟩:∃ A,a / g=A:=⟨_,rfl⟩;obtain⟨B,hB⟩:∃ B,b / g=B:=⟨_,rfl⟩;rw[hA]at pa⊢;rw[hB]at pb hB0⊢;refine⟨Int.emod_nonneg _ (by omega),Int.emod_lt_of_pos _ (by omega),?_⟩;have em:=Int.mul_ediv_add_emod x B;rw[←h,pa,pb];obtain⟨q,hq⟩:∃ q,x / (B:Int)=q:=⟨_,rfl⟩;obtain⟨r,hr⟩:∃ r,x%(B:Int)=r:=⟨_,rfl⟩;rw[hq,hr]at em⊢;rw[←em]
 grind
open Go.RowKit
def Ret(v:Value)(w:World)(e:Ending)(w':World):Prop:=e=.returned v∧Below w.heap.size w w'
def RetQ(v:Value)(w:World)(e:Ending)(w':World):Prop:=e=.returned v∧w=w'
def znk:Value→Nat | .slice _ n _=>n | _=>0
def zal(l:List UInt8)(k:Nat):Int:=((l.getD k 0).toNat:Int)
def BytesAt(w:World)(A:Option Addr)(len cap:Nat)(bs:List UInt8):Prop:=
 bs.length=len∧len≤cap∧cap≤9223372036854775807∧(0<len→∃ b o,A=some ⟨b,o,none⟩∧∀ k,k<len→w.cell? ⟨b,o+k,none⟩=some (.int .u8 (zal bs k)))
def bstr(l:List UInt8):ByteArray:=⟨l.toArray⟩
theorem jo(l:List UInt8):(bstr l).size=l.length:=by simp[bstr,ByteArray.size]
theorem zae(l:List UInt8):(bstr l).data.toList=l:=by simp[bstr]
theorem za3(s:ByteArray):bstr s.data.toList=s:=by cases s;simp[bstr]
def zd(s:ByteArray):Bool:=decide (s.size≤128) && !(s.data.toList.head? ==some 0)
theorem zbn{a:ByteArray}(h:¬ a.size≤128):zd a=false:=by simp[zd,h]
theorem zjs{a:ByteArray}(h:a.size=0):a.data.toList=[]:=by
 rw[←List.length_eq_zero_iff,Array.length_toList];exact h
theorem ji(a:ByteArray):a.data.toList.length=a.size:=Array.length_toList
theorem zjt(a:ByteArray)(k:Nat)(h:k<a.size):a.data.toList[k]? =some a[k]:=by
 have : k<a.data.toList.length:=by rw[Array.length_toList];exact h
 rw[List.getElem?_eq_getElem this];rfl
theorem zac(a:ByteArray)(k:Nat)(h:k<a.size):a.data.toList.getD k 0=a[k]:=by
 rw[List.getD_eq_getElem?_getD,zjt a k h];rfl
theorem jf{a:ByteArray}(h:a.size=0):a.toList.isEmpty=true:=by rw[ByteArray.toList_eq,zjs h];rfl
theorem xz{a:ByteArray}(h:0<a.size):a.toList.isEmpty=false:=by
 rw[ByteArray.toList_eq]
 cases e:a.data.toList with
 | nil=>rw[←ji,e]at h;simp at h
 | cons x l=>rfl
theorem zm1(a:ByteArray)(h:0<a.size):(a.data.toList.head? ==some 0)=((a[0].toNat:Int)==0):=by
 have e:a.data.toList.head? =some a[0]:=by rw[List.head?_eq_getElem?];exact zjt a 0 h
 rw[e,Bool.eq_iff_iff];simp only[beq_iff_eq,Option.some.injEq];constructor
 · intro h;rw[h];rfl
 · intro h;exact UInt8.toNat_inj.1 (by simpa using h)
theorem zcq{a:ByteArray}(h:a.size=0):zd a=true:=by simp[zd,zjs h,h]
theorem zbm{a:ByteArray}(h:a.size≤128)(h0:0<a.size):zd a=((a[0].toNat:Int) != 0):=by
 simp[zd,h,zm1 a h0,bne]
theorem zfj{l:List UInt8}{k:Nat}:zal l k=0↔l.getD k 0=0:=by
 unfold zal;constructor
 · intro h;exact UInt8.toNat_inj.1 (by simpa using h)
 · intro h;rw[h];rfl
theorem zex{l:List UInt8}(h0:0<l.length)(h:zal l 0=0):kd l=kd (l.drop 1):=by
 cases l with
 | nil=>simp at h0
 | cons x l =>
  have : x=0:=zfj.1 h;subst this;simp[kd]
theorem qv{l:List UInt8}(h:l.length=0∨zal l 0≠0):kd l=l:=by
 apply zel;rcases h with h | h
 · rw[List.length_eq_zero_iff.1 h];exact zck
 · cases l with
   | nil=>exact zck
   | cons x l=>exact kn.2 fun e=>h (zfj.2 e)
theorem BytesAt.conv{P:Program}{w:World}{A:Option Addr}{len cap:Nat}{bs:List UInt8}(h:BytesAt w A len cap bs)(src dst e:TypeId)
 (hs:P.underlying src=some (.slice e)) (he:P.underlying e=some (.int .u8)) (hd:P.underlying dst=some .string) :
 (convert src dst (.slice A len cap)).run P w=.ok (.string (bstr bs)) w:=by
 obtain⟨hl,_,_,hc⟩:=h;rcases Nat.eq_zero_or_pos len with h0 | h0
 · subst h0;have hb:bs=[]:=List.length_eq_zero_iff.1 hl;subst hb
   cases A with
   | none=>rw[run_convert_bytes_nil w src e hs he 0 cap dst hd];rfl
   | some a =>
    rw[run_convert_bytes_string w src dst e _ 0 cap hs he hd,run_bytesToString w a 0 cap [] (by simpa using run_loadCells_list (P:=P) w a [] (by intro j v hj;simp at hj))];rfl
 · obtain⟨b,o,rfl,hcell⟩:=hc h0;have hz:∀ i,i<len→w.cell? ⟨b,o+i,none⟩=some (.int .u8 ((bs.map fun x=>(x.toNat:Int)).getD i 0)):=by
    intro i hi;rw[hcell i hi];have : i<bs.length:=by omega
    simp[zal,List.getElem?_eq_getElem this]
   rw[run_convert_bytes_arg w src e hs he b o len cap (bs.map fun x=>(x.toNat:Int)) (by simp[hl]) hz dst hd];have e1:strOfNums (bs.map fun x=>(x.toNat:Int))=bstr bs:=by
    unfold strOfNums bstr;rw[List.map_map];congr 2
    conv=>rhs;rw[←List.map_id bs]
    apply List.map_congr_left;intro x _;simp
   rw[e1]
theorem BytesAt.from{w:World}{b o len cap:Nat}{bs:List UInt8}(h:BytesAt w (some ⟨b,o,none⟩) len cap bs)(k:Nat)(hk:k≤len) :
 BytesAt w (if cap=k then some ⟨b,o,none⟩else some ⟨b,o+k,none⟩) (len - k) (cap - k) (bs.drop k):=by
 obtain⟨hl,hc,hm,hcell⟩:=h;refine⟨by simp[hl],by omega,by omega,fun h1=>?_⟩;obtain⟨b',o',e,hcell⟩:=hcell (by omega);simp only[Option.some.injEq,Addr.mk.injEq,and_true]at e;obtain⟨rfl,rfl⟩:=e;rw[if_neg (by omega)];refine⟨b,o+k,rfl,fun j hj=>?_⟩;have:=hcell (k+j) (by omega);rw[show o+k+j=o+(k+j)from by omega,this];simp[zal]
theorem BytesAt.tail{w:World}{b o len cap:Nat}{bs:List UInt8}(h:BytesAt w (some ⟨b,o,none⟩) len cap bs)(h0:0<len) :
 BytesAt w (if cap=1 then some ⟨b,o,none⟩else some ⟨b,o+1,none⟩) (len - 1) (cap - 1) (bs.drop 1):=h.from 1 h0
theorem zfk(l:List UInt8)(k j:Nat):zal (l.drop k) j=zal l (k+j):=by simp[zal]
theorem zkd{l:List UInt8}{k:Nat}(h:k<l.length)(hz:zal l k=0):kd (l.drop k)=kd (l.drop (k+1)):=by
 rw[zex (by simp;omega) (by rw[zfk];exact hz),List.drop_drop]
theorem cell_kept{B:Nat}{w w':World}(hb:Below B w w')(hB:w.heap.size≤B){a:Addr}{v:Value}(h:w.cell? a=some v):w'.cell? a=some v:=by
 rw[hb.cell (Nat.lt_of_lt_of_le (World.block_lt_of_cell? w a h) hB)];exact h
theorem kc{w w':World}(h:Below w.heap.size w w'){a:Addr}{v:Value}(c:w.cell? a=some v):w'.cell? a=some v:=cell_kept h nlr c
theorem zw{w:World}{k:Nat}{o:Obj}(h:w.heap[k]? =some o):k<w.heap.size:=by
 rcases Nat.lt_or_ge k w.heap.size with h' | h'
 · exact h'
 · rw[Array.getElem?_eq_none h']at h;cases h
theorem jc{B:Nat}{w w':World}(hb:Below B w w')(hB:w.heap.size≤B){k:Nat}{o:Obj}(h:w.heap[k]? =some o):w'.heap[k]? =some o:=by
 rw[hb.block k (Nat.lt_of_lt_of_le (zw h) hB)];exact h
theorem jy{base:Nat}{e:TypeId}{size:Nat}{v:Value}{n:Nat}{xs:List Value}{B:Nat}{w w':World}(h:w.ownsRow base e size v n xs)(hb:Below B w w')(hB:w.heap.size≤B):w'.ownsRow base e size v n xs:=by
 obtain⟨h1,h2⟩:=h;refine⟨h1,?_⟩;rcases h2 with h2 | ⟨g,cap,cur,hv,hbg,hh,r⟩
 · exact .inl h2
 · exact .inr ⟨g,cap,cur,hv,hbg,jc hb hB hh,r⟩
theorem zha{base:Nat}{e:TypeId}{size:Nat}{v:Value}{n:Nat}{xs:List Value}{w:World}(h:w.ownsRow base e size v n xs){a:Addr}(ha:a.block<base)(u:Value):(w.setCell a u).ownsRow base e size v n xs:=
 ownsRow_setCell_below h ha u
theorem zv{w:World}{b j:Nat}{cs:Array Value}{T:TypeId}{fr:Nat×Nat}(h:w.heap[b]? =some (.cells cs T fr))(u:Value):(w.setCell ⟨b,j,none⟩ u).heap[b]? =some (.cells (cs.setIfInBounds j u) T fr):=by
 simp[World.setCell,Array.getElem?_modify,h]
theorem zx{w:World}{b:Nat}{a0 a1 a2 a3:Value}{T:TypeId}{fr:Nat×Nat}(h:w.heap[b]? =some (.cells #[a0,a1,a2,a3] T fr)) :
 w.cell? ⟨b,0,none⟩=some a0∧w.cell? ⟨b,1,none⟩=some a1∧w.cell? ⟨b,2,none⟩=some a2∧w.cell? ⟨b,3,none⟩=some a3:=by
 simp[World.cell?,h]
theorem zab{w:World}{b:Nat}{a0 a1 a2 a3:Value}{T:TypeId}(h:w.heap[b]? =some (.cells #[a0,a1,a2,a3] T (0,0))) :
 w.frozen? ⟨b,0,none⟩=false∧w.frozen? ⟨b,1,none⟩=false∧w.frozen? ⟨b,2,none⟩=false∧w.frozen? ⟨b,3,none⟩=false:=by
 simp[World.frozen?,h]
structure KeepB (B:Nat) (w w':World):Prop where
 below:Below B w w'
 cells:∀ a v,w.cell? a=some v→w'.cell? a=some v
theorem KeepB.refl(B:Nat)(w:World):KeepB B w w:=⟨Below.refl _ _,fun _ _ h=>h⟩
theorem KeepB.of{B C:Nat}{w w':World}(h:Below C w w')(hC:w.heap.size≤C)(hB:B≤C):KeepB B w w':=⟨h.mono hB,fun _ _ hc=>cell_kept h hC hc⟩
theorem KeepB.trans{B:Nat}{a b c:World}(h:KeepB B a b)(k:KeepB B b c):KeepB B a c:=⟨h.below.trans k.below,fun x v hc=>k.cells x v (h.cells x v hc)⟩
theorem KeepB.drew{B:Nat}{a w:World}(h:KeepB B a w):KeepB B a w.drew:=⟨h.below.drew,fun x v hc=>h.cells x v hc⟩
theorem KeepB.alloc{B:Nat}{a w:World}(h:KeepB B a w)(hB:B≤w.heap.size)(o:Obj):KeepB B a (w.alloc o):=
 h.trans (.of ((blr).alloc nlr _) nlr hB)
theorem cell?_freeze(w:World)(a:Addr)(n:Nat)(p:Addr):(w.freeze a n).cell? p=w.cell? p:=by
 unfold World.freeze;split
 · rfl
 · simp only[World.cell?,Array.getElem?_modify];by_cases h:a.block=p.block
   · rw[if_pos h]
     cases w.heap[p.block]? with
     | none=>rfl
     | some o=>cases o<;>rfl
   · rw[if_neg h]
theorem cell?_drew(w:World)(p:Addr):w.drew.cell? p=w.cell? p:=rfl
def set4(w:World)(b:Nat)(v0 v1 v2 v3:Value):World:=(((w.setCell ⟨b,0,none⟩ v0).setCell ⟨b,1,none⟩ v1).setCell ⟨b,2,none⟩ v2).setCell ⟨b,3,none⟩ v3
theorem kv{w:World}{b:Nat}{a0 a1 a2 a3:Value}{T:TypeId}{fr:Nat×Nat}(h:w.heap[b]? =some (.cells #[a0,a1,a2,a3] T fr))(v0 v1 v2 v3:Value):(set4 w b v0 v1 v2 v3).heap[b]? =some (.cells #[v0,v1,v2,v3] T fr):=
 zv (zv (zv (zv h v0) v1) v2) v3
theorem qx{w:World}{b:Nat}(v0 v1 v2 v3:Value){k:Nat}(h:k≠b):(set4 w b v0 v1 v2 v3).heap[k]? =w.heap[k]?:=by
 unfold set4;rw[Below.heap_setCell _ _ _ _ h,Below.heap_setCell _ _ _ _ h,Below.heap_setCell _ _ _ _ h,Below.heap_setCell _ _ _ _ h]
theorem kw{B:Nat}{w0 w:World}(hb:Below B w0 w){b:Nat}(h:B≤b)(v0 v1 v2 v3:Value):Below B w0 (set4 w b v0 v1 v2 v3):=
 (((hb.setCell (p:=⟨b,0,none⟩) h _).setCell (p:=⟨b,1,none⟩) h _).setCell (p:=⟨b,2,none⟩) h _).setCell (p:=⟨b,3,none⟩) h _
def be8(n:Nat):List UInt8:=[UInt8.ofNat (n / 72057594037927936%256),UInt8.ofNat (n / 281474976710656%256),UInt8.ofNat (n / 1099511627776%256),UInt8.ofNat (n / 4294967296%256),
 UInt8.ofNat (n / 16777216%256),UInt8.ofNat (n / 65536%256),UInt8.ofNat (n / 256%256),UInt8.ofNat (n%256)]
theorem zj7(n:Nat)(h:n<18446744073709551616):kd (be8 n)=encN n:=by
 rw[ziz];congr 1;simp only[be8,bnat,List.foldl_cons,List.foldl_nil,yz];omega
theorem zpu(w:World)(n:Nat)(T:TypeId):BytesAt (w.alloc (.cells #[.int .u8 ((n:Int) / 72057594037927936%256),.int .u8 ((n:Int) / 281474976710656%256),.int .u8 ((n:Int) / 1099511627776%256),
 .int .u8 ((n:Int) / 4294967296%256),.int .u8 ((n:Int) / 16777216%256),.int .u8 ((n:Int) / 65536%256),.int .u8 ((n:Int) / 256%256),.int .u8 ((n:Int)%256)] T)) (some ⟨w.heap.size,0,none⟩) 8 8 (be8 n):=by
 refine⟨rfl,by omega,by omega,fun _=>⟨_,_,rfl,fun k hk=>?_⟩⟩;have e:∀ m:Nat,((UInt8.ofNat (m%256)).toNat:Int)=(m:Int)%256:=fun m=>by rw[yz];omega
 rw[Nat.zero_add,World.cell?_alloc_at (hn:=rfl)]
 match k,hk with
 | 0,_=>exact congrArg (fun x=>some (Value.int .u8 x)) (e _).symm
 | 1,_=>exact congrArg (fun x=>some (Value.int .u8 x)) (e _).symm
 | 2,_=>exact congrArg (fun x=>some (Value.int .u8 x)) (e _).symm
 | 3,_=>exact congrArg (fun x=>some (Value.int .u8 x)) (e _).symm
 | 4,_=>exact congrArg (fun x=>some (Value.int .u8 x)) (e _).symm
 | 5,_=>exact congrArg (fun x=>some (Value.int .u8 x)) (e _).symm
 | 6,_=>exact congrArg (fun x=>some (Value.int .u8 x)) (e _).symm
 | 7,_=>exact congrArg (fun x=>some (Value.int .u8 x)) (e _).symm
theorem zrf(w:World)(n:Nat)(T:TypeId):BytesAt (w.alloc (.cells #[.int .u8 ((n:Int) / 256 / 256 / 256 / 256 / 256 / 256 / 256%256),.int .u8 ((n:Int) / 256 / 256 / 256 / 256 / 256 / 256%256),.int .u8 ((n:Int) / 256 / 256 / 256 / 256 / 256%256),
 .int .u8 ((n:Int) / 256 / 256 / 256 / 256%256),.int .u8 ((n:Int) / 256 / 256 / 256%256),.int .u8 ((n:Int) / 256 / 256%256),.int .u8 ((n:Int) / 256%256),.int .u8 ((n:Int)%256)] T)) (some ⟨w.heap.size,0,none⟩) 8 8 (be8 n):=by
 have h:=zpu w n T;rw[show (n:Int) / 256 / 256 / 256 / 256 / 256 / 256 / 256=(n:Int) / 72057594037927936 from by omega,show (n:Int) / 256 / 256 / 256 / 256 / 256 / 256=(n:Int) / 281474976710656 from by omega,
  show (n:Int) / 256 / 256 / 256 / 256 / 256=(n:Int) / 1099511627776 from by omega,show (n:Int) / 256 / 256 / 256 / 256=(n:Int) / 4294967296 from by omega,
  show (n:Int) / 256 / 256 / 256=(n:Int) / 16777216 from by omega,show (n:Int) / 256 / 256=(n:Int) / 65536 from by omega]
 exact h
theorem zh7{k:IntKind}{a b:Int}(h:a=b):Ending.returned (.int k a)=.returned (.int k b):=by rw[h]
end Go.Proofs.YtkfgdcgmlobhfaaGreat

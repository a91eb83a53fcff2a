import Derived.Test.YtdhnkmbjogmmkaaGreatDoorQPri
set_option linter.unusedVariables false
set_option linter.unusedSimpArgs false
namespace Go.Proofs.YtdhnkmbjogmmkaaGreatDoor
set_option maxRecDepth 100000
set_option maxHeartbeats 1000000
open Go.RowKit
theorem mulmod_hi{a b m:Nat}(ha:a<m)(hb:b<m)(hm:m<18446744073709551616):a * b / 18446744073709551616<m:=by
 rw[Nat.div_lt_iff_lt_mul (by decide)];have h1:=Nat.mul_le_mul (Nat.le_of_lt ha) (show b≤18446744073709551615 by omega);omega
theorem prime_mul(a b m:Nat)(ha:a<m)(hb:b<m)(hm8:m<18446744073709551616)(w:World):Calls Tryz.prog 87 #[.int .u64 a,.int .u64 b,.int .u64 m] w (Ret (.int .u64 ((a * b%m:Nat):Int)) w):=by
 have HM:=Hq (Tryz.bits_Mul64 a b (by omega) (by omega));have hlo:a * b%18446744073709551616<18446744073709551616:=Nat.mod_lt _ (by decide);have HD:=Hq (bits_Div64 (a * b / 18446744073709551616) (a * b%18446744073709551616) m hm8 hlo (mulmod_hi ha hb hm8));have HE:=Hq (show (a * b / 18446744073709551616 * 18446744073709551616+a * b%18446744073709551616)%m=a * b%m from by rw[Nat.mul_comm,Nat.div_add_mod]);clear ha hb hm8 hlo;go_enter Tryz.func87,Tryz.ntmps87;go_wp2_with fail;refine(HM.out _).mono ?_;rintro e w1 ⟨rfl,rfl⟩;obtain⟨p,hp⟩:∃ p,a * b=p:=⟨_,rfl⟩;rw[hp]at HD HE;try rw[hp]
 have HP:=Hq hp;go_wp2_with fail;refine(HD.out _).mono ?_;rintro e w2 ⟨q,rfl,hb2⟩;have HB:=Hq hb2;rw[HE.out];obtain⟨r,hr⟩:∃ r,p%m=r:=⟨_,rfl⟩;rw[hr];have HRR:=Hq hr;clear hb2 hr hp;go_wp2;go_ret;exact⟨by rw[HP.out,HRR.out];rfl,HB.out⟩
theorem pw_odd{X A E m:Nat}(h:E%2=1):(X * A%m) * (A * A%m) ^ (E / 2)%m=X * A ^ E%m:=by
 have e:E=2 * (E / 2)+1:=by omega
 conv=>rhs;rw[e,Nat.pow_succ,Nat.pow_mul,Nat.pow_two]
 rw[Nat.mul_mod,Nat.mod_mod,←Nat.pow_mod,←Nat.mul_mod,Nat.mul_comm ((A * A) ^ (E / 2)),←Nat.mul_assoc]
theorem pw_even{X A E m:Nat}(h:E%2=0):X * (A * A%m) ^ (E / 2)%m=X * A ^ E%m:=by
 have e:E=2 * (E / 2):=by omega
 conv=>rhs;rw[e,Nat.pow_mul,Nat.pow_two]
 rw[Nat.mul_mod,←Nat.pow_mod,←Nat.mul_mod]
theorem prime_pow(a n m:Nat)(ha:a<m)(hn:n<18446744073709551616)(hm8:m<18446744073709551616)(hm:0<m)(w:World):Calls Tryz.prog 86 #[.int .u64 a,.int .u64 n,.int .u64 m] w (Ret (.int .u64 ((a ^ n%m:Nat):Int)) w):=by
 have HMU:=Hq (fun a b (ha:a<m) (hb:b<m)=>prime_mul a b m ha hb hm8);have hm1:1%m<m:=Nat.mod_lt _ hm;obtain⟨o,ho⟩:∃ o,1%m=o:=⟨_,rfl⟩;have h1:(1:Int)%(m:Int)=(o:Int):=by rw[←ho];rfl
 have hwo:IntKind.u64.wrap (o:Int)=(o:Int):=u64_wrap o (by omega);have hm0:¬ (m=0):=by omega
 have HS:=Hq (show o * a ^ n%m=a ^ n%m from by rw[←ho,Nat.mul_mod,Nat.mod_mod,←Nat.mul_mod,Nat.one_mul]);rw[ho]at hm1;have HO:=Hq hm1;have HA:=Hq ha;have HN:=Hq hn;have HM8:=Hq hm8;clear ho hm1 ha hn hm8 hm;go_enter Tryz.func86,Tryz.ntmps86;go_wp2;go_loopw [0,1,7] (fun a1 e1 x wr=>∃ X A E:Nat,x=.int .u64 X∧a1=.int .u64 A∧e1=.int .u64 E∧X<m∧A<m∧E<18446744073709551616∧X * A ^ E%m=a ^ n%m∧Below w.heap.size w wr) (fun _ e1 _ _=>(intOf e1).toNat);case atStart=>exact⟨o,a,n,by rw[h1],rfl,rfl,HO.out,HA.out,HN.out,HS.out,Below.refl _ _⟩
 case round =>
  obtain⟨X,A,E,rfl,rfl,rfl,hX,hA,hE,hi,hB⟩:=hrel;clear h1 hwo;have HI:=Hq hi;have HB:=Hq hB;have HX:=Hq hX;have HAA:=Hq hA;have HE:=Hq hE;clear hi hB hX hA;by_cases h0:0<E
  · have he2:((E:Int) / 2)=((E / 2:Nat):Int):=by omega
    obtain⟨H,hH⟩:∃ H,E / 2=H:=⟨_,rfl⟩;rw[hH]at he2;have hwH:IntKind.u64.wrap (H:Int)=(H:Int):=u64_wrap H (by omega);have HH:=Hq hH;have HM2:=Hq (HMU.out A A HAA.out HAA.out);by_cases hp:E%2=1
    · have hr:(E:Int)%2=1:=by omega
      have HM1:=Hq (HMU.out X A HX.out HAA.out);have HP:=Hq (pw_odd (X:=X) (A:=A) (m:=m) hp);clear hp hH hE;go_wp2_with fail;refine(HM1.out _).mono ?_;rintro ev w1 ⟨rfl,hb1⟩;have HB1:=Hq (HB.out.trans (hb1.mono HB.out.size));clear hb1;obtain⟨X1,hX1⟩:∃ X1,X * A%m=X1:=⟨_,rfl⟩;rw[hX1]at HP⊢;have HX1:=Hq (show X1<m from by rw[←hX1];exact Nat.mod_lt _ (by omega));clear hX1;go_wp2_with fail;refine(HM2.out _).mono ?_;rintro ev w2 ⟨rfl,hb2⟩;have HB2:=Hq (HB1.out.trans (hb2.mono HB1.out.size));clear hb2;obtain⟨A1,hA1⟩:∃ A1,A * A%m=A1:=⟨_,rfl⟩;rw[hA1]at HP⊢;have HA1:=Hq (show A1<m from by rw[←hA1];exact Nat.mod_lt _ (by omega));clear hA1;go_wp2;go_roundw;case rel=>exact⟨X1,A1,H,rfl,rfl,rfl,HX1.out,HA1.out,by have:=HH.out;have:=HE.out;omega,by rw[←HI.out,←HP.out,HH.out],HB2.out⟩
      case measure=>have:=HH.out;simp[intOf]<;>omega
    · have hr:(E:Int)%2=0:=by omega
      have HP:=Hq (pw_even (X:=X) (A:=A) (E:=E) (m:=m) (by omega));clear hp hH hE;go_wp2_with fail;refine(HM2.out _).mono ?_;rintro ev w2 ⟨rfl,hb2⟩;have HB2:=Hq (HB.out.trans (hb2.mono HB.out.size));clear hb2;obtain⟨A1,hA1⟩:∃ A1,A * A%m=A1:=⟨_,rfl⟩;rw[hA1]at HP⊢;have HA1:=Hq (show A1<m from by rw[←hA1];exact Nat.mod_lt _ (by omega));clear hA1;go_wp2;go_roundw;case rel=>exact⟨X,A1,H,rfl,rfl,rfl,HX.out,HA1.out,by have:=HH.out;have:=HE.out;omega,by rw[←HI.out,←HP.out,HH.out],HB2.out⟩
      case measure=>have:=HH.out;simp[intOf]<;>omega
  · obtain rfl:E=0:=by omega
    have HF:=Hq (show X=a ^ n%m from by rw[←HI.out,Nat.pow_zero,Nat.mul_one,Nat.mod_eq_of_lt HX.out]);clear h0 hE;go_wp2;go_ret;exact⟨by rw[←HF.out];rfl,HB.out⟩
theorem r04_AddMod(a b m:Nat)(ha:a<m)(hb:b<m)(hm8:m<18446744073709551616)(w:World):Calls Tryz.prog 144 #[.int .u64 a,.int .u64 b,.int .u64 m] w (Ret (.int .u64 (((a+b)%m:Nat):Int)) w):=by
 have e1:(m:Int) - (b:Int)=((m - b:Nat):Int):=by omega
 obtain⟨c,hc⟩:∃ c,m - b=c:=⟨_,rfl⟩;rw[hc]at e1;have hw1:IntKind.u64.wrap (c:Int)=(c:Int):=u64_wrap c (by omega);by_cases h:c≤a
 · have e2:(a:Int) - (c:Int)=(((a+b)%m:Nat):Int):=by
    have : (a+b)%m=a+b - m:=by rw[Nat.mod_eq_sub_mod (by omega),Nat.mod_eq_of_lt (by omega)]
    omega
   obtain⟨r,hr⟩:∃ r,(a+b)%m=r:=⟨_,rfl⟩;rw[hr]at e2⊢;have hw2:IntKind.u64.wrap (r:Int)=(r:Int):=u64_wrap r (by omega);have h':decide ((c:Int)≤(a:Int))=true:=decide_eq_true (by omega);clear hc hr h ha hb hm8;go_enter Tryz.func144,Tryz.ntmps144;go_wp2;go_ret;exact⟨rfl,Below.refl _ _⟩
 · have e2:(a:Int)+(b:Int)=(((a+b)%m:Nat):Int):=(by have : (a+b)%m=a+b:=Nat.mod_eq_of_lt (by omega);omega);obtain⟨r,hr⟩:∃ r,(a+b)%m=r:=⟨_,rfl⟩;rw[hr]at e2⊢;have hw2:IntKind.u64.wrap (r:Int)=(r:Int):=u64_wrap r (by omega);have h':decide (c≤a)=false:=decide_eq_false h;have h'':¬ ((c:Int)≤(a:Int)):=by omega
   clear hc hr h ha hb hm8;go_enter Tryz.func144,Tryz.ntmps144;go_wp2;go_ret;exact⟨rfl,Below.refl _ _⟩
theorem add_odd{X A E m:Nat}(h:E%2=1):((X+A)%m+(A+A)%m * (E / 2))%m=(X+A * E)%m:=by
 have e:A * E=A+(A+A) * (E / 2):=by
  conv=>lhs;rw[show E=1+2 * (E / 2)from by omega]
  rw[Nat.mul_add,Nat.mul_one,←Nat.mul_assoc,Nat.mul_two]
 rw[e,←Nat.add_assoc,Nat.add_mod ((X+A)%m),Nat.mod_mod,Nat.mod_mul_mod,←Nat.add_mod]
theorem add_even{X A E m:Nat}(h:E%2=0):(X+(A+A)%m * (E / 2))%m=(X+A * E)%m:=by
 have e:A * E=(A+A) * (E / 2):=by
  conv=>lhs;rw[show E=2 * (E / 2)from by omega]
  rw[←Nat.mul_assoc,Nat.mul_two]
 rw[e,Nat.add_mod X,Nat.mod_mul_mod,←Nat.add_mod]
theorem r04_MulMod(a b m:Nat)(ha:a<m)(hb:b<m)(hm8:m<18446744073709551616)(w:World):Calls Tryz.prog 138 #[.int .u64 a,.int .u64 b,.int .u64 m] w (Ret (.int .u64 ((a * b%m:Nat):Int)) w):=by
 have hm0:¬ (m=0):=by omega
 by_cases h32:m<4294967296
 · have h1:a * b<18446744073709551616:=(by have:=Nat.mul_le_mul (show a≤4294967295 by omega) (show b≤4294967295 by omega);omega);have e1:(a:Int) * (b:Int)=((a * b:Nat):Int):=by rw[Int.natCast_mul]
   obtain⟨p,hp⟩:∃ p,a * b=p:=⟨_,rfl⟩;rw[hp]at e1 h1⊢;have hw1:IntKind.u64.wrap (p:Int)=(p:Int):=u64_wrap p h1;have e2:(p:Int)%(m:Int)=((p%m:Nat):Int):=rfl;obtain⟨r,hr⟩:∃ r,p%m=r:=⟨_,rfl⟩;have hr8:r<18446744073709551616:=by rw[←hr];exact Nat.lt_trans (Nat.mod_lt _ (by omega)) hm8
   rw[hr]at e2⊢;have hw2:IntKind.u64.wrap (r:Int)=(r:Int):=u64_wrap r hr8;have h32':decide ((m:Int)<4294967296)=true:=decide_eq_true (by omega);clear hp hr h1 hr8 h32 ha hb hm8;go_enter Tryz.func138,Tryz.ntmps138;go_wp2;go_ret;exact⟨by show Ending.returned (Value.int IntKind.u64 ((p:Int)%(m:Int)))=_;rw[e2],Below.refl _ _⟩
 · have HMU:=Hq (fun a b (ha:a<m) (hb:b<m)=>r04_AddMod a b m ha hb hm8);have h32':decide ((m:Int)<4294967296)=false:=decide_eq_false (by omega);have HA:=Hq ha;have HN:=Hq (Nat.lt_trans hb hm8);clear ha hb hm8 h32;go_enter Tryz.func138,Tryz.ntmps138;go_wp2;go_loopw [0,1,7] (fun a1 e1 x wr=>∃ X A E:Nat,x=.int .u64 X∧a1=.int .u64 A∧e1=.int .u64 E∧X<m∧A<m∧E<18446744073709551616∧(X+A * E)%m=a * b%m∧Below w.heap.size w wr) (fun _ e1 _ _=>(intOf e1).toNat);case atStart=>exact⟨0,a,b,rfl,rfl,rfl,by have:=HA.out;omega,HA.out,HN.out,by rw[Nat.zero_add],Below.refl _ _⟩
   case round =>
    obtain⟨X,A,E,rfl,rfl,rfl,hX,hA,hE,hi,hB⟩:=hrel;have HI:=Hq hi;have HB:=Hq hB;have HX:=Hq hX;have HAA:=Hq hA;have HE:=Hq hE;clear hi hB hX hA;by_cases h0:0<E
    · have he2:((E:Int) / 2)=((E / 2:Nat):Int):=by omega
      obtain⟨H,hH⟩:∃ H,E / 2=H:=⟨_,rfl⟩;rw[hH]at he2;have hwH:IntKind.u64.wrap (H:Int)=(H:Int):=u64_wrap H (by omega);have HH:=Hq hH;have HM2:=Hq (HMU.out A A HAA.out HAA.out);by_cases hp:E%2=1
      · have hr:(E:Int)%2=1:=by omega
        have HM1:=Hq (HMU.out X A HX.out HAA.out);have HP:=Hq (add_odd (X:=X) (A:=A) (m:=m) hp);clear hp hH hE;go_wp2_with fail;refine(HM1.out _).mono ?_;rintro ev w1 ⟨rfl,hb1⟩;have HB1:=Hq (HB.out.trans (hb1.mono HB.out.size));clear hb1;obtain⟨X1,hX1⟩:∃ X1,(X+A)%m=X1:=⟨_,rfl⟩;rw[hX1]at HP⊢;have HX1:=Hq (show X1<m from by rw[←hX1];exact Nat.mod_lt _ (by omega));clear hX1;go_wp2_with fail;refine(HM2.out _).mono ?_;rintro ev w2 ⟨rfl,hb2⟩;have HB2:=Hq (HB1.out.trans (hb2.mono HB1.out.size));clear hb2;obtain⟨A1,hA1⟩:∃ A1,(A+A)%m=A1:=⟨_,rfl⟩;rw[hA1]at HP⊢;have HA1:=Hq (show A1<m from by rw[←hA1];exact Nat.mod_lt _ (by omega));clear hA1;go_wp2;go_roundw;case rel=>exact⟨X1,A1,H,rfl,rfl,rfl,HX1.out,HA1.out,by have:=HH.out;have:=HE.out;omega,by rw[←HI.out,←HP.out,HH.out],HB2.out⟩
        case measure=>have:=HH.out;simp[intOf]<;>omega
      · have hr:(E:Int)%2=0:=by omega
        have HP:=Hq (add_even (X:=X) (A:=A) (E:=E) (m:=m) (by omega));clear hp hH hE;go_wp2_with fail;refine(HM2.out _).mono ?_;rintro ev w2 ⟨rfl,hb2⟩;have HB2:=Hq (HB.out.trans (hb2.mono HB.out.size));clear hb2;obtain⟨A1,hA1⟩:∃ A1,(A+A)%m=A1:=⟨_,rfl⟩;rw[hA1]at HP⊢;have HA1:=Hq (show A1<m from by rw[←hA1];exact Nat.mod_lt _ (by omega));clear hA1;go_wp2;go_roundw;case rel=>exact⟨X,A1,H,rfl,rfl,rfl,HX.out,HA1.out,by have:=HH.out;have:=HE.out;omega,by rw[←HI.out,←HP.out,HH.out],HB2.out⟩
        case measure=>have:=HH.out;simp[intOf]<;>omega
    · obtain rfl:E=0:=by omega
      have HF:=Hq (show X=a * b%m from by rw[←HI.out,Nat.mul_zero,Nat.add_zero,Nat.mod_eq_of_lt HX.out]);clear h0 hE;go_wp2;go_ret;exact⟨by rw[←HF.out];rfl,HB.out⟩
theorem r04_ExpMod(a n m:Nat)(ha:a<m)(hn:n<18446744073709551616)(hm8:m<18446744073709551616)(hm:0<m)(w:World):Calls Tryz.prog 137 #[.int .u64 a,.int .u64 n,.int .u64 m] w (Ret (.int .u64 ((a ^ n%m:Nat):Int)) w):=by
 have HMU:=Hq (fun a b (ha:a<m) (hb:b<m)=>r04_MulMod a b m ha hb hm8);have hm1:1%m<m:=Nat.mod_lt _ hm;obtain⟨o,ho⟩:∃ o,1%m=o:=⟨_,rfl⟩;have h1:(1:Int)%(m:Int)=(o:Int):=by rw[←ho];rfl
 have hwo:IntKind.u64.wrap (o:Int)=(o:Int):=u64_wrap o (by omega);have hm0:¬ (m=0):=by omega
 have HS:=Hq (show o * a ^ n%m=a ^ n%m from by rw[←ho,Nat.mul_mod,Nat.mod_mod,←Nat.mul_mod,Nat.one_mul]);rw[ho]at hm1;have HO:=Hq hm1;have HA:=Hq ha;have HN:=Hq hn;have HM8:=Hq hm8;clear ho hm1 ha hn hm8 hm;go_enter Tryz.func137,Tryz.ntmps137;go_wp2;go_loopw [0,1,7] (fun a1 e1 x wr=>∃ X A E:Nat,x=.int .u64 X∧a1=.int .u64 A∧e1=.int .u64 E∧X<m∧A<m∧E<18446744073709551616∧X * A ^ E%m=a ^ n%m∧Below w.heap.size w wr) (fun _ e1 _ _=>(intOf e1).toNat);case atStart=>exact⟨o,a,n,by rw[h1],rfl,rfl,HO.out,HA.out,HN.out,HS.out,Below.refl _ _⟩
 case round =>
  obtain⟨X,A,E,rfl,rfl,rfl,hX,hA,hE,hi,hB⟩:=hrel;clear h1 hwo;have HI:=Hq hi;have HB:=Hq hB;have HX:=Hq hX;have HAA:=Hq hA;have HE:=Hq hE;clear hi hB hX hA;by_cases h0:0<E
  · have he2:((E:Int) / 2)=((E / 2:Nat):Int):=by omega
    obtain⟨H,hH⟩:∃ H,E / 2=H:=⟨_,rfl⟩;rw[hH]at he2;have hwH:IntKind.u64.wrap (H:Int)=(H:Int):=u64_wrap H (by omega);have HH:=Hq hH;have HM2:=Hq (HMU.out A A HAA.out HAA.out);by_cases hp:E%2=1
    · have hr:(E:Int)%2=1:=by omega
      have HM1:=Hq (HMU.out X A HX.out HAA.out);have HP:=Hq (pw_odd (X:=X) (A:=A) (m:=m) hp);clear hp hH hE;go_wp2_with fail;refine(HM1.out _).mono ?_;rintro ev w1 ⟨rfl,hb1⟩;have HB1:=Hq (HB.out.trans (hb1.mono HB.out.size));clear hb1;obtain⟨X1,hX1⟩:∃ X1,X * A%m=X1:=⟨_,rfl⟩;rw[hX1]at HP⊢;have HX1:=Hq (show X1<m from by rw[←hX1];exact Nat.mod_lt _ (by omega));clear hX1;go_wp2_with fail;refine(HM2.out _).mono ?_;rintro ev w2 ⟨rfl,hb2⟩;have HB2:=Hq (HB1.out.trans (hb2.mono HB1.out.size));clear hb2;obtain⟨A1,hA1⟩:∃ A1,A * A%m=A1:=⟨_,rfl⟩;rw[hA1]at HP⊢;have HA1:=Hq (show A1<m from by rw[←hA1];exact Nat.mod_lt _ (by omega));clear hA1;go_wp2;go_roundw;case rel=>exact⟨X1,A1,H,rfl,rfl,rfl,HX1.out,HA1.out,by have:=HH.out;have:=HE.out;omega,by rw[←HI.out,←HP.out,HH.out],HB2.out⟩
      case measure=>have:=HH.out;simp[intOf]<;>omega
    · have hr:(E:Int)%2=0:=by omega
      have HP:=Hq (pw_even (X:=X) (A:=A) (E:=E) (m:=m) (by omega));clear hp hH hE;go_wp2_with fail;refine(HM2.out _).mono ?_;rintro ev w2 ⟨rfl,hb2⟩;have HB2:=Hq (HB.out.trans (hb2.mono HB.out.size));clear hb2;obtain⟨A1,hA1⟩:∃ A1,A * A%m=A1:=⟨_,rfl⟩;rw[hA1]at HP⊢;have HA1:=Hq (show A1<m from by rw[←hA1];exact Nat.mod_lt _ (by omega));clear hA1;go_wp2;go_roundw;case rel=>exact⟨X,A1,H,rfl,rfl,rfl,HX.out,HA1.out,by have:=HH.out;have:=HE.out;omega,by rw[←HI.out,←HP.out,HH.out],HB2.out⟩
      case measure=>have:=HH.out;simp[intOf]<;>omega
  · obtain rfl:E=0:=by omega
    have HF:=Hq (show X=a ^ n%m from by rw[←HI.out,Nat.pow_zero,Nat.mul_one,Nat.mod_eq_of_lt HX.out]);clear h0 hE;go_wp2;go_ret;exact⟨by rw[←HF.out];rfl,HB.out⟩
set_option maxRecDepth 100000
set_option maxHeartbeats 1000000
def tzT:List Nat:=[0,1,56,2,57,49,28,3,61,58,42,50,38,29,17,4,62,47,59,36,45,43,51,22,53,39,33,30,24,18,12,5,63,55,48,27,60,41,37,16,46,35,44,21,52,32,23,11,54,26,40,15,34,20,31,10,25,14,19,9,13,8,7,6]
def tzN(i:Nat):Nat:=tzT.getD i 0
theorem tz_hit:∀ k:Fin 64,tzN (2 ^ k.val * 285870213051353865%18446744073709551616 / 288230376151711744)=k.val:=by decide +kernel
theorem tz_idx(k:Nat):2 ^ k * 285870213051353865%18446744073709551616 / 288230376151711744<64:=by
 have:=Nat.mod_lt (2 ^ k * 285870213051353865) (show 0<18446744073709551616 by decide);omega
theorem low_bit(k j:Nat)(h:2 ^ (k+1) * j+2 ^ k<2 ^ 64):(2 ^ (k+1) * j+2 ^ k) &&& (2 ^ 64 - (2 ^ (k+1) * j+2 ^ k))=2 ^ k:=by
 have hp:0<2 ^ k:=Nat.two_pow_pos k;have h2:2 ^ k<2 ^ (k+1):=by rw[Nat.pow_succ];omega
 obtain⟨z,hz⟩:∃ z,z=2 ^ (k+1) * j+(2 ^ k - 1):=⟨_,rfl⟩;have hx:2 ^ (k+1) * j+2 ^ k=z+1:=by omega
 have hk:k<64:=by
  rcases Nat.lt_or_ge k 64 with a | a
  · exact a
  · have b:2 ^ 64≤2 ^ k:=Nat.pow_le_pow_right (by decide) a;omega
 apply Nat.eq_of_testBit_eq;intro i;rw[Nat.testBit_and];rw[show 2 ^ 64 - (2 ^ (k+1) * j+2 ^ k)=2 ^ 64 - (z+1)by rw[hx]];rw[Nat.testBit_two_pow_sub_succ (by omega),Nat.testBit_two_pow];rw[Nat.testBit_two_pow_mul_add j h2,hz,Nat.testBit_two_pow_mul_add j (by omega)];by_cases h1:i<k+1
 · rw[if_pos h1,if_pos h1,Nat.testBit_two_pow,Nat.testBit_two_pow_sub_one];by_cases h3:k=i
   · subst h3;simp[hk]
   · have : i<k:=by omega
     simp[this];omega
 · rw[if_neg h1,if_neg h1];have : ¬ (k=i):=by omega
   rw[decide_eq_false this];cases j.testBit (i - (k+1))<;>simp
def TabAt(w:World):Prop:=∀ i,i<64→w.cell? ⟨0,i,none⟩=some (.int .u8 (tzN i))
theorem TabAt.kept{B:Nat}{w w':World}(h:TabAt w)(hb:Below B w w')(hB:w.heap.size≤B):TabAt w':=fun i hi=>cell_kept hb hB (h i hi)
theorem u64_mod(z:Int):IntKind.u64.wrap z=z%18446744073709551616:=by simp[IntKind.wrap,IntKind.bits,IntKind.signed]
theorem bits_tz(k j:Nat)(h:2 ^ (k+1) * j+2 ^ k<18446744073709551616)(w:World)(ht:TabAt w):Calls Tryz.prog 85 #[.int .u64 ((2 ^ (k+1) * j+2 ^ k:Nat):Int)] w (RetQ (.int .i64 k) w):=by
 have hk:k<64:=by
  rcases Nat.lt_or_ge k 64 with a | a
  · exact a
  · have b:2 ^ 64≤2 ^ k:=Nat.pow_le_pow_right (by decide) a;omega
 have hp:0<2 ^ k:=Nat.two_pow_pos k;have hlow:=low_bit k j h;obtain⟨x,hx⟩:∃ x,2 ^ (k+1) * j+2 ^ k=x:=⟨_,rfl⟩;rw[hx]at hlow h⊢;have hx0:0<x:=by omega
 have en:IntKind.u64.wrap (-(x:Int))=((2 ^ 64 - x:Nat):Int):=by
  have e:-(x:Int)=((2 ^ 64 - x:Nat):Int)+(-1) * 18446744073709551616:=by omega
  rw[u64_mod];omega
 have ea:=bits_and_u64_nat x (2 ^ 64 - x) (by omega) (by omega);rw[hlow]at ea;obtain⟨y,hy⟩:∃ y,2 ^ 64 - x=y:=⟨_,rfl⟩;rw[hy]at en ea;have hit:=tz_hit ⟨k,hk⟩;simp only[]at hit;have hidx:=tz_idx k;obtain⟨b,hb⟩:∃ b,2 ^ k=b:=⟨_,rfl⟩;rw[hb]at hit hidx ea;have em:IntKind.u64.wrap ((b:Int) * 285870213051353865)=((b * 285870213051353865%18446744073709551616:Nat):Int):=by
  have e:(b:Int) * 285870213051353865=((b * 285870213051353865:Nat):Int):=by omega
  rw[e,u64_mod];rfl
 obtain⟨c,hc⟩:∃ c,b * 285870213051353865%18446744073709551616=c:=⟨_,rfl⟩;rw[hc]at em hit hidx;have hx1:((x:Int)==0)=false:=beq_eq_false_iff_ne.2 (by omega);have ht2:=ht _ hidx;rw[hit]at ht2;clear hc hb hy hlow hx h hp hx0 ht hit;go_enter Tryz.func85,Tryz.ntmps85;go_wp2;go_ret;exact⟨rfl,rfl⟩
set_option maxRecDepth 100000
set_option maxHeartbeats 4000000
def strongB(n a s d:Nat):Bool:=decide (a ^ d%n=1)||(List.range s).any (fun i=>decide (a ^ (d * 2 ^ i)%n=n - 1))
theorem strong_one{n a s d:Nat}(h:a ^ d%n=1):strongB n a s d=true:=by unfold strongB;rw[decide_eq_true h];rfl
theorem strong_at{n a s d i:Nat}(hi:i<s)(h:a ^ (d * 2 ^ i)%n=n - 1):strongB n a s d=true:=by
 unfold strongB;rw[show (List.range s).any (fun i=>decide (a ^ (d * 2 ^ i)%n=n - 1))=true from List.any_eq_true.2 ⟨i,List.mem_range.2 hi,decide_eq_true h⟩,Bool.or_true]
theorem strong_no{n a s d:Nat}(h:¬ (a ^ d%n=1))(h2:∀ i,i<s→¬ (a ^ (d * 2 ^ i)%n=n - 1)):strongB n a s d=false:=by
 unfold strongB;rw[decide_eq_false h,Bool.false_or,List.any_eq_false];intro i hi;rw[decide_eq_false (h2 i (List.mem_range.1 hi))];decide
def v2F:Nat→Nat→Nat
 | 0,_=>0
 | f+1,m=>if m%2=0 then v2F f (m / 2)+1 else 0
theorem v2F_spec:∀(f m:Nat),0<m→m<2 ^ f→2 ^ v2F f m * (m / 2 ^ v2F f m)=m∧m / 2 ^ v2F f m%2=1
 | 0,m,h0,h=>by simp at h;omega
 | f+1,m,h0,h=>by
  unfold v2F;by_cases h2:m%2=0
  · rw[if_pos h2];obtain⟨h3,h4⟩:=v2F_spec f (m / 2) (by omega) (by rw[Nat.pow_succ]at h;omega);rw[Nat.pow_succ',←Nat.div_div_eq_div_mul];refine⟨?_,h4⟩;rw[Nat.mul_assoc,h3];omega
  · rw[if_neg h2,Nat.pow_zero,Nat.div_one,Nat.one_mul];exact⟨rfl,by omega⟩
def sN(n:Nat):Nat:=v2F 64 (n - 1)
def dN(n:Nat):Nat:=(n - 1) / 2 ^ sN n
theorem sd_spec{n:Nat}(h2:2≤n)(h8:n<18446744073709551616):2 ^ sN n * dN n=n - 1∧dN n%2=1:=v2F_spec 64 (n - 1) (by omega) (by omega)
theorem sd_unique:∀ {s s' d d':Nat},2 ^ s * d=2 ^ s' * d'→d%2=1→d'%2=1→s=s'∧d=d'
 | 0,0,d,d',h,_,_=>⟨rfl,by simpa using h⟩
 | 0,s'+1,d,d',h,h1,_=>by
  rw[Nat.pow_zero,Nat.one_mul,Nat.pow_succ,Nat.mul_assoc,Nat.mul_left_comm]at h;omega
 | s+1,0,d,d',h,_,h1=>by
  rw[Nat.pow_zero,Nat.one_mul,Nat.pow_succ,Nat.mul_assoc,Nat.mul_left_comm]at h;omega
 | s+1,s'+1,d,d',h,h1,h2=>by
  rw[Nat.pow_succ',Nat.pow_succ',Nat.mul_assoc,Nat.mul_assoc]at h;obtain⟨e1,e2⟩:=sd_unique (Nat.eq_of_mul_eq_mul_left (by decide) h) h1 h2;exact⟨by rw[e1],e2⟩
def allB(n:Nat):Bool:=(List.range 12).all fun j=>strongB n (bsN j) (sN n) (dN n)
theorem allB_no{n j:Nat}(hj:j<12)(h:strongB n (bsN j) (sN n) (dN n)=false):allB n=false:=by
 unfold allB;rw[List.all_eq_false];exact⟨j,List.mem_range.2 hj,by rw[h];decide⟩
theorem allB_yes{n:Nat}(h:∀ j,j<12→strongB n (bsN j) (sN n) (dN n)=true):allB n=true:=by
 unfold allB;rw[List.all_eq_true];exact fun j hj=>h j (List.mem_range.1 hj)
def isN(n:Nat):Bool:=if n<2 then false else match (List.range 12).find? (fun j=>decide (n%bsN j=0))with
 | some j=>decide (n=bsN j)
 | none=>allB n
theorem isN_lt{n:Nat}(h:n<2):isN n=false:=by unfold isN;rw[if_pos h]
theorem isN_cases{n:Nat}(h:2≤n):(∃ i,i<12∧n%bsN i=0∧(∀ j,j<i→¬ (n%bsN j=0))∧isN n=decide (n=bsN i))∨((∀ j,j<12→¬ (n%bsN j=0))∧isN n=allB n):=by
 unfold isN;rw[if_neg (by omega)]
 cases hf:(List.range 12).find? (fun j=>decide (n%bsN j=0))with
 | none =>
  refine .inr ⟨fun j hj hd=>?_,rfl⟩;rw[List.find?_eq_none]at hf;exact hf j (List.mem_range.2 hj) (decide_eq_true hd)
 | some i =>
  rw[List.find?_range_eq_some]at hf;obtain⟨h1,h2,h3⟩:=hf;refine .inl ⟨i,List.mem_range.1 h2,of_decide_eq_true h1,fun j hj hd=>?_,rfl⟩;have:=h3 j hj;rw[decide_eq_true hd]at this;cases this
theorem no_small:∀ n:Fin 38,2≤n.val→∃ j:Fin 12,n.val%bsN j.val=0:=by decide +kernel
theorem big_of{n:Nat}(h:2≤n)(hno:∀ j,j<12→¬ (n%bsN j=0)):38≤n:=by
 rcases Nat.lt_or_ge n 38 with a | a
 · obtain⟨j,hj⟩:=no_small ⟨n,a⟩ h;exact absurd hj (hno j.val j.isLt)
 · exact a
theorem sq_mod(a d i n:Nat):a ^ (d * 2 ^ i)%n * (a ^ (d * 2 ^ i)%n)%n=a ^ (d * 2 ^ (i+1))%n:=by
 rw[←Nat.mul_mod,←Nat.pow_add,Nat.pow_succ,←Nat.mul_assoc,Nat.mul_two]
theorem first_hit{P:Nat→Prop}{s:Nat}(hs:0<s)(h0:¬ P 0):∃ t,1≤t∧t≤s∧(∀ i,i<t→¬ P i)∧(t<s→P t):=by
 have : ∀ k,k+1≤s→((∀ i,i<k+1→¬ P i)∨∃ t,1≤t∧t<s∧(∀ i,i<t→¬ P i)∧P t):=by
  intro k
  induction k with
  | zero=>intro _;exact .inl fun i hi=>by obtain rfl:i=0:=(by omega);exact h0
  | succ k ih =>
   intro hk;rcases ih (by omega)with h | h
   · rcases Classical.em (P (k+1))with hp | hp
     · exact .inr ⟨k+1,by omega,by omega,h,hp⟩
     · exact .inl fun i hi=>by
        rcases Nat.lt_or_ge i (k+1)with a | a
        · exact h i a
        · obtain rfl:i=k+1:=by omega
          exact hp
   · exact .inr h
 rcases this (s - 1) (by omega)with h | ⟨t,h1,h2,h3,h4⟩
 · exact⟨s,hs,Nat.le_refl _,fun i hi=>h i (by omega),fun h=>absurd h (Nat.lt_irrefl _)⟩
 · exact⟨t,h1,Nat.le_of_lt h2,h3,fun _=>h4⟩
theorem prime_is_big(n:Nat)(h2:2≤n)(h8:n<18446744073709551616)(hno:∀ j,j<12→¬ (n%bsN j=0))(w:World)(htab:TabAt w):Calls Tryz.prog 47 #[.int .u64 n] w (Ret (.bool (allB n)) w):=by
 have h38:=big_of h2 hno;obtain⟨hsd,hdo⟩:=sd_spec h2 h8;have hAN:=Hq (fun j hj=>allB_no (n:=n) (j:=j) hj);have hAY:=Hq (allB_yes (n:=n));obtain⟨s,hs⟩:∃ s,sN n=s:=⟨_,rfl⟩;obtain⟨d,hd⟩:∃ d,dN n=d:=⟨_,rfl⟩;rw[hs,hd]at hsd hAN hAY;rw[hd]at hdo;clear hs hd;obtain⟨q,hq⟩:∃ q,d=2 * q+1:=⟨d / 2,by omega⟩;have hX:n - 1=2 ^ (s+1) * q+2 ^ s:=by rw[←hsd,hq,Nat.pow_succ,Nat.mul_add,Nat.mul_one,Nat.mul_assoc]
 have hTZ:=fun(w:World) (h:TabAt w)=>bits_tz s q (by omega) w h;have hs1:0<s:=by
  rcases Nat.eq_zero_or_pos s with e | e
  · rw[e,Nat.pow_zero,Nat.one_mul]at hsd;have:=hno 0 (by omega);rw[show bsN 0=2 from rfl]at this;omega
  · exact e
 have hs64:s<64:=by
  rcases Nat.lt_or_ge s 64 with a | a
  · exact a
  · have b:2 ^ 64≤2 ^ s:=Nat.pow_le_pow_right (by decide) a;omega
 obtain⟨X,hXX⟩:∃ X,n - 1=X:=⟨_,rfl⟩;rw[←hX,hXX]at hTZ;rw[hXX]at hsd;have hdX:X / 2 ^ s=d:=by rw[←hsd,Nat.mul_comm];exact Nat.mul_div_cancel _ (Nat.two_pow_pos s)
 have e1:(n:Int) - 1=(X:Int):=by omega
 have hX8:X<18446744073709551616:=by omega
 have hd8:d<18446744073709551616:=by rw[←hdX];exact Nat.lt_of_le_of_lt (Nat.div_le_self _ _) hX8
 have hwX:IntKind.u64.wrap (X:Int)=(X:Int):=u64_wrap X hX8;have hwd:IntKind.u64.wrap (d:Int)=(d:Int):=u64_wrap d hd8;have HTZ:=Hq hTZ;have HNO:=Hq hno;have HDX:=Hq hdX;have HTAB:=Hq htab;have HN1:=Hq hXX;have hn2:((n:Int)<2)=False:=eq_false (by omega);clear hno hTZ hX hq hdo hsd htab hXX hdX;go_enter Tryz.func47,Tryz.ntmps47;go_wp2;go_step3;go_wp2_with fail;refine(prime_bases _).mono ?_;rintro e w1 ⟨rfl,hb1⟩;have HB1:=Hq hb1;clear hb1;go_wp2
 go_loop [4,14] (fun p k=>∃ j:Nat,j≤12∧k=.int .i64 j) (fun p k=>12 - (intOf k).toNat)
 case atStart=>exact⟨0,Nat.zero_le _,rfl⟩
 case round =>
  obtain⟨j,hj,rfl⟩:=hrel;by_cases hji:j<12
  · have hidx:=fun(w:World)=>bs_index (j:=j) hji w;have hp:=bs_pos (j:=j) hji;obtain⟨p,hp'⟩:∃ p,bsN j=p:=⟨_,rfl⟩;obtain⟨r,hr⟩:∃ r,n%p=r:=⟨_,rfl⟩;have hrr:(n:Int)%(p:Int)=(r:Int):=by rw[←hr];rfl
    have hr8:r<18446744073709551616:=by rw[←hr];exact Nat.lt_trans (Nat.mod_lt _ (by omega)) (by omega)
    have hwx:IntKind.u64.wrap (r:Int)=(r:Int):=u64_wrap r hr8;have hp0:¬ (p=0):=by omega
    have hlt:((j:Int)<12)=True:=eq_true (by omega);have hr0:((r:Int)==0)=false:=(by rw[beq_eq_false_iff_ne];have:=HNO.out j hji;rw[hp',hr]at this;omega);rw[hp']at hidx;clear hp' hr hp hr8;go_wp2;go_round;case rel=>exact⟨j+1,by omega,by go_num⟩
    case measure=>simp[intOf];omega
  · obtain rfl:j=12:=by omega
    clear hji hj;go_wp2_with fail;refine(HTZ.out _ (HTAB.out.kept HB1.out nlr)).mono ?_;rintro e w2 ⟨rfl,rfl⟩;have hdI:(X:Int) / 2 ^ s=(d:Int):=by rw[←HDX.out,Int.natCast_ediv,Int.natCast_pow];rfl
    go_wp2;clear hdI;go_step3;go_wp2_with fail;refine(prime_bases _).mono ?_;rintro e w2 ⟨rfl,hb2⟩;have HB2:=Hq (HB1.out.trans (hb2.mono HB1.out.size));clear hb2;go_wp2;go_loopw [33] (fun k wr=>∃ j:Nat,j≤12∧k=.int .i64 j∧(∀ i,i<j→strongB n (bsN i) s d=true)∧Below w.heap.size w wr) (fun k _=>12 - (intOf k).toNat);case atStart=>exact⟨0,Nat.zero_le _,rfl,fun _ h=>absurd h (Nat.not_lt_zero _),HB2.out⟩
    case round =>
     obtain⟨j,hj,rfl,hall,hB⟩:=hrel;have HALL:=Hq hall;have HB:=Hq hB;clear hall hB;by_cases hji:j<12
     · have hlt:((j:Int)<12)=True:=eq_true (by omega);have hidx:=fun(w:World)=>bs_index (j:=j) hji w;have hp:=bs_pos (j:=j) hji;obtain⟨p,hp'⟩:∃ p,bsN j=p:=⟨_,rfl⟩;rw[hp']at hidx hp;have hpm:(p:Int)%(n:Int)=(p:Int):=Int.emod_eq_of_lt (by omega) (by omega);have hwp:IntKind.u64.wrap (p:Int)=(p:Int):=u64_wrap p (by omega);have hn0:¬ (n=0):=by omega
       have HPW:=Hq (prime_pow p d n (by omega) hd8 h8 (by omega));have HMU:=Hq (fun x (hx:x<n)=>prime_mul x x n hx hx h8);have HPJ:=Hq hp';clear hp' hp;go_wp2_with fail;refine(HPW.out _).mono ?_;rintro e w3 ⟨rfl,hb3⟩;have HB3:=Hq (HB.out.trans (hb3.mono HB.out.size));have hx0:p ^ d%n<n:=Nat.mod_lt _ (by omega);obtain⟨x,hx⟩:∃ x,p ^ d%n=x:=⟨_,rfl⟩;rw[hx]at hx0⊢;have hnext:strongB n p s d=true→∀ i,i<j+1→strongB n (bsN i) s d=true:=fun hst i hi=>by
        rcases Nat.lt_or_ge i j with a | a
        · exact HALL.out i a
        · obtain rfl:i=j:=by omega
          rw[HPJ.out];exact hst
       have HNX:=Hq hnext;have HX:=Hq hx;have HX0:=Hq hx0;clear hb3 hnext hx hx0 hpm hwp;by_cases hc1:x=1
       · have ht1:((x:Int)==1)=true:=by rw[hc1];rfl
         have HST:=Hq (strong_one (s:=s) (HX.out.trans hc1));clear hc1;go_wp2;go_roundw;case rel=>exact⟨j+1,by omega,by go_num,HNX.out HST.out,HB3.out⟩
         case measure=>simp[intOf];omega
       · have ht1:((x:Int)==1)=false:=by rw[beq_eq_false_iff_ne];omega
         have HC1:=Hq hc1;clear hc1;by_cases hc2:x=X
         · have ht2:((x:Int)==(X:Int))=true:=by rw[hc2];exact beq_self_eq_true _
           have HST:=Hq (strong_at (n:=n) (a:=p) (d:=d) (i:=0) hs1 (by rw[Nat.pow_zero,Nat.mul_one,HX.out,hc2,HN1.out]));clear hc2;go_wp2;go_roundw;case rel=>exact⟨j+1,by omega,by go_num,HNX.out HST.out,HB3.out⟩
           case measure=>simp[intOf];omega
         · have ht2:((x:Int)==(X:Int))=false:=by rw[beq_eq_false_iff_ne];omega
           obtain⟨t,ht,hts,htn,hte⟩:∃ t,1≤t∧t≤s∧(∀ i,i<t→¬ (p ^ (d * 2 ^ i)%n=X))∧(t<s→p ^ (d * 2 ^ t)%n=X):=
            first_hit (P:=fun i=>p ^ (d * 2 ^ i)%n=X) hs1 (by rw[Nat.pow_zero,Nat.mul_one,HX.out];exact hc2)
           have HTN:=Hq htn;have HTE:=Hq hte;clear hc2 htn hte;go_wp2;go_loopw [9,10] (fun x i wr=>∃(i' x':Nat),1≤i'∧i'≤t∧i=.int .i64 i'∧x=.int .u64 x'∧x'=p ^ (d * 2 ^ (i' - 1))%n∧Below w.heap.size w wr) (fun _ i _=>t - (intOf i).toNat);case atStart=>exact⟨1,x,Nat.le_refl _,ht,rfl,rfl,by rw[Nat.sub_self,Nat.pow_zero,Nat.mul_one,HX.out],HB3.out⟩
           case round =>
            obtain⟨i',x',hi1,hit,rfl,rfl,hx',hB⟩:=hrel;have HX':=Hq hx';have HB:=Hq hB;clear hx' hB ht1 ht2;by_cases his:i'<s
            · have hlti:((i':Int)<(s:Int))=True:=eq_true (by omega);have HM1:=Hq (HMU.out x' (by rw[HX'.out];exact Nat.mod_lt _ (by omega)));have hr:x' * x'%n=p ^ (d * 2 ^ i')%n:=(by rw[HX'.out,sq_mod,show i' - 1+1=i' from by omega]);obtain⟨y,hy⟩:∃ y,x' * x'%n=y:=⟨_,rfl⟩;rw[hy]at hr;have HY:=Hq hy;have HR:=Hq hr;clear hy hr;go_wp2_with fail;refine(HM1.out _).mono ?_;rintro e w4 ⟨rfl,hb4⟩;rw[HY.out];have HB4:=Hq (HB.out.trans (hb4.mono HB.out.size));clear hb4;by_cases hii:i'<t
              · have hc:((y:Int)==(X:Int))=false:=(by rw[beq_eq_false_iff_ne];have:=HTN.out i' hii;have:=HR.out;omega);go_wp2;go_roundw;case rel=>exact⟨i'+1,y,by omega,by omega,by go_num,rfl,HR.out,HB4.out⟩
                case measure=>simp[intOf];omega
              · obtain rfl:i'=t:=by omega
                have he:=HTE.out his;have hc:((y:Int)==(X:Int))=true:=(by rw[HR.out,he];exact beq_self_eq_true _);have HST:=Hq (strong_at (n:=n) (a:=p) (d:=d) his (by rw[he,HN1.out]));clear he hii;go_wp2;go_roundw;case rel=>exact⟨j+1,by omega,by go_num,HNX.out HST.out,HB4.out⟩
                case measure=>simp[intOf];omega
            · have hlti:((i':Int)<(s:Int))=False:=eq_false (by omega);obtain rfl:i'=s:=by omega
              obtain rfl:t=i':=by omega
              have HF:allB n=false:=hAN.out j hji (by
               rw[HPJ.out];refine strong_no (by rw[HX.out];exact HC1.out) (fun i hi=>?_);rw[HN1.out]
               exact HTN.out i hi)
              clear his;go_wp2;go_ret;exact⟨by rw[HF];rfl,HB.out⟩
     · obtain rfl:j=12:=by omega
       have HF:allB n=true:=hAY.out HALL.out;clear hji hj;go_wp2;go_ret;exact⟨by rw[HF];rfl,HB.out⟩
end Go.Proofs.YtdhnkmbjogmmkaaGreatDoor

import Derived.Test.YtppbcopnfankcaaGreatQDig
set_option linter.unusedVariables false
set_option linter.unusedSimpArgs false
namespace Go.Proofs.YtppbcopnfankcaaGreat
set_option maxRecDepth 100000
set_option maxHeartbeats 4000000
open Go.RowKit
theorem OutB.kept{w w':World}{K B n i v:Nat}(h:OutB w B n i v)(hb:Below K w w')(hB:B<K):OutB w' B n i v:=by
 obtain⟨cur,h1,h2,h3⟩:=h;exact⟨cur,by rw[←h1];exact hb.block _ hB,h2,h3⟩
theorem OutB.get{w:World}{B n v:Nat}(h:OutB w B n n v){k j:Nat}(hk:k+1+j=n):w.cell? ⟨B,k,none⟩=some (.int .u8 (dig v j)):=by
 obtain⟨cur,h1,h2,h3⟩:=h;rw[Lib.cell_of_heap h1];have:=h3 j (by omega);rwa[show n - 1 - j=k from by omega]at this
theorem OutB.zero{w:World}(n:Nat):OutB (w.alloc (.cells (zb n) 5)) w.heap.size n n 0:=by
 refine⟨_,heap_alloc_new _ _,zl1 n,fun j h=>?_⟩;unfold zb madeCells;rw[Array.getElem?_map,Array.getElem?_range,if_pos (by omega)];simp[Nat.mod_one,dig]
theorem OutB.put{w:World}{B n v v' k j c:Nat}(h:OutB w B n n v)(hk:k+1+j=n)(hc:dig v' j=c)(ho:∀ i,i≠j→dig v' i=dig v i):OutB (w.setCell ⟨B,k,none⟩ (.int .u8 (c:Int))) B n n v':=by
 obtain⟨cur,h1,h2,h3⟩:=h;refine⟨_,zl h1 _,by rw[Array.size_setIfInBounds,h2],fun i hi=>?_⟩;rw[Array.getElem?_setIfInBounds];by_cases e:i=j
 · subst e;rw[if_pos (by omega),if_pos (by omega),hc]
 · rw[if_neg (by omega),ho i e];exact h3 i hi
theorem zvo(q e:Nat):(q * 2 ^ (e+1)+2 ^ e) / 256 ^ (e / 8)=q * 2 ^ (e+1) / 256 ^ (e / 8)+2 ^ (e%8)∧q * 2 ^ (e+1) / 256 ^ (e / 8)%256+2 ^ (e%8)<256:=by
 obtain⟨a,ha⟩:=nm (e / 8);obtain⟨b,hb⟩:=nm (e%8);have hb8:b<8:=by omega
 have he:e=8 * a+b:=by omega
 rw[ha,hb];subst he;have e1:q * 2 ^ (8 * a+b+1)=q * 2 ^ (b+1) * 256 ^ a:=by
  rw[show (256:Nat) ^ a=2 ^ (8 * a)from by rw[Nat.pow_mul],Nat.mul_assoc,←Nat.pow_add];congr 2;omega
 have e2:(2:Nat) ^ (8 * a+b)=2 ^ b * 256 ^ a:=(by rw[show (256:Nat) ^ a=2 ^ (8 * a)from by rw[Nat.pow_mul],←Nat.pow_add];congr 1;omega);have hp:0<256 ^ a:=Nat.pow_pos (by decide);rw[e1,e2,←Nat.add_mul,Nat.mul_div_cancel _ hp,Nat.mul_div_cancel _ hp];clear e1 e2 hp ha hb;refine⟨rfl,?_⟩
 match b,hb8 with
 | 0,_=>omega
 | 1,_=>omega
 | 2,_=>omega
 | 3,_=>omega
 | 4,_=>omega
 | 5,_=>omega
 | 6,_=>omega
 | 7,_=>omega
theorem zbx(q e:Nat):dig (q * 2 ^ (e+1)+2 ^ e) (e / 8)=dig (q * 2 ^ (e+1)) (e / 8)+2 ^ (e%8)∧dig (q * 2 ^ (e+1)) (e / 8)+2 ^ (e%8)<256:=by
 obtain⟨h1,h2⟩:=zvo q e;unfold dig;rw[h1];generalize q * 2 ^ (e+1) / 256 ^ (e / 8)=A at *;generalize 2 ^ (e%8)=P at *;omega
theorem zba(q e i:Nat)(hi:i≠e / 8):dig (q * 2 ^ (e+1)+2 ^ e) i=dig (q * 2 ^ (e+1)) i:=by
 obtain⟨h1,h2⟩:=zvo q e;obtain⟨a,ha⟩:=nm (e / 8);obtain⟨b,hb⟩:=nm (e%8);have he:e=8 * a+b:=by omega
 rw[ha,hb]at h1 h2;rw[ha]at hi;unfold dig;rcases Nat.lt_or_ge i a with h | h
 · have e1:∀ c,2 ^ (8 * a+c)=2 ^ (8 * (a - i - 1)+c) * 256 * 256 ^ i:=(by intro c;rw[show (256:Nat) ^ i=2 ^ (8 * i)from by rw[Nat.pow_mul],show (256:Nat)=2 ^ 8 from rfl,←Nat.pow_add,←Nat.pow_add];congr 1;omega);have hp:0<256 ^ i:=Nat.pow_pos (by decide);rw[he,show 8 * a+b+1=8 * a+(b+1)from by omega,e1,e1,←Nat.mul_assoc q,←Nat.add_mul,Nat.mul_div_cancel _ hp,Nat.mul_div_cancel _ hp,←Nat.mul_assoc q,←Nat.add_mul,Nat.mul_mod_left,Nat.mul_mod_left]
 · obtain⟨c,rfl⟩:∃ c,i=a+1+c:=⟨i - a - 1,by omega⟩;have key:∀ m,m / 256 ^ (a+1+c)=m / 256 ^ a / 256 / 256 ^ c:=(by intro m;rw[Nat.div_div_eq_div_mul,Nat.div_div_eq_div_mul,show (256:Nat) ^ (a+1+c)=256 ^ a * (256 * 256 ^ c)from by rw[Nat.pow_add,Nat.pow_succ,Nat.mul_assoc]]);rw[key,key,h1];congr 2;generalize q * 2 ^ (e+1) / 256 ^ a=A at *;generalize 2 ^ b=P at *;omega
theorem zmr(x e:Nat):∃ β,β≤1∧(bitB x e=true→β=1)∧(bitB x e=false→β=0)∧x / 2 ^ e=2 * (x / 2 ^ (e+1))+β:=by
 refine⟨x / 2 ^ e%2,by omega,?_,?_,?_⟩
 · unfold bitB;simp
 · unfold bitB;simp
 · rw[Nat.pow_succ,←Nat.div_div_eq_div_mul];omega
theorem zi2{X y q r β t:Nat}(hq:X / y=q)(hr:X%y=r)(ht:2 * r+β=t)(h:t<y):(2 * X+β) / y=2 * q∧(2 * X+β)%y=t:=by
 have h0:0<y:=by omega
 have h1:=Nat.div_add_mod X y;rw[hq,hr]at h1;have e:2 * X+β=t+y * (2 * q):=(by rw[←h1,←ht,Nat.mul_left_comm y 2 q];omega);rw[e,Nat.add_mul_div_left _ _ h0,Nat.add_mul_mod_self_left,Nat.div_eq_of_lt h,Nat.mod_eq_of_lt h,Nat.zero_add];exact⟨rfl,rfl⟩
theorem zi3{X y q r β t:Nat}(hq:X / y=q)(hr:X%y=r)(ht:2 * r+β=t)(hβ:β≤1)(h0:0<y)(h:y≤t):(2 * X+β) / y=2 * q+1∧(2 * X+β)%y=t - y:=by
 have hl:r<y:=by rw[←hr];exact Nat.mod_lt _ h0
 have h1:=Nat.div_add_mod X y;rw[hq,hr]at h1;have e:2 * X+β=(t - y)+y * (2 * q+1):=by
  have h3:y * (2 * q+1)=2 * (y * q)+y:=by rw[Nat.mul_add,Nat.mul_one,Nat.mul_left_comm]
  rw[h3,←h1];omega
 have h2:t - y<y:=by omega
 rw[e,Nat.add_mul_div_left _ _ h0,Nat.add_mul_mod_self_left,Nat.div_eq_of_lt h2,Nat.mod_eq_of_lt h2,Nat.zero_add];exact⟨rfl,rfl⟩
theorem zmh:(nS 1)=⟨#[1]⟩:=rfl
def OvQ(x y K:Nat):Nat:=x / 2 ^ K / y * 2 ^ K
theorem znm{x y e:Nat}(h:x / 2 ^ e / y=2 * (x / 2 ^ (e+1) / y)):OvQ x y e=OvQ x y (e+1):=by
 unfold OvQ;rw[h,Nat.pow_succ,Nat.mul_comm 2,Nat.mul_assoc,Nat.mul_comm 2]
theorem znn{x y e:Nat}(h:x / 2 ^ e / y=2 * (x / 2 ^ (e+1) / y)+1):OvQ x y e=OvQ x y (e+1)+2 ^ e:=by
 unfold OvQ;rw[h,Nat.add_mul,Nat.one_mul,Nat.pow_succ,Nat.mul_comm 2,Nat.mul_assoc,Nat.mul_comm 2]
theorem zix(x y:Nat)(hs1:(nS x).size≤300)(hs2:(nS y).size≤300)(h0:0<y)(hlg:8<(nS x).size∨8<(nS y).size)(w:World):Calls Tryz.prog 153 #[.string (nS x),.string (nS y)] w (Ret (.tuple #[.string (nS (x / y)),.string (nS (x%y))]) w):=by
 have hmx:x<256 ^ (nS x).size:=ze.1 nlr;have HBT:=Hq (ziu x (by omega));have hbl:=zck x;have hby:blen x≤8 * (nS x).size:=by
  rcases Nat.eq_zero_or_pos x with e | e
  · rw[e];exact Nat.zero_le _
  · have h1:=zjv e;rcases Nat.lt_or_ge (8 * (nS x).size) (blen x)with h | h
    · have : (2:Nat) ^ (8 * (nS x).size)≤2 ^ (blen x - 1):=Nat.pow_le_pow_right (by decide) (by omega);rw[Nat.pow_mul,show (2:Nat) ^ 8=256 from rfl]at this;omega
    · exact h
 have HYS:=Hq (show ∀ t,t<2 * y→(nS t).size≤400 from fun t ht=>by
  have h1:y<256 ^ (nS y).size:=ze.1 nlr;have h2:(nS t).size≤(nS y).size+1:=ze.2 (by rw[Nat.pow_succ];omega)
  omega)
 have HXQ:=Hq (show (nS (x / y)).size≤1000 from by
  have : (nS (x / y)).size≤(nS x).size:=ze.2 (Nat.lt_of_le_of_lt (Nat.div_le_self _ _) hmx)
  omega)
 have HX1:=Hq (show x / y<256 ^ (nS x).size from Nat.lt_of_le_of_lt (Nat.div_le_self _ _) hmx);have HONE:=Hq (fun e (he:e<100000)=>zrc x e (by omega) he);obtain⟨s,hs⟩:=nm (nS x);obtain⟨sy,hty⟩:=nm (nS y);rw[hs]at hs1 hlg hby HBT HONE HX1⊢;rw[hty]at hs2 hlg⊢;have HTY:=Hq hty;clear hs hty hmx;obtain⟨a,ha⟩:=nm (s.size);obtain⟨m,hm⟩:=nm (blen x);rw[ha]at hs1 hlg hby HX1;rw[hm]at hby HBT hbl;have HX2:=Hq (show x / 2 ^ m=0 from Nat.div_eq_of_lt hbl);clear hbl hm;have hdec:(decide ((a:Int)≤8)&&decide ((sy.size:Int)≤8))=false:=by
  rcases hlg with h | h
  · rw[decide_eq_false (by omega)];rfl
  · rw[decide_eq_false (p:=(sy.size:Int)≤8) (by omega),Bool.and_false]
 have hmb:=fun(w:World)=>xi a (by omega) w;obtain⟨b,hb⟩:=nm (sy.size);rw[hb]at hs2 hlg hdec;by_cases hl8:(a:Int)≤8
 · have hl9:¬ ((b:Int)≤8):=by omega
   clear hlg hdec;go_enter Tryz.func153,Tryz.ntmps153;go_wp2_with fail;refine(HBT.out _).mono ?_;rintro e w1 ⟨rfl,rfl⟩;go_wp2;clear hmb;go_loopw [9,10] (fun r i wr=>∃(K t:Nat),K≤m∧r=.string (nS t)∧i=.int .i64 ((K:Int) - 1)∧x / 2 ^ K%y=t∧OutB wr w.heap.size a a (OvQ x y K)∧Below w.heap.size w wr) (fun _ i _=>(intOf i+1).toNat);case atStart=>exact⟨m,0,Nat.le_refl _,rfl,by go_num,by rw[HX2.out,Nat.zero_mod],by rw[show OvQ x y m=0 from by unfold OvQ;rw[HX2.out,Nat.zero_div,Nat.zero_mul]];exact OutB.zero _,(blr).alloc nlr _⟩
   case round =>
    obtain⟨K,r,hK,rfl,rfl,hr,hO,hB⟩:=hrel;have HO:=Hq hO;have HB:=Hq hB;have HR:=Hq hr;have hry:r<y:=by rw[←hr];exact Nat.mod_lt _ h0
    have hsr:=HYS.out r (by omega);clear hO hB hr;by_cases hlt:0<K
    · obtain⟨e,rfl⟩:∃ e,K=e+1:=⟨K - 1,by omega⟩;rw[show ((e+1:Nat):Int) - 1=(e:Int)from by omega];have he0:(0:Int)≤(e:Int):=by omega
      obtain⟨β,hβ,hβ1,hβ0,hup⟩:=zmr x e;have HUP:=Hq hup;have HB1:=Hq hβ1;have HB0:=Hq hβ0;clear hup hβ1 hβ0;go_wp2_with fail;refine(zeb r r (by omega) (by omega) _).mono ?_;rintro ev w2 ⟨rfl,hb2⟩;have HB2:=Hq (HB.out.trans (hb2.mono HB.out.size));have HO2:=Hq (HO.out.kept hb2 (HO.out.lt));clear hb2;go_wp2_with fail;refine(HONE.out e (by omega) _).mono ?_;rintro ev w3' ⟨rfl,rfl⟩;by_cases hbit:bitB x e=true
      · have HBE:=Hq (HB1.out hbit);rw[hbit];clear hbit;have hsd:=HYS.out (r+r) (by omega);have hs1':(nS 1).size≤500:=by decide
        go_wp2_with fail;rw[←zmh];refine(zeb (r+r) 1 (by omega) hs1' _).mono ?_;rintro ev w3 ⟨rfl,hb3⟩;have HB3:=Hq (HB2.out.trans (hb3.mono HB2.out.size));have HO3:=Hq (HO2.out.kept hb3 (HO2.out.lt));obtain⟨t,ht⟩:=nm (r+r+1);rw[ht];have HT2:=Hq (show 2 * r+β=t from by have:=HBE.out;omega);have hst:=HYS.out t (by omega);clear hb3 ht
        -- t: the remainder with the new digit; w3, HB3, HO3: the world
        have HCM:=Hq (xl t y);rw[HTY.out]at HCM;by_cases hge:y≤t
        · obtain⟨hq1,hq2⟩:=zi3 (X:=x / 2 ^ (e+1)) (β:=β) rfl HR.out HT2.out hβ h0 hge;rw[←HUP.out]at hq1 hq2;have HQ:=Hq (znn hq1);have HM:=Hq hq2;have hg:=jl hge;have HGE:=Hq hge;obtain⟨c,hc⟩:=nm (cmpI t y);rw[hc]at hg HCM;clear hq1 hq2 hc hge;go_wp2_with fail;refine(ja (nS t) sy (by omega) (by omega) _).mono ?_;rintro ev w4 ⟨rfl,hb4⟩;rw[HCM.out];have HB4:=Hq (HB3.out.trans (hb4.mono HB3.out.size));have HO4:=Hq (HO3.out.kept hb4 (HO3.out.lt));clear hb4;go_wp2_with fail;rw[←HTY.out];refine(zam t y (by omega) HGE.out _).mono ?_;rintro ev w5 ⟨rfl,hb5⟩;rw[HTY.out];have HB5:=Hq (HB4.out.trans (hb5.mono HB4.out.size));have HO5:=Hq (HO4.out.kept hb5 (HO4.out.lt));clear hb5;go_wp2;obtain⟨hd1,hd2⟩:=zbx (x / 2 ^ (e+1) / y) e;have hoff:=zba (x / 2 ^ (e+1) / y) e;rw[show x / 2 ^ (e+1) / y * 2 ^ (e+1)=OvQ x y (e+1)from rfl,←HQ.out]at hd1 hoff;rw[show x / 2 ^ (e+1) / y * 2 ^ (e+1)=OvQ x y (e+1)from rfl]at hd2;have HD1:=Hq hd1;have HOFF:=Hq hoff;have HD2:=Hq hd2;clear hd1 hoff hd2
          go_loop [11,12] (fun bt i=>∃ j:Nat,j≤e%8∧i=.int .i64 j∧bt=.int .u8 ((2 ^ j:Nat):Int)) (fun _ i=>8 - (intOf i).toNat)
          case atStart=>exact⟨0,Nat.zero_le _,rfl,rfl⟩
          case round =>
           obtain⟨j,hj,rfl,rfl⟩:=hrel;obtain⟨P,hP⟩:=nm (2 ^ j);have HP:=Hq hP;by_cases hlt2:j<e%8
           · have hPl:P≤64:=by rw[←hP];exact Nat.le_trans (Nat.pow_le_pow_right (by decide) (show j≤6 by omega)) (by decide)
             have hlt3:(j:Int)<(e:Int)%8:=by omega
             rw[hP];clear hP;go_wp2;go_round;case rel=>exact⟨j+1,by omega,by go_num,by rw[Nat.pow_succ,HP.out];go_num⟩
             case measure=>simp[intOf]<;>omega
           · obtain rfl:j=e%8:=by omega
             rw[hP];have HJ:=Hq (show e%8<8 by omega);have hlt3:¬ (((e%8:Nat):Int)<(e:Int)%8):=by omega
             obtain⟨kk,hkk⟩:∃ kk,kk+1+e / 8=a:=⟨a - 1 - e / 8,by omega⟩;have hix:(a:Int) - 1 - (e:Int) / 8=(kk:Int):=by omega
             have hka:kk<a:=by omega
             have hka2:(kk:Int)<(a:Int):=by omega
             have hk0:(0:Int)≤(kk:Int):=by omega
             have c0:=HO5.out.get hkk;have hf:=HO5.out.free kk;have hd2:=HD2.out;rw[HP.out]at hd2;obtain⟨d,hd⟩:=nm (dig (OvQ x y (e+1)) (e / 8));rw[hd]at c0 hd2;have HDD:=Hq hd;have HKK:=Hq hkk;clear hP hkk hd;go_wp2;go_roundw
             case rel =>
                 refine⟨e,t - y,by omega,rfl,by go_num,HM.out,?_,HB5.out.setCell (p:=⟨w.heap.size,kk,none⟩) nlr _⟩;have h1:=HO5.out.put (c:=d+P) HKK.out (by rw[HD1.out,HDD.out,HP.out]) (fun i hi=>HOFF.out i hi);rw[Int.natCast_add]at h1;exact h1
             case measure=>simp[intOf]<;>omega
        · obtain⟨hq1,hq2⟩:=zi2 (X:=x / 2 ^ (e+1)) (β:=β) rfl HR.out HT2.out (by omega);rw[←HUP.out]at hq1 hq2;have HQ:=Hq (znm hq1);have HM:=Hq hq2;have hg:=qh (show t<y by omega);rw[hg]at HCM;clear hq1 hq2 hge hg;go_wp2_with fail;refine(ja (nS t) sy (by omega) (by omega) _).mono ?_;rintro ev w4 ⟨rfl,hb4⟩;rw[HCM.out];have HB4:=Hq (HB3.out.trans (hb4.mono HB3.out.size));have HO4:=Hq (HO3.out.kept hb4 (HO3.out.lt));clear hb4;go_wp2;go_roundw;case rel=>exact⟨e,t,by omega,rfl,by go_num,HM.out,by rw[HQ.out];exact HO4.out,HB4.out⟩
          case measure=>simp[intOf]<;>omega
      · rw[Bool.not_eq_true]at hbit;have HBE:=Hq (HB0.out hbit);rw[hbit];clear hbit;have HB3:=Hq HB2.out;have HO3:=Hq HO2.out;obtain⟨t,ht⟩:=nm (r+r);rw[ht];have HT2:=Hq (show 2 * r+β=t from by have:=HBE.out;omega);have hst:=HYS.out t (by omega);clear ht
        -- t: the remainder with the new digit; w3, HB3, HO3: the world
        have HCM:=Hq (xl t y);rw[HTY.out]at HCM;by_cases hge:y≤t
        · obtain⟨hq1,hq2⟩:=zi3 (X:=x / 2 ^ (e+1)) (β:=β) rfl HR.out HT2.out hβ h0 hge;rw[←HUP.out]at hq1 hq2;have HQ:=Hq (znn hq1);have HM:=Hq hq2;have hg:=jl hge;have HGE:=Hq hge;obtain⟨c,hc⟩:=nm (cmpI t y);rw[hc]at hg HCM;clear hq1 hq2 hc hge;go_wp2_with fail;refine(ja (nS t) sy (by omega) (by omega) _).mono ?_;rintro ev w4 ⟨rfl,hb4⟩;rw[HCM.out];have HB4:=Hq (HB3.out.trans (hb4.mono HB3.out.size));have HO4:=Hq (HO3.out.kept hb4 (HO3.out.lt));clear hb4;go_wp2_with fail;rw[←HTY.out];refine(zam t y (by omega) HGE.out _).mono ?_;rintro ev w5 ⟨rfl,hb5⟩;rw[HTY.out];have HB5:=Hq (HB4.out.trans (hb5.mono HB4.out.size));have HO5:=Hq (HO4.out.kept hb5 (HO4.out.lt));clear hb5;go_wp2;obtain⟨hd1,hd2⟩:=zbx (x / 2 ^ (e+1) / y) e;have hoff:=zba (x / 2 ^ (e+1) / y) e;rw[show x / 2 ^ (e+1) / y * 2 ^ (e+1)=OvQ x y (e+1)from rfl,←HQ.out]at hd1 hoff;rw[show x / 2 ^ (e+1) / y * 2 ^ (e+1)=OvQ x y (e+1)from rfl]at hd2;have HD1:=Hq hd1;have HOFF:=Hq hoff;have HD2:=Hq hd2;clear hd1 hoff hd2
          go_loop [11,12] (fun bt i=>∃ j:Nat,j≤e%8∧i=.int .i64 j∧bt=.int .u8 ((2 ^ j:Nat):Int)) (fun _ i=>8 - (intOf i).toNat)
          case atStart=>exact⟨0,Nat.zero_le _,rfl,rfl⟩
          case round =>
           obtain⟨j,hj,rfl,rfl⟩:=hrel;obtain⟨P,hP⟩:=nm (2 ^ j);have HP:=Hq hP;by_cases hlt2:j<e%8
           · have hPl:P≤64:=by rw[←hP];exact Nat.le_trans (Nat.pow_le_pow_right (by decide) (show j≤6 by omega)) (by decide)
             have hlt3:(j:Int)<(e:Int)%8:=by omega
             rw[hP];clear hP;go_wp2;go_round;case rel=>exact⟨j+1,by omega,by go_num,by rw[Nat.pow_succ,HP.out];go_num⟩
             case measure=>simp[intOf]<;>omega
           · obtain rfl:j=e%8:=by omega
             rw[hP];have HJ:=Hq (show e%8<8 by omega);have hlt3:¬ (((e%8:Nat):Int)<(e:Int)%8):=by omega
             obtain⟨kk,hkk⟩:∃ kk,kk+1+e / 8=a:=⟨a - 1 - e / 8,by omega⟩;have hix:(a:Int) - 1 - (e:Int) / 8=(kk:Int):=by omega
             have hka:kk<a:=by omega
             have hka2:(kk:Int)<(a:Int):=by omega
             have hk0:(0:Int)≤(kk:Int):=by omega
             have c0:=HO5.out.get hkk;have hf:=HO5.out.free kk;have hd2:=HD2.out;rw[HP.out]at hd2;obtain⟨d,hd⟩:=nm (dig (OvQ x y (e+1)) (e / 8));rw[hd]at c0 hd2;have HDD:=Hq hd;have HKK:=Hq hkk;clear hP hkk hd;go_wp2;go_roundw
             case rel =>
                 refine⟨e,t - y,by omega,rfl,by go_num,HM.out,?_,HB5.out.setCell (p:=⟨w.heap.size,kk,none⟩) nlr _⟩;have h1:=HO5.out.put (c:=d+P) HKK.out (by rw[HD1.out,HDD.out,HP.out]) (fun i hi=>HOFF.out i hi);rw[Int.natCast_add]at h1;exact h1
             case measure=>simp[intOf]<;>omega
        · obtain⟨hq1,hq2⟩:=zi2 (X:=x / 2 ^ (e+1)) (β:=β) rfl HR.out HT2.out (by omega);rw[←HUP.out]at hq1 hq2;have HQ:=Hq (znm hq1);have HM:=Hq hq2;have hg:=qh (show t<y by omega);rw[hg]at HCM;clear hq1 hq2 hge hg;go_wp2_with fail;refine(ja (nS t) sy (by omega) (by omega) _).mono ?_;rintro ev w4 ⟨rfl,hb4⟩;rw[HCM.out];have HB4:=Hq (HB3.out.trans (hb4.mono HB3.out.size));have HO4:=Hq (HO3.out.kept hb4 (HO3.out.lt));clear hb4;go_wp2;go_roundw;case rel=>exact⟨e,t,by omega,rfl,by go_num,HM.out,by rw[HQ.out];exact HO4.out,HB4.out⟩
          case measure=>simp[intOf]<;>omega
    · obtain rfl:K=0:=by omega
      have hneg:((0:Nat):Int) - 1 = -1:=rfl;rw[hneg];have HQ0:=Hq (show OvQ x y 0=x / y from by unfold OvQ;rw[Nat.pow_zero,Nat.div_one,Nat.mul_one]);have HR0:=Hq (show x%y=r from by rw[←HR.out,Nat.pow_zero,Nat.div_one]);have hby2:=HO.out.bytes (by omega);rw[HQ0.out]at hby2;have HBY:=Hq hby2;clear hby2;go_wp2_with fail;refine(zbu _ _ _ _ _ HBY.out).mono ?_;rintro ev w2 ⟨rfl,rfl⟩;rw[qi HX1.out];go_wp2;go_ret2;exact⟨by rw[HR0.out];rfl,HB.out⟩
 · clear hlg hdec;go_enter Tryz.func153,Tryz.ntmps153;go_wp2_with fail;refine(HBT.out _).mono ?_;rintro e w1 ⟨rfl,rfl⟩;go_wp2;clear hmb;go_loopw [9,10] (fun r i wr=>∃(K t:Nat),K≤m∧r=.string (nS t)∧i=.int .i64 ((K:Int) - 1)∧x / 2 ^ K%y=t∧OutB wr w.heap.size a a (OvQ x y K)∧Below w.heap.size w wr) (fun _ i _=>(intOf i+1).toNat);case atStart=>exact⟨m,0,Nat.le_refl _,rfl,by go_num,by rw[HX2.out,Nat.zero_mod],by rw[show OvQ x y m=0 from by unfold OvQ;rw[HX2.out,Nat.zero_div,Nat.zero_mul]];exact OutB.zero _,(blr).alloc nlr _⟩
   case round =>
    obtain⟨K,r,hK,rfl,rfl,hr,hO,hB⟩:=hrel;have HO:=Hq hO;have HB:=Hq hB;have HR:=Hq hr;have hry:r<y:=by rw[←hr];exact Nat.mod_lt _ h0
    have hsr:=HYS.out r (by omega);clear hO hB hr;by_cases hlt:0<K
    · obtain⟨e,rfl⟩:∃ e,K=e+1:=⟨K - 1,by omega⟩;rw[show ((e+1:Nat):Int) - 1=(e:Int)from by omega];have he0:(0:Int)≤(e:Int):=by omega
      obtain⟨β,hβ,hβ1,hβ0,hup⟩:=zmr x e;have HUP:=Hq hup;have HB1:=Hq hβ1;have HB0:=Hq hβ0;clear hup hβ1 hβ0;go_wp2_with fail;refine(zeb r r (by omega) (by omega) _).mono ?_;rintro ev w2 ⟨rfl,hb2⟩;have HB2:=Hq (HB.out.trans (hb2.mono HB.out.size));have HO2:=Hq (HO.out.kept hb2 (HO.out.lt));clear hb2;go_wp2_with fail;refine(HONE.out e (by omega) _).mono ?_;rintro ev w3' ⟨rfl,rfl⟩;by_cases hbit:bitB x e=true
      · have HBE:=Hq (HB1.out hbit);rw[hbit];clear hbit;have hsd:=HYS.out (r+r) (by omega);have hs1':(nS 1).size≤500:=by decide
        go_wp2_with fail;rw[←zmh];refine(zeb (r+r) 1 (by omega) hs1' _).mono ?_;rintro ev w3 ⟨rfl,hb3⟩;have HB3:=Hq (HB2.out.trans (hb3.mono HB2.out.size));have HO3:=Hq (HO2.out.kept hb3 (HO2.out.lt));obtain⟨t,ht⟩:=nm (r+r+1);rw[ht];have HT2:=Hq (show 2 * r+β=t from by have:=HBE.out;omega);have hst:=HYS.out t (by omega);clear hb3 ht
        -- t: the remainder with the new digit; w3, HB3, HO3: the world
        have HCM:=Hq (xl t y);rw[HTY.out]at HCM;by_cases hge:y≤t
        · obtain⟨hq1,hq2⟩:=zi3 (X:=x / 2 ^ (e+1)) (β:=β) rfl HR.out HT2.out hβ h0 hge;rw[←HUP.out]at hq1 hq2;have HQ:=Hq (znn hq1);have HM:=Hq hq2;have hg:=jl hge;have HGE:=Hq hge;obtain⟨c,hc⟩:=nm (cmpI t y);rw[hc]at hg HCM;clear hq1 hq2 hc hge;go_wp2_with fail;refine(ja (nS t) sy (by omega) (by omega) _).mono ?_;rintro ev w4 ⟨rfl,hb4⟩;rw[HCM.out];have HB4:=Hq (HB3.out.trans (hb4.mono HB3.out.size));have HO4:=Hq (HO3.out.kept hb4 (HO3.out.lt));clear hb4;go_wp2_with fail;rw[←HTY.out];refine(zam t y (by omega) HGE.out _).mono ?_;rintro ev w5 ⟨rfl,hb5⟩;rw[HTY.out];have HB5:=Hq (HB4.out.trans (hb5.mono HB4.out.size));have HO5:=Hq (HO4.out.kept hb5 (HO4.out.lt));clear hb5;go_wp2;obtain⟨hd1,hd2⟩:=zbx (x / 2 ^ (e+1) / y) e;have hoff:=zba (x / 2 ^ (e+1) / y) e;rw[show x / 2 ^ (e+1) / y * 2 ^ (e+1)=OvQ x y (e+1)from rfl,←HQ.out]at hd1 hoff;rw[show x / 2 ^ (e+1) / y * 2 ^ (e+1)=OvQ x y (e+1)from rfl]at hd2;have HD1:=Hq hd1;have HOFF:=Hq hoff;have HD2:=Hq hd2;clear hd1 hoff hd2
          go_loop [11,12] (fun bt i=>∃ j:Nat,j≤e%8∧i=.int .i64 j∧bt=.int .u8 ((2 ^ j:Nat):Int)) (fun _ i=>8 - (intOf i).toNat)
          case atStart=>exact⟨0,Nat.zero_le _,rfl,rfl⟩
          case round =>
           obtain⟨j,hj,rfl,rfl⟩:=hrel;obtain⟨P,hP⟩:=nm (2 ^ j);have HP:=Hq hP;by_cases hlt2:j<e%8
           · have hPl:P≤64:=by rw[←hP];exact Nat.le_trans (Nat.pow_le_pow_right (by decide) (show j≤6 by omega)) (by decide)
             have hlt3:(j:Int)<(e:Int)%8:=by omega
             rw[hP];clear hP;go_wp2;go_round;case rel=>exact⟨j+1,by omega,by go_num,by rw[Nat.pow_succ,HP.out];go_num⟩
             case measure=>simp[intOf]<;>omega
           · obtain rfl:j=e%8:=by omega
             rw[hP];have HJ:=Hq (show e%8<8 by omega);have hlt3:¬ (((e%8:Nat):Int)<(e:Int)%8):=by omega
             obtain⟨kk,hkk⟩:∃ kk,kk+1+e / 8=a:=⟨a - 1 - e / 8,by omega⟩;have hix:(a:Int) - 1 - (e:Int) / 8=(kk:Int):=by omega
             have hka:kk<a:=by omega
             have hka2:(kk:Int)<(a:Int):=by omega
             have hk0:(0:Int)≤(kk:Int):=by omega
             have c0:=HO5.out.get hkk;have hf:=HO5.out.free kk;have hd2:=HD2.out;rw[HP.out]at hd2;obtain⟨d,hd⟩:=nm (dig (OvQ x y (e+1)) (e / 8));rw[hd]at c0 hd2;have HDD:=Hq hd;have HKK:=Hq hkk;clear hP hkk hd;go_wp2;go_roundw;case rel =>
              refine⟨e,t - y,by omega,rfl,by go_num,HM.out,?_,HB5.out.setCell (p:=⟨w.heap.size,kk,none⟩) nlr _⟩;have h1:=HO5.out.put (c:=d+P) HKK.out (by rw[HD1.out,HDD.out,HP.out]) (fun i hi=>HOFF.out i hi);rw[Int.natCast_add]at h1;exact h1
             case measure=>simp[intOf]<;>omega
        · obtain⟨hq1,hq2⟩:=zi2 (X:=x / 2 ^ (e+1)) (β:=β) rfl HR.out HT2.out (by omega);rw[←HUP.out]at hq1 hq2;have HQ:=Hq (znm hq1);have HM:=Hq hq2;have hg:=qh (show t<y by omega);rw[hg]at HCM;clear hq1 hq2 hge hg;go_wp2_with fail;refine(ja (nS t) sy (by omega) (by omega) _).mono ?_;rintro ev w4 ⟨rfl,hb4⟩;rw[HCM.out];have HB4:=Hq (HB3.out.trans (hb4.mono HB3.out.size));have HO4:=Hq (HO3.out.kept hb4 (HO3.out.lt));clear hb4;go_wp2;go_roundw;case rel=>exact⟨e,t,by omega,rfl,by go_num,HM.out,by rw[HQ.out];exact HO4.out,HB4.out⟩
          case measure=>simp[intOf]<;>omega
      · rw[Bool.not_eq_true]at hbit;have HBE:=Hq (HB0.out hbit);rw[hbit];clear hbit;have HB3:=Hq HB2.out;have HO3:=Hq HO2.out;obtain⟨t,ht⟩:=nm (r+r);rw[ht];have HT2:=Hq (show 2 * r+β=t from by have:=HBE.out;omega);have hst:=HYS.out t (by omega);clear ht
        -- t: the remainder with the new digit; w3, HB3, HO3: the world
        have HCM:=Hq (xl t y);rw[HTY.out]at HCM;by_cases hge:y≤t
        · obtain⟨hq1,hq2⟩:=zi3 (X:=x / 2 ^ (e+1)) (β:=β) rfl HR.out HT2.out hβ h0 hge;rw[←HUP.out]at hq1 hq2;have HQ:=Hq (znn hq1);have HM:=Hq hq2;have hg:=jl hge;have HGE:=Hq hge;obtain⟨c,hc⟩:=nm (cmpI t y);rw[hc]at hg HCM;clear hq1 hq2 hc hge;go_wp2_with fail;refine(ja (nS t) sy (by omega) (by omega) _).mono ?_;rintro ev w4 ⟨rfl,hb4⟩;rw[HCM.out];have HB4:=Hq (HB3.out.trans (hb4.mono HB3.out.size));have HO4:=Hq (HO3.out.kept hb4 (HO3.out.lt));clear hb4;go_wp2_with fail;rw[←HTY.out];refine(zam t y (by omega) HGE.out _).mono ?_;rintro ev w5 ⟨rfl,hb5⟩;rw[HTY.out];have HB5:=Hq (HB4.out.trans (hb5.mono HB4.out.size));have HO5:=Hq (HO4.out.kept hb5 (HO4.out.lt));clear hb5;go_wp2;obtain⟨hd1,hd2⟩:=zbx (x / 2 ^ (e+1) / y) e;have hoff:=zba (x / 2 ^ (e+1) / y) e;rw[show x / 2 ^ (e+1) / y * 2 ^ (e+1)=OvQ x y (e+1)from rfl,←HQ.out]at hd1 hoff;rw[show x / 2 ^ (e+1) / y * 2 ^ (e+1)=OvQ x y (e+1)from rfl]at hd2;have HD1:=Hq hd1;have HOFF:=Hq hoff;have HD2:=Hq hd2;clear hd1 hoff hd2
          go_loop [11,12] (fun bt i=>∃ j:Nat,j≤e%8∧i=.int .i64 j∧bt=.int .u8 ((2 ^ j:Nat):Int)) (fun _ i=>8 - (intOf i).toNat)
          case atStart=>exact⟨0,Nat.zero_le _,rfl,rfl⟩
          case round =>
           obtain⟨j,hj,rfl,rfl⟩:=hrel;obtain⟨P,hP⟩:=nm (2 ^ j);have HP:=Hq hP;by_cases hlt2:j<e%8
           · have hPl:P≤64:=by rw[←hP];exact Nat.le_trans (Nat.pow_le_pow_right (by decide) (show j≤6 by omega)) (by decide)
             have hlt3:(j:Int)<(e:Int)%8:=by omega
             rw[hP];clear hP;go_wp2;go_round;case rel=>exact⟨j+1,by omega,by go_num,by rw[Nat.pow_succ,HP.out];go_num⟩
             case measure=>simp[intOf]<;>omega
           · obtain rfl:j=e%8:=by omega
             rw[hP];have HJ:=Hq (show e%8<8 by omega);have hlt3:¬ (((e%8:Nat):Int)<(e:Int)%8):=by omega
             obtain⟨kk,hkk⟩:∃ kk,kk+1+e / 8=a:=⟨a - 1 - e / 8,by omega⟩;have hix:(a:Int) - 1 - (e:Int) / 8=(kk:Int):=by omega
             have hka:kk<a:=by omega
             have hka2:(kk:Int)<(a:Int):=by omega
             have hk0:(0:Int)≤(kk:Int):=by omega
             have c0:=HO5.out.get hkk;have hf:=HO5.out.free kk;have hd2:=HD2.out;rw[HP.out]at hd2;obtain⟨d,hd⟩:=nm (dig (OvQ x y (e+1)) (e / 8));rw[hd]at c0 hd2;have HDD:=Hq hd;have HKK:=Hq hkk;clear hP hkk hd;go_wp2;go_roundw;case rel =>
              refine⟨e,t - y,by omega,rfl,by go_num,HM.out,?_,HB5.out.setCell (p:=⟨w.heap.size,kk,none⟩) nlr _⟩;have h1:=HO5.out.put (c:=d+P) HKK.out (by rw[HD1.out,HDD.out,HP.out]) (fun i hi=>HOFF.out i hi);rw[Int.natCast_add]at h1;exact h1
             case measure=>simp[intOf]<;>omega
        · obtain⟨hq1,hq2⟩:=zi2 (X:=x / 2 ^ (e+1)) (β:=β) rfl HR.out HT2.out (by omega);rw[←HUP.out]at hq1 hq2;have HQ:=Hq (znm hq1);have HM:=Hq hq2;have hg:=qh (show t<y by omega);rw[hg]at HCM;clear hq1 hq2 hge hg;go_wp2_with fail;refine(ja (nS t) sy (by omega) (by omega) _).mono ?_;rintro ev w4 ⟨rfl,hb4⟩;rw[HCM.out];have HB4:=Hq (HB3.out.trans (hb4.mono HB3.out.size));have HO4:=Hq (HO3.out.kept hb4 (HO3.out.lt));clear hb4;go_wp2;go_roundw;case rel=>exact⟨e,t,by omega,rfl,by go_num,HM.out,by rw[HQ.out];exact HO4.out,HB4.out⟩
          case measure=>simp[intOf]<;>omega
    · obtain rfl:K=0:=by omega
      have hneg:((0:Nat):Int) - 1 = -1:=rfl;rw[hneg];have HQ0:=Hq (show OvQ x y 0=x / y from by unfold OvQ;rw[Nat.pow_zero,Nat.div_one,Nat.mul_one]);have HR0:=Hq (show x%y=r from by rw[←HR.out,Nat.pow_zero,Nat.div_one]);have hby2:=HO.out.bytes (by omega);rw[HQ0.out]at hby2;have HBY:=Hq hby2;clear hby2;go_wp2_with fail;refine(zbu _ _ _ _ _ HBY.out).mono ?_;rintro ev w2 ⟨rfl,rfl⟩;rw[qi HX1.out];go_wp2;go_ret2;exact⟨by rw[HR0.out];rfl,HB.out⟩
theorem zec(x y:Nat)(hs1:(nS x).size≤300)(hs2:(nS y).size≤300)(h0:0<y)(w:World):Calls Tryz.prog 153 #[.string (nS x),.string (nS y)] w (Ret (.tuple #[.string (nS (x / y)),.string (nS (x%y))]) w):=by
 by_cases h:(nS x).size≤8∧(nS y).size≤8
 · have e:∀ n,(nS n).size≤8→n<18446744073709551616:=fun n hn=>by
    have:=ze.1 hn;rwa[show (256:Nat) ^ 8=18446744073709551616 from by decide]at this
   exact zg2 x y (e _ h.1) (e _ h.2) h0 w
 · exact zix x y hs1 hs2 h0 (by omega) w
theorem zpf(x y:Nat)(hx:x<256 ^ 128)(hy:y<256 ^ 128)(h0:0<y)(w:World):Calls Tryz.prog 267 #[.string (nS x),.string (nS y)] w (Ret (.tuple #[.string (nS (x / y)),.string (nS (x%y)),.int .i64 0]) w):=by
 have hs1:=ze.2 hx;have hs2:=ze.2 hy;have HV1:=Hq (zj.2 hx);have HV2:=Hq (zj.2 hy);have hem:(nS y).toList.isEmpty=false:=j4 (by have:=(zbl (n:=y));omega);have HO:=Hq (zec x y (by omega) (by omega) h0);obtain⟨s,hs⟩:=nm (nS x);obtain⟨t,ht⟩:=nm (nS y);rw[hs]at hs1 HV1 HO⊢;rw[ht]at hs2 HV2 HO hem⊢;clear hs ht hx hy;go_enter Tryz.func267,Tryz.ntmps267;go_wp2_with fail;refine(zo s (by omega) _).mono ?_;rintro e w1 ⟨rfl,rfl⟩;rw[HV1.out];go_wp2_with fail;refine(zo t (by omega) _).mono ?_;rintro e w1 ⟨rfl,rfl⟩;rw[HV2.out];go_wp2_with fail;refine(HO.out _).mono ?_;rintro e w3 ⟨rfl,hb3⟩;have HB3:=Hq hb3;clear hb3;go_wp2;go_ret3;exact⟨rfl,HB3.out⟩
set_option maxRecDepth 100000
set_option maxHeartbeats 2000000
theorem zjb{n:Nat}(h:n<18446744073709551616):n<256 ^ 128:=zg h
theorem zis(x m:Nat)(hx:x<256 ^ 128)(hm:m<256 ^ 128)(h0:0<m)(w:World):Calls Tryz.prog 239 #[.string (nS x),.string (nS m)] w (Ret (.string (nS (x%m))) w):=by
 have HD:=Hq (zpf x m hx hm h0);obtain⟨s,hs⟩:=nm (nS x);obtain⟨t,ht⟩:=nm (nS m);rw[hs,ht]at HD;rw[hs,ht];clear hs ht hm hx;go_enter Tryz.func239,Tryz.ntmps239;go_wp2_with fail;refine(HD.out _).mono ?_;rintro e w1 ⟨rfl,hb⟩;have HB:=Hq hb;clear hb;go_wp2;go_ret;exact⟨rfl,HB.out⟩
theorem zra(xs:List ByteArray)(A:Option Addr)(n c:Nat)(w:World)(hs:SlN w A n c xs)(hlb:n≤1000)(h0:0<n)
 (hv:∀(k:Nat) (s:ByteArray),xs[k]? =some s→zc s=true) (hm:∀ s:ByteArray,xs[n - 1]? =some s→s.toList.isEmpty=false) :
 Calls Tryz.prog 202 #[.slice A n c] w (RetQ (.int .i64 0) w):=by
 have hl:=hs.1;have hlc:=hs.2.1;have hmx:=hs.2.2.1;obtain⟨b,o,rfl⟩:=hs.head h0;have HS:=Hq hs;have HV:=Hq hv;have HM:=Hq hm;have HL:=Hq hl;clear hs hv hm hl;go_enter Tryz.func202,Tryz.ntmps202;go_wp2
 go_loop [3] (fun i=>∃ k:Nat,k≤n∧i=.int .i64 k) (fun i=>n - (intOf i).toNat)
 case atStart=>exact⟨0,Nat.zero_le _,rfl⟩
 case round =>
  obtain⟨k,hk,rfl⟩:=hrel;by_cases hlt:k<n
  · obtain⟨s,he⟩:∃ s,xs[k]? =some s:=⟨_,List.getElem?_eq_getElem (by rw[HL.out];exact hlt)⟩;have c0:=HS.out.get? k he;have hvs:=HV.out k s he;have hsz:s.size≤128:=by unfold zc at hvs;simp at hvs;exact hvs.1
    have HVS:=Hq hvs;clear he hvs;go_wp2_with fail;refine(zo s (by omega) _).mono ?_;rintro e w1 ⟨rfl,rfl⟩;rw[HVS.out];go_wp2;go_round;case rel=>exact⟨k+1,by omega,by go_num⟩
    case measure=>simp[intOf];omega
  · obtain rfl:k=n:=by omega
    obtain⟨s,he⟩:∃ s,xs[k - 1]? =some s:=⟨_,List.getElem?_eq_getElem (by rw[HL.out];omega)⟩;have c0:=HS.out.get? (k - 1) he;have hem:=HM.out s he;obtain⟨j,rfl⟩:∃ j,k=j+1:=⟨k - 1,by omega⟩;rw[Nat.add_sub_cancel]at c0;have hix:((j+1:Nat):Int) - 1=(j:Int):=by omega
    clear he;go_wp2;go_ret;exact⟨rfl,rfl⟩
theorem zhj(w:World)(a b m:ByteArray)(n:Nat)(hn:n=w.heap.size)(ha:zc a=true)(hb:zc b=true)(hm:zc m=true)(h0:m.toList.isEmpty=false) :
 Calls Tryz.prog 202 #[.slice (some ⟨n,0,none⟩) 3 3] (w.alloc (.cells #[.string a,.string b,.string m] 22)) (RetQ (.int .i64 0) (w.alloc (.cells #[.string a,.string b,.string m] 22))):=by
 subst hn;have h2:=jc w [a,b,m] 22 (by simp);refine zra [a,b,m] _ 3 3 _ h2 (by omega) (by omega) ?_ ?_
 · intro k s hk;have:=List.mem_of_getElem? hk;simp only[List.mem_cons,List.mem_nil_iff,or_false]at this;rcases this with rfl | rfl | rfl
   · exact ha
   · exact hb
   · exact hm
 · intro s hk;simp only[List.getElem?_cons_succ,List.getElem?_cons_zero,Option.some.injEq]at hk;rw[←hk];exact h0
theorem zp3{n:Nat}(h:n<256 ^ 128):fitR n=.tuple #[.string (nS n),.int .i64 0]:=by unfold fitR;rw[if_pos h]
theorem zff(x y m:Nat)(hx:x<256 ^ 128)(hy:y<256 ^ 128)(hm8:m<18446744073709551616)(h0:0<m)(w:World):Calls Tryz.prog 203 #[.string (nS x),.string (nS y),.string (nS m)] w (Ret (.string (nS (x * y%m))) w):=by
 have hm:=zjb hm8;have hx2:x%m<18446744073709551616:=Nat.lt_trans (Nat.mod_lt x h0) hm8;have hy2:y%m<18446744073709551616:=Nat.lt_trans (Nat.mod_lt y h0) hm8;have HSM:=Hq (zb9 m hm8);have HMX:=Hq (zis x m hx hm h0);have HMY:=Hq (zis y m hy hm h0);have hmx2:x%m<m:=Nat.mod_lt x h0;have hmy2:y%m<m:=Nat.mod_lt y h0;have HEQ:=Hq (Nat.mul_mod x y m).symm;have HX2:=Hq hx2;have HY2:=Hq hy2;obtain⟨X,hX⟩:=nm (x%m);obtain⟨Y,hY⟩:=nm (y%m);rw[hX]at HMX HEQ HX2 hmx2;rw[hY]at HMY HEQ HY2 hmy2;have hp:=show X * Y<256 ^ 128 from Nat.lt_of_lt_of_le (Nat.mul_lt_mul'' HX2.out HY2.out) (by decide);have HP:=Hq hp;have HMM:=Hq (zwr X Y (zjb HX2.out) (zjb HY2.out));rw[zp3 hp]at HMM;have HSX:=Hq (zb9 X HX2.out);have HSY:=Hq (zb9 Y HY2.out);have HMZ:=Hq (zis (X * Y) m hp hm h0);rw[HEQ.out]at HMZ;have hz8:x * y%m<18446744073709551616:=Nat.lt_trans (Nat.mod_lt _ h0) hm8;have HOF:=Hq (zdq (x * y%m) hz8);have hm3:¬ (m=0):=by omega
 have hm2:(0:Int)<(m:Int):=by omega
 have hwm:m<2147483648→IntKind.u64.wrap ((X:Int) * (Y:Int))=((X * Y:Nat):Int):=fun h=>by
  rw[←Int.natCast_mul];exact js (X * Y) (Nat.lt_of_lt_of_le (Nat.mul_lt_mul'' (Nat.lt_trans hmx2 h) (Nat.lt_trans hmy2 h)) (by decide))
 have HWM:=Hq hwm;have HWR:=Hq (show ((X * Y:Nat):Int)%(m:Int)=((x * y%m:Nat):Int)from by rw[←Int.natCast_emod,HEQ.out]);obtain⟨s,hs⟩:=nm (nS x);obtain⟨t,ht⟩:=nm (nS y);obtain⟨u,hu⟩:=nm (nS m);rw[hs]at HMX⊢;rw[ht]at HMY⊢;rw[hu]at HSM HMX HMY HMZ⊢;obtain⟨z,hz⟩:=nm (x * y%m);rw[hz]at HMZ HOF HWR⊢;obtain⟨p,hpp⟩:=nm (X * Y);rw[hpp]at HMM HMZ HWM HWR;clear hs ht hu hz hpp hp hm hx hy hx2 hy2 hz8 hX hY hwm hmx2 hmy2;by_cases hs31:m<2147483648
 · have hs31':(m:Int)<2147483648:=by omega
   have hwm:=HWM.out hs31;clear HWM;go_enter Tryz.func203,Tryz.ntmps203;go_wp2_with fail;refine(HSM.out _).mono ?_;rintro e w1 ⟨rfl,rfl⟩;go_wp2_with fail;refine(HMX.out _).mono ?_;rintro e w1 ⟨rfl,hb1⟩;have HB1:=Hq hb1;clear hb1;go_wp2_with fail;refine(HSX.out _).mono ?_;rintro e w2 ⟨rfl,rfl⟩;go_wp2_with fail;refine(HMY.out _).mono ?_;rintro e w3 ⟨rfl,hb3⟩;have HB3:=bt HB1 hb3;clear hb3;go_wp2_with fail;refine(HSY.out _).mono ?_;rintro e w2 ⟨rfl,rfl⟩;go_wp2_with fail;rw[HWR.out];refine(HOF.out _).mono ?_;rintro e w5 ⟨rfl,hb5⟩;have HB5:=bt HB3 hb5;clear hb5;go_wp2;go_ret;exact⟨rfl,HB5.out⟩
 · have hs31':decide ((m:Int)<2147483648)=false:=decide_eq_false (by omega);clear HWM HWR hs31 hm8;go_enter Tryz.func203,Tryz.ntmps203;go_wp2_with fail;refine(HSM.out _).mono ?_;rintro e w1 ⟨rfl,rfl⟩;go_wp2_with fail;refine(HMX.out _).mono ?_;rintro e w1 ⟨rfl,hb1⟩;have HB1:=Hq hb1;clear hb1;go_wp2_with fail;refine(HMY.out _).mono ?_;rintro e w3 ⟨rfl,hb3⟩;have HB3:=bt HB1 hb3;clear hb3;go_wp2_with fail;refine(HMM.out _).mono ?_;rintro e w4 ⟨rfl,hb4⟩;have HB4:=bt HB3 hb4;clear hb4;go_wp2_with fail;refine(HMZ.out _).mono ?_;rintro e w5 ⟨rfl,hb5⟩;have HB5:=bt HB4 hb5;clear hb5;go_wp2;go_ret;exact⟨rfl,HB5.out⟩
theorem zwp(x y m:Nat)(hx8:x<256 ^ 128)(hy8:y<256 ^ 128)(hm8:m<18446744073709551616)(h0:0<m)(w:World):Calls Tryz.prog 146 #[.string (nS x),.string (nS y),.string (nS m)] w (Ret (.tuple #[.string (nS (x * y%m)),.int .i64 0]) w):=by
 have HC:=Hq (fun w=>zhj w (nS x) (nS y) (nS m) _ rfl (zj.2 hx8) (zj.2 hy8) (zw hm8) (zx h0));have HT:=Hq (zff x y m hx8 hy8 hm8 h0);obtain⟨s,hs⟩:=nm (nS x);obtain⟨t,ht⟩:=nm (nS y);obtain⟨u,hu⟩:=nm (nS m);rw[hs,ht,hu]at HC HT;rw[hs,ht,hu];clear hs ht hu hx8 hy8 hm8;go_enter Tryz.func146,Tryz.ntmps146;go_wp2_with fail;refine(HC.out w).mono ?_;rintro e w1 ⟨rfl,rfl⟩;go_wp2_with fail;refine(HT.out _).mono ?_;rintro e w2 ⟨rfl,hb2⟩;have HB2:=Hq (((Below.refl w.heap.size w).alloc nlr _).trans (hb2.mono (by simp)));clear hb2;go_wp2;go_ret2;exact⟨rfl,HB2.out⟩
theorem zt9(n:Nat)(hn:n<256 ^ 128)(w:World):Calls Tryz.prog 265 #[.string (nS n)] w (RetQ (.int .i64 (blen n)) w):=by
 have hs:=ze.2 hn;have HV:=Hq (zj.2 hn);have HB:=Hq (ziu n (by omega));obtain⟨s,hs'⟩:∃ s,nS n=s:=⟨_,rfl⟩;rw[hs']at hs HV HB⊢;clear hs' hn;go_enter Tryz.func265,Tryz.ntmps265;go_wp2_with fail;refine(zo s (by omega) _).mono ?_;rintro e w1 ⟨rfl,rfl⟩;rw[HV.out];go_wp2_with fail;refine(HB.out _).mono ?_;rintro e w1 ⟨rfl,rfl⟩;go_wp2;go_ret;exact⟨rfl,rfl⟩
theorem zc9{n:Nat}(hn:n<256 ^ 128):blen n≤1024:=zop hn
theorem zws(n i:Nat)(hn:n<256 ^ 128)(hi:i<blen n)(w:World):Calls Tryz.prog 266 #[.string (nS n),.int .i64 i] w (RetQ (.bool (bitB n i)) w):=by
 have hs:=ze.2 hn;have hb:=zc9 hn;have HV:=Hq (zj.2 hn);have HB:=Hq (ziu n (by omega));have HO:=Hq (zrc n i (by omega) (by omega));obtain⟨s,hs'⟩:∃ s,nS n=s:=⟨_,rfl⟩;rw[hs']at hs HV HB HO⊢;obtain⟨m,hm⟩:=nm (blen n);rw[hm]at HB hi hb;have hi2:(i:Int)<(m:Int):=by omega
 have hi0:(0:Int)≤(i:Int):=by omega
 obtain⟨r,hr⟩:=nm (bitB n i);rw[hr]at HO⊢;clear hs' hn hm hr;go_enter Tryz.func266,Tryz.ntmps266;go_wp2_with fail;refine(zo s (by omega) _).mono ?_;rintro e w1 ⟨rfl,rfl⟩;rw[HV.out];go_wp2_with fail;refine(HB.out _).mono ?_;rintro e w1 ⟨rfl,rfl⟩;go_wp2_with fail;refine(HO.out _).mono ?_;rintro e w1 ⟨rfl,rfl⟩;go_wp2;go_ret;exact⟨rfl,rfl⟩
theorem zvq(a E m:Nat):a ^ E%m * (a ^ E%m)%m=a ^ (2 * E)%m:=by
 rw[←Nat.mul_mod,←Nat.pow_add,Nat.two_mul]
theorem zyk(a E m:Nat):a ^ E%m * a%m=a ^ (E+1)%m:=by
 rw[Nat.mod_mul_mod,Nat.pow_succ]
theorem zwv(a E m:Nat):a ^ E%m * (a%m)%m=a ^ (E+1)%m:=by
 rw[←Nat.mul_mod,Nat.pow_succ]
theorem zkq(a n m:Nat)(ha:a<256 ^ 128)(hn:n<256 ^ 128)(hm8:m<18446744073709551616)(h0:0<m)(w:World):Calls Tryz.prog 237 #[.string (nS a),.string (nS n),.string (nS m)] w (Ret (.string (nS (a ^ n%m))) w):=by
 have hm:=zjb hm8;have HM1:=Hq (zis 1 m (by decide) hm h0);have HBS:=Hq (zt9 n hn);have HBT:=Hq (fun i (hi:i<blen n)=>zws n i hn hi);have HTT:=Hq (fun E=>zff (a ^ E%m) (a ^ E%m) m (Nat.lt_trans (Nat.mod_lt _ h0) hm) (Nat.lt_trans (Nat.mod_lt _ h0) hm) hm8 h0);have HTA:=Hq (fun E=>zff (a ^ E%m) a m (Nat.lt_trans (Nat.mod_lt _ h0) hm) ha hm8 h0);have hb:=zc9 hn;have HE0:=Hq (show n / 2 ^ blen n=0 from Nat.div_eq_of_lt (zck n));obtain⟨s,hs⟩:=nm (nS a);obtain⟨t,ht⟩:=nm (nS n);obtain⟨u,hu⟩:=nm (nS m);rw[hs]at HTA⊢;rw[ht]at HBS HBT⊢;rw[hu]at HM1 HTT HTA⊢;obtain⟨B,hB⟩:=nm (blen n);rw[hB]at HBS HBT hb HE0;clear hs ht hu hB ha hn hm;go_enter Tryz.func237,Tryz.ntmps237;go_wp2_with fail;refine(zdq 1 (by decide) _).mono ?_;rintro e w1 ⟨rfl,hb1⟩;have HB1:=Hq hb1;clear hb1;go_wp2_with fail;refine(HM1.out _).mono ?_;rintro e w2 ⟨rfl,hb2⟩;have HB2:=bt HB1 hb2;clear hb2;go_wp2_with fail;refine(HBS.out _).mono ?_;rintro e w3 ⟨rfl,rfl⟩;go_wp2;go_loopw [7,8] (fun r i wr=>∃ K:Nat,K≤B∧r=.string (nS (a ^ (n / 2 ^ K)%m))∧i=.int .i64 ((K:Int) - 1)∧Below w.heap.size w wr) (fun _ i _=>(intOf i+1).toNat);case atStart=>exact⟨B,Nat.le_refl _,by rw[HE0.out,Nat.pow_zero],by go_num,HB2.out⟩
 case round =>
  obtain⟨K,hK,rfl,rfl,hBW⟩:=hrel;have HBW:=Hq hBW;clear hBW;by_cases hlt:0<K
  · obtain⟨e,rfl⟩:∃ e,K=e+1:=⟨K - 1,by omega⟩;rw[show ((e+1:Nat):Int) - 1=(e:Int)from by omega];have he0:(0:Int)≤(e:Int):=by omega
    obtain⟨β,hβ,hβ1,hβ0,hup⟩:=zmr n e;have HUP:=Hq hup;have HB1':=Hq hβ1;have HB0':=Hq hβ0;clear hup hβ1 hβ0;obtain⟨E,hE⟩:=nm (n / 2 ^ (e+1));rw[hE]at HUP⊢;clear hE;have HTE:=Hq (HTT.out E);rw[zvq]at HTE;have HTF:=Hq (HTA.out (2 * E));rw[zyk]at HTF;go_wp2_with fail;refine(HTE.out _).mono ?_;rintro ev w4 ⟨rfl,hb4⟩;have HB4:=bt HBW hb4;clear hb4;go_wp2_with fail;refine(HBT.out e (by omega) _).mono ?_;rintro ev w5 ⟨rfl,rfl⟩;by_cases hbit:bitB n e=true
    · have HBE:=Hq (HB1'.out hbit);rw[hbit];clear hbit;go_wp2_with fail;refine(HTF.out _).mono ?_;rintro ev w6 ⟨rfl,hb6⟩;have HB6:=bt HB4 hb6;clear hb6;go_wp2;go_roundw;case rel=>exact⟨e,by omega,by rw[HUP.out,HBE.out],by go_num,HB6.out⟩
      case measure=>simp[intOf]<;>omega
    · rw[Bool.not_eq_true]at hbit;have HBE:=Hq (HB0'.out hbit);rw[hbit];clear hbit;go_wp2;go_roundw;case rel=>exact⟨e,by omega,by rw[HUP.out,HBE.out,Nat.add_zero],by go_num,HB4.out⟩
      case measure=>simp[intOf]<;>omega
  · obtain rfl:K=0:=by omega
    have hneg:((0:Nat):Int) - 1 = -1:=rfl;rw[hneg,Nat.pow_zero,Nat.div_one];go_wp2;go_ret;exact⟨rfl,HBW.out⟩
theorem zrb(x n m:Nat)(hx8:x<256 ^ 128)(hy8:n<256 ^ 128)(hm8:m<18446744073709551616)(h0:0<m)(w:World):Calls Tryz.prog 200 #[.string (nS x),.string (nS n),.string (nS m)] w (Ret (.tuple #[.string (nS (x ^ n%m)),.int .i64 0]) w):=by
 have HC:=Hq (fun w=>zhj w (nS x) (nS n) (nS m) _ rfl (zj.2 hx8) (zj.2 hy8) (zw hm8) (zx h0));have HT:=Hq (zkq x n m hx8 hy8 hm8 h0);obtain⟨s,hs⟩:=nm (nS x);obtain⟨t,ht⟩:=nm (nS n);obtain⟨u,hu⟩:=nm (nS m);rw[hs,ht,hu]at HC HT;rw[hs,ht,hu];clear hs ht hu hx8 hy8 hm8;go_enter Tryz.func200,Tryz.ntmps200;go_wp2_with fail;refine(HC.out w).mono ?_;rintro e w1 ⟨rfl,rfl⟩;go_wp2_with fail;refine(HT.out _).mono ?_;rintro e w2 ⟨rfl,hb2⟩;have HB2:=Hq (((Below.refl w.heap.size w).alloc nlr _).trans (hb2.mono (by simp)));clear hb2;go_wp2;go_ret2;exact⟨rfl,HB2.out⟩
set_option maxRecDepth 100000
set_option maxHeartbeats 2000000
open Go.RowKit Go.Shelf
attribute [local go_sem] Oper.semAt_some
def BoxS(W:World)(B:Nat)(s:ByteArray):Prop:=W.heap[B]? =some (.cells #[.string s] 22 (0,0))
theorem BoxS.cell{W:World}{B:Nat}{s:ByteArray}(h:BoxS W B s):W.cell? ⟨B,0,none⟩=some (.string s):=by rw[Lib.cell_of_heap h];rfl
theorem BoxS.free{W:World}{B:Nat}{s:ByteArray}(h:BoxS W B s):W.frozen? ⟨B,0,none⟩=false:=Lib.frozen_of_heap h 0
theorem BoxS.kept{W W':World}{K B:Nat}{s:ByteArray}(h:BoxS W B s)(hb:Below K W W')(hB:B<K):BoxS W' B s:=(hb.block B hB).trans h
theorem BoxS.lt{W:World}{B:Nat}{s:ByteArray}(h:BoxS W B s):B<W.heap.size:=zn h
theorem BoxS.set{W:World}{B:Nat}{s t:ByteArray}(h:BoxS W B s):BoxS (W.setCell ⟨B,0,none⟩ (.string t)) B t:=zl h _
theorem BoxS.alloc{W:World}{B:Nat}{s:ByteArray}(h:BoxS W B s)(o:Obj):BoxS (W.alloc o) B s:=h.kept ((blr).alloc nlr o) h.lt
theorem BoxS.new(W:World)(s:ByteArray):BoxS (W.alloc (.cells #[.string s] 22)) W.heap.size s:=heap_alloc_new _ _
theorem BoxS.other{W:World}{B C:Nat}{s:ByteArray}{v:Value}(h:BoxS W B s)(hne:B≠C):BoxS (W.setCell ⟨C,0,none⟩ v) B s:=by
 unfold BoxS;rw[←h];exact heap_setCell_other _ _ _ _ hne
theorem KeepsOthers.of_below{W W':World}(h:Below W.heap.size W W'):KeepsOthers W W':=⟨h.size,fun k o hk _=>(h.block k (zn hk)).trans hk⟩
theorem zpl(s:ByteArray)(w:World):Calls Tryz.prog 280 #[.string s] w fun e w'=>e=.returned (.func (.func 288) #[] #[.pointer (some ⟨w.heap.size,0,none⟩)])∧w'=w.alloc (.cells #[.string s] 22):=by
 go_enter Tryz.func280,Tryz.ntmps280;go_wp2;go_ret;exact⟨rfl,rfl⟩
theorem zpm(a n m:Nat)(ha:zc (nS a)=true)(hra:∀ w,Calls Tryz.prog 223 #[.string (nS a),.string (nS m)] w (Ret (.string (nS (a%m))) w))(hn:n<256 ^ 128)(hm8:m<18446744073709551616)(h0:0<m)(w:World):Calls Tryz.prog 261 #[.string (nS a),.string (nS n),.string (nS m)] w (Ret (.tuple #[.string (nS (a ^ n%m)),.int .i64 0]) w):=by
 have hm:=zg hm8;have ham:a%m<18446744073709551616:=Nat.lt_trans (Nat.mod_lt _ h0) hm8;have HC:=Hq (fun w=>zgf w (nS a) (nS n) (nS m) _ rfl ha (zj.2 hn) (zw hm8) (zx h0) _ rfl);have HRA:=Hq hra;clear hra;have HR1:=Hq (za5 1 m (by decide) hm h0);have HTT:=Hq (fun E=>zfm (a ^ E%m) (a ^ E%m) m (Nat.lt_trans (Nat.mod_lt _ h0) hm8) (Nat.lt_trans (Nat.mod_lt _ h0) hm8) hm8 h0);have HTA:=Hq (fun E=>zfm (a ^ E%m) (a%m) m (Nat.lt_trans (Nat.mod_lt _ h0) hm8) ham hm8 h0);have HDS:=Hq (fun k (hk:1≤k) D w hD=>zlu k n hn hk D w hD);rw[zmh]at HR1;obtain⟨s,hs⟩:=nm (nS a);obtain⟨t,ht⟩:=nm (nS n);obtain⟨u,hu⟩:=nm (nS m);rw[hs,ht,hu]at HC;rw[hs,hu]at HRA;rw[hu]at HR1 HTT HTA;rw[ht]at HDS;rw[hs,ht,hu];clear hs ht hu ha hn hm8 hm ham;refine(callsIn_wide (n:=3)).1 ?_;refine callsIn_of_wp_marks Tryz.func261 rfl trivial ?_ rfl;simp only[Tryz.ntmps261,List.size_toArray,List.length_cons,List.length_nil,Nat.reduceAdd,Nat.reduceSub,Array.replicate_succ,Array.replicate_zero,List.push_toArray,List.append_toArray,List.nil_append,List.cons_append];gi_wp2;have hck:=HC.out ((w.alloc (.cells #[.string s] 22)).alloc (.cells #[.string u] 22));simp only[World.size_alloc]at hck;refine⟨trivial,callsIn_wide.2 (hck.mono ?_)⟩;rintro e w2 ⟨rfl,hb2⟩;have h1M:BoxS ((w.alloc (.cells #[.string s] 22)).alloc (.cells #[.string u] 22)) (w.heap.size+1) u:=(by have:=BoxS.new (w.alloc (.cells #[.string s] 22)) u;rwa[World.size_alloc]at this);have hA2:BoxS w2 w.heap.size s:=BoxS.kept ((((BoxS.new w s).alloc _).alloc _).alloc _) hb2 (by omega);have hM2:BoxS w2 (w.heap.size+1) u:=BoxS.kept ((h1M.alloc _).alloc _) hb2 (by omega);have HB2:Below w.heap.size w w2:=(((((Below.refl w.heap.size w).alloc nlr _).alloc (by simp) _).alloc (by simp;omega) _).alloc (by simp;omega) _).trans (hb2.mono (by omega));have HA2:=Hq hA2;have HM2:=Hq hM2;have HBB2:=Hq HB2;have cA:=hA2.cell;have cM:=hM2.cell;have fA:=hA2.free;clear hck hb2 hA2 hM2 HB2 h1M;gi_wp2;refine⟨trivial,callsIn_wide.2 ((HRA.out _).mono ?_)⟩;rintro e w3 ⟨rfl,hb3⟩;have HA3:=Hq (HA2.out.kept hb3 HA2.out.lt);have HM3:=Hq (HM2.out.kept hb3 HM2.out.lt);have HB3:=bt HBB2 hb3;clear hb3 cA cM fA;have cA:=HA3.out.cell;have cM:=HM3.out.cell;have fA:=HA3.out.free;gi_wp2;refine⟨trivial,callsIn_wide.2 ((HR1.out _).mono ?_)⟩;rintro e w4 ⟨rfl,hb4⟩;have hA3':BoxS (w3.setCell ⟨w.heap.size,0,none⟩ (.string (nS (a%m)))) w.heap.size (nS (a%m)):=HA3.out.set;have hM3':BoxS (w3.setCell ⟨w.heap.size,0,none⟩ (.string (nS (a%m)))) (w.heap.size+1) u:=HM3.out.other (by omega);have HA4:=Hq (hA3'.kept hb4 hA3'.lt);have HM4:=Hq (hM3'.kept hb4 hM3'.lt);have HB3':=HB3.out.setCell (p:=⟨w.heap.size,0,none⟩) nlr (.string (nS (a%m)));have HB4:=Hq (HB3'.trans (hb4.mono HB3'.size));have hlt4:=HM4.out.lt;clear hb4 cA cM fA hA3' hM3' HB3';have cA:=HA4.out.cell;have cM:=HM4.out.cell;have fA:=HA4.out.free;gi_wp2;refine⟨trivial,callsIn_wide.2 ((zpl t _).mono ?_)⟩;rintro e w5 ⟨rfl,rfl⟩;gi_wp2;have HR5:=Hq ((BoxS.new w4 (nS (1%m))).alloc (.cells #[.string t] 22));have hD5:BoxS ((w4.alloc (.cells #[.string (nS (1%m))] 22)).alloc (.cells #[.string t] 22)) (w4.heap.size+1) t:=(by have:=BoxS.new (w4.alloc (.cells #[.string (nS (1%m))] 22)) t;rwa[World.size_alloc]at this);have HD5:=Hq hD5;have HA5:=Hq ((HA4.out.alloc (.cells #[.string (nS (1%m))] 22)).alloc (.cells #[.string t] 22));have HM5:=Hq ((HM4.out.alloc (.cells #[.string (nS (1%m))] 22)).alloc (.cells #[.string t] 22));have HB5:=Hq ((HB4.out.alloc HB4.out.size (.cells #[.string (nS (1%m))] 22)).alloc (by simp;omega) (.cells #[.string t] 22));have hz5:w4.heap.size+1<((w4.alloc (.cells #[.string (nS (1%m))] 22)).alloc (.cells #[.string t] 22)).heap.size:=hD5.lt;obtain⟨W0,hW0⟩:=nm ((w4.alloc (.cells #[.string (nS (1%m))] 22)).alloc (.cells #[.string t] 22));obtain⟨R,hR⟩:=nm (w4.heap.size);rw[hW0,hR]at HR5 HD5 hz5;rw[hW0]at HA5 HM5 HB5;rw[hR]at hlt4;rw[hW0,hR];clear hD5 hW0 hR HA4 HM4 HB4 HA3 HM3 HB3 HA2 HM2 HBB2 cA cM fA;obtain⟨A,hA⟩:=nm (w.heap.size);rw[hA]at HA5 HM5 HB5 hlt4⊢;refine wpIn_rangeFunc_ownF rfl (by omega) (gf:=288) (lb:=#[.pointer (some ⟨R+1,0,none⟩)]) rfl trivial (enters_of Tryz.func288 (by kernel_rfl) rfl)
  (HDS.out 2 (by omega) (R+1) W0 HD5.out) (fun h k=>(show _=_ from k).trans h) (fun W l o o' hl _ _ _=>World.putObj_heap_other (by omega)) blr (fun _=>rfl)
  (fun pre W=>(BoxS W A (nS (a%m))∧BoxS W (A+1) u∧BoxS W R (nS (a ^ dv pre%m))∧BoxS W (R+1) t)∧Below A w W)
  (fun _ _ _=>False)
  (OwnFrom.and (Own.from (fun s X Y row hs hg hr=>⟨boxed_own A 22 (fun _:List Bool=>.string (nS (a%m))) s X Y row hs.1 hg hr,boxed_own (A+1) 22 (fun _:List Bool=>.string u) s X Y row hs.2.1 hg hr,boxed_own R 22 (fun pre:List Bool=>.string (nS (a ^ dv pre%m))) s X Y row hs.2.2.1 hg hr,boxed_own (R+1) 22 (fun _:List Bool=>.string t) s X Y row hs.2.2.2 hg hr⟩) _) (ownFrom_below (by omega) (by omega)))
  (fun _ _ _ _ _ hs _ _=>hs)
  ⟨⟨HA5.out,HM5.out,by rw[show dv []=0 from rfl,Nat.pow_zero];exact HR5.out,HD5.out⟩,HB5.out⟩
  (fun x => { tmps:=#[.string s,.string t,.string u,.pointer (some ⟨A,0,none⟩),undef,.pointer (some ⟨A+1,0,none⟩),.string ⟨#[]⟩,.int .i64 0,.int .i64 0,.pointer (some ⟨R,0,none⟩),.bool x,.string s,.string t,.slice (some ⟨A+1+1,0,none⟩) 2 2,.string u,.slice (some ⟨A+1+1+1,0,none⟩) 1 1,.int .i64 0,.int .i64 0,.bool false,undef,.string s,.string u,.string (nS (a%m)),.string u,.string (nS (1%m)),.string t,.func (.func 288) #[] #[.pointer (some ⟨R+1,0,none⟩)],.bool x,undef,undef,undef,undef,undef,undef,undef,undef,undef,undef],defers:=[] }) ?assign ?body ?done ?stop
 case assign =>
  intro l x W K hK;gi_wp2;exact hK
 case body =>
  rintro l pre x W ⟨⟨hA',hM',hR',hD'⟩,hB'⟩ _;have HA':=Hq hA';have HM':=Hq hM';have HR':=Hq hR';have HD':=Hq hD';have HB':=Hq hB';have cA:=hA'.cell;have cM:=hM'.cell;have cR:=hR'.cell;have fR:=hR'.free;obtain⟨E,hE⟩:=nm (dv pre);rw[hE]at HR' cR;have HTE:=Hq (HTT.out E);rw[zvq]at HTE;have HTF:=Hq (HTA.out (2 * E));rw[zwv]at HTF;have HDV:=Hq (zsr pre x);rw[hE]at HDV;clear hA' hM' hR' hD' hB' hE;gi_wp2;refine⟨trivial,CallsIn.inRound l (callsIn_wide.2 ((HTE.out _).mono ?_))⟩;rintro ev w6 ⟨rfl,hb6⟩;have HK7:=Hq ((KeepsOthers.of_below hb6).trans (KeepsOthers.setCell w6 ⟨R,0,none⟩ (.string (nS (a ^ (2 * E)%m)))));have HA7:=Hq ((HA'.out.kept hb6 HA'.out.lt).other (C:=R) (v:=.string (nS (a ^ (2 * E)%m))) (by omega));have HM7:=Hq ((HM'.out.kept hb6 HM'.out.lt).other (C:=R) (v:=.string (nS (a ^ (2 * E)%m))) (by omega));have HR7:=Hq ((HR'.out.kept hb6 HR'.out.lt).set (t:=(nS (a ^ (2 * E)%m))));have HD7:=Hq ((HD'.out.kept hb6 HD'.out.lt).other (C:=R) (v:=.string (nS (a ^ (2 * E)%m))) (by omega));have HKP7:=Hq (show KpD (R+1) W (w6.setCell ⟨R,0,none⟩ (.string (nS (a ^ (2 * E)%m))))from HD7.out.trans HD'.out.symm);have HB7:=Hq ((HB'.out.trans (hb6.mono (Nat.le_trans (by omega) HB'.out.size))).setCell (p:=⟨R,0,none⟩) (show A≤R by omega) (.string (nS (a ^ (2 * E)%m))));have cR7:=(HR'.out.kept hb6 HR'.out.lt).cell;have fR7:=(HR'.out.kept hb6 HR'.out.lt).free;clear hb6;have cA7:=HA7.out.cell;have cM7:=HM7.out.cell;have cS7:=HR7.out.cell;have fS7:=HR7.out.free
  cases x with
  | false =>
   gi_wp2;exact⟨HK7.out,HKP7.out,⟨⟨HA7.out,HM7.out,by rw[HDV.out,if_neg (by decide),Nat.add_zero];exact HR7.out,HD7.out⟩,HB7.out⟩⟩
  | true =>
   gi_wp2;refine⟨trivial,CallsIn.inRound l (callsIn_wide.2 ((HTF.out _).mono ?_))⟩;rintro ev w8 ⟨rfl,hb8⟩;have HK9:=Hq ((KeepsOthers.of_below hb8).trans (KeepsOthers.setCell w8 ⟨R,0,none⟩ (.string (nS (a ^ (2 * E+1)%m)))));have HA9:=Hq ((HA7.out.kept hb8 HA7.out.lt).other (C:=R) (v:=.string (nS (a ^ (2 * E+1)%m))) (by omega));have HM9:=Hq ((HM7.out.kept hb8 HM7.out.lt).other (C:=R) (v:=.string (nS (a ^ (2 * E+1)%m))) (by omega));have HR9:=Hq ((HR7.out.kept hb8 HR7.out.lt).set (t:=(nS (a ^ (2 * E+1)%m))));have HD9:=Hq ((HD7.out.kept hb8 HD7.out.lt).other (C:=R) (v:=.string (nS (a ^ (2 * E+1)%m))) (by omega));have HKP9:=Hq (show KpD (R+1) (w6.setCell ⟨R,0,none⟩ (.string (nS (a ^ (2 * E)%m)))) (w8.setCell ⟨R,0,none⟩ (.string (nS (a ^ (2 * E+1)%m))))from HD9.out.trans HD7.out.symm);have HB9:=Hq ((HB7.out.trans (hb8.mono (Nat.le_trans (by omega) HB7.out.size))).setCell (p:=⟨R,0,none⟩) (show A≤R by omega) (.string (nS (a ^ (2 * E+1)%m))));have cR9:=(HR7.out.kept hb8 HR7.out.lt).cell;have fR9:=(HR7.out.kept hb8 HR7.out.lt).free;clear hb8;have cA9:=HA9.out.cell;have cM9:=HM9.out.cell;have cS9:=HR9.out.cell;have fS9:=HR9.out.free;gi_wp2;exact⟨HK7.out.trans HK9.out,(show _=_ from HKP9.out).trans HKP7.out,⟨⟨HA9.out,HM9.out,by rw[HDV.out,if_pos trivial];exact HR9.out,HD9.out⟩,HB9.out⟩⟩
 case done =>
  rintro D' ys W hD' hys ⟨⟨hA',hM',hR',hD''⟩,hB'⟩ hK;have cR:=hR'.cell;gi_wp2;refine⟨by simp,.inl ⟨_,_,rfl,run_takeDeferred hK,?_⟩⟩;subst hA;exact⟨_,results_tmp2 rfl _ _ _,rfl,hB'.trans (belowK_b (w:=w) nlr W D' _ _ (by omega) hK rfl rfl)⟩
 case stop =>
  rintro D' c pre W _ _ h _;exact h.elim
theorem zru(a n m:Nat)(ha:a<18446744073709551616)(hn:n<256 ^ 128)(hm8:m<18446744073709551616)(h0:0<m)(w:World):Calls Tryz.prog 261 #[.string (nS a),.string (nS n),.string (nS m)] w (Ret (.tuple #[.string (nS (a ^ n%m)),.int .i64 0]) w):=by
 exact zpm a n m (zw ha) (za5 a m ha (zg hm8) h0) hn hm8 h0 w
set_option maxRecDepth 100000
set_option maxHeartbeats 2000000
def arV(x y:Int):Value:=.agg #[.bool (decide (x<0)),.string (nS x.natAbs),.bool (decide (y<0)),.string (nS y.natAbs)]
def Bx4(W:World)(B:Nat)(x y z u:Value)(T:TypeId):Prop:=W.heap[B]? =some (.cells #[x,y,z,u] T (0,0))
theorem Bx4.new(W:World)(x y z u:Value)(T:TypeId):Bx4 (W.alloc (.cells #[x,y,z,u] T)) W.heap.size x y z u T:=heap_alloc_new _ _
theorem Bx4.kept{W W':World}{K B:Nat}{x y z u:Value}{T:TypeId}(h:Bx4 W B x y z u T)(hb:Below K W W')(hB:B<K):Bx4 W' B x y z u T:=(hb.block B hB).trans h
theorem Bx4.lt{W:World}{B:Nat}{x y z u:Value}{T:TypeId}(h:Bx4 W B x y z u T):B<W.heap.size:=zn h
theorem Bx4.next{W W':World}{B:Nat}{x y z u:Value}{T:TypeId}(h:Bx4 W B x y z u T)(hb:Below W.heap.size W W'):Bx4 W' B x y z u T:=h.kept hb h.lt
theorem Bx4.cells{W:World}{B:Nat}{x y z u:Value}{T:TypeId}(h:Bx4 W B x y z u T):W.cell? ⟨B,0,none⟩=some x∧W.cell? ⟨B,1,none⟩=some y∧W.cell? ⟨B,2,none⟩=some z∧W.cell? ⟨B,3,none⟩=some u:=by
 refine⟨?_,?_,?_,?_⟩<;>rw[Lib.cell_of_heap h]<;>rfl
theorem Bx4.free{W:World}{B:Nat}{x y z u:Value}{T:TypeId}(h:Bx4 W B x y z u T)(k:Nat):W.frozen? ⟨B,k,none⟩=false:=Lib.frozen_of_heap h k
theorem Bx4.other{W:World}{B C k:Nat}{x y z u:Value}{T:TypeId}(h:Bx4 W B x y z u T)(hne:B≠C)(v:Value):Bx4 (W.setCell ⟨C,k,none⟩ v) B x y z u T:=(heap_setCell_other _ _ _ _ hne).trans h
theorem Bx4.set4{W:World}{B:Nat}{x y z u a b c d:Value}{T:TypeId}(h:Bx4 W B x y z u T):Bx4 ((((W.setCell ⟨B,0,none⟩ a).setCell ⟨B,1,none⟩ b).setCell ⟨B,2,none⟩ c).setCell ⟨B,3,none⟩ d) B a b c d T:=zl (zl (zl (zl h a) b) c) d
theorem jq{W W':World}(h:Below W.drew.heap.size W.drew W'):Below W.heap.size W W':=(Below.refl W.heap.size W).drew.trans h
theorem kx{K:Nat}{W w:World}{x y:Value}{T:TypeId}(h:Below K W (w.alloc (.cells #[x,y] T))):Bx2 (w.alloc (.cells #[x,y] T)) w.heap.size x y T:=Bx2.new _ _ _ _
theorem zbr{K:Nat}{W w:World}{x y:Value}{T:TypeId}(h:Below K W (w.alloc (.cells #[x,y] T)).drew):Bx2 (w.alloc (.cells #[x,y] T)).drew w.heap.size x y T:=Bx2.new w x y T
theorem zn8(x y:Int)(q Q:Nat)(hx:x.natAbs<18446744073709551616)(hy:y.natAbs<18446744073709551616)(hq:q<18446744073709551616)(hqy:((q:Int) * y).natAbs<18446744073709551616)(w:World)(hQ:w.cell? ⟨Q,0,none⟩=some (.string (nS q))):Calls Tryz.prog 255 #[arV x y,.pointer (some ⟨Q,0,none⟩)] w (Ret (arV y (x - q * y)) w):=by
 have HFR:=Hq (zeg q (zg hq));have HMU:=Hq (zxe q y (by omega) hy hqy);have HSU:=Hq (zr8 x (q * y) hx hqy);unfold arV intV zV at *;obtain⟨z,hz⟩:∃ z:Int,(q:Int) * y=z:=⟨_,rfl⟩;rw[hz]at HMU HSU⊢;obtain⟨a,ha⟩:=nm (decide (x<0));obtain⟨b,hb⟩:=nm (decide (y<0));obtain⟨s,hs⟩:=nm (nS x.natAbs);obtain⟨t,ht⟩:=nm (nS y.natAbs);obtain⟨c,hc⟩:=nm (decide (z<0));obtain⟨r,hr⟩:=nm (nS z.natAbs);obtain⟨d,hd⟩:=nm (decide (x - z<0));obtain⟨v,hv⟩:=nm (nS (x - z).natAbs);obtain⟨k,hk⟩:=nm (nS q);obtain⟨e,he⟩:=nm (decide ((q:Int)<0));rw[Int.natAbs_natCast]at HFR HMU;rw[hk,he]at HFR;rw[hk,he,hb,ht,hc,hr]at HMU;rw[ha,hs,hc,hr,hd,hv]at HSU;rw[hk]at hQ;rw[ha,hs,hb,ht,hd,hv];have hQlt:=World.block_lt_of_cell? _ _ hQ;clear ha hs hb ht hc hr hd hv hk he hz hx hy hq hqy;go_enter Tryz.func255,Tryz.ntmps255;go_wp2;obtain⟨W0,hW0⟩:=nm ((w.alloc (.cells #[.bool a,.string s,.bool b,.string t] 270)).alloc (.cells #[.bool false,.string ⟨#[]⟩,.bool false,.string ⟨#[]⟩] 270));have HX0:=Hq (show Bx4 W0 w.heap.size (.bool a) (.string s) (.bool b) (.string t) 270 from by
  rw[←hW0]
  exact(Bx4.new w _ _ _ _ _).kept ((blr).alloc nlr _) (by simp))
 have HY0:=Hq (show Bx4 W0 (w.heap.size+1) (.bool false) (.string ⟨#[]⟩) (.bool false) (.string ⟨#[]⟩) 270 from by
  rw[←hW0];have:=Bx4.new (w.alloc (.cells #[.bool a,.string s,.bool b,.string t] 270)) (.bool false) (.string ⟨#[]⟩) (.bool false) (.string ⟨#[]⟩) 270;rw[World.size_alloc]at this
  exact this)
 have hB0:Below w.heap.size w W0:=(by rw[←hW0];exact((Below.refl w.heap.size w).alloc nlr _).alloc (by simp) _);have HB0:=Hq hB0;have hQ0:W0.drew.cell? ⟨Q,0,none⟩=some (.string k):=(hB0.cell (p:=⟨Q,0,none⟩) hQlt).trans hQ;obtain⟨d0,d1,d2,d3⟩:=(show Bx4 W0.drew w.heap.size (.bool a) (.string s) (.bool b) (.string t) 270 from HX0.out).cells;rw[hW0];clear hW0 hB0 hQ;refine za 11 (Below (W0.drew).heap.size (W0.drew)) (by kernel_rfl) ?_;refine qSs 0 10 blr (fun w' hS'=>(And.intro (kc hS' hQ0) (And.intro (kc hS' d0) (And.intro (kc hS' d1) (And.intro (kc hS' d2) (kc hS' d3)))))) ?_;refine qPs 2 9 blr ?_;refine qSs 3 8 blr (fun w' hS'=>(And.intro (kc hS' hQ0) (And.intro (kc hS' d0) (And.intro (kc hS' d1) (And.intro (kc hS' d2) (kc hS' d3)))))) ?_;intro hD;refine jg (i:=1) (i':=8) (fuel:=7) (by kernel_rfl) rfl rfl hD ?_ ?_ 
 · unfold xn;intro K1 hK1;go_wp2_with fail;refine(HFR.out _).mono ?_;rintro ev w1 ⟨rfl,hb1⟩;try (have HP:=Hq (HP.out.next hb1))
   have HB1:=Hq hb1;clear hb1;go_wp2;refine hK1 _ _ (by exact HB1.out) ?_;clear hK1;intro hS_1_1;intro hD;refine jg (i:=4) (i':=8) (fuel:=6) (by kernel_rfl) rfl rfl hD ?_ ?_ 
   · unfold xn;intro K4 hK4;go_wp2_with fail;refine(HMU.out _).mono ?_;rintro ev w4 ⟨rfl,hb4⟩;try (have HP:=Hq (HP.out.next hb4))
     have HB4:=Hq hb4;clear hb4;go_wp2;refine hK4 _ _ (by exact Below.trans hS_1_1 (Below.mono HB4.out (Below.size hS_1_1))) ?_;clear hK4;intro hS_1_4_1;refine qPs 5 5 hS_1_4_1 ?_;refine qPs 6 4 hS_1_4_1 ?_;refine qPs 7 3 hS_1_4_1 ?_;refine oO 8 2 ?_;intro K8 hK8;first | (have HPB:=Hq (Below.size hS_1_4_1)) | (have HPB:=Hq (Nat.le_refl W0.drew.heap.size))
     go_wp2;refine hK8 _ _ (by exact Below.alloc hS_1_4_1 (Below.size hS_1_4_1) _) ?_;clear hK8;intro hS_1_8_1_4;first | (have HP:=Hq (kx hS_1_8_1_4)) | (have HP:=Hq (zbr hS_1_8_1_4))
     refine oO 9 1 ?_;intro K9 hK9;have hP:=HP.out;have p0:=hP.c0;have p1:=hP.c1;have pf0:=hP.f0;have pf1:=hP.f1;clear hP;go_wp2;refine hK9 _ _ (by first | exact(Below.setCell hS_1_8_1_4 (p:=⟨_,0,none⟩) HPB.out _).setCell (p:=⟨_,1,none⟩) HPB.out _ | exact Below.alloc (HB1.out.trans (HB4.out.mono HB1.out.size)) (Nat.le_trans HB1.out.size HB4.out.size) _) ?_;clear hK9;intro hS_1_9_1_4;clear p0 p1 pf0 pf1;first | (have HP:=Hq (kx hS_1_9_1_4)) | (have HP:=Hq (HP.out.set2 (u:=.bool c) (v:=.string r)))
     refine oO 10 0 ?_;intro K10 hK10;go_wp2;refine hK10 _ _ (by exact hS_1_9_1_4) ?_;clear hK10;intro hS_1_10_1_4;refine wDn ?_;have HSX:=Hq hS_1_10_1_4;have HX5:=Hq (HX0.out.kept (jq HSX.out) HX0.out.lt);have HY5:=Hq (HY0.out.kept (jq HSX.out) HY0.out.lt);have HB5:=Hq (HB0.out.trans ((jq HSX.out).mono HB0.out.size));have hP:=HP.out;have p0:=hP.c0;have p1:=hP.c1;clear hP d0 d1 d2 d3 hQ0;obtain⟨x0,x1,x2,x3⟩:=HX5.out.cells;go_wp2_with fail;refine(HSU.out _).mono ?_;rintro ev w6 ⟨rfl,hb6⟩;have HX6:=Hq (HX5.out.next hb6);have HY6:=Hq (HY5.out.next hb6);have HB6:=bt HB5 hb6;clear hb6 x0 x1 x2 x3 p0 p1;obtain⟨x0,x1,x2,x3⟩:=HX6.out.cells;obtain⟨y0,y1,y2,y3⟩:=HY6.out.cells;have yf0:=HY6.out.free 0;have yf1:=HY6.out.free 1;have yf2:=HY6.out.free 2;have yf3:=HY6.out.free 3;have hxl:=HX6.out.lt;have hyl:=HY6.out.lt;go_wp2;have hY7:=HY6.out.set4 (a:=.bool b) (b:=.string t) (c:=.bool d) (d:=.string v);have hZ:=hY7.kept ((blr).alloc nlr (.cells #[.bool d,.string v] 156)) hY7.lt;obtain⟨q0,q1,q2,q3⟩:=hZ.cells;have hBB:=((((HB6.out.setCell (p:=⟨w.heap.size+1,0,none⟩) (by simp) (.bool b)).setCell (p:=⟨w.heap.size+1,1,none⟩) (by simp) (.string t)).setCell (p:=⟨w.heap.size+1,2,none⟩) (by simp) (.bool d)).setCell (p:=⟨w.heap.size+1,3,none⟩) (by simp) (.string v));exact bodyPost_ret (v:=.agg #[.bool b,.string t,.bool d,.string v]) (by simp[results,Tryz.results255,go_sem,q0,q1,q2,q3]) rfl ⟨rfl,hBB.alloc hBB.size _⟩
   · unfold xn;intro K8 hK8;first | (have HPB:=Hq (Below.size hS_1_1)) | (have HPB:=Hq (Nat.le_refl W0.drew.heap.size))
     go_wp2;refine hK8 _ _ (by exact Below.alloc hS_1_1 (Below.size hS_1_1) _) ?_;clear hK8;intro hS_1_8_1;first | (have HP:=Hq (kx hS_1_8_1)) | (have HP:=Hq (zbr hS_1_8_1))
     refine oO 4 5 ?_;intro K4 hK4;go_wp2_with fail;refine(HMU.out _).mono ?_;rintro ev w4 ⟨rfl,hb4⟩;try (have HP:=Hq (HP.out.next hb4))
     have HB4:=Hq hb4;clear hb4;go_wp2;refine hK4 _ _ (by exact Below.trans hS_1_8_1 (Below.mono HB4.out (Below.size hS_1_8_1))) ?_;clear hK4;intro hS_1_4_1_8;refine qPs 5 4 hS_1_4_1_8 ?_;refine qPs 6 3 hS_1_4_1_8 ?_;refine qPs 7 2 hS_1_4_1_8 ?_;refine oO 9 1 ?_;intro K9 hK9;have hP:=HP.out;have p0:=hP.c0;have p1:=hP.c1;have pf0:=hP.f0;have pf1:=hP.f1;clear hP;go_wp2;refine hK9 _ _ (by first | exact(Below.setCell hS_1_4_1_8 (p:=⟨_,0,none⟩) HPB.out _).setCell (p:=⟨_,1,none⟩) HPB.out _ | exact Below.alloc (HB1.out.trans (HB4.out.mono HB1.out.size)) (Nat.le_trans HB1.out.size HB4.out.size) _) ?_;clear hK9;intro hS_1_9_1_8;clear p0 p1 pf0 pf1;first | (have HP:=Hq (kx hS_1_9_1_8)) | (have HP:=Hq (HP.out.set2 (u:=.bool c) (v:=.string r)))
     refine oO 10 0 ?_;intro K10 hK10;go_wp2;refine hK10 _ _ (by exact hS_1_9_1_8) ?_;clear hK10;intro hS_1_10_1_8;refine wDn ?_;have HSX:=Hq hS_1_10_1_8;have HX5:=Hq (HX0.out.kept (jq HSX.out) HX0.out.lt);have HY5:=Hq (HY0.out.kept (jq HSX.out) HY0.out.lt);have HB5:=Hq (HB0.out.trans ((jq HSX.out).mono HB0.out.size));have hP:=HP.out;have p0:=hP.c0;have p1:=hP.c1;clear hP d0 d1 d2 d3 hQ0;obtain⟨x0,x1,x2,x3⟩:=HX5.out.cells;go_wp2_with fail;refine(HSU.out _).mono ?_;rintro ev w6 ⟨rfl,hb6⟩;have HX6:=Hq (HX5.out.next hb6);have HY6:=Hq (HY5.out.next hb6);have HB6:=bt HB5 hb6;clear hb6 x0 x1 x2 x3 p0 p1;obtain⟨x0,x1,x2,x3⟩:=HX6.out.cells;obtain⟨y0,y1,y2,y3⟩:=HY6.out.cells;have yf0:=HY6.out.free 0;have yf1:=HY6.out.free 1;have yf2:=HY6.out.free 2;have yf3:=HY6.out.free 3;have hxl:=HX6.out.lt;have hyl:=HY6.out.lt;go_wp2;have hY7:=HY6.out.set4 (a:=.bool b) (b:=.string t) (c:=.bool d) (d:=.string v);have hZ:=hY7.kept ((blr).alloc nlr (.cells #[.bool d,.string v] 156)) hY7.lt;obtain⟨q0,q1,q2,q3⟩:=hZ.cells;have hBB:=((((HB6.out.setCell (p:=⟨w.heap.size+1,0,none⟩) (by simp) (.bool b)).setCell (p:=⟨w.heap.size+1,1,none⟩) (by simp) (.string t)).setCell (p:=⟨w.heap.size+1,2,none⟩) (by simp) (.bool d)).setCell (p:=⟨w.heap.size+1,3,none⟩) (by simp) (.string v));exact bodyPost_ret (v:=.agg #[.bool b,.string t,.bool d,.string v]) (by simp[results,Tryz.results255,go_sem,q0,q1,q2,q3]) rfl ⟨rfl,hBB.alloc hBB.size _⟩
 · unfold xn;intro K8 hK8;first | (have HPB:=Hq (Below.size blr)) | (have HPB:=Hq (Nat.le_refl W0.drew.heap.size))
   go_wp2;refine hK8 _ _ (by exact(blr).alloc nlr _) ?_;clear hK8;intro hS_1_8;first | (have HP:=Hq (kx hS_1_8)) | (have HP:=Hq (zbr hS_1_8))
   refine oO 1 6 ?_;intro K1 hK1;go_wp2_with fail;refine(HFR.out _).mono ?_;rintro ev w1 ⟨rfl,hb1⟩;try (have HP:=Hq (HP.out.next hb1))
   have HB1:=Hq hb1;clear hb1;go_wp2;refine hK1 _ _ (by exact Below.trans hS_1_8 (Below.mono HB1.out (Below.size hS_1_8))) ?_;clear hK1;intro hS_1_1_8;refine oO 4 5 ?_;intro K4 hK4;go_wp2_with fail;refine(HMU.out _).mono ?_;rintro ev w4 ⟨rfl,hb4⟩;try (have HP:=Hq (HP.out.next hb4))
   have HB4:=Hq hb4;clear hb4;go_wp2;refine hK4 _ _ (by exact Below.trans hS_1_1_8 (Below.mono HB4.out (Below.size hS_1_1_8))) ?_;clear hK4;intro hS_1_4_8;refine qPs 5 4 hS_1_4_8 ?_;refine qPs 6 3 hS_1_4_8 ?_;refine qPs 7 2 hS_1_4_8 ?_;refine oO 9 1 ?_;intro K9 hK9;have hP:=HP.out;have p0:=hP.c0;have p1:=hP.c1;have pf0:=hP.f0;have pf1:=hP.f1;clear hP;go_wp2;refine hK9 _ _ (by first | exact(Below.setCell hS_1_4_8 (p:=⟨_,0,none⟩) HPB.out _).setCell (p:=⟨_,1,none⟩) HPB.out _ | exact Below.alloc (HB1.out.trans (HB4.out.mono HB1.out.size)) (Nat.le_trans HB1.out.size HB4.out.size) _) ?_;clear hK9;intro hS_1_9_8;clear p0 p1 pf0 pf1;first | (have HP:=Hq (kx hS_1_9_8)) | (have HP:=Hq (HP.out.set2 (u:=.bool c) (v:=.string r)))
   refine oO 10 0 ?_;intro K10 hK10;go_wp2;refine hK10 _ _ (by exact hS_1_9_8) ?_;clear hK10;intro hS_1_10_8;refine wDn ?_;have HSX:=Hq hS_1_10_8;have HX5:=Hq (HX0.out.kept (jq HSX.out) HX0.out.lt);have HY5:=Hq (HY0.out.kept (jq HSX.out) HY0.out.lt);have HB5:=Hq (HB0.out.trans ((jq HSX.out).mono HB0.out.size));have hP:=HP.out;have p0:=hP.c0;have p1:=hP.c1;clear hP d0 d1 d2 d3 hQ0;obtain⟨x0,x1,x2,x3⟩:=HX5.out.cells;go_wp2_with fail;refine(HSU.out _).mono ?_;rintro ev w6 ⟨rfl,hb6⟩;have HX6:=Hq (HX5.out.next hb6);have HY6:=Hq (HY5.out.next hb6);have HB6:=bt HB5 hb6;clear hb6 x0 x1 x2 x3 p0 p1;obtain⟨x0,x1,x2,x3⟩:=HX6.out.cells;obtain⟨y0,y1,y2,y3⟩:=HY6.out.cells;have yf0:=HY6.out.free 0;have yf1:=HY6.out.free 1;have yf2:=HY6.out.free 2;have yf3:=HY6.out.free 3;have hxl:=HX6.out.lt;have hyl:=HY6.out.lt;go_wp2;have hY7:=HY6.out.set4 (a:=.bool b) (b:=.string t) (c:=.bool d) (d:=.string v);have hZ:=hY7.kept ((blr).alloc nlr (.cells #[.bool d,.string v] 156)) hY7.lt;obtain⟨q0,q1,q2,q3⟩:=hZ.cells;have hBB:=((((HB6.out.setCell (p:=⟨w.heap.size+1,0,none⟩) (by simp) (.bool b)).setCell (p:=⟨w.heap.size+1,1,none⟩) (by simp) (.string t)).setCell (p:=⟨w.heap.size+1,2,none⟩) (by simp) (.bool d)).setCell (p:=⟨w.heap.size+1,3,none⟩) (by simp) (.string v));exact bodyPost_ret (v:=.agg #[.bool b,.string t,.bool d,.string v]) (by simp[results,Tryz.results255,go_sem,q0,q1,q2,q3]) rfl ⟨rfl,hBB.alloc hBB.size _⟩
structure EInv (a b r0 r1:Nat) (x0 x1 y0 y1:Int):Prop where
 e0:(a:Int) * x0+b * y0=r0
 e1:(a:Int) * x1+b * y1=r1
 bx:x1.natAbs * r0+x0.natAbs * r1=b
 bY:y1.natAbs * r0+y0.natAbs * r1=a
 sx:(x0≤0∧0≤x1)∨(0≤x0∧x1≤0)
 sy:(y0≤0∧0≤y1)∨(0≤y0∧y1≤0)
 gc:Nat.gcd r0 r1=Nat.gcd a b
 pos:0<r0∨0<r1
 lx:x0.natAbs * r0≤b
 lt:x1=0∨r1<r0
 one:r0=0→y1.natAbs≤1
theorem EInv.start{a b:Nat}(hb:0<b)(hab:a≤b):EInv a b a b 1 0 0 1:=by
 refine⟨by simp,by simp,by simp,by simp,.inr ⟨by decide,by decide⟩,.inl ⟨by decide,by decide⟩,rfl,.inr hb,by simpa using hab,.inl rfl,fun _=>by decide⟩
theorem zov{x0 x1:Int}{q:Nat}(h:(x0≤0∧0≤x1)∨(0≤x0∧x1≤0)):(x0 - q * x1).natAbs=x0.natAbs+q * x1.natAbs∧((x1≤0∧0≤x0 - q * x1)∨(0≤x1∧x0 - q * x1≤0)):=by
 rcases h with⟨h0,h1⟩ | ⟨h0,h1⟩
 · have hp:0≤(q:Int) * x1:=Int.mul_nonneg (by omega) h1;have e:((q * x1.natAbs:Nat):Int)=q * x1:=by rw[Int.natCast_mul];congr 1;omega
   exact⟨by omega,.inr ⟨h1,by omega⟩⟩
 · have hp:(q:Int) * x1≤0:=Int.mul_nonpos_of_nonneg_of_nonpos (by omega) h1;have e:((q * x1.natAbs:Nat):Int) = -(q * x1):=by rw[Int.natCast_mul,←Int.mul_neg];congr 1;omega
   exact⟨by omega,.inl ⟨h1,by omega⟩⟩
theorem zoq{r0 r1 s0 s1:Nat}(h:0<r1):(s0+r0 / r1 * s1) * r1+s1 * (r0%r1)=s1 * r0+s0 * r1:=by
 have e:=Nat.div_add_mod r0 r1;have e2:s1 * r0=s1 * (r1 * (r0 / r1))+s1 * (r0%r1):=by rw[←Nat.mul_add,e]
 have e3:s1 * (r1 * (r0 / r1))=r0 / r1 * s1 * r1:=by rw[Nat.mul_comm r1,←Nat.mul_assoc,Nat.mul_comm s1]
 rw[e2,e3,Nat.add_mul];omega
theorem EInv.step{a b r0 r1:Nat}{x0 x1 y0 y1:Int}(h:EInv a b r0 r1 x0 x1 y0 y1)(h1:0<r1):EInv a b r1 (r0%r1) x1 (x0 - (r0 / r1:Nat) * x1) y1 (y0 - (r0 / r1:Nat) * y1):=by
 have ax:=zov (q:=r0 / r1) h.sx;have ay:=zov (q:=r0 / r1) h.sy;have em:((r0%r1:Nat):Int)=r0 - (r0 / r1:Nat) * r1:=by
  have:=Nat.div_add_mod r0 r1;have e:((r1 * (r0 / r1)+r0%r1:Nat):Int)=r0:=by rw[this]
  rw[Int.natCast_add,Int.natCast_mul]at e;rw[Int.mul_comm]at e;omega
 refine⟨h.e1,?_,?_,?_,ax.2,ay.2,?_,.inl h1,?_,.inr (Nat.mod_lt _ h1),fun e=>by omega⟩
 · rw[em,←h.e0,←h.e1,Int.mul_sub,Int.mul_sub,Int.mul_add];rw[←Int.mul_assoc (a:Int),Int.mul_comm (a:Int) ((r0 / r1:Nat):Int),Int.mul_assoc,←Int.mul_assoc (b:Int),Int.mul_comm (b:Int) ((r0 / r1:Nat):Int),Int.mul_assoc];omega
 · rw[ax.1,zoq h1];exact h.bx
 · rw[ay.1,zoq h1];exact h.bY
 · rw[←h.gc,Nat.gcd_comm r1,←Nat.gcd_rec,Nat.gcd_comm]
 · have hb:=h.bx;rcases h.lt with e | e
   · rw[e];simp
   · have:=Nat.mul_le_mul_left x1.natAbs (Nat.le_of_lt e);omega
theorem EInv.small{a b r0 r1:Nat}{x0 x1 y0 y1:Int}(h:EInv a b r0 r1 x0 x1 y0 y1)(h1:0<r1)(N:Nat)(ha:a<N)(hb:b<N)(hN:1<N) :
 x0.natAbs<N∧x1.natAbs<N∧y0.natAbs<N∧y1.natAbs<N∧((r0 / r1:Nat) * x1).natAbs<N∧((r0 / r1:Nat) * y1).natAbs<N:=by
 have hbx:=h.bx;have hby:=h.bY;have m0:x0.natAbs≤x0.natAbs * r1:=Nat.le_mul_of_pos_right _ h1;have n0:y0.natAbs≤y0.natAbs * r1:=Nat.le_mul_of_pos_right _ h1;have hq:∀ s:Nat,r0 / r1 * s≤s * r0:=fun s=>by
  rw[Nat.mul_comm];exact Nat.mul_le_mul_left s (Nat.div_le_self _ _)
 have q1:=hq x1.natAbs;have q2:=hq y1.natAbs;have a1:((r0 / r1:Nat) * x1:Int).natAbs=r0 / r1 * x1.natAbs:=by rw[Int.natAbs_mul,Int.natAbs_natCast]
 have a2:((r0 / r1:Nat) * y1:Int).natAbs=r0 / r1 * y1.natAbs:=by rw[Int.natAbs_mul,Int.natAbs_natCast]
 rw[a1,a2];rcases Nat.eq_zero_or_pos r0 with e | e
 · have hx1:x1.natAbs=0:=by
    rcases h.lt with e' | e'
    · rw[e'];rfl
    · omega
   have hy1:=h.one e;refine⟨by omega,by omega,by omega,by omega,by omega,by omega⟩
 · have m1:x1.natAbs≤x1.natAbs * r0:=Nat.le_mul_of_pos_right _ e;have n1:y1.natAbs≤y1.natAbs * r0:=Nat.le_mul_of_pos_right _ e;refine⟨by omega,by omega,by omega,by omega,by omega,by omega⟩
theorem EInv.last{a b r0:Nat}{x0 x1 y0 y1:Int}(h:EInv a b r0 0 x0 x1 y0 y1)(hb:0<b):r0=Nat.gcd a b∧0<r0∧x0.natAbs≤b / r0∧(a:Int) * x0+b * y0=r0:=by
 have hp:0<r0:=by rcases h.pos with e | e<;>omega
 refine⟨by rw[←h.gc,Nat.gcd_zero_right],hp,(Nat.le_div_iff_mul_le hp).2 h.lx,h.e0⟩
end Go.Proofs.YtppbcopnfankcaaGreat

import Derived.Test.YtdhnkmbjogmmkaaGreatDoorQLdD
import Derived.Test.YtdhnkmbjogmmkaaGreatDoorQGsh
import Derived.Great.Walk
set_option linter.unusedVariables false
set_option linter.unusedSimpArgs false
namespace Go.Proofs.YtdhnkmbjogmmkaaGreatDoor
set_option maxRecDepth 100000
set_option maxHeartbeats 8000000
open Go.RowKit
theorem i64_62(n:Int)(h1:0≤n)(h2:n<2 ^ 62):IntKind.i64.wrap n=n:=by rw[IntKind.wrap_i64];omega
theorem or_i64(x y:Nat)(hx:x<4611686018427387904)(hy:y<4611686018427387904):bits .or .i64 (x:Int) (y:Int)=((x ||| y:Nat):Int):=
 (bits_nat .i64 62 (by decide) i64_62 x y hx hy).2
theorem and255(x:Nat)(hx:x<4611686018427387904):bits .and .i64 (x:Int) 255=((x%256:Nat):Int):=by
 have h:=(bits_nat .i64 62 (by decide) i64_62 x 255 hx (by decide)).1;rw[show x &&& 255=x%256 from Nat.and_two_pow_sub_one_eq_mod x 8]at h;exact h
theorem join256{a b:Nat}(ha:a<256)(hb:b<256):bits .or .i64 ((a:Int) * 256) (b:Int)=((a * 256+b:Nat):Int):=by
 rw[show (a:Int) * 256=((a * 256:Nat):Int)from by omega,or_i64 _ _ (by omega) (by omega),nat_join 8 (a * 256) b (by simp) (by omega)]
theorem join256'{a b:Nat}(ha:a<256)(hb:b<256):bits .or .i64 (b:Int) ((a:Int) * 256)=((b+a * 256:Nat):Int):=by
 rw[show (a:Int) * 256=((a * 256:Nat):Int)from by omega,or_i64 _ _ (by omega) (by omega),Nat.or_comm,nat_join 8 (a * 256) b (by simp) (by omega),Nat.add_comm]
theorem low_part{d s:Nat}(hd:d<256)(hs:s≤7):bits .and .i64 (wrap64 ((d:Int) * 2 ^ s)) 255=((d * 2 ^ s%256:Nat):Int):=by
 have h:d * 2 ^ s<256 * 128:=(by have : 2 ^ s≤2 ^ 7:=Nat.pow_le_pow_right (by decide) hs;exact Nat.lt_of_le_of_lt (Nat.mul_le_mul_left _ this) (Nat.mul_lt_mul_of_pos_right hd (by decide)));rw[show (d:Int) * 2 ^ s=((d * 2 ^ s:Nat):Int)from by simp];generalize d * 2 ^ s=D at *;rw[show wrap64 (D:Int)=(D:Int)from by unfold wrap64;omega];exact and255 _ (by omega)
theorem join_parts{d e s:Nat}(hd:d<256)(he:e<256)(hs:s≤7):bits .or .i64 ((d * 2 ^ s%256:Nat):Int) ((e:Int) / 2 ^ (8 - s))=((d * 2 ^ s%256+e / 2 ^ (8 - s):Nat):Int):=by
 rw[show (e:Int) / 2 ^ (8 - s)=((e / 2 ^ (8 - s):Nat):Int)from by simp];have h1:e / 2 ^ (8 - s)<2 ^ s:=by
  rw[Nat.div_lt_iff_lt_mul (Nat.pow_pos (by decide)),←Nat.pow_add,show s+(8 - s)=8 from by omega];exact he
 have h3:2 ^ s≤2 ^ 7:=Nat.pow_le_pow_right (by decide) hs;have h2:d * 2 ^ s%256%2 ^ s=0:=(by rw[show (256:Nat)=2 ^ s * 2 ^ (8 - s)from by rw[←Nat.pow_add,show s+(8 - s)=8 from by omega],Nat.mod_mul_right_mod,Nat.mul_mod_left]);rw[or_i64 _ _ (by omega) (by omega),nat_join s _ _ h2 h1]
theorem shift_of{y b:Nat}(hb0:0<b)(hb:b<256)(n:Nat)(hn:0<n)(h:blen y=8 * (n - 1)+blen b):∃ s:Nat,(8:Int) - (Lib.bitLen b:Int)=(s:Int)∧s≤7∧y * 2 ^ s<256 ^ n:=by
 have h1:=bitLen_blen hb;have h2:blen b≤8:=by
  unfold blen;split
  · omega
  · have:=(Nat.log2_lt (n:=b) (k:=8) (by assumption)).2 (by omega);omega
 have h3:0<blen b:=(by unfold blen;rw[if_neg (by omega)];omega);refine⟨8 - blen b,by rw[h1];omega,by omega,?_⟩;have h4:=blen_lt y;rw[h]at h4;have h5:y * 2 ^ (8 - blen b)<2 ^ (8 * (n - 1)+blen b) * 2 ^ (8 - blen b):=Nat.mul_lt_mul_of_pos_right h4 (Nat.pow_pos (by decide));rw[←Nat.pow_add,show 8 * (n - 1)+blen b+(8 - blen b)=8 * n from by omega,Nat.pow_mul]at h5;exact h5
theorem nat_divided_core(x y:Nat)(s t:ByteArray)(hs:nS x=s)(ht:nS y=t)(hx:x<256 ^ 128)(h:y≤x)(h0:0<y)(h8:8<s.size)(g:0<t.size)(b:Nat)(hb:t[0].toNat=b)(sh:Nat)(hsh:(8:Int) - (Lib.bitLen b:Int)=(sh:Int))(hs7:sh≤7)(hys:y * 2 ^ sh<256 ^ t.size)(w:World):Calls Tryz.prog 57 #[.string s,.string t] w (Ret (.tuple #[.string (nS (x / y)),.string (nS (x%y))]) w):=by
 have hs1:s.size≤128:=by rw[←hs];exact nS_size_le.2 hx
 have hts:t.size≤s.size:=by rw[←hs,←ht];exact nS_size_le.2 (Nat.lt_of_le_of_lt h (nS_size_le.1 nlr))
 have HXL:=Hq (show x<256 ^ s.size from by rw[←hs];exact nS_size_le.1 nlr);have HYL:=Hq (show 256 ^ (t.size - 1)≤y from by
  rcases Nat.lt_or_ge y (256 ^ (t.size - 1))with h1 | h1
  · have h2:=nS_size_le.2 h1;rw[ht]at h2;omega
  · exact h1)
 have HS:=Hq hs;have HT:=Hq ht;have HG:=Hq (cmpI_nonneg h);have HO:=Hq (ordB_nS x y);rw[hs,ht]at HO;have HXS:=Hq (show (nS x).size≤1000 from by rw[hs];omega);have HYS:=Hq (show (nS y).size≤1000 from by rw[ht];omega);have HYH:=Hq hys;have HX:=Hq h;have HY0:=Hq h0;have HD0:=Hq (show 0<y * 2 ^ sh from Nat.mul_pos h0 (Nat.pow_pos (by decide)));have HLZ:=Hq (fun w=>Tryz.bits_LeadingZeros8 (b:Int) w (by omega) (by have:=t[0].toNat_lt;omega));rw[Int.toNat_natCast,hsh]at HLZ;have hmk:=fun(w:World)=>make_ints t.size (by omega) w;have hmk2:=fun(w:World)=>make_ints (s.size+1) (by omega) w;simp only[Int.natCast_add,Int.natCast_one]at hmk2;obtain⟨m,hm⟩:∃ m,s.size=m+t.size:=⟨s.size - t.size,by omega⟩;have hmi:(s.size:Int) - (t.size:Int)=(m:Int):=by omega
 have hmk3:=fun(w:World)=>make_bytes (m+1) (by omega) w;simp only[Int.natCast_add,Int.natCast_one]at hmk3;have hmk4:=fun(w:World)=>make_bytes t.size (by omega) w;have HM:=Hq hm;have hng:¬ ((s.size:Int)≤8):=by omega
 clear hs ht hx h h0 hys hsh hm;go_enter Tryz.func57,Tryz.ntmps57;go_wp2_with fail;refine(nat_compare s t (by omega) (by omega) _).mono ?_;rintro e w1 ⟨rfl,rfl⟩;rw[HO.out];have hg:=HG.out;obtain⟨c,hc⟩:∃ c,cmpI x y=c:=⟨_,rfl⟩;rw[hc]at hg⊢;clear hc HG;go_wp2_with fail;refine(HLZ.out _).mono ?_;rintro e w ⟨rfl,rfl⟩;go_wp2;clear hmk;go_loopw [63] (fun i wr=>∃(k:Nat) (f:Nat→Nat),k≤t.size∧i=.int .i64 k∧RowI wr w.heap.size (t.size) f∧(∀ j,j<k→f j=dig (y * 2 ^ sh) j)∧Below w.heap.size w wr) (fun i _=>t.size - (intOf i).toNat);case atStart=>exact⟨0,_,Nat.zero_le _,rfl,RowI.start _,fun j h=>absurd h (Nat.not_lt_zero _),(blr).alloc nlr _⟩
 case round =>
  obtain⟨k,f,hk,rfl,hR,hf,hB⟩:=hrel;have HR:=Hq hR;have HB:=Hq hB;have HF:=Hq hf;clear hR hB hf;by_cases hlt:k<t.size
  · have hd:=dig_lt y k;have HDG:=Hq (nat_digit y k HYS.out);rw[HT.out]at HDG;obtain⟨d,hde⟩:∃ d,dig y k=d:=⟨_,rfl⟩;rw[hde]at hd HDG;have HDE:=Hq hde;have hf:=HR.out.free k;have hcl:=HR.out.cell hlt;have hlow:=low_part hd hs7;obtain⟨x1,hx1⟩:∃ x1,d * 2 ^ sh%256=x1:=⟨_,rfl⟩;rw[hx1]at hlow;have HX1:=Hq hx1;clear hde hx1;by_cases hk0:k=0
    · have hk1:¬ (0<k):=by omega
      have HK0:=Hq hk0;clear hk0;go_wp2_with fail;refine(HDG.out _).mono ?_;rintro e w1 ⟨rfl,rfl⟩;go_wp2;refine⟨⟨k+1,upd f k x1,by omega,by go_num,HR.out.set x1,?_,HB.out.setCell (p:=⟨w.heap.size,k,none⟩) nlr _⟩,by simp[intOf];omega⟩;intro j hj;have e0:=HK0.out;obtain rfl:j=0:=by omega
      rw[e0,upd_at,dig_scaled0,←HX1.out,←HDE.out,e0]
    · have hk1:0<k:=by omega
      clear hk0;obtain⟨kp,hkp⟩:∃ kp,k=kp+1:=⟨k - 1,by omega⟩;have hix:(k:Int) - 1=(kp:Int):=by omega
      have HKP:=Hq hkp;have HDG2:=Hq (nat_digit y kp HYS.out);rw[HT.out]at HDG2;have hd2:=dig_lt y kp;obtain⟨d2,hde2⟩:∃ d,dig y kp=d:=⟨_,rfl⟩;rw[hde2]at hd2 HDG2;have HDE2:=Hq hde2;obtain⟨z,hz⟩:∃ z:Nat,(8:Int) - (sh:Int)=(z:Int):=⟨8 - sh,by omega⟩;obtain rfl:z=8 - sh:=by omega
      have hor:=join_parts hd hd2 hs7;rw[HX1.out]at hor;obtain⟨x2,hx2⟩:∃ x2,x1+d2 / 2 ^ (8 - sh)=x2:=⟨_,rfl⟩;rw[hx2]at hor;have HX2:=Hq hx2;obtain⟨z,hzz⟩:∃ z,8 - sh=z:=⟨_,rfl⟩;rw[hzz]at hor hz;have HZ:=Hq hzz;clear hkp hde2 hx2 hzz;obtain⟨W1,hW1⟩:∃ W1,wr.setCell ⟨w.heap.size,k,none⟩ (.int .i64 x1)=W1:=⟨_,rfl⟩;obtain⟨wd,hwd⟩:∃ wd,W1.drew=wd:=⟨_,rfl⟩;have HR2:=Hq (show RowI wd w.heap.size (t.size) (upd f k x1)from by rw[←hwd,←hW1];exact(HR.out.set x1).heap rfl);have HB2:=Hq (show Below w.heap.size w wd from by rw[←hwd,←hW1];exact(HB.out.setCell (p:=⟨w.heap.size,k,none⟩) nlr _).drew);have c0:=HR2.out.cell hlt;rw[upd_at]at c0;have hf0:=HR2.out.free k;go_wp2_with fail;refine(HDG.out _).mono ?_;rintro e w1 ⟨rfl,rfl⟩;go_wp2;try rw[hW1]
      refine wp_region_K 13 (Eq wd) (by kernel_rfl) ?_;intro hD;rw[hwd];refine qPD 0 77 13 rfl hD rfl ?_;clear hD;intro hD;simp only[Act.put,sqA,sqB,sqC];refine qPD 1 78 12 rfl hD rfl ?_;clear hD;intro hD;simp only[Act.put,sqA,sqB,sqC];refine qPD 2 79 11 rfl hD rfl ?_;clear hD;intro hD;simp only[Act.put,sqA,sqB,sqC];refine qTD 3 80 10 rfl hD rfl (by intro w' hS';have e0:=(hS'▸c0);go_simp;with_reducible rfl) ?_;clear hD;intro hD;simp only[Act.put,sqA,sqB,sqC];refine qPD 4 81 9 rfl hD rfl ?_;clear hD;intro hD;simp only[Act.put,sqA,sqB,sqC];refine qPD 5 82 8 rfl hD rfl ?_;clear hD;intro hD;simp only[Act.put,sqA,sqB,sqC];refine qPD 6 83 7 rfl hD rfl ?_;clear hD;intro hD;simp only[Act.put,sqA,sqB,sqC];refine qPD 8 85 6 rfl hD rfl ?_;clear hD;intro hD;simp only[Act.put,sqA,sqB,sqC];refine qPD 9 86 5 rfl hD rfl ?_;clear hD;intro hD;simp only[Act.put,sqA,sqB,sqC];refine rO 7 4 rfl hD ?_;clear hD;intro K7 hK7;go_wp2_with fail;refine(HDG2.out _).mono ?_;rintro e w1 ⟨rfl,rfl⟩;go_wp2;refine hK7 _ _ (by rfl) ?_;clear hK7;intro hS_15_7 hD;refine qPD 10 87 3 rfl hD hS_15_7 ?_;clear hD;intro hD;simp only[Act.put,sqA,sqB,sqC];refine qPD 11 88 2 rfl hD hS_15_7 ?_;clear hD;intro hD;simp only[Act.put,sqA,sqB,sqC];refine qPD 12 89 1 rfl hD hS_15_7 ?_;clear hD;intro hD;simp only[Act.put,sqA,sqB,sqC];refine wpAnyK_oneT (i:=13) (fuel:=0) (by kernel_rfl) rfl hD (by kernel_rfl) ?_;clear hD;intro K13 hK13;go_wp2;refine hK13 _ _ ?_;clear hK13;intro hD;refine wpAnyK_done (by kernel_rfl) ?_ 0;clear hD;go_wp2;refine⟨⟨k+1,upd (upd f k x1) k x2,by omega,by go_num,HR2.out.set x2,?_,HB2.out.setCell (p:=⟨w.heap.size,k,none⟩) nlr _⟩,by simp[intOf];omega⟩;intro j hj;by_cases e:j=k
      · have e1:=HKP.out;have e2:=HDE.out;subst e;rw[upd_at,←HX2.out,←HX1.out,←HDE2.out];subst e1;rw[dig_scaled hs7,e2]
      · rw[upd_off _ e,upd_off _ e];exact HF.out j (by omega)
  · obtain rfl:k=t.size:=by omega
    have HD:=Hq (HR.out.congr HF.out);have hBD:=HR.out.lt;have HW:=Hq HB.out;clear HF HR HB hk hlt;obtain⟨V,hV⟩:∃ V,V=wr:=⟨_,rfl⟩;subst hV;go_wp2;clear hmk2;go_loopw [97] (fun i wr=>∃(k:Nat) (f:Nat→Nat),k≤s.size+1∧i=.int .i64 k∧RowI wr V.heap.size (s.size+1) f∧(∀ j,j<k→f j=dig (x * 2 ^ sh) j)∧Below V.heap.size V wr) (fun i _=>s.size+1 - (intOf i).toNat);case atStart=>exact⟨0,_,Nat.zero_le _,rfl,RowI.start _,fun j h=>absurd h (Nat.not_lt_zero _),(blr).alloc nlr _⟩
    case round =>
     obtain⟨k,f,hk,rfl,hR,hf,hB⟩:=hrel;have HR:=Hq hR;have HB:=Hq hB;have HF:=Hq hf;clear hR hB hf;by_cases hlt:k<s.size+1
     · have hd:=dig_lt x k;have HDG:=Hq (nat_digit x k HXS.out);rw[HS.out]at HDG;obtain⟨d,hde⟩:∃ d,dig x k=d:=⟨_,rfl⟩;rw[hde]at hd HDG;have HDE:=Hq hde;have hf:=HR.out.free k;have hcl:=HR.out.cell hlt;have hlow:=low_part hd hs7;obtain⟨x1,hx1⟩:∃ x1,d * 2 ^ sh%256=x1:=⟨_,rfl⟩;rw[hx1]at hlow;have HX1:=Hq hx1;clear hde hx1;by_cases hk0:k=0
       · have hk1:¬ (0<k):=by omega
         have HK0:=Hq hk0;clear hk0;go_wp2_with fail;refine(HDG.out _).mono ?_;rintro e w1 ⟨rfl,rfl⟩;go_wp2;refine⟨⟨k+1,upd f k x1,by omega,by go_num,HR.out.set x1,?_,HB.out.setCell (p:=⟨V.heap.size,k,none⟩) nlr _⟩,by simp[intOf];omega⟩;intro j hj;have e0:=HK0.out;obtain rfl:j=0:=by omega
         rw[e0,upd_at,dig_scaled0,←HX1.out,←HDE.out,e0]
       · have hk1:0<k:=by omega
         clear hk0;obtain⟨kp,hkp⟩:∃ kp,k=kp+1:=⟨k - 1,by omega⟩;have hix:(k:Int) - 1=(kp:Int):=by omega
         have HKP:=Hq hkp;have HDG2:=Hq (nat_digit x kp HXS.out);rw[HS.out]at HDG2;have hd2:=dig_lt x kp;obtain⟨d2,hde2⟩:∃ d,dig x kp=d:=⟨_,rfl⟩;rw[hde2]at hd2 HDG2;have HDE2:=Hq hde2;obtain⟨z,hz⟩:∃ z:Nat,(8:Int) - (sh:Int)=(z:Int):=⟨8 - sh,by omega⟩;obtain rfl:z=8 - sh:=by omega
         have hor:=join_parts hd hd2 hs7;rw[HX1.out]at hor;obtain⟨x2,hx2⟩:∃ x2,x1+d2 / 2 ^ (8 - sh)=x2:=⟨_,rfl⟩;rw[hx2]at hor;have HX2:=Hq hx2;obtain⟨z,hzz⟩:∃ z,8 - sh=z:=⟨_,rfl⟩;rw[hzz]at hor hz;have HZ:=Hq hzz;clear hkp hde2 hx2 hzz;obtain⟨W1,hW1⟩:∃ W1,wr.setCell ⟨V.heap.size,k,none⟩ (.int .i64 x1)=W1:=⟨_,rfl⟩;obtain⟨wd,hwd⟩:∃ wd,W1.drew=wd:=⟨_,rfl⟩;have HR2:=Hq (show RowI wd V.heap.size (s.size+1) (upd f k x1)from by rw[←hwd,←hW1];exact(HR.out.set x1).heap rfl);have HB2:=Hq (show Below V.heap.size V wd from by rw[←hwd,←hW1];exact(HB.out.setCell (p:=⟨V.heap.size,k,none⟩) nlr _).drew);have c0:=HR2.out.cell hlt;rw[upd_at]at c0;have hf0:=HR2.out.free k;go_wp2_with fail;refine(HDG.out _).mono ?_;rintro e w1 ⟨rfl,rfl⟩;go_wp2;try rw[hW1]
         refine wp_region_K 13 (Eq wd) (by kernel_rfl) ?_;intro hD;rw[hwd];refine qPD 0 111 13 rfl hD rfl ?_;clear hD;intro hD;simp only[Act.put,sqA,sqB,sqC];refine qPD 1 112 12 rfl hD rfl ?_;clear hD;intro hD;simp only[Act.put,sqA,sqB,sqC];refine qPD 2 113 11 rfl hD rfl ?_;clear hD;intro hD;simp only[Act.put,sqA,sqB,sqC];refine qTD 3 114 10 rfl hD rfl (by intro w' hS';have e0:=(hS'▸c0);go_simp;with_reducible rfl) ?_;clear hD;intro hD;simp only[Act.put,sqA,sqB,sqC];refine qPD 4 115 9 rfl hD rfl ?_;clear hD;intro hD;simp only[Act.put,sqA,sqB,sqC];refine qPD 5 116 8 rfl hD rfl ?_;clear hD;intro hD;simp only[Act.put,sqA,sqB,sqC];refine qPD 6 117 7 rfl hD rfl ?_;clear hD;intro hD;simp only[Act.put,sqA,sqB,sqC];refine qPD 8 119 6 rfl hD rfl ?_;clear hD;intro hD;simp only[Act.put,sqA,sqB,sqC];refine qPD 9 120 5 rfl hD rfl ?_;clear hD;intro hD;simp only[Act.put,sqA,sqB,sqC];refine rO 7 4 rfl hD ?_;clear hD;intro K7 hK7;go_wp2_with fail;refine(HDG2.out _).mono ?_;rintro e w1 ⟨rfl,rfl⟩;go_wp2;refine hK7 _ _ (by rfl) ?_;clear hK7;intro hS_23_7 hD;refine qPD 10 121 3 rfl hD hS_23_7 ?_;clear hD;intro hD;simp only[Act.put,sqA,sqB,sqC];refine qPD 11 122 2 rfl hD hS_23_7 ?_;clear hD;intro hD;simp only[Act.put,sqA,sqB,sqC];refine qPD 12 123 1 rfl hD hS_23_7 ?_;clear hD;intro hD;simp only[Act.put,sqA,sqB,sqC];refine wpAnyK_oneT (i:=13) (fuel:=0) (by kernel_rfl) rfl hD (by kernel_rfl) ?_;clear hD;intro K13 hK13;go_wp2;refine hK13 _ _ ?_;clear hK13;intro hD;refine wpAnyK_done (by kernel_rfl) ?_ 0;clear hD;go_wp2;refine⟨⟨k+1,upd (upd f k x1) k x2,by omega,by go_num,HR2.out.set x2,?_,HB2.out.setCell (p:=⟨V.heap.size,k,none⟩) nlr _⟩,by simp[intOf];omega⟩;intro j hj;by_cases e:j=k
         · have e1:=HKP.out;have e2:=HDE.out;subst e;rw[upd_at,←HX2.out,←HX1.out,←HDE2.out];subst e1;rw[dig_scaled hs7,e2]
         · rw[upd_off _ e,upd_off _ e];exact HF.out j (by omega)
     · obtain rfl:k=s.size+1:=by omega
       rw[show ((s.size+1:Nat):Int)=(s.size:Int)+1 from by omega];have HF0:=Hq (show ∀ p,p<s.size+1→f p<256 from fun p hp=>by rw[HF.out p hp];exact dig_lt _ _);have HV0:=Hq (show vN f (s.size+1)=x * 2 ^ sh%(y * 2 ^ sh * 256 ^ (m+1))from by
        rw[vN_congr HF.out,vN_dig];have h1:=ld_start (s:=sh) (n:=t.size) (L:=s.size) hts HXL.out HYL.out g;rw[show s.size - t.size+1=m+1 from by have:=HM.out;omega]at h1;rw[←h1];refine Nat.mod_eq_of_lt ?_;rw[Nat.pow_succ];have h2:2 ^ sh≤256:=Nat.le_trans (Nat.pow_le_pow_right (by decide) hs7) (by decide)
        exact Nat.lt_of_lt_of_le (Nat.mul_lt_mul_of_pos_right HXL.out (Nat.pow_pos (by decide))) (Nat.mul_le_mul_left _ h2))
       have HR0:=Hq HR.out;have hBR:=HR.out.lt;have HBV:=Hq HB.out;obtain⟨f0,hf0⟩:∃ f0,f0=f:=⟨_,rfl⟩;subst hf0;clear HF HR HB hk hlt;obtain⟨U,hU⟩:∃ U,U=wr:=⟨_,rfl⟩;subst hU;have hbQ:Below U.heap.size U (U.alloc (.cells (zb (m+1)) 5)):=(blr).alloc nlr _;have HS0:=Hq (show LdS w (U.alloc (.cells (zb (m+1)) 5)) w.heap.size V.heap.size U.heap.size t.size (s.size+1) (m+1) (y * 2 ^ sh) (x / y) (m+1) f0 from
        ⟨(HD.out.heap (HBV.out.block _ hBD)).heap (hbQ.block _ (by omega)),HR0.out.heap (hbQ.block _ hBR),HF0.out,OutH.start _ _,(HW.out.trans (HBV.out.mono (by omega))).trans (hbQ.mono (by omega)),by omega,by omega,by omega,by omega,by omega⟩)
       clear hbQ;go_wp2;go_loopw [17] (fun j wr=>∃(jj:Nat) (f:Nat→Nat),jj≤m+1∧j=.int .i64 ((jj:Int) - 1)∧vN f (s.size+1)=x * 2 ^ sh%(y * 2 ^ sh * 256 ^ jj)∧LdS w wr w.heap.size V.heap.size U.heap.size t.size (s.size+1) (m+1) (y * 2 ^ sh) (x / y) jj f) (fun j _=>(intOf j+1).toNat);case atStart=>exact⟨m+1,f0,Nat.le_refl _,by go_num,HV0.out,HS0.out⟩
       case round =>
        obtain⟨jj,f,hjj,rfl,hv,hS⟩:=hrel;have HVV:=Hq hv;have HSS:=Hq hS;clear hv hS;obtain⟨Wm,hWm⟩:∃ Wm,Wm=wr:=⟨_,rfl⟩;subst hWm;rcases Nat.eq_zero_or_pos jj with hz | hz
        · subst hz;rw[show ((0:Nat):Int) - 1 = -1 from rfl];have HVR:=Hq (show vN f (s.size+1) / 2 ^ sh=x%y from by
           rw[HVV.out,Nat.pow_zero,Nat.mul_one]
           rw[Nat.mul_mod_mul_right,Nat.mul_div_cancel _ (Nat.pow_pos (by decide))])
          have hUl:=HSS.out.rQ.lt;have hVl:=HSS.out.rR.lt;have hBase:w.heap.size<Wm.heap.size:=Nat.lt_of_le_of_lt (Nat.le_of_lt hBD) hVl;clear hmk3;go_wp2;clear hmk4;go_loopw [259] (fun i wr=>∃ k:Nat,k≤t.size∧i=.int .i64 k∧OutB wr Wm.heap.size t.size k (x%y)∧Below Wm.heap.size Wm wr) (fun i _=>t.size - (intOf i).toNat);case atStart=>exact⟨0,Nat.zero_le _,rfl,OutB.start _ _,(blr).alloc nlr _⟩
          case round =>
           obtain⟨k,hk,rfl,hO,hB⟩:=hrel;have HO2:=Hq hO;have HBQ:=Hq hB;clear hO hB;by_cases hlt:k<t.size
           · have hks:k<s.size:=by omega
             have hRq:RowI wr V.heap.size (s.size+1) f:=HSS.out.rR.heap (HBQ.out.block _ hVl);have c0:=hRq.cell (show k<s.size+1 by omega);have c1:=hRq.cell (show k+1<s.size+1 by omega);have ha:=HSS.out.dR k (by omega);have hb2:=HSS.out.dR (k+1) (by omega);have hdk:=dig_back (v:=vN f (s.size+1)) (i:=k) hs7;rw[HVR.out,dig_vN HSS.out.dR (show k<s.size+1 by omega),dig_vN HSS.out.dR (show k+1<s.size+1 by omega)]at hdk;obtain⟨a1,ha1⟩:∃ u,f k=u:=⟨_,rfl⟩;obtain⟨a2,ha2⟩:∃ u,f (k+1)=u:=⟨_,rfl⟩;rw[ha1]at c0 ha hdk;rw[ha2]at c1 hb2 hdk;have hor:=join256' hb2 ha;obtain⟨v,hv⟩:∃ u,a1+a2 * 256=u:=⟨_,rfl⟩;rw[hv]at hor hdk;have hvl:v<65536:=by omega
             obtain⟨v2,hv2⟩:∃ u,v / 2 ^ sh=u:=⟨_,rfl⟩;have hv2i:(v:Int) / 2 ^ sh=(v2:Int):=by rw[←hv2];simp
             have hv2l:v2<65536:=by rw[←hv2];exact Nat.lt_of_le_of_lt (Nat.div_le_self _ _) hvl
             rw[hv2]at hdk;have HDK:=Hq hdk;obtain⟨kk,hkk⟩:∃ kk,kk+1+k=t.size:=⟨t.size - 1 - k,by omega⟩;have hkki:(t.size:Int) - 1 - (k:Int)=(kk:Int):=by omega
             have hkkl:kk<t.size:=by omega
             have HKK:=Hq hkk;obtain⟨uo,huo⟩:=HO2.out.cell hkkl;have hfo:=HO2.out.free kk;have hki:(k:Int)+1<(s.size:Int)+1:=by omega
             clear hdk hv hv2 ha1 ha2 hkk hRq;go_wp2;refine⟨⟨k+1,by omega,by go_num,?_,HBQ.out.setCell (p:=⟨Wm.heap.size,kk,none⟩) nlr _⟩,by simp[intOf];omega⟩;have h1:=HO2.out.step (k:=kk) HKK.out;rw[HDK.out]at h1;exact h1
           · obtain rfl:k=t.size:=by omega
             clear hlt hk;have hbq:=(HSS.out.rQ.out.heap (HBQ.out.block _ hUl)).bytes (by omega);have hbr:=HO2.out.bytes (by omega);have HBY1:=Hq hbq;have HBY2:=Hq hbr;have HQL:=Hq (show x / y<256 ^ (m+1)from by
              rw[Nat.div_lt_iff_lt_mul HY0.out];refine Nat.lt_of_lt_of_le HXL.out ?_;have h1:=Nat.mul_le_mul_left (256 ^ (m+1)) HYL.out;rw[←Nat.pow_add]at h1;rw[show s.size=m+1+(t.size - 1)from by have:=HM.out;omega]
              exact h1)
             have HRL:=Hq (show x%y<256 ^ t.size from Nat.lt_of_lt_of_le (Nat.mod_lt _ HY0.out) (by
              have h1:y≤y * 2 ^ sh:=Nat.le_mul_of_pos_right _ (Nat.pow_pos (by decide));have:=HYH.out
              omega))
             clear hbq hbr;go_wp2_with fail;refine(nat_trimmed _ _ _ _ _ HBY1.out).mono ?_;rintro e w1 ⟨rfl,rfl⟩;rw[trim_beN HQL.out];go_wp2_with fail;refine(nat_trimmed _ _ _ _ _ HBY2.out).mono ?_;rintro e w1 ⟨rfl,rfl⟩;rw[trim_beN HRL.out];go_wp2;go_ret2;exact⟨rfl,HSS.out.hB.trans (HBQ.out.mono (Nat.le_of_lt hBase))⟩
        · obtain⟨j,rfl⟩:∃ j,jj=j+1:=⟨jj - 1,by omega⟩;rw[show ((j+1:Nat):Int) - 1=(j:Int)from by omega];have hmn:=HM.out;have HYM:=Hq (show 256 ^ (t.size - 1)≤y * 2 ^ sh from Nat.le_trans HYL.out (Nat.le_mul_of_pos_right _ (Nat.pow_pos (by decide))));obtain⟨n1,hn1⟩:∃ n1,t.size=n1+1:=⟨t.size - 1,by omega⟩;have hn1i:(t.size:Int) - 1=(n1:Int):=by omega
          obtain⟨p1,hp1⟩:∃ p1,j+t.size=p1:=⟨_,rfl⟩;have hp1i:(j:Int)+(t.size:Int)=(p1:Int):=by omega
          obtain⟨p2,hp2⟩:∃ p2,p1=p2+1:=⟨p1 - 1,by omega⟩;have hp2i:(p1:Int) - 1=(p2:Int):=by omega
          have hp1w:IntKind.i64.wrap (p1:Int)=(p1:Int):=by rw[IntKind.wrap_i64];omega
          have hp2w:IntKind.i64.wrap (p2:Int)=(p2:Int):=by rw[IntKind.wrap_i64];omega
          have hn1w:IntKind.i64.wrap (n1:Int)=(n1:Int):=by rw[IntKind.wrap_i64];omega
          have hp10:(0:Int)≤(p1:Int):=by omega
          have hp20:(0:Int)≤(p2:Int):=by omega
          have hn10:(0:Int)≤(n1:Int):=by omega
          have hp1b:(p1:Int)<(s.size:Int)+1:=by omega
          have hp2b:(p2:Int)<(s.size:Int)+1:=by omega
          have hn1b:(n1:Int)<(t.size:Int):=by omega
          have hp1l:p1<s.size+1:=by omega
          have hp2l:p2<s.size+1:=by omega
          have hn1l:n1<t.size:=by omega
          obtain⟨wd,hwd⟩:∃ wd,Wm.drew=wd:=⟨_,rfl⟩;have HSD:=Hq (show LdS w wd w.heap.size V.heap.size U.heap.size t.size (s.size+1) (m+1) (y * 2 ^ sh) (x / y) (j+1) f from by rw[←hwd];exact HSS.out.drew);have c0:=HSD.out.rR.cell hp1l;have c1:=HSD.out.rR.cell hp2l;have c2:=HSD.out.rD.cell hn1l;have hu1:=HSD.out.dR p1 hp1l;have hu2:=HSD.out.dR p2 hp2l;have hdt:=dig_lt (y * 2 ^ sh) n1;have hdt0:0<dig (y * 2 ^ sh) n1:=dig_top (by have:=HYM.out;rw[hn1,Nat.add_sub_cancel]at this;exact this) (by have:=HYH.out;rw[hn1]at this;exact this);have HGE:=Hq (guess_ge (u:=fun a=>f (j+a)) (d:=dig (y * 2 ^ sh)) (n:=t.size) g (fun a ha=>HSD.out.dR _ (by omega)) (by rw[hn1,Nat.add_sub_cancel];exact hdt0));have e1:f (j+t.size)=f p1:=by rw[hp1]
          have e2:f (j+(t.size - 1))=f p2:=by rw[show j+(t.size - 1)=p2 from by omega]
          have e3:dig (y * 2 ^ sh) (t.size - 1)=dig (y * 2 ^ sh) n1:=by rw[show t.size - 1=n1 from by omega]
          simp only[e1,e2,e3]at HGE;obtain⟨u1,hu1e⟩:∃ u,f p1=u:=⟨_,rfl⟩;obtain⟨u2,hu2e⟩:∃ u,f p2=u:=⟨_,rfl⟩;obtain⟨dt,hdte⟩:∃ u,dig (y * 2 ^ sh) n1=u:=⟨_,rfl⟩;rw[hu1e]at c0 hu1 HGE;rw[hu2e]at c1 hu2 HGE;rw[hdte]at c2 hdt hdt0 HGE;have HU1:=Hq hu1e;have hor:=join256 hu1 hu2;obtain⟨uu,huu⟩:∃ u,u1 * 256+u2=u:=⟨_,rfl⟩;rw[huu]at hor HGE;have huul:uu<65536:=by omega
          obtain⟨qq,hqq⟩:∃ u,uu / dt=u:=⟨_,rfl⟩;have hqqi:(uu:Int) / (dt:Int)=(qq:Int):=by rw[←hqq];rfl
          have hqql:qq<65536:=by rw[←hqq];exact Nat.lt_of_le_of_lt (Nat.div_le_self _ _) huul
          rw[hqq]at HGE;obtain⟨gg,hgg⟩:∃ u,min qq 255=u:=⟨_,rfl⟩;have hggi:min (qq:Int) 255=(gg:Int):=by omega
          have hggl:gg≤255:=by omega
          have hdti:((dt:Int)==0)=false:=beq_eq_false_iff_ne.2 (by omega);have hdt2:(0:Int)<(dt:Int):=by omega
          have hdt3:¬ (dt=0):=by omega
          rw[hgg]at HGE;have HP1:=Hq hp1;have HP2:=Hq hp2;have HN1:=Hq hn1;clear e1 e2 e3 hu1e hu2e hdte huu hqq hgg hp1 hp2 hn1 hmn;obtain⟨Uv,hUv⟩:∃ u,vN (fun a=>f (j+a)) (t.size+1)=u:=⟨_,rfl⟩;have hld:=ld_digit (A:=x * 2 ^ sh) (D:=y * 2 ^ sh) (n:=t.size) (j:=j) HSS.out.dR (by have:=HP1.out;omega) HD0.out HYH.out HVV.out;rw[hUv]at hld;obtain⟨_,hUl,hUd⟩:=hld;rw[Nat.mul_div_mul_right _ _ (Nat.pow_pos (by decide))]at hUd;have HUL:=Hq hUl;have HUD:=Hq hUd;have HGG:=Hq (show Uv / (y * 2 ^ sh)≤gg from by
           have h1:=HGE.out;rw[vN_dig,Nat.mod_eq_of_lt HYH.out,hUv]at h1
           exact h1 hUl)
          have HUV:=Hq hUv;clear hUv hUl hUd HGE;go_wp2;refine wp_region_K 23 (Eq wd) (by kernel_rfl) ?_;intro hD;rw[hwd];refine rP 0 139 22 rfl hD rfl ?_;clear hD;intro hD;refine rP 1 140 21 rfl hD rfl ?_;clear hD;intro hD;refine rP 2 141 20 rfl hD rfl ?_;clear hD;intro hD;refine rP 3 142 19 rfl hD rfl ?_;clear hD;intro hD;refine rP 4 143 18 rfl hD rfl ?_;clear hD;intro hD;refine rT 5 144 17 rfl hD rfl (by intro w' hS';have e0:=(hS'▸c0);have e1:=(hS'▸c1);have e2:=(hS'▸c2);go_simp;with_reducible rfl) ?_;clear hD;intro hD;refine rP 6 145 16 rfl hD rfl ?_;clear hD;intro hD;refine rP 7 146 15 rfl hD rfl ?_;clear hD;intro hD;refine rP 8 147 14 rfl hD rfl ?_;clear hD;intro hD;refine rP 9 148 13 rfl hD rfl ?_;clear hD;intro hD;refine rP 10 149 12 rfl hD rfl ?_;clear hD;intro hD;refine rP 11 150 11 rfl hD rfl ?_;clear hD;intro hD;refine rP 12 151 10 rfl hD rfl ?_;clear hD;intro hD;refine rT 13 152 9 rfl hD rfl (by intro w' hS';have e0:=(hS'▸c0);have e1:=(hS'▸c1);have e2:=(hS'▸c2);go_simp;with_reducible rfl) ?_;clear hD;intro hD;refine rP 14 153 8 rfl hD rfl ?_;clear hD;intro hD;refine rP 15 154 7 rfl hD rfl ?_;clear hD;intro hD;refine rP 16 155 6 rfl hD rfl ?_;clear hD;intro hD;refine rP 17 156 5 rfl hD rfl ?_;clear hD;intro hD;refine rP 18 157 4 rfl hD rfl ?_;clear hD;intro hD;refine rT 19 158 3 rfl hD rfl (by intro w' hS';have e0:=(hS'▸c0);have e1:=(hS'▸c1);have e2:=(hS'▸c2);go_simp;with_reducible rfl) ?_;clear hD;intro hD;refine rP 20 159 2 rfl hD rfl ?_;clear hD;intro hD;refine rP 21 160 1 rfl hD rfl ?_;clear hD;intro hD;simp only[Act.put,sqA,sqB,sqC];refine rO 22 0 rfl hD ?_;clear hD;intro K22 hK22;go_wp2;refine hK22 _ _ (by rfl) ?_;clear hK22;intro hS_29_22 hD;refine wpAnyK_done (by kernel_rfl) ?_ 0;clear hD;rw[hor,hqqi,hggi];clear hor hqqi hggi c0 c1 c2 hwd hqql huul hdt hdt0 hdti hdt2 hdt3 hu1 hu2;go_wp2;go_loopw [19,20,162] (fun cv bv iv wr=>∃(cN bN i:Nat) (f':Nat→Nat),iv=.int .i64 i∧cv=.int .i64 cN∧bv=.int .i64 bN∧MsI t.size (y * 2 ^ sh) gg j f f' i cN bN∧LdS w wr w.heap.size V.heap.size U.heap.size t.size (s.size+1) (m+1) (y * 2 ^ sh) (x / y) (j+1) f') (fun _ _ iv _=>t.size - (intOf iv).toNat);case atStart=>exact⟨0,0,0,f,rfl,rfl,rfl,MsI.start f,HSD.out⟩
          case round =>
           obtain⟨cN,bN,i,f',rfl,rfl,rfl,hM1,hS⟩:=hrel;have HM1:=Hq hM1;have HS1:=Hq hS;have hin:=hM1.hi;have hcN:=hM1.hc;have hbN:=hM1.hb;clear hM1 hS;by_cases hlt:i<t.size
           · obtain⟨ip,hip⟩:∃ u,j+i=u:=⟨_,rfl⟩;have hipi:(i:Int)+(j:Int)=(ip:Int):=by omega
             have hipl:ip<s.size+1:=by have:=HP1.out;omega
             have c0:=HS1.out.rR.cell hipl;have c1:=HS1.out.rD.cell hlt;have hf0:=HS1.out.rR.free ip;have hr:=HS1.out.dR ip hipl;have hd:=dig_lt (y * 2 ^ sh) i;have hoff:f' ip=f ip:=HM1.out.off ip (by omega);have HN:=Hq (fun(x b2:Nat) (hb2:b2≤1)=>HM1.out.next (x:=x) (b2:=b2) hlt hggl hb2);rw[hip,←hoff]at HN;obtain⟨r,hre⟩:∃ u,f' ip=u:=⟨_,rfl⟩;obtain⟨d,hde⟩:∃ u,dig (y * 2 ^ sh) i=u:=⟨_,rfl⟩;rw[hre]at c0 hr HN;rw[hde]at c1 hd HN;obtain⟨gd,hgd⟩:∃ u,gg * d=u:=⟨_,rfl⟩;have hgdi:(gg:Int) * (d:Int)=(gd:Int):=by rw[←hgd];simp
             have hgdl:gd≤65025:=by rw[←hgd];exact Nat.mul_le_mul hggl (show d≤255 by omega)
             rw[hgd]at HN;obtain⟨q,hq⟩:∃ u,cN+gd=u:=⟨_,rfl⟩;have hqi:(cN:Int)+(gd:Int)=(q:Int):=by omega
             have hql:q≤65280:=by omega
             rw[hq]at HN;have hand:=and255 q (by omega);obtain⟨q1,hq1⟩:∃ u,q%256=u:=⟨_,rfl⟩;have hq1l:q1<256:=by omega
             rw[hq1]at hand HN;obtain⟨q2,hq2⟩:∃ u,q / 256=u:=⟨_,rfl⟩;have hq2i:(q:Int) / 256=(q2:Int):=by omega
             rw[hq2]at HN;obtain⟨X,hX⟩:∃ X:Int,(r:Int) - (q1:Int) - (bN:Int)=X:=⟨_,rfl⟩;have hXl:-257<X:=by omega
             have hXu:X<256:=by omega
             have HX2:=Hq hX;have HIP:=Hq hip;clear hip hoff hre hde hgd hq hq1 hq2;by_cases hneg:X<0
             · obtain⟨x2,hx2⟩:∃ x2:Nat,X+256=(x2:Int):=⟨(X+256).toNat,by omega⟩;have hx2l:x2<256:=by omega
               have HNN:=Hq (HN.out x2 1 nlr (by have:=HX2.out;omega));have HS2:=Hq (HS1.out.setR (k:=ip) hx2l);clear HN;go_wp2;go_roundw;case rel=>exact⟨q2,1,i+1,upd f' ip x2,by go_num,by go_num,rfl,HNN.out,HS2.out⟩
               case measure=>simp[intOf];omega
             · obtain⟨x2,rfl⟩:∃ x2:Nat,X=(x2:Int):=⟨X.toNat,by omega⟩;have hx2l:x2<256:=by omega
               have HNN:=Hq (HN.out x2 0 (by decide) (by have:=HX2.out;omega));have HS2:=Hq (HS1.out.setR (k:=ip) hx2l);clear HN;go_wp2;go_roundw;case rel=>exact⟨q2,0,i+1,upd f' ip x2,by go_num,by go_num,rfl,HNN.out,HS2.out⟩
               case measure=>simp[intOf];omega
           · obtain rfl:i=t.size:=by omega
             clear hlt hin;have c0:=HS1.out.rR.cell hp1l;have hoff:f' p1=f p1:=HM1.out.off p1 (by have:=HP1.out;omega);have hr:=HS1.out.dR p1 hp1l;have HT0:=Hq (TpI.start HM1.out HYH.out hggl HGG.out HUV.out.symm);rw[HP1.out,←hoff]at HT0;obtain⟨r,hre⟩:∃ u,f' p1=u:=⟨_,rfl⟩;rw[hre]at c0 hr HT0;obtain⟨tp0,htp0⟩:∃ X:Int,(r:Int) - (cN:Int) - (bN:Int)=X:=⟨_,rfl⟩;have htpl:-300<tp0:=by omega
             have htpu:tp0<300:=by omega
             rw[htp0]at HT0;clear hoff hre;go_wp2;clear htp0 c0 htpl htpu hr;go_loopw [18,23] (fun gv tv wr=>∃(g2:Nat) (tp:Int) (f2:Nat→Nat),gv=.int .i64 g2∧tv=.int .i64 tp∧TpI t.size (y * 2 ^ sh) Uv j f f2 g2 tp∧LdS w wr w.heap.size V.heap.size U.heap.size t.size (s.size+1) (m+1) (y * 2 ^ sh) (x / y) (j+1) f2) (fun gv _ _=>(intOf gv).toNat);case atStart=>exact⟨gg,tp0,f',rfl,rfl,HT0.out,HS1.out⟩
             case round =>
              obtain⟨g2,tp,f2,rfl,rfl,hT,hS⟩:=hrel;have HT1:=Hq hT;have HS2:=Hq hS;clear hT hS;have hf2:=fun a (ha:a<t.size)=>HS2.out.dR (j+a) (by have:=HP1.out;omega);have hbd:=HT1.out.bounds hf2 HYH.out HUL.out;obtain⟨htl,htu⟩:=hbd;have hg2:=HT1.out.hg;have HF2:=Hq hf2;clear hf2;by_cases hneg:tp<0
              · have hls:=HT1.out.less HF2.out HD0.out hneg;have hg20:0<g2:=Nat.lt_of_le_of_lt (Nat.zero_le _) hls;obtain⟨g3,rfl⟩:∃ g3,g2=g3+1:=⟨g2 - 1,by omega⟩;clear hg20;have HLS:=Hq hls;clear hls;rw[show ((g3+1:Nat):Int)=(g3:Int)+1 from by omega];go_wp2;go_loopw [24,212] (fun cv iv wr=>∃(cM i:Nat) (f3:Nat→Nat),iv=.int .i64 i∧cv=.int .i64 cM∧AbI t.size (y * 2 ^ sh) j f2 f3 i cM∧LdS w wr w.heap.size V.heap.size U.heap.size t.size (s.size+1) (m+1) (y * 2 ^ sh) (x / y) (j+1) f3) (fun _ iv _=>t.size - (intOf iv).toNat);case atStart=>exact⟨0,0,f2,rfl,rfl,AbI.start f2,HS2.out⟩
                case round =>
                 obtain⟨cM,i,f3,rfl,rfl,hA,hS⟩:=hrel;have HA1:=Hq hA;have hin:=hA.hi;have hcM:=hA.hc;by_cases hlt:i<t.size
                 · obtain⟨ip,hip⟩:∃ u,j+i=u:=⟨_,rfl⟩;have hipi:(i:Int)+(j:Int)=(ip:Int):=by omega
                   have hipl:ip<s.size+1:=by have:=HP1.out;omega
                   have hipw:IntKind.i64.wrap (ip:Int)=(ip:Int):=by rw[IntKind.wrap_i64];omega
                   have hip0:(0:Int)≤(ip:Int):=by omega
                   have hipb:(ip:Int)<(s.size:Int)+1:=by omega
                   have hib:(i:Int)<(t.size:Int):=by omega
                   have hi0:(0:Int)≤(i:Int):=by omega
                   obtain⟨wd2,hwd2⟩:∃ wd2,wr.drew=wd2:=⟨_,rfl⟩;have HS3:=Hq (show LdS w wd2 w.heap.size V.heap.size U.heap.size t.size (s.size+1) (m+1) (y * 2 ^ sh) (x / y) (j+1) f3 from by rw[←hwd2];exact hS.drew);clear hS hA;have c0:=HS3.out.rR.cell hipl;have c1:=HS3.out.rD.cell hlt;have hf0:=HS3.out.rR.free ip;have hr:=HS3.out.dR ip hipl;have hd:=dig_lt (y * 2 ^ sh) i;have hoff:f3 ip=f2 ip:=HA1.out.off ip (by omega);have HN:=Hq (fun(x:Nat) (h1:f2 (j+i)<256)=>HA1.out.next (x:=x) hlt h1);rw[hip,←hoff]at HN;obtain⟨r,hre⟩:∃ u,f3 ip=u:=⟨_,rfl⟩;obtain⟨d,hde⟩:∃ u,dig (y * 2 ^ sh) i=u:=⟨_,rfl⟩;rw[hre]at c0 hr HN;rw[hde]at c1 hd HN;obtain⟨q,hq⟩:∃ u,cM+(r+d)=u:=⟨_,rfl⟩;have hqi:(cM:Int)+((r:Int)+(d:Int))=(q:Int):=by omega
                   have hql:q≤65280:=by omega
                   have hrdw:IntKind.i64.wrap ((r:Int)+(d:Int))=(r:Int)+(d:Int):=by rw[IntKind.wrap_i64];omega
                   have HNN:=Hq (HN.out q hr hq.symm);have hand:=and255 q (by omega);obtain⟨q1,hq1⟩:∃ u,q%256=u:=⟨_,rfl⟩;have hq1l:q1<256:=by omega
                   rw[hq1]at hand HNN;obtain⟨q2,hq2⟩:∃ u,q / 256=u:=⟨_,rfl⟩;have hq2i:(q:Int) / 256=(q2:Int):=by omega
                   rw[hq2]at HNN;have HS4:=Hq (HS3.out.setR (k:=ip) hq1l);clear HN hip hoff hre hde hq hq1 hq2;go_wp2;refine wp_region_K 14 (Eq wd2) (by kernel_rfl) ?_;intro hD;rw[hwd2];refine rP 0 215 13 rfl hD rfl ?_;clear hD;intro hD;refine rP 1 216 12 rfl hD rfl ?_;clear hD;intro hD;refine rP 2 217 11 rfl hD rfl ?_;clear hD;intro hD;refine rP 3 218 10 rfl hD rfl ?_;clear hD;intro hD;refine rP 4 219 9 rfl hD rfl ?_;clear hD;intro hD;refine rP 5 220 8 rfl hD rfl ?_;clear hD;intro hD;refine rT 6 221 7 rfl hD rfl (by intro w' hS';have e0:=(hS'▸c0);have e1:=(hS'▸c1);go_simp;with_reducible rfl) ?_;clear hD;intro hD;refine rP 7 222 6 rfl hD rfl ?_;clear hD;intro hD;refine rP 8 223 5 rfl hD rfl ?_;clear hD;intro hD;refine rP 9 224 4 rfl hD rfl ?_;clear hD;intro hD;refine rT 10 225 3 rfl hD rfl (by intro w' hS';have e0:=(hS'▸c0);have e1:=(hS'▸c1);go_simp;with_reducible rfl) ?_;clear hD;intro hD;refine rP 11 226 2 rfl hD rfl ?_;clear hD;intro hD;refine rP 12 227 1 rfl hD rfl ?_;clear hD;intro hD;simp only[Act.put,sqA,sqB,sqC];refine rO 13 0 rfl hD ?_;clear hD;intro K13 hK13;go_wp2;refine hK13 _ _ (by rfl) ?_;clear hK13;intro hS_50_13 hD;refine wpAnyK_done (by kernel_rfl) ?_ 0;clear hD;try rw[hqi]
                   go_wp2;go_roundw;case rel=>exact⟨q2,i+1,upd f3 ip q1,by go_num,by go_num,HNN.out,HS4.out⟩
                   case measure=>simp[intOf];omega
                 · obtain rfl:i=t.size:=by omega
                   have HS3:=Hq hS;have HTN:=Hq (HT1.out.next HYH.out HLS.out hA);clear hlt hin hS hA;go_wp2;go_roundw;case rel=>exact⟨g3,tp+(cM:Int),f3,rfl,rfl,HTN.out,HS3.out⟩
                   case measure=>simp[intOf]
              · obtain⟨hgE,htE,hWE⟩:=HT1.out.done HF2.out HD0.out HYH.out (show 0≤tp by omega);subst htE;have hf0:=HS2.out.rR.free p1;have c0:=HS2.out.rR.cell hp1l;obtain⟨kq,hkq⟩:∃ kq,kq+1+j=m+1:=⟨m - j,by omega⟩;have hkqi:(m:Int) - (j:Int)=(kq:Int):=by omega
                have hkql:kq<m+1:=by omega
                have HKQ:=Hq hkq;obtain⟨W2,hW2⟩:∃ W2,wr.setCell ⟨V.heap.size,p1,none⟩ (.int .i64 0)=W2:=⟨_,rfl⟩;have HSR:=Hq (show LdS w W2 w.heap.size V.heap.size U.heap.size t.size (s.size+1) (m+1) (y * 2 ^ sh) (x / y) (j+1) (upd f2 p1 0)from by rw[←hW2];exact HS2.out.setR (k:=p1) (v:=0) (by decide));have hfq:=HSR.out.rQ.free kq;obtain⟨uo,huo⟩:=HSR.out.rQ.cell hkql;have hgd:g2=dig (x / y) j:=by rw[hgE,HUD.out]
                have hgm:(g2:Int)%256=(g2:Int):=by omega
                have HGD:=Hq hgd;have HNX:=Hq (ld_next (f:=f) (f':=f2) (A:=x * 2 ^ sh) (D:=y * 2 ^ sh) (n:=t.size) (j:=j) HSS.out.dR (by have:=HP1.out;omega) HD0.out HYH.out HVV.out HT1.out.off (by rw[hWE,HUV.out]));have HSQ:=Hq (HSR.out.setQ (k:=kq) (by have:=HKQ.out;omega));clear hgE hWE hkq hgd;go_wp2;skip;go_roundw;case rel =>
                 refine⟨j,upd f2 p1 0,by omega,by go_num,?_,?_⟩
                 · have:=HNX.out;rw[HP1.out]at this;exact this
                 · have:=HSQ.out;rw[←HGD.out]at this;exact this
                case measure=>simp[intOf]
theorem nat_divided_long(x y:Nat)(hx:x<256 ^ 128)(h:y≤x)(h0:0<y)(h8:8<(nS x).size)(w:World):Calls Tryz.prog 57 #[.string (nS x),.string (nS y)] w (Ret (.tuple #[.string (nS (x / y)),.string (nS (x%y))]) w):=by
 obtain⟨g,h1,h2,h3⟩:=nS_first h0;obtain⟨s,h4,h5,h6⟩:=shift_of h1 h2 (nS y).size g h3;exact nat_divided_core x y (nS x) (nS y) rfl rfl hx h h0 h8 g _ rfl s h4 h5 h6 w
theorem nat_dividedA(x y:Nat)(hx:x<256 ^ 128)(hy:y<256 ^ 128)(h0:0<y)(w:World):Calls Tryz.prog 57 #[.string (nS x),.string (nS y)] w (Ret (.tuple #[.string (nS (x / y)),.string (nS (x%y))]) w):=by
 by_cases h8:x<18446744073709551616
 · exact nat_divided x y h8 hy h0 w
 · rcases Nat.lt_or_ge x y with h | h
   · refine(nat_divided_lt x y hx hy h w).mono ?_;rintro e w1 ⟨rfl,rfl⟩;exact⟨rfl,Below.refl _ _⟩
   · exact nat_divided_long x y hx h h0 (by
      rcases Nat.lt_or_ge 8 (nS x).size with h9 | h9
      · exact h9
      · exact absurd (Nat.lt_of_lt_of_le (nS_size_le.1 h9) (by decide)) h8) w
end Go.Proofs.YtdhnkmbjogmmkaaGreatDoor

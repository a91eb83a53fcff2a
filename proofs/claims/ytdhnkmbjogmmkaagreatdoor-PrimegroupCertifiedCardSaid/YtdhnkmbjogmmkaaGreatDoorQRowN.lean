import Derived.Test.YtdhnkmbjogmmkaaGreatDoorQReg
import Derived.Deep.AppendLies
set_option linter.unusedVariables false
set_option linter.unusedSimpArgs false
namespace Go.Proofs.YtdhnkmbjogmmkaaGreatDoor
set_option maxRecDepth 100000
set_option maxHeartbeats 1000000
open Go.RowKit
theorem cmpI_nonneg{x y:Nat}(h:y≤x):0≤cmpI x y:=by
 unfold cmpI;rw[if_neg (by omega)];split<;>omega
theorem nat_Sub_ge(x y:Nat)(hx:x<256 ^ 128)(hy:y<256 ^ 128)(h:y≤x)(w:World):Calls Tryz.prog 34 #[.string (nS x),.string (nS y)] w (Ret (.tuple #[.string (nS (x - y)),.int .i64 0]) w):=by
 have HG:=Hq (cmpI_nonneg h);have hs1:=nS_size_le.2 hx;have hs2:=nS_size_le.2 hy;have HV1:=Hq (nvalid_nS.2 hx);have HV2:=Hq (nvalid_nS.2 hy);have HO:=Hq (ordB_nS x y);obtain⟨s,hs⟩:∃ s,nS x=s:=⟨_,rfl⟩;obtain⟨t,ht⟩:∃ t,nS y=t:=⟨_,rfl⟩;rw[hs]at hs1 HV1 HO⊢;rw[ht]at hs2 HV2 HO⊢;have HS:=Hq hs;have HT:=Hq ht;have HX:=Hq hx;have HY:=Hq hy;clear hs ht hx hy;go_enter Tryz.func34,Tryz.ntmps34;go_wp2_with fail;refine(nat_Valid s (by omega) _).mono ?_;rintro e w1 ⟨rfl,rfl⟩;rw[HV1.out];go_wp2_with fail;refine(nat_Valid t (by omega) _).mono ?_;rintro e w1 ⟨rfl,rfl⟩;rw[HV2.out];go_wp2_with fail;refine(nat_compare s t (by omega) (by omega) _).mono ?_;rintro e w1 ⟨rfl,rfl⟩;rw[HO.out];have hg:=HG.out;obtain⟨c,hc⟩:∃ c,cmpI x y=c:=⟨_,rfl⟩;rw[hc]at hg⊢;clear hc HG;go_wp2_with fail;rw[←HS.out,←HT.out];refine(nat_less x y (by rw[HS.out];omega) h _).mono ?_;rintro e w1 ⟨rfl,hb⟩;have HB:=Hq hb;clear hb;go_wp2;go_ret2;exact⟨rfl,HB.out⟩
theorem r01_Sub_ge(x y:Nat)(hx:x<256 ^ 128)(hy:y<256 ^ 128)(h:y≤x)(w:World):Calls Tryz.prog 62 #[.string (nS x),.string (nS y)] w (Ret (.tuple #[.string (nS (x - y)),.int .i64 0]) w):=by
 have HG:=Hq (cmpI_nonneg h);have hs1:=nS_size_le.2 hx;have hs2:=nS_size_le.2 hy;have HV1:=Hq (nvalid_nS.2 hx);have HV2:=Hq (nvalid_nS.2 hy);have HO:=Hq (ordB_nS x y);obtain⟨s,hs⟩:∃ s,nS x=s:=⟨_,rfl⟩;obtain⟨t,ht⟩:∃ t,nS y=t:=⟨_,rfl⟩;rw[hs]at hs1 HV1 HO⊢;rw[ht]at hs2 HV2 HO⊢;have HS:=Hq hs;have HT:=Hq ht;have HX:=Hq hx;have HY:=Hq hy;clear hs ht hx hy;go_enter Tryz.func62,Tryz.ntmps62;go_wp2_with fail;refine(r01_Valid s (by omega) _).mono ?_;rintro e w1 ⟨rfl,rfl⟩;rw[HV1.out];go_wp2_with fail;refine(r01_Valid t (by omega) _).mono ?_;rintro e w1 ⟨rfl,rfl⟩;rw[HV2.out];go_wp2_with fail;refine(r01_Order s t (by omega) (by omega) _).mono ?_;rintro e w1 ⟨rfl,hb1⟩;have HB1:=Hq hb1;clear hb1;rw[HO.out];have hg:=HG.out;obtain⟨c,hc⟩:∃ c,cmpI x y=c:=⟨_,rfl⟩;rw[hc]at hg⊢;clear hc HG;go_wp2_with fail;rw[←HS.out,←HT.out];refine(r01_Minus x y (by rw[HS.out];omega) h _).mono ?_;rintro e w2 ⟨rfl,hb⟩;have HB:=Hq (HB1.out.trans (hb.mono HB1.out.size));clear hb;go_wp2;go_ret2;exact⟨rfl,HB.out⟩
/-! Division at numbers below 2^64. -/
theorem nat_divided_lt(x y:Nat)(hx:x<256 ^ 128)(hy:y<256 ^ 128)(h:x<y)(w:World):Calls Tryz.prog 57 #[.string (nS x),.string (nS y)] w (RetQ (.tuple #[.string (nS (x / y)),.string (nS (x%y))]) w):=by
 rw[Nat.div_eq_of_lt h,Nat.mod_eq_of_lt h,nS_zero];have hs1:=nS_size_le.2 hx;have hs2:=nS_size_le.2 hy;have HV1:=Hq (nvalid_nS.2 hx);have HV2:=Hq (nvalid_nS.2 hy);have HO:=Hq (ordB_nS x y);obtain⟨s,hs⟩:∃ s,nS x=s:=⟨_,rfl⟩;obtain⟨t,ht⟩:∃ t,nS y=t:=⟨_,rfl⟩;rw[hs]at hs1 HV1 HO⊢;rw[ht]at hs2 HV2 HO⊢;have HS:=Hq hs;have HT:=Hq ht;have HX:=Hq hx;have HY:=Hq hy;clear hs ht hx hy;go_enter Tryz.func57,Tryz.ntmps57;go_wp2_with fail;refine(nat_compare s t (by omega) (by omega) _).mono ?_;rintro e w1 ⟨rfl,rfl⟩;rw[HO.out,cmpI_lt h];go_wp2;go_ret2;exact⟨rfl,rfl⟩
theorem nat_divided_ge(x y:Nat)(hx8:x<18446744073709551616)(h:y≤x)(h0:0<y)(w:World):Calls Tryz.prog 57 #[.string (nS x),.string (nS y)] w (Ret (.tuple #[.string (nS (x / y)),.string (nS (x%y))]) w):=by
 have hy8:y<18446744073709551616:=by omega
 have HX8:=Hq hx8;have HY8:=Hq hy8;have hz1:=nS_small_size hx8;have hz2:=nS_small_size hy8;have hq8:x / y<18446744073709551616:=Nat.lt_of_le_of_lt (Nat.div_le_self x y) hx8;have hr8:x%y<18446744073709551616:=Nat.lt_trans (Nat.mod_lt x h0) hy8;have HQ8:=Hq hq8;have HR8:=Hq hr8;have HG:=Hq (cmpI_nonneg h);have HO:=Hq (ordB_nS x y);have HN1:=Hq (nat_Small_n x hx8);have HN2:=Hq (nat_Small_n y hy8);obtain⟨s,hs⟩:∃ s,nS x=s:=⟨_,rfl⟩;obtain⟨t,ht⟩:∃ t,nS y=t:=⟨_,rfl⟩;rw[hs]at hz1 HO HN1⊢;rw[ht]at hz2 HO HN2⊢;clear hs ht hq8 hr8 hx8 hy8;have hy1:((y:Int)==0)=false:=beq_eq_false_iff_ne.2 (by omega);have hy2:(0:Int)<(y:Int):=by omega
 have hy3:¬ (y=0):=by omega
 have hwq:IntKind.u64.wrap ((x:Int) / (y:Int))=(x:Int) / (y:Int):=u64_wrap (x / y) HQ8.out;have hwr:IntKind.u64.wrap ((x:Int)%(y:Int))=(x:Int)%(y:Int):=u64_wrap (x%y) HR8.out;have hsz:¬ (8<(s.size:Int)):=by omega
 go_enter Tryz.func57,Tryz.ntmps57;go_wp2_with fail;refine(nat_compare s t (by omega) (by omega) _).mono ?_;rintro e w1 ⟨rfl,rfl⟩;rw[HO.out];have hg:=HG.out;obtain⟨c,hc⟩:∃ c,cmpI x y=c:=⟨_,rfl⟩;rw[hc]at hg⊢;clear hc HG;go_wp2_with fail;refine(HN1.out _).mono ?_;rintro e w1 ⟨rfl,rfl⟩;go_wp2_with fail;refine(HN2.out _).mono ?_;rintro e w1 ⟨rfl,rfl⟩;go_wp2;refine wp_region_K 10 (Below (w.drew).heap.size (w.drew)) (by kernel_rfl) ?_;intro hD;refine qP 0 9 rfl hD blr ?_;clear hD;intro hD;refine qP 1 8 rfl hD blr ?_;clear hD;intro hD;refine qP 2 7 rfl hD blr ?_;clear hD;intro hD;refine qP 4 6 rfl hD blr ?_;clear hD;intro hD;refine qP 5 5 rfl hD blr ?_;clear hD;intro hD;refine qP 6 4 rfl hD blr ?_;clear hD;intro hD;simp only[Act.put,sqA,sqB,sqC];refine wpAnyK_one (i:=3) (fuel:=3) (by kernel_rfl) rfl hD ?_;clear hD;intro K3 hK3;go_wp2_with fail;refine(nat_Of (x / y) HQ8.out _).mono ?_;rintro e w3 ⟨rfl,hb3⟩;have HB3:=Hq hb3;clear hb3;go_wp2;refine hK3 _ _ (by exact HB3.out) ?_;clear hK3;intro hS_6_3 hD;refine wpAnyK_one (i:=7) (fuel:=2) (by kernel_rfl) rfl hD ?_;clear hD;intro K7 hK7;go_wp2_with fail;refine(nat_Of (x%y) HR8.out _).mono ?_;rintro e w7 ⟨rfl,hb7⟩;have HB7:=Hq hb7;clear hb7;go_wp2;refine hK7 _ _ (by exact Below.trans hS_6_3 (Below.mono HB7.out (Below.size hS_6_3))) ?_;clear hK7;intro hS_6_7 hD;refine wpAnyK_one (i:=8) (fuel:=1) (by kernel_rfl) rfl hD ?_;clear hD;intro K8 hK8;go_wp2;refine hK8 _ _ (by exact hS_6_7) ?_;clear hK8;intro hS_6_8 hD;refine wpAnyK_one (i:=9) (fuel:=0) (by kernel_rfl) rfl hD ?_;clear hD;intro K9 hK9;go_wp2;refine hK9 _ _ (by exact hS_6_8) ?_;clear hK9;intro hS_6_9 hD;refine wpAnyK_done (by kernel_rfl) ?_ 0;clear hD;have HX:=Hq hS_6_9;go_wp2;go_ret2;exact⟨rfl,(blr).drew.trans HX.out⟩
theorem nat_divided(x y:Nat)(hx:x<18446744073709551616)(hy:y<256 ^ 128)(h0:0<y)(w:World):Calls Tryz.prog 57 #[.string (nS x),.string (nS y)] w (Ret (.tuple #[.string (nS (x / y)),.string (nS (x%y))]) w):=by
 rcases Nat.lt_or_ge x y with h | h
 · exact(nat_divided_lt x y (lt128_of_lt8 hx) hy h w).mono fun e w' ⟨h1,h2⟩=>⟨h1,by rw[←h2];exact Below.refl _ _⟩
 · exact nat_divided_ge x y hx h h0 w
theorem empty_nS{n:Nat}(h:0<n):(nS n).toList.isEmpty=false:=sempty_false (by have:=nS_size_zero (n:=n);omega)
theorem nat_DivMod(x y:Nat)(hx8:x<18446744073709551616)(hy:y<256 ^ 128)(h0:0<y)(w:World):Calls Tryz.prog 35 #[.string (nS x),.string (nS y)] w (Ret (.tuple #[.string (nS (x / y)),.string (nS (x%y)),.int .i64 0]) w):=by
 have hx:=lt128_of_lt8 hx8;have HD:=Hq (nat_divided x y hx8 hy h0);have hem:=empty_nS h0;have hs1:=nS_size_le.2 hx;have hs2:=nS_size_le.2 hy;have HV1:=Hq (nvalid_nS.2 hx);have HV2:=Hq (nvalid_nS.2 hy);obtain⟨s,hs⟩:∃ s,nS x=s:=⟨_,rfl⟩;obtain⟨t,ht⟩:∃ t,nS y=t:=⟨_,rfl⟩;rw[hs]at hs1 HV1 HD⊢;rw[ht]at hs2 HV2 hem HD⊢;clear hs ht hx hy hx8;go_enter Tryz.func35,Tryz.ntmps35;go_wp2_with fail;refine(nat_Valid s (by omega) _).mono ?_;rintro e w1 ⟨rfl,rfl⟩;rw[HV1.out];go_wp2_with fail;refine(nat_Valid t (by omega) _).mono ?_;rintro e w1 ⟨rfl,rfl⟩;rw[HV2.out];go_wp2_with fail;refine(HD.out _).mono ?_;rintro e w1 ⟨rfl,hb⟩;have HB:=Hq hb;clear hb;go_wp2;go_ret3;exact⟨rfl,HB.out⟩
/-! The reference: numbers of any length, bit by bit; those below 2^64 at once. -/
theorem r01_Over_small(x y:Nat)(hx8:x<18446744073709551616)(hy8:y<18446744073709551616)(h0:0<y)(w:World):Calls Tryz.prog 39 #[.string (nS x),.string (nS y)] w (Ret (.tuple #[.string (nS (x / y)),.string (nS (x%y))]) w):=by
 have HX8:=Hq hx8;have HY8:=Hq hy8;have hz1:=nS_small_size hx8;have hz2:=nS_small_size hy8;have hq8:x / y<18446744073709551616:=Nat.lt_of_le_of_lt (Nat.div_le_self x y) hx8;have hr8:x%y<18446744073709551616:=Nat.lt_trans (Nat.mod_lt x h0) hy8;have HQ8:=Hq hq8;have HR8:=Hq hr8;have HN1:=Hq (r01_U64_n x hx8);have HN2:=Hq (r01_U64_n y hy8);obtain⟨s,hs⟩:∃ s,nS x=s:=⟨_,rfl⟩;obtain⟨t,ht⟩:∃ t,nS y=t:=⟨_,rfl⟩;rw[hs]at hz1 HN1⊢;rw[ht]at hz2 HN2⊢;clear hs ht hq8 hr8 hx8 hy8;have hy1:((y:Int)==0)=false:=beq_eq_false_iff_ne.2 (by omega);have hy2:(0:Int)<(y:Int):=by omega
 have hy3:¬ (y=0):=by omega
 have hwq:IntKind.u64.wrap ((x:Int) / (y:Int))=(x:Int) / (y:Int):=u64_wrap (x / y) HQ8.out;have hwr:IntKind.u64.wrap ((x:Int)%(y:Int))=(x:Int)%(y:Int):=u64_wrap (x%y) HR8.out;have hsz1:(s.size:Int)≤8:=by omega
 have hsz2:(t.size:Int)≤8:=by omega
 go_enter Tryz.func39,Tryz.ntmps39;go_wp2_with fail;refine(HN1.out _).mono ?_;rintro e w1 ⟨rfl,rfl⟩;go_wp2_with fail;refine(HN2.out _).mono ?_;rintro e w1 ⟨rfl,rfl⟩;go_wp2;refine wp_region_K 10 (Below (w.drew).heap.size (w.drew)) (by kernel_rfl) ?_;intro hD;refine qP 0 9 rfl hD blr ?_;clear hD;intro hD;refine qP 1 8 rfl hD blr ?_;clear hD;intro hD;refine qP 2 7 rfl hD blr ?_;clear hD;intro hD;refine qP 4 6 rfl hD blr ?_;clear hD;intro hD;refine qP 5 5 rfl hD blr ?_;clear hD;intro hD;refine qP 6 4 rfl hD blr ?_;clear hD;intro hD;simp only[Act.put,sqA,sqB,sqC];refine wpAnyK_one (i:=3) (fuel:=3) (by kernel_rfl) rfl hD ?_;clear hD;intro K3 hK3;go_wp2_with fail;refine(r01_Of (x / y) HQ8.out _).mono ?_;rintro e w3 ⟨rfl,hb3⟩;have HB3:=Hq hb3;clear hb3;go_wp2;refine hK3 _ _ (by exact HB3.out) ?_;clear hK3;intro hS_3_3 hD;refine wpAnyK_one (i:=7) (fuel:=2) (by kernel_rfl) rfl hD ?_;clear hD;intro K7 hK7;go_wp2_with fail;refine(r01_Of (x%y) HR8.out _).mono ?_;rintro e w7 ⟨rfl,hb7⟩;have HB7:=Hq hb7;clear hb7;go_wp2;refine hK7 _ _ (by exact Below.trans hS_3_3 (Below.mono HB7.out (Below.size hS_3_3))) ?_;clear hK7;intro hS_3_7 hD;refine wpAnyK_one (i:=8) (fuel:=1) (by kernel_rfl) rfl hD ?_;clear hD;intro K8 hK8;go_wp2;refine hK8 _ _ (by exact hS_3_7) ?_;clear hK8;intro hS_3_8 hD;refine wpAnyK_one (i:=9) (fuel:=0) (by kernel_rfl) rfl hD ?_;clear hD;intro K9 hK9;go_wp2;refine hK9 _ _ (by exact hS_3_8) ?_;clear hK9;intro hS_3_9 hD;refine wpAnyK_done (by kernel_rfl) ?_ 0;clear hD;have HX:=Hq hS_3_9;go_wp2;go_ret2;exact⟨rfl,(blr).drew.trans HX.out⟩
structure Est (B u u1 y1 y0 q r:Nat):Prop where
 eq:q * y1+r=u
 ge:(u * B+u1) / (y1 * B+y0)≤q
 le:q≤B+1
theorem est_test{B u u1 y1 y0 q r:Nat}(h:q * y1+r=u):q * y0≤B * r+u1↔q * (y1 * B+y0)≤u * B+u1:=by
 subst h;have e1:q * (y1 * B+y0)=q * y1 * B+q * y0:=by rw[Nat.mul_add,Nat.mul_assoc]
 have e2:(q * y1+r) * B=q * y1 * B+B * r:=by rw[Nat.add_mul,Nat.mul_comm B r]
 rw[e1,e2];omega
theorem est_true{B u u1 y1 y0 q:Nat}(hy:0<y1 * B+y0):q * (y1 * B+y0)≤u * B+u1↔q≤(u * B+u1) / (y1 * B+y0):=(Nat.le_div_iff_mul_le hy).symm
theorem est_digit{B u u1 y1 y0:Nat}(h1:u1<B)(hu:u<y1 * B+y0):(u * B+u1) / (y1 * B+y0)<B:=by
 rw[Nat.div_lt_iff_lt_mul (by omega)];have:=Nat.mul_le_mul_right B (show u+1≤y1 * B+y0 from hu);rw[Nat.succ_mul]at this;rw[Nat.mul_comm B];omega
theorem est_start{B u u1 y1 y0:Nat}(h1:u1<B)(hy1:B≤2 * y1)(hy0:y0<B)(hu:u<y1 * B+y0):Est B u u1 y1 y0 (u / y1) (u%y1):=by
 have hB:0<B:=by omega
 have hp:0<y1:=by omega
 refine⟨by rw[Nat.mul_comm];exact Nat.div_add_mod u y1,?_,?_⟩
 · rw[Nat.le_div_iff_mul_le hp];have h2:=Nat.div_mul_le_self (u * B+u1) (y1 * B+y0);generalize (u * B+u1) / (y1 * B+y0)=d at *;have e1:d * (y1 * B+y0)=d * y1 * B+d * y0:=by rw[Nat.mul_add,Nat.mul_assoc]
   rw[e1]at h2;rcases Nat.lt_or_ge u (d * y1)with h3 | h3
   · have h4:=Nat.mul_le_mul_right B (show u+1≤d * y1 from h3);rw[Nat.succ_mul]at h4;omega
   · exact h3
 · have : u / y1<B+2:=by
    rw[Nat.div_lt_iff_lt_mul hp];have e1:(B+2) * y1=y1 * B+2 * y1:=by rw[Nat.add_mul,Nat.mul_comm B]
    omega
   omega
theorem est_less{B u u1 y1 y0 q r:Nat}(h:Est B u u1 y1 y0 q r)(h1:u1<B)(hu:u<y1 * B+y0)(ht:B≤q∨B * r+u1<q * y0):1≤q∧Est B u u1 y1 y0 (q - 1) (r+y1):=by
 have hd:=est_digit h1 hu;have hlt:(u * B+u1) / (y1 * B+y0)<q:=by
  rcases ht with ht | ht
  · omega
  · rcases Nat.lt_or_ge ((u * B+u1) / (y1 * B+y0)) q with h' | h'
    · exact h'
    · have:=(est_test (B:=B) (u1:=u1) (y0:=y0) h.eq).2 ((est_true (by omega)).2 h');omega
 have h2:=h.eq;have h5:=h.le;have hge:(u * B+u1) / (y1 * B+y0)≤q - 1:=(by generalize (u * B+u1) / (y1 * B+y0)=d at *;omega);have hq1:1≤q:=Nat.lt_of_le_of_lt (Nat.zero_le _) hlt;refine⟨hq1,⟨?_,hge,by omega⟩⟩;obtain⟨k,rfl⟩:∃ k,q=k+1:=⟨q - 1,by omega⟩;rw[Nat.add_sub_cancel];rw[Nat.succ_mul]at h2;omega
theorem est_done{B u u1 y1 y0 q r:Nat}(h:Est B u u1 y1 y0 q r)(hy:0<y1 * B+y0)(ht:q * y0≤B * r+u1):q=(u * B+u1) / (y1 * B+y0):=
 Nat.le_antisymm ((est_true hy).1 ((est_test h.eq).1 ht)) h.ge
theorem est_break{B u u1 y1 y0 q r:Nat}(h:Est B u u1 y1 y0 q r)(hy:0<y1 * B+y0)(hy0:y0<B)(hr:B≤r)(hq:q≤B):q=(u * B+u1) / (y1 * B+y0):=by
 refine est_done h hy ?_;have h1:q * y0≤B * y0:=Nat.mul_le_mul_right _ hq;have h3:B * y0≤B * B:=Nat.mul_le_mul_left _ (by omega);have h2:B * B≤B * r:=Nat.mul_le_mul_left _ hr;omega
theorem two_digits(B N1 n1 n0 Y:Nat):((N1 * B+n1)%Y * B+n0)%Y=((N1 * B+n1) * B+n0)%Y:=by
 rw[Nat.add_mod,Nat.mod_mul_mod,←Nat.add_mod]
theorem scaled_rem(N y s:Nat):(N * 2 ^ s)%(y * 2 ^ s) / 2 ^ s=N%y:=by
 rw[Nat.mul_mod_mul_right,Nat.mul_div_cancel _ (Nat.pow_pos (by omega))]
theorem addr_add(b o j:Nat):(⟨b,o,none⟩:Addr).add j=⟨b,o+j,none⟩:=by unfold Addr.add;split<;>simp_all
def SlN(w:World)(A:Option Addr)(len cap:Nat)(l:List ByteArray):Prop:=
 l.length=len∧len≤cap∧cap≤9223372036854775807∧∃ b o,(0<len→A=some ⟨b,o,none⟩)∧∀ k s,l[k]? =some s→w.cell? ⟨b,o+k,none⟩=some (.string s)
theorem SlN.kept{B:Nat}{w w':World}(hb:Below B w w')(hB:w.heap.size≤B){A:Option Addr}{len cap:Nat}{l:List ByteArray}(h:SlN w A len cap l):SlN w' A len cap l:=
 let ⟨h1,h2,h3,b,o,h4,h5⟩:=h
 ⟨h1,h2,h3,b,o,h4,fun k e hk=>cell_kept hb hB (h5 k e hk)⟩
theorem SlN.head{w:World}{A:Option Addr}{len cap:Nat}{l:List ByteArray}(h:SlN w A len cap l)(h0:0<len):∃ b o,A=some ⟨b,o,none⟩:=
 let ⟨_,_,_,b,o,h4,_⟩:=h
 ⟨b,o,h4 h0⟩
theorem SlN.get?{w:World}{b o len cap:Nat}{l:List ByteArray}(h:SlN w (some ⟨b,o,none⟩) len cap l)(k:Nat){s:ByteArray}(hk:l[k]? =some s):w.cell? ⟨b,o+k,none⟩=some (.string s):=by
 obtain⟨h1,h2,h3,b',o',h4,h5⟩:=h;have hl:=(List.getElem?_eq_some_iff.1 hk).1;have:=h4 (by omega);simp only[Option.some.injEq,Addr.mk.injEq,and_true]at this;obtain⟨rfl,rfl⟩:=this;exact h5 k s hk
theorem SlN.cells{w:World}{ad:Addr}{len cap:Nat}{l:List ByteArray}(h:SlN w (some ad) len cap l):∀ j u,(l.map Value.string)[j]? =some u→w.cell? (ad.add j)=some u:=by
 intro j u hj;rw[List.getElem?_map,Option.map_eq_some_iff]at hj;obtain⟨s,hs,rfl⟩:=hj;have hlt:=(List.getElem?_eq_some_iff.1 hs).1;obtain⟨b,o,e⟩:=h.head (by have:=h.1;omega);cases e;rw[addr_add];exact h.get? j hs
theorem SlN.of_owns{w:World}{base:Nat}{T:TypeId}{v:Value}{n:Nat}{l:List ByteArray}(h:w.ownsRow base T 1 v n (l.map Value.string)):l.length=n∧∃ A cap,v=.slice A n cap∧SlN w A n cap l:=by
 have hl:=h.1;rw[List.length_map]at hl;have hln:l.length=n:=by omega
 refine⟨hln,?_⟩;rcases h.2 with⟨hv,h0⟩ | ⟨g,cap,cur,hv,hb,hh,hc,hm,hs,ht⟩
 · subst h0;have : l=[]:=List.length_eq_zero_iff.1 hln;subst this;exact⟨none,0,hv,rfl,Nat.le_refl _,by omega,0,0,fun h=>by omega,fun k e h=>by simp at h⟩
 · refine⟨_,cap,hv,hln,hc,by unfold maxLen at hm;exact hm,g,0,fun _=>rfl,fun k s hk=>?_⟩;have hcell:=h.cells (g:=g) (by rw[hv];rfl) k (.string s) (by rw[List.getElem?_map,hk];rfl);rw[addr_add]at hcell;exact hcell
theorem SlN.nil(w:World)(cap:Nat)(h:cap≤9223372036854775807)(A:Option Addr):SlN w A 0 cap []:=⟨rfl,Nat.zero_le _,h,0,0,fun h=>by omega,fun k e h=>by simp at h⟩
theorem strs_one(l:List ByteArray):∀ u∈l.map Value.string,u.oneCell'=true:=by
 intro u h;obtain⟨s,_,rfl⟩:=List.mem_map.1 h;rfl
theorem nat_info:(Tryz.prog.info? 22).map (fun i=>(i.zero,i.size,i.bytes))=some (some (.string ⟨#[]⟩),1,16):=by kernel_rfl
theorem below_dN{B:Nat}{w0 w:World}(h:Below B w0 w)(q:Nat):Below B w0 (w.drewN q):=h.trans ⟨rfl,rfl,rfl,Nat.le_refl _,fun _ _=>rfl⟩
theorem sln_alloc(w:World)(l:List ByteArray)(T:TypeId)(h:l.length≤9223372036854775807:=by decide):SlN (w.alloc (.cells (l.map Value.string).toArray T)) (some ⟨w.heap.size,0,none⟩) l.length l.length l:=by
 refine⟨rfl,Nat.le_refl _,h,w.heap.size,0,fun _=>rfl,fun k s hk=>?_⟩;rw[World.cell?_alloc_at (hn:=rfl),Nat.zero_add];simp[hk]
theorem own_alloc(w:World)(l:List ByteArray)(T:TypeId)(B:Nat)(hB:B≤w.heap.size)(h:l.length≤maxLen):(w.alloc (.cells (l.map Value.string).toArray T)).ownsRow B T 1 (.slice (some ⟨w.heap.size,0,none⟩) l.length l.length) l.length (l.map Value.string):=
 ⟨by simp,.inr ⟨w.heap.size,l.length,_,rfl,hB,heap_alloc_new w _,Nat.le_refl _,h,by simp,by rw[Nat.mul_one];exact List.take_of_length_le (by simp)⟩⟩
def RetB(B:Nat)(v:Value)(w:World)(e:Ending)(w':World):Prop:=e=.returned v∧Below B w w'
end Go.Proofs.YtdhnkmbjogmmkaaGreatDoor

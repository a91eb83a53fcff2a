import Derived.Test.YtdhnkmbjogmmkaaGreatDoorQExL
set_option linter.unusedVariables false
set_option linter.unusedSimpArgs false
namespace Go.Proofs.YtdhnkmbjogmmkaaGreatDoor
theorem pw_one_of{a q m:Nat}(h:a ^ q%m=1)(c:Nat):a ^ (q * c)%m=1:=by
 rw[Nat.pow_mul,Nat.pow_mod,h,Nat.one_pow];rw[←h,Nat.mod_mod]
theorem pw_red{a q m:Nat}(h:a ^ q%m=1)(n:Nat):a ^ n%m=a ^ (n%q)%m:=by
 have e:a ^ n=a ^ (q * (n / q)) * a ^ (n%q):=by rw[←Nat.pow_add,Nat.div_add_mod]
 rw[e,Nat.mul_mod,pw_one_of h,Nat.one_mul,Nat.mod_mod]
theorem pw_inv{a q m x n k:Nat}(h:a ^ q%m=1)(hx:a * x%m=1)(hk:(k+n)%q=0):x ^ n%m=a ^ k%m:=by
 have e1:a ^ (k+n)%m=1:=(by rw[pw_red h,hk,Nat.pow_zero];rw[←h,Nat.mod_mod]);have e2:x ^ n%m=x ^ n * a ^ (k+n)%m:=(by rw[Nat.mul_mod,e1,Nat.mul_one,Nat.mod_mod]);have e3:x ^ n * a ^ (k+n)=(a * x) ^ n * a ^ k:=(by rw[Nat.mul_pow,Nat.pow_add];rw[Nat.mul_comm (a ^ k),←Nat.mul_assoc,Nat.mul_comm (x ^ n)]);have e4:(a * x) ^ n%m=1:=(by rw[Nat.pow_mod,hx,Nat.one_pow];rw[←h,Nat.mod_mod]);rw[e2,e3,Nat.mul_mod,e4,Nat.one_mul,Nat.mod_mod]
theorem gcd_of_pw{a q m:Nat}(h:a ^ q%m=1)(hq:0<q):Nat.gcd a m=1:=by
 have h1:Nat.gcd a m ∣ a ^ q:=(by obtain⟨r,rfl⟩:∃ r,q=r+1:=⟨q - 1,by omega⟩;rw[Nat.pow_succ];exact Nat.dvd_trans (Nat.gcd_dvd_left a m) (Nat.dvd_mul_left _ _));have h2:Nat.gcd a m ∣ m * (a ^ q / m):=Nat.dvd_trans (Nat.gcd_dvd_right a m) (Nat.dvd_mul_right _ _);have h3:=Nat.div_add_mod (a ^ q) m;rw[h]at h3;rw[←h3]at h1;exact Nat.dvd_one.1 ((Nat.dvd_add_right h2).1 h1)
theorem inv_of_bez{a m:Nat}{x y:Int}(hx:0≤x)(h:(a:Int) * x+m * y=1)(hm:1<m):a * x.natAbs%m=1:=by
 have e:((a * x.natAbs:Nat):Int)=1+m * (-y):=(by rw[Int.natCast_mul,Int.natAbs_of_nonneg hx,Int.mul_neg];omega);have e2:((a * x.natAbs%m:Nat):Int)=1:=(by rw[Int.natCast_emod,e,Int.add_mul_emod_self_left];exact Int.emod_eq_of_lt (by omega) (by omega));omega
theorem inv_red{a m x:Nat}(h:a * x%m=1):a * (x%m)%m=1:=by rw[Nat.mul_mod,Nat.mod_mod,←Nat.mul_mod,h]
theorem emod_nat{e:Int}{q:Nat}(hq:0<q)(he:e<0):((e%q).toNat+e.natAbs)%q=0:=by
 have h1:0≤e%(q:Int):=Int.emod_nonneg _ (by omega);have h2:(((e%q).toNat+e.natAbs:Nat):Int)=e%q - e:=by omega
 have h3:((((e%q).toNat+e.natAbs)%q:Nat):Int)=0:=by
  rw[Int.natCast_emod,h2];have:=Int.emod_add_mul_ediv e q;have h4:e%q - e=q * (-(e / q)):=by rw[Int.mul_neg];omega
  rw[h4,Int.mul_emod_right]
 omega
theorem emod_pos{e:Int}{q:Nat}(he:0≤e):(e%q).toNat=e.natAbs%q:=by
 have : e=(e.natAbs:Int):=by omega
 conv=>lhs;rw[this]
 omega
theorem ext_y_bound{a b r0:Nat}{x0 y0:Int}(he:(a:Int) * x0+b * y0=r0)(hx:x0.natAbs * r0≤b)(hr:0<r0)(hrb:r0≤b)(hab:a<b):y0.natAbs≤b:=by
 have hxb:x0.natAbs≤b:=Nat.le_trans (Nat.le_mul_of_pos_right _ hr) hx;have h1:(b * y0.natAbs:Nat)≤r0+a * x0.natAbs:=by
  have e:(b:Int) * y0=r0 - a * x0:=by omega
  have e2:((b:Int) * y0).natAbs=b * y0.natAbs:=by rw[Int.natAbs_mul,Int.natAbs_natCast]
  have e3:((a:Int) * x0).natAbs=a * x0.natAbs:=by rw[Int.natAbs_mul,Int.natAbs_natCast]
  omega
 have h2:a * x0.natAbs≤(b - 1) * b:=Nat.mul_le_mul (by omega) hxb;have h3:(b - 1) * b+b=b * b:=(by obtain⟨c,rfl⟩:∃ c,b=c+1:=⟨b - 1,by omega⟩;rw[Nat.add_sub_cancel,Nat.add_mul c 1 (c+1),Nat.one_mul]);have h4:b * y0.natAbs≤b * b:=by omega
 exact Nat.le_of_mul_le_mul_left h4 (by omega)
set_option maxRecDepth 100000
set_option maxHeartbeats 4000000
open Go.RowKit
def RetE(a b:Nat)(w:World)(e:Ending)(w':World):Prop:=∃ x y:Int,e=.returned (.tuple #[.string (nS (Nat.gcd a b)),intV x,intV y,.int .i64 0])∧Below w.heap.size w w'∧0≤x∧x.natAbs<18446744073709551616∧(a:Int) * x+b * y=Nat.gcd a b
def EIB(W:World)(B:Nat)(x y:Int):Prop:=Bx4 W B (.bool (decide (x<0))) (.string (nS x.natAbs)) (.bool (decide (y<0))) (.string (nS y.natAbs)) 135
def msr(W:World)(B:Nat):Nat:=match W.cell? ⟨B,1,none⟩with
 | some (.string s)=>num s
 | _=>0
theorem msr_bx{W:World}{B n:Nat}{x:Value}{T:TypeId}(h:Bx2 W B x (.string (nS n)) T):msr W B=n:=by
 unfold msr;rw[h.c1];exact num_nS n
def Off2(B:Nat)(W W':World):Prop:=∀ k,k≠B→k≠B+1→W'.heap[k]? =W.heap[k]?
theorem Off2.refl(B:Nat)(W:World):Off2 B W W:=fun _ _ _=>rfl
theorem Off2.cell{B:Nat}{W W':World}(h:Off2 B W W'){p:Addr}{v:Value}(h1:p.block≠B)(h2:p.block≠B+1)(hc:W.cell? p=some v):W'.cell? p=some v:=(World.cell?_of_block (h _ h1 h2)).trans hc
theorem Off2.set{B:Nat}{W W':World}(h:Off2 B W W'){C k:Nat}(hC:C=B∨C=B+1)(v:Value):Off2 B W (W'.setCell ⟨C,k,none⟩ v):=fun j h1 h2=>(heap_setCell_other _ _ _ _ (by rcases hC with e | e<;>(simp only;omega))).trans (h j h1 h2)
theorem Bx4.set2{W:World}{B:Nat}{x y z u a b:Value}{T:TypeId}(h:Bx4 W B x y z u T):Bx4 ((W.setCell ⟨B,0,none⟩ a).setCell ⟨B,1,none⟩ b) B a b z u T:=block_setCell (block_setCell h a) b
theorem ext_y_small{a b r0:Nat}{x0 x1 y0 y1:Int}(h:EInv a b r0 0 x0 x1 y0 y1)(hab:a<b):y0.natAbs≤b:=by
 obtain⟨h1,h2,h3,h4⟩:=h.last (by omega);exact ext_y_bound h4 h.lx h2 (by rw[h1];exact Nat.le_of_dvd (by omega) (Nat.gcd_dvd_right a b)) hab
theorem ext_shift{a b g:Nat}{x y:Int}(hg:g=Nat.gcd a b)(h0:0<g)(hx:x.natAbs≤b / g)(hn:x<0)(h:(a:Int) * x+b * y=g) :
 0≤x+(b / g:Nat)∧(x+(b / g:Nat)).natAbs≤b∧(a:Int) * (x+(b / g:Nat))+b * (y - (a / g:Nat))=g:=by
 have h1:b / g≤b:=Nat.div_le_self _ _;refine⟨by omega,by omega,?_⟩;have ea:a / g * g=a:=Nat.div_mul_cancel (by rw[hg];exact Nat.gcd_dvd_left a b);have eb:b / g * g=b:=Nat.div_mul_cancel (by rw[hg];exact Nat.gcd_dvd_right a b);have e:a * (b / g)=b * (a / g):=by
  conv=>lhs;rw[←ea]
  conv=>rhs;rw[←eb]
  rw[Nat.mul_assoc,Nat.mul_assoc,Nat.mul_comm g,Nat.mul_comm g (a / g),←Nat.mul_assoc,←Nat.mul_assoc,Nat.mul_comm (a / g)]
 have e2:(a:Int) * (b / g:Nat)=b * (a / g:Nat):=by rw[←Int.natCast_mul,←Int.natCast_mul,e]
 rw[Int.mul_add,Int.mul_sub,e2];omega
theorem int_Extended(a b:Nat)(hab:a<b)(hb8:b<18446744073709551616)(w:World):Calls Tryz.prog 80 #[.string (nS a),.string (nS b)] w (RetE a b w):=by
 have ha8:a<18446744073709551616:=by omega
 have HV1:=Hq (nS_valid_small ha8);have HV2:=Hq (nS_valid_small hb8);have hz1:=nS_small_size ha8;have hz2:=nS_small_size hb8;have hem:=empty_nS (n:=b) (by omega);have HI0:=Hq (int_Of 0 (by decide));have HI1:=Hq (int_Of 1 (by decide));rw[show intV ((0:Nat):Int)=.agg #[.bool false,.string ⟨#[]⟩]from rfl,show ((0:Nat):Int)=0 from rfl]at HI0;rw[show intV ((1:Nat):Int)=.agg #[.bool false,.string ⟨#[1]⟩]from rfl,show ((1:Nat):Int)=1 from rfl]at HI1;have HST:=Hq (EInv.start (a:=a) (b:=b) (by omega) (by omega));have HB8:=Hq hb8;have HAB:=Hq hab;obtain⟨s,hs⟩:∃ s,nS a=s:=⟨_,rfl⟩;obtain⟨t,ht⟩:∃ t,nS b=t:=⟨_,rfl⟩;rw[hs]at HV1 hz1⊢;rw[ht]at HV2 hz2 hem⊢;have HS:=Hq hs;have HT:=Hq ht;clear hs ht ha8 hb8 hab;go_enter Tryz.func80,Tryz.ntmps80;go_wp2_with fail;refine(nat_Valid s (by omega) _).mono ?_;rintro e w1 ⟨rfl,rfl⟩;rw[HV1.out];go_wp2_with fail;refine(nat_Valid t (by omega) _).mono ?_;rintro e w1 ⟨rfl,rfl⟩;rw[HV2.out];go_wp2_with fail;obtain⟨W0,hW0⟩:∃ W0,((w.alloc (.cells #[.bool false,.string ⟨#[]⟩] 42)).alloc (.cells #[.bool false,.string ⟨#[]⟩] 42)).alloc (.cells #[.string s,.string t] 134)=W0:=⟨_,rfl⟩;have HX0:=Hq (show Bx2 W0 w.heap.size (.bool false) (.string ⟨#[]⟩) 42 from by
  rw[←hW0]
  exact((Bx2.new w _ _ _).kept ((blr).alloc nlr _) (by simp)).kept ((blr).alloc nlr _) (by simp;omega))
 have HY0:=Hq (show Bx2 W0 (w.heap.size+1) (.bool false) (.string ⟨#[]⟩) 42 from by
  rw[←hW0];have:=Bx2.new (w.alloc (.cells #[.bool false,.string ⟨#[]⟩] 42)) (.bool false) (.string ⟨#[]⟩) 42;rw[World.size_alloc]at this
  exact this.kept ((blr).alloc nlr _) (by simp))
 have HR0:=Hq (show Bx2 W0 (w.heap.size+1+1) (.string s) (.string t) 134 from by
  rw[←hW0];have:=Bx2.new ((w.alloc (.cells #[.bool false,.string ⟨#[]⟩] 42)).alloc (.cells #[.bool false,.string ⟨#[]⟩] 42)) (.string s) (.string t) 134;rw[World.size_alloc,World.size_alloc]at this
  exact this)
 have HB0:=Hq (show Below w.heap.size w W0 from by
  rw[←hW0]
  exact(((Below.refl w.heap.size w).alloc nlr _).alloc (by simp) _).alloc (by simp;omega) _)
 rw[hW0];clear hW0;refine(HI1.out _).mono ?_;rintro e w1 ⟨rfl,hb1⟩;have HU1:=Hq hb1;clear hb1;go_wp2_with fail;refine(HI0.out _).mono ?_;rintro e w2 ⟨rfl,hb2⟩;have HU2:=Hq (HU1.out.trans (hb2.mono HU1.out.size));clear hb2;go_wp2_with fail;refine(HI0.out _).mono ?_;rintro e w3 ⟨rfl,hb3⟩;have HU3:=Hq (HU2.out.trans (hb3.mono HU2.out.size));clear hb3;go_wp2_with fail;refine(HI1.out _).mono ?_;rintro e w4 ⟨rfl,hb4⟩;have HU4:=Hq (HU3.out.trans (hb4.mono HU3.out.size));clear hb4;go_wp2;obtain⟨P,hP⟩:∃ P,w4.heap.size=P:=⟨_,rfl⟩;obtain⟨W5,hW5⟩:∃ W5,(w4.alloc (.cells #[.bool false,.string ⟨#[1]⟩,.bool false,.string ⟨#[]⟩] 135)).alloc (.cells #[.bool false,.string ⟨#[]⟩,.bool false,.string ⟨#[1]⟩] 135)=W5:=⟨_,rfl⟩;have hU5:Below W0.heap.size W0 W5:=by
  rw[←hW5];exact(HU4.out.alloc HU4.out.size _).alloc (by have:=HU4.out.size;simp;omega) _
 have HX5:=Hq (HX0.out.next hU5);have HY5:=Hq (HY0.out.next hU5);have HR5:=Hq (HR0.out.next hU5);have HB5:=Hq (HB0.out.trans (hU5.mono HB0.out.size));have HS5:=Hq (show Bx4 W5 P (.bool false) (.string ⟨#[1]⟩) (.bool false) (.string ⟨#[]⟩) 135 from by
  rw[←hW5,←hP]
  exact(Bx4.new w4 _ _ _ _ _).kept ((blr).alloc nlr _) (by simp))
 have HT5:=Hq (show Bx4 W5 (P+1) (.bool false) (.string ⟨#[]⟩) (.bool false) (.string ⟨#[1]⟩) 135 from by
  rw[←hW5,←hP];have:=Bx4.new (w4.alloc (.cells #[.bool false,.string ⟨#[1]⟩,.bool false,.string ⟨#[]⟩] 135)) (.bool false) (.string ⟨#[]⟩) (.bool false) (.string ⟨#[1]⟩) 135;rw[World.size_alloc]at this
  exact this)
 have hPR:w.heap.size+1+1<P:=(by rw[←hP];exact Nat.lt_of_lt_of_le HR0.out.lt HU4.out.size);rw[hW5,hP];clear hW5 hP hU5 HU1 HU2 HU3 HU4;go_loopw [13] (fun _ wr=>∃(r0 r1:Nat) (x0 x1 y0 y1:Int),EInv a b r0 r1 x0 x1 y0 y1∧r0<18446744073709551616∧r1<18446744073709551616∧Bx2 wr (w.heap.size+1+1) (.string (nS r0)) (.string (nS r1)) 134∧EIB wr P x0 x1∧EIB wr (P+1) y0 y1∧Bx2 wr w.heap.size (.bool false) (.string ⟨#[]⟩) 42∧Bx2 wr (w.heap.size+1) (.bool false) (.string ⟨#[]⟩) 42∧Below w.heap.size w wr) (fun _ wr=>msr wr (w.heap.size+1+1));case atStart=>exact⟨a,b,1,0,0,1,HST.out,Nat.lt_trans HAB.out HB8.out,HB8.out,by rw[HS.out,HT.out];exact HR5.out,HS5.out,HT5.out,HX5.out,HY5.out,HB5.out⟩
 case round =>
  obtain⟨r0,r1,x0,x1,y0,y1,hinv,hr0,hr1,hR,hS,hT,hX,hY,hB⟩:=hrel;have HINV:=Hq hinv;have HR:=Hq hR;have HSB:=Hq hS;have HTB:=Hq hT;have HX:=Hq hX;have HY:=Hq hY;have HB:=Hq hB;have HR0:=Hq hr0;have HR1:=Hq hr1;have c0:=hR.c0;have c1:=hR.c1;clear hinv hR hS hT hX hY hB hr0 hr1;by_cases h1:0<r1
  · have hem1:=empty_nS h1;have HSM:=Hq (HINV.out.small h1 18446744073709551616 (Nat.lt_trans HAB.out HB8.out) HB8.out (by decide));have HNX:=Hq (HINV.out.step h1);have HDM:=Hq (nat_DivMod r0 r1 HR0.out (lt128_of_lt8 HR1.out) h1);have HQ8:=Hq (show r0 / r1<18446744073709551616 from Nat.lt_of_le_of_lt (Nat.div_le_self _ _) HR0.out);go_wp2_with fail;refine(HDM.out _).mono ?_;rintro ev w6 ⟨rfl,hb6⟩;have HR6:=Hq (HR.out.next hb6);have HS6:=Hq (show EIB w6 P x0 x1 from HSB.out.next hb6);have HT6:=Hq (show EIB w6 (P+1) y0 y1 from HTB.out.next hb6);have HX6:=Hq (HX.out.next hb6);have HY6:=Hq (HY.out.next hb6);have HB6:=Hq (HB.out.trans (hb6.mono HB.out.size));clear hb6 c0 c1;have c0:=HR6.out.c0;have c1:=HR6.out.c1;have f0:=HR6.out.f0;have f1:=HR6.out.f1;have hlt6:=HR6.out.lt;go_wp2;obtain⟨Q,hQ⟩:∃ Q,w6.heap.size=Q:=⟨_,rfl⟩;obtain⟨W7,hW7⟩:∃ W7,(((w6.setCell ⟨w.heap.size+1+1,0,none⟩ (.string (nS r1))).setCell ⟨w.heap.size+1+1,1,none⟩ (.string (nS (r0%r1)))).alloc (.cells #[.string (nS (r0 / r1))] 22))=W7:=⟨_,rfl⟩;have hQ7:W7.heap[Q]? =some (.cells #[.string (nS (r0 / r1))] 22 (0,0)):=(by rw[←hW7,←hQ];have:=heap_alloc_new ((w6.setCell ⟨w.heap.size+1+1,0,none⟩ (.string (nS r1))).setCell ⟨w.heap.size+1+1,1,none⟩ (.string (nS (r0%r1)))) (.cells #[.string (nS (r0 / r1))] 22);simpa using this);have HR7:=Hq (show Bx2 W7 (w.heap.size+1+1) (.string (nS r1)) (.string (nS (r0%r1))) 134 from by
     rw[←hW7]
     exact HR6.out.set2.next ((blr).alloc nlr _))
    have HS7:=Hq (show EIB W7 P x0 x1 from by
     rw[←hW7]
     exact((Bx4.other HS6.out (by omega) _).other (by omega) _).next ((blr).alloc nlr _))
    have HT7:=Hq (show EIB W7 (P+1) y0 y1 from by
     rw[←hW7]
     exact((Bx4.other HT6.out (by omega) _).other (by omega) _).next ((blr).alloc nlr _))
    have HX7:=Hq (show Bx2 W7 w.heap.size (.bool false) (.string ⟨#[]⟩) 42 from by
     rw[←hW7]
     exact((HX6.out.other (by omega) _).other (by omega) _).next ((blr).alloc nlr _))
    have HY7:=Hq (show Bx2 W7 (w.heap.size+1) (.bool false) (.string ⟨#[]⟩) 42 from by
     rw[←hW7]
     exact((HY6.out.other (by omega) _).other (by omega) _).next ((blr).alloc nlr _))
    have HB7:=Hq (show Below w.heap.size w W7 from by
     rw[←hW7];have h:=(HB6.out.setCell (p:=⟨w.heap.size+1+1,0,none⟩) (by simp;omega) (.string (nS r1))).setCell (p:=⟨w.heap.size+1+1,1,none⟩) (by simp;omega) (.string (nS (r0%r1)))
     exact h.alloc h.size _)
    rw[hW7,hQ];clear hW7 hQ c0 c1 f0 f1 hlt6;obtain⟨s0,s1,s2,s3⟩:=(show Bx4 W7.drew P _ _ _ _ _ from HS7.out).cells;obtain⟨t0,t1,t2,t3⟩:=(show Bx4 W7.drew (P+1) _ _ _ _ _ from HT7.out).cells;have hqc:W7.drew.cell? ⟨Q,0,none⟩=some (.string (nS (r0 / r1))):=by
     have h:W7.drew.heap[Q]? =some (.cells #[.string (nS (r0 / r1))] 22 (0,0)):=hQ7;rw[Lib.cell_of_heap h];rfl
    have HE1:=Hq (ext_step x0 x1 (r0 / r1) Q HSM.out.1 HSM.out.2.1 HQ8.out HSM.out.2.2.2.2.1 W7.drew hqc);have HQ7:=Hq hQ7;unfold arV at HE1;clear hQ7 hqc;refine wp_region_K 6 (Below (W7.drew).heap.size (W7.drew)) (by kernel_rfl) ?_;intro hD;refine qP 0 7 rfl hD blr ?_;clear hD;intro hD;refine qT 1 6 rfl hD blr (by intro w' hS';have e0:=kc hS' s0;have e1:=kc hS' s1;have e2:=kc hS' s2;have e3:=kc hS' s3;have e4:=kc hS' t0;have e5:=kc hS' t1;have e6:=kc hS' t2;have e7:=kc hS' t3;go_simp;with_reducible rfl) ?_;clear hD;intro hD;refine qP 3 5 rfl hD blr ?_;clear hD;intro hD;refine qT 4 4 rfl hD blr (by intro w' hS';have e0:=kc hS' s0;have e1:=kc hS' s1;have e2:=kc hS' s2;have e3:=kc hS' s3;have e4:=kc hS' t0;have e5:=kc hS' t1;have e6:=kc hS' t2;have e7:=kc hS' t3;go_simp;with_reducible rfl) ?_;clear hD;intro hD;simp only[Act.put,sqA,sqB,sqC];refine wpAnyK_one (i:=2) (fuel:=3) (by kernel_rfl) rfl hD ?_;clear hD;intro K2 hK2;go_wp2_with fail;refine HE1.out.mono ?_;rintro ev w8 ⟨rfl,hb8⟩;have HB2:=Hq hb8;have hqc8:w8.cell? ⟨Q,0,none⟩=some (.string (nS (r0 / r1))):=(by have h:w8.heap[Q]? =some (.cells #[.string (nS (r0 / r1))] 22 (0,0)):=(hb8.block Q (block_lt HQ7.out)).trans HQ7.out;rw[Lib.cell_of_heap h];rfl);have HE2:=Hq (ext_step y0 y1 (r0 / r1) Q HSM.out.2.2.1 HSM.out.2.2.2.1 HQ8.out HSM.out.2.2.2.2.2 w8 hqc8);unfold arV at HE2;clear hb8 hqc8;go_wp2;refine hK2 _ _ (by exact HB2.out) ?_;clear hK2;intro hS_11_2 hD;refine wpAnyK_one (i:=5) (fuel:=2) (by kernel_rfl) rfl hD ?_;clear hD;intro K5 hK5;go_wp2_with fail;refine HE2.out.mono ?_;rintro ev w9 ⟨rfl,hb9⟩;have HB5:=Hq hb9;have HS9:=Hq (show EIB w9 P x0 x1 from Bx4.next (Bx4.next (show Bx4 W7.drew P _ _ _ _ _ from HS7.out) HB2.out) hb9);have HT9:=Hq (show EIB w9 (P+1) y0 y1 from Bx4.next (Bx4.next (show Bx4 W7.drew (P+1) _ _ _ _ _ from HT7.out) HB2.out) hb9);clear hb9;obtain⟨a0,a1,a2,a3⟩:=HS9.out.cells;obtain⟨b0,b1,b2,b3⟩:=HT9.out.cells;have af0:=HS9.out.free 0;have af1:=HS9.out.free 1;have af2:=HS9.out.free 2;have af3:=HS9.out.free 3;have bf0:=HT9.out.free 0;have bf1:=HT9.out.free 1;have bf2:=HT9.out.free 2;have bf3:=HT9.out.free 3;go_wp2;refine hK5 _ _ (by exact Below.trans hS_11_2 (Below.mono HB5.out (Below.size hS_11_2))) ?_;clear hK5;intro hS_11_5 hD;refine wpAnyK_oneT (i:=6) (fuel:=1) (by kernel_rfl) rfl hD (by kernel_rfl) ?_;clear hD;intro K6 hK6;go_wp2;refine hK6 _ _ ?_;clear hK6;intro hD;refine wpAnyK_oneT (i:=7) (fuel:=0) (by kernel_rfl) rfl hD (by kernel_rfl) ?_;clear hD;intro K7 hK7;go_wp2;refine hK7 _ _ ?_;clear hK7;intro hD;refine wpAnyK_done (by kernel_rfl) ?_ 0;clear hD;have hn:=HNX.out;rw[Int.natCast_ediv]at hn;have HN:=Hq hn;have hb9:Below W7.heap.size W7 w9:=(below_undrew HB2.out).trans (HB5.out.mono (below_undrew HB2.out).size);have HR9:=Hq (HR7.out.next hb9);have HX9:=Hq (HX7.out.next hb9);have HY9:=Hq (HY7.out.next hb9);have HB9:=Hq (HB7.out.trans (hb9.mono HB7.out.size));have hPw:w.heap.size≤P:=by omega
    clear hn hb9 s0 s1 s2 s3 t0 t1 t2 t3 a0 a1 a2 a3 b0 b1 b2 b3 af0 af1 af2 af3 bf0 bf1 bf2 bf3;go_wp2;go_roundw;case rel =>
     refine⟨r1,r0%r1,x1,_,y1,_,HN.out,HR1.out,Nat.lt_trans (Nat.mod_lt _ h1) HR1.out,?_,?_,?_,?_,?_,?_⟩
     · exact((((((((HR9.out.other (by omega) _).other (by omega) _).other (by omega) _).other (by omega) _).other (by omega) _).other (by omega) _).other (by omega) _).other (by omega) _)
     · exact((((Bx4.set4 HS9.out).other (by omega) _).other (by omega) _).other (by omega) _).other (by omega) _
     · exact Bx4.set4 ((((Bx4.other HT9.out (by omega) _).other (by omega) _).other (by omega) _).other (by omega) _)
     · exact((((((((HX9.out.other (by omega) _).other (by omega) _).other (by omega) _).other (by omega) _).other (by omega) _).other (by omega) _).other (by omega) _).other (by omega) _)
     · exact((((((((HY9.out.other (by omega) _).other (by omega) _).other (by omega) _).other (by omega) _).other (by omega) _).other (by omega) _).other (by omega) _).other (by omega) _)
     · exact(((((((HB9.out.setCell (p:=⟨P,0,none⟩) hPw _).setCell (p:=⟨P,1,none⟩) hPw _).setCell (p:=⟨P,2,none⟩) hPw _).setCell (p:=⟨P,3,none⟩) hPw _).setCell (p:=⟨P+1,0,none⟩) (by simp;omega) _).setCell (p:=⟨P+1,1,none⟩) (by simp;omega) _).setCell (p:=⟨P+1,2,none⟩) (by simp;omega) _).setCell (p:=⟨P+1,3,none⟩) (by simp;omega) _
    case measure =>
     rw[msr_bx HR.out,msr_bx ((((((((HR9.out.other (by omega) _).other (by omega) _).other (by omega) _).other (by omega) _).other (by omega) _).other (by omega) _).other (by omega) _).other (by omega) _)];exact Nat.mod_lt _ h1
  · obtain rfl:r1=0:=by omega
    obtain⟨hg,hg0,hxb,hbz⟩:=HINV.out.last (show 0<b by have:=HAB.out;omega);have hem0:(nS 0).toList.isEmpty=true:=sempty_true rfl;have HG:=Hq hg;have HG0:=Hq hg0;have HXB:=Hq hxb;have HBZ:=Hq hbz;obtain⟨s0,s1,s2,s3⟩:=(show Bx4 wr P _ _ _ _ _ from HSB.out).cells;clear hg hg0 hxb hbz;by_cases hneg:x0<0
    · have hd:decide (x0<0)=true:=decide_eq_true hneg;have HDM1:=Hq (nat_DivMod b r0 HB8.out (lt128_of_lt8 HR0.out) HG0.out);have HDM2:=Hq (nat_DivMod a r0 (Nat.lt_trans HAB.out HB8.out) (lt128_of_lt8 HR0.out) HG0.out);rw[HT.out]at HDM1;rw[HS.out]at HDM2;rw[hd]at s0;go_wp2_with fail;refine(HDM1.out _).mono ?_;rintro ev w6 ⟨rfl,hb6⟩;have HU6:=Hq hb6;clear hb6;go_wp2_with fail;refine(HDM2.out _).mono ?_;rintro ev w7 ⟨rfl,hb7⟩;have HU7:=Hq (HU6.out.trans (hb7.mono HU6.out.size));clear hb7 s0 s1 s2 s3 c0 c1;go_wp2;have HSW:=Hq (show Bx4 w7 P (.bool (decide (x0<0))) (.string (nS x0.natAbs)) (.bool (decide (x1<0))) (.string (nS x1.natAbs)) 135 from Bx4.next HSB.out HU7.out);have HTW:=Hq (show Bx4 w7 (P+1) (.bool (decide (y0<0))) (.string (nS y0.natAbs)) (.bool (decide (y1<0))) (.string (nS y1.natAbs)) 135 from Bx4.next HTB.out HU7.out);have HXW:=Hq (HX.out.next HU7.out);have HYW:=Hq (HY.out.next HU7.out);have HBW:=Hq (HB.out.trans (HU7.out.mono HB.out.size));have HSH:=Hq (ext_shift HG.out HG0.out HXB.out hneg HBZ.out);have HYS:=Hq (ext_y_small HINV.out HAB.out);have hqb:b / r0<18446744073709551616:=Nat.lt_of_le_of_lt (Nat.div_le_self _ _) HB8.out;have hqa:a / r0<18446744073709551616:=Nat.lt_of_le_of_lt (Nat.div_le_self _ _) (Nat.lt_trans HAB.out HB8.out);have HFX:=Hq (int_From (b / r0) (lt128_of_lt8 hqb));have HFY:=Hq (int_From (a / r0) (lt128_of_lt8 hqa));have HAX:=Hq (int_Add x0 (b / r0:Nat) (Nat.lt_of_le_of_lt (Nat.le_trans HXB.out (Nat.div_le_self _ _)) HB8.out) (by rw[Int.natAbs_natCast];exact hqb));have HAY:=Hq (int_Sub y0 (a / r0:Nat) (Nat.lt_of_le_of_lt HYS.out HB8.out) (by rw[Int.natAbs_natCast];exact hqa));have e1:decide (((b / r0:Nat):Int)<0)=false:=decide_eq_false (Int.not_lt.2 (Int.natCast_nonneg _));have e2:decide (((a / r0:Nat):Int)<0)=false:=decide_eq_false (Int.not_lt.2 (Int.natCast_nonneg _));have e3:decide (x0+((b / r0:Nat):Int)<0)=false:=decide_eq_false (by have:=HSH.out.1;omega);unfold intV zV at HFX HAX HFY HAY;rw[e1,Int.natAbs_natCast]at HFX HAX;rw[e2,Int.natAbs_natCast]at HFY HAY;rw[e3]at HAX;have HZ:=Hq HSH.out.1;have HXS:=Hq (Nat.lt_of_le_of_lt HSH.out.2.1 HB8.out);have HBE:=Hq HSH.out.2.2;clear e1 e2 e3 hqb hqa hneg hd HSB HTB HX HY HB HU6 HU7 HSH HYS HDM1 HDM2 HXB HBZ HINV HI0 HI1 HST;obtain⟨xe,hxe⟩:∃ xe:Int,x0+((b / r0:Nat):Int)=xe:=⟨_,rfl⟩;obtain⟨ye,hye⟩:∃ ye:Int,y0 - ((a / r0:Nat):Int)=ye:=⟨_,rfl⟩;rw[hxe]at HAX HZ HXS HBE;rw[hye]at HAY HBE;clear hxe hye;obtain⟨rx,hrx⟩:∃ rx,nS xe.natAbs=rx:=⟨_,rfl⟩;obtain⟨ry,hry⟩:∃ ry,nS ye.natAbs=ry:=⟨_,rfl⟩;obtain⟨cy,hcy⟩:∃ cy,decide (ye<0)=cy:=⟨_,rfl⟩;obtain⟨ax,hax⟩:∃ ax,decide (x0<0)=ax:=⟨_,rfl⟩;obtain⟨ay,hay⟩:∃ ay,decide (y0<0)=ay:=⟨_,rfl⟩;obtain⟨sx,hsx⟩:∃ sx,nS x0.natAbs=sx:=⟨_,rfl⟩;obtain⟨sy,hsy⟩:∃ sy,nS y0.natAbs=sy:=⟨_,rfl⟩;rw[hrx]at HAX;rw[hry,hcy]at HAY;rw[hax,hsx]at HAX HSW;rw[hay,hsy]at HAY HTW;have HRX:=Hq hrx;have HRY:=Hq hry;have HCY:=Hq hcy;clear hrx hry hcy hax hay hsx hsy;obtain⟨wdx,hwdx⟩:∃ wd,w7.drew=wd:=⟨_,rfl⟩;have hqx:=HSW.out;replace hqx:=(show Bx4 w7.drew (P) _ _ _ _ _ from hqx);rw[hwdx]at hqx;have HQx:=Hq hqx;obtain⟨s0,s1,_,_⟩:=hqx.cells;clear hqx;refine wp_region_K 9 (Below (wdx).heap.size (wdx)) (by kernel_rfl) ?_;intro hD;rw[hwdx];refine qP 0 9 rfl hD blr ?_;clear hD;intro hD;refine qT 1 8 rfl hD blr (by intro w' hS';have e0:=kc hS' s0;have e1:=kc hS' s1;go_simp;with_reducible rfl) ?_;clear hD;intro hD;refine qP 2 7 rfl hD blr ?_;clear hD;intro hD;simp only[Act.put,sqA,sqB,sqC];refine wpAnyK_one (i:=3) (fuel:=6) (by kernel_rfl) rfl hD ?_;clear hD;intro K3 hK3;go_wp2_with fail;refine(HFX.out _).mono ?_;rintro ev wfx ⟨rfl,hbf⟩;have HB3:=Hq hbf;clear hbf;go_wp2;refine hK3 _ _ (by exact HB3.out) ?_;clear hK3;intro hS_16_3 hD;refine wpAnyK_one (i:=4) (fuel:=5) (by kernel_rfl) rfl hD ?_;clear hD;intro K4 hK4;go_wp2_with fail;refine(HAX.out _).mono ?_;rintro ev wgx ⟨rfl,hbg⟩;have HB4:=Hq hbg;have HUx:=Hq (HB3.out.trans (hbg.mono HB3.out.size));have HRx:=Hq (HQx.out.kept HUx.out HQx.out.lt);clear hbg;obtain⟨a0,a1,_,_⟩:=HRx.out.cells;have af0:=HRx.out.free 0;have af1:=HRx.out.free 1;go_wp2;refine hK4 _ _ (by exact Below.trans hS_16_3 (Below.mono HB4.out (Below.size hS_16_3))) ?_;clear hK4;intro hS_16_4 hD;refine qP 5 4 rfl hD hS_16_4 ?_;clear hD;intro hD;refine qP 6 3 rfl hD hS_16_4 ?_;clear hD;intro hD;refine qP 7 2 rfl hD hS_16_4 ?_;clear hD;intro hD;refine qP 8 1 rfl hD hS_16_4 ?_;clear hD;intro hD;simp only[Act.put,sqA,sqB,sqC];refine wpAnyK_oneT (i:=9) (fuel:=0) (by kernel_rfl) rfl hD (by kernel_rfl) ?_;clear hD;intro K9 hK9;go_wp2;refine hK9 _ _ ?_;clear hK9;intro hD;refine wpAnyK_done (by kernel_rfl) ?_ 0;clear hD;go_wp2;obtain⟨W8,hW8⟩:∃ W8,(wgx.setCell ⟨P,0,none⟩ (.bool false)).setCell ⟨P,1,none⟩ (.string rx)=W8:=⟨_,rfl⟩;have HS8:=Hq (show Bx4 W8 P (.bool false) (.string rx) _ _ _ from by rw[←hW8];exact HRx.out.set2);have HT8:=Hq (show Bx4 W8 (P+1) (.bool ay) (.string sy) (.bool (decide (y1<0))) (.string (nS y1.natAbs)) 135 from by rw[←hW8];exact((Bx4.next (show Bx4 wdx (P+1) _ _ _ _ _ from by rw[←hwdx];exact HTW.out) HUx.out).other (by omega) _).other (by omega) _);have HX8:=Hq (show Bx2 W8 w.heap.size (.bool false) (.string ⟨#[]⟩) 42 from by rw[←hW8];exact((Bx2.next (show Bx2 wdx _ _ _ _ from by rw[←hwdx];exact HXW.out) HUx.out).other (by omega) _).other (by omega) _);have HY8:=Hq (show Bx2 W8 (w.heap.size+1) (.bool false) (.string ⟨#[]⟩) 42 from by rw[←hW8];exact((Bx2.next (show Bx2 wdx _ _ _ _ from by rw[←hwdx];exact HYW.out) HUx.out).other (by omega) _).other (by omega) _);have HB8':=Hq (show Below w.heap.size w W8 from by
       rw[←hW8];have hbd:Below w.heap.size w wdx:=by rw[←hwdx];exact HBW.out.drew
       exact((hbd.trans (HUx.out.mono hbd.size)).setCell (p:=⟨P,0,none⟩) (by simp;omega) _).setCell (p:=⟨P,1,none⟩) (by simp;omega) _)
      rw[hW8];clear hW8 HSW HTW HXW HYW HBW HRx HUx HQx HB3 HB4 s0 s1 a0 a1 af0 af1 hwdx;obtain⟨wdy,hwdy⟩:∃ wd,W8.drew=wd:=⟨_,rfl⟩;have hqy:=HT8.out;replace hqy:=(show Bx4 W8.drew (P+1) _ _ _ _ _ from hqy);rw[hwdy]at hqy;have HQy:=Hq hqy;obtain⟨s0,s1,_,_⟩:=hqy.cells;clear hqy;refine wp_region_K 9 (Below (wdy).heap.size (wdy)) (by kernel_rfl) ?_;intro hD;rw[hwdy];refine qP 0 9 rfl hD blr ?_;clear hD;intro hD;refine qT 1 8 rfl hD blr (by intro w' hS';have e0:=kc hS' s0;have e1:=kc hS' s1;go_simp;with_reducible rfl) ?_;clear hD;intro hD;refine qP 2 7 rfl hD blr ?_;clear hD;intro hD;simp only[Act.put,sqA,sqB,sqC];refine wpAnyK_one (i:=3) (fuel:=6) (by kernel_rfl) rfl hD ?_;clear hD;intro K3 hK3;go_wp2_with fail;refine(HFY.out _).mono ?_;rintro ev wfy ⟨rfl,hbf⟩;have HB3:=Hq hbf;clear hbf;go_wp2;refine hK3 _ _ (by exact HB3.out) ?_;clear hK3;intro hS_17_3 hD;refine wpAnyK_one (i:=4) (fuel:=5) (by kernel_rfl) rfl hD ?_;clear hD;intro K4 hK4;go_wp2_with fail;refine(HAY.out _).mono ?_;rintro ev wgy ⟨rfl,hbg⟩;have HB4:=Hq hbg;have HUy:=Hq (HB3.out.trans (hbg.mono HB3.out.size));have HRy:=Hq (HQy.out.kept HUy.out HQy.out.lt);clear hbg;obtain⟨a0,a1,_,_⟩:=HRy.out.cells;have af0:=HRy.out.free 0;have af1:=HRy.out.free 1;go_wp2;refine hK4 _ _ (by exact Below.trans hS_17_3 (Below.mono HB4.out (Below.size hS_17_3))) ?_;clear hK4;intro hS_17_4 hD;refine qP 5 4 rfl hD hS_17_4 ?_;clear hD;intro hD;refine qP 6 3 rfl hD hS_17_4 ?_;clear hD;intro hD;refine qP 7 2 rfl hD hS_17_4 ?_;clear hD;intro hD;refine qP 8 1 rfl hD hS_17_4 ?_;clear hD;intro hD;simp only[Act.put,sqA,sqB,sqC];refine wpAnyK_oneT (i:=9) (fuel:=0) (by kernel_rfl) rfl hD (by kernel_rfl) ?_;clear hD;intro K9 hK9;go_wp2;refine hK9 _ _ ?_;clear hK9;intro hD;refine wpAnyK_done (by kernel_rfl) ?_ 0;clear hD;go_wp2;obtain⟨W9,hW9⟩:∃ W9,(wgy.setCell ⟨P+1,0,none⟩ (.bool cy)).setCell ⟨P+1,1,none⟩ (.string ry)=W9:=⟨_,rfl⟩;have HT9:=Hq (show Bx4 W9 (P+1) (.bool cy) (.string ry) _ _ _ from by rw[←hW9];exact HRy.out.set2);have HS9:=Hq (show Bx4 W9 P (.bool false) (.string rx) (.bool (decide (x1<0))) (.string (nS x1.natAbs)) 135 from by rw[←hW9];exact((Bx4.next (show Bx4 wdy P _ _ _ _ _ from by rw[←hwdy];exact HS8.out) HUy.out).other (by omega) _).other (by omega) _);have HX9:=Hq (show Bx2 W9 w.heap.size (.bool false) (.string ⟨#[]⟩) 42 from by rw[←hW9];exact((Bx2.next (show Bx2 wdy _ _ _ _ from by rw[←hwdy];exact HX8.out) HUy.out).other (by omega) _).other (by omega) _);have HY9:=Hq (show Bx2 W9 (w.heap.size+1) (.bool false) (.string ⟨#[]⟩) 42 from by rw[←hW9];exact((Bx2.next (show Bx2 wdy _ _ _ _ from by rw[←hwdy];exact HY8.out) HUy.out).other (by omega) _).other (by omega) _);have HB9:=Hq (show Below w.heap.size w W9 from by
       rw[←hW9];have hbd:Below w.heap.size w wdy:=by rw[←hwdy];exact HB8'.out.drew
       exact((hbd.trans (HUy.out.mono hbd.size)).setCell (p:=⟨P+1,0,none⟩) (by simp;omega) _).setCell (p:=⟨P+1,1,none⟩) (by simp;omega) _)
      rw[hW9];clear hW9 HS8 HT8 HX8 HY8 HB8' HRy HUy HQy HB3 HB4 s0 s1 a0 a1 af0 af1 hwdy;have erx:=HRX.out;have ery:=HRY.out;have ecy:=HCY.out;subst erx ery ecy;obtain⟨wd,hwd⟩:∃ wd,W9.drew=wd:=⟨_,rfl⟩;obtain⟨s0,s1,s2,s3⟩:=(show Bx4 wd P _ _ _ _ _ from by rw[←hwd];exact HS9.out).cells;obtain⟨t0,t1,t2,t3⟩:=(show Bx4 wd (P+1) _ _ _ _ _ from by rw[←hwd];exact HT9.out).cells;have HXd:=Hq (show Bx2 wd w.heap.size (.bool false) (.string ⟨#[]⟩) 42 from by rw[←hwd];exact HX9.out);have HYd:=Hq (show Bx2 wd (w.heap.size+1) (.bool false) (.string ⟨#[]⟩) 42 from by rw[←hwd];exact HY9.out);have HBd:=Hq (show Below w.heap.size w wd from by rw[←hwd];exact HB9.out.drew);have xf0:=HXd.out.f0;have xf1:=HXd.out.f1;have yf0:=HYd.out.f0;have yf1:=HYd.out.f1;have xc0:=HXd.out.c0;have xc1:=HXd.out.c1;have yc0:=HYd.out.c0;have yc1:=HYd.out.c1;refine wp_region_K 9 (Off2 w.heap.size wd) (by kernel_rfl) ?_;intro hD;rw[hwd];refine qP 0 8 rfl hD (Off2.refl _ _) ?_;clear hD;intro hD;refine qP 1 7 rfl hD (Off2.refl _ _) ?_;clear hD;intro hD;refine qS 2 6 rfl hD (Off2.refl _ _) (by intro w' hS';have e0:=hS'.cell (by simp;omega) (by simp;omega) s0;have e1:=hS'.cell (by simp;omega) (by simp;omega) s1;have e2:=hS'.cell (by simp;omega) (by simp;omega) t0;have e3:=hS'.cell (by simp;omega) (by simp;omega) t1;go_simp;with_reducible rfl) ?_;clear hD;intro hD;refine qP 3 5 rfl hD (Off2.refl _ _) ?_;clear hD;intro hD;refine qS 4 4 rfl hD (Off2.refl _ _) (by intro w' hS';have e0:=hS'.cell (by simp;omega) (by simp;omega) s0;have e1:=hS'.cell (by simp;omega) (by simp;omega) s1;have e2:=hS'.cell (by simp;omega) (by simp;omega) t0;have e3:=hS'.cell (by simp;omega) (by simp;omega) t1;go_simp;with_reducible rfl) ?_;clear hD;intro hD;simp only[Act.put,sqA,sqB,sqC];refine wpAnyK_one (i:=5) (fuel:=3) (by kernel_rfl) rfl hD ?_;clear hD;intro K5 hK5;go_wp2;refine hK5 _ _ (by exact(Off2.refl _ _)) ?_;clear hK5;intro hS_18_5 hD;refine wpAnyK_one (i:=6) (fuel:=2) (by kernel_rfl) rfl hD ?_;clear hD;intro K6 hK6;go_wp2;refine hK6 _ _ (by exact(Off2.set hS_18_5 (.inl rfl) _).set (.inl rfl) _) ?_;clear hK6;intro hS_18_6 hD;refine wpAnyK_one (i:=7) (fuel:=1) (by kernel_rfl) rfl hD ?_;clear hD;intro K7 hK7;go_wp2;refine hK7 _ _ (by exact(Off2.set hS_18_6 (.inr rfl) _).set (.inr rfl) _) ?_;clear hK7;intro hS_18_7 hD;refine wpAnyK_one (i:=8) (fuel:=0) (by kernel_rfl) rfl hD ?_;clear hD;intro K8 hK8;go_wp2;refine hK8 _ _ (by exact hS_18_7) ?_;clear hK8;intro hS_18_8 hD;refine wpAnyK_done (by kernel_rfl) ?_ 0;clear hD;go_wp2;obtain⟨q0,q1⟩:_∧_:=⟨(((HXd.out.set2 (u:=.bool false) (v:=.string (nS (xe).natAbs))).other (C:=w.heap.size+1) (k:=0) (by omega) (.bool (decide (ye<0)))).other (C:=w.heap.size+1) (k:=1) (by omega) (.string (nS (ye).natAbs))).c0,(((HXd.out.set2 (u:=.bool false) (v:=.string (nS (xe).natAbs))).other (C:=w.heap.size+1) (k:=0) (by omega) (.bool (decide (ye<0)))).other (C:=w.heap.size+1) (k:=1) (by omega) (.string (nS (ye).natAbs))).c1⟩;obtain⟨q2,q3⟩:_∧_:=⟨(((HYd.out.other (C:=w.heap.size) (k:=0) (by omega) (.bool false)).other (C:=w.heap.size) (k:=1) (by omega) (.string (nS (xe).natAbs))).set2 (u:=.bool (decide (ye<0))) (v:=.string (nS (ye).natAbs))).c0,(((HYd.out.other (C:=w.heap.size) (k:=0) (by omega) (.bool false)).other (C:=w.heap.size) (k:=1) (by omega) (.string (nS (xe).natAbs))).set2 (u:=.bool (decide (ye<0))) (v:=.string (nS (ye).natAbs))).c1⟩;have HBf:=(((HBd.out.setCell (p:=⟨w.heap.size,0,none⟩) nlr (.bool false)).setCell (p:=⟨w.heap.size,1,none⟩) nlr (.string (nS (xe).natAbs))).setCell (p:=⟨w.heap.size+1,0,none⟩) (by simp) (.bool (decide (ye<0)))).setCell (p:=⟨w.heap.size+1,1,none⟩) (by simp) (.string (nS (ye).natAbs));refine bodyPost_ret (v:=.tuple #[.string (nS r0),.agg #[.bool false,.string (nS (xe).natAbs)],.agg #[.bool (decide (ye<0)),.string (nS (ye).natAbs)],.int .i64 0]) (by simp[results,Tryz.results80,go_sem,q0,q1,q2,q3]) rfl ⟨xe,ye,?_,HBf,HZ.out,HXS.out,?_⟩
      · rw[←HG.out,intV_zV,intV_zV,show decide (xe<0)=false from decide_eq_false (by have:=HZ.out;omega)];rfl
      · rw[←HG.out];exact HBE.out
    · have hd:decide (x0<0)=false:=decide_eq_false hneg;rw[hd]at s0;go_wp2;have HZ:=Hq (show 0≤x0 by omega);have HBE:=Hq HBZ.out;have HXS:=Hq (show x0.natAbs<18446744073709551616 from Nat.lt_of_le_of_lt (Nat.le_trans HXB.out (Nat.div_le_self _ _)) HB8.out);obtain⟨wd,hwd⟩:∃ wd,wr.drew=wd:=⟨_,rfl⟩;obtain⟨s0,s1,s2,s3⟩:=(show Bx4 wd P _ _ _ _ _ from by rw[←hwd];exact HSB.out).cells;obtain⟨t0,t1,t2,t3⟩:=(show Bx4 wd (P+1) _ _ _ _ _ from by rw[←hwd];exact HTB.out).cells;have HXd:=Hq (show Bx2 wd w.heap.size (.bool false) (.string ⟨#[]⟩) 42 from by rw[←hwd];exact HX.out);have HYd:=Hq (show Bx2 wd (w.heap.size+1) (.bool false) (.string ⟨#[]⟩) 42 from by rw[←hwd];exact HY.out);have HBd:=Hq (show Below w.heap.size w wd from by rw[←hwd];exact HB.out.drew);have xf0:=HXd.out.f0;have xf1:=HXd.out.f1;have yf0:=HYd.out.f0;have yf1:=HYd.out.f1;have xc0:=HXd.out.c0;have xc1:=HXd.out.c1;have yc0:=HYd.out.c0;have yc1:=HYd.out.c1;refine wp_region_K 9 (Off2 w.heap.size wd) (by kernel_rfl) ?_;intro hD;rw[hwd];refine qP 0 8 rfl hD (Off2.refl _ _) ?_;clear hD;intro hD;refine qP 1 7 rfl hD (Off2.refl _ _) ?_;clear hD;intro hD;refine qS 2 6 rfl hD (Off2.refl _ _) (by intro w' hS';have e0:=hS'.cell (by simp;omega) (by simp;omega) s0;have e1:=hS'.cell (by simp;omega) (by simp;omega) s1;have e2:=hS'.cell (by simp;omega) (by simp;omega) t0;have e3:=hS'.cell (by simp;omega) (by simp;omega) t1;go_simp;with_reducible rfl) ?_;clear hD;intro hD;refine qP 3 5 rfl hD (Off2.refl _ _) ?_;clear hD;intro hD;refine qS 4 4 rfl hD (Off2.refl _ _) (by intro w' hS';have e0:=hS'.cell (by simp;omega) (by simp;omega) s0;have e1:=hS'.cell (by simp;omega) (by simp;omega) s1;have e2:=hS'.cell (by simp;omega) (by simp;omega) t0;have e3:=hS'.cell (by simp;omega) (by simp;omega) t1;go_simp;with_reducible rfl) ?_;clear hD;intro hD;simp only[Act.put,sqA,sqB,sqC];refine wpAnyK_one (i:=5) (fuel:=3) (by kernel_rfl) rfl hD ?_;clear hD;intro K5 hK5;go_wp2;refine hK5 _ _ (by exact(Off2.refl _ _)) ?_;clear hK5;intro hS_18_5 hD;refine wpAnyK_one (i:=6) (fuel:=2) (by kernel_rfl) rfl hD ?_;clear hD;intro K6 hK6;go_wp2;refine hK6 _ _ (by exact(Off2.set hS_18_5 (.inl rfl) _).set (.inl rfl) _) ?_;clear hK6;intro hS_18_6 hD;refine wpAnyK_one (i:=7) (fuel:=1) (by kernel_rfl) rfl hD ?_;clear hD;intro K7 hK7;go_wp2;refine hK7 _ _ (by exact(Off2.set hS_18_6 (.inr rfl) _).set (.inr rfl) _) ?_;clear hK7;intro hS_18_7 hD;refine wpAnyK_one (i:=8) (fuel:=0) (by kernel_rfl) rfl hD ?_;clear hD;intro K8 hK8;go_wp2;refine hK8 _ _ (by exact hS_18_7) ?_;clear hK8;intro hS_18_8 hD;refine wpAnyK_done (by kernel_rfl) ?_ 0;clear hD;go_wp2;obtain⟨q0,q1⟩:_∧_:=⟨(((HXd.out.set2 (u:=.bool false) (v:=.string (nS (x0).natAbs))).other (C:=w.heap.size+1) (k:=0) (by omega) (.bool (decide (y0<0)))).other (C:=w.heap.size+1) (k:=1) (by omega) (.string (nS (y0).natAbs))).c0,(((HXd.out.set2 (u:=.bool false) (v:=.string (nS (x0).natAbs))).other (C:=w.heap.size+1) (k:=0) (by omega) (.bool (decide (y0<0)))).other (C:=w.heap.size+1) (k:=1) (by omega) (.string (nS (y0).natAbs))).c1⟩;obtain⟨q2,q3⟩:_∧_:=⟨(((HYd.out.other (C:=w.heap.size) (k:=0) (by omega) (.bool false)).other (C:=w.heap.size) (k:=1) (by omega) (.string (nS (x0).natAbs))).set2 (u:=.bool (decide (y0<0))) (v:=.string (nS (y0).natAbs))).c0,(((HYd.out.other (C:=w.heap.size) (k:=0) (by omega) (.bool false)).other (C:=w.heap.size) (k:=1) (by omega) (.string (nS (x0).natAbs))).set2 (u:=.bool (decide (y0<0))) (v:=.string (nS (y0).natAbs))).c1⟩;have HBf:=(((HBd.out.setCell (p:=⟨w.heap.size,0,none⟩) nlr (.bool false)).setCell (p:=⟨w.heap.size,1,none⟩) nlr (.string (nS (x0).natAbs))).setCell (p:=⟨w.heap.size+1,0,none⟩) (by simp) (.bool (decide (y0<0)))).setCell (p:=⟨w.heap.size+1,1,none⟩) (by simp) (.string (nS (y0).natAbs));refine bodyPost_ret (v:=.tuple #[.string (nS r0),.agg #[.bool false,.string (nS (x0).natAbs)],.agg #[.bool (decide (y0<0)),.string (nS (y0).natAbs)],.int .i64 0]) (by simp[results,Tryz.results80,go_sem,q0,q1,q2,q3]) rfl ⟨x0,y0,?_,HBf,HZ.out,HXS.out,?_⟩
      · rw[←HG.out,intV_zV,intV_zV,show decide (x0<0)=false from decide_eq_false (by have:=HZ.out;omega)];rfl
      · rw[←HG.out];exact HBE.out
set_option maxRecDepth 100000
set_option maxHeartbeats 1000000
def blen(n:Nat):Nat:=if n=0 then 0 else n.log2+1
theorem blen_of{n k:Nat}(h1:2 ^ k≤n)(h2:n<2 ^ (k+1)):blen n=k+1:=by
 have h0:n≠0:=by have:=Nat.two_pow_pos k;omega
 unfold blen;rw[if_neg h0];have h3:=(Nat.le_log2 h0).2 h1;have h4:=(Nat.log2_lt h0).2 h2;omega
theorem blen_lt(n:Nat):n<2 ^ blen n:=by
 unfold blen;by_cases h0:n=0
 · rw[if_pos h0,h0];simp
 · rw[if_neg h0];exact Nat.lt_log2_self
theorem blen_le{n:Nat}(h:0<n):2 ^ (blen n - 1)≤n:=by
 unfold blen;rw[if_neg (by omega),Nat.add_sub_cancel];exact Nat.log2_self_le (by omega)
def bitB(n i:Nat):Bool:=n / 2 ^ i%2==1
theorem bit_dig(n i:Nat):dig n (i / 8) / 2 ^ (i%8)%2=n / 2 ^ i%2:=by
 have e:n / 2 ^ i=n / 256 ^ (i / 8) / 2 ^ (i%8):=(by rw[show (256:Nat) ^ (i / 8)=2 ^ (8 * (i / 8))from by rw[Nat.pow_mul],Nat.div_div_eq_div_mul,←Nat.pow_add,show 8 * (i / 8)+i%8=i from by omega]);rw[e];unfold dig;generalize n / 256 ^ (i / 8)=d;have h:i%8<8:=by omega
 generalize i%8=r at *
 match r,h with
 | 0,_=>simp
 | 1,_=>omega
 | 2,_=>omega
 | 3,_=>omega
 | 4,_=>omega
 | 5,_=>omega
 | 6,_=>omega
 | 7,_=>omega
theorem blen_first{n:Nat}(h0:0<n):∃ x l,encN n=x::l∧0<x.toNat∧blen n=8 * l.length+blen x.toNat:=by
 cases hl:encN n with
 | nil=>exact absurd (encN_eq_nil.1 hl) (by omega)
 | cons x l =>
  have hc:=canon_encN n;rw[hl]at hc;have hx:x≠0:=canon_cons.1 hc;have hx0:0<x.toNat:=by
   rcases Nat.eq_zero_or_pos x.toNat with h | h
   · exact absurd (UInt8.toNat_inj.1 (by simpa using h)) hx
   · exact h
  refine⟨x,l,rfl,hx0,?_⟩;have hb:n=x.toNat * 256 ^ l.length+bnat l:=by rw[←bnat_cons,←hl,bnat_encN]
  have hlt:=bnat_lt l;have h1:=blen_lt x.toNat;have h2:=blen_le hx0;have hb1:1≤blen x.toNat:=by unfold blen;rw[if_neg (by omega)];omega
  obtain⟨k,hk⟩:∃ k,blen x.toNat=k+1:=⟨blen x.toNat - 1,by omega⟩;rw[hk]at h1 h2⊢;rw[Nat.add_sub_cancel]at h2;have e256:(256:Nat) ^ l.length=2 ^ (8 * l.length):=by rw[Nat.pow_mul]
  have:=blen_of (n:=n) (k:=8 * l.length+k) (by
   rw[Nat.pow_add,←e256,Nat.mul_comm];have:=Nat.mul_le_mul_right (256 ^ l.length) h2
   omega) (by
   rw[show 8 * l.length+k+1=8 * l.length+(k+1)from by omega,Nat.pow_add,←e256,Nat.mul_comm];have:=Nat.mul_le_mul_right (256 ^ l.length) (show x.toNat+1≤2 ^ (k+1)from h1);rw[Nat.succ_mul]at this
   omega)
  omega
theorem bitLen_blen{x:Nat}(h:x<256):Lib.bitLen x=blen x:=by
 rcases Nat.eq_zero_or_pos x with h0 | h0
 · subst h0;simp[blen,Lib.bitLen,Lib.bitLenAux]
 · obtain⟨L,h1,h2,h3,_⟩:=bitLen_spec 64 x (Nat.lt_of_lt_of_le h (by decide)) h0;unfold Lib.bitLen;rw[h1,blen_of h2 h3]
theorem nS_first{n:Nat}(h0:0<n):∃(h:0<(nS n).size),0<((nS n)[0]).toNat∧((nS n)[0]).toNat<256∧blen n=8 * ((nS n).size - 1)+blen ((nS n)[0]).toNat:=by
 obtain⟨x,l,hl,hx,hb⟩:=blen_first h0;have hs:(nS n).size=l.length+1:=by rw[nS_size,hl];rfl
 refine⟨by omega,?_⟩;have e:(nS n)[0]'(by omega)=x:=by
  have : (nS n)[0]'(by omega)=((nS n).data.toList)[0]'(by rw[data_len];omega):=rfl;rw[this];simp only[nS_data,hl,List.getElem_cons_zero]
 rw[e,hs,Nat.add_sub_cancel];exact⟨hx,by have:=x.toNat_lt;omega,hb⟩
theorem nat_Bits_core(s:ByteArray)(h:0<s.size)(hv:nvalid s=true)(b:Nat)(hb:(s[0]).toNat=b)(hb2:b<256)(w:World):Calls Tryz.prog 82 #[.string s] w (RetQ (.int .i64 ((8 * (s.size - 1)+blen b:Nat):Int)) w):=by
 have hs128:s.size≤128:=by unfold nvalid at hv;simp at hv;exact hv.1
 have hem:=sempty_false h;have HV:=Hq hv;have HB:=Hq hb;have HL:=Hq (bitLen_blen hb2);have hbl:blen b≤8:=by
  have h1:=blen_lt b;unfold blen;split
  · omega
  · have:=(Nat.log2_lt (n:=b) (k:=8) (by assumption)).2 (by omega);omega
 obtain⟨z,hz⟩:∃ z,s.size=z+1:=⟨s.size - 1,by omega⟩;have HZ:=Hq hz;clear hv hb;go_enter Tryz.func82,Tryz.ntmps82;go_wp2_with fail;refine(nat_Valid s (by omega) _).mono ?_;rintro e w1 ⟨rfl,rfl⟩;rw[HV.out];clear hz;go_wp2_with fail;rw[HB.out];refine(Tryz.bits_Len8 (b:Int) _ (by omega) (by omega)).mono ?_;rintro e w1 ⟨rfl,rfl⟩;rw[Int.toNat_natCast,HL.out];go_wp2;go_ret;exact⟨ret_int (by have:=HZ.out;omega),rfl⟩
theorem nat_Bits(n:Nat)(hn:n<256 ^ 128)(w:World):Calls Tryz.prog 82 #[.string (nS n)] w (RetQ (.int .i64 (blen n)) w):=by
 rcases Nat.eq_zero_or_pos n with h0 | h0
 · subst h0;have HV:=Hq (show nvalid ⟨#[]⟩=true from rfl);rw[nS_zero];go_enter Tryz.func82,Tryz.ntmps82;go_wp2_with fail;refine(nat_Valid ⟨#[]⟩ (by decide) _).mono ?_;rintro e w1 ⟨rfl,rfl⟩;rw[HV.out];go_wp2;go_ret;exact⟨rfl,rfl⟩
 · obtain⟨h,h1,h2,h3⟩:=nS_first h0;rw[h3];exact nat_Bits_core (nS n) h (nvalid_nS.2 hn) _ rfl h2 w
theorem band1{x:Nat}(h:x<256):bits .and .i64 (x:Int) 1=((x%2:Nat):Int):=by
 have:=bits_mask .i64 62 (by decide) (fun n h1 h2=>by rw[IntKind.wrap_i64];omega) 1 (by omega) (x:Int) (by omega) (by omega);simpa using this
theorem nat_Bit(n i:Nat)(hn:n<256 ^ 128)(hi:i<100000)(w:World):Calls Tryz.prog 83 #[.string (nS n),.int .i64 i] w (RetQ (.bool (bitB n i)) w):=by
 have hs1:=nS_size_le.2 hn;have HV:=Hq (nvalid_nS.2 hn);have HD:=Hq (nat_digit n (i / 8) (by omega));have hi0:(0:Int)≤(i:Int):=by omega
 by_cases hlt:i / 8<(nS n).size
 · have hlt2:(i:Int) / 8<((nS n).size:Int):=by omega
   have hd:=dig_lt n (i / 8);have HBD:=Hq (bit_dig n i);obtain⟨d,hde⟩:∃ d,dig n (i / 8)=d:=⟨_,rfl⟩;rw[hde]at hd HBD HD;obtain⟨s,hs⟩:∃ s,nS n=s:=⟨_,rfl⟩;rw[hs]at hs1 HV HD hlt2⊢;have HF:=Hq (show bitB n i=(((d / 2 ^ (i%8)%2:Nat):Int)==1)from by
    unfold bitB;rw[←HBD.out,Bool.eq_iff_iff];simp only[beq_iff_eq]
    omega)
   have HA:=Hq (show bits .and .i64 ((d:Int) / 2 ^ (i%8)) 1=((d / 2 ^ (i%8)%2:Nat):Int)from by
    rw[←band1 (x:=d / 2 ^ (i%8)) (Nat.lt_of_le_of_lt (Nat.div_le_self _ _) hd)]
    simp)
   clear hs hde hn hlt;go_enter Tryz.func83,Tryz.ntmps83;go_wp2_with fail;refine(nat_Valid s (by omega) _).mono ?_;rintro e w1 ⟨rfl,rfl⟩;rw[HV.out];go_wp2_with fail;refine(HD.out _).mono ?_;rintro e w1 ⟨rfl,rfl⟩;go_wp2;rw[HA.out];go_ret;exact⟨by rw[HF.out];rfl,rfl⟩
 · have hlt2:¬ ((i:Int) / 8<((nS n).size:Int)):=by omega
   have HZ:=Hq (show bitB n i=false from by
    unfold bitB;rw[←bit_dig,dig_beyond (by rw[←nS_size];omega)]
    simp)
   obtain⟨s,hs⟩:∃ s,nS n=s:=⟨_,rfl⟩;rw[hs]at hs1 HV HD hlt2⊢;clear hs hn hlt;go_enter Tryz.func83,Tryz.ntmps83;go_wp2_with fail;refine(nat_Valid s (by omega) _).mono ?_;rintro e w1 ⟨rfl,rfl⟩;rw[HV.out];go_wp2;go_ret;exact⟨by rw[HZ.out];rfl,rfl⟩
theorem r01_one(n i:Nat)(hs1:(nS n).size≤1000)(hi:i<100000)(w:World):Calls Tryz.prog 69 #[.string (nS n),.int .i64 i] w (RetQ (.bool (bitB n i)) w):=by
 have HD:=Hq (r01_at n (i / 8) hs1);have hi0:(0:Int)≤(i:Int):=by omega
 have hd:=dig_lt n (i / 8);have HBD:=Hq (bit_dig n i);obtain⟨d,hde⟩:∃ d,dig n (i / 8)=d:=⟨_,rfl⟩;rw[hde]at hd HBD HD;obtain⟨s,hs⟩:∃ s,nS n=s:=⟨_,rfl⟩;rw[hs]at HD⊢;clear hs hde hs1;go_enter Tryz.func69,Tryz.ntmps69;go_wp2_with fail;refine(HD.out _).mono ?_;rintro e w1 ⟨rfl,rfl⟩;go_wp2
 go_loop [5,6] (fun x k=>∃ j:Nat,j≤i%8∧k=.int .i64 j∧x=.int .i64 ((d / 2 ^ j:Nat):Int)) (fun _ k=>8 - (intOf k).toNat)
 case atStart=>exact⟨0,Nat.zero_le _,rfl,by simp⟩
 case round =>
  obtain⟨j,hj,rfl,rfl⟩:=hrel;obtain⟨x,hx⟩:∃ x,d / 2 ^ j=x:=⟨_,rfl⟩;have hxl:x≤d:=by rw[←hx];exact Nat.div_le_self _ _
  have HX:=Hq hx;rw[hx];clear hx;by_cases hlt:j<i%8
  · have hlt2:(j:Int)<(i:Int)%8:=by omega
    go_wp2;go_round;case rel=>exact⟨j+1,by omega,by go_num,by rw[Nat.pow_succ,←Nat.div_div_eq_div_mul,HX.out];go_num⟩
    case measure=>simp[intOf];omega
  · obtain rfl:j=i%8:=by omega
    have hlt2:¬ (((i%8:Nat):Int)<(i:Int)%8):=by omega
    have HF:=Hq (show bitB n i=((x:Int)%2==1)from by
     unfold bitB;rw[←HBD.out,HX.out];rw[Bool.eq_iff_iff];simp only[beq_iff_eq]
     omega)
    go_wp2;go_ret;exact⟨by rw[HF.out];rfl,rfl⟩
theorem blen_half{x:Nat}(h:0<x):blen x=blen (x / 2)+1:=by
 have h1:=blen_lt (x / 2);by_cases h0:x / 2=0
 · have : x=1:=by omega
   subst this;decide
 · have h2:=blen_le (n:=x / 2) (by omega);obtain⟨k,hk⟩:∃ k,blen (x / 2)=k+1:=⟨(x / 2).log2,by unfold blen;rw[if_neg h0]⟩;rw[hk]at h1 h2⊢;rw[Nat.add_sub_cancel]at h2;exact blen_of (by rw[Nat.pow_succ];omega) (by rw[Nat.pow_succ];omega)
theorem blen_le8{n k:Nat}(hn:n<256 ^ k):blen n≤8 * k:=by
 rcases Nat.eq_zero_or_pos n with e | e
 · rw[e];exact Nat.zero_le _
 · have h1:=blen_le e;rcases Nat.lt_or_ge (8 * k) (blen n)with h | h
   · have h2:(2:Nat) ^ (8 * k)≤2 ^ (blen n - 1):=Nat.pow_le_pow_right (by decide) (by omega);rw[Nat.pow_mul,show (2:Nat) ^ 8=256 from rfl]at h2;omega
   · exact h
theorem blen_zero:blen 0=0:=rfl
theorem blen_byte{x:Nat}(h:x<256):blen x≤8:=by
 unfold blen;split
 · omega
 · have:=(Nat.log2_lt (n:=x) (k:=8) (by assumption)).2 (by omega);omega
theorem r01_bits_core(s:ByteArray)(h:0<s.size)(hs1:s.size≤1000)(b:Nat)(hb:(s[0]).toNat=b)(hb2:b<256)(w:World):Calls Tryz.prog 67 #[.string s] w (RetQ (.int .i64 ((8 * (s.size - 1)+blen b:Nat):Int)) w):=by
 have hem:=sempty_false h;have HB:=Hq hb;have hbl:=blen_byte hb2;obtain⟨z,hz⟩:∃ z,s.size=z+1:=⟨s.size - 1,by omega⟩;obtain⟨c,hc⟩:∃ c,blen b=c:=⟨_,rfl⟩;rw[hc]at hbl⊢;have HC:=Hq hc;have HZ:=Hq (show 8 * (s.size - 1)+c=8 * z+c by omega);rw[HZ.out];have HW:=Hq (show wrap64 (b:Int)=(b:Int)from by simp[wrap64];omega);clear hb hc;go_enter Tryz.func67,Tryz.ntmps67;go_wp2_with fail;rw[HB.out,HW.out]
 go_loop [3,4] (fun t x=>∃ y k:Nat,y<256∧k≤8∧k+blen y=c∧x=.int .i64 y∧t=.int .i64 ((8 * z+k:Nat):Int)) (fun _ x=>(intOf x).toNat)
 case atStart=>exact⟨b,0,hb2,by omega,by have:=HC.out;omega,by go_num,by go_num⟩
 case round =>
  obtain⟨y,k,hy,hk,hyk,rfl,rfl⟩:=hrel;have HY:=Hq hyk;clear hyk;by_cases hlt:0<y
  · have hlt2:(0:Int)<(y:Int):=by omega
    have HH:=Hq (blen_half hlt);go_wp2;go_round;case rel =>
     have h1:=HY.out;have h2:=HH.out;exact⟨y / 2,k+1,by omega,by omega,by omega,by go_num,by go_num⟩
    case measure=>simp[intOf];omega
  · obtain rfl:y=0:=by omega
    have h1:=HY.out;rw[blen_zero]at h1;obtain rfl:k=c:=by omega
    go_wp2;go_ret;exact⟨rfl,rfl⟩
theorem r01_bits(n:Nat)(hs1:(nS n).size≤1000)(w:World):Calls Tryz.prog 67 #[.string (nS n)] w (RetQ (.int .i64 (blen n)) w):=by
 rcases Nat.eq_zero_or_pos n with h0 | h0
 · subst h0;rw[nS_zero];go_enter Tryz.func67,Tryz.ntmps67;go_wp2;go_ret;exact⟨rfl,rfl⟩
 · obtain⟨h,h1,h2,h3⟩:=nS_first h0;rw[h3];exact r01_bits_core (nS n) h hs1 _ rfl h2 w
end Go.Proofs.YtdhnkmbjogmmkaaGreatDoor

import Derived.Test.YtppbcopnfankcaaGreatQExL
set_option linter.unusedVariables false
set_option linter.unusedSimpArgs false
namespace Go.Proofs.YtppbcopnfankcaaGreat
theorem zsd{a q m:Nat}(h:a ^ q%m=1)(hq:0<q):Nat.gcd a m=1:=by
 have h1:Nat.gcd a m ∣ a ^ q:=(by obtain⟨r,rfl⟩:∃ r,q=r+1:=⟨q - 1,by omega⟩;rw[Nat.pow_succ];exact Nat.dvd_trans (Nat.gcd_dvd_left a m) (Nat.dvd_mul_left _ _));have h2:Nat.gcd a m ∣ m * (a ^ q / m):=Nat.dvd_trans (Nat.gcd_dvd_right a m) (Nat.dvd_mul_right _ _);have h3:=Nat.div_add_mod (a ^ q) m;rw[h]at h3;rw[←h3]at h1;exact Nat.dvd_one.1 ((Nat.dvd_add_right h2).1 h1)
theorem zpw{a m:Nat}{x y:Int}(hx:0≤x)(h:(a:Int) * x+m * y=1)(hm:1<m):a * x.natAbs%m=1:=by
 have e:((a * x.natAbs:Nat):Int)=1+m * (-y):=(by rw[Int.natCast_mul,Int.natAbs_of_nonneg hx,Int.mul_neg];omega);have e2:((a * x.natAbs%m:Nat):Int)=1:=(by rw[Int.natCast_emod,e,Int.add_mul_emod_self_left];exact Int.emod_eq_of_lt (by omega) (by omega));omega
theorem zxb{a m x:Nat}(h:a * x%m=1):a * (x%m)%m=1:=by rw[Nat.mul_mod,Nat.mod_mod,←Nat.mul_mod,h]
theorem zmv{a b r0:Nat}{x0 y0:Int}(he:(a:Int) * x0+b * y0=r0)(hx:x0.natAbs * r0≤b)(hr:0<r0)(hrb:r0≤b)(hab:a<b):y0.natAbs≤b:=by
 have hxb:x0.natAbs≤b:=Nat.le_trans (Nat.le_mul_of_pos_right _ hr) hx;have h1:(b * y0.natAbs:Nat)≤r0+a * x0.natAbs:=by
  have e:(b:Int) * y0=r0 - a * x0:=by omega
  have e2:((b:Int) * y0).natAbs=b * y0.natAbs:=by rw[Int.natAbs_mul,Int.natAbs_natCast]
  have e3:((a:Int) * x0).natAbs=a * x0.natAbs:=by rw[Int.natAbs_mul,Int.natAbs_natCast]
  omega
 have h2:a * x0.natAbs≤(b - 1) * b:=Nat.mul_le_mul (by omega) hxb;have h3:(b - 1) * b+b=b * b:=(by obtain⟨c,rfl⟩:∃ c,b=c+1:=⟨b - 1,by omega⟩;rw[Nat.add_sub_cancel,Nat.add_mul c 1 (c+1),Nat.one_mul]);have h4:b * y0.natAbs≤b * b:=by omega
 exact Nat.le_of_mul_le_mul_left h4 (by omega)
set_option maxRecDepth 100000
set_option maxHeartbeats 4000000
open Go.RowKit
def RetE(a b:Nat)(w:World)(e:Ending)(w':World):Prop:=∃ x y:Int,e=.returned (.tuple #[.string (nS (Nat.gcd a b)),intV x,intV y,.int .i64 0])∧Below w.heap.size w w'∧0≤x∧x.natAbs<18446744073709551616∧(a:Int) * x+b * y=Nat.gcd a b
def EIB(W:World)(B:Nat)(x y:Int):Prop:=Bx4 W B (.bool (decide (x<0))) (.string (nS x.natAbs)) (.bool (decide (y<0))) (.string (nS y.natAbs)) 270
def msr(W:World)(B:Nat):Nat:=match W.cell? ⟨B,1,none⟩with
 | some (.string s)=>num s
 | _=>0
theorem zvw{W:World}{B n:Nat}{x:Value}{T:TypeId}(h:Bx2 W B x (.string (nS n)) T):msr W B=n:=by
 unfold msr;rw[h.c1];exact zaa n
def Off2(B:Nat)(W W':World):Prop:=∀ k,k≠B→k≠B+1→W'.heap[k]? =W.heap[k]?
theorem Off2.refl(B:Nat)(W:World):Off2 B W W:=fun _ _ _=>rfl
theorem Off2.cell{B:Nat}{W W':World}(h:Off2 B W W'){p:Addr}{v:Value}(h1:p.block≠B)(h2:p.block≠B+1)(hc:W.cell? p=some v):W'.cell? p=some v:=(World.cell?_of_block (h _ h1 h2)).trans hc
theorem Off2.set{B:Nat}{W W':World}(h:Off2 B W W'){C k:Nat}(hC:C=B∨C=B+1)(v:Value):Off2 B W (W'.setCell ⟨C,k,none⟩ v):=fun j h1 h2=>(heap_setCell_other _ _ _ _ (by rcases hC with e | e<;>(simp only;omega))).trans (h j h1 h2)
theorem Bx4.set2{W:World}{B:Nat}{x y z u a b:Value}{T:TypeId}(h:Bx4 W B x y z u T):Bx4 ((W.setCell ⟨B,0,none⟩ a).setCell ⟨B,1,none⟩ b) B a b z u T:=zl (zl h a) b
theorem zmu{a b r0:Nat}{x0 x1 y0 y1:Int}(h:EInv a b r0 0 x0 x1 y0 y1)(hab:a<b):y0.natAbs≤b:=by
 obtain⟨h1,h2,h3,h4⟩:=h.last (by omega);exact zmv h4 h.lx h2 (by rw[h1];exact Nat.le_of_dvd (by omega) (Nat.gcd_dvd_right a b)) hab
theorem zsj{a b g:Nat}{x y:Int}(hg:g=Nat.gcd a b)(h0:0<g)(hx:x.natAbs≤b / g)(hn:x<0)(h:(a:Int) * x+b * y=g) :
 0≤x+(b / g:Nat)∧(x+(b / g:Nat)).natAbs≤b∧(a:Int) * (x+(b / g:Nat))+b * (y - (a / g:Nat))=g:=by
 have h1:b / g≤b:=Nat.div_le_self _ _;refine⟨by omega,by omega,?_⟩;have ea:a / g * g=a:=Nat.div_mul_cancel (by rw[hg];exact Nat.gcd_dvd_left a b);have eb:b / g * g=b:=Nat.div_mul_cancel (by rw[hg];exact Nat.gcd_dvd_right a b);have e:a * (b / g)=b * (a / g):=by
  conv=>lhs;rw[←ea]
  conv=>rhs;rw[←eb]
  rw[Nat.mul_assoc,Nat.mul_assoc,Nat.mul_comm g,Nat.mul_comm g (a / g),←Nat.mul_assoc,←Nat.mul_assoc,Nat.mul_comm (a / g)]
 have e2:(a:Int) * (b / g:Nat)=b * (a / g:Nat):=by rw[←Int.natCast_mul,←Int.natCast_mul,e]
 rw[Int.mul_add,Int.mul_sub,e2];omega
theorem zlj(a b:Nat)(hab:a<b)(hb8:b<18446744073709551616)(w:World):Calls Tryz.prog 225 #[.string (nS a),.string (nS b)] w (RetE a b w):=by
 have ha8:a<18446744073709551616:=by omega
 have HV1:=Hq (zw ha8);have HV2:=Hq (zw hb8);have hz1:=zk ha8;have hz2:=zk hb8;have hem:=zx (n:=b) (by omega);have HI0:=Hq (zvx 0 (by decide));have HI1:=Hq (zvx 1 (by decide));rw[show intV ((0:Nat):Int)=.agg #[.bool false,.string ⟨#[]⟩]from rfl,show ((0:Nat):Int)=0 from rfl]at HI0;rw[show intV ((1:Nat):Int)=.agg #[.bool false,.string ⟨#[1]⟩]from rfl,show ((1:Nat):Int)=1 from rfl]at HI1;have HST:=Hq (EInv.start (a:=a) (b:=b) (by omega) (by omega));have HB8:=Hq hb8;have HAB:=Hq hab;obtain⟨s,hs⟩:=nm (nS a);obtain⟨t,ht⟩:=nm (nS b);rw[hs]at HV1 hz1⊢;rw[ht]at HV2 hz2 hem⊢;have HS:=Hq hs;have HT:=Hq ht;clear hs ht ha8 hb8 hab;go_enter Tryz.func225,Tryz.ntmps225;go_wp2_with fail;refine(zh s (by omega) _).mono ?_;rintro e w1 ⟨rfl,rfl⟩;rw[HV1.out];go_wp2_with fail;refine(zh t (by omega) _).mono ?_;rintro e w1 ⟨rfl,rfl⟩;rw[HV2.out];go_wp2_with fail;obtain⟨W0,hW0⟩:=nm (((w.alloc (.cells #[.bool false,.string ⟨#[]⟩] 156)).alloc (.cells #[.bool false,.string ⟨#[]⟩] 156)).alloc (.cells #[.string s,.string t] 269));have HX0:=Hq (show Bx2 W0 w.heap.size (.bool false) (.string ⟨#[]⟩) 156 from by
  rw[←hW0]
  exact((Bx2.new w _ _ _).kept ((blr).alloc nlr _) (by simp)).kept ((blr).alloc nlr _) (by simp;omega))
 have HY0:=Hq (show Bx2 W0 (w.heap.size+1) (.bool false) (.string ⟨#[]⟩) 156 from by
  rw[←hW0];have:=Bx2.new (w.alloc (.cells #[.bool false,.string ⟨#[]⟩] 156)) (.bool false) (.string ⟨#[]⟩) 156;rw[World.size_alloc]at this
  exact this.kept ((blr).alloc nlr _) (by simp))
 have HR0:=Hq (show Bx2 W0 (w.heap.size+1+1) (.string s) (.string t) 269 from by
  rw[←hW0];have:=Bx2.new ((w.alloc (.cells #[.bool false,.string ⟨#[]⟩] 156)).alloc (.cells #[.bool false,.string ⟨#[]⟩] 156)) (.string s) (.string t) 269;rw[World.size_alloc,World.size_alloc]at this
  exact this)
 have HB0:=Hq (show Below w.heap.size w W0 from by
  rw[←hW0]
  exact(((Below.refl w.heap.size w).alloc nlr _).alloc (by simp) _).alloc (by simp;omega) _)
 rw[hW0];clear hW0;refine(HI1.out _).mono ?_;rintro e w1 ⟨rfl,hb1⟩;have HU1:=Hq hb1;clear hb1;go_wp2_with fail;refine(HI0.out _).mono ?_;rintro e w2 ⟨rfl,hb2⟩;have HU2:=bt HU1 hb2;clear hb2;go_wp2_with fail;refine(HI0.out _).mono ?_;rintro e w3 ⟨rfl,hb3⟩;have HU3:=bt HU2 hb3;clear hb3;go_wp2_with fail;refine(HI1.out _).mono ?_;rintro e w4 ⟨rfl,hb4⟩;have HU4:=bt HU3 hb4;clear hb4;go_wp2;obtain⟨P,hP⟩:=nm (w4.heap.size);obtain⟨W5,hW5⟩:=nm ((w4.alloc (.cells #[.bool false,.string ⟨#[1]⟩,.bool false,.string ⟨#[]⟩] 270)).alloc (.cells #[.bool false,.string ⟨#[]⟩,.bool false,.string ⟨#[1]⟩] 270));have hU5:Below W0.heap.size W0 W5:=by
  rw[←hW5];exact(HU4.out.alloc HU4.out.size _).alloc (by have:=HU4.out.size;simp;omega) _
 have HX5:=Hq (HX0.out.next hU5);have HY5:=Hq (HY0.out.next hU5);have HR5:=Hq (HR0.out.next hU5);have HB5:=bt HB0 hU5;have HS5:=Hq (show Bx4 W5 P (.bool false) (.string ⟨#[1]⟩) (.bool false) (.string ⟨#[]⟩) 270 from by
  rw[←hW5,←hP]
  exact(Bx4.new w4 _ _ _ _ _).kept ((blr).alloc nlr _) (by simp))
 have HT5:=Hq (show Bx4 W5 (P+1) (.bool false) (.string ⟨#[]⟩) (.bool false) (.string ⟨#[1]⟩) 270 from by
  rw[←hW5,←hP];have:=Bx4.new (w4.alloc (.cells #[.bool false,.string ⟨#[1]⟩,.bool false,.string ⟨#[]⟩] 270)) (.bool false) (.string ⟨#[]⟩) (.bool false) (.string ⟨#[1]⟩) 270;rw[World.size_alloc]at this
  exact this)
 have hPR:w.heap.size+1+1<P:=(by rw[←hP];exact Nat.lt_of_lt_of_le HR0.out.lt HU4.out.size);rw[hW5,hP];clear hW5 hP hU5 HU1 HU2 HU3 HU4;go_loopw [13] (fun _ wr=>∃(r0 r1:Nat) (x0 x1 y0 y1:Int),EInv a b r0 r1 x0 x1 y0 y1∧r0<18446744073709551616∧r1<18446744073709551616∧Bx2 wr (w.heap.size+1+1) (.string (nS r0)) (.string (nS r1)) 269∧EIB wr P x0 x1∧EIB wr (P+1) y0 y1∧Bx2 wr w.heap.size (.bool false) (.string ⟨#[]⟩) 156∧Bx2 wr (w.heap.size+1) (.bool false) (.string ⟨#[]⟩) 156∧Below w.heap.size w wr) (fun _ wr=>msr wr (w.heap.size+1+1));case atStart=>exact⟨a,b,1,0,0,1,HST.out,Nat.lt_trans HAB.out HB8.out,HB8.out,by rw[HS.out,HT.out];exact HR5.out,HS5.out,HT5.out,HX5.out,HY5.out,HB5.out⟩
 case round =>
  obtain⟨r0,r1,x0,x1,y0,y1,hinv,hr0,hr1,hR,hS,hT,hX,hY,hB⟩:=hrel;have HINV:=Hq hinv;have HR:=Hq hR;have HSB:=Hq hS;have HTB:=Hq hT;have HX:=Hq hX;have HY:=Hq hY;have HB:=Hq hB;have HR0:=Hq hr0;have HR1:=Hq hr1;have c0:=hR.c0;have c1:=hR.c1;clear hinv hR hS hT hX hY hB hr0 hr1;by_cases h1:0<r1
  · have hem1:=zx h1;have HSM:=Hq (HINV.out.small h1 18446744073709551616 (Nat.lt_trans HAB.out HB8.out) HB8.out (by decide));have HNX:=Hq (HINV.out.step h1);have HDM:=Hq (zap r0 r1 HR0.out (zg HR1.out) h1);have HQ8:=Hq (show r0 / r1<18446744073709551616 from Nat.lt_of_le_of_lt (Nat.div_le_self _ _) HR0.out);go_wp2_with fail;refine(HDM.out _).mono ?_;rintro ev w6 ⟨rfl,hb6⟩;have HR6:=Hq (HR.out.next hb6);have HS6:=Hq (show EIB w6 P x0 x1 from HSB.out.next hb6);have HT6:=Hq (show EIB w6 (P+1) y0 y1 from HTB.out.next hb6);have HX6:=Hq (HX.out.next hb6);have HY6:=Hq (HY.out.next hb6);have HB6:=bt HB hb6;clear hb6 c0 c1;have c0:=HR6.out.c0;have c1:=HR6.out.c1;have f0:=HR6.out.f0;have f1:=HR6.out.f1;have hlt6:=HR6.out.lt;go_wp2;obtain⟨Q,hQ⟩:=nm (w6.heap.size);obtain⟨W7,hW7⟩:=nm ((((w6.setCell ⟨w.heap.size+1+1,0,none⟩ (.string (nS r1))).setCell ⟨w.heap.size+1+1,1,none⟩ (.string (nS (r0%r1)))).alloc (.cells #[.string (nS (r0 / r1))] 22)));have hQ7:W7.heap[Q]? =some (.cells #[.string (nS (r0 / r1))] 22 (0,0)):=(by rw[←hW7,←hQ];have:=heap_alloc_new ((w6.setCell ⟨w.heap.size+1+1,0,none⟩ (.string (nS r1))).setCell ⟨w.heap.size+1+1,1,none⟩ (.string (nS (r0%r1)))) (.cells #[.string (nS (r0 / r1))] 22);simpa using this);have HR7:=Hq (show Bx2 W7 (w.heap.size+1+1) (.string (nS r1)) (.string (nS (r0%r1))) 269 from by
     rw[←hW7]
     exact HR6.out.set2.next ((blr).alloc nlr _))
    have HS7:=Hq (show EIB W7 P x0 x1 from by
     rw[←hW7]
     exact((Bx4.other HS6.out (by omega) _).other (by omega) _).next ((blr).alloc nlr _))
    have HT7:=Hq (show EIB W7 (P+1) y0 y1 from by
     rw[←hW7]
     exact((Bx4.other HT6.out (by omega) _).other (by omega) _).next ((blr).alloc nlr _))
    have HX7:=Hq (show Bx2 W7 w.heap.size (.bool false) (.string ⟨#[]⟩) 156 from by
     rw[←hW7]
     exact((HX6.out.other (by omega) _).other (by omega) _).next ((blr).alloc nlr _))
    have HY7:=Hq (show Bx2 W7 (w.heap.size+1) (.bool false) (.string ⟨#[]⟩) 156 from by
     rw[←hW7]
     exact((HY6.out.other (by omega) _).other (by omega) _).next ((blr).alloc nlr _))
    have HB7:=Hq (show Below w.heap.size w W7 from by
     rw[←hW7];have h:=(HB6.out.setCell (p:=⟨w.heap.size+1+1,0,none⟩) (by simp;omega) (.string (nS r1))).setCell (p:=⟨w.heap.size+1+1,1,none⟩) (by simp;omega) (.string (nS (r0%r1)))
     exact h.alloc h.size _)
    rw[hW7,hQ];clear hW7 hQ c0 c1 f0 f1 hlt6;obtain⟨s0,s1,s2,s3⟩:=(show Bx4 W7.drew P _ _ _ _ _ from HS7.out).cells;obtain⟨t0,t1,t2,t3⟩:=(show Bx4 W7.drew (P+1) _ _ _ _ _ from HT7.out).cells;have hqc:W7.drew.cell? ⟨Q,0,none⟩=some (.string (nS (r0 / r1))):=by
     have h:W7.drew.heap[Q]? =some (.cells #[.string (nS (r0 / r1))] 22 (0,0)):=hQ7;rw[Lib.cell_of_heap h];rfl
    have HE1:=Hq (zn8 x0 x1 (r0 / r1) Q HSM.out.1 HSM.out.2.1 HQ8.out HSM.out.2.2.2.2.1 W7.drew hqc);have HQ7:=Hq hQ7;unfold arV at HE1;clear hQ7 hqc;refine za 6 (Below (W7.drew).heap.size (W7.drew)) (by kernel_rfl) ?_;refine qPs 0 7 blr ?_;refine qTs 1 6 blr (fun w' hS'=>(And.intro (kc hS' s0) (And.intro (kc hS' s1) (And.intro (kc hS' s2) (And.intro (kc hS' s3) (And.intro (kc hS' t0) (And.intro (kc hS' t1) (And.intro (kc hS' t2) (kc hS' t3))))))))) ?_;refine qPs 3 5 blr ?_;refine qTs 4 4 blr (fun w' hS'=>(And.intro (kc hS' s0) (And.intro (kc hS' s1) (And.intro (kc hS' s2) (And.intro (kc hS' s3) (And.intro (kc hS' t0) (And.intro (kc hS' t1) (And.intro (kc hS' t2) (kc hS' t3))))))))) ?_;refine oO 2 3 ?_;intro K2 hK2;go_wp2_with fail;refine HE1.out.mono ?_;rintro ev w8 ⟨rfl,hb8⟩;have HB2:=Hq hb8;have hqc8:w8.cell? ⟨Q,0,none⟩=some (.string (nS (r0 / r1))):=(by have h:w8.heap[Q]? =some (.cells #[.string (nS (r0 / r1))] 22 (0,0)):=(hb8.block Q (zn HQ7.out)).trans HQ7.out;rw[Lib.cell_of_heap h];rfl);have HE2:=Hq (zn8 y0 y1 (r0 / r1) Q HSM.out.2.2.1 HSM.out.2.2.2.1 HQ8.out HSM.out.2.2.2.2.2 w8 hqc8);unfold arV at HE2;clear hb8 hqc8;go_wp2;refine hK2 _ _ (by exact HB2.out) ?_;clear hK2;intro hS_11_2;refine oO 5 2 ?_;intro K5 hK5;go_wp2_with fail;refine HE2.out.mono ?_;rintro ev w9 ⟨rfl,hb9⟩;have HB5:=Hq hb9;have HS9:=Hq (show EIB w9 P x0 x1 from Bx4.next (Bx4.next (show Bx4 W7.drew P _ _ _ _ _ from HS7.out) HB2.out) hb9);have HT9:=Hq (show EIB w9 (P+1) y0 y1 from Bx4.next (Bx4.next (show Bx4 W7.drew (P+1) _ _ _ _ _ from HT7.out) HB2.out) hb9);clear hb9;obtain⟨a0,a1,a2,a3⟩:=HS9.out.cells;obtain⟨b0,b1,b2,b3⟩:=HT9.out.cells;have af0:=HS9.out.free 0;have af1:=HS9.out.free 1;have af2:=HS9.out.free 2;have af3:=HS9.out.free 3;have bf0:=HT9.out.free 0;have bf1:=HT9.out.free 1;have bf2:=HT9.out.free 2;have bf3:=HT9.out.free 3;go_wp2;refine hK5 _ _ (by exact Below.trans hS_11_2 (Below.mono HB5.out (Below.size hS_11_2))) ?_;clear hK5;intro hS_11_5;refine oT 6 1 ?_;intro K6 hK6;go_wp2;refine hK6 _ _ ?_;clear hK6;refine oT 7 0 ?_;intro K7 hK7;go_wp2;refine hK7 _ _ ?_;clear hK7;refine wDn ?_;have hn:=HNX.out;rw[Int.natCast_ediv]at hn;have HN:=Hq hn;have hb9:Below W7.heap.size W7 w9:=(jq HB2.out).trans (HB5.out.mono (jq HB2.out).size);have HR9:=Hq (HR7.out.next hb9);have HX9:=Hq (HX7.out.next hb9);have HY9:=Hq (HY7.out.next hb9);have HB9:=bt HB7 hb9;have hPw:w.heap.size≤P:=by omega
    clear hn hb9 s0 s1 s2 s3 t0 t1 t2 t3 a0 a1 a2 a3 b0 b1 b2 b3 af0 af1 af2 af3 bf0 bf1 bf2 bf3;go_wp2;go_roundw;case rel =>
     refine⟨r1,r0%r1,x1,_,y1,_,HN.out,HR1.out,Nat.lt_trans (Nat.mod_lt _ h1) HR1.out,?_,?_,?_,?_,?_,?_⟩
     · exact((((((((HR9.out.other (by omega) _).other (by omega) _).other (by omega) _).other (by omega) _).other (by omega) _).other (by omega) _).other (by omega) _).other (by omega) _)
     · exact((((Bx4.set4 HS9.out).other (by omega) _).other (by omega) _).other (by omega) _).other (by omega) _
     · exact Bx4.set4 ((((Bx4.other HT9.out (by omega) _).other (by omega) _).other (by omega) _).other (by omega) _)
     · exact((((((((HX9.out.other (by omega) _).other (by omega) _).other (by omega) _).other (by omega) _).other (by omega) _).other (by omega) _).other (by omega) _).other (by omega) _)
     · exact((((((((HY9.out.other (by omega) _).other (by omega) _).other (by omega) _).other (by omega) _).other (by omega) _).other (by omega) _).other (by omega) _).other (by omega) _)
     · exact(((((((HB9.out.setCell (p:=⟨P,0,none⟩) hPw _).setCell (p:=⟨P,1,none⟩) hPw _).setCell (p:=⟨P,2,none⟩) hPw _).setCell (p:=⟨P,3,none⟩) hPw _).setCell (p:=⟨P+1,0,none⟩) (by simp;omega) _).setCell (p:=⟨P+1,1,none⟩) (by simp;omega) _).setCell (p:=⟨P+1,2,none⟩) (by simp;omega) _).setCell (p:=⟨P+1,3,none⟩) (by simp;omega) _
    case measure =>
     rw[zvw HR.out,zvw ((((((((HR9.out.other (by omega) _).other (by omega) _).other (by omega) _).other (by omega) _).other (by omega) _).other (by omega) _).other (by omega) _).other (by omega) _)];exact Nat.mod_lt _ h1
  · obtain rfl:r1=0:=by omega
    obtain⟨hg,hg0,hxb,hbz⟩:=HINV.out.last (show 0<b by have:=HAB.out;omega);have hem0:(nS 0).toList.isEmpty=true:=zz rfl;have HG:=Hq hg;have HG0:=Hq hg0;have HXB:=Hq hxb;have HBZ:=Hq hbz;obtain⟨s0,s1,s2,s3⟩:=(show Bx4 wr P _ _ _ _ _ from HSB.out).cells;clear hg hg0 hxb hbz;by_cases hneg:x0<0
    · have hd:decide (x0<0)=true:=decide_eq_true hneg;have HDM1:=Hq (zap b r0 HB8.out (zg HR0.out) HG0.out);have HDM2:=Hq (zap a r0 (Nat.lt_trans HAB.out HB8.out) (zg HR0.out) HG0.out);rw[HT.out]at HDM1;rw[HS.out]at HDM2;rw[hd]at s0;go_wp2_with fail;refine(HDM1.out _).mono ?_;rintro ev w6 ⟨rfl,hb6⟩;have HU6:=Hq hb6;clear hb6;go_wp2_with fail;refine(HDM2.out _).mono ?_;rintro ev w7 ⟨rfl,hb7⟩;have HU7:=bt HU6 hb7;clear hb7 s0 s1 s2 s3 c0 c1;go_wp2;have HSW:=Hq (show Bx4 w7 P (.bool (decide (x0<0))) (.string (nS x0.natAbs)) (.bool (decide (x1<0))) (.string (nS x1.natAbs)) 270 from Bx4.next HSB.out HU7.out);have HTW:=Hq (show Bx4 w7 (P+1) (.bool (decide (y0<0))) (.string (nS y0.natAbs)) (.bool (decide (y1<0))) (.string (nS y1.natAbs)) 270 from Bx4.next HTB.out HU7.out);have HXW:=Hq (HX.out.next HU7.out);have HYW:=Hq (HY.out.next HU7.out);have HBW:=bt HB HU7.out;have HSH:=Hq (zsj HG.out HG0.out HXB.out hneg HBZ.out);have HYS:=Hq (zmu HINV.out HAB.out);have hqb:b / r0<18446744073709551616:=Nat.lt_of_le_of_lt (Nat.div_le_self _ _) HB8.out;have hqa:a / r0<18446744073709551616:=Nat.lt_of_le_of_lt (Nat.div_le_self _ _) (Nat.lt_trans HAB.out HB8.out);have HFX:=Hq (zeg (b / r0) (zg hqb));have HFY:=Hq (zeg (a / r0) (zg hqa));have HAX:=Hq (zr9 x0 (b / r0:Nat) (Nat.lt_of_le_of_lt (Nat.le_trans HXB.out (Nat.div_le_self _ _)) HB8.out) (by rw[Int.natAbs_natCast];exact hqb));have HAY:=Hq (zr8 y0 (a / r0:Nat) (Nat.lt_of_le_of_lt HYS.out HB8.out) (by rw[Int.natAbs_natCast];exact hqa));have e1:decide (((b / r0:Nat):Int)<0)=false:=decide_eq_false (Int.not_lt.2 (Int.natCast_nonneg _));have e2:decide (((a / r0:Nat):Int)<0)=false:=decide_eq_false (Int.not_lt.2 (Int.natCast_nonneg _));have e3:decide (x0+((b / r0:Nat):Int)<0)=false:=decide_eq_false (by have:=HSH.out.1;omega);unfold intV zV at HFX HAX HFY HAY;rw[e1,Int.natAbs_natCast]at HFX HAX;rw[e2,Int.natAbs_natCast]at HFY HAY;rw[e3]at HAX;have HZ:=Hq HSH.out.1;have HXS:=Hq (Nat.lt_of_le_of_lt HSH.out.2.1 HB8.out);have HBE:=Hq HSH.out.2.2;clear e1 e2 e3 hqb hqa hneg hd HSB HTB HX HY HB HU6 HU7 HSH HYS HDM1 HDM2 HXB HBZ HINV HI0 HI1 HST;obtain⟨xe,hxe⟩:∃ xe:Int,x0+((b / r0:Nat):Int)=xe:=⟨_,rfl⟩;obtain⟨ye,hye⟩:∃ ye:Int,y0 - ((a / r0:Nat):Int)=ye:=⟨_,rfl⟩;rw[hxe]at HAX HZ HXS HBE;rw[hye]at HAY HBE;clear hxe hye;obtain⟨rx,hrx⟩:=nm (nS xe.natAbs);obtain⟨ry,hry⟩:=nm (nS ye.natAbs);obtain⟨cy,hcy⟩:=nm (decide (ye<0));obtain⟨ax,hax⟩:=nm (decide (x0<0));obtain⟨ay,hay⟩:=nm (decide (y0<0));obtain⟨sx,hsx⟩:=nm (nS x0.natAbs);obtain⟨sy,hsy⟩:=nm (nS y0.natAbs);rw[hrx]at HAX;rw[hry,hcy]at HAY;rw[hax,hsx]at HAX HSW;rw[hay,hsy]at HAY HTW;have HRX:=Hq hrx;have HRY:=Hq hry;have HCY:=Hq hcy;clear hrx hry hcy hax hay hsx hsy;obtain⟨wdx,hwdx⟩:=nm (w7.drew);have hqx:=HSW.out;replace hqx:=(show Bx4 w7.drew (P) _ _ _ _ _ from hqx);rw[hwdx]at hqx;have HQx:=Hq hqx;obtain⟨s0,s1,_,_⟩:=hqx.cells;clear hqx;refine za 9 (Below (wdx).heap.size (wdx)) (by kernel_rfl) ?_;rw[hwdx];refine qPs 0 9 blr ?_;refine qTs 1 8 blr (fun w' hS'=>(And.intro (kc hS' s0) (kc hS' s1))) ?_;refine qPs 2 7 blr ?_;refine oO 3 6 ?_;intro K3 hK3;go_wp2_with fail;refine(HFX.out _).mono ?_;rintro ev wfx ⟨rfl,hbf⟩;have HB3:=Hq hbf;clear hbf;go_wp2;refine hK3 _ _ (by exact HB3.out) ?_;clear hK3;intro hS_16_3;refine oO 4 5 ?_;intro K4 hK4;go_wp2_with fail;refine(HAX.out _).mono ?_;rintro ev wgx ⟨rfl,hbg⟩;have HB4:=Hq hbg;have HUx:=bt HB3 hbg;have HRx:=Hq (HQx.out.kept HUx.out HQx.out.lt);clear hbg;obtain⟨a0,a1,_,_⟩:=HRx.out.cells;have af0:=HRx.out.free 0;have af1:=HRx.out.free 1;go_wp2;refine hK4 _ _ (by exact Below.trans hS_16_3 (Below.mono HB4.out (Below.size hS_16_3))) ?_;clear hK4;intro hS_16_4;refine qPs 5 4 hS_16_4 ?_;refine qPs 6 3 hS_16_4 ?_;refine qPs 7 2 hS_16_4 ?_;refine qPs 8 1 hS_16_4 ?_;refine oT 9 0 ?_;intro K9 hK9;go_wp2;refine hK9 _ _ ?_;clear hK9;refine wDn ?_;go_wp2;obtain⟨W8,hW8⟩:=nm ((wgx.setCell ⟨P,0,none⟩ (.bool false)).setCell ⟨P,1,none⟩ (.string rx));have HS8:=Hq (show Bx4 W8 P (.bool false) (.string rx) _ _ _ from by rw[←hW8];exact HRx.out.set2);have HT8:=Hq (show Bx4 W8 (P+1) (.bool ay) (.string sy) (.bool (decide (y1<0))) (.string (nS y1.natAbs)) 270 from by rw[←hW8];exact((Bx4.next (show Bx4 wdx (P+1) _ _ _ _ _ from by rw[←hwdx];exact HTW.out) HUx.out).other (by omega) _).other (by omega) _);have HX8:=Hq (show Bx2 W8 w.heap.size (.bool false) (.string ⟨#[]⟩) 156 from by rw[←hW8];exact((Bx2.next (show Bx2 wdx _ _ _ _ from by rw[←hwdx];exact HXW.out) HUx.out).other (by omega) _).other (by omega) _);have HY8:=Hq (show Bx2 W8 (w.heap.size+1) (.bool false) (.string ⟨#[]⟩) 156 from by rw[←hW8];exact((Bx2.next (show Bx2 wdx _ _ _ _ from by rw[←hwdx];exact HYW.out) HUx.out).other (by omega) _).other (by omega) _);have HB8':=Hq (show Below w.heap.size w W8 from by
       rw[←hW8];have hbd:Below w.heap.size w wdx:=by rw[←hwdx];exact HBW.out.drew
       exact((hbd.trans (HUx.out.mono hbd.size)).setCell (p:=⟨P,0,none⟩) (by simp;omega) _).setCell (p:=⟨P,1,none⟩) (by simp;omega) _)
      rw[hW8];clear hW8 HSW HTW HXW HYW HBW HRx HUx HQx HB3 HB4 s0 s1 a0 a1 af0 af1 hwdx;obtain⟨wdy,hwdy⟩:=nm (W8.drew);have hqy:=HT8.out;replace hqy:=(show Bx4 W8.drew (P+1) _ _ _ _ _ from hqy);rw[hwdy]at hqy;have HQy:=Hq hqy;obtain⟨s0,s1,_,_⟩:=hqy.cells;clear hqy;refine za 9 (Below (wdy).heap.size (wdy)) (by kernel_rfl) ?_;rw[hwdy];refine qPs 0 9 blr ?_;refine qTs 1 8 blr (fun w' hS'=>(And.intro (kc hS' s0) (kc hS' s1))) ?_;refine qPs 2 7 blr ?_;refine oO 3 6 ?_;intro K3 hK3;go_wp2_with fail;refine(HFY.out _).mono ?_;rintro ev wfy ⟨rfl,hbf⟩;have HB3:=Hq hbf;clear hbf;go_wp2;refine hK3 _ _ (by exact HB3.out) ?_;clear hK3;intro hS_17_3;refine oO 4 5 ?_;intro K4 hK4;go_wp2_with fail;refine(HAY.out _).mono ?_;rintro ev wgy ⟨rfl,hbg⟩;have HB4:=Hq hbg;have HUy:=bt HB3 hbg;have HRy:=Hq (HQy.out.kept HUy.out HQy.out.lt);clear hbg;obtain⟨a0,a1,_,_⟩:=HRy.out.cells;have af0:=HRy.out.free 0;have af1:=HRy.out.free 1;go_wp2;refine hK4 _ _ (by exact Below.trans hS_17_3 (Below.mono HB4.out (Below.size hS_17_3))) ?_;clear hK4;intro hS_17_4;refine qPs 5 4 hS_17_4 ?_;refine qPs 6 3 hS_17_4 ?_;refine qPs 7 2 hS_17_4 ?_;refine qPs 8 1 hS_17_4 ?_;refine oT 9 0 ?_;intro K9 hK9;go_wp2;refine hK9 _ _ ?_;clear hK9;refine wDn ?_;go_wp2;obtain⟨W9,hW9⟩:=nm ((wgy.setCell ⟨P+1,0,none⟩ (.bool cy)).setCell ⟨P+1,1,none⟩ (.string ry));have HT9:=Hq (show Bx4 W9 (P+1) (.bool cy) (.string ry) _ _ _ from by rw[←hW9];exact HRy.out.set2);have HS9:=Hq (show Bx4 W9 P (.bool false) (.string rx) (.bool (decide (x1<0))) (.string (nS x1.natAbs)) 270 from by rw[←hW9];exact((Bx4.next (show Bx4 wdy P _ _ _ _ _ from by rw[←hwdy];exact HS8.out) HUy.out).other (by omega) _).other (by omega) _);have HX9:=Hq (show Bx2 W9 w.heap.size (.bool false) (.string ⟨#[]⟩) 156 from by rw[←hW9];exact((Bx2.next (show Bx2 wdy _ _ _ _ from by rw[←hwdy];exact HX8.out) HUy.out).other (by omega) _).other (by omega) _);have HY9:=Hq (show Bx2 W9 (w.heap.size+1) (.bool false) (.string ⟨#[]⟩) 156 from by rw[←hW9];exact((Bx2.next (show Bx2 wdy _ _ _ _ from by rw[←hwdy];exact HY8.out) HUy.out).other (by omega) _).other (by omega) _);have HB9:=Hq (show Below w.heap.size w W9 from by
       rw[←hW9];have hbd:Below w.heap.size w wdy:=by rw[←hwdy];exact HB8'.out.drew
       exact((hbd.trans (HUy.out.mono hbd.size)).setCell (p:=⟨P+1,0,none⟩) (by simp;omega) _).setCell (p:=⟨P+1,1,none⟩) (by simp;omega) _)
      rw[hW9];clear hW9 HS8 HT8 HX8 HY8 HB8' HRy HUy HQy HB3 HB4 s0 s1 a0 a1 af0 af1 hwdy;have erx:=HRX.out;have ery:=HRY.out;have ecy:=HCY.out;subst erx ery ecy;obtain⟨wd,hwd⟩:=nm (W9.drew);obtain⟨s0,s1,s2,s3⟩:=(show Bx4 wd P _ _ _ _ _ from by rw[←hwd];exact HS9.out).cells;obtain⟨t0,t1,t2,t3⟩:=(show Bx4 wd (P+1) _ _ _ _ _ from by rw[←hwd];exact HT9.out).cells;have HXd:=Hq (show Bx2 wd w.heap.size (.bool false) (.string ⟨#[]⟩) 156 from by rw[←hwd];exact HX9.out);have HYd:=Hq (show Bx2 wd (w.heap.size+1) (.bool false) (.string ⟨#[]⟩) 156 from by rw[←hwd];exact HY9.out);have HBd:=Hq (show Below w.heap.size w wd from by rw[←hwd];exact HB9.out.drew);have xf0:=HXd.out.f0;have xf1:=HXd.out.f1;have yf0:=HYd.out.f0;have yf1:=HYd.out.f1;have xc0:=HXd.out.c0;have xc1:=HXd.out.c1;have yc0:=HYd.out.c0;have yc1:=HYd.out.c1;refine za 9 (Off2 w.heap.size wd) (by kernel_rfl) ?_;rw[hwd];refine qPs 0 8 (Off2.refl _ _) ?_;refine qPs 1 7 (Off2.refl _ _) ?_;refine qS 2 6 (Off2.refl _ _) (fun w' hS'=>(And.intro (hS'.cell (by simp;omega) (by simp;omega) s0) (And.intro (hS'.cell (by simp;omega) (by simp;omega) s1) (And.intro (hS'.cell (by simp;omega) (by simp;omega) t0) (hS'.cell (by simp;omega) (by simp;omega) t1))))) ?_;simp only[Act.put,sqA,sqB,sqC];refine qPs 3 5 (Off2.refl _ _) ?_;refine qS 4 4 (Off2.refl _ _) (fun w' hS'=>(And.intro (hS'.cell (by simp;omega) (by simp;omega) s0) (And.intro (hS'.cell (by simp;omega) (by simp;omega) s1) (And.intro (hS'.cell (by simp;omega) (by simp;omega) t0) (hS'.cell (by simp;omega) (by simp;omega) t1))))) ?_;simp only[Act.put,sqA,sqB,sqC];refine oO 5 3 ?_;intro K5 hK5;go_wp2;refine hK5 _ _ (by exact(Off2.refl _ _)) ?_;clear hK5;intro hS_18_5;refine oO 6 2 ?_;intro K6 hK6;go_wp2;refine hK6 _ _ (by exact(Off2.set hS_18_5 (.inl rfl) _).set (.inl rfl) _) ?_;clear hK6;intro hS_18_6;refine oO 7 1 ?_;intro K7 hK7;go_wp2;refine hK7 _ _ (by exact(Off2.set hS_18_6 (.inr rfl) _).set (.inr rfl) _) ?_;clear hK7;intro hS_18_7;refine oO 8 0 ?_;intro K8 hK8;go_wp2;refine hK8 _ _ (by exact hS_18_7) ?_;clear hK8;intro hS_18_8;refine wDn ?_;go_wp2;obtain⟨q0,q1⟩:_∧_:=⟨(((HXd.out.set2 (u:=.bool false) (v:=.string (nS (xe).natAbs))).other (C:=w.heap.size+1) (k:=0) (by omega) (.bool (decide (ye<0)))).other (C:=w.heap.size+1) (k:=1) (by omega) (.string (nS (ye).natAbs))).c0,(((HXd.out.set2 (u:=.bool false) (v:=.string (nS (xe).natAbs))).other (C:=w.heap.size+1) (k:=0) (by omega) (.bool (decide (ye<0)))).other (C:=w.heap.size+1) (k:=1) (by omega) (.string (nS (ye).natAbs))).c1⟩;obtain⟨q2,q3⟩:_∧_:=⟨(((HYd.out.other (C:=w.heap.size) (k:=0) (by omega) (.bool false)).other (C:=w.heap.size) (k:=1) (by omega) (.string (nS (xe).natAbs))).set2 (u:=.bool (decide (ye<0))) (v:=.string (nS (ye).natAbs))).c0,(((HYd.out.other (C:=w.heap.size) (k:=0) (by omega) (.bool false)).other (C:=w.heap.size) (k:=1) (by omega) (.string (nS (xe).natAbs))).set2 (u:=.bool (decide (ye<0))) (v:=.string (nS (ye).natAbs))).c1⟩;have HBf:=(((HBd.out.setCell (p:=⟨w.heap.size,0,none⟩) nlr (.bool false)).setCell (p:=⟨w.heap.size,1,none⟩) nlr (.string (nS (xe).natAbs))).setCell (p:=⟨w.heap.size+1,0,none⟩) (by simp) (.bool (decide (ye<0)))).setCell (p:=⟨w.heap.size+1,1,none⟩) (by simp) (.string (nS (ye).natAbs));refine bodyPost_ret (v:=.tuple #[.string (nS r0),.agg #[.bool false,.string (nS (xe).natAbs)],.agg #[.bool (decide (ye<0)),.string (nS (ye).natAbs)],.int .i64 0]) (by simp[results,Tryz.results225,go_sem,q0,q1,q2,q3]) rfl ⟨xe,ye,?_,HBf,HZ.out,HXS.out,?_⟩
      · rw[←HG.out,zjk,zjk,show decide (xe<0)=false from decide_eq_false (by have:=HZ.out;omega)];rfl
      · rw[←HG.out];exact HBE.out
    · have hd:decide (x0<0)=false:=decide_eq_false hneg;rw[hd]at s0;go_wp2;have HZ:=Hq (show 0≤x0 by omega);have HBE:=Hq HBZ.out;have HXS:=Hq (show x0.natAbs<18446744073709551616 from Nat.lt_of_le_of_lt (Nat.le_trans HXB.out (Nat.div_le_self _ _)) HB8.out);obtain⟨wd,hwd⟩:=nm (wr.drew);obtain⟨s0,s1,s2,s3⟩:=(show Bx4 wd P _ _ _ _ _ from by rw[←hwd];exact HSB.out).cells;obtain⟨t0,t1,t2,t3⟩:=(show Bx4 wd (P+1) _ _ _ _ _ from by rw[←hwd];exact HTB.out).cells;have HXd:=Hq (show Bx2 wd w.heap.size (.bool false) (.string ⟨#[]⟩) 156 from by rw[←hwd];exact HX.out);have HYd:=Hq (show Bx2 wd (w.heap.size+1) (.bool false) (.string ⟨#[]⟩) 156 from by rw[←hwd];exact HY.out);have HBd:=Hq (show Below w.heap.size w wd from by rw[←hwd];exact HB.out.drew);have xf0:=HXd.out.f0;have xf1:=HXd.out.f1;have yf0:=HYd.out.f0;have yf1:=HYd.out.f1;have xc0:=HXd.out.c0;have xc1:=HXd.out.c1;have yc0:=HYd.out.c0;have yc1:=HYd.out.c1;refine za 9 (Off2 w.heap.size wd) (by kernel_rfl) ?_;rw[hwd];refine qPs 0 8 (Off2.refl _ _) ?_;refine qPs 1 7 (Off2.refl _ _) ?_;refine qS 2 6 (Off2.refl _ _) (fun w' hS'=>(And.intro (hS'.cell (by simp;omega) (by simp;omega) s0) (And.intro (hS'.cell (by simp;omega) (by simp;omega) s1) (And.intro (hS'.cell (by simp;omega) (by simp;omega) t0) (hS'.cell (by simp;omega) (by simp;omega) t1))))) ?_;simp only[Act.put,sqA,sqB,sqC];refine qPs 3 5 (Off2.refl _ _) ?_;refine qS 4 4 (Off2.refl _ _) (fun w' hS'=>(And.intro (hS'.cell (by simp;omega) (by simp;omega) s0) (And.intro (hS'.cell (by simp;omega) (by simp;omega) s1) (And.intro (hS'.cell (by simp;omega) (by simp;omega) t0) (hS'.cell (by simp;omega) (by simp;omega) t1))))) ?_;simp only[Act.put,sqA,sqB,sqC];refine oO 5 3 ?_;intro K5 hK5;go_wp2;refine hK5 _ _ (by exact(Off2.refl _ _)) ?_;clear hK5;intro hS_18_5;refine oO 6 2 ?_;intro K6 hK6;go_wp2;refine hK6 _ _ (by exact(Off2.set hS_18_5 (.inl rfl) _).set (.inl rfl) _) ?_;clear hK6;intro hS_18_6;refine oO 7 1 ?_;intro K7 hK7;go_wp2;refine hK7 _ _ (by exact(Off2.set hS_18_6 (.inr rfl) _).set (.inr rfl) _) ?_;clear hK7;intro hS_18_7;refine oO 8 0 ?_;intro K8 hK8;go_wp2;refine hK8 _ _ (by exact hS_18_7) ?_;clear hK8;intro hS_18_8;refine wDn ?_;go_wp2;obtain⟨q0,q1⟩:_∧_:=⟨(((HXd.out.set2 (u:=.bool false) (v:=.string (nS (x0).natAbs))).other (C:=w.heap.size+1) (k:=0) (by omega) (.bool (decide (y0<0)))).other (C:=w.heap.size+1) (k:=1) (by omega) (.string (nS (y0).natAbs))).c0,(((HXd.out.set2 (u:=.bool false) (v:=.string (nS (x0).natAbs))).other (C:=w.heap.size+1) (k:=0) (by omega) (.bool (decide (y0<0)))).other (C:=w.heap.size+1) (k:=1) (by omega) (.string (nS (y0).natAbs))).c1⟩;obtain⟨q2,q3⟩:_∧_:=⟨(((HYd.out.other (C:=w.heap.size) (k:=0) (by omega) (.bool false)).other (C:=w.heap.size) (k:=1) (by omega) (.string (nS (x0).natAbs))).set2 (u:=.bool (decide (y0<0))) (v:=.string (nS (y0).natAbs))).c0,(((HYd.out.other (C:=w.heap.size) (k:=0) (by omega) (.bool false)).other (C:=w.heap.size) (k:=1) (by omega) (.string (nS (x0).natAbs))).set2 (u:=.bool (decide (y0<0))) (v:=.string (nS (y0).natAbs))).c1⟩;have HBf:=(((HBd.out.setCell (p:=⟨w.heap.size,0,none⟩) nlr (.bool false)).setCell (p:=⟨w.heap.size,1,none⟩) nlr (.string (nS (x0).natAbs))).setCell (p:=⟨w.heap.size+1,0,none⟩) (by simp) (.bool (decide (y0<0)))).setCell (p:=⟨w.heap.size+1,1,none⟩) (by simp) (.string (nS (y0).natAbs));refine bodyPost_ret (v:=.tuple #[.string (nS r0),.agg #[.bool false,.string (nS (x0).natAbs)],.agg #[.bool (decide (y0<0)),.string (nS (y0).natAbs)],.int .i64 0]) (by simp[results,Tryz.results225,go_sem,q0,q1,q2,q3]) rfl ⟨x0,y0,?_,HBf,HZ.out,HXS.out,?_⟩
      · rw[←HG.out,zjk,zjk,show decide (x0<0)=false from decide_eq_false (by have:=HZ.out;omega)];rfl
      · rw[←HG.out];exact HBE.out
set_option maxRecDepth 100000
set_option maxHeartbeats 1000000
def RetI(a m:Nat)(w:World)(e:Ending)(w':World):Prop:=∃ x:Nat,e=.returned (.tuple #[.string (nS x),.int .i64 0])∧Below w.heap.size w w'∧x<m∧a * x%m=1
theorem zmm(a m:Nat)(ham:a<m)(hm8:m<18446744073709551616)(h1:1<m)(hg:Nat.gcd a m=1)(w:World):Calls Tryz.prog 174 #[.string (nS a),.string (nS m)] w (RetI a m w):=by
 have ha8:a<18446744073709551616:=by omega
 have HC:=Hq (fun w=>zsv w (nS a) (nS m) _ rfl (zw ha8) (zw hm8) (zx (by omega)) _ rfl);have HR:=Hq (za5 a m ha8 (zg hm8) (by omega));rw[Nat.mod_eq_of_lt ham]at HR;have HE:=Hq (zlj a m ham hm8);have HRX:=Hq (fun x (hx:x<18446744073709551616)=>za5 x m hx (zg hm8) (by omega));have HG:=Hq hg;have HM1:=Hq h1;obtain⟨s,hs⟩:=nm (nS a);obtain⟨t,ht⟩:=nm (nS m);rw[hs,ht]at HC HR HE;rw[ht]at HRX;rw[hs,ht];clear hs ht ham hm8 h1 hg ha8;go_enter Tryz.func174,Tryz.ntmps174;go_wp2_with fail;refine(HC.out w).mono ?_;rintro e w1 ⟨rfl,hb1⟩;have HB1:=Hq ((((Below.refl w.heap.size w).alloc nlr _).alloc (by simp) _).trans hb1);clear hb1;go_wp2_with fail;refine(HR.out _).mono ?_;rintro e w2 ⟨rfl,hb2⟩;have HB2:=bt HB1 hb2;clear hb2;go_wp2_with fail;refine(HE.out _).mono ?_;rintro e w3 ⟨x,y,rfl,hb3,hx0,hx8,hbz⟩;have HB3:=bt HB2 hb3;rw[HG.out]at hbz;have HI:=Hq (zxb (zpw hx0 hbz HM1.out));have HRR:=Hq (HRX.out x.natAbs hx8);rw[HG.out,zvv];unfold intV zV;have HML:=Hq (show x.natAbs%m<m from Nat.mod_lt _ (by have:=HM1.out;omega));obtain⟨X,hX⟩:=nm (x.natAbs);obtain⟨u,hu⟩:=nm (nS X);rw[hX]at HI HRR HML⊢;rw[hu]at HRR⊢;obtain⟨dx,hdx⟩:=nm (decide (x<0));obtain⟨dy,hdy⟩:=nm (decide (y<0));obtain⟨v,hv⟩:=nm (nS y.natAbs);rw[hdx,hdy,hv];clear hb3 hbz hx0 hx8 hX hu hdx hdy hv;go_wp2_with fail;refine(HRR.out _).mono ?_;rintro e w4 ⟨rfl,hb4⟩;have HB4:=Hq (((HB3.out.alloc HB3.out.size (.cells #[.bool dx,.string u] 156)).alloc (by have:=HB3.out.size;simp;omega) (.cells #[.bool dy,.string v] 156)).trans (hb4.mono (by have:=HB3.out.size;simp;omega)));clear hb4;go_wp2;go_ret2;exact⟨X%m,rfl,HB4.out,HML.out,HI.out⟩
set_option maxRecDepth 100000
set_option maxHeartbeats 2000000
theorem zk7(a b:Nat):((nS a).toList==(nS b).toList)=decide (a=b):=by
 rw[ByteArray.toList_eq,ByteArray.toList_eq,za4,za4,Bool.eq_iff_iff,beq_iff_eq,decide_eq_true_eq];exact⟨fun h=>by rw[←y9 a,h,y9],fun h=>by rw[h]⟩
theorem zk6(a:Nat):((nS a).toList==[1])=decide (a=1):=by
 rw[←zk7 a 1,show (nS 1).toList=[1]from by rw[ByteArray.toList_eq,za4];rfl]
def gV(M O:ByteArray):Value:=.agg #[.string M,.string O]
theorem zri(M O:ByteArray)(hM:M.size≤9223372036854775807)(hO:O.size≤9223372036854775807)(w:World):Calls Tryz.prog 260 #[gV M O] w (Ret (.bool (zc M&&zc O)) w):=by
 have HV1:=Hq (zh M hM);have HV2:=Hq (zh O hO);unfold gV;go_enter Tryz.func260,Tryz.ntmps260;go_wp2_with fail;refine(HV1.out _).mono ?_;rintro e w1 ⟨rfl,rfl⟩
 cases hv:zc M with
 | false =>
  have HVE:=Hq hv;clear hv;go_wp2;go_ret;exact⟨by rw[HVE.out];rfl,(blr).alloc nlr _⟩
 | true =>
  have HVE:=Hq hv;clear hv;go_wp2_with fail;refine(HV2.out _).mono ?_;rintro e w1 ⟨rfl,rfl⟩;go_wp2;go_ret;exact⟨by rw[HVE.out,Bool.true_and];rfl,(blr).alloc nlr _⟩
theorem zt6(M O:ByteArray)(hM:M.size≤9223372036854775807)(hO:O.size≤9223372036854775807)(w:World):Calls Tryz.prog 241 #[gV M O] w (Ret (.bool (zc M&&zc O)) w):=by
 have HV1:=Hq (zo M hM);have HV2:=Hq (zo O hO);unfold gV;go_enter Tryz.func241,Tryz.ntmps241;go_wp2_with fail;refine(HV1.out _).mono ?_;rintro e w1 ⟨rfl,rfl⟩
 cases hv:zc M with
 | false =>
  have HVE:=Hq hv;clear hv;go_wp2;go_ret;exact⟨by rw[HVE.out];rfl,(blr).alloc nlr _⟩
 | true =>
  have HVE:=Hq hv;clear hv;go_wp2_with fail;refine(HV2.out _).mono ?_;rintro e w1 ⟨rfl,rfl⟩;go_wp2;go_ret;exact⟨by rw[HVE.out,Bool.true_and];rfl,(blr).alloc nlr _⟩
def hasP(M O e:ByteArray):Prop:=zc M=true∧zc O=true∧zc e=true∧0<num O∧0<num e∧num e<num M∧num e ^ num O%num M=1
instance (M O e:ByteArray):Decidable (hasP M O e):=by unfold hasP;exact inferInstance
def hasG(M O e:ByteArray):Bool:=decide (hasP M O e)
theorem zyp(M O e:ByteArray)(hM:M.size≤8)(hO:O.size≤1000)(he:e.size≤1000)(w:World):Calls Tryz.prog 235 #[gV M O,.string e] w (Ret (.bool (hasG M O e)) w):=by
 have HF:=Hq (zri M O (by omega) (by omega));have HV:=Hq (zh e (by omega));have HB0:Below w.heap.size w (w.alloc (.cells #[.string M,.string O] 24)):=(blr).alloc nlr _
 cases hf:(zc M&&zc O)with
 | false =>
  have HR:=Hq (show hasG M O e=false from decide_eq_false (fun h=>by rw[h.1,h.2.1]at hf;cases hf));rw[hf]at HF;clear hf;rw[HR.out];unfold gV at *;go_enter Tryz.func235,Tryz.ntmps235;go_wp2_with fail;refine(HF.out _).mono ?_;rintro ev w1 ⟨rfl,hb1⟩;have HB1:=Hq (HB0.trans (hb1.mono HB0.size));have hbx:(w1.heap[w.heap.size]?)=some (.cells #[.string M,.string O] 24):=(hb1.block _ (by simp)).trans (heap_alloc_new _ _);have c0:w1.cell? ⟨w.heap.size,0,none⟩=some (.string M):=by rw[Lib.cell_of_heap hbx];rfl
  have c1:w1.cell? ⟨w.heap.size,1,none⟩=some (.string O):=by rw[Lib.cell_of_heap hbx];rfl
  have HBX:=Hq hbx;clear hb1 hbx;go_wp2;go_ret;exact⟨rfl,HB1.out⟩
 | true =>
  rw[hf]at HF;rw[Bool.and_eq_true]at hf
  cases hv:zc e with
  | false =>
   have HR:=Hq (show hasG M O e=false from decide_eq_false (fun h=>by rw[h.2.2.1]at hv;cases hv));rw[hv]at HV;clear hv hf;rw[HR.out];unfold gV at *;go_enter Tryz.func235,Tryz.ntmps235;go_wp2_with fail;refine(HF.out _).mono ?_;rintro ev w1 ⟨rfl,hb1⟩;have HB1:=Hq (HB0.trans (hb1.mono HB0.size));have hbx:(w1.heap[w.heap.size]?)=some (.cells #[.string M,.string O] 24):=(hb1.block _ (by simp)).trans (heap_alloc_new _ _);have c0:w1.cell? ⟨w.heap.size,0,none⟩=some (.string M):=by rw[Lib.cell_of_heap hbx];rfl
   have c1:w1.cell? ⟨w.heap.size,1,none⟩=some (.string O):=by rw[Lib.cell_of_heap hbx];rfl
   have HBX:=Hq hbx;clear hb1 hbx;go_wp2_with fail;refine(HV.out _).mono ?_;rintro ev w2 ⟨rfl,rfl⟩;go_wp2;go_ret;exact⟨rfl,HB1.out⟩
  | true =>
   have hm8:=je hM;have hMe:=zu hf.1;have hOe:=zu hf.2;have hee:=zu hv;have ho8:num O<256 ^ 128:=(by have:=hf.2;rw[hOe]at this;exact zj.1 this);have hx8:num e<256 ^ 128:=(by have:=hv;rw[hee]at this;exact zj.1 this);rw[hv]at HV;have HCM:=Hq (show ncmp e M=cmpI (num e) (num M)from by
    unfold ncmp
    rw[hv,hf.1,Bool.and_true,if_pos rfl,←xl,←hee,←hMe])
   have HCC:=Hq (jw e M (by omega) (by omega));rw[HCM.out]at HCC;by_cases ho0:num O=0
   · have HR:=Hq (show hasG M O e=false from decide_eq_false (fun h=>by have:=h.2.2.2.1;omega));have hOz:O=⟨#[]⟩:=by rw[hOe,ho0];rfl
     clear hv hf hMe hOe hee ho8 hx8 hm8 ho0;subst hOz;rw[HR.out];unfold gV at *;go_enter Tryz.func235,Tryz.ntmps235;go_wp2_with fail;refine(HF.out _).mono ?_;rintro ev w1 ⟨rfl,hb1⟩;have HB1:=Hq (HB0.trans (hb1.mono HB0.size));have hbx:(w1.heap[w.heap.size]?)=some (.cells #[.string M,.string (⟨#[]⟩:ByteArray)] 24):=(hb1.block _ (by simp)).trans (heap_alloc_new _ _);have c0:w1.cell? ⟨w.heap.size,0,none⟩=some (.string M):=by rw[Lib.cell_of_heap hbx];rfl
     have c1:w1.cell? ⟨w.heap.size,1,none⟩=some (.string (⟨#[]⟩:ByteArray)):=by rw[Lib.cell_of_heap hbx];rfl
     have HBX:=Hq hbx;clear hb1 hbx;go_wp2_with fail;refine(HV.out _).mono ?_;rintro ev w2 ⟨rfl,rfl⟩;go_wp2;go_ret;exact⟨rfl,HB1.out⟩
   · by_cases hx0:num e=0
     · have HR:=Hq (show hasG M O e=false from decide_eq_false (fun h=>by have:=h.2.2.2.2.1;omega));have hez:e=⟨#[]⟩:=by rw[hee,hx0];rfl
       have hOn:O.toList.isEmpty=false:=by rw[hOe];exact zx (by omega)
       clear hv hf hMe hOe hee ho8 hx8 hm8 ho0;subst hez;rw[HR.out];unfold gV at *;go_enter Tryz.func235,Tryz.ntmps235;go_wp2_with fail;refine(HF.out _).mono ?_;rintro ev w1 ⟨rfl,hb1⟩;have HB1:=Hq (HB0.trans (hb1.mono HB0.size));have hbx:(w1.heap[w.heap.size]?)=some (.cells #[.string M,.string O] 24):=(hb1.block _ (by simp)).trans (heap_alloc_new _ _);have c0:w1.cell? ⟨w.heap.size,0,none⟩=some (.string M):=by rw[Lib.cell_of_heap hbx];rfl
       have c1:w1.cell? ⟨w.heap.size,1,none⟩=some (.string O):=by rw[Lib.cell_of_heap hbx];rfl
       have HBX:=Hq hbx;clear hb1 hbx;go_wp2_with fail;refine(HV.out _).mono ?_;rintro ev w2 ⟨rfl,rfl⟩;go_wp2;go_ret;exact⟨rfl,HB1.out⟩
     · have hOn:O.toList.isEmpty=false:=by rw[hOe];exact zx (by omega)
       have hen:e.toList.isEmpty=false:=by rw[hee];exact zx (by omega)
       by_cases hxm:num M≤num e
       · have HR:=Hq (show hasG M O e=false from decide_eq_false (fun h=>by have:=h.2.2.2.2.2.1;omega));have hg:=jl hxm;obtain⟨c,hc⟩:=nm (cmpI (num e) (num M));rw[hc]at hg HCC;clear hv hf hMe hOe hee ho8 hx8 hm8 ho0 hx0 hxm hc;rw[HR.out];unfold gV at *;go_enter Tryz.func235,Tryz.ntmps235;go_wp2_with fail;refine(HF.out _).mono ?_;rintro ev w1 ⟨rfl,hb1⟩;have HB1:=Hq (HB0.trans (hb1.mono HB0.size));have hbx:(w1.heap[w.heap.size]?)=some (.cells #[.string M,.string O] 24):=(hb1.block _ (by simp)).trans (heap_alloc_new _ _);have c0:w1.cell? ⟨w.heap.size,0,none⟩=some (.string M):=by rw[Lib.cell_of_heap hbx];rfl
         have c1:w1.cell? ⟨w.heap.size,1,none⟩=some (.string O):=by rw[Lib.cell_of_heap hbx];rfl
         have HBX:=Hq hbx;clear hb1 hbx;go_wp2_with fail;refine(HV.out _).mono ?_;rintro ev w2 ⟨rfl,rfl⟩;go_wp2_with fail;refine(HCC.out _).mono ?_;rintro ev w2 ⟨rfl,rfl⟩;go_wp2;go_ret;exact⟨rfl,HB1.out⟩
       · rw[qh (by omega)]at HCC;have HE1:=Hq (zru (num e) (num O) (num M) (by omega) ho8 hm8 (by omega));have HE2:=Hq (zru (num e) 0 (num M) (by omega) (by decide) hm8 (by omega));rw[←hee,←hOe,←hMe]at HE1;rw[←hee,←hMe,qg,Nat.pow_zero,Nat.mod_eq_of_lt (by omega)]at HE2;obtain⟨A,hA⟩:=nm (num e ^ num O%num M);rw[hA]at HE1;have HR:=Hq (show hasG M O e=decide (A=1)from decide_eq_decide.2 ⟨fun h=>by rw[←hA];exact h.2.2.2.2.2.2,fun h=>⟨hf.1,hf.2,hv,by omega,by omega,by omega,by rw[hA];exact h⟩⟩);clear hv hf hMe hOe hee ho8 hx8 hm8 ho0 hx0 hxm hA;rw[HR.out];unfold gV at *;go_enter Tryz.func235,Tryz.ntmps235;go_wp2_with fail;refine(HF.out _).mono ?_;rintro ev w1 ⟨rfl,hb1⟩;have HB1:=Hq (HB0.trans (hb1.mono HB0.size));have hbx:(w1.heap[w.heap.size]?)=some (.cells #[.string M,.string O] 24):=(hb1.block _ (by simp)).trans (heap_alloc_new _ _);have c0:w1.cell? ⟨w.heap.size,0,none⟩=some (.string M):=by rw[Lib.cell_of_heap hbx];rfl
         have c1:w1.cell? ⟨w.heap.size,1,none⟩=some (.string O):=by rw[Lib.cell_of_heap hbx];rfl
         have HBX:=Hq hbx;clear hb1 hbx;go_wp2_with fail;refine(HV.out _).mono ?_;rintro ev w2 ⟨rfl,rfl⟩;go_wp2_with fail;refine(HCC.out _).mono ?_;rintro ev w2 ⟨rfl,rfl⟩;go_wp2_with fail;refine(HE1.out _).mono ?_;rintro ev w3 ⟨rfl,hb3⟩;have hbx3:=(hb3.block _ (zn HBX.out)).trans HBX.out;have HB3:=bt HB1 hb3;clear hb3 c0 c1;have c0:w3.cell? ⟨w.heap.size,0,none⟩=some (.string M):=by rw[Lib.cell_of_heap hbx3];rfl
         clear hbx3;go_wp2_with fail;refine(HE2.out _).mono ?_;rintro ev w4 ⟨rfl,hb4⟩;have HB4:=bt HB3 hb4;clear hb4;go_wp2;go_ret;exact⟨by rw[←zk7];rfl,HB4.out⟩
theorem zwo(M O e:ByteArray)(hM:M.size≤8)(hO:O.size≤1000)(he:e.size≤1000)(w:World):Calls Tryz.prog 208 #[gV M O,.string e] w (Ret (.bool (hasG M O e)) w):=by
 have HF:=Hq (zt6 M O (by omega) (by omega));have HV:=Hq (zo e (by omega));have HB0:Below w.heap.size w (w.alloc (.cells #[.string M,.string O] 24)):=(blr).alloc nlr _
 cases hf:(zc M&&zc O)with
 | false =>
  have HR:=Hq (show hasG M O e=false from decide_eq_false (fun h=>by rw[h.1,h.2.1]at hf;cases hf));rw[hf]at HF;clear hf;rw[HR.out];unfold gV at *;go_enter Tryz.func208,Tryz.ntmps208;go_wp2_with fail;refine(HF.out _).mono ?_;rintro ev w1 ⟨rfl,hb1⟩;have HB1:=Hq (HB0.trans (hb1.mono HB0.size));have hbx:(w1.heap[w.heap.size]?)=some (.cells #[.string M,.string O] 24):=(hb1.block _ (by simp)).trans (heap_alloc_new _ _);have c0:w1.cell? ⟨w.heap.size,0,none⟩=some (.string M):=by rw[Lib.cell_of_heap hbx];rfl
  have c1:w1.cell? ⟨w.heap.size,1,none⟩=some (.string O):=by rw[Lib.cell_of_heap hbx];rfl
  have HBX:=Hq hbx;clear hb1 hbx;go_wp2;go_ret;exact⟨rfl,HB1.out⟩
 | true =>
  rw[hf]at HF;rw[Bool.and_eq_true]at hf
  cases hv:zc e with
  | false =>
   have HR:=Hq (show hasG M O e=false from decide_eq_false (fun h=>by rw[h.2.2.1]at hv;cases hv));rw[hv]at HV;clear hv hf;rw[HR.out];unfold gV at *;go_enter Tryz.func208,Tryz.ntmps208;go_wp2_with fail;refine(HF.out _).mono ?_;rintro ev w1 ⟨rfl,hb1⟩;have HB1:=Hq (HB0.trans (hb1.mono HB0.size));have hbx:(w1.heap[w.heap.size]?)=some (.cells #[.string M,.string O] 24):=(hb1.block _ (by simp)).trans (heap_alloc_new _ _);have c0:w1.cell? ⟨w.heap.size,0,none⟩=some (.string M):=by rw[Lib.cell_of_heap hbx];rfl
   have c1:w1.cell? ⟨w.heap.size,1,none⟩=some (.string O):=by rw[Lib.cell_of_heap hbx];rfl
   have HBX:=Hq hbx;clear hb1 hbx;go_wp2_with fail;refine(HV.out _).mono ?_;rintro ev w2 ⟨rfl,rfl⟩;go_wp2;go_ret;exact⟨rfl,HB1.out⟩
  | true =>
   have hm8:=je hM;have hMe:=zu hf.1;have hOe:=zu hf.2;have hee:=zu hv;have ho8:num O<256 ^ 128:=(by have:=hf.2;rw[hOe]at this;exact zj.1 this);have hx8:num e<256 ^ 128:=(by have:=hv;rw[hee]at this;exact zj.1 this);rw[hv]at HV;have HCM:=Hq (show ordB e M=cmpI (num e) (num M)from by rw[←xl,←hee,←hMe]);have HCC:=Hq (ja e M (by omega) (by omega));rw[HCM.out]at HCC;by_cases ho0:num O=0
   · have HR:=Hq (show hasG M O e=false from decide_eq_false (fun h=>by have:=h.2.2.2.1;omega));have hOz:O=⟨#[]⟩:=by rw[hOe,ho0];rfl
     clear hv hf hMe hOe hee ho8 hx8 hm8 ho0;subst hOz;rw[HR.out];unfold gV at *;go_enter Tryz.func208,Tryz.ntmps208;go_wp2_with fail;refine(HF.out _).mono ?_;rintro ev w1 ⟨rfl,hb1⟩;have HB1:=Hq (HB0.trans (hb1.mono HB0.size));have hbx:(w1.heap[w.heap.size]?)=some (.cells #[.string M,.string (⟨#[]⟩:ByteArray)] 24):=(hb1.block _ (by simp)).trans (heap_alloc_new _ _);have c0:w1.cell? ⟨w.heap.size,0,none⟩=some (.string M):=by rw[Lib.cell_of_heap hbx];rfl
     have c1:w1.cell? ⟨w.heap.size,1,none⟩=some (.string (⟨#[]⟩:ByteArray)):=by rw[Lib.cell_of_heap hbx];rfl
     have HBX:=Hq hbx;clear hb1 hbx;go_wp2_with fail;refine(HV.out _).mono ?_;rintro ev w2 ⟨rfl,rfl⟩;go_wp2;go_ret;exact⟨rfl,HB1.out⟩
   · by_cases hx0:num e=0
     · have HR:=Hq (show hasG M O e=false from decide_eq_false (fun h=>by have:=h.2.2.2.2.1;omega));have hez:e=⟨#[]⟩:=by rw[hee,hx0];rfl
       have hOn:O.toList.isEmpty=false:=by rw[hOe];exact zx (by omega)
       clear hv hf hMe hOe hee ho8 hx8 hm8 ho0;subst hez;rw[HR.out];unfold gV at *;go_enter Tryz.func208,Tryz.ntmps208;go_wp2_with fail;refine(HF.out _).mono ?_;rintro ev w1 ⟨rfl,hb1⟩;have HB1:=Hq (HB0.trans (hb1.mono HB0.size));have hbx:(w1.heap[w.heap.size]?)=some (.cells #[.string M,.string O] 24):=(hb1.block _ (by simp)).trans (heap_alloc_new _ _);have c0:w1.cell? ⟨w.heap.size,0,none⟩=some (.string M):=by rw[Lib.cell_of_heap hbx];rfl
       have c1:w1.cell? ⟨w.heap.size,1,none⟩=some (.string O):=by rw[Lib.cell_of_heap hbx];rfl
       have HBX:=Hq hbx;clear hb1 hbx;go_wp2_with fail;refine(HV.out _).mono ?_;rintro ev w2 ⟨rfl,rfl⟩;go_wp2;go_ret;exact⟨rfl,HB1.out⟩
     · have hOn:O.toList.isEmpty=false:=by rw[hOe];exact zx (by omega)
       have hen:e.toList.isEmpty=false:=by rw[hee];exact zx (by omega)
       by_cases hxm:num M≤num e
       · have HR:=Hq (show hasG M O e=false from decide_eq_false (fun h=>by have:=h.2.2.2.2.2.1;omega));have hg:=jl hxm;obtain⟨c,hc⟩:=nm (cmpI (num e) (num M));rw[hc]at hg HCC;clear hv hf hMe hOe hee ho8 hx8 hm8 ho0 hx0 hxm hc;rw[HR.out];unfold gV at *;go_enter Tryz.func208,Tryz.ntmps208;go_wp2_with fail;refine(HF.out _).mono ?_;rintro ev w1 ⟨rfl,hb1⟩;have HB1:=Hq (HB0.trans (hb1.mono HB0.size));have hbx:(w1.heap[w.heap.size]?)=some (.cells #[.string M,.string O] 24):=(hb1.block _ (by simp)).trans (heap_alloc_new _ _);have c0:w1.cell? ⟨w.heap.size,0,none⟩=some (.string M):=by rw[Lib.cell_of_heap hbx];rfl
         have c1:w1.cell? ⟨w.heap.size,1,none⟩=some (.string O):=by rw[Lib.cell_of_heap hbx];rfl
         have HBX:=Hq hbx;clear hb1 hbx;go_wp2_with fail;refine(HV.out _).mono ?_;rintro ev w2 ⟨rfl,rfl⟩;go_wp2_with fail;refine(HCC.out _).mono ?_;rintro ev w2 ⟨rfl,hb2⟩;have HB2:=bt HB1 hb2;clear hb2;go_wp2;go_ret;exact⟨rfl,HB2.out⟩
       · rw[qh (by omega)]at HCC;have HE1:=Hq (zrb (num e) (num O) (num M) hx8 ho8 hm8 (by omega));rw[←hee,←hOe,←hMe]at HE1;obtain⟨A,hA⟩:=nm (num e ^ num O%num M);rw[hA]at HE1;have HR:=Hq (show hasG M O e=decide (A=1)from decide_eq_decide.2 ⟨fun h=>by rw[←hA];exact h.2.2.2.2.2.2,fun h=>⟨hf.1,hf.2,hv,by omega,by omega,by omega,by rw[hA];exact h⟩⟩);clear hv hf hMe hOe hee ho8 hx8 hm8 ho0 hx0 hxm hA;rw[HR.out];unfold gV at *;go_enter Tryz.func208,Tryz.ntmps208;go_wp2_with fail;refine(HF.out _).mono ?_;rintro ev w1 ⟨rfl,hb1⟩;have HB1:=Hq (HB0.trans (hb1.mono HB0.size));have hbx:(w1.heap[w.heap.size]?)=some (.cells #[.string M,.string O] 24):=(hb1.block _ (by simp)).trans (heap_alloc_new _ _);have c0:w1.cell? ⟨w.heap.size,0,none⟩=some (.string M):=by rw[Lib.cell_of_heap hbx];rfl
         have c1:w1.cell? ⟨w.heap.size,1,none⟩=some (.string O):=by rw[Lib.cell_of_heap hbx];rfl
         have HBX:=Hq hbx;clear hb1 hbx;go_wp2_with fail;refine(HV.out _).mono ?_;rintro ev w2 ⟨rfl,rfl⟩;go_wp2_with fail;refine(HCC.out _).mono ?_;rintro ev w2 ⟨rfl,hb2⟩;have hbx2:=(hb2.block _ (zn HBX.out)).trans HBX.out;have HB2:=bt HB1 hb2;clear hb2 c0 c1;have c0:w2.cell? ⟨w.heap.size,0,none⟩=some (.string M):=by rw[Lib.cell_of_heap hbx2];rfl
         have c1:w2.cell? ⟨w.heap.size,1,none⟩=some (.string O):=by rw[Lib.cell_of_heap hbx2];rfl
         clear hbx2;go_wp2_with fail;refine(HE1.out _).mono ?_;rintro ev w3 ⟨rfl,hb3⟩;have HB3:=bt HB2 hb3;clear hb3;go_wp2;go_ret;exact⟨by rw[←zk6];rfl,HB3.out⟩
def invN(x M:Nat):Nat:=((List.range M).find? (fun y=>decide (x * y%M=1))).getD 0
theorem zur{x M y z:Nat}(hy:y<M)(hz:z<M)(h1:x * y%M=1)(h2:x * z%M=1):y=z:=by
 have e1:x * y * z%M=z:=(by rw[Nat.mul_mod,h1,Nat.one_mul,Nat.mod_mod,Nat.mod_eq_of_lt hz]);have e2:x * y * z=x * z * y:=by rw[Nat.mul_assoc,Nat.mul_comm y z,←Nat.mul_assoc]
 rw[e2,Nat.mul_mod,h2,Nat.one_mul,Nat.mod_mod,Nat.mod_eq_of_lt hy]at e1;exact e1
theorem zr7{x M y:Nat}(hy:y<M)(h:x * y%M=1):invN x M=y:=by
 unfold invN
 cases hf:(List.range M).find? (fun y=>decide (x * y%M=1))with
 | none =>
  rw[List.find?_eq_none]at hf;have:=hf y (List.mem_range.2 hy);simp[h]at this
 | some z =>
  have h1:=List.find?_some hf;have h2:=List.mem_range.1 (List.mem_of_find?_eq_some hf);simp only[decide_eq_true_eq]at h1;exact zur h2 hy h1 h
def pp:List (Nat×Nat)→Nat→Nat
 | [],_=>1
 | (b,n)::l,k=>b ^ (n / 2 ^ k) * pp l k
def qq:List (Nat×Nat)→Nat→Nat
 | [],_=>1
 | (b,n)::l,k=>(if bitB n k then b else 1) * qq l k
theorem zxv(n k:Nat):n / 2 ^ k=2 * (n / 2 ^ (k+1))+(if bitB n k then 1 else 0):=by
 unfold bitB;rw[Nat.pow_succ,←Nat.div_div_eq_div_mul];have:=Nat.mod_two_eq_zero_or_one (n / 2 ^ k);rcases this with h | h<;>rw[h]<;>simp<;>omega
theorem zww(l:List (Nat×Nat))(k:Nat):pp l k=pp l (k+1) * pp l (k+1) * qq l k:=by
 induction l with
 | nil=>rfl
 | cons a l ih =>
  obtain⟨b,n⟩:=a;have e:b ^ (n / 2 ^ k)=b ^ (n / 2 ^ (k+1)) * b ^ (n / 2 ^ (k+1)) * (if bitB n k then b else 1):=by
   conv=>lhs;rw[zxv n k]
   rw[Nat.pow_add,Nat.pow_mul,Nat.pow_two,Nat.mul_pow];split<;>simp
  simp only[pp,qq,e,ih];simp only[Nat.mul_assoc,Nat.mul_left_comm,Nat.mul_comm]
theorem zwu(l:List (Nat×Nat))(b n k:Nat):qq (l++[(b,n)]) k=qq l k * (if bitB n k then b else 1):=by
 induction l with
 | nil=>simp[qq]
 | cons a l ih=>obtain⟨c,m⟩:=a;simp only[List.cons_append,qq,ih,Nat.mul_assoc]
theorem zwt{l:List (Nat×Nat)}{j b n:Nat}(h:l[j]? =some (b,n))(k:Nat):qq (l.take (j+1)) k=qq (l.take j) k * (if bitB n k then b else 1):=by
 rw[show l.take (j+1)=l.take j++[(b,n)]from by
  obtain⟨h1,h2⟩:=List.getElem?_eq_some_iff.1 h
  rw[List.take_succ_eq_append_getElem h1,h2],zwu]
theorem zyo{l:List (Nat×Nat)}{k:Nat}(h:∀ x∈l,x.2<2 ^ k):pp l k=1:=by
 induction l with
 | nil=>rfl
 | cons a l ih =>
  obtain⟨b,n⟩:=a;have:=h (b,n) List.mem_cons_self;rw[pp,ih (fun x hx=>h x (List.mem_cons_of_mem _ hx)),Nat.div_eq_of_lt this];rfl
theorem zpo{n k:Nat}(h:blen n≤k):n<2 ^ k:=by
 unfold blen at h;split at h
 · rename_i h0;subst h0;exact Nat.two_pow_pos k
 · rename_i h0;exact Nat.lt_of_lt_of_le ((Nat.log2_lt h0).1 (Nat.lt_succ_self _)) (Nat.pow_le_pow_right (by omega) h)
def zcm(x:Nat)(neg:Bool)(M:Nat):Nat:=if neg then invN x M else x
end Go.Proofs.YtppbcopnfankcaaGreat

import Derived.Test.YtfbmbledklbfgaaGreatDoorQRfM
set_option linter.unusedVariables false
set_option linter.unusedSimpArgs false
namespace Go.Proofs.YtfbmbledklbfgaaGreatDoor
set_option maxRecDepth 100000
set_option maxHeartbeats 2000000
open Go.RowKit Go.Shelf
attribute [local go_sem] Oper.semAt_some
def BoxS(W:World)(B:Nat)(s:ByteArray):Prop:=W.heap[B]? =some (.cells #[.string s] 22 (0,0))
theorem BoxS.cell{W:World}{B:Nat}{s:ByteArray}(h:BoxS W B s):W.cell? ⟨B,0,none⟩=some (.string s):=by rw[Lib.cell_of_heap h];rfl
theorem BoxS.free{W:World}{B:Nat}{s:ByteArray}(h:BoxS W B s):W.frozen? ⟨B,0,none⟩=false:=Lib.frozen_of_heap h 0
theorem BoxS.kept{W W':World}{K B:Nat}{s:ByteArray}(h:BoxS W B s)(hb:Below K W W')(hB:B<K):BoxS W' B s:=(hb.block B hB).trans h
theorem BoxS.lt{W:World}{B:Nat}{s:ByteArray}(h:BoxS W B s):B<W.heap.size:=block_lt h
theorem BoxS.set{W:World}{B:Nat}{s t:ByteArray}(h:BoxS W B s):BoxS (W.setCell ⟨B,0,none⟩ (.string t)) B t:=block_setCell h _
theorem BoxS.alloc{W:World}{B:Nat}{s:ByteArray}(h:BoxS W B s)(o:Obj):BoxS (W.alloc o) B s:=h.kept ((blr).alloc nlr o) h.lt
theorem BoxS.new(W:World)(s:ByteArray):BoxS (W.alloc (.cells #[.string s] 22)) W.heap.size s:=heap_alloc_new _ _
theorem BoxS.other{W:World}{B C:Nat}{s:ByteArray}{v:Value}(h:BoxS W B s)(hne:B≠C):BoxS (W.setCell ⟨C,0,none⟩ v) B s:=by
 unfold BoxS;rw[←h];exact heap_setCell_other _ _ _ _ hne
theorem KeepsOthers.of_below{W W':World}(h:Below W.heap.size W W'):KeepsOthers W W':=⟨h.size,fun k o hk _=>(h.block k (block_lt hk)).trans hk⟩
theorem mod_digits(s:ByteArray)(w:World):Calls Tryz.prog 161 #[.string s] w fun e w'=>e=.returned (.func (.func 164) #[] #[.pointer (some ⟨w.heap.size,0,none⟩)])∧w'=w.alloc (.cells #[.string s] 22):=by
 go_enter Tryz.func161,Tryz.ntmps161;go_wp2;go_ret;exact⟨rfl,rfl⟩
theorem mod_Exp_of(a n m:Nat)(ha:nvalid (nS a)=true)(hra:∀ w,Calls Tryz.prog 77 #[.string (nS a),.string (nS m)] w (Ret (.string (nS (a%m))) w))(hn:n<256 ^ 128)(hm8:m<18446744073709551616)(h0:0<m)(w:World):Calls Tryz.prog 151 #[.string (nS a),.string (nS n),.string (nS m)] w (Ret (.tuple #[.string (nS (a ^ n%m)),.int .i64 0]) w):=by
 have hm:=lt128_of_lt8 hm8;have ham:a%m<18446744073709551616:=Nat.lt_trans (Nat.mod_lt _ h0) hm8;have HC:=Hq (fun w=>check_two w (nS a) (nS n) (nS m) _ rfl ha (nvalid_nS.2 hn) (nS_valid_small hm8) (empty_nS h0) _ rfl);have HRA:=Hq hra;clear hra;have HR1:=Hq (mod_reduced 1 m (by decide) hm h0);have HTT:=Hq (fun E=>mod_times (a ^ E%m) (a ^ E%m) m (Nat.lt_trans (Nat.mod_lt _ h0) hm8) (Nat.lt_trans (Nat.mod_lt _ h0) hm8) hm8 h0);have HTA:=Hq (fun E=>mod_times (a ^ E%m) (a%m) m (Nat.lt_trans (Nat.mod_lt _ h0) hm8) ham hm8 h0);have HDS:=Hq (fun k (hk:1≤k) D w hD=>digits_stops k n hn hk D w hD);rw[num_one]at HR1;obtain⟨s,hs⟩:∃ s,nS a=s:=⟨_,rfl⟩;obtain⟨t,ht⟩:∃ t,nS n=t:=⟨_,rfl⟩;obtain⟨u,hu⟩:∃ u,nS m=u:=⟨_,rfl⟩;rw[hs,ht,hu]at HC;rw[hs,hu]at HRA;rw[hu]at HR1 HTT HTA;rw[ht]at HDS;rw[hs,ht,hu];clear hs ht hu ha hn hm8 hm ham;refine(callsIn_wide (n:=3)).1 ?_;refine callsIn_of_wp_marks Tryz.func151 rfl trivial ?_ rfl;simp only[Tryz.ntmps151,List.size_toArray,List.length_cons,List.length_nil,Nat.reduceAdd,Nat.reduceSub,Array.replicate_succ,Array.replicate_zero,List.push_toArray,List.append_toArray,List.nil_append,List.cons_append];gi_wp2;have hck:=HC.out ((w.alloc (.cells #[.string s] 22)).alloc (.cells #[.string u] 22));simp only[World.size_alloc]at hck;refine⟨trivial,callsIn_wide.2 (hck.mono ?_)⟩;rintro e w2 ⟨rfl,hb2⟩;have h1M:BoxS ((w.alloc (.cells #[.string s] 22)).alloc (.cells #[.string u] 22)) (w.heap.size+1) u:=(by have:=BoxS.new (w.alloc (.cells #[.string s] 22)) u;rwa[World.size_alloc]at this);have hA2:BoxS w2 w.heap.size s:=BoxS.kept ((((BoxS.new w s).alloc _).alloc _).alloc _) hb2 (by omega);have hM2:BoxS w2 (w.heap.size+1) u:=BoxS.kept ((h1M.alloc _).alloc _) hb2 (by omega);have HB2:Below w.heap.size w w2:=(((((Below.refl w.heap.size w).alloc nlr _).alloc (by simp) _).alloc (by simp;omega) _).alloc (by simp;omega) _).trans (hb2.mono (by omega));have HA2:=Hq hA2;have HM2:=Hq hM2;have HBB2:=Hq HB2;have cA:=hA2.cell;have cM:=hM2.cell;have fA:=hA2.free;clear hck hb2 hA2 hM2 HB2 h1M;gi_wp2;refine⟨trivial,callsIn_wide.2 ((HRA.out _).mono ?_)⟩;rintro e w3 ⟨rfl,hb3⟩;have HA3:=Hq (HA2.out.kept hb3 HA2.out.lt);have HM3:=Hq (HM2.out.kept hb3 HM2.out.lt);have HB3:=Hq (HBB2.out.trans (hb3.mono HBB2.out.size));clear hb3 cA cM fA;have cA:=HA3.out.cell;have cM:=HM3.out.cell;have fA:=HA3.out.free;gi_wp2;refine⟨trivial,callsIn_wide.2 ((HR1.out _).mono ?_)⟩;rintro e w4 ⟨rfl,hb4⟩;have hA3':BoxS (w3.setCell ⟨w.heap.size,0,none⟩ (.string (nS (a%m)))) w.heap.size (nS (a%m)):=HA3.out.set;have hM3':BoxS (w3.setCell ⟨w.heap.size,0,none⟩ (.string (nS (a%m)))) (w.heap.size+1) u:=HM3.out.other (by omega);have HA4:=Hq (hA3'.kept hb4 hA3'.lt);have HM4:=Hq (hM3'.kept hb4 hM3'.lt);have HB3':=HB3.out.setCell (p:=⟨w.heap.size,0,none⟩) nlr (.string (nS (a%m)));have HB4:=Hq (HB3'.trans (hb4.mono HB3'.size));have hlt4:=HM4.out.lt;clear hb4 cA cM fA hA3' hM3' HB3';have cA:=HA4.out.cell;have cM:=HM4.out.cell;have fA:=HA4.out.free;gi_wp2;refine⟨trivial,callsIn_wide.2 ((mod_digits t _).mono ?_)⟩;rintro e w5 ⟨rfl,rfl⟩;gi_wp2;have HR5:=Hq ((BoxS.new w4 (nS (1%m))).alloc (.cells #[.string t] 22));have hD5:BoxS ((w4.alloc (.cells #[.string (nS (1%m))] 22)).alloc (.cells #[.string t] 22)) (w4.heap.size+1) t:=(by have:=BoxS.new (w4.alloc (.cells #[.string (nS (1%m))] 22)) t;rwa[World.size_alloc]at this);have HD5:=Hq hD5;have HA5:=Hq ((HA4.out.alloc (.cells #[.string (nS (1%m))] 22)).alloc (.cells #[.string t] 22));have HM5:=Hq ((HM4.out.alloc (.cells #[.string (nS (1%m))] 22)).alloc (.cells #[.string t] 22));have HB5:=Hq ((HB4.out.alloc HB4.out.size (.cells #[.string (nS (1%m))] 22)).alloc (by simp;omega) (.cells #[.string t] 22));have hz5:w4.heap.size+1<((w4.alloc (.cells #[.string (nS (1%m))] 22)).alloc (.cells #[.string t] 22)).heap.size:=hD5.lt;obtain⟨W0,hW0⟩:∃ W0,(w4.alloc (.cells #[.string (nS (1%m))] 22)).alloc (.cells #[.string t] 22)=W0:=⟨_,rfl⟩;obtain⟨R,hR⟩:∃ R,w4.heap.size=R:=⟨_,rfl⟩;rw[hW0,hR]at HR5 HD5 hz5;rw[hW0]at HA5 HM5 HB5;rw[hR]at hlt4;rw[hW0,hR];clear hD5 hW0 hR HA4 HM4 HB4 HA3 HM3 HB3 HA2 HM2 HBB2 cA cM fA;obtain⟨A,hA⟩:∃ A,w.heap.size=A:=⟨_,rfl⟩;rw[hA]at HA5 HM5 HB5 hlt4⊢;refine wpIn_rangeFunc_ownF rfl (by omega) (gf:=164) (lb:=#[.pointer (some ⟨R+1,0,none⟩)]) rfl trivial (enters_of Tryz.func164 (by kernel_rfl) rfl)
  (HDS.out 2 (by omega) (R+1) W0 HD5.out) (fun h k=>(show _=_ from k).trans h) (fun W l o o' hl _ _ _=>World.putObj_heap_other (by omega)) blr (fun _=>rfl)
  (fun pre W=>(BoxS W A (nS (a%m))∧BoxS W (A+1) u∧BoxS W R (nS (a ^ dv pre%m))∧BoxS W (R+1) t)∧Below A w W)
  (fun _ _ _=>False)
  (OwnFrom.and (Own.from (fun s X Y row hs hg hr=>⟨boxed_own A 22 (fun _:List Bool=>.string (nS (a%m))) s X Y row hs.1 hg hr,boxed_own (A+1) 22 (fun _:List Bool=>.string u) s X Y row hs.2.1 hg hr,boxed_own R 22 (fun pre:List Bool=>.string (nS (a ^ dv pre%m))) s X Y row hs.2.2.1 hg hr,boxed_own (R+1) 22 (fun _:List Bool=>.string t) s X Y row hs.2.2.2 hg hr⟩) _) (ownFrom_below (by omega) (by omega)))
  (fun _ _ _ _ _ hs _ _=>hs)
  ⟨⟨HA5.out,HM5.out,by rw[show dv []=0 from rfl,Nat.pow_zero];exact HR5.out,HD5.out⟩,HB5.out⟩
  (fun x => { tmps:=#[.string s,.string t,.string u,.pointer (some ⟨A,0,none⟩),undef,.pointer (some ⟨A+1,0,none⟩),.string ⟨#[]⟩,.int .i64 0,.int .i64 0,.pointer (some ⟨R,0,none⟩),.bool x,.string s,.string t,.slice (some ⟨A+1+1,0,none⟩) 2 2,.string u,.slice (some ⟨A+1+1+1,0,none⟩) 1 1,.int .i64 0,.int .i64 0,.bool false,undef,.string s,.string u,.string (nS (a%m)),.string u,.string (nS (1%m)),.string t,.func (.func 164) #[] #[.pointer (some ⟨R+1,0,none⟩)],.bool x,undef,undef,undef,undef,undef,undef,undef,undef,undef,undef],defers:=[] }) ?assign ?body ?done ?stop
 case assign =>
  intro l x W K hK;gi_wp2;exact hK
 case body =>
  rintro l pre x W ⟨⟨hA',hM',hR',hD'⟩,hB'⟩ _;have HA':=Hq hA';have HM':=Hq hM';have HR':=Hq hR';have HD':=Hq hD';have HB':=Hq hB';have cA:=hA'.cell;have cM:=hM'.cell;have cR:=hR'.cell;have fR:=hR'.free;obtain⟨E,hE⟩:∃ E,dv pre=E:=⟨_,rfl⟩;rw[hE]at HR' cR;have HTE:=Hq (HTT.out E);rw[pw_two]at HTE;have HTF:=Hq (HTA.out (2 * E));rw[pw_one']at HTF;have HDV:=Hq (dv_snoc pre x);rw[hE]at HDV;clear hA' hM' hR' hD' hB' hE;gi_wp2;refine⟨trivial,CallsIn.inRound l (callsIn_wide.2 ((HTE.out _).mono ?_))⟩;rintro ev w6 ⟨rfl,hb6⟩;have HK7:=Hq ((KeepsOthers.of_below hb6).trans (KeepsOthers.setCell w6 ⟨R,0,none⟩ (.string (nS (a ^ (2 * E)%m)))));have HA7:=Hq ((HA'.out.kept hb6 HA'.out.lt).other (C:=R) (v:=.string (nS (a ^ (2 * E)%m))) (by omega));have HM7:=Hq ((HM'.out.kept hb6 HM'.out.lt).other (C:=R) (v:=.string (nS (a ^ (2 * E)%m))) (by omega));have HR7:=Hq ((HR'.out.kept hb6 HR'.out.lt).set (t:=(nS (a ^ (2 * E)%m))));have HD7:=Hq ((HD'.out.kept hb6 HD'.out.lt).other (C:=R) (v:=.string (nS (a ^ (2 * E)%m))) (by omega));have HKP7:=Hq (show KpD (R+1) W (w6.setCell ⟨R,0,none⟩ (.string (nS (a ^ (2 * E)%m))))from HD7.out.trans HD'.out.symm);have HB7:=Hq ((HB'.out.trans (hb6.mono (Nat.le_trans (by omega) HB'.out.size))).setCell (p:=⟨R,0,none⟩) (show A≤R by omega) (.string (nS (a ^ (2 * E)%m))));have cR7:=(HR'.out.kept hb6 HR'.out.lt).cell;have fR7:=(HR'.out.kept hb6 HR'.out.lt).free;clear hb6;have cA7:=HA7.out.cell;have cM7:=HM7.out.cell;have cS7:=HR7.out.cell;have fS7:=HR7.out.free
  cases x with
  | false =>
   gi_wp2;exact⟨HK7.out,HKP7.out,⟨⟨HA7.out,HM7.out,by rw[HDV.out,if_neg (by decide),Nat.add_zero];exact HR7.out,HD7.out⟩,HB7.out⟩⟩
  | true =>
   gi_wp2;refine⟨trivial,CallsIn.inRound l (callsIn_wide.2 ((HTF.out _).mono ?_))⟩;rintro ev w8 ⟨rfl,hb8⟩;have HK9:=Hq ((KeepsOthers.of_below hb8).trans (KeepsOthers.setCell w8 ⟨R,0,none⟩ (.string (nS (a ^ (2 * E+1)%m)))));have HA9:=Hq ((HA7.out.kept hb8 HA7.out.lt).other (C:=R) (v:=.string (nS (a ^ (2 * E+1)%m))) (by omega));have HM9:=Hq ((HM7.out.kept hb8 HM7.out.lt).other (C:=R) (v:=.string (nS (a ^ (2 * E+1)%m))) (by omega));have HR9:=Hq ((HR7.out.kept hb8 HR7.out.lt).set (t:=(nS (a ^ (2 * E+1)%m))));have HD9:=Hq ((HD7.out.kept hb8 HD7.out.lt).other (C:=R) (v:=.string (nS (a ^ (2 * E+1)%m))) (by omega));have HKP9:=Hq (show KpD (R+1) (w6.setCell ⟨R,0,none⟩ (.string (nS (a ^ (2 * E)%m)))) (w8.setCell ⟨R,0,none⟩ (.string (nS (a ^ (2 * E+1)%m))))from HD9.out.trans HD7.out.symm);have HB9:=Hq ((HB7.out.trans (hb8.mono (Nat.le_trans (by omega) HB7.out.size))).setCell (p:=⟨R,0,none⟩) (show A≤R by omega) (.string (nS (a ^ (2 * E+1)%m))));have cR9:=(HR7.out.kept hb8 HR7.out.lt).cell;have fR9:=(HR7.out.kept hb8 HR7.out.lt).free;clear hb8;have cA9:=HA9.out.cell;have cM9:=HM9.out.cell;have cS9:=HR9.out.cell;have fS9:=HR9.out.free;gi_wp2;exact⟨HK7.out.trans HK9.out,(show _=_ from HKP9.out).trans HKP7.out,⟨⟨HA9.out,HM9.out,by rw[HDV.out,if_pos trivial];exact HR9.out,HD9.out⟩,HB9.out⟩⟩
 case done =>
  rintro D' ys W hD' hys ⟨⟨hA',hM',hR',hD''⟩,hB'⟩ hK;have cR:=hR'.cell;gi_wp2;refine⟨by simp,.inl ⟨_,_,rfl,run_takeDeferred hK,?_⟩⟩;subst hA;exact⟨_,results_tmp2 rfl _ _ _,rfl,hB'.trans (belowK_b (w:=w) nlr W D' _ _ (by omega) hK rfl rfl)⟩
 case stop =>
  rintro D' c pre W _ _ h _;exact h.elim
theorem mod_Exp(a n m:Nat)(ha:a<18446744073709551616)(hn:n<256 ^ 128)(hm8:m<18446744073709551616)(h0:0<m)(w:World):Calls Tryz.prog 151 #[.string (nS a),.string (nS n),.string (nS m)] w (Ret (.tuple #[.string (nS (a ^ n%m)),.int .i64 0]) w):=by
 exact mod_Exp_of a n m (nS_valid_small ha) (mod_reduced a m ha (lt128_of_lt8 hm8) h0) hn hm8 h0 w
set_option maxRecDepth 100000
open Go.RowKit Go.Lib
theorem mod_reducedA(x m:Nat)(hx8:x<256 ^ 128)(hm:m<256 ^ 128)(h0:0<m)(w:World):Calls Tryz.prog 77 #[.string (nS x),.string (nS m)] w (Ret (.string (nS (x%m))) w):=by
 have HD:=Hq (nat_DivModA x m hx8 hm h0);obtain⟨s,hs⟩:∃ s,nS x=s:=⟨_,rfl⟩;obtain⟨t,ht⟩:∃ t,nS m=t:=⟨_,rfl⟩;rw[hs,ht]at HD;rw[hs,ht];clear hs ht hm hx8;go_enter Tryz.func77,Tryz.ntmps77;go_wp2_with fail;refine(HD.out _).mono ?_;rintro e w1 ⟨rfl,hb⟩;have HB:=Hq hb;clear hb;go_wp2;go_ret;exact⟨rfl,HB.out⟩
structure EInv (a b r0 r1:Nat) (x0 x1 y0 y1:Int):Prop where
 e0:(a:Int) * x0+b * y0=r0
 e1:(a:Int) * x1+b * y1=r1
 bx:x1.natAbs * r0+x0.natAbs * r1=b
 bY:y1.natAbs * r0+y0.natAbs * r1=a
 sx:(x0≤0∧0≤x1)∨(0≤x0∧x1≤0)
 sy:(y0≤0∧0≤y1)∨(0≤y0∧y1≤0)
 gc:Nat.gcd r0 r1=Nat.gcd a b
 pos:0<r0∨0<r1
 lx:x0.natAbs * r0≤b
 lt:x1=0∨r1<r0
 one:r0=0→y1.natAbs≤1
theorem EInv.start{a b:Nat}(hb:0<b)(hab:a≤b):EInv a b a b 1 0 0 1:=by
 refine⟨by simp,by simp,by simp,by simp,.inr ⟨by decide,by decide⟩,.inl ⟨by decide,by decide⟩,rfl,.inr hb,by simpa using hab,.inl rfl,fun _=>by decide⟩
theorem abs_step{x0 x1:Int}{q:Nat}(h:(x0≤0∧0≤x1)∨(0≤x0∧x1≤0)):(x0 - q * x1).natAbs=x0.natAbs+q * x1.natAbs∧((x1≤0∧0≤x0 - q * x1)∨(0≤x1∧x0 - q * x1≤0)):=by
 rcases h with⟨h0,h1⟩ | ⟨h0,h1⟩
 · have hp:0≤(q:Int) * x1:=Int.mul_nonneg (by omega) h1;have e:((q * x1.natAbs:Nat):Int)=q * x1:=by rw[Int.natCast_mul];congr 1;omega
   exact⟨by omega,.inr ⟨h1,by omega⟩⟩
 · have hp:(q:Int) * x1≤0:=Int.mul_nonpos_of_nonneg_of_nonpos (by omega) h1;have e:((q * x1.natAbs:Nat):Int) = -(q * x1):=by rw[Int.natCast_mul,←Int.mul_neg];congr 1;omega
   exact⟨by omega,.inl ⟨h1,by omega⟩⟩
theorem bez_step{r0 r1 s0 s1:Nat}(h:0<r1):(s0+r0 / r1 * s1) * r1+s1 * (r0%r1)=s1 * r0+s0 * r1:=by
 have e:=Nat.div_add_mod r0 r1;have e2:s1 * r0=s1 * (r1 * (r0 / r1))+s1 * (r0%r1):=by rw[←Nat.mul_add,e]
 have e3:s1 * (r1 * (r0 / r1))=r0 / r1 * s1 * r1:=by rw[Nat.mul_comm r1,←Nat.mul_assoc,Nat.mul_comm s1]
 rw[e2,e3,Nat.add_mul];omega
theorem EInv.step{a b r0 r1:Nat}{x0 x1 y0 y1:Int}(h:EInv a b r0 r1 x0 x1 y0 y1)(h1:0<r1):EInv a b r1 (r0%r1) x1 (x0 - (r0 / r1:Nat) * x1) y1 (y0 - (r0 / r1:Nat) * y1):=by
 have ax:=abs_step (q:=r0 / r1) h.sx;have ay:=abs_step (q:=r0 / r1) h.sy;have em:((r0%r1:Nat):Int)=r0 - (r0 / r1:Nat) * r1:=by
  have:=Nat.div_add_mod r0 r1;have e:((r1 * (r0 / r1)+r0%r1:Nat):Int)=r0:=by rw[this]
  rw[Int.natCast_add,Int.natCast_mul]at e;rw[Int.mul_comm]at e;omega
 refine⟨h.e1,?_,?_,?_,ax.2,ay.2,?_,.inl h1,?_,.inr (Nat.mod_lt _ h1),fun e=>by omega⟩
 · rw[em,←h.e0,←h.e1,Int.mul_sub,Int.mul_sub,Int.mul_add];rw[←Int.mul_assoc (a:Int),Int.mul_comm (a:Int) ((r0 / r1:Nat):Int),Int.mul_assoc,←Int.mul_assoc (b:Int),Int.mul_comm (b:Int) ((r0 / r1:Nat):Int),Int.mul_assoc];omega
 · rw[ax.1,bez_step h1];exact h.bx
 · rw[ay.1,bez_step h1];exact h.bY
 · rw[←h.gc,Nat.gcd_comm r1,←Nat.gcd_rec,Nat.gcd_comm]
 · have hb:=h.bx;rcases h.lt with e | e
   · rw[e];simp
   · have:=Nat.mul_le_mul_left x1.natAbs (Nat.le_of_lt e);omega
theorem EInv.small{a b r0 r1:Nat}{x0 x1 y0 y1:Int}(h:EInv a b r0 r1 x0 x1 y0 y1)(h1:0<r1)(N:Nat)(ha:a<N)(hb:b<N)(hN:1<N) :
 x0.natAbs<N∧x1.natAbs<N∧y0.natAbs<N∧y1.natAbs<N∧((r0 / r1:Nat) * x1).natAbs<N∧((r0 / r1:Nat) * y1).natAbs<N:=by
 have hbx:=h.bx;have hby:=h.bY;have m0:x0.natAbs≤x0.natAbs * r1:=Nat.le_mul_of_pos_right _ h1;have n0:y0.natAbs≤y0.natAbs * r1:=Nat.le_mul_of_pos_right _ h1;have hq:∀ s:Nat,r0 / r1 * s≤s * r0:=fun s=>by
  rw[Nat.mul_comm];exact Nat.mul_le_mul_left s (Nat.div_le_self _ _)
 have q1:=hq x1.natAbs;have q2:=hq y1.natAbs;have a1:((r0 / r1:Nat) * x1:Int).natAbs=r0 / r1 * x1.natAbs:=by rw[Int.natAbs_mul,Int.natAbs_natCast]
 have a2:((r0 / r1:Nat) * y1:Int).natAbs=r0 / r1 * y1.natAbs:=by rw[Int.natAbs_mul,Int.natAbs_natCast]
 rw[a1,a2];rcases Nat.eq_zero_or_pos r0 with e | e
 · have hx1:x1.natAbs=0:=by
    rcases h.lt with e' | e'
    · rw[e'];rfl
    · omega
   have hy1:=h.one e;refine⟨by omega,by omega,by omega,by omega,by omega,by omega⟩
 · have m1:x1.natAbs≤x1.natAbs * r0:=Nat.le_mul_of_pos_right _ e;have n1:y1.natAbs≤y1.natAbs * r0:=Nat.le_mul_of_pos_right _ e;refine⟨by omega,by omega,by omega,by omega,by omega,by omega⟩
theorem EInv.last{a b r0:Nat}{x0 x1 y0 y1:Int}(h:EInv a b r0 0 x0 x1 y0 y1)(hb:0<b):r0=Nat.gcd a b∧0<r0∧x0.natAbs≤b / r0∧(a:Int) * x0+b * y0=r0:=by
 have hp:0<r0:=by rcases h.pos with e | e<;>omega
 refine⟨by rw[←h.gc,Nat.gcd_zero_right],hp,(Nat.le_div_iff_mul_le hp).2 h.lx,h.e0⟩
theorem gcd_of_pw{a q m:Nat}(h:a ^ q%m=1)(hq:0<q):Nat.gcd a m=1:=by
 have h1:Nat.gcd a m ∣ a ^ q:=(by obtain⟨r,rfl⟩:∃ r,q=r+1:=⟨q - 1,by omega⟩;rw[Nat.pow_succ];exact Nat.dvd_trans (Nat.gcd_dvd_left a m) (Nat.dvd_mul_left _ _));have h2:Nat.gcd a m ∣ m * (a ^ q / m):=Nat.dvd_trans (Nat.gcd_dvd_right a m) (Nat.dvd_mul_right _ _);have h3:=Nat.div_add_mod (a ^ q) m;rw[h]at h3;rw[←h3]at h1;exact Nat.dvd_one.1 ((Nat.dvd_add_right h2).1 h1)
theorem inv_of_bez{a m:Nat}{x y:Int}(hx:0≤x)(h:(a:Int) * x+m * y=1)(hm:1<m):a * x.natAbs%m=1:=by
 have e:((a * x.natAbs:Nat):Int)=1+m * (-y):=(by rw[Int.natCast_mul,Int.natAbs_of_nonneg hx,Int.mul_neg];omega);have e2:((a * x.natAbs%m:Nat):Int)=1:=(by rw[Int.natCast_emod,e,Int.add_mul_emod_self_left];exact Int.emod_eq_of_lt (by omega) (by omega));omega
theorem inv_red{a m x:Nat}(h:a * x%m=1):a * (x%m)%m=1:=by rw[Nat.mul_mod,Nat.mod_mod,←Nat.mul_mod,h]
theorem ext_y_bound{a b r0:Nat}{x0 y0:Int}(he:(a:Int) * x0+b * y0=r0)(hx:x0.natAbs * r0≤b)(hr:0<r0)(hrb:r0≤b)(hab:a<b):y0.natAbs≤b:=by
 have hxb:x0.natAbs≤b:=Nat.le_trans (Nat.le_mul_of_pos_right _ hr) hx;have h1:(b * y0.natAbs:Nat)≤r0+a * x0.natAbs:=by
  have e:(b:Int) * y0=r0 - a * x0:=by omega
  have e2:((b:Int) * y0).natAbs=b * y0.natAbs:=by rw[Int.natAbs_mul,Int.natAbs_natCast]
  have e3:((a:Int) * x0).natAbs=a * x0.natAbs:=by rw[Int.natAbs_mul,Int.natAbs_natCast]
  omega
 have h2:a * x0.natAbs≤(b - 1) * b:=Nat.mul_le_mul (by omega) hxb;have h3:(b - 1) * b+b=b * b:=(by obtain⟨c,rfl⟩:∃ c,b=c+1:=⟨b - 1,by omega⟩;rw[Nat.add_sub_cancel,Nat.add_mul c 1 (c+1),Nat.one_mul]);have h4:b * y0.natAbs≤b * b:=by omega
 exact Nat.le_of_mul_le_mul_left h4 (by omega)
end Go.Proofs.YtfbmbledklbfgaaGreatDoor

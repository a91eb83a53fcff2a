import Derived.Test.YtmahgbhpdfbbjaaGreatDoorQRfM
set_option linter.unusedVariables false
set_option linter.unusedSimpArgs false
namespace Go.Proofs.YtmahgbhpdfbbjaaGreatDoor
set_option maxRecDepth 100000
set_option maxHeartbeats 2000000
open Go.RowKit Go.Shelf
attribute [local go_sem] Oper.semAt_some
def BoxS(W:World)(B:Nat)(s:ByteArray):Prop:=W.heap[B]? =some (.cells #[.string s] 22 (0,0))
theorem BoxS.cell{W:World}{B:Nat}{s:ByteArray}(h:BoxS W B s):W.cell? ⟨B,0,none⟩=some (.string s):=by rw[Lib.cell_of_heap h];rfl
theorem BoxS.free{W:World}{B:Nat}{s:ByteArray}(h:BoxS W B s):W.frozen? ⟨B,0,none⟩=false:=Lib.frozen_of_heap h 0
theorem BoxS.kept{W W':World}{K B:Nat}{s:ByteArray}(h:BoxS W B s)(hb:Below K W W')(hB:B<K):BoxS W' B s:=(hb.block B hB).trans h
theorem BoxS.lt{W:World}{B:Nat}{s:ByteArray}(h:BoxS W B s):B<W.heap.size:=block_lt h
theorem BoxS.set{W:World}{B:Nat}{s t:ByteArray}(h:BoxS W B s):BoxS (W.setCell ⟨B,0,none⟩ (.string t)) B t:=block_setCell h _
theorem BoxS.alloc{W:World}{B:Nat}{s:ByteArray}(h:BoxS W B s)(o:Obj):BoxS (W.alloc o) B s:=h.kept ((blr).alloc nlr o) h.lt
theorem BoxS.new(W:World)(s:ByteArray):BoxS (W.alloc (.cells #[.string s] 22)) W.heap.size s:=heap_alloc_new _ _
theorem BoxS.other{W:World}{B C:Nat}{s:ByteArray}{v:Value}(h:BoxS W B s)(hne:B≠C):BoxS (W.setCell ⟨C,0,none⟩ v) B s:=by
 unfold BoxS;rw[←h];exact heap_setCell_other _ _ _ _ hne
theorem KeepsOthers.of_below{W W':World}(h:Below W.heap.size W W'):KeepsOthers W W':=⟨h.size,fun k o hk _=>(h.block k (block_lt hk)).trans hk⟩
theorem mod_digits(s:ByteArray)(w:World):Calls Tryz.prog 149 #[.string s] w fun e w'=>e=.returned (.func (.func 162) #[] #[.pointer (some ⟨w.heap.size,0,none⟩)])∧w'=w.alloc (.cells #[.string s] 22):=by
 go_enter Tryz.func149,Tryz.ntmps149;go_wp2;go_ret;exact⟨rfl,rfl⟩
theorem mod_Exp_of(a n m:Nat)(ha:nvalid (nS a)=true)(hra:∀ w,Calls Tryz.prog 80 #[.string (nS a),.string (nS m)] w (Ret (.string (nS (a%m))) w))(hn:n<256 ^ 128)(hm8:m<18446744073709551616)(h0:0<m)(w:World):Calls Tryz.prog 133 #[.string (nS a),.string (nS n),.string (nS m)] w (Ret (.tuple #[.string (nS (a ^ n%m)),.int .i64 0]) w):=by
 have hm:=lt128_of_lt8 hm8;have ham:a%m<18446744073709551616:=Nat.lt_trans (Nat.mod_lt _ h0) hm8;have HC:=Hq (fun w=>check_two w (nS a) (nS n) (nS m) _ rfl ha (nvalid_nS.2 hn) (nS_valid_small hm8) (empty_nS h0) _ rfl);have HRA:=Hq hra;clear hra;have HR1:=Hq (mod_reduced 1 m (by decide) hm h0);have HTT:=Hq (fun E=>mod_times (a ^ E%m) (a ^ E%m) m (Nat.lt_trans (Nat.mod_lt _ h0) hm8) (Nat.lt_trans (Nat.mod_lt _ h0) hm8) hm8 h0);have HTA:=Hq (fun E=>mod_times (a ^ E%m) (a%m) m (Nat.lt_trans (Nat.mod_lt _ h0) hm8) ham hm8 h0);have HDS:=Hq (fun k (hk:1≤k) D w hD=>digits_stops k n hn hk D w hD);rw[num_one]at HR1;obtain⟨s,hs⟩:=nm (nS a);obtain⟨t,ht⟩:=nm (nS n);obtain⟨u,hu⟩:=nm (nS m);rw[hs,ht,hu]at HC;rw[hs,hu]at HRA;rw[hu]at HR1 HTT HTA;rw[ht]at HDS;rw[hs,ht,hu];clear hs ht hu ha hn hm8 hm ham;refine(callsIn_wide (n:=3)).1 ?_;refine callsIn_of_wp_marks Tryz.func133 rfl trivial ?_ rfl;simp only[Tryz.ntmps133,List.size_toArray,List.length_cons,List.length_nil,Nat.reduceAdd,Nat.reduceSub,Array.replicate_succ,Array.replicate_zero,List.push_toArray,List.append_toArray,List.nil_append,List.cons_append];gi_wp2;have hck:=HC.out ((w.alloc (.cells #[.string s] 22)).alloc (.cells #[.string u] 22));simp only[World.size_alloc]at hck;refine⟨trivial,callsIn_wide.2 (hck.mono ?_)⟩;rintro e w2 ⟨rfl,hb2⟩;have h1M:BoxS ((w.alloc (.cells #[.string s] 22)).alloc (.cells #[.string u] 22)) (w.heap.size+1) u:=(by have:=BoxS.new (w.alloc (.cells #[.string s] 22)) u;rwa[World.size_alloc]at this);have hA2:BoxS w2 w.heap.size s:=BoxS.kept ((((BoxS.new w s).alloc _).alloc _).alloc _) hb2 (by omega);have hM2:BoxS w2 (w.heap.size+1) u:=BoxS.kept ((h1M.alloc _).alloc _) hb2 (by omega);have HB2:Below w.heap.size w w2:=(((((Below.refl w.heap.size w).alloc nlr _).alloc (by simp) _).alloc (by simp;omega) _).alloc (by simp;omega) _).trans (hb2.mono (by omega));have HA2:=Hq hA2;have HM2:=Hq hM2;have HBB2:=Hq HB2;have cA:=hA2.cell;have cM:=hM2.cell;have fA:=hA2.free;clear hck hb2 hA2 hM2 HB2 h1M;gi_wp2;refine⟨trivial,callsIn_wide.2 ((HRA.out _).mono ?_)⟩;rintro e w3 ⟨rfl,hb3⟩;have HA3:=Hq (HA2.out.kept hb3 HA2.out.lt);have HM3:=Hq (HM2.out.kept hb3 HM2.out.lt);have HB3:=bTr HBB2 hb3;clear hb3 cA cM fA;have cA:=HA3.out.cell;have cM:=HM3.out.cell;have fA:=HA3.out.free;gi_wp2;refine⟨trivial,callsIn_wide.2 ((HR1.out _).mono ?_)⟩;rintro e w4 ⟨rfl,hb4⟩;have hA3':BoxS (w3.setCell ⟨w.heap.size,0,none⟩ (.string (nS (a%m)))) w.heap.size (nS (a%m)):=HA3.out.set;have hM3':BoxS (w3.setCell ⟨w.heap.size,0,none⟩ (.string (nS (a%m)))) (w.heap.size+1) u:=HM3.out.other (by omega);have HA4:=Hq (hA3'.kept hb4 hA3'.lt);have HM4:=Hq (hM3'.kept hb4 hM3'.lt);have HB3':=HB3.out.setCell (p:=⟨w.heap.size,0,none⟩) nlr (.string (nS (a%m)));have HB4:=Hq (HB3'.trans (hb4.mono HB3'.size));have hlt4:=HM4.out.lt;clear hb4 cA cM fA hA3' hM3' HB3';have cA:=HA4.out.cell;have cM:=HM4.out.cell;have fA:=HA4.out.free;gi_wp2;refine⟨trivial,callsIn_wide.2 ((mod_digits t _).mono ?_)⟩;rintro e w5 ⟨rfl,rfl⟩;gi_wp2;have HR5:=Hq ((BoxS.new w4 (nS (1%m))).alloc (.cells #[.string t] 22));have hD5:BoxS ((w4.alloc (.cells #[.string (nS (1%m))] 22)).alloc (.cells #[.string t] 22)) (w4.heap.size+1) t:=(by have:=BoxS.new (w4.alloc (.cells #[.string (nS (1%m))] 22)) t;rwa[World.size_alloc]at this);have HD5:=Hq hD5;have HA5:=Hq ((HA4.out.alloc (.cells #[.string (nS (1%m))] 22)).alloc (.cells #[.string t] 22));have HM5:=Hq ((HM4.out.alloc (.cells #[.string (nS (1%m))] 22)).alloc (.cells #[.string t] 22));have HB5:=Hq ((HB4.out.alloc HB4.out.size (.cells #[.string (nS (1%m))] 22)).alloc (by simp;omega) (.cells #[.string t] 22));have hz5:w4.heap.size+1<((w4.alloc (.cells #[.string (nS (1%m))] 22)).alloc (.cells #[.string t] 22)).heap.size:=hD5.lt;obtain⟨W0,hW0⟩:=nm ((w4.alloc (.cells #[.string (nS (1%m))] 22)).alloc (.cells #[.string t] 22));obtain⟨R,hR⟩:=nm (w4.heap.size);rw[hW0,hR]at HR5 HD5 hz5;rw[hW0]at HA5 HM5 HB5;rw[hR]at hlt4;rw[hW0,hR];clear hD5 hW0 hR HA4 HM4 HB4 HA3 HM3 HB3 HA2 HM2 HBB2 cA cM fA;obtain⟨A,hA⟩:=nm (w.heap.size);rw[hA]at HA5 HM5 HB5 hlt4⊢;refine wpIn_rangeFunc_ownF rfl (by omega) (gf:=162) (lb:=#[.pointer (some ⟨R+1,0,none⟩)]) rfl trivial (enters_of Tryz.func162 (by kernel_rfl) rfl)
  (HDS.out 2 (by omega) (R+1) W0 HD5.out) (fun h k=>(show _=_ from k).trans h) (fun W l o o' hl _ _ _=>World.putObj_heap_other (by omega)) blr (fun _=>rfl)
  (fun pre W=>(BoxS W A (nS (a%m))∧BoxS W (A+1) u∧BoxS W R (nS (a ^ dv pre%m))∧BoxS W (R+1) t)∧Below A w W)
  (fun _ _ _=>False)
  (OwnFrom.and (Own.from (fun s X Y row hs hg hr=>⟨boxed_own A 22 (fun _:List Bool=>.string (nS (a%m))) s X Y row hs.1 hg hr,boxed_own (A+1) 22 (fun _:List Bool=>.string u) s X Y row hs.2.1 hg hr,boxed_own R 22 (fun pre:List Bool=>.string (nS (a ^ dv pre%m))) s X Y row hs.2.2.1 hg hr,boxed_own (R+1) 22 (fun _:List Bool=>.string t) s X Y row hs.2.2.2 hg hr⟩) _) (ownFrom_below (by omega) (by omega)))
  (fun _ _ _ _ _ hs _ _=>hs)
  ⟨⟨HA5.out,HM5.out,by rw[show dv []=0 from rfl,Nat.pow_zero];exact HR5.out,HD5.out⟩,HB5.out⟩
  (fun x => { tmps:=#[.string s,.string t,.string u,.pointer (some ⟨A,0,none⟩),undef,.pointer (some ⟨A+1,0,none⟩),.string ⟨#[]⟩,.int .i64 0,.int .i64 0,.pointer (some ⟨R,0,none⟩),.bool x,.string s,.string t,.slice (some ⟨A+1+1,0,none⟩) 2 2,.string u,.slice (some ⟨A+1+1+1,0,none⟩) 1 1,.int .i64 0,.int .i64 0,.bool false,undef,.string s,.string u,.string (nS (a%m)),.string u,.string (nS (1%m)),.string t,.func (.func 162) #[] #[.pointer (some ⟨R+1,0,none⟩)],.bool x,undef,undef,undef,undef,undef,undef,undef,undef,undef,undef],defers:=[] }) ?assign ?body ?done ?stop
 case assign =>
  intro l x W K hK;gi_wp2;exact hK
 case body =>
  rintro l pre x W ⟨⟨hA',hM',hR',hD'⟩,hB'⟩ _;have HA':=Hq hA';have HM':=Hq hM';have HR':=Hq hR';have HD':=Hq hD';have HB':=Hq hB';have cA:=hA'.cell;have cM:=hM'.cell;have cR:=hR'.cell;have fR:=hR'.free;obtain⟨E,hE⟩:=nm (dv pre);rw[hE]at HR' cR;have HTE:=Hq (HTT.out E);rw[pw_two]at HTE;have HTF:=Hq (HTA.out (2 * E));rw[pw_one']at HTF;have HDV:=Hq (dv_snoc pre x);rw[hE]at HDV;clear hA' hM' hR' hD' hB' hE;gi_wp2;refine⟨trivial,CallsIn.inRound l (callsIn_wide.2 ((HTE.out _).mono ?_))⟩;rintro ev w6 ⟨rfl,hb6⟩;have HK7:=Hq ((KeepsOthers.of_below hb6).trans (KeepsOthers.setCell w6 ⟨R,0,none⟩ (.string (nS (a ^ (2 * E)%m)))));have HA7:=Hq ((HA'.out.kept hb6 HA'.out.lt).other (C:=R) (v:=.string (nS (a ^ (2 * E)%m))) (by omega));have HM7:=Hq ((HM'.out.kept hb6 HM'.out.lt).other (C:=R) (v:=.string (nS (a ^ (2 * E)%m))) (by omega));have HR7:=Hq ((HR'.out.kept hb6 HR'.out.lt).set (t:=(nS (a ^ (2 * E)%m))));have HD7:=Hq ((HD'.out.kept hb6 HD'.out.lt).other (C:=R) (v:=.string (nS (a ^ (2 * E)%m))) (by omega));have HKP7:=Hq (show KpD (R+1) W (w6.setCell ⟨R,0,none⟩ (.string (nS (a ^ (2 * E)%m))))from HD7.out.trans HD'.out.symm);have HB7:=Hq ((HB'.out.trans (hb6.mono (Nat.le_trans (by omega) HB'.out.size))).setCell (p:=⟨R,0,none⟩) (show A≤R by omega) (.string (nS (a ^ (2 * E)%m))));have cR7:=(HR'.out.kept hb6 HR'.out.lt).cell;have fR7:=(HR'.out.kept hb6 HR'.out.lt).free;clear hb6;have cA7:=HA7.out.cell;have cM7:=HM7.out.cell;have cS7:=HR7.out.cell;have fS7:=HR7.out.free
  cases x with
  | false =>
   gi_wp2;exact⟨HK7.out,HKP7.out,⟨⟨HA7.out,HM7.out,by rw[HDV.out,if_neg (by decide),Nat.add_zero];exact HR7.out,HD7.out⟩,HB7.out⟩⟩
  | true =>
   gi_wp2;refine⟨trivial,CallsIn.inRound l (callsIn_wide.2 ((HTF.out _).mono ?_))⟩;rintro ev w8 ⟨rfl,hb8⟩;have HK9:=Hq ((KeepsOthers.of_below hb8).trans (KeepsOthers.setCell w8 ⟨R,0,none⟩ (.string (nS (a ^ (2 * E+1)%m)))));have HA9:=Hq ((HA7.out.kept hb8 HA7.out.lt).other (C:=R) (v:=.string (nS (a ^ (2 * E+1)%m))) (by omega));have HM9:=Hq ((HM7.out.kept hb8 HM7.out.lt).other (C:=R) (v:=.string (nS (a ^ (2 * E+1)%m))) (by omega));have HR9:=Hq ((HR7.out.kept hb8 HR7.out.lt).set (t:=(nS (a ^ (2 * E+1)%m))));have HD9:=Hq ((HD7.out.kept hb8 HD7.out.lt).other (C:=R) (v:=.string (nS (a ^ (2 * E+1)%m))) (by omega));have HKP9:=Hq (show KpD (R+1) (w6.setCell ⟨R,0,none⟩ (.string (nS (a ^ (2 * E)%m)))) (w8.setCell ⟨R,0,none⟩ (.string (nS (a ^ (2 * E+1)%m))))from HD9.out.trans HD7.out.symm);have HB9:=Hq ((HB7.out.trans (hb8.mono (Nat.le_trans (by omega) HB7.out.size))).setCell (p:=⟨R,0,none⟩) (show A≤R by omega) (.string (nS (a ^ (2 * E+1)%m))));have cR9:=(HR7.out.kept hb8 HR7.out.lt).cell;have fR9:=(HR7.out.kept hb8 HR7.out.lt).free;clear hb8;have cA9:=HA9.out.cell;have cM9:=HM9.out.cell;have cS9:=HR9.out.cell;have fS9:=HR9.out.free;gi_wp2;exact⟨HK7.out.trans HK9.out,(show _=_ from HKP9.out).trans HKP7.out,⟨⟨HA9.out,HM9.out,by rw[HDV.out,if_pos trivial];exact HR9.out,HD9.out⟩,HB9.out⟩⟩
 case done =>
  rintro D' ys W hD' hys ⟨⟨hA',hM',hR',hD''⟩,hB'⟩ hK;have cR:=hR'.cell;gi_wp2;refine⟨by simp,.inl ⟨_,_,rfl,run_takeDeferred hK,?_⟩⟩;subst hA;exact⟨_,results_tmp2 rfl _ _ _,rfl,hB'.trans (belowK_b (w:=w) nlr W D' _ _ (by omega) hK rfl rfl)⟩
 case stop =>
  rintro D' c pre W _ _ h _;exact h.elim
theorem mod_Exp(a n m:Nat)(ha:a<18446744073709551616)(hn:n<256 ^ 128)(hm8:m<18446744073709551616)(h0:0<m)(w:World):Calls Tryz.prog 133 #[.string (nS a),.string (nS n),.string (nS m)] w (Ret (.tuple #[.string (nS (a ^ n%m)),.int .i64 0]) w):=by
 exact mod_Exp_of a n m (nS_valid_small ha) (mod_reduced a m ha (lt128_of_lt8 hm8) h0) hn hm8 h0 w
set_option maxRecDepth 100000
set_option maxHeartbeats 1000000
open Go.RowKit
def RetI(a m:Nat)(w:World)(e:Ending)(w':World):Prop:=∃ x:Nat,e=.returned (.tuple #[.string (nS x),.int .i64 0])∧Below w.heap.size w w'∧x<m∧a * x%m=1
theorem mod_Inverse(a m:Nat)(ham:a<m)(hm8:m<18446744073709551616)(h1:1<m)(hg:Nat.gcd a m=1)(w:World):Calls Tryz.prog 48 #[.string (nS a),.string (nS m)] w (RetI a m w):=by
 have ha8:a<18446744073709551616:=by omega
 have HC:=Hq (fun w=>check_one w (nS a) (nS m) _ rfl (nS_valid_small ha8) (nS_valid_small hm8) (empty_nS (by omega)) _ rfl);have HR:=Hq (mod_reduced a m ha8 (lt128_of_lt8 hm8) (by omega));rw[Nat.mod_eq_of_lt ham]at HR;have HE:=Hq (int_Extended a m ham hm8);have HRX:=Hq (fun x (hx:x<18446744073709551616)=>mod_reduced x m hx (lt128_of_lt8 hm8) (by omega));have HG:=Hq hg;have HM1:=Hq h1;obtain⟨s,hs⟩:=nm (nS a);obtain⟨t,ht⟩:=nm (nS m);rw[hs,ht]at HC HR HE;rw[ht]at HRX;rw[hs,ht];clear hs ht ham hm8 h1 hg ha8;go_enter Tryz.func48,Tryz.ntmps48;go_wp2_with fail;refine(HC.out w).mono ?_;rintro e w1 ⟨rfl,hb1⟩;have HB1:=Hq ((((Below.refl w.heap.size w).alloc nlr _).alloc (by simp) _).trans hb1);clear hb1;go_wp2_with fail;refine(HR.out _).mono ?_;rintro e w2 ⟨rfl,hb2⟩;have HB2:=bTr HB1 hb2;clear hb2;go_wp2_with fail;refine(HE.out _).mono ?_;rintro e w3 ⟨x,y,rfl,hb3,hx0,hx8,hbz⟩;have HB3:=bTr HB2 hb3;rw[HG.out]at hbz;have HI:=Hq (inv_red (inv_of_bez hx0 hbz HM1.out));have HRR:=Hq (HRX.out x.natAbs hx8);rw[HG.out,nS_one];unfold intV zV;have HML:=Hq (show x.natAbs%m<m from Nat.mod_lt _ (by have:=HM1.out;omega));obtain⟨X,hX⟩:=nm (x.natAbs);obtain⟨u,hu⟩:=nm (nS X);rw[hX]at HI HRR HML⊢;rw[hu]at HRR⊢;obtain⟨dx,hdx⟩:=nm (decide (x<0));obtain⟨dy,hdy⟩:=nm (decide (y<0));obtain⟨v,hv⟩:=nm (nS y.natAbs);rw[hdx,hdy,hv];clear hb3 hbz hx0 hx8 hX hu hdx hdy hv;go_wp2_with fail;refine(HRR.out _).mono ?_;rintro e w4 ⟨rfl,hb4⟩;have HB4:=Hq (((HB3.out.alloc HB3.out.size (.cells #[.bool dx,.string u] 74)).alloc (by have:=HB3.out.size;simp;omega) (.cells #[.bool dy,.string v] 74)).trans (hb4.mono (by have:=HB3.out.size;simp;omega)));clear hb4;go_wp2;go_ret2;exact⟨X%m,rfl,HB4.out,HML.out,HI.out⟩
set_option maxRecDepth 100000
set_option maxHeartbeats 2000000
theorem nS_beq(a b:Nat):((nS a).toList==(nS b).toList)=decide (a=b):=by
 rw[ByteArray.toList_eq,ByteArray.toList_eq,nS_data,nS_data,Bool.eq_iff_iff,beq_iff_eq,decide_eq_true_eq];exact⟨fun h=>by rw[←bnat_encN a,h,bnat_encN],fun h=>by rw[h]⟩
def gV(M O:ByteArray):Value:=.agg #[.string M,.string O]
theorem pg_formed(M O:ByteArray)(hM:M.size≤9223372036854775807)(hO:O.size≤9223372036854775807)(w:World):Calls Tryz.prog 132 #[gV M O] w (Ret (.bool (nvalid M&&nvalid O)) w):=by
 have HV1:=Hq (nat_Valid M hM);have HV2:=Hq (nat_Valid O hO);unfold gV;go_enter Tryz.func132,Tryz.ntmps132;go_wp2_with fail;refine(HV1.out _).mono ?_;rintro e w1 ⟨rfl,rfl⟩
 cases hv:nvalid M with
 | false =>
  have HVE:=Hq hv;clear hv;go_wp2;go_ret;exact⟨by rw[HVE.out];rfl,(blr).alloc nlr _⟩
 | true =>
  have HVE:=Hq hv;clear hv;go_wp2_with fail;refine(HV2.out _).mono ?_;rintro e w1 ⟨rfl,rfl⟩;go_wp2;go_ret;exact⟨by rw[HVE.out,Bool.true_and];rfl,(blr).alloc nlr _⟩
def hasP(M O e:ByteArray):Prop:=nvalid M=true∧nvalid O=true∧nvalid e=true∧0<num O∧0<num e∧num e<num M∧num e ^ num O%num M=1
instance (M O e:ByteArray):Decidable (hasP M O e):=by unfold hasP;exact inferInstance
def hasG(M O e:ByteArray):Bool:=decide (hasP M O e)
theorem pg_Has(M O e:ByteArray)(hM:M.size≤8)(hO:O.size≤1000)(he:e.size≤1000)(w:World):Calls Tryz.prog 108 #[gV M O,.string e] w (Ret (.bool (hasG M O e)) w):=by
 have HF:=Hq (pg_formed M O (by omega) (by omega));have HV:=Hq (nat_Valid e (by omega));have HB0:Below w.heap.size w (w.alloc (.cells #[.string M,.string O] 24)):=(blr).alloc nlr _
 cases hf:(nvalid M&&nvalid O)with
 | false =>
  have HR:=Hq (show hasG M O e=false from decide_eq_false (fun h=>by rw[h.1,h.2.1]at hf;cases hf));rw[hf]at HF;clear hf;rw[HR.out];unfold gV at *;go_enter Tryz.func108,Tryz.ntmps108;go_wp2_with fail;refine(HF.out _).mono ?_;rintro ev w1 ⟨rfl,hb1⟩;have HB1:=Hq (HB0.trans (hb1.mono HB0.size));have hbx:(w1.heap[w.heap.size]?)=some (.cells #[.string M,.string O] 24):=(hb1.block _ (by simp)).trans (heap_alloc_new _ _);have c0:w1.cell? ⟨w.heap.size,0,none⟩=some (.string M):=by rw[Lib.cell_of_heap hbx];rfl
  have c1:w1.cell? ⟨w.heap.size,1,none⟩=some (.string O):=by rw[Lib.cell_of_heap hbx];rfl
  have HBX:=Hq hbx;clear hb1 hbx;go_wp2;go_ret;exact⟨rfl,HB1.out⟩
 | true =>
  rw[hf]at HF;rw[Bool.and_eq_true]at hf
  cases hv:nvalid e with
  | false =>
   have HR:=Hq (show hasG M O e=false from decide_eq_false (fun h=>by rw[h.2.2.1]at hv;cases hv));rw[hv]at HV;clear hv hf;rw[HR.out];unfold gV at *;go_enter Tryz.func108,Tryz.ntmps108;go_wp2_with fail;refine(HF.out _).mono ?_;rintro ev w1 ⟨rfl,hb1⟩;have HB1:=Hq (HB0.trans (hb1.mono HB0.size));have hbx:(w1.heap[w.heap.size]?)=some (.cells #[.string M,.string O] 24):=(hb1.block _ (by simp)).trans (heap_alloc_new _ _);have c0:w1.cell? ⟨w.heap.size,0,none⟩=some (.string M):=by rw[Lib.cell_of_heap hbx];rfl
   have c1:w1.cell? ⟨w.heap.size,1,none⟩=some (.string O):=by rw[Lib.cell_of_heap hbx];rfl
   have HBX:=Hq hbx;clear hb1 hbx;go_wp2_with fail;refine(HV.out _).mono ?_;rintro ev w2 ⟨rfl,rfl⟩;go_wp2;go_ret;exact⟨rfl,HB1.out⟩
  | true =>
   have hm8:=num_small hM;have hMe:=nS_num hf.1;have hOe:=nS_num hf.2;have hee:=nS_num hv;have ho8:num O<256 ^ 128:=(by have:=hf.2;rw[hOe]at this;exact nvalid_nS.1 this);have hx8:num e<256 ^ 128:=(by have:=hv;rw[hee]at this;exact nvalid_nS.1 this);rw[hv]at HV;have HCM:=Hq (show ncmp e M=cmpI (num e) (num M)from by
    unfold ncmp
    rw[hv,hf.1,Bool.and_true,if_pos rfl,←ordB_nS,←hee,←hMe])
   have HCC:=Hq (nat_Cmp e M (by omega) (by omega));rw[HCM.out]at HCC;by_cases ho0:num O=0
   · have HR:=Hq (show hasG M O e=false from decide_eq_false (fun h=>by have:=h.2.2.2.1;omega));have hOz:O=⟨#[]⟩:=by rw[hOe,ho0];rfl
     clear hv hf hMe hOe hee ho8 hx8 hm8 ho0;subst hOz;rw[HR.out];unfold gV at *;go_enter Tryz.func108,Tryz.ntmps108;go_wp2_with fail;refine(HF.out _).mono ?_;rintro ev w1 ⟨rfl,hb1⟩;have HB1:=Hq (HB0.trans (hb1.mono HB0.size));have hbx:(w1.heap[w.heap.size]?)=some (.cells #[.string M,.string (⟨#[]⟩:ByteArray)] 24):=(hb1.block _ (by simp)).trans (heap_alloc_new _ _);have c0:w1.cell? ⟨w.heap.size,0,none⟩=some (.string M):=by rw[Lib.cell_of_heap hbx];rfl
     have c1:w1.cell? ⟨w.heap.size,1,none⟩=some (.string (⟨#[]⟩:ByteArray)):=by rw[Lib.cell_of_heap hbx];rfl
     have HBX:=Hq hbx;clear hb1 hbx;go_wp2_with fail;refine(HV.out _).mono ?_;rintro ev w2 ⟨rfl,rfl⟩;go_wp2;go_ret;exact⟨rfl,HB1.out⟩
   · by_cases hx0:num e=0
     · have HR:=Hq (show hasG M O e=false from decide_eq_false (fun h=>by have:=h.2.2.2.2.1;omega));have hez:e=⟨#[]⟩:=by rw[hee,hx0];rfl
       have hOn:O.toList.isEmpty=false:=by rw[hOe];exact empty_nS (by omega)
       clear hv hf hMe hOe hee ho8 hx8 hm8 ho0;subst hez;rw[HR.out];unfold gV at *;go_enter Tryz.func108,Tryz.ntmps108;go_wp2_with fail;refine(HF.out _).mono ?_;rintro ev w1 ⟨rfl,hb1⟩;have HB1:=Hq (HB0.trans (hb1.mono HB0.size));have hbx:(w1.heap[w.heap.size]?)=some (.cells #[.string M,.string O] 24):=(hb1.block _ (by simp)).trans (heap_alloc_new _ _);have c0:w1.cell? ⟨w.heap.size,0,none⟩=some (.string M):=by rw[Lib.cell_of_heap hbx];rfl
       have c1:w1.cell? ⟨w.heap.size,1,none⟩=some (.string O):=by rw[Lib.cell_of_heap hbx];rfl
       have HBX:=Hq hbx;clear hb1 hbx;go_wp2_with fail;refine(HV.out _).mono ?_;rintro ev w2 ⟨rfl,rfl⟩;go_wp2;go_ret;exact⟨rfl,HB1.out⟩
     · have hOn:O.toList.isEmpty=false:=by rw[hOe];exact empty_nS (by omega)
       have hen:e.toList.isEmpty=false:=by rw[hee];exact empty_nS (by omega)
       by_cases hxm:num M≤num e
       · have HR:=Hq (show hasG M O e=false from decide_eq_false (fun h=>by have:=h.2.2.2.2.2.1;omega));have hg:=cmpI_nonneg hxm;obtain⟨c,hc⟩:=nm (cmpI (num e) (num M));rw[hc]at hg HCC;clear hv hf hMe hOe hee ho8 hx8 hm8 ho0 hx0 hxm hc;rw[HR.out];unfold gV at *;go_enter Tryz.func108,Tryz.ntmps108;go_wp2_with fail;refine(HF.out _).mono ?_;rintro ev w1 ⟨rfl,hb1⟩;have HB1:=Hq (HB0.trans (hb1.mono HB0.size));have hbx:(w1.heap[w.heap.size]?)=some (.cells #[.string M,.string O] 24):=(hb1.block _ (by simp)).trans (heap_alloc_new _ _);have c0:w1.cell? ⟨w.heap.size,0,none⟩=some (.string M):=by rw[Lib.cell_of_heap hbx];rfl
         have c1:w1.cell? ⟨w.heap.size,1,none⟩=some (.string O):=by rw[Lib.cell_of_heap hbx];rfl
         have HBX:=Hq hbx;clear hb1 hbx;go_wp2_with fail;refine(HV.out _).mono ?_;rintro ev w2 ⟨rfl,rfl⟩;go_wp2_with fail;refine(HCC.out _).mono ?_;rintro ev w2 ⟨rfl,rfl⟩;go_wp2;go_ret;exact⟨rfl,HB1.out⟩
       · rw[cmpI_lt (by omega)]at HCC;have HE1:=Hq (mod_Exp (num e) (num O) (num M) (by omega) ho8 hm8 (by omega));have HE2:=Hq (mod_Exp (num e) 0 (num M) (by omega) (by decide) hm8 (by omega));rw[←hee,←hOe,←hMe]at HE1;rw[←hee,←hMe,nS_zero,Nat.pow_zero,Nat.mod_eq_of_lt (by omega)]at HE2;obtain⟨A,hA⟩:=nm (num e ^ num O%num M);rw[hA]at HE1;have HR:=Hq (show hasG M O e=decide (A=1)from decide_eq_decide.2 ⟨fun h=>by rw[←hA];exact h.2.2.2.2.2.2,fun h=>⟨hf.1,hf.2,hv,by omega,by omega,by omega,by rw[hA];exact h⟩⟩);clear hv hf hMe hOe hee ho8 hx8 hm8 ho0 hx0 hxm hA;rw[HR.out];unfold gV at *;go_enter Tryz.func108,Tryz.ntmps108;go_wp2_with fail;refine(HF.out _).mono ?_;rintro ev w1 ⟨rfl,hb1⟩;have HB1:=Hq (HB0.trans (hb1.mono HB0.size));have hbx:(w1.heap[w.heap.size]?)=some (.cells #[.string M,.string O] 24):=(hb1.block _ (by simp)).trans (heap_alloc_new _ _);have c0:w1.cell? ⟨w.heap.size,0,none⟩=some (.string M):=by rw[Lib.cell_of_heap hbx];rfl
         have c1:w1.cell? ⟨w.heap.size,1,none⟩=some (.string O):=by rw[Lib.cell_of_heap hbx];rfl
         have HBX:=Hq hbx;clear hb1 hbx;go_wp2_with fail;refine(HV.out _).mono ?_;rintro ev w2 ⟨rfl,rfl⟩;go_wp2_with fail;refine(HCC.out _).mono ?_;rintro ev w2 ⟨rfl,rfl⟩;go_wp2_with fail;refine(HE1.out _).mono ?_;rintro ev w3 ⟨rfl,hb3⟩;have hbx3:=(hb3.block _ (block_lt HBX.out)).trans HBX.out;have HB3:=bTr HB1 hb3;clear hb3 c0 c1;have c0:w3.cell? ⟨w.heap.size,0,none⟩=some (.string M):=by rw[Lib.cell_of_heap hbx3];rfl
         clear hbx3;go_wp2_with fail;refine(HE2.out _).mono ?_;rintro ev w4 ⟨rfl,hb4⟩;have HB4:=bTr HB3 hb4;clear hb4;go_wp2;go_ret;exact⟨by rw[←nS_beq];rfl,HB4.out⟩
def invN(x M:Nat):Nat:=((List.range M).find? (fun y=>decide (x * y%M=1))).getD 0
theorem inv_uniq{x M y z:Nat}(hy:y<M)(hz:z<M)(h1:x * y%M=1)(h2:x * z%M=1):y=z:=by
 have e1:x * y * z%M=z:=(by rw[Nat.mul_mod,h1,Nat.one_mul,Nat.mod_mod,Nat.mod_eq_of_lt hz]);have e2:x * y * z=x * z * y:=by rw[Nat.mul_assoc,Nat.mul_comm y z,←Nat.mul_assoc]
 rw[e2,Nat.mul_mod,h2,Nat.one_mul,Nat.mod_mod,Nat.mod_eq_of_lt hy]at e1;exact e1
theorem invN_of{x M y:Nat}(hy:y<M)(h:x * y%M=1):invN x M=y:=by
 unfold invN
 cases hf:(List.range M).find? (fun y=>decide (x * y%M=1))with
 | none =>
  rw[List.find?_eq_none]at hf;have:=hf y (List.mem_range.2 hy);simp[h]at this
 | some z =>
  have h1:=List.find?_some hf;have h2:=List.mem_range.1 (List.mem_of_find?_eq_some hf);simp only[decide_eq_true_eq]at h1;exact inv_uniq h2 hy h1 h
def pp:List (Nat×Nat)→Nat→Nat
 | [],_=>1
 | (b,n)::l,k=>b ^ (n / 2 ^ k) * pp l k
def qq:List (Nat×Nat)→Nat→Nat
 | [],_=>1
 | (b,n)::l,k=>(if bitB n k then b else 1) * qq l k
theorem bit_div(n k:Nat):n / 2 ^ k=2 * (n / 2 ^ (k+1))+(if bitB n k then 1 else 0):=by
 unfold bitB;rw[Nat.pow_succ,←Nat.div_div_eq_div_mul];have:=Nat.mod_two_eq_zero_or_one (n / 2 ^ k);rcases this with h | h<;>rw[h]<;>simp<;>omega
theorem pp_step(l:List (Nat×Nat))(k:Nat):pp l k=pp l (k+1) * pp l (k+1) * qq l k:=by
 induction l with
 | nil=>rfl
 | cons a l ih =>
  obtain⟨b,n⟩:=a;have e:b ^ (n / 2 ^ k)=b ^ (n / 2 ^ (k+1)) * b ^ (n / 2 ^ (k+1)) * (if bitB n k then b else 1):=by
   conv=>lhs;rw[bit_div n k]
   rw[Nat.pow_add,Nat.pow_mul,Nat.pow_two,Nat.mul_pow];split<;>simp
  simp only[pp,qq,e,ih];simp only[Nat.mul_assoc,Nat.mul_left_comm,Nat.mul_comm]
theorem qq_snoc(l:List (Nat×Nat))(b n k:Nat):qq (l++[(b,n)]) k=qq l k * (if bitB n k then b else 1):=by
 induction l with
 | nil=>simp[qq]
 | cons a l ih=>obtain⟨c,m⟩:=a;simp only[List.cons_append,qq,ih,Nat.mul_assoc]
theorem qq_take{l:List (Nat×Nat)}{j b n:Nat}(h:l[j]? =some (b,n))(k:Nat):qq (l.take (j+1)) k=qq (l.take j) k * (if bitB n k then b else 1):=by
 rw[show l.take (j+1)=l.take j++[(b,n)]from by
  obtain⟨h1,h2⟩:=List.getElem?_eq_some_iff.1 h
  rw[List.take_succ_eq_append_getElem h1,h2],qq_snoc]
theorem pp_one{l:List (Nat×Nat)}{k:Nat}(h:∀ x∈l,x.2<2 ^ k):pp l k=1:=by
 induction l with
 | nil=>rfl
 | cons a l ih =>
  obtain⟨b,n⟩:=a;have:=h (b,n) List.mem_cons_self;rw[pp,ih (fun x hx=>h x (List.mem_cons_of_mem _ hx)),Nat.div_eq_of_lt this];rfl
theorem lt_of_blen{n k:Nat}(h:blen n≤k):n<2 ^ k:=by
 unfold blen at h;split at h
 · rename_i h0;subst h0;exact Nat.two_pow_pos k
 · rename_i h0;exact Nat.lt_of_lt_of_le ((Nat.log2_lt h0).1 (Nat.lt_succ_self _)) (Nat.pow_le_pow_right (by omega) h)
def baseN(x:Nat)(neg:Bool)(M:Nat):Nat:=if neg then invN x M else x
end Go.Proofs.YtmahgbhpdfbbjaaGreatDoor

import Derived.Test.YtmahgbhpdfbbjaaGreatDoorQLdC
import Derived.Test.YtmahgbhpdfbbjaaGreatDoorQInB
set_option linter.unusedVariables false
set_option linter.unusedSimpArgs false
namespace Go.Proofs.YtmahgbhpdfbbjaaGreatDoor
set_option maxRecDepth 100000
set_option maxHeartbeats 2000000
open Go.RowKit
theorem fitR_form'(n:Nat):∃ s c,fitR n=.tuple #[.string s,.int .i64 c]:=by
 unfold fitR;split
 · exact⟨_,_,rfl⟩
 · exact⟨_,_,rfl⟩
theorem zero256:Tryz.zeroCells161=Array.replicate 256 (.int .i64 0):=by kernel_rfl
theorem colF_zero(w:World):ColF (w.alloc (.cells Tryz.zeroCells161 161)) w.heap.size 256 (fun _=>0):=by
 have h:=heap_alloc_new w (.cells Tryz.zeroCells161 161);refine⟨fun j hj=>?_,fun j hj=>Lib.frozen_of_heap h j⟩;rw[Lib.cell_of_heap h,zero256];simp[hj]
theorem nat_Mul_core(x y x2 y2 hi lo:Nat)(ok1 ok2:Bool)(hx:x<256 ^ 128)(hy:y<256 ^ 128)(hN1:∀ w,Calls Tryz.prog 30 #[.string (nS x)] w (RetQ (.tuple #[.int .u64 x2,.bool ok1]) w))(hN2:∀ w,Calls Tryz.prog 30 #[.string (nS y)] w (RetQ (.tuple #[.int .u64 y2,.bool ok2]) w))
 (hx2:x2<18446744073709551616) (hy2:y2<18446744073709551616) (hhi:x2 * y2 / 18446744073709551616=hi) (hlo:x2 * y2%18446744073709551616=lo) (hc:¬ ((nS x).size≤8∧(nS y).size≤8∧hi=0)) (w:World):Calls Tryz.prog 58 #[.string (nS x),.string (nS y)] w (Ret (fitR (x * y)) w):=by
 have hz1:=nS_size_le.2 hx;have hz2:=nS_size_le.2 hy;have HV1:=Hq (nvalid_nS.2 hx);have HV2:=Hq (nvalid_nS.2 hy);have HN1:=Hq hN1;have HN2:=Hq hN2;have HQ:=Hq (Tryz.bits_Mul64 x2 y2 hx2 hy2);rw[hhi,hlo]at HQ;have HPR:=Hq (fun(B:Nat) (f0:Nat→Nat) (w:World) (h0:ColF w B 256 f0)=>nat_product x y B f0 hz1 hz2 w h0);have hxy:x * y<256 ^ 256:=(by rw[show 256=128+128 from rfl,Nat.pow_add];exact Nat.mul_lt_mul'' hx hy);have HFI:=Hq (nat_fitting (x * y) (by have:=nS_size_le.2 hxy;omega));obtain⟨fs,fc,hfr⟩:=fitR_form' (x * y);rw[hfr]at HFI⊢;obtain⟨P,hP⟩:=nm (nS (x * y));rw[hP]at HFI HPR;obtain⟨s,hs⟩:=nm (nS x);obtain⟨t,ht⟩:=nm (nS y);rw[hs]at hz1 HV1 HN1 hc HPR⊢;rw[ht]at hz2 HV2 HN2 hc HPR⊢;clear hs ht hx hy hN1 hN2 hx2 hy2 hhi hlo hxy hP hfr;by_cases i1:s.size≤8
 · by_cases i2:t.size≤8
   · have i3:¬ (hi=0):=fun h=>hc ⟨i1,i2,h⟩;have j1:(s.size:Int)≤8:=by omega
     have j2:(t.size:Int)≤8:=by omega
     have j3:((hi:Int)==0)=false:=beq_eq_false_iff_ne.2 (by omega);clear hc i1 i2;go_enter Tryz.func58,Tryz.ntmps58;go_wp2_with fail;refine(nat_Valid s (by omega) _).mono ?_;rintro e w1 ⟨rfl,rfl⟩;rw[HV1.out];go_wp2_with fail;refine(nat_Valid t (by omega) _).mono ?_;rintro e w1 ⟨rfl,rfl⟩;rw[HV2.out];go_wp2_with fail;refine(HN1.out _).mono ?_;rintro e w1 ⟨rfl,rfl⟩;go_wp2_with fail;refine(HN2.out _).mono ?_;rintro e w1 ⟨rfl,rfl⟩;go_wp2_with fail;refine(HQ.out _).mono ?_;rintro e w ⟨rfl,rfl⟩;go_wp2_with fail;have hcf:ColF (w.alloc (.cells Tryz.zeroCells161 161)) w.heap.size 256 (fun _=>0):=colF_zero w;have HB0:=Hq ((Below.refl w.heap.size w).alloc nlr (.cells Tryz.zeroCells161 161));refine(HPR.out _ _ _ hcf).mono ?_;rintro e w3 ⟨rfl,hb3⟩;have HB3:=Hq (HB0.out.trans hb3);clear hb3 hcf HB0;go_wp2_with fail;refine(HFI.out _).mono ?_;rintro e w4 ⟨rfl,rfl⟩;go_wp2;go_ret2;exact⟨rfl,HB3.out⟩
   · have j1:(s.size:Int)≤8:=by omega
     have j2:¬ ((t.size:Int)≤8):=by omega
     clear hc i1 i2;go_enter Tryz.func58,Tryz.ntmps58;go_wp2_with fail;refine(nat_Valid s (by omega) _).mono ?_;rintro e w1 ⟨rfl,rfl⟩;rw[HV1.out];go_wp2_with fail;refine(nat_Valid t (by omega) _).mono ?_;rintro e w1 ⟨rfl,rfl⟩;rw[HV2.out];go_wp2_with fail;refine(HN1.out _).mono ?_;rintro e w1 ⟨rfl,rfl⟩;go_wp2_with fail;refine(HN2.out _).mono ?_;rintro e w1 ⟨rfl,rfl⟩;go_wp2_with fail;refine(HQ.out _).mono ?_;rintro e w ⟨rfl,rfl⟩;go_wp2_with fail;have hcf:ColF (w.alloc (.cells Tryz.zeroCells161 161)) w.heap.size 256 (fun _=>0):=colF_zero w;have HB0:=Hq ((Below.refl w.heap.size w).alloc nlr (.cells Tryz.zeroCells161 161));refine(HPR.out _ _ _ hcf).mono ?_;rintro e w3 ⟨rfl,hb3⟩;have HB3:=Hq (HB0.out.trans hb3);clear hb3 hcf HB0;go_wp2_with fail;refine(HFI.out _).mono ?_;rintro e w4 ⟨rfl,rfl⟩;go_wp2;go_ret2;exact⟨rfl,HB3.out⟩
 · have j1:¬ ((s.size:Int)≤8):=by omega
   clear hc i1;go_enter Tryz.func58,Tryz.ntmps58;go_wp2_with fail;refine(nat_Valid s (by omega) _).mono ?_;rintro e w1 ⟨rfl,rfl⟩;rw[HV1.out];go_wp2_with fail;refine(nat_Valid t (by omega) _).mono ?_;rintro e w1 ⟨rfl,rfl⟩;rw[HV2.out];go_wp2_with fail;refine(HN1.out _).mono ?_;rintro e w1 ⟨rfl,rfl⟩;go_wp2_with fail;refine(HN2.out _).mono ?_;rintro e w1 ⟨rfl,rfl⟩;go_wp2_with fail;refine(HQ.out _).mono ?_;rintro e w ⟨rfl,rfl⟩;go_wp2_with fail;have hcf:ColF (w.alloc (.cells Tryz.zeroCells161 161)) w.heap.size 256 (fun _=>0):=colF_zero w;have HB0:=Hq ((Below.refl w.heap.size w).alloc nlr (.cells Tryz.zeroCells161 161));refine(HPR.out _ _ _ hcf).mono ?_;rintro e w3 ⟨rfl,hb3⟩;have HB3:=Hq (HB0.out.trans hb3);clear hb3 hcf HB0;go_wp2_with fail;refine(HFI.out _).mono ?_;rintro e w4 ⟨rfl,rfl⟩;go_wp2;go_ret2;exact⟨rfl,HB3.out⟩
theorem nat_MulA(x y:Nat)(hx:x<256 ^ 128)(hy:y<256 ^ 128)(w:World):Calls Tryz.prog 58 #[.string (nS x),.string (nS y)] w (Ret (fitR (x * y)) w):=by
 have hs:∀ z:Nat,z<256 ^ 128→∃(z2:Nat) (ok:Bool),(∀ w,Calls Tryz.prog 30 #[.string (nS z)] w (RetQ (.tuple #[.int .u64 z2,.bool ok]) w))∧z2<18446744073709551616∧((nS z).size≤8→z2=z):=fun z hz=>by
  by_cases h8:(nS z).size≤8
  · have hz8:z<18446744073709551616:=nS_size_le.1 h8;exact⟨z,true,nat_Small_n z hz8,hz8,fun _=>rfl⟩
  · exact⟨0,false,nat_Small_no (nS z) (by have:=nS_size_le.2 hz;omega) (.inr ⟨nvalid_nS.2 hz,by omega⟩),by decide,fun h=>absurd h h8⟩
 obtain⟨x2,ok1,hN1,hx2,hxe⟩:=hs x hx;obtain⟨y2,ok2,hN2,hy2,hye⟩:=hs y hy;by_cases hc:(nS x).size≤8∧(nS y).size≤8∧x2 * y2 / 18446744073709551616=0
 · obtain⟨c1,c2,c3⟩:=hc;obtain rfl:=hxe c1;obtain rfl:=hye c2;have hp:x2 * y2<18446744073709551616:=by omega
   have h:=nat_Mul_small x2 y2 hx2 hy2 hp w;have hf:fitR (x2 * y2)=.tuple #[.string (nS (x2 * y2)),.int .i64 0]:=(by unfold fitR;rw[if_pos (lt128_of_lt8 hp)]);rw[hf];exact h
 · exact nat_Mul_core x y x2 y2 _ _ ok1 ok2 hx hy hN1 hN2 hx2 hy2 rfl rfl hc w
theorem nat_DivModA(x y:Nat)(hx:x<256 ^ 128)(hy:y<256 ^ 128)(h0:0<y)(w:World):Calls Tryz.prog 32 #[.string (nS x),.string (nS y)] w (Ret (.tuple #[.string (nS (x / y)),.string (nS (x%y)),.int .i64 0]) w):=by
 have HD:=Hq (nat_dividedA x y hx hy h0);have hem:=empty_nS h0;have hs1:=nS_size_le.2 hx;have hs2:=nS_size_le.2 hy;have HV1:=Hq (nvalid_nS.2 hx);have HV2:=Hq (nvalid_nS.2 hy);obtain⟨s,hs⟩:=nm (nS x);obtain⟨t,ht⟩:=nm (nS y);rw[hs]at hs1 HV1 HD⊢;rw[ht]at hs2 HV2 hem HD⊢;clear hs ht hx hy;go_enter Tryz.func32,Tryz.ntmps32;go_wp2_with fail;refine(nat_Valid s (by omega) _).mono ?_;rintro e w1 ⟨rfl,rfl⟩;rw[HV1.out];go_wp2_with fail;refine(nat_Valid t (by omega) _).mono ?_;rintro e w1 ⟨rfl,rfl⟩;rw[HV2.out];go_wp2_with fail;refine(HD.out _).mono ?_;rintro e w1 ⟨rfl,hb⟩;have HB:=Hq hb;clear hb;go_wp2;go_ret3;exact⟨rfl,HB.out⟩
set_option maxRecDepth 100000
set_option maxHeartbeats 2000000
def arV(x y:Int):Value:=.agg #[.bool (decide (x<0)),.string (nS x.natAbs),.bool (decide (y<0)),.string (nS y.natAbs)]
def Bx4(W:World)(B:Nat)(x y z u:Value)(T:TypeId):Prop:=W.heap[B]? =some (.cells #[x,y,z,u] T (0,0))
theorem Bx4.new(W:World)(x y z u:Value)(T:TypeId):Bx4 (W.alloc (.cells #[x,y,z,u] T)) W.heap.size x y z u T:=heap_alloc_new _ _
theorem Bx4.kept{W W':World}{K B:Nat}{x y z u:Value}{T:TypeId}(h:Bx4 W B x y z u T)(hb:Below K W W')(hB:B<K):Bx4 W' B x y z u T:=(hb.block B hB).trans h
theorem Bx4.lt{W:World}{B:Nat}{x y z u:Value}{T:TypeId}(h:Bx4 W B x y z u T):B<W.heap.size:=block_lt h
theorem Bx4.next{W W':World}{B:Nat}{x y z u:Value}{T:TypeId}(h:Bx4 W B x y z u T)(hb:Below W.heap.size W W'):Bx4 W' B x y z u T:=h.kept hb h.lt
theorem Bx4.cells{W:World}{B:Nat}{x y z u:Value}{T:TypeId}(h:Bx4 W B x y z u T):W.cell? ⟨B,0,none⟩=some x∧W.cell? ⟨B,1,none⟩=some y∧W.cell? ⟨B,2,none⟩=some z∧W.cell? ⟨B,3,none⟩=some u:=by
 refine⟨?_,?_,?_,?_⟩<;>rw[Lib.cell_of_heap h]<;>rfl
theorem Bx4.free{W:World}{B:Nat}{x y z u:Value}{T:TypeId}(h:Bx4 W B x y z u T)(k:Nat):W.frozen? ⟨B,k,none⟩=false:=Lib.frozen_of_heap h k
theorem Bx4.other{W:World}{B C k:Nat}{x y z u:Value}{T:TypeId}(h:Bx4 W B x y z u T)(hne:B≠C)(v:Value):Bx4 (W.setCell ⟨C,k,none⟩ v) B x y z u T:=(heap_setCell_other _ _ _ _ hne).trans h
theorem Bx4.set4{W:World}{B:Nat}{x y z u a b c d:Value}{T:TypeId}(h:Bx4 W B x y z u T):Bx4 ((((W.setCell ⟨B,0,none⟩ a).setCell ⟨B,1,none⟩ b).setCell ⟨B,2,none⟩ c).setCell ⟨B,3,none⟩ d) B a b c d T:=block_setCell (block_setCell (block_setCell (block_setCell h a) b) c) d
theorem below_undrew{W W':World}(h:Below W.drew.heap.size W.drew W'):Below W.heap.size W W':=(Below.refl W.heap.size W).drew.trans h
theorem bx_of_alloc{K:Nat}{W w:World}{x y:Value}{T:TypeId}(h:Below K W (w.alloc (.cells #[x,y] T))):Bx2 (w.alloc (.cells #[x,y] T)) w.heap.size x y T:=Bx2.new _ _ _ _
theorem bx_of_alloc'{K:Nat}{W w:World}{x y:Value}{T:TypeId}(h:Below K W (w.alloc (.cells #[x,y] T)).drew):Bx2 (w.alloc (.cells #[x,y] T)).drew w.heap.size x y T:=Bx2.new w x y T
theorem ext_step(x y:Int)(q Q:Nat)(hx:x.natAbs<18446744073709551616)(hy:y.natAbs<18446744073709551616)(hq:q<18446744073709551616)(hqy:((q:Int) * y).natAbs<18446744073709551616)(w:World)(hQ:w.cell? ⟨Q,0,none⟩=some (.string (nS q))):Calls Tryz.prog 74 #[arV x y,.pointer (some ⟨Q,0,none⟩)] w (Ret (arV y (x - q * y)) w):=by
 have HFR:=Hq (int_From q (lt128_of_lt8 hq));have HMU:=Hq (int_Mul q y (by omega) hy hqy);have HSU:=Hq (int_Sub x (q * y) hx hqy);unfold arV intV zV at *;obtain⟨z,hz⟩:∃ z:Int,(q:Int) * y=z:=⟨_,rfl⟩;rw[hz]at HMU HSU⊢;obtain⟨a,ha⟩:=nm (decide (x<0));obtain⟨b,hb⟩:=nm (decide (y<0));obtain⟨s,hs⟩:=nm (nS x.natAbs);obtain⟨t,ht⟩:=nm (nS y.natAbs);obtain⟨c,hc⟩:=nm (decide (z<0));obtain⟨r,hr⟩:=nm (nS z.natAbs);obtain⟨d,hd⟩:=nm (decide (x - z<0));obtain⟨v,hv⟩:=nm (nS (x - z).natAbs);obtain⟨k,hk⟩:=nm (nS q);obtain⟨e,he⟩:=nm (decide ((q:Int)<0));rw[Int.natAbs_natCast]at HFR HMU;rw[hk,he]at HFR;rw[hk,he,hb,ht,hc,hr]at HMU;rw[ha,hs,hc,hr,hd,hv]at HSU;rw[hk]at hQ;rw[ha,hs,hb,ht,hd,hv];have hQlt:=World.block_lt_of_cell? _ _ hQ;clear ha hs hb ht hc hr hd hv hk he hz hx hy hq hqy;go_enter Tryz.func74,Tryz.ntmps74;go_wp2;obtain⟨W0,hW0⟩:=nm ((w.alloc (.cells #[.bool a,.string s,.bool b,.string t] 135)).alloc (.cells #[.bool false,.string ⟨#[]⟩,.bool false,.string ⟨#[]⟩] 135));have HX0:=Hq (show Bx4 W0 w.heap.size (.bool a) (.string s) (.bool b) (.string t) 135 from by
  rw[←hW0]
  exact(Bx4.new w _ _ _ _ _).kept ((blr).alloc nlr _) (by simp))
 have HY0:=Hq (show Bx4 W0 (w.heap.size+1) (.bool false) (.string ⟨#[]⟩) (.bool false) (.string ⟨#[]⟩) 135 from by
  rw[←hW0];have:=Bx4.new (w.alloc (.cells #[.bool a,.string s,.bool b,.string t] 135)) (.bool false) (.string ⟨#[]⟩) (.bool false) (.string ⟨#[]⟩) 135;rw[World.size_alloc]at this
  exact this)
 have hB0:Below w.heap.size w W0:=(by rw[←hW0];exact((Below.refl w.heap.size w).alloc nlr _).alloc (by simp) _);have HB0:=Hq hB0;have hQ0:W0.drew.cell? ⟨Q,0,none⟩=some (.string k):=(hB0.cell (p:=⟨Q,0,none⟩) hQlt).trans hQ;obtain⟨d0,d1,d2,d3⟩:=(show Bx4 W0.drew w.heap.size (.bool a) (.string s) (.bool b) (.string t) 135 from HX0.out).cells;rw[hW0];clear hW0 hB0 hQ;refine wp_region_K 11 (Below (W0.drew).heap.size (W0.drew)) (by kernel_rfl) ?_;refine qSs 0 10 blr (fun w' hS'=>(And.intro (kc hS' hQ0) (And.intro (kc hS' d0) (And.intro (kc hS' d1) (And.intro (kc hS' d2) (kc hS' d3)))))) ?_;refine qPs 2 9 blr ?_;refine qSs 3 8 blr (fun w' hS'=>(And.intro (kc hS' hQ0) (And.intro (kc hS' d0) (And.intro (kc hS' d1) (And.intro (kc hS' d2) (kc hS' d3)))))) ?_;intro hD;refine wpAnyK_two (i:=1) (i':=8) (fuel:=7) (by kernel_rfl) rfl rfl hD ?_ ?_ 
 · unfold StepK;intro K1 hK1;go_wp2_with fail;refine(HFR.out _).mono ?_;rintro ev w1 ⟨rfl,hb1⟩;try (have HP:=Hq (HP.out.next hb1))
   have HB1:=Hq hb1;clear hb1;go_wp2;refine hK1 _ _ (by exact HB1.out) ?_;clear hK1;intro hS_1_1;intro hD;refine wpAnyK_two (i:=4) (i':=8) (fuel:=6) (by kernel_rfl) rfl rfl hD ?_ ?_ 
   · unfold StepK;intro K4 hK4;go_wp2_with fail;refine(HMU.out _).mono ?_;rintro ev w4 ⟨rfl,hb4⟩;try (have HP:=Hq (HP.out.next hb4))
     have HB4:=Hq hb4;clear hb4;go_wp2;refine hK4 _ _ (by exact Below.trans hS_1_1 (Below.mono HB4.out (Below.size hS_1_1))) ?_;clear hK4;intro hS_1_4_1;refine qPs 5 5 hS_1_4_1 ?_;refine qPs 6 4 hS_1_4_1 ?_;refine qPs 7 3 hS_1_4_1 ?_;refine oO 8 2 ?_;intro K8 hK8;first | (have HPB:=Hq (Below.size hS_1_4_1)) | (have HPB:=Hq (Nat.le_refl W0.drew.heap.size))
     go_wp2;refine hK8 _ _ (by exact Below.alloc hS_1_4_1 (Below.size hS_1_4_1) _) ?_;clear hK8;intro hS_1_8_1_4;first | (have HP:=Hq (bx_of_alloc hS_1_8_1_4)) | (have HP:=Hq (bx_of_alloc' hS_1_8_1_4))
     refine oO 9 1 ?_;intro K9 hK9;have hP:=HP.out;have p0:=hP.c0;have p1:=hP.c1;have pf0:=hP.f0;have pf1:=hP.f1;clear hP;go_wp2;refine hK9 _ _ (by first | exact(Below.setCell hS_1_8_1_4 (p:=⟨_,0,none⟩) HPB.out _).setCell (p:=⟨_,1,none⟩) HPB.out _ | exact Below.alloc (HB1.out.trans (HB4.out.mono HB1.out.size)) (Nat.le_trans HB1.out.size HB4.out.size) _) ?_;clear hK9;intro hS_1_9_1_4;clear p0 p1 pf0 pf1;first | (have HP:=Hq (bx_of_alloc hS_1_9_1_4)) | (have HP:=Hq (HP.out.set2 (u:=.bool c) (v:=.string r)))
     refine oO 10 0 ?_;intro K10 hK10;go_wp2;refine hK10 _ _ (by exact hS_1_9_1_4) ?_;clear hK10;intro hS_1_10_1_4;refine wDn ?_;have HSX:=Hq hS_1_10_1_4;have HX5:=Hq (HX0.out.kept (below_undrew HSX.out) HX0.out.lt);have HY5:=Hq (HY0.out.kept (below_undrew HSX.out) HY0.out.lt);have HB5:=Hq (HB0.out.trans ((below_undrew HSX.out).mono HB0.out.size));have hP:=HP.out;have p0:=hP.c0;have p1:=hP.c1;clear hP d0 d1 d2 d3 hQ0;obtain⟨x0,x1,x2,x3⟩:=HX5.out.cells;go_wp2_with fail;refine(HSU.out _).mono ?_;rintro ev w6 ⟨rfl,hb6⟩;have HX6:=Hq (HX5.out.next hb6);have HY6:=Hq (HY5.out.next hb6);have HB6:=bTr HB5 hb6;clear hb6 x0 x1 x2 x3 p0 p1;obtain⟨x0,x1,x2,x3⟩:=HX6.out.cells;obtain⟨y0,y1,y2,y3⟩:=HY6.out.cells;have yf0:=HY6.out.free 0;have yf1:=HY6.out.free 1;have yf2:=HY6.out.free 2;have yf3:=HY6.out.free 3;have hxl:=HX6.out.lt;have hyl:=HY6.out.lt;go_wp2;have hY7:=HY6.out.set4 (a:=.bool b) (b:=.string t) (c:=.bool d) (d:=.string v);have hZ:=hY7.kept ((blr).alloc nlr (.cells #[.bool d,.string v] 74)) hY7.lt;obtain⟨q0,q1,q2,q3⟩:=hZ.cells;have hBB:=((((HB6.out.setCell (p:=⟨w.heap.size+1,0,none⟩) (by simp) (.bool b)).setCell (p:=⟨w.heap.size+1,1,none⟩) (by simp) (.string t)).setCell (p:=⟨w.heap.size+1,2,none⟩) (by simp) (.bool d)).setCell (p:=⟨w.heap.size+1,3,none⟩) (by simp) (.string v));exact bodyPost_ret (v:=.agg #[.bool b,.string t,.bool d,.string v]) (by simp[results,Tryz.results74,go_sem,q0,q1,q2,q3]) rfl ⟨rfl,hBB.alloc hBB.size _⟩
   · unfold StepK;intro K8 hK8;first | (have HPB:=Hq (Below.size hS_1_1)) | (have HPB:=Hq (Nat.le_refl W0.drew.heap.size))
     go_wp2;refine hK8 _ _ (by exact Below.alloc hS_1_1 (Below.size hS_1_1) _) ?_;clear hK8;intro hS_1_8_1;first | (have HP:=Hq (bx_of_alloc hS_1_8_1)) | (have HP:=Hq (bx_of_alloc' hS_1_8_1))
     refine oO 4 5 ?_;intro K4 hK4;go_wp2_with fail;refine(HMU.out _).mono ?_;rintro ev w4 ⟨rfl,hb4⟩;try (have HP:=Hq (HP.out.next hb4))
     have HB4:=Hq hb4;clear hb4;go_wp2;refine hK4 _ _ (by exact Below.trans hS_1_8_1 (Below.mono HB4.out (Below.size hS_1_8_1))) ?_;clear hK4;intro hS_1_4_1_8;refine qPs 5 4 hS_1_4_1_8 ?_;refine qPs 6 3 hS_1_4_1_8 ?_;refine qPs 7 2 hS_1_4_1_8 ?_;refine oO 9 1 ?_;intro K9 hK9;have hP:=HP.out;have p0:=hP.c0;have p1:=hP.c1;have pf0:=hP.f0;have pf1:=hP.f1;clear hP;go_wp2;refine hK9 _ _ (by first | exact(Below.setCell hS_1_4_1_8 (p:=⟨_,0,none⟩) HPB.out _).setCell (p:=⟨_,1,none⟩) HPB.out _ | exact Below.alloc (HB1.out.trans (HB4.out.mono HB1.out.size)) (Nat.le_trans HB1.out.size HB4.out.size) _) ?_;clear hK9;intro hS_1_9_1_8;clear p0 p1 pf0 pf1;first | (have HP:=Hq (bx_of_alloc hS_1_9_1_8)) | (have HP:=Hq (HP.out.set2 (u:=.bool c) (v:=.string r)))
     refine oO 10 0 ?_;intro K10 hK10;go_wp2;refine hK10 _ _ (by exact hS_1_9_1_8) ?_;clear hK10;intro hS_1_10_1_8;refine wDn ?_;have HSX:=Hq hS_1_10_1_8;have HX5:=Hq (HX0.out.kept (below_undrew HSX.out) HX0.out.lt);have HY5:=Hq (HY0.out.kept (below_undrew HSX.out) HY0.out.lt);have HB5:=Hq (HB0.out.trans ((below_undrew HSX.out).mono HB0.out.size));have hP:=HP.out;have p0:=hP.c0;have p1:=hP.c1;clear hP d0 d1 d2 d3 hQ0;obtain⟨x0,x1,x2,x3⟩:=HX5.out.cells;go_wp2_with fail;refine(HSU.out _).mono ?_;rintro ev w6 ⟨rfl,hb6⟩;have HX6:=Hq (HX5.out.next hb6);have HY6:=Hq (HY5.out.next hb6);have HB6:=bTr HB5 hb6;clear hb6 x0 x1 x2 x3 p0 p1;obtain⟨x0,x1,x2,x3⟩:=HX6.out.cells;obtain⟨y0,y1,y2,y3⟩:=HY6.out.cells;have yf0:=HY6.out.free 0;have yf1:=HY6.out.free 1;have yf2:=HY6.out.free 2;have yf3:=HY6.out.free 3;have hxl:=HX6.out.lt;have hyl:=HY6.out.lt;go_wp2;have hY7:=HY6.out.set4 (a:=.bool b) (b:=.string t) (c:=.bool d) (d:=.string v);have hZ:=hY7.kept ((blr).alloc nlr (.cells #[.bool d,.string v] 74)) hY7.lt;obtain⟨q0,q1,q2,q3⟩:=hZ.cells;have hBB:=((((HB6.out.setCell (p:=⟨w.heap.size+1,0,none⟩) (by simp) (.bool b)).setCell (p:=⟨w.heap.size+1,1,none⟩) (by simp) (.string t)).setCell (p:=⟨w.heap.size+1,2,none⟩) (by simp) (.bool d)).setCell (p:=⟨w.heap.size+1,3,none⟩) (by simp) (.string v));exact bodyPost_ret (v:=.agg #[.bool b,.string t,.bool d,.string v]) (by simp[results,Tryz.results74,go_sem,q0,q1,q2,q3]) rfl ⟨rfl,hBB.alloc hBB.size _⟩
 · unfold StepK;intro K8 hK8;first | (have HPB:=Hq (Below.size blr)) | (have HPB:=Hq (Nat.le_refl W0.drew.heap.size))
   go_wp2;refine hK8 _ _ (by exact(blr).alloc nlr _) ?_;clear hK8;intro hS_1_8;first | (have HP:=Hq (bx_of_alloc hS_1_8)) | (have HP:=Hq (bx_of_alloc' hS_1_8))
   refine oO 1 6 ?_;intro K1 hK1;go_wp2_with fail;refine(HFR.out _).mono ?_;rintro ev w1 ⟨rfl,hb1⟩;try (have HP:=Hq (HP.out.next hb1))
   have HB1:=Hq hb1;clear hb1;go_wp2;refine hK1 _ _ (by exact Below.trans hS_1_8 (Below.mono HB1.out (Below.size hS_1_8))) ?_;clear hK1;intro hS_1_1_8;refine oO 4 5 ?_;intro K4 hK4;go_wp2_with fail;refine(HMU.out _).mono ?_;rintro ev w4 ⟨rfl,hb4⟩;try (have HP:=Hq (HP.out.next hb4))
   have HB4:=Hq hb4;clear hb4;go_wp2;refine hK4 _ _ (by exact Below.trans hS_1_1_8 (Below.mono HB4.out (Below.size hS_1_1_8))) ?_;clear hK4;intro hS_1_4_8;refine qPs 5 4 hS_1_4_8 ?_;refine qPs 6 3 hS_1_4_8 ?_;refine qPs 7 2 hS_1_4_8 ?_;refine oO 9 1 ?_;intro K9 hK9;have hP:=HP.out;have p0:=hP.c0;have p1:=hP.c1;have pf0:=hP.f0;have pf1:=hP.f1;clear hP;go_wp2;refine hK9 _ _ (by first | exact(Below.setCell hS_1_4_8 (p:=⟨_,0,none⟩) HPB.out _).setCell (p:=⟨_,1,none⟩) HPB.out _ | exact Below.alloc (HB1.out.trans (HB4.out.mono HB1.out.size)) (Nat.le_trans HB1.out.size HB4.out.size) _) ?_;clear hK9;intro hS_1_9_8;clear p0 p1 pf0 pf1;first | (have HP:=Hq (bx_of_alloc hS_1_9_8)) | (have HP:=Hq (HP.out.set2 (u:=.bool c) (v:=.string r)))
   refine oO 10 0 ?_;intro K10 hK10;go_wp2;refine hK10 _ _ (by exact hS_1_9_8) ?_;clear hK10;intro hS_1_10_8;refine wDn ?_;have HSX:=Hq hS_1_10_8;have HX5:=Hq (HX0.out.kept (below_undrew HSX.out) HX0.out.lt);have HY5:=Hq (HY0.out.kept (below_undrew HSX.out) HY0.out.lt);have HB5:=Hq (HB0.out.trans ((below_undrew HSX.out).mono HB0.out.size));have hP:=HP.out;have p0:=hP.c0;have p1:=hP.c1;clear hP d0 d1 d2 d3 hQ0;obtain⟨x0,x1,x2,x3⟩:=HX5.out.cells;go_wp2_with fail;refine(HSU.out _).mono ?_;rintro ev w6 ⟨rfl,hb6⟩;have HX6:=Hq (HX5.out.next hb6);have HY6:=Hq (HY5.out.next hb6);have HB6:=bTr HB5 hb6;clear hb6 x0 x1 x2 x3 p0 p1;obtain⟨x0,x1,x2,x3⟩:=HX6.out.cells;obtain⟨y0,y1,y2,y3⟩:=HY6.out.cells;have yf0:=HY6.out.free 0;have yf1:=HY6.out.free 1;have yf2:=HY6.out.free 2;have yf3:=HY6.out.free 3;have hxl:=HX6.out.lt;have hyl:=HY6.out.lt;go_wp2;have hY7:=HY6.out.set4 (a:=.bool b) (b:=.string t) (c:=.bool d) (d:=.string v);have hZ:=hY7.kept ((blr).alloc nlr (.cells #[.bool d,.string v] 74)) hY7.lt;obtain⟨q0,q1,q2,q3⟩:=hZ.cells;have hBB:=((((HB6.out.setCell (p:=⟨w.heap.size+1,0,none⟩) (by simp) (.bool b)).setCell (p:=⟨w.heap.size+1,1,none⟩) (by simp) (.string t)).setCell (p:=⟨w.heap.size+1,2,none⟩) (by simp) (.bool d)).setCell (p:=⟨w.heap.size+1,3,none⟩) (by simp) (.string v));exact bodyPost_ret (v:=.agg #[.bool b,.string t,.bool d,.string v]) (by simp[results,Tryz.results74,go_sem,q0,q1,q2,q3]) rfl ⟨rfl,hBB.alloc hBB.size _⟩
structure EInv (a b r0 r1:Nat) (x0 x1 y0 y1:Int):Prop where
 e0:(a:Int) * x0+b * y0=r0
 e1:(a:Int) * x1+b * y1=r1
 bx:x1.natAbs * r0+x0.natAbs * r1=b
 bY:y1.natAbs * r0+y0.natAbs * r1=a
 sx:(x0≤0∧0≤x1)∨(0≤x0∧x1≤0)
 sy:(y0≤0∧0≤y1)∨(0≤y0∧y1≤0)
 gc:Nat.gcd r0 r1=Nat.gcd a b
 pos:0<r0∨0<r1
 lx:x0.natAbs * r0≤b
 lt:x1=0∨r1<r0
 one:r0=0→y1.natAbs≤1
theorem EInv.start{a b:Nat}(hb:0<b)(hab:a≤b):EInv a b a b 1 0 0 1:=by
 refine⟨by simp,by simp,by simp,by simp,.inr ⟨by decide,by decide⟩,.inl ⟨by decide,by decide⟩,rfl,.inr hb,by simpa using hab,.inl rfl,fun _=>by decide⟩
theorem abs_step{x0 x1:Int}{q:Nat}(h:(x0≤0∧0≤x1)∨(0≤x0∧x1≤0)):(x0 - q * x1).natAbs=x0.natAbs+q * x1.natAbs∧((x1≤0∧0≤x0 - q * x1)∨(0≤x1∧x0 - q * x1≤0)):=by
 rcases h with⟨h0,h1⟩ | ⟨h0,h1⟩
 · have hp:0≤(q:Int) * x1:=Int.mul_nonneg (by omega) h1;have e:((q * x1.natAbs:Nat):Int)=q * x1:=by rw[Int.natCast_mul];congr 1;omega
   exact⟨by omega,.inr ⟨h1,by omega⟩⟩
 · have hp:(q:Int) * x1≤0:=Int.mul_nonpos_of_nonneg_of_nonpos (by omega) h1;have e:((q * x1.natAbs:Nat):Int) = -(q * x1):=by rw[Int.natCast_mul,←Int.mul_neg];congr 1;omega
   exact⟨by omega,.inl ⟨h1,by omega⟩⟩
theorem bez_step{r0 r1 s0 s1:Nat}(h:0<r1):(s0+r0 / r1 * s1) * r1+s1 * (r0%r1)=s1 * r0+s0 * r1:=by
 have e:=Nat.div_add_mod r0 r1;have e2:s1 * r0=s1 * (r1 * (r0 / r1))+s1 * (r0%r1):=by rw[←Nat.mul_add,e]
 have e3:s1 * (r1 * (r0 / r1))=r0 / r1 * s1 * r1:=by rw[Nat.mul_comm r1,←Nat.mul_assoc,Nat.mul_comm s1]
 rw[e2,e3,Nat.add_mul];omega
theorem EInv.step{a b r0 r1:Nat}{x0 x1 y0 y1:Int}(h:EInv a b r0 r1 x0 x1 y0 y1)(h1:0<r1):EInv a b r1 (r0%r1) x1 (x0 - (r0 / r1:Nat) * x1) y1 (y0 - (r0 / r1:Nat) * y1):=by
 have ax:=abs_step (q:=r0 / r1) h.sx;have ay:=abs_step (q:=r0 / r1) h.sy;have em:((r0%r1:Nat):Int)=r0 - (r0 / r1:Nat) * r1:=by
  have:=Nat.div_add_mod r0 r1;have e:((r1 * (r0 / r1)+r0%r1:Nat):Int)=r0:=by rw[this]
  rw[Int.natCast_add,Int.natCast_mul]at e;rw[Int.mul_comm]at e;omega
 refine⟨h.e1,?_,?_,?_,ax.2,ay.2,?_,.inl h1,?_,.inr (Nat.mod_lt _ h1),fun e=>by omega⟩
 · rw[em,←h.e0,←h.e1,Int.mul_sub,Int.mul_sub,Int.mul_add];rw[←Int.mul_assoc (a:Int),Int.mul_comm (a:Int) ((r0 / r1:Nat):Int),Int.mul_assoc,←Int.mul_assoc (b:Int),Int.mul_comm (b:Int) ((r0 / r1:Nat):Int),Int.mul_assoc];omega
 · rw[ax.1,bez_step h1];exact h.bx
 · rw[ay.1,bez_step h1];exact h.bY
 · rw[←h.gc,Nat.gcd_comm r1,←Nat.gcd_rec,Nat.gcd_comm]
 · have hb:=h.bx;rcases h.lt with e | e
   · rw[e];simp
   · have:=Nat.mul_le_mul_left x1.natAbs (Nat.le_of_lt e);omega
theorem EInv.small{a b r0 r1:Nat}{x0 x1 y0 y1:Int}(h:EInv a b r0 r1 x0 x1 y0 y1)(h1:0<r1)(N:Nat)(ha:a<N)(hb:b<N)(hN:1<N) :
 x0.natAbs<N∧x1.natAbs<N∧y0.natAbs<N∧y1.natAbs<N∧((r0 / r1:Nat) * x1).natAbs<N∧((r0 / r1:Nat) * y1).natAbs<N:=by
 have hbx:=h.bx;have hby:=h.bY;have m0:x0.natAbs≤x0.natAbs * r1:=Nat.le_mul_of_pos_right _ h1;have n0:y0.natAbs≤y0.natAbs * r1:=Nat.le_mul_of_pos_right _ h1;have hq:∀ s:Nat,r0 / r1 * s≤s * r0:=fun s=>by
  rw[Nat.mul_comm];exact Nat.mul_le_mul_left s (Nat.div_le_self _ _)
 have q1:=hq x1.natAbs;have q2:=hq y1.natAbs;have a1:((r0 / r1:Nat) * x1:Int).natAbs=r0 / r1 * x1.natAbs:=by rw[Int.natAbs_mul,Int.natAbs_natCast]
 have a2:((r0 / r1:Nat) * y1:Int).natAbs=r0 / r1 * y1.natAbs:=by rw[Int.natAbs_mul,Int.natAbs_natCast]
 rw[a1,a2];rcases Nat.eq_zero_or_pos r0 with e | e
 · have hx1:x1.natAbs=0:=by
    rcases h.lt with e' | e'
    · rw[e'];rfl
    · omega
   have hy1:=h.one e;refine⟨by omega,by omega,by omega,by omega,by omega,by omega⟩
 · have m1:x1.natAbs≤x1.natAbs * r0:=Nat.le_mul_of_pos_right _ e;have n1:y1.natAbs≤y1.natAbs * r0:=Nat.le_mul_of_pos_right _ e;refine⟨by omega,by omega,by omega,by omega,by omega,by omega⟩
theorem EInv.last{a b r0:Nat}{x0 x1 y0 y1:Int}(h:EInv a b r0 0 x0 x1 y0 y1)(hb:0<b):r0=Nat.gcd a b∧0<r0∧x0.natAbs≤b / r0∧(a:Int) * x0+b * y0=r0:=by
 have hp:0<r0:=by rcases h.pos with e | e<;>omega
 refine⟨by rw[←h.gc,Nat.gcd_zero_right],hp,(Nat.le_div_iff_mul_le hp).2 h.lx,h.e0⟩
theorem gcd_of_pw{a q m:Nat}(h:a ^ q%m=1)(hq:0<q):Nat.gcd a m=1:=by
 have h1:Nat.gcd a m ∣ a ^ q:=(by obtain⟨r,rfl⟩:∃ r,q=r+1:=⟨q - 1,by omega⟩;rw[Nat.pow_succ];exact Nat.dvd_trans (Nat.gcd_dvd_left a m) (Nat.dvd_mul_left _ _));have h2:Nat.gcd a m ∣ m * (a ^ q / m):=Nat.dvd_trans (Nat.gcd_dvd_right a m) (Nat.dvd_mul_right _ _);have h3:=Nat.div_add_mod (a ^ q) m;rw[h]at h3;rw[←h3]at h1;exact Nat.dvd_one.1 ((Nat.dvd_add_right h2).1 h1)
theorem inv_of_bez{a m:Nat}{x y:Int}(hx:0≤x)(h:(a:Int) * x+m * y=1)(hm:1<m):a * x.natAbs%m=1:=by
 have e:((a * x.natAbs:Nat):Int)=1+m * (-y):=(by rw[Int.natCast_mul,Int.natAbs_of_nonneg hx,Int.mul_neg];omega);have e2:((a * x.natAbs%m:Nat):Int)=1:=(by rw[Int.natCast_emod,e,Int.add_mul_emod_self_left];exact Int.emod_eq_of_lt (by omega) (by omega));omega
theorem inv_red{a m x:Nat}(h:a * x%m=1):a * (x%m)%m=1:=by rw[Nat.mul_mod,Nat.mod_mod,←Nat.mul_mod,h]
theorem ext_y_bound{a b r0:Nat}{x0 y0:Int}(he:(a:Int) * x0+b * y0=r0)(hx:x0.natAbs * r0≤b)(hr:0<r0)(hrb:r0≤b)(hab:a<b):y0.natAbs≤b:=by
 have hxb:x0.natAbs≤b:=Nat.le_trans (Nat.le_mul_of_pos_right _ hr) hx;have h1:(b * y0.natAbs:Nat)≤r0+a * x0.natAbs:=by
  have e:(b:Int) * y0=r0 - a * x0:=by omega
  have e2:((b:Int) * y0).natAbs=b * y0.natAbs:=by rw[Int.natAbs_mul,Int.natAbs_natCast]
  have e3:((a:Int) * x0).natAbs=a * x0.natAbs:=by rw[Int.natAbs_mul,Int.natAbs_natCast]
  omega
 have h2:a * x0.natAbs≤(b - 1) * b:=Nat.mul_le_mul (by omega) hxb;have h3:(b - 1) * b+b=b * b:=(by obtain⟨c,rfl⟩:∃ c,b=c+1:=⟨b - 1,by omega⟩;rw[Nat.add_sub_cancel,Nat.add_mul c 1 (c+1),Nat.one_mul]);have h4:b * y0.natAbs≤b * b:=by omega
 exact Nat.le_of_mul_le_mul_left h4 (by omega)
end Go.Proofs.YtmahgbhpdfbbjaaGreatDoor

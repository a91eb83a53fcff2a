import Derived.Test.YtmahgbhpdfbbjaaGreatDoorQPeS
set_option linter.unusedVariables false
set_option linter.unusedSimpArgs false
namespace Go.Proofs.YtmahgbhpdfbbjaaGreatDoor
set_option maxRecDepth 100000
set_option maxHeartbeats 1000000
open Go.RowKit
theorem int_Add_sameA(x y:Int)(hx:x.natAbs<256 ^ 128)(hy:y.natAbs<256 ^ 128)(hsg:(decide (x<0)==decide (y<0))=true)(k:Nat)(rc:Int)(hk1:fitR (x.natAbs+y.natAbs)=.tuple #[.string (nS k),.int .i64 rc])(w:World):Calls Tryz.prog 76 #[intV x,intV y] w (Ret (.tuple #[intV (sg (decide (x<0)) k),.int .i64 rc]) w):=by
 have HBO:=Hq (int_both x y hx hy);have HMM:=Hq (nat_Add x.natAbs y.natAbs hx hy);rw[hk1]at HMM;have HMD:=Hq (int_made_n (decide (x<0)) k);have HS:=Hq hsg;clear hsg hk1;unfold intV zV at *;obtain⟨a,ha⟩:=nm (decide (x<0));obtain⟨b,hb⟩:=nm (decide (y<0));obtain⟨s,hs⟩:=nm (nS x.natAbs);obtain⟨t,ht⟩:=nm (nS y.natAbs);obtain⟨c,hc⟩:=nm (decide (sg (decide (x<0)) k<0));obtain⟨r,hr⟩:=nm (nS (sg (decide (x<0)) k).natAbs);obtain⟨q,hq⟩:=nm (nS k);rw[ha,hs,hb,ht]at HBO;rw[hs,ht,hq]at HMM;rw[hq,hr,hc,ha]at HMD;rw[ha,hb]at HS;rw[hc,hr,ha,hs,hb,ht];have hsg:=HS.out;clear ha hs hb ht hc hr hq hx hy;go_enter Tryz.func76,Tryz.ntmps76;go_wp2_with fail;obtain⟨W0,hW0⟩:=nm (((w.alloc (.cells #[.bool a,.string s] 74)).alloc (.cells #[.bool b,.string t] 74)).alloc (.cells #[.bool false,.string ⟨#[]⟩] 74));have HX0:=Hq (show Bx2 W0 w.heap.size (.bool a) (.string s) 74 from by
  rw[←hW0]
  exact((Bx2.new w (.bool a) (.string s) 74).kept ((blr).alloc nlr _) (by simp)).kept ((blr).alloc nlr _) (by simp;omega))
 have HY0:=Hq (show Bx2 W0 (w.heap.size+1) (.bool b) (.string t) 74 from by
  rw[←hW0];have:=Bx2.new (w.alloc (.cells #[.bool a,.string s] 74)) (.bool b) (.string t) 74;rw[World.size_alloc]at this
  exact this.kept ((blr).alloc nlr _) (by simp))
 have HZ0:=Hq (show Bx2 W0 (w.heap.size+1+1) (.bool false) (.string ⟨#[]⟩) 74 from by
  rw[←hW0];have:=Bx2.new ((w.alloc (.cells #[.bool a,.string s] 74)).alloc (.cells #[.bool b,.string t] 74)) (.bool false) (.string ⟨#[]⟩) 74;rw[World.size_alloc,World.size_alloc]at this
  exact this)
 have HB0:=Hq (show Below w.heap.size w W0 from by
  rw[←hW0]
  exact(((Below.refl w.heap.size w).alloc nlr _).alloc (by simp) _).alloc (by simp;omega) _)
 rw[hW0];clear hW0;refine(HBO.out _).mono ?_;rintro e w1 ⟨rfl,hb1⟩;have hX1:=HX0.out.next hb1;have hY1:=HY0.out.next hb1;have hZ1:=HZ0.out.next hb1;have HX1:=Hq hX1;have HY1:=Hq hY1;have HZ1:=Hq hZ1;have HB1:=bTr HB0 hb1;have x0:=hX1.c0;have x1:=hX1.c1;have y0:=hY1.c0;have y1:=hY1.c1;have xf0:=hX1.f0;have xf1:=hX1.f1;have yf0:=hY1.f0;have yf1:=hY1.f1;have z0:=hZ1.c0;have z1:=hZ1.c1;have zf0:=hZ1.f0;have zf1:=hZ1.f1;clear hb1 hX1 hY1 hZ1;go_wp2_with fail;refine(HMM.out _).mono ?_;rintro e w2 ⟨rfl,hb2⟩;clear x0 x1 y0 y1 xf0 xf1 yf0 yf1 z0 z1 zf0 zf1;have hX2:=HX1.out.next hb2;have hY2:=HY1.out.next hb2;have hZ2:=HZ1.out.next hb2;have HX2:=Hq hX2;have HY2:=Hq hY2;have HZ2:=Hq hZ2;have HB2:=bTr HB1 hb2;have x0:=hX2.c0;have x1:=hX2.c1;have y0:=hY2.c0;have y1:=hY2.c1;have xf0:=hX2.f0;have xf1:=hX2.f1;have yf0:=hY2.f0;have yf1:=hY2.f1;have z0:=hZ2.c0;have z1:=hZ2.c1;have zf0:=hZ2.f0;have zf1:=hZ2.f1;clear hb2 hX2 hY2 hZ2;go_wp2_with fail;refine(HMD.out _).mono ?_;rintro e w3 ⟨rfl,hb3⟩;clear x0 x1 y0 y1 xf0 xf1 yf0 yf1 z0 z1 zf0 zf1;have hX3:=HX2.out.next hb3;have hY3:=HY2.out.next hb3;have hZ3:=HZ2.out.next hb3;have HX3:=Hq hX3;have HY3:=Hq hY3;have HZ3:=Hq hZ3;have HB3:=bTr HB2 hb3;have x0:=hX3.c0;have x1:=hX3.c1;have y0:=hY3.c0;have y1:=hY3.c1;have xf0:=hX3.f0;have xf1:=hX3.f1;have yf0:=hY3.f0;have yf1:=hY3.f1;have z0:=hZ3.c0;have z1:=hZ3.c1;have zf0:=hZ3.f0;have zf1:=hZ3.f1;clear hb3 hX3 hY3 hZ3;go_wp2;have hZz:=HZ3.out.set2 (u:=.bool c) (v:=.string r);have q0:=hZz.c0;have q1:=hZz.c1;exact bodyPost_ret (v:=.tuple #[.agg #[.bool c,.string r],.int .i64 rc]) (by simp[results,Tryz.results76,go_sem,q0,q1]) rfl ⟨rfl,(HB3.out.setCell (p:=⟨w.heap.size+1+1,0,none⟩) (by simp;omega) _).setCell (p:=⟨w.heap.size+1+1,1,none⟩) (by simp;omega) _⟩
theorem int_Add_geA(x y:Int)(hx:x.natAbs<256 ^ 128)(hy:y.natAbs<256 ^ 128)(hsg:(decide (x<0)==decide (y<0))=false)(hge:y.natAbs≤x.natAbs)(w:World):Calls Tryz.prog 76 #[intV x,intV y] w (Ret (.tuple #[intV (x+y),.int .i64 0]) w):=by
 have HBO:=Hq (int_both x y hx hy);have HCM:=Hq (nat_Cmp (nS x.natAbs) (nS y.natAbs) (by have:=nS_size_le.2 hx;omega) (by have:=nS_size_le.2 hy;omega));rw[ncmp_n hx hy]at HCM;have HMM:=Hq (nat_Sub_ge x.natAbs y.natAbs hx hy hge);have HMD:=Hq (int_made_n (decide (x<0)) (x.natAbs - y.natAbs));have HE:=sg_diff hsg hge;rw[HE]at HMD;have HS:=Hq hsg;have hcg:=cmpI_nonneg hge;obtain⟨k,hk⟩:=nm (cmpI x.natAbs y.natAbs);rw[hk]at HCM hcg;clear HE hsg hge hk;unfold intV zV at *;obtain⟨a,ha⟩:=nm (decide (x<0));obtain⟨b,hb⟩:=nm (decide (y<0));obtain⟨s,hs⟩:=nm (nS x.natAbs);obtain⟨t,ht⟩:=nm (nS y.natAbs);obtain⟨c,hc⟩:=nm (decide (x+y<0));obtain⟨r,hr⟩:=nm (nS (x+y).natAbs);obtain⟨q,hq⟩:=nm (nS (x.natAbs - y.natAbs));rw[ha,hs,hb,ht]at HBO;rw[hs,ht]at HCM;rw[hs,ht,hq]at HMM;rw[ha,hq,hr,hc]at HMD;rw[ha,hb]at HS;rw[ha,hs,hb,ht,hc,hr];have hsg:=HS.out;clear ha hs hb ht hc hr hq hx hy;go_enter Tryz.func76,Tryz.ntmps76;go_wp2_with fail;obtain⟨W0,hW0⟩:=nm (((w.alloc (.cells #[.bool a,.string s] 74)).alloc (.cells #[.bool b,.string t] 74)).alloc (.cells #[.bool false,.string ⟨#[]⟩] 74));have HX0:=Hq (show Bx2 W0 w.heap.size (.bool a) (.string s) 74 from by
  rw[←hW0]
  exact((Bx2.new w (.bool a) (.string s) 74).kept ((blr).alloc nlr _) (by simp)).kept ((blr).alloc nlr _) (by simp;omega))
 have HY0:=Hq (show Bx2 W0 (w.heap.size+1) (.bool b) (.string t) 74 from by
  rw[←hW0];have:=Bx2.new (w.alloc (.cells #[.bool a,.string s] 74)) (.bool b) (.string t) 74;rw[World.size_alloc]at this
  exact this.kept ((blr).alloc nlr _) (by simp))
 have HZ0:=Hq (show Bx2 W0 (w.heap.size+1+1) (.bool false) (.string ⟨#[]⟩) 74 from by
  rw[←hW0];have:=Bx2.new ((w.alloc (.cells #[.bool a,.string s] 74)).alloc (.cells #[.bool b,.string t] 74)) (.bool false) (.string ⟨#[]⟩) 74;rw[World.size_alloc,World.size_alloc]at this
  exact this)
 have HB0:=Hq (show Below w.heap.size w W0 from by
  rw[←hW0]
  exact(((Below.refl w.heap.size w).alloc nlr _).alloc (by simp) _).alloc (by simp;omega) _)
 rw[hW0];clear hW0;refine(HBO.out _).mono ?_;rintro e w1 ⟨rfl,hb1⟩;have hX1:=HX0.out.next hb1;have hY1:=HY0.out.next hb1;have hZ1:=HZ0.out.next hb1;have HX1:=Hq hX1;have HY1:=Hq hY1;have HZ1:=Hq hZ1;have HB1:=bTr HB0 hb1;have x0:=hX1.c0;have x1:=hX1.c1;have y0:=hY1.c0;have y1:=hY1.c1;have xf0:=hX1.f0;have xf1:=hX1.f1;have yf0:=hY1.f0;have yf1:=hY1.f1;have z0:=hZ1.c0;have z1:=hZ1.c1;have zf0:=hZ1.f0;have zf1:=hZ1.f1;clear hb1 hX1 hY1 hZ1;go_wp2_with fail;refine(HCM.out _).mono ?_;rintro e w2 ⟨rfl,rfl⟩;go_wp2_with fail;refine(HMM.out _).mono ?_;rintro e w2 ⟨rfl,hb2⟩;clear x0 x1 y0 y1 xf0 xf1 yf0 yf1 z0 z1 zf0 zf1;have hX2:=HX1.out.next hb2;have hY2:=HY1.out.next hb2;have hZ2:=HZ1.out.next hb2;have HX2:=Hq hX2;have HY2:=Hq hY2;have HZ2:=Hq hZ2;have HB2:=bTr HB1 hb2;have x0:=hX2.c0;have x1:=hX2.c1;have y0:=hY2.c0;have y1:=hY2.c1;have xf0:=hX2.f0;have xf1:=hX2.f1;have yf0:=hY2.f0;have yf1:=hY2.f1;have z0:=hZ2.c0;have z1:=hZ2.c1;have zf0:=hZ2.f0;have zf1:=hZ2.f1;clear hb2 hX2 hY2 hZ2;go_wp2_with fail;refine(HMD.out _).mono ?_;rintro e w3 ⟨rfl,hb3⟩;clear x0 x1 y0 y1 xf0 xf1 yf0 yf1 z0 z1 zf0 zf1;have hX3:=HX2.out.next hb3;have hY3:=HY2.out.next hb3;have hZ3:=HZ2.out.next hb3;have HX3:=Hq hX3;have HY3:=Hq hY3;have HZ3:=Hq hZ3;have HB3:=bTr HB2 hb3;have x0:=hX3.c0;have x1:=hX3.c1;have y0:=hY3.c0;have y1:=hY3.c1;have xf0:=hX3.f0;have xf1:=hX3.f1;have yf0:=hY3.f0;have yf1:=hY3.f1;have z0:=hZ3.c0;have z1:=hZ3.c1;have zf0:=hZ3.f0;have zf1:=hZ3.f1;clear hb3 hX3 hY3 hZ3;go_wp2;have hZz:=HZ3.out.set2 (u:=.bool c) (v:=.string r);have q0:=hZz.c0;have q1:=hZz.c1;exact bodyPost_ret (v:=.tuple #[.agg #[.bool c,.string r],.int .i64 0]) (by simp[results,Tryz.results76,go_sem,q0,q1]) rfl ⟨rfl,(HB3.out.setCell (p:=⟨w.heap.size+1+1,0,none⟩) (by simp;omega) _).setCell (p:=⟨w.heap.size+1+1,1,none⟩) (by simp;omega) _⟩
theorem int_Add_ltA(x y:Int)(hx:x.natAbs<256 ^ 128)(hy:y.natAbs<256 ^ 128)(hsg:(decide (x<0)==decide (y<0))=false)(hlt:x.natAbs<y.natAbs)(w:World):Calls Tryz.prog 76 #[intV x,intV y] w (Ret (.tuple #[intV (x+y),.int .i64 0]) w):=by
 have HBO:=Hq (int_both x y hx hy);have HCM:=Hq (nat_Cmp (nS x.natAbs) (nS y.natAbs) (by have:=nS_size_le.2 hx;omega) (by have:=nS_size_le.2 hy;omega));rw[ncmp_n hx hy,cmpI_lt hlt]at HCM;have HMM:=Hq (nat_Sub_ge y.natAbs x.natAbs hy hx (Nat.le_of_lt hlt));have HMD:=Hq (int_made_n (decide (y<0)) (y.natAbs - x.natAbs));have HE:=sg_diff (x:=y) (y:=x) (by rw[Bool.beq_comm];exact hsg) (Nat.le_of_lt hlt);rw[HE,Int.add_comm]at HMD;have HS:=Hq hsg;clear HE hsg hlt;unfold intV zV at *;obtain⟨a,ha⟩:=nm (decide (x<0));obtain⟨b,hb⟩:=nm (decide (y<0));obtain⟨s,hs⟩:=nm (nS x.natAbs);obtain⟨t,ht⟩:=nm (nS y.natAbs);obtain⟨c,hc⟩:=nm (decide (x+y<0));obtain⟨r,hr⟩:=nm (nS (x+y).natAbs);obtain⟨q,hq⟩:=nm (nS (y.natAbs - x.natAbs));rw[ha,hs,hb,ht]at HBO;rw[hs,ht]at HCM;rw[hs,ht,hq]at HMM;rw[hb,hq,hr,hc]at HMD;rw[ha,hb]at HS;rw[ha,hs,hb,ht,hc,hr];have hsg:=HS.out;clear ha hs hb ht hc hr hq hx hy;go_enter Tryz.func76,Tryz.ntmps76;go_wp2_with fail;obtain⟨W0,hW0⟩:=nm (((w.alloc (.cells #[.bool a,.string s] 74)).alloc (.cells #[.bool b,.string t] 74)).alloc (.cells #[.bool false,.string ⟨#[]⟩] 74));have HX0:=Hq (show Bx2 W0 w.heap.size (.bool a) (.string s) 74 from by
  rw[←hW0]
  exact((Bx2.new w (.bool a) (.string s) 74).kept ((blr).alloc nlr _) (by simp)).kept ((blr).alloc nlr _) (by simp;omega))
 have HY0:=Hq (show Bx2 W0 (w.heap.size+1) (.bool b) (.string t) 74 from by
  rw[←hW0];have:=Bx2.new (w.alloc (.cells #[.bool a,.string s] 74)) (.bool b) (.string t) 74;rw[World.size_alloc]at this
  exact this.kept ((blr).alloc nlr _) (by simp))
 have HZ0:=Hq (show Bx2 W0 (w.heap.size+1+1) (.bool false) (.string ⟨#[]⟩) 74 from by
  rw[←hW0];have:=Bx2.new ((w.alloc (.cells #[.bool a,.string s] 74)).alloc (.cells #[.bool b,.string t] 74)) (.bool false) (.string ⟨#[]⟩) 74;rw[World.size_alloc,World.size_alloc]at this
  exact this)
 have HB0:=Hq (show Below w.heap.size w W0 from by
  rw[←hW0]
  exact(((Below.refl w.heap.size w).alloc nlr _).alloc (by simp) _).alloc (by simp;omega) _)
 rw[hW0];clear hW0;refine(HBO.out _).mono ?_;rintro e w1 ⟨rfl,hb1⟩;have hX1:=HX0.out.next hb1;have hY1:=HY0.out.next hb1;have hZ1:=HZ0.out.next hb1;have HX1:=Hq hX1;have HY1:=Hq hY1;have HZ1:=Hq hZ1;have HB1:=bTr HB0 hb1;have x0:=hX1.c0;have x1:=hX1.c1;have y0:=hY1.c0;have y1:=hY1.c1;have xf0:=hX1.f0;have xf1:=hX1.f1;have yf0:=hY1.f0;have yf1:=hY1.f1;have z0:=hZ1.c0;have z1:=hZ1.c1;have zf0:=hZ1.f0;have zf1:=hZ1.f1;clear hb1 hX1 hY1 hZ1;go_wp2_with fail;refine(HCM.out _).mono ?_;rintro e w2 ⟨rfl,rfl⟩;go_wp2_with fail;clear x0 x1 y0 y1 xf0 xf1 yf0 yf1 z0 z1 zf0 zf1;obtain⟨wS,hwS⟩:=nm (((((w1.setCell ⟨w.heap.size,0,none⟩ (.bool b)).setCell ⟨w.heap.size,1,none⟩ (.string t)).setCell ⟨w.heap.size+1,0,none⟩ (.bool a)).setCell ⟨w.heap.size+1,1,none⟩ (.string s)));have HX2:=Hq (show Bx2 wS w.heap.size (.bool b) (.string t) 74 from by rw[←hwS];exact(HX1.out.set2.other (by omega) _).other (by omega) _);have HY2:=Hq (show Bx2 wS (w.heap.size+1) (.bool a) (.string s) 74 from by rw[←hwS];exact((HY1.out.other (by omega) _).other (by omega) _).set2);have HZ2:=Hq (show Bx2 wS (w.heap.size+1+1) (.bool false) (.string ⟨#[]⟩) 74 from by rw[←hwS];exact(((HZ1.out.other (by omega) _).other (by omega) _).other (by omega) _).other (by omega) _);have HB2:=Hq (show Below w.heap.size w wS from by rw[←hwS];exact(((HB1.out.setCell (p:=⟨w.heap.size,0,none⟩) nlr _).setCell (p:=⟨w.heap.size,1,none⟩) nlr _).setCell (p:=⟨w.heap.size+1,0,none⟩) (by simp) _).setCell (p:=⟨w.heap.size+1,1,none⟩) (by simp) _);rw[hwS];clear hwS;refine(HMM.out _).mono ?_;rintro e w3 ⟨rfl,hb3⟩;have hX3:=HX2.out.next hb3;have hY3:=HY2.out.next hb3;have hZ3:=HZ2.out.next hb3;have HX3:=Hq hX3;have HY3:=Hq hY3;have HZ3:=Hq hZ3;have HB3:=bTr HB2 hb3;have x0:=hX3.c0;have x1:=hX3.c1;have y0:=hY3.c0;have y1:=hY3.c1;have xf0:=hX3.f0;have xf1:=hX3.f1;have yf0:=hY3.f0;have yf1:=hY3.f1;have z0:=hZ3.c0;have z1:=hZ3.c1;have zf0:=hZ3.f0;have zf1:=hZ3.f1;clear hb3 hX3 hY3 hZ3;go_wp2_with fail;refine(HMD.out _).mono ?_;rintro e w4 ⟨rfl,hb4⟩;clear x0 x1 y0 y1 xf0 xf1 yf0 yf1 z0 z1 zf0 zf1;have hX4:=HX3.out.next hb4;have hY4:=HY3.out.next hb4;have hZ4:=HZ3.out.next hb4;have HX4:=Hq hX4;have HY4:=Hq hY4;have HZ4:=Hq hZ4;have HB4:=bTr HB3 hb4;have x0:=hX4.c0;have x1:=hX4.c1;have y0:=hY4.c0;have y1:=hY4.c1;have xf0:=hX4.f0;have xf1:=hX4.f1;have yf0:=hY4.f0;have yf1:=hY4.f1;have z0:=hZ4.c0;have z1:=hZ4.c1;have zf0:=hZ4.f0;have zf1:=hZ4.f1;clear hb4 hX4 hY4 hZ4;go_wp2;have hZz:=HZ4.out.set2 (u:=.bool c) (v:=.string r);have q0:=hZz.c0;have q1:=hZz.c1;exact bodyPost_ret (v:=.tuple #[.agg #[.bool c,.string r],.int .i64 0]) (by simp[results,Tryz.results76,go_sem,q0,q1]) rfl ⟨rfl,(HB4.out.setCell (p:=⟨w.heap.size+1+1,0,none⟩) (by simp;omega) _).setCell (p:=⟨w.heap.size+1+1,1,none⟩) (by simp;omega) _⟩
theorem int_AddA(x y:Int)(hx:x.natAbs<256 ^ 128)(hy:y.natAbs<256 ^ 128)(w:World):Calls Tryz.prog 76 #[intV x,intV y] w (Ret (fitZ (x+y)) w):=by
 cases h:(decide (x<0)==decide (y<0))with
 | true =>
  obtain⟨k,rc,hk1,hk2⟩:=fitR_cut (x.natAbs+y.natAbs);have hab:(x<0↔y<0):=decide_eq_decide.1 (eq_of_beq h);have hsg:sg (decide (x<0)) (x.natAbs+y.natAbs)=x+y:=by
   unfold sg;by_cases h1:x<0
   · have:=hab.1 h1;rw[decide_eq_true h1,if_pos rfl];omega
   · have : ¬ y<0:=fun h=>h1 (hab.2 h);rw[decide_eq_false h1,if_neg (by decide)];omega
  rw[hk2 (x+y) _ (by omega) hsg];exact int_Add_sameA x y hx hy h k rc hk1 w
 | false =>
  have hab:¬ (x<0↔y<0):=fun e=>by rw[decide_eq_decide.2 e,beq_self_eq_true]at h;cases h
  have hf:fitZ (x+y)=.tuple #[intV (x+y),.int .i64 0]:=(by unfold fitZ;rw[if_pos (by omega)]);rw[hf];by_cases hge:y.natAbs≤x.natAbs
  · exact int_Add_geA x y hx hy h hge w
  · exact int_Add_ltA x y hx hy h (by omega) w
theorem int_MulA(a b:Int)(ha:a.natAbs<256 ^ 128)(hb:b.natAbs<256 ^ 128)(w:World):Calls Tryz.prog 46 #[intV a,intV b] w (Ret (fitZ (a * b)) w):=int_MulG a b ha hb (fun w=>nat_MulA _ _ ha hb w) w
theorem fitZ_out{z:Int}(h:¬ (z.natAbs<256 ^ 128)):∃(b:Bool) (s:ByteArray),fitZ z=.tuple #[.agg #[.bool b,.string s],.int .i64 5]:=by unfold fitZ;rw[if_neg h];exact⟨_,_,rfl⟩
theorem zvalid_all{z:Int}(h:z.natAbs<256 ^ 128):zvalid (decide (z<0)) (nS z.natAbs)=true:=by
 unfold zvalid;rw[nvalid_nS.2 h,Bool.true_and];by_cases hz:z<0
 · rw[empty_nS (by omega),Bool.and_false];rfl
 · rw[decide_eq_false hz];rfl
set_option maxRecDepth 100000
set_option maxHeartbeats 2000000
theorem slz_alloc1(w:World)(b1:Bool)(s1:ByteArray)(T:TypeId):SlZ (w.alloc (.cells #[.bool b1,.string s1] T)) (some ⟨w.heap.size,0,none⟩) 1 1 [(b1,s1)]:=by
 have h:=Bx2.new w (.bool b1) (.string s1) T;refine⟨rfl,Nat.le_refl _,by omega,w.heap.size,0,fun _=>rfl,fun k z hk=>?_⟩
 match k,hk with
 | 0,hk=>cases hk;exact⟨h.c0,h.c1⟩
theorem pw_Exp(M O x:ByteArray)(bb:Bool)(bt:ByteArray)(hM:M.size≤8)(hO:O.size≤8)(hx:x.size≤1000)(hb:bt.size≤1000)(w:World):Calls Tryz.prog 38 #[gV M O,.string x,zV bb bt] w (Ret (prR M O [x] [(bb,bt)]) w):=by
 have HPR:=Hq (fun(A B:Option Addr) (w:World) (hl:SlN w A 1 1 [x]) (hz:SlZ w B 1 1 [(bb,bt)])=>pw_Product M O [x] [(bb,bt)] A B 1 1 1 1 hM hO (by intro s hs;simp only[List.mem_cons,List.mem_nil_iff,or_false]at hs;subst hs;exact hx) (by intro z hz;simp only[List.mem_cons,List.mem_nil_iff,or_false]at hz;subst hz;exact hb) (by omega) (by omega) w hl hz);obtain⟨rs,rc,hpr⟩:∃ s c,prR M O [x] [(bb,bt)]=.tuple #[.string s,.int .i64 c]:=by
  unfold prR;split
  · exact⟨_,_,rfl⟩
  · exact⟨_,_,rfl⟩
 rw[hpr]at HPR⊢;clear hM hO hx hb hpr;unfold gV zV at *;have hx0:=(Bx2.new w (.string M) (.string O) 24).next ((blr).alloc nlr (.cells #[.bool bb,.string bt] 74));have hy0:Bx2 ((w.alloc (.cells #[.string M,.string O] 24)).alloc (.cells #[.bool bb,.string bt] 74)) (w.heap.size+1) (.bool bb) (.string bt) 74:=by
  have:=Bx2.new (w.alloc (.cells #[.string M,.string O] 24)) (.bool bb) (.string bt) 74;rwa[World.size_alloc]at this
 have HB0:=Hq (((Below.refl w.heap.size w).alloc nlr (.cells #[.string M,.string O] 24)).alloc (by simp) (.cells #[.bool bb,.string bt] 74));obtain⟨W0,hW0⟩:=nm ((w.alloc (.cells #[.string M,.string O] 24)).alloc (.cells #[.bool bb,.string bt] 74));rw[hW0]at hx0 hy0 HB0;have hs1:=sln_alloc W0 [x] 22 (by simp);have hb1:Below W0.heap.size W0 (W0.alloc (.cells #[.string x] 22)):=(blr).alloc nlr _;have hs2:=slz_alloc1 (W0.alloc (.cells #[.string x] 22)) bb bt 74;have hb2:Below (W0.alloc (.cells #[.string x] 22)).heap.size (W0.alloc (.cells #[.string x] 22)) ((W0.alloc (.cells #[.string x] 22)).alloc (.cells #[.bool bb,.string bt] 74)):=(blr).alloc nlr _;have HPP:=Hq (HPR.out _ _ _ (SlN.kept hb2 nlr hs1) hs2);have HBB:=Hq (HB0.out.trans ((hb1.trans (hb2.mono hb1.size)).mono HB0.out.size));rw[World.size_alloc]at HPP;have c0:=hx0.c0;have c1:=hx0.c1;have hy1:=hy0.next hb1;have d0:=hy1.c0;have d1:=hy1.c1;clear hs1 hb1 hs2 hb2 hx0 hy0 hy1;go_enter Tryz.func38,Tryz.ntmps38;go_wp2_with fail;try rw[hW0]
 clear hW0;refine HPP.out.mono ?_;rintro e w1 ⟨rfl,hb⟩;have HB1:=bTr HBB hb;clear hb;go_wp2;go_ret2;exact⟨rfl,HB1.out⟩
structure Un (m x i:Nat):Prop where
 hm:1<m
 hx:x<m
 hi:i<m
 one:x * i%m=1
theorem Un.inv{m x i:Nat}(h:Un m x i):invN x m=i:=invN_of h.hi h.one
def EP(m x i K N:Nat):Nat:=x ^ K * i ^ N%m
theorem powc{m a b:Nat}(h:a%m=b%m)(n:Nat):a ^ n%m=b ^ n%m:=by
 rw[Nat.pow_mod,h,←Nat.pow_mod]
theorem EP_more{m x i:Nat}(h:Un m x i)(K N:Nat):∀ j,EP m x i (K+j) (N+j)=EP m x i K N
 | 0=>rfl
 | j+1=>by
  rw[←EP_more h K N j];unfold EP;have e:x ^ (K+(j+1)) * i ^ (N+(j+1))=x ^ (K+j) * i ^ (N+j) * (x * i):=by
   rw[←Nat.add_assoc,←Nat.add_assoc,Nat.pow_succ,Nat.pow_succ]
   grind
  rw[e,Nat.mul_mod,h.one,Nat.mul_one,Nat.mod_mod]
theorem EP_eq{m x i K N K' N':Nat}(h:Un m x i)(e:(K:Int) - N=K' - N'):EP m x i K N=EP m x i K' N':=by
 rcases Nat.le_total K K' with h1 | h1
 · have:=EP_more h K N (K' - K);rw[show K+(K' - K)=K' from by omega,show N+(K' - K)=N' from by omega]at this;exact this.symm
 · have:=EP_more h K' N' (K - K');rw[show K'+(K - K')=K from by omega,show N'+(K - K')=N from by omega]at this;exact this
def pz(m x:Nat)(z:Int):Nat:=baseN x (decide (z<0)) m ^ z.natAbs%m
theorem pz_EP{m x i:Nat}(h:Un m x i){z:Int}{K N:Nat}(e:z=(K:Int) - N):pz m x z=EP m x i K N:=by
 unfold pz baseN;by_cases hz:z<0
 · rw[decide_eq_true hz,if_pos rfl,h.inv,←EP_eq (K:=0) (N:=z.natAbs) h (by omega)];unfold EP;rw[Nat.pow_zero,Nat.one_mul]
 · rw[decide_eq_false hz,if_neg (by decide),←EP_eq (K:=z.natAbs) (N:=0) h (by omega)];unfold EP;rw[Nat.pow_zero,Nat.mul_one]
theorem int_parts(z:Int):∃ K N:Nat,z=(K:Int) - N:=⟨z.toNat,(-z).toNat,by omega⟩
theorem EP_lt{m x i K N:Nat}(h:Un m x i):EP m x i K N<m:=Nat.mod_lt _ (by have:=h.hm;omega)
theorem EP_un{m x i:Nat}(h:Un m x i)(K N:Nat):Un m (EP m x i K N) (EP m x i N K):=by
 refine⟨h.hm,EP_lt h,EP_lt h,?_⟩;have e:EP m x i K N * EP m x i N K%m=EP m x i (K+N) (N+K):=by
  unfold EP;rw[←Nat.mul_mod,Nat.pow_add,Nat.pow_add];congr 1
  grind
 rw[e,←EP_eq (K:=0) (N:=0) h (by omega)];unfold EP;rw[Nat.pow_zero,Nat.pow_zero];exact Nat.mod_eq_of_lt h.hm
theorem pz_un{m x i:Nat}(h:Un m x i)(z:Int):∃ j,Un m (pz m x z) j:=by
 obtain⟨K,N,e⟩:=int_parts z;rw[pz_EP h e];exact⟨_,EP_un h K N⟩
theorem pz_add{m x i:Nat}(h:Un m x i)(a b:Int):pz m x (a+b)=pz m x a * pz m x b%m:=by
 obtain⟨K,N,ea⟩:=int_parts a;obtain⟨K',N',eb⟩:=int_parts b;rw[pz_EP h ea,pz_EP h eb,pz_EP (K:=K+K') (N:=N+N') h (by omega)];unfold EP;rw[←Nat.mul_mod,Nat.pow_add,Nat.pow_add];congr 1
 grind
theorem pz_pow{m x i:Nat}(h:Un m x i)(a b:Int):pz m (pz m x a) b=pz m x (a * b):=by
 obtain⟨K,N,ea⟩:=int_parts a;obtain⟨K',N',eb⟩:=int_parts b;rw[pz_EP h ea,pz_EP (EP_un h K N) eb,pz_EP (K:=K * K'+N * N') (N:=N * K'+K * N') h (by rw[ea,eb];push_cast;grind)];unfold EP;rw[Nat.mul_mod,←Nat.pow_mod,←Nat.pow_mod,←Nat.mul_mod,Nat.mul_pow,Nat.mul_pow,Nat.pow_add,Nat.pow_add,←Nat.pow_mul,←Nat.pow_mul,←Nat.pow_mul,←Nat.pow_mul];congr 1
 grind
theorem pz_nat{m x n:Nat}:pz m x (n:Int)=x ^ n%m:=by
 unfold pz baseN;rw[decide_eq_false (by omega),if_neg (by decide),Int.natAbs_natCast]
theorem one_un{m:Nat}(hm:1<m):Un m 1 1:=⟨hm,hm,hm,by rw[Nat.mul_one];exact Nat.mod_eq_of_lt hm⟩
theorem pz_base1{m:Nat}(hm:1<m)(z:Int):pz m 1 z=1:=by
 obtain⟨K,N,e⟩:=int_parts z;rw[pz_EP (one_un hm) e];unfold EP;rw[Nat.one_pow,Nat.one_pow];exact Nat.mod_eq_of_lt hm
theorem bez(a b:Nat):∃ s t:Int,(a:Int) * s+b * t=(Nat.gcd a b:Nat):=by
 induction a,b using Nat.gcd.induction with
 | H0 n=>exact⟨0,1,by rw[Nat.gcd_zero_left];omega⟩
 | H1 m n h ih =>
  obtain⟨s,t,e⟩:=ih;refine⟨t - (n / m:Nat) * s,s,?_⟩;rw[Nat.gcd_rec,←e];have h1:(n:Int)=m * (n / m:Nat)+(n%m:Nat):=by exact_mod_cast (Nat.div_add_mod n m).symm
  generalize ((n / m:Nat):Int)=d at *;generalize ((n%m:Nat):Int)=r at *;rw[h1]
  grind
theorem un_of{m x:Nat}(hm:1<m)(hx:x<m)(hg:Nat.gcd x m=1):∃ i,Un m x i:=by
 obtain⟨s,t,e⟩:=bez x m;rw[hg]at e;have h1:=Int.emod_nonneg s (show (m:Int)≠0 by omega);have h2:=Int.emod_lt_of_pos s (show (0:Int)<(m:Int)by omega);exact⟨(s%m).toNat,hm,hx,by omega,ex_law (y:=t) hm e⟩
theorem un_gcd{m x i:Nat}(h:Un m x i):Nat.gcd x m=1:=by
 have h1:Nat.gcd x m ∣ 1:=by
  have hd1:=Nat.gcd_dvd_left x m;have hd2:=Nat.gcd_dvd_right x m;have h2:x * i=m * (x * i / m)+1:=(by have:=Nat.div_add_mod (x * i) m;rw[h.one]at this;exact this.symm);have h3:Nat.gcd x m ∣ m * (x * i / m)+1:=by rw[←h2];exact Nat.dvd_trans hd1 (Nat.dvd_mul_right x i)
  exact(Nat.dvd_add_right (Nat.dvd_trans hd2 (Nat.dvd_mul_right m _))).1 h3
 exact Nat.dvd_one.1 h1
theorem has_un{m o x:Nat}(hc:chkN m o=0)(h:hasN m o x=true):∃ i,Un m x i:=by
 obtain⟨h1,h2,h3⟩:=hasN_unit h hc;exact un_of h2 h1 h3
theorem has_ord{m o x:Nat}(ho:0<o)(h:hasN m o x=true):x ^ o%m=1:=by
 unfold hasN at h;have h:=of_decide_eq_true h;rw[if_neg (by omega)]at h;exact h.2.2
theorem has_of{m o x i:Nat}(hu:Un m x i)(hp:0<o→x ^ o%m=1):hasN m o x=true:=by
 unfold hasN;have hm:=hu.hm;have h0:0<x:=by
  rcases Nat.eq_zero_or_pos x with h | h
  · subst h;have:=hu.one;rw[Nat.zero_mul,Nat.zero_mod]at this;cases this
  · exact h
 refine decide_eq_true ⟨h0,hu.hx,?_⟩;split
 · exact un_gcd hu
 · exact hp (by omega)
theorem has_pz{m o x:Nat}(hc:chkN m o=0)(h:hasN m o x=true)(z:Int):hasN m o (pz m x z)=true:=by
 obtain⟨i,hu⟩:=has_un hc h;obtain⟨j,hj⟩:=pz_un hu z;refine has_of hj (fun ho=>?_);have h1:=has_ord ho h;rw[←pz_nat,pz_pow hu,Int.mul_comm,←pz_pow hu,pz_nat,h1,pz_base1 hu.hm]
theorem has_lt{m o x:Nat}(h:hasN m o x=true):x<m:=(of_decide_eq_true h).2.1
theorem cka_two{M O a b:ByteArray}{z1 z2:Bool×ByteArray}(h1:nvalid a=true)(h2:nvalid b=true)(h3:zvalid z1.1 z1.2=true)(h4:zvalid z2.1 z2.2=true)(h5:chkK M O=0)(h6:hasN (num M) (num O) (num a)=true)(h7:hasN (num M) (num O) (num b)=true):ckR M O [a,b] [z1,z2] true=0:=by
 unfold ckR;rw[if_neg (by simp[h1,h2]),if_neg (by simp[h3,h4]),if_pos h5,if_neg (by decide),if_neg (by simp[h6,h7])]
theorem cka_one{M O a:ByteArray}{z1:Bool×ByteArray}(h1:nvalid a=true)(h3:zvalid z1.1 z1.2=true)(h5:chkK M O=0)(h6:hasN (num M) (num O) (num a)=true):ckR M O [a] [z1] true=0:=by
 unfold ckR;rw[if_neg (by simp[h1]),if_neg (by simp[h3]),if_pos h5,if_neg (by decide),if_neg (by simp[h6])]
theorem pz_two(m x y:Nat)(v r:Int):baseN x (decide (v<0)) m ^ v.natAbs * baseN y (decide (r<0)) m ^ r.natAbs%m=pz m x v * pz m y r%m:=by
 unfold pz;rw[←Nat.mul_mod]
theorem wpList_append_none{P:Program}(w:World){ops:Array Oper}{rest:List Oper}{o:Oper}{a:Act}{Q:Exit→Act→World→Prop}(hg:o.guard=none)(s x:Operand)(t:TypeId)(hop:o.op=Op.call { callee:=Callee.builtin Builtin.append,args:=#[s,x],argTypes:=#[t,t] })
 (e:TypeId) (i:TypeInfo) (h1:P.underlying t=some (.slice e)) (h2:P.info? e=some i) (ao:Option Addr) (n cap:Nat) (hs:a.eval s=.slice ao n cap) (hle:n≤cap) (m:Nat) (hx:a.eval x=.slice none 0 m)
 (hK:wpList P ops Q rest (a.put o.dst (.slice ao n cap)) w):wpList P ops Q (o::rest) a w:=by
 refine wpList_plain hg fun K hK'=>?_;have hrun:(Builtin.append_ #[t,t] o.type #[.slice ao n cap,.slice none 0 m]).run P w=.ok (.slice ao n cap) w:=by
  cases ao<;>simp[Builtin.append_,run_underlying h1,sizeOf,typeInfo,h2,hle,storeCells,go_sem]
 unfold Oper.wp;simp[execOp,hop,resolve,invoke,builtin,hs,hx,hrun,Result.andThen];exact hK' _ _ hK
theorem wpList_append_sl(w0 w:World){ops:Array Oper}{rest:List Oper}{o:Oper}{a:Act}{Q:Exit→Act→World→Prop}(hg:o.guard=none)(s x:Operand)(hop:o.op=Op.call { callee:=Callee.builtin Builtin.append,args:=#[s,x],argTypes:=#[25,25] })
 (base:Nat) (v:Value) (n:Nat) (xs:List ByteArray) (hs:a.eval s=v) (hown:w.ownsRow base 22 1 v n (xs.map Value.string)) (A:Option Addr) (m c:Nat) (l:List ByteArray) (hx:a.eval x=.slice A m c) (hsl:SlN w A m c l) (hn:n+m≤4000000) (hb:Below base w0 w) (hbase:base≤w.heap.size)
 (hK:∀ v' w',w'.ownsRow base 22 1 v' (n+m) ((xs++l).map Value.string)→Below base w0 w'→base≤w'.heap.size→wpList Tryz.prog ops Q rest (a.put o.dst v') w'):wpList Tryz.prog ops Q (o::rest) a w:=by
 obtain⟨i0,hi,iz0,iz1,iz2⟩:=info_parts nat_info
 cases A with
 | none =>
  have h0:m=0:=by
   rcases Nat.eq_zero_or_pos m with h | h
   · exact h
   · obtain⟨b,o,e⟩:=hsl.head h;cases e
  have hl:l=[]:=List.length_eq_zero_iff.1 (by rw[hsl.1,h0]);subst h0 hl;obtain⟨A6,c6,hu6,hmc⟩:∃ A c,v=.slice A n c∧n≤c:=by
   rcases hown.2 with⟨h,h0⟩ | ⟨g,c,_,h,_,_,h2,_⟩
   · subst h0;exact⟨_,_,h,Nat.le_refl _⟩
   · exact⟨_,_,h,h2⟩
  refine wpList_append_none w hg s x 25 hop 22 i0 Tryz.underlying25 hi A6 n c6 (hs.trans hu6) hmc c hx ?_;have:=hK v w (by simpa using hown) hb hbase;rwa[hu6]at this
 | some ad =>
  refine wpList_append_own w hg s x 25 hop base 22 i0 _ 1 16 Tryz.underlying25 hi iz0 iz1 iz2 rfl (by decide) v n _ hs hown ad m c (l.map Value.string) hx (by rw[List.length_map,hsl.1,Nat.mul_one]) hsl.cells (strs_one _) (by unfold maxLen;omega) (by omega) hbase ?_;intro v' w' hown' hgrow _;have hb':=hb.grown hgrow hbase (fun k hk=>(hown.lt k hk).1);exact hK v' w' (by rw[List.map_append];exact hown') hb' (Nat.le_trans hbase hgrow.size)
end Go.Proofs.YtmahgbhpdfbbjaaGreatDoor

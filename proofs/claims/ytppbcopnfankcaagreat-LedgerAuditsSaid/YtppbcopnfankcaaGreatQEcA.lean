import Derived.Test.YtppbcopnfankcaaGreatQEpH
import Derived.Test.YtppbcopnfankcaaGreatQScT
set_option linter.unusedVariables false
set_option linter.unusedSimpArgs false
namespace Go.Proofs.YtppbcopnfankcaaGreat
set_option maxRecDepth 100000
set_option maxHeartbeats 4000000
open Go.RowKit
def ckD(M O G Y:ByteArray)(d:Dl):Int:=if d.msg.2=0 then veK M O G Y d.sc d.sr d.msg.1 else d.msg.2
theorem zp7(x:It):(encS x).1.size≤1000000:=by
 unfold encS;split
 · decide
 split
 · decide
 split
 · decide
 · rw[zm];omega
theorem Dl.msg_size(d:Dl):d.msg.1.size≤1000000:=by
 unfold Dl.msg;split
 · exact zp7 _
 · exact Nat.zero_le _
theorem zu4(M O G Y:ByteArray)(d:Dl)(A A':Option Addr)(n c n' c':Nat)(w:World)(hs:SlN w A n c d.ad)(hs':SlN w A' n' c' d.rm)(hn:n≤400000)(hn':n'≤400000)(hz:SzL d.str)(hM:M.size≤8)(hO:O.size≤100)(hG:G.size≤1000)(hY:Y.size≤1000)(hc:d.sc.size≤1000)(hr:d.sr.size≤1000) :
 Calls Tryz.prog 47 #[kV M O G Y,.agg (d.arr (.slice A n c) (.slice A' n' c'))] w (Ret (.int .i64 (ckD M O G Y d)) w):=by
 obtain⟨W0,hW0⟩:=nm ((w.alloc (.cells #[.string M,.string O,.string G,.string Y] 29)).alloc (.cells (d.arr (.slice A n c) (.slice A' n' c')) 72));have hx1:BxC W0 (w.heap.size+1) (d.arr (.slice A n c) (.slice A' n' c')) 72:=(by rw[←hW0];have:=BxC.new (w.alloc (.cells #[.string M,.string O,.string G,.string Y] 29)) (d.arr (.slice A n c) (.slice A' n' c')) 72;rw[World.size_alloc]at this;exact this);have HK0:=Hq (show BxC W0 w.heap.size #[.string M,.string O,.string G,.string Y] 29 from by rw[←hW0];exact(BxC.new w _ _).next ((blr).alloc nlr _));have HX0:=Hq hx1;have HB0:=Hq (show Below w.heap.size w W0 from by rw[←hW0];exact((blr).alloc nlr _).alloc (by simp) _);have HM:=Hq (zp4 d A A' n c n' c' W0 (hs.kept HB0.out nlr) (hs'.kept HB0.out nlr) hn hn' hz);have HV:=Hq (fun W=>zke M O G Y d.sc d.sr d.msg.1 hM hO hG hY hc hr d.msg_size W);obtain⟨r1,r2,hr1⟩:∃ r1 r2,d.msg=(r1,r2):=⟨_,_,rfl⟩;have HCK:=Hq (show ckD M O G Y d=if r2=0 then veK M O G Y d.sc d.sr r1 else r2 from by unfold ckD;rw[hr1]);rw[hr1]at HM HV;have p0:W0.cell? ⟨w.heap.size+1,0,none⟩=some (.int .i64 d.fr):=hx1.cell 0;have p1:W0.cell? ⟨w.heap.size+1,1,none⟩=some (.int .i64 d.to):=hx1.cell 1;have p2:W0.cell? ⟨w.heap.size+1,2,none⟩=some (.slice A n c):=hx1.cell 2;have p3:W0.cell? ⟨w.heap.size+1,3,none⟩=some (.slice A' n' c'):=hx1.cell 3;have p4:W0.cell? ⟨w.heap.size+1,4,none⟩=some (.string d.be):=hx1.cell 4;have p5:W0.cell? ⟨w.heap.size+1,5,none⟩=some (.string d.af):=hx1.cell 5;have p6:W0.cell? ⟨w.heap.size+1,6,none⟩=some (.string d.sc):=hx1.cell 6;have p7:W0.cell? ⟨w.heap.size+1,7,none⟩=some (.string d.sr):=hx1.cell 7;unfold Dl.arr at *;unfold kV at HV⊢;clear hs hs' hr1 hx1;go_enter Tryz.func47,Tryz.ntmps47;go_upto_region 1 with fail
 try rw[hW0]
 clear hW0;go_wp2_with fail;refine(show Calls _ _ _ _ _ from HM.out).mono ?_;rintro e w1 ⟨rfl,hb1⟩;have HK1:=Hq (HK0.out.next hb1);have HX1:=Hq (HX0.out.next hb1);have HB1:=bt HB0 hb1;clear hb1 p0 p1 p2 p3 p4 p5 p6 p7;by_cases hz2:r2=0
 · subst hz2;have HCK:=Hq (show ckD M O G Y d=veK M O G Y d.sc d.sr r1 from by rw[HCK.out,if_pos rfl]);have k0:w1.cell? ⟨w.heap.size,0,none⟩=some (.string M):=HK1.out.cell 0;have k1:w1.cell? ⟨w.heap.size,1,none⟩=some (.string O):=HK1.out.cell 1;have k2:w1.cell? ⟨w.heap.size,2,none⟩=some (.string G):=HK1.out.cell 2;have k3:w1.cell? ⟨w.heap.size,3,none⟩=some (.string Y):=HK1.out.cell 3;have x6:w1.cell? ⟨w.heap.size+1,6,none⟩=some (.string d.sc):=HX1.out.cell 6;have x7:w1.cell? ⟨w.heap.size+1,7,none⟩=some (.string d.sr):=HX1.out.cell 7;go_wp2_with fail;refine(HV.out w1).mono ?_;rintro e w2 ⟨rfl,hb2⟩;have HB2:=bt HB1 hb2;clear hb2;go_wp2;go_ret;exact⟨by rw[HCK.out];rfl,HB2.out⟩
 · have hne:(r2 != 0)=true:=by simp[hz2]
   have HCK:=Hq (show ckD M O G Y d=r2 from by rw[HCK.out,if_neg hz2]);go_wp2;go_ret;exact⟨by rw[HCK.out];rfl,HB1.out⟩
theorem zq2(M O G Y:ByteArray)(d:Dl)(A A':Option Addr)(n c n' c':Nat)(w:World)(hs:SlN w A n c d.ad)(hs':SlN w A' n' c' d.rm)(hn:n≤400000)(hn':n'≤400000)(hz:SzL d.str)(hM:M.size≤8)(hO:O.size≤100)(hG:G.size≤1000)(hY:Y.size≤1000)(hc:d.sc.size≤1000)(hr:d.sr.size≤1000) :
 Calls Tryz.prog 32 #[kV M O G Y,.agg (d.arr (.slice A n c) (.slice A' n' c'))] w (Ret (.int .i64 (ckD M O G Y d)) w):=by
 obtain⟨W0,hW0⟩:=nm ((w.alloc (.cells #[.string M,.string O,.string G,.string Y] 29)).alloc (.cells (d.arr (.slice A n c) (.slice A' n' c')) 72));have hx1:BxC W0 (w.heap.size+1) (d.arr (.slice A n c) (.slice A' n' c')) 72:=(by rw[←hW0];have:=BxC.new (w.alloc (.cells #[.string M,.string O,.string G,.string Y] 29)) (d.arr (.slice A n c) (.slice A' n' c')) 72;rw[World.size_alloc]at this;exact this);have HK0:=Hq (show BxC W0 w.heap.size #[.string M,.string O,.string G,.string Y] 29 from by rw[←hW0];exact(BxC.new w _ _).next ((blr).alloc nlr _));have HX0:=Hq hx1;have HB0:=Hq (show Below w.heap.size w W0 from by rw[←hW0];exact((blr).alloc nlr _).alloc (by simp) _);have HM:=Hq (zmd d A A' n c n' c' W0 (hs.kept HB0.out nlr) (hs'.kept HB0.out nlr) hn hn' hz);have HV:=Hq (fun W=>zhh M O G Y d.sc d.sr d.msg.1 hM hO hG hY hc hr d.msg_size W);obtain⟨r1,r2,hr1⟩:∃ r1 r2,d.msg=(r1,r2):=⟨_,_,rfl⟩;have HCK:=Hq (show ckD M O G Y d=if r2=0 then veK M O G Y d.sc d.sr r1 else r2 from by unfold ckD;rw[hr1]);rw[hr1]at HM HV;have p0:W0.cell? ⟨w.heap.size+1,0,none⟩=some (.int .i64 d.fr):=hx1.cell 0;have p1:W0.cell? ⟨w.heap.size+1,1,none⟩=some (.int .i64 d.to):=hx1.cell 1;have p2:W0.cell? ⟨w.heap.size+1,2,none⟩=some (.slice A n c):=hx1.cell 2;have p3:W0.cell? ⟨w.heap.size+1,3,none⟩=some (.slice A' n' c'):=hx1.cell 3;have p4:W0.cell? ⟨w.heap.size+1,4,none⟩=some (.string d.be):=hx1.cell 4;have p5:W0.cell? ⟨w.heap.size+1,5,none⟩=some (.string d.af):=hx1.cell 5;have p6:W0.cell? ⟨w.heap.size+1,6,none⟩=some (.string d.sc):=hx1.cell 6;have p7:W0.cell? ⟨w.heap.size+1,7,none⟩=some (.string d.sr):=hx1.cell 7;unfold Dl.arr at *;unfold kV at HV⊢;clear hs hs' hr1 hx1;go_enter Tryz.func32,Tryz.ntmps32;go_upto_region 1 with fail
 try rw[hW0]
 clear hW0;go_wp2_with fail;refine(show Calls _ _ _ _ _ from HM.out).mono ?_;rintro e w1 ⟨rfl,hb1⟩;have HK1:=Hq (HK0.out.next hb1);have HX1:=Hq (HX0.out.next hb1);have HB1:=bt HB0 hb1;clear hb1 p0 p1 p2 p3 p4 p5 p6 p7;by_cases hz2:r2=0
 · subst hz2;have HCK:=Hq (show ckD M O G Y d=veK M O G Y d.sc d.sr r1 from by rw[HCK.out,if_pos rfl]);have k0:w1.cell? ⟨w.heap.size,0,none⟩=some (.string M):=HK1.out.cell 0;have k1:w1.cell? ⟨w.heap.size,1,none⟩=some (.string O):=HK1.out.cell 1;have k2:w1.cell? ⟨w.heap.size,2,none⟩=some (.string G):=HK1.out.cell 2;have k3:w1.cell? ⟨w.heap.size,3,none⟩=some (.string Y):=HK1.out.cell 3;have x6:w1.cell? ⟨w.heap.size+1,6,none⟩=some (.string d.sc):=HX1.out.cell 6;have x7:w1.cell? ⟨w.heap.size+1,7,none⟩=some (.string d.sr):=HX1.out.cell 7;go_wp2_with fail;refine(HV.out w1).mono ?_;rintro e w2 ⟨rfl,hb2⟩;have HB2:=bt HB1 hb2;clear hb2;go_wp2;go_ret;exact⟨by rw[HCK.out];rfl,HB2.out⟩
 · have hne:(r2 != 0)=true:=by simp[hz2]
   have HCK:=Hq (show ckD M O G Y d=r2 from by rw[HCK.out,if_neg hz2]);go_wp2;go_ret;exact⟨by rw[HCK.out];rfl,HB1.out⟩
end Go.Proofs.YtppbcopnfankcaaGreat

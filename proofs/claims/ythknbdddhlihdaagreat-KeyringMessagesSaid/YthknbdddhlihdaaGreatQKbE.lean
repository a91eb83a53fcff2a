import Derived.Test.YthknbdddhlihdaaGreatQKyT
import Derived.Test.YthknbdddhlihdaaGreatQScS
import Derived.Test.YthknbdddhlihdaaGreatQRoC
import Derived.Test.YthknbdddhlihdaaGreatQScT
import Derived.Test.YthknbdddhlihdaaGreatQKyW
set_option linter.unusedVariables false
set_option linter.unusedSimpArgs false
namespace Go.Proofs.YthknbdddhlihdaaGreat
set_option maxRecDepth 100000
set_option maxHeartbeats 4000000
open Go.RowKit
def rtV(M O G Y X:ByteArray):Value:=.agg #[.string M,.string O,.string G,.string Y,.string X]
def fewR(M O G Y X:ByteArray):Bool:=decide ((M.size:Int)≤8)&&(decide ((O.size:Int)≤8)&&(decide ((G.size:Int)≤9)&&(decide ((Y.size:Int)≤9)&&decide ((X.size:Int)≤9))))
theorem law58_few(M O G Y X:ByteArray)(w:World):Calls Tryz.prog 4 #[rtV M O G Y X] w (Ret (.bool (fewR M O G Y X)) w):=by
 obtain⟨W0,hW0⟩:∃ W0,w.alloc (.cells #[.string M,.string O,.string G,.string Y,.string X] 28)=W0:=⟨_,rfl⟩;have HB0:=Hq (show Below w.heap.size w W0 from by rw[←hW0];exact(Below.refl _ _).alloc (Nat.le_refl _) _);have HX:=Hq (show BxC W0 w.heap.size #[.string M,.string O,.string G,.string Y,.string X] 28 from by rw[←hW0];exact BxC.new w _ _);have x0:W0.cell? ⟨w.heap.size,0,none⟩=some (.string M):=HX.out.cell 0;have x1:W0.cell? ⟨w.heap.size,1,none⟩=some (.string O):=HX.out.cell 1;have x2:W0.cell? ⟨w.heap.size,2,none⟩=some (.string G):=HX.out.cell 2;have x3:W0.cell? ⟨w.heap.size,3,none⟩=some (.string Y):=HX.out.cell 3;have x4:W0.cell? ⟨w.heap.size,4,none⟩=some (.string X):=HX.out.cell 4;unfold rtV;go_enter Tryz.func4,Tryz.ntmps4;go_upto_region 1 with fail
 try rw[hW0]
 clear hW0
 cases h0:decide ((M.size:Int)≤8)with
 | false =>
  go_wp2;go_ret;exact⟨by simp[fewR,h0],HB0.out⟩
 | true =>
 cases h1:decide ((O.size:Int)≤8)with
 | false =>
  go_wp2;go_ret;exact⟨by simp[fewR,h0,h1],HB0.out⟩
 | true =>
 cases h2:decide ((G.size:Int)≤9)with
 | false =>
  go_wp2;go_ret;exact⟨by simp[fewR,h0,h1,h2],HB0.out⟩
 | true =>
 cases h3:decide ((Y.size:Int)≤9)with
 | false =>
  go_wp2;go_ret;exact⟨by simp[fewR,h0,h1,h2,h3],HB0.out⟩
 | true =>
 cases h4:decide ((X.size:Int)≤9)with
 | false =>
  go_wp2;go_ret;exact⟨by simp[fewR,h0,h1,h2,h3,h4],HB0.out⟩
 | true =>
  go_wp2;go_ret;exact⟨by simp[fewR,h0,h1,h2,h3,h4],HB0.out⟩
def ckV(M O G Y:ByteArray)(v:Ver):Int:=if v.msg.2=0 then veK M O G Y v.sc v.sr v.msg.1 else v.msg.2
theorem encS_size(x:It):(encS x).1.size≤1000000:=by
 unfold encS;split
 · decide
 split
 · decide
 split
 · decide
 · rw[bstr_size];omega
theorem Ver.msg_size(v:Ver):v.msg.1.size≤1000000:=by
 unfold Ver.msg;split
 · decide
 split
 · decide
 split
 · decide
 · exact encS_size _
theorem ky_Check(M O G Y:ByteArray)(v:Ver)(A:Option Addr)(n c:Nat)(w:World)(hs:SlN w A n c v.kr)(hn:n≤100)(hz:SzL v.str)(hM:M.size≤8)(hO:O.size≤100)(hG:G.size≤1000)(hY:Y.size≤1000)(hc:v.sc.size≤1000)(hr:v.sr.size≤1000) :
 Calls Tryz.prog 9 #[kV M O G Y,.agg (v.arr (.slice A n c))] w (Ret (.int .i64 (ckV M O G Y v)) w):=by
 obtain⟨cs,hcs⟩:∃ cs,v.arr (.slice A n c)=cs:=⟨_,rfl⟩;rw[hcs];have HVA:=Hq hcs;have HCS:=Hq (show cs.size=18 from by rw[←hcs];rfl);obtain⟨W0,hW0⟩:∃ W0,(w.alloc (.cells #[.string M,.string O,.string G,.string Y] 26)).alloc (.cells cs 35)=W0:=⟨_,rfl⟩;have HK0:=Hq (show BxC W0 w.heap.size #[.string M,.string O,.string G,.string Y] 26 from by rw[←hW0];exact(BxC.new w _ _).next ((Below.refl _ _).alloc (Nat.le_refl _) _));have HX0:=Hq (show BxC W0 (w.heap.size+1) cs 35 from by rw[←hW0];exact BxC.new1 w _ _ _);have HB0:=Hq (show Below w.heap.size w W0 from by rw[←hW0];exact((Below.refl _ _).alloc (Nat.le_refl _) _).alloc (by simp) _);have HM:=Hq (show ∀ W,Below w.heap.size w W→Calls Tryz.prog 7 #[.agg cs] W (RetSE v.msg W)from fun W hb=>by rw[←hcs];exact ky_Message v A n c W (hs.kept hb (Nat.le_refl _)) hn hz);have HV:=Hq (fun W=>sc_Verify M O G Y v.sc v.sr v.msg.1 hM hO hG hY hc hr v.msg_size W);obtain⟨r1,r2,hr1⟩:∃ r1 r2,v.msg=(r1,r2):=⟨_,_,rfl⟩;have HCK:=Hq (show ckV M O G Y v=if r2=0 then veK M O G Y v.sc v.sr r1 else r2 from by unfold ckV;rw[hr1]);rw[hr1]at HM HV;unfold kV at HV⊢;clear hs hcs hr1;go_enter Tryz.func9,Tryz.ntmps9;go_upto_region 1 with fail
 try rw[hW0]
 clear hW0;refine wp_region_lit ?_;refine wpList_load_row rfl 35 _ rfl (w.heap.size+1) rfl 35 cs (0,0) _ HX0.out Tryz.underlying35 rfl (by rw[HCS.out];kernel_rfl) ?_;go_wp2_with fail;refine(HM.out W0 HB0.out).mono ?_;rintro e w1 ⟨rfl,hb1⟩;have HK1:=Hq (HK0.out.next hb1);have HX1:=Hq (HX0.out.next hb1);have HB1:=Hq (HB0.out.trans (hb1.mono HB0.out.size));clear hb1;by_cases hz2:r2=0
 · subst hz2;have HCK:=Hq (show ckV M O G Y v=veK M O G Y v.sc v.sr r1 from by rw[HCK.out,if_pos rfl]);have k0:w1.cell? ⟨w.heap.size,0,none⟩=some (.string M):=HK1.out.cell 0;have k1:w1.cell? ⟨w.heap.size,1,none⟩=some (.string O):=HK1.out.cell 1;have k2:w1.cell? ⟨w.heap.size,2,none⟩=some (.string G):=HK1.out.cell 2;have k3:w1.cell? ⟨w.heap.size,3,none⟩=some (.string Y):=HK1.out.cell 3;have x16:w1.cell? ⟨w.heap.size+1,16,none⟩=some (.string v.sc):=(HX1.out.cell 16).trans (by rw[←HVA.out];rfl);have x17:w1.cell? ⟨w.heap.size+1,17,none⟩=some (.string v.sr):=(HX1.out.cell 17).trans (by rw[←HVA.out];rfl);go_wp2_with fail;refine(HV.out w1).mono ?_;rintro e w2 ⟨rfl,hb2⟩;have HB2:=Hq (HB1.out.trans (hb2.mono HB1.out.size));clear hb2;go_wp2;go_ret;exact⟨by rw[HCK.out];rfl,HB2.out⟩
 · have hne:(r2 != 0)=true:=by simp[hz2]
   have HCK:=Hq (show ckV M O G Y v=r2 from by rw[HCK.out,if_neg hz2]);go_wp2;go_ret;exact⟨by rw[HCK.out];rfl,HB1.out⟩
set_option maxRecDepth 100000
set_option maxHeartbeats 4000000
theorem r58_Check(M O G Y:ByteArray)(v:Ver)(A:Option Addr)(n c:Nat)(w:World)(hs:SlN w A n c v.kr)(hn:n≤100)(hz:SzL v.str)(hM:M.size≤8)(hO:O.size≤100)(hG:G.size≤1000)(hY:Y.size≤1000)(hc:v.sc.size≤1000)(hr:v.sr.size≤1000) :
 Calls Tryz.prog 10 #[kV M O G Y,.agg (v.arr (.slice A n c))] w (Ret (.int .i64 (ckV M O G Y v)) w):=by
 obtain⟨cs,hcs⟩:∃ cs,v.arr (.slice A n c)=cs:=⟨_,rfl⟩;rw[hcs];have HVA:=Hq hcs;have HCS:=Hq (show cs.size=18 from by rw[←hcs];rfl);obtain⟨W0,hW0⟩:∃ W0,(w.alloc (.cells #[.string M,.string O,.string G,.string Y] 26)).alloc (.cells cs 35)=W0:=⟨_,rfl⟩;have HK0:=Hq (show BxC W0 w.heap.size #[.string M,.string O,.string G,.string Y] 26 from by rw[←hW0];exact(BxC.new w _ _).next ((Below.refl _ _).alloc (Nat.le_refl _) _));have HX0:=Hq (show BxC W0 (w.heap.size+1) cs 35 from by rw[←hW0];exact BxC.new1 w _ _ _);have HB0:=Hq (show Below w.heap.size w W0 from by rw[←hW0];exact((Below.refl _ _).alloc (Nat.le_refl _) _).alloc (by simp) _);have HM:=Hq (show ∀ W,Below w.heap.size w W→Calls Tryz.prog 8 #[.agg cs] W (RetSE v.msg W)from fun W hb=>by rw[←hcs];exact r58_Message v A n c W (hs.kept hb (Nat.le_refl _)) hn hz);have HV:=Hq (fun W=>r33_Verify M O G Y v.sc v.sr v.msg.1 hM hO hG hY hc hr v.msg_size W);obtain⟨r1,r2,hr1⟩:∃ r1 r2,v.msg=(r1,r2):=⟨_,_,rfl⟩;have HCK:=Hq (show ckV M O G Y v=if r2=0 then veK M O G Y v.sc v.sr r1 else r2 from by unfold ckV;rw[hr1]);rw[hr1]at HM HV;unfold kV at HV⊢;clear hs hcs hr1;go_enter Tryz.func10,Tryz.ntmps10;go_upto_region 1 with fail
 try rw[hW0]
 clear hW0;refine wp_region_lit ?_;refine wpList_load_row rfl 35 _ rfl (w.heap.size+1) rfl 35 cs (0,0) _ HX0.out Tryz.underlying35 rfl (by rw[HCS.out];kernel_rfl) ?_;go_wp2_with fail;refine(HM.out W0 HB0.out).mono ?_;rintro e w1 ⟨rfl,hb1⟩;have HK1:=Hq (HK0.out.next hb1);have HX1:=Hq (HX0.out.next hb1);have HB1:=Hq (HB0.out.trans (hb1.mono HB0.out.size));clear hb1;by_cases hz2:r2=0
 · subst hz2;have HCK:=Hq (show ckV M O G Y v=veK M O G Y v.sc v.sr r1 from by rw[HCK.out,if_pos rfl]);have k0:w1.cell? ⟨w.heap.size,0,none⟩=some (.string M):=HK1.out.cell 0;have k1:w1.cell? ⟨w.heap.size,1,none⟩=some (.string O):=HK1.out.cell 1;have k2:w1.cell? ⟨w.heap.size,2,none⟩=some (.string G):=HK1.out.cell 2;have k3:w1.cell? ⟨w.heap.size,3,none⟩=some (.string Y):=HK1.out.cell 3;have x16:w1.cell? ⟨w.heap.size+1,16,none⟩=some (.string v.sc):=(HX1.out.cell 16).trans (by rw[←HVA.out];rfl);have x17:w1.cell? ⟨w.heap.size+1,17,none⟩=some (.string v.sr):=(HX1.out.cell 17).trans (by rw[←HVA.out];rfl);go_wp2_with fail;refine(HV.out w1).mono ?_;rintro e w2 ⟨rfl,hb2⟩;have HB2:=Hq (HB1.out.trans (hb2.mono HB1.out.size));clear hb2;go_wp2;go_ret;exact⟨by rw[HCK.out];rfl,HB2.out⟩
 · have hne:(r2 != 0)=true:=by simp[hz2]
   have HCK:=Hq (show ckV M O G Y v=r2 from by rw[HCK.out,if_neg hz2]);go_wp2;go_ret;exact⟨by rw[HCK.out];rfl,HB1.out⟩
theorem load_rowG{P:Program}{ops:Array Oper}{rest:List Oper}{o:Oper}{a:Act}{w:World}{Q:Exit→Act→World→Prop}(hw:Region.wanted o (yielded ops a.tmps)=true)(ty:TypeId)(x:Operand)(ho:o.op=.load ty x)
 (g:Nat) (hx:a.eval x=.pointer (some ⟨g,0,none⟩)) (t:TypeId) (cs:Array Value) (fr:Nat×Nat) (d:TypeDesc) (hg:w.heap[g]? =some (.cells cs t fr))
 (hu:P.underlying ty=some d) (hd:(match d with | .struct _ | .array _ _=>true | _=>false)=true) (hi:(P.info? ty).map (·.size)=some cs.size)
 (h:wpList P ops Q rest (a.put o.dst (.agg cs)) w):wpList P ops Q (o::rest) a w:=
 wpList_step fun K hK=>by
  rw[if_pos hw];exact wp_load_row ty x ho g hx t cs fr d hg hu hd hi (hK _ _ h)
theorem load_rowR{P:Program}{op:Oper}{a:Act}{w:World}(ty:TypeId)(x:Operand)(ho:op.op=.load ty x)(g:Nat)(hx:a.eval x=.pointer (some ⟨g,0,none⟩))(t:TypeId)(cs:Array Value)(fr:Nat×Nat)(d:TypeDesc)(hg:w.heap[g]? =some (.cells cs t fr))
 (hu:P.underlying ty=some d) (hd:(match d with | .struct _ | .array _ _=>true | _=>false)=true) (hi:(P.info? ty).map (·.size)=some cs.size):(execOp a.eval op).run P w=.ok (.value (.agg cs)) w:=by
 unfold execOp;simp only[ho,hx,Instr.loadAt,Instr.sureAddr,Sem.run_bind,Sem.run_pure,Result.andThen_ok,run_loadVar_row w g t ty cs fr d hg hu hd hi]
theorem fewV_open{v:Ver}(h:fewV v=true):v.kr.length≤6∧v.sc.size≤9∧v.sr.size≤9:=by
 unfold fewV fewKeyB shortB at h;simp only[Bool.and_eq_true,decide_eq_true_eq,List.all_cons,List.all_nil]at h;exact⟨h.2.1.2.2.1,h.2.2.2.2.2.2.1,h.2.2.2.2.2.2.2.1⟩
end Go.Proofs.YthknbdddhlihdaaGreat

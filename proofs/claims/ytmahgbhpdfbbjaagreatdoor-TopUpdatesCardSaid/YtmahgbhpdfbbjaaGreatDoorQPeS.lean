import Derived.Test.YtmahgbhpdfbbjaaGreatDoorQPeH
set_option linter.unusedVariables false
set_option linter.unusedSimpArgs false
namespace Go.Proofs.YtmahgbhpdfbbjaaGreatDoor
open Go.RowKit
def fitZ(z:Int):Value:=if z.natAbs<256 ^ 128 then .tuple #[intV z,.int .i64 0]else .tuple #[intV 0,.int .i64 5]
theorem fitR_cut(n:Nat):∃(k:Nat) (c:Int),fitR n=.tuple #[.string (nS k),.int .i64 c]∧∀(z:Int) (b:Bool),z.natAbs=n→sg b n=z→fitZ z=.tuple #[intV (sg b k),.int .i64 c]:=by
 unfold fitR;by_cases h:n<256 ^ 128
 · rw[if_pos h];exact⟨n,0,rfl,fun z b hz hs=>by unfold fitZ;rw[if_pos (by rw[hz];exact h),hs]⟩
 · rw[if_neg h];exact⟨0,5,by rw[nS_zero],fun z b hz hs=>by unfold fitZ;rw[if_neg (by rw[hz];exact h)];cases b<;>rfl⟩
def I3(w W:World)(x0 x1 y0 y1 r0 r1:Value):Prop:=Bx2 W w.heap.size x0 x1 74∧Bx2 W (w.heap.size+1) y0 y1 74∧Bx2 W (w.heap.size+1+1) r0 r1 74∧Below w.heap.size w W
theorem I3.new(w:World)(x0 x1 y0 y1 r0 r1:Value):I3 w (((w.alloc (.cells #[x0,x1] 74)).alloc (.cells #[y0,y1] 74)).alloc (.cells #[r0,r1] 74)) x0 x1 y0 y1 r0 r1:=by
 refine⟨((Bx2.new w _ _ _).next ((blr).alloc nlr _)).next ((blr).alloc nlr _),?_,?_,(((Below.refl w.heap.size w).alloc nlr _).alloc (by simp) _).alloc (by simp;omega) _⟩
 · have:=Bx2.new (w.alloc (.cells #[x0,x1] 74)) y0 y1 74;rw[World.size_alloc]at this;exact this.next ((blr).alloc nlr _)
 · have:=Bx2.new ((w.alloc (.cells #[x0,x1] 74)).alloc (.cells #[y0,y1] 74)) r0 r1 74;rw[World.size_alloc,World.size_alloc]at this;exact this
theorem I3.next{w W W':World}{x0 x1 y0 y1 r0 r1:Value}(h:I3 w W x0 x1 y0 y1 r0 r1)(hb:Below W.heap.size W W'):I3 w W' x0 x1 y0 y1 r0 r1:=by
 have hs:w.heap.size≤W.heap.size:=Nat.le_of_lt h.1.lt;exact⟨h.1.next hb,h.2.1.next hb,h.2.2.1.next hb,h.2.2.2.trans (hb.mono hs)⟩
theorem I3.cells{w W:World}{x0 x1 y0 y1 r0 r1:Value}(h:I3 w W x0 x1 y0 y1 r0 r1):W.cell? ⟨w.heap.size,0,none⟩=some x0∧W.cell? ⟨w.heap.size,1,none⟩=some x1∧W.cell? ⟨w.heap.size+1,0,none⟩=some y0∧W.cell? ⟨w.heap.size+1,1,none⟩=some y1∧W.cell? ⟨w.heap.size+1+1,0,none⟩=some r0∧W.cell? ⟨w.heap.size+1+1,1,none⟩=some r1∧W.frozen? ⟨w.heap.size+1+1,0,none⟩=false∧W.frozen? ⟨w.heap.size+1+1,1,none⟩=false:=
 ⟨h.1.c0,h.1.c1,h.2.1.c0,h.2.1.c1,h.2.2.1.c0,h.2.2.1.c1,h.2.2.1.f0,h.2.2.1.f1⟩
theorem I3.done{w W:World}{x0 x1 y0 y1 r0 r1:Value}(h:I3 w W x0 x1 y0 y1 r0 r1)(u v:Value):((W.setCell ⟨w.heap.size+1+1,0,none⟩ u).setCell ⟨w.heap.size+1+1,1,none⟩ v).cell? ⟨w.heap.size+1+1,0,none⟩=some u∧((W.setCell ⟨w.heap.size+1+1,0,none⟩ u).setCell ⟨w.heap.size+1+1,1,none⟩ v).cell? ⟨w.heap.size+1+1,1,none⟩=some v∧Below w.heap.size w ((W.setCell ⟨w.heap.size+1+1,0,none⟩ u).setCell ⟨w.heap.size+1+1,1,none⟩ v):=by
 have hY:=h.2.2.1.set2 (u:=u) (v:=v);exact⟨hY.c0,hY.c1,(h.2.2.2.setCell (p:=⟨w.heap.size+1+1,0,none⟩) (by simp only[];omega) _).setCell (p:=⟨w.heap.size+1+1,1,none⟩) (by simp only[];omega) _⟩
theorem fitZ_in{z:Int}(h:z.natAbs<256 ^ 128):fitZ z=.tuple #[intV z,.int .i64 0]:=by unfold fitZ;rw[if_pos h]
theorem below_cell{B:Nat}{w W:World}(h:Below B w W){a:Addr}{v:Value}(ha:a.block<B)(hc:w.cell? a=some v):W.cell? a=some v:=by
 rw[World.cell?_of_block (h.block a.block ha)];exact hc
theorem bx2_off{W:World}{B C:Nat}{x y u v:Value}{T:TypeId}(h:Bx2 W B x y T)(hne:B≠C):Bx2 ((W.setCell ⟨C,0,none⟩ u).setCell ⟨C,1,none⟩ v) B x y T:=by
 unfold Bx2;rw[heap_setCell_other _ _ _ _ hne,heap_setCell_other _ _ _ _ hne];exact h
theorem below_set2{B:Nat}{w W:World}(h:Below B w W){C:Nat}(hC:B≤C)(u v:Value):Below B w ((W.setCell ⟨C,0,none⟩ u).setCell ⟨C,1,none⟩ v):=
 (h.setCell (p:=⟨C,0,none⟩) hC u).setCell (p:=⟨C,1,none⟩) hC v
theorem ex_law{a b:Nat}{x y:Int}(hb:1<b)(h:(a:Int) * x+b * y=1):a * (x%b).toNat%b=1:=by
 have h0:0≤x%(b:Int):=Int.emod_nonneg _ (by omega);have e1:((a * (x%b).toNat%b:Nat):Int)=1:=by
  rw[Int.natCast_emod,Int.natCast_mul,Int.toNat_of_nonneg h0,Int.mul_emod,Int.emod_emod,←Int.mul_emod];have e2:(a:Int) * x=1+b * (-y):=by rw[Int.mul_neg];omega
  rw[e2,Int.add_mul_emod_self_left];exact Int.emod_eq_of_lt (by omega) (by omega)
 omega
set_option maxRecDepth 100000
set_option maxHeartbeats 1000000
theorem int_MulG(a b:Int)(ha:a.natAbs<256 ^ 128)(hb:b.natAbs<256 ^ 128)(hnm:∀ w,Calls Tryz.prog 58 #[.string (nS a.natAbs),.string (nS b.natAbs)] w (Ret (fitR (a.natAbs * b.natAbs)) w))(w:World):Calls Tryz.prog 46 #[intV a,intV b] w (Ret (fitZ (a * b)) w):=by
 have HVA:=Hq (int_both a b ha hb);have HM:=Hq hnm;obtain⟨k,rc,hk1,hk2⟩:=fitR_cut (a.natAbs * b.natAbs);have hsg:sg (decide (a<0) != decide (b<0)) (a.natAbs * b.natAbs)=a * b:=by
  unfold sg;by_cases h1:a<0
  · by_cases h2:b<0
    · rw[decide_eq_true h1,decide_eq_true h2,if_neg (by decide),Int.natCast_mul,Int.ofNat_natAbs_of_nonpos (by omega),Int.ofNat_natAbs_of_nonpos (by omega),Int.neg_mul_neg]
    · rw[decide_eq_true h1,decide_eq_false h2,if_pos (by decide),Int.natCast_mul,Int.ofNat_natAbs_of_nonpos (by omega),Int.natAbs_of_nonneg (by omega),Int.neg_mul,Int.neg_neg]
  · by_cases h2:b<0
    · rw[decide_eq_false h1,decide_eq_true h2,if_pos (by decide),Int.natCast_mul,Int.natAbs_of_nonneg (by omega),Int.ofNat_natAbs_of_nonpos (by omega),Int.mul_neg,Int.neg_neg]
    · rw[decide_eq_false h1,decide_eq_false h2,if_neg (by decide),Int.natCast_mul,Int.natAbs_of_nonneg (by omega),Int.natAbs_of_nonneg (by omega)]
 rw[hk2 (a * b) _ (Int.natAbs_mul a b) hsg];rw[hk1]at HM;have HMK:=Hq (int_made_n (decide (a<0) != decide (b<0)) k);unfold intV zV at HVA;obtain⟨p,hp⟩:=nm (decide (a<0));obtain⟨q,hq⟩:=nm (decide (b<0));obtain⟨s,hs⟩:=nm (nS a.natAbs);obtain⟨t,ht⟩:=nm (nS b.natAbs);rw[hp,hs,hq,ht]at HVA;rw[show intV a=.agg #[.bool p,.string s]from by rw[←hp,←hs];rfl,show intV b=.agg #[.bool q,.string t]from by rw[←hq,←ht];rfl];rw[hp,hq]at HMK;rw[hp,hq];rw[hs,ht]at HM;obtain⟨kk,hkk⟩:=nm (nS k);rw[hkk]at HM HMK;unfold intV zV at HMK⊢;obtain⟨u,hu⟩:=nm (decide (sg (p != q) k<0));obtain⟨v,hv⟩:=nm (nS (sg (p != q) k).natAbs);rw[hu,hv]at HMK⊢;clear hnm hp hq hs ht hkk hu hv hk1 hk2 hsg ha hb;go_enter Tryz.func46,Tryz.ntmps46;have hi:=I3.new w (.bool p) (.string s) (.bool q) (.string t) (.bool false) (.string ⟨#[]⟩);obtain⟨W0,hW0⟩:=nm (((w.alloc (.cells #[.bool p,.string s] 74)).alloc (.cells #[.bool q,.string t] 74)).alloc (.cells #[.bool false,.string ⟨#[]⟩] 74));rw[hW0]at hi;have HI:=Hq hi;obtain⟨c0,c1,d0,d1,e0,e1,f0,f1⟩:=hi.cells;clear hi;go_wp2_with fail;try rw[hW0]
 clear hW0;refine(HVA.out _).mono ?_;rintro ev w1 ⟨rfl,hb⟩;have hi:=HI.out.next hb;have HI:=Hq hi;clear hb c0 c1 d0 d1 e0 e1 f0 f1;obtain⟨c0,c1,d0,d1,e0,e1,f0,f1⟩:=hi.cells;clear hi;go_wp2_with fail;refine(HM.out _).mono ?_;rintro ev w3 ⟨rfl,hb⟩;have hi:=HI.out.next hb;have HI:=Hq hi;clear hb c0 c1 d0 d1 e0 e1 f0 f1;obtain⟨c0,c1,d0,d1,e0,e1,f0,f1⟩:=hi.cells;clear hi;go_wp2_with fail;refine(HMK.out _).mono ?_;rintro ev w4 ⟨rfl,hb⟩;have hi:=HI.out.next hb;have HI:=Hq hi;clear hb c0 c1 d0 d1 e0 e1 f0 f1;obtain⟨c0,c1,d0,d1,e0,e1,f0,f1⟩:=hi.cells;clear hi;go_wp2;obtain⟨q0,q1,qb⟩:=HI.out.done (.bool u) (.string v);exact bodyPost_ret (v:=.tuple #[.agg #[.bool u,.string v],.int .i64 rc]) (by simp[results,Tryz.results46,go_sem,q0,q1]) rfl ⟨rfl,qb⟩
end Go.Proofs.YtmahgbhpdfbbjaaGreatDoor

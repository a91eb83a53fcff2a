import Derived.Test.YtopmeciihijgiaaGreatDoorQLsB
import Derived.Test.YtopmeciihijgiaaGreatDoorQMkE
set_option linter.unusedVariables false
set_option linter.unusedSimpArgs false
namespace Go.Proofs.YtopmeciihijgiaaGreatDoor
open Go.RowKit Go.Lib
def lsN(M O G Y X:ByteArray)(L:List En)(l:List ByteArray)(s:ByteArray)(k:Int):(Int×ByteArray×ByteArray×ByteArray)×(List ByteArray×ByteArray×Int)×Int:=
 if (msgsE L).2=0 then
  (if (sgN M O G Y X (hdS L.length (rtE L)) l s k).2.2=0 then(((L.length:Int),rtE L,nS (sgN M O G Y X (hdS L.length (rtE L)) l s k).1,nS (sgN M O G Y X (hdS L.length (rtE L)) l s k).2.1),tpN 0 l s k,0)else((0,⟨#[]⟩,⟨#[]⟩,⟨#[]⟩),([],⟨#[]⟩,0),(sgN M O G Y X (hdS L.length (rtE L)) l s k).2.2))
 else((0,⟨#[]⟩,⟨#[]⟩,⟨#[]⟩),([],⟨#[]⟩,0),(msgsE L).2)
def RetH(r:(Int×ByteArray×ByteArray×ByteArray)×(List ByteArray×ByteArray×Int)×Int)(w:World)(en:Ending)(w':World):Prop:=
 ∃ A c,en=.returned (.tuple #[.agg #[.int .i64 r.1.1,.string r.1.2.1,.string r.1.2.2.1,.string r.1.2.2.2],.agg #[.slice A r.2.1.1.length c,.string r.2.1.2.1,.int .i64 r.2.1.2.2],.int .i64 r.2.2])∧SlN w' A r.2.1.1.length c r.2.1.1∧Below w.heap.size w w'
theorem rtE_size(L:List En):(rtE L).size=32:=rootL_size _
def SH(w W:World)(M O G Y:ByteArray)(A:Option Addr)(n cap:Nat)(s:ByteArray)(k:Int)(l:List ByteArray):Prop:=
 Bx4 W w.heap.size (.string M) (.string O) (.string G) (.string Y) 26∧TB W (w.heap.size+1) A n cap s k∧Bx4 W (w.heap.size+1+1) (.int .i64 0) (.string ⟨#[]⟩) (.string ⟨#[]⟩) (.string ⟨#[]⟩) 37∧TB W (w.heap.size+1+1+1) none 0 0 ⟨#[]⟩ 0∧SlN W A n cap l∧Below w.heap.size w W
theorem SH.next{w W W':World}{M O G Y:ByteArray}{A:Option Addr}{n cap:Nat}{s:ByteArray}{k:Int}{l:List ByteArray}(h:SH w W M O G Y A n cap s k l)(hb:Below W.heap.size W W'):SH w W' M O G Y A n cap s k l:=
 ⟨h.1.next hb,h.2.1.nextT hb,h.2.2.1.next hb,h.2.2.2.1.nextT hb,h.2.2.2.2.1.kept hb nlr,h.2.2.2.2.2.trans (hb.mono h.2.2.2.2.2.size)⟩
theorem SH.new(w:World)(M O G Y:ByteArray)(A:Option Addr)(n cap:Nat)(s:ByteArray)(k:Int)(l:List ByteArray)(hs:SlN w A n cap l) :
 SH w ((((w.alloc (.cells #[.string M,.string O,.string G,.string Y] 26)).alloc (.cells #[.slice A n cap,.string s,.int .i64 k] 30)).alloc (.cells #[.int .i64 0,.string ⟨#[]⟩,.string ⟨#[]⟩,.string ⟨#[]⟩] 37)).alloc (.cells #[.slice none 0 0,.string ⟨#[]⟩,.int .i64 0] 30)) M O G Y A n cap s k l:=by
 obtain⟨w1,h1⟩:∃ W,w.alloc (.cells #[.string M,.string O,.string G,.string Y] 26)=W:=⟨_,rfl⟩;have b1:Below w.heap.size w w1:=h1▸(blr).alloc nlr _;have x1:Bx4 w1 w.heap.size (.string M) (.string O) (.string G) (.string Y) 26:=h1▸Bx4.new _ _ _ _ _ _;have s1:w1.heap.size=w.heap.size+1:=by rw[←h1];simp
 rw[h1];obtain⟨w2,h2⟩:∃ W,w1.alloc (.cells #[.slice A n cap,.string s,.int .i64 k] 30)=W:=⟨_,rfl⟩;have b2:Below w1.heap.size w1 w2:=h2▸(blr).alloc nlr _;have x2:TB w2 w1.heap.size A n cap s k:=h2▸TB.new _ _ _ _ _ _;have s2:w2.heap.size=w.heap.size+1+1:=by rw[←h2];simp[s1]
 rw[h2];obtain⟨w3,h3⟩:∃ W,w2.alloc (.cells #[.int .i64 0,.string ⟨#[]⟩,.string ⟨#[]⟩,.string ⟨#[]⟩] 37)=W:=⟨_,rfl⟩;have b3:Below w2.heap.size w2 w3:=h3▸(blr).alloc nlr _;have x3:Bx4 w3 w2.heap.size (.int .i64 0) (.string ⟨#[]⟩) (.string ⟨#[]⟩) (.string ⟨#[]⟩) 37:=h3▸Bx4.new _ _ _ _ _ _;have s3:w3.heap.size=w.heap.size+1+1+1:=by rw[←h3];simp[s2]
 rw[h3];obtain⟨w4,h4⟩:∃ W,w3.alloc (.cells #[.slice none 0 0,.string ⟨#[]⟩,.int .i64 0] 30)=W:=⟨_,rfl⟩;have b4:Below w3.heap.size w3 w4:=h4▸(blr).alloc nlr _;have x4:TB w4 w3.heap.size none 0 0 ⟨#[]⟩ 0:=h4▸TB.new _ _ _ _ _ _;rw[h4];rw[s1]at x2;rw[s2]at x3;rw[s3]at x4;have bb:=((b1.trans (b2.mono b1.size)).trans (b3.mono (by rw[s2];omega))).trans (b4.mono (by rw[s3];omega));exact⟨((x1.next b2).next b3).next b4,(x2.nextT b3).nextT b4,x3.next b4,x4,hs.kept bb nlr,bb⟩
theorem below_set4H{B:Nat}{w W:World}(h:Below B w W){C:Nat}(hC:B≤C)(a b c d:Value):Below B w ((((W.setCell ⟨C,0,none⟩ a).setCell ⟨C,1,none⟩ b).setCell ⟨C,2,none⟩ c).setCell ⟨C,3,none⟩ d):=
 (((h.setCell (p:=⟨C,0,none⟩) hC _).setCell (p:=⟨C,1,none⟩) hC _).setCell (p:=⟨C,2,none⟩) hC _).setCell (p:=⟨C,3,none⟩) hC _
theorem SH.stored{w W:World}{M O G Y:ByteArray}{A:Option Addr}{n cap:Nat}{s:ByteArray}{k:Int}{l:List ByteArray}(h:SH w W M O G Y A n cap s k l)(x y z u:Value)(A':Option Addr)(n' c':Nat)(s':ByteArray)(a':Int) :
 Bx4 (((((((W.setCell ⟨w.heap.size+1+1,0,none⟩ x).setCell ⟨w.heap.size+1+1,1,none⟩ y).setCell ⟨w.heap.size+1+1,2,none⟩ z).setCell ⟨w.heap.size+1+1,3,none⟩ u).setCell ⟨w.heap.size+1+1+1,0,none⟩ (.slice A' n' c')).setCell ⟨w.heap.size+1+1+1,1,none⟩ (.string s')).setCell ⟨w.heap.size+1+1+1,2,none⟩ (.int .i64 a')) (w.heap.size+1+1) x y z u 37 ∧
 TB (((((((W.setCell ⟨w.heap.size+1+1,0,none⟩ x).setCell ⟨w.heap.size+1+1,1,none⟩ y).setCell ⟨w.heap.size+1+1,2,none⟩ z).setCell ⟨w.heap.size+1+1,3,none⟩ u).setCell ⟨w.heap.size+1+1+1,0,none⟩ (.slice A' n' c')).setCell ⟨w.heap.size+1+1+1,1,none⟩ (.string s')).setCell ⟨w.heap.size+1+1+1,2,none⟩ (.int .i64 a')) (w.heap.size+1+1+1) A' n' c' s' a' ∧
 Below w.heap.size w (((((((W.setCell ⟨w.heap.size+1+1,0,none⟩ x).setCell ⟨w.heap.size+1+1,1,none⟩ y).setCell ⟨w.heap.size+1+1,2,none⟩ z).setCell ⟨w.heap.size+1+1,3,none⟩ u).setCell ⟨w.heap.size+1+1+1,0,none⟩ (.slice A' n' c')).setCell ⟨w.heap.size+1+1+1,1,none⟩ (.string s')).setCell ⟨w.heap.size+1+1+1,2,none⟩ (.int .i64 a')):=
 ⟨(((Bx4.set4 h.2.2.1).other (by omega) _).other (by omega) _).other (by omega) _,((((h.2.2.2.1.off (by omega) _).off (by omega) _).off (by omega) _).off (by omega) _).set3,below_set3 (below_set4H h.2.2.2.2.2 (by omega) _ _ _ _) (by omega) _ _ _⟩
theorem SH.tape{w W:World}{M O G Y:ByteArray}{A C:Option Addr}{n cap tn cc:Nat}{s ts:ByteArray}{k tk:Int}{l tl:List ByteArray}(h:SH w W M O G Y A n cap s k l)(hs:SlN W C tn cc tl)(hf:∀ b o,C=some ⟨b,o,none⟩→w.heap.size+1<b) :
 SH w (((W.setCell ⟨w.heap.size+1,0,none⟩ (.slice C tn cc)).setCell ⟨w.heap.size+1,1,none⟩ (.string ts)).setCell ⟨w.heap.size+1,2,none⟩ (.int .i64 tk)) M O G Y C tn cc ts tk tl:=
 ⟨((h.1.other (by omega) _).other (by omega) _).other (by omega) _,h.2.1.set3,((h.2.2.1.other (by omega) _).other (by omega) _).other (by omega) _,((h.2.2.2.1.off (by omega) _).off (by omega) _).off (by omega) _,((hs.setB hf).setB hf).setB hf,below_set3 h.2.2.2.2.2 (by omega) _ _ _⟩
theorem SH.other2{w W:World}{M O G Y:ByteArray}{A:Option Addr}{n cap:Nat}{s:ByteArray}{k:Int}{l:List ByteArray}(h:SH w W M O G Y A n cap s k l){P:Nat}(hP:w.heap.size+1+1+1<P)(hf:∀ b o,A=some ⟨b,o,none⟩→P<b)(x y:Value) :
 SH w ((W.setCell ⟨P,2,none⟩ x).setCell ⟨P,3,none⟩ y) M O G Y A n cap s k l:=
 ⟨(h.1.other (by omega) _).other (by omega) _,(h.2.1.off (by omega) _).off (by omega) _,(h.2.2.1.other (by omega) _).other (by omega) _,(h.2.2.2.1.off (by omega) _).off (by omega) _,(h.2.2.2.2.1.setB hf).setB hf,(h.2.2.2.2.2.setCell (p:=⟨P,2,none⟩) (by simp only;omega) _).setCell (p:=⟨P,3,none⟩) (by simp only;omega) _⟩
theorem Bx4.set23{W:World}{B:Nat}{x y z u a b:Value}{T:TypeId}(h:Bx4 W B x y z u T):Bx4 ((W.setCell ⟨B,2,none⟩ a).setCell ⟨B,3,none⟩ b) B x y a b T:=block_setCell (block_setCell h a) b
def SE(w W:World)(M O G Y:ByteArray):Prop:=
 Bx4 W w.heap.size (.string M) (.string O) (.string G) (.string Y) 26∧True∧Bx4 W (w.heap.size+1+1) (.int .i64 0) (.string ⟨#[]⟩) (.string ⟨#[]⟩) (.string ⟨#[]⟩) 37∧TB W (w.heap.size+1+1+1) none 0 0 ⟨#[]⟩ 0∧Below w.heap.size w W
theorem SE.nextE{w W W':World}{M O G Y:ByteArray}(h:SE w W M O G Y)(hb:Below W.heap.size W W'):SE w W' M O G Y:=
 ⟨h.1.next hb,trivial,h.2.2.1.next hb,h.2.2.2.1.nextT hb,h.2.2.2.2.trans (hb.mono h.2.2.2.2.size)⟩
theorem SH.other2'{w W:World}{M O G Y:ByteArray}{A:Option Addr}{n cap:Nat}{s:ByteArray}{k:Int}{l:List ByteArray}(h:SH w W M O G Y A n cap s k l){P:Nat}(hP:w.heap.size+1+1+1<P)(x y:Value) :
 SE w ((W.setCell ⟨P,2,none⟩ x).setCell ⟨P,3,none⟩ y) M O G Y:=
 ⟨(h.1.other (by omega) _).other (by omega) _,trivial,(h.2.2.1.other (by omega) _).other (by omega) _,(h.2.2.2.1.off (by omega) _).off (by omega) _,(h.2.2.2.2.2.setCell (p:=⟨P,2,none⟩) (by simp only;omega) _).setCell (p:=⟨P,3,none⟩) (by simp only;omega) _⟩
theorem SE.storedE{w W:World}{M O G Y:ByteArray}(h:SE w W M O G Y)(x y z u:Value)(A':Option Addr)(n' c':Nat)(s':ByteArray)(a':Int) :
 Bx4 (((((((W.setCell ⟨w.heap.size+1+1,0,none⟩ x).setCell ⟨w.heap.size+1+1,1,none⟩ y).setCell ⟨w.heap.size+1+1,2,none⟩ z).setCell ⟨w.heap.size+1+1,3,none⟩ u).setCell ⟨w.heap.size+1+1+1,0,none⟩ (.slice A' n' c')).setCell ⟨w.heap.size+1+1+1,1,none⟩ (.string s')).setCell ⟨w.heap.size+1+1+1,2,none⟩ (.int .i64 a')) (w.heap.size+1+1) x y z u 37 ∧
 TB (((((((W.setCell ⟨w.heap.size+1+1,0,none⟩ x).setCell ⟨w.heap.size+1+1,1,none⟩ y).setCell ⟨w.heap.size+1+1,2,none⟩ z).setCell ⟨w.heap.size+1+1,3,none⟩ u).setCell ⟨w.heap.size+1+1+1,0,none⟩ (.slice A' n' c')).setCell ⟨w.heap.size+1+1+1,1,none⟩ (.string s')).setCell ⟨w.heap.size+1+1+1,2,none⟩ (.int .i64 a')) (w.heap.size+1+1+1) A' n' c' s' a' ∧
 Below w.heap.size w (((((((W.setCell ⟨w.heap.size+1+1,0,none⟩ x).setCell ⟨w.heap.size+1+1,1,none⟩ y).setCell ⟨w.heap.size+1+1,2,none⟩ z).setCell ⟨w.heap.size+1+1,3,none⟩ u).setCell ⟨w.heap.size+1+1+1,0,none⟩ (.slice A' n' c')).setCell ⟨w.heap.size+1+1+1,1,none⟩ (.string s')).setCell ⟨w.heap.size+1+1+1,2,none⟩ (.int .i64 a')):=
 ⟨(((Bx4.set4 h.2.2.1).other (by omega) _).other (by omega) _).other (by omega) _,((((h.2.2.2.1.off (by omega) _).off (by omega) _).off (by omega) _).off (by omega) _).set3,below_set3 (below_set4H h.2.2.2.2 (by omega) _ _ _ _) (by omega) _ _ _⟩
set_option maxRecDepth 100000
set_option maxHeartbeats 8000000
theorem led_Sign(M O G Y X:ByteArray)(L:List En)(B:Option Addr)(q cb:Nat)(l:List ByteArray)(s:ByteArray)(k:Int)(A:Option Addr)(n cap:Nat)(hq:q≤100)(hE:SmE L)(hM:M.size≤8)(hO:O.size≤100)(hG:G.size≤1000)(hY:Y.size≤1000)(hX:X.size≤1000)(hn:n≤1000)(hp:∀ x∈l,x.size≤9223372036854775807)(hs64:s.size≤1000000)(w:World)(hL:SlE w B q cb L)(hs:SlN w A n cap l)(ht:T10 w) :
 Calls Tryz.prog 7 #[kV M O G Y,.string X,.slice B q cb,tpV A n cap s k] w (RetH (lsN M O G Y X L l s k) w):=by
 have hx0:=SH.new w M O G Y A n cap s k l hs;obtain⟨W0,hW0⟩:∃ W,(((w.alloc (.cells #[.string M,.string O,.string G,.string Y] 26)).alloc (.cells #[.slice A n cap,.string s,.int .i64 k] 30)).alloc (.cells #[.int .i64 0,.string ⟨#[]⟩,.string ⟨#[]⟩,.string ⟨#[]⟩] 37)).alloc (.cells #[.slice none 0 0,.string ⟨#[]⟩,.int .i64 0] 30)=W:=⟨_,rfl⟩;rw[hW0]at hx0;have HX0:=Hq hx0;have HB0:=Hq hx0.2.2.2.2.2;have HLL:=Hq hL.1;have HMS:=Hq (fun W (hb:Below w.heap.size w W)=>led_messages L B q cb W (hL.kept hb nlr) (by omega) hE);obtain⟨g0,g1,g2,g3⟩:=HX0.out.1.cells;obtain⟨c0,c1,c2⟩:=HX0.out.2.1.c;by_cases hm:(msgsE L).2=0
 · have hml:=msgsE_len hm;have HSZ:=Hq (show (msgsE L).1.length=q from by rw[hml,List.length_map];exact hL.1);have HRT:=Hq (fun W A' c' hs'=>m_Root q (msgsE L).1 A' q c' W (by rw[HSZ.out];exact Nat.le_refl _) (by omega) (by rw[hml];intro x hx;obtain⟨e,_,rfl⟩:=List.mem_map.1 hx;exact msgS_size e) hs');rw[show rootL (msgsE L).1=rtE L from by rw[hml];rfl]at HRT;have HSG:=Hq (led_signed q (rtE L) ⟨#[]⟩ ⟨#[]⟩ (by omega) (by rw[rtE_size];decide));have HSN:=Hq (fun W (hb:Below w.heap.size w W) hs'=>sc_Sign M O G Y X (hdS q (rtE L)) l s k A n cap hM hO hG hY hX (hdS_size _ _) hn hp hs64 W hs' (ht.kept hb nlr));obtain⟨sg,hsg⟩:∃ r,sgN M O G Y X (hdS q (rtE L)) l s k=r:=⟨_,rfl⟩;have HLS:=Hq (show lsN M O G Y X L l s k=if sg.2.2=0 then(((q:Int),rtE L,nS sg.1,nS sg.2.1),tpN 0 l s k,0)else((0,⟨#[]⟩,⟨#[]⟩,⟨#[]⟩),([],⟨#[]⟩,0),sg.2.2)from by unfold lsN;rw[if_pos hm,hL.1,hsg]);rw[hsg]at HSN;unfold RetMs at HMS;rw[HSZ.out,hm]at HMS;obtain⟨mr,hmr⟩:∃ m,(msgsE L).1=m:=⟨_,rfl⟩;rw[hmr]at HMS HRT;obtain⟨a1,a2,er⟩:=sg;obtain⟨za,hza⟩:∃ z,nS a1=z:=⟨_,rfl⟩;obtain⟨zb,hzb⟩:∃ z,nS a2=z:=⟨_,rfl⟩;obtain⟨rt,hrt⟩:∃ z,rtE L=z:=⟨_,rfl⟩;obtain⟨hd,hhd⟩:∃ z,hdS q rt=z:=⟨_,rfl⟩;obtain⟨tt,htt⟩:∃ t,tpN er l s k=t:=⟨_,rfl⟩;obtain⟨tl,ts,tk⟩:=tt;simp only[]at HSN HLS;rw[htt]at HSN;rw[hza,hzb]at HLS;rw[hrt]at HRT HSG HLS;rw[hrt,hhd]at HSN;rw[hhd]at HSG;unfold RetS at HSN;simp only[]at HSN;rw[hza,hzb]at HSN;obtain⟨tn,htn⟩:∃ t,tl.length=t:=⟨_,rfl⟩;rw[htn]at HSN;have HTN:=Hq htn;have HTT:=Hq htt;unfold tpV kV at *;clear hx0 hs hL hm hml hsg hmr hza hzb hrt hhd htt htn hM hO hG hY hX hn hp hs64 ht hE HSZ;go_enter Tryz.func7,Tryz.ntmps7;go_wp2_with fail;try rw[hW0]
   clear hW0;refine(HMS.out _ HB0.out).mono ?_;rintro ev w1 ⟨A1,ca,rfl,hsl1,hb⟩;have HSL1:=Hq hsl1;have HX1:=Hq (HX0.out.next hb);clear g0 g1 g2 g3 c0 c1 c2;obtain⟨g0,g1,g2,g3⟩:=HX1.out.1.cells;obtain⟨c0,c1,c2⟩:=HX1.out.2.1.c;clear hsl1 hb;go_wp2_with fail;refine(HRT.out _ _ _ HSL1.out).mono ?_;rintro ev w2 ⟨rfl,hb⟩;have HX2:=Hq (HX1.out.next hb);clear g0 g1 g2 g3 c0 c1 c2;obtain⟨g0,g1,g2,g3⟩:=HX2.out.1.cells;obtain⟨c0,c1,c2⟩:=HX2.out.2.1.c;clear hb;go_upto_region 5 with(fail)
   have hb:Below w2.heap.size w2 (w2.alloc (.cells #[.int .i64 q,.string rt,.string ⟨#[]⟩,.string ⟨#[]⟩] 37)):=(blr).alloc nlr _;have hp3:=Bx4.new w2 (.int .i64 q) (.string rt) (.string ⟨#[]⟩) (.string ⟨#[]⟩) 37;obtain⟨W3,hW3⟩:∃ W,w2.alloc (.cells #[.int .i64 q,.string rt,.string ⟨#[]⟩,.string ⟨#[]⟩] 37)=W:=⟨_,rfl⟩;obtain⟨P,hP⟩:∃ P,w2.heap.size=P:=⟨_,rfl⟩;have HLT:=Hq (show w.heap.size+1+1+1<P from by rw[←hP];exact HX2.out.2.2.2.1.lt);rw[hW3]at hb hp3⊢;rw[hP]at hp3⊢;have HP3:=Hq hp3;clear hW3 hP hp3;have HX3:=Hq (HX2.out.next hb);clear g0 g1 g2 g3 c0 c1 c2;obtain⟨g0,g1,g2,g3⟩:=HX3.out.1.cells;obtain⟨c0,c1,c2⟩:=HX3.out.2.1.c;clear hb;obtain⟨h0,h1,h2,h3⟩:=HP3.out.cells;go_wp2_with fail;refine(HSG.out _).mono ?_;rintro ev w4 ⟨rfl,hb⟩;have HP4:=Hq (HP3.out.next hb);have HX4:=Hq (HX3.out.next hb);clear g0 g1 g2 g3 c0 c1 c2;obtain⟨g0,g1,g2,g3⟩:=HX4.out.1.cells;obtain⟨c0,c1,c2⟩:=HX4.out.2.1.c;clear hb h0 h1 h2 h3;have HSN4:=Hq (HSN.out _ HX4.out.2.2.2.2.2 HX4.out.2.2.2.2.1);go_wp2_with fail;refine HSN4.out.mono ?_;rintro ev w5 ⟨C,cc,rfl,hsl,hfr,hb⟩;have HSL:=Hq hsl;have HFR:=Hq (show ∀ b o,C=some ⟨b,o,none⟩→P<b from fun b o h=>Nat.lt_of_lt_of_le HP4.out.lt (hfr b o h));have HP5:=Hq (HP4.out.next hb);have HX5:=Hq (HX4.out.next hb);clear g0 g1 g2 g3 c0 c1 c2;obtain⟨g0,g1,g2,g3⟩:=HX5.out.1.cells;obtain⟨c0,c1,c2⟩:=HX5.out.2.1.c;have cf:=HX5.out.2.1.f;have cf0:=cf 0;have cf1:=cf 1;have cf2:=cf 2;have hqs:=HX5.out.2.1.lt;clear hsl hfr hb cf;go_upto_region 9 with(fail)
   have hx6:=HX5.out.tape (ts:=ts) (tk:=tk) HSL.out (fun b o h=>by have:=HFR.out b o h;have:=HLT.out;omega);have hp6:=((HP5.out.other (C:=w.heap.size+1) (k:=0) (by have:=HLT.out;omega) (.slice C tn cc)).other (C:=w.heap.size+1) (k:=1) (by have:=HLT.out;omega) (.string ts)).other (C:=w.heap.size+1) (k:=2) (by have:=HLT.out;omega) (.int .i64 tk);obtain⟨V,hV⟩:∃ W,((w5.setCell ⟨w.heap.size+1,0,none⟩ (.slice C tn cc)).setCell ⟨w.heap.size+1,1,none⟩ (.string ts)).setCell ⟨w.heap.size+1,2,none⟩ (.int .i64 tk)=W:=⟨_,rfl⟩;have hVs:w5.heap.size=V.heap.size:=by rw[←hV];simp
   rw[hV]at hx6 hp6⊢;rw[hVs];have hb:Below V.heap.size V (V.alloc (.cells #[.string za,.string zb] 35)):=(blr).alloc nlr _;have hq6:=Bx2.new V (.string za) (.string zb) 35;have hx6:=hx6.next hb;have hp6:=hp6.next hb;obtain⟨Q,hQ⟩:∃ Q,V.heap.size=Q:=⟨_,rfl⟩;have hPQ:P<Q:=by rw[←hQ,←hVs];exact HP5.out.lt
   obtain⟨W6,hW6⟩:∃ W,V.alloc (.cells #[.string za,.string zb] 35)=W:=⟨_,rfl⟩;rw[hW6]at hx6 hp6 hq6⊢;rw[hQ]at hq6⊢;have HX6:=Hq hx6;have HP6:=Hq hp6;have HQ6:=Hq hq6;clear hV hVs hb hx6 hp6 hq6 hQ hW6 g0 g1 g2 g3 c0 c1 c2 cf0 cf1 cf2 hqs;by_cases her:er=0
   · subst her;have HRV:=Hq (show lsN M O G Y X L l s k=(((q:Int),rt,za,zb),tpN 0 l s k,0)from by rw[HLS.out,if_pos rfl]);obtain⟨s0,s1⟩:=(show _∧_ from⟨HQ6.out.c0,HQ6.out.c1⟩);obtain⟨h0,h1,h2,h3⟩:=HP6.out.cells;have hf2:=HP6.out.free 2;have hf3:=HP6.out.free 3;go_upto_region 12 with(fail)
     have hx7:=HX6.out.other2 HLT.out HFR.out (.string za) (.string zb);have hp7:=HP6.out.set23 (a:=.string za) (b:=.string zb);obtain⟨W7,hW7⟩:∃ W,(W6.setCell ⟨P,2,none⟩ (.string za)).setCell ⟨P,3,none⟩ (.string zb)=W:=⟨_,rfl⟩;rw[hW7]at hx7 hp7⊢;clear hW7 s0 s1 h0 h1 h2 h3 hf2 hf3;obtain⟨wd,hwd⟩:∃ wd,W7.drew=wd:=⟨_,rfl⟩;have hbd:Below W7.heap.size W7 wd:=by rw[←hwd];exact(blr).drew
     have HXD:=Hq (hx7.next hbd);have HS0:=Hq (show Below w.heap.size w wd∧Bx4 wd P (.int .i64 q) (.string rt) (.string za) (.string zb) 37∧TB wd (w.heap.size+1) C tn cc ts tk from⟨(hx7.next hbd).2.2.2.2.2,hp7.next hbd,(hx7.next hbd).2.1⟩);clear hbd hx7 hp7;obtain⟨k0,k1,k2,k3⟩:=HXD.out.2.2.1.cells;have kf0:=HXD.out.2.2.1.free 0;have kf1:=HXD.out.2.2.1.free 1;have kf2:=HXD.out.2.2.1.free 2;have kf3:=HXD.out.2.2.1.free 3;obtain⟨r0,r1,r2⟩:=HXD.out.2.2.2.1.c;have rf:=HXD.out.2.2.2.1.f;have rf0:=rf 0;have rf1:=rf 1;have rf2:=rf 2;clear rf;refine wp_region_K 5 (fun W'=>Below w.heap.size w W'∧Bx4 W' P (.int .i64 q) (.string rt) (.string za) (.string zb) 37∧TB W' (w.heap.size+1) C tn cc ts tk) (by kernel_rfl) ?_;intro hD;rw[hwd];have KK1:=Hq (fun w' (hS':(fun W'=>Below w.heap.size w W'∧Bx4 W' P (.int .i64 q) (.string rt) (.string za) (.string zb) 37∧TB W' (w.heap.size+1) C tn cc ts tk) w')=>And.intro (hS'.2.1.cells.1) (And.intro (hS'.2.1.cells.2.1) (And.intro (hS'.2.1.cells.2.2.1) (And.intro (hS'.2.1.cells.2.2.2) (And.intro (hS'.2.2.c.1) (And.intro (hS'.2.2.c.2.1) (hS'.2.2.c.2.2)))))));refine rT 0 57 4 rfl hD HS0.out (by intro w' hS';obtain⟨e0,e1,e2,e3,e4,e5,e6⟩:=KK1.out w' hS';go_simp;with_reducible rfl) ?_;clear hD;intro hD;refine rT 1 58 3 rfl hD HS0.out (by intro w' hS';obtain⟨e0,e1,e2,e3,e4,e5,e6⟩:=KK1.out w' hS';go_simp;with_reducible rfl) ?_;clear hD;intro hD;simp only[Act.put,sqA,sqB,sqC];refine rO 2 2 rfl hD ?_;clear hD;intro K2 hK2;go_wp2;refine hK2 _ _ (by exact⟨below_set4H (HS0.out).1 (by omega) _ _ _ _,((((HS0.out).2.1.other (by have:=HLT.out;omega) _).other (by have:=HLT.out;omega) _).other (by have:=HLT.out;omega) _).other (by have:=HLT.out;omega) _,((((HS0.out).2.2.off (by omega) _).off (by omega) _).off (by omega) _).off (by omega) _⟩) ?_;clear hK2;intro hS_12_2 hD;refine rO 3 1 rfl hD ?_;clear hD;intro K3 hK3;go_wp2;refine hK3 _ _ (by exact⟨below_set3 (hS_12_2).1 (by omega) _ _ _,(((hS_12_2).2.1.other (by have:=HLT.out;omega) _).other (by have:=HLT.out;omega) _).other (by have:=HLT.out;omega) _,(((hS_12_2).2.2.off (by omega) _).off (by omega) _).off (by omega) _⟩) ?_;clear hK3;intro hS_12_3 hD;refine rO 4 0 rfl hD ?_;clear hD;intro K4 hK4;go_wp2;refine hK4 _ _ (by exact hS_12_3) ?_;clear hK4;intro hS_12_4 hD;refine wpD ?_;clear hD k0 k1 k2 k3 kf0 kf1 kf2 kf3 r0 r1 r2 rf0 rf1 rf2;obtain⟨hq2,hq3,hqb⟩:=HXD.out.stored (.int .i64 q) (.string rt) (.string za) (.string zb) C tn cc ts tk;obtain⟨q0,q1,q2,q3⟩:=hq2.cells;obtain⟨p0,p1,p2⟩:=hq3.c;have HQB:=Hq hqb;clear hq2 hq3 hqb;go_wp2;refine bodyPost_ret (v:=.tuple #[.agg #[.int .i64 q,.string rt,.string za,.string zb],.agg #[.slice C tn cc,.string ts,.int .i64 tk],.int .i64 0]) (by simp[results,Tryz.results7,go_sem,q0,q1,q2,q3,p0,p1,p2]) rfl ?_;rw[HRV.out,HTT.out];refine⟨C,cc,?_,?_,HQB.out⟩
     · show _=Ending.returned (.tuple #[.agg #[.int .i64 q,.string rt,.string za,.string zb],.agg #[.slice C tl.length cc,.string ts,.int .i64 tk],.int .i64 0]);rw[HTN.out]
     · show SlN _ C tl.length cc tl;rw[HTN.out];have h1:∀ b o,C=some ⟨b,o,none⟩→w.heap.size+1+1<b:=fun b o h=>by have:=HFR.out b o h;have:=HLT.out;omega
       have h2:∀ b o,C=some ⟨b,o,none⟩→w.heap.size+1+1+1<b:=fun b o h=>by have:=HFR.out b o h;have:=HLT.out;omega
       exact((((((HXD.out.2.2.2.2.1.setB h1).setB h1).setB h1).setB h1).setB h2).setB h2).setB h2
   · have HRV:=Hq (show lsN M O G Y X L l s k=((0,⟨#[]⟩,⟨#[]⟩,⟨#[]⟩),([],⟨#[]⟩,0),er)from by rw[HLS.out,if_neg her]);go_upto_region 10 with(fail)
     clear her;obtain⟨k0,k1,k2,k3⟩:=HX6.out.2.2.1.cells;have kf0:=HX6.out.2.2.1.free 0;have kf1:=HX6.out.2.2.1.free 1;have kf2:=HX6.out.2.2.1.free 2;have kf3:=HX6.out.2.2.1.free 3;obtain⟨r0,r1,r2⟩:=HX6.out.2.2.2.1.c;have rf:=HX6.out.2.2.2.1.f;have rf0:=rf 0;have rf1:=rf 1;have rf2:=rf 2;obtain⟨hq2,hq3,hqb⟩:=HX6.out.stored (.int .i64 0) (.string ⟨#[]⟩) (.string ⟨#[]⟩) (.string ⟨#[]⟩) none 0 0 ⟨#[]⟩ 0;obtain⟨q0,q1,q2,q3⟩:=hq2.cells;obtain⟨p0,p1,p2⟩:=hq3.c;have HQB:=Hq hqb;clear rf hq2 hq3 hqb;go_wp2;refine bodyPost_ret (v:=.tuple #[.agg #[.int .i64 0,.string ⟨#[]⟩,.string ⟨#[]⟩,.string ⟨#[]⟩],.agg #[.slice none 0 0,.string ⟨#[]⟩,.int .i64 0],.int .i64 er]) (by simp[results,Tryz.results7,go_sem,q0,q1,q2,q3,p0,p1,p2]) rfl ?_;rw[HRV.out];exact⟨none,0,rfl,SlN.nil _ 0 (by omega) none,HQB.out⟩
 · obtain⟨er,her⟩:∃ e,(msgsE L).2=e:=⟨_,rfl⟩;have HRV:=Hq (show lsN M O G Y X L l s k=((0,⟨#[]⟩,⟨#[]⟩,⟨#[]⟩),([],⟨#[]⟩,0),er)from by unfold lsN;rw[if_neg hm,her]);unfold RetMs at HMS;rw[her]at HMS hm;obtain⟨mr,hmr⟩:∃ m,(msgsE L).1=m:=⟨_,rfl⟩;rw[hmr]at HMS;obtain⟨mn,hmn⟩:∃ m,mr.length=m:=⟨_,rfl⟩;rw[hmn]at HMS;unfold tpV kV at *;clear hx0 hs hL her hmr hmn hM hO hG hY hX hn hp hs64 ht hE;go_enter Tryz.func7,Tryz.ntmps7;go_wp2_with fail;try rw[hW0]
   clear hW0;refine(HMS.out _ HB0.out).mono ?_;rintro ev w1 ⟨A1,ca,rfl,hsl1,hb⟩;have HSL1:=Hq hsl1;have HX1:=Hq (HX0.out.next hb);clear g0 g1 g2 g3 c0 c1 c2;obtain⟨g0,g1,g2,g3⟩:=HX1.out.1.cells;obtain⟨c0,c1,c2⟩:=HX1.out.2.1.c;clear hsl1 hb;go_upto_region 3 with(fail)
   clear hm;obtain⟨k0,k1,k2,k3⟩:=HX1.out.2.2.1.cells;have kf0:=HX1.out.2.2.1.free 0;have kf1:=HX1.out.2.2.1.free 1;have kf2:=HX1.out.2.2.1.free 2;have kf3:=HX1.out.2.2.1.free 3;obtain⟨r0,r1,r2⟩:=HX1.out.2.2.2.1.c;have rf:=HX1.out.2.2.2.1.f;have rf0:=rf 0;have rf1:=rf 1;have rf2:=rf 2;obtain⟨hq2,hq3,hqb⟩:=HX1.out.stored (.int .i64 0) (.string ⟨#[]⟩) (.string ⟨#[]⟩) (.string ⟨#[]⟩) none 0 0 ⟨#[]⟩ 0;obtain⟨q0,q1,q2,q3⟩:=hq2.cells;obtain⟨p0,p1,p2⟩:=hq3.c;have HQB:=Hq hqb;clear rf hq2 hq3 hqb;go_wp2;refine bodyPost_ret (v:=.tuple #[.agg #[.int .i64 0,.string ⟨#[]⟩,.string ⟨#[]⟩,.string ⟨#[]⟩],.agg #[.slice none 0 0,.string ⟨#[]⟩,.int .i64 0],.int .i64 er]) (by simp[results,Tryz.results7,go_sem,q0,q1,q2,q3,p0,p1,p2]) rfl ?_;rw[HRV.out];exact⟨none,0,rfl,SlN.nil _ 0 (by omega) none,HQB.out⟩
section
variable {P : Program} {ops : Array Oper} {Q : Exit → Act → World → Prop} {md : Region.Mode} {S : World → Prop} {k : Nat}
def Ghost2(P:Program)(md:Region.Mode)(ops:Array Oper)(Q:Exit→Act→World→Prop)(k:Nat)(S:World→Prop)(i1 i2:Nat)(d1 d2:Tmp)(fuel:Nat)(listed:Array Bool)(a:Act)(I:Bool→Value→Bool→Value→World→Prop):Prop:=
 (∀ y,GhostK P md ops Q k S i1 d1 fuel (listed.setIfInBounds i2 true) (a.put (some d2) y) (fun b x w=>I b x true y w))∧GhostK P md ops Q k S i1 d1 (fuel+1) listed a (fun b x w=>I b x false undef w)
theorem put_comm2(a:Act)(x v:Value){d e:Tmp}(h:d≠e):(a.put (some d) x).put (some e) v=(a.put (some e) v).put (some d) x:=Act.put_comm a x v (fun d' h1 h2=>by cases h1;cases h2;exact h rfl)
theorem ghost2_step{i1 i2 j:Nat}{o1 o2 oj:Oper}{d1 d2 dj:Tmp}{fuel:Nat}{listed:Array Bool}{a:Act}{I:Bool→Value→Bool→Value→World→Prop}{β:Type}(val:β→Value)(I':β→Bool→Value→Bool→Value→World→Prop)
 (hr0:Region.ready md ops listed=[j,i1,i2]) (hr1:Region.ready md ops (listed.setIfInBounds i1 true)=[j,i2]) (hr2:Region.ready md ops (listed.setIfInBounds i2 true)=[j,i1]) (hr3:Region.ready md ops ((listed.setIfInBounds i2 true).setIfInBounds i1 true)=[j])
 (h1:ops[i1]? =some o1) (h2:ops[i2]? =some o2) (hj:ops[j]? =some oj) (hD:Down md ops listed) (ha1:a.put (some d1) undef=a) (ha2:a.put (some d2) undef=a) (hne:i1≠i2) (hn1:i1≠j) (hn2:i2≠j) (n12:d1≠d2) (n1j:d1≠dj) (n2j:d2≠dj)
 (hS:∀ b x c y w,I b x c y w→S w) (hS':∀ v b x c y w,I' v b x c y w→S w)
 (al1:∀ c y w,I false undef c y w→∀ K:Act→World→Prop,(∀ x w',I true x c y w'→K ((a.put (some d2) y).put (some d1) x) w')→wpList P ops (EndK K Q) [o1] (a.put (some d2) y) w)
 (al2:∀ b x w,I b x false undef w→∀ K:Act→World→Prop,(∀ y w',I b x true y w'→K ((a.put (some d1) x).put (some d2) y) w')→wpList P ops (EndK K Q) [o2] (a.put (some d1) x) w)
 (st:∀ b x c y w,I b x c y w→∀ K:Act→World→Prop,(∀ v w',I' v b x c y w'→K (((a.put (some d2) y).put (some d1) x).put (some dj) (val v)) w')→wpList P ops (EndK K Q) [oj] ((a.put (some d2) y).put (some d1) x) w)
 (hnext:∀ v,Down md ops (listed.setIfInBounds j true)→Ghost2 P md ops Q k S i1 i2 d1 d2 fuel (listed.setIfInBounds j true) (a.put (some dj) (val v)) (I' v)) :
 Ghost2 P md ops Q k S i1 i2 d1 d2 (fuel+1) listed a I:=by
 have m1:i1∈Region.ready md ops listed:=by rw[hr0];simp
 have m2:i2∈Region.ready md ops listed:=by rw[hr0];simp
 have mj:j∈Region.ready md ops listed:=by rw[hr0];simp
 have hDj:=hD.set mj;have first:∀ y,GhostK P md ops Q k S i1 d1 (fuel+1) (listed.setIfInBounds i2 true) (a.put (some d2) y) (fun b x w=>I b x true y w):=fun y=>by
  refine ghost_step val (fun v b x w=>I' v b x true y w) hr2 hr3 h1 hj (hD.set m2) (by rw[put_comm2 _ _ _ n12.symm,ha1]) n1j (fun v b x w h=>hS' _ _ _ _ _ _ h) (fun b x w h=>hS _ _ _ _ _ h) (fun w h K hK=>al1 true y w h K hK) (fun b x w h K hK=>st b x true y w h K hK) (fun v _=>?_);have h:=(hnext v hDj).1 y;rw[put_comm2 _ _ _ n2j,Array.setIfInBounds_comm _ _ hn2];exact h
 have only1:∀ x w,I true x false undef w→wpAnyK P md ops Q k S (fuel+2) (listed.setIfInBounds i1 true) (a.put (some d1) x) w:=fun x w h=>by
  refine wpAnyK_two hr1 hj h2 (hD.set m1) (fun K hK=>?_) (fun K hK=>?_)
  · have h3:=st true x false undef w h K fun v w' h'=>by
     rw[ha2];refine hK _ w' (hS' _ _ _ _ _ _ h') fun _ _=>?_;rw[put_comm2 _ _ _ n1j,Array.setIfInBounds_comm _ _ hn1];exact(hnext v hDj).2.1 x w' h'
    rw[ha2]at h3;exact h3
  · exact al2 true x w h K fun y w' h'=>hK _ w' (hS _ _ _ _ _ h') fun _ _=>by
     rw[put_comm2 _ _ _ n12,Array.setIfInBounds_comm _ _ hne];exact(first y).1 x w' h'
 refine⟨first,only1,fun w h=>?_⟩;refine wpAnyK_three hr0 hj h1 h2 hD (fun K hK=>?_) (fun K hK=>?_) (fun K hK=>?_)
 · have h3:=st false undef false undef w h K fun v w' h'=>by
    rw[ha2,ha1];exact hK _ w' (hS' _ _ _ _ _ _ h') fun _ _=>(hnext v hDj).2.2 w' h'
   rw[ha2,ha1]at h3;exact h3
 · have h3:=al1 false undef w h K fun x w' h'=>by
    rw[ha2];exact hK _ w' (hS _ _ _ _ _ h') fun _ _=>only1 x w' h'
   rw[ha2]at h3;exact h3
 · have h3:=al2 false undef w h K fun y w' h'=>by
    rw[ha1];exact hK _ w' (hS _ _ _ _ _ h') fun _ _=>(first y).2 w' h'
   rw[ha1]at h3;exact h3
theorem ghost2_end{i1 i2:Nat}{o1 o2:Oper}{d1 d2:Tmp}{fuel:Nat}{listed:Array Bool}{a:Act}{I:Bool→Value→Bool→Value→World→Prop}
 (hr0:Region.ready md ops listed=[i1,i2]) (hr2:Region.ready md ops (listed.setIfInBounds i2 true)=[i1])
 (h1:ops[i1]? =some o1) (h2:ops[i2]? =some o2) (hD:Down md ops listed) (ha1:a.put (some d1) undef=a) (ha2:a.put (some d2) undef=a) (hne:i1≠i2) (n12:d1≠d2)
 (hS:∀ b x c y w,I b x c y w→S w)
 (al1:∀ c y w,I false undef c y w→∀ K:Act→World→Prop,(∀ x w',I true x c y w'→K ((a.put (some d2) y).put (some d1) x) w')→wpList P ops (EndK K Q) [o1] (a.put (some d2) y) w)
 (al2:∀ b x w,I b x false undef w→∀ K:Act→World→Prop,(∀ y w',I b x true y w'→K ((a.put (some d1) x).put (some d2) y) w')→wpList P ops (EndK K Q) [o2] (a.put (some d1) x) w)
 (hnext:∀ x,Down md ops (listed.setIfInBounds i1 true)→GhostK P md ops Q k S i2 d2 fuel (listed.setIfInBounds i1 true) (a.put (some d1) x) (fun c y w=>I true x c y w)) :
 Ghost2 P md ops Q k S i1 i2 d1 d2 fuel listed a I:=by
 have m1:i1∈Region.ready md ops listed:=by rw[hr0];simp
 have m2:i2∈Region.ready md ops listed:=by rw[hr0];simp
 have hD1:=hD.set m1;have both:∀ x y w,I true x true y w→wpAnyK P md ops Q k S fuel ((listed.setIfInBounds i2 true).setIfInBounds i1 true) ((a.put (some d2) y).put (some d1) x) w:=fun x y w h=>by
  have h3:=(hnext x hD1).1 y w h;rw[put_comm2 _ _ _ n12,Array.setIfInBounds_comm _ _ hne]at h3;exact h3
 have only2:∀ y w,I false undef true y w→wpAnyK P md ops Q k S (fuel+1) (listed.setIfInBounds i2 true) (a.put (some d2) y) w:=fun y w h =>
  wpAnyK_one hr2 h1 (hD.set m2) fun K hK=>al1 true y w h K fun x w' h'=>hK _ w' (hS _ _ _ _ _ h') fun _ _=>both x y w' h'
 refine⟨fun y=>⟨fun x w h=>both x y w h,fun w h=>only2 y w h⟩,fun x w h=>(hnext x hD1).2 w h,fun w h=>?_⟩;refine wpAnyK_two hr0 h1 h2 hD (fun K hK=>?_) (fun K hK=>?_)
 · have h3:=al1 false undef w h K fun x w' h'=>by
    rw[ha2];exact hK _ w' (hS _ _ _ _ _ h') fun _ _=>(hnext x hD1).2 w' h'
   rw[ha2]at h3;exact h3
 · have h3:=al2 false undef w h K fun y w' h'=>by
    rw[ha1];exact hK _ w' (hS _ _ _ _ _ h') fun _ _=>only2 y w' h'
   rw[ha1]at h3;exact h3
end
open Go.RowKit
section
variable {P : Program} {ops : Array Oper} {Q : Exit → Act → World → Prop} {md : Region.Mode} {S : World → Prop} {k : Nat}
theorem ghost2_pure{i1 i2 j:Nat}{oj:Oper}{d1 d2 dj:Tmp}{v:Value}{fuel:Nat}{listed:Array Bool}{a:Act}{I:Bool→Value→Bool→Value→World→Prop}(hj:ops[j]? =some oj)(hdj:oj.dst=some dj)
 (hm1:(Region.ready md ops listed).contains i1=true) (hm2:(Region.ready md ops listed).contains i2=true) (hm3:(Region.ready md ops (listed.setIfInBounds i2 true)).contains i1=true)
 (hs0:stepB md ops listed k j=true) (hs1:stepB md ops (listed.setIfInBounds i1 true) k j=true) (hs2:stepB md ops (listed.setIfInBounds i2 true) k j=true) (hs3:stepB md ops ((listed.setIfInBounds i2 true).setIfInBounds i1 true) k j=true)
 (hQ:∀ c a w,Q (.panic c) (a.put (some dj) v) w→Q (.panic c) a w) (hD:Down md ops listed) (ha1:a.put (some d1) undef=a) (ha2:a.put (some d2) undef=a) (n12:d1≠d2) (n1j:d1≠dj) (n2j:d2≠dj) (h1j:i1≠j) (h2j:i2≠j)
 (hS:∀ b x c y w,I b x c y w→S w) (hy:∀ x y,YieldsIf P ops (fun _=>True) oj v ((a.put (some d2) y).put (some d1) x))
 (h:Down md ops (listed.setIfInBounds j true)→Ghost2 P md ops Q k S i1 i2 d1 d2 fuel (listed.setIfInBounds j true) (a.put (some dj) v) I):Ghost2 P md ops Q k S i1 i2 d1 d2 (fuel+1) listed a I:=by
 have hm2':i2∈Region.ready md ops listed:=by rwa[List.contains_iff_mem]at hm2
 have hDj:=hD.set (stepB_spec hs0).2.2.1;refine⟨fun y=>?_,?_⟩
 · refine ghost_pure hj hdj hm3 hs2 hs3 hQ (hD.set hm2') (by rw[put_comm2 _ _ _ n12.symm,ha1]) n1j h1j (fun b x w h=>hS _ _ _ _ _ h) (fun x=>hy x y) fun _=>?_;have h3:=(h hDj).1 y;rw[put_comm2 _ _ _ n2j,Array.setIfInBounds_comm _ _ h2j];exact h3
 · exact ghost_pure hj hdj hm1 hs0 hs1 hQ hD ha1 n1j h1j (fun b x w h=>hS _ _ _ _ _ h) (fun x=>by have:=hy x undef;rwa[ha2]at this) fun hd=>(h hd).2
end
theorem SlN.ltN{w:World}{b o n c:Nat}{l:List ByteArray}(h:SlN w (some ⟨b,o,none⟩) n c l)(hn:0<n):b<w.heap.size:=by
 obtain⟨s,hs⟩:∃ s,l[0]? =some s:=⟨_,List.getElem?_eq_getElem (by rw[h.1];exact hn)⟩;have:=h.get? 0 hs;exact World.block_lt_of_cell? _ _ this
def sgZ:Array Value:=#[.string ⟨#[]⟩,.string ⟨#[]⟩]
def tpZ:Array Value:=#[.slice none 0 0,.string ⟨#[]⟩,.int .i64 0]
def GS(W0:World)(C:Option Addr)(n cc:Nat)(l:List ByteArray)(b:Bool)(x:Value)(c:Bool)(y:Value)(w:World):Prop:=
 Below W0.heap.size W0 w∧(b=true→∃ B,x=.pointer (some ⟨B,0,none⟩)∧W0.heap.size≤B∧w.heap[B]? =some (.cells sgZ 35 (0,0))∧(0<n→∀ q o,C=some ⟨q,o,none⟩→q≠B))∧(c=true→∃ B,y=.pointer (some ⟨B,0,none⟩)∧W0.heap.size≤B∧w.heap[B]? =some (.cells tpZ 30 (0,0))∧(0<n→∀ q o,C=some ⟨q,o,none⟩→q≠B))∧(b=true→c=true→x≠y)∧SlN w C n cc l∧(∀ q o,C=some ⟨q,o,none⟩→W0.heap.size≤q)
theorem GS.start(W0:World):GS W0 none 0 0 [] false undef false undef W0:=⟨Below.refl _ _,(fun h=>by cases h),(fun h=>by cases h),(fun h=>by cases h),SlN.nil _ 0 (by omega) _,fun q o e=>by cases e⟩
theorem GS.step{W0 w w':World}{C:Option Addr}{n cc:Nat}{l:List ByteArray}{b c:Bool}{x y:Value}(h:GS W0 C n cc l b x c y w)(hb:Below w.heap.size w w'):GS W0 C n cc l b x c y w':=
 ⟨h.1.trans (hb.mono h.1.size),fun e=>let ⟨B,h1,h2,h3,h4⟩:=h.2.1 e;⟨B,h1,h2,(hb.block _ (block_lt h3)).trans h3,h4⟩,fun e=>let ⟨B,h1,h2,h3,h4⟩:=h.2.2.1 e;⟨B,h1,h2,(hb.block _ (block_lt h3)).trans h3,h4⟩,h.2.2.2.1,h.2.2.2.2.1.kept hb nlr,h.2.2.2.2.2⟩
theorem GS.call{W0 w w':World}{C D:Option Addr}{n cc m cd:Nat}{l l':List ByteArray}{b c:Bool}{x y:Value}(h:GS W0 C n cc l b x c y w)(hb:Below w.heap.size w w')(hs:SlN w' D m cd l')(hf:∀ q o,D=some ⟨q,o,none⟩→w.heap.size≤q):GS W0 D m cd l' b x c y w':=
 ⟨h.1.trans (hb.mono h.1.size),fun e=>let ⟨B,h1,h2,h3,h4⟩:=h.2.1 e;⟨B,h1,h2,(hb.block _ (block_lt h3)).trans h3,fun _ q o e=>by have:=hf q o e;have:=block_lt h3;omega⟩,fun e=>let ⟨B,h1,h2,h3,h4⟩:=h.2.2.1 e;⟨B,h1,h2,(hb.block _ (block_lt h3)).trans h3,fun _ q o e=>by have:=hf q o e;have:=block_lt h3;omega⟩,h.2.2.2.1,hs,fun q o e=>Nat.le_trans h.1.size (hf q o e)⟩
theorem below_setRowG{B:Nat}{w w':World}(h:Below B w w'){g:Nat}(hg:B≤g)(cs:Array Value):Below B w (w'.setRow g cs):=
 ⟨h.os,h.tape,h.output,by rw[size_setRow];exact h.size,fun k hk=>(setRow_other _ _ _ _ (by omega)).trans (h.block k hk)⟩
theorem SlN.setRowN{W:World}{A:Option Addr}{n c R:Nat}{l:List ByteArray}{cs:Array Value}(h:SlN W A n c l)(hf:0<n→∀ b o,A=some ⟨b,o,none⟩→b≠R):SlN (W.setRow R cs) A n c l:=by
 obtain⟨h1,h2,h3,b,o,h4,h5⟩:=h;refine⟨h1,h2,h3,b,o,h4,fun j s hj=>?_⟩;have hlt:=(List.getElem?_eq_some_iff.1 hj).1;have hb:=hf (by omega) b o (h4 (by omega));rw[World.cell?_of_block (w:=W) (setRow_other _ _ _ _ hb)];exact h5 j s hj
theorem gs_al1{ops:Array Oper}{o:Oper}{a:Act}{Q:Exit→Act→World→Prop}{d1 d2:Tmp}{W0:World}{C:Option Addr}{n cc:Nat}{l:List ByteArray}(hg:o.guard=none)(hd:o.dst=some d1)(hop:∀(w:World) (ρ:Operand→Value),(execOp ρ o).run Tryz.prog w=.ok (.value (.pointer (some ⟨w.heap.size,0,none⟩))) (w.alloc (.cells sgZ 35))) :
 ∀ c y w,GS W0 C n cc l false undef c y w→∀ K:Act→World→Prop,(∀ x w',GS W0 C n cc l true x c y w'→K ((a.put (some d2) y).put (some d1) x) w')→wpList Tryz.prog ops (EndK K Q) [o] (a.put (some d2) y) w:=fun c y w h K hK =>
 Great.wpList_allocTo hg (some d1) hd _ _ (hop w _) (hK _ _ (by
  have hb:Below w.heap.size w (w.alloc (.cells sgZ 35)):=(blr).alloc nlr _;have hs:=h.step hb;refine⟨hs.1,fun _=>⟨w.heap.size,rfl,h.1.size,heap_alloc_new _ _,fun h0 q o e=>?_⟩,hs.2.2.1,fun _ e he=>?_,hs.2.2.2.2⟩
  · have:=h.2.2.2.2.1;subst e;have:=this.ltN h0;omega
  · obtain⟨B',h1,_,h3,_⟩:=h.2.2.1 e;rw[h1]at he;cases he;have:=block_lt h3
    omega))
theorem gs_al2{ops:Array Oper}{o:Oper}{a:Act}{Q:Exit→Act→World→Prop}{d1 d2:Tmp}{W0:World}{C:Option Addr}{n cc:Nat}{l:List ByteArray}(hg:o.guard=none)(hd:o.dst=some d2)(hop:∀(w:World) (ρ:Operand→Value),(execOp ρ o).run Tryz.prog w=.ok (.value (.pointer (some ⟨w.heap.size,0,none⟩))) (w.alloc (.cells tpZ 30))) :
 ∀ b x w,GS W0 C n cc l b x false undef w→∀ K:Act→World→Prop,(∀ y w',GS W0 C n cc l b x true y w'→K ((a.put (some d1) x).put (some d2) y) w')→wpList Tryz.prog ops (EndK K Q) [o] (a.put (some d1) x) w:=fun b x w h K hK =>
 Great.wpList_allocTo hg (some d2) hd _ _ (hop w _) (hK _ _ (by
  have hb:Below w.heap.size w (w.alloc (.cells tpZ 30)):=(blr).alloc nlr _;have hs:=h.step hb;refine⟨hs.1,hs.2.1,fun _=>⟨w.heap.size,rfl,h.1.size,heap_alloc_new _ _,fun h0 q o e=>?_⟩,fun e _ he=>?_,hs.2.2.2.2⟩
  · have:=h.2.2.2.2.1;subst e;have:=this.ltN h0;omega
  · obtain⟨B',h1,_,h3,_⟩:=h.2.1 e;rw[h1]at he;cases he;have:=block_lt h3
    omega))
end Go.Proofs.YtopmeciihijgiaaGreatDoor

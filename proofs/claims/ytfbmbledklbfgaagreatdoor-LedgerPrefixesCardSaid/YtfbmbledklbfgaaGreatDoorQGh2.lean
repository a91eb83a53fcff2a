import Derived.Test.YtfbmbledklbfgaaGreatDoorQLxB
import Derived.Test.YtfbmbledklbfgaaGreatDoorQScY
import Derived.Test.YtfbmbledklbfgaaGreatDoorQAwk
set_option linter.unusedVariables false
set_option linter.unusedSimpArgs false
namespace Go.Proofs.YtfbmbledklbfgaaGreatDoor
theorem ext_between(l:List ByteArray)(m:Nat)(hm:m≤l.length):extB (rootL (l.take m)) m (rootL l) l.length (btN l m).1=true:=by
 unfold extB btN;rw[if_neg (show ¬ ((m:Int)<0∨(l.length:Int)<m)from by omega),if_neg (show ¬ ((m:Int)<0∨(l.length:Int)<m)from by omega)];by_cases h0:m=0
 · subst h0;rw[if_pos (show ((0:Nat):Int)=0 from rfl),if_pos (show ((0:Nat):Int)=0∨((0:Nat):Int)=l.length from Or.inl rfl),List.take_zero,rootL_nil];simp
 · rw[if_neg (show ¬ (m:Int)=0 from by omega)];by_cases hn:m=l.length
   · rw[if_pos (show (m:Int)=l.length from by omega),if_pos (Or.inr (show (m:Int)=l.length from by omega)),hn,List.take_length];simp
   · rw[if_neg (show ¬ (m:Int)=l.length from by omega),if_neg (show ¬ ((m:Int)=0∨(m:Int)=l.length)from by omega)];simp only[Int.toNat_natCast];have hr:=roots_proof l.length l m true (rootL (l.take m)) (by omega) hm nlr (fun _=>rfl);simp[hr]
theorem proofF_size:∀(f:Nat) (l:List ByteArray) (m:Nat) (wh:Bool) (x:ByteArray),x∈proofF f l m wh→x.size=32
 | 0,l,m,wh,x,h=>by cases h
 | f+1,l,m,wh,x,h=>by
  rw[proofF_succ]at h;split at h
  · split at h
    · cases h
    · rw[List.mem_singleton]at h;rw[h,rootL_size]
  · split at h
    · rw[List.mem_append,List.mem_singleton]at h;rcases h with h | h
      · exact proofF_size f _ _ _ x h
      · rw[h,rootL_size]
    · rw[List.mem_append,List.mem_singleton]at h;rcases h with h | h
      · exact proofF_size f _ _ _ x h
      · rw[h,rootL_size]
theorem btN_small(l:List ByteArray)(m:Int):(btN l m).1.length≤l.length∧∀ x∈(btN l m).1,x.size≤100:=by
 unfold btN;split
 · exact⟨Nat.zero_le _,fun x h=>by cases h⟩
 · split
   · exact⟨Nat.zero_le _,fun x h=>by cases h⟩
   · exact⟨proofF_len _ _ _ _,fun x h=>by have:=proofF_size _ _ _ _ x h;omega⟩
theorem ls_zero{M O G Y X:ByteArray}{L:List En}{l:List ByteArray}{s:ByteArray}{k:Int}(h:(lsN M O G Y X L l s k).2.2=0) :
 (msgsE L).2=0∧(lsN M O G Y X L l s k).1.1=(L.length:Int)∧(lsN M O G Y X L l s k).1.2.1=rtE L∧(sgN M O G Y X (hdS L.length (rtE L)) l s k).2.2=0∧(lsN M O G Y X L l s k).1.2.2.1=nS (sgN M O G Y X (hdS L.length (rtE L)) l s k).1∧(lsN M O G Y X L l s k).1.2.2.2=nS (sgN M O G Y X (hdS L.length (rtE L)) l s k).2.1:=by
 unfold lsN at *;by_cases h1:(msgsE L).2=0
 · rw[if_pos h1]at h⊢;by_cases h2:(sgN M O G Y X (hdS L.length (rtE L)) l s k).2.2=0
   · rw[if_pos h2]at h⊢;exact⟨h1,rfl,rfl,h2,rfl,rfl⟩
   · rw[if_neg h2]at h;exact absurd h h2
 · rw[if_neg h1]at h;exact absurd h h1
theorem ls_check{M O G Y X:ByteArray}{L:List En}{l:List ByteArray}{s:ByteArray}{k:Int}(hM:M.size≤8)(hL:L.length≤4096)(h:(lsN M O G Y X L l s k).2.2=0) :
 ckH M O G Y (lsN M O G Y X L l s k).1.1 (lsN M O G Y X L l s k).1.2.1 (lsN M O G Y X L l s k).1.2.2.1 (lsN M O G Y X L l s k).1.2.2.2=0:=by
 obtain⟨e0,e1,e2,e3,e4,e5⟩:=ls_zero h;rw[e1,e2,e4,e5];obtain⟨nn,hk,⟨hx0,hx1,hx⟩,hn,hall⟩:=sg_ok e3;rw[hall];unfold ckH;rw[if_neg (by omega),if_neg (show ¬ (rtE L).size≠32 from fun h=>h (rtE_size L)),Int.toNat_natCast];have lc:chS M O G Y (num G ^ nn%num M) (hdS L.length (rtE L))<num O:=Nat.mod_lt _ (by omega);rw[ve_sign hM hk hx lc,if_pos rfl]
theorem ls_few{M O G Y X:ByteArray}{L:List En}{l:List ByteArray}{s:ByteArray}{k:Int}(hO:num O<256 ^ 1000)(h:(lsN M O G Y X L l s k).2.2=0) :
 (lsN M O G Y X L l s k).1.2.1.size=32∧(lsN M O G Y X L l s k).1.2.2.1.size≤1000∧(lsN M O G Y X L l s k).1.2.2.2.size≤1000:=by
 obtain⟨e0,e1,e2,e3,e4,e5⟩:=ls_zero h;rw[e2,e4,e5];obtain⟨nn,hk,⟨hx0,hx1,hx⟩,hn,hall⟩:=sg_ok e3;rw[hall];refine⟨rtE_size L,nS_size_le.2 (Nat.lt_trans (Nat.mod_lt _ (by omega)) hO),nS_size_le.2 (Nat.lt_trans (Nat.mod_lt _ (by omega)) hO)⟩
theorem lp_law{M O G Y X:ByteArray}{L:List En}{l:List ByteArray}{s:ByteArray}{k:Int}{q:Nat}(hM:M.size≤8)(hL:L.length≤4096)(hq:q≤L.length)(h1:(lsN M O G Y X (L.take q) l s k).2.2=0)(h2:(lsN M O G Y X L l s k).2.2=0) :
 exH M O G Y ⟨(lsN M O G Y X (L.take q) l s k).1.1,(lsN M O G Y X (L.take q) l s k).1.2.1,(lsN M O G Y X (L.take q) l s k).1.2.2.1,(lsN M O G Y X (L.take q) l s k).1.2.2.2⟩ ⟨(lsN M O G Y X L l s k).1.1,(lsN M O G Y X L l s k).1.2.1,(lsN M O G Y X L l s k).1.2.2.1,(lsN M O G Y X L l s k).1.2.2.2⟩ (btN (L.map (fun e=>(msgS e).1)) q).1=0:=by
 have hlq:(L.take q).length=q:=by rw[List.length_take];omega
 have c1:=ls_check hM (by omega) h1;have c2:=ls_check hM hL h2;obtain⟨_,a1,a2,_⟩:=ls_zero h1;obtain⟨_,b1,b2,_⟩:=ls_zero h2;unfold exH;simp only[];rw[c1,c2,if_neg (by simp),if_neg (by simp),a1,a2,b1,b2,hlq];have hx:=ext_between (L.map (fun e=>(msgS e).1)) q (by rw[List.length_map];exact hq);rw[←List.map_take,List.length_map]at hx;unfold rtE;rw[hx];rfl
set_option maxRecDepth 100000
set_option maxHeartbeats 8000000
open Go.RowKit Go.Lib
theorem led_Sign(M O G Y X:ByteArray)(L:List En)(B:Option Addr)(q cb:Nat)(l:List ByteArray)(s:ByteArray)(k:Int)(A:Option Addr)(n cap:Nat)(hq:q≤100)(hE:SmE L)(hM:M.size≤8)(hO:O.size≤100)(hG:G.size≤1000)(hY:Y.size≤1000)(hX:X.size≤1000)(hn:n≤1000)(hp:∀ x∈l,x.size≤9223372036854775807)(hs64:s.size≤1000000)(w:World)(hL:SlE w B q cb L)(hs:SlN w A n cap l)(ht:T10 w) :
 Calls Tryz.prog 6 #[kV M O G Y,.string X,.slice B q cb,tpV A n cap s k] w (RetH (lsN M O G Y X L l s k) w):=by
 have hx0:=SH.new w M O G Y A n cap s k l hs;obtain⟨W0,hW0⟩:∃ W,(((w.alloc (.cells #[.string M,.string O,.string G,.string Y] 26)).alloc (.cells #[.slice A n cap,.string s,.int .i64 k] 30)).alloc (.cells #[.int .i64 0,.string ⟨#[]⟩,.string ⟨#[]⟩,.string ⟨#[]⟩] 37)).alloc (.cells #[.slice none 0 0,.string ⟨#[]⟩,.int .i64 0] 30)=W:=⟨_,rfl⟩;rw[hW0]at hx0;have HX0:=Hq hx0;have HB0:=Hq hx0.2.2.2.2.2;have HLL:=Hq hL.1;have HMS:=Hq (fun W (hb:Below w.heap.size w W)=>led_messages L B q cb W (hL.kept hb nlr) (by omega) hE);obtain⟨g0,g1,g2,g3⟩:=HX0.out.1.cells;obtain⟨c0,c1,c2⟩:=HX0.out.2.1.c;by_cases hm:(msgsE L).2=0
 · have hml:=msgsE_len hm;have HSZ:=Hq (show (msgsE L).1.length=q from by rw[hml,List.length_map];exact hL.1);have HRT:=Hq (fun W A' c' hs'=>m_Root q (msgsE L).1 A' q c' W (by rw[HSZ.out];exact Nat.le_refl _) (by omega) (by rw[hml];intro x hx;obtain⟨e,_,rfl⟩:=List.mem_map.1 hx;exact msgS_size e) hs');rw[show rootL (msgsE L).1=rtE L from by rw[hml];rfl]at HRT;have HSG:=Hq (led_signed q (rtE L) ⟨#[]⟩ ⟨#[]⟩ (by omega) (by rw[rtE_size];decide));have HSN:=Hq (fun W (hb:Below w.heap.size w W) hs'=>sc_Sign M O G Y X (hdS q (rtE L)) l s k A n cap hM hO hG hY hX (hdS_size _ _) hn hp hs64 W hs' (ht.kept hb nlr));obtain⟨sg,hsg⟩:∃ r,sgN M O G Y X (hdS q (rtE L)) l s k=r:=⟨_,rfl⟩;have HLS:=Hq (show lsN M O G Y X L l s k=if sg.2.2=0 then(((q:Int),rtE L,nS sg.1,nS sg.2.1),tpN 0 l s k,0)else((0,⟨#[]⟩,⟨#[]⟩,⟨#[]⟩),([],⟨#[]⟩,0),sg.2.2)from by unfold lsN;rw[if_pos hm,hL.1,hsg]);rw[hsg]at HSN;unfold RetMs at HMS;rw[HSZ.out,hm]at HMS;obtain⟨mr,hmr⟩:∃ m,(msgsE L).1=m:=⟨_,rfl⟩;rw[hmr]at HMS HRT;obtain⟨a1,a2,er⟩:=sg;obtain⟨za,hza⟩:∃ z,nS a1=z:=⟨_,rfl⟩;obtain⟨zb,hzb⟩:∃ z,nS a2=z:=⟨_,rfl⟩;obtain⟨rt,hrt⟩:∃ z,rtE L=z:=⟨_,rfl⟩;obtain⟨hd,hhd⟩:∃ z,hdS q rt=z:=⟨_,rfl⟩;obtain⟨tt,htt⟩:∃ t,tpN er l s k=t:=⟨_,rfl⟩;obtain⟨tl,ts,tk⟩:=tt;simp only[]at HSN HLS;rw[htt]at HSN;rw[hza,hzb]at HLS;rw[hrt]at HRT HSG HLS;rw[hrt,hhd]at HSN;rw[hhd]at HSG;unfold RetS at HSN;simp only[]at HSN;rw[hza,hzb]at HSN;obtain⟨tn,htn⟩:∃ t,tl.length=t:=⟨_,rfl⟩;rw[htn]at HSN;have HTN:=Hq htn;have HTT:=Hq htt;unfold tpV kV at *;clear hx0 hs hL hm hml hsg hmr hza hzb hrt hhd htt htn hM hO hG hY hX hn hp hs64 ht hE HSZ;go_enter Tryz.func6,Tryz.ntmps6;go_wp2_with fail;try rw[hW0]
   clear hW0;refine(HMS.out _ HB0.out).mono ?_;rintro ev w1 ⟨A1,ca,rfl,hsl1,hb⟩;have HSL1:=Hq hsl1;have HX1:=Hq (HX0.out.next hb);clear g0 g1 g2 g3 c0 c1 c2;obtain⟨g0,g1,g2,g3⟩:=HX1.out.1.cells;obtain⟨c0,c1,c2⟩:=HX1.out.2.1.c;clear hsl1 hb;go_wp2_with fail;refine(HRT.out _ _ _ HSL1.out).mono ?_;rintro ev w2 ⟨rfl,hb⟩;have HX2:=Hq (HX1.out.next hb);clear g0 g1 g2 g3 c0 c1 c2;obtain⟨g0,g1,g2,g3⟩:=HX2.out.1.cells;obtain⟨c0,c1,c2⟩:=HX2.out.2.1.c;clear hb;go_upto_region 5 with(fail)
   have hb:Below w2.heap.size w2 (w2.alloc (.cells #[.int .i64 q,.string rt,.string ⟨#[]⟩,.string ⟨#[]⟩] 37)):=(blr).alloc nlr _;have hp3:=Bx4.new w2 (.int .i64 q) (.string rt) (.string ⟨#[]⟩) (.string ⟨#[]⟩) 37;obtain⟨W3,hW3⟩:∃ W,w2.alloc (.cells #[.int .i64 q,.string rt,.string ⟨#[]⟩,.string ⟨#[]⟩] 37)=W:=⟨_,rfl⟩;obtain⟨P,hP⟩:∃ P,w2.heap.size=P:=⟨_,rfl⟩;have HLT:=Hq (show w.heap.size+1+1+1<P from by rw[←hP];exact HX2.out.2.2.2.1.lt);rw[hW3]at hb hp3⊢;rw[hP]at hp3⊢;have HP3:=Hq hp3;clear hW3 hP hp3;have HX3:=Hq (HX2.out.next hb);clear g0 g1 g2 g3 c0 c1 c2;obtain⟨g0,g1,g2,g3⟩:=HX3.out.1.cells;obtain⟨c0,c1,c2⟩:=HX3.out.2.1.c;clear hb;obtain⟨h0,h1,h2,h3⟩:=HP3.out.cells;go_wp2_with fail;refine(HSG.out _).mono ?_;rintro ev w4 ⟨rfl,hb⟩;have HP4:=Hq (HP3.out.next hb);have HX4:=Hq (HX3.out.next hb);clear g0 g1 g2 g3 c0 c1 c2;obtain⟨g0,g1,g2,g3⟩:=HX4.out.1.cells;obtain⟨c0,c1,c2⟩:=HX4.out.2.1.c;clear hb h0 h1 h2 h3;have HSN4:=Hq (HSN.out _ HX4.out.2.2.2.2.2 HX4.out.2.2.2.2.1);go_wp2_with fail;refine HSN4.out.mono ?_;rintro ev w5 ⟨C,cc,rfl,hsl,hfr,hb⟩;have HSL:=Hq hsl;have HFR:=Hq (show ∀ b o,C=some ⟨b,o,none⟩→P<b from fun b o h=>Nat.lt_of_lt_of_le HP4.out.lt (hfr b o h));have HP5:=Hq (HP4.out.next hb);have HX5:=Hq (HX4.out.next hb);clear g0 g1 g2 g3 c0 c1 c2;obtain⟨g0,g1,g2,g3⟩:=HX5.out.1.cells;obtain⟨c0,c1,c2⟩:=HX5.out.2.1.c;have cf:=HX5.out.2.1.f;have cf0:=cf 0;have cf1:=cf 1;have cf2:=cf 2;have hqs:=HX5.out.2.1.lt;clear hsl hfr hb cf;go_upto_region 9 with(fail)
   have hx6:=HX5.out.tape (ts:=ts) (tk:=tk) HSL.out (fun b o h=>by have:=HFR.out b o h;have:=HLT.out;omega);have hp6:=((HP5.out.other (C:=w.heap.size+1) (k:=0) (by have:=HLT.out;omega) (.slice C tn cc)).other (C:=w.heap.size+1) (k:=1) (by have:=HLT.out;omega) (.string ts)).other (C:=w.heap.size+1) (k:=2) (by have:=HLT.out;omega) (.int .i64 tk);obtain⟨V,hV⟩:∃ W,((w5.setCell ⟨w.heap.size+1,0,none⟩ (.slice C tn cc)).setCell ⟨w.heap.size+1,1,none⟩ (.string ts)).setCell ⟨w.heap.size+1,2,none⟩ (.int .i64 tk)=W:=⟨_,rfl⟩;have hVs:w5.heap.size=V.heap.size:=by rw[←hV];simp
   rw[hV]at hx6 hp6⊢;rw[hVs];have hb:Below V.heap.size V (V.alloc (.cells #[.string za,.string zb] 35)):=(blr).alloc nlr _;have hq6:=Bx2.new V (.string za) (.string zb) 35;have hx6:=hx6.next hb;have hp6:=hp6.next hb;obtain⟨Q,hQ⟩:∃ Q,V.heap.size=Q:=⟨_,rfl⟩;have hPQ:P<Q:=by rw[←hQ,←hVs];exact HP5.out.lt
   obtain⟨W6,hW6⟩:∃ W,V.alloc (.cells #[.string za,.string zb] 35)=W:=⟨_,rfl⟩;rw[hW6]at hx6 hp6 hq6⊢;rw[hQ]at hq6⊢;have HX6:=Hq hx6;have HP6:=Hq hp6;have HQ6:=Hq hq6;clear hV hVs hb hx6 hp6 hq6 hQ hW6 g0 g1 g2 g3 c0 c1 c2 cf0 cf1 cf2 hqs;by_cases her:er=0
   · subst her;have HRV:=Hq (show lsN M O G Y X L l s k=(((q:Int),rt,za,zb),tpN 0 l s k,0)from by rw[HLS.out,if_pos rfl]);obtain⟨s0,s1⟩:=(show _∧_ from⟨HQ6.out.c0,HQ6.out.c1⟩);obtain⟨h0,h1,h2,h3⟩:=HP6.out.cells;have hf2:=HP6.out.free 2;have hf3:=HP6.out.free 3;go_upto_region 12 with(fail)
     have hx7:=HX6.out.other2 HLT.out HFR.out (.string za) (.string zb);have hp7:=HP6.out.set23 (a:=.string za) (b:=.string zb);obtain⟨W7,hW7⟩:∃ W,(W6.setCell ⟨P,2,none⟩ (.string za)).setCell ⟨P,3,none⟩ (.string zb)=W:=⟨_,rfl⟩;rw[hW7]at hx7 hp7⊢;clear hW7 s0 s1 h0 h1 h2 h3 hf2 hf3;obtain⟨wd,hwd⟩:∃ wd,W7.drew=wd:=⟨_,rfl⟩;have hbd:Below W7.heap.size W7 wd:=by rw[←hwd];exact(blr).drew
     have HXD:=Hq (hx7.next hbd);have HS0:=Hq (show Below w.heap.size w wd∧Bx4 wd P (.int .i64 q) (.string rt) (.string za) (.string zb) 37∧TB wd (w.heap.size+1) C tn cc ts tk from⟨(hx7.next hbd).2.2.2.2.2,hp7.next hbd,(hx7.next hbd).2.1⟩);clear hbd hx7 hp7;obtain⟨k0,k1,k2,k3⟩:=HXD.out.2.2.1.cells;have kf0:=HXD.out.2.2.1.free 0;have kf1:=HXD.out.2.2.1.free 1;have kf2:=HXD.out.2.2.1.free 2;have kf3:=HXD.out.2.2.1.free 3;obtain⟨r0,r1,r2⟩:=HXD.out.2.2.2.1.c;have rf:=HXD.out.2.2.2.1.f;have rf0:=rf 0;have rf1:=rf 1;have rf2:=rf 2;clear rf;refine wp_region_K 5 (fun W'=>Below w.heap.size w W'∧Bx4 W' P (.int .i64 q) (.string rt) (.string za) (.string zb) 37∧TB W' (w.heap.size+1) C tn cc ts tk) (by kernel_rfl) ?_;intro hD;rw[hwd];have KK1:=Hq (fun w' (hS':(fun W'=>Below w.heap.size w W'∧Bx4 W' P (.int .i64 q) (.string rt) (.string za) (.string zb) 37∧TB W' (w.heap.size+1) C tn cc ts tk) w')=>And.intro (hS'.2.1.cells.1) (And.intro (hS'.2.1.cells.2.1) (And.intro (hS'.2.1.cells.2.2.1) (And.intro (hS'.2.1.cells.2.2.2) (And.intro (hS'.2.2.c.1) (And.intro (hS'.2.2.c.2.1) (hS'.2.2.c.2.2)))))));refine rT 0 57 4 rfl hD HS0.out (by intro w' hS';obtain⟨e0,e1,e2,e3,e4,e5,e6⟩:=KK1.out w' hS';go_simp;with_reducible rfl) ?_;clear hD;intro hD;refine rT 1 58 3 rfl hD HS0.out (by intro w' hS';obtain⟨e0,e1,e2,e3,e4,e5,e6⟩:=KK1.out w' hS';go_simp;with_reducible rfl) ?_;clear hD;intro hD;simp only[Act.put,sqA,sqB,sqC];refine rO 2 2 rfl hD ?_;clear hD;intro K2 hK2;go_wp2;refine hK2 _ _ (by exact⟨below_set4H (HS0.out).1 (by omega) _ _ _ _,((((HS0.out).2.1.other (by have:=HLT.out;omega) _).other (by have:=HLT.out;omega) _).other (by have:=HLT.out;omega) _).other (by have:=HLT.out;omega) _,((((HS0.out).2.2.off (by omega) _).off (by omega) _).off (by omega) _).off (by omega) _⟩) ?_;clear hK2;intro hS_12_2 hD;refine rO 3 1 rfl hD ?_;clear hD;intro K3 hK3;go_wp2;refine hK3 _ _ (by exact⟨below_set3 (hS_12_2).1 (by omega) _ _ _,(((hS_12_2).2.1.other (by have:=HLT.out;omega) _).other (by have:=HLT.out;omega) _).other (by have:=HLT.out;omega) _,(((hS_12_2).2.2.off (by omega) _).off (by omega) _).off (by omega) _⟩) ?_;clear hK3;intro hS_12_3 hD;refine rO 4 0 rfl hD ?_;clear hD;intro K4 hK4;go_wp2;refine hK4 _ _ (by exact hS_12_3) ?_;clear hK4;intro hS_12_4 hD;refine wpD ?_;clear hD k0 k1 k2 k3 kf0 kf1 kf2 kf3 r0 r1 r2 rf0 rf1 rf2;obtain⟨hq2,hq3,hqb⟩:=HXD.out.stored (.int .i64 q) (.string rt) (.string za) (.string zb) C tn cc ts tk;obtain⟨q0,q1,q2,q3⟩:=hq2.cells;obtain⟨p0,p1,p2⟩:=hq3.c;have HQB:=Hq hqb;clear hq2 hq3 hqb;go_wp2;refine bodyPost_ret (v:=.tuple #[.agg #[.int .i64 q,.string rt,.string za,.string zb],.agg #[.slice C tn cc,.string ts,.int .i64 tk],.int .i64 0]) (by simp[results,Tryz.results6,go_sem,q0,q1,q2,q3,p0,p1,p2]) rfl ?_;rw[HRV.out,HTT.out];refine⟨C,cc,?_,?_,HQB.out⟩
     · show _=Ending.returned (.tuple #[.agg #[.int .i64 q,.string rt,.string za,.string zb],.agg #[.slice C tl.length cc,.string ts,.int .i64 tk],.int .i64 0]);rw[HTN.out]
     · show SlN _ C tl.length cc tl;rw[HTN.out];have h1:∀ b o,C=some ⟨b,o,none⟩→w.heap.size+1+1<b:=fun b o h=>by have:=HFR.out b o h;have:=HLT.out;omega
       have h2:∀ b o,C=some ⟨b,o,none⟩→w.heap.size+1+1+1<b:=fun b o h=>by have:=HFR.out b o h;have:=HLT.out;omega
       exact((((((HXD.out.2.2.2.2.1.setB h1).setB h1).setB h1).setB h1).setB h2).setB h2).setB h2
   · have HRV:=Hq (show lsN M O G Y X L l s k=((0,⟨#[]⟩,⟨#[]⟩,⟨#[]⟩),([],⟨#[]⟩,0),er)from by rw[HLS.out,if_neg her]);go_upto_region 10 with(fail)
     clear her;obtain⟨k0,k1,k2,k3⟩:=HX6.out.2.2.1.cells;have kf0:=HX6.out.2.2.1.free 0;have kf1:=HX6.out.2.2.1.free 1;have kf2:=HX6.out.2.2.1.free 2;have kf3:=HX6.out.2.2.1.free 3;obtain⟨r0,r1,r2⟩:=HX6.out.2.2.2.1.c;have rf:=HX6.out.2.2.2.1.f;have rf0:=rf 0;have rf1:=rf 1;have rf2:=rf 2;obtain⟨hq2,hq3,hqb⟩:=HX6.out.stored (.int .i64 0) (.string ⟨#[]⟩) (.string ⟨#[]⟩) (.string ⟨#[]⟩) none 0 0 ⟨#[]⟩ 0;obtain⟨q0,q1,q2,q3⟩:=hq2.cells;obtain⟨p0,p1,p2⟩:=hq3.c;have HQB:=Hq hqb;clear rf hq2 hq3 hqb;go_wp2;refine bodyPost_ret (v:=.tuple #[.agg #[.int .i64 0,.string ⟨#[]⟩,.string ⟨#[]⟩,.string ⟨#[]⟩],.agg #[.slice none 0 0,.string ⟨#[]⟩,.int .i64 0],.int .i64 er]) (by simp[results,Tryz.results6,go_sem,q0,q1,q2,q3,p0,p1,p2]) rfl ?_;rw[HRV.out];exact⟨none,0,rfl,SlN.nil _ 0 (by omega) none,HQB.out⟩
 · obtain⟨er,her⟩:∃ e,(msgsE L).2=e:=⟨_,rfl⟩;have HRV:=Hq (show lsN M O G Y X L l s k=((0,⟨#[]⟩,⟨#[]⟩,⟨#[]⟩),([],⟨#[]⟩,0),er)from by unfold lsN;rw[if_neg hm,her]);unfold RetMs at HMS;rw[her]at HMS hm;obtain⟨mr,hmr⟩:∃ m,(msgsE L).1=m:=⟨_,rfl⟩;rw[hmr]at HMS;obtain⟨mn,hmn⟩:∃ m,mr.length=m:=⟨_,rfl⟩;rw[hmn]at HMS;unfold tpV kV at *;clear hx0 hs hL her hmr hmn hM hO hG hY hX hn hp hs64 ht hE;go_enter Tryz.func6,Tryz.ntmps6;go_wp2_with fail;try rw[hW0]
   clear hW0;refine(HMS.out _ HB0.out).mono ?_;rintro ev w1 ⟨A1,ca,rfl,hsl1,hb⟩;have HSL1:=Hq hsl1;have HX1:=Hq (HX0.out.next hb);clear g0 g1 g2 g3 c0 c1 c2;obtain⟨g0,g1,g2,g3⟩:=HX1.out.1.cells;obtain⟨c0,c1,c2⟩:=HX1.out.2.1.c;clear hsl1 hb;go_upto_region 3 with(fail)
   clear hm;obtain⟨k0,k1,k2,k3⟩:=HX1.out.2.2.1.cells;have kf0:=HX1.out.2.2.1.free 0;have kf1:=HX1.out.2.2.1.free 1;have kf2:=HX1.out.2.2.1.free 2;have kf3:=HX1.out.2.2.1.free 3;obtain⟨r0,r1,r2⟩:=HX1.out.2.2.2.1.c;have rf:=HX1.out.2.2.2.1.f;have rf0:=rf 0;have rf1:=rf 1;have rf2:=rf 2;obtain⟨hq2,hq3,hqb⟩:=HX1.out.stored (.int .i64 0) (.string ⟨#[]⟩) (.string ⟨#[]⟩) (.string ⟨#[]⟩) none 0 0 ⟨#[]⟩ 0;obtain⟨q0,q1,q2,q3⟩:=hq2.cells;obtain⟨p0,p1,p2⟩:=hq3.c;have HQB:=Hq hqb;clear rf hq2 hq3 hqb;go_wp2;refine bodyPost_ret (v:=.tuple #[.agg #[.int .i64 0,.string ⟨#[]⟩,.string ⟨#[]⟩,.string ⟨#[]⟩],.agg #[.slice none 0 0,.string ⟨#[]⟩,.int .i64 0],.int .i64 er]) (by simp[results,Tryz.results6,go_sem,q0,q1,q2,q3,p0,p1,p2]) rfl ?_;rw[HRV.out];exact⟨none,0,rfl,SlN.nil _ 0 (by omega) none,HQB.out⟩
set_option maxRecDepth 100000
set_option maxHeartbeats 2000000
def slV(M O G Y X:ByteArray)(B:Option Addr)(m cb:Nat)(A:Option Addr)(n cap:Nat)(s:ByteArray)(k:Int):Value:=.agg #[.string M,.string O,.string G,.string Y,.string X,.slice B m cb,.slice A n cap,.string s,.int .i64 k]
def SL9(w W:World)(M O G Y X:ByteArray)(B:Option Addr)(m cb:Nat)(L:List En)(A:Option Addr)(n cap:Nat)(s:ByteArray)(k:Int)(l:List ByteArray):Prop:=
 W.heap[w.heap.size]? =some (.cells #[.string M,.string O,.string G,.string Y,.string X,.slice B m cb,.slice A n cap,.string s,.int .i64 k] 32 (0,0))∧SlE W B m cb L∧SlN W A n cap l∧Below w.heap.size w W
theorem SL9.new(w:World)(M O G Y X:ByteArray)(B:Option Addr)(m cb:Nat)(L:List En)(A:Option Addr)(n cap:Nat)(s:ByteArray)(k:Int)(l:List ByteArray)(hL:SlE w B m cb L)(hs:SlN w A n cap l):SL9 w (w.alloc (.cells #[.string M,.string O,.string G,.string Y,.string X,.slice B m cb,.slice A n cap,.string s,.int .i64 k] 32)) M O G Y X B m cb L A n cap s k l:=
 ⟨heap_alloc_new _ _,hL.kept ((blr).alloc nlr _) nlr,hs.kept ((blr).alloc nlr _) nlr,(blr).alloc nlr _⟩
theorem SL9.next{w W W':World}{M O G Y X:ByteArray}{B:Option Addr}{m cb:Nat}{L:List En}{A:Option Addr}{n cap:Nat}{s:ByteArray}{k:Int}{l:List ByteArray}(h:SL9 w W M O G Y X B m cb L A n cap s k l)(hb:Below W.heap.size W W'):SL9 w W' M O G Y X B m cb L A n cap s k l:=
 ⟨(hb.block _ (block_lt h.1)).trans h.1,h.2.1.kept hb nlr,h.2.2.1.kept hb nlr,h.2.2.2.trans (hb.mono h.2.2.2.size)⟩
theorem SL9.cells{w W:World}{M O G Y X:ByteArray}{B:Option Addr}{m cb:Nat}{L:List En}{A:Option Addr}{n cap:Nat}{s:ByteArray}{k:Int}{l:List ByteArray}(h:SL9 w W M O G Y X B m cb L A n cap s k l) :
 W.cell? ⟨w.heap.size,0,none⟩=some (.string M)∧W.cell? ⟨w.heap.size,1,none⟩=some (.string O)∧W.cell? ⟨w.heap.size,2,none⟩=some (.string G)∧W.cell? ⟨w.heap.size,3,none⟩=some (.string Y)∧W.cell? ⟨w.heap.size,4,none⟩=some (.string X)∧W.cell? ⟨w.heap.size,5,none⟩=some (.slice B m cb)∧W.cell? ⟨w.heap.size,6,none⟩=some (.slice A n cap)∧W.cell? ⟨w.heap.size,7,none⟩=some (.string s)∧W.cell? ⟨w.heap.size,8,none⟩=some (.int .i64 k):=by
 have:=h.1;refine⟨?_,?_,?_,?_,?_,?_,?_,?_,?_⟩<;>(rw[Lib.cell_of_heap this];rfl)
def fewSL(M O G Y X:ByteArray)(L:List En)(l:List ByteArray)(s:ByteArray)(k:Int):Bool:=few33 M O G Y [X]&&(fewB L&&few11 l s k)
theorem law57_fewS(M O G Y X:ByteArray)(B:Option Addr)(m cb:Nat)(L:List En)(l:List ByteArray)(s:ByteArray)(k:Int)(A:Option Addr)(n cap:Nat)(w:World)(hL:SlE w B m cb L)(hs:SlN w A n cap l):Calls Tryz.prog 4 #[slV M O G Y X B m cb A n cap s k] w (Ret (.bool (fewSL M O G Y X L l s k)) w):=by
 have hx0:=SL9.new w M O G Y X B m cb L A n cap s k l hL hs;obtain⟨W0,hW0⟩:∃ W,w.alloc (.cells #[.string M,.string O,.string G,.string Y,.string X,.slice B m cb,.slice A n cap,.string s,.int .i64 k] 32)=W:=⟨_,rfl⟩;rw[hW0]at hx0;have HX0:=Hq hx0;have HX1:=Hq (hx0.next ((Below.refl W0.heap.size W0).alloc nlr (.cells #[.string X] 22)));have HFW:=Hq (law33_Few M O G Y [X] _ 1 1 (by omega) _ (sln_alloc W0 [X] 22 (by simp)));have HFT:=Hq (fun W hs=>law11_Few l s k A n cap W hs);have HFE:=Hq (fun W hs=>few_entries L B m cb W hs);obtain⟨c0,c1,c2,c3,c4,c5,c6,c7,c8⟩:=HX0.out.cells;have HR:=Hq (show fewSL M O G Y X L l s k=(few33 M O G Y [X]&&(fewB L&&few11 l s k))from rfl);rw[HR.out];unfold slV kV tpV at *;clear hx0 hs hL
 cases h1:few33 M O G Y [X]with
 | false =>
  rw[h1]at HFW;rw[Bool.false_and];clear h1;go_enter Tryz.func4,Tryz.ntmps4;go_wp2_with fail;try rw[hW0]
  clear hW0;refine HFW.out.mono ?_;rintro ev w1 ⟨rfl,hb⟩;have HX2:=Hq (HX1.out.next hb);clear hb c0 c1 c2 c3 c4 c5 c6 c7 c8;obtain⟨c0,c1,c2,c3,c4,c5,c6,c7,c8⟩:=HX2.out.cells;go_wp2;go_ret;exact⟨rfl,HX2.out.2.2.2⟩
 | true =>
  rw[h1]at HFW;rw[Bool.true_and];clear h1;go_enter Tryz.func4,Tryz.ntmps4;go_wp2_with fail;try rw[hW0]
  clear hW0;refine HFW.out.mono ?_;rintro ev w1 ⟨rfl,hb⟩;have HX2:=Hq (HX1.out.next hb);clear hb c0 c1 c2 c3 c4 c5 c6 c7 c8;obtain⟨c0,c1,c2,c3,c4,c5,c6,c7,c8⟩:=HX2.out.cells;have HFB:=Hq (HFE.out _ HX2.out.2.1)
  cases h2:fewB L with
  | true =>
   rw[h2]at HFB;have H2:=Hq h2;clear h2;go_wp2_with fail;refine HFB.out.mono ?_;rintro ev w2 ⟨rfl,rfl⟩;have HFU:=Hq (HFT.out _ HX2.out.2.2.1);go_wp2_with fail;refine HFU.out.mono ?_;rintro ev w2 ⟨rfl,hb⟩;have HX3:=Hq (HX2.out.next hb);clear hb c0 c1 c2 c3 c4 c5 c6 c7 c8;go_wp2;go_ret;exact⟨by rw[H2.out];rfl,HX3.out.2.2.2⟩
  | false =>
   rw[h2]at HFB;have H2:=Hq h2;clear h2;go_wp2_with fail;refine HFB.out.mono ?_;rintro ev w2 ⟨rfl,rfl⟩;go_wp2;go_ret;exact⟨by rw[H2.out];rfl,HX2.out.2.2.2⟩
section
variable {P : Program} {ops : Array Oper} {Q : Exit → Act → World → Prop} {md : Region.Mode} {S : World → Prop} {k : Nat}
def Ghost2(P:Program)(md:Region.Mode)(ops:Array Oper)(Q:Exit→Act→World→Prop)(k:Nat)(S:World→Prop)(i1 i2:Nat)(d1 d2:Tmp)(fuel:Nat)(listed:Array Bool)(a:Act)(I:Bool→Value→Bool→Value→World→Prop):Prop:=
 (∀ y,GhostK P md ops Q k S i1 d1 fuel (listed.setIfInBounds i2 true) (a.put (some d2) y) (fun b x w=>I b x true y w))∧GhostK P md ops Q k S i1 d1 (fuel+1) listed a (fun b x w=>I b x false undef w)
theorem put_comm2(a:Act)(x v:Value){d e:Tmp}(h:d≠e):(a.put (some d) x).put (some e) v=(a.put (some e) v).put (some d) x:=Act.put_comm a x v (fun d' h1 h2=>by cases h1;cases h2;exact h rfl)
theorem ghost2_step{i1 i2 j:Nat}{o1 o2 oj:Oper}{d1 d2 dj:Tmp}{fuel:Nat}{listed:Array Bool}{a:Act}{I:Bool→Value→Bool→Value→World→Prop}{β:Type}(val:β→Value)(I':β→Bool→Value→Bool→Value→World→Prop)
 (hr0:Region.ready md ops listed=[j,i1,i2]) (hr1:Region.ready md ops (listed.setIfInBounds i1 true)=[j,i2]) (hr2:Region.ready md ops (listed.setIfInBounds i2 true)=[j,i1]) (hr3:Region.ready md ops ((listed.setIfInBounds i2 true).setIfInBounds i1 true)=[j])
 (h1:ops[i1]? =some o1) (h2:ops[i2]? =some o2) (hj:ops[j]? =some oj) (hD:Down md ops listed) (ha1:a.put (some d1) undef=a) (ha2:a.put (some d2) undef=a) (hne:i1≠i2) (hn1:i1≠j) (hn2:i2≠j) (n12:d1≠d2) (n1j:d1≠dj) (n2j:d2≠dj)
 (hS:∀ b x c y w,I b x c y w→S w) (hS':∀ v b x c y w,I' v b x c y w→S w)
 (al1:∀ c y w,I false undef c y w→∀ K:Act→World→Prop,(∀ x w',I true x c y w'→K ((a.put (some d2) y).put (some d1) x) w')→wpList P ops (EndK K Q) [o1] (a.put (some d2) y) w)
 (al2:∀ b x w,I b x false undef w→∀ K:Act→World→Prop,(∀ y w',I b x true y w'→K ((a.put (some d1) x).put (some d2) y) w')→wpList P ops (EndK K Q) [o2] (a.put (some d1) x) w)
 (st:∀ b x c y w,I b x c y w→∀ K:Act→World→Prop,(∀ v w',I' v b x c y w'→K (((a.put (some d2) y).put (some d1) x).put (some dj) (val v)) w')→wpList P ops (EndK K Q) [oj] ((a.put (some d2) y).put (some d1) x) w)
 (hnext:∀ v,Down md ops (listed.setIfInBounds j true)→Ghost2 P md ops Q k S i1 i2 d1 d2 fuel (listed.setIfInBounds j true) (a.put (some dj) (val v)) (I' v)) :
 Ghost2 P md ops Q k S i1 i2 d1 d2 (fuel+1) listed a I:=by
 have m1:i1∈Region.ready md ops listed:=by rw[hr0];simp
 have m2:i2∈Region.ready md ops listed:=by rw[hr0];simp
 have mj:j∈Region.ready md ops listed:=by rw[hr0];simp
 have hDj:=hD.set mj;have first:∀ y,GhostK P md ops Q k S i1 d1 (fuel+1) (listed.setIfInBounds i2 true) (a.put (some d2) y) (fun b x w=>I b x true y w):=fun y=>by
  refine ghost_step val (fun v b x w=>I' v b x true y w) hr2 hr3 h1 hj (hD.set m2) (by rw[put_comm2 _ _ _ n12.symm,ha1]) n1j (fun v b x w h=>hS' _ _ _ _ _ _ h) (fun b x w h=>hS _ _ _ _ _ h) (fun w h K hK=>al1 true y w h K hK) (fun b x w h K hK=>st b x true y w h K hK) (fun v _=>?_);have h:=(hnext v hDj).1 y;rw[put_comm2 _ _ _ n2j,Array.setIfInBounds_comm _ _ hn2];exact h
 have only1:∀ x w,I true x false undef w→wpAnyK P md ops Q k S (fuel+2) (listed.setIfInBounds i1 true) (a.put (some d1) x) w:=fun x w h=>by
  refine wpAnyK_two hr1 hj h2 (hD.set m1) (fun K hK=>?_) (fun K hK=>?_)
  · have h3:=st true x false undef w h K fun v w' h'=>by
     rw[ha2];refine hK _ w' (hS' _ _ _ _ _ _ h') fun _ _=>?_;rw[put_comm2 _ _ _ n1j,Array.setIfInBounds_comm _ _ hn1];exact(hnext v hDj).2.1 x w' h'
    rw[ha2]at h3;exact h3
  · exact al2 true x w h K fun y w' h'=>hK _ w' (hS _ _ _ _ _ h') fun _ _=>by
     rw[put_comm2 _ _ _ n12,Array.setIfInBounds_comm _ _ hne];exact(first y).1 x w' h'
 refine⟨first,only1,fun w h=>?_⟩;refine wpAnyK_three hr0 hj h1 h2 hD (fun K hK=>?_) (fun K hK=>?_) (fun K hK=>?_)
 · have h3:=st false undef false undef w h K fun v w' h'=>by
    rw[ha2,ha1];exact hK _ w' (hS' _ _ _ _ _ _ h') fun _ _=>(hnext v hDj).2.2 w' h'
   rw[ha2,ha1]at h3;exact h3
 · have h3:=al1 false undef w h K fun x w' h'=>by
    rw[ha2];exact hK _ w' (hS _ _ _ _ _ h') fun _ _=>only1 x w' h'
   rw[ha2]at h3;exact h3
 · have h3:=al2 false undef w h K fun y w' h'=>by
    rw[ha1];exact hK _ w' (hS _ _ _ _ _ h') fun _ _=>(first y).2 w' h'
   rw[ha1]at h3;exact h3
theorem ghost2_end{i1 i2:Nat}{o1 o2:Oper}{d1 d2:Tmp}{fuel:Nat}{listed:Array Bool}{a:Act}{I:Bool→Value→Bool→Value→World→Prop}
 (hr0:Region.ready md ops listed=[i1,i2]) (hr2:Region.ready md ops (listed.setIfInBounds i2 true)=[i1])
 (h1:ops[i1]? =some o1) (h2:ops[i2]? =some o2) (hD:Down md ops listed) (ha1:a.put (some d1) undef=a) (ha2:a.put (some d2) undef=a) (hne:i1≠i2) (n12:d1≠d2)
 (hS:∀ b x c y w,I b x c y w→S w)
 (al1:∀ c y w,I false undef c y w→∀ K:Act→World→Prop,(∀ x w',I true x c y w'→K ((a.put (some d2) y).put (some d1) x) w')→wpList P ops (EndK K Q) [o1] (a.put (some d2) y) w)
 (al2:∀ b x w,I b x false undef w→∀ K:Act→World→Prop,(∀ y w',I b x true y w'→K ((a.put (some d1) x).put (some d2) y) w')→wpList P ops (EndK K Q) [o2] (a.put (some d1) x) w)
 (hnext:∀ x,Down md ops (listed.setIfInBounds i1 true)→GhostK P md ops Q k S i2 d2 fuel (listed.setIfInBounds i1 true) (a.put (some d1) x) (fun c y w=>I true x c y w)) :
 Ghost2 P md ops Q k S i1 i2 d1 d2 fuel listed a I:=by
 have m1:i1∈Region.ready md ops listed:=by rw[hr0];simp
 have m2:i2∈Region.ready md ops listed:=by rw[hr0];simp
 have hD1:=hD.set m1;have both:∀ x y w,I true x true y w→wpAnyK P md ops Q k S fuel ((listed.setIfInBounds i2 true).setIfInBounds i1 true) ((a.put (some d2) y).put (some d1) x) w:=fun x y w h=>by
  have h3:=(hnext x hD1).1 y w h;rw[put_comm2 _ _ _ n12,Array.setIfInBounds_comm _ _ hne]at h3;exact h3
 have only2:∀ y w,I false undef true y w→wpAnyK P md ops Q k S (fuel+1) (listed.setIfInBounds i2 true) (a.put (some d2) y) w:=fun y w h =>
  wpAnyK_one hr2 h1 (hD.set m2) fun K hK=>al1 true y w h K fun x w' h'=>hK _ w' (hS _ _ _ _ _ h') fun _ _=>both x y w' h'
 refine⟨fun y=>⟨fun x w h=>both x y w h,fun w h=>only2 y w h⟩,fun x w h=>(hnext x hD1).2 w h,fun w h=>?_⟩;refine wpAnyK_two hr0 h1 h2 hD (fun K hK=>?_) (fun K hK=>?_)
 · have h3:=al1 false undef w h K fun x w' h'=>by
    rw[ha2];exact hK _ w' (hS _ _ _ _ _ h') fun _ _=>(hnext x hD1).2 w' h'
   rw[ha2]at h3;exact h3
 · have h3:=al2 false undef w h K fun y w' h'=>by
    rw[ha1];exact hK _ w' (hS _ _ _ _ _ h') fun _ _=>only2 y w' h'
   rw[ha1]at h3;exact h3
end
end Go.Proofs.YtfbmbledklbfgaaGreatDoor

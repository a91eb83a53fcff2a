import Derived.Test.YtfbmbledklbfgaaGreatQCtB
set_option linter.unusedVariables false
set_option linter.unusedSimpArgs false
namespace Go.Proofs.YtfbmbledklbfgaaGreat
set_option maxRecDepth 100000
set_option maxHeartbeats 4000000
open Go.RowKit Go.Lib
def SB(w W:World)(M O G H:ByteArray):Prop:=Bx4 W w.heap.size (.string M) (.string O) (.string G) (.string H) 26∧Below w.heap.size w W
theorem SB.new(w:World)(M O G H:ByteArray):SB w (w.alloc (.cells #[.string M,.string O,.string G,.string H] 26)) M O G H:=⟨Bx4.new _ _ _ _ _ _,(blr).alloc nlr _⟩
theorem SB.next{w W W':World}{M O G H:ByteArray}(h:SB w W M O G H)(hb:Below W.heap.size W W'):SB w W' M O G H:=⟨h.1.next hb,h.2.trans (hb.mono h.2.size)⟩
theorem all_four{M O G Y:ByteArray}(h:[M,O,G,Y].all nvalid=true):nvalid M=true∧nvalid O=true∧nvalid G=true∧nvalid Y=true:=by
 simp only[List.all_cons,List.all_nil,Bool.and_true,Bool.and_eq_true]at h;exact⟨h.1,h.2.1,h.2.2.1,h.2.2.2⟩
theorem chk_small{M O G Y:ByteArray}(h:[M,O,G,Y].all nvalid=true)(hM:M.size≤8)(hc:chkK M O=0):O.size≤8:=by
 by_cases h8:O.size≤8
 · exact h8
 · obtain⟨a,b,c,d⟩:=all_four h;have:=chkK_long (M:=M) (O:=O) (G:=G) (H:=Y) (by unfold kF;rw[a,b,c,d];rfl) hM h8;rw[hc]at this;cases this
theorem sc_Check(M O G Y:ByteArray)(hM:M.size≤8)(hO:O.size≤100)(hG:G.size≤1000)(hY:Y.size≤1000)(w:World):Calls Tryz.prog 53 #[kV M O G Y] w (Ret (.int .i64 (scK M O G Y)) w):=by
 have hk0:=SB.new w M O G Y;obtain⟨W0,hW0⟩:∃ W,w.alloc (.cells #[.string M,.string O,.string G,.string Y] 26)=W:=⟨_,rfl⟩;rw[hW0]at hk0;have HK0:=Hq hk0;have hsl:=sln_alloc W0 [M,O,G,Y] 22 (by simp);have hbb:=(Below.refl W0.heap.size W0).alloc nlr (.cells #[.string M,.string O,.string G,.string Y] 22);have HK1:=Hq (hk0.next hbb);have hlz:∀ z∈[M,O,G,Y],z.size≤9223372036854775807:=fun z hz=>by
  simp at hz;rcases hz with h | h | h | h<;>subst h<;>omega
 obtain⟨W1,hW1⟩:∃ W,W0.alloc (.cells #[.string M,.string O,.string G,.string Y] 22)=W:=⟨_,rfl⟩;have HSL:=Hq (show SlN W1 (some ⟨W0.heap.size,0,none⟩) 4 4 [M,O,G,Y]from hW1▸hsl);rw[hW1]at HK1;obtain⟨c0,c1,c2,c3⟩:=hk0.1.cells;clear hk0 hsl hbb;have HFM:=Hq (sc_formed [M,O,G,Y] _ 4 4 (by omega) hlz W1 HSL.out);have HCK:=Hq (pw_CheckW M O hM hO);have HG:=Hq (fun(h:O.size≤8) x (hx:nvalid x=true)=>sc_generator M O x hM h hx);have HMS:=Hq hM;clear hM hO hG hY hlz;unfold kV
 cases hv:[M,O,G,Y].all nvalid with
 | false =>
  have HR:=Hq (show scK M O G Y=3 from by unfold scK;rw[if_neg (by rw[hv];decide)]);rw[hv]at HFM;rw[HR.out];clear hv;unfold gV at *;go_enter Tryz.func53,Tryz.ntmps53;go_wp2_with fail;try rw[hW1]
  clear hW0 hW1;refine HFM.out.mono ?_;rintro ev w2 ⟨rfl,rfl⟩;clear c0 c1 c2 c3;obtain⟨c0,c1,c2,c3⟩:=HK1.out.1.cells;go_wp2;go_ret;exact⟨rfl,HK1.out.2⟩
 | true =>
  rw[hv]at HFM;by_cases hc:chkK M O=0
  · have h8:=chk_small hv HMS.out hc;obtain⟨v1,v2,v3,v4⟩:=all_four hv;have HGG:=Hq (HG.out h8 G v3);have HGY:=Hq (HG.out h8 Y v4);have HR:=Hq (show scK M O G Y=if (O.toList.isEmpty || !genK M O G || !genK M O Y)=true then 13 else 0 from by unfold scK;rw[if_pos hv,if_pos hc]);rw[hc]at HCK;rw[HR.out];clear hv hc h8 v1 v2 v3 v4
    cases ho:O.toList.isEmpty with
    | true =>
     simp only[Bool.true_or,if_true];unfold gV at *;go_enter Tryz.func53,Tryz.ntmps53;go_wp2_with fail;try rw[hW1]
     clear hW0 hW1;refine HFM.out.mono ?_;rintro ev w2 ⟨rfl,rfl⟩;clear c0 c1 c2 c3;obtain⟨c0,c1,c2,c3⟩:=HK1.out.1.cells;go_wp2_with fail;refine(HCK.out _).mono ?_;rintro ev w3 ⟨rfl,hb⟩;have hk:=HK1.out.next hb;have HK3:=Hq hk;clear hb c0 c1 c2 c3;obtain⟨c0,c1,c2,c3⟩:=hk.1.cells;clear hk;go_wp2;go_ret;exact⟨rfl,HK3.out.2⟩
    | false =>
     cases hg:genK M O G with
     | false =>
      rw[hg]at HGG;simp only[Bool.not_false,Bool.or_true,Bool.true_or,if_true];clear hg;unfold gV at *;go_enter Tryz.func53,Tryz.ntmps53;go_wp2_with fail;try rw[hW1]
      clear hW0 hW1;refine HFM.out.mono ?_;rintro ev w2 ⟨rfl,rfl⟩;clear c0 c1 c2 c3;obtain⟨c0,c1,c2,c3⟩:=HK1.out.1.cells;go_wp2_with fail;refine(HCK.out _).mono ?_;rintro ev w3 ⟨rfl,hb⟩;have hk:=HK1.out.next hb;have HK3:=Hq hk;clear hb c0 c1 c2 c3;obtain⟨c0,c1,c2,c3⟩:=hk.1.cells;clear hk;go_wp2_with fail;refine(HGG.out _).mono ?_;rintro ev w4 ⟨rfl,hb⟩;have hk:=HK3.out.next hb;have HK4:=Hq hk;clear hb c0 c1 c2 c3;obtain⟨c0,c1,c2,c3⟩:=hk.1.cells;clear hk;go_wp2;go_ret;exact⟨rfl,HK4.out.2⟩
     | true =>
      rw[hg]at HGG;obtain⟨gy,hgy⟩:∃ z,genK M O Y=z:=⟨_,rfl⟩;rw[hgy]at HGY⊢;clear hg hgy
      cases gy with
      | false =>
       simp only[Bool.not_false,Bool.not_true,Bool.or_true,Bool.false_or,Bool.or_false,if_true];unfold gV at *;go_enter Tryz.func53,Tryz.ntmps53;go_wp2_with fail;try rw[hW1]
       clear hW0 hW1;refine HFM.out.mono ?_;rintro ev w2 ⟨rfl,rfl⟩;clear c0 c1 c2 c3;obtain⟨c0,c1,c2,c3⟩:=HK1.out.1.cells;go_wp2_with fail;refine(HCK.out _).mono ?_;rintro ev w3 ⟨rfl,hb⟩;have hk:=HK1.out.next hb;have HK3:=Hq hk;clear hb c0 c1 c2 c3;obtain⟨c0,c1,c2,c3⟩:=hk.1.cells;clear hk;go_wp2_with fail;refine(HGG.out _).mono ?_;rintro ev w4 ⟨rfl,hb⟩;have hk:=HK3.out.next hb;have HK4:=Hq hk;clear hb c0 c1 c2 c3;obtain⟨c0,c1,c2,c3⟩:=hk.1.cells;clear hk;go_wp2_with fail;refine(HGY.out _).mono ?_;rintro ev w5 ⟨rfl,hb⟩;have hk:=HK4.out.next hb;have HK5:=Hq hk;clear hb c0 c1 c2 c3;obtain⟨c0,c1,c2,c3⟩:=hk.1.cells;clear hk;go_wp2;go_ret;exact⟨rfl,HK5.out.2⟩
      | true =>
       simp only[Bool.not_true,Bool.or_false,Bool.false_eq_true,if_false];unfold gV at *;go_enter Tryz.func53,Tryz.ntmps53;go_wp2_with fail;try rw[hW1]
       clear hW0 hW1;refine HFM.out.mono ?_;rintro ev w2 ⟨rfl,rfl⟩;clear c0 c1 c2 c3;obtain⟨c0,c1,c2,c3⟩:=HK1.out.1.cells;go_wp2_with fail;refine(HCK.out _).mono ?_;rintro ev w3 ⟨rfl,hb⟩;have hk:=HK1.out.next hb;have HK3:=Hq hk;clear hb c0 c1 c2 c3;obtain⟨c0,c1,c2,c3⟩:=hk.1.cells;clear hk;go_wp2_with fail;refine(HGG.out _).mono ?_;rintro ev w4 ⟨rfl,hb⟩;have hk:=HK3.out.next hb;have HK4:=Hq hk;clear hb c0 c1 c2 c3;obtain⟨c0,c1,c2,c3⟩:=hk.1.cells;clear hk;go_wp2_with fail;refine(HGY.out _).mono ?_;rintro ev w5 ⟨rfl,hb⟩;have hk:=HK4.out.next hb;have HK5:=Hq hk;clear hb c0 c1 c2 c3;obtain⟨c0,c1,c2,c3⟩:=hk.1.cells;clear hk;go_wp2;go_ret;exact⟨rfl,HK5.out.2⟩
  · have HR:=Hq (show scK M O G Y=chkK M O from by unfold scK;rw[if_pos hv,if_neg hc]);obtain⟨e,he⟩:∃ e,chkK M O=e:=⟨_,rfl⟩;rw[HR.out];rw[he]at HCK hc⊢;clear hv he;unfold gV at *;go_enter Tryz.func53,Tryz.ntmps53;go_wp2_with fail;try rw[hW1]
    clear hW0 hW1;refine HFM.out.mono ?_;rintro ev w2 ⟨rfl,rfl⟩;clear c0 c1 c2 c3;obtain⟨c0,c1,c2,c3⟩:=HK1.out.1.cells;go_wp2_with fail;refine(HCK.out _).mono ?_;rintro ev w3 ⟨rfl,hb⟩;have hk:=HK1.out.next hb;have HK3:=Hq hk;clear hb c0 c1 c2 c3;obtain⟨c0,c1,c2,c3⟩:=hk.1.cells;clear hk;go_wp2;go_ret;exact⟨rfl,HK3.out.2⟩
set_option maxRecDepth 100000
set_option maxHeartbeats 4000000
theorem SlN.cellC{w:World}{b n c:Nat}{l:List ByteArray}(h:SlN w (some ⟨b,0,none⟩) n c l){k:Nat}{s:ByteArray}(hk:l[k]? =some s):w.cell? ⟨b,k,none⟩=some (.string s):=by
 have:=h.get? k hk;rwa[Nat.zero_add]at this
theorem r33_Check(M O G Y:ByteArray)(hM:M.size≤8)(hO:O.size≤100)(hG:G.size≤1000)(hY:Y.size≤1000)(w:World):Calls Tryz.prog 58 #[kV M O G Y] w (Ret (.int .i64 (scK M O G Y)) w):=by
 have hk0:=SB.new w M O G Y;obtain⟨W0,hW0⟩:∃ W,w.alloc (.cells #[.string M,.string O,.string G,.string Y] 26)=W:=⟨_,rfl⟩;rw[hW0]at hk0;have HK0:=Hq hk0;have hsl:=sln_alloc W0 [M,O,G,Y] 22 (by simp);have hbb:=(Below.refl W0.heap.size W0).alloc nlr (.cells #[.string M,.string O,.string G,.string Y] 22);have HK1:=Hq (hk0.next hbb);have hlz:∀ z∈[M,O,G,Y],z.size≤9223372036854775807:=fun z hz=>by
  simp at hz;rcases hz with h | h | h | h<;>subst h<;>omega
 obtain⟨W1,hW1⟩:∃ W,W0.alloc (.cells #[.string M,.string O,.string G,.string Y] 22)=W:=⟨_,rfl⟩;have HSL:=Hq (show SlN W1 (some ⟨W0.heap.size,0,none⟩) 4 4 [M,O,G,Y]from hW1▸hsl);rw[hW1]at HK1;obtain⟨c0,c1,c2,c3⟩:=hk0.1.cells;clear hk0 hsl hbb;have HLZ:=Hq hlz;have HCK:=Hq (r13_CheckW M O hM hO);have HG:=Hq (fun(h:O.size≤8) x (hx:nvalid x=true)=>r33_generator M O x hM h hx);have HMS:=Hq hM;clear hM hO hG hY hlz;obtain⟨R,hR⟩:∃ R,scK M O G Y=R:=⟨_,rfl⟩;have HR:=Hq hR;rw[hR];clear hR;unfold kV gV at *;go_enter Tryz.func58,Tryz.ntmps58;go_wp2;try rw[hW1]
 clear hW0 hW1;go_loopw [4] (fun i wr=>∃ k:Nat,k≤4∧i=.int .i64 k∧(∀ j,j<k→∃ s,[M,O,G,Y][j]? =some s∧nvalid s=true)∧wr=W1) (fun i _=>4 - (RowKit.intOf i).toNat);case atStart=>exact⟨0,Nat.zero_le _,rfl,fun j h=>by omega,rfl⟩
 case round =>
  obtain⟨k,hk,rfl,hall,rfl⟩:=hrel;have HALL:=Hq hall;clear hall c0 c1 c2 c3;obtain⟨c0,c1,c2,c3⟩:=HK1.out.1.cells;by_cases hlt:k<4
  · obtain⟨x,he⟩:∃ s,[M,O,G,Y][k]? =some s:=⟨_,List.getElem?_eq_getElem hlt⟩;have d0:=HSL.out.cellC he;have HE:=Hq he;have HV:=Hq (r01_Valid x (HLZ.out x (List.mem_of_getElem? he)));have hki:(k:Int)<4:=by omega
    have HKN:=Hq hlt;clear he hk hlt
    cases hvx:nvalid x with
    | false =>
     rw[hvx]at HV;have HR3:=Hq (show R=3 from by rw[←HR.out];unfold scK;rw[if_neg (nall_false HE.out hvx)]);clear hvx;go_wp2_with fail;refine(HV.out _).mono ?_;rintro ev w2 ⟨rfl,rfl⟩;go_wp2;go_ret;exact⟨by rw[HR3.out];rfl,HK1.out.2⟩
    | true =>
     rw[hvx]at HV;have HA2:=Hq (show ∀ j,j<k+1→∃ s,[M,O,G,Y][j]? =some s∧nvalid s=true from fun j hj=>by
      by_cases e:j=k
      · subst e;exact⟨x,HE.out,hvx⟩
      · exact HALL.out j (by omega))
     clear hvx;go_wp2_with fail;refine(HV.out _).mono ?_;rintro ev w2 ⟨rfl,rfl⟩;go_wp2;refine⟨⟨k+1,by have:=HKN.out;omega,by go_num,HA2.out,trivial⟩,?_⟩;have:=HKN.out;simp[RowKit.intOf];omega
  · have hkn:k=4:=by omega
    have hv:[M,O,G,Y].all nvalid=true:=nall_true fun j hj=>HALL.out j (by rw[hkn];exact hj);have hge:¬ ((k:Int)<4):=by omega
    clear hkn hk hlt;by_cases hc:chkK M O=0
    · have h8:=chk_small hv HMS.out hc;obtain⟨v1,v2,v3,v4⟩:=all_four hv;have HGG:=Hq (HG.out h8 G v3);have HGY:=Hq (HG.out h8 Y v4);have HRR:=Hq (show R=if (O.toList.isEmpty || !genK M O G || !genK M O Y)=true then 13 else 0 from by rw[←HR.out];unfold scK;rw[if_pos hv,if_pos hc]);rw[hc]at HCK;clear hv hc h8 v1 v2 v3 v4
      cases ho:O.toList.isEmpty with
      | true =>
       rw[ho]at HGG;rw[ho]at HRR;simp only[Bool.not_true,Bool.false_and]at HGG;simp only[Bool.true_or,if_true]at HRR;clear ho;go_wp2_with fail;refine(HCK.out _).mono ?_;rintro ev w3 ⟨rfl,hb⟩;have hk:=HK1.out.next hb;have HK3:=Hq hk;clear hb c0 c1 c2 c3;obtain⟨c0,c1,c2,c3⟩:=hk.1.cells;clear hk;go_wp2_with fail;refine(HGG.out _).mono ?_;rintro ev w4 ⟨rfl,hb⟩;have hk:=HK3.out.next hb;have HK4:=Hq hk;clear hb c0 c1 c2 c3;obtain⟨c0,c1,c2,c3⟩:=hk.1.cells;clear hk;go_wp2;go_ret;exact⟨by rw[HRR.out];rfl,HK4.out.2⟩
      | false =>
       rw[ho]at HGG HGY HRR;simp only[Bool.not_false,Bool.true_and]at HGG HGY;simp only[Bool.false_or]at HRR;clear ho;obtain⟨gg,hgg⟩:∃ z,genK M O G=z:=⟨_,rfl⟩;obtain⟨gy,hgy⟩:∃ z,genK M O Y=z:=⟨_,rfl⟩;rw[hgg]at HGG HRR;rw[hgy]at HGY HRR;clear hgg hgy
       cases gg with
       | false =>
        simp only[Bool.not_false,Bool.true_or,if_true]at HRR;go_wp2_with fail;refine(HCK.out _).mono ?_;rintro ev w3 ⟨rfl,hb⟩;have hk:=HK1.out.next hb;have HK3:=Hq hk;clear hb c0 c1 c2 c3;obtain⟨c0,c1,c2,c3⟩:=hk.1.cells;clear hk;go_wp2_with fail;refine(HGG.out _).mono ?_;rintro ev w4 ⟨rfl,hb⟩;have hk:=HK3.out.next hb;have HK4:=Hq hk;clear hb c0 c1 c2 c3;obtain⟨c0,c1,c2,c3⟩:=hk.1.cells;clear hk;go_wp2;go_ret;exact⟨by rw[HRR.out];rfl,HK4.out.2⟩
       | true =>
        go_wp2_with fail;refine(HCK.out _).mono ?_;rintro ev w3 ⟨rfl,hb⟩;have hk:=HK1.out.next hb;have HK3:=Hq hk;clear hb c0 c1 c2 c3;obtain⟨c0,c1,c2,c3⟩:=hk.1.cells;clear hk;go_wp2_with fail;refine(HGG.out _).mono ?_;rintro ev w4 ⟨rfl,hb⟩;have hk:=HK3.out.next hb;have HK4:=Hq hk;clear hb c0 c1 c2 c3;obtain⟨c0,c1,c2,c3⟩:=hk.1.cells;clear hk;go_wp2_with fail;refine(HGY.out _).mono ?_;rintro ev w5 ⟨rfl,hb⟩;have hk:=HK4.out.next hb;have HK5:=Hq hk;clear hb c0 c1 c2 c3;obtain⟨c0,c1,c2,c3⟩:=hk.1.cells;clear hk
        cases gy with
        | false =>
         simp only[Bool.not_false,Bool.not_true,Bool.false_or,if_true]at HRR;go_wp2;go_ret;exact⟨by rw[HRR.out];rfl,HK5.out.2⟩
        | true =>
         simp only[Bool.not_true,Bool.or_false,Bool.false_eq_true,if_false]at HRR;go_wp2;go_ret;exact⟨by rw[HRR.out];rfl,HK5.out.2⟩
    · have HRR:=Hq (show R=chkK M O from by rw[←HR.out];unfold scK;rw[if_pos hv,if_neg hc]);obtain⟨e,he⟩:∃ e,chkK M O=e:=⟨_,rfl⟩;rw[he]at HCK hc HRR;clear hv he;go_wp2_with fail;refine(HCK.out _).mono ?_;rintro ev w3 ⟨rfl,hb⟩;have hk:=HK1.out.next hb;have HK3:=Hq hk;clear hb c0 c1 c2 c3;obtain⟨c0,c1,c2,c3⟩:=hk.1.cells;clear hk;go_wp2;go_ret;exact⟨by rw[HRR.out];rfl,HK3.out.2⟩
set_option maxRecDepth 100000
set_option maxHeartbeats 1000000
theorem cmpI_ltC{x y:Nat}:(cmpI x y<0)=(x<y):=by
 unfold cmpI;rw[eq_iff_iff];split
 · simp_all
 · split<;>simp_all
def SG(w W:World)(M O G Y c r:ByteArray):Prop:=SB w W M O G Y∧Bx2 W (w.heap.size+1) (.string c) (.string r) 28
theorem SG.new(w:World)(M O G Y c r:ByteArray):SG w ((w.alloc (.cells #[.string M,.string O,.string G,.string Y] 26)).alloc (.cells #[.string c,.string r] 28)) M O G Y c r:=by
 refine⟨(SB.new w M O G Y).next ((blr).alloc nlr _),?_⟩;have:=Bx2.new (w.alloc (.cells #[.string M,.string O,.string G,.string Y] 26)) (.string c) (.string r) 28;rwa[World.size_alloc]at this
theorem SG.next{w W W':World}{M O G Y c r:ByteArray}(h:SG w W M O G Y c r)(hb:Below W.heap.size W W'):SG w W' M O G Y c r:=⟨h.1.next hb,h.2.next hb⟩
theorem sc_below(M O G Y c r:ByteArray)(vO:nvalid O=true)(vc:nvalid c=true)(vr:nvalid r=true)(w:World):Calls Tryz.prog 55 #[kV M O G Y,.agg #[.string c,.string r]] w (Ret (.bool (decide (num c<num O∧num r<num O))) w):=by
 have lO:=nvalid_lt vO;have lc:=nvalid_lt vc;have lr:=nvalid_lt vr;have HC1:=Hq (nat_Cmp (nS (num c)) (nS (num O)) (by have:=nS_size_le.2 lc;omega) (by have:=nS_size_le.2 lO;omega));have HC2:=Hq (nat_Cmp (nS (num r)) (nS (num O)) (by have:=nS_size_le.2 lr;omega) (by have:=nS_size_le.2 lO;omega));rw[ncmp_n lc lO,←nS_num vc,←nS_num vO]at HC1;rw[ncmp_n lr lO,←nS_num vr,←nS_num vO]at HC2;have h1:=cmpI_ltC (x:=num c) (y:=num O);have h2:=cmpI_ltC (x:=num r) (y:=num O);obtain⟨k1,hk1⟩:∃ k,cmpI (num c) (num O)=k:=⟨_,rfl⟩;obtain⟨k2,hk2⟩:∃ k,cmpI (num r) (num O)=k:=⟨_,rfl⟩;rw[hk1]at HC1 h1;rw[hk2]at HC2 h2;have HX0:=Hq (SG.new w M O G Y c r);obtain⟨W0,hW0⟩:∃ W,(w.alloc (.cells #[.string M,.string O,.string G,.string Y] 26)).alloc (.cells #[.string c,.string r] 28)=W:=⟨_,rfl⟩;rw[hW0]at HX0;obtain⟨c0,c1,c2,c3⟩:=HX0.out.1.1.cells;have d0:=HX0.out.2.c0;have d1:=HX0.out.2.c1;by_cases ha:num c<num O
 · have hneg:k1<0:=by rw[h1];exact ha
   have HR:=Hq (show decide (num c<num O∧num r<num O)=decide (k2<0)from by
    rw[decide_eq_decide,h2];exact⟨fun h=>h.2,fun h=>⟨ha,h⟩⟩)
   rw[HR.out];unfold kV;clear hk1 hk2 h1 h2 ha lO lc lr;go_enter Tryz.func55,Tryz.ntmps55;go_wp2_with fail;try rw[hW0]
   clear hW0;refine(HC1.out _).mono ?_;rintro ev w1 ⟨rfl,rfl⟩;go_wp2_with fail;refine(HC2.out _).mono ?_;rintro ev w2 ⟨rfl,rfl⟩;go_wp2;go_ret;exact⟨rfl,HX0.out.1.2⟩
 · have hneg:¬ (k1<0):=by rw[h1];exact ha
   have HR:=Hq (show decide (num c<num O∧num r<num O)=false from decide_eq_false fun h=>ha h.1);rw[HR.out];unfold kV;clear hk1 hk2 h1 h2 ha lO lc lr;go_enter Tryz.func55,Tryz.ntmps55;go_wp2_with fail;try rw[hW0]
   clear hW0;refine(HC1.out _).mono ?_;rintro ev w1 ⟨rfl,rfl⟩;go_wp2;go_ret;exact⟨rfl,HX0.out.1.2⟩
theorem scK_ok{M O G Y:ByteArray}(h:scK M O G Y=0):[M,O,G,Y].all nvalid=true∧chkK M O=0∧num O≠0∧genK M O G=true∧genK M O Y=true:=by
 unfold scK at h;split at h
 · rename_i hv;split at h
   · rename_i hc;split at h
     · cases h
     · rename_i hn;have hn:(O.toList.isEmpty || !genK M O G || !genK M O Y)=false:=by simpa using hn
       rw[Bool.or_eq_false_iff,Bool.or_eq_false_iff]at hn;refine⟨hv,hc,fun e=>?_,by simpa using hn.1.2,by simpa using hn.2⟩;have:=hn.1.1;rw[nS_num (all_four hv).2.1,e]at this;rw[show (nS 0).toList.isEmpty=true from sempty_true rfl]at this;cases this
   · rename_i hc;exact absurd h hc
 · cases h
theorem genK_parts{M O x:ByteArray}(h:genK M O x=true):hasN (num M) (num O) (num x)=true∧nvalid x=true∧num x≠1:=by
 unfold genK at h;rw[Bool.and_eq_true]at h;have hk:=hasK_parts h.1;refine⟨hk.2.2,hk.2.1,fun e=>?_⟩;have:=h.2;rw[nS_num hk.2.1,nS_is1,e]at this;simp at this
end Go.Proofs.YtfbmbledklbfgaaGreat

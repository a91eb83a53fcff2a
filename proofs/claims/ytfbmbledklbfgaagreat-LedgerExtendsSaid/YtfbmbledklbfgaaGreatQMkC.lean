import Derived.Test.YtfbmbledklbfgaaGreatQLsB
set_option linter.unusedVariables false
set_option linter.unusedSimpArgs false
namespace Go.Proofs.YtfbmbledklbfgaaGreat
set_option maxRecDepth 100000
set_option maxHeartbeats 4000000
open Go.RowKit Go.Lib
def veB(M O G Y c r msg:ByteArray):Bool:=decide (chS M O G Y (cmS (num M) (num O) (num G) (num Y) (num c) (num r)) msg=num c)
def veK(M O G Y c r msg:ByteArray):Int:=
 if scK M O G Y=0 then(if (nvalid c&&nvalid r)=true then(if (decide (num c<num O)&&(decide (num r<num O)&&veB M O G Y c r msg))=true then 0 else 19)else 3)else scK M O G Y
theorem chS_fold(M O G Y msg:ByteArray)(x:Nat):chL (snL M.data.toList O.data.toList G.data.toList Y.data.toList (nS x).data.toList msg.data.toList) O.size (num O)=chS M O G Y x msg:=rfl
theorem field_run(R:ByteArray)(w:World):(Instr.field 115 (.agg #[.string R]) 0).run Tryz.prog w=.ok (.string R) w:=by kernel_rfl
theorem sc_Verify(M O G Y c r msg:ByteArray)(hM:M.size≤8)(hO:O.size≤100)(hG:G.size≤1000)(hY:Y.size≤1000)(hc:c.size≤1000)(hr:r.size≤1000)(hm:msg.size≤1000000)(w:World) :
 Calls Tryz.prog 22 #[kV M O G Y,.string msg,.agg #[.string c,.string r]] w (Ret (.int .i64 (veK M O G Y c r msg)) w):=by
 have hx0:=SG.new w M O G Y c r;obtain⟨W0,hW0⟩:∃ W,((w.alloc (.cells #[.string M,.string O,.string G,.string Y] 26)).alloc (.cells #[.string c,.string r] 28))=W:=⟨_,rfl⟩;rw[hW0]at hx0;have HX0:=Hq hx0;obtain⟨c0,c1,c2,c3⟩:=hx0.1.1.cells;have s0:=hx0.2.c0;have s1:=hx0.2.c1;clear hx0;have HCK:=Hq (sc_Check M O G Y hM hO hG hY);have HFM:=Hq (fun W:World=>sc_formed [c,r] (some ⟨W.heap.size,0,none⟩) 2 2 (by omega) (by
  intro z hz;simp at hz
  rcases hz with h | h<;>subst h<;>omega) (W.alloc (.cells #[.string c,.string r] 22)) (sln_alloc W [c,r] 22 (by simp)))
 rw[show ([c,r].all nvalid)=(nvalid c&&nvalid r)from by simp]at HFM;by_cases hk:scK M O G Y=0
 · rw[hk]at HCK
   cases hv:(nvalid c&&nvalid r)with
   | false =>
    rw[hv]at HFM;rw[show veK M O G Y c r msg=3 from by unfold veK;rw[if_pos hk,hv,if_neg (by decide)]];unfold kV at *;clear hv hk;go_enter Tryz.func22,Tryz.ntmps22;go_wp2_with fail;try rw[hW0]
    clear hW0;refine(HCK.out _).mono ?_;rintro ev w1 ⟨rfl,hb⟩;have HX1:=Hq (HX0.out.next hb);clear hb c0 c1 c2 c3 s0 s1;obtain⟨c0,c1,c2,c3⟩:=HX1.out.1.1.cells;have s0:=HX1.out.2.c0;have s1:=HX1.out.2.c1;have HX2:=Hq (HX1.out.next ((Below.refl w1.heap.size w1).alloc nlr (.cells #[.string c,.string r] 22)));go_wp2_with fail;refine(HFM.out _).mono ?_;rintro ev w2 ⟨rfl,rfl⟩;clear c0 c1 c2 c3 s0 s1;go_wp2;go_ret;exact⟨rfl,HX2.out.1.2⟩
   | true =>
    rw[hv]at HFM;obtain⟨vc,vr⟩:=Bool.and_eq_true_iff.1 hv;obtain⟨hv4,hck,hz,hg,hy⟩:=scK_ok hk;obtain⟨v1,v2,v3,v4⟩:=all_four hv4;have h8:=chk_small hv4 hM hck;have HBL:=Hq (sc_below M O G Y c r v2 vc vr);have HV:=Hq (show veK M O G Y c r msg=(if (decide (num c<num O)&&(decide (num r<num O)&&veB M O G Y c r msg))=true then 0 else 19)from by unfold veK;rw[if_pos hk,hv,if_pos rfl]);by_cases hbl:num c<num O∧num r<num O
    · rw[decide_eq_true hbl]at HBL;have HCO:=Hq (sc_commitmentOf M O G Y c r hM hk vc vr hbl.1);have hRz:(nS (cmS (num M) (num O) (num G) (num Y) (num c) (num r))).size≤1000000:=by
       have hm0:0<num M:=(by obtain⟨i,hu⟩:=has_un (chkK_parts hck).2.2 (genK_parts hg).1;have:=hu.1;omega);have h9:=num_small hM;have : cmS (num M) (num O) (num G) (num Y) (num c) (num r)<num M:=Nat.mod_lt _ hm0;have : (nS (cmS (num M) (num O) (num G) (num Y) (num c) (num r))).size≤128:=nS_size_le.2 (lt128_of_lt8 (by omega));omega
      have HCH:=Hq (sc_challenge M O G Y (nS (cmS (num M) (num O) (num G) (num Y) (num c) (num r))) msg hM h8 (by omega) (by omega) hRz hm v2 (by omega));rw[chS_fold]at HCH;have hbe:=nS_beq (chS M O G Y (cmS (num M) (num O) (num G) (num Y) (num c) (num r)) msg) (num c);rw[←nS_num vc]at hbe;have HV2:=Hq (show veK M O G Y c r msg=if veB M O G Y c r msg=true then 0 else 19 from by rw[HV.out,decide_eq_true hbl.1,decide_eq_true hbl.2];rfl);have hvb:veB M O G Y c r msg=decide (chS M O G Y (cmS (num M) (num O) (num G) (num Y) (num c) (num r)) msg=num c):=rfl;rw[←hvb]at hbe;obtain⟨R,hR⟩:∃ R,nS (cmS (num M) (num O) (num G) (num Y) (num c) (num r))=R:=⟨_,rfl⟩;obtain⟨x,hx⟩:∃ x,nS (chS M O G Y (cmS (num M) (num O) (num G) (num Y) (num c) (num r)) msg)=x:=⟨_,rfl⟩;rw[hR]at HCO HCH;rw[hx]at HCH hbe;obtain⟨b,hb⟩:∃ b,veB M O G Y c r msg=b:=⟨_,rfl⟩;rw[hb]at hbe HV2;unfold kV at *;clear hv hk vc vr hv4 hck hz hg hy v1 v2 v3 v4 h8 hbl hRz hR hx hvb hb HV hM hO hG hY hc hr hm
      cases b with
      | false =>
       rw[show veK M O G Y c r msg=19 from HV2.out];go_enter Tryz.func22,Tryz.ntmps22;go_wp2_with fail;try rw[hW0]
       clear hW0;refine(HCK.out _).mono ?_;rintro ev w1 ⟨rfl,hb⟩;have HX1:=Hq (HX0.out.next hb);clear hb c0 c1 c2 c3 s0 s1;obtain⟨c0,c1,c2,c3⟩:=HX1.out.1.1.cells;have s0:=HX1.out.2.c0;have s1:=HX1.out.2.c1;have HX2:=Hq (HX1.out.next ((Below.refl w1.heap.size w1).alloc nlr (.cells #[.string c,.string r] 22)));go_wp2_with fail;refine(HFM.out _).mono ?_;rintro ev w2 ⟨rfl,rfl⟩;clear c0 c1 c2 c3 s0 s1;go_wp2;obtain⟨wd,hwd⟩:∃ wd,World.drew (w1.alloc (.cells #[.string c,.string r] 22))=wd:=⟨_,rfl⟩;have HXD:=Hq (show SG w wd M O G Y c r from by rw[←hwd];exact HX2.out.next (blr).drew);obtain⟨k0,k1,k2,k3⟩:=HXD.out.1.1.cells;have t0:=HXD.out.2.c0;have t1:=HXD.out.2.c1;refine wp_region_K 16 (Below (wd).heap.size (wd)) (by kernel_rfl) ?_;intro hD;rw[hwd];have KK1:=Hq (fun w' (hS':(Below (wd).heap.size (wd)) w')=>And.intro (kC hS' k0) (And.intro (kC hS' k1) (And.intro (kC hS' k2) (And.intro (kC hS' k3) (And.intro (kC hS' t0) (kC hS' t1))))));refine rT 0 20 15 rfl hD blr (by intro w' hS';obtain⟨e0,e1,e2,e3,e4,e5⟩:=KK1.out w' hS';go_simp;with_reducible rfl) ?_;clear hD;intro hD;refine rT 1 21 14 rfl hD blr (by intro w' hS';obtain⟨e0,e1,e2,e3,e4,e5⟩:=KK1.out w' hS';go_simp;with_reducible rfl) ?_;clear hD;intro hD;simp only[Act.put,sqA,sqB,sqC];refine rO 2 13 rfl hD ?_;clear hD;intro K2 hK2;go_wp2_with fail;refine(HBL.out _).mono ?_;rintro ev w3 ⟨rfl,hb⟩;have HB2:=Hq hb;clear hb;go_wp2;refine hK2 _ _ (by exact HB2.out) ?_;clear hK2;intro hS_6_2 hD;refine rP 3 23 12 rfl hD hS_6_2 ?_;clear hD;intro hD;refine rP 4 24 11 rfl hD hS_6_2 ?_;clear hD;intro hD;refine rT 5 25 10 rfl hD hS_6_2 (by intro w' hS';obtain⟨e0,e1,e2,e3,e4,e5⟩:=KK1.out w' hS';go_simp;with_reducible rfl) ?_;clear hD;intro hD;refine rT 6 26 9 rfl hD hS_6_2 (by intro w' hS';obtain⟨e0,e1,e2,e3,e4,e5⟩:=KK1.out w' hS';go_simp;with_reducible rfl) ?_;clear hD;intro hD;refine rT 7 27 8 rfl hD hS_6_2 (by intro w' hS';obtain⟨e0,e1,e2,e3,e4,e5⟩:=KK1.out w' hS';go_simp;with_reducible rfl) ?_;clear hD;intro hD;refine rP 10 30 7 rfl hD hS_6_2 ?_;clear hD;intro hD;refine rP 12 32 6 rfl hD hS_6_2 ?_;clear hD;intro hD;refine rT 13 33 5 rfl hD hS_6_2 (by intro w' hS';obtain⟨e0,e1,e2,e3,e4,e5⟩:=KK1.out w' hS';go_simp;with_reducible rfl) ?_;clear hD;intro hD;simp only[Act.put,sqA,sqB,sqC];refine rO 8 4 rfl hD ?_;clear hD;intro K8 hK8;go_wp2_with fail;refine(HCO.out _).mono ?_;rintro ev w4 ⟨rfl,hb⟩;have HB8:=Hq hb;clear hb;go_wp2;refine hK8 _ _ (by exact Below.trans hS_6_2 (Below.mono HB8.out (Below.size hS_6_2))) ?_;clear hK8;intro hS_6_8 hD;refine wpAnyK_takeSD (i:=9) (d:=some 29) (v:=(.string R)) (fuel:=3) rfl (by kernel_rfl) (by kernel_rfl) (by kernel_rfl) (fun _ _ _ h=>h) hD hS_6_8 (.inl ⟨by kernel_rfl,?y6_9b1⟩) ?n6_9b1;case y6_9b1 =>
        intro w' _;have hfd:=field_run R w';go_simp
       clear hD;intro hD;simp only[Act.put,sqA,sqB,sqC];refine rO 11 2 rfl hD ?_;clear hD;intro K11 hK11;go_wp2_with fail;refine(HCH.out _).mono ?_;rintro ev w5 ⟨rfl,hb⟩;have HB11:=Hq hb;clear hb;go_wp2;refine hK11 _ _ (by exact Below.trans hS_6_8 (Below.mono HB11.out (Below.size hS_6_8))) ?_;clear hK11;intro hS_6_11 hD;have HL:=Hq hS_6_11;refine rP 14 34 1 rfl hD hS_6_11 ?_;clear hD;intro hD;refine rP 15 35 0 rfl hD hS_6_11 ?_;clear hD;intro hD;simp only[Act.put,sqA,sqB,sqC];refine wpAnyK_done (by kernel_rfl) ?_ 0;clear hD;go_wp2;go_ret;exact⟨rfl,(HXD.out.next HL.out).1.2⟩
      | true =>
       rw[show veK M O G Y c r msg=0 from HV2.out];go_enter Tryz.func22,Tryz.ntmps22;go_wp2_with fail;try rw[hW0]
       clear hW0;refine(HCK.out _).mono ?_;rintro ev w1 ⟨rfl,hb⟩;have HX1:=Hq (HX0.out.next hb);clear hb c0 c1 c2 c3 s0 s1;obtain⟨c0,c1,c2,c3⟩:=HX1.out.1.1.cells;have s0:=HX1.out.2.c0;have s1:=HX1.out.2.c1;have HX2:=Hq (HX1.out.next ((Below.refl w1.heap.size w1).alloc nlr (.cells #[.string c,.string r] 22)));go_wp2_with fail;refine(HFM.out _).mono ?_;rintro ev w2 ⟨rfl,rfl⟩;clear c0 c1 c2 c3 s0 s1;go_wp2;obtain⟨wd,hwd⟩:∃ wd,World.drew (w1.alloc (.cells #[.string c,.string r] 22))=wd:=⟨_,rfl⟩;have HXD:=Hq (show SG w wd M O G Y c r from by rw[←hwd];exact HX2.out.next (blr).drew);obtain⟨k0,k1,k2,k3⟩:=HXD.out.1.1.cells;have t0:=HXD.out.2.c0;have t1:=HXD.out.2.c1;refine wp_region_K 16 (Below (wd).heap.size (wd)) (by kernel_rfl) ?_;intro hD;rw[hwd];have KK2:=Hq (fun w' (hS':(Below (wd).heap.size (wd)) w')=>And.intro (kC hS' k0) (And.intro (kC hS' k1) (And.intro (kC hS' k2) (And.intro (kC hS' k3) (And.intro (kC hS' t0) (kC hS' t1))))));refine rT 0 20 15 rfl hD blr (by intro w' hS';obtain⟨e0,e1,e2,e3,e4,e5⟩:=KK2.out w' hS';go_simp;with_reducible rfl) ?_;clear hD;intro hD;refine rT 1 21 14 rfl hD blr (by intro w' hS';obtain⟨e0,e1,e2,e3,e4,e5⟩:=KK2.out w' hS';go_simp;with_reducible rfl) ?_;clear hD;intro hD;simp only[Act.put,sqA,sqB,sqC];refine rO 2 13 rfl hD ?_;clear hD;intro K2 hK2;go_wp2_with fail;refine(HBL.out _).mono ?_;rintro ev w3 ⟨rfl,hb⟩;have HB2:=Hq hb;clear hb;go_wp2;refine hK2 _ _ (by exact HB2.out) ?_;clear hK2;intro hS_6_2 hD;refine rP 3 23 12 rfl hD hS_6_2 ?_;clear hD;intro hD;refine rP 4 24 11 rfl hD hS_6_2 ?_;clear hD;intro hD;refine rT 5 25 10 rfl hD hS_6_2 (by intro w' hS';obtain⟨e0,e1,e2,e3,e4,e5⟩:=KK2.out w' hS';go_simp;with_reducible rfl) ?_;clear hD;intro hD;refine rT 6 26 9 rfl hD hS_6_2 (by intro w' hS';obtain⟨e0,e1,e2,e3,e4,e5⟩:=KK2.out w' hS';go_simp;with_reducible rfl) ?_;clear hD;intro hD;refine rT 7 27 8 rfl hD hS_6_2 (by intro w' hS';obtain⟨e0,e1,e2,e3,e4,e5⟩:=KK2.out w' hS';go_simp;with_reducible rfl) ?_;clear hD;intro hD;refine rP 10 30 7 rfl hD hS_6_2 ?_;clear hD;intro hD;refine rP 12 32 6 rfl hD hS_6_2 ?_;clear hD;intro hD;refine rT 13 33 5 rfl hD hS_6_2 (by intro w' hS';obtain⟨e0,e1,e2,e3,e4,e5⟩:=KK2.out w' hS';go_simp;with_reducible rfl) ?_;clear hD;intro hD;simp only[Act.put,sqA,sqB,sqC];refine rO 8 4 rfl hD ?_;clear hD;intro K8 hK8;go_wp2_with fail;refine(HCO.out _).mono ?_;rintro ev w4 ⟨rfl,hb⟩;have HB8:=Hq hb;clear hb;go_wp2;refine hK8 _ _ (by exact Below.trans hS_6_2 (Below.mono HB8.out (Below.size hS_6_2))) ?_;clear hK8;intro hS_6_8 hD;refine wpAnyK_takeSD (i:=9) (d:=some 29) (v:=(.string R)) (fuel:=3) rfl (by kernel_rfl) (by kernel_rfl) (by kernel_rfl) (fun _ _ _ h=>h) hD hS_6_8 (.inl ⟨by kernel_rfl,?y6_9b2⟩) ?n6_9b2;case y6_9b2 =>
        intro w' _;have hfd:=field_run R w';go_simp
       clear hD;intro hD;simp only[Act.put,sqA,sqB,sqC];refine rO 11 2 rfl hD ?_;clear hD;intro K11 hK11;go_wp2_with fail;refine(HCH.out _).mono ?_;rintro ev w5 ⟨rfl,hb⟩;have HB11:=Hq hb;clear hb;go_wp2;refine hK11 _ _ (by exact Below.trans hS_6_8 (Below.mono HB11.out (Below.size hS_6_8))) ?_;clear hK11;intro hS_6_11 hD;have HL:=Hq hS_6_11;refine rP 14 34 1 rfl hD hS_6_11 ?_;clear hD;intro hD;refine rP 15 35 0 rfl hD hS_6_11 ?_;clear hD;intro hD;simp only[Act.put,sqA,sqB,sqC];refine wpAnyK_done (by kernel_rfl) ?_ 0;clear hD;go_wp2;go_ret;exact⟨rfl,(HXD.out.next HL.out).1.2⟩
    · have HV3:=Hq (show veK M O G Y c r msg=19 from by
       rw[HV.out];by_cases h1:num c<num O
       · rw[decide_eq_true h1,decide_eq_false (fun h2=>hbl ⟨h1,h2⟩)];rfl
       · rw[decide_eq_false h1];rfl)
      rw[decide_eq_false hbl]at HBL;rw[HV3.out];unfold kV at *;clear hv hk vc vr hv4 hck hz hg hy v1 v2 v3 v4 h8 hbl HV hM hO hG hY hc hr hm;go_enter Tryz.func22,Tryz.ntmps22;go_wp2_with fail;try rw[hW0]
      clear hW0;refine(HCK.out _).mono ?_;rintro ev w1 ⟨rfl,hb⟩;have HX1:=Hq (HX0.out.next hb);clear hb c0 c1 c2 c3 s0 s1;obtain⟨c0,c1,c2,c3⟩:=HX1.out.1.1.cells;have s0:=HX1.out.2.c0;have s1:=HX1.out.2.c1;have HX2:=Hq (HX1.out.next ((Below.refl w1.heap.size w1).alloc nlr (.cells #[.string c,.string r] 22)));go_wp2_with fail;refine(HFM.out _).mono ?_;rintro ev w2 ⟨rfl,rfl⟩;clear c0 c1 c2 c3 s0 s1;go_wp2;obtain⟨wd,hwd⟩:∃ wd,World.drew (w1.alloc (.cells #[.string c,.string r] 22))=wd:=⟨_,rfl⟩;have HXD:=Hq (show SG w wd M O G Y c r from by rw[←hwd];exact HX2.out.next (blr).drew);obtain⟨k0,k1,k2,k3⟩:=HXD.out.1.1.cells;have t0:=HXD.out.2.c0;have t1:=HXD.out.2.c1;refine wp_region_K 16 (Below (wd).heap.size (wd)) (by kernel_rfl) ?_;intro hD;rw[hwd];have KK3:=Hq (fun w' (hS':(Below (wd).heap.size (wd)) w')=>And.intro (kC hS' k0) (And.intro (kC hS' k1) (And.intro (kC hS' k2) (And.intro (kC hS' k3) (And.intro (kC hS' t0) (kC hS' t1))))));refine rT 0 20 15 rfl hD blr (by intro w' hS';obtain⟨e0,e1,e2,e3,e4,e5⟩:=KK3.out w' hS';go_simp;with_reducible rfl) ?_;clear hD;intro hD;refine rT 1 21 14 rfl hD blr (by intro w' hS';obtain⟨e0,e1,e2,e3,e4,e5⟩:=KK3.out w' hS';go_simp;with_reducible rfl) ?_;clear hD;intro hD;simp only[Act.put,sqA,sqB,sqC];refine rO 2 13 rfl hD ?_;clear hD;intro K2 hK2;go_wp2_with fail;refine(HBL.out _).mono ?_;rintro ev w3 ⟨rfl,hb⟩;have HB2:=Hq hb;clear hb;go_wp2;refine hK2 _ _ (by exact HB2.out) ?_;clear hK2;intro hS_6_2 hD;have HL:=Hq hS_6_2;refine rP 3 23 12 rfl hD hS_6_2 ?_;clear hD;intro hD;refine rP 4 24 11 rfl hD hS_6_2 ?_;clear hD;intro hD;refine rU 5 25 10 rfl hD hS_6_2 ?_;clear hD;intro hD;refine rU 6 26 9 rfl hD hS_6_2 ?_;clear hD;intro hD;refine rU 7 27 8 rfl hD hS_6_2 ?_;clear hD;intro hD;refine rU 8 28 7 rfl hD hS_6_2 ?_;clear hD;intro hD;refine rU 9 29 6 rfl hD hS_6_2 ?_;clear hD;intro hD;refine rU 10 30 5 rfl hD hS_6_2 ?_;clear hD;intro hD;refine rU 11 31 4 rfl hD hS_6_2 ?_;clear hD;intro hD;refine rU 12 32 3 rfl hD hS_6_2 ?_;clear hD;intro hD;refine rU 13 33 2 rfl hD hS_6_2 ?_;clear hD;intro hD;refine rU 14 34 1 rfl hD hS_6_2 ?_;clear hD;intro hD;refine rP 15 35 0 rfl hD hS_6_2 ?_;clear hD;intro hD;simp only[Act.put,sqA,sqB,sqC];refine wpAnyK_done (by kernel_rfl) ?_ 0;clear hD;go_wp2;go_ret;exact⟨rfl,(HXD.out.next HL.out).1.2⟩
 · rw[show veK M O G Y c r msg=scK M O G Y from if_neg hk];obtain⟨e,he⟩:∃ e,scK M O G Y=e:=⟨_,rfl⟩;rw[he]at HCK hk⊢;unfold kV at *;clear he;go_enter Tryz.func22,Tryz.ntmps22;go_wp2_with fail;try rw[hW0]
   clear hW0;refine(HCK.out _).mono ?_;rintro ev w1 ⟨rfl,hb⟩;have HX1:=Hq (HX0.out.next hb);clear hb c0 c1 c2 c3 s0 s1;obtain⟨c0,c1,c2,c3⟩:=HX1.out.1.1.cells;have s0:=HX1.out.2.c0;have s1:=HX1.out.2.c1;go_upto_region 3 with(fail)
   clear hk;go_wp2;go_ret;exact⟨rfl,HX1.out.1.2⟩
set_option maxRecDepth 100000
set_option maxHeartbeats 4000000
def ckH(M O G Y:ByteArray)(n:Int)(r a b:ByteArray):Int:=if n<0∨4096<n then 2 else if r.size≠32 then 3 else veK M O G Y a b (hdS n.toNat r)
def KHd(w W:World)(M O G Y:ByteArray)(n:Int)(r a b:ByteArray):Prop:=
 Bx4 W w.heap.size (.string M) (.string O) (.string G) (.string Y) 26∧Bx4 W (w.heap.size+1) (.int .i64 n) (.string r) (.string a) (.string b) 30∧Below w.heap.size w W
theorem KHd.new(w:World)(M O G Y:ByteArray)(n:Int)(r a b:ByteArray):KHd w ((w.alloc (.cells #[.string M,.string O,.string G,.string Y] 26)).alloc (.cells #[.int .i64 n,.string r,.string a,.string b] 30)) M O G Y n r a b:=by
 have h:=Bx4.new (w.alloc (.cells #[.string M,.string O,.string G,.string Y] 26)) (.int .i64 n) (.string r) (.string a) (.string b) 30;rw[World.size_alloc]at h;exact⟨(Bx4.new w _ _ _ _ _).next ((blr).alloc nlr _),h,((blr).alloc nlr _).alloc (by simp) _⟩
theorem KHd.next{w W W':World}{M O G Y:ByteArray}{n:Int}{r a b:ByteArray}(h:KHd w W M O G Y n r a b)(hb:Below W.heap.size W W'):KHd w W' M O G Y n r a b:=⟨h.1.next hb,h.2.1.next hb,h.2.2.trans (hb.mono h.2.2.size)⟩
theorem ve_size{n:Nat}{r:ByteArray}(hn:n≤100000)(hr:r.size≤100):(hdS n r).size≤1000000:=hdS_size n r
theorem led_CheckHead(M O G Y r a b:ByteArray)(n:Int)(hM:M.size≤8)(hO:O.size≤100)(hG:G.size≤1000)(hY:Y.size≤1000)(ha:a.size≤1000)(hbz:b.size≤1000)(hr:r.size≤100)(w:World) :
 Calls Tryz.prog 9 #[kV M O G Y,.agg #[.int .i64 n,.string r,.string a,.string b]] w (Ret (.int .i64 (ckH M O G Y n r a b)) w):=by
 have hx0:=KHd.new w M O G Y n r a b;obtain⟨W0,hW0⟩:∃ W,((w.alloc (.cells #[.string M,.string O,.string G,.string Y] 26)).alloc (.cells #[.int .i64 n,.string r,.string a,.string b] 30))=W:=⟨_,rfl⟩;rw[hW0]at hx0;have HX0:=Hq hx0;obtain⟨c0,c1,c2,c3⟩:=hx0.1.cells;obtain⟨d0,d1,d2,d3⟩:=hx0.2.1.cells;clear hx0;by_cases h0:n<0
 · have HR:=Hq (show ckH M O G Y n r a b=2 from by unfold ckH;rw[if_pos (Or.inl h0)]);unfold kV at *;go_enter Tryz.func9,Tryz.ntmps9;go_wp2;go_ret;exact⟨by rw[HR.out];rfl,by first | exact HX0.out.2.2 | (rw[←hW0]at HX0;exact HX0.out.2.2)⟩
 · by_cases h1:n > 4096
   · have HR:=Hq (show ckH M O G Y n r a b=2 from by unfold ckH;rw[if_pos (Or.inr h1)]);have h1:4096<n:=h1;unfold kV at *;go_enter Tryz.func9,Tryz.ntmps9;go_wp2;go_ret;exact⟨by rw[HR.out];rfl,by first | exact HX0.out.2.2 | (rw[←hW0]at HX0;exact HX0.out.2.2)⟩
   · have h1:¬ 4096<n:=h1;by_cases h2:r.size=32
     · have HR:=Hq (show ckH M O G Y n r a b=veK M O G Y a b (hdS n.toNat r)from by unfold ckH;rw[if_neg (by omega),if_neg (by omega)]);obtain⟨k,rfl⟩:∃ k:Nat,n=k:=⟨n.toNat,by omega⟩;rw[Int.toNat_natCast]at HR;have h3:((r.size:Int) != 32)=false:=by rw[h2];rfl
       have HH:=Hq (led_signed k r a b (by omega) hr);have HV:=Hq (sc_Verify M O G Y a b (hdS k r) hM hO hG hY ha hbz (ve_size (by omega) hr));unfold kV at *;clear h2 hr;go_enter Tryz.func9,Tryz.ntmps9;go_wp2_with fail;try rw[hW0]
       clear hW0;refine(HH.out _).mono ?_;rintro ev w1 ⟨rfl,hb⟩;have HX1:=Hq (HX0.out.next hb);clear hb c0 c1 c2 c3 d0 d1 d2 d3;obtain⟨c0,c1,c2,c3⟩:=HX1.out.1.cells;obtain⟨d0,d1,d2,d3⟩:=HX1.out.2.1.cells;go_wp2_with fail;refine(HV.out _).mono ?_;rintro ev w2 ⟨rfl,hb⟩;have HX2:=Hq (HX1.out.next hb);clear hb c0 c1 c2 c3 d0 d1 d2 d3;go_wp2;go_ret;exact⟨by rw[HR.out];rfl,HX2.out.2.2⟩
     · have HR:=Hq (show ckH M O G Y n r a b=3 from by unfold ckH;rw[if_neg (by omega),if_pos h2]);have h3:((r.size:Int) != 32)=true:=by rw[bne_iff_ne];omega
       unfold kV at *;go_enter Tryz.func9,Tryz.ntmps9;go_wp2;go_ret;exact⟨by rw[HR.out];rfl,by first | exact HX0.out.2.2 | (rw[←hW0]at HX0;exact HX0.out.2.2)⟩
set_option maxRecDepth 100000
open Go.RowKit
theorem SlN.takeK{w:World}{A:Option Addr}{n c:Nat}{l:List ByteArray}(h:SlN w A n c l)(k:Nat)(hk:k≤n):SlN w A k c (l.take k):=by
 obtain⟨h1,h2,h3,b,o,h4,h5⟩:=h;refine⟨by rw[List.length_take];omega,by omega,h3,b,o,fun h=>h4 (by omega),fun j s hj=>?_⟩;rw[List.getElem?_take]at hj;split at hj
 · exact h5 j s hj
 · cases hj
theorem SlN.dropK{w:World}{b o n c:Nat}{l:List ByteArray}(h:SlN w (some ⟨b,o,none⟩) n c l)(k:Nat)(hk:k<n):SlN w (some ⟨b,o+k,none⟩) (n - k) (c - k) (l.drop k):=by
 obtain⟨h1,h2,h3,b',o',h4,h5⟩:=h;have:=h4 (by omega);simp only[Option.some.injEq,Addr.mk.injEq,and_true]at this;obtain⟨rfl,rfl⟩:=this;refine⟨by rw[List.length_drop];omega,by omega,by omega,b,o+k,fun _=>rfl,fun j s hj=>?_⟩;rw[List.getElem?_drop]at hj;have:=h5 (k+j) s hj;rw[show o+(k+j)=o+k+j from by omega]at this;exact this
theorem leaf_text(s:ByteArray):((⟨#[0]⟩:ByteArray)++s).data.toList=0::s.data.toList:=by simp[ByteArray.data_append]
theorem node_text(a b:ByteArray):((⟨#[1]⟩:ByteArray)++a++b).data.toList=1::(a.data.toList++b.data.toList):=by simp[ByteArray.data_append]
theorem m_leaf(s:ByteArray)(hs:s.size≤100000000)(w:World):Calls Tryz.prog 76 #[.string s] w (Ret (.string (leafH s)) w):=by
 have HS:=Hq (h_Sum (⟨#[0]⟩++s) (by rw[ByteArray.size_append];have : (⟨#[0]⟩:ByteArray).size=1:=rfl;omega) w);rw[leaf_text]at HS;go_enter Tryz.func76,Tryz.ntmps76;go_wp2_with fail;refine HS.out.mono ?_;rintro e w1 ⟨rfl,hb⟩;have HB:=Hq hb;clear hb;go_wp2;go_ret;exact⟨rfl,HB.out⟩
theorem r34_leaf(s:ByteArray)(hs:s.size≤100000000)(w:World):Calls Tryz.prog 83 #[.string s] w (Ret (.string (leafH s)) w):=by
 have HS:=Hq (r05_Sum (⟨#[0]⟩++s) (by rw[ByteArray.size_append];have : (⟨#[0]⟩:ByteArray).size=1:=rfl;omega) w);rw[leaf_text]at HS;go_enter Tryz.func83,Tryz.ntmps83;go_wp2_with fail;refine HS.out.mono ?_;rintro e w1 ⟨rfl,hb⟩;have HB:=Hq hb;clear hb;go_wp2;go_ret;exact⟨rfl,HB.out⟩
theorem m_node(a b:ByteArray)(ha:a.size≤100000000)(hb:b.size≤100000000)(w:World):Calls Tryz.prog 71 #[.string a,.string b] w (Ret (.string (nodeH a b)) w):=by
 have HS:=Hq (h_Sum (⟨#[1]⟩++a++b) (by rw[ByteArray.size_append,ByteArray.size_append];have : (⟨#[1]⟩:ByteArray).size=1:=rfl;omega) w);rw[node_text]at HS;go_enter Tryz.func71,Tryz.ntmps71;go_wp2_with fail;refine HS.out.mono ?_;rintro e w1 ⟨rfl,hb⟩;have HB:=Hq hb;clear hb;go_wp2;go_ret;exact⟨rfl,HB.out⟩
theorem r34_node(a b:ByteArray)(ha:a.size≤100000000)(hb:b.size≤100000000)(w:World):Calls Tryz.prog 85 #[.string a,.string b] w (Ret (.string (nodeH a b)) w):=by
 have HS:=Hq (r05_Sum (⟨#[1]⟩++a++b) (by rw[ByteArray.size_append,ByteArray.size_append];have : (⟨#[1]⟩:ByteArray).size=1:=rfl;omega) w);rw[node_text]at HS;go_enter Tryz.func85,Tryz.ntmps85;go_wp2_with fail;refine HS.out.mono ?_;rintro e w1 ⟨rfl,hb⟩;have HB:=Hq hb;clear hb;go_wp2;go_ret;exact⟨rfl,HB.out⟩
set_option maxRecDepth 100000
set_option maxHeartbeats 1000000
theorem pow_small{a:Nat}(h:2 ^ a<1000001):a<62:=by
 rcases Nat.lt_or_ge a 62 with c | c
 · exact c
 · have:=Nat.pow_le_pow_right (n:=2) (by omega) c;omega
theorem m_half(n:Nat)(h2:2≤n)(hn:n≤1000000)(w:World):Calls Tryz.prog 70 #[.int .i64 n] w (RetQ (.int .i64 (halfN n)) w):=by
 go_enter Tryz.func70,Tryz.ntmps70;go_wp2
 go_loop [3,4] (fun k i=>∃ j p:Nat,p=2 ^ j∧p<n∧j<62∧k=.int .i64 p∧i=.int .i64 j) (fun k _=>n - (RowKit.intOf k).toNat)
 case atStart=>exact⟨0,1,rfl,by omega,by omega,rfl,rfl⟩
 case round =>
  obtain⟨j,p,hp,hlt,hj,rfl,rfl⟩:=hrel;have HP:=Hq hp;have hp0:1≤p:=by rw[hp];exact Nat.one_le_two_pow
  clear hp;by_cases hc:n≤2 * p
  · have HH:=Hq (show halfN n=p from by rw[HP.out]at hlt hc⊢;exact halfN_of hlt hc);have hc':(n:Int) - p≤p:=by omega
    go_wp2;go_ret;exact⟨by rw[HH.out];rfl,rfl⟩
  · have hc':¬ ((n:Int) - p≤p):=by omega
    have HN:=Hq (show p * 2=2 ^ (j+1)from by rw[HP.out,Nat.pow_succ]);have hj2:j+1<62:=pow_small (by rw[←HN.out];omega);go_wp2;go_round;case rel=>exact⟨j+1,p * 2,HN.out,by omega,hj2,by go_num,by go_num⟩
    case measure=>simp[RowKit.intOf];omega
theorem r34_half(n:Nat)(h2:2≤n)(hn:n≤1000000)(w:World):Calls Tryz.prog 84 #[.int .i64 n] w (RetQ (.int .i64 (halfN n)) w):=by
 go_enter Tryz.func84,Tryz.ntmps84;go_wp2
 go_loop [3] (fun k=>∃ j p:Nat,p=2 ^ j∧p<n∧k=.int .i64 p) (fun k=>n - (RowKit.intOf k).toNat)
 case atStart=>exact⟨0,1,rfl,by omega,rfl⟩
 case round =>
  obtain⟨j,p,hp,hlt,rfl⟩:=hrel;have HP:=Hq hp;have hp0:1≤p:=by rw[hp];exact Nat.one_le_two_pow
  clear hp;by_cases hc:n≤2 * p
  · have HH:=Hq (show halfN n=p from by rw[HP.out]at hlt hc⊢;exact halfN_of hlt hc);have hc':¬ (2 * (p:Int)<n):=by omega
    go_wp2;go_ret;exact⟨by rw[HH.out];rfl,rfl⟩
  · have hc':2 * (p:Int)<n:=by omega
    have HN:=Hq (show 2 * p=2 ^ (j+1)from by rw[HP.out,Nat.pow_succ,Nat.mul_comm]);go_wp2;go_round;case rel=>exact⟨j+1,2 * p,HN.out,by omega,by go_num⟩
    case measure=>simp[RowKit.intOf];omega
end Go.Proofs.YtfbmbledklbfgaaGreat

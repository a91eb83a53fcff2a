import Derived.Test.YtamhonjkgkmdbaaGreatDoorQKyT
import Derived.Test.YtamhonjkgkmdbaaGreatDoorQCoD
import Derived.Test.YtamhonjkgkmdbaaGreatDoorQScG
import Derived.Test.YtamhonjkgkmdbaaGreatDoorQScB
import Derived.Deep.Cut
import Derived.Test.YtamhonjkgkmdbaaGreatDoorQKyZ
import Derived.LaidMore
import Derived.Stop.Joined
import Derived.Stop.LaidErr
import Derived.Deep.Slices
import Derived.MakeChecks
import Derived.Carry
set_option linter.unusedVariables false
set_option linter.unusedSimpArgs false
namespace Go.Proofs.YtamhonjkgkmdbaaGreatDoor
open Go.RowKit
theorem Ver.msg_ok{v:Ver}(h:v.msg.2=0):v.okN=true∧v.kn=v.name∧1≤v.num∧v.num≤4096∧0≤v.fr∧v.fr≤v.to∧v.to≤4096∧knameB v.name=true∧v.msg=encS v.it:=by
 unfold Ver.msg at h⊢;by_cases h1:v.okN=false
 · rw[if_pos h1]at h;cases h
 rw[if_neg h1]at h⊢;by_cases h2:(knameB v.name&&decide (v.kn=v.name))=false
 · rw[if_pos h2]at h;cases h
 rw[if_neg h2]at h⊢;by_cases h3:v.far
 · rw[if_pos h3]at h;cases h
 rw[if_neg h3];unfold Ver.far at h3;simp only[Bool.not_eq_false,Bool.and_eq_true,decide_eq_true_eq]at h1 h2;exact⟨h1,h2.2,by omega,by omega,by omega,by omega,by omega,h2.1,rfl⟩
def Ver.sigged(v:Ver)(c r:ByteArray):Ver:={ v with sc:=c,sr:=r }
theorem Ver.msg_sigged(v:Ver)(c r:ByteArray):(v.sigged c r).msg=v.msg:=rfl
set_option maxRecDepth 100000
set_option maxHeartbeats 4000000
open Go.RowKit Go.Lib
def veB(M O G Y c r msg:ByteArray):Bool:=decide (chS M O G Y (cmS (num M) (num O) (num G) (num Y) (num c) (num r)) msg=num c)
def veK(M O G Y c r msg:ByteArray):Int:=
 if scK M O G Y=0 then(if (nvalid c&&nvalid r)=true then(if (decide (num c<num O)&&(decide (num r<num O)&&veB M O G Y c r msg))=true then 0 else 19)else 3)else scK M O G Y
theorem chS_fold(M O G Y msg:ByteArray)(x:Nat):chL (snL M.data.toList O.data.toList G.data.toList Y.data.toList (nS x).data.toList msg.data.toList) O.size (num O)=chS M O G Y x msg:=rfl
theorem field_run(R:ByteArray)(w:World):(Instr.field 127 (.agg #[.string R]) 0).run Tryz.prog w=.ok (.string R) w:=by kernel_rfl
theorem sc_Verify(M O G Y c r msg:ByteArray)(hM:M.size≤8)(hO:O.size≤100)(hG:G.size≤1000)(hY:Y.size≤1000)(hc:c.size≤1000)(hr:r.size≤1000)(hm:msg.size≤1000000)(w:World) :
 Calls Tryz.prog 48 #[kV M O G Y,.string msg,.agg #[.string c,.string r]] w (Ret (.int .i64 (veK M O G Y c r msg)) w):=by
 have hx0:=SG.new w M O G Y c r;obtain⟨W0,hW0⟩:∃ W,((w.alloc (.cells #[.string M,.string O,.string G,.string Y] 26)).alloc (.cells #[.string c,.string r] 33))=W:=⟨_,rfl⟩;rw[hW0]at hx0;have HX0:=Hq hx0;obtain⟨c0,c1,c2,c3⟩:=hx0.1.1.cells;have s0:=hx0.2.c0;have s1:=hx0.2.c1;clear hx0;have HCK:=Hq (sc_Check M O G Y hM hO hG hY);have HFM:=Hq (fun W:World=>sc_formed [c,r] (some ⟨W.heap.size,0,none⟩) 2 2 (by omega) (by
  intro z hz;simp at hz
  rcases hz with h | h<;>subst h<;>omega) (W.alloc (.cells #[.string c,.string r] 22)) (sln_alloc W [c,r] 22 (by simp)))
 rw[show ([c,r].all nvalid)=(nvalid c&&nvalid r)from by simp]at HFM;by_cases hk:scK M O G Y=0
 · rw[hk]at HCK
   cases hv:(nvalid c&&nvalid r)with
   | false =>
    rw[hv]at HFM;rw[show veK M O G Y c r msg=3 from by unfold veK;rw[if_pos hk,hv,if_neg (by decide)]];unfold kV at *;clear hv hk;go_enter Tryz.func48,Tryz.ntmps48;go_wp2_with fail;try rw[hW0]
    clear hW0;refine(HCK.out _).mono ?_;rintro ev w1 ⟨rfl,hb⟩;have HX1:=Hq (HX0.out.next hb);clear hb c0 c1 c2 c3 s0 s1;obtain⟨c0,c1,c2,c3⟩:=HX1.out.1.1.cells;have s0:=HX1.out.2.c0;have s1:=HX1.out.2.c1;have HX2:=Hq (HX1.out.next ((Below.refl w1.heap.size w1).alloc (Nat.le_refl _) (.cells #[.string c,.string r] 22)));go_wp2_with fail;refine(HFM.out _).mono ?_;rintro ev w2 ⟨rfl,rfl⟩;clear c0 c1 c2 c3 s0 s1;go_wp2;go_ret;exact⟨rfl,HX2.out.1.2⟩
   | true =>
    rw[hv]at HFM;obtain⟨vc,vr⟩:=Bool.and_eq_true_iff.1 hv;obtain⟨hv4,hck,hz,hg,hy⟩:=scK_ok hk;obtain⟨v1,v2,v3,v4⟩:=all_four hv4;have h8:=chk_small hv4 hM hck;have HBL:=Hq (sc_below M O G Y c r v2 vc vr);have HV:=Hq (show veK M O G Y c r msg=(if (decide (num c<num O)&&(decide (num r<num O)&&veB M O G Y c r msg))=true then 0 else 19)from by unfold veK;rw[if_pos hk,hv,if_pos rfl]);by_cases hbl:num c<num O∧num r<num O
    · rw[decide_eq_true hbl]at HBL;have HCO:=Hq (sc_commitmentOf M O G Y c r hM hk vc vr hbl.1);have hRz:(nS (cmS (num M) (num O) (num G) (num Y) (num c) (num r))).size≤1000000:=by
       have hm0:0<num M:=(by obtain⟨i,hu⟩:=has_un (chkK_parts hck).2.2 (genK_parts hg).1;have:=hu.1;omega);have h9:=num_small hM;have : cmS (num M) (num O) (num G) (num Y) (num c) (num r)<num M:=Nat.mod_lt _ hm0;have : (nS (cmS (num M) (num O) (num G) (num Y) (num c) (num r))).size≤128:=nS_size_le.2 (lt128_of_lt8 (by omega));omega
      have HCH:=Hq (sc_challenge M O G Y (nS (cmS (num M) (num O) (num G) (num Y) (num c) (num r))) msg hM h8 (by omega) (by omega) hRz hm v2 (by omega));rw[chS_fold]at HCH;have hbe:=nS_beq (chS M O G Y (cmS (num M) (num O) (num G) (num Y) (num c) (num r)) msg) (num c);rw[←nS_num vc]at hbe;have HV2:=Hq (show veK M O G Y c r msg=if veB M O G Y c r msg=true then 0 else 19 from by rw[HV.out,decide_eq_true hbl.1,decide_eq_true hbl.2];rfl);have hvb:veB M O G Y c r msg=decide (chS M O G Y (cmS (num M) (num O) (num G) (num Y) (num c) (num r)) msg=num c):=rfl;rw[←hvb]at hbe;obtain⟨R,hR⟩:∃ R,nS (cmS (num M) (num O) (num G) (num Y) (num c) (num r))=R:=⟨_,rfl⟩;obtain⟨x,hx⟩:∃ x,nS (chS M O G Y (cmS (num M) (num O) (num G) (num Y) (num c) (num r)) msg)=x:=⟨_,rfl⟩;rw[hR]at HCO HCH;rw[hx]at HCH hbe;obtain⟨b,hb⟩:∃ b,veB M O G Y c r msg=b:=⟨_,rfl⟩;rw[hb]at hbe HV2;unfold kV at *;clear hv hk vc vr hv4 hck hz hg hy v1 v2 v3 v4 h8 hbl hRz hR hx hvb hb HV hM hO hG hY hc hr hm
      cases b with
      | false =>
       rw[show veK M O G Y c r msg=19 from HV2.out];go_enter Tryz.func48,Tryz.ntmps48;go_wp2_with fail;try rw[hW0]
       clear hW0;refine(HCK.out _).mono ?_;rintro ev w1 ⟨rfl,hb⟩;have HX1:=Hq (HX0.out.next hb);clear hb c0 c1 c2 c3 s0 s1;obtain⟨c0,c1,c2,c3⟩:=HX1.out.1.1.cells;have s0:=HX1.out.2.c0;have s1:=HX1.out.2.c1;have HX2:=Hq (HX1.out.next ((Below.refl w1.heap.size w1).alloc (Nat.le_refl _) (.cells #[.string c,.string r] 22)));go_wp2_with fail;refine(HFM.out _).mono ?_;rintro ev w2 ⟨rfl,rfl⟩;clear c0 c1 c2 c3 s0 s1;go_wp2;obtain⟨wd,hwd⟩:∃ wd,World.drew (w1.alloc (.cells #[.string c,.string r] 22))=wd:=⟨_,rfl⟩;have HXD:=Hq (show SG w wd M O G Y c r from by rw[←hwd];exact HX2.out.next (Below.refl _ _).drew);obtain⟨k0,k1,k2,k3⟩:=HXD.out.1.1.cells;have t0:=HXD.out.2.c0;have t1:=HXD.out.2.c1;refine wp_region_K 16 (Below (wd).heap.size (wd)) (by kernel_rfl) ?_;intro hD;rw[hwd];have KK1:=Hq (fun w' (hS':(Below (wd).heap.size (wd)) w')=>And.intro (kC hS' k0) (And.intro (kC hS' k1) (And.intro (kC hS' k2) (And.intro (kC hS' k3) (And.intro (kC hS' t0) (kC hS' t1))))));refine rT 0 20 15 rfl hD (Below.refl _ _) (by intro w' hS';obtain⟨e0,e1,e2,e3,e4,e5⟩:=KK1.out w' hS';go_simp;with_reducible rfl) ?_;clear hD;intro hD;simp only[Act.put,sqA,sqB,sqC];refine rT 1 21 14 rfl hD (Below.refl _ _) (by intro w' hS';obtain⟨e0,e1,e2,e3,e4,e5⟩:=KK1.out w' hS';go_simp;with_reducible rfl) ?_;clear hD;intro hD;simp only[Act.put,sqA,sqB,sqC];refine rO 2 13 rfl hD ?_;clear hD;intro K2 hK2;go_wp2_with fail;refine(HBL.out _).mono ?_;rintro ev w3 ⟨rfl,hb⟩;have HB2:=Hq hb;clear hb;go_wp2;refine hK2 _ _ (by exact HB2.out) ?_;clear hK2;intro hS_6_2 hD;refine rP 3 23 12 rfl hD hS_6_2 ?_;clear hD;intro hD;simp only[Act.put,sqA,sqB,sqC];refine rP 4 24 11 rfl hD hS_6_2 ?_;clear hD;intro hD;simp only[Act.put,sqA,sqB,sqC];refine rT 5 25 10 rfl hD hS_6_2 (by intro w' hS';obtain⟨e0,e1,e2,e3,e4,e5⟩:=KK1.out w' hS';go_simp;with_reducible rfl) ?_;clear hD;intro hD;simp only[Act.put,sqA,sqB,sqC];refine rT 6 26 9 rfl hD hS_6_2 (by intro w' hS';obtain⟨e0,e1,e2,e3,e4,e5⟩:=KK1.out w' hS';go_simp;with_reducible rfl) ?_;clear hD;intro hD;simp only[Act.put,sqA,sqB,sqC];refine rT 7 27 8 rfl hD hS_6_2 (by intro w' hS';obtain⟨e0,e1,e2,e3,e4,e5⟩:=KK1.out w' hS';go_simp;with_reducible rfl) ?_;clear hD;intro hD;simp only[Act.put,sqA,sqB,sqC];refine rP 10 30 7 rfl hD hS_6_2 ?_;clear hD;intro hD;simp only[Act.put,sqA,sqB,sqC];refine rP 12 32 6 rfl hD hS_6_2 ?_;clear hD;intro hD;simp only[Act.put,sqA,sqB,sqC];refine rT 13 33 5 rfl hD hS_6_2 (by intro w' hS';obtain⟨e0,e1,e2,e3,e4,e5⟩:=KK1.out w' hS';go_simp;with_reducible rfl) ?_;clear hD;intro hD;simp only[Act.put,sqA,sqB,sqC];refine rO 8 4 rfl hD ?_;clear hD;intro K8 hK8;go_wp2_with fail;refine(HCO.out _).mono ?_;rintro ev w4 ⟨rfl,hb⟩;have HB8:=Hq hb;clear hb;go_wp2;refine hK8 _ _ (by exact Below.trans hS_6_2 (Below.mono HB8.out (Below.size hS_6_2))) ?_;clear hK8;intro hS_6_8 hD;refine wpAnyK_takeSD (i:=9) (d:=some 29) (v:=(.string R)) (fuel:=3) rfl (by kernel_rfl) (by kernel_rfl) (by kernel_rfl) (fun _ _ _ h=>h) hD hS_6_8 (.inl ⟨by kernel_rfl,?y6_9b1⟩) ?n6_9b1;case y6_9b1 =>
        intro w' _;have hfd:=field_run R w';go_simp
       clear hD;intro hD;simp only[Act.put,sqA,sqB,sqC];refine rO 11 2 rfl hD ?_;clear hD;intro K11 hK11;go_wp2_with fail;refine(HCH.out _).mono ?_;rintro ev w5 ⟨rfl,hb⟩;have HB11:=Hq hb;clear hb;go_wp2;refine hK11 _ _ (by exact Below.trans hS_6_8 (Below.mono HB11.out (Below.size hS_6_8))) ?_;clear hK11;intro hS_6_11 hD;have HL:=Hq hS_6_11;refine rP 14 34 1 rfl hD hS_6_11 ?_;clear hD;intro hD;simp only[Act.put,sqA,sqB,sqC];refine rP 15 35 0 rfl hD hS_6_11 ?_;clear hD;intro hD;simp only[Act.put,sqA,sqB,sqC];refine wpAnyK_done (by kernel_rfl) ?_ 0;clear hD;go_wp2;go_ret;exact⟨rfl,(HXD.out.next HL.out).1.2⟩
      | true =>
       rw[show veK M O G Y c r msg=0 from HV2.out];go_enter Tryz.func48,Tryz.ntmps48;go_wp2_with fail;try rw[hW0]
       clear hW0;refine(HCK.out _).mono ?_;rintro ev w1 ⟨rfl,hb⟩;have HX1:=Hq (HX0.out.next hb);clear hb c0 c1 c2 c3 s0 s1;obtain⟨c0,c1,c2,c3⟩:=HX1.out.1.1.cells;have s0:=HX1.out.2.c0;have s1:=HX1.out.2.c1;have HX2:=Hq (HX1.out.next ((Below.refl w1.heap.size w1).alloc (Nat.le_refl _) (.cells #[.string c,.string r] 22)));go_wp2_with fail;refine(HFM.out _).mono ?_;rintro ev w2 ⟨rfl,rfl⟩;clear c0 c1 c2 c3 s0 s1;go_wp2;obtain⟨wd,hwd⟩:∃ wd,World.drew (w1.alloc (.cells #[.string c,.string r] 22))=wd:=⟨_,rfl⟩;have HXD:=Hq (show SG w wd M O G Y c r from by rw[←hwd];exact HX2.out.next (Below.refl _ _).drew);obtain⟨k0,k1,k2,k3⟩:=HXD.out.1.1.cells;have t0:=HXD.out.2.c0;have t1:=HXD.out.2.c1;refine wp_region_K 16 (Below (wd).heap.size (wd)) (by kernel_rfl) ?_;intro hD;rw[hwd];have KK2:=Hq (fun w' (hS':(Below (wd).heap.size (wd)) w')=>And.intro (kC hS' k0) (And.intro (kC hS' k1) (And.intro (kC hS' k2) (And.intro (kC hS' k3) (And.intro (kC hS' t0) (kC hS' t1))))));refine rT 0 20 15 rfl hD (Below.refl _ _) (by intro w' hS';obtain⟨e0,e1,e2,e3,e4,e5⟩:=KK2.out w' hS';go_simp;with_reducible rfl) ?_;clear hD;intro hD;simp only[Act.put,sqA,sqB,sqC];refine rT 1 21 14 rfl hD (Below.refl _ _) (by intro w' hS';obtain⟨e0,e1,e2,e3,e4,e5⟩:=KK2.out w' hS';go_simp;with_reducible rfl) ?_;clear hD;intro hD;simp only[Act.put,sqA,sqB,sqC];refine rO 2 13 rfl hD ?_;clear hD;intro K2 hK2;go_wp2_with fail;refine(HBL.out _).mono ?_;rintro ev w3 ⟨rfl,hb⟩;have HB2:=Hq hb;clear hb;go_wp2;refine hK2 _ _ (by exact HB2.out) ?_;clear hK2;intro hS_6_2 hD;refine rP 3 23 12 rfl hD hS_6_2 ?_;clear hD;intro hD;simp only[Act.put,sqA,sqB,sqC];refine rP 4 24 11 rfl hD hS_6_2 ?_;clear hD;intro hD;simp only[Act.put,sqA,sqB,sqC];refine rT 5 25 10 rfl hD hS_6_2 (by intro w' hS';obtain⟨e0,e1,e2,e3,e4,e5⟩:=KK2.out w' hS';go_simp;with_reducible rfl) ?_;clear hD;intro hD;simp only[Act.put,sqA,sqB,sqC];refine rT 6 26 9 rfl hD hS_6_2 (by intro w' hS';obtain⟨e0,e1,e2,e3,e4,e5⟩:=KK2.out w' hS';go_simp;with_reducible rfl) ?_;clear hD;intro hD;simp only[Act.put,sqA,sqB,sqC];refine rT 7 27 8 rfl hD hS_6_2 (by intro w' hS';obtain⟨e0,e1,e2,e3,e4,e5⟩:=KK2.out w' hS';go_simp;with_reducible rfl) ?_;clear hD;intro hD;simp only[Act.put,sqA,sqB,sqC];refine rP 10 30 7 rfl hD hS_6_2 ?_;clear hD;intro hD;simp only[Act.put,sqA,sqB,sqC];refine rP 12 32 6 rfl hD hS_6_2 ?_;clear hD;intro hD;simp only[Act.put,sqA,sqB,sqC];refine rT 13 33 5 rfl hD hS_6_2 (by intro w' hS';obtain⟨e0,e1,e2,e3,e4,e5⟩:=KK2.out w' hS';go_simp;with_reducible rfl) ?_;clear hD;intro hD;simp only[Act.put,sqA,sqB,sqC];refine rO 8 4 rfl hD ?_;clear hD;intro K8 hK8;go_wp2_with fail;refine(HCO.out _).mono ?_;rintro ev w4 ⟨rfl,hb⟩;have HB8:=Hq hb;clear hb;go_wp2;refine hK8 _ _ (by exact Below.trans hS_6_2 (Below.mono HB8.out (Below.size hS_6_2))) ?_;clear hK8;intro hS_6_8 hD;refine wpAnyK_takeSD (i:=9) (d:=some 29) (v:=(.string R)) (fuel:=3) rfl (by kernel_rfl) (by kernel_rfl) (by kernel_rfl) (fun _ _ _ h=>h) hD hS_6_8 (.inl ⟨by kernel_rfl,?y6_9b2⟩) ?n6_9b2;case y6_9b2 =>
        intro w' _;have hfd:=field_run R w';go_simp
       clear hD;intro hD;simp only[Act.put,sqA,sqB,sqC];refine rO 11 2 rfl hD ?_;clear hD;intro K11 hK11;go_wp2_with fail;refine(HCH.out _).mono ?_;rintro ev w5 ⟨rfl,hb⟩;have HB11:=Hq hb;clear hb;go_wp2;refine hK11 _ _ (by exact Below.trans hS_6_8 (Below.mono HB11.out (Below.size hS_6_8))) ?_;clear hK11;intro hS_6_11 hD;have HL:=Hq hS_6_11;refine rP 14 34 1 rfl hD hS_6_11 ?_;clear hD;intro hD;simp only[Act.put,sqA,sqB,sqC];refine rP 15 35 0 rfl hD hS_6_11 ?_;clear hD;intro hD;simp only[Act.put,sqA,sqB,sqC];refine wpAnyK_done (by kernel_rfl) ?_ 0;clear hD;go_wp2;go_ret;exact⟨rfl,(HXD.out.next HL.out).1.2⟩
    · have HV3:=Hq (show veK M O G Y c r msg=19 from by
       rw[HV.out];by_cases h1:num c<num O
       · rw[decide_eq_true h1,decide_eq_false (fun h2=>hbl ⟨h1,h2⟩)];rfl
       · rw[decide_eq_false h1];rfl)
      rw[decide_eq_false hbl]at HBL;rw[HV3.out];unfold kV at *;clear hv hk vc vr hv4 hck hz hg hy v1 v2 v3 v4 h8 hbl HV hM hO hG hY hc hr hm;go_enter Tryz.func48,Tryz.ntmps48;go_wp2_with fail;try rw[hW0]
      clear hW0;refine(HCK.out _).mono ?_;rintro ev w1 ⟨rfl,hb⟩;have HX1:=Hq (HX0.out.next hb);clear hb c0 c1 c2 c3 s0 s1;obtain⟨c0,c1,c2,c3⟩:=HX1.out.1.1.cells;have s0:=HX1.out.2.c0;have s1:=HX1.out.2.c1;have HX2:=Hq (HX1.out.next ((Below.refl w1.heap.size w1).alloc (Nat.le_refl _) (.cells #[.string c,.string r] 22)));go_wp2_with fail;refine(HFM.out _).mono ?_;rintro ev w2 ⟨rfl,rfl⟩;clear c0 c1 c2 c3 s0 s1;go_wp2;obtain⟨wd,hwd⟩:∃ wd,World.drew (w1.alloc (.cells #[.string c,.string r] 22))=wd:=⟨_,rfl⟩;have HXD:=Hq (show SG w wd M O G Y c r from by rw[←hwd];exact HX2.out.next (Below.refl _ _).drew);obtain⟨k0,k1,k2,k3⟩:=HXD.out.1.1.cells;have t0:=HXD.out.2.c0;have t1:=HXD.out.2.c1;refine wp_region_K 16 (Below (wd).heap.size (wd)) (by kernel_rfl) ?_;intro hD;rw[hwd];have KK3:=Hq (fun w' (hS':(Below (wd).heap.size (wd)) w')=>And.intro (kC hS' k0) (And.intro (kC hS' k1) (And.intro (kC hS' k2) (And.intro (kC hS' k3) (And.intro (kC hS' t0) (kC hS' t1))))));refine rT 0 20 15 rfl hD (Below.refl _ _) (by intro w' hS';obtain⟨e0,e1,e2,e3,e4,e5⟩:=KK3.out w' hS';go_simp;with_reducible rfl) ?_;clear hD;intro hD;simp only[Act.put,sqA,sqB,sqC];refine rT 1 21 14 rfl hD (Below.refl _ _) (by intro w' hS';obtain⟨e0,e1,e2,e3,e4,e5⟩:=KK3.out w' hS';go_simp;with_reducible rfl) ?_;clear hD;intro hD;simp only[Act.put,sqA,sqB,sqC];refine rO 2 13 rfl hD ?_;clear hD;intro K2 hK2;go_wp2_with fail;refine(HBL.out _).mono ?_;rintro ev w3 ⟨rfl,hb⟩;have HB2:=Hq hb;clear hb;go_wp2;refine hK2 _ _ (by exact HB2.out) ?_;clear hK2;intro hS_6_2 hD;have HL:=Hq hS_6_2;refine rP 3 23 12 rfl hD hS_6_2 ?_;clear hD;intro hD;simp only[Act.put,sqA,sqB,sqC];refine rP 4 24 11 rfl hD hS_6_2 ?_;clear hD;intro hD;simp only[Act.put,sqA,sqB,sqC];refine rU 5 25 10 rfl hD hS_6_2 ?_;clear hD;intro hD;simp only[Act.put,sqA,sqB,sqC];refine rU 6 26 9 rfl hD hS_6_2 ?_;clear hD;intro hD;simp only[Act.put,sqA,sqB,sqC];refine rU 7 27 8 rfl hD hS_6_2 ?_;clear hD;intro hD;simp only[Act.put,sqA,sqB,sqC];refine rU 8 28 7 rfl hD hS_6_2 ?_;clear hD;intro hD;simp only[Act.put,sqA,sqB,sqC];refine rU 9 29 6 rfl hD hS_6_2 ?_;clear hD;intro hD;simp only[Act.put,sqA,sqB,sqC];refine rU 10 30 5 rfl hD hS_6_2 ?_;clear hD;intro hD;simp only[Act.put,sqA,sqB,sqC];refine rU 11 31 4 rfl hD hS_6_2 ?_;clear hD;intro hD;simp only[Act.put,sqA,sqB,sqC];refine rU 12 32 3 rfl hD hS_6_2 ?_;clear hD;intro hD;simp only[Act.put,sqA,sqB,sqC];refine rU 13 33 2 rfl hD hS_6_2 ?_;clear hD;intro hD;simp only[Act.put,sqA,sqB,sqC];refine rU 14 34 1 rfl hD hS_6_2 ?_;clear hD;intro hD;simp only[Act.put,sqA,sqB,sqC];refine rP 15 35 0 rfl hD hS_6_2 ?_;clear hD;intro hD;simp only[Act.put,sqA,sqB,sqC];refine wpAnyK_done (by kernel_rfl) ?_ 0;clear hD;go_wp2;go_ret;exact⟨rfl,(HXD.out.next HL.out).1.2⟩
 · rw[show veK M O G Y c r msg=scK M O G Y from if_neg hk];obtain⟨e,he⟩:∃ e,scK M O G Y=e:=⟨_,rfl⟩;rw[he]at HCK hk⊢;unfold kV at *;clear he;go_enter Tryz.func48,Tryz.ntmps48;go_wp2_with fail;try rw[hW0]
   clear hW0;refine(HCK.out _).mono ?_;rintro ev w1 ⟨rfl,hb⟩;have HX1:=Hq (HX0.out.next hb);clear hb c0 c1 c2 c3 s0 s1;obtain⟨c0,c1,c2,c3⟩:=HX1.out.1.1.cells;have s0:=HX1.out.2.c0;have s1:=HX1.out.2.c1;go_upto_region 3 with(fail)
   clear hk;go_wp2;go_ret;exact⟨rfl,HX1.out.1.2⟩
set_option maxRecDepth 100000
set_option maxHeartbeats 4000000
def rtV(M O G Y X:ByteArray):Value:=.agg #[.string M,.string O,.string G,.string Y,.string X]
def fewR(M O G Y X:ByteArray):Bool:=decide ((M.size:Int)≤8)&&(decide ((O.size:Int)≤8)&&(decide ((G.size:Int)≤9)&&(decide ((Y.size:Int)≤9)&&decide ((X.size:Int)≤9))))
theorem law58_few(M O G Y X:ByteArray)(w:World):Calls Tryz.prog 5 #[rtV M O G Y X] w (Ret (.bool (fewR M O G Y X)) w):=by
 obtain⟨W0,hW0⟩:∃ W0,w.alloc (.cells #[.string M,.string O,.string G,.string Y,.string X] 28)=W0:=⟨_,rfl⟩;have HB0:=Hq (show Below w.heap.size w W0 from by rw[←hW0];exact(Below.refl _ _).alloc (Nat.le_refl _) _);have HX:=Hq (show BxC W0 w.heap.size #[.string M,.string O,.string G,.string Y,.string X] 28 from by rw[←hW0];exact BxC.new w _ _);have x0:W0.cell? ⟨w.heap.size,0,none⟩=some (.string M):=HX.out.cell 0;have x1:W0.cell? ⟨w.heap.size,1,none⟩=some (.string O):=HX.out.cell 1;have x2:W0.cell? ⟨w.heap.size,2,none⟩=some (.string G):=HX.out.cell 2;have x3:W0.cell? ⟨w.heap.size,3,none⟩=some (.string Y):=HX.out.cell 3;have x4:W0.cell? ⟨w.heap.size,4,none⟩=some (.string X):=HX.out.cell 4;unfold rtV;go_enter Tryz.func5,Tryz.ntmps5;go_upto_region 1 with fail
 try rw[hW0]
 clear hW0
 cases h0:decide ((M.size:Int)≤8)with
 | false =>
  go_wp2;go_ret;exact⟨by simp[fewR,h0],HB0.out⟩
 | true =>
 cases h1:decide ((O.size:Int)≤8)with
 | false =>
  go_wp2;go_ret;exact⟨by simp[fewR,h0,h1],HB0.out⟩
 | true =>
 cases h2:decide ((G.size:Int)≤9)with
 | false =>
  go_wp2;go_ret;exact⟨by simp[fewR,h0,h1,h2],HB0.out⟩
 | true =>
 cases h3:decide ((Y.size:Int)≤9)with
 | false =>
  go_wp2;go_ret;exact⟨by simp[fewR,h0,h1,h2,h3],HB0.out⟩
 | true =>
 cases h4:decide ((X.size:Int)≤9)with
 | false =>
  go_wp2;go_ret;exact⟨by simp[fewR,h0,h1,h2,h3,h4],HB0.out⟩
 | true =>
  go_wp2;go_ret;exact⟨by simp[fewR,h0,h1,h2,h3,h4],HB0.out⟩
def ckV(M O G Y:ByteArray)(v:Ver):Int:=if v.msg.2=0 then veK M O G Y v.sc v.sr v.msg.1 else v.msg.2
theorem encS_size(x:It):(encS x).1.size≤1000000:=by
 unfold encS;split
 · decide
 split
 · decide
 split
 · decide
 · rw[bstr_size];omega
theorem Ver.msg_size(v:Ver):v.msg.1.size≤1000000:=by
 unfold Ver.msg;split
 · decide
 split
 · decide
 split
 · decide
 · exact encS_size _
theorem ky_Check(M O G Y:ByteArray)(v:Ver)(A:Option Addr)(n c:Nat)(w:World)(hs:SlN w A n c v.kr)(hn:n≤100)(hz:SzL v.str)(hM:M.size≤8)(hO:O.size≤100)(hG:G.size≤1000)(hY:Y.size≤1000)(hc:v.sc.size≤1000)(hr:v.sr.size≤1000) :
 Calls Tryz.prog 20 #[kV M O G Y,.agg (v.arr (.slice A n c))] w (Ret (.int .i64 (ckV M O G Y v)) w):=by
 obtain⟨cs,hcs⟩:∃ cs,v.arr (.slice A n c)=cs:=⟨_,rfl⟩;rw[hcs];have HVA:=Hq hcs;have HCS:=Hq (show cs.size=18 from by rw[←hcs];rfl);obtain⟨W0,hW0⟩:∃ W0,(w.alloc (.cells #[.string M,.string O,.string G,.string Y] 26)).alloc (.cells cs 35)=W0:=⟨_,rfl⟩;have HK0:=Hq (show BxC W0 w.heap.size #[.string M,.string O,.string G,.string Y] 26 from by rw[←hW0];exact(BxC.new w _ _).next ((Below.refl _ _).alloc (Nat.le_refl _) _));have HX0:=Hq (show BxC W0 (w.heap.size+1) cs 35 from by rw[←hW0];exact BxC.new1 w _ _ _);have HB0:=Hq (show Below w.heap.size w W0 from by rw[←hW0];exact((Below.refl _ _).alloc (Nat.le_refl _) _).alloc (by simp) _);have HM:=Hq (show ∀ W,Below w.heap.size w W→Calls Tryz.prog 18 #[.agg cs] W (RetSE v.msg W)from fun W hb=>by rw[←hcs];exact ky_Message v A n c W (hs.kept hb (Nat.le_refl _)) hn hz);have HV:=Hq (fun W=>sc_Verify M O G Y v.sc v.sr v.msg.1 hM hO hG hY hc hr v.msg_size W);obtain⟨r1,r2,hr1⟩:∃ r1 r2,v.msg=(r1,r2):=⟨_,_,rfl⟩;have HCK:=Hq (show ckV M O G Y v=if r2=0 then veK M O G Y v.sc v.sr r1 else r2 from by unfold ckV;rw[hr1]);rw[hr1]at HM HV;unfold kV at HV⊢;clear hs hcs hr1;go_enter Tryz.func20,Tryz.ntmps20;go_upto_region 1 with fail
 try rw[hW0]
 clear hW0;refine wp_region_lit ?_;refine wpList_load_row rfl 35 _ rfl (w.heap.size+1) rfl 35 cs (0,0) _ HX0.out Tryz.underlying35 rfl (by rw[HCS.out];kernel_rfl) ?_;go_wp2_with fail;refine(HM.out W0 HB0.out).mono ?_;rintro e w1 ⟨rfl,hb1⟩;have HK1:=Hq (HK0.out.next hb1);have HX1:=Hq (HX0.out.next hb1);have HB1:=Hq (HB0.out.trans (hb1.mono HB0.out.size));clear hb1;by_cases hz2:r2=0
 · subst hz2;have HCK:=Hq (show ckV M O G Y v=veK M O G Y v.sc v.sr r1 from by rw[HCK.out,if_pos rfl]);have k0:w1.cell? ⟨w.heap.size,0,none⟩=some (.string M):=HK1.out.cell 0;have k1:w1.cell? ⟨w.heap.size,1,none⟩=some (.string O):=HK1.out.cell 1;have k2:w1.cell? ⟨w.heap.size,2,none⟩=some (.string G):=HK1.out.cell 2;have k3:w1.cell? ⟨w.heap.size,3,none⟩=some (.string Y):=HK1.out.cell 3;have x16:w1.cell? ⟨w.heap.size+1,16,none⟩=some (.string v.sc):=(HX1.out.cell 16).trans (by rw[←HVA.out];rfl);have x17:w1.cell? ⟨w.heap.size+1,17,none⟩=some (.string v.sr):=(HX1.out.cell 17).trans (by rw[←HVA.out];rfl);go_wp2_with fail;refine(HV.out w1).mono ?_;rintro e w2 ⟨rfl,hb2⟩;have HB2:=Hq (HB1.out.trans (hb2.mono HB1.out.size));clear hb2;go_wp2;go_ret;exact⟨by rw[HCK.out];rfl,HB2.out⟩
 · have hne:(r2 != 0)=true:=by simp[hz2]
   have HCK:=Hq (show ckV M O G Y v=r2 from by rw[HCK.out,if_neg hz2]);go_wp2;go_ret;exact⟨by rw[HCK.out];rfl,HB1.out⟩
set_option maxRecDepth 100000
open Go.ChangeShapes Go.WideShapes Go.ChangeAt Go.Deep Go.Joins Go.RowKit
open Go.ChangeMaps (open_string shut_string)
theorem ownQ:ownKnob Tryz.prog.godebug=none:=by kernel_rfl
theorem laidOutQ:laidOutB Tryz.prog=true:=by kernel_rfl
theorem open_rootV{H:Type}{enc:TypeId×Value→H}{W:World}{held:Bool}{r:Reach}{b0:Nat}{v:Value}{d:DataW H}{p:List MemPlace}(hv:Value.okWide Tryz.prog W r b0 28 v)(h:DataW.Trod enc Tryz.prog W 0 (fun _=>true) held 28 v d p):∃ M O G Y X:ByteArray,v=rtV M O G Y X:=by
 obtain⟨cs,rfl,hsz⟩:=okWide_struct Tryz.underlying28 hv;have hsz:cs.toList.length=5:=hsz.trans (show Tryz.prog.cellsOf 28=5 from by kernel_rfl);obtain⟨c0,c1,c2,c3,c4,hcs⟩:∃ c0 c1 c2 c3 c4,cs.toList=[c0,c1,c2,c3,c4]:=by
  match hc:cs.toList,hsz with
  | [c0,c1,c2,c3,c4],_=>exact⟨c0,c1,c2,c3,c4,rfl⟩
 obtain⟨fuel,hf⟩:=h;have hf:DataW.trod enc Tryz.prog W 0 (fun _=>true) held fuel 28 cs.toList=some (d,p):=hf;rw[hcs]at hf;obtain⟨n0,y0,g0⟩:=trod_at Tryz.underlying28 hf 0 _ rfl 4 (by kernel_rfl);have g0:DataW.trod enc Tryz.prog W 0 (fun _=>true) held n0 26 [c0,c1,c2,c3]=some y0:=g0;obtain⟨n9,y9,g9⟩:=trod_at Tryz.underlying28 hf 1 _ rfl 1 (by kernel_rfl);have g9:DataW.trod enc Tryz.prog W 0 (fun _=>true) held n9 22 [c4]=some y9:=g9;obtain⟨n1,y1,g1⟩:=trod_at Tryz.underlying26 g0 0 _ rfl 2 (by kernel_rfl);have g1:DataW.trod enc Tryz.prog W 0 (fun _=>true) held n1 24 [c0,c1]=some y1:=g1;obtain⟨n2,y2,g2⟩:=trod_at Tryz.underlying26 g0 1 _ rfl 1 (by kernel_rfl);have g2:DataW.trod enc Tryz.prog W 0 (fun _=>true) held n2 22 [c2]=some y2:=g2;obtain⟨n3,y3,g3⟩:=trod_at Tryz.underlying26 g0 2 _ rfl 1 (by kernel_rfl);have g3:DataW.trod enc Tryz.prog W 0 (fun _=>true) held n3 22 [c3]=some y3:=g3;obtain⟨n4,y4,g4⟩:=trod_at Tryz.underlying24 g1 0 _ rfl 1 (by kernel_rfl);have g4:DataW.trod enc Tryz.prog W 0 (fun _=>true) held n4 22 [c0]=some y4:=g4;obtain⟨n5,y5,g5⟩:=trod_at Tryz.underlying24 g1 1 _ rfl 1 (by kernel_rfl);have g5:DataW.trod enc Tryz.prog W 0 (fun _=>true) held n5 22 [c1]=some y5:=g5;obtain⟨s0,e0,_⟩:=DataW.trod_string Tryz.underlying22 g4;obtain⟨s1,e1,_⟩:=DataW.trod_string Tryz.underlying22 g5;obtain⟨s2,e2,_⟩:=DataW.trod_string Tryz.underlying22 g2;obtain⟨s3,e3,_⟩:=DataW.trod_string Tryz.underlying22 g3;obtain⟨s4,e4,_⟩:=DataW.trod_string Tryz.underlying22 g9;simp only[List.cons.injEq,and_true]at e0 e1 e2 e3 e4;subst e0 e1 e2 e3 e4;refine⟨s0,s1,s2,s3,s4,?_⟩;rw[show cs=cs.toList.toArray from by simp,hcs];rfl
end Go.Proofs.YtamhonjkgkmdbaaGreatDoor

import Derived.Test.YtfbmbledklbfgaaGreatQMkJ
set_option linter.unusedVariables false
set_option linter.unusedSimpArgs false
namespace Go.Proofs.YtfbmbledklbfgaaGreat
set_option maxRecDepth 100000
set_option maxHeartbeats 4000000
open Go.RowKit
theorem r34_ExtendsE(bf af:ByteArray)(m n:Int)(p:List ByteArray)(A:Option Addr)(nn c:Nat)(w:World)(hs:SlN w A nn c p)(hnn:nn≤64)(h:m<0∨n<m∨m=0∨m=n):Calls Tryz.prog 26 #[.string bf,.int .i64 m,.string af,.int .i64 n,.slice A nn c] w (Ret (.bool (extB bf m af n p)) w):=by
 by_cases hm0:m<0
 · have HR:=Hq (extB_out (bf:=bf) (af:=af) (p:=p) (show m<0∨n<m from Or.inl hm0));clear hs h;go_enter Tryz.func26,Tryz.ntmps26;go_wp2;go_ret;exact⟨by rw[HR.out];rfl,Below.refl _ _⟩
 · by_cases hmn:n<m
   · have HR:=Hq (extB_out (bf:=bf) (af:=af) (p:=p) (show m<0∨n<m from Or.inr hmn));clear hs h;go_enter Tryz.func26,Tryz.ntmps26;go_wp2;go_ret;exact⟨by rw[HR.out];rfl,Below.refl _ _⟩
   · have hni:=nil_iff hs.1;have hl64:¬ (64:Int)<(nn:Int):=by omega
     by_cases hz:m=0
     · subst hz;have HR0:=Hq (show extB bf 0 af n p=((nn==0)&&decide (bf=rootL []))from by
        unfold extB;rw[if_neg (by omega),if_pos rfl,rootL_nil];by_cases hn:nn=0
        · rw[hni.2 hn,hn];simp
        · have hp:¬ p=[]:=fun e=>hn (hni.1 e);have hn':(nn==0)=false:=by rw[beq_eq_false_iff_ne];exact hn
          rw[hn'];simp[hp])
       have HM:=Hq (fun W=>r34_Root 0 [] none 0 0 W nlr (by decide) (by simp) (SlN.nil _ 0 (by decide) none));obtain⟨r,hr⟩:∃ r,rootL []=r:=⟨_,rfl⟩;rw[hr]at HM HR0;have hq:=tl_beq bf r;obtain⟨q,hd⟩:∃ q,decide (bf=r)=q:=⟨_,rfl⟩;rw[hd]at hq HR0;rcases Nat.eq_zero_or_pos nn with h0 | h0
       · subst h0;have HR:=Hq (show extB bf 0 af n p=q from by rw[HR0.out];simp);clear hs hd hr h hni;go_enter Tryz.func26,Tryz.ntmps26;go_wp2_with fail;refine(HM.out _).mono ?_;rintro ev w3 ⟨rfl,hb⟩;have HB:=Hq hb;clear hb;go_wp2;go_ret;exact⟨by rw[HR.out];rfl,HB.out⟩
       · have h50:((nn:Int)==0)=false:=by rw[beq_eq_false_iff_ne];omega
         have hn':(nn==0)=false:=by rw[beq_eq_false_iff_ne];omega
         rw[hn']at HR0;have HR:=Hq (show extB bf 0 af n p=false from by rw[HR0.out];rfl);clear hs hd hr HM h hni;go_enter Tryz.func26,Tryz.ntmps26;go_wp2;go_ret;exact⟨by rw[HR.out];rfl,Below.refl _ _⟩
     · obtain rfl:m=n:=by omega
       have HR0:=Hq (show extB bf m af m p=((nn==0)&&decide (bf=af))from by
        unfold extB;rw[if_neg (by omega),if_neg hz,if_pos rfl];by_cases hn:nn=0
        · rw[hni.2 hn,hn];simp
        · have hp:¬ p=[]:=fun e=>hn (hni.1 e);have hn':(nn==0)=false:=by rw[beq_eq_false_iff_ne];exact hn
          rw[hn'];simp[hp])
       have hzz:(m==0)=false:=by rw[beq_eq_false_iff_ne];exact hz
       have hq:=tl_beq bf af;obtain⟨q,hd⟩:∃ q,decide (bf=af)=q:=⟨_,rfl⟩;rw[hd]at hq HR0;rcases Nat.eq_zero_or_pos nn with h0 | h0
       · subst h0;have HR:=Hq (show extB bf m af m p=q from by rw[HR0.out];simp);clear hs hd h hni;go_enter Tryz.func26,Tryz.ntmps26;go_wp2;go_ret;exact⟨by rw[HR.out];rfl,Below.refl _ _⟩
       · have h50:((nn:Int)==0)=false:=by rw[beq_eq_false_iff_ne];omega
         have hn':(nn==0)=false:=by rw[beq_eq_false_iff_ne];omega
         rw[hn']at HR0;have HR:=Hq (show extB bf m af m p=false from by rw[HR0.out];rfl);clear hs hd h hni;go_enter Tryz.func26,Tryz.ntmps26;go_wp2;go_ret;exact⟨by rw[HR.out];rfl,Below.refl _ _⟩
theorem r34_Extends(bf af:ByteArray)(m n:Int)(p:List ByteArray)(A:Option Addr)(nn c:Nat)(w:World)(hs:SlN w A nn c p)(hbf:bf.size≤100)(hnn:nn≤64)(hsp:∀ x∈p,x.size≤100)(hn:n≤100000):Calls Tryz.prog 26 #[.string bf,.int .i64 m,.string af,.int .i64 n,.slice A nn c] w (Ret (.bool (extB bf m af n p)) w):=by
 by_cases hx:m<0∨n<m∨m=0∨m=n
 · exact r34_ExtendsE bf af m n p A nn c w hs hnn hx
 · obtain⟨a,rfl⟩:∃ a:Nat,m=a:=⟨m.toNat,by omega⟩;obtain⟨b,rfl⟩:∃ b:Nat,n=b:=⟨n.toNat,by omega⟩;have hm0:¬ (a:Int)<0:=by omega
   have hmn:¬ (b:Int)<a:=by omega
   have hmm:((a:Int)==b)=false:=by rw[beq_eq_false_iff_ne];omega
   have hzz:((a:Int)==0)=false:=by rw[beq_eq_false_iff_ne];omega
   have hl64:¬ (64:Int)<(nn:Int):=by omega
   have HEX:=Hq (show extB bf a af b p=((rootsF b bf a b true p).2.2&&decide ((rootsF b bf a b true p).1=bf)&&decide ((rootsF b bf a b true p).2.1=af))from by
    unfold extB;rw[if_neg (by omega),if_neg (by omega),if_neg (by omega)]
    rfl)
   have HC:=Hq (r34_roots bf hbf b a b true p A nn c w hs (by omega) hsp (by omega) (by omega) nlr (by omega));obtain⟨⟨xa,xb,xo⟩,hrf⟩:∃ r,rootsF b bf a b true p=r:=⟨_,rfl⟩;rw[hrf]at HC HEX;simp only[]at HC HEX;have hq1:=tl_beq xa bf;have hq2:=tl_beq xb af;obtain⟨q1,hd1⟩:∃ q,decide (xa=bf)=q:=⟨_,rfl⟩;obtain⟨q2,hd2⟩:∃ q,decide (xb=af)=q:=⟨_,rfl⟩;rw[hd1]at hq1 HEX;rw[hd2]at hq2 HEX;clear hs hx hsp hrf hd1 hd2;go_enter Tryz.func26,Tryz.ntmps26;go_wp2_with fail;refine HC.out.mono ?_;rintro e w5 ⟨rfl,hb⟩;have HB:=Hq hb;clear hb
   cases xo with
   | false =>
    have HR:=Hq (show extB bf a af b p=false from by rw[HEX.out];rfl);go_wp2;go_ret;exact⟨by rw[HR.out];rfl,HB.out⟩
   | true =>
    cases q1 with
    | false =>
     have HR:=Hq (show extB bf a af b p=false from by rw[HEX.out];rfl);go_wp2;go_ret;exact⟨by rw[HR.out];rfl,HB.out⟩
    | true =>
     have HR:=Hq (show extB bf a af b p=q2 from by rw[HEX.out];cases q2<;>rfl);go_wp2;go_ret;exact⟨by rw[HR.out];rfl,HB.out⟩
set_option maxRecDepth 100000
set_option maxHeartbeats 4000000
open Go.RowKit Go.Lib
theorem r33_Verify(M O G Y c r msg:ByteArray)(hM:M.size≤8)(hO:O.size≤100)(hG:G.size≤1000)(hY:Y.size≤1000)(hc:c.size≤1000)(hr:r.size≤1000)(hm:msg.size≤1000000)(w:World) :
 Calls Tryz.prog 23 #[kV M O G Y,.string msg,.agg #[.string c,.string r]] w (Ret (.int .i64 (veK M O G Y c r msg)) w):=by
 have hx0:=SG.new w M O G Y c r;obtain⟨W0,hW0⟩:∃ W,((w.alloc (.cells #[.string M,.string O,.string G,.string Y] 26)).alloc (.cells #[.string c,.string r] 28))=W:=⟨_,rfl⟩;rw[hW0]at hx0;have HX0:=Hq hx0;obtain⟨c0,c1,c2,c3⟩:=hx0.1.1.cells;have s0:=hx0.2.c0;have s1:=hx0.2.c1;clear hx0;have HCK:=Hq (r33_Check M O G Y hM hO hG hY);have HVC:=Hq (r01_Valid c (by omega));have HVR:=Hq (r01_Valid r (by omega));by_cases hk:scK M O G Y=0
 · rw[hk]at HCK
   cases vc:nvalid c with
   | false =>
    rw[vc]at HVC;rw[show veK M O G Y c r msg=3 from by unfold veK;rw[if_pos hk,vc,Bool.false_and,if_neg (by decide)]];unfold kV at *;clear vc hk;go_enter Tryz.func23,Tryz.ntmps23;go_wp2_with fail;try rw[hW0]
    clear hW0;refine(HCK.out _).mono ?_;rintro ev w1 ⟨rfl,hb⟩;have HX1:=Hq (HX0.out.next hb);clear hb c0 c1 c2 c3 s0 s1;obtain⟨c0,c1,c2,c3⟩:=HX1.out.1.1.cells;have s0:=HX1.out.2.c0;have s1:=HX1.out.2.c1;go_wp2_with fail;refine(HVC.out _).mono ?_;rintro ev w2 ⟨rfl,rfl⟩;go_wp2;go_ret;exact⟨rfl,HX1.out.1.2⟩
   | true =>
    rw[vc]at HVC
    cases vr:nvalid r with
    | false =>
     rw[vr]at HVR;rw[show veK M O G Y c r msg=3 from by unfold veK;rw[if_pos hk,vr,Bool.and_false,if_neg (by decide)]];unfold kV at *;clear vc vr hk;go_enter Tryz.func23,Tryz.ntmps23;go_wp2_with fail;try rw[hW0]
     clear hW0;refine(HCK.out _).mono ?_;rintro ev w1 ⟨rfl,hb⟩;have HX1:=Hq (HX0.out.next hb);clear hb c0 c1 c2 c3 s0 s1;obtain⟨c0,c1,c2,c3⟩:=HX1.out.1.1.cells;have s0:=HX1.out.2.c0;have s1:=HX1.out.2.c1;go_wp2_with fail;refine(HVC.out _).mono ?_;rintro ev w2 ⟨rfl,rfl⟩;go_wp2_with fail;refine(HVR.out _).mono ?_;rintro ev w2 ⟨rfl,rfl⟩;go_wp2;go_ret;exact⟨rfl,HX1.out.1.2⟩
    | true =>
     rw[vr]at HVR;obtain⟨hv4,hck,hz,hg,hy⟩:=scK_ok hk;obtain⟨v1,v2,v3,v4⟩:=all_four hv4;have h8:=chk_small hv4 hM hck;have lO:=nvalid_lt v2;have lc:=nvalid_lt vc;have lr:=nvalid_lt vr;have HCC:=Hq (r01_Order (nS (num c)) (nS (num O)) (by have:=nS_size_le.2 lc;omega) (by have:=nS_size_le.2 lO;omega));rw[ordB_nS,←nS_num vc,←nS_num v2]at HCC;have HCR:=Hq (r01_Order (nS (num r)) (nS (num O)) (by have:=nS_size_le.2 lr;omega) (by have:=nS_size_le.2 lO;omega));rw[ordB_nS,←nS_num vr,←nS_num v2]at HCR;have hcm:=cmpI_ltC (x:=num c) (y:=num O);have hrm:=cmpI_ltC (x:=num r) (y:=num O);obtain⟨k1,hk1⟩:∃ k,cmpI (num c) (num O)=k:=⟨_,rfl⟩;obtain⟨k2,hk2⟩:∃ k,cmpI (num r) (num O)=k:=⟨_,rfl⟩;rw[hk1]at HCC hcm;rw[hk2]at HCR hrm;have HV:=Hq (show veK M O G Y c r msg=(if (decide (num c<num O)&&(decide (num r<num O)&&veB M O G Y c r msg))=true then 0 else 19)from by unfold veK;rw[if_pos hk,vc,vr,Bool.and_self,if_pos rfl]);by_cases h1:num c<num O
     · have hge1 : decide (0 ≤ k1) = false := decide_eq_false (by have : k1 < 0 := by rw [hcm]; exact h1
                                                                  omega)
       by_cases h2:num r<num O
       · have hge2 : decide (0 ≤ k2) = false := decide_eq_false (by have : k2 < 0 := by rw [hrm]; exact h2
                                                                    omega)
         have HCO:=Hq (r33_commitment M O G Y c r hM hk vc vr h1);have hRz:(nS (cmS (num M) (num O) (num G) (num Y) (num c) (num r))).size≤1000000:=(by have hm0:0<num M:=(by obtain⟨i,hu⟩:=has_un (chkK_parts hck).2.2 (genK_parts hg).1;have:=hu.1;omega);have h9:=num_small hM;have : cmS (num M) (num O) (num G) (num Y) (num c) (num r)<num M:=Nat.mod_lt _ hm0;have : (nS (cmS (num M) (num O) (num G) (num Y) (num c) (num r))).size≤128:=nS_size_le.2 (lt128_of_lt8 (by omega));omega);have HCH:=Hq (r33_challenge M O G Y (nS (cmS (num M) (num O) (num G) (num Y) (num c) (num r))) msg hM h8 (by omega) (by omega) hRz hm v2 (by omega));rw[chS_fold]at HCH;have hbe:=nS_beq (chS M O G Y (cmS (num M) (num O) (num G) (num Y) (num c) (num r)) msg) (num c);rw[←nS_num vc]at hbe;have HV2:=Hq (show veK M O G Y c r msg=if veB M O G Y c r msg=true then 0 else 19 from by rw[HV.out,decide_eq_true h1,decide_eq_true h2];rfl);have hvb:veB M O G Y c r msg=decide (chS M O G Y (cmS (num M) (num O) (num G) (num Y) (num c) (num r)) msg=num c):=rfl;rw[←hvb]at hbe;obtain⟨R,hR⟩:∃ R,nS (cmS (num M) (num O) (num G) (num Y) (num c) (num r))=R:=⟨_,rfl⟩;obtain⟨x,hx⟩:∃ x,nS (chS M O G Y (cmS (num M) (num O) (num G) (num Y) (num c) (num r)) msg)=x:=⟨_,rfl⟩;rw[hR]at HCO HCH;rw[hx]at HCH hbe;obtain⟨b,hb⟩:∃ b,veB M O G Y c r msg=b:=⟨_,rfl⟩;rw[hb]at hbe HV2;unfold kV at *;clear hk vc vr hv4 hck hz hg hy v1 v2 v3 v4 h8 h1 h2 hRz hR hx hvb hb HV hM hO hG hY hc hr hm hcm hrm hk1 hk2 lO lc lr
         cases b with
         | false =>
          rw[show veK M O G Y c r msg=19 from HV2.out];go_enter Tryz.func23,Tryz.ntmps23;go_wp2_with fail;try rw[hW0]
          clear hW0;refine(HCK.out _).mono ?_;rintro ev w1 ⟨rfl,hb⟩;have HX1:=Hq (HX0.out.next hb);clear hb c0 c1 c2 c3 s0 s1;obtain⟨c0,c1,c2,c3⟩:=HX1.out.1.1.cells;have s0:=HX1.out.2.c0;have s1:=HX1.out.2.c1;go_wp2_with fail;refine(HVC.out _).mono ?_;rintro ev w2 ⟨rfl,rfl⟩;go_wp2_with fail;refine(HVR.out _).mono ?_;rintro ev w2 ⟨rfl,rfl⟩;go_wp2;obtain⟨wd,hwd⟩:∃ wd,World.drew w1=wd:=⟨_,rfl⟩;have HXD:=Hq (show SG w wd M O G Y c r from by rw[←hwd];exact HX1.out.next (blr).drew);clear c0 c1 c2 c3 s0 s1;obtain⟨c0,c1,c2,c3⟩:=HXD.out.1.1.cells;have s0:=HXD.out.2.c0;have s1:=HXD.out.2.c1;refine wp_region_K 23 (Below (wd).heap.size (wd)) (by kernel_rfl) ?_;intro hD;rw[hwd];have KK1:=Hq (fun w' (hS':(Below (wd).heap.size (wd)) w')=>And.intro (kC hS' c0) (And.intro (kC hS' c1) (And.intro (kC hS' c2) (And.intro (kC hS' c3) (And.intro (kC hS' s0) (kC hS' s1))))));refine rP 0 27 22 rfl hD blr ?_;clear hD;intro hD;refine rT 1 28 21 rfl hD blr (by intro w' hS';obtain⟨e0,e1,e2,e3,e4,e5⟩:=KK1.out w' hS';go_simp;with_reducible rfl) ?_;clear hD;intro hD;refine rP 2 29 20 rfl hD blr ?_;clear hD;intro hD;simp only[Act.put,sqA,sqB,sqC];refine rO 3 19 rfl hD ?_;clear hD;intro K3 hK3;go_wp2_with fail;refine(HCC.out _).mono ?_;rintro ev w3 ⟨rfl,hb⟩;have HB3:=Hq hb;clear hb;go_wp2;refine hK3 _ _ (by exact HB3.out) ?_;clear hK3;intro hS_7_3 hD;refine rP 4 31 18 rfl hD hS_7_3 ?_;clear hD;intro hD;refine rP 5 32 17 rfl hD hS_7_3 ?_;clear hD;intro hD;refine rP 6 33 16 rfl hD hS_7_3 ?_;clear hD;intro hD;refine rT 7 34 15 rfl hD hS_7_3 (by intro w' hS';obtain⟨e0,e1,e2,e3,e4,e5⟩:=KK1.out w' hS';go_simp;with_reducible rfl) ?_;clear hD;intro hD;refine rP 8 35 14 rfl hD hS_7_3 ?_;clear hD;intro hD;simp only[Act.put,sqA,sqB,sqC];refine rO 9 13 rfl hD ?_;clear hD;intro K9 hK9;go_wp2_with fail;refine(HCR.out _).mono ?_;rintro ev w4 ⟨rfl,hb⟩;have HB9:=Hq hb;clear hb;go_wp2;refine hK9 _ _ (by exact Below.trans hS_7_3 (Below.mono HB9.out (Below.size hS_7_3))) ?_;clear hK9;intro hS_7_9 hD;refine rP 10 37 12 rfl hD hS_7_9 ?_;clear hD;intro hD;refine rP 11 38 11 rfl hD hS_7_9 ?_;clear hD;intro hD;refine rP 12 39 10 rfl hD hS_7_9 ?_;clear hD;intro hD;refine rT 13 40 9 rfl hD hS_7_9 (by intro w' hS';obtain⟨e0,e1,e2,e3,e4,e5⟩:=KK1.out w' hS';go_simp;with_reducible rfl) ?_;clear hD;intro hD;refine rT 14 41 8 rfl hD hS_7_9 (by intro w' hS';obtain⟨e0,e1,e2,e3,e4,e5⟩:=KK1.out w' hS';go_simp;with_reducible rfl) ?_;clear hD;intro hD;refine rT 15 42 7 rfl hD hS_7_9 (by intro w' hS';obtain⟨e0,e1,e2,e3,e4,e5⟩:=KK1.out w' hS';go_simp;with_reducible rfl) ?_;clear hD;intro hD;refine rP 17 44 6 rfl hD hS_7_9 ?_;clear hD;intro hD;refine rP 19 46 5 rfl hD hS_7_9 ?_;clear hD;intro hD;refine rT 20 47 4 rfl hD hS_7_9 (by intro w' hS';obtain⟨e0,e1,e2,e3,e4,e5⟩:=KK1.out w' hS';go_simp;with_reducible rfl) ?_;clear hD;intro hD;simp only[Act.put,sqA,sqB,sqC];refine rO 16 3 rfl hD ?_;clear hD;intro K16 hK16;go_wp2_with fail;refine(HCO.out _).mono ?_;rintro ev w5 ⟨rfl,hb⟩;have HB16:=Hq hb;clear hb;go_wp2;refine hK16 _ _ (by exact Below.trans hS_7_9 (Below.mono HB16.out (Below.size hS_7_9))) ?_;clear hK16;intro hS_7_16 hD;refine rO 18 2 rfl hD ?_;clear hD;intro K18 hK18;go_wp2_with fail;refine(HCH.out _).mono ?_;rintro ev w6 ⟨rfl,hb⟩;have HB18:=Hq hb;clear hb;go_wp2;refine hK18 _ _ (by exact Below.trans hS_7_16 (Below.mono HB18.out (Below.size hS_7_16))) ?_;clear hK18;intro hS_7_18 hD;have HL:=Hq hS_7_18;refine rP 21 48 1 rfl hD hS_7_18 ?_;clear hD;intro hD;refine rP 22 49 0 rfl hD hS_7_18 ?_;clear hD;intro hD;simp only[Act.put,sqA,sqB,sqC];refine wpAnyK_done (by kernel_rfl) ?_ 0;clear hD;go_wp2;go_ret;exact⟨rfl,(HXD.out.next HL.out).1.2⟩
         | true =>
          rw[show veK M O G Y c r msg=0 from HV2.out];go_enter Tryz.func23,Tryz.ntmps23;go_wp2_with fail;try rw[hW0]
          clear hW0;refine(HCK.out _).mono ?_;rintro ev w1 ⟨rfl,hb⟩;have HX1:=Hq (HX0.out.next hb);clear hb c0 c1 c2 c3 s0 s1;obtain⟨c0,c1,c2,c3⟩:=HX1.out.1.1.cells;have s0:=HX1.out.2.c0;have s1:=HX1.out.2.c1;go_wp2_with fail;refine(HVC.out _).mono ?_;rintro ev w2 ⟨rfl,rfl⟩;go_wp2_with fail;refine(HVR.out _).mono ?_;rintro ev w2 ⟨rfl,rfl⟩;go_wp2;obtain⟨wd,hwd⟩:∃ wd,World.drew w1=wd:=⟨_,rfl⟩;have HXD:=Hq (show SG w wd M O G Y c r from by rw[←hwd];exact HX1.out.next (blr).drew);clear c0 c1 c2 c3 s0 s1;obtain⟨c0,c1,c2,c3⟩:=HXD.out.1.1.cells;have s0:=HXD.out.2.c0;have s1:=HXD.out.2.c1;refine wp_region_K 23 (Below (wd).heap.size (wd)) (by kernel_rfl) ?_;intro hD;rw[hwd];have KK2:=Hq (fun w' (hS':(Below (wd).heap.size (wd)) w')=>And.intro (kC hS' c0) (And.intro (kC hS' c1) (And.intro (kC hS' c2) (And.intro (kC hS' c3) (And.intro (kC hS' s0) (kC hS' s1))))));refine rP 0 27 22 rfl hD blr ?_;clear hD;intro hD;refine rT 1 28 21 rfl hD blr (by intro w' hS';obtain⟨e0,e1,e2,e3,e4,e5⟩:=KK2.out w' hS';go_simp;with_reducible rfl) ?_;clear hD;intro hD;refine rP 2 29 20 rfl hD blr ?_;clear hD;intro hD;simp only[Act.put,sqA,sqB,sqC];refine rO 3 19 rfl hD ?_;clear hD;intro K3 hK3;go_wp2_with fail;refine(HCC.out _).mono ?_;rintro ev w3 ⟨rfl,hb⟩;have HB3:=Hq hb;clear hb;go_wp2;refine hK3 _ _ (by exact HB3.out) ?_;clear hK3;intro hS_7_3 hD;refine rP 4 31 18 rfl hD hS_7_3 ?_;clear hD;intro hD;refine rP 5 32 17 rfl hD hS_7_3 ?_;clear hD;intro hD;refine rP 6 33 16 rfl hD hS_7_3 ?_;clear hD;intro hD;refine rT 7 34 15 rfl hD hS_7_3 (by intro w' hS';obtain⟨e0,e1,e2,e3,e4,e5⟩:=KK2.out w' hS';go_simp;with_reducible rfl) ?_;clear hD;intro hD;refine rP 8 35 14 rfl hD hS_7_3 ?_;clear hD;intro hD;simp only[Act.put,sqA,sqB,sqC];refine rO 9 13 rfl hD ?_;clear hD;intro K9 hK9;go_wp2_with fail;refine(HCR.out _).mono ?_;rintro ev w4 ⟨rfl,hb⟩;have HB9:=Hq hb;clear hb;go_wp2;refine hK9 _ _ (by exact Below.trans hS_7_3 (Below.mono HB9.out (Below.size hS_7_3))) ?_;clear hK9;intro hS_7_9 hD;refine rP 10 37 12 rfl hD hS_7_9 ?_;clear hD;intro hD;refine rP 11 38 11 rfl hD hS_7_9 ?_;clear hD;intro hD;refine rP 12 39 10 rfl hD hS_7_9 ?_;clear hD;intro hD;refine rT 13 40 9 rfl hD hS_7_9 (by intro w' hS';obtain⟨e0,e1,e2,e3,e4,e5⟩:=KK2.out w' hS';go_simp;with_reducible rfl) ?_;clear hD;intro hD;refine rT 14 41 8 rfl hD hS_7_9 (by intro w' hS';obtain⟨e0,e1,e2,e3,e4,e5⟩:=KK2.out w' hS';go_simp;with_reducible rfl) ?_;clear hD;intro hD;refine rT 15 42 7 rfl hD hS_7_9 (by intro w' hS';obtain⟨e0,e1,e2,e3,e4,e5⟩:=KK2.out w' hS';go_simp;with_reducible rfl) ?_;clear hD;intro hD;refine rP 17 44 6 rfl hD hS_7_9 ?_;clear hD;intro hD;refine rP 19 46 5 rfl hD hS_7_9 ?_;clear hD;intro hD;refine rT 20 47 4 rfl hD hS_7_9 (by intro w' hS';obtain⟨e0,e1,e2,e3,e4,e5⟩:=KK2.out w' hS';go_simp;with_reducible rfl) ?_;clear hD;intro hD;simp only[Act.put,sqA,sqB,sqC];refine rO 16 3 rfl hD ?_;clear hD;intro K16 hK16;go_wp2_with fail;refine(HCO.out _).mono ?_;rintro ev w5 ⟨rfl,hb⟩;have HB16:=Hq hb;clear hb;go_wp2;refine hK16 _ _ (by exact Below.trans hS_7_9 (Below.mono HB16.out (Below.size hS_7_9))) ?_;clear hK16;intro hS_7_16 hD;refine rO 18 2 rfl hD ?_;clear hD;intro K18 hK18;go_wp2_with fail;refine(HCH.out _).mono ?_;rintro ev w6 ⟨rfl,hb⟩;have HB18:=Hq hb;clear hb;go_wp2;refine hK18 _ _ (by exact Below.trans hS_7_16 (Below.mono HB18.out (Below.size hS_7_16))) ?_;clear hK18;intro hS_7_18 hD;have HL:=Hq hS_7_18;refine rP 21 48 1 rfl hD hS_7_18 ?_;clear hD;intro hD;refine rP 22 49 0 rfl hD hS_7_18 ?_;clear hD;intro hD;simp only[Act.put,sqA,sqB,sqC];refine wpAnyK_done (by kernel_rfl) ?_ 0;clear hD;go_wp2;go_ret;exact⟨rfl,(HXD.out.next HL.out).1.2⟩
       · have hge2 : decide (0 ≤ k2) = true := decide_eq_true (by have : ¬ k2 < 0 := by rw [hrm]; exact h2
                                                                  omega)
         have HV3:=Hq (show veK M O G Y c r msg=19 from by rw[HV.out,decide_eq_true h1,decide_eq_false h2];rfl);rw[HV3.out];unfold kV at *;clear hk vc vr hv4 hck hz hg hy v1 v2 v3 v4 h8 h1 h2 HV hM hO hG hY hc hr hm hcm hrm hk1 hk2 lO lc lr;go_enter Tryz.func23,Tryz.ntmps23;go_wp2_with fail;try rw[hW0]
         clear hW0;refine(HCK.out _).mono ?_;rintro ev w1 ⟨rfl,hb⟩;have HX1:=Hq (HX0.out.next hb);clear hb c0 c1 c2 c3 s0 s1;obtain⟨c0,c1,c2,c3⟩:=HX1.out.1.1.cells;have s0:=HX1.out.2.c0;have s1:=HX1.out.2.c1;go_wp2_with fail;refine(HVC.out _).mono ?_;rintro ev w2 ⟨rfl,rfl⟩;go_wp2_with fail;refine(HVR.out _).mono ?_;rintro ev w2 ⟨rfl,rfl⟩;go_wp2;obtain⟨wd,hwd⟩:∃ wd,World.drew w1=wd:=⟨_,rfl⟩;have HXD:=Hq (show SG w wd M O G Y c r from by rw[←hwd];exact HX1.out.next (blr).drew);clear c0 c1 c2 c3 s0 s1;obtain⟨c0,c1,c2,c3⟩:=HXD.out.1.1.cells;have s0:=HXD.out.2.c0;have s1:=HXD.out.2.c1;refine wp_region_K 23 (Below (wd).heap.size (wd)) (by kernel_rfl) ?_;intro hD;rw[hwd];have KK3:=Hq (fun w' (hS':(Below (wd).heap.size (wd)) w')=>And.intro (kC hS' c0) (And.intro (kC hS' c1) (And.intro (kC hS' c2) (And.intro (kC hS' c3) (And.intro (kC hS' s0) (kC hS' s1))))));refine rP 0 27 22 rfl hD blr ?_;clear hD;intro hD;refine rT 1 28 21 rfl hD blr (by intro w' hS';obtain⟨e0,e1,e2,e3,e4,e5⟩:=KK3.out w' hS';go_simp;with_reducible rfl) ?_;clear hD;intro hD;refine rP 2 29 20 rfl hD blr ?_;clear hD;intro hD;simp only[Act.put,sqA,sqB,sqC];refine rO 3 19 rfl hD ?_;clear hD;intro K3 hK3;go_wp2_with fail;refine(HCC.out _).mono ?_;rintro ev w3 ⟨rfl,hb⟩;have HB3:=Hq hb;clear hb;go_wp2;refine hK3 _ _ (by exact HB3.out) ?_;clear hK3;intro hS_7_3 hD;refine rP 4 31 18 rfl hD hS_7_3 ?_;clear hD;intro hD;refine rP 5 32 17 rfl hD hS_7_3 ?_;clear hD;intro hD;refine rP 6 33 16 rfl hD hS_7_3 ?_;clear hD;intro hD;refine rT 7 34 15 rfl hD hS_7_3 (by intro w' hS';obtain⟨e0,e1,e2,e3,e4,e5⟩:=KK3.out w' hS';go_simp;with_reducible rfl) ?_;clear hD;intro hD;refine rP 8 35 14 rfl hD hS_7_3 ?_;clear hD;intro hD;simp only[Act.put,sqA,sqB,sqC];refine rO 9 13 rfl hD ?_;clear hD;intro K9 hK9;go_wp2_with fail;refine(HCR.out _).mono ?_;rintro ev w4 ⟨rfl,hb⟩;have HB9:=Hq hb;clear hb;go_wp2;refine hK9 _ _ (by exact Below.trans hS_7_3 (Below.mono HB9.out (Below.size hS_7_3))) ?_;clear hK9;intro hS_7_9 hD;have HL:=Hq hS_7_9;refine rP 10 37 12 rfl hD hS_7_9 ?_;clear hD;intro hD;refine rP 11 38 11 rfl hD hS_7_9 ?_;clear hD;intro hD;refine rP 12 39 10 rfl hD hS_7_9 ?_;clear hD;intro hD;refine rU 13 40 9 rfl hD hS_7_9 ?_;clear hD;intro hD;refine rU 14 41 8 rfl hD hS_7_9 ?_;clear hD;intro hD;refine rU 15 42 7 rfl hD hS_7_9 ?_;clear hD;intro hD;refine rU 16 43 6 rfl hD hS_7_9 ?_;clear hD;intro hD;refine rU 17 44 5 rfl hD hS_7_9 ?_;clear hD;intro hD;refine rU 18 45 4 rfl hD hS_7_9 ?_;clear hD;intro hD;refine rU 19 46 3 rfl hD hS_7_9 ?_;clear hD;intro hD;refine rU 20 47 2 rfl hD hS_7_9 ?_;clear hD;intro hD;refine rU 21 48 1 rfl hD hS_7_9 ?_;clear hD;intro hD;refine rP 22 49 0 rfl hD hS_7_9 ?_;clear hD;intro hD;simp only[Act.put,sqA,sqB,sqC];refine wpAnyK_done (by kernel_rfl) ?_ 0;clear hD;go_wp2;go_ret;exact⟨rfl,(HXD.out.next HL.out).1.2⟩
     · have hge1 : decide (0 ≤ k1) = true := decide_eq_true (by have : ¬ k1 < 0 := by rw [hcm]; exact h1
                                                                omega)
       have HV3:=Hq (show veK M O G Y c r msg=19 from by rw[HV.out,decide_eq_false h1];rfl);rw[HV3.out];unfold kV at *;clear hk vc vr hv4 hck hz hg hy v1 v2 v3 v4 h8 h1 HV hM hO hG hY hc hr hm hcm hrm hk1 hk2 lO lc lr;go_enter Tryz.func23,Tryz.ntmps23;go_wp2_with fail;try rw[hW0]
       clear hW0;refine(HCK.out _).mono ?_;rintro ev w1 ⟨rfl,hb⟩;have HX1:=Hq (HX0.out.next hb);clear hb c0 c1 c2 c3 s0 s1;obtain⟨c0,c1,c2,c3⟩:=HX1.out.1.1.cells;have s0:=HX1.out.2.c0;have s1:=HX1.out.2.c1;go_wp2_with fail;refine(HVC.out _).mono ?_;rintro ev w2 ⟨rfl,rfl⟩;go_wp2_with fail;refine(HVR.out _).mono ?_;rintro ev w2 ⟨rfl,rfl⟩;go_wp2;obtain⟨wd,hwd⟩:∃ wd,World.drew w1=wd:=⟨_,rfl⟩;have HXD:=Hq (show SG w wd M O G Y c r from by rw[←hwd];exact HX1.out.next (blr).drew);clear c0 c1 c2 c3 s0 s1;obtain⟨c0,c1,c2,c3⟩:=HXD.out.1.1.cells;have s0:=HXD.out.2.c0;have s1:=HXD.out.2.c1;refine wp_region_K 23 (Below (wd).heap.size (wd)) (by kernel_rfl) ?_;intro hD;rw[hwd];refine rP 0 27 22 rfl hD blr ?_;clear hD;intro hD;refine rT 1 28 21 rfl hD blr (by intro w' hS';have e0:=kC hS' c0;have e1:=kC hS' c1;have e2:=kC hS' c2;have e3:=kC hS' c3;have e4:=kC hS' s0;have e5:=kC hS' s1;go_simp;with_reducible rfl) ?_;clear hD;intro hD;refine rP 2 29 20 rfl hD blr ?_;clear hD;intro hD;simp only[Act.put,sqA,sqB,sqC];refine rO 3 19 rfl hD ?_;clear hD;intro K3 hK3;go_wp2_with fail;refine(HCC.out _).mono ?_;rintro ev w3 ⟨rfl,hb⟩;have HB3:=Hq hb;clear hb;go_wp2;refine hK3 _ _ (by exact HB3.out) ?_;clear hK3;intro hS_7_3 hD;have HL:=Hq hS_7_3;refine rP 4 31 18 rfl hD hS_7_3 ?_;clear hD;intro hD;refine rP 5 32 17 rfl hD hS_7_3 ?_;clear hD;intro hD;refine rU 6 33 16 rfl hD hS_7_3 ?_;clear hD;intro hD;refine rU 7 34 15 rfl hD hS_7_3 ?_;clear hD;intro hD;refine rU 8 35 14 rfl hD hS_7_3 ?_;clear hD;intro hD;refine rU 9 36 13 rfl hD hS_7_3 ?_;clear hD;intro hD;refine rU 10 37 12 rfl hD hS_7_3 ?_;clear hD;intro hD;refine rP 11 38 11 rfl hD hS_7_3 ?_;clear hD;intro hD;refine rP 12 39 10 rfl hD hS_7_3 ?_;clear hD;intro hD;refine rU 13 40 9 rfl hD hS_7_3 ?_;clear hD;intro hD;refine rU 14 41 8 rfl hD hS_7_3 ?_;clear hD;intro hD;refine rU 15 42 7 rfl hD hS_7_3 ?_;clear hD;intro hD;refine rU 16 43 6 rfl hD hS_7_3 ?_;clear hD;intro hD;refine rU 17 44 5 rfl hD hS_7_3 ?_;clear hD;intro hD;refine rU 18 45 4 rfl hD hS_7_3 ?_;clear hD;intro hD;refine rU 19 46 3 rfl hD hS_7_3 ?_;clear hD;intro hD;refine rU 20 47 2 rfl hD hS_7_3 ?_;clear hD;intro hD;refine rU 21 48 1 rfl hD hS_7_3 ?_;clear hD;intro hD;refine rP 22 49 0 rfl hD hS_7_3 ?_;clear hD;intro hD;simp only[Act.put,sqA,sqB,sqC];refine wpAnyK_done (by kernel_rfl) ?_ 0;clear hD;go_wp2;go_ret;exact⟨rfl,(HXD.out.next HL.out).1.2⟩
 · rw[show veK M O G Y c r msg=scK M O G Y from if_neg hk];obtain⟨e,he⟩:∃ e,scK M O G Y=e:=⟨_,rfl⟩;rw[he]at HCK hk⊢;unfold kV at *;clear he;go_enter Tryz.func23,Tryz.ntmps23;go_wp2_with fail;try rw[hW0]
   clear hW0;refine(HCK.out _).mono ?_;rintro ev w1 ⟨rfl,hb⟩;have HX1:=Hq (HX0.out.next hb);clear hb c0 c1 c2 c3 s0 s1;obtain⟨c0,c1,c2,c3⟩:=HX1.out.1.1.cells;have s0:=HX1.out.2.c0;have s1:=HX1.out.2.c1;go_upto_region 3 with(fail)
   clear hk;go_wp2;go_ret;exact⟨rfl,HX1.out.1.2⟩
set_option maxRecDepth 100000
set_option maxHeartbeats 4000000
theorem r57_CheckHead(M O G Y r a b:ByteArray)(n:Int)(hM:M.size≤8)(hO:O.size≤100)(hG:G.size≤1000)(hY:Y.size≤1000)(ha:a.size≤1000)(hbz:b.size≤1000)(hr:r.size≤100)(w:World) :
 Calls Tryz.prog 10 #[kV M O G Y,.agg #[.int .i64 n,.string r,.string a,.string b]] w (Ret (.int .i64 (ckH M O G Y n r a b)) w):=by
 have hx0:=KHd.new w M O G Y n r a b;obtain⟨W0,hW0⟩:∃ W,((w.alloc (.cells #[.string M,.string O,.string G,.string Y] 26)).alloc (.cells #[.int .i64 n,.string r,.string a,.string b] 30))=W:=⟨_,rfl⟩;rw[hW0]at hx0;have HX0:=Hq hx0;obtain⟨c0,c1,c2,c3⟩:=hx0.1.cells;obtain⟨d0,d1,d2,d3⟩:=hx0.2.1.cells;clear hx0;by_cases h0:n<0
 · have HR:=Hq (show ckH M O G Y n r a b=2 from by unfold ckH;rw[if_pos (Or.inl h0)]);unfold kV at *;go_enter Tryz.func10,Tryz.ntmps10;go_wp2;go_ret;exact⟨by rw[HR.out];rfl,by first | exact HX0.out.2.2 | (rw[←hW0]at HX0;exact HX0.out.2.2)⟩
 · by_cases h1:n > 4096
   · have HR:=Hq (show ckH M O G Y n r a b=2 from by unfold ckH;rw[if_pos (Or.inr h1)]);have h1:4096<n:=h1;unfold kV at *;go_enter Tryz.func10,Tryz.ntmps10;go_wp2;go_ret;exact⟨by rw[HR.out];rfl,by first | exact HX0.out.2.2 | (rw[←hW0]at HX0;exact HX0.out.2.2)⟩
   · have h1:¬ 4096<n:=h1;by_cases h2:r.size=32
     · have HR:=Hq (show ckH M O G Y n r a b=veK M O G Y a b (hdS n.toNat r)from by unfold ckH;rw[if_neg (by omega),if_neg (by omega)]);obtain⟨k,rfl⟩:∃ k:Nat,n=k:=⟨n.toNat,by omega⟩;rw[Int.toNat_natCast]at HR;have h3:((r.size:Int) != 32)=false:=by rw[h2];rfl
       have HH:=Hq (r57_headMessage k r a b (by omega) hr);have HV:=Hq (r33_Verify M O G Y a b (hdS k r) hM hO hG hY ha hbz (hdS_size k r));unfold kV at *;clear h2 hr;obtain⟨wd,hwd⟩:∃ wd,W0.drew=wd:=⟨_,rfl⟩;have HXD:=Hq (HX0.out.next (show Below W0.heap.size W0 wd from by rw[←hwd];exact(blr).drew));go_enter Tryz.func10,Tryz.ntmps10;go_wp2;try rw[hW0]
       clear hW0 c0 c1 c2 c3 d0 d1 d2 d3;obtain⟨c0,c1,c2,c3⟩:=HXD.out.1.cells;obtain⟨d0,d1,d2,d3⟩:=HXD.out.2.1.cells;refine wp_region_K 7 (Below (wd).heap.size (wd)) (by kernel_rfl) ?_;intro hD;rw[hwd];have KK1:=Hq (fun w' (hS':(Below (wd).heap.size (wd)) w')=>And.intro (kC hS' c0) (And.intro (kC hS' c1) (And.intro (kC hS' c2) (And.intro (kC hS' c3) (And.intro (kC hS' d0) (And.intro (kC hS' d1) (And.intro (kC hS' d2) (kC hS' d3))))))));refine rT 0 17 6 rfl hD blr (by intro w' hS';obtain⟨e0,e1,e2,e3,e4,e5,e6,e7⟩:=KK1.out w' hS';go_simp;with_reducible rfl) ?_;clear hD;intro hD;refine rT 1 18 5 rfl hD blr (by intro w' hS';obtain⟨e0,e1,e2,e3,e4,e5,e6,e7⟩:=KK1.out w' hS';go_simp;with_reducible rfl) ?_;clear hD;intro hD;refine rP 3 20 4 rfl hD blr ?_;clear hD;intro hD;refine rT 4 21 3 rfl hD blr (by intro w' hS';obtain⟨e0,e1,e2,e3,e4,e5,e6,e7⟩:=KK1.out w' hS';go_simp;with_reducible rfl) ?_;clear hD;intro hD;simp only[Act.put,sqA,sqB,sqC];refine rO 2 2 rfl hD ?_;clear hD;intro K2 hK2;go_wp2_with fail;refine(HH.out _).mono ?_;rintro ev w1 ⟨rfl,hb⟩;have HB2:=Hq hb;clear hb;go_wp2;refine hK2 _ _ (by exact HB2.out) ?_;clear hK2;intro hS_5_2 hD;refine rO 5 1 rfl hD ?_;clear hD;intro K5 hK5;go_wp2_with fail;refine(HV.out _).mono ?_;rintro ev w2 ⟨rfl,hb⟩;have HB5:=Hq hb;clear hb;go_wp2;refine hK5 _ _ (by exact Below.trans hS_5_2 (Below.mono HB5.out (Below.size hS_5_2))) ?_;clear hK5;intro hS_5_5 hD;refine rO 6 0 rfl hD ?_;clear hD;intro K6 hK6;go_wp2;refine hK6 _ _ (by exact hS_5_5) ?_;clear hK6;intro hS_5_6 hD;refine wpAnyK_done (by kernel_rfl) ?_ 0;have HL:=Hq hS_5_6;clear hD;go_wp2;go_ret;exact⟨by rw[HR.out];rfl,(HXD.out.next HL.out).2.2⟩
     · have HR:=Hq (show ckH M O G Y n r a b=3 from by unfold ckH;rw[if_neg (by omega),if_pos h2]);have h3:((r.size:Int) != 32)=true:=by rw[bne_iff_ne];omega
       unfold kV at *;go_enter Tryz.func10,Tryz.ntmps10;go_wp2;go_ret;exact⟨by rw[HR.out];rfl,by first | exact HX0.out.2.2 | (rw[←hW0]at HX0;exact HX0.out.2.2)⟩
def SXr(w W:World)(M O G Y:ByteArray)(h k:HdV):Prop:=
 Bx4 W w.heap.size (.string M) (.string O) (.string G) (.string Y) 26∧Bx4 W (w.heap.size+1) (.int .i64 h.n) (.string h.r) (.string h.a) (.string h.b) 30∧Bx4 W (w.heap.size+1+1) (.int .i64 k.n) (.string k.r) (.string k.a) (.string k.b) 30∧Below w.heap.size w W
theorem SXr.new(w:World)(M O G Y:ByteArray)(h k:HdV):SXr w (((w.alloc (.cells #[.string M,.string O,.string G,.string Y] 26)).alloc (.cells #[.int .i64 h.n,.string h.r,.string h.a,.string h.b] 30)).alloc (.cells #[.int .i64 k.n,.string k.r,.string k.a,.string k.b] 30)) M O G Y h k:=by
 have h1:=Bx4.new (w.alloc (.cells #[.string M,.string O,.string G,.string Y] 26)) (.int .i64 h.n) (.string h.r) (.string h.a) (.string h.b) 30;have h2:=Bx4.new ((w.alloc (.cells #[.string M,.string O,.string G,.string Y] 26)).alloc (.cells #[.int .i64 h.n,.string h.r,.string h.a,.string h.b] 30)) (.int .i64 k.n) (.string k.r) (.string k.a) (.string k.b) 30;rw[World.size_alloc]at h1;rw[World.size_alloc,World.size_alloc]at h2;exact⟨((Bx4.new w _ _ _ _ _).next ((blr).alloc nlr _)).next ((blr).alloc nlr _),h1.next ((blr).alloc nlr _),h2,(((blr).alloc nlr _).alloc (by simp) _).alloc (by simp;omega) _⟩
theorem SXr.next{w W W':World}{M O G Y:ByteArray}{h k:HdV}(x:SXr w W M O G Y h k)(hb:Below W.heap.size W W'):SXr w W' M O G Y h k:=
 ⟨x.1.next hb,x.2.1.next hb,x.2.2.1.next hb,x.2.2.2.trans (hb.mono x.2.2.2.size)⟩
theorem r57_Extends(M O G Y:ByteArray)(h k:HdV)(p:List ByteArray)(A:Option Addr)(nn c:Nat)(hM:M.size≤8)(hO:O.size≤100)(hG:G.size≤1000)(hY:Y.size≤1000)(hh:h.few)(hk:k.few)(hnn:nn≤64)(hsp:∀ x∈p,x.size≤100)(w:World)(hs:SlN w A nn c p) :
 Calls Tryz.prog 12 #[kV M O G Y,h.val,k.val,.slice A nn c] w (Ret (.int .i64 (exH M O G Y h k p)) w):=by
 have hx0:=SXr.new w M O G Y h k;have HS:=Hq hs;have HSP:=Hq hsp;have hcap:=hs.2.1;have hcap2:=hs.2.2.1;have HC1:=Hq (r57_CheckHead M O G Y h.r h.a h.b h.n hM hO hG hY hh.2.1 hh.2.2 hh.1);have HC2:=Hq (r57_CheckHead M O G Y k.r k.a k.b k.n hM hO hG hY hk.2.1 hk.2.2 hk.1);have FH:=Hq hh;clear hs hsp hh hk;obtain⟨W0,hW0⟩:∃ W,(((w.alloc (.cells #[.string M,.string O,.string G,.string Y] 26)).alloc (.cells #[.int .i64 h.n,.string h.r,.string h.a,.string h.b] 30)).alloc (.cells #[.int .i64 k.n,.string k.r,.string k.a,.string k.b] 30))=W:=⟨_,rfl⟩;rw[hW0]at hx0;have HX0:=Hq hx0;clear hx0;obtain⟨v1,hv1⟩:∃ v,ckH M O G Y h.n h.r h.a h.b=v:=⟨_,rfl⟩;obtain⟨v2,hv2⟩:∃ v,ckH M O G Y k.n k.r k.a k.b=v:=⟨_,rfl⟩;have HR:=Hq (show exH M O G Y h k p=if v1≠0 then v1 else if v2≠0 then v2 else if extB h.r h.n k.r k.n p then 0 else 16 from by unfold exH;rw[hv1,hv2]);have HV2:=Hq hv2;rw[hv1]at HC1;rw[hv2]at HC2;clear hv1 hv2;unfold HdV.val kV at *;obtain⟨b0,b1,b2,b3⟩:=HX0.out.1.cells;obtain⟨c0,c1,c2,c3⟩:=HX0.out.2.1.cells;obtain⟨e0,e1,e2,e3⟩:=HX0.out.2.2.1.cells;go_enter Tryz.func12,Tryz.ntmps12;go_wp2_with fail;try rw[hW0]
 clear hW0;refine(HC1.out _).mono ?_;rintro ev w1 ⟨rfl,hb⟩;have HX1:=Hq (HX0.out.next hb);clear hb b0 b1 b2 b3 c0 c1 c2 c3 e0 e1 e2 e3;obtain⟨b0,b1,b2,b3⟩:=HX1.out.1.cells;obtain⟨c0,c1,c2,c3⟩:=HX1.out.2.1.cells;obtain⟨e0,e1,e2,e3⟩:=HX1.out.2.2.1.cells;by_cases hz1:v1=0
 · subst hz1;go_wp2_with fail;refine(HC2.out _).mono ?_;rintro ev w2 ⟨rfl,hb⟩;have HX2:=Hq (HX1.out.next hb);clear hb b0 b1 b2 b3 c0 c1 c2 c3 e0 e1 e2 e3;obtain⟨b0,b1,b2,b3⟩:=HX2.out.1.cells;obtain⟨c0,c1,c2,c3⟩:=HX2.out.2.1.cells;obtain⟨e0,e1,e2,e3⟩:=HX2.out.2.2.1.cells;by_cases hz2:v2=0
   · subst hz2;have hkn:k.n≤4096:=by
      have:=HV2.out;unfold ckH at this;split at this
      · exact absurd this (by decide)
      · omega
     have HEX:=Hq (r34_Extends h.r k.r h.n k.n p A nn c w2 (HS.out.kept HX2.out.2.2.2 nlr) FH.out.1 hnn HSP.out (by omega));obtain⟨q,hq⟩:∃ q,extB h.r h.n k.r k.n p=q:=⟨_,rfl⟩;rw[hq]at HEX HR;clear hq;go_wp2_with fail;refine HEX.out.mono ?_;rintro ev w3 ⟨rfl,hb⟩;have HX3:=Hq (HX2.out.next hb);clear hb b0 b1 b2 b3 c0 c1 c2 c3 e0 e1 e2 e3
     cases q with
     | false =>
      go_wp2;go_ret;exact⟨by rw[HR.out];rfl,HX3.out.2.2.2⟩
     | true =>
      go_wp2;go_ret;exact⟨by rw[HR.out];rfl,HX3.out.2.2.2⟩
   · have hvb:(v2 != 0)=true:=by rw[bne_iff_ne];exact hz2
     rw[if_neg (by simp),if_pos hz2]at HR;clear hz2;go_wp2;go_ret;exact⟨by rw[HR.out];rfl,HX2.out.2.2.2⟩
 · have hvb:(v1 != 0)=true:=by rw[bne_iff_ne];exact hz1
   rw[if_pos hz1]at HR;clear hz1;go_wp2;go_ret;exact⟨by rw[HR.out];rfl,HX1.out.2.2.2⟩
set_option maxRecDepth 100000
set_option maxHeartbeats 2000000
def hdB(h:HdV):Bool:=decide (h.r.size≤60)&&decide (h.a.size≤16)&&decide (h.b.size≤16)
def prB(p:List ByteArray):Bool:=(p.take 20).all (fun s=>decide (s.size≤60))&&decide (p.length≤20)
theorem prB_of{p:List ByteArray}(h:prB p=true):p.length≤20∧∀ x∈p,x.size≤60:=by
 unfold prB at h;rw[Bool.and_eq_true,decide_eq_true_eq]at h;rw[List.take_of_length_le h.2,List.all_eq_true]at h;exact⟨h.2,fun x hx=>of_decide_eq_true (h.1 x hx)⟩
theorem hdB_of{h:HdV}(e:hdB h=true):h.r.size≤60∧h.a.size≤16∧h.b.size≤16:=by
 unfold hdB at e;simp only[Bool.and_eq_true,decide_eq_true_eq]at e;exact⟨e.1.1,e.1.2,e.2⟩
theorem law57_head(h:HdV)(w:World):Calls Tryz.prog 6 #[h.val] w (Ret (.bool (hdB h)) w):=by
 obtain⟨n,r,a,b⟩:=h;have HX:=Hq (Bx4.new w (.int .i64 n) (.string r) (.string a) (.string b) 30).cells;obtain⟨c0,c1,c2,c3⟩:=HX.out;unfold HdV.val;have HR0:=Hq (show hdB ⟨n,r,a,b⟩=(decide (r.size≤60)&&decide (a.size≤16)&&decide (b.size≤16))from rfl);by_cases h1:r.size≤60
 · have e1:(r.size:Int)≤60:=by omega
   rw[decide_eq_true h1,Bool.true_and]at HR0;by_cases h2:a.size≤16
   · have e2:(a.size:Int)≤16:=by omega
     rw[decide_eq_true h2,Bool.true_and]at HR0;by_cases h3:b.size≤16
     · have e3:(b.size:Int)≤16:=by omega
       have HR:=Hq (HR0.out.trans (decide_eq_true h3));clear h1 h2 h3;go_enter Tryz.func6,Tryz.ntmps6;go_wp2;go_ret;exact⟨by rw[HR.out];rfl,(blr).alloc nlr _⟩
     · have e3:¬ (b.size:Int)≤16:=by omega
       have HR:=Hq (HR0.out.trans (decide_eq_false h3));clear h1 h2 h3;go_enter Tryz.func6,Tryz.ntmps6;go_wp2;go_ret;exact⟨by rw[HR.out];rfl,(blr).alloc nlr _⟩
   · have e2:¬ (a.size:Int)≤16:=by omega
     rw[decide_eq_false h2,Bool.false_and]at HR0;have HR:=Hq HR0.out;clear h1 h2;go_enter Tryz.func6,Tryz.ntmps6;go_wp2;go_ret;exact⟨by rw[HR.out];rfl,(blr).alloc nlr _⟩
 · have e1:¬ (r.size:Int)≤60:=by omega
   rw[decide_eq_false h1,Bool.false_and,Bool.false_and]at HR0;have HR:=Hq HR0.out;clear h1;go_enter Tryz.func6,Tryz.ntmps6;go_wp2;go_ret;exact⟨by rw[HR.out];rfl,(blr).alloc nlr _⟩
theorem prB_no{p:List ByteArray}{k:Nat}{x:ByteArray}(hk:k<20)(hx:p[k]? =some x)(h:¬ x.size≤60):prB p=false:=by
 unfold prB;rw[Bool.and_eq_false_iff];left;rw[List.all_eq_false];exact⟨x,List.mem_iff_getElem?.2 ⟨k,by rw[List.getElem?_take,if_pos hk];exact hx⟩,by simpa using h⟩
theorem prB_yes{p:List ByteArray}(hl:p.length≤20)(h:∀(j:Nat) (x:ByteArray),j<p.length→p[j]? =some x→x.size≤60):prB p=true:=by
 unfold prB;rw[List.take_of_length_le hl,Bool.and_eq_true];refine⟨List.all_eq_true.2 fun x hx=>?_,decide_eq_true hl⟩;obtain⟨j,hj⟩:=List.mem_iff_getElem?.1 hx;exact decide_eq_true (h j x (List.getElem?_eq_some_iff.1 hj).1 hj)
theorem prB_long{p:List ByteArray}(hl:¬ p.length≤20):prB p=false:=by
 unfold prB;rw[decide_eq_false hl,Bool.and_false]
theorem law57_proofs(p:List ByteArray)(A:Option Addr)(nn c:Nat)(w:World)(hs:SlN w A nn c p):Calls Tryz.prog 7 #[.slice A nn c] w (Ret (.bool (prB p)) w):=by
 have HS:=Hq hs;have HLEN:=Hq hs.1;have hcap:=hs.2.1;have hcap2:=hs.2.2.1;clear hs;go_enter Tryz.func7,Tryz.ntmps7;go_wp2;go_loopw [3] (fun i wr=>∃ k:Nat,k≤nn∧k≤20∧i=.int .i64 k∧(∀(j:Nat) (x:ByteArray),j<k→p[j]? =some x→x.size≤60)∧wr=w) (fun i _=>nn - (RowKit.intOf i).toNat);case atStart=>exact⟨0,Nat.zero_le _,by decide,rfl,fun j x h=>by omega,rfl⟩
 case round =>
  obtain⟨k,hk,hk2,rfl,hall,rfl⟩:=hrel;have HALL:=Hq hall;clear hall;by_cases hlt:k<nn
  · have hki:(k:Int)<(nn:Int):=by omega
    by_cases h20:k<20
    · have h2i:(k:Int)<20:=by omega
      obtain⟨b,o,rfl⟩:=HS.out.head (by omega);obtain⟨x,he⟩:∃ s,p[k]? =some s:=⟨_,List.getElem?_eq_getElem (by rw[HLEN.out];exact hlt)⟩;have d0:=HS.out.get? k he;have HE:=Hq he;have HK:=Hq (show k<nn∧k<20 from⟨hlt,h20⟩);clear he hk hk2 hlt h20;by_cases h6:x.size≤60
      · have e6:¬ (60:Int)<(x.size:Int):=by omega
        have HA2:=Hq (show ∀(j:Nat) (y:ByteArray),j<k+1→p[j]? =some y→y.size≤60 from fun j y hj hy=>by
         by_cases e:j=k
         · subst e;rw[HE.out]at hy;cases hy;exact h6
         · exact HALL.out j y (by omega) hy)
        clear h6;go_wp2;refine⟨⟨k+1,by have:=HK.out.1;omega,by have:=HK.out.2;omega,by go_num,HA2.out,trivial⟩,?_⟩;have:=HK.out.1;simp[RowKit.intOf];omega
      · have e6:(60:Int)<(x.size:Int):=by omega
        have HR:=Hq (prB_no HK.out.2 HE.out h6);clear h6;go_wp2;go_ret;exact⟨by rw[HR.out];rfl,Below.refl _ _⟩
    · have h2i:¬ (k:Int)<20:=by omega
      have hnl:¬ (nn:Int)≤20:=by omega
      have HR:=Hq (prB_long (p:=p) (by have:=HLEN.out;omega));clear hk hk2 hlt h20;go_wp2;go_ret;exact⟨by rw[HR.out];rfl,Below.refl _ _⟩
  · have hki:¬ (k:Int)<(nn:Int):=by omega
    have hnl:(nn:Int)≤20:=by omega
    have HR:=Hq (prB_yes (p:=p) (by have:=HLEN.out;omega) (fun j x hj hx=>HALL.out j x (by have:=HLEN.out;omega) hx));clear hk hk2 hlt;go_wp2;go_ret;exact⟨by rw[HR.out];rfl,Below.refl _ _⟩
end Go.Proofs.YtfbmbledklbfgaaGreat

import Derived.Test.YtppbcopnfankcaaGreatQAcE
set_option linter.unusedVariables false
set_option linter.unusedSimpArgs false
namespace Go.Proofs.YtppbcopnfankcaaGreat
set_option maxRecDepth 100000
set_option maxHeartbeats 4000000
open Go.RowKit
theorem zq4(N M O Z S:ByteArray)(RA:Option Addr)(rn rc:Nat)(U H x u:ByteArray)(w:World)(hM:M.size≤8)(hO:O.size≤8)(hc:chkK M O=0)(vx:zc x=true)(hx:hasN (num M) (num O) (num x)=true)(vu:zc u=true) :
 Calls Tryz.prog 63 #[.agg (ikC N M O Z S RA rn rc U H),.string x,.string u] w (Ret (.string (nS (pz (num M) (num x) (num u)))) w):=by
 have HFR:=Hq (zxj vu);have hex:=zt5 M O x u hM hO hc vx hx vu;obtain⟨z,hz⟩:=nm (nS (pz (num M) (num x) (num u)));rw[hz]at hex⊢;have HEX:=Hq hex;unfold ikC;clear hex hz hM hO hc vx hx vu;obtain⟨W0,hW0⟩:=nm (w.alloc (.cells #[.string N,.string M,.string O,.string Z,.string S,.slice RA rn rc,.string U,.string H] 27));have hx0:BxC W0 w.heap.size #[.string N,.string M,.string O,.string Z,.string S,.slice RA rn rc,.string U,.string H] 27:=by rw[←hW0];exact BxC.new _ _ _
 have hb0:Below w.heap.size w W0:=by rw[←hW0];exact(blr).alloc nlr _
 have HX0:=Hq hx0;have HB0:=Hq hb0;clear hx0 hb0;go_enter Tryz.func63,Tryz.ntmps63;go_wp2;try rw[hW0]
 clear hW0;obtain⟨wd,hwd⟩:=nm (W0.drew);have hbd:Below W0.heap.size W0 wd:=by rw[←hwd];exact(blr).drew
 have HXD:=Hq (HX0.out.next hbd);have HBD:=bt HB0 hbd;clear hbd;have hx:=HXD.out;have k0:wd.cell? ⟨w.heap.size,0,none⟩=some (.string N):=hx.cell 0;have k1:wd.cell? ⟨w.heap.size,1,none⟩=some (.string M):=hx.cell 1;have k2:wd.cell? ⟨w.heap.size,2,none⟩=some (.string O):=hx.cell 2;have k3:wd.cell? ⟨w.heap.size,3,none⟩=some (.string Z):=hx.cell 3;have k4:wd.cell? ⟨w.heap.size,4,none⟩=some (.string S):=hx.cell 4;have k5:wd.cell? ⟨w.heap.size,5,none⟩=some (.slice RA rn rc):=hx.cell 5;have k6:wd.cell? ⟨w.heap.size,6,none⟩=some (.string U):=hx.cell 6;have k7:wd.cell? ⟨w.heap.size,7,none⟩=some (.string H):=hx.cell 7;clear hx;clear k0 k3 k4 k5 k6 k7;refine za 11 (Below (wd).heap.size (wd)) (by kernel_rfl) ?_;rw[hwd];refine rPs 0 10 10 blr ?_;refine rTs 1 11 9 blr (fun _ h=>And.intro (kC h k1) (kC h k2)) ?_;refine rPs 2 12 8 blr ?_;refine rPs 3 13 7 blr ?_;refine rO 4 6 ?_;intro K4 hK4;go_wp2_with fail;refine(HFR.out _).mono ?_;rintro ev w7 ⟨rfl,hb⟩;have HB4:=Hq hb;clear hb;go_wp2;refine hK4 _ _ (by exact HB4.out) ?_;clear hK4;intro hS_1_4;refine rO 5 5 ?_;intro K5 hK5;go_wp2_with fail;refine(HEX.out _).mono ?_;rintro ev w8 ⟨rfl,hb⟩;have HB5:=Hq hb;clear hb;go_wp2;refine hK5 _ _ (by exact Below.trans hS_1_4 (Below.mono HB5.out (Below.size hS_1_4))) ?_;clear hK5;intro hS_1_5;refine rPs 6 9 4 hS_1_5 ?_;refine rPs 7 16 3 hS_1_5 ?_;refine rPs 8 17 2 hS_1_5 ?_;refine rO 9 1 ?_;intro K9 hK9;go_wp2;refine hK9 _ _ (by exact hS_1_5) ?_;clear hK9;intro hS_1_9;refine rO 10 0 ?_;intro K10 hK10;go_wp2;refine hK10 _ _ (by exact hS_1_9) ?_;clear hK10;intro hS_1_10;refine wDn ?_;clear k1 k2;have HB9:=Hq (HBD.out.trans ((HB4.out.trans (HB5.out.mono HB4.out.size)).mono HBD.out.size));go_wp2;go_ret;exact⟨rfl,HB9.out⟩
noncomputable def valV(M O U:ByteArray)(l:List ByteArray):Value:=
 if rdyR M O [U] l≠0 then .tuple #[.string ⟨#[]⟩,.int .i64 (rdyR M O [U] l)]else if ndB l=false then .tuple #[.string ⟨#[]⟩,.int .i64 8]else .tuple #[.string (nS (valF (num M) (num U) l)),.int .i64 0]
theorem zqn{M O U:ByteArray}{l:List ByteArray}(h:rdyR M O [U] l≠0):valV M O U l=.tuple #[.string ⟨#[]⟩,.int .i64 (rdyR M O [U] l)]:=by unfold valV;rw[if_pos h]
theorem zqm{M O U:ByteArray}{l:List ByteArray}(h:rdyR M O [U] l=0)(h2:ndB l=false):valV M O U l=.tuple #[.string ⟨#[]⟩,.int .i64 8]:=by unfold valV;rw[if_neg (fun c=>c h),if_pos h2]
theorem zvl{M O U:ByteArray}{l:List ByteArray}(h:rdyR M O [U] l=0)(h2:ndB l=true):valV M O U l=.tuple #[.string (nS (valF (num M) (num U) l)),.int .i64 0]:=by unfold valV;rw[if_neg (fun c=>c h),if_neg (by rw[h2];decide)]
theorem zou(N M O Z S:ByteArray)(RA:Option Addr)(rn rc:Nat)(U H:ByteArray)(l:List ByteArray)(A:Option Addr)(n c:Nat)(w:World)(hM:M.size≤8)(hO:O.size≤8)(hU:U.size≤9223372036854775807)(hn:n≤100000)(hs:SlN w A n c l)(hz:SzL l) :
 Calls Tryz.prog 49 #[.agg (ikC N M O Z S RA rn rc U H),.slice A n c] w (Ret (valV M O U l) w):=by
 have HRD:=Hq (fun W (hb:Below w.heap.size w W)=>ac_ready M O [U] l (some ⟨W.heap.size,0,none⟩) A 1 1 n c (W.alloc (.cells #[.string U] 22)) hM hO (jc W [U] 22 (by simp)) (by intro s hs;simp only[List.mem_cons,List.mem_nil_iff,or_false]at hs;subst hs;exact hU) (hs.kept (hb.alloc hb.size _) nlr) hz);have HST:=Hq (fun W (hb:Below w.heap.size w W)=>zzj l A n c W hn (hs.kept hb nlr) hz);have HRS:=Hq (fun W (hb:Below w.heap.size w W) h1 h2 h3 h4=>ztb M O U l A n c W hM hO h1 h2 h3 h4 (hs.kept hb nlr));obtain⟨R,hR⟩:=nm (valV M O U l);rw[hR];have HR:=Hq hR;unfold gV at HRD HRS;unfold ikC;clear hR hM hO hU hs hz;obtain⟨W0,hW0⟩:=nm (w.alloc (.cells #[.string N,.string M,.string O,.string Z,.string S,.slice RA rn rc,.string U,.string H] 27));have hx0:BxC W0 w.heap.size #[.string N,.string M,.string O,.string Z,.string S,.slice RA rn rc,.string U,.string H] 27:=by rw[←hW0];exact BxC.new _ _ _
 have hb0:Below w.heap.size w W0:=by rw[←hW0];exact(blr).alloc nlr _
 have HX0:=Hq hx0;have HB0:=Hq hb0;clear hx0 hb0;go_enter Tryz.func49,Tryz.ntmps49;have hx:=HX0.out;have k0:W0.cell? ⟨w.heap.size,0,none⟩=some (.string N):=hx.cell 0;have k1:W0.cell? ⟨w.heap.size,1,none⟩=some (.string M):=hx.cell 1;have k2:W0.cell? ⟨w.heap.size,2,none⟩=some (.string O):=hx.cell 2;have k3:W0.cell? ⟨w.heap.size,3,none⟩=some (.string Z):=hx.cell 3;have k4:W0.cell? ⟨w.heap.size,4,none⟩=some (.string S):=hx.cell 4;have k5:W0.cell? ⟨w.heap.size,5,none⟩=some (.slice RA rn rc):=hx.cell 5;have k6:W0.cell? ⟨w.heap.size,6,none⟩=some (.string U):=hx.cell 6;have k7:W0.cell? ⟨w.heap.size,7,none⟩=some (.string H):=hx.cell 7;clear hx;clear k0 k3 k4 k5 k7;go_wp2_with fail;try rw[hW0]
 clear hW0 k1 k2 k6;obtain⟨W1,hW1⟩:=nm (W0.alloc (.cells #[.string U] 22));have hrd:=HRD.out W0 HB0.out;rw[hW1]at hrd⊢;have hb1:Below W0.heap.size W0 W1:=by rw[←hW1];exact(blr).alloc nlr _
 have HX1:=Hq (HX0.out.next hb1);have HB1:=bt HB0 hb1;clear hW1 hb1;by_cases hr:rdyR M O [U] l=0
 · have hrr:=rdy_zero hr;rw[hr]at hrd;have HRR:=Hq hr;clear hr;refine hrd.mono ?_;rintro e w2 ⟨rfl,hb⟩;have HX2:=Hq (HX1.out.next hb);have HB2:=bt HB1 hb;have HST2:=Hq (HST.out w2 HB2.out);have hUU:zc U=true∧hasN (num M) (num O) (num U)=true:=⟨by have:=hrr.2.2.1;simpa using this,by have:=hrr.2.2.2.2.2.1;simpa using this⟩;have HRS2:=Hq (fun W hb=>HRS.out W hb hrr.2.2.2.2.1 hUU.1 hUU.2 hrr.2.2.2.1);clear hb hrr hUU hrd;go_wp2_with fail;refine HST2.out.mono ?_;unfold zow;rintro e w3 ⟨o,rfl,hb⟩;have HX3:=Hq (HX2.out.next hb);have HB3:=bt HB2 hb;have HRS3:=Hq (HRS2.out w3 HB3.out);clear hb
   cases hd:ndB l with
   | true =>
    have HRV:=Hq (HR.out.symm.trans (zvl HRR.out hd));simp only[if_true];clear hd;have hx:=HX3.out;have k0:w3.cell? ⟨w.heap.size,0,none⟩=some (.string N):=hx.cell 0;have k1:w3.cell? ⟨w.heap.size,1,none⟩=some (.string M):=hx.cell 1;have k2:w3.cell? ⟨w.heap.size,2,none⟩=some (.string O):=hx.cell 2;have k3:w3.cell? ⟨w.heap.size,3,none⟩=some (.string Z):=hx.cell 3;have k4:w3.cell? ⟨w.heap.size,4,none⟩=some (.string S):=hx.cell 4;have k5:w3.cell? ⟨w.heap.size,5,none⟩=some (.slice RA rn rc):=hx.cell 5;have k6:w3.cell? ⟨w.heap.size,6,none⟩=some (.string U):=hx.cell 6;have k7:w3.cell? ⟨w.heap.size,7,none⟩=some (.string H):=hx.cell 7;clear hx;clear k0 k3 k4 k5 k7;go_wp2_with fail;refine HRS3.out.mono ?_;rintro e w4 ⟨rfl,hb⟩;have HB4:=bt HB3 hb;clear hb k1 k2 k6;go_wp2;go_ret2;exact⟨by rw[HRV.out];rfl,HB4.out⟩
   | false =>
    have HRV:=Hq (HR.out.symm.trans (zqm HRR.out hd));rw[if_neg (by decide)];clear hd;go_wp2;go_ret2;exact⟨by rw[HRV.out];rfl,HB3.out⟩
 · have HRV:=Hq (HR.out.symm.trans (zqn hr));obtain⟨v,hv⟩:=nm (rdyR M O [U] l);rw[hv]at HRV hrd hr;have hvb:(v != 0)=true:=by rw[bne_iff_ne];exact hr
   clear hr hv;refine hrd.mono ?_;rintro e w2 ⟨rfl,hb⟩;have HB2:=bt HB1 hb;clear hb;go_wp2;go_ret2;exact⟨by rw[HRV.out];rfl,HB2.out⟩
set_option maxRecDepth 100000
set_option maxHeartbeats 4000000
theorem zq5(N M O Z S:ByteArray)(RA:Option Addr)(rn rc:Nat)(U H:ByteArray)(l:List ByteArray)(A:Option Addr)(n c:Nat)(w:World)(hM:M.size≤8)(hO:O.size≤8)(hU:U.size≤9223372036854775807)(hs:SlN w A n c l)(hz:SzL l) :
 Calls Tryz.prog 36 #[.agg (ikC N M O Z S RA rn rc U H),.slice A n c] w (Ret (valV M O U l) w):=by
 have HSN:=Hq hs;have HNL:=Hq hs.1;have hc1:=hs.2.1;have hc2:=hs.2.2.1;have HRD:=Hq (fun W (hb:Below w.heap.size w W)=>r35_ready N M O Z S RA rn rc U H [U] l (some ⟨W.heap.size,0,none⟩) A 1 1 n c (W.alloc (.cells #[.string U] 22)) hM hO (jc W [U] 22 (by simp)) (by omega) (by intro s hs;simp only[List.mem_cons,List.mem_nil_iff,or_false]at hs;subst hs;exact hU) (hs.kept (hb.alloc hb.size _) nlr) hz);have HST:=Hq (fun W (hb:Below w.heap.size w W)=>zq3 l A n c W (hs.kept hb nlr));have HPW:=Hq (fun x u W h1 h2 h3 h4=>zq4 N M O Z S RA rn rc U H x u W hM hO h1 h2 h3 h4);obtain⟨R,hR⟩:=nm (valV M O U l);rw[hR];have HR:=Hq hR;unfold ikC at HRD HPW⊢;clear hR hM hO hU hs hz;obtain⟨W0,hW0⟩:=nm (w.alloc (.cells #[.string N,.string M,.string O,.string Z,.string S,.slice RA rn rc,.string U,.string H] 27));have hx0:BxC W0 w.heap.size #[.string N,.string M,.string O,.string Z,.string S,.slice RA rn rc,.string U,.string H] 27:=by rw[←hW0];exact BxC.new _ _ _
 have hb0:Below w.heap.size w W0:=by rw[←hW0];exact(blr).alloc nlr _
 have HX0:=Hq hx0;have HB0:=Hq hb0;clear hx0 hb0;go_enter Tryz.func36,Tryz.ntmps36;have hx:=HX0.out;have k0:W0.cell? ⟨w.heap.size,0,none⟩=some (.string N):=hx.cell 0;have k1:W0.cell? ⟨w.heap.size,1,none⟩=some (.string M):=hx.cell 1;have k2:W0.cell? ⟨w.heap.size,2,none⟩=some (.string O):=hx.cell 2;have k3:W0.cell? ⟨w.heap.size,3,none⟩=some (.string Z):=hx.cell 3;have k4:W0.cell? ⟨w.heap.size,4,none⟩=some (.string S):=hx.cell 4;have k5:W0.cell? ⟨w.heap.size,5,none⟩=some (.slice RA rn rc):=hx.cell 5;have k6:W0.cell? ⟨w.heap.size,6,none⟩=some (.string U):=hx.cell 6;have k7:W0.cell? ⟨w.heap.size,7,none⟩=some (.string H):=hx.cell 7;clear hx;go_wp2_with fail;try rw[hW0]
 clear hW0 k0 k1 k2 k3 k4 k5 k6 k7;obtain⟨W1,hW1⟩:=nm (W0.alloc (.cells #[.string U] 22));have hrd:=HRD.out W0 HB0.out;rw[hW1]at hrd⊢;have hb1:Below W0.heap.size W0 W1:=by rw[←hW1];exact(blr).alloc nlr _
 have HX1:=Hq (HX0.out.next hb1);have HB1:=bt HB0 hb1;clear hW1 hb1;by_cases hr:rdyR M O [U] l=0
 · have hrr:=rdy_zero hr;rw[hr]at hrd;have HRR:=Hq hr;clear hr;refine hrd.mono ?_;rintro e w2 ⟨rfl,hb⟩;have HX2:=Hq (HX1.out.next hb);have HB2:=bt HB1 hb;have HST2:=Hq (HST.out w2 HB2.out);have HVU:=Hq (show zc U=true from by have:=hrr.2.2.1;simpa using this);have HHU:=Hq (show hasN (num M) (num O) (num U)=true from by have:=hrr.2.2.2.2.2.1;simpa using this);have HC:=Hq hrr.2.2.2.2.1;have HV:=Hq (List.all_eq_true.1 hrr.2.2.2.1);clear hb hrr hrd
   cases hd:ndB l with
   | true =>
    have HRV:=Hq (HR.out.symm.trans (zvl HRR.out hd));rw[hd]at HST2;clear hd;go_wp2_with fail;refine(show Calls _ _ _ _ _ from HST2.out).mono ?_;rintro e w3 ⟨rfl,hb⟩;have HX3:=Hq (HX2.out.next hb);have HB3:=bt HB2 hb;clear hb;have k6:w3.cell? ⟨w.heap.size,6,none⟩=some (.string U):=HX3.out.cell 6;go_wp2;clear k6;go_loopw [7,8] (fun v i wr=>∃(k:Nat) (y:ByteArray),k≤n∧i=.int .i64 k∧v=.string y∧(zc y=true∧hasN (num M) (num O) (num y)=true∧num y=valF (num M) (num U) (l.take k))∧Below w3.heap.size w3 wr) (fun _ i _=>n - (intOf i).toNat);case atStart=>exact⟨0,U,Nat.zero_le _,rfl,rfl,⟨HVU.out,HHU.out,rfl⟩,Below.refl _ _⟩
    case round =>
     obtain⟨k,y,hk,rfl,rfl,hy,hbb⟩:=hrel;have HB:=Hq hbb;have HY:=Hq hy;by_cases hlt:k<n
     · obtain⟨u,he⟩:∃ u,l[k]? =some u:=⟨_,List.getElem?_eq_getElem (by rw[HNL.out];exact hlt)⟩;obtain⟨b,o,rfl⟩:=HSN.out.head (by omega);have HVV:=Hq (HV.out u (List.mem_of_getElem? he));have hex:=HPW.out y u;obtain⟨z,hz⟩:=nm (nS (pz (num M) (num y) (num u)));have hhz:=zm7 (u:=u) HC.out hy.2.1;have HZ:=Hq (show zc z=true∧hasN (num M) (num O) (num z)=true∧num z=valF (num M) (num U) (l.take (k+1))from by
        rw[←hz,zaa]
        exact⟨zj.2 (Nat.lt_trans (zvz hhz) (jk (ju HC.out).1)),hhz,by rw[zj3 he,hy.2.2]⟩)
       rw[hz]at hex;have HEQ:=Hq (fun W=>hex W HC.out HY.out.1 HY.out.2.1 HVV.out);have hbr:=HB3.out.trans (hbb.mono HB3.out.size);obtain⟨wd,hwd⟩:=nm (wr.drew);have hbd:Below wr.heap.size wr wd:=by rw[←hwd];exact(blr).drew
       have c0:wd.cell? ⟨b,o+k,none⟩=some (.string u):=(HSN.out.kept (hbr.trans (hbd.mono hbr.size)) nlr).get? k he;have hxd:=(HX3.out.next HB.out).next hbd;have HBD:=bt HB hbd;clear he hy hbb hhz hz hex hbd;have hx:=hxd;have k0:wd.cell? ⟨w.heap.size,0,none⟩=some (.string N):=hx.cell 0;have k1:wd.cell? ⟨w.heap.size,1,none⟩=some (.string M):=hx.cell 1;have k2:wd.cell? ⟨w.heap.size,2,none⟩=some (.string O):=hx.cell 2;have k3:wd.cell? ⟨w.heap.size,3,none⟩=some (.string Z):=hx.cell 3;have k4:wd.cell? ⟨w.heap.size,4,none⟩=some (.string S):=hx.cell 4;have k5:wd.cell? ⟨w.heap.size,5,none⟩=some (.slice RA rn rc):=hx.cell 5;have k6:wd.cell? ⟨w.heap.size,6,none⟩=some (.string U):=hx.cell 6;have k7:wd.cell? ⟨w.heap.size,7,none⟩=some (.string H):=hx.cell 7;clear hx;clear hxd;go_wp2;refine za 8 (Below (wd).heap.size (wd)) (by kernel_rfl) ?_;rw[hwd];have KK1:=Hq (fun w' (hS':(Below (wd).heap.size (wd)) w')=>And.intro (kC hS' k0) (And.intro (kC hS' k1) (And.intro (kC hS' k2) (And.intro (kC hS' k3) (And.intro (kC hS' k4) (And.intro (kC hS' k5) (And.intro (kC hS' k6) (And.intro (kC hS' k7) (kC hS' c0)))))))));refine rTs 0 28 7 blr KK1.out ?_;refine rPs 1 29 6 blr ?_;refine rPs 2 30 5 blr ?_;refine rPs 3 31 4 blr ?_;refine rPs 4 32 3 blr ?_;refine rTs 5 33 2 blr KK1.out ?_;refine rO 6 1 ?_;intro K6 hK6;go_wp2_with fail;refine(show Calls _ _ _ _ _ from HEQ.out _).mono ?_;rintro ev w8 ⟨rfl,hb⟩;have HB6:=Hq hb;clear hb;go_wp2;refine hK6 _ _ (by exact HB6.out) ?_;clear hK6;intro hS_10_6;refine rO 7 0 ?_;intro K7 hK7;go_wp2;refine hK7 _ _ (by exact hS_10_6) ?_;clear hK7;intro hS_10_7;refine wDn ?_;clear k0 k1 k2 k3 k4 k5 k6 k7 c0;have HB9:=bt HBD HB6.out;go_wp2;go_roundw;case rel=>exact⟨k+1,z,by omega,by go_num,rfl,HZ.out,HB9.out⟩
       case measure=>simp[intOf];omega
     · obtain rfl:k=n:=by omega
       have HRF:=Hq (show nS (valF (num M) (num U) l)=y from by rw[←List.take_of_length_le (l:=l) (i:=k) (by have:=HNL.out;omega),←HY.out.2.2];exact(zu HY.out.1).symm);go_wp2;go_ret2;exact⟨by rw[HRV.out,HRF.out];rfl,HB3.out.trans (HB.out.mono HB3.out.size)⟩
   | false =>
    have HRV:=Hq (HR.out.symm.trans (zqm HRR.out hd));rw[hd]at HST2;clear hd;go_wp2_with fail;refine(show Calls _ _ _ _ _ from HST2.out).mono ?_;rintro e w3 ⟨rfl,hb⟩;have HB3:=bt HB2 hb;clear hb;go_wp2;go_ret2;exact⟨by rw[HRV.out];rfl,HB3.out⟩
 · have HRV:=Hq (HR.out.symm.trans (zqn hr));obtain⟨v,hv⟩:=nm (rdyR M O [U] l);rw[hv]at HRV hrd hr;have hvb:(v != 0)=true:=by rw[bne_iff_ne];exact hr
   clear hr hv;refine hrd.mono ?_;rintro e w2 ⟨rfl,hb⟩;have HB2:=bt HB1 hb;clear hb;go_wp2;go_ret2;exact⟨by rw[HRV.out];rfl,HB2.out⟩
def flt(a b:List ByteArray):List ByteArray:=a.filter (fun x => !memB b x)
def SrtL(l:List ByteArray):Prop:=l.Pairwise (fun a b=>num a≤num b)
def minL(a b:List ByteArray):List ByteArray:=(flt a b).mergeSort (fun x y=>decide (num x≤num y))
theorem zrv{a b l:List ByteArray}(hv:∀ x∈a,zc x=true)(hs:SrtL l)(hp:l.Perm (flt a b)):l=minL a b:=by
 have hq:l.Perm (minL a b):=hp.trans (List.mergeSort_perm _ _).symm;have hf:∀ x∈l,zc x=true:=fun x hx=>hv x (List.mem_filter.1 (hp.mem_iff.1 hx)).1;refine List.Perm.eq_of_pairwise (le:=fun a b=>num a≤num b) (fun x y hx hy h1 h2=>zw3 (hf x hx) (hf y (hq.mem_iff.2 hy)) (Nat.le_antisymm h1 h2)) hs ?_ hq;refine(List.pairwise_mergeSort (le:=fun x y=>decide (num x≤num y)) (fun a b c h1 h2=>?_) (fun a b=>?_) (flt a b)).imp (fun {x y} h=>of_decide_eq_true h)
 · simp only[decide_eq_true_eq]at h1 h2⊢;omega
 · simp only[Bool.or_eq_true,decide_eq_true_eq];omega
theorem zn5{a b:List ByteArray}{k:Nat}{x:ByteArray}(he:a[k]? =some x):flt (a.take (k+1)) b=flt (a.take k) b++(if memB b x=true then []else [x]):=by
 unfold flt;rw[List.take_add_one,he,Option.toList_some,List.filter_append];congr 1;rw[List.filter_cons];cases memB b x<;>rfl
def Bub(s:List ByteArray)(x:ByteArray)(L:List ByteArray)(k:Nat):Prop:=∃ p q,s=p++q∧L=p++x::q∧p.length=k∧∀ y∈q,num x<num y
theorem zsy(s:List ByteArray)(x:ByteArray):Bub s x (s++[x]) s.length:=⟨s,[],by simp,rfl,rfl,fun y h=>by cases h⟩
theorem zxu{s:List ByteArray}{x:ByteArray}{L:List ByteArray}{k:Nat}(h:Bub s x L k):L.length=s.length+1∧k≤s.length∧L[k]? =some x∧L.Perm (s++[x]):=by
 obtain⟨p,q,rfl,rfl,rfl,_⟩:=h;refine⟨by simp;omega,by simp,by simp,?_⟩;rw[List.append_assoc];exact List.Perm.append_left p (List.perm_append_comm (l₁:=[x]) (l₂:=q))
theorem zvd{s:List ByteArray}{x y:ByteArray}{L:List ByteArray}{k:Nat}(h:Bub s x L (k+1))(hy:L[k]? =some y)(hl:num x<num y):Bub s x ((L.set (k+1) y).set k x) k:=by
 obtain⟨p,q,rfl,rfl,hk,hq⟩:=h;obtain⟨p',z,rfl⟩:∃ p' z,p=p'++[z]:=by
  rcases List.eq_nil_or_concat p with e | ⟨p',z,e⟩
  · rw[e]at hk;cases hk
  · exact⟨p',z,by rw[e,List.concat_eq_append]⟩
 have hk':p'.length=k:=by simpa using hk
 subst hk';have hz:z=y:=by simpa using hy
 subst hz;refine⟨p',z::q,by simp,?_,rfl,fun u hu=>?_⟩
 · rw[List.append_assoc,List.set_append_right _ _ (by omega),List.set_append_right _ _ (by omega)];simp
 · rcases List.mem_cons.1 hu with rfl | hu
   · exact hl
   · exact hq u hu
theorem zom{s:List ByteArray}{x:ByteArray}{L:List ByteArray}{k:Nat}(h:Bub s x L k)(hs:SrtL s)(hd:k=0∨∃ y,L[k - 1]? =some y∧num y≤num x):SrtL L:=by
 obtain⟨p,q,rfl,rfl,rfl,hq⟩:=h;have hs:=List.pairwise_append.1 hs;refine List.pairwise_append.2 ⟨hs.1,List.pairwise_cons.2 ⟨fun y hy=>Nat.le_of_lt (hq y hy),hs.2.1⟩,fun u hu v hv=>?_⟩;rcases List.mem_cons.1 hv with rfl | hv
 · rcases hd with h0 | ⟨y,hy,hle⟩
   · rw[List.length_eq_zero_iff.1 h0]at hu;cases hu
   · rcases List.eq_nil_or_concat p with e | ⟨p',z,e⟩
     · rw[e]at hu;cases hu
     · rw[List.concat_eq_append]at e;subst e;have hz:z=y:=by
        have e1:(p'++[z]).length - 1=p'.length:=by simp
        rw[e1]at hy;simpa using hy
       subst hz;rcases List.mem_append.1 hu with h' | h'
       · exact Nat.le_trans ((List.pairwise_append.1 hs.1).2.2 u h' z (by simp)) hle
       · rw[List.mem_singleton]at h';subst h';exact hle
 · exact hs.2.2 u hu v hv
set_option maxRecDepth 100000
set_option maxHeartbeats 2000000
theorem zyg(l:List ByteArray)(A:Option Addr)(n c:Nat)(u:ByteArray)(w:World)(hs:SlN w A n c l):Calls Tryz.prog 59 #[.slice A n c,.string u] w (Ret (.bool (memB l u)) w):=by
 have HSN:=Hq hs;have HNL:=Hq hs.1;have hc1:=hs.2.1;have hc2:=hs.2.2.1;obtain⟨R,hR⟩:=nm (memB l u);rw[hR];have HR:=Hq hR;clear hs hR;go_enter Tryz.func59,Tryz.ntmps59;go_wp2;go_loopw [5] (fun i wr=>∃ k:Nat,k≤n∧i=.int .i64 k∧(∀(j:Nat) x,j<k→l[j]? =some x→(x.toList==u.toList)=false)∧wr=w) (fun i _=>n - (intOf i).toNat);case atStart=>exact⟨0,Nat.zero_le _,rfl,fun j x h=>absurd h (Nat.not_lt_zero _),rfl⟩
 case round =>
  obtain⟨k,hk,rfl,hall,hwr⟩:=hrel;have hwr:=hwr.symm;subst hwr;have HALL:=Hq hall;clear hall;by_cases hlt:k<n
  · obtain⟨x,he⟩:∃ x,l[k]? =some x:=⟨_,List.getElem?_eq_getElem (by rw[HNL.out];exact hlt)⟩;obtain⟨b,o,rfl⟩:=HSN.out.head (by omega);have c9:=HSN.out.get? k he;have HE:=Hq he;clear he
    cases hq:(x.toList==u.toList)with
    | true =>
     have HRR:=Hq (show R=true from by rw[←HR.out];exact memB_at HE.out hq);go_wp2;go_ret;exact⟨by rw[HRR.out];rfl,Below.refl _ _⟩
    | false =>
     have HQ:=Hq hq;go_wp2;go_roundw;case rel =>
      refine⟨k+1,by omega,by go_num,fun j y hj hy=>?_,(by first | rfl | trivial)⟩;rcases Nat.lt_or_ge j k with a | a
      · exact HALL.out j y a hy
      · obtain rfl:j=k:=by omega
        rw[HE.out]at hy;cases hy;exact HQ.out
     case measure=>simp[intOf];omega
  · obtain rfl:k=n:=by omega
    have HRR:=Hq (show R=false from by rw[←HR.out];exact memB_none (fun i x hi=>HALL.out i x (by have:=(List.getElem?_eq_some_iff.1 hi).1;have:=HNL.out;omega) hi));go_wp2;go_ret;exact⟨by rw[HRR.out];rfl,Below.refl _ _⟩
def OwnN(w:World)(B g m c:Nat)(L:List ByteArray):Prop:=w.ownsRow B 22 1 (.slice (some ⟨g,0,none⟩) m c) m (L.map Value.string)
theorem OwnN.parts{w:World}{B g m c:Nat}{L:List ByteArray}(h:OwnN w B g m c L):L.length=m∧B≤g∧m≤c∧c≤9223372036854775807∧g<w.heap.size∧SlN w (some ⟨g,0,none⟩) m c L∧(∀ j x,L[j]? =some x→w.cell? ⟨g,j,none⟩=some (.string x))∧∀ j,w.frozen? ⟨g,j,none⟩=false:=by
 have hl:L.length=m:=by have:=h.1;simpa using this
 rcases h.2 with⟨h1,_⟩ | ⟨g',cap,cur,hv,hg,hh,r1,r2,r3,r4⟩
 · cases h1
 · cases hv;have hlt:g<w.heap.size:=by
    rcases Nat.lt_or_ge g w.heap.size with hlt | hge
    · exact hlt
    · rw[Array.getElem?_eq_none hge]at hh;cases hh
   have hc:∀ j x,L[j]? =some x→w.cell? ⟨g,j,none⟩=some (.string x):=fun j x hx=>by
    have hj:=(List.getElem?_eq_some_iff.1 hx).1;have e:(cur.toList.take (m * 1))[j]? =some (.string x):=by rw[r4,List.getElem?_map,hx];rfl
    rw[List.getElem?_take]at e;split at e
    · rw[Array.getElem?_toList]at e;simp[World.cell?,hh,e]
    · cases e
   refine⟨hl,hg,r1,by unfold maxLen at r2;omega,hlt,⟨hl,r1,by unfold maxLen at r2;omega,g,0,fun _=>rfl,fun k s hk=>by rw[Nat.zero_add];exact hc k s hk⟩,hc,fun j=>Lib.frozen_of_heap hh j⟩
theorem OwnN.set{w:World}{B g m c:Nat}{L:List ByteArray}(h:OwnN w B g m c L)(j:Nat)(y:ByteArray):OwnN (w.setCell ⟨g,j,none⟩ (.string y)) B g m c (L.set j y):=by
 refine⟨by have:=h.1;simpa using this,?_⟩;rcases h.2 with⟨h1,_⟩ | ⟨g',cap,cur,hv,hg,hh,r1,r2,r3,r4⟩
 · cases h1
 · cases hv;refine .inr ⟨g,c,_,rfl,hg,zl hh _,r1,r2,by simpa using r3,?_⟩;rw[Array.toList_setIfInBounds,List.take_set,r4,List.map_set]
theorem OwnN.kept{w w':World}{B D g m c:Nat}{L:List ByteArray}(h:OwnN w B g m c L)(hb:Below D w w')(hD:w.heap.size≤D):OwnN w' B g m c L:=jp h hb hD
theorem OwnN.drew{w:World}{B g m c:Nat}{L:List ByteArray}(h:OwnN w B g m c L):OwnN w.drew B g m c L:=h
theorem zuc{w:World}{base:Nat}{v:Value}{n:Nat}{l:List ByteArray}(h:w.ownsRow base 22 1 v n (l.map Value.string)):∃ A c,v=.slice A n c∧SlN w A n c l∧(0<n→∀ a,A=some a→base≤a.block∧a.block<w.heap.size):=by
 obtain⟨_,A,c,rfl,hs⟩:=SlN.of_owns h;refine⟨A,c,rfl,hs,fun h0 a he=>?_⟩;obtain⟨g,cap,hv,h1,h2⟩:=h.form h0;cases hv;cases he;exact⟨h1,h2⟩
set_option maxRecDepth 100000
set_option maxHeartbeats 4000000
def zzk(l:List ByteArray)(w:World)(e:Ending)(w':World):Prop:=∃ A c,e=.returned (.slice A l.length c)∧SlN w' A l.length c l∧Below w.heap.size w w'
theorem zkh(a b:List ByteArray)(A B:Option Addr)(n c n' c':Nat)(w:World)(h1:SlN w A n c a)(h2:SlN w B n' c' b)(hn:n≤100000)(va:∀ x∈a,zc x=true) :
 Calls Tryz.prog 35 #[.slice A n c,.slice B n' c'] w (zzk (minL a b) w):=by
 have H1:=Hq h1;have H2:=Hq h2;have HLA:=Hq h1.1;have hc1:=h1.2.1;have hc2:=h1.2.2.1;have hc3:=h2.2.1;have hc4:=h2.2.2.1;have VA:=Hq va;have HFIN:=Hq (fun l (hs:SrtL l) (hp:l.Perm (flt a b))=>zrv va hs hp);obtain⟨R,hR⟩:=nm (minL a b);rw[hR];rw[hR]at HFIN;clear h1 h2 va hR;go_enter Tryz.func35,Tryz.ntmps35;go_wp2;go_loopw [5,6] (fun v i wr=>∃(k:Nat) (L:List ByteArray),k≤n∧i=.int .i64 k∧wr.ownsRow w.heap.size 22 1 v L.length (L.map Value.string)∧(SrtL L∧L.Perm (flt (a.take k) b))∧L.length≤k∧Below w.heap.size w wr) (fun _ i _=>n - (intOf i).toNat);case atStart=>exact⟨0,[],Nat.zero_le _,rfl,World.ownsRow_nil _ _ _ _,⟨List.Pairwise.nil,by rw[List.take_zero];exact List.Perm.refl _⟩,Nat.zero_le _,Below.refl _ _⟩
 case round =>
  obtain⟨k,L,hk,rfl,hown,hsp,hlk,hbb⟩:=hrel;have HB:=Hq hbb;have HSP:=Hq hsp;have HOWN:=Hq hown;obtain⟨A5,c5,rfl,hs5,_⟩:=zuc hown;have hc5:=hs5.2.1;have hc6:=hs5.2.2.1;clear hsp hown;by_cases hlt:k<n
  · obtain⟨x,he⟩:∃ x,a[k]? =some x:=⟨_,List.getElem?_eq_getElem (by rw[HLA.out];exact hlt)⟩;obtain⟨bb,o,rfl⟩:=H1.out.head (by omega);have e0:=(H1.out.kept hbb nlr).get? k he;have HVX:=Hq (VA.out x (List.mem_of_getElem? he));have HIN:=Hq (zyg b B n' c' x wr (H2.out.kept hbb nlr));have HFS:=Hq (zn5 (b:=b) he);have HE:=Hq he;clear he hbb hs5
    cases hin:memB b x with
    | true =>
     have HPM:=Hq (show L.Perm (flt (a.take (k+1)) b)from by rw[HFS.out,hin,if_pos rfl,List.append_nil];exact HSP.out.2);rw[hin]at HIN;clear hin;go_wp2_with fail;refine HIN.out.mono ?_;rintro e w1 ⟨rfl,hb⟩;have HB1:=bt HB hb;have HO1:=Hq (jp HOWN.out hb nlr);clear hb e0;go_wp2;go_roundw;case rel=>exact⟨k+1,L,by omega,by go_num,HO1.out,⟨HSP.out.1,HPM.out⟩,by omega,HB1.out⟩
     case measure=>simp[intOf];omega
    | false =>
     have HPM:=Hq (show (L++[x]).Perm (flt (a.take (k+1)) b)from by rw[HFS.out,hin,if_neg (by decide)];exact HSP.out.2.append_right _);rw[hin]at HIN;clear hin;go_wp2_with fail;refine HIN.out.mono ?_;rintro e wa ⟨rfl,hb⟩;have HWA:=bt HB hb;have HOA:=Hq (jp HOWN.out hb nlr);have ec:=kc hb e0;clear hb e0;go_wp2_with (at_builtin;go_must (refine y8 w _ rfl (.tmp 22) (.tmp 27) rfl w.heap.size _ L.length L rfl (HOA.out.alloc (.cells #[.string x] 22)) (some ⟨wa.heap.size,0,none⟩) 1 1 [x] rfl (SlN.new wa [x] 22 (by simp)) (by omega) (HWA.out.alloc HWA.out.size _) (by have:=HWA.out.size;simp;omega) ?_));intro v2 w2 hown hb hsz;obtain⟨g,cap,rfl,hg,hgl⟩:=hown.form (by omega);have HO2:=Hq (show OwnN w2 w.heap.size g (L.length+1) cap (L++[x])from by unfold OwnN;rw[List.map_append];exact hown);have HB2:=Hq hb;have hcp:=HO2.out.parts.2.2.1;have hcp2:=HO2.out.parts.2.2.2.1;clear hown hb hsz ec hg hgl;go_wp2;go_loopw [7] (fun kv wx=>∃(K:Nat) (M:List ByteArray),K≤L.length∧kv=.int .i64 K∧OwnN wx w.heap.size g (L.length+1) cap M∧Bub L x M K∧Below w.heap.size w wx) (fun kv _=>(intOf kv).toNat);case atStart=>exact⟨L.length,L++[x],Nat.le_refl _,rfl,HO2.out,zsy _ _,HB2.out⟩
     case round =>
      obtain⟨K,M,hK,rfl,hom,hbu,hbx⟩:=hrel;have HOM:=Hq hom;have HBU:=Hq hbu;have HBX:=Hq hbx;have HML:=Hq (zxu hbu);obtain⟨wd,hwd⟩:=nm (wr.drew);have hod:OwnN wd w.heap.size g (L.length+1) cap M:=by rw[←hwd];exact hom.drew
      have HOD:=Hq hod;have HBD:=Hq (show Below w.heap.size w wd from by rw[←hwd];exact hbx.drew);have m0:=hod.parts.2.2.2.2.2.2.1 K x HML.out.2.2.1;clear hom hbu hbx hod;rcases Nat.eq_zero_or_pos K with hz | hz
      · subst hz;have HSS:=Hq (zom HBU.out HSP.out.1 (.inl rfl));go_wp2;refine za 15 (Below (wd).heap.size (wd)) (by kernel_rfl) ?_;rw[hwd];refine rPs 0 29 14 blr ?_;refine rPs 1 30 13 blr ?_;refine rPs 2 31 12 blr ?_;refine rUs 3 32 11 blr ?_;refine rUs 4 33 10 blr ?_;refine rUs 5 34 9 blr ?_;refine rUs 6 35 8 blr ?_;refine rUs 7 36 7 blr ?_;refine rUs 8 37 6 blr ?_;refine rUs 9 38 5 blr ?_;refine rUs 10 39 4 blr ?_;refine rUs 11 40 3 blr ?_;refine rUs 12 41 2 blr ?_;refine rUs 13 42 1 blr ?_;refine rPs 14 43 0 blr ?_;refine wDn ?_;clear m0;go_wp2;go_roundw;case rel=>exact⟨k+1,M,by omega,by go_num,by have h:=HOD.out;unfold OwnN at h;rw[HML.out.1];exact h,⟨HSS.out,HML.out.2.2.2.trans HPM.out⟩,by have:=HML.out.1;omega,HBD.out⟩
        case measure=>simp[intOf];omega
      · obtain⟨J,rfl⟩:∃ J,K=J+1:=⟨K - 1,by omega⟩;obtain⟨y,hy⟩:∃ y,M[J]? =some y:=⟨_,List.getElem?_eq_getElem (by have:=HML.out.1;omega)⟩;have m1:=HOD.out.parts.2.2.2.2.2.2.1 J y hy;have HY:=Hq hy;have hvy:zc y=true:=(by have h3:=(HML.out.2.2.2.trans HPM.out).mem_iff.1 (List.mem_of_getElem? hy);exact VA.out y (List.mem_of_mem_take (List.mem_filter.1 h3).1));have HVY:=Hq hvy;have HC:=Hq (ja x y (by have:=zy HVX.out;omega) (by have:=zy hvy;omega) wd);rw[zed HVX.out hvy]at HC;have hjj:((J+1:Nat):Int)=(J:Int)+1:=rfl;have hj1:(J:Int)+1 - 1=J:=by omega
        have hw1:IntKind.i64.wrap (J:Int)=J:=by rw[IntKind.wrap_i64];omega
        have hj0:(0:Int)<(J:Int)+1:=by omega
        have hj2:((J:Int)+1).toNat=J+1:=by omega
        have hj3:(J:Int)+1<(L.length:Int)+1:=by omega
        have hj4:(J:Int)<(L.length:Int)+1:=by omega
        have hj5:(0:Int)≤(J:Int)+1:=by omega
        rw[hjj];clear hy hvy;go_wp2;refine za 15 (Below (wd).heap.size (wd)) (by kernel_rfl) ?_;rw[hwd];refine rPs 0 29 14 blr ?_;refine rPs 1 30 13 blr ?_;refine rPs 2 31 12 blr ?_;refine rPs 3 32 11 blr ?_;refine rPs 4 33 10 blr ?_;refine rPs 5 34 9 blr ?_;refine rTs 6 35 8 blr (k2 m0 m1) ?_;refine rPs 7 36 7 blr ?_;refine rPs 8 37 6 blr ?_;refine rPs 9 38 5 blr ?_;refine rPs 10 39 4 blr ?_;refine rTs 11 40 3 blr (k2 m0 m1) ?_;refine rO 12 2 ?_;intro K12 hK12;go_wp2_with fail;refine HC.out.mono ?_;rintro ev w8 ⟨rfl,hb⟩;have HB12:=Hq hb;clear hb;go_wp2;refine hK12 _ _ (by exact HB12.out) ?_;clear hK12;intro hS_8_12;refine rPs 13 42 1 hS_8_12 ?_;refine rPs 14 43 0 hS_8_12 ?_;refine wDn ?_;clear m0 m1;have HO8:=Hq (HOD.out.kept HB12.out nlr);have HB8:=bt HBD HB12.out;by_cases hl:num x<num y
        · have h0:cmpI (num x) (num y)<0:=kz.2 hl;obtain⟨cc,hcc⟩:=nm (cmpI (num x) (num y));rw[hcc]at h0⊢;have HBS:=Hq (zvd HBU.out HY.out hl);clear hcc hl;obtain⟨we,hwe⟩:=nm (w8.drew);have hoe:OwnN we w.heap.size g (L.length+1) cap M:=by rw[←hwe];exact HO8.out.drew
          have HOE:=Hq hoe;have HBE:=Hq (show Below w.heap.size w we from by rw[←hwe];exact HB8.out.drew);have m0:=hoe.parts.2.2.2.2.2.2.1 (J+1) x HML.out.2.2.1;have m1:=hoe.parts.2.2.2.2.2.2.1 J y HY.out;have f0:=hoe.parts.2.2.2.2.2.2.2 (J+1);have HO9:=Hq ((hoe.set (J+1) y).set J x);have f1:=(hoe.set (J+1) y).parts.2.2.2.2.2.2.2 J;have HB9:=Hq ((HBE.out.setCell (p:=⟨g,J+1,none⟩) hoe.parts.2.1 (.string y)).setCell (p:=⟨g,J,none⟩) hoe.parts.2.1 (.string x));clear hoe;go_wp2;refine za 15 (Eq we) (by kernel_rfl) ?_;rw[hwe];refine qPDs 0 44 17 rfl ?_;refine qPDs 1 45 16 rfl ?_;refine qPDs 2 46 15 rfl ?_;refine qPDs 3 47 14 rfl ?_;refine qPDs 4 48 13 rfl ?_;refine qPDs 5 49 12 rfl ?_;refine qPDs 6 50 11 rfl ?_;refine qPDs 7 51 10 rfl ?_;refine qPDs 8 52 9 rfl ?_;refine qTDs 9 53 8 rfl (fun w' hS'=>(And.intro ((hS'▸m0)) ((hS'▸m1)))) ?_;refine qPDs 10 54 7 rfl ?_;refine qPDs 11 55 6 rfl ?_;refine qPDs 12 56 5 rfl ?_;refine qTDs 13 57 4 rfl (fun w' hS'=>(And.intro ((hS'▸m0)) ((hS'▸m1)))) ?_;refine qPDs 14 58 3 rfl ?_;refine oT 15 2 ?_;intro K15 hK15;go_wp2;refine hK15 _ _ ?_;clear hK15;intro hD;refine xy (i:=16) (d:=some 59) (v:=?v9_16b3) (fuel:=1) rfl (by kernel_rfl) (by kernel_rfl) (by kernel_rfl) (fun _ _ _ h=>h) hD (.inl ⟨by kernel_rfl,?y9_16b3⟩) ?n9_16b3
          case y9_16b3=>intro w' _;go_simp;with_reducible rfl
          simp only[Act.put,sqA,sqB,sqC];refine oT 17 0 ?_;intro K17 hK17;go_wp2;refine hK17 _ _ ?_;clear hK17;refine wDn ?_;clear m0 m1 f0 f1;go_wp2;go_roundw;case rel=>exact⟨J,_,by omega,(by first | rfl | go_num),HO9.out,HBS.out,HB9.out⟩
          case measure=>simp[intOf]<;>omega
        · have h0:¬ (cmpI (num x) (num y)<0):=fun h=>hl (kz.1 h);obtain⟨cc,hcc⟩:=nm (cmpI (num x) (num y));rw[hcc]at h0⊢;have HSS:=Hq (zom HBU.out HSP.out.1 (.inr ⟨y,HY.out,by omega⟩));clear hcc hl;go_wp2;go_roundw;case rel=>exact⟨k+1,M,by omega,by go_num,by have h:=HO8.out;unfold OwnN at h;rw[HML.out.1];exact h,⟨HSS.out,HML.out.2.2.2.trans HPM.out⟩,by have:=HML.out.1;omega,HB8.out⟩
          case measure=>simp[intOf];omega
  · obtain rfl:k=n:=by omega
    have HRR:=Hq (HFIN.out L HSP.out.1 (by have:=HSP.out.2;rwa[List.take_of_length_le (by have:=HLA.out;omega)]at this));have HSL:=Hq hs5;go_wp2;go_ret;exact⟨A5,c5,by rw[←HRR.out];rfl,by rw[←HRR.out];exact HSL.out,HB.out⟩
end Go.Proofs.YtppbcopnfankcaaGreat

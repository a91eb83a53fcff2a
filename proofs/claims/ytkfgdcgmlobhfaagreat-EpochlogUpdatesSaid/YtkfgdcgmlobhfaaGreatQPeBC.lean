import Derived.Test.YtkfgdcgmlobhfaaGreatQWiH
set_option linter.unusedVariables false
set_option linter.unusedSimpArgs false
namespace Go.Proofs.YtkfgdcgmlobhfaaGreat
set_option maxRecDepth 100000
set_option maxHeartbeats 4000000
open Go.RowKit
theorem zlp(N M O Z S:ByteArray)(RA:Option Addr)(rn rc:Nat)(U H:ByteArray)(els hs:List ByteArray)(A B:Option Addr)(n c m d:Nat)(w:World)(hM:M.size≤8)(hO:O.size≤8)
 (hes:SlN w A n c els) (hn:n≤1000) (hez:SzL els) (hhs:SlN w B m d hs) (hhz:SzL hs) :
 Calls Tryz.prog 32 #[.agg (ikC N M O Z S RA rn rc U H),.slice A n c,.slice B m d] w (Ret (.int .i64 (rdyR M O els hs)) w):=by
 have HSE:=Hq hes;have HNL:=Hq hes.1;have hcap:=hes.2.1;have hcap2:=hes.2.2.1;have HFE:=Hq (fun W (hb:Below w.heap.size w W)=>ze0 els A n c W (hes.kept hb nlr) hez);have HFH:=Hq (fun W (hb:Below w.heap.size w W)=>ze0 hs B m d W (hhs.kept hb nlr) hhz);have HZH:=Hq (fun W (hb:Below w.heap.size w W)=>znu hs B m d W (hhs.kept hb nlr) hhz);have HVM:=Hq (zu M (by omega));have HVO:=Hq (zu O (by omega));obtain⟨RR,hRR⟩:∃ r,rdyR M O els hs=r:=⟨_,rfl⟩;rw[hRR];have HRR:=Hq hRR;have HCK:=Hq (zb3 M O hM hO);have HHS:=Hq (fun x hx=>zp6 M O x hM hO hx);unfold gV at HCK HHS;obtain⟨W0,hW0⟩:∃ W,w.alloc (.cells (ikC N M O Z S RA rn rc U H) 27)=W:=⟨_,rfl⟩;have hx0:BxC W0 w.heap.size (ikC N M O Z S RA rn rc U H) 27:=by rw[←hW0];exact BxC.new _ _ _
 have hb0:Below w.heap.size w W0:=by rw[←hW0];exact(blr).alloc nlr _
 have HX0:=Hq hx0;have HB0:=Hq hb0;have hx:=hx0;have k1:W0.cell? ⟨w.heap.size,1,none⟩=some (.string M):=hx.cell 1;have k2:W0.cell? ⟨w.heap.size,2,none⟩=some (.string O):=hx.cell 2;clear hx;clear hes hRR hez hx0 hb0 hM hO hhs hhz;unfold ikC at hW0⊢;unfold ikC at HX0;go_enter Tryz.func32,Tryz.ntmps32;go_wp2_with fail;try rw[hW0]
 clear hW0;refine(HVM.out _).mono ?_;rintro e w1 ⟨rfl,rfl⟩
 cases hv1:zd M with
 | false =>
  have HR3:=Hq (show RR=3 from by rw[←HRR.out];exact zb2 (by rw[hv1];rfl));clear hv1;go_wp2;go_ret;exact⟨by rw[HR3.out];rfl,HB0.out⟩
 | true =>
  have HV1:=Hq hv1;clear hv1;go_wp2_with fail;refine(HVO.out _).mono ?_;rintro e w1 ⟨rfl,rfl⟩
  cases hv2:zd O with
  | false =>
   have HR3:=Hq (show RR=3 from by rw[←HRR.out];exact zb2 (by rw[HV1.out,hv2];rfl));clear hv2;go_wp2;go_ret;exact⟨by rw[HR3.out];rfl,HB0.out⟩
  | true =>
   have HV2:=Hq hv2;clear hv2;go_wp2_with fail;refine(HFE.out _ HB0.out).mono ?_;rintro e w1 ⟨rfl,hb⟩;have HX1:=Hq (HX0.out.next hb);have HB1:=Hq (HB0.out.trans (hb.mono HB0.out.size));clear hb k1 k2
   cases hv3:els.all zd with
   | false =>
    have HR3:=Hq (show RR=3 from by rw[←HRR.out];exact zb2 (by rw[HV1.out,HV2.out,hv3];rfl));clear hv3;go_wp2;go_ret;exact⟨by rw[HR3.out];rfl,HB1.out⟩
   | true =>
    have HV3:=Hq hv3;have HEV:=Hq (List.all_eq_true.1 hv3);clear hv3;go_wp2_with fail;refine(HFH.out _ HB1.out).mono ?_;rintro e w2 ⟨rfl,hb⟩;have HX2:=Hq (HX1.out.next hb);have HB2:=Hq (HB1.out.trans (hb.mono HB1.out.size));clear hb
    cases hv4:hs.all zd with
    | false =>
     have HR3:=Hq (show RR=3 from by rw[←HRR.out];exact zb2 (by rw[HV1.out,HV2.out,HV3.out,hv4];rfl));clear hv4;go_wp2;go_ret;exact⟨by rw[HR3.out];rfl,HB2.out⟩
    | true =>
     have HFT:=Hq (show (zd M&&zd O&&els.all zd&&hs.all zd)=true from by rw[HV1.out,HV2.out,HV3.out,hv4];rfl);clear hv4;have hx:=HX2.out;have k1:w2.cell? ⟨w.heap.size,1,none⟩=some (.string M):=hx.cell 1;have k2:w2.cell? ⟨w.heap.size,2,none⟩=some (.string O):=hx.cell 2;clear hx;by_cases hc:chkK M O=0
     · have HCC:=Hq hc;rw[hc]at HCK;have HRZ:=Hq (fun h3=>(HRR.out.symm.trans (zo4 HFT.out hc h3)));have HRH:=Hq (fun h3=>(HRR.out.symm.trans (zlm HFT.out hc h3)));clear hc;go_wp2_with fail;refine(HCK.out _).mono ?_;rintro e w5 ⟨rfl,hb⟩;have HX5:=Hq (HX2.out.next hb);have HB5:=Hq (HB2.out.trans (hb.mono HB2.out.size));clear hb k1 k2;go_wp2;go_loopw [8] (fun i wr=>∃ k:Nat,k≤n∧i=.int .i64 k∧(els.take k).all (fun x=>hasN (num M) (num O) (num x))=true∧Below w5.heap.size w5 wr) (fun i _=>n - (intOf i).toNat);case atStart=>exact⟨0,Nat.zero_le _,rfl,by simp,Below.refl _ _⟩
       case round =>
        obtain⟨k,hk,rfl,hall,hbb⟩:=hrel;have HB:=Hq hbb;have HALL:=Hq hall;clear hbb hall;by_cases hlt:k<n
        · obtain⟨x,he⟩:∃ x,els[k]? =some x:=⟨_,List.getElem?_eq_getElem (by rw[HNL.out];exact hlt)⟩;obtain⟨eb,eo,rfl⟩:=HSE.out.head (by omega);have hbr:=HB5.out.trans (HB.out.mono HB5.out.size);have HBR:=Hq hbr;have hv:=HEV.out x (List.mem_of_getElem? he);have HH:=Hq (HHS.out x hv);have hk2:hasK M O x=hasN (num M) (num O) (num x):=by unfold hasK;rw[hv,decide_eq_true HCC.out];simp
          rw[hk2]at HH;have HE:=Hq he;obtain⟨wd,hwd⟩:∃ wd,wr.drew=wd:=⟨_,rfl⟩;have c0:wd.cell? ⟨eb,eo+k,none⟩=some (.string x):=by rw[←hwd];exact(HSE.out.kept hbr.drew nlr).get? k he
          have HBD:=Hq (show Below w.heap.size w wd from by rw[←hwd];exact hbr.drew);have HBW:=Hq (show Below w5.heap.size w5 wd from by rw[←hwd];exact HB.out.drew);have hxd:BxC wd w.heap.size #[.string N,.string M,.string O,.string Z,.string S,.slice RA rn rc,.string U,.string H] 27:=by rw[←hwd];exact HX5.out.next HB.out.drew
          have hx:=hxd;have k1:wd.cell? ⟨w.heap.size,1,none⟩=some (.string M):=hx.cell 1;have k2:wd.cell? ⟨w.heap.size,2,none⟩=some (.string O):=hx.cell 2;clear hx;clear he hbr hv hk2 hxd
          cases hh:hasN (num M) (num O) (num x)with
          | true =>
           have HHV:=Hq hh;rw[hh]at HH;clear hh;go_wp2;refine zg 8 (Below (wd).heap.size (wd)) (by kernel_rfl) ?_;intro hD;rw[hwd];refine rP 0 43 7 rfl hD blr ?_;clear hD;intro hD;refine rT 1 44 6 rfl hD blr (by intro w' hS';have e0:=kC hS' c0;have e1:=kC hS' k1;have e2:=kC hS' k2;go_simp;with_reducible rfl) ?_;clear hD;intro hD;refine rP 2 45 5 rfl hD blr ?_;clear hD;intro hD;refine rP 3 46 4 rfl hD blr ?_;clear hD;intro hD;refine rP 4 47 3 rfl hD blr ?_;clear hD;intro hD;refine rT 5 48 2 rfl hD blr (by intro w' hS';have e0:=kC hS' c0;have e1:=kC hS' k1;have e2:=kC hS' k2;go_simp;with_reducible rfl) ?_;clear hD;intro hD;simp only[Act.put,sqA,sqB,sqC];refine rO 6 1 rfl hD ?_;clear hD;intro K6 hK6;go_wp2_with fail;refine(HH.out _).mono ?_;rintro ev w6 ⟨rfl,hb⟩;have HB6:=Hq hb;clear hb;go_wp2;refine hK6 _ _ (by exact HB6.out) ?_;clear hK6;intro hS_9_6 hD;refine rP 7 50 0 rfl hD hS_9_6 ?_;clear hD;intro hD;simp only[Act.put,sqA,sqB,sqC];refine ze (by kernel_rfl) ?_ 0;clear hD c0 k1 k2;have HB7:=Hq (HBW.out.trans (HB6.out.mono HBW.out.size));go_wp2;go_roundw;case rel=>exact⟨k+1,by omega,by go_num,zao HALL.out HE.out HHV.out,HB7.out⟩
           case measure=>simp[intOf];omega
          | false =>
           have HR13:=Hq (show RR=13 from HRH.out (qh HE.out hh));rw[hh]at HH;clear hh;go_wp2;refine zg 8 (Below (wd).heap.size (wd)) (by kernel_rfl) ?_;intro hD;rw[hwd];refine rP 0 43 7 rfl hD blr ?_;clear hD;intro hD;refine rT 1 44 6 rfl hD blr (by intro w' hS';have e0:=kC hS' c0;have e1:=kC hS' k1;have e2:=kC hS' k2;go_simp;with_reducible rfl) ?_;clear hD;intro hD;refine rP 2 45 5 rfl hD blr ?_;clear hD;intro hD;refine rP 3 46 4 rfl hD blr ?_;clear hD;intro hD;refine rP 4 47 3 rfl hD blr ?_;clear hD;intro hD;refine rT 5 48 2 rfl hD blr (by intro w' hS';have e0:=kC hS' c0;have e1:=kC hS' k1;have e2:=kC hS' k2;go_simp;with_reducible rfl) ?_;clear hD;intro hD;simp only[Act.put,sqA,sqB,sqC];refine rO 6 1 rfl hD ?_;clear hD;intro K6 hK6;go_wp2_with fail;refine(HH.out _).mono ?_;rintro ev w6 ⟨rfl,hb⟩;have HB6:=Hq hb;clear hb;go_wp2;refine hK6 _ _ (by exact HB6.out) ?_;clear hK6;intro hS_9_6 hD;refine rP 7 50 0 rfl hD hS_9_6 ?_;clear hD;intro hD;simp only[Act.put,sqA,sqB,sqC];refine ze (by kernel_rfl) ?_ 0;clear hD c0 k1 k2;have HB7:=Hq (HBD.out.trans (HB6.out.mono HBD.out.size));go_wp2;go_ret;exact⟨by rw[HR13.out];rfl,HB7.out⟩
        · obtain rfl:k=n:=by omega
          have HRN:=Hq (HRZ.out (zbw HALL.out HNL.out));have hbr:=HB5.out.trans (HB.out.mono HB5.out.size);have HBR:=Hq hbr;have HNZ:=Hq (HZH.out wr hbr);clear hbr
          cases hz:hs.all nzB with
          | true =>
           have HR3:=Hq (show RR=0 from HRN.out.trans (by rw[hz];rfl));rw[hz]at HNZ;clear hz;go_wp2_with fail;refine HNZ.out.mono ?_;rintro e w6 ⟨rfl,hb⟩;have HB6:=Hq (HBR.out.trans (hb.mono HBR.out.size));clear hb;go_wp2;go_ret;exact⟨by rw[HR3.out];rfl,HB6.out⟩
          | false =>
           have HR3:=Hq (show RR=11 from HRN.out.trans (by rw[hz];rfl));rw[hz]at HNZ;clear hz;go_wp2_with fail;refine HNZ.out.mono ?_;rintro e w6 ⟨rfl,hb⟩;have HB6:=Hq (HBR.out.trans (hb.mono HBR.out.size));clear hb;go_wp2;go_ret;exact⟨by rw[HR3.out];rfl,HB6.out⟩
     · have HRC:=Hq (show RR=chkK M O from by rw[←HRR.out];exact zln HFT.out hc);obtain⟨v,hv⟩:∃ v,chkK M O=v:=⟨_,rfl⟩;have hvb:(v != 0)=true:=by rw[bne_iff_ne,←hv];exact hc
       rw[hv]at HCK HRC;clear hc hv;go_wp2_with fail;refine(HCK.out _).mono ?_;rintro e w5 ⟨rfl,hb⟩;have HB5:=Hq (HB2.out.trans (hb.mono HB2.out.size));clear hb k1 k2;go_wp2;go_ret;exact⟨by rw[HRC.out];rfl,HB5.out⟩
set_option maxRecDepth 100000
set_option maxHeartbeats 4000000
theorem zqi(M x:ByteArray)(bb:Bool)(bt:ByteArray):prV (num M) [x] [(bb,bt)]=pwN (num x) bb (num bt) (num M):=by
 unfold prV bL pwN;simp only[List.zipWith_cons_cons,List.zipWith_nil_right,pp,Nat.pow_zero,Nat.div_one,Nat.mul_one]
theorem zie{M O x:ByteArray}{bb:Bool}{bt:ByteArray}{c:Int}(h:ckR M O [x] [(bb,bt)] true=c)(hc:c≠0):prR M O [x] [(bb,bt)]=.tuple #[.string ⟨#[]⟩,.int .i64 c]:=zqj h hc
def GI2(w W:World)(M O:ByteArray)(bb:Bool)(bt:ByteArray):Prop:=
 Bx2 W w.heap.size (.string M) (.string O) 24∧Bx2 W (w.heap.size+1) (.bool bb) (.string bt) 78∧Below w.heap.size w W
theorem GI2.new(w:World)(M O:ByteArray)(bb:Bool)(bt:ByteArray):GI2 w ((w.alloc (.cells #[.string M,.string O] 24)).alloc (.cells #[.bool bb,.string bt] 78)) M O bb bt:=by
 refine⟨(Bx2.new w _ _ _).next ((blr).alloc nlr _),?_,((Below.refl w.heap.size w).alloc nlr _).alloc (by simp) _⟩;have:=Bx2.new (w.alloc (.cells #[.string M,.string O] 24)) (.bool bb) (.string bt) 78;rwa[World.size_alloc]at this
theorem GI2.next{w W W':World}{M O:ByteArray}{bb:Bool}{bt:ByteArray}(h:GI2 w W M O bb bt)(hb:Below W.heap.size W W'):GI2 w W' M O bb bt:=
 ⟨h.1.next hb,h.2.1.next hb,h.2.2.trans (hb.mono (Nat.le_of_lt h.1.lt))⟩
theorem zp7(M O x:ByteArray)(bb:Bool)(bt:ByteArray)(hM:M.size≤8)(hO:O.size≤8)(hx:x.size≤1000)(hb:bt.size≤1000)(w:World):Calls Tryz.prog 34 #[gV M O,.string x,zV bb bt] w (Ret (prR M O [x] [(bb,bt)]) w):=by
 have HVA:=Hq (zu x (by omega));have HVB:=Hq (zds bb bt (by omega));have HCK:=Hq (zb3 M O hM hO);have HHS:=Hq (fun(hc:chkK M O=0) (hv:zd x=true)=>show ∀ w,Calls Tryz.prog 82 #[.agg #[.string M,.string O],.string x] w (Ret (.bool (hasN (num M) (num O) (num x))) w)from by
  obtain⟨v1,v2,_⟩:=xd hc;have:=zh9 (num M) (num O) (num x) (jr hM) (jr hO) (kf hv)
  rwa[←jm v1,←jm v2,←jm hv]at this)
 have HRA:=Hq (fun(hc:ckR M O [x] [(bb,bt)] true=0) (w:World)=>show Calls Tryz.prog 83 #[.agg #[.string M,.string O],.string x,.agg #[.bool bb,.string bt]] w (Ret (.string (nS (pwN (num x) bb (num bt) (num M)))) w)from by
  obtain⟨g1,g2,g3,_,g5⟩:=zdf hc;obtain⟨v1,v2,g6⟩:=xd g3;have n1:=zap (l:=[x]) (k:=0) (p:=zd) g1 rfl;have z1:=zap (l:=[(bb,bt)]) (k:=0) (p:=fun z=>jz z.1 z.2) g2 rfl;have u1:=zd4 (zap (l:=[x]) (k:=0) (p:=fun s=>hasN (num M) (num O) (num s)) g5 rfl) g6;have:=zp4 (num x) (num M) O bb bt u1.1 (jr hM) u1.2.1 u1.2.2 z1 w
  rwa[←jm n1,←jm v1]at this)
 have HBAD:=Hq (fun(c:Int) (h:ckR M O [x] [(bb,bt)] true=c) (hc:c≠0)=>zie h hc);have HGOOD:=Hq (fun(h:ckR M O [x] [(bb,bt)] true=0)=>show prR M O [x] [(bb,bt)]=.tuple #[.string (nS (pwN (num x) bb (num bt) (num M))),.int .i64 0]from by
  unfold prR
  rw[show (decide ([x].length=[(bb,bt)].length))=true from rfl,if_pos h,zqi])
 clear hM hO hx hb;unfold gV zV at *
 cases h1:zd x with
 | false =>
  rw[HBAD.out 3 (by rw[zhy,h1];rfl) (by decide)];rw[h1]at HVA;clear h1;go_enter Tryz.func34,Tryz.ntmps34;have hk:=GI2.new w M O bb bt;obtain⟨W0,hW0⟩:∃ W,(w.alloc (.cells #[.string M,.string O] 24)).alloc (.cells #[.bool bb,.string bt] 78)=W:=⟨_,rfl⟩;rw[hW0]at hk;have HK:=Hq hk;have c0:=hk.1.c0;have c1:=hk.1.c1;have b0:=hk.2.1.c0;have b1:=hk.2.1.c1;clear hk;go_wp2_with fail;try rw[hW0]
  clear hW0;refine(HVA.out _).mono ?_;rintro ev w9 ⟨rfl,rfl⟩;go_wp2;go_ret2;exact⟨rfl,HK.out.2.2⟩
 | true =>
  rw[h1]at HVA
  cases h2:jz bb bt with
  | false =>
   rw[HBAD.out 3 (by rw[zhy,h1,h2];rfl) (by decide)];rw[h2]at HVB;clear h1 h2;go_enter Tryz.func34,Tryz.ntmps34;have hk:=GI2.new w M O bb bt;obtain⟨W0,hW0⟩:∃ W,(w.alloc (.cells #[.string M,.string O] 24)).alloc (.cells #[.bool bb,.string bt] 78)=W:=⟨_,rfl⟩;rw[hW0]at hk;have HK:=Hq hk;have c0:=hk.1.c0;have c1:=hk.1.c1;have b0:=hk.2.1.c0;have b1:=hk.2.1.c1;clear hk;go_wp2_with fail;try rw[hW0]
   clear hW0;refine(HVA.out _).mono ?_;rintro ev w9 ⟨rfl,rfl⟩;go_wp2_with fail;refine(HVB.out _).mono ?_;rintro ev w1 ⟨rfl,hb⟩;have hk:=HK.out.next hb;have HK:=Hq hk;clear hb c0 c1 b0 b1;have c0:=hk.1.c0;have c1:=hk.1.c1;have b0:=hk.2.1.c0;have b1:=hk.2.1.c1;clear hk;go_wp2;go_ret2;exact⟨rfl,HK.out.2.2⟩
  | true =>
   rw[h2]at HVB;by_cases hc:chkK M O=0
   · have HA:=Hq (HHS.out hc h1);rw[hc]at HCK
     cases h3:hasN (num M) (num O) (num x)with
     | false =>
      rw[HBAD.out 13 (by rw[zhy,h1,h2,h3,if_neg (by decide),if_neg (by decide),if_pos hc];rfl) (by decide)];rw[h3]at HA;clear h1 h2 h3 hc;go_enter Tryz.func34,Tryz.ntmps34;have hk:=GI2.new w M O bb bt;obtain⟨W0,hW0⟩:∃ W,(w.alloc (.cells #[.string M,.string O] 24)).alloc (.cells #[.bool bb,.string bt] 78)=W:=⟨_,rfl⟩;rw[hW0]at hk;have HK:=Hq hk;have c0:=hk.1.c0;have c1:=hk.1.c1;have b0:=hk.2.1.c0;have b1:=hk.2.1.c1;clear hk;go_wp2_with fail;try rw[hW0]
      clear hW0;refine(HVA.out _).mono ?_;rintro ev w9 ⟨rfl,rfl⟩;go_wp2_with fail;refine(HVB.out _).mono ?_;rintro ev w1 ⟨rfl,hb⟩;have hk:=HK.out.next hb;have HK:=Hq hk;clear hb c0 c1 b0 b1;have c0:=hk.1.c0;have c1:=hk.1.c1;have b0:=hk.2.1.c0;have b1:=hk.2.1.c1;clear hk;go_wp2_with fail;refine(HCK.out _).mono ?_;rintro ev w2 ⟨rfl,hb⟩;have hk:=HK.out.next hb;have HK:=Hq hk;clear hb c0 c1 b0 b1;have c0:=hk.1.c0;have c1:=hk.1.c1;have b0:=hk.2.1.c0;have b1:=hk.2.1.c1;clear hk;go_wp2_with fail;refine(HA.out _).mono ?_;rintro ev w3 ⟨rfl,hb⟩;have hk:=HK.out.next hb;have HK:=Hq hk;clear hb c0 c1 b0 b1;have c0:=hk.1.c0;have c1:=hk.1.c1;have b0:=hk.2.1.c0;have b1:=hk.2.1.c1;clear hk;go_wp2;go_ret2;exact⟨rfl,HK.out.2.2⟩
     | true =>
      rw[h3]at HA;have h0:ckR M O [x] [(bb,bt)] true=0:=by rw[zhy,h1,h2,h3,if_neg (by decide),if_neg (by decide),if_pos hc];rfl
      rw[HGOOD.out h0];have HMM:=Hq (HRA.out h0);obtain⟨r,hr⟩:∃ r,nS (pwN (num x) bb (num bt) (num M))=r:=⟨_,rfl⟩;rw[hr]at HMM⊢;clear h0 h1 h2 h3 hc hr HRA HGOOD;go_enter Tryz.func34,Tryz.ntmps34;have hk:=GI2.new w M O bb bt;obtain⟨W0,hW0⟩:∃ W,(w.alloc (.cells #[.string M,.string O] 24)).alloc (.cells #[.bool bb,.string bt] 78)=W:=⟨_,rfl⟩;rw[hW0]at hk;have HK:=Hq hk;have c0:=hk.1.c0;have c1:=hk.1.c1;have b0:=hk.2.1.c0;have b1:=hk.2.1.c1;clear hk;go_wp2_with fail;try rw[hW0]
      clear hW0;refine(HVA.out _).mono ?_;rintro ev w9 ⟨rfl,rfl⟩;go_wp2_with fail;refine(HVB.out _).mono ?_;rintro ev w1 ⟨rfl,hb⟩;have hk:=HK.out.next hb;have HK:=Hq hk;clear hb c0 c1 b0 b1;have c0:=hk.1.c0;have c1:=hk.1.c1;have b0:=hk.2.1.c0;have b1:=hk.2.1.c1;clear hk;go_wp2_with fail;refine(HCK.out _).mono ?_;rintro ev w2 ⟨rfl,hb⟩;have hk:=HK.out.next hb;have HK:=Hq hk;clear hb c0 c1 b0 b1;have c0:=hk.1.c0;have c1:=hk.1.c1;have b0:=hk.2.1.c0;have b1:=hk.2.1.c1;clear hk;go_wp2_with fail;refine(HA.out _).mono ?_;rintro ev w3 ⟨rfl,hb⟩;have hk:=HK.out.next hb;have HK:=Hq hk;clear hb c0 c1 b0 b1;have c0:=hk.1.c0;have c1:=hk.1.c1;have b0:=hk.2.1.c0;have b1:=hk.2.1.c1;clear hk;go_wp2_with fail;refine(HMM.out _).mono ?_;rintro ev w4 ⟨rfl,hb⟩;have hk:=HK.out.next hb;have HK:=Hq hk;clear hb c0 c1 b0 b1;have c0:=hk.1.c0;have c1:=hk.1.c1;have b0:=hk.2.1.c0;have b1:=hk.2.1.c1;clear hk;go_wp2;go_ret2;exact⟨rfl,HK.out.2.2⟩
   · obtain⟨cc,hcc⟩:∃ cc,chkK M O=cc:=⟨_,rfl⟩;have hc':=hc;rw[hcc]at hc';rw[HBAD.out cc (by rw[zhy,h1,h2,if_neg (by decide),if_neg (by decide),if_neg hc,hcc]) hc'];rw[hcc]at HCK;have hcb:(cc==0)=false:=by rw[beq_eq_false_iff_ne];exact hc'
     have hcb2:(cc != 0)=true:=by rw[bne,hcb];rfl
     clear h1 h2 hc hc' hcc;go_enter Tryz.func34,Tryz.ntmps34;have hk:=GI2.new w M O bb bt;obtain⟨W0,hW0⟩:∃ W,(w.alloc (.cells #[.string M,.string O] 24)).alloc (.cells #[.bool bb,.string bt] 78)=W:=⟨_,rfl⟩;rw[hW0]at hk;have HK:=Hq hk;have c0:=hk.1.c0;have c1:=hk.1.c1;have b0:=hk.2.1.c0;have b1:=hk.2.1.c1;clear hk;go_wp2_with fail;try rw[hW0]
     clear hW0;refine(HVA.out _).mono ?_;rintro ev w9 ⟨rfl,rfl⟩;go_wp2_with fail;refine(HVB.out _).mono ?_;rintro ev w1 ⟨rfl,hb⟩;have hk:=HK.out.next hb;have HK:=Hq hk;clear hb c0 c1 b0 b1;have c0:=hk.1.c0;have c1:=hk.1.c1;have b0:=hk.2.1.c0;have b1:=hk.2.1.c1;clear hk;go_wp2_with fail;refine(HCK.out _).mono ?_;rintro ev w2 ⟨rfl,hb⟩;have hk:=HK.out.next hb;have HK:=Hq hk;clear hb c0 c1 b0 b1;have c0:=hk.1.c0;have c1:=hk.1.c1;have b0:=hk.2.1.c0;have b1:=hk.2.1.c1;clear hk;go_wp2;go_ret2;exact⟨rfl,HK.out.2.2⟩
end Go.Proofs.YtkfgdcgmlobhfaaGreat

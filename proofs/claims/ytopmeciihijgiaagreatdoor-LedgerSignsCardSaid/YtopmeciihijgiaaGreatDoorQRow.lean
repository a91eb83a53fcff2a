import Derived.Test.YtopmeciihijgiaaGreatDoorQLedG
set_option linter.unusedVariables false
set_option linter.unusedSimpArgs false
namespace Go.Proofs.YtopmeciihijgiaaGreatDoor
set_option maxRecDepth 100000
set_option maxHeartbeats 4000000
open Go.RowKit
theorem r57_Message_1(q p:Nat)(h s:ByteArray)(w:World)(hq:((q:Int)==0)=false)(hq2:((q:Int)==2)=false)(hqn:((q:Int) != 0)=true)(hqm:((q:Int) != 2)=true)(hk:(0:Int)≤q∧(q:Int)≤2)(hh:h.size≤128)(hs:s.size≤32)(hv:nvalid h=true)(hl:lowB h=false)(hn:s.toList.isEmpty=true)(hp:p≤4096):Calls Tryz.prog 57 #[.agg #[.int .i64 q,.string h,.string s,.int .i64 p]] w (RetSE (encS (itE q h s p)) w):=by
 obtain⟨hk1,hk2⟩:=hk;obtain⟨W0,HW0,HA0,hz,b0,b1,b2,b3⟩:=en_box w q p h s 47;have HL:=Hq hl;clear hl;have HV:=Hq hv;clear hv;go_enter Tryz.func57,Tryz.ntmps57;go_wp2_with fail;rw[HW0.out];refine(r01_Valid h (by omega) _).mono ?_;rintro e w1 ⟨rfl,rfl⟩;rw[HV.out];go_wp2_with fail;refine(r01_Order h _ (by omega) (by decide) _).mono ?_;rintro e w2 ⟨rfl,hb2⟩;obtain⟨c,hc,hc0⟩:=ord_no HL.out;rw[hc];clear hc;have d0:=kc hb2 b0;have d1:=kc hb2 b1;have d2:=kc hb2 b2;have d3:=kc hb2 b3;have hz2:w.heap.size+1≤w2.heap.size:=Nat.le_trans hz hb2.size;have HA1:=Hq (HA0.out.trans (hb2.mono (by omega)));clear b0 b1 b2 b3 HA0 HW0 hb2 hz;go_wp2;have hq2:q≤2:=by omega
 refine wp_region_K 20 (Below (w2.drew).heap.size (w2.drew)) (by kernel_rfl) ?_;intro hD;have KK1:=Hq (fun w' (hS':(Below (w2.drew).heap.size (w2.drew)) w')=>And.intro (kC hS' d0) (And.intro (kC hS' d1) (And.intro (kC hS' d2) (kC hS' d3))));refine rP 1 65 19 rfl hD blr ?_;clear hD;intro hD;refine rT 2 66 18 rfl hD blr (by intro w' hS';obtain⟨e0,e1,e2,e3⟩:=KK1.out w' hS';go_simp;with_reducible rfl) ?_;clear hD;intro hD;refine rP 4 68 17 rfl hD blr ?_;clear hD;intro hD;refine rT 5 69 16 rfl hD blr (by intro w' hS';obtain⟨e0,e1,e2,e3⟩:=KK1.out w' hS';go_simp;with_reducible rfl) ?_;clear hD;intro hD;refine rP 7 71 15 rfl hD blr ?_;clear hD;intro hD;refine rT 8 72 14 rfl hD blr (by intro w' hS';obtain⟨e0,e1,e2,e3⟩:=KK1.out w' hS';go_simp;with_reducible rfl) ?_;clear hD;intro hD;refine rP 10 74 13 rfl hD blr ?_;clear hD;intro hD;refine rT 11 75 12 rfl hD blr (by intro w' hS';obtain⟨e0,e1,e2,e3⟩:=KK1.out w' hS';go_simp;with_reducible rfl) ?_;clear hD;intro hD;simp only[Act.put,sqA,sqB,sqC];refine rO 0 11 rfl hD ?_;clear hD;intro K0 hK0;go_wp2_with fail;refine(r08_TextV _ _).mono ?_;rintro e w10 ⟨rfl,hb10⟩;have HB0:=Hq hb10;clear hb10;go_wp2;refine hK0 _ _ (by exact HB0.out) ?_;clear hK0;intro hS_9_0 hD;refine rO 3 10 rfl hD ?_;clear hD;intro K3 hK3;go_wp2_with fail;refine(r57_nat q _ (by omega)).mono ?_;rintro e w11 ⟨rfl,hb11⟩;have HB3:=Hq hb11;clear hb11;go_wp2;refine hK3 _ _ (by exact Below.trans hS_9_0 (Below.mono HB3.out (Below.size hS_9_0))) ?_;clear hK3;intro hS_9_3 hD;refine rO 6 9 rfl hD ?_;clear hD;intro K6 hK6;go_wp2_with fail;refine(r08_NatV _ _).mono ?_;rintro e w12 ⟨rfl,hb12⟩;have HB6:=Hq hb12;clear hb12;go_wp2;refine hK6 _ _ (by exact Below.trans hS_9_3 (Below.mono HB6.out (Below.size hS_9_3))) ?_;clear hK6;intro hS_9_6 hD;refine rO 9 8 rfl hD ?_;clear hD;intro K9 hK9;go_wp2_with fail;refine(r08_TextV _ _).mono ?_;rintro e w13 ⟨rfl,hb13⟩;have HB9:=Hq hb13;clear hb13;go_wp2;refine hK9 _ _ (by exact Below.trans hS_9_6 (Below.mono HB9.out (Below.size hS_9_6))) ?_;clear hK9;intro hS_9_9 hD;refine rO 12 7 rfl hD ?_;clear hD;intro K12 hK12;go_wp2_with fail;refine(r57_nat p _ (by omega)).mono ?_;rintro e w14 ⟨rfl,hb14⟩;have HB12:=Hq hb14;clear hb14;go_wp2;refine hK12 _ _ (by exact Below.trans hS_9_9 (Below.mono HB12.out (Below.size hS_9_9))) ?_;clear hK12;intro hS_9_12 hD;refine rO 13 6 rfl hD ?_;clear hD;intro K13 hK13;go_wp2;refine hK13 _ _ (by exact Below.alloc hS_9_12 (Below.size hS_9_12) _) ?_;clear hK13;intro hS_9_13 hD;refine rO 14 5 rfl hD ?_;clear hD;intro K14 hK14;go_wp2_with fail;refine(r08_List (itsE q h s p) _ 5 5 _ _ (Nat.le_of_ble_eq_true rfl) (row5 (heap_alloc_new w14 _))).mono ?_;rintro e w15 ⟨v15,rfl,hi15,hb15⟩;have HB14:=Hq hb15;have HI15:=Hq hi15;clear hb15 hi15;go_wp2;refine hK14 _ _ (by exact Below.trans hS_9_13 (Below.mono HB14.out (Below.size hS_9_13))) ?_;clear hK14;intro hS_9_14 hD;refine rO 15 4 rfl hD ?_;clear hD;intro K15 hK15;go_wp2_with fail;refine(r08_Encode _ v15 _ _ (itE_weight hq2 hp hh hs) HI15.out).mono ?_;rintro e w16 ⟨rfl,hb16⟩;have HB15:=Hq hb16;clear hb16;obtain⟨r1,r2,hr⟩:∃ r1 r2,encS (itE q h s p)=(r1,r2):=⟨_,_,rfl⟩;have HR:=Hq hr;rw[hr];clear hr;go_wp2;refine hK15 _ _ (by exact Below.trans hS_9_14 (Below.mono HB15.out (Below.size hS_9_14))) ?_;clear hK15;intro hS_9_15 hD;refine rP 16 80 3 rfl hD hS_9_15 ?_;clear hD;intro hD;refine rP 17 81 2 rfl hD hS_9_15 ?_;clear hD;intro hD;simp only[Act.put,sqA,sqB,sqC];refine rO 18 1 rfl hD ?_;clear hD;intro K18 hK18;go_wp2;refine hK18 _ _ (by exact hS_9_15) ?_;clear hK18;intro hS_9_18 hD;refine rO 19 0 rfl hD ?_;clear hD;intro K19 hK19;go_wp2;refine hK19 _ _ (by exact hS_9_18) ?_;clear hK19;intro hS_9_19 hD;refine wpD ?_;clear hD;go_wp2;go_ret2;exact⟨by rw[HR.out];rfl,HA1.out.drew.trans ((hS_9_19).mono (by simp;omega))⟩
theorem r57_Message_1r(q:Nat)(p:Int)(h s:ByteArray)(w:World)(hq:((q:Int)==0)=false)(hq2:((q:Int)==2)=false)(hqn:((q:Int) != 0)=true)(hqm:((q:Int) != 2)=true)(hk:(0:Int)≤q∧(q:Int)≤2)(hh:h.size≤128)(hs:s.size≤32)(hv:nvalid h=true)(hl:lowB h=false)(hn:s.toList.isEmpty=true)(hp:p<0∨4096<p):Calls Tryz.prog 57 #[.agg #[.int .i64 q,.string h,.string s,.int .i64 p]] w (RetSE (⟨#[]⟩,2) w):=by
 obtain⟨hk1,hk2⟩:=hk;rcases hp with hp | hp
 · skip;obtain⟨W0,HW0,HA0,hz,b0,b1,b2,b3⟩:=en_box w q p h s 47;have HL:=Hq hl;clear hl;have HV:=Hq hv;clear hv;go_enter Tryz.func57,Tryz.ntmps57;go_wp2_with fail;rw[HW0.out];refine(r01_Valid h (by omega) _).mono ?_;rintro e w1 ⟨rfl,rfl⟩;rw[HV.out];go_wp2_with fail;refine(r01_Order h _ (by omega) (by decide) _).mono ?_;rintro e w2 ⟨rfl,hb2⟩;obtain⟨c,hc,hc0⟩:=ord_no HL.out;rw[hc];clear hc;have d0:=kc hb2 b0;have d1:=kc hb2 b1;have d2:=kc hb2 b2;have d3:=kc hb2 b3;have hz2:w.heap.size+1≤w2.heap.size:=Nat.le_trans hz hb2.size;have HA1:=Hq (HA0.out.trans (hb2.mono (by omega)));clear b0 b1 b2 b3 HA0 HW0 hb2 hz;go_wp2;go_ret2;exact⟨rfl,HA1.out⟩
 · skip;obtain⟨W0,HW0,HA0,hz,b0,b1,b2,b3⟩:=en_box w q p h s 47;have HL:=Hq hl;clear hl;have HV:=Hq hv;clear hv;go_enter Tryz.func57,Tryz.ntmps57;go_wp2_with fail;rw[HW0.out];refine(r01_Valid h (by omega) _).mono ?_;rintro e w1 ⟨rfl,rfl⟩;rw[HV.out];go_wp2_with fail;refine(r01_Order h _ (by omega) (by decide) _).mono ?_;rintro e w2 ⟨rfl,hb2⟩;obtain⟨c,hc,hc0⟩:=ord_no HL.out;rw[hc];clear hc;have d0:=kc hb2 b0;have d1:=kc hb2 b1;have d2:=kc hb2 b2;have d3:=kc hb2 b3;have hz2:w.heap.size+1≤w2.heap.size:=Nat.le_trans hz hb2.size;have HA1:=Hq (HA0.out.trans (hb2.mono (by omega)));clear b0 b1 b2 b3 HA0 HW0 hb2 hz;go_wp2;go_ret2;exact⟨rfl,HA1.out⟩
theorem r57_Message_2(q p:Nat)(h s:ByteArray)(w:World)(hq:((q:Int)==0)=false)(hq2:((q:Int)==2)=true)(hqn:((q:Int) != 0)=true)(hqm:((q:Int) != 2)=false)(hk:(0:Int)≤q∧(q:Int)≤2)(hh:h.size≤128)(hs:s.size≤32)(hv:nvalid h=true)(hl:h.toList.isEmpty=true)(hn:s.toList.isEmpty=true)(hp:p≤4096):Calls Tryz.prog 57 #[.agg #[.int .i64 q,.string h,.string s,.int .i64 p]] w (RetSE (encS (itE q h s p)) w):=by
 obtain⟨hk1,hk2⟩:=hk;obtain⟨W0,HW0,HA0,hz,b0,b1,b2,b3⟩:=en_box w q p h s 47;have HV:=Hq hv;clear hv;go_enter Tryz.func57,Tryz.ntmps57;go_wp2_with fail;rw[HW0.out];refine(r01_Valid h (by omega) _).mono ?_;rintro e w1 ⟨rfl,rfl⟩;rw[HV.out];have d0:=b0;have d1:=b1;have d2:=b2;have d3:=b3;have hz2:=hz;have HA1:=HA0;clear b0 b1 b2 b3 HA0 HW0;go_wp2;have hq2:q≤2:=by omega
 refine wp_region_K 20 (Below (W0.drew).heap.size (W0.drew)) (by kernel_rfl) ?_;intro hD;have KK2:=Hq (fun w' (hS':(Below (W0.drew).heap.size (W0.drew)) w')=>And.intro (kC hS' d0) (And.intro (kC hS' d1) (And.intro (kC hS' d2) (kC hS' d3))));refine rP 1 65 19 rfl hD blr ?_;clear hD;intro hD;refine rT 2 66 18 rfl hD blr (by intro w' hS';obtain⟨e0,e1,e2,e3⟩:=KK2.out w' hS';go_simp;with_reducible rfl) ?_;clear hD;intro hD;refine rP 4 68 17 rfl hD blr ?_;clear hD;intro hD;refine rT 5 69 16 rfl hD blr (by intro w' hS';obtain⟨e0,e1,e2,e3⟩:=KK2.out w' hS';go_simp;with_reducible rfl) ?_;clear hD;intro hD;refine rP 7 71 15 rfl hD blr ?_;clear hD;intro hD;refine rT 8 72 14 rfl hD blr (by intro w' hS';obtain⟨e0,e1,e2,e3⟩:=KK2.out w' hS';go_simp;with_reducible rfl) ?_;clear hD;intro hD;refine rP 10 74 13 rfl hD blr ?_;clear hD;intro hD;refine rT 11 75 12 rfl hD blr (by intro w' hS';obtain⟨e0,e1,e2,e3⟩:=KK2.out w' hS';go_simp;with_reducible rfl) ?_;clear hD;intro hD;simp only[Act.put,sqA,sqB,sqC];refine rO 0 11 rfl hD ?_;clear hD;intro K0 hK0;go_wp2_with fail;refine(r08_TextV _ _).mono ?_;rintro e w10 ⟨rfl,hb10⟩;have HB0:=Hq hb10;clear hb10;go_wp2;refine hK0 _ _ (by exact HB0.out) ?_;clear hK0;intro hS_9_0 hD;refine rO 3 10 rfl hD ?_;clear hD;intro K3 hK3;go_wp2_with fail;refine(r57_nat q _ (by omega)).mono ?_;rintro e w11 ⟨rfl,hb11⟩;have HB3:=Hq hb11;clear hb11;go_wp2;refine hK3 _ _ (by exact Below.trans hS_9_0 (Below.mono HB3.out (Below.size hS_9_0))) ?_;clear hK3;intro hS_9_3 hD;refine rO 6 9 rfl hD ?_;clear hD;intro K6 hK6;go_wp2_with fail;refine(r08_NatV _ _).mono ?_;rintro e w12 ⟨rfl,hb12⟩;have HB6:=Hq hb12;clear hb12;go_wp2;refine hK6 _ _ (by exact Below.trans hS_9_3 (Below.mono HB6.out (Below.size hS_9_3))) ?_;clear hK6;intro hS_9_6 hD;refine rO 9 8 rfl hD ?_;clear hD;intro K9 hK9;go_wp2_with fail;refine(r08_TextV _ _).mono ?_;rintro e w13 ⟨rfl,hb13⟩;have HB9:=Hq hb13;clear hb13;go_wp2;refine hK9 _ _ (by exact Below.trans hS_9_6 (Below.mono HB9.out (Below.size hS_9_6))) ?_;clear hK9;intro hS_9_9 hD;refine rO 12 7 rfl hD ?_;clear hD;intro K12 hK12;go_wp2_with fail;refine(r57_nat p _ (by omega)).mono ?_;rintro e w14 ⟨rfl,hb14⟩;have HB12:=Hq hb14;clear hb14;go_wp2;refine hK12 _ _ (by exact Below.trans hS_9_9 (Below.mono HB12.out (Below.size hS_9_9))) ?_;clear hK12;intro hS_9_12 hD;refine rO 13 6 rfl hD ?_;clear hD;intro K13 hK13;go_wp2;refine hK13 _ _ (by exact Below.alloc hS_9_12 (Below.size hS_9_12) _) ?_;clear hK13;intro hS_9_13 hD;refine rO 14 5 rfl hD ?_;clear hD;intro K14 hK14;go_wp2_with fail;refine(r08_List (itsE q h s p) _ 5 5 _ _ (Nat.le_of_ble_eq_true rfl) (row5 (heap_alloc_new w14 _))).mono ?_;rintro e w15 ⟨v15,rfl,hi15,hb15⟩;have HB14:=Hq hb15;have HI15:=Hq hi15;clear hb15 hi15;go_wp2;refine hK14 _ _ (by exact Below.trans hS_9_13 (Below.mono HB14.out (Below.size hS_9_13))) ?_;clear hK14;intro hS_9_14 hD;refine rO 15 4 rfl hD ?_;clear hD;intro K15 hK15;go_wp2_with fail;refine(r08_Encode _ v15 _ _ (itE_weight hq2 hp hh hs) HI15.out).mono ?_;rintro e w16 ⟨rfl,hb16⟩;have HB15:=Hq hb16;clear hb16;obtain⟨r1,r2,hr⟩:∃ r1 r2,encS (itE q h s p)=(r1,r2):=⟨_,_,rfl⟩;have HR:=Hq hr;rw[hr];clear hr;go_wp2;refine hK15 _ _ (by exact Below.trans hS_9_14 (Below.mono HB15.out (Below.size hS_9_14))) ?_;clear hK15;intro hS_9_15 hD;refine rP 16 80 3 rfl hD hS_9_15 ?_;clear hD;intro hD;refine rP 17 81 2 rfl hD hS_9_15 ?_;clear hD;intro hD;simp only[Act.put,sqA,sqB,sqC];refine rO 18 1 rfl hD ?_;clear hD;intro K18 hK18;go_wp2;refine hK18 _ _ (by exact hS_9_15) ?_;clear hK18;intro hS_9_18 hD;refine rO 19 0 rfl hD ?_;clear hD;intro K19 hK19;go_wp2;refine hK19 _ _ (by exact hS_9_18) ?_;clear hK19;intro hS_9_19 hD;refine wpD ?_;clear hD;go_wp2;go_ret2;exact⟨by rw[HR.out];rfl,HA1.out.drew.trans ((hS_9_19).mono (by simp;omega))⟩
theorem r57_Message_2r(q:Nat)(p:Int)(h s:ByteArray)(w:World)(hq:((q:Int)==0)=false)(hq2:((q:Int)==2)=true)(hqn:((q:Int) != 0)=true)(hqm:((q:Int) != 2)=false)(hk:(0:Int)≤q∧(q:Int)≤2)(hh:h.size≤128)(hs:s.size≤32)(hv:nvalid h=true)(hl:h.toList.isEmpty=true)(hn:s.toList.isEmpty=true)(hp:p<0∨4096<p):Calls Tryz.prog 57 #[.agg #[.int .i64 q,.string h,.string s,.int .i64 p]] w (RetSE (⟨#[]⟩,2) w):=by
 obtain⟨hk1,hk2⟩:=hk;rcases hp with hp | hp
 · skip;obtain⟨W0,HW0,HA0,hz,b0,b1,b2,b3⟩:=en_box w q p h s 47;have HV:=Hq hv;clear hv;go_enter Tryz.func57,Tryz.ntmps57;go_wp2_with fail;rw[HW0.out];refine(r01_Valid h (by omega) _).mono ?_;rintro e w1 ⟨rfl,rfl⟩;rw[HV.out];have d0:=b0;have d1:=b1;have d2:=b2;have d3:=b3;have hz2:=hz;have HA1:=HA0;clear b0 b1 b2 b3 HA0 HW0;go_wp2;go_ret2;exact⟨rfl,HA1.out⟩
 · skip;obtain⟨W0,HW0,HA0,hz,b0,b1,b2,b3⟩:=en_box w q p h s 47;have HV:=Hq hv;clear hv;go_enter Tryz.func57,Tryz.ntmps57;go_wp2_with fail;rw[HW0.out];refine(r01_Valid h (by omega) _).mono ?_;rintro e w1 ⟨rfl,rfl⟩;rw[HV.out];have d0:=b0;have d1:=b1;have d2:=b2;have d3:=b3;have hz2:=hz;have HA1:=HA0;clear b0 b1 b2 b3 HA0 HW0;go_wp2;go_ret2;exact⟨rfl,HA1.out⟩
theorem size_empty{s:ByteArray}{b:Bool}(h:s.toList.isEmpty=b):(s.size==0)=b:=by
 by_cases h0:s.size=0
 · rw[sempty_true h0]at h;rw[←h,h0];rfl
 · rw[sempty_false (by omega)]at h;rw[←h];simp[h0]
theorem name_size{s:ByteArray}(h:nameB s=true):s.size≤32:=by
 unfold nameB at h;simp only[Bool.and_eq_true,decide_eq_true_eq]at h;exact h.1.2
theorem valid_size{s:ByteArray}(h:nvalid s=true):s.size≤128:=by
 unfold nvalid at h;simp only[Bool.and_eq_true,decide_eq_true_eq]at h;exact h.1
theorem empty_size{s:ByteArray}(h:s.toList.isEmpty=true):s.size=0:=by
 have:=size_empty h;simpa using this
theorem en_cases(motive:En→Prop)
 (g0:∀(q p:Nat) (h s:ByteArray),q=0→nvalid h=true→lowB h=false→nameB s=true→p≤4096→h.size≤128→s.size≤32→msgS ⟨q,h,s,p⟩=encS (itE q h s p)→motive ⟨q,h,s,p⟩)
 (g1:∀(q p:Nat) (h s:ByteArray),q=1→nvalid h=true→lowB h=false→s.toList.isEmpty=true→p≤4096→h.size≤128→s.size≤32→msgS ⟨q,h,s,p⟩=encS (itE q h s p)→motive ⟨q,h,s,p⟩)
 (g2:∀(q p:Nat) (h s:ByteArray),q=2→nvalid h=true→h.toList.isEmpty=true→s.toList.isEmpty=true→p≤4096→h.size≤128→s.size≤32→msgS ⟨q,h,s,p⟩=encS (itE q h s p)→motive ⟨q,h,s,p⟩)
 (r0:∀(q:Nat) (p:Int) (h s:ByteArray),q=0→nvalid h=true→lowB h=false→nameB s=true→(p<0∨4096<p)→h.size≤128→s.size≤32→msgS ⟨q,h,s,p⟩=(⟨#[]⟩,2)→motive ⟨q,h,s,p⟩)
 (r1:∀(q:Nat) (p:Int) (h s:ByteArray),q=1→nvalid h=true→lowB h=false→s.toList.isEmpty=true→(p<0∨4096<p)→h.size≤128→s.size≤32→msgS ⟨q,h,s,p⟩=(⟨#[]⟩,2)→motive ⟨q,h,s,p⟩)
 (r2:∀(q:Nat) (p:Int) (h s:ByteArray),q=2→nvalid h=true→h.toList.isEmpty=true→s.toList.isEmpty=true→(p<0∨4096<p)→h.size≤128→s.size≤32→msgS ⟨q,h,s,p⟩=(⟨#[]⟩,2)→motive ⟨q,h,s,p⟩)
 (bad:∀(e:En),(nvalid e.handle=false∨nvalid e.handle=true∧(e.kind<0∨2<e.kind∨(e.kind=0∧(lowB e.handle=true∨lowB e.handle=false∧nameB e.schema=false)) ∨
  (e.kind=1∧(lowB e.handle=true∨lowB e.handle=false∧e.schema.toList.isEmpty=false))∨(e.kind=2∧(e.handle.toList.isEmpty=false∨e.handle.toList.isEmpty=true∧e.schema.toList.isEmpty=false))))→msgS e=(⟨#[]⟩,3)→motive e)
 (e:En):motive e:=by
 obtain⟨q,h,s,p⟩:=e;have split:∀(f:(p<0∨4096<p)→motive ⟨q,h,s,p⟩) (g:∀ p':Nat,p=p'→p'≤4096→motive ⟨q,h,s,p⟩),motive ⟨q,h,s,p⟩:=fun f g=>by
  by_cases h1:p<0
  · exact f (.inl h1)
  · by_cases h2:4096<p
    · exact f (.inr h2)
    · exact g p.toNat (by omega) (by omega)
 cases hv:nvalid h with
 | false=>exact bad _ (.inl hv) (by simp[msgS,formB,hv])
 | true =>
  have hh:=valid_size hv;by_cases k0:q=0
  · subst k0
    cases hl:lowB h with
    | true=>exact bad _ (.inr ⟨hv,.inr (.inr (.inl ⟨rfl,.inl hl⟩))⟩) (by simp[msgS,formB,hl])
    | false =>
     cases hn:nameB s with
     | false=>exact bad _ (.inr ⟨hv,.inr (.inr (.inl ⟨rfl,.inr ⟨hl,hn⟩⟩))⟩) (by simp[msgS,formB,hn])
     | true =>
      have hf:formB ⟨0,h,s,p⟩=true:=by simp[formB,hv,hl,hn]
      have hs:=name_size hn;refine split (fun hp=>?_) (fun p' e hp=>?_)
      · exact r0 0 p h s rfl hv hl hn hp hh hs (by unfold msgS;rw[show formB ⟨((0:Nat):Int),h,s,p⟩=true from hf,if_neg (by simp),if_pos hp])
      · subst e;exact g0 0 p' h s rfl hv hl hn hp hh hs (by unfold msgS;rw[show formB ⟨((0:Nat):Int),h,s,(p':Int)⟩=true from hf,if_neg (by simp),if_neg (by simp;omega)];rfl)
  · by_cases k1:q=1
    · subst k1
      cases hl:lowB h with
      | true=>exact bad _ (.inr ⟨hv,.inr (.inr (.inr (.inl ⟨rfl,.inl hl⟩)))⟩) (by simp[msgS,formB,hl])
      | false =>
       cases hn:s.toList.isEmpty with
       | false=>exact bad _ (.inr ⟨hv,.inr (.inr (.inr (.inl ⟨rfl,.inr ⟨hl,hn⟩⟩)))⟩) (by simp[msgS,formB,size_empty hn])
       | true =>
        have hf:formB ⟨1,h,s,p⟩=true:=by simp[formB,hv,hl,size_empty hn]
        have hs:s.size≤32:=by rw[empty_size hn];omega
        refine split (fun hp=>?_) (fun p' e hp=>?_)
        · exact r1 1 p h s rfl hv hl hn hp hh hs (by unfold msgS;rw[show formB ⟨((1:Nat):Int),h,s,p⟩=true from hf,if_neg (by simp),if_pos hp])
        · subst e;exact g1 1 p' h s rfl hv hl hn hp hh hs (by unfold msgS;rw[show formB ⟨((1:Nat):Int),h,s,(p':Int)⟩=true from hf,if_neg (by simp),if_neg (by simp;omega)];rfl)
    · by_cases k2:q=2
      · subst k2
        cases hl:h.toList.isEmpty with
        | false=>exact bad _ (.inr ⟨hv,.inr (.inr (.inr (.inr ⟨rfl,.inl hl⟩)))⟩) (by simp[msgS,formB,size_empty hl])
        | true =>
         cases hn:s.toList.isEmpty with
         | false=>exact bad _ (.inr ⟨hv,.inr (.inr (.inr (.inr ⟨rfl,.inr ⟨hl,hn⟩⟩)))⟩) (by simp[msgS,formB,size_empty hn])
         | true =>
          have hf:formB ⟨2,h,s,p⟩=true:=by simp[formB,hv,size_empty hl,size_empty hn]
          have hs:s.size≤32:=by rw[empty_size hn];omega
          refine split (fun hp=>?_) (fun p' e hp=>?_)
          · exact r2 2 p h s rfl hv hl hn hp hh hs (by unfold msgS;rw[show formB ⟨((2:Nat):Int),h,s,p⟩=true from hf,if_neg (by simp),if_pos hp])
          · subst e;exact g2 2 p' h s rfl hv hl hn hp hh hs (by unfold msgS;rw[show formB ⟨((2:Nat):Int),h,s,(p':Int)⟩=true from hf,if_neg (by simp),if_neg (by simp;omega)];rfl)
      · refine bad _ (.inr ⟨hv,?_⟩) (by simp[msgS,formB,k0,k1,k2]);by_cases hq:q<0
        · exact .inl hq
        · exact .inr (.inl (by show 2<q;omega))
theorem eqI{a b:Int}(h:a=b):(a==b)=true:=beq_iff_eq.2 h
theorem neI{a b:Int}(h:a≠b):(a==b)=false:=beq_eq_false_iff_ne.2 h
theorem bnT{a b:Int}(h:a≠b):(a != b)=true:=bne_iff_ne.2 h
theorem led_Message(e:En)(w:World)(hh:e.handle.size≤9223372036854775807)(hs:e.schema.size≤9223372036854775807):Calls Tryz.prog 10 #[e.val] w (RetSE (msgS e) w):=by
 revert hh hs
 refine en_cases (fun e=>e.handle.size≤9223372036854775807→e.schema.size≤9223372036854775807→Calls Tryz.prog 10 #[e.val] w (RetSE (msgS e) w)) ?_ ?_ ?_ ?_ ?_ ?_ ?_ e
 · intro q p h s k hv hl hn hp hh hs hm _ _;rw[hm];exact led_Message_0 q p h s w (eqI (by omega)) hh hs hv hl hn (by omega) hp
 · intro q p h s k hv hl hn hp hh hs hm _ _;rw[hm];exact led_Message_1 q p h s w (neI (by omega)) (eqI (by omega)) hh hs hv hl hn (by omega) hp
 · intro q p h s k hv hl hn hp hh hs hm _ _;rw[hm];exact led_Message_2 q p h s w (neI (by omega)) (neI (by omega)) (eqI (by omega)) hh hs hv hl hn (by omega) hp
 · intro q p h s k hv hl hn hp hh hs hm _ _;rw[hm];exact led_Message_0r q p h s w (eqI (by omega)) hh hs hv hl hn hp
 · intro q p h s k hv hl hn hp hh hs hm _ _;rw[hm];exact led_Message_1r q p h s w (neI (by omega)) (eqI (by omega)) hh hs hv hl hn hp
 · intro q p h s k hv hl hn hp hh hs hm _ _;rw[hm];exact led_Message_2r q p h s w (neI (by omega)) (neI (by omega)) (eqI (by omega)) hh hs hv hl hn hp
 · rintro⟨q,h,s,p⟩ hb hm hh hs;simp only at hb hh hs;rw[hm];by_cases k0:q=0
   · rcases hb with hv | ⟨hv,hb⟩
     · exact led_Message_0vb q p h s w hh hs (eqI k0) hv
     · rcases hb with hb | hb | ⟨_,hl | ⟨hl,hn⟩⟩ | ⟨hb,_⟩ | ⟨hb,_⟩
       · omega
       · omega
       · exact led_Message_0lb q p h s w hh hs (eqI k0) hv hl
       · exact led_Message_0nb q p h s w hh hs (eqI k0) hv hl hn
       · omega
       · omega
   · by_cases k1:q=1
     · rcases hb with hv | ⟨hv,hb⟩
       · exact led_Message_1vb q p h s w hh hs (neI k0) (eqI k1) hv
       · rcases hb with hb | hb | ⟨hb,_⟩ | ⟨_,hl | ⟨hl,hn⟩⟩ | ⟨hb,_⟩
         · omega
         · omega
         · omega
         · exact led_Message_1lb q p h s w hh hs (neI k0) (eqI k1) hv hl
         · exact led_Message_1nb q p h s w hh hs (neI k0) (eqI k1) hv hl hn
         · omega
     · by_cases k2:q=2
       · rcases hb with hv | ⟨hv,hb⟩
         · exact led_Message_2vb q p h s w hh hs (neI k0) (neI k1) (eqI k2) hv
         · rcases hb with hb | hb | ⟨hb,_⟩ | ⟨hb,_⟩ | ⟨_,hl | ⟨hl,hn⟩⟩
           · omega
           · omega
           · omega
           · omega
           · exact led_Message_2hb q p h s w hh hs (neI k0) (neI k1) (eqI k2) hv hl
           · exact led_Message_2sb q p h s w hh hs (neI k0) (neI k1) (eqI k2) hv hl hn
       · rcases hb with hv | ⟨hv,hb⟩
         · exact led_Message_3fb q p h s w hh hs (neI k0) (neI k1) (neI k2) hv
         · exact led_Message_3tb q p h s w hh hs (neI k0) (neI k1) (neI k2) hv
theorem r57_Message(e:En)(w:World)(hh:e.handle.size≤9223372036854775807)(hs:e.schema.size≤9223372036854775807):Calls Tryz.prog 57 #[e.val] w (RetSE (msgS e) w):=by
 revert hh hs
 refine en_cases (fun e=>e.handle.size≤9223372036854775807→e.schema.size≤9223372036854775807→Calls Tryz.prog 57 #[e.val] w (RetSE (msgS e) w)) ?_ ?_ ?_ ?_ ?_ ?_ ?_ e
 · intro q p h s k hv hl hn hp hh hs hm _ _;rw[hm];exact r57_Message_0 q p h s w (eqI (by omega)) (neI (by omega)) (bne_false (by omega)) (bnT (by omega)) ⟨by omega,by omega⟩ hh hs hv hl hn hp
 · intro q p h s k hv hl hn hp hh hs hm _ _;rw[hm];exact r57_Message_1 q p h s w (neI (by omega)) (neI (by omega)) (bnT (by omega)) (bnT (by omega)) ⟨by omega,by omega⟩ hh hs hv hl hn hp
 · intro q p h s k hv hl hn hp hh hs hm _ _;rw[hm];exact r57_Message_2 q p h s w (neI (by omega)) (eqI (by omega)) (bnT (by omega)) (bne_false (by omega)) ⟨by omega,by omega⟩ hh hs hv hl hn hp
 · intro q p h s k hv hl hn hp hh hs hm _ _;rw[hm];exact r57_Message_0r q p h s w (eqI (by omega)) (neI (by omega)) (bne_false (by omega)) (bnT (by omega)) ⟨by omega,by omega⟩ hh hs hv hl hn hp
 · intro q p h s k hv hl hn hp hh hs hm _ _;rw[hm];exact r57_Message_1r q p h s w (neI (by omega)) (neI (by omega)) (bnT (by omega)) (bnT (by omega)) ⟨by omega,by omega⟩ hh hs hv hl hn hp
 · intro q p h s k hv hl hn hp hh hs hm _ _;rw[hm];exact r57_Message_2r q p h s w (neI (by omega)) (eqI (by omega)) (bnT (by omega)) (bne_false (by omega)) ⟨by omega,by omega⟩ hh hs hv hl hn hp
 · rintro⟨q,h,s,p⟩ hb hm hh hs;simp only at hb hh hs;rw[hm];rcases hb with hv | ⟨hv,hb⟩
   · exact r57_Message_vb q p h s w hh hs hv
   · rcases hb with hb | hb | ⟨k,hl | ⟨hl,hn⟩⟩ | ⟨k,hl | ⟨hl,hn⟩⟩ | ⟨k,hl | ⟨hl,hn⟩⟩
     · exact r57_Message_knb q p h s w hh hs hb hv
     · exact r57_Message_kbb q p h s w hh hs (by omega) hb hv
     · exact r57_Message_0lb q p h s w hh hs (eqI k) (neI (by omega)) (bne_false k) (bnT (by omega)) ⟨by omega,by omega⟩ hv hl
     · exact r57_Message_0nb q p h s w hh hs (eqI k) (neI (by omega)) (bne_false k) (bnT (by omega)) ⟨by omega,by omega⟩ hv hl hn
     · exact r57_Message_1lb q p h s w hh hs (neI (by omega)) (neI (by omega)) (bnT (by omega)) (bnT (by omega)) ⟨by omega,by omega⟩ hv hl
     · exact r57_Message_1sb q p h s w hh hs (neI (by omega)) (neI (by omega)) (bnT (by omega)) (bnT (by omega)) ⟨by omega,by omega⟩ hv hl hn
     · exact r57_Message_2hb q p h s w hh hs (neI (by omega)) (eqI k) (bnT (by omega)) (bne_false k) ⟨by omega,by omega⟩ hv hl
     · exact r57_Message_2sb q p h s w hh hs (neI (by omega)) (eqI k) (bnT (by omega)) (bne_false k) ⟨by omega,by omega⟩ hv hl hn
def EnCells(w:World)(b o:Nat)(e:En):Prop:=w.cell? ⟨b,o,none⟩=some (.int .i64 e.kind)∧w.cell? ⟨b,o+1,none⟩=some (.string e.handle)∧w.cell? ⟨b,o+2,none⟩=some (.string e.schema)∧w.cell? ⟨b,o+3,none⟩=some (.int .i64 e.epoch)
def SlE(w:World)(A:Option Addr)(len cap:Nat)(l:List En):Prop:=
 l.length=len∧len≤cap∧cap≤9223372036854775807∧∃ b o,(0<len→A=some ⟨b,o,none⟩)∧∀ k e,l[k]? =some e→EnCells w b (o+k * 4) e
theorem EnCells.kept{B:Nat}{w w':World}(hb:Below B w w')(hB:w.heap.size≤B){b o:Nat}{e:En}(h:EnCells w b o e):EnCells w' b o e:=
 ⟨cell_kept hb hB h.1,cell_kept hb hB h.2.1,cell_kept hb hB h.2.2.1,cell_kept hb hB h.2.2.2⟩
theorem SlE.kept{B:Nat}{w w':World}(hb:Below B w w')(hB:w.heap.size≤B){A:Option Addr}{len cap:Nat}{l:List En}(h:SlE w A len cap l):SlE w' A len cap l:=
 let ⟨h1,h2,h3,b,o,h4,h5⟩:=h
 ⟨h1,h2,h3,b,o,h4,fun k e hk=>(h5 k e hk).kept hb hB⟩
theorem SlE.head{w:World}{A:Option Addr}{len cap:Nat}{l:List En}(h:SlE w A len cap l)(h0:0<len):∃ b o,A=some ⟨b,o,none⟩:=
 let ⟨_,_,_,b,o,h4,_⟩:=h
 ⟨b,o,h4 h0⟩
theorem SlE.get?{w:World}{b o len cap:Nat}{l:List En}(h:SlE w (some ⟨b,o,none⟩) len cap l)(k:Nat){e:En}(hk:l[k]? =some e):EnCells w b (o+k * 4) e:=by
 obtain⟨h1,h2,h3,b',o',h4,h5⟩:=h;have hl:=(List.getElem?_eq_some_iff.1 hk).1;have:=h4 (by omega);simp only[Option.some.injEq,Addr.mk.injEq,and_true]at this;obtain⟨rfl,rfl⟩:=this;exact h5 k e hk
theorem SlE.take{w:World}{A:Option Addr}{len cap:Nat}{l:List En}(h:SlE w A len cap l)(n:Nat)(hn:n≤len):SlE w A n cap (l.take n):=by
 obtain⟨h1,h2,h3,b,o,h4,h5⟩:=h;refine⟨by rw[List.length_take];omega,by omega,h3,b,o,fun h=>h4 (by omega),fun k e hk=>?_⟩;rw[List.getElem?_take]at hk;split at hk
 · exact h5 k e hk
 · cases hk
def epochN(l:List En):Nat:=l.countP fun e=>e.kind==2
def hasB(l:List En)(q:Int)(u:ByteArray):Bool:=l.any fun e=>e.kind==q&&decide (e.handle=u)
theorem epochN_snoc{l:List En}{k:Nat}{e:En}(h:l[k]? =some e):epochN (l.take (k+1))=epochN (l.take k)+(if e.kind=2 then 1 else 0):=by
 unfold epochN;rw[take_snoc h,List.countP_append];simp[List.countP_cons,List.countP_nil]
theorem epochN_le(l:List En):epochN l≤l.length:=List.countP_le_length
theorem hasB_snoc{l:List En}{k:Nat}{e:En}{q:Int}{u:ByteArray}(h:l[k]? =some e):hasB (l.take (k+1)) q u=(hasB (l.take k) q u||(e.kind==q&&decide (e.handle=u))):=by
 unfold hasB;rw[take_snoc h,List.any_append];simp
set_option maxRecDepth 100000
set_option maxHeartbeats 1000000
def En.cells(e:En):List Value:=[.int .i64 e.kind,.string e.handle,.string e.schema,.int .i64 e.epoch]
def enVals:List En→List Value
 | []=>[]
 | e::l=>e.cells++enVals l
theorem enVals_append(l m:List En):enVals (l++m)=enVals l++enVals m:=by
 induction l with
 | nil=>rfl
 | cons e l ih=>simp[enVals,ih]
theorem enVals_length(l:List En):(enVals l).length=l.length * 4:=by
 induction l with
 | nil=>rfl
 | cons e l ih=>simp only[enVals,List.length_append,ih,List.length_cons,En.cells,List.length_nil];omega
theorem enVals_get:∀(l:List En) (k r:Nat) (e:En),l[k]? =some e→r<4→(enVals l)[k * 4+r]? =e.cells[r]?
 | [],k,r,e,h,_=>by simp at h
 | x::l,0,r,e,h,hr=>by
  simp only[List.getElem?_cons_zero,Option.some.injEq]at h;subst h;rw[enVals,Nat.zero_mul,Nat.zero_add,List.getElem?_append_left (by simp[En.cells];omega)]
 | x::l,k+1,r,e,h,hr=>by
  rw[List.getElem?_cons_succ]at h;have:=enVals_get l k r e h hr;rw[enVals,List.getElem?_append_right (by simp[En.cells];omega)];rw[←this];congr 1;simp only[En.cells,List.length_cons,List.length_nil];omega
theorem enVals_one(l:List En):∀ u∈enVals l,u.oneCell'=true:=by
 induction l with
 | nil=>intro u h;cases h
 | cons e l ih =>
  intro u h;rcases List.mem_append.1 h with h | h
  · simp only[En.cells,List.mem_cons,List.mem_nil_iff,or_false]at h;rcases h with rfl | rfl | rfl | rfl<;>rfl
  · exact ih u h
theorem SlE.cells{w:World}{ad:Addr}{len cap:Nat}{l:List En}(h:SlE w (some ad) len cap l):∀ j u,(enVals l)[j]? =some u→w.cell? (ad.add j)=some u:=by
 intro j u hj;have hlt:=(List.getElem?_eq_some_iff.1 hj).1;rw[enVals_length]at hlt;obtain⟨b,o,e⟩:=h.head (by have:=h.1;omega);cases e;obtain⟨e,he⟩:∃ e,l[j / 4]? =some e:=⟨_,List.getElem?_eq_getElem (by omega)⟩;have hc:=h.get? _ he;have hg:=enVals_get l (j / 4) (j%4) e he (by omega);rw[show j / 4 * 4+j%4=j from by omega,hj]at hg;rw[addr_add,show o+j=o+j / 4 * 4+j%4 from by omega];have h4:j%4<4:=by omega
 revert hg
 generalize j%4=r at h4
 match r,h4 with
 | 0,_=>intro hg;rw[hg];exact hc.1
 | 1,_=>intro hg;rw[hg];exact hc.2.1
 | 2,_=>intro hg;rw[hg];exact hc.2.2.1
 | 3,_=>intro hg;rw[hg];exact hc.2.2.2
theorem SlE.of_owns{w:World}{base:Nat}{T:TypeId}{v:Value}{n:Nat}{l:List En}(h:w.ownsRow base T 4 v n (enVals l)):l.length=n∧∃ A cap,v=.slice A n cap∧SlE w A n cap l:=by
 have hl:=h.1;rw[enVals_length]at hl;have hln:l.length=n:=by omega
 refine⟨hln,?_⟩;rcases h.2 with⟨hv,h0⟩ | ⟨g,cap,cur,hv,hb,hh,hc,hm,hs,ht⟩
 · subst h0;have : l=[]:=List.length_eq_zero_iff.1 hln;subst this;exact⟨none,0,hv,rfl,Nat.le_refl _,by omega,0,0,fun h=>by omega,fun k e h=>by simp at h⟩
 · refine⟨_,cap,hv,hln,hc,by unfold maxLen at hm;exact hm,g,0,fun _=>rfl,fun k e he=>?_⟩;have hcell:=h.cells (g:=g) (by rw[hv];rfl);have hx:∀ r,r<4→∀ u,e.cells[r]? =some u→w.cell? ⟨g,0+k * 4+r,none⟩=some u:=fun r hr u hu=>by
    have:=hcell (k * 4+r) u (by rw[enVals_get l k r e he hr];exact hu);rw[addr_add]at this;rw[show 0+k * 4+r=0+(k * 4+r)from by omega];exact this
   exact⟨hx 0 (by omega) _ rfl,hx 1 (by omega) _ rfl,hx 2 (by omega) _ rfl,hx 3 (by omega) _ rfl⟩
theorem SlE.nil(w:World)(cap:Nat)(h:cap≤9223372036854775807)(A:Option Addr):SlE w A 0 cap []:=⟨rfl,Nat.zero_le _,h,0,0,fun h=>by omega,fun k e h=>by simp at h⟩
def RetEs(l:List En)(k:IntKind)(f:Int)(w:World)(e:Ending)(w':World):Prop:=∃ A cap,e=.returned (.tuple #[.slice A l.length cap,.int k f])∧SlE w' A l.length cap l∧Below w.heap.size w w'
theorem RetEs.mk'{w w':World}{v:Value}{n B:Nat}{T:TypeId}{l:List En}{f:Int}(h:w'.ownsRow B T 4 v n (enVals l))(hb:Below w.heap.size w w'):RetEs l .i64 f w (.returned (.tuple #[v,.int .i64 f])) w':=by
 obtain⟨hl,A,cap,rfl,hs⟩:=SlE.of_owns h;subst hl;exact⟨A,cap,rfl,hs,hb⟩
theorem enVals_snoc(l:List En)(e:En):enVals l++e.cells=enVals (l++[e]):=by rw[enVals_append];simp[enVals]
theorem en_info:(Tryz.prog.info? 47).map (fun i=>(i.zero,i.size,i.bytes))=some (some (.agg #[.int .i64 0,.string ⟨#[]⟩,.string ⟨#[]⟩,.int .i64 0]),4,48):=by kernel_rfl
theorem cl_entries(l:List En)(A:Option Addr)(len cap:Nat)(w:World)(hs:SlE w A len cap l)(hlb:len≤1000000000000):Calls Tryz.prog 44 #[.slice A len cap] w (RetRow 47 4 len (enVals l) w):=by
 have hee:=fun(w:World) (a:Option Addr) (n c:Nat)=>Lib.run_eql_slice_nil (P:=Tryz.prog) w 27 47 a n c 0 0 Tryz.underlying27
 cases A with
 | none =>
  have h0:len=0:=by
   rcases Nat.eq_zero_or_pos len with h | h
   · exact h
   · obtain⟨b,o,e⟩:=hs.head h;cases e
  subst h0;have hl:l=[]:=List.length_eq_zero_iff.1 hs.1;subst hl;clear hs;go_enter Tryz.func44,Tryz.ntmps44;go_wp2;go_ret;exact⟨_,rfl,World.ownsRow_nil _ _ _ _,Below.refl _ _⟩
 | some ad =>
  have hcells:=hs.cells;have hvl:=enVals_length l;rw[hs.1]at hvl;have HC:=Hq hcells;have HV:=Hq hvl;have HO:=Hq (enVals_one l);obtain⟨i0,hi,hz0,hz1,hz2⟩:=info_parts en_info;clear hs hcells hvl;go_enter Tryz.func44,Tryz.ntmps44;go_wp2_with (at_builtin;refine wpList_append_own _ rfl (.tmp 5) (.tmp 6) 27 rfl w.heap.size 47 i0 _ 4 48 Tryz.underlying27 hi hz0 hz1 hz2 rfl (by decide) _ 0 [] rfl (World.ownsRow_made w _ _ nlr ?h0 ?h9) ad len cap (enVals l) rfl ?h1 ?h2 HO.out ?h4 ?h5 ?h6 ?_);case h0=>unfold maxLen;omega
  case h9=>rfl
  case h1=>exact HV.out
  case h2=>exact fun j u hj=>cell_kept (w:=w) ((blr).alloc nlr _) nlr (HC.out j u hj)
  case h4=>unfold maxLen;omega
  case h5=>omega
  case h6=>simp
  intro v' w' hown hgrow _;have hb:Below w.heap.size w w':=((blr).alloc nlr _).grown hgrow (by simp) (fun k e=>by simp only[Value.ownBlock,Option.some.injEq]at e;omega);have HOWN:=Hq hown;have HB:=Hq hb;clear hown hgrow hb;go_wp2;go_ret;exact⟨_,rfl,HOWN.out,HB.out⟩
end Go.Proofs.YtopmeciihijgiaaGreatDoor

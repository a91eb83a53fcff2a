import Derived.Test.YtkfgdcgmlobhfaaGreatQPeC
set_option linter.unusedVariables false
set_option linter.unusedSimpArgs false
namespace Go.Proofs.YtkfgdcgmlobhfaaGreat
set_option maxRecDepth 100000
set_option maxHeartbeats 4000000
open Go.RowKit
theorem zqt{n:Nat}(h:0<n):∃ k,∃ hk:k<(nS n).size,k+1=(nS n).size∧((nS n)[k]).toNat=n%256:=by
 have h0 : 0 < (nS n).size := by rcases Nat.eq_zero_or_pos (nS n).size with e | e; · have := zay.1 e; omega
                                 · exact e
 refine⟨(nS n).size - 1,by omega,by omega,?_⟩;rw[zgf n 0 _ (by omega) (by omega)];unfold dig;rw[Nat.pow_zero,Nat.div_one]
theorem zen(m:Nat)(hm:m<18446744073709551616)(w:World):Calls Tryz.prog 74 #[gV (nS m) (nS 0)] w (Ret (.int .i64 (if m%2=0∨m≤8 then 13 else 0)) w):=by
 have HV1:=Hq (zu (nS m) (by have:=zo hm;omega));have HV2:=Hq (zu (nS 0) (by decide));rw[zj.2 (zm hm)]at HV1;rw[zj.2 (by decide)]at HV2;have HCM:=Hq (jv (nS m) (nS 8) (by have:=zo hm;omega) (by decide));rw[xl,show nS 8=⟨#[8]⟩from by decide +kernel]at HCM;rw[xo]at HV2⊢;have HSZ:=Hq (zo hm);rcases Nat.eq_zero_or_pos m with h0 | h0
 · rw[if_pos (.inl (by omega))];rw[h0,xo]at HV1 HCM⊢;clear h0 hm HSZ;have he:=jf (a:=⟨#[]⟩) rfl;obtain⟨s,hs⟩:∃ s:ByteArray,⟨#[]⟩=s:=⟨_,rfl⟩;rw[hs]at HV1 HV2 HCM he⊢;clear hs;have HT:=Hq (show ∃ t,s=t from⟨_,rfl⟩);obtain⟨t,ht⟩:=HT.out;have HV2:=Hq (show ∀ w,Calls Tryz.prog 17 #[.string t] w (RetQ (.bool true) w)from by rw[←ht];exact HV2.out);have het:t.toList.isEmpty=true:=by rw[←ht];exact he
   unfold gV;rw[show (#[Value.string s,.string s]:Array Value)=#[.string s,.string t]from by rw[←ht]];clear ht HT;go_enter Tryz.func74,Tryz.ntmps74;have HX0:=Hq (Bx2.new w (.string s) (.string t) 24);have HB0:=Hq ((Below.refl w.heap.size w).alloc nlr (.cells #[.string s,.string t] 24));obtain⟨W0,hW0⟩:∃ W0,w.alloc (.cells #[.string s,.string t] 24)=W0:=⟨_,rfl⟩;rw[hW0]at HX0 HB0;have HW0:=Hq hW0;clear hW0;go_wp2_with fail;rw[HW0.out];refine(HV1.out _).mono ?_;rintro e w1 ⟨rfl,rfl⟩;have c0:=HX0.out.c0;have c1:=HX0.out.c1;go_wp2_with fail;refine(HV2.out _).mono ?_;rintro e w1 ⟨rfl,rfl⟩;go_wp2;go_ret;exact⟨rfl,HB0.out⟩
 · have he:=zy h0;have HLAST:=Hq (zqt h0);by_cases hodd:m%2=0
   · rw[if_pos (.inl hodd)];obtain⟨s,hs⟩:∃ s,nS m=s:=⟨_,rfl⟩;obtain⟨t,ht⟩:∃ t:ByteArray,⟨#[]⟩=t:=⟨_,rfl⟩;have het:t.toList.isEmpty=true:=by rw[←ht];exact jf rfl
     rw[ht]at HV2⊢;have hs8:=HSZ.out;rw[hs]at HV1 HCM he hs8 HLAST⊢;obtain⟨k,hk,hks,hkb⟩:=HLAST.out;have hix:((s.size:Int) - 1)=(k:Int):=by omega
     have hpar:(((s[k]).toNat:Int)%2==0)=true:=by
      rw[hkb];have : m%256%2=0:=by omega
      rw[beq_iff_eq];omega
     clear hs ht hkb hks hodd hm h0 HSZ HLAST;unfold gV;go_enter Tryz.func74,Tryz.ntmps74;have HX0:=Hq (Bx2.new w (.string s) (.string t) 24);have HB0:=Hq ((Below.refl w.heap.size w).alloc nlr (.cells #[.string s,.string t] 24));obtain⟨W0,hW0⟩:∃ W0,w.alloc (.cells #[.string s,.string t] 24)=W0:=⟨_,rfl⟩;rw[hW0]at HX0 HB0;have HW0:=Hq hW0;clear hW0;go_wp2_with fail;rw[HW0.out];refine(HV1.out _).mono ?_;rintro e w1 ⟨rfl,rfl⟩;have c0:=HX0.out.c0;have c1:=HX0.out.c1;go_wp2_with fail;refine(HV2.out _).mono ?_;rintro e w1 ⟨rfl,rfl⟩;go_wp2;go_ret;exact⟨rfl,HB0.out⟩
   · have HE:=Hq (show (if m%2=0∨m≤8 then(13:Int)else 0)=if m≤8 then 13 else 0 from by
      by_cases h:m≤8
      · rw[if_pos (.inr h),if_pos h]
      · rw[if_neg (by omega),if_neg h])
     rw[HE.out];by_cases h8:m≤8
     · have hg : cmpI m 8 ≤ 0 := by unfold cmpI; split; · decide
                                    · rw[if_neg (by omega)];decide
       obtain⟨c,hc⟩:∃ c,cmpI m 8=c:=⟨_,rfl⟩;rw[hc]at hg HCM;rw[if_pos h8];obtain⟨s,hs⟩:∃ s,nS m=s:=⟨_,rfl⟩;obtain⟨t,ht⟩:∃ t:ByteArray,⟨#[]⟩=t:=⟨_,rfl⟩;have het:t.toList.isEmpty=true:=by rw[←ht];exact jf rfl
       rw[ht]at HV2⊢;have hs8:=HSZ.out;rw[hs]at HV1 HCM he hs8 HLAST⊢;obtain⟨k,hk,hks,hkb⟩:=HLAST.out;have hix:((s.size:Int) - 1)=(k:Int):=by omega
       have hpar:(((s[k]).toNat:Int)%2==0)=false:=by
        rw[hkb];have : m%256%2=1:=by omega
        rw[beq_eq_false_iff_ne];omega
       clear hs ht hkb hks hodd hm h0 HSZ HLAST h8 hc HE;unfold gV;go_enter Tryz.func74,Tryz.ntmps74;have HX0:=Hq (Bx2.new w (.string s) (.string t) 24);have HB0:=Hq ((Below.refl w.heap.size w).alloc nlr (.cells #[.string s,.string t] 24));obtain⟨W0,hW0⟩:∃ W0,w.alloc (.cells #[.string s,.string t] 24)=W0:=⟨_,rfl⟩;rw[hW0]at HX0 HB0;have HW0:=Hq hW0;clear hW0;go_wp2_with fail;rw[HW0.out];refine(HV1.out _).mono ?_;rintro e w1 ⟨rfl,rfl⟩;have c0:=HX0.out.c0;have c1:=HX0.out.c1;go_wp2_with fail;refine(HV2.out _).mono ?_;rintro e w1 ⟨rfl,rfl⟩;go_wp2_with fail;refine(HCM.out _).mono ?_;rintro e w2 ⟨rfl,hb⟩;have HB2:=Hq (HB0.out.trans (hb.mono HB0.out.size));clear hb;go_wp2;go_ret;exact⟨rfl,HB2.out⟩
     · rw[show cmpI m 8=1 from by unfold cmpI;rw[if_neg (by omega),if_pos (by omega)]]at HCM;rw[if_neg h8];obtain⟨s,hs⟩:∃ s,nS m=s:=⟨_,rfl⟩;obtain⟨t,ht⟩:∃ t:ByteArray,⟨#[]⟩=t:=⟨_,rfl⟩;have het:t.toList.isEmpty=true:=by rw[←ht];exact jf rfl
       rw[ht]at HV2⊢;have hs8:=HSZ.out;rw[hs]at HV1 HCM he hs8 HLAST⊢;obtain⟨k,hk,hks,hkb⟩:=HLAST.out;have hix:((s.size:Int) - 1)=(k:Int):=by omega
       have hpar:(((s[k]).toNat:Int)%2==0)=false:=by
        rw[hkb];have : m%256%2=1:=by omega
        rw[beq_eq_false_iff_ne];omega
       clear hs ht hkb hks hodd hm h0 HSZ HLAST h8 HE;unfold gV;go_enter Tryz.func74,Tryz.ntmps74;have HX0:=Hq (Bx2.new w (.string s) (.string t) 24);have HB0:=Hq ((Below.refl w.heap.size w).alloc nlr (.cells #[.string s,.string t] 24));obtain⟨W0,hW0⟩:∃ W0,w.alloc (.cells #[.string s,.string t] 24)=W0:=⟨_,rfl⟩;rw[hW0]at HX0 HB0;have HW0:=Hq hW0;clear hW0;go_wp2_with fail;rw[HW0.out];refine(HV1.out _).mono ?_;rintro e w1 ⟨rfl,rfl⟩;have c0:=HX0.out.c0;have c1:=HX0.out.c1;go_wp2_with fail;refine(HV2.out _).mono ?_;rintro e w1 ⟨rfl,rfl⟩;go_wp2_with fail;refine(HCM.out _).mono ?_;rintro e w2 ⟨rfl,hb⟩;have HB2:=Hq (HB0.out.trans (hb.mono HB0.out.size));clear hb;go_wp2;go_ret;exact⟨rfl,HB2.out⟩
theorem zem(m o:Nat)(hm:m<18446744073709551616)(ho8:o<256 ^ 128)(ho:0<o)(w:World):Calls Tryz.prog 74 #[gV (nS m) (nS o)] w (Ret (.int .i64 (chkN m o)) w):=by
 rw[zcj ho];have HV1:=Hq (zu (nS m) (by have:=zo hm;omega));have HV2:=Hq (zu (nS o) (by have:=zf.2 ho8;omega));rw[zj.2 (zm hm)]at HV1;rw[zj.2 ho8]at HV2;have het:=zy ho;have HMI:=Hq (fun(h:1≤m)=>qy m 1 (by have:=zo hm;omega) h);rw[zhh]at HMI;have HOV:=Hq (zf2 (m - 1) o (by have:=zo (show m - 1<18446744073709551616 from by omega);omega) (by have:=zf.2 ho8;omega) ho);have hm1:=zjc m;have ho1:=zjc o;obtain⟨s,hs⟩:∃ s,nS m=s:=⟨_,rfl⟩;obtain⟨t,ht⟩:∃ t,nS o=t:=⟨_,rfl⟩;rcases Nat.eq_zero_or_pos m with h0 | h0
 · rw[if_pos (.inl (by omega))];have hes:s.toList.isEmpty=true:=by rw[←hs,h0];exact jf rfl
   rw[hs]at HV1⊢;rw[ht]at HV2 het⊢;clear HMI HOV hm1 ho1 hs ht h0 hm ho8 ho;unfold gV;go_enter Tryz.func74,Tryz.ntmps74;have HX0:=Hq (Bx2.new w (.string s) (.string t) 24);have HB0:=Hq ((Below.refl w.heap.size w).alloc nlr (.cells #[.string s,.string t] 24));obtain⟨W0,hW0⟩:∃ W0,w.alloc (.cells #[.string s,.string t] 24)=W0:=⟨_,rfl⟩;rw[hW0]at HX0 HB0;have HW0:=Hq hW0;clear hW0;go_wp2_with fail;rw[HW0.out];refine(HV1.out _).mono ?_;rintro e w1 ⟨rfl,rfl⟩;have c0:=HX0.out.c0;have c1:=HX0.out.c1;go_wp2_with fail;refine(HV2.out _).mono ?_;rintro e w1 ⟨rfl,rfl⟩;go_wp2;go_ret;exact⟨rfl,HB0.out⟩
 · have hes:=zy h0;rw[hs]at hes hm1;by_cases h1:m=1
   · rw[if_pos (.inl (by omega))];rw[decide_eq_true h1]at hm1;rw[hs]at HV1⊢;rw[ht]at HV2 het⊢;clear HMI HOV ho1 hs ht h0 hm ho8 ho h1;unfold gV;go_enter Tryz.func74,Tryz.ntmps74;have HX0:=Hq (Bx2.new w (.string s) (.string t) 24);have HB0:=Hq ((Below.refl w.heap.size w).alloc nlr (.cells #[.string s,.string t] 24));obtain⟨W0,hW0⟩:∃ W0,w.alloc (.cells #[.string s,.string t] 24)=W0:=⟨_,rfl⟩;rw[hW0]at HX0 HB0;have HW0:=Hq hW0;clear hW0;go_wp2_with fail;rw[HW0.out];refine(HV1.out _).mono ?_;rintro e w1 ⟨rfl,rfl⟩;have c0:=HX0.out.c0;have c1:=HX0.out.c1;go_wp2_with fail;refine(HV2.out _).mono ?_;rintro e w1 ⟨rfl,rfl⟩;go_wp2;go_ret;exact⟨rfl,HB0.out⟩
   · rw[decide_eq_false h1]at hm1;rw[ht]at ho1;by_cases h2:o=1
     · rw[if_pos (.inr (.inl h2))];rw[decide_eq_true h2]at ho1;rw[hs]at HV1⊢;rw[ht]at HV2 het⊢;clear HMI HOV hs ht h0 hm ho8 ho h1 h2;unfold gV;go_enter Tryz.func74,Tryz.ntmps74;have HX0:=Hq (Bx2.new w (.string s) (.string t) 24);have HB0:=Hq ((Below.refl w.heap.size w).alloc nlr (.cells #[.string s,.string t] 24));obtain⟨W0,hW0⟩:∃ W0,w.alloc (.cells #[.string s,.string t] 24)=W0:=⟨_,rfl⟩;rw[hW0]at HX0 HB0;have HW0:=Hq hW0;clear hW0;go_wp2_with fail;rw[HW0.out];refine(HV1.out _).mono ?_;rintro e w1 ⟨rfl,rfl⟩;have c0:=HX0.out.c0;have c1:=HX0.out.c1;go_wp2_with fail;refine(HV2.out _).mono ?_;rintro e w1 ⟨rfl,rfl⟩;go_wp2;go_ret;exact⟨rfl,HB0.out⟩
     · rw[decide_eq_false h2]at ho1;have HMI:=Hq (HMI.out h0);have her:(nS ((m - 1)%o)).toList.isEmpty=decide ((m - 1)%o=0):=by
        by_cases h:(m - 1)%o=0
        · rw[h,decide_eq_true rfl];exact jf rfl
        · rw[zy (Nat.pos_of_ne_zero h),decide_eq_false h]
       have HV:(if m≤1∨o=1∨¬ (m - 1)%o=0 then(13:Int)else 0)=if (m - 1)%o=0 then 0 else 13:=by
        by_cases h:(m - 1)%o=0
        · rw[if_neg (by omega),if_pos h]
        · rw[if_pos (.inr (.inr h)),if_neg h]
       rw[HV];obtain⟨l,hl⟩:∃ l,nS (m - 1)=l:=⟨_,rfl⟩;obtain⟨q,hq⟩:∃ q,nS ((m - 1) / o)=q:=⟨_,rfl⟩;obtain⟨r,hr⟩:∃ r,nS ((m - 1)%o)=r:=⟨_,rfl⟩;rw[hl]at HMI HOV;rw[hq,hr]at HOV;rw[hr]at her;rw[hs]at HV1 HMI⊢;rw[ht]at HV2 het HOV⊢;obtain⟨E,hE⟩:∃ E,(m - 1)%o=E:=⟨_,rfl⟩;rw[hE]at her⊢;clear hs ht h0 hm ho8 ho h1 h2 hl hq hr hE HV;unfold gV;by_cases hz:E=0
       · rw[if_pos hz];rw[decide_eq_true hz]at her;clear hz;go_enter Tryz.func74,Tryz.ntmps74;have HX0:=Hq (Bx2.new w (.string s) (.string t) 24);have HB0:=Hq ((Below.refl w.heap.size w).alloc nlr (.cells #[.string s,.string t] 24));obtain⟨W0,hW0⟩:∃ W0,w.alloc (.cells #[.string s,.string t] 24)=W0:=⟨_,rfl⟩;rw[hW0]at HX0 HB0;have HW0:=Hq hW0;clear hW0;go_wp2_with fail;rw[HW0.out];refine(HV1.out _).mono ?_;rintro e w1 ⟨rfl,rfl⟩;have c0:=HX0.out.c0;have c1:=HX0.out.c1;go_wp2_with fail;refine(HV2.out _).mono ?_;rintro e w1 ⟨rfl,rfl⟩;go_wp2;have d0:W0.drew.cell? ⟨w.heap.size,0,none⟩=some (.string s):=c0;have d1:W0.drew.cell? ⟨w.heap.size,1,none⟩=some (.string t):=c1;rename_i K9 hK9;refine jp ?_;refine zg 11 (Below (W0.drew).heap.size (W0.drew)) (by kernel_rfl) ?_;intro hD;refine rP 0 52 10 rfl hD blr ?_;clear hD;intro hD;refine rT 1 53 9 rfl hD blr (by intro w' hS';have e0:=kC hS' d0;have e1:=kC hS' d1;go_simp;with_reducible rfl) ?_;clear hD;intro hD;refine rP 3 55 8 rfl hD blr ?_;clear hD;intro hD;refine rT 4 56 7 rfl hD blr (by intro w' hS';have e0:=kC hS' d0;have e1:=kC hS' d1;go_simp;with_reducible rfl) ?_;clear hD;intro hD;simp only[Act.put,sqA,sqB,sqC];refine rO 2 6 rfl hD ?_;clear hD;intro K2 hK2;go_wp2_with fail;refine(HMI.out _).mono ?_;rintro e w2 ⟨rfl,hb⟩;have HB2:=Hq hb;clear hb;go_wp2;refine hK2 _ _ (by exact HB2.out) ?_;clear hK2;intro hS_9_2 hD;refine rO 5 5 rfl hD ?_;clear hD;intro K5 hK5;go_wp2_with fail;refine(HOV.out _).mono ?_;rintro e w5 ⟨rfl,hb⟩;have HB5:=Hq hb;clear hb;go_wp2;refine hK5 _ _ (by exact Below.trans hS_9_2 (Below.mono HB5.out (Below.size hS_9_2))) ?_;clear hK5;intro hS_9_5 hD;refine rP 6 51 4 rfl hD hS_9_5 ?_;clear hD;intro hD;refine rP 7 58 3 rfl hD hS_9_5 ?_;clear hD;intro hD;refine rP 8 59 2 rfl hD hS_9_5 ?_;clear hD;intro hD;simp only[Act.put,sqA,sqB,sqC];refine rO 9 1 rfl hD ?_;clear hD;intro K9 hK9;go_wp2;refine hK9 _ _ (by exact hS_9_5) ?_;clear hK9;intro hS_9_9 hD;refine rO 10 0 rfl hD ?_;clear hD;intro K10 hK10;go_wp2;refine hK10 _ _ (by exact hS_9_9) ?_;clear hK10;intro hS_9_10 hD;refine ze (by kernel_rfl) ?_ 0;clear hD;have HB9:=Hq (HB0.out.trans (((Below.refl W0.heap.size W0).drew.trans hS_9_10).mono HB0.out.size));refine hK9 _ _ ?_;go_wp2;go_ret;exact⟨rfl,HB9.out⟩
       · rw[if_neg hz];rw[decide_eq_false hz]at her;clear hz;go_enter Tryz.func74,Tryz.ntmps74;have HX0:=Hq (Bx2.new w (.string s) (.string t) 24);have HB0:=Hq ((Below.refl w.heap.size w).alloc nlr (.cells #[.string s,.string t] 24));obtain⟨W0,hW0⟩:∃ W0,w.alloc (.cells #[.string s,.string t] 24)=W0:=⟨_,rfl⟩;rw[hW0]at HX0 HB0;have HW0:=Hq hW0;clear hW0;go_wp2_with fail;rw[HW0.out];refine(HV1.out _).mono ?_;rintro e w1 ⟨rfl,rfl⟩;have c0:=HX0.out.c0;have c1:=HX0.out.c1;go_wp2_with fail;refine(HV2.out _).mono ?_;rintro e w1 ⟨rfl,rfl⟩;go_wp2;have d0:W0.drew.cell? ⟨w.heap.size,0,none⟩=some (.string s):=c0;have d1:W0.drew.cell? ⟨w.heap.size,1,none⟩=some (.string t):=c1;rename_i K9 hK9;refine jp ?_;refine zg 11 (Below (W0.drew).heap.size (W0.drew)) (by kernel_rfl) ?_;intro hD;refine rP 0 52 10 rfl hD blr ?_;clear hD;intro hD;refine rT 1 53 9 rfl hD blr (by intro w' hS';have e0:=kC hS' d0;have e1:=kC hS' d1;go_simp;with_reducible rfl) ?_;clear hD;intro hD;refine rP 3 55 8 rfl hD blr ?_;clear hD;intro hD;refine rT 4 56 7 rfl hD blr (by intro w' hS';have e0:=kC hS' d0;have e1:=kC hS' d1;go_simp;with_reducible rfl) ?_;clear hD;intro hD;simp only[Act.put,sqA,sqB,sqC];refine rO 2 6 rfl hD ?_;clear hD;intro K2 hK2;go_wp2_with fail;refine(HMI.out _).mono ?_;rintro e w2 ⟨rfl,hb⟩;have HB2:=Hq hb;clear hb;go_wp2;refine hK2 _ _ (by exact HB2.out) ?_;clear hK2;intro hS_9_2 hD;refine rO 5 5 rfl hD ?_;clear hD;intro K5 hK5;go_wp2_with fail;refine(HOV.out _).mono ?_;rintro e w5 ⟨rfl,hb⟩;have HB5:=Hq hb;clear hb;go_wp2;refine hK5 _ _ (by exact Below.trans hS_9_2 (Below.mono HB5.out (Below.size hS_9_2))) ?_;clear hK5;intro hS_9_5 hD;refine rP 6 51 4 rfl hD hS_9_5 ?_;clear hD;intro hD;refine rP 7 58 3 rfl hD hS_9_5 ?_;clear hD;intro hD;refine rP 8 59 2 rfl hD hS_9_5 ?_;clear hD;intro hD;simp only[Act.put,sqA,sqB,sqC];refine rO 9 1 rfl hD ?_;clear hD;intro K9 hK9;go_wp2;refine hK9 _ _ (by exact hS_9_5) ?_;clear hK9;intro hS_9_9 hD;refine rO 10 0 rfl hD ?_;clear hD;intro K10 hK10;go_wp2;refine hK10 _ _ (by exact hS_9_9) ?_;clear hK10;intro hS_9_10 hD;refine ze (by kernel_rfl) ?_ 0;clear hD;have HB9:=Hq (HB0.out.trans (((Below.refl W0.heap.size W0).drew.trans hS_9_10).mono HB0.out.size));refine hK9 _ _ ?_;go_wp2;go_ret;exact⟨rfl,HB9.out⟩
theorem zl2(M O:ByteArray)(hM:M.size≤8)(hO:O.size≤100)(w:World):Calls Tryz.prog 50 #[gV M O] w (Ret (.int .i64 (chkK M O)) w):=by
 unfold chkK
 cases hv:(zd M&&zd O)with
 | false=>exact zg9 M O (by omega) (by omega) hv w
 | true =>
  rw[if_pos rfl];simp only[Bool.and_eq_true]at hv;have e1:=jm hv.1;have e2:=jm hv.2;have hm:=jr hM;have ho:=ze7 (s:=O) (by omega);rcases Nat.eq_zero_or_pos (num O)with h0 | h0
  · have:=zf4 (num M) hm w;rw[show nS 0=O from by rw[←h0,←e2],←e1]at this;unfold chkN;rw[if_pos h0];exact this
  · have:=zf3 (num M) (num O) hm ho h0 w;rw[←e1,←e2]at this;exact this
theorem zkj(M O:ByteArray)(hM:M.size≤8)(hO:O.size≤100)(w:World):Calls Tryz.prog 74 #[gV M O] w (Ret (.int .i64 (chkK M O)) w):=by
 unfold chkK
 cases hv:(zd M&&zd O)with
 | false=>exact zfs M O (by omega) (by omega) hv w
 | true =>
  rw[if_pos rfl];simp only[Bool.and_eq_true]at hv;have e1:=jm hv.1;have e2:=jm hv.2;have hm:=jr hM;have ho:=ze7 (s:=O) (by omega);rcases Nat.eq_zero_or_pos (num O)with h0 | h0
  · have:=zen (num M) hm w;rw[show nS 0=O from by rw[←h0,←e2],←e1]at this;unfold chkN;rw[if_pos h0];exact this
  · have:=zem (num M) (num O) hm ho h0 w;rw[←e1,←e2]at this;exact this
theorem zf5(M O:ByteArray)(hM:M.size≤8)(hO:O.size≤8)(w:World):Calls Tryz.prog 50 #[gV M O] w (Ret (.int .i64 (chkK M O)) w):=zl2 M O hM (by omega) w
theorem zb3(M O:ByteArray)(hM:M.size≤8)(hO:O.size≤8)(w:World):Calls Tryz.prog 74 #[gV M O] w (Ret (.int .i64 (chkK M O)) w):=zkj M O hM (by omega) w
set_option maxRecDepth 100000
set_option maxHeartbeats 2000000
def hasN(m o x:Nat):Bool:=decide (0<x∧x<m∧(if o=0 then Nat.gcd x m=1 else x ^ o%m=1))
theorem zmm{m o x:Nat}(hm:m<256 ^ 128)(ho8:o<256 ^ 128)(hx:x<256 ^ 128)(ho:0<o):hasG (nS m) (nS o) (nS x)=hasN m o x:=by
 have e:hasP (nS m) (nS o) (nS x)↔(0<x∧x<m∧(if o=0 then Nat.gcd x m=1 else x ^ o%m=1)):=(by unfold hasP;rw[qc,qc,qc,if_neg (by omega)];exact⟨fun h=>h.2.2.2.2,fun h=>⟨zj.2 hm,zj.2 ho8,zj.2 hx,ho,h⟩⟩);exact decide_eq_decide.2 e
theorem zp3(m x:Nat)(hm:m<18446744073709551616)(hodd:bitB m 0=true)(h8:8<m)(hx:x<256 ^ 128)(w:World):Calls Tryz.prog 162 #[gV (nS m) (nS 0),.string (nS x)] w (Ret (.bool (hasN m 0 x)) w):=by
 have HGD:=Hq (znp m hm hodd h8);have HV:=Hq (zn (nS x) (by have:=zf.2 hx;omega));rw[zj.2 hx]at HV;have HCM:=Hq (qp (nS x) (nS m) (by have:=zf.2 hx;omega) (by have:=zo hm;omega));rw[ze8 hx (zm hm)]at HCM;have HGC:=Hq (fun(h:x<m)=>zqr x m (by omega) hm);have HB1:=Hq (fun n=>zhi n 1);have HON:=Hq zp2;unfold gV at *;by_cases h0:x=0
 · have hr:hasN m 0 x=false:=decide_eq_false (fun h=>by have:=h.1;omega);rw[hr];have hem:(nS x).toList.isEmpty=true:=by rw[h0];exact jf rfl
   obtain⟨s,hs⟩:∃ s,nS m=s:=⟨_,rfl⟩;obtain⟨t,ht⟩:∃ t,nS 0=t:=⟨_,rfl⟩;obtain⟨u,hu⟩:∃ u,nS x=u:=⟨_,rfl⟩;rw[hs,ht]at HGD;rw[hu]at HV hem;rw[hs,ht,hu];clear hs ht hu hm hodd h8 hx HCM HGC h0 hr;go_enter Tryz.func162,Tryz.ntmps162;have HX0:=Hq (Bx2.new w (.string s) (.string t) 24);have HB0:=Hq ((Below.refl w.heap.size w).alloc nlr (.cells #[.string s,.string t] 24));obtain⟨W0,hW0⟩:∃ W0,w.alloc (.cells #[.string s,.string t] 24)=W0:=⟨_,rfl⟩;rw[hW0]at HX0 HB0;have HW0:=Hq hW0;clear hW0;go_wp2_with fail;rw[HW0.out];refine(HGD.out _).mono ?_;rintro e w1 ⟨rfl,hb⟩;have HB1:=Hq (HB0.out.trans (hb.mono HB0.out.size));clear hb;go_wp2_with fail;refine(HV.out _).mono ?_;rintro e w2 ⟨rfl,rfl⟩;go_wp2;go_ret;exact⟨rfl,HB1.out⟩
 · have hem:=zy (n:=x) (by omega);by_cases hxm:m≤x
   · have hr:hasN m 0 x=false:=decide_eq_false (fun h=>by have:=h.2.1;omega);rw[hr];have hg:=jl hxm;obtain⟨c,hc⟩:∃ c,cmpI x m=c:=⟨_,rfl⟩;rw[hc]at hg HCM;obtain⟨s,hs⟩:∃ s,nS m=s:=⟨_,rfl⟩;obtain⟨t,ht⟩:∃ t,nS 0=t:=⟨_,rfl⟩;obtain⟨u,hu⟩:∃ u,nS x=u:=⟨_,rfl⟩;rw[hs,ht]at HGD;rw[hu]at HV hem;rw[hs,hu]at HCM;rw[hs,ht,hu];clear hs ht hu hm hodd h8 hx HGC h0 hr hxm hc;go_enter Tryz.func162,Tryz.ntmps162;have HX0:=Hq (Bx2.new w (.string s) (.string t) 24);have HB0:=Hq ((Below.refl w.heap.size w).alloc nlr (.cells #[.string s,.string t] 24));obtain⟨W0,hW0⟩:∃ W0,w.alloc (.cells #[.string s,.string t] 24)=W0:=⟨_,rfl⟩;rw[hW0]at HX0 HB0;have HW0:=Hq hW0;clear hW0;go_wp2_with fail;rw[HW0.out];refine(HGD.out _).mono ?_;rintro e w1 ⟨rfl,hb⟩;have HB1:=Hq (HB0.out.trans (hb.mono HB0.out.size));have HX1:=HX0.out.next hb;have c0:=HX1.c0;have c1:=HX1.c1;clear hb HX1;go_wp2_with fail;refine(HV.out _).mono ?_;rintro e w2 ⟨rfl,rfl⟩;go_wp2_with fail;refine(HCM.out _).mono ?_;rintro e w2 ⟨rfl,rfl⟩;go_wp2;go_ret;exact⟨rfl,HB1.out⟩
   · have hr:hasN m 0 x=decide (Nat.gcd x m=1):=decide_eq_decide.2 ⟨fun h=>by have:=h.2.2;rwa[if_pos rfl]at this,fun h=>⟨by omega,by omega,by rw[if_pos rfl];exact h⟩⟩;rw[hr,←HB1.out];have hg:cmpI x m<0:=by unfold cmpI;rw[if_pos (by omega)];decide
     obtain⟨c,hc⟩:∃ c,cmpI x m=c:=⟨_,rfl⟩;rw[hc]at hg HCM;have HGC:=Hq (HGC.out (by omega));obtain⟨s,hs⟩:∃ s,nS m=s:=⟨_,rfl⟩;obtain⟨t,ht⟩:∃ t,nS 0=t:=⟨_,rfl⟩;obtain⟨u,hu⟩:∃ u,nS x=u:=⟨_,rfl⟩;obtain⟨d,hd⟩:∃ d,nS (Nat.gcd x m)=d:=⟨_,rfl⟩;obtain⟨one,hone⟩:∃ d,nS 1=d:=⟨_,rfl⟩;rw[hs,ht]at HGD;rw[hu]at HV hem;rw[hs,hu]at HCM;rw[hs,hu,hd]at HGC;rw[hone]at HON;rw[hs,ht,hu,hd,hone];clear hs ht hu hd hone hm hodd h8 hx h0 hr hxm hc HB1;go_enter Tryz.func162,Tryz.ntmps162;have HX0:=Hq (Bx2.new w (.string s) (.string t) 24);have HB0:=Hq ((Below.refl w.heap.size w).alloc nlr (.cells #[.string s,.string t] 24));obtain⟨W0,hW0⟩:∃ W0,w.alloc (.cells #[.string s,.string t] 24)=W0:=⟨_,rfl⟩;rw[hW0]at HX0 HB0;have HW0:=Hq hW0;clear hW0;go_wp2_with fail;rw[HW0.out];refine(HGD.out _).mono ?_;rintro e w1 ⟨rfl,hb⟩;have HB1:=Hq (HB0.out.trans (hb.mono HB0.out.size));have HX1:=HX0.out.next hb;have c0:=HX1.c0;have c1:=HX1.c1;clear hb HX1;go_wp2_with fail;refine(HV.out _).mono ?_;rintro e w2 ⟨rfl,rfl⟩;go_wp2_with fail;refine(HCM.out _).mono ?_;rintro e w2 ⟨rfl,rfl⟩;go_wp2_with fail;refine(HGC.out _).mono ?_;rintro e w3 ⟨rfl,hb⟩;have HB3:=Hq (HB1.out.trans (hb.mono HB1.out.size));clear hb c0 c1;go_wp2_with fail;refine(HON.out _).mono ?_;rintro e w4 ⟨rfl,hb⟩;have HB4:=Hq (HB3.out.trans (hb.mono HB3.out.size));clear hb;go_wp2;go_ret;exact⟨rfl,HB4.out⟩
theorem zef{m:Nat}(h:chkN m 0=0):bitB m 0=true∧8<m:=by
 unfold chkN at h;rw[if_pos rfl]at h;rw[bit0];by_cases hh:m%2=0∨m≤8
 · rw[if_pos hh]at h;cases h
 · exact⟨decide_eq_true (by omega),by omega⟩
theorem zo9(m o x:Nat)(hm:m<18446744073709551616)(ho8:o<18446744073709551616)(hc:chkN m o=0)(hx:x<256 ^ 128)(w:World):Calls Tryz.prog 103 #[gV (nS m) (nS o),.string (nS x)] w (Ret (.bool (hasN m o x)) w):=by
 have hsm:=zo hm;have hso:=zo ho8;have hsx:=zf.2 hx;rcases Nat.eq_zero_or_pos o with h0 | h0
 · subst h0;obtain⟨g1,g2⟩:=zef hc;have HH:=Hq (zp3 m x hm g1 g2 hx);have he:(nS 0).toList.isEmpty=true:=jf rfl;obtain⟨r,hr⟩:∃ r,hasN m 0 x=r:=⟨_,rfl⟩;obtain⟨s,hs⟩:∃ s,nS m=s:=⟨_,rfl⟩;obtain⟨t,ht⟩:∃ t,nS 0=t:=⟨_,rfl⟩;obtain⟨u,hu⟩:∃ u,nS x=u:=⟨_,rfl⟩;rw[hs,ht,hu,hr]at HH;rw[ht]at he;rw[hs,ht,hu,hr];clear hs ht hu hr hm ho8 hc hx hsm hso hsx g1 g2;unfold gV at *;go_enter Tryz.func103,Tryz.ntmps103;have HX0:=Hq (Bx2.new w (.string s) (.string t) 24);have HB0:=Hq ((Below.refl w.heap.size w).alloc nlr (.cells #[.string s,.string t] 24));obtain⟨W0,hW0⟩:∃ W0,w.alloc (.cells #[.string s,.string t] 24)=W0:=⟨_,rfl⟩;rw[hW0]at HX0 HB0;have HW0:=Hq hW0;clear hW0;go_wp2_with fail;rw[HW0.out];refine(HH.out _).mono ?_;rintro e w1 ⟨rfl,hb⟩;have HB1:=Hq (HB0.out.trans (hb.mono HB0.out.size));clear hb;go_wp2;go_ret;exact⟨rfl,HB1.out⟩
 · have HH:=Hq (zrz (nS m) (nS o) (nS x) hsm (by omega) (by omega));rw[zmm (zm hm) (zm ho8) hx h0]at HH;have he:=zy h0;obtain⟨r,hr⟩:∃ r,hasN m o x=r:=⟨_,rfl⟩;obtain⟨s,hs⟩:∃ s,nS m=s:=⟨_,rfl⟩;obtain⟨t,ht⟩:∃ t,nS o=t:=⟨_,rfl⟩;obtain⟨u,hu⟩:∃ u,nS x=u:=⟨_,rfl⟩;rw[hs,ht,hu,hr]at HH;rw[ht]at he;rw[hs,ht,hu,hr];clear hs ht hu hr hm ho8 hc hx hsm hso hsx h0;unfold gV at *;go_enter Tryz.func103,Tryz.ntmps103;have HX0:=Hq (Bx2.new w (.string s) (.string t) 24);have HB0:=Hq ((Below.refl w.heap.size w).alloc nlr (.cells #[.string s,.string t] 24));obtain⟨W0,hW0⟩:∃ W0,w.alloc (.cells #[.string s,.string t] 24)=W0:=⟨_,rfl⟩;rw[hW0]at HX0 HB0;have HW0:=Hq hW0;clear hW0;go_wp2_with fail;rw[HW0.out];refine(HH.out _).mono ?_;rintro e w1 ⟨rfl,hb⟩;have HB1:=Hq (HB0.out.trans (hb.mono HB0.out.size));clear hb;go_wp2;go_ret;exact⟨rfl,HB1.out⟩
theorem zh9(m o x:Nat)(hm:m<18446744073709551616)(ho8:o<18446744073709551616)(hx:x<256 ^ 128)(w:World):Calls Tryz.prog 82 #[gV (nS m) (nS o),.string (nS x)] w (Ret (.bool (hasN m o x)) w):=by
 have hsm:=zo hm;have hso:=zo ho8;have hsx:=zf.2 hx;rcases Nat.eq_zero_or_pos o with h0 | h0
 · subst h0;have he:(nS 0).toList.isEmpty=true:=jf rfl;have HOR:=Hq (jv (nS x) (nS m) (by omega) (by omega));rw[xl]at HOR;have HCO:=Hq (zkp x m hx (zm hm));have HIS:=Hq (zjc (Nat.gcd x m));by_cases hx0:x=0
   · have hr:hasN m 0 x=false:=decide_eq_false (fun h=>by have:=h.1;omega);rw[hr];have hem:(nS x).toList.isEmpty=true:=by rw[hx0];exact jf rfl
     obtain⟨s,hs⟩:∃ s,nS m=s:=⟨_,rfl⟩;obtain⟨t,ht⟩:∃ t,nS 0=t:=⟨_,rfl⟩;obtain⟨u,hu⟩:∃ u,nS x=u:=⟨_,rfl⟩;rw[ht]at he;rw[hu]at hem;rw[hs,ht,hu];have HB0:=Hq ((Below.refl w.heap.size w).alloc nlr (.cells #[.string s,.string t] 24));clear hs ht hu hr hm ho8 hx hsm hso hsx HOR HCO HIS hx0;unfold gV;go_enter Tryz.func82,Tryz.ntmps82;go_wp2;go_ret;exact⟨rfl,HB0.out⟩
   · have hem:=zy (n:=x) (by omega);by_cases hxm:m≤x
     · have hr:hasN m 0 x=false:=decide_eq_false (fun h=>by have:=h.2.1;omega);rw[hr];have hg:=jl hxm;obtain⟨c,hc⟩:∃ c,cmpI x m=c:=⟨_,rfl⟩;rw[hc]at hg HOR;obtain⟨s,hs⟩:∃ s,nS m=s:=⟨_,rfl⟩;obtain⟨t,ht⟩:∃ t,nS 0=t:=⟨_,rfl⟩;obtain⟨u,hu⟩:∃ u,nS x=u:=⟨_,rfl⟩;rw[ht]at he;rw[hu]at hem;rw[hs,hu]at HOR;rw[hs,ht,hu];clear hs ht hu hr hm ho8 hx hsm hso hsx HCO HIS hx0 hxm hc;unfold gV;go_enter Tryz.func82,Tryz.ntmps82;have HX0:=Hq (Bx2.new w (.string s) (.string t) 24);have HB0:=Hq ((Below.refl w.heap.size w).alloc nlr (.cells #[.string s,.string t] 24));obtain⟨W0,hW0⟩:∃ W0,w.alloc (.cells #[.string s,.string t] 24)=W0:=⟨_,rfl⟩;rw[hW0]at HX0 HB0;have HW0:=Hq hW0;clear hW0;go_wp2_with fail;rw[HW0.out];refine(HOR.out _).mono ?_;rintro e w1 ⟨rfl,hb⟩;have HB1:=Hq (HB0.out.trans (hb.mono HB0.out.size));clear hb;go_wp2;go_ret;exact⟨rfl,HB1.out⟩
     · have hr:hasN m 0 x=decide (Nat.gcd x m=1):=decide_eq_decide.2 ⟨fun h=>by have:=h.2.2;rwa[if_pos rfl]at this,fun h=>⟨by omega,by omega,by rw[if_pos rfl];exact h⟩⟩;rw[hr,←HIS.out];have hg:cmpI x m<0:=by unfold cmpI;rw[if_pos (by omega)];decide
       obtain⟨c,hc⟩:∃ c,cmpI x m=c:=⟨_,rfl⟩;rw[hc]at hg HOR;obtain⟨s,hs⟩:∃ s,nS m=s:=⟨_,rfl⟩;obtain⟨t,ht⟩:∃ t,nS 0=t:=⟨_,rfl⟩;obtain⟨u,hu⟩:∃ u,nS x=u:=⟨_,rfl⟩;obtain⟨d,hd⟩:∃ d,nS (Nat.gcd x m)=d:=⟨_,rfl⟩;rw[ht]at he;rw[hu]at hem;rw[hs,hu]at HOR;rw[hs,hu,hd]at HCO;rw[hs,ht,hu,hd];clear hs ht hu hr hd hm ho8 hx hsm hso hsx HIS hx0 hxm hc;unfold gV;go_enter Tryz.func82,Tryz.ntmps82;have HX0:=Hq (Bx2.new w (.string s) (.string t) 24);have HB0:=Hq ((Below.refl w.heap.size w).alloc nlr (.cells #[.string s,.string t] 24));obtain⟨W0,hW0⟩:∃ W0,w.alloc (.cells #[.string s,.string t] 24)=W0:=⟨_,rfl⟩;rw[hW0]at HX0 HB0;have HW0:=Hq hW0;clear hW0;go_wp2_with fail;rw[HW0.out];refine(HOR.out _).mono ?_;rintro e w1 ⟨rfl,hb⟩;have HB1:=Hq (HB0.out.trans (hb.mono HB0.out.size));have HX1:=HX0.out.next hb;have c0:=HX1.c0;have c1:=HX1.c1;clear hb HX1;go_wp2_with fail;refine(HCO.out _).mono ?_;rintro e w2 ⟨rfl,hb⟩;have HB2:=Hq (HB1.out.trans (hb.mono HB1.out.size));clear hb;go_wp2;go_ret;exact⟨rfl,HB2.out⟩
 · have HH:=Hq (zp8 (nS m) (nS o) (nS x) hsm (by omega) (by omega));rw[zmm (zm hm) (zm ho8) hx h0]at HH;have he:=zy h0;obtain⟨r,hr⟩:∃ r,hasN m o x=r:=⟨_,rfl⟩;obtain⟨s,hs⟩:∃ s,nS m=s:=⟨_,rfl⟩;obtain⟨t,ht⟩:∃ t,nS o=t:=⟨_,rfl⟩;obtain⟨u,hu⟩:∃ u,nS x=u:=⟨_,rfl⟩;rw[hs,ht,hu,hr]at HH;rw[ht]at he;rw[hs,ht,hu,hr];clear hs ht hu hr hm ho8 hx hsm hso hsx h0;unfold gV at *;go_enter Tryz.func82,Tryz.ntmps82;have HX0:=Hq (Bx2.new w (.string s) (.string t) 24);have HB0:=Hq ((Below.refl w.heap.size w).alloc nlr (.cells #[.string s,.string t] 24));obtain⟨W0,hW0⟩:∃ W0,w.alloc (.cells #[.string s,.string t] 24)=W0:=⟨_,rfl⟩;rw[hW0]at HX0 HB0;have HW0:=Hq hW0;clear hW0;go_wp2_with fail;rw[HW0.out];refine(HH.out _).mono ?_;rintro e w1 ⟨rfl,hb⟩;have HB1:=Hq (HB0.out.trans (hb.mono HB0.out.size));clear hb;go_wp2;go_ret;exact⟨rfl,HB1.out⟩
def hasK(M O x:ByteArray):Bool:=decide (chkK M O=0)&&zd x&&hasN (num M) (num O) (num x)
theorem xd{M O:ByteArray}(h:chkK M O=0):zd M=true∧zd O=true∧chkN (num M) (num O)=0:=by
 unfold chkK at h;split at h
 · rename_i hv;simp only[Bool.and_eq_true]at hv;exact⟨hv.1,hv.2,h⟩
 · cases h
theorem zru(M O x:ByteArray)(hM:M.size≤8)(hO:O.size≤8)(hx:zd x=true)(w:World):Calls Tryz.prog 51 #[gV M O,.string x] w (Ret (.bool (hasK M O x)) w):=by
 have HCK:=Hq (zf5 M O hM hO);by_cases hc:chkK M O=0
 · obtain⟨v1,v2,hcn⟩:=xd hc;have HH:=Hq (zo9 (num M) (num O) (num x) (jr hM) (jr hO) hcn (ze7 (by unfold zd at hx;simp at hx;exact hx.1)));rw[←jm v1,←jm v2,←jm hx]at HH;have hr:hasK M O x=hasN (num M) (num O) (num x):=by unfold hasK;rw[decide_eq_true hc,hx,Bool.true_and,Bool.true_and]
   rw[hr];obtain⟨r,hr⟩:∃ r,hasN (num M) (num O) (num x)=r:=⟨_,rfl⟩;rw[hr]at HH⊢;rw[hc]at HCK;obtain⟨s,hs⟩:∃ s,M=s:=⟨_,rfl⟩;obtain⟨t,ht⟩:∃ t,O=t:=⟨_,rfl⟩;rw[hs,ht]at HCK HH⊢;clear hc v1 v2 hcn hr hM hO hx hs ht;unfold gV at *;go_enter Tryz.func51,Tryz.ntmps51;have HX0:=Hq (Bx2.new w (.string s) (.string t) 24);have HB0:=Hq ((Below.refl w.heap.size w).alloc nlr (.cells #[.string s,.string t] 24));obtain⟨W0,hW0⟩:∃ W0,w.alloc (.cells #[.string s,.string t] 24)=W0:=⟨_,rfl⟩;rw[hW0]at HX0 HB0;have HW0:=Hq hW0;clear hW0;go_wp2_with fail;rw[HW0.out];refine(HCK.out _).mono ?_;rintro e w1 ⟨rfl,hb⟩;have HB1:=Hq (HB0.out.trans (hb.mono HB0.out.size));have HX1:=HX0.out.next hb;have c0:=HX1.c0;have c1:=HX1.c1;clear hb HX1;go_wp2_with fail;refine(HH.out _).mono ?_;rintro e w2 ⟨rfl,hb⟩;have HB2:=Hq (HB1.out.trans (hb.mono HB1.out.size));clear hb;go_wp2;go_ret;exact⟨rfl,HB2.out⟩
 · have hr:hasK M O x=false:=by unfold hasK;rw[decide_eq_false hc];rfl
   rw[hr];obtain⟨c,hcc⟩:∃ c,chkK M O=c:=⟨_,rfl⟩;rw[hcc]at HCK hc;obtain⟨s,hs⟩:∃ s,M=s:=⟨_,rfl⟩;obtain⟨t,ht⟩:∃ t,O=t:=⟨_,rfl⟩;rw[hs,ht]at HCK⊢;have hcb:(c==0)=false:=by rw[beq_eq_false_iff_ne];exact hc
   clear hc hcc hr hM hO hx hs ht;unfold gV at *;go_enter Tryz.func51,Tryz.ntmps51;have HX0:=Hq (Bx2.new w (.string s) (.string t) 24);have HB0:=Hq ((Below.refl w.heap.size w).alloc nlr (.cells #[.string s,.string t] 24));obtain⟨W0,hW0⟩:∃ W0,w.alloc (.cells #[.string s,.string t] 24)=W0:=⟨_,rfl⟩;rw[hW0]at HX0 HB0;have HW0:=Hq hW0;clear hW0;go_wp2_with fail;rw[HW0.out];refine(HCK.out _).mono ?_;rintro e w1 ⟨rfl,hb⟩;have HB1:=Hq (HB0.out.trans (hb.mono HB0.out.size));clear hb;go_wp2;go_ret;exact⟨rfl,HB1.out⟩
theorem zp6(M O x:ByteArray)(hM:M.size≤8)(hO:O.size≤8)(hx:zd x=true)(w:World):Calls Tryz.prog 75 #[gV M O,.string x] w (Ret (.bool (hasK M O x)) w):=by
 have HCK:=Hq (zb3 M O hM hO);have HV:=Hq (zu x (by unfold zd at hx;simp at hx;omega));rw[hx]at HV;by_cases hc:chkK M O=0
 · obtain⟨v1,v2,hcn⟩:=xd hc;have HH:=Hq (zh9 (num M) (num O) (num x) (jr hM) (jr hO) (ze7 (by unfold zd at hx;simp at hx;exact hx.1)));rw[←jm v1,←jm v2,←jm hx]at HH;have hr:hasK M O x=hasN (num M) (num O) (num x):=by unfold hasK;rw[decide_eq_true hc,hx,Bool.true_and,Bool.true_and]
   rw[hr];obtain⟨r,hr⟩:∃ r,hasN (num M) (num O) (num x)=r:=⟨_,rfl⟩;rw[hr]at HH⊢;rw[hc]at HCK;obtain⟨s,hs⟩:∃ s,M=s:=⟨_,rfl⟩;obtain⟨t,ht⟩:∃ t,O=t:=⟨_,rfl⟩;rw[hs,ht]at HCK HH⊢;clear hc v1 v2 hcn hr hM hO hx hs ht;unfold gV at *;go_enter Tryz.func75,Tryz.ntmps75;have HX0:=Hq (Bx2.new w (.string s) (.string t) 24);have HB0:=Hq ((Below.refl w.heap.size w).alloc nlr (.cells #[.string s,.string t] 24));obtain⟨W0,hW0⟩:∃ W0,w.alloc (.cells #[.string s,.string t] 24)=W0:=⟨_,rfl⟩;rw[hW0]at HX0 HB0;have HW0:=Hq hW0;clear hW0;go_wp2_with fail;rw[HW0.out];refine(HCK.out _).mono ?_;rintro e w1 ⟨rfl,hb⟩;have HB1:=Hq (HB0.out.trans (hb.mono HB0.out.size));have HX1:=HX0.out.next hb;have c0:=HX1.c0;have c1:=HX1.c1;clear hb HX1;go_wp2_with fail;refine(HV.out _).mono ?_;rintro e w2 ⟨rfl,rfl⟩;go_wp2_with fail;refine(HH.out _).mono ?_;rintro e w2 ⟨rfl,hb⟩;have HB2:=Hq (HB1.out.trans (hb.mono HB1.out.size));clear hb;go_wp2;go_ret;exact⟨rfl,HB2.out⟩
 · have hr:hasK M O x=false:=by unfold hasK;rw[decide_eq_false hc];rfl
   rw[hr];obtain⟨c,hcc⟩:∃ c,chkK M O=c:=⟨_,rfl⟩;rw[hcc]at HCK hc;obtain⟨s,hs⟩:∃ s,M=s:=⟨_,rfl⟩;obtain⟨t,ht⟩:∃ t,O=t:=⟨_,rfl⟩;rw[hs,ht]at HCK⊢;have hcb:(c==0)=false:=by rw[beq_eq_false_iff_ne];exact hc
   clear hc hcc hr hM hO hx hs ht;unfold gV at *;go_enter Tryz.func75,Tryz.ntmps75;have HX0:=Hq (Bx2.new w (.string s) (.string t) 24);have HB0:=Hq ((Below.refl w.heap.size w).alloc nlr (.cells #[.string s,.string t] 24));obtain⟨W0,hW0⟩:∃ W0,w.alloc (.cells #[.string s,.string t] 24)=W0:=⟨_,rfl⟩;rw[hW0]at HX0 HB0;have HW0:=Hq hW0;clear hW0;go_wp2_with fail;rw[HW0.out];refine(HCK.out _).mono ?_;rintro e w1 ⟨rfl,hb⟩;have HB1:=Hq (HB0.out.trans (hb.mono HB0.out.size));clear hb;go_wp2;go_ret;exact⟨rfl,HB1.out⟩
set_option maxRecDepth 100000
set_option maxHeartbeats 4000000
def SlZ(w:World)(A:Option Addr)(len cap:Nat)(l:List (Bool×ByteArray)):Prop:=
 l.length=len∧len≤cap∧cap≤9223372036854775807∧∃ b o,(0<len→A=some ⟨b,o,none⟩)∧∀ k z,l[k]? =some z→w.cell? ⟨b,o+k * 2,none⟩=some (.bool z.1)∧w.cell? ⟨b,o+k * 2+1,none⟩=some (.string z.2)
theorem SlZ.kept{B:Nat}{w w':World}(hb:Below B w w')(hB:w.heap.size≤B){A:Option Addr}{len cap:Nat}{l:List (Bool×ByteArray)}(h:SlZ w A len cap l):SlZ w' A len cap l:=
 let ⟨h1,h2,h3,b,o,h4,h5⟩:=h
 ⟨h1,h2,h3,b,o,h4,fun k e hk=>⟨cell_kept hb hB (h5 k e hk).1,cell_kept hb hB (h5 k e hk).2⟩⟩
theorem SlZ.head{w:World}{A:Option Addr}{len cap:Nat}{l:List (Bool×ByteArray)}(h:SlZ w A len cap l)(h0:0<len):∃ b o,A=some ⟨b,o,none⟩:=
 let ⟨_,_,_,b,o,h4,_⟩:=h
 ⟨b,o,h4 h0⟩
theorem SlZ.get?{w:World}{b o len cap:Nat}{l:List (Bool×ByteArray)}(h:SlZ w (some ⟨b,o,none⟩) len cap l)(k:Nat){z:Bool×ByteArray}(hk:l[k]? =some z):w.cell? ⟨b,o+k * 2,none⟩=some (.bool z.1)∧w.cell? ⟨b,o+k * 2+1,none⟩=some (.string z.2):=by
 obtain⟨h1,h2,h3,b',o',h4,h5⟩:=h;have hl:=(List.getElem?_eq_some_iff.1 hk).1;have:=h4 (by omega);simp only[Option.some.injEq,Addr.mk.injEq,and_true]at this;obtain⟨rfl,rfl⟩:=this;exact h5 k z hk
def ckR(M O:ByteArray)(l:List ByteArray)(zs:List (Bool×ByteArray))(same:Bool):Int:=
 if l.all zd=false then 3 else if zs.all (fun z=>jz z.1 z.2)=false then 3 else if chkK M O=0 then(if same=false then 6 else if l.all (fun s=>hasN (num M) (num O) (num s))=false then 13 else 0)else chkK M O
theorem zao{α:Type}{p:α→Bool}{l:List α}{k:Nat}{x:α}(h:(l.take k).all p=true)(hk:l[k]? =some x)(hx:p x=true):(l.take (k+1)).all p=true:=by
 obtain⟨h1,rfl⟩:=List.getElem?_eq_some_iff.1 hk;rw[List.take_succ_eq_append_getElem h1,List.all_append,h];simp[hx]
theorem qh{α:Type}{p:α→Bool}{l:List α}{k:Nat}{x:α}(hk:l[k]? =some x)(hx:p x=false):l.all p=false:=by
 rw[List.all_eq_false];exact⟨x,List.mem_of_getElem? hk,by rw[hx];decide⟩
theorem zbw{α:Type}{p:α→Bool}{l:List α}{n:Nat}(h:(l.take n).all p=true)(hn:l.length=n):l.all p=true:=by rwa[←hn,List.take_length]at h
theorem zap{α:Type}{p:α→Bool}{l:List α}{k:Nat}{x:α}(h:l.all p=true)(hk:l[k]? =some x):p x=true:=(List.all_eq_true.1 h) x (List.mem_of_getElem? hk)
theorem ze3(M O:ByteArray)(l:List ByteArray)(zs:List (Bool×ByteArray))(same:Bool)(A B:Option Addr)(n c m d:Nat)(hM:M.size≤8)(hO:O.size≤8)(hls:∀ s∈l,s.size≤1000)(hzs:∀ z∈zs,z.2.size≤1000)(hn:n≤1000)(hm:m≤1000)(w:World)(hl:SlN w A n c l)(hz:SlZ w B m d zs) :
 Calls Tryz.prog 58 #[gV M O,.slice A n c,.slice B m d,.bool same] w (Ret (.int .i64 (ckR M O l zs same)) w):=by
 have HLS:=Hq hls;have HZS:=Hq hzs;have HCK:=Hq (zf5 M O hM hO);have HSN:=Hq hl;have HSZ:=Hq hz;have HNL:=Hq hl.1;have HML:=Hq hz.1;have HHS:=Hq (fun(x:ByteArray) (hc:chkK M O=0) (hv:zd x=true)=>show ∀ w,Calls Tryz.prog 103 #[gV M O,.string x] w (Ret (.bool (hasN (num M) (num O) (num x))) w)from by
  obtain⟨v1,v2,hcn⟩:=xd hc;have:=zo9 (num M) (num O) (num x) (jr hM) (jr hO) hcn (ze7 (by unfold zd at hv;simp at hv;exact hv.1))
  rwa[←jm v1,←jm v2,←jm hv]at this)
 have HR:=Hq (show ∃ R,ckR M O l zs same=R from⟨_,rfl⟩);obtain⟨R,hR⟩:=HR.out;rw[hR];have HRR:=Hq hR;have HB0:=Hq ((Below.refl w.heap.size w).alloc nlr (.cells #[.string M,.string O] 24));have HX0:=Hq (Bx2.new w (.string M) (.string O) 24);obtain⟨W0,hW0⟩:∃ W0,w.alloc (.cells #[.string M,.string O] 24)=W0:=⟨_,rfl⟩;rw[hW0]at HB0 HX0;have HW0:=Hq hW0;clear hl hz hls hzs hR hW0 hM hO HR;unfold gV at *;go_enter Tryz.func58,Tryz.ntmps58;go_wp2;try rw[HW0.out]
 go_loopw [18] (fun i wr=>∃ k:Nat,k≤n∧i=.int .i64 k∧(l.take k).all zd=true∧wr=W0) (fun i _=>n - (intOf i).toNat);case atStart=>exact⟨0,Nat.zero_le _,rfl,by simp,rfl⟩
 case round =>
  obtain⟨k,hk,rfl,hall,hwr⟩:=hrel;have hwr:=hwr.symm;subst hwr;have HALL:=Hq hall;clear hall;by_cases hlt:k<n
  · obtain⟨s,he⟩:∃ s,l[k]? =some s:=⟨_,List.getElem?_eq_getElem (by rw[HNL.out];exact hlt)⟩;obtain⟨b,o,rfl⟩:=HSN.out.head (by omega);have c0:=(HSN.out.kept HB0.out nlr).get? k he;have hsz:=HLS.out s (List.mem_of_getElem? he);have HV:=Hq (zn s (by omega));have HE:=Hq he;clear he
    cases hv:zd s with
    | true =>
     have HVS:=Hq hv;rw[hv]at HV;clear hv;go_wp2_with fail;refine(HV.out _).mono ?_;rintro e w1 ⟨rfl,rfl⟩;go_wp2;go_roundw;case rel=>exact⟨k+1,by omega,by go_num,zao HALL.out HE.out HVS.out,(by first | rfl | trivial)⟩
     case measure=>simp[intOf];omega
    | false =>
     have HVS:=Hq hv;rw[hv]at HV;clear hv;go_wp2_with fail;refine(HV.out _).mono ?_;rintro e w1 ⟨rfl,rfl⟩;go_wp2;go_ret;exact⟨by rw[←HRR.out];unfold ckR;rw[if_pos (qh HE.out HVS.out)];rfl,HB0.out⟩
  · obtain rfl:k=n:=by omega
    have HLV:=Hq (zbw HALL.out HNL.out);clear HALL;go_wp2;go_loopw [28] (fun i wr=>∃ k:Nat,k≤m∧i=.int .i64 k∧(zs.take k).all (fun z=>jz z.1 z.2)=true∧Below W0.heap.size W0 wr) (fun i _=>m - (intOf i).toNat);case atStart=>exact⟨0,Nat.zero_le _,rfl,by simp,Below.refl _ _⟩
    case round =>
     obtain⟨j,hj,rfl,hall,hbw⟩:=hrel;have HALL:=Hq hall;have HBW:=Hq hbw;clear hall hbw;by_cases hlt2:j<m
     · obtain⟨z,he⟩:∃ z,zs[j]? =some z:=⟨_,List.getElem?_eq_getElem (by rw[HML.out];exact hlt2)⟩;obtain⟨b,o,rfl⟩:=HSZ.out.head (by omega);obtain⟨c0,c1⟩:=((HSZ.out.kept HB0.out nlr).kept HBW.out nlr).get? j he;have hsz:=HZS.out z (List.mem_of_getElem? he);obtain⟨zb,zt⟩:=z;dsimp only at c0 c1 hsz;have HV:=Hq (zhk zb zt (by omega));have HE:=Hq he;have HBA:=Hq (HBW.out.alloc HBW.out.size (.cells #[.bool zb,.string zt] 78));unfold zV at HV;clear he
       cases hv:jz zb zt with
       | true =>
        have HVS:=Hq hv;rw[hv]at HV;clear hv;go_wp2_with fail;refine(HV.out _).mono ?_;rintro e w1 ⟨rfl,hb⟩;have HB1:=Hq (HBA.out.trans (hb.mono HBA.out.size));clear hb;go_wp2;go_roundw;case rel=>exact⟨j+1,by omega,by go_num,zao HALL.out HE.out HVS.out,HB1.out⟩
        case measure=>simp[intOf];omega
       | false =>
        have HVS:=Hq hv;rw[hv]at HV;clear hv;go_wp2_with fail;refine(HV.out _).mono ?_;rintro e w1 ⟨rfl,hb⟩;have HB1:=Hq (HBA.out.trans (hb.mono HBA.out.size));clear hb;go_wp2;go_ret;exact⟨by rw[←HRR.out];unfold ckR;rw[if_neg (by rw[HLV.out];decide),if_pos (qh HE.out HVS.out)];rfl,HB0.out.trans (HB1.out.mono HB0.out.size)⟩
     · obtain rfl:j=m:=by omega
       have HZV:=Hq (zbw HALL.out HML.out);have HX1:=Hq (HX0.out.next HBW.out);have HBB:=Hq (HB0.out.trans (HBW.out.mono HB0.out.size));have c0:=HX1.out.c0;have c1:=HX1.out.c1;clear HALL;by_cases hck:chkK M O=0
       · have HCC:=Hq hck;rw[hck]at HCK;clear hck
         cases same with
         | false =>
          go_wp2_with fail;refine(HCK.out _).mono ?_;rintro e w2 ⟨rfl,hb⟩;have HB2:=Hq (HBB.out.trans (hb.mono HBB.out.size));clear hb c0 c1;go_wp2;go_ret;exact⟨by rw[←HRR.out];unfold ckR;rw[if_neg (by rw[HLV.out];decide),if_neg (by rw[HZV.out];decide),if_pos HCC.out,if_pos rfl];rfl,HB2.out⟩
         | true =>
          go_wp2_with fail;refine(HCK.out _).mono ?_;rintro e w2 ⟨rfl,hb⟩;have HB2:=Hq (HBB.out.trans (hb.mono HBB.out.size));have HX2:=Hq (HX1.out.next hb);clear hb c0 c1;go_wp2;go_loopw [45] (fun i wr=>∃ q:Nat,q≤k∧i=.int .i64 q∧(l.take q).all (fun s=>hasN (num M) (num O) (num s))=true∧Below w2.heap.size w2 wr) (fun i _=>k - (intOf i).toNat);case atStart=>exact⟨0,Nat.zero_le _,rfl,by simp,Below.refl _ _⟩
          case round =>
           obtain⟨q,hq,rfl,hall,hbw⟩:=hrel;have HALL:=Hq hall;have HBW3:=Hq hbw;have HX3:=Hq (HX2.out.next hbw);have HB3:=Hq (HB2.out.trans (hbw.mono HB2.out.size));have c0:=HX3.out.c0;have c1:=HX3.out.c1;clear hall hbw;by_cases hlt3:q<k
           · obtain⟨s,he⟩:∃ s,l[q]? =some s:=⟨_,List.getElem?_eq_getElem (by rw[HNL.out];exact hlt3)⟩;obtain⟨b,o,rfl⟩:=HSN.out.head (by omega);have c2:=(HSN.out.kept HB3.out nlr).get? q he;have HH:=Hq (HHS.out s HCC.out (zap HLV.out he));have HE:=Hq he;clear he
             cases hv:hasN (num M) (num O) (num s)with
             | true =>
                    have HVS:=Hq hv;rw[hv]at HH;clear hv;go_wp2_with fail;refine(HH.out _).mono ?_;rintro e w4 ⟨rfl,hb⟩;have HB4:=Hq (HBW3.out.trans (hb.mono HBW3.out.size));clear hb;go_wp2;go_roundw;case rel=>exact⟨q+1,by omega,by go_num,zao HALL.out HE.out HVS.out,HB4.out⟩
                    case measure=>simp[intOf];omega
             | false =>
                    have HVS:=Hq hv;rw[hv]at HH;clear hv;go_wp2_with fail;refine(HH.out _).mono ?_;rintro e w4 ⟨rfl,hb⟩;have HB4:=Hq (HB3.out.trans (hb.mono HB3.out.size));clear hb;go_wp2;go_ret;exact⟨by rw[←HRR.out];unfold ckR;rw[if_neg (by rw[HLV.out];decide),if_neg (by rw[HZV.out];decide),if_pos HCC.out,if_neg (by decide),if_pos (qh (p:=fun s=>hasN (num M) (num O) (num s)) HE.out HVS.out)];rfl,HB4.out⟩
           · obtain rfl:q=k:=by omega
             have HHV:=Hq (zbw HALL.out HNL.out);go_wp2;go_ret;exact⟨by rw[←HRR.out];unfold ckR;rw[if_neg (by rw[HLV.out];decide),if_neg (by rw[HZV.out];decide),if_pos HCC.out,if_neg (by decide),if_neg (by rw[HHV.out];decide)];rfl,HB3.out⟩
       · have HCC:=Hq hck;obtain⟨cc,hcc⟩:∃ cc,chkK M O=cc:=⟨_,rfl⟩;have HCE:=Hq hcc;rw[hcc]at HCK hck;have hcb:(cc==0)=false:=by rw[beq_eq_false_iff_ne];exact hck
         have hcb2:(cc != 0)=true:=by rw[bne,hcb];rfl
         clear hck hcc;go_wp2_with fail;refine(HCK.out _).mono ?_;rintro e w2 ⟨rfl,hb⟩;have HB2:=Hq (HBB.out.trans (hb.mono HBB.out.size));clear hb c0 c1;go_wp2;go_ret;exact⟨by rw[←HRR.out];unfold ckR;rw[if_neg (by rw[HLV.out];decide),if_neg (by rw[HZV.out];decide),if_neg HCC.out,HCE.out];rfl,HB2.out⟩
set_option maxRecDepth 100000
set_option maxHeartbeats 1000000
def bL(m:Nat)(l:List ByteArray)(zs:List (Bool×ByteArray)):List (Nat×Nat):=List.zipWith (fun s z=>(zbc (num s) z.1 m,num z.2)) l zs
theorem zsm{m k:Nat}{l:List ByteArray}{zs:List (Bool×ByteArray)}{s:ByteArray}{z:Bool×ByteArray}(h1:l[k]? =some s)(h2:zs[k]? =some z):(bL m l zs)[k]? =some (zbc (num s) z.1 m,num z.2):=by
 unfold bL;rw[List.getElem?_zipWith,h1,h2]
def prV(m:Nat)(l:List ByteArray)(zs:List (Bool×ByteArray)):Nat:=pp (bL m l zs) 0%m
theorem zd4{m o x:Nat}(h:hasN m o x=true)(hc:chkN m o=0):x<m∧1<m∧Nat.gcd x m=1:=by
 have h:=of_decide_eq_true h;rcases Nat.eq_zero_or_pos o with h0 | h0
 · subst h0;have:=(zef hc).2;obtain⟨h1,h2,h3⟩:=h;rw[if_pos rfl]at h3;exact⟨h2,by omega,h3⟩
 · rw[zcj h0]at hc;obtain⟨h1,h2,h3⟩:=h;rw[if_neg (by omega)]at h3;refine⟨h2,?_,zmn h3 h0⟩;by_cases hm:m≤1
   · rw[if_pos (.inl hm)]at hc;cases hc
   · omega
theorem zjw{m o:Nat}(hc:chkN m o=0):1<m:=by
 rcases Nat.eq_zero_or_pos o with h0 | h0
 · subst h0;have:=(zef hc).2;omega
 · rw[zcj h0]at hc;by_cases hm:m≤1
   · rw[if_pos (.inl hm)]at hc;cases hc
   · omega
def mxL:List (Nat×Nat)→Nat
 | []=>0
 | x::l=>max (blen x.2) (mxL l)
theorem zn3(l:List (Nat×Nat))(x:Nat×Nat):mxL (l++[x])=max (mxL l) (blen x.2):=by
 induction l with
 | nil=>simp[mxL]
 | cons a l ih=>simp only[List.cons_append,mxL,ih];omega
theorem zn2{l:List (Nat×Nat)}{k:Nat}{x:Nat×Nat}(h:l[k]? =some x):mxL (l.take (k+1))=max (mxL (l.take k)) (blen x.2):=by
 obtain⟨h1,h2⟩:=List.getElem?_eq_some_iff.1 h;rw[List.take_succ_eq_append_getElem h1,h2,zn3]
theorem zr2{l:List (Nat×Nat)}{x:Nat×Nat}(h:x∈l):blen x.2≤mxL l:=by
 induction l with
 | nil=>cases h
 | cons a l ih =>
  simp only[mxL];rcases List.mem_cons.1 h with h | h
  · subst h;omega
  · have:=ih h;omega
theorem zrx(l:List (Nat×Nat)):pp l (mxL l)=1:=zry (fun x hx=>zkx (zr2 hx))
def zs_(n:Nat):Array Value:=madeCells #[.string ⟨#[]⟩] n
theorem zmg(n:Nat)(hn:n≤1000)(w:World):(Instr.makeSlice 25 (.int .i64 n) (.int .i64 n)).run Tryz.prog w=.ok (.slice (some ⟨w.heap.size,0,none⟩) n n) (w.alloc (.cells (zs_ n) 22)):=by
 obtain⟨i0,hi,hz0,hz1,hz2⟩:=info_parts kg;have h:=run_make (P:=Tryz.prog) w 25 22 i0 (.string ⟨#[]⟩) Tryz.underlying25 hi hz0 .i64 .i64 (n:Int) (n:Int) (by omega) (Int.le_refl _) (by rw[hz2];omega) (by omega);rw[h,hz1,Int.toNat_natCast,Nat.mul_one];rfl
def OutS(w:World)(B n k:Nat)(f:Nat→ByteArray):Prop:=∃ cur:Array Value,w.heap[B]? =some (.cells cur 22 (0,0))∧cur.size=n∧∀ j,j<k→cur[j]? =some (.string (f j))
theorem OutS.start{w:World}(n:Nat)(f:Nat→ByteArray):OutS (w.alloc (.cells (zs_ n) 22)) w.heap.size n 0 f:=⟨_,heap_alloc_new _ _,size_madeCells _ _,fun j h=>by omega⟩
theorem OutS.has_{w:World}{B n k:Nat}{f:Nat→ByteArray}(h:OutS w B n k f){j:Nat}(hj:j<n):∃ u,w.cell? ⟨B,j,none⟩=some u:=by
 obtain⟨cur,h1,h2,h3⟩:=h;exact⟨_,by rw[Lib.cell_of_heap h1];exact Array.getElem?_eq_getElem (by omega)⟩
theorem OutS.cell{w:World}{B n k:Nat}{f:Nat→ByteArray}(h:OutS w B n k f){j:Nat}(hj:j<k):w.cell? ⟨B,j,none⟩=some (.string (f j)):=by
 obtain⟨cur,h1,h2,h3⟩:=h;rw[Lib.cell_of_heap h1];exact h3 j hj
theorem OutS.free{w:World}{B n k:Nat}{f:Nat→ByteArray}(h:OutS w B n k f)(j:Nat):w.frozen? ⟨B,j,none⟩=false:=by
 obtain⟨cur,h1,h2,h3⟩:=h;exact Lib.frozen_of_heap h1 j
theorem OutS.lt{w:World}{B n k:Nat}{f:Nat→ByteArray}(h:OutS w B n k f):B<w.heap.size:=by
 obtain⟨cur,h1,_⟩:=h;exact zw h1
theorem OutS.keep{w w':World}{B n k:Nat}{f:Nat→ByteArray}(h:OutS w B n k f)(hb:w'.heap[B]? =w.heap[B]?):OutS w' B n k f:=by
 obtain⟨cur,h1,h2⟩:=h;exact⟨cur,by rw[hb];exact h1,h2⟩
theorem OutS.next{w w':World}{B n k:Nat}{f:Nat→ByteArray}(h:OutS w B n k f)(hb:Below w.heap.size w w'):OutS w' B n k f:=h.keep (hb.block _ h.lt)
theorem OutS.put{w:World}{B n k:Nat}{f:Nat→ByteArray}(h:OutS w B n k f)(u:Value):OutS (w.setCell ⟨B,k,none⟩ u) B n k f:=by
 obtain⟨cur,h1,h2,h3⟩:=h;refine⟨_,zv h1 _,by rw[Array.size_setIfInBounds,h2],fun j hj=>?_⟩;rw[Array.getElem?_setIfInBounds,if_neg (by omega)];exact h3 j hj
theorem OutS.step{w:World}{B n k:Nat}{f:Nat→ByteArray}(h:OutS w B n k f)(hk:k<n):OutS (w.setCell ⟨B,k,none⟩ (.string (f k))) B n (k+1) f:=by
 obtain⟨cur,h1,h2,h3⟩:=h;refine⟨_,zv h1 _,by rw[Array.size_setIfInBounds,h2],fun j hj=>?_⟩;rw[Array.getElem?_setIfInBounds];by_cases e:j=k
 · subst e;rw[if_pos rfl,if_pos (by omega)]
 · rw[if_neg (by omega)];exact h3 j (by omega)
def RetT(B:Nat)(v:Value)(w:World)(e:Ending)(w':World):Prop:=e=.returned (.tuple #[])∧∃ w1,Below w.heap.size w w1∧w'=w1.setCell ⟨B,0,none⟩ v
theorem zny(g B a x m:Nat)(O:ByteArray)(w:World)(hg:Bx2 w g (.string (nS m)) (.string O) 24)(ho:BoxS w B (nS a))(ha:a<18446744073709551616)(hx:x<18446744073709551616)(hm:m<18446744073709551616)(h0:0<m) :
 Calls Tryz.prog 61 #[.string (nS x),.pointer (some ⟨B,0,none⟩),.pointer (some ⟨g,0,none⟩)] w (RetT B (.string (nS (a * x%m))) w):=by
 have HM:=Hq (zqv a x m ha hx hm h0);have c0:=hg.c0;have HO:=Hq ho;have c1:w.cell? ⟨B,0,none⟩=some (.string (nS a)):=by rw[Lib.cell_of_heap ho];rfl
 obtain⟨s,hs⟩:∃ s,nS a=s:=⟨_,rfl⟩;obtain⟨t,ht⟩:∃ s,nS x=s:=⟨_,rfl⟩;obtain⟨u,hu⟩:∃ s,nS m=s:=⟨_,rfl⟩;obtain⟨r,hr⟩:∃ s,nS (a * x%m)=s:=⟨_,rfl⟩;rw[hs,ht,hu,hr]at HM;rw[hs]at c1 HO;rw[hu]at c0;rw[ht,hr];clear hs ht hu hr hg ho ha hx hm h0;go_enter Tryz.func61,Tryz.ntmps61;go_wp2_with fail;refine(HM.out _).mono ?_;rintro e w1 ⟨rfl,hb⟩;have hx1:BoxS w1 B s:=(hb.block _ (zw HO.out)).trans HO.out;have c2:w1.cell? ⟨B,0,none⟩=some (.string s):=by rw[Lib.cell_of_heap hx1];rfl
 have f2:w1.frozen? ⟨B,0,none⟩=false:=Lib.frozen_of_heap hx1 0;have HB:=Hq hb;clear hb c0 c1 hx1;go_wp2;first | go_ret | go_end0 | skip
 exact⟨rfl,w1,HB.out,rfl⟩
end Go.Proofs.YtkfgdcgmlobhfaaGreat

import Derived.Test.YtamhonjkgkmdbaaGreatDoorQCoG
import Derived.Test.YtamhonjkgkmdbaaGreatDoorQCoD
set_option linter.unusedVariables false
set_option linter.unusedSimpArgs false
namespace Go.Proofs.YtamhonjkgkmdbaaGreatDoor
set_option maxRecDepth 100000
set_option maxHeartbeats 4000000
open Go.RowKit Go.Lib
def DS(w wr:World)(A:Option Addr)(n cap:Nat)(s:ByteArray)(k:Int)(b7 c7:Nat)(l:List ByteArray):Prop:=
 TB wr w.heap.size A n cap s k∧TB wr (w.heap.size+1) none 0 0 ⟨#[]⟩ 0∧TB wr b7 (some ⟨c7,0,none⟩) n n s (k+1)∧wr.heap[c7]? =some (.cells (l.map Value.string).toArray 22 (0,0))∧Below w.heap.size w wr
theorem DS.next{w wr W:World}{A:Option Addr}{n cap:Nat}{s:ByteArray}{k:Int}{b7 c7:Nat}{l:List ByteArray}(h:DS w wr A n cap s k b7 c7 l)(hb:Below wr.heap.size wr W):DS w W A n cap s k b7 c7 l:=
 ⟨h.1.nextT hb,h.2.1.nextT hb,h.2.2.1.nextT hb,(hb.block _ (block_lt h.2.2.2.1)).trans h.2.2.2.1,h.2.2.2.2.trans (hb.mono h.2.2.2.2.size)⟩
theorem attN_lt(s:List UInt8)(k a b:Nat):attN s k a b<2 ^ b:=Nat.mod_lt _ (Nat.two_pow_pos b)
theorem co_drawS(l:List ByteArray)(s:ByteArray)(k N:Nat)(A:Option Addr)(n cap:Nat)(hk:n≤k)(hk2:k≤2147483647)(hn:n≤1000)(hs64:s.size≤1000000)(hN0:0<N)(hN:N<256 ^ 32)(w:World)(hs:SlN w A n cap l)(ht:T10 w) :
 Calls Tryz.prog 60 #[tpV A n cap s k,.string (nS N)] w (RetC (dwN l s k N) (tpN (dwN l s k N).2 l s k) w):=by
 have HLEN:=Hq hs.1;have hcap:=hs.2.1;have hcap2:=hs.2.2.1;have hdw:dwN l s k N=if s.toList.isEmpty=true∨(k:Int)=2147483647 then((0,14):Nat×Int)else match drwF (fun a=>attN s.data.toList k a (blen N)) N with
  | some x=>((x,0):Nat×Int)
  | none=>(0,14):=by
  unfold dwN;rw[if_neg (by have:=hs.1;omega),Int.toNat_natCast];split
  · rfl
  · cases drwF (fun a=>attN s.data.toList k a (blen N)) N<;>rfl
 have HT10:=Hq ht;have hb1:=((Below.refl w.heap.size w).alloc (Nat.le_refl _) (.cells #[.slice A n cap,.string s,.int .i64 k] 63)).alloc (by simp) (.cells #[.slice none 0 0,.string ⟨#[]⟩,.int .i64 0] 63);have ht1:TB ((w.alloc (.cells #[.slice A n cap,.string s,.int .i64 k] 63)).alloc (.cells #[.slice none 0 0,.string ⟨#[]⟩,.int .i64 0] 63)) w.heap.size A n cap s k:=(TB.new w A n cap s k).nextT ((Below.refl _ _).alloc (Nat.le_refl _) _);have hr1:TB ((w.alloc (.cells #[.slice A n cap,.string s,.int .i64 k] 63)).alloc (.cells #[.slice none 0 0,.string ⟨#[]⟩,.int .i64 0] 63)) (w.heap.size+1) none 0 0 ⟨#[]⟩ 0:=(by have:=TB.new (w.alloc (.cells #[.slice A n cap,.string s,.int .i64 k] 63)) none 0 0 ⟨#[]⟩ 0;rwa[World.size_alloc]at this);obtain⟨W1,hW1⟩:∃ W,(w.alloc (.cells #[.slice A n cap,.string s,.int .i64 k] 63)).alloc (.cells #[.slice none 0 0,.string ⟨#[]⟩,.int .i64 0] 63)=W:=⟨_,rfl⟩;have HSZ:=Hq (show W1.heap.size=w.heap.size+1+1 from by rw[←hW1];simp);rw[hW1]at hb1 ht1 hr1;have HB1:=Hq hb1;have HT1:=Hq ht1;have HR1:=Hq hr1;have hs1:=hs.kept hb1 (Nat.le_refl _);have HS0:=Hq hs;have HS1:=Hq hs1;obtain⟨c0,c1,c2⟩:=ht1.c;obtain⟨r0,r1,r2⟩:=hr1.c;have f0:=hr1.f 0;have f1:=hr1.f 1;have f2:=hr1.f 2;have hnk:¬ (k<n):=by omega
 have hnki:¬ ((k:Int)<(n:Int)):=by omega
 have hnk2:(n:Int)≤(k:Int):=by omega
 have hdk1:decide (k<n)=false:=decide_eq_false hnk;have hdk2:decide ((k:Int)<(n:Int))=false:=decide_eq_false hnki;obtain⟨M,hM⟩:∃ M,nS N=M:=⟨_,rfl⟩;have HMM:=Hq hM;rw[hM];unfold tpV;by_cases he:s.toList.isEmpty=true∨(k:Int)=2147483647
 · rw[if_pos he]at hdw;rw[hdw];have hq:=hr1.set3 (A':=none) (n':=0) (c':=0) (s':=⟨#[]⟩) (a':=0);obtain⟨q0,q1,q2⟩:=hq.c;have HBQ:=Hq (below_set3 HB1.out (C:=w.heap.size+1) (by omega) (.slice none 0 0) (.string ⟨#[]⟩) (.int .i64 0));clear hr1 hq hdw hs hb1 ht1 hs1 hN0 hN hM ht hs64;have hee:s.toList.isEmpty=true∨(s.toList.isEmpty=false∧(k:Int)=2147483647):=by
    cases hx:s.toList.isEmpty with
    | true=>exact .inl rfl
    | false=>rw[hx]at he;exact .inr ⟨rfl,by simpa using he⟩
   rcases hee with h1 | ⟨h1,h2⟩
   · clear he;go_enter Tryz.func60,Tryz.ntmps60;go_wp2;refine bodyPost_ret (v:=.tuple #[.string ⟨#[]⟩,.agg #[.slice none 0 0,.string ⟨#[]⟩,.int .i64 0],.int .i64 14]) (by simp[results,Tryz.results60,go_sem,q0,q1,q2]) rfl ?_;exact⟨none,0,rfl,SlN.nil _ 0 (by omega) none,(fun b o h=>by cases h),HBQ.out⟩
   · have h2':((k:Int)==2147483647)=true:=beq_iff_eq.2 h2;clear he h2;go_enter Tryz.func60,Tryz.ntmps60;go_wp2;refine bodyPost_ret (v:=.tuple #[.string ⟨#[]⟩,.agg #[.slice none 0 0,.string ⟨#[]⟩,.int .i64 0],.int .i64 14]) (by simp[results,Tryz.results60,go_sem,q0,q1,q2]) rfl ?_;exact⟨none,0,rfl,SlN.nil _ 0 (by omega) none,(fun b o h=>by cases h),HBQ.out⟩
 · rw[if_neg he]at hdw;have h1:s.toList.isEmpty=false:=by
    cases hx:s.toList.isEmpty with
    | true=>exact absurd (.inl hx) he
    | false=>rfl
   have h2':((k:Int)==2147483647)=false:=beq_eq_false_iff_ne.2 (fun h=>he (.inr h));have hkk:k<2147483647:=by
    rcases Nat.lt_or_ge k 2147483647 with h | h
    · exact h
    · exact absurd (.inr (by omega)) he
   have hkm:(k:Int)<2147483647:=by omega
   obtain⟨b,hb⟩:∃ b,blen N=b:=⟨_,rfl⟩;have hb256:b≤256:=by rw[←hb];exact blen_le8 (k:=32) hN
   have hb0:0<b:=by
    rcases Nat.eq_zero_or_pos b with h | h
    · have:=blen_lt N;rw[hb,h]at this;omega
    · exact h
   obtain⟨f,hf⟩:∃ f:Nat→Nat,(fun a=>attN s.data.toList k a b)=f:=⟨_,rfl⟩;rw[hb,hf]at hdw;have HBI:=Hq (nat_Bits N (Nat.lt_trans hN (by decide)));have HAT:=Hq (fun a (ha:a<256) W hW=>co_attempt A n cap s k a b hs64 (by omega) ha hb0 hb256 W hW);have hfl:∀ a,f a<256 ^ 128:=fun a=>by
    rw[←hf];exact Nat.lt_of_lt_of_le (attN_lt _ _ _ _) (Nat.le_trans (Nat.pow_le_pow_right (by omega) hb256) (by decide))
   have HCM:=Hq (fun a=>nat_Cmp (nS (f a)) (nS N) (by have:=nS_size_le.2 (hfl a);omega) (by have:=nS_size_le.2 (Nat.lt_trans hN (show 256 ^ 32<256 ^ 128 by decide));omega));have HCN:=Hq (fun a=>ncmp_n (hfl a) (Nat.lt_trans hN (show 256 ^ 32<256 ^ 128 by decide)));have HFE:=Hq (fun a=>(show attN s.data.toList k a b=f a from by rw[←hf]));rw[hb,HMM.out]at HBI;rw[HMM.out]at HCM;obtain⟨r,hr⟩:∃ r,dwN l s k N=r:=⟨_,rfl⟩;have HR:=Hq (hdw.symm.trans hr);rw[hr];have HN1:=Hq hn;have HK:=Hq hk;clear hr hdw hs hb1 ht1 hr1 hs1 hN0 hN hM ht hs64 he hb hf hfl hb256 hb0 hnk hk2 hn;go_enter Tryz.func60,Tryz.ntmps60;go_wp2;rename_i K5 hK5;refine wp_onlyN ?_;obtain⟨wd,hwd⟩:∃ wd,W1.drew=wd:=⟨_,rfl⟩;have hbd:Below W1.heap.size W1 wd:=by rw[←hwd];exact(Below.refl _ _).drew
   have HTD:=Hq (HT1.out.nextT hbd);have HRD:=Hq (HR1.out.nextT hbd);have HBD:=Hq (HB1.out.trans (hbd.mono HB1.out.size));have HSZD:=Hq (show w.heap.size+1<wd.heap.size from by have:=hbd.size;have:=HSZ.out;omega);clear hbd c0 c1 c2 r0 r1 r2 f0 f1 f2;obtain⟨c0,c1,c2⟩:=HTD.out.c;have hmk:=fun W=>make_nats n (by have:=HN1.out;omega) W;have hk1:=hkm;apply join2 (K:=K5) (Fc:=NT wd n s ((k:Int)+1))
   · intro HJ;have HJ:=Hq HJ;refine wp_region_K 12 (Below (wd).heap.size (wd)) (by kernel_rfl) ?_;intro hD;rw[hwd];refine rP 0 45 11 rfl hD (Below.refl _ _) ?_;clear hD;intro hD;simp only[Act.put,sqA,sqB,sqC];refine rT 1 46 10 rfl hD (Below.refl _ _) (by intro w' hS';have e0:=kC hS' c0;have e1:=kC hS' c1;have e2:=kC hS' c2;go_simp;with_reducible rfl) ?_;clear hD;intro hD;simp only[Act.put,sqA,sqB,sqC];refine rP 2 47 9 rfl hD (Below.refl _ _) ?_;clear hD;intro hD;simp only[Act.put,sqA,sqB,sqC];refine rP 4 49 8 rfl hD (Below.refl _ _) ?_;clear hD;intro hD;simp only[Act.put,sqA,sqB,sqC];refine rT 5 50 7 rfl hD (Below.refl _ _) (by intro w' hS';have e0:=kC hS' c0;have e1:=kC hS' c1;have e2:=kC hS' c2;go_simp;with_reducible rfl) ?_;clear hD;intro hD;simp only[Act.put,sqA,sqB,sqC];refine rP 6 51 6 rfl hD (Below.refl _ _) ?_;clear hD;intro hD;simp only[Act.put,sqA,sqB,sqC];refine rT 7 52 5 rfl hD (Below.refl _ _) (by intro w' hS';have e0:=kC hS' c0;have e1:=kC hS' c1;have e2:=kC hS' c2;go_simp;with_reducible rfl) ?_;clear hD;intro hD;simp only[Act.put,sqA,sqB,sqC];refine rP 8 53 4 rfl hD (Below.refl _ _) ?_;clear hD;intro hD;simp only[Act.put,sqA,sqB,sqC];refine wpAnyK_two (i:=3) (i':=10) (fuel:=3) (by kernel_rfl) rfl rfl hD ?_ ?_ 
     · unfold StepK;clear hD;intro K3 hK3;go_wp2;refine hK3 _ _ (by exact(Below.refl _ _).alloc (Nat.le_refl _) _) ?_;clear hK3;intro hS_5_3 hD;refine rP 9 54 2 rfl hD hS_5_3 ?_;clear hD;intro hD;simp only[Act.put,sqA,sqB,sqC];refine rO 10 1 rfl hD ?_;clear hD;intro K10 hK10;go_wp2;refine hK10 _ _ (by exact Below.alloc hS_5_3 (Below.size hS_5_3) _) ?_;clear hK10;intro hS_5_10_3 hD;refine rO 11 0 rfl hD ?_;clear hD;intro K11 hK11;go_wp2;refine hK11 _ _ (by exact((Below.refl _ _).alloc (Nat.le_refl _) _).alloc (by simp) _) ?_;clear hK11;intro hS_5_11_3 hD;refine wpAnyK_done (by kernel_rfl) ?_ 0;clear hD;show K5 _ _;first
       | (have hF := NT.a wd n s ((k : Int) + 1)
          obtain⟨wz,hwz⟩:∃ W,(wd.alloc (.cells (madeCells #[.string ⟨#[]⟩] n) 22)).alloc (.cells #[.slice (some ⟨wd.heap.size,0,none⟩) n n,.string s,.int .i64 ((k:Int)+1)] 63)=W:=⟨_,rfl⟩;rw[hwz]at hF⊢;clear hwz;obtain⟨p,hp⟩:∃ p,wd.heap.size+1=p:=⟨_,rfl⟩;rw[hp]at hF⊢;obtain⟨q,hq⟩:∃ q,wd.heap.size=q:=⟨_,rfl⟩;rw[hq]at hF⊢
          exact HJ.out p q _ hF)
       | (have hF := NT.b wd n s ((k : Int) + 1)
          obtain⟨wz,hwz⟩:∃ W,(wd.alloc (.cells #[.slice (some ⟨wd.heap.size+1,0,none⟩) n n,.string s,.int .i64 ((k:Int)+1)] 63)).alloc (.cells (madeCells #[.string ⟨#[]⟩] n) 22)=W:=⟨_,rfl⟩;rw[hwz]at hF⊢;clear hwz;obtain⟨p,hp⟩:∃ p,wd.heap.size+1=p:=⟨_,rfl⟩;rw[hp]at hF⊢;obtain⟨q,hq⟩:∃ q,wd.heap.size=q:=⟨_,rfl⟩;rw[hq]at hF⊢
          exact HJ.out q p _ hF)
     · unfold StepK;clear hD;intro K10 hK10;go_wp2;refine hK10 _ _ (by exact(Below.refl _ _).alloc (Nat.le_refl _) _) ?_;clear hK10;intro hS_5_10 hD;refine rO 3 2 rfl hD ?_;clear hD;intro K3 hK3;go_wp2;refine hK3 _ _ (by exact Below.alloc hS_5_10 (Below.size hS_5_10) _) ?_;clear hK3;intro hS_5_3_10 hD;refine rP 9 54 1 rfl hD hS_5_3_10 ?_;clear hD;intro hD;simp only[Act.put,sqA,sqB,sqC];refine rO 11 0 rfl hD ?_;clear hD;intro K11 hK11;go_wp2;refine hK11 _ _ (by exact((Below.refl _ _).alloc (Nat.le_refl _) _).alloc (by simp) _) ?_;clear hK11;intro hS_5_11_10 hD;refine wpAnyK_done (by kernel_rfl) ?_ 0;clear hD;show K5 _ _;first
       | (have hF := NT.a wd n s ((k : Int) + 1)
          obtain⟨wz,hwz⟩:∃ W,(wd.alloc (.cells (madeCells #[.string ⟨#[]⟩] n) 22)).alloc (.cells #[.slice (some ⟨wd.heap.size,0,none⟩) n n,.string s,.int .i64 ((k:Int)+1)] 63)=W:=⟨_,rfl⟩;rw[hwz]at hF⊢;clear hwz;obtain⟨p,hp⟩:∃ p,wd.heap.size+1=p:=⟨_,rfl⟩;rw[hp]at hF⊢;obtain⟨q,hq⟩:∃ q,wd.heap.size=q:=⟨_,rfl⟩;rw[hq]at hF⊢
          exact HJ.out p q _ hF)
       | (have hF := NT.b wd n s ((k : Int) + 1)
          obtain⟨wz,hwz⟩:∃ W,(wd.alloc (.cells #[.slice (some ⟨wd.heap.size+1,0,none⟩) n n,.string s,.int .i64 ((k:Int)+1)] 63)).alloc (.cells (madeCells #[.string ⟨#[]⟩] n) 22)=W:=⟨_,rfl⟩;rw[hwz]at hF⊢;clear hwz;obtain⟨p,hp⟩:∃ p,wd.heap.size+1=p:=⟨_,rfl⟩;rw[hp]at hF⊢;obtain⟨q,hq⟩:∃ q,wd.heap.size=q:=⟨_,rfl⟩;rw[hq]at hF⊢
          exact HJ.out q p _ hF)
   · intro b7 c7 wz hz;obtain⟨ht7,hc7,hbz,hb7,hc7',hne⟩:=hz;refine hK5 _ _ ?_;clear hK5 hmk c0 c1 c2;have HTZ:=Hq (HTD.out.nextT hbz);have HRZ:=Hq (HRD.out.nextT hbz);have HBZ:=Hq (HBD.out.trans (hbz.mono HBD.out.size));have HSL:=Hq (HS0.out.kept HBZ.out (Nat.le_refl _));have H7:=Hq ht7;have HC7:=Hq hc7;have HX:=Hq (show w.heap.size+1<b7∧w.heap.size+1<c7∧b7≠c7 from by have:=HSZD.out;omega);obtain⟨c0,c1,c2⟩:=HTZ.out.c;obtain⟨p0,p1,p2⟩:=ht7.c;clear ht7 hc7 hbz hb7 hc7' hne;go_wp2_with (refine wpList_copy_nats rfl (.tmp 56) (.tmp 58) rfl c7 n cap _ l rfl rfl HC7.out HSL.out w.heap.size w HBZ.out (by have:=HX.out;omega) ?_);intro w3 hc3 ho3 hb3;have ht3:TB w3 w.heap.size (A) n cap s k:=(ho3 _ (by have:=HX.out;omega)).trans HTZ.out;have hr3:TB w3 (w.heap.size+1) none 0 0 ⟨#[]⟩ 0:=(ho3 _ (by have:=HX.out;omega)).trans HRZ.out;have h73:TB w3 b7 (some ⟨c7,0,none⟩) n n s ((k:Int)+1):=(ho3 _ (by have:=HX.out;omega)).trans H7.out;have HDS:=Hq (show DS w w3 A n cap s k b7 c7 l from⟨ht3,hr3,h73,hc3,hb3⟩);clear c0 c1 c2 p0 p1 p2 hc3 ho3 hb3 ht3 hr3 h73 HTD HRD HBD HTZ HRZ HBZ HSL H7 HC7 HS0 HS1 HB1 HT1 HR1 HSZ HSZD;clear hk1 hkm hkk h2' hcap2;obtain⟨c0,c1,c2⟩:=HDS.out.1.c;go_wp2;clear c0 c1 c2;go_loopw [73] (fun v wr=>∃ a:Nat,a≤256∧v=.int .i64 a∧(∀ j,j<a→¬ f j<N)∧DS w wr A n cap s k b7 c7 l) (fun v _=>256 - (RowKit.intOf v).toNat);case atStart=>exact⟨0,by omega,rfl,fun j h=>by omega,HDS.out⟩
     case round =>
      obtain⟨a,ha,rfl,hno,hds⟩:=hrel;have HNO:=Hq hno;have HDW:=Hq hds;clear hno hds;by_cases hlt:a<256
      · have hai:(a:Int)<256:=by omega
        have HLT:=Hq hlt;go_wp2;obtain⟨wd,hwd⟩:∃ wd,wr.drew=wd:=⟨_,rfl⟩;have hdd:DS w wd A n cap s k b7 c7 l:=by rw[←hwd];exact HDW.out.next (Below.refl _ _).drew
        have HDd:=Hq hdd;have HATa:=Hq (HAT.out a HLT.out wd (HT10.out.kept hdd.2.2.2.2 (Nat.le_refl _)));have HCMa:=Hq (HCM.out a);have hcm:=cmpI_ltP (x:=f a) (y:=N);obtain⟨k1,hk1⟩:∃ k1,ncmp (nS (f a)) M=k1:=⟨_,rfl⟩;have hk1':cmpI (f a) N=k1:=by rw[←hk1,←HMM.out,HCN.out a]
        rw[hk1]at HCMa;rw[hk1']at hcm;rw[HFE.out a]at HATa;obtain⟨x,hx⟩:∃ x,nS (f a)=x:=⟨_,rfl⟩;rw[hx]at HCMa HATa;have HX1:=Hq hx;have HC1:=Hq hcm;unfold tpV at HATa;clear hdd hk1 hk1' hx hcm;obtain⟨c0,c1,c2⟩:=HDd.out.1.c;refine wp_region_K 6 (Below (wd).heap.size (wd)) (by kernel_rfl) ?_;intro hD;rw[hwd];refine rT 0 76 5 rfl hD (Below.refl _ _) (by intro w' hS';have e0:=kC hS' c0;have e1:=kC hS' c1;have e2:=kC hS' c2;go_simp;with_reducible rfl) ?_;clear hD;intro hD;simp only[Act.put,sqA,sqB,sqC];refine rP 1 77 4 rfl hD (Below.refl _ _) ?_;clear hD;intro hD;simp only[Act.put,sqA,sqB,sqC];refine rP 2 78 3 rfl hD (Below.refl _ _) ?_;clear hD;intro hD;simp only[Act.put,sqA,sqB,sqC];refine rO 3 2 rfl hD ?_;clear hD;intro K3 hK3;go_wp2_with fail;refine(HBI.out _).mono ?_;rintro ev w4 ⟨rfl,rfl⟩;have HB3:=Hq (Below.refl wd.heap.size wd);go_wp2;refine hK3 _ _ (by exact HB3.out) ?_;clear hK3;intro hS_12_3 hD;refine rO 4 1 rfl hD ?_;clear hD;intro K4 hK4;go_wp2_with fail;refine HATa.out.mono ?_;rintro ev w5 ⟨rfl,hb⟩;have HB4:=Hq hb;clear hb;go_wp2;refine hK4 _ _ (by exact Below.trans hS_12_3 (Below.mono HB4.out (Below.size hS_12_3))) ?_;clear hK4;intro hS_12_4 hD;refine rO 5 0 rfl hD ?_;clear hD;intro K5 hK5;go_wp2;refine hK5 _ _ (by exact hS_12_4) ?_;clear hK5;intro hS_12_5 hD;refine wpAnyK_done (by kernel_rfl) ?_ 0;clear hD;have HD5:=Hq (HDd.out.next HB4.out);clear c0 c1 c2;go_wp2_with fail;refine(HCMa.out _).mono ?_;rintro ev w6 ⟨rfl,rfl⟩;by_cases hfn:f a<N
        · have hneg:k1<0:=by rw[HC1.out];exact hfn
          have HRV:=Hq (show r=(f a,0)from by rw[←HR.out,drwF_at HLT.out HNO.out hfn]);clear hfn;go_wp2;obtain⟨we,hwe⟩:∃ we,w5.drew=we:=⟨_,rfl⟩;have HE:=Hq (show DS w we A n cap s k b7 c7 l from by rw[←hwe];exact HD5.out.next (Below.refl _ _).drew);have HS0E:=Hq (show Below w.heap.size w we∧TB we b7 (some ⟨c7,0,none⟩) n n s ((k:Int)+1)from⟨HE.out.2.2.2.2,HE.out.2.2.1⟩);obtain⟨r0,r1,r2⟩:=HE.out.2.1.c;have f0:=HE.out.2.1.f 0;have f1:=HE.out.2.1.f 1;have f2:=HE.out.2.1.f 2;refine wp_region_K 5 (fun W'=>Below w.heap.size w W'∧TB W' b7 (some ⟨c7,0,none⟩) n n s ((k:Int)+1)) (by kernel_rfl) ?_;intro hD;rw[hwe];refine rP 0 85 4 rfl hD HS0E.out ?_;clear hD;intro hD;simp only[Act.put,sqA,sqB,sqC];refine rT 1 86 3 rfl hD HS0E.out (by intro w' hS';have e0:=hS'.2.c.1;have e1:=hS'.2.c.2.1;have e2:=hS'.2.c.2.2;go_simp;with_reducible rfl) ?_;clear hD;intro hD;simp only[Act.put,sqA,sqB,sqC];refine rO 2 2 rfl hD ?_;clear hD;intro K2 hK2;go_wp2;refine hK2 _ _ (by exact HS0E.out) ?_;clear hK2;intro hS_14_2 hD;refine rO 3 1 rfl hD ?_;clear hD;intro K3 hK3;go_wp2;refine hK3 _ _ (by exact⟨below_set3 (hS_14_2).1 (by omega) _ _ _,(((hS_14_2).2.off (by have:=HX.out;omega) _).off (by have:=HX.out;omega) _).off (by have:=HX.out;omega) _⟩) ?_;clear hK3;intro hS_14_3 hD;refine rO 4 0 rfl hD ?_;clear hD;intro K4 hK4;go_wp2;refine hK4 _ _ (by exact hS_14_3) ?_;clear hK4;intro hS_14_4 hD;refine wpAnyK_done (by kernel_rfl) ?_ 0;clear hD r0 r1 r2 f0 f1 f2;have hq:=HE.out.2.1.set3 (A':=some (⟨c7,0,none⟩:Addr)) (n':=n) (c':=n) (s':=s) (a':=(k:Int)+1);obtain⟨q0,q1,q2⟩:=hq.c;have HBQ:=Hq (hS_14_4).1;clear hq;go_wp2;refine bodyPost_ret (v:=.tuple #[.string x,.agg #[.slice (some ⟨c7,0,none⟩) n n,.string s,.int .i64 ((k:Int)+1)],.int .i64 0]) (by simp[results,Tryz.results60,go_sem,q0,q1,q2]) rfl ?_;rw[HRV.out];refine⟨some ⟨c7,0,none⟩,n,?_,?_,(fun b o h=>by cases h;have:=HX.out;omega),HBQ.out⟩
          · show _=Ending.returned (.tuple #[.string (nS (f a)),.agg #[.slice (some ⟨c7,0,none⟩) l.length n,.string s,.int .i64 ((k:Int)+1)],.int .i64 0]);rw[HLEN.out,HX1.out]
          · show SlN _ _ l.length n l;have hne:c7≠w.heap.size+1:=by have:=HX.out;omega
            have hc8:(((we.setCell ⟨w.heap.size+1,0,none⟩ (.slice (some ⟨c7,0,none⟩) n n)).setCell ⟨w.heap.size+1,1,none⟩ (.string s)).setCell ⟨w.heap.size+1,2,none⟩ (.int .i64 ((k:Int)+1))).heap[c7]? =some (.cells (l.map Value.string).toArray 22 (0,0)):=
             (heap_setCell_other _ _ _ _ hne).trans ((heap_setCell_other _ _ _ _ hne).trans ((heap_setCell_other _ _ _ _ hne).trans HE.out.2.2.2.1))
            have:=sln_heap hc8 (by have:=HLEN.out;have:=HN1.out;omega);rwa[HLEN.out]at this⊢
        · have hneg:¬ (k1<0):=by rw[HC1.out];exact hfn
          have HNN:=Hq (show ∀ j,j<a+1→¬ f j<N from fun j hj=>by
           rcases Nat.lt_or_ge j a with h | h
           · exact HNO.out j h
           · obtain rfl:j=a:=by omega
             exact hfn)
          clear hfn;go_wp2
          trace_state
          go_roundw;case rel=>exact⟨a+1,by have:=HLT.out;omega,by go_num,HNN.out,HD5.out⟩
          case measure=>have:=HLT.out;simp[RowKit.intOf];omega
      · obtain rfl:a=256:=by omega
        have HRV:=Hq (show r=(0,14)from by rw[←HR.out,drwF_none HNO.out]);have hai:¬ (((256:Nat):Int)<256):=by omega
        obtain⟨r0,r1,r2⟩:=HDW.out.2.1.c;have f0:=HDW.out.2.1.f 0;have f1:=HDW.out.2.1.f 1;have f2:=HDW.out.2.1.f 2;have hq:=HDW.out.2.1.set3 (A':=none) (n':=0) (c':=0) (s':=⟨#[]⟩) (a':=0);obtain⟨q0,q1,q2⟩:=hq.c;have HBQ:=Hq (below_set3 HDW.out.2.2.2.2 (C:=w.heap.size+1) (by omega) (.slice none 0 0) (.string ⟨#[]⟩) (.int .i64 0));clear hq hlt ha;go_wp2;refine bodyPost_ret (v:=.tuple #[.string ⟨#[]⟩,.agg #[.slice none 0 0,.string ⟨#[]⟩,.int .i64 0],.int .i64 14]) (by simp[results,Tryz.results60,go_sem,q0,q1,q2]) rfl ?_;rw[HRV.out];exact⟨none,0,rfl,SlN.nil _ 0 (by omega) none,(fun b o h=>by cases h),HBQ.out⟩
theorem tpG_parts{l:List ByteArray}{k:Int}(h:tpG l k=true):0≤k∧k≤2147483647∧l.all nvalid=true:=by
 unfold tpG at h;rw[Bool.and_eq_true,Bool.and_eq_true]at h;exact⟨of_decide_eq_true h.1.1,of_decide_eq_true h.1.2,h.2⟩
theorem co_draw(l:List ByteArray)(s:ByteArray)(k:Int)(N:Nat)(A:Option Addr)(n cap:Nat)(hg:tpG l k=true)(hn:n≤1000)(hs64:s.size≤1000000)(hN0:0<N)(hN:N<256 ^ 32)(w:World)(hs:SlN w A n cap l)(ht:T10 w) :
 Calls Tryz.prog 60 #[tpV A n cap s k,.string (nS N)] w (RetC (dwN l s k N) (tpN (dwN l s k N).2 l s k) w):=by
 obtain⟨h0,h1,hall⟩:=tpG_parts hg;obtain⟨q,rfl⟩:∃ q:Nat,k=(q:Int):=⟨k.toNat,by omega⟩;by_cases hq:q<n
 · have hlen:=hs.1;obtain⟨y,hy⟩:∃ y,l[q]? =some y:=⟨_,List.getElem?_eq_getElem (by omega)⟩;have e:dwN l s q N=if num y<N then(num y,0)else(0,2):=by
    unfold dwN;rw[if_pos (by omega),Int.toNat_natCast,List.getD_eq_getElem?_getD,hy];rfl
   rw[e];exact co_drawV l s q N A n cap y hy hq hn (List.all_eq_true.1 hall y (List.mem_of_getElem? hy)) (Nat.lt_trans hN (by decide)) w hs
 · exact co_drawS l s q N A n cap (by omega) (by omega) hn hs64 hN0 hN w hs ht
theorem co_Below(l:List ByteArray)(s:ByteArray)(k:Int)(N:ByteArray)(A:Option Addr)(n cap:Nat)(hn:n≤1000)(hp:∀ x∈l,x.size≤9223372036854775807)(hs64:s.size≤1000000)(hN:N.size≤32)(w:World)(hs:SlN w A n cap l)(ht:T10 w) :
 Calls Tryz.prog 43 #[tpV A n cap s k,.string N] w (RetC (coN l s k N) (tpN (coN l s k N).2 l s k) w):=by
 refine co_Below_of l s k N A n cap hp (by omega) w (fun hg hv he W hb hsW=>?_) hs;have hlt:num N<256 ^ 32:=Nat.lt_of_lt_of_le (num_lt_size N) (Nat.pow_le_pow_right (by omega) hN);have hpos:0<num N:=by
  rcases Nat.eq_zero_or_pos (num N)with h | h
  · rw[nS_num hv,h,show (nS 0).toList.isEmpty=true from sempty_true rfl]at he;cases he
  · exact h
 have:=co_draw l s k (num N) A n cap hg hn hs64 hpos hlt W hsW (ht.kept hb (Nat.le_refl _));rwa[←nS_num hv]at this
end Go.Proofs.YtamhonjkgkmdbaaGreatDoor

import Derived.Test.YtopmeciihijgiaaGreatDoorQCoBs
set_option linter.unusedVariables false
set_option linter.unusedSimpArgs false
namespace Go.Proofs.YtopmeciihijgiaaGreatDoor
set_option maxRecDepth 100000
set_option maxHeartbeats 4000000
open Go.RowKit
theorem cmpI_ltP{x y:Nat}:(cmpI x y<0)=(x<y):=by
 unfold cmpI;split
 · simp_all
 · split<;>simp_all
theorem size_validC{s:ByteArray}(h:nvalid s=true):s.size≤128:=by
 unfold nvalid at h;rw[Bool.and_eq_true]at h;exact of_decide_eq_true h.1
theorem join2{K:Act→World→Prop}{Fc:Nat→Nat→World→Prop}{G:Prop}(F:Nat→Nat→Act)(hm:(∀ b c w,Fc b c w→K (F b c) w)→G)(hr:∀ b c w,Fc b c w→K (F b c) w):G:=hm hr
theorem TB.set3{W:World}{B:Nat}{A A':Option Addr}{n c n' c':Nat}{s s':ByteArray}{a a':Int}(h:TB W B A n c s a) :
 TB (((W.setCell ⟨B,0,none⟩ (.slice A' n' c')).setCell ⟨B,1,none⟩ (.string s')).setCell ⟨B,2,none⟩ (.int .i64 a')) B A' n' c' s' a':=
 block_setCell (block_setCell (block_setCell h _) _) _
theorem TB.off{W:World}{B C k:Nat}{A:Option Addr}{n c:Nat}{s:ByteArray}{a:Int}(h:TB W B A n c s a)(hne:B≠C)(u:Value):TB (W.setCell ⟨C,k,none⟩ u) B A n c s a:=(heap_setCell_other _ _ _ _ hne).trans h
theorem below_set3{B:Nat}{w W:World}(h:Below B w W){C:Nat}(hC:B≤C)(u v x:Value):Below B w (((W.setCell ⟨C,0,none⟩ u).setCell ⟨C,1,none⟩ v).setCell ⟨C,2,none⟩ x):=
 ((h.setCell (p:=⟨C,0,none⟩) hC _).setCell (p:=⟨C,1,none⟩) hC _).setCell (p:=⟨C,2,none⟩) hC _
theorem make_nats(n:Nat)(hn:n≤1000000)(w:World):(Instr.makeSlice 28 (.int .i64 n) (.int .i64 n)).run Tryz.prog w=.ok (.slice (some ⟨w.heap.size,0,none⟩) n n) (w.alloc (.cells (madeCells #[.string ⟨#[]⟩] n) 22)):=by
 obtain⟨i0,hi,hz0,hz1,hz2⟩:=info_parts nat_info;have h:=run_make (P:=Tryz.prog) w 28 22 i0 (.string ⟨#[]⟩) Tryz.underlying28 hi hz0 .i64 .i64 (n:Int) (n:Int) (by omega) (by omega) (by rw[hz2];omega) (by omega);rw[h,hz1,Int.toNat_natCast,Nat.mul_one];rfl
theorem sln_heap{w:World}{B:Nat}{l:List ByteArray}{T:TypeId}{fr:Nat×Nat}(h:w.heap[B]? =some (.cells (l.map Value.string).toArray T fr))(hl:l.length≤9223372036854775807):SlN w (some ⟨B,0,none⟩) l.length l.length l:=by
 refine⟨rfl,Nat.le_refl _,hl,B,0,fun _=>rfl,fun k s hk=>?_⟩;rw[Nat.zero_add,Lib.cell_of_heap h];simp[hk]
def NT(V:World)(n:Nat)(s:ByteArray)(k:Int)(b c:Nat)(W:World):Prop:=
 TB W b (some ⟨c,0,none⟩) n n s k∧W.heap[c]? =some (.cells (madeCells #[.string ⟨#[]⟩] n) 22 (0,0))∧Below V.heap.size V W∧V.heap.size≤b∧V.heap.size≤c∧b≠c
theorem NT.a(V:World)(n:Nat)(s:ByteArray)(k:Int):NT V n s k (V.heap.size+1) V.heap.size ((V.alloc (.cells (madeCells #[.string ⟨#[]⟩] n) 22)).alloc (.cells #[.slice (some ⟨V.heap.size,0,none⟩) n n,.string s,.int .i64 k] 30)):=by
 refine⟨?_,?_,((blr).alloc nlr _).alloc (by simp) _,by omega,Nat.le_refl _,by omega⟩
 · have:=TB.new (V.alloc (.cells (madeCells #[.string ⟨#[]⟩] n) 22)) (some ⟨V.heap.size,0,none⟩) n n s k;rwa[World.size_alloc]at this
 · exact(Below.heap_alloc _ _ _ (by simp)).trans (heap_alloc_new _ _)
theorem NT.b(V:World)(n:Nat)(s:ByteArray)(k:Int):NT V n s k V.heap.size (V.heap.size+1) ((V.alloc (.cells #[.slice (some ⟨V.heap.size+1,0,none⟩) n n,.string s,.int .i64 k] 30)).alloc (.cells (madeCells #[.string ⟨#[]⟩] n) 22)):=by
 refine⟨?_,?_,((blr).alloc nlr _).alloc (by simp) _,Nat.le_refl _,by omega,by omega⟩
 · exact(TB.new V (some ⟨V.heap.size+1,0,none⟩) n n s k).nextT ((blr).alloc nlr _)
 · have:=heap_alloc_new (V.alloc (.cells #[.slice (some ⟨V.heap.size+1,0,none⟩) n n,.string s,.int .i64 k] 30)) (.cells (madeCells #[.string ⟨#[]⟩] n) 22);rwa[World.size_alloc]at this
theorem wpList_copy_nats{w:World}{ops:Array Oper}{rest:List Oper}{o:Oper}{a:Act}{Q:Exit→Act→World→Prop}(hgd:o.guard=none)(d s:Operand)
 (ho:o.op=.call { callee:=.builtin .copy,args:=#[d,s],argTypes:=#[28,28] }) (g n cap:Nat) (A:Option Addr) (l:List ByteArray)
 (hd:a.eval d=.slice (some ⟨g,0,none⟩) n n) (hs:a.eval s=.slice A n cap) (hg:w.heap[g]? =some (.cells (madeCells #[.string ⟨#[]⟩] n) 22 (0,0))) (hl:SlN w A n cap l) (B:Nat) (w0:World) (hb:Below B w0 w) (hBg:B≤g)
 (h:∀ w',w'.heap[g]? =some (.cells (l.map Value.string).toArray 22 (0,0))→(∀ j,j≠g→w'.heap[j]? =w.heap[j]?)→Below B w0 w'→wpList Tryz.prog ops Q rest (a.put o.dst (goInt n)) w'):wpList Tryz.prog ops Q (o::rest) a w:=by
 have hll:=hl.1;obtain⟨i0,hi,hz0,hz1,hz2⟩:=info_parts nat_info;by_cases h0:n=0
 · subst h0;refine wpList_copy_nothing hgd d s 28 28 ho 22 Tryz.underlying28 (by rw[hi];simp[hz1]) _ _ _ _ _ _ hd hs rfl ?_;obtain rfl:=List.eq_nil_of_length_eq_zero hll;exact h w (hg.trans (congrArg (fun c=>some (Obj.cells c 22 (0,0))) (show madeCells #[.string ⟨#[]⟩] 0=#[]from by kernel_rfl))) (fun _ _=>rfl) hb
 · obtain⟨b,o',rfl⟩:=hl.head (by omega);have:=wpList_copy_own (ops:=ops) (rest:=rest) (Q:=Q) (w:=w) hgd d s 28 28 ho 22 Tryz.underlying28 (by rw[hi];simp[hz1]) g 0 n n ⟨b,o',none⟩ n cap hd hs _ _ hg (l.map Value.string) (by simp[hll]) hl.cells (by simp[hll,size_madeCells]) (fun v hv=>by obtain⟨x,_,rfl⟩:=List.mem_map.1 hv;rfl);refine this ?_;rw[List.length_map,hll];refine h _ ?_ (fun j hj=>setRow_other _ _ _ _ hj) (below_setRow hb hBg _);rw[setRow_heap _ _ _ _ _ _ hg];refine congrArg (fun c=>some (Obj.cells c 22 (0,0))) (congrArg List.toArray ?_);rw[List.take_zero,List.nil_append,List.drop_eq_nil_of_le (by simp[hll,size_madeCells]),List.append_nil]
theorem co_drawV(l:List ByteArray)(s:ByteArray)(k N:Nat)(A:Option Addr)(n cap:Nat)(y:ByteArray)(hy:l[k]? =some y)(hk:k<n)(hn:n≤1000)(vy:nvalid y=true)(hN:N<256 ^ 128)(w:World)(hs:SlN w A n cap l) :
 Calls Tryz.prog 93 #[tpV A n cap s k,.string (nS N)] w (RetC (if num y<N then(num y,0)else(0,2)) (tpN (if num y<N then(num y,0)else(0,2)).2 l s k) w):=by
 obtain⟨b,o,rfl⟩:=hs.head (by omega);have ly:=num_lt (size_validC vy);have HCM:=Hq (nat_Cmp (nS (num y)) (nS N) (by have:=nS_size_le.2 ly;omega) (by have:=nS_size_le.2 hN;omega));rw[ncmp_n ly hN,←nS_num vy]at HCM;have hcm:=cmpI_ltP (x:=num y) (y:=N);obtain⟨k1,hk1⟩:∃ k,cmpI (num y) N=k:=⟨_,rfl⟩;rw[hk1]at HCM hcm;have HLEN:=Hq hs.1;have hcap:=hs.2.1;have hcap2:=hs.2.2.1;have hki:(k:Int)<(n:Int):=by omega
 obtain⟨A,hA⟩:∃ A,some (⟨b,o,none⟩:Addr)=A:=⟨_,rfl⟩;have hs':=hs;rw[hA]at hs;have hb1:=((Below.refl w.heap.size w).alloc nlr (.cells #[.slice A n cap,.string s,.int .i64 k] 30)).alloc (by simp) (.cells #[.slice none 0 0,.string ⟨#[]⟩,.int .i64 0] 30);have ht1:TB ((w.alloc (.cells #[.slice A n cap,.string s,.int .i64 k] 30)).alloc (.cells #[.slice none 0 0,.string ⟨#[]⟩,.int .i64 0] 30)) w.heap.size A n cap s k:=(TB.new w A n cap s k).nextT ((blr).alloc nlr _);have hr1:TB ((w.alloc (.cells #[.slice A n cap,.string s,.int .i64 k] 30)).alloc (.cells #[.slice none 0 0,.string ⟨#[]⟩,.int .i64 0] 30)) (w.heap.size+1) none 0 0 ⟨#[]⟩ 0:=(by have:=TB.new (w.alloc (.cells #[.slice A n cap,.string s,.int .i64 k] 30)) none 0 0 ⟨#[]⟩ 0;rwa[World.size_alloc]at this);obtain⟨W1,hW1⟩:∃ W,(w.alloc (.cells #[.slice A n cap,.string s,.int .i64 k] 30)).alloc (.cells #[.slice none 0 0,.string ⟨#[]⟩,.int .i64 0] 30)=W:=⟨_,rfl⟩;have HSZ:=Hq (show W1.heap.size=w.heap.size+1+1 from by rw[←hW1];simp);rw[hW1]at hb1 ht1 hr1;have HB1:=Hq hb1;have HT1:=Hq ht1;have HR1:=Hq hr1;have hs1:=hs.kept hb1 nlr;have HS0:=Hq hs;have HS1:=Hq hs1;obtain⟨c0,c1,c2⟩:=ht1.c;obtain⟨r0,r1,r2⟩:=hr1.c;have f0:=hr1.f 0;have f1:=hr1.f 1;have f2:=hr1.f 2;subst hA;have d0:=HS1.out.get? k hy;have HY:=Hq hy;obtain⟨M,hM⟩:∃ M,nS N=M:=⟨_,rfl⟩;rw[hM]at HCM⊢;unfold tpV;by_cases hlt:num y<N
 · have hge : ¬ (0 ≤ k1) := by have : k1 < 0 := by rw [hcm]; exact hlt
                               omega
   have HNY:=Hq (nS_num vy);have hkk:¬ ((k:Int)=2147483647):=by omega
   rw[if_pos hlt];have HK:=Hq hk;have HN1:=Hq hn;clear hlt hy hs hs' hb1 ht1 hr1 hs1 hcm hk1 vy ly hN hM hk;go_enter Tryz.func93,Tryz.ntmps93;go_wp2_with fail;try rw[hW1]
   clear hW1;refine(HCM.out _).mono ?_;rintro ev w2 ⟨rfl,rfl⟩;go_wp2;rename_i K5 hK5;refine wp_onlyN ?_;obtain⟨wd,hwd⟩:∃ wd,W1.drew=wd:=⟨_,rfl⟩;have hbd:Below W1.heap.size W1 wd:=by rw[←hwd];exact(blr).drew
   have HTD:=Hq (HT1.out.nextT hbd);have HRD:=Hq (HR1.out.nextT hbd);have HBD:=Hq (HB1.out.trans (hbd.mono HB1.out.size));have HSZD:=Hq (show w.heap.size+1<wd.heap.size from by have:=hbd.size;have:=HSZ.out;omega);clear hbd c0 c1 c2 r0 r1 r2 f0 f1 f2 d0;obtain⟨c0,c1,c2⟩:=HTD.out.c;have hmk:=fun W=>make_nats n (by have:=HN1.out;omega) W;have hk1:(k:Int)≤1000:=by have:=HK.out;have:=HN1.out;omega
   apply join2 (K:=K5) (Fc:=NT wd n s ((k:Int)+1))
   · intro HJ;have HJ:=Hq HJ;refine wp_region_K 12 (Below (wd).heap.size (wd)) (by kernel_rfl) ?_;intro hD;rw[hwd];refine rP 0 45 11 rfl hD blr ?_;clear hD;intro hD;refine rT 1 46 10 rfl hD blr (by intro w' hS';have e0:=kC hS' c0;have e1:=kC hS' c1;have e2:=kC hS' c2;go_simp;with_reducible rfl) ?_;clear hD;intro hD;refine rP 2 47 9 rfl hD blr ?_;clear hD;intro hD;refine rP 4 49 8 rfl hD blr ?_;clear hD;intro hD;refine rT 5 50 7 rfl hD blr (by intro w' hS';have e0:=kC hS' c0;have e1:=kC hS' c1;have e2:=kC hS' c2;go_simp;with_reducible rfl) ?_;clear hD;intro hD;refine rP 6 51 6 rfl hD blr ?_;clear hD;intro hD;refine rT 7 52 5 rfl hD blr (by intro w' hS';have e0:=kC hS' c0;have e1:=kC hS' c1;have e2:=kC hS' c2;go_simp;with_reducible rfl) ?_;clear hD;intro hD;refine rP 8 53 4 rfl hD blr ?_;clear hD;intro hD;simp only[Act.put,sqA,sqB,sqC];refine wpAnyK_two (i:=3) (i':=10) (fuel:=3) (by kernel_rfl) rfl rfl hD ?_ ?_ 
     · unfold StepK;clear hD;intro K3 hK3;go_wp2;refine hK3 _ _ (by exact(blr).alloc nlr _) ?_;clear hK3;intro hS_5_3 hD;refine rP 9 54 2 rfl hD hS_5_3 ?_;clear hD;intro hD;simp only[Act.put,sqA,sqB,sqC];refine rO 10 1 rfl hD ?_;clear hD;intro K10 hK10;go_wp2;refine hK10 _ _ (by exact Below.alloc hS_5_3 (Below.size hS_5_3) _) ?_;clear hK10;intro hS_5_10_3 hD;refine rO 11 0 rfl hD ?_;clear hD;intro K11 hK11;go_wp2;refine hK11 _ _ (by exact((blr).alloc nlr _).alloc (by simp) _) ?_;clear hK11;intro hS_5_11_3 hD;refine wpD ?_;clear hD;show K5 _ _;first
       | (have hF := NT.a wd n s ((k : Int) + 1)
          obtain⟨wz,hwz⟩:∃ W,(wd.alloc (.cells (madeCells #[.string ⟨#[]⟩] n) 22)).alloc (.cells #[.slice (some ⟨wd.heap.size,0,none⟩) n n,.string s,.int .i64 ((k:Int)+1)] 30)=W:=⟨_,rfl⟩;rw[hwz]at hF⊢;clear hwz;obtain⟨p,hp⟩:∃ p,wd.heap.size+1=p:=⟨_,rfl⟩;rw[hp]at hF⊢;obtain⟨q,hq⟩:∃ q,wd.heap.size=q:=⟨_,rfl⟩;rw[hq]at hF⊢
          exact HJ.out p q _ hF)
       | (have hF := NT.b wd n s ((k : Int) + 1)
          obtain⟨wz,hwz⟩:∃ W,(wd.alloc (.cells #[.slice (some ⟨wd.heap.size+1,0,none⟩) n n,.string s,.int .i64 ((k:Int)+1)] 30)).alloc (.cells (madeCells #[.string ⟨#[]⟩] n) 22)=W:=⟨_,rfl⟩;rw[hwz]at hF⊢;clear hwz;obtain⟨p,hp⟩:∃ p,wd.heap.size+1=p:=⟨_,rfl⟩;rw[hp]at hF⊢;obtain⟨q,hq⟩:∃ q,wd.heap.size=q:=⟨_,rfl⟩;rw[hq]at hF⊢
          exact HJ.out q p _ hF)
     · unfold StepK;clear hD;intro K10 hK10;go_wp2;refine hK10 _ _ (by exact(blr).alloc nlr _) ?_;clear hK10;intro hS_5_10 hD;refine rO 3 2 rfl hD ?_;clear hD;intro K3 hK3;go_wp2;refine hK3 _ _ (by exact Below.alloc hS_5_10 (Below.size hS_5_10) _) ?_;clear hK3;intro hS_5_3_10 hD;refine rP 9 54 1 rfl hD hS_5_3_10 ?_;clear hD;intro hD;simp only[Act.put,sqA,sqB,sqC];refine rO 11 0 rfl hD ?_;clear hD;intro K11 hK11;go_wp2;refine hK11 _ _ (by exact((blr).alloc nlr _).alloc (by simp) _) ?_;clear hK11;intro hS_5_11_10 hD;refine wpD ?_;clear hD;show K5 _ _;first
       | (have hF := NT.a wd n s ((k : Int) + 1)
          obtain⟨wz,hwz⟩:∃ W,(wd.alloc (.cells (madeCells #[.string ⟨#[]⟩] n) 22)).alloc (.cells #[.slice (some ⟨wd.heap.size,0,none⟩) n n,.string s,.int .i64 ((k:Int)+1)] 30)=W:=⟨_,rfl⟩;rw[hwz]at hF⊢;clear hwz;obtain⟨p,hp⟩:∃ p,wd.heap.size+1=p:=⟨_,rfl⟩;rw[hp]at hF⊢;obtain⟨q,hq⟩:∃ q,wd.heap.size=q:=⟨_,rfl⟩;rw[hq]at hF⊢
          exact HJ.out p q _ hF)
       | (have hF := NT.b wd n s ((k : Int) + 1)
          obtain⟨wz,hwz⟩:∃ W,(wd.alloc (.cells #[.slice (some ⟨wd.heap.size+1,0,none⟩) n n,.string s,.int .i64 ((k:Int)+1)] 30)).alloc (.cells (madeCells #[.string ⟨#[]⟩] n) 22)=W:=⟨_,rfl⟩;rw[hwz]at hF⊢;clear hwz;obtain⟨p,hp⟩:∃ p,wd.heap.size+1=p:=⟨_,rfl⟩;rw[hp]at hF⊢;obtain⟨q,hq⟩:∃ q,wd.heap.size=q:=⟨_,rfl⟩;rw[hq]at hF⊢
          exact HJ.out q p _ hF)
   · intro b7 c7 wz hz;obtain⟨ht7,hc7,hbz,hb7,hc7',hne⟩:=hz;refine hK5 _ _ ?_;clear hK5 hmk c0 c1 c2;have HTZ:=Hq (HTD.out.nextT hbz);have HRZ:=Hq (HRD.out.nextT hbz);have HBZ:=Hq (HBD.out.trans (hbz.mono HBD.out.size));have HSL:=Hq (HS0.out.kept HBZ.out nlr);have H7:=Hq ht7;have HC7:=Hq hc7;have HX:=Hq (show w.heap.size+1<b7∧w.heap.size+1<c7∧b7≠c7 from by have:=HSZD.out;omega);obtain⟨c0,c1,c2⟩:=HTZ.out.c;obtain⟨p0,p1,p2⟩:=ht7.c;clear ht7 hc7 hbz hb7 hc7' hne;go_wp2_with (refine wpList_copy_nats rfl (.tmp 56) (.tmp 58) rfl c7 n cap _ l rfl rfl HC7.out HSL.out w.heap.size w HBZ.out (by have:=HX.out;omega) ?_);intro w3 hc3 ho3 hb3;have ht3:TB w3 w.heap.size (some ⟨b,o,none⟩) n cap s k:=(ho3 _ (by have:=HX.out;omega)).trans HTZ.out;have hr3:TB w3 (w.heap.size+1) none 0 0 ⟨#[]⟩ 0:=(ho3 _ (by have:=HX.out;omega)).trans HRZ.out;have h73:TB w3 b7 (some ⟨c7,0,none⟩) n n s ((k:Int)+1):=(ho3 _ (by have:=HX.out;omega)).trans H7.out;have hs3:SlN w3 (some ⟨c7,0,none⟩) n n l:=by
      have:=sln_heap hc3 (by have:=HLEN.out;omega);rwa[HLEN.out]at this
     have HT3:=Hq ht3;have HR3:=Hq hr3;have H73:=Hq h73;have HS3:=Hq hs3;have HB3:=Hq hb3;have HC3:=Hq hc3;clear c0 c1 c2 p0 p1 p2 hc3 ho3 hb3 ht3 hr3 h73 hs3;obtain⟨c0,c1,c2⟩:=HT3.out.c;go_wp2;obtain⟨we,hwe⟩:∃ we,w3.drew=we:=⟨_,rfl⟩;have hbe:Below w3.heap.size w3 we:=by rw[←hwe];exact(blr).drew
     have HCE:=Hq ((hbe.block c7 (block_lt HC3.out)).trans HC3.out);have HS0E:=Hq (show Below w.heap.size w we∧TB we w.heap.size (some ⟨b,o,none⟩) n cap s k∧TB we b7 (some ⟨c7,0,none⟩) n n s ((k:Int)+1)from⟨HB3.out.trans (hbe.mono HB3.out.size),HT3.out.nextT hbe,H73.out.nextT hbe⟩);have HRE:=Hq (HR3.out.nextT hbe);clear hbe c0 c1 c2;obtain⟨r0,r1,r2⟩:=HRE.out.c;have f0:=HRE.out.f 0;have f1:=HRE.out.f 1;have f2:=HRE.out.f 2;refine wp_region_K 10 (fun W'=>Below w.heap.size w W'∧TB W' w.heap.size (some ⟨b,o,none⟩) n cap s k∧TB W' b7 (some ⟨c7,0,none⟩) n n s ((k:Int)+1)) (by kernel_rfl) ?_;intro hD;rw[hwe];have KK2:=Hq (fun w' (hS':(fun W'=>Below w.heap.size w W'∧TB W' w.heap.size (some ⟨b,o,none⟩) n cap s k∧TB W' b7 (some ⟨c7,0,none⟩) n n s ((k:Int)+1)) w')=>And.intro (hS'.2.1.c.1) (And.intro (hS'.2.1.c.2.1) (And.intro (hS'.2.1.c.2.2) (And.intro ((HS0.out.kept hS'.1 nlr).get? k HY.out) (And.intro (hS'.2.2.c.1) (And.intro (hS'.2.2.c.2.1) (hS'.2.2.c.2.2)))))));refine rP 0 66 9 rfl hD HS0E.out ?_;clear hD;intro hD;refine rT 1 67 8 rfl hD HS0E.out (by intro w' hS';obtain⟨e0,e1,e2,e3,e4,e5,e6⟩:=KK2.out w' hS';go_simp;with_reducible rfl) ?_;clear hD;intro hD;refine rP 2 68 7 rfl hD HS0E.out ?_;clear hD;intro hD;refine rT 3 69 6 rfl hD HS0E.out (by intro w' hS';obtain⟨e0,e1,e2,e3,e4,e5,e6⟩:=KK2.out w' hS';go_simp;with_reducible rfl) ?_;clear hD;intro hD;refine rP 4 70 5 rfl hD HS0E.out ?_;clear hD;intro hD;refine rT 5 71 4 rfl hD HS0E.out (by intro w' hS';obtain⟨e0,e1,e2,e3,e4,e5,e6⟩:=KK2.out w' hS';go_simp;with_reducible rfl) ?_;clear hD;intro hD;refine rT 6 72 3 rfl hD HS0E.out (by intro w' hS';obtain⟨e0,e1,e2,e3,e4,e5,e6⟩:=KK2.out w' hS';go_simp;with_reducible rfl) ?_;clear hD;intro hD;simp only[Act.put,sqA,sqB,sqC];refine rO 7 2 rfl hD ?_;clear hD;intro K7 hK7;go_wp2;refine hK7 _ _ (by exact HS0E.out) ?_;clear hK7;intro hS_8_7 hD;refine rO 8 1 rfl hD ?_;clear hD;intro K8 hK8;go_wp2;refine hK8 _ _ (by exact⟨below_set3 (hS_8_7).1 (by omega) _ _ _,(((hS_8_7).2.1.off (by omega) _).off (by omega) _).off (by omega) _,(((hS_8_7).2.2.off (by have:=HX.out;omega) _).off (by have:=HX.out;omega) _).off (by have:=HX.out;omega) _⟩) ?_;clear hK8;intro hS_8_8 hD;refine rO 9 0 rfl hD ?_;clear hD;intro K9 hK9;go_wp2;refine hK9 _ _ (by exact hS_8_8) ?_;clear hK9;intro hS_8_9 hD;refine wpD ?_;clear hD r0 r1 r2 f0 f1 f2;have hq:=HRE.out.set3 (A':=some (⟨c7,0,none⟩:Addr)) (n':=n) (c':=n) (s':=s) (a':=(k:Int)+1);obtain⟨q0,q1,q2⟩:=hq.c;have HBQ:=Hq (hS_8_9).1;go_wp2;refine bodyPost_ret (v:=.tuple #[.string y,.agg #[.slice (some ⟨c7,0,none⟩) n n,.string s,.int .i64 ((k:Int)+1)],.int .i64 0]) (by simp[results,Tryz.results93,go_sem,q0,q1,q2]) rfl ?_;refine⟨some ⟨c7,0,none⟩,n,?_,?_,(fun b o h=>by cases h;have:=HX.out;omega),HBQ.out⟩
     · show _=Ending.returned (.tuple #[.string (nS (num y)),.agg #[.slice (some ⟨c7,0,none⟩) l.length n,.string s,.int .i64 ((k:Int)+1)],.int .i64 0]);rw[HLEN.out,←HNY.out]
     · show SlN _ _ l.length n l;have hne:c7≠w.heap.size+1:=by have:=HX.out;omega
       have hc8:(((we.setCell ⟨w.heap.size+1,0,none⟩ (.slice (some ⟨c7,0,none⟩) n n)).setCell ⟨w.heap.size+1,1,none⟩ (.string s)).setCell ⟨w.heap.size+1,2,none⟩ (.int .i64 ((k:Int)+1))).heap[c7]? =some (.cells (l.map Value.string).toArray 22 (0,0)):=
        (heap_setCell_other _ _ _ _ hne).trans ((heap_setCell_other _ _ _ _ hne).trans ((heap_setCell_other _ _ _ _ hne).trans HCE.out))
       have:=sln_heap hc8 (by have:=HLEN.out;omega);rwa[HLEN.out]at this⊢
 · have hge : 0 ≤ k1 := by have : ¬ (k1 < 0) := by rw [hcm]; exact hlt
                           omega
   rw[if_neg hlt];clear hlt hy hs hs' hb1 ht1 hs1 hcm hk1 vy ly hN hM hk;go_enter Tryz.func93,Tryz.ntmps93;go_wp2_with fail;try rw[hW1]
   clear hW1;refine(HCM.out _).mono ?_;rintro ev w2 ⟨rfl,rfl⟩;have hq:=hr1.set3 (A':=none) (n':=0) (c':=0) (s':=⟨#[]⟩) (a':=0);obtain⟨q0,q1,q2⟩:=hq.c;have HBQ:=Hq (below_set3 HB1.out (C:=w.heap.size+1) (by omega) (.slice none 0 0) (.string ⟨#[]⟩) (.int .i64 0));clear hr1 hq;go_wp2;refine bodyPost_ret (v:=.tuple #[.string ⟨#[]⟩,.agg #[.slice none 0 0,.string ⟨#[]⟩,.int .i64 0],.int .i64 2]) (by simp[results,Tryz.results93,go_sem,q0,q1,q2]) rfl ?_;exact⟨none,0,rfl,SlN.nil _ 0 (by omega) none,(fun b o h=>by cases h),HBQ.out⟩
set_option maxRecDepth 100000
set_option maxHeartbeats 4000000
theorem tpN_err{e:Int}(h:¬ e=0)(l:List ByteArray)(s:ByteArray)(k:Int):tpN e l s k=([],⟨#[]⟩,0):=if_neg h
theorem SlN.setB{W:World}{A:Option Addr}{n c R k:Nat}{l:List ByteArray}{u:Value}(h:SlN W A n c l)(hf:∀ b o,A=some ⟨b,o,none⟩→R<b):SlN (W.setCell ⟨R,k,none⟩ u) A n c l:=by
 obtain⟨h1,h2,h3,b,o,h4,h5⟩:=h;refine⟨h1,h2,h3,b,o,h4,fun j s hj=>?_⟩;have hlt:=(List.getElem?_eq_some_iff.1 hj).1;have hb:=hf b o (h4 (by omega));have e:(W.setCell ⟨R,k,none⟩ u).heap[b]? =W.heap[b]?:=heap_setCell_other _ _ _ _ (by simp;omega);have:=h5 j s hj;unfold World.cell? at this⊢;rw[e];exact this
theorem co_Below_of(l:List ByteArray)(s:ByteArray)(k:Int)(N:ByteArray)(A:Option Addr)(n cap:Nat)(hp:∀ x∈l,x.size≤9223372036854775807)(hN:N.size≤9223372036854775807)(w:World)
 (hd:tpG l k=true→nvalid N=true→N.toList.isEmpty=false→∀ W,Below w.heap.size w W→SlN W A n cap l→Calls Tryz.prog 93 #[tpV A n cap s k,.string N] W (RetC (dwN l s k (num N)) (tpN (dwN l s k (num N)).2 l s k) W)) (hs:SlN w A n cap l) :
 Calls Tryz.prog 52 #[tpV A n cap s k,.string N] w (RetC (coN l s k N) (tpN (coN l s k N).2 l s k) w):=by
 have HRD:=Hq (fun W hs=>co_ready l s k N A n cap W hs hp hN);have HD:=Hq hd;clear hd;have hb1:=((Below.refl w.heap.size w).alloc nlr (.cells #[.slice A n cap,.string s,.int .i64 k] 30)).alloc (by simp) (.cells #[.slice none 0 0,.string ⟨#[]⟩,.int .i64 0] 30);have ht1:TB ((w.alloc (.cells #[.slice A n cap,.string s,.int .i64 k] 30)).alloc (.cells #[.slice none 0 0,.string ⟨#[]⟩,.int .i64 0] 30)) w.heap.size A n cap s k:=(TB.new w A n cap s k).nextT ((blr).alloc nlr _);have hr1:TB ((w.alloc (.cells #[.slice A n cap,.string s,.int .i64 k] 30)).alloc (.cells #[.slice none 0 0,.string ⟨#[]⟩,.int .i64 0] 30)) (w.heap.size+1) none 0 0 ⟨#[]⟩ 0:=(by have:=TB.new (w.alloc (.cells #[.slice A n cap,.string s,.int .i64 k] 30)) none 0 0 ⟨#[]⟩ 0;rwa[World.size_alloc]at this);obtain⟨W1,hW1⟩:∃ W,(w.alloc (.cells #[.slice A n cap,.string s,.int .i64 k] 30)).alloc (.cells #[.slice none 0 0,.string ⟨#[]⟩,.int .i64 0] 30)=W:=⟨_,rfl⟩;have HSZ:=Hq (show W1.heap.size=w.heap.size+1+1 from by rw[←hW1];simp);rw[hW1]at hb1 ht1 hr1;have HB1:=Hq hb1;have HT1:=Hq ht1;have HR1:=Hq hr1;have hs1:=hs.kept hb1 nlr;have HS0:=Hq hs;have HS1:=Hq hs1;obtain⟨c0,c1,c2⟩:=ht1.c;obtain⟨r0,r1,r2⟩:=hr1.c;have f0:=hr1.f 0;have f1:=hr1.f 1;have f2:=hr1.f 2;have HRR:=Hq (show rdN l k N=if (tpG l k&&nvalid N)=true then(if N.toList.isEmpty=true then 11 else 0)else 3 from rfl);have HRC:=Hq (show coN l s k N=if (tpG l k&&nvalid N)=true then(if N.toList.isEmpty=true then(0,11)else dwN l s k (num N))else(0,3)from rfl);unfold tpV at *;by_cases he:rdN l k N=0
 · have hok:tpG l k=true∧nvalid N=true∧N.toList.isEmpty=false:=by
    rw[HRR.out]at he;split at he
    · rename_i h1;rw[Bool.and_eq_true]at h1;split at he
      · cases he
      · rename_i h2;exact⟨h1.1,h1.2,by simpa using h2⟩
    · cases he
   have HDD:=Hq (HD.out hok.1 hok.2.1 hok.2.2);rw[HRC.out,hok.1,hok.2.1,hok.2.2];simp only[Bool.and_self,if_true,Bool.false_eq_true,if_false];obtain⟨r,hr⟩:∃ r,dwN l s k (num N)=r:=⟨_,rfl⟩;obtain⟨x1,e1⟩:=r;rw[hr]at HDD⊢;obtain⟨t,ht⟩:∃ t,tpN e1 l s k=t:=⟨_,rfl⟩;obtain⟨tl,ts,tk⟩:=t;simp only[]at HDD⊢;rw[ht]at HDD⊢;rw[he]at HRD;have HRDD:=Hq (HRD.out W1 HS1.out);clear he hok hr ht hs hs1 hb1 ht1 hr1 r0 r1 r2 f0 f1 f2 hp hN HRR HRC HD HRD;go_enter Tryz.func52,Tryz.ntmps52;go_wp2_with fail;try rw[hW1]
   clear hW1;refine(HRDD.out).mono ?_;rintro ev w2 ⟨rfl,hb2⟩;have HT2:=Hq (HT1.out.nextT hb2);have HR2:=Hq (HR1.out.nextT hb2);have HB2:=Hq (HB1.out.trans (hb2.mono HB1.out.size));have HS2:=Hq (HS1.out.kept hb2 nlr);have HD2:=Hq (HDD.out w2 HB2.out HS2.out);clear c0 c1 c2 hb2;obtain⟨c0,c1,c2⟩:=HT2.out.c;go_wp2_with fail;refine(HD2.out).mono ?_;rintro ev w3 ⟨B,c,rfl,hsl,hfr,hb3⟩;have HR3:=Hq (HR2.out.nextT hb3);have HB3:=Hq (HB2.out.trans (hb3.mono HB2.out.size));have HSL:=Hq hsl;have HFR:=Hq (show ∀ b o,B=some ⟨b,o,none⟩→w.heap.size+1<b from fun b o h=>Nat.lt_of_lt_of_le HR2.out.lt (hfr b o h));obtain⟨m,hm⟩:∃ m,tl.length=m:=⟨_,rfl⟩;have HM:=Hq hm;clear c0 c1 c2 hsl hb3 hfr;simp only[];rw[hm];clear hm;obtain⟨r0,r1,r2⟩:=HR3.out.c;have f0:=HR3.out.f 0;have f1:=HR3.out.f 1;have f2:=HR3.out.f 2;have hq:=HR3.out.set3 (A':=B) (n':=m) (c':=c) (s':=ts) (a':=tk);obtain⟨q0,q1,q2⟩:=hq.c;have HBQ:=Hq (below_set3 HB3.out (C:=w.heap.size+1) (by omega) (.slice B m c) (.string ts) (.int .i64 tk));clear hq;obtain⟨z,hz⟩:∃ z,nS x1=z:=⟨_,rfl⟩;rw[hz];go_wp2;refine bodyPost_ret (v:=.tuple #[.string z,.agg #[.slice B m c,.string ts,.int .i64 tk],.int .i64 e1]) (by simp[results,Tryz.results52,go_sem,q0,q1,q2]) rfl ?_;refine⟨B,c,?_,?_,(fun b o h=>by have:=HFR.out b o h;omega),HBQ.out⟩
   · show _=Ending.returned (.tuple #[.string (nS x1),.agg #[.slice B tl.length c,.string ts,.int .i64 tk],.int .i64 e1]);rw[HM.out,hz]
   · show SlN _ _ tl.length c tl;exact((HSL.out.setB HFR.out).setB HFR.out).setB HFR.out
 · have hne:∃ e,rdN l k N=e∧¬ e=0∧coN l s k N=(0,e):=by
    refine⟨_,rfl,he,?_⟩;rw[HRC.out,HRR.out];rw[HRR.out]at he;split
    · rename_i h1;rw[if_pos h1]at he;split
      · rfl
      · rename_i h2;rw[if_neg h2]at he;exact absurd rfl he
    · rfl
   obtain⟨e1,he1,hn0,hcc⟩:=hne;rw[hcc,tpN_err hn0];rw[he1]at HRD;have HRDD:=Hq (HRD.out W1 HS1.out);clear he he1 hcc hs hs1 hb1 ht1 hr1 hp hN HRR HRC HD HRD r0 r1 r2 f0 f1 f2;go_enter Tryz.func52,Tryz.ntmps52;go_wp2_with fail;try rw[hW1]
   clear hW1;refine(HRDD.out).mono ?_;rintro ev w2 ⟨rfl,hb2⟩;have HR2:=Hq (HR1.out.nextT hb2);have HB2:=Hq (HB1.out.trans (hb2.mono HB1.out.size));obtain⟨r0,r1,r2⟩:=HR2.out.c;have f0:=HR2.out.f 0;have f1:=HR2.out.f 1;have f2:=HR2.out.f 2;have hq:=HR2.out.set3 (A':=none) (n':=0) (c':=0) (s':=⟨#[]⟩) (a':=0);obtain⟨q0,q1,q2⟩:=hq.c;have HBQ:=Hq (below_set3 HB2.out (C:=w.heap.size+1) (by omega) (.slice none 0 0) (.string ⟨#[]⟩) (.int .i64 0));clear hq c0 c1 c2 hb2;go_wp2;refine bodyPost_ret (v:=.tuple #[.string ⟨#[]⟩,.agg #[.slice none 0 0,.string ⟨#[]⟩,.int .i64 0],.int .i64 e1]) (by simp[results,Tryz.results52,go_sem,q0,q1,q2]) rfl ?_;exact⟨none,0,rfl,SlN.nil _ 0 (by omega) none,(fun b o h=>by cases h),HBQ.out⟩
open Go.RowKit Go.Lib
theorem bx2_off3{W:World}{B C:Nat}{x y a b c:Value}{T:TypeId}(h:Bx2 W B x y T)(hne:B≠C):Bx2 (((W.setCell ⟨C,0,none⟩ a).setCell ⟨C,1,none⟩ b).setCell ⟨C,2,none⟩ c) B x y T:=
 (heap_setCell_other _ _ _ _ hne).trans ((heap_setCell_other _ _ _ _ hne).trans ((heap_setCell_other _ _ _ _ hne).trans h))
theorem coN_lt{l:List ByteArray}{s:ByteArray}{k:Int}{B:ByteArray}(h:(coN l s k B).2=0):(coN l s k B).1<num B:=by
 unfold coN at *;split
 · rename_i h1;rw[if_pos h1]at h;split
   · rename_i h2;rw[if_pos h2]at h;cases h
   · rename_i h2;rw[if_neg h2]at h;exact dwN_ok h
 · rename_i h1;rw[if_neg h1]at h;cases h
set_option maxRecDepth 100000
set_option maxHeartbeats 2000000
def yc(f:Nat→UInt8):Array Value:=(Lib.byteCells ((List.range 64).map f)).toArray
theorem yc_size(f:Nat→UInt8):(yc f).size=64:=by simp[yc,Lib.byteCells]
theorem yc_get(f:Nat→UInt8){i:Nat}(h:i<64):(yc f)[i]? =some (.int .u8 ((f i).toNat:Int)):=by simp[yc,Lib.byteCells,h]
theorem yc_set(f:Nat→UInt8)(i:Nat)(x:UInt8):(yc f).setIfInBounds i (.int .u8 (x.toNat:Int))=yc (fun j=>if j=i then x else f j):=by
 apply Array.ext_getElem?;intro j;rw[Array.getElem?_setIfInBounds];rcases Nat.lt_or_ge j 64 with h | h
 · rw[yc_get _ h,yc_get _ h,yc_size];by_cases e:i=j
   · subst e;simp[h]
   · rw[if_neg e,if_neg (Ne.symm e)]
 · rw[Array.getElem?_eq_none (by rw[yc_size];exact h),Array.getElem?_eq_none (by rw[yc_size];exact h)];by_cases e:i=j
   · subst e;simp[yc_size];omega
   · rw[if_neg e]
def z64b:Array Value:=madeCells #[.int .u8 0] 64
theorem yc_zero:yc (fun _=>0)=z64b:=by kernel_rfl
def gd(l:List UInt8):Nat→UInt8:=fun i=>l.getD i 0
theorem yc_copy(l:List UInt8)(h:l.length≤64):(z64b.toList.take 0++Lib.byteCells l++z64b.toList.drop (0+l.length)).toArray=yc (gd l):=by
 unfold gd;rw[←yc_zero];apply Array.ext_getElem?;intro j;rw[List.take_zero,List.nil_append,Nat.zero_add,List.getElem?_toArray];rcases Nat.lt_or_ge j 64 with hj | hj
 · rw[yc_get _ hj];rcases Nat.lt_or_ge j l.length with hl | hl
   · rw[List.getElem?_append_left (by simpa[Lib.byteCells]using hl)];simp[Lib.byteCells,List.getD_eq_getElem?_getD,hl]
   · rw[List.getElem?_append_right (by simpa[Lib.byteCells]using hl)];have e:l.getD j 0=0:=by simp[List.getD_eq_getElem?_getD,List.getElem?_eq_none hl]
     rw[e,List.getElem?_drop,byteCells_length,Nat.add_sub_cancel' hl,Array.getElem?_toList,yc_get _ hj]
 · rw[Array.getElem?_eq_none (by rw[yc_size];exact hj),List.getElem?_eq_none];simp[Lib.byteCells,yc_size];omega
def RowY(w:World)(B:Nat)(f:Nat→UInt8):Prop:=w.heap[B]? =some (.cells (yc f) 250 (0,0))
theorem RowY.cell{w:World}{B:Nat}{f:Nat→UInt8}(h:RowY w B f){k:Nat}(hk:k<64):w.cell? ⟨B,k,none⟩=some (.int .u8 ((f k).toNat:Int)):=by
 rw[Lib.cell_of_heap h,yc_get f hk]
theorem RowY.free{w:World}{B:Nat}{f:Nat→UInt8}(h:RowY w B f)(k:Nat):w.frozen? ⟨B,k,none⟩=false:=Lib.frozen_of_heap h k
theorem RowY.set{w:World}{B:Nat}{f:Nat→UInt8}(h:RowY w B f)(k:Nat)(x:UInt8):RowY (w.setCell ⟨B,k,none⟩ (.int .u8 (x.toNat:Int))) B (fun j=>if j=k then x else f j):=by
 unfold RowY;rw[block_setCell h,yc_set]
theorem RowY.other{w:World}{B C k:Nat}{f:Nat→UInt8}{v:Value}(h:RowY w B f)(hne:B≠C):RowY (w.setCell ⟨C,k,none⟩ v) B f:=(heap_setCell_other _ _ _ _ hne).trans h
theorem RowY.lt{w:World}{B:Nat}{f:Nat→UInt8}(h:RowY w B f):B<w.heap.size:=block_lt h
theorem RowY.bytes{w:World}{B:Nat}{f:Nat→UInt8}(h:RowY w B f):BytesAt w (some ⟨B,0,none⟩) 64 64 ((List.range 64).map f):=by
 refine⟨by simp,Nat.le_refl _,by omega,fun _=>⟨B,0,rfl,fun k hk=>?_⟩⟩;rw[Nat.zero_add,h.cell hk];simp[byteI,hk]
theorem xor_54_all:∀ n,n<256→bits .xor .u8 ((n:Nat):Int) 54=((UInt8.ofNat n ^^^ 54).toNat:Int):=by decide +kernel
theorem xor_92_all:∀ n,n<256→bits .xor .u8 ((n:Nat):Int) 92=((UInt8.ofNat n ^^^ 92).toNat:Int):=by decide +kernel
theorem xor_54(x:UInt8):bits .xor .u8 (x.toNat:Int) 54=((x ^^^ 54).toNat:Int):=by
 have:=xor_54_all x.toNat x.toNat_lt;rwa[UInt8.ofNat_toNat]at this
theorem xor_92(x:UInt8):bits .xor .u8 (x.toNat:Int) 92=((x ^^^ 92).toNat:Int):=by
 have:=xor_92_all x.toNat x.toNat_lt;rwa[UInt8.ofNat_toNat]at this
theorem app_data(a b:ByteArray):(a++b).data.toList=a.data.toList++b.data.toList:=by simp
theorem RowY.set_off{w:World}{B C k j:Nat}{f:Nat→UInt8}{v u:Value}{g:Nat→UInt8}(h:RowY (w.setCell ⟨B,k,none⟩ v) B g)(h0:RowY w B f)(hne:B≠C):RowY ((w.setCell ⟨C,j,none⟩ u).setCell ⟨B,k,none⟩ v) B g:=by
 have h1:(w.setCell ⟨C,j,none⟩ u).heap[B]? =w.heap[B]?:=heap_setCell_other _ _ _ _ hne;unfold RowY at h h0⊢;rw[block_setCell (h1.trans h0)];rw[block_setCell h0]at h;exact h
def xk(l:List UInt8)(x:UInt8)(k:Nat)(j:Nat):UInt8:=if j<k then l.getD j 0 ^^^ x else l.getD j 0
theorem xk_zero(l:List UInt8)(x:UInt8):xk l x 0=gd l:=by funext j;simp[xk,gd]
theorem xk_step(l:List UInt8)(x:UInt8)(k:Nat):(fun j=>if j=k then xk l x k k ^^^ x else xk l x k j)=xk l x (k+1):=by
 funext j
 unfold xk;by_cases e:j=k
 · subst e;simp
 · rw[if_neg e];by_cases h:j<k
   · rw[if_pos h,if_pos (by omega)]
   · rw[if_neg h,if_neg (by omega)]
theorem xk_all(l:List UInt8)(x:UInt8):(List.range 64).map (xk l x 64)=xorL l x:=by
 unfold xorL;apply List.map_congr_left;intro i hi;have : i<64:=by simpa using hi
 simp[xk,this]
theorem copy_run64(w:World)(g:Nat)(hg:w.heap[g]? =some (.cells z64b 250 (0,0)))(s:ByteArray)(hs:s.size≤64)(ty:TypeId) :
 (Builtin.copy_ #[127,9] ty #[.slice (some ⟨g,0,none⟩) 64 64,.string s]).run Tryz.prog w=.ok (goInt s.size) (w.setRow g (yc (gd s.data.toList))):=by
 rw[←yc_copy s.data.toList (by rw[Array.length_toList];exact hs)];have hl:s.data.toList.length=s.size:=Array.length_toList;rw[hl];exact run_copy_row_string _ _ _ _ 5 _ _ _ _ _ _ _ Tryz.underlying127 (by kernel_rfl) hg hs (by unfold z64b;rw[size_madeCells];show 0+s.size≤64 * 1;omega)
theorem h_Mac64(key s:ByteArray)(hk:key.size≤64)(hs:s.size≤100000000)(w:World):Calls Tryz.prog 220 #[.string key,.string s] w (Ret (.string (bstr (macL key.data.toList s.data.toList))) w):=by
 obtain⟨l,hl⟩:∃ l,key.data.toList=l:=⟨_,rfl⟩;have hll:l.length=key.size:=by rw[←hl];exact Array.length_toList
 have HR:=Hq (show macL l s.data.toList=shaL (xorL l 92++shaL (xorL l 54++s.data.toList))from by unfold macL;rw[if_neg (by omega)]);have HCR:=Hq (fun W g hg ty=>copy_run64 W g hg key hk ty);rw[hl]at HCR;have HS1:=Hq (h_Sum (bstr (xorL l 54)++s) (by rw[ByteArray.size_append,bstr_size];simp[xorL];omega));have HS2:=Hq (h_Sum (bstr (xorL l 92)++bstr (shaL (xorL l 54++s.data.toList))) (by rw[ByteArray.size_append,bstr_size,bstr_size,shaL_length];simp[xorL]));have HSS:=Hq hs;rw[hl,HR.out];have hlei:decide ((64:Int)<(key.size:Int))=false:=decide_eq_false (by omega);clear hl hll hk hs HR;go_enter Tryz.func220,Tryz.ntmps220;go_upto_region 3 with(fail)
 clear hlei;obtain⟨P,hP⟩:∃ P,w.heap.size=P:=⟨_,rfl⟩;obtain⟨w1,hw1⟩:∃ W,w.alloc (.cells z64b 250)=W:=⟨_,rfl⟩;have hs1:w1.heap.size=P+1:=by rw[←hw1,←hP];simp
 have hz1:w1.heap[P]? =some (.cells z64b 250 (0,0)):=by rw[←hw1,←hP];exact heap_alloc_new _ _
 have hb1:Below P w w1:=by rw[←hw1,←hP];exact(blr).alloc nlr _
 obtain⟨w2,hw2⟩:∃ W,w1.alloc (.cells z64b 250)=W:=⟨_,rfl⟩;have hz2:w2.heap[P+1]? =some (.cells z64b 250 (0,0)):=by rw[←hw2,←hs1];exact heap_alloc_new _ _
 have hb2:Below w1.heap.size w1 w2:=by rw[←hw2];exact(blr).alloc nlr _
 have HZ1:=Hq ((hb2.block P (by omega)).trans hz1);have HZ2:=Hq hz2;have HB2:=Hq (hb1.trans (hb2.mono (by omega)));go_step;refine Great.wpList_allocTo rfl _ rfl (.pointer (some ⟨P,0,none⟩)) (.cells z64b 250) (by rw[←hP];kernel_rfl) ?_;rw[hw1];refine Great.wpList_allocTo rfl _ rfl (.pointer (some ⟨P+1,0,none⟩)) (.cells z64b 250) (by rw[←hs1];kernel_rfl) ?_;rw[hw2];have HP:=Hq hP;clear hw1 hw2 hz1 hz2 hb1 hb2 hs1 hP;simp only[Act.put,sqA,sqB,sqC];go_upto_region 5 with(refine wpList_copy_ran _ rfl (.tmp 13) (.tmp 14) 127 9 rfl _ _ rfl rfl (HCR.out _ P HZ1.out _) ?_)
 go_upto_region 6 with(refine wpList_copy_ran _ rfl (.tmp 16) (.tmp 17) 127 9 rfl _ _ rfl rfl (HCR.out _ (P+1) ((setRow_other _ _ _ _ (by omega)).trans HZ2.out) _) ?_)
 have hr1:RowY ((w2.setRow P (yc (gd l))).setRow (P+1) (yc (gd l))) P (xk l 54 0):=(by rw[xk_zero];exact(setRow_other _ _ _ _ (by omega)).trans (setRow_heap _ _ _ _ _ _ HZ1.out));have hr2:RowY ((w2.setRow P (yc (gd l))).setRow (P+1) (yc (gd l))) (P+1) (xk l 92 0):=(by rw[xk_zero];exact setRow_heap _ _ _ _ _ _ ((setRow_other _ _ _ _ (by omega)).trans HZ2.out));have hb3:Below P w ((w2.setRow P (yc (gd l))).setRow (P+1) (yc (gd l))):=below_setRow (below_setRow HB2.out nlr _) (by omega) _;obtain⟨w3,hw3⟩:∃ W,(w2.setRow P (yc (gd l))).setRow (P+1) (yc (gd l))=W:=⟨_,rfl⟩;rw[hw3]at hr1 hr2 hb3⊢;have HR1:=Hq hr1;have HR2:=Hq hr2;have HB3:=Hq hb3;clear hw3 hr1 hr2 hb3 HCR HZ1 HZ2 HB2;simp only[Act.put,sqA,sqB,sqC];go_wp2;go_loopw [19] (fun v wr=>∃ k:Nat,k≤64∧v=.int .i64 k∧RowY wr P (xk l 54 k)∧RowY wr (P+1) (xk l 92 k)∧Below P w wr) (fun v _=>64 - (RowKit.intOf v).toNat);case atStart=>exact⟨0,by omega,rfl,HR1.out,HR2.out,HB3.out⟩
 case round =>
  obtain⟨k,hk,rfl,hy1,hy2,hb⟩:=hrel;have HY1:=Hq hy1;have HY2:=Hq hy2;have HB:=Hq hb;clear hy1 hy2 hb HR1 HR2 HB3;by_cases hlt:k<64
  · have hki:(k:Int)<64:=by omega
    have HK:=Hq hlt;have d0:=HY1.out.cell hlt;have d1:=HY2.out.cell hlt;have f0:=HY1.out.free k;have f1:=HY2.out.free k;obtain⟨x1,hx1⟩:∃ x,xk l 54 k k=x:=⟨_,rfl⟩;obtain⟨x2,hx2⟩:∃ x,xk l 92 k k=x:=⟨_,rfl⟩;have HX1:=Hq hx1;have HX2:=Hq hx2;rw[hx1]at d0;rw[hx2]at d1;clear hx1 hx2 hlt hk;go_wp2;rw[xor_54 x1,xor_92 x2];have h1:=HY1.out.set k (x1 ^^^ 54);have h2:=HY2.out.set k (x2 ^^^ 92);rw[←HX1.out,xk_step]at h1;rw[←HX2.out,xk_step]at h2;refine⟨⟨k+1,by have:=HK.out;omega,by go_num,?_,?_,?_⟩,?_⟩
    · rw[←HX1.out];exact h1.other (by omega)
    · rw[←HX2.out];exact RowY.set_off h2 HY2.out (by omega)
    · exact(HB.out.setCell (p:=⟨P,k,none⟩) (Nat.le_refl P) _).setCell (p:=⟨P+1,k,none⟩) (show P≤P+1 by omega) _
    · have:=HK.out;simp[RowKit.intOf];omega
  · obtain rfl:k=64:=by omega
    have hki:¬ (((64:Nat):Int)<64):=by omega
    have HC1:=Hq (show BytesAt wr (some ⟨P,0,none⟩) 64 64 (xorL l 54)from by rw[←xk_all];exact HY1.out.bytes);have HC2:=Hq (show BytesAt wr (some ⟨P+1,0,none⟩) 64 64 (xorL l 92)from by rw[←xk_all];exact HY2.out.bytes);rw[app_data,bstr_data]at HS1;rw[app_data,bstr_data,bstr_data]at HS2;obtain⟨a1,ha1⟩:∃ z,bstr (xorL l 54)=z:=⟨_,rfl⟩;obtain⟨a2,ha2⟩:∃ z,bstr (xorL l 92)=z:=⟨_,rfl⟩;obtain⟨m1,hm1⟩:∃ z,bstr (shaL (xorL l 54++s.data.toList))=z:=⟨_,rfl⟩;obtain⟨m2,hm2⟩:∃ z,bstr (shaL (xorL l 92++shaL (xorL l 54++s.data.toList)))=z:=⟨_,rfl⟩;have HA1:=Hq ha1;have HA2:=Hq ha2;have HM2:=Hq hm2;rw[ha1,hm1]at HS1;rw[ha2,hm1,hm2]at HS2;have hz1:¬ (9223372036854775807<a1.size+s.size):=by rw[←ha1,bstr_size];have:=HSS.out;simp[xorL];omega
    have hz2:¬ (9223372036854775807<a2.size+m1.size):=by rw[←ha2,←hm1,bstr_size,bstr_size,shaL_length];simp[xorL]
    have HLT:=Hq HY2.out.lt;clear ha1 ha2 hm1 hm2 hk hlt;go_wp2;obtain⟨wd,hwd⟩:∃ wd,wr.drew=wd:=⟨_,rfl⟩;have HD1:=Hq (show BytesAt wd (some ⟨P,0,none⟩) 64 64 (xorL l 54)from hwd▸HC1.out);have HD2:=Hq (show BytesAt wd (some ⟨P+1,0,none⟩) 64 64 (xorL l 92)from hwd▸HC2.out);have HBD:=Hq (show Below P w wd from hwd▸HB.out.drew);have HPD:=Hq (show P+1<wd.heap.size from hwd▸HLT.out);clear HC1 HC2;refine wp_region_K 10 (Below (wd).heap.size (wd)) (by kernel_rfl) ?_;intro hD;rw[hwd];refine rP 0 33 9 rfl hD blr ?_;clear hD;intro hD;refine wpAnyK_takeSD (i:=1) (d:=some 34) (v:=(.string a2)) (fuel:=8) rfl (by kernel_rfl) (by kernel_rfl) (by kernel_rfl) (fun _ _ _ h=>h) hD blr (.inl ⟨by kernel_rfl,?y12_1b1⟩) ?n12_1b1;case y12_1b1 =>
     intro w' hS';have hcv:=((HD2.out.keptB hS' HPD.out).conv 127 9 5 Tryz.underlying127 Tryz.underlying5 Tryz.underlying9);rw[HA2.out]at hcv;go_simp
    clear hD;intro hD;refine rP 2 35 7 rfl hD blr ?_;clear hD;intro hD;refine wpAnyK_takeSD (i:=3) (d:=some 36) (v:=(.string a1)) (fuel:=6) rfl (by kernel_rfl) (by kernel_rfl) (by kernel_rfl) (fun _ _ _ h=>h) hD blr (.inl ⟨by kernel_rfl,?y12_3b1⟩) ?n12_3b1;case y12_3b1 =>
     intro w' hS';have hcv:=((HD1.out.keptB hS' (by have:=HPD.out;omega)).conv 127 9 5 Tryz.underlying127 Tryz.underlying5 Tryz.underlying9);rw[HA1.out]at hcv;go_simp
    clear hD;intro hD;refine rP 4 37 5 rfl hD blr ?_;clear hD;intro hD;refine rP 5 38 4 rfl hD blr ?_;clear hD;intro hD;simp only[Act.put,sqA,sqB,sqC];refine rO 6 3 rfl hD ?_;clear hD;intro K6 hK6;go_wp2_with fail;refine(HS1.out _).mono ?_;rintro ev w4 ⟨rfl,hb⟩;have HB6:=Hq hb;clear hb;go_wp2;refine hK6 _ _ (by exact HB6.out) ?_;clear hK6;intro hS_12_6 hD;refine rP 7 40 2 rfl hD hS_12_6 ?_;clear hD;intro hD;simp only[Act.put,sqA,sqB,sqC];refine rO 8 1 rfl hD ?_;clear hD;intro K8 hK8;go_wp2_with fail;refine(HS2.out _).mono ?_;rintro ev w5 ⟨rfl,hb⟩;have HB8:=Hq hb;clear hb;go_wp2;refine hK8 _ _ (by exact Below.trans hS_12_6 (Below.mono HB8.out (Below.size hS_12_6))) ?_;clear hK8;intro hS_12_8 hD;refine rO 9 0 rfl hD ?_;clear hD;intro K9 hK9;go_wp2;refine hK9 _ _ (by exact hS_12_8) ?_;clear hK9;intro hS_12_9 hD;have HL:=Hq hS_12_9;refine wpD ?_;clear hD;go_wp2;go_ret;exact⟨by show Ending.returned (.string m2)=_;rw[HM2.out],by rw[HP.out];exact HBD.out.trans (HL.out.mono (by have:=HPD.out;omega))⟩
theorem h_Mac(key s:ByteArray)(hkk:key.size≤1000000)(hs:s.size≤100000000)(w:World):Calls Tryz.prog 220 #[.string key,.string s] w (Ret (.string (bstr (macL key.data.toList s.data.toList))) w):=by
 by_cases h64:key.size≤64
 · exact h_Mac64 key s h64 hs w
 obtain⟨k2,hk2⟩:∃ k,bstr (shaL key.data.toList)=k:=⟨_,rfl⟩;obtain⟨l,hl⟩:∃ l,k2.data.toList=l:=⟨_,rfl⟩;have hll:key.data.toList.length=key.size:=Array.length_toList;have hk:k2.size≤64:=by rw[←hk2,bstr_size,shaL_length];decide
 have hl2:shaL key.data.toList=l:=by rw[←hl,←hk2,bstr_data]
 have HR:=Hq (show macL key.data.toList s.data.toList=shaL (xorL l 92++shaL (xorL l 54++s.data.toList))from by unfold macL;rw[if_pos (by omega),hl2]);have HSK:=Hq (h_Sum key (by omega));rw[hk2]at HSK;have HCR:=Hq (fun W g hg ty=>copy_run64 W g hg k2 hk ty);rw[hl]at HCR;have HS1:=Hq (h_Sum (bstr (xorL l 54)++s) (by rw[ByteArray.size_append,bstr_size];simp[xorL];omega));have HS2:=Hq (h_Sum (bstr (xorL l 92)++bstr (shaL (xorL l 54++s.data.toList))) (by rw[ByteArray.size_append,bstr_size,bstr_size,shaL_length];simp[xorL]));have HSS:=Hq hs;rw[HR.out];have hlei:decide ((64:Int)<(key.size:Int))=true:=decide_eq_true (by omega);clear hl hll hk hs HR hl2 hk2 h64 hkk;go_enter Tryz.func220,Tryz.ntmps220;go_wp2_with fail;refine(HSK.out _).mono ?_;rintro ev w0 ⟨rfl,hb⟩;have HW0:=Hq hb;clear hb;go_upto_region 3 with(fail)
 clear hlei;obtain⟨P,hP⟩:∃ P,w0.heap.size=P:=⟨_,rfl⟩;obtain⟨w1,hw1⟩:∃ W,w0.alloc (.cells z64b 250)=W:=⟨_,rfl⟩;have hs1:w1.heap.size=P+1:=by rw[←hw1,←hP];simp
 have hz1:w1.heap[P]? =some (.cells z64b 250 (0,0)):=by rw[←hw1,←hP];exact heap_alloc_new _ _
 have hb1:Below P w0 w1:=by rw[←hw1,←hP];exact(blr).alloc nlr _
 obtain⟨w2,hw2⟩:∃ W,w1.alloc (.cells z64b 250)=W:=⟨_,rfl⟩;have hz2:w2.heap[P+1]? =some (.cells z64b 250 (0,0)):=by rw[←hw2,←hs1];exact heap_alloc_new _ _
 have hb2:Below w1.heap.size w1 w2:=by rw[←hw2];exact(blr).alloc nlr _
 have HZ1:=Hq ((hb2.block P (by omega)).trans hz1);have HZ2:=Hq hz2;have HB2:=Hq (hb1.trans (hb2.mono (by omega)));go_step;refine Great.wpList_allocTo rfl _ rfl (.pointer (some ⟨P,0,none⟩)) (.cells z64b 250) (by rw[←hP];kernel_rfl) ?_;rw[hw1];refine Great.wpList_allocTo rfl _ rfl (.pointer (some ⟨P+1,0,none⟩)) (.cells z64b 250) (by rw[←hs1];kernel_rfl) ?_;rw[hw2];have HP:=Hq hP;clear hw1 hw2 hz1 hz2 hb1 hb2 hs1 hP;simp only[Act.put,sqA,sqB,sqC];go_upto_region 5 with(refine wpList_copy_ran _ rfl (.tmp 13) (.tmp 14) 127 9 rfl _ _ rfl rfl (HCR.out _ P HZ1.out _) ?_)
 go_upto_region 6 with(refine wpList_copy_ran _ rfl (.tmp 16) (.tmp 17) 127 9 rfl _ _ rfl rfl (HCR.out _ (P+1) ((setRow_other _ _ _ _ (by omega)).trans HZ2.out) _) ?_)
 have hr1:RowY ((w2.setRow P (yc (gd l))).setRow (P+1) (yc (gd l))) P (xk l 54 0):=(by rw[xk_zero];exact(setRow_other _ _ _ _ (by omega)).trans (setRow_heap _ _ _ _ _ _ HZ1.out));have hr2:RowY ((w2.setRow P (yc (gd l))).setRow (P+1) (yc (gd l))) (P+1) (xk l 92 0):=(by rw[xk_zero];exact setRow_heap _ _ _ _ _ _ ((setRow_other _ _ _ _ (by omega)).trans HZ2.out));have hb3:Below P w0 ((w2.setRow P (yc (gd l))).setRow (P+1) (yc (gd l))):=below_setRow (below_setRow HB2.out nlr _) (by omega) _;obtain⟨w3,hw3⟩:∃ W,(w2.setRow P (yc (gd l))).setRow (P+1) (yc (gd l))=W:=⟨_,rfl⟩;rw[hw3]at hr1 hr2 hb3⊢;have HR1:=Hq hr1;have HR2:=Hq hr2;have HB3:=Hq hb3;clear hw3 hr1 hr2 hb3 HCR HZ1 HZ2 HB2;simp only[Act.put,sqA,sqB,sqC];go_wp2;go_loopw [19] (fun v wr=>∃ k:Nat,k≤64∧v=.int .i64 k∧RowY wr P (xk l 54 k)∧RowY wr (P+1) (xk l 92 k)∧Below P w0 wr) (fun v _=>64 - (RowKit.intOf v).toNat);case atStart=>exact⟨0,by omega,rfl,HR1.out,HR2.out,HB3.out⟩
 case round =>
  obtain⟨k,hk,rfl,hy1,hy2,hb⟩:=hrel;have HY1:=Hq hy1;have HY2:=Hq hy2;have HB:=Hq hb;clear hy1 hy2 hb HR1 HR2 HB3;by_cases hlt:k<64
  · have hki:(k:Int)<64:=by omega
    have HK:=Hq hlt;have d0:=HY1.out.cell hlt;have d1:=HY2.out.cell hlt;have f0:=HY1.out.free k;have f1:=HY2.out.free k;obtain⟨x1,hx1⟩:∃ x,xk l 54 k k=x:=⟨_,rfl⟩;obtain⟨x2,hx2⟩:∃ x,xk l 92 k k=x:=⟨_,rfl⟩;have HX1:=Hq hx1;have HX2:=Hq hx2;rw[hx1]at d0;rw[hx2]at d1;clear hx1 hx2 hlt hk;go_wp2;rw[xor_54 x1,xor_92 x2];have h1:=HY1.out.set k (x1 ^^^ 54);have h2:=HY2.out.set k (x2 ^^^ 92);rw[←HX1.out,xk_step]at h1;rw[←HX2.out,xk_step]at h2;refine⟨⟨k+1,by have:=HK.out;omega,by go_num,?_,?_,?_⟩,?_⟩
    · rw[←HX1.out];exact h1.other (by omega)
    · rw[←HX2.out];exact RowY.set_off h2 HY2.out (by omega)
    · exact(HB.out.setCell (p:=⟨P,k,none⟩) (Nat.le_refl P) _).setCell (p:=⟨P+1,k,none⟩) (show P≤P+1 by omega) _
    · have:=HK.out;simp[RowKit.intOf];omega
  · obtain rfl:k=64:=by omega
    have hki:¬ (((64:Nat):Int)<64):=by omega
    have HC1:=Hq (show BytesAt wr (some ⟨P,0,none⟩) 64 64 (xorL l 54)from by rw[←xk_all];exact HY1.out.bytes);have HC2:=Hq (show BytesAt wr (some ⟨P+1,0,none⟩) 64 64 (xorL l 92)from by rw[←xk_all];exact HY2.out.bytes);rw[app_data,bstr_data]at HS1;rw[app_data,bstr_data,bstr_data]at HS2;obtain⟨a1,ha1⟩:∃ z,bstr (xorL l 54)=z:=⟨_,rfl⟩;obtain⟨a2,ha2⟩:∃ z,bstr (xorL l 92)=z:=⟨_,rfl⟩;obtain⟨m1,hm1⟩:∃ z,bstr (shaL (xorL l 54++s.data.toList))=z:=⟨_,rfl⟩;obtain⟨m2,hm2⟩:∃ z,bstr (shaL (xorL l 92++shaL (xorL l 54++s.data.toList)))=z:=⟨_,rfl⟩;have HA1:=Hq ha1;have HA2:=Hq ha2;have HM2:=Hq hm2;rw[ha1,hm1]at HS1;rw[ha2,hm1,hm2]at HS2;have hz1:¬ (9223372036854775807<a1.size+s.size):=by rw[←ha1,bstr_size];have:=HSS.out;simp[xorL];omega
    have hz2:¬ (9223372036854775807<a2.size+m1.size):=by rw[←ha2,←hm1,bstr_size,bstr_size,shaL_length];simp[xorL]
    have HLT:=Hq HY2.out.lt;clear ha1 ha2 hm1 hm2 hk hlt;go_wp2;obtain⟨wd,hwd⟩:∃ wd,wr.drew=wd:=⟨_,rfl⟩;have HD1:=Hq (show BytesAt wd (some ⟨P,0,none⟩) 64 64 (xorL l 54)from hwd▸HC1.out);have HD2:=Hq (show BytesAt wd (some ⟨P+1,0,none⟩) 64 64 (xorL l 92)from hwd▸HC2.out);have HBD:=Hq (show Below P w0 wd from hwd▸HB.out.drew);have HPD:=Hq (show P+1<wd.heap.size from hwd▸HLT.out);clear HC1 HC2;refine wp_region_K 10 (Below (wd).heap.size (wd)) (by kernel_rfl) ?_;intro hD;rw[hwd];refine rP 0 33 9 rfl hD blr ?_;clear hD;intro hD;refine wpAnyK_takeSD (i:=1) (d:=some 34) (v:=(.string a2)) (fuel:=8) rfl (by kernel_rfl) (by kernel_rfl) (by kernel_rfl) (fun _ _ _ h=>h) hD blr (.inl ⟨by kernel_rfl,?y12_1b2⟩) ?n12_1b2;case y12_1b2 =>
     intro w' hS';have hcv:=((HD2.out.keptB hS' HPD.out).conv 127 9 5 Tryz.underlying127 Tryz.underlying5 Tryz.underlying9);rw[HA2.out]at hcv;go_simp
    clear hD;intro hD;refine rP 2 35 7 rfl hD blr ?_;clear hD;intro hD;refine wpAnyK_takeSD (i:=3) (d:=some 36) (v:=(.string a1)) (fuel:=6) rfl (by kernel_rfl) (by kernel_rfl) (by kernel_rfl) (fun _ _ _ h=>h) hD blr (.inl ⟨by kernel_rfl,?y12_3b2⟩) ?n12_3b2;case y12_3b2 =>
     intro w' hS';have hcv:=((HD1.out.keptB hS' (by have:=HPD.out;omega)).conv 127 9 5 Tryz.underlying127 Tryz.underlying5 Tryz.underlying9);rw[HA1.out]at hcv;go_simp
    clear hD;intro hD;refine rP 4 37 5 rfl hD blr ?_;clear hD;intro hD;refine rP 5 38 4 rfl hD blr ?_;clear hD;intro hD;simp only[Act.put,sqA,sqB,sqC];refine rO 6 3 rfl hD ?_;clear hD;intro K6 hK6;go_wp2_with fail;refine(HS1.out _).mono ?_;rintro ev w4 ⟨rfl,hb⟩;have HB6:=Hq hb;clear hb;go_wp2;refine hK6 _ _ (by exact HB6.out) ?_;clear hK6;intro hS_12_6 hD;refine rP 7 40 2 rfl hD hS_12_6 ?_;clear hD;intro hD;simp only[Act.put,sqA,sqB,sqC];refine rO 8 1 rfl hD ?_;clear hD;intro K8 hK8;go_wp2_with fail;refine(HS2.out _).mono ?_;rintro ev w5 ⟨rfl,hb⟩;have HB8:=Hq hb;clear hb;go_wp2;refine hK8 _ _ (by exact Below.trans hS_12_6 (Below.mono HB8.out (Below.size hS_12_6))) ?_;clear hK8;intro hS_12_8 hD;refine rO 9 0 rfl hD ?_;clear hD;intro K9 hK9;go_wp2;refine hK9 _ _ (by exact hS_12_8) ?_;clear hK9;intro hS_12_9 hD;have HL:=Hq hS_12_9;refine wpD ?_;clear hD;go_wp2;go_ret;exact⟨by show Ending.returned (.string m2)=_;rw[HM2.out],by exact HW0.out.trans (by have h:=HBD.out.trans (HL.out.mono (by have:=HPD.out;omega));rw[←HP.out]at h;exact h.mono HW0.out.size)⟩
end Go.Proofs.YtopmeciihijgiaaGreatDoor

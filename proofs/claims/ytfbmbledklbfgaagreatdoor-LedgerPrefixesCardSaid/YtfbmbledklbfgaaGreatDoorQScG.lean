import Derived.Test.YtfbmbledklbfgaaGreatDoorQScB
set_option linter.unusedVariables false
set_option linter.unusedSimpArgs false
namespace Go.Proofs.YtfbmbledklbfgaaGreatDoor
set_option maxRecDepth 100000
set_option maxHeartbeats 1000000
open Go.RowKit Go.Lib
theorem cmpI_ltC{x y:Nat}:(cmpI x y<0)=(x<y):=by
 unfold cmpI;rw[eq_iff_iff];split
 · simp_all
 · split<;>simp_all
def SG(w W:World)(M O G Y c r:ByteArray):Prop:=SB w W M O G Y∧Bx2 W (w.heap.size+1) (.string c) (.string r) 35
theorem SG.new(w:World)(M O G Y c r:ByteArray):SG w ((w.alloc (.cells #[.string M,.string O,.string G,.string Y] 26)).alloc (.cells #[.string c,.string r] 35)) M O G Y c r:=by
 refine⟨(SB.new w M O G Y).next ((blr).alloc nlr _),?_⟩;have:=Bx2.new (w.alloc (.cells #[.string M,.string O,.string G,.string Y] 26)) (.string c) (.string r) 35;rwa[World.size_alloc]at this
theorem SG.next{w W W':World}{M O G Y c r:ByteArray}(h:SG w W M O G Y c r)(hb:Below W.heap.size W W'):SG w W' M O G Y c r:=⟨h.1.next hb,h.2.next hb⟩
theorem sc_below(M O G Y c r:ByteArray)(vO:nvalid O=true)(vc:nvalid c=true)(vr:nvalid r=true)(w:World):Calls Tryz.prog 84 #[kV M O G Y,.agg #[.string c,.string r]] w (Ret (.bool (decide (num c<num O∧num r<num O))) w):=by
 have lO:=nvalid_lt vO;have lc:=nvalid_lt vc;have lr:=nvalid_lt vr;have HC1:=Hq (nat_Cmp (nS (num c)) (nS (num O)) (by have:=nS_size_le.2 lc;omega) (by have:=nS_size_le.2 lO;omega));have HC2:=Hq (nat_Cmp (nS (num r)) (nS (num O)) (by have:=nS_size_le.2 lr;omega) (by have:=nS_size_le.2 lO;omega));rw[ncmp_n lc lO,←nS_num vc,←nS_num vO]at HC1;rw[ncmp_n lr lO,←nS_num vr,←nS_num vO]at HC2;have h1:=cmpI_ltC (x:=num c) (y:=num O);have h2:=cmpI_ltC (x:=num r) (y:=num O);obtain⟨k1,hk1⟩:∃ k,cmpI (num c) (num O)=k:=⟨_,rfl⟩;obtain⟨k2,hk2⟩:∃ k,cmpI (num r) (num O)=k:=⟨_,rfl⟩;rw[hk1]at HC1 h1;rw[hk2]at HC2 h2;have HX0:=Hq (SG.new w M O G Y c r);obtain⟨W0,hW0⟩:∃ W,(w.alloc (.cells #[.string M,.string O,.string G,.string Y] 26)).alloc (.cells #[.string c,.string r] 35)=W:=⟨_,rfl⟩;rw[hW0]at HX0;obtain⟨c0,c1,c2,c3⟩:=HX0.out.1.1.cells;have d0:=HX0.out.2.c0;have d1:=HX0.out.2.c1;by_cases ha:num c<num O
 · have hneg:k1<0:=by rw[h1];exact ha
   have HR:=Hq (show decide (num c<num O∧num r<num O)=decide (k2<0)from by
    rw[decide_eq_decide,h2];exact⟨fun h=>h.2,fun h=>⟨ha,h⟩⟩)
   rw[HR.out];unfold kV;clear hk1 hk2 h1 h2 ha lO lc lr;go_enter Tryz.func84,Tryz.ntmps84;go_wp2_with fail;try rw[hW0]
   clear hW0;refine(HC1.out _).mono ?_;rintro ev w1 ⟨rfl,rfl⟩;go_wp2_with fail;refine(HC2.out _).mono ?_;rintro ev w2 ⟨rfl,rfl⟩;go_wp2;go_ret;exact⟨rfl,HX0.out.1.2⟩
 · have hneg:¬ (k1<0):=by rw[h1];exact ha
   have HR:=Hq (show decide (num c<num O∧num r<num O)=false from decide_eq_false fun h=>ha h.1);rw[HR.out];unfold kV;clear hk1 hk2 h1 h2 ha lO lc lr;go_enter Tryz.func84,Tryz.ntmps84;go_wp2_with fail;try rw[hW0]
   clear hW0;refine(HC1.out _).mono ?_;rintro ev w1 ⟨rfl,rfl⟩;go_wp2;go_ret;exact⟨rfl,HX0.out.1.2⟩
set_option maxRecDepth 100000
set_option maxHeartbeats 1000000
theorem scK_ok{M O G Y:ByteArray}(h:scK M O G Y=0):[M,O,G,Y].all nvalid=true∧chkK M O=0∧num O≠0∧genK M O G=true∧genK M O Y=true:=by
 unfold scK at h;split at h
 · rename_i hv;split at h
   · rename_i hc;split at h
     · cases h
     · rename_i hn;have hn:(O.toList.isEmpty || !genK M O G || !genK M O Y)=false:=by simpa using hn
       rw[Bool.or_eq_false_iff,Bool.or_eq_false_iff]at hn;refine⟨hv,hc,fun e=>?_,by simpa using hn.1.2,by simpa using hn.2⟩;have:=hn.1.1;rw[nS_num (all_four hv).2.1,e]at this;rw[show (nS 0).toList.isEmpty=true from sempty_true rfl]at this;cases this
   · rename_i hc;exact absurd h hc
 · cases h
theorem ex_nat2{M O x:ByteArray}(hc:chkK M O=0)(hx:nvalid x=true)(hh:hasN (num M) (num O) (num x)=true){y:Nat}(hy:y<256 ^ 128):prR M O [x] [(false,nS y)]=.tuple #[.string (nS (num x ^ y%num M)),.int .i64 0]:=by
 have hz:zvalid false (nS y)=true:=(by have:=zvalid_all (z:=(y:Int)) (by rw[Int.natAbs_natCast];exact hy);rwa[Int.natAbs_natCast,decide_eq_false (by omega)]at this);unfold prR;rw[if_pos (show ckR M O [x] [(false,nS y)] (decide ([x].length=[(false,nS y)].length))=0 from cka_one hx hz hc hh)];have e:prV (num M) [x] [(false,nS y)]=num x ^ y%num M:=(by show baseN (num x) false (num M) ^ (num (nS y) / 2 ^ 0) * 1%num M=_;rw[num_nS,Nat.pow_zero,Nat.div_one,Nat.mul_one];rfl);rw[e]
theorem genK_parts{M O x:ByteArray}(h:genK M O x=true):hasN (num M) (num O) (num x)=true∧nvalid x=true∧num x≠1:=by
 unfold genK at h;rw[Bool.and_eq_true]at h;have hk:=hasK_parts h.1;refine⟨hk.2.2,hk.2.1,fun e=>?_⟩;have:=h.2;rw[nS_num hk.2.1,nS_is1,e]at this;simp at this
theorem sc_isSecret(M O G Y X:ByteArray)(hM:M.size≤8)(hk:scK M O G Y=0)(vX:nvalid X=true)(w:World):Calls Tryz.prog 44 #[kV M O G Y,.string X] w (Ret (.bool (decide (0<num X∧num X<num O∧num G ^ num X%num M=num Y))) w):=by
 obtain⟨hv,hc,hz,hg,hy⟩:=scK_ok hk;obtain⟨v1,v2,v3,v4⟩:=all_four hv;have h8:=chk_small hv hM hc;have lO:=nvalid_lt v2;have lX:=nvalid_lt vX;have lG:=nvalid_lt v3;have HCM:=Hq (nat_Cmp (nS (num X)) (nS (num O)) (by have:=nS_size_le.2 lX;omega) (by have:=nS_size_le.2 lO;omega));rw[ncmp_n lX lO,←nS_num vX,←nS_num v2]at HCM;have HEX:=Hq (pw_Exp M O G false X hM h8 (by rw[nS_num v3];have:=nS_size_le.2 lG;omega) (by rw[nS_num vX];have:=nS_size_le.2 lX;omega));rw[show (false,X)=(false,nS (num X))from by rw[←nS_num vX],ex_nat2 hc v3 (genK_parts hg).1 lX]at HEX;have hbe:=nS_beq (num G ^ num X%num M) (num Y);rw[←nS_num v4]at hbe;have HX0:=Hq (SB.new w M O G Y);obtain⟨c0,c1,c2,c3⟩:=HX0.out.1.cells;have hcm:=cmpI_ltC (x:=num X) (y:=num O);obtain⟨k1,hk1⟩:∃ k,cmpI (num X) (num O)=k:=⟨_,rfl⟩;rw[hk1]at HCM hcm;by_cases hx0:num X=0
 · have HR:=Hq (show decide (0<num X∧num X<num O∧num G ^ num X%num M=num Y)=false from decide_eq_false fun h=>by omega);have hem:X.toList.isEmpty=true:=by rw[nS_num vX,hx0];exact sempty_true rfl
   rw[HR.out];unfold kV;clear hv hc hz hg hy v1 v2 v3 v4 h8 lO lX lG hbe hcm hk1 hx0 vX hM hk;go_enter Tryz.func44,Tryz.ntmps44;go_wp2;go_ret;exact⟨rfl,HX0.out.2⟩
 · have hem:X.toList.isEmpty=false:=by rw[nS_num vX];exact empty_nS (by omega)
   by_cases hlt:num X<num O
   · have hge : ¬ (0 ≤ k1) := by have : k1 < 0 := by rw [hcm]; exact hlt
                                 omega
     obtain⟨z,hz2⟩:∃ z,nS (num G ^ num X%num M)=z:=⟨_,rfl⟩;rw[hz2]at HEX hbe;have HR:=Hq (show decide (0<num X∧num X<num O∧num G ^ num X%num M=num Y)=(z.toList==Y.toList)from by
      rw[hbe,decide_eq_decide];exact⟨fun h=>h.2.2,fun h=>⟨by omega,hlt,h⟩⟩)
     rw[HR.out];unfold kV gV zV at *;clear hv hc hz hg hy v1 v2 v3 v4 h8 lO lX lG hbe hcm hk1 hx0 vX hM hk hz2 hlt;go_enter Tryz.func44,Tryz.ntmps44;go_wp2_with fail;refine(HCM.out _).mono ?_;rintro ev w1 ⟨rfl,rfl⟩;go_wp2_with fail;refine(HEX.out _).mono ?_;rintro ev w2 ⟨rfl,hb⟩;have HX2:=Hq (HX0.out.next hb);clear hb c0 c1 c2;obtain⟨c0,c1,c2,c3⟩:=HX2.out.1.cells;go_wp2;go_ret;exact⟨rfl,HX2.out.2⟩
   · have hge : 0 ≤ k1 := by have : ¬ (k1 < 0) := by rw [hcm]; exact hlt
                             omega
     have HR:=Hq (show decide (0<num X∧num X<num O∧num G ^ num X%num M=num Y)=false from decide_eq_false fun h=>hlt h.2.1);rw[HR.out];unfold kV;clear hv hc hz hg hy v1 v2 v3 v4 h8 lO lX lG hbe hcm hk1 hx0 vX hM hk hlt;go_enter Tryz.func44,Tryz.ntmps44;go_wp2_with fail;refine(HCM.out _).mono ?_;rintro ev w1 ⟨rfl,rfl⟩;go_wp2;go_ret;exact⟨rfl,HX0.out.2⟩
def cmS(m q g y c r:Nat):Nat:=g ^ r * y ^ (q - c)%m
theorem pz_neg{m y i q c:Nat}(hu:Un m y i)(hp:y ^ q%m=1)(hc:c<q):pz m y (-(c:Int))=y ^ (q - c)%m:=by
 rw[←pz_nat];have h1:=pz_red hu hp (-(c:Int));have h2:=pz_red hu hp ((q - c:Nat):Int);rw[←h1,←h2];congr 1;have e:((q - c:Nat):Int) = -(c:Int)+q * 1:=by omega
 rw[e,Int.add_mul_emod_self_left]
theorem cmS_pz{m y i q g c r:Nat}(hu:Un m y i)(hp:y ^ q%m=1)(hc:c<q):pz m g (r:Int) * pz m y (-(c:Int))%m=cmS m q g y c r:=by
 rw[pz_neg hu hp hc,pz_nat,cmS,←Nat.mul_mod]
set_option maxRecDepth 100000
set_option maxHeartbeats 2000000
theorem ex_two{M O G Y c r:ByteArray}(hc:chkK M O=0)(hO:0<num O)(vG:nvalid G=true)(vY:nvalid Y=true)(hG:hasN (num M) (num O) (num G)=true)(hY:hasN (num M) (num O) (num Y)=true)(vc:nvalid c=true)(vr:nvalid r=true)(hcq:num c<num O) :
 prR M O [G,Y] [(false,r),(!(c.toList.isEmpty),c)]=.tuple #[.string (nS (cmS (num M) (num O) (num G) (num Y) (num c) (num r))),.int .i64 0]:=by
 have lr:=nvalid_lt vr;have lc:=nvalid_lt vc;have e1:(false,r)=(decide (((num r:Nat):Int)<0),nS ((num r:Nat):Int).natAbs):=by rw[Int.natAbs_natCast,decide_eq_false (by omega),←nS_num vr]
 have e2:(!(c.toList.isEmpty),c)=(decide (-((num c:Nat):Int)<0),nS (-((num c:Nat):Int)).natAbs):=by
  rw[Int.natAbs_neg,Int.natAbs_natCast,←nS_num vc];congr 1;by_cases h:num c=0
  · rw[show c.toList.isEmpty=true from by rw[nS_num vc,h];exact sempty_true rfl,h];rfl
  · rw[show c.toList.isEmpty=false from by rw[nS_num vc];exact empty_nS (by omega),decide_eq_true (by omega)];rfl
 rw[e1,e2];unfold prR;rw[if_pos (show ckR M O [G,Y] [(decide (((num r:Nat):Int)<0),nS ((num r:Nat):Int).natAbs),(decide (-((num c:Nat):Int)<0),nS (-((num c:Nat):Int)).natAbs)] (decide ([G,Y].length=[(decide (((num r:Nat):Int)<0),nS ((num r:Nat):Int).natAbs),(decide (-((num c:Nat):Int)<0),nS (-((num c:Nat):Int)).natAbs)].length))=0 from cka_two vG vY (zvalid_all (by rw[Int.natAbs_natCast];exact lr)) (zvalid_all (by rw[Int.natAbs_neg,Int.natAbs_natCast];exact lc)) hc hG hY)];have e:prV (num M) [G,Y] [(decide (((num r:Nat):Int)<0),nS ((num r:Nat):Int).natAbs),(decide (-((num c:Nat):Int)<0),nS (-((num c:Nat):Int)).natAbs)]=cmS (num M) (num O) (num G) (num Y) (num c) (num r):=by
  show baseN (num G) (decide (((num r:Nat):Int)<0)) (num M) ^ (num (nS ((num r:Nat):Int).natAbs) / 2 ^ 0) * (baseN (num Y) (decide (-((num c:Nat):Int)<0)) (num M) ^ (num (nS (-((num c:Nat):Int)).natAbs) / 2 ^ 0) * 1)%num M=_;rw[num_nS,num_nS,Nat.pow_zero,Nat.div_one,Nat.div_one,Nat.mul_one,pz_two];have hcn:chkN (num M) (num O)=0:=(chkK_parts hc).2.2;obtain⟨i,hu⟩:=has_un hcn hY;exact cmS_pz hu (has_ord hO hY) hcq
 rw[e]
def BoxC(W:World)(B:Nat)(s:ByteArray):Prop:=W.heap[B]? =some (.cells #[.string s] 150 (0,0))
theorem BoxC.nextC{W W':World}{B:Nat}{s:ByteArray}(h:BoxC W B s)(hb:Below W.heap.size W W'):BoxC W' B s:=(hb.block _ (block_lt h)).trans h
theorem BoxC.c{W:World}{B:Nat}{s:ByteArray}(h:BoxC W B s):W.cell? ⟨B,0,none⟩=some (.string s):=by rw[Lib.cell_of_heap h];rfl
theorem BoxC.f{W:World}{B:Nat}{s:ByteArray}(h:BoxC W B s):W.frozen? ⟨B,0,none⟩=false:=Lib.frozen_of_heap h 0
theorem BoxC.set{W:World}{B:Nat}{s t:ByteArray}(h:BoxC W B s):BoxC (W.setCell ⟨B,0,none⟩ (.string t)) B t:=block_setCell h _
theorem sc_commitmentOf(M O G Y c r:ByteArray)(hM:M.size≤8)(hk:scK M O G Y=0)(vc:nvalid c=true)(vr:nvalid r=true)(hcq:num c<num O)(w:World):Calls Tryz.prog 85 #[kV M O G Y,.agg #[.string c,.string r]] w (Ret (.agg #[.string (nS (cmS (num M) (num O) (num G) (num Y) (num c) (num r)))]) w):=by
 obtain⟨hv,hc,hz,hg,hy⟩:=scK_ok hk;obtain⟨v1,v2,v3,v4⟩:=all_four hv;have h8:=chk_small hv hM hc;have hpr:=ex_two (M:=M) (O:=O) (G:=G) (Y:=Y) (c:=c) (r:=r) hc (by omega) v3 v4 (genK_parts hg).1 (genK_parts hy).1 vc vr hcq;obtain⟨z,hz2⟩:∃ z,nS (cmS (num M) (num O) (num G) (num Y) (num c) (num r))=z:=⟨_,rfl⟩;rw[hz2]at hpr⊢;obtain⟨nz,hnz⟩:∃ b,c.toList.isEmpty=b:=⟨_,rfl⟩;rw[hnz]at hpr;have sz:∀ {s:ByteArray},nvalid s=true→s.size≤1000:=fun h=>by rw[nS_num h];have:=nS_size_le.2 (nvalid_lt h);omega
 have sG:=sz v3;have sY:=sz v4;have sc:=sz vc;have sr:=sz vr;have HPR:=Hq (fun A B w hl hz=>pw_Product M O [G,Y] [(false,r),(!nz,c)] A B 2 2 2 2 hM h8 (by intro s hs;simp at hs;rcases hs with h | h<;>subst h<;>assumption) (by intro t ht;simp at ht;rcases ht with h | h<;>subst h<;>assumption) (by omega) (by omega) w hl hz);rw[hpr]at HPR
 -- the boxes
 have hx0:=SG.new w M O G Y c r;obtain⟨W0,hW0⟩:∃ W,(w.alloc (.cells #[.string M,.string O,.string G,.string Y] 26)).alloc (.cells #[.string c,.string r] 35)=W:=⟨_,rfl⟩;rw[hW0]at hx0;have hsz0:W0.heap.size=w.heap.size+1+1:=by rw[←hW0];simp
 have hb1:=(Below.refl W0.heap.size W0).alloc nlr (.cells #[.string ⟨#[]⟩] 150);have hx1:=hx0.next hb1;have hr1:BoxC (W0.alloc (.cells #[.string ⟨#[]⟩] 150)) W0.heap.size ⟨#[]⟩:=heap_alloc_new _ _;obtain⟨W1,hW1⟩:∃ W,W0.alloc (.cells #[.string ⟨#[]⟩] 150)=W:=⟨_,rfl⟩;rw[hW1]at hx1 hr1;obtain⟨B,hB⟩:∃ B,W0.heap.size=B:=⟨_,rfl⟩;rw[hB]at hr1;have hsl:=sln_alloc W1 [G,Y] 22 (by simp);have hb2:=(Below.refl W1.heap.size W1).alloc nlr (.cells #[.string G,.string Y] 22);have hx2:=hx1.next hb2;have hr2:=hr1.nextC hb2;obtain⟨W2,hW2⟩:∃ W,W1.alloc (.cells #[.string G,.string Y] 22)=W:=⟨_,rfl⟩;have hslz:=slz_alloc2 W2 false (!nz) r c 103;have hsl2:SlN W2 (some ⟨W1.heap.size,0,none⟩) 2 2 [G,Y]:=hW2▸hsl;rw[hW2]at hx2 hr2;have hb3:=(Below.refl W2.heap.size W2).alloc nlr (.cells #[.bool false,.string r,.bool (!nz),.string c] 103);have HPP:=Hq (HPR.out _ _ _ (hsl2.kept hb3 nlr) hslz);have HX3:=Hq (hx2.next hb3);have HR3:=Hq (hr2.nextC hb3);obtain⟨c0,c1,c2,c3⟩:=hx1.1.1.cells;obtain⟨e0,e1,e2,e3⟩:=hx2.1.1.cells;have d0:=hx2.2.c0;have d1:=hx2.2.c1;have HBB:=Hq (show w.heap.size≤B from by omega);clear hx0 hx1 hx2 hr1 hr2 hb1 hb2 hb3 hsl hsl2 hslz hpr hz2 sG sY sc sr sz hv hc hz hg hy v1 v2 v3 v4 h8 hk hM vc vr hcq;unfold kV gV at *;go_enter Tryz.func85,Tryz.ntmps85;go_wp2_with fail;refine HPP.out.mono ?_;rintro en w' ⟨rfl,hb'⟩;have HR4:=Hq (HR3.out.nextC hb');have HX4:=Hq (HX3.out.next hb');have HBl:=Hq (show w.heap.size<w'.heap.size from by have:=HX3.out.next hb';exact this.1.1.lt);have hbe:B=w.heap.size+1+1:=by omega
 subst hbe;have r0:=HR4.out.c;have r1:=HR4.out.f;go_wp2_with fail;have q0:=(HR4.out.set (t:=z)).c;exact bodyPost_ret (v:=.agg #[.string z]) (by simp[results,Tryz.results85,go_sem,q0]) rfl ⟨rfl,HX4.out.1.2.setCell (p:=⟨w.heap.size+1+1,0,none⟩) (show w.heap.size≤w.heap.size+1+1 by omega) _⟩
end Go.Proofs.YtfbmbledklbfgaaGreatDoor

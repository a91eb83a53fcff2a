import Derived.Test.YtopmeciihijgiaaGreatDoorQScD
set_option linter.unusedVariables false
set_option linter.unusedSimpArgs false
namespace Go.Proofs.YtopmeciihijgiaaGreatDoor
set_option maxRecDepth 100000
set_option maxHeartbeats 1000000
open Go.RowKit Go.Lib
theorem scK_ok{M O G Y:ByteArray}(h:scK M O G Y=0):[M,O,G,Y].all nvalid=true∧chkK M O=0∧num O≠0∧genK M O G=true∧genK M O Y=true:=by
 unfold scK at h;split at h
 · rename_i hv;split at h
   · rename_i hc;split at h
     · cases h
     · rename_i hn;have hn:(O.toList.isEmpty || !genK M O G || !genK M O Y)=false:=by simpa using hn
       rw[Bool.or_eq_false_iff,Bool.or_eq_false_iff]at hn;refine⟨hv,hc,fun e=>?_,by simpa using hn.1.2,by simpa using hn.2⟩;have:=hn.1.1;rw[nS_num (all_four hv).2.1,e]at this;rw[show (nS 0).toList.isEmpty=true from sempty_true rfl]at this;cases this
   · rename_i hc;exact absurd h hc
 · cases h
theorem ex_nat2{M O x:ByteArray}(hc:chkK M O=0)(hx:nvalid x=true)(hh:hasN (num M) (num O) (num x)=true){y:Nat}(hy:y<256 ^ 128):prR M O [x] [(false,nS y)]=.tuple #[.string (nS (num x ^ y%num M)),.int .i64 0]:=by
 have hz:zvalid false (nS y)=true:=(by have:=zvalid_all (z:=(y:Int)) (by rw[Int.natAbs_natCast];exact hy);rwa[Int.natAbs_natCast,decide_eq_false (by omega)]at this);unfold prR;rw[if_pos (show ckR M O [x] [(false,nS y)] (decide ([x].length=[(false,nS y)].length))=0 from cka_one hx hz hc hh)];have e:prV (num M) [x] [(false,nS y)]=num x ^ y%num M:=(by show baseN (num x) false (num M) ^ (num (nS y) / 2 ^ 0) * 1%num M=_;rw[num_nS,Nat.pow_zero,Nat.div_one,Nat.mul_one];rfl);rw[e]
theorem genK_parts{M O x:ByteArray}(h:genK M O x=true):hasN (num M) (num O) (num x)=true∧nvalid x=true∧num x≠1:=by
 unfold genK at h;rw[Bool.and_eq_true]at h;have hk:=hasK_parts h.1;refine⟨hk.2.2,hk.2.1,fun e=>?_⟩;have:=h.2;rw[nS_num hk.2.1,nS_is1,e]at this;simp at this
theorem sc_isSecret(M O G Y X:ByteArray)(hM:M.size≤8)(hk:scK M O G Y=0)(vX:nvalid X=true)(w:World):Calls Tryz.prog 51 #[kV M O G Y,.string X] w (Ret (.bool (decide (0<num X∧num X<num O∧num G ^ num X%num M=num Y))) w):=by
 obtain⟨hv,hc,hz,hg,hy⟩:=scK_ok hk;obtain⟨v1,v2,v3,v4⟩:=all_four hv;have h8:=chk_small hv hM hc;have lO:=nvalid_lt v2;have lX:=nvalid_lt vX;have lG:=nvalid_lt v3;have HCM:=Hq (nat_Cmp (nS (num X)) (nS (num O)) (by have:=nS_size_le.2 lX;omega) (by have:=nS_size_le.2 lO;omega));rw[ncmp_n lX lO,←nS_num vX,←nS_num v2]at HCM;have HEX:=Hq (pw_Exp M O G false X hM h8 (by rw[nS_num v3];have:=nS_size_le.2 lG;omega) (by rw[nS_num vX];have:=nS_size_le.2 lX;omega));rw[show (false,X)=(false,nS (num X))from by rw[←nS_num vX],ex_nat2 hc v3 (genK_parts hg).1 lX]at HEX;have hbe:=nS_beq (num G ^ num X%num M) (num Y);rw[←nS_num v4]at hbe;have HX0:=Hq (SB.new w M O G Y);obtain⟨c0,c1,c2,c3⟩:=HX0.out.1.cells;have hcm:=cmpI_ltC (x:=num X) (y:=num O);obtain⟨k1,hk1⟩:∃ k,cmpI (num X) (num O)=k:=⟨_,rfl⟩;rw[hk1]at HCM hcm;by_cases hx0:num X=0
 · have HR:=Hq (show decide (0<num X∧num X<num O∧num G ^ num X%num M=num Y)=false from decide_eq_false fun h=>by omega);have hem:X.toList.isEmpty=true:=by rw[nS_num vX,hx0];exact sempty_true rfl
   rw[HR.out];unfold kV;clear hv hc hz hg hy v1 v2 v3 v4 h8 lO lX lG hbe hcm hk1 hx0 vX hM hk;go_enter Tryz.func51,Tryz.ntmps51;go_wp2;go_ret;exact⟨rfl,HX0.out.2⟩
 · have hem:X.toList.isEmpty=false:=by rw[nS_num vX];exact empty_nS (by omega)
   by_cases hlt:num X<num O
   · have hge : ¬ (0 ≤ k1) := by have : k1 < 0 := by rw [hcm]; exact hlt
                                 omega
     obtain⟨z,hz2⟩:∃ z,nS (num G ^ num X%num M)=z:=⟨_,rfl⟩;rw[hz2]at HEX hbe;have HR:=Hq (show decide (0<num X∧num X<num O∧num G ^ num X%num M=num Y)=(z.toList==Y.toList)from by
      rw[hbe,decide_eq_decide];exact⟨fun h=>h.2.2,fun h=>⟨by omega,hlt,h⟩⟩)
     rw[HR.out];unfold kV gV zV at *;clear hv hc hz hg hy v1 v2 v3 v4 h8 lO lX lG hbe hcm hk1 hx0 vX hM hk hz2 hlt;go_enter Tryz.func51,Tryz.ntmps51;go_wp2_with fail;refine(HCM.out _).mono ?_;rintro ev w1 ⟨rfl,rfl⟩;go_wp2_with fail;refine(HEX.out _).mono ?_;rintro ev w2 ⟨rfl,hb⟩;have HX2:=Hq (HX0.out.next hb);clear hb c0 c1 c2;obtain⟨c0,c1,c2,c3⟩:=HX2.out.1.cells;go_wp2;go_ret;exact⟨rfl,HX2.out.2⟩
   · have hge : 0 ≤ k1 := by have : ¬ (k1 < 0) := by rw [hcm]; exact hlt
                             omega
     have HR:=Hq (show decide (0<num X∧num X<num O∧num G ^ num X%num M=num Y)=false from decide_eq_false fun h=>hlt h.2.1);rw[HR.out];unfold kV;clear hv hc hz hg hy v1 v2 v3 v4 h8 lO lX lG hbe hcm hk1 hx0 vX hM hk hlt;go_enter Tryz.func51,Tryz.ntmps51;go_wp2_with fail;refine(HCM.out _).mono ?_;rintro ev w1 ⟨rfl,rfl⟩;go_wp2;go_ret;exact⟨rfl,HX0.out.2⟩
set_option maxRecDepth 100000
set_option maxHeartbeats 1000000
theorem r33_raise(M O x e:ByteArray)(hM:M.size≤8)(vM:nvalid M=true)(hm:0<num M)(vx:nvalid x=true)(ve:nvalid e=true)(w:World):Calls Tryz.prog 68 #[gV M O,.string x,.string e] w (Ret (.string (nS (num x ^ num e%num M))) w):=by
 have HEX:=Hq (r03_Exp (num x) (num e) (num M) (nvalid_lt vx) (nvalid_lt ve) (num_small hM) hm);rw[←nS_num vx,←nS_num ve,←nS_num vM]at HEX;obtain⟨z,hz⟩:∃ z,nS (num x ^ num e%num M)=z:=⟨_,rfl⟩;rw[hz]at HEX⊢;have HX0:=Hq (Bx2.new w (.string M) (.string O) 24);have HB0:=Hq ((Below.refl w.heap.size w).alloc nlr (.cells #[.string M,.string O] 24));have c0:=HX0.out.c0;unfold gV;clear hz hM vM hm vx ve;go_enter Tryz.func68,Tryz.ntmps68;go_wp2_with fail;refine(HEX.out _).mono ?_;rintro ev w1 ⟨rfl,hb⟩;have HB1:=Hq (HB0.out.trans (hb.mono HB0.out.size));clear hb c0;go_wp2;go_ret;exact⟨rfl,HB1.out⟩
set_option maxRecDepth 100000
set_option maxHeartbeats 2000000
def sgL:ByteArray:=⟨#[115,99,104,110,111,114,114,32,115,105,103,110,97,116,117,114,101]⟩
def keyL:ByteArray:=⟨#[107,101,121]⟩
def comL:ByteArray:=⟨#[99,111,109,109,105,116,109,101,110,116]⟩
def mesL:ByteArray:=⟨#[109,101,115,115,97,103,101]⟩
theorem ch_state(M O G Y R msg:ByteArray):trH 65 (dt [bstr (trH 76 (dt ([bstr (trH 76 (dt ([bstr (trH 78 (dt [sgL])),keyL]++[M,O,G,Y]))),comL]++[R]))),mesL,msg])=snL M.data.toList O.data.toList G.data.toList Y.data.toList R.data.toList msg.data.toList:=by
 simp only[dt,List.map_cons,List.map_nil,List.cons_append,List.nil_append,bstr_data];rfl
theorem trs(k:UInt8)(l:List (List UInt8)):(bstr (trH k l)).size≤1000000:=by rw[bstr_size,trH_length];decide
theorem four_mem{M O G Y:ByteArray}{m:Nat}(h1:M.size≤m)(h2:O.size≤m)(h3:G.size≤m)(h4:Y.size≤m):∀ s∈[M,O,G,Y],s.size≤m:=by
 intro s hs;simp at hs;rcases hs with rfl | rfl | rfl | rfl<;>assumption
theorem sc_challenge(M O G Y R msg:ByteArray)(hM:M.size≤8)(hO:O.size≤8)(hG:G.size≤1000000)(hY:Y.size≤1000000)(hR:R.size≤1000000)(hm:msg.size≤1000000)(vO:nvalid O=true)(h0:0<num O)(w:World) :
 Calls Tryz.prog 54 #[kV M O G Y,.string R,.string msg] w (Ret (.string (nS (chL (snL M.data.toList O.data.toList G.data.toList Y.data.toList R.data.toList msg.data.toList) O.size (num O)))) w):=by
 obtain⟨s1,hs1⟩:∃ s,bstr (trH 78 (dt [sgL]))=s:=⟨_,rfl⟩;obtain⟨s2,hs2⟩:∃ s,bstr (trH 76 (dt ([s1,keyL]++[M,O,G,Y])))=s:=⟨_,rfl⟩;obtain⟨s3,hs3⟩:∃ s,bstr (trH 76 (dt ([s2,comL]++[R])))=s:=⟨_,rfl⟩;obtain⟨s4,hs4⟩:∃ s,bstr (trH 65 (dt [s3,mesL,msg]))=s:=⟨_,rfl⟩;have z1:s1.size≤1000000:=by rw[←hs1];exact trs _ _
 have z2:s2.size≤1000000:=by rw[←hs2];exact trs _ _
 have z3:s3.size≤1000000:=by rw[←hs3];exact trs _ _
 have z4:s4.size≤1000000:=by rw[←hs4];exact trs _ _
 have hst:s4.data.toList=snL M.data.toList O.data.toList G.data.toList Y.data.toList R.data.toList msg.data.toList:=(by rw[←hs4,bstr_data,←hs3,←hs2,←hs1,ch_state]);have H1:=Hq (tr_New sgL (by decide));rw[hs1]at H1;have H2:=Hq (fun w1=>tr_Nats s1 keyL (some ⟨World.heap w1 |>.size,0,none⟩) 4 4 [M,O,G,Y] z1 (by decide) (by omega) (four_mem (by omega) (by omega) hG hY) _ (sln_alloc w1 [M,O,G,Y] 22 (by simp)));rw[hs2]at H2;have H3:=Hq (fun w1=>tr_Nats s2 comL (some ⟨World.heap w1 |>.size,0,none⟩) 1 1 [R] z2 (by decide) (by omega) (by simpa using hR) _ (sln_alloc w1 [R] 22 (by simp)));rw[hs3]at H3;have H4:=Hq (tr_Add s3 mesL msg z3 (by decide) hm);rw[hs4]at H4;have H5:=Hq (tr_Challenge s4 O z4 vO h0 hO);rw[hst]at H5;obtain⟨r,hr⟩:∃ r,nS (chL (snL M.data.toList O.data.toList G.data.toList Y.data.toList R.data.toList msg.data.toList) O.size (num O))=r:=⟨_,rfl⟩;rw[hr]at H5⊢;have HX0:=Hq (SB.new w M O G Y);obtain⟨W0,hW0⟩:∃ W,w.alloc (.cells #[.string M,.string O,.string G,.string Y] 26)=W:=⟨_,rfl⟩;rw[hW0]at HX0;obtain⟨c0,c1,c2,c3⟩:=HX0.out.1.cells;unfold kV;clear hs1 hs2 hs3 hs4 z1 z2 z3 z4 hst hr vO h0;go_enter Tryz.func54,Tryz.ntmps54;go_wp2_with fail;try rw[hW0]
 clear hW0;refine(H1.out _).mono ?_;rintro ev w1 ⟨rfl,hb⟩;have HX1:=Hq (HX0.out.next hb);clear hb c0 c1 c2 c3;obtain⟨c0,c1,c2,c3⟩:=HX1.out.1.cells;have HX2:=Hq (HX1.out.next ((Below.refl w1.heap.size w1).alloc nlr (.cells #[.string M,.string O,.string G,.string Y] 22)));go_wp2_with fail;refine(H2.out _).mono ?_;rintro ev w2 ⟨rfl,hb⟩;have HX3:=Hq (HX2.out.next hb);clear hb c0 c1 c2 c3;have HX4:=Hq (HX3.out.next ((Below.refl w2.heap.size w2).alloc nlr (.cells #[.string R] 22)));go_wp2_with fail;refine(H3.out _).mono ?_;rintro ev w3 ⟨rfl,hb⟩;have HX5:=Hq (HX4.out.next hb);clear hb;go_wp2;obtain⟨wd,hwd⟩:∃ wd,w3.drew=wd:=⟨_,rfl⟩;have HXD:=Hq (show SB w wd M O G Y from by rw[←hwd];exact HX5.out.next (blr).drew);obtain⟨c0,c1,c2,c3⟩:=HXD.out.1.cells;refine wp_region_K 12 (Below (wd).heap.size (wd)) (by kernel_rfl) ?_;intro hD;rw[hwd];refine rP 0 29 11 rfl hD blr ?_;clear hD;intro hD;refine rP 1 30 10 rfl hD blr ?_;clear hD;intro hD;refine rP 3 32 9 rfl hD blr ?_;clear hD;intro hD;refine rP 4 33 8 rfl hD blr ?_;clear hD;intro hD;refine rT 5 34 7 rfl hD blr (by intro w' hS';have e0:=kC hS' c0;have e1:=kC hS' c1;have e2:=kC hS' c2;have e3:=kC hS' c3;go_simp;with_reducible rfl) ?_;clear hD;intro hD;simp only[Act.put,sqA,sqB,sqC];refine rO 2 6 rfl hD ?_;clear hD;intro K2 hK2;go_wp2_with fail;refine(H4.out _).mono ?_;rintro ev w4 ⟨rfl,hb⟩;have HB2:=Hq hb;clear hb;go_wp2;refine hK2 _ _ (by exact HB2.out) ?_;clear hK2;intro hS_4_2 hD;refine rO 6 5 rfl hD ?_;clear hD;intro K6 hK6;go_wp2_with fail;refine(H5.out _).mono ?_;rintro ev w5 ⟨rfl,hb⟩;have HB6:=Hq hb;clear hb;go_wp2;refine hK6 _ _ (by exact Below.trans hS_4_2 (Below.mono HB6.out (Below.size hS_4_2))) ?_;clear hK6;intro hS_4_6 hD;refine rP 7 28 4 rfl hD hS_4_6 ?_;clear hD;intro hD;refine rP 8 36 3 rfl hD hS_4_6 ?_;clear hD;intro hD;refine rP 9 37 2 rfl hD hS_4_6 ?_;clear hD;intro hD;simp only[Act.put,sqA,sqB,sqC];refine rO 10 1 rfl hD ?_;clear hD;intro K10 hK10;go_wp2;refine hK10 _ _ (by exact hS_4_6) ?_;clear hK10;intro hS_4_10 hD;refine rO 11 0 rfl hD ?_;clear hD;intro K11 hK11;go_wp2;refine hK11 _ _ (by exact hS_4_10) ?_;clear hK11;intro hS_4_11 hD;have HL:=Hq hS_4_11;refine wpD ?_;clear hD;go_wp2;go_ret;exact⟨rfl,(HXD.out.next HL.out).2⟩
theorem r33_challenge(M O G Y R msg:ByteArray)(hM:M.size≤8)(hO:O.size≤8)(hG:G.size≤1000000)(hY:Y.size≤1000000)(hR:R.size≤1000000)(hm:msg.size≤1000000)(vO:nvalid O=true)(h0:0<num O)(w:World) :
 Calls Tryz.prog 67 #[kV M O G Y,.string R,.string msg] w (Ret (.string (nS (chL (snL M.data.toList O.data.toList G.data.toList Y.data.toList R.data.toList msg.data.toList) O.size (num O)))) w):=by
 obtain⟨s1,hs1⟩:∃ s,bstr (trH 78 (dt [sgL]))=s:=⟨_,rfl⟩;obtain⟨s2,hs2⟩:∃ s,bstr (trH 76 (dt ([s1,keyL]++[M,O,G,Y])))=s:=⟨_,rfl⟩;obtain⟨s3,hs3⟩:∃ s,bstr (trH 76 (dt ([s2,comL]++[R])))=s:=⟨_,rfl⟩;obtain⟨s4,hs4⟩:∃ s,bstr (trH 65 (dt [s3,mesL,msg]))=s:=⟨_,rfl⟩;have z1:s1.size≤1000000:=by rw[←hs1];exact trs _ _
 have z2:s2.size≤1000000:=by rw[←hs2];exact trs _ _
 have z3:s3.size≤1000000:=by rw[←hs3];exact trs _ _
 have z4:s4.size≤1000000:=by rw[←hs4];exact trs _ _
 have hst:s4.data.toList=snL M.data.toList O.data.toList G.data.toList Y.data.toList R.data.toList msg.data.toList:=(by rw[←hs4,bstr_data,←hs3,←hs2,←hs1,ch_state]);have H1:=Hq (r12_New sgL (by decide));rw[hs1]at H1;have H2:=Hq (fun w1=>r12_Nats s1 keyL (some ⟨World.heap w1 |>.size,0,none⟩) 4 4 [M,O,G,Y] z1 (by decide) (by omega) (four_mem (by omega) (by omega) hG hY) _ (sln_alloc w1 [M,O,G,Y] 22 (by simp)));rw[hs2]at H2;have H3:=Hq (fun w1=>r12_Nats s2 comL (some ⟨World.heap w1 |>.size,0,none⟩) 1 1 [R] z2 (by decide) (by omega) (by simpa using hR) _ (sln_alloc w1 [R] 22 (by simp)));rw[hs3]at H3;have H4:=Hq (r12_Add s3 mesL msg z3 (by decide) hm);rw[hs4]at H4;have H5:=Hq (r12_Challenge s4 O z4 vO h0 hO);rw[hst]at H5;obtain⟨r,hr⟩:∃ r,nS (chL (snL M.data.toList O.data.toList G.data.toList Y.data.toList R.data.toList msg.data.toList) O.size (num O))=r:=⟨_,rfl⟩;rw[hr]at H5⊢;have HX0:=Hq (SB.new w M O G Y);obtain⟨W0,hW0⟩:∃ W,w.alloc (.cells #[.string M,.string O,.string G,.string Y] 26)=W:=⟨_,rfl⟩;rw[hW0]at HX0;obtain⟨c0,c1,c2,c3⟩:=HX0.out.1.cells;unfold kV;clear hs1 hs2 hs3 hs4 z1 z2 z3 z4 hst hr vO h0;go_enter Tryz.func67,Tryz.ntmps67;go_wp2_with fail;try rw[hW0]
 clear hW0;refine(H1.out _).mono ?_;rintro ev w1 ⟨rfl,hb⟩;have HX1:=Hq (HX0.out.next hb);clear hb c0 c1 c2 c3;obtain⟨c0,c1,c2,c3⟩:=HX1.out.1.cells;have HX2:=Hq (HX1.out.next ((Below.refl w1.heap.size w1).alloc nlr (.cells #[.string M,.string O,.string G,.string Y] 22)));go_wp2_with fail;refine(H2.out _).mono ?_;rintro ev w2 ⟨rfl,hb⟩;have HX3:=Hq (HX2.out.next hb);clear hb c0 c1 c2 c3;have HX4:=Hq (HX3.out.next ((Below.refl w2.heap.size w2).alloc nlr (.cells #[.string R] 22)));go_wp2_with fail;refine(H3.out _).mono ?_;rintro ev w3 ⟨rfl,hb⟩;have HX5:=Hq (HX4.out.next hb);clear hb;go_wp2_with fail;refine(H4.out _).mono ?_;rintro ev w4 ⟨rfl,hb⟩;have HX6:=Hq (HX5.out.next hb);clear hb;obtain⟨c0,c1,c2,c3⟩:=HX6.out.1.cells;go_wp2_with fail;refine(H5.out _).mono ?_;rintro ev w5 ⟨rfl,hb⟩;have HX7:=Hq (HX6.out.next hb);clear hb c0 c1 c2 c3;go_wp2;go_ret;exact⟨rfl,HX7.out.2⟩
set_option maxRecDepth 100000
set_option maxHeartbeats 1000000
open Go.RowKit
theorem sc_goodTape(l:List ByteArray)(s:ByteArray)(at_:Int)(A:Option Addr)(n cap:Nat)(w:World)(hs:SlN w A n cap l)(hn:n≤1000)(hp:∀ x∈l,x.size≤9223372036854775807) :
 Calls Tryz.prog 50 #[tpV A n cap s at_] w (Ret (.bool (tpG l at_)) w):=by
 have hT:=TB.new w A n cap s at_;have hB:=(Below.refl w.heap.size w).alloc nlr (.cells #[.slice A n cap,.string s,.int .i64 at_] 30);have HC:=Hq (sc_formed l A n cap hn hp _ (hs.kept hB nlr));have HB:=Hq hB;obtain⟨c0,c1,c2⟩:=hT.c;have HR:=Hq (show tpG l at_=(decide (0≤at_)&&decide (at_≤2147483647)&&l.all nvalid)from rfl);obtain⟨b,hb⟩:∃ b,l.all nvalid=b:=⟨_,rfl⟩;rw[hb]at HC HR;rw[HR.out];unfold tpV;clear hT hB hs hp hb
 cases b with
 | false =>
  rw[Bool.and_false];go_enter Tryz.func50,Tryz.ntmps50;go_wp2_with fail;refine HC.out.mono ?_;rintro e w1 ⟨rfl,rfl⟩;go_wp2;go_ret;exact⟨rfl,HB.out⟩
 | true =>
  by_cases h0:0≤at_
  · by_cases h1:at_≤2147483647
    · rw[decide_eq_true h0,decide_eq_true h1];go_enter Tryz.func50,Tryz.ntmps50;go_wp2_with fail;refine HC.out.mono ?_;rintro e w1 ⟨rfl,rfl⟩;go_wp2;go_ret;exact⟨rfl,HB.out⟩
    · have h1':decide (at_≤2147483647)=false:=decide_eq_false h1;rw[decide_eq_true h0,h1'];go_enter Tryz.func50,Tryz.ntmps50;go_wp2_with fail;refine HC.out.mono ?_;rintro e w1 ⟨rfl,rfl⟩;go_wp2;go_ret;exact⟨rfl,HB.out⟩
  · have h0':decide (0≤at_)=false:=decide_eq_false h0;rw[h0',Bool.false_and,Bool.false_and];go_enter Tryz.func50,Tryz.ntmps50;go_wp2_with fail;refine HC.out.mono ?_;rintro e w1 ⟨rfl,rfl⟩;go_wp2;go_ret;exact⟨rfl,HB.out⟩
end Go.Proofs.YtopmeciihijgiaaGreatDoor

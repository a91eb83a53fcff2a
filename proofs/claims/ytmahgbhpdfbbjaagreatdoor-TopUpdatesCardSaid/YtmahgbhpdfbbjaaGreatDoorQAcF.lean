import Derived.Test.YtmahgbhpdfbbjaaGreatDoorQLedB
import Derived.Test.YtmahgbhpdfbbjaaGreatDoorQWiA
set_option linter.unusedVariables false
set_option linter.unusedSimpArgs false
namespace Go.Proofs.YtmahgbhpdfbbjaaGreatDoor
open Go.RowKit
open Go.Maps Go.WideMaps
theorem lawN:Keyed Tryz.prog 22:=string_keyed Tryz.underlying22
theorem keyN{s:ByteArray}(h:s.size≤maxLen):keyOf Tryz.prog 22 (.string s)=some (.string s.data.toList):=keyOf_string_mk Tryz.underlying22 h
set_option maxRecDepth 100000
set_option maxHeartbeats 2000000
theorem plainElem_bool_inv{P:Program}{H:Type}{e:TypeId}(he:P.underlying e=some .bool){v:Value}{z:DataW H×List MemPlace}(h:plainElem P e v=some z):∃ a,v=.bool a∧z=(.lit (.bool a),[]):=by
 unfold plainElem at h;rw[he]at h;cases v<;>simp at h;exact⟨_,rfl,h.symm⟩
theorem wpList_lookup_own_bool{H:Type}{P:Program}(w:World){ops:Array Oper}{rest:List Oper}{o:Oper}{a:Act}{Q:Exit→Act→World→Prop}
 (hg:o.guard=none) (m x:Operand) (t:TypeId) (hop:o.op=Op.lookup t m x false)
 (k e:TypeId) (K:Keyed P k) (ht:P.underlying t=some (.map k e)) (he:P.underlying e=some .bool) (hz:(zeroValue e).run P w=.ok (.bool false) w) (b n:Nat) (D:DataW H)
 (hm:a.eval m=.map (some b)) (hown:w.ownsMap P k (plainElem P e) b n D) (key:Value) (kl:Lit) (hx:a.eval x=key) (hkey:keyOf P k key=some kl)
 (c:Bool) (hat:D.atKey kl (.lit (.bool false))=.lit (.bool c)) (hK:wpList P ops Q rest (a.put o.dst (.bool c)) w) :
 wpList P ops Q (o::rest) a w:=by
 refine wpList_plain hg fun K' hK'=>?_;obtain⟨v,ps,hrun,hv⟩:=hown.lookup K ht hz (plainElem_bool he false) hkey;obtain⟨c',rfl,hc⟩:=plainElem_bool_inv he hv;rw[hat]at hc;obtain rfl:c=c':=by
  have h1:=congrArg Prod.fst hc;injection h1 with h1
  injection h1
 unfold Oper.wp;simp[execOp,hop,hm,hx,hrun,Result.andThen];exact hK' _ _ hK
theorem zeroB(w:World):(zeroValue 4).run Tryz.prog w=.ok (.bool false) w:=by kernel_rfl
def SetB(w:World)(b n:Nat)(K:List ByteArray):Prop:=∃ D:DataW Unit,w.ownsMap Tryz.prog 22 (plainElem (H:=Unit) Tryz.prog 4) b n D∧∀ s:ByteArray,D.atKey (.string s.data.toList) (.lit (.bool false))=.lit (.bool (memB K s))
theorem SetB.made(w:World):SetB (w.alloc (.map #[] 0)) w.heap.size 0 []:=⟨_,World.ownsMap_made _ _ _ _,fun _=>rfl⟩
theorem memB_app(K:List ByteArray)(h s:ByteArray):memB (K++[h]) s=(memB K s||decide (s=h)):=by
 rw[Bool.eq_iff_iff,memB_iff,Bool.or_eq_true,memB_iff];simp
theorem SetB.congr{w:World}{b n n':Nat}{K K':List ByteArray}(h:SetB w b n K)(hn:n=n')(hK:K=K'):SetB w b n' K':=by subst hn hK;exact h
theorem setB_put{w':World}{b n:Nat}{K:List ByteArray}{h:ByteArray}{D:DataW Unit}(hf:∀ s:ByteArray,D.atKey (.string s.data.toList) (.lit (.bool false))=.lit (.bool (memB K s)))(hm:IsMap D)
 (hown:w'.ownsMap Tryz.prog 22 (plainElem (H:=Unit) Tryz.prog 4) b (n+1) (D.put (.string h.data.toList) (.lit (.bool true)))):SetB w' b (n+1) (K++[h]):=by
 have hk:WideAt.IsKeyLit (.string h.data.toList):=trivial;refine⟨_,hown,fun s=>?_⟩;by_cases e:s=h
 · subst e;rw[atKey_put_same hm hk _ _,memB_app];simp
 · have hne:(Lit.string s.data.toList)≠(Lit.string h.data.toList):=fun hh=>e (by simp only[Lit.string.injEq]at hh;rw[←bstr_of h,←bstr_of s,hh]);rw[atKey_put_other hne,hf s,memB_app,decide_eq_false e,Bool.or_false]
open Classical in
noncomputable def ndB(l:List ByteArray):Bool:=decide l.Nodup
theorem nd_t{l:List ByteArray}(h:l.Nodup):ndB l=true:=by unfold ndB;exact decide_eq_true h
theorem nd_f{l:List ByteArray}(h:¬ l.Nodup):ndB l=false:=by unfold ndB;exact decide_eq_false h
theorem nd_step{l:List ByteArray}{k:Nat}{x:ByteArray}(hn:(l.take k).Nodup)(he:l[k]? =some x)(hx:x∉l.take k):(l.take (k+1)).Nodup:=by
 rw[List.take_add_one,he,Option.toList_some,List.nodup_append];exact⟨hn,by simp,fun a ha b hb=>by rw[List.mem_singleton]at hb;subst hb;exact fun h=>hx (h▸ha)⟩
theorem nd_bad{l:List ByteArray}{k:Nat}{x:ByteArray}(he:l[k]? =some x)(hx:x∈l.take k):¬ l.Nodup:=by
 intro h;have h1:=h.sublist (List.take_sublist (k+1) l);rw[List.take_add_one,he,Option.toList_some,List.nodup_append]at h1;exact h1.2.2 x hx x (by simp) rfl
def RetSet(l:List ByteArray)(w:World)(e:Ending)(w':World):Prop:=∃ o,e=.returned (.tuple #[.map o,.int .i64 (if ndB l=true then 0 else 8)])∧Below w.heap.size w w'
theorem ac_set(l:List ByteArray)(A:Option Addr)(n c:Nat)(w:World)(hn:n≤100000)(hs:SlN w A n c l)(hz:SzL l):Calls Tryz.prog 18 #[.slice A n c] w (RetSet l w):=by
 have HSN:=Hq hs;have HNL:=Hq hs.1;have hc1:=hs.2.1;have hc2:=hs.2.2.1;have HZZ:=Hq hz;obtain⟨P,hP⟩:=nm (RetSet l w);have HP:=Hq (fun e w' h=>hP▸(show RetSet l w e w' from h));rw[hP];clear hP;have hmm:=@run_makeMap Tryz.prog;clear hs hz;go_enter Tryz.func18,Tryz.ntmps18;go_wp2;clear hmm;go_loopw [10] (fun i wr=>∃ k:Nat,k≤n∧i=.int .i64 k∧(l.take k).Nodup∧SetB wr w.heap.size k (l.take k)∧Below w.heap.size w wr) (fun i _=>n - (intOf i).toNat);case atStart=>exact⟨0,Nat.zero_le _,rfl,by simp,(SetB.made w).congr rfl (by simp),(blr).alloc nlr _⟩
 case round =>
  obtain⟨k,hk,rfl,hnd,hm,hbb⟩:=hrel;have HB:=Hq hbb;have HND:=Hq hnd;by_cases hlt:k<n
  · obtain⟨x,he⟩:∃ x,l[k]? =some x:=⟨_,List.getElem?_eq_getElem (by rw[HNL.out];exact hlt)⟩;obtain⟨b,o,rfl⟩:=HSN.out.head (by omega);have c0:=(HSN.out.kept hbb nlr).get? k he;have HXS:=Hq (show x.size≤maxLen from by have:=HZZ.out x (List.mem_of_getElem? he);unfold maxLen;omega);have HE:=Hq he;obtain⟨D,hown,hf⟩:=hm;have HOWN:=Hq hown;have HF:=Hq hf;have HL:=Hq (show (l.take k++[x])=l.take (k+1)from by rw[List.take_add_one,he,Option.toList_some]);clear hnd hbb he hown hf
    cases hin:memB (l.take k) x with
    | true =>
     have HX:=Hq (memB_iff.1 hin);go_wp2_with (at_lookup;refine wpList_lookup_own_bool _ rfl _ _ 64 rfl 22 4 lawN Tryz.underlying64 Tryz.underlying4 (zeroB _) w.heap.size k D rfl HOWN.out (.string x) (.string x.data.toList) rfl (keyN HXS.out) true ((HF.out x).trans (by rw[hin])) ?_);exact(HP.out _ _ ⟨none,by rw[nd_f (nd_bad HE.out HX.out)];rfl,HB.out⟩)
    | false =>
     have HX:=Hq (show x∉l.take k from fun h=>by rw[memB_iff.2 h]at hin;cases hin);go_wp2_with (first | (at_lookup;refine wpList_lookup_own_bool _ rfl _ _ 64 rfl 22 4 lawN Tryz.underlying64 Tryz.underlying4 (zeroB _) w.heap.size k D rfl HOWN.out (.string x) (.string x.data.toList) rfl (keyN HXS.out) false ((HF.out x).trans (by rw[hin])) ?_) | (at_mapUpdate;refine wpList_mapUpdate_own _ rfl _ _ _ 64 rfl 22 4 lawN Tryz.underlying64 _ w.heap.size k D rfl HOWN.out (by unfold maxLen;omega) (.string x) (.bool true) (.string x.data.toList) rfl rfl (keyN HXS.out) (.lit (.bool true)) [] (plainElem_bool Tryz.underlying4 true) ?_));intro w3 hown3 hgrow3;have HM3:=Hq ((setB_put HF.out HOWN.out.isMap hown3).congr rfl HL.out);have HB3:=Hq (HB.out.grown hgrow3 HB.out.size (fun k hk=>by simp only[Option.some.injEq]at hk;omega));clear hown3 hgrow3;go_wp2;go_roundw;case rel=>exact⟨k+1,by omega,by go_num,nd_step HND.out HE.out HX.out,HM3.out,HB3.out⟩
     case measure=>simp[intOf];omega
  · obtain rfl:k=n:=by omega
    have HRR:=Hq (show l.Nodup from by have:=HND.out;rwa[List.take_of_length_le (by have:=HNL.out;omega)]at this);go_wp2;exact(HP.out _ _ ⟨some w.heap.size,by rw[nd_t HRR.out];rfl,HB.out⟩)
set_option maxRecDepth 100000
set_option maxHeartbeats 4000000
def valF(m x:Nat)(l:List ByteArray):Nat:=l.foldl (fun y u=>pz m y (num u)) x
theorem valF_step{m x k:Nat}{l:List ByteArray}{u:ByteArray}(he:l[k]? =some u):valF m x (l.take (k+1))=pz m (valF m x (l.take k)) (num u):=by
 unfold valF;rw[List.take_add_one,he,Option.toList_some,List.foldl_append];rfl
theorem pr_u{M O a u:ByteArray}(va:nvalid a=true)(hc:chkK M O=0)(ha:hasN (num M) (num O) (num a)=true)(vu:nvalid u=true) :
 prR M O [a] [(false,u)]=.tuple #[.string (nS (pz (num M) (num a) (num u))),.int .i64 0]:=by
 have h:=pr_one va hc ha (x:=(num u:Int)) (by rw[Int.natAbs_natCast];exact nvalid_lt vu);rw[Int.natAbs_natCast,decide_eq_false (Int.not_lt.2 (Int.natCast_nonneg _)),←nS_num vu]at h;exact h
theorem from_u{u:ByteArray}(vu:nvalid u=true)(w:World):Calls Tryz.prog 39 #[.string u] w (Ret (.agg #[.bool false,.string u]) w):=by
 have h:=int_From (num u) (nvalid_lt vu) w;rw[←nS_num vu]at h;have e:intV (num u:Int)=.agg #[.bool false,.string u]:=(by unfold intV zV;rw[Int.natAbs_natCast,decide_eq_false (Int.not_lt.2 (Int.natCast_nonneg _)),←nS_num vu]);rwa[e]at h
theorem valF_has{M O:ByteArray}(hc:chkK M O=0){y u:ByteArray}(hy:hasN (num M) (num O) (num y)=true):hasN (num M) (num O) (pz (num M) (num y) (num u))=true:=has_pz (chkK_parts hc).2.2 hy _
theorem sz_v{x:ByteArray}(hv:nvalid x=true):x.size≤1000:=by have:=size_valid hv;omega
theorem ac_raised(M O x:ByteArray)(l:List ByteArray)(A:Option Addr)(n c:Nat)(w:World)(hM:M.size≤8)(hO:O.size≤8)(hc:chkK M O=0)(vx:nvalid x=true)(hx:hasN (num M) (num O) (num x)=true)
 (hl:l.all nvalid=true) (hs:SlN w A n c l):Calls Tryz.prog 19 #[gV M O,.string x,.slice A n c] w (Ret (.tuple #[.string (nS (valF (num M) (num x) l)),.int .i64 0]) w):=by
 have HSN:=Hq hs;have HNL:=Hq hs.1;have hc1:=hs.2.1;have hc2:=hs.2.2.1;have HC:=Hq hc;have HV:=Hq (List.all_eq_true.1 hl);have HVX:=Hq vx;have HHX:=Hq hx;have HEX:=Hq (fun(y u:ByteArray) (bb:Bool)=>pw_Exp M O y bb u hM hO);obtain⟨R,hR⟩:=nm (valF (num M) (num x) l);rw[hR];have HR:=Hq hR;unfold gV at HEX⊢;unfold zV at HEX;obtain⟨W0,hW0⟩:=nm (w.alloc (.cells #[.string M,.string O] 24));have hx0:Bx2 W0 w.heap.size (.string M) (.string O) 24:=by rw[←hW0];exact Bx2.new _ _ _ _
 have hb0:Below w.heap.size w W0:=by rw[←hW0];exact(blr).alloc nlr _
 have HX0:=Hq hx0;have HB0:=Hq hb0;clear hs hR hc vx hx hl hM hO hx0 hb0;go_enter Tryz.func19,Tryz.ntmps19;go_wp2;try rw[hW0]
 clear hW0;go_loopw [1,14] (fun v i wr=>∃(k:Nat) (y:ByteArray),k≤n∧i=.int .i64 k∧v=.string y∧(nvalid y=true∧hasN (num M) (num O) (num y)=true∧num y=valF (num M) (num x) (l.take k))∧Below W0.heap.size W0 wr) (fun _ i _=>n - (intOf i).toNat);case atStart=>exact⟨0,x,Nat.zero_le _,rfl,rfl,⟨HVX.out,HHX.out,rfl⟩,Below.refl _ _⟩
 case round =>
  obtain⟨k,y,hk,rfl,rfl,hy,hbb⟩:=hrel;have HB:=Hq hbb;have HY:=Hq hy;by_cases hlt:k<n
  · obtain⟨u,he⟩:∃ u,l[k]? =some u:=⟨_,List.getElem?_eq_getElem (by rw[HNL.out];exact hlt)⟩;obtain⟨b,o,rfl⟩:=HSN.out.head (by omega);have HVU:=Hq (HV.out u (List.mem_of_getElem? he));have HFR:=Hq (from_u HVU.out);have hex:=HEX.out y u false (sz_v hy.1) (sz_v HVU.out);rw[pr_u hy.1 HC.out hy.2.1 HVU.out]at hex;obtain⟨z,hz⟩:=nm (nS (pz (num M) (num y) (num u)));have hhz:=valF_has (u:=u) HC.out hy.2.1;have HZ:=Hq (show nvalid z=true∧hasN (num M) (num O) (num z)=true∧num z=valF (num M) (num x) (l.take (k+1))from by
     rw[←hz,num_nS]
     exact⟨nvalid_nS.2 (Nat.lt_trans (has_lt hhz) (nvalid_lt (chkK_parts HC.out).1)),hhz,by rw[valF_step he,hy.2.2]⟩)
    rw[hz]at hex;have HEQ:=Hq hex;have hbr:=HB0.out.trans (hbb.mono HB0.out.size);have e0:=(HSN.out.kept hbr nlr).get? k he;clear he hy hbb hhz hz hex;go_wp2;obtain⟨wd,hwd⟩:=nm (wr.drew);have hbd:Below wr.heap.size wr wd:=by rw[←hwd];exact(blr).drew
    have hxd:=(HX0.out.next HB.out).next hbd;have c0:=hxd.c0;have c1:=hxd.c1;have HBD:=bTr HB hbd;clear hbd hxd hbr e0;refine wp_region_K 10 (Below (wd).heap.size (wd)) (by kernel_rfl) ?_;rw[hwd];refine rTs 0 19 9 blr (k2 c0 c1) ?_;refine rPs 1 20 8 blr ?_;refine rPs 2 21 7 blr ?_;refine rO 3 6 ?_;intro K3 hK3;go_wp2_with fail;refine(HFR.out _).mono ?_;rintro ev w7 ⟨rfl,hb⟩;have HB3:=Hq hb;clear hb;go_wp2;refine hK3 _ _ (by exact HB3.out) ?_;clear hK3;intro hS_4_3;refine rO 4 5 ?_;intro K4 hK4;go_wp2_with fail;refine(HEQ.out _).mono ?_;rintro ev w8 ⟨rfl,hb⟩;have HB4:=Hq hb;clear hb;go_wp2;refine hK4 _ _ (by exact Below.trans hS_4_3 (Below.mono HB4.out (Below.size hS_4_3))) ?_;clear hK4;intro hS_4_4;refine rPs 5 18 4 hS_4_4 ?_;refine rPs 6 24 3 hS_4_4 ?_;refine rPs 7 25 2 hS_4_4 ?_;refine rO 8 1 ?_;intro K8 hK8;go_wp2;refine hK8 _ _ (by exact hS_4_4) ?_;clear hK8;intro hS_4_8;refine rO 9 0 ?_;intro K9 hK9;go_wp2;refine hK9 _ _ (by exact hS_4_8) ?_;clear hK9;intro hS_4_9;refine wDn ?_;clear c0 c1;have HB9:=Hq (HBD.out.trans ((HB3.out.trans (HB4.out.mono HB3.out.size)).mono HBD.out.size));go_wp2;go_roundw;case rel=>exact⟨k+1,z,by omega,by go_num,rfl,HZ.out,HB9.out⟩
    case measure=>simp[intOf];omega
  · obtain rfl:k=n:=by omega
    have HRR:=Hq (show nS R=y from by rw[←HR.out,←List.take_of_length_le (l:=l) (i:=k) (by have:=HNL.out;omega),←HY.out.2.2];exact(nS_num HY.out.1).symm);go_wp2;go_ret2;exact⟨by rw[HRR.out];rfl,HB0.out.trans (HB.out.mono HB0.out.size)⟩
set_option maxRecDepth 100000
set_option maxHeartbeats 4000000
noncomputable def valV(M O U:ByteArray)(l:List ByteArray):Value:=
 if rdyR M O [U] l≠0 then .tuple #[.string ⟨#[]⟩,.int .i64 (rdyR M O [U] l)]else if ndB l=false then .tuple #[.string ⟨#[]⟩,.int .i64 8]else .tuple #[.string (nS (valF (num M) (num U) l)),.int .i64 0]
theorem val_bad{M O U:ByteArray}{l:List ByteArray}(h:rdyR M O [U] l≠0):valV M O U l=.tuple #[.string ⟨#[]⟩,.int .i64 (rdyR M O [U] l)]:=by unfold valV;rw[if_pos h]
theorem val_dup{M O U:ByteArray}{l:List ByteArray}(h:rdyR M O [U] l=0)(h2:ndB l=false):valV M O U l=.tuple #[.string ⟨#[]⟩,.int .i64 8]:=by unfold valV;rw[if_neg (fun c=>c h),if_pos h2]
theorem val_ok{M O U:ByteArray}{l:List ByteArray}(h:rdyR M O [U] l=0)(h2:ndB l=true):valV M O U l=.tuple #[.string (nS (valF (num M) (num U) l)),.int .i64 0]:=by unfold valV;rw[if_neg (fun c=>c h),if_neg (by rw[h2];decide)]
theorem ac_Value(N M O Z S:ByteArray)(RA:Option Addr)(rn rc:Nat)(U H:ByteArray)(l:List ByteArray)(A:Option Addr)(n c:Nat)(w:World)(hM:M.size≤8)(hO:O.size≤8)(hU:U.size≤9223372036854775807)(hn:n≤100000)(hs:SlN w A n c l)(hz:SzL l) :
 Calls Tryz.prog 16 #[.agg (ikC N M O Z S RA rn rc U H),.slice A n c] w (Ret (valV M O U l) w):=by
 have HRD:=Hq (fun W (hb:Below w.heap.size w W)=>ac_ready M O [U] l (some ⟨W.heap.size,0,none⟩) A 1 1 n c (W.alloc (.cells #[.string U] 22)) hM hO (sln_alloc W [U] 22 (by simp)) (by intro s hs;simp only[List.mem_cons,List.mem_nil_iff,or_false]at hs;subst hs;exact hU) (hs.kept (hb.alloc hb.size _) nlr) hz);have HST:=Hq (fun W (hb:Below w.heap.size w W)=>ac_set l A n c W hn (hs.kept hb nlr) hz);have HRS:=Hq (fun W (hb:Below w.heap.size w W) h1 h2 h3 h4=>ac_raised M O U l A n c W hM hO h1 h2 h3 h4 (hs.kept hb nlr));obtain⟨R,hR⟩:=nm (valV M O U l);rw[hR];have HR:=Hq hR;unfold gV at HRD HRS;unfold ikC;clear hR hM hO hU hs hz;obtain⟨W0,hW0⟩:=nm (w.alloc (.cells #[.string N,.string M,.string O,.string Z,.string S,.slice RA rn rc,.string U,.string H] 27));have hx0:BxC W0 w.heap.size #[.string N,.string M,.string O,.string Z,.string S,.slice RA rn rc,.string U,.string H] 27:=by rw[←hW0];exact BxC.new _ _ _
 have hb0:Below w.heap.size w W0:=by rw[←hW0];exact(blr).alloc nlr _
 have HX0:=Hq hx0;have HB0:=Hq hb0;clear hx0 hb0;go_enter Tryz.func16,Tryz.ntmps16;have hx:=HX0.out;have k0:W0.cell? ⟨w.heap.size,0,none⟩=some (.string N):=hx.cell 0;have k1:W0.cell? ⟨w.heap.size,1,none⟩=some (.string M):=hx.cell 1;have k2:W0.cell? ⟨w.heap.size,2,none⟩=some (.string O):=hx.cell 2;have k3:W0.cell? ⟨w.heap.size,3,none⟩=some (.string Z):=hx.cell 3;have k4:W0.cell? ⟨w.heap.size,4,none⟩=some (.string S):=hx.cell 4;have k5:W0.cell? ⟨w.heap.size,5,none⟩=some (.slice RA rn rc):=hx.cell 5;have k6:W0.cell? ⟨w.heap.size,6,none⟩=some (.string U):=hx.cell 6;have k7:W0.cell? ⟨w.heap.size,7,none⟩=some (.string H):=hx.cell 7;clear hx;clear k0 k3 k4 k5 k7;go_wp2_with fail;try rw[hW0]
 clear hW0 k1 k2 k6;obtain⟨W1,hW1⟩:=nm (W0.alloc (.cells #[.string U] 22));have hrd:=HRD.out W0 HB0.out;rw[hW1]at hrd⊢;have hb1:Below W0.heap.size W0 W1:=by rw[←hW1];exact(blr).alloc nlr _
 have HX1:=Hq (HX0.out.next hb1);have HB1:=bTr HB0 hb1;clear hW1 hb1;by_cases hr:rdyR M O [U] l=0
 · have hrr:=rdy_zero hr;rw[hr]at hrd;have HRR:=Hq hr;clear hr;refine hrd.mono ?_;rintro e w2 ⟨rfl,hb⟩;have HX2:=Hq (HX1.out.next hb);have HB2:=bTr HB1 hb;have HST2:=Hq (HST.out w2 HB2.out);have hUU:nvalid U=true∧hasN (num M) (num O) (num U)=true:=⟨by have:=hrr.2.2.1;simpa using this,by have:=hrr.2.2.2.2.2.1;simpa using this⟩;have HRS2:=Hq (fun W hb=>HRS.out W hb hrr.2.2.2.2.1 hUU.1 hUU.2 hrr.2.2.2.1);clear hb hrr hUU hrd;go_wp2_with fail;refine HST2.out.mono ?_;unfold RetSet;rintro e w3 ⟨o,rfl,hb⟩;have HX3:=Hq (HX2.out.next hb);have HB3:=bTr HB2 hb;have HRS3:=Hq (HRS2.out w3 HB3.out);clear hb
   cases hd:ndB l with
   | true =>
    have HRV:=Hq (HR.out.symm.trans (val_ok HRR.out hd));simp only[if_true];clear hd;have hx:=HX3.out;have k0:w3.cell? ⟨w.heap.size,0,none⟩=some (.string N):=hx.cell 0;have k1:w3.cell? ⟨w.heap.size,1,none⟩=some (.string M):=hx.cell 1;have k2:w3.cell? ⟨w.heap.size,2,none⟩=some (.string O):=hx.cell 2;have k3:w3.cell? ⟨w.heap.size,3,none⟩=some (.string Z):=hx.cell 3;have k4:w3.cell? ⟨w.heap.size,4,none⟩=some (.string S):=hx.cell 4;have k5:w3.cell? ⟨w.heap.size,5,none⟩=some (.slice RA rn rc):=hx.cell 5;have k6:w3.cell? ⟨w.heap.size,6,none⟩=some (.string U):=hx.cell 6;have k7:w3.cell? ⟨w.heap.size,7,none⟩=some (.string H):=hx.cell 7;clear hx;clear k0 k3 k4 k5 k7;go_wp2_with fail;refine HRS3.out.mono ?_;rintro e w4 ⟨rfl,hb⟩;have HB4:=bTr HB3 hb;clear hb k1 k2 k6;go_wp2;go_ret2;exact⟨by rw[HRV.out];rfl,HB4.out⟩
   | false =>
    have HRV:=Hq (HR.out.symm.trans (val_dup HRR.out hd));rw[if_neg (by decide)];clear hd;go_wp2;go_ret2;exact⟨by rw[HRV.out];rfl,HB3.out⟩
 · have HRV:=Hq (HR.out.symm.trans (val_bad hr));obtain⟨v,hv⟩:=nm (rdyR M O [U] l);rw[hv]at HRV hrd hr;have hvb:(v != 0)=true:=by rw[bne_iff_ne];exact hr
   clear hr hv;refine hrd.mono ?_;rintro e w2 ⟨rfl,hb⟩;have HB2:=bTr HB1 hb;clear hb;go_wp2;go_ret2;exact⟨by rw[HRV.out];rfl,HB2.out⟩
end Go.Proofs.YtmahgbhpdfbbjaaGreatDoor

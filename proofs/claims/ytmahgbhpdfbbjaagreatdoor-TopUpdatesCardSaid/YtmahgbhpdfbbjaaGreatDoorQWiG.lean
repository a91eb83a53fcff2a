import Derived.Test.YtmahgbhpdfbbjaaGreatDoorQWiC
set_option linter.unusedVariables false
set_option linter.unusedSimpArgs false
namespace Go.Proofs.YtmahgbhpdfbbjaaGreatDoor
set_option maxRecDepth 100000
set_option maxHeartbeats 4000000
open Go.RowKit
abbrev slT(t:Option Addr×Nat×Nat):Value:=.slice t.1 t.2.1 t.2.2
def SlsAt(w:World):List (Option Addr×Nat×Nat)→List (List ByteArray)→Prop
 | [],[]=>True
 | t::S,l::L=>SlN w t.1 t.2.1 t.2.2 l∧SlsAt w S L
 | _,_=>False
theorem SlsAt.kept{B:Nat}{w w':World}(hb:Below B w w')(hB:w.heap.size≤B):∀ {S:List (Option Addr×Nat×Nat)} {L:List (List ByteArray)},SlsAt w S L→SlsAt w' S L
 | [],[],_=>trivial
 | _::_,_::_,h=>⟨h.1.kept hb hB,h.2.kept hb hB⟩
 | [],_::_,h=>h.elim
 | _::_,[],h=>h.elim
theorem SlsAt.len{w:World}:∀ {S:List (Option Addr×Nat×Nat)} {L:List (List ByteArray)},SlsAt w S L→L.length=S.length
 | [],[],_=>rfl
 | _::_,_::_,h=>congrArg (· + 1) h.2.len
 | [],_::_,h=>h.elim
 | _::_,[],h=>h.elim
theorem SlsAt.get{w:World}:∀ {S:List (Option Addr×Nat×Nat)} {L:List (List ByteArray)} (k:Nat) (l:List ByteArray),SlsAt w S L→L[k]? =some l→∃ t,S[k]? =some t∧SlN w t.1 t.2.1 t.2.2 l
 | [],[],_,_,_,h=>by simp at h
 | t::_,_::_,0,l,h,e=>⟨t,rfl,by cases e;exact h.1⟩
 | _::_,_::_,k+1,l,h,e=>h.2.get k l e
 | [],_::_,_,_,h,_=>h.elim
 | _::_,[],_,_,h,_=>h.elim
theorem SlR.of{w:World}{b n c:Nat}{S:List (Option Addr×Nat×Nat)}{L:List (List ByteArray)}(h:SlsAt w S L)(hn:S.length=n)(hc:n≤c)(hm:c≤9223372036854775807)(hcell:∀ k t,S[k]? =some t→w.cell? ⟨b,k,none⟩=some (slT t)):SlR w (some ⟨b,0,none⟩) n c L:=
 ⟨by rw[h.len,hn],hc,hm,fun k l hk =>
  let ⟨t,ht,hs⟩:=h.get k l hk
  ⟨b,0,rfl,t.1,t.2.1,t.2.2,by rw[Nat.zero_add];exact hcell k t ht,hs⟩⟩
theorem SlR.of_block{w:World}{b:Nat}{T:TypeId}{fr:Nat×Nat}{S:List (Option Addr×Nat×Nat)}{L:List (List ByteArray)}(h:SlsAt w S L)(hb:w.heap[b]? =some (.cells (S.map slT).toArray T fr))(hm:S.length≤9223372036854775807):SlR w (some ⟨b,0,none⟩) S.length S.length L:=
 SlR.of h rfl nlr hm fun k t ht=>by rw[Lib.cell_of_heap hb];simp[ht]
theorem SlR.of_own{w:World}{base g n c:Nat}{T:TypeId}{S:List (Option Addr×Nat×Nat)}{L:List (List ByteArray)}(h:SlsAt w S L)(hs:S.length=n)(h0:0<n)(ho:w.ownsRow base T 1 (.slice (some ⟨g,0,none⟩) n c) n (S.map slT)):SlR w (some ⟨g,0,none⟩) n c L:=by
 rcases ho.2 with⟨_,h1⟩ | ⟨g2,cap,cur,hv,hb,hh,hc,hm,_⟩
 · omega
 · simp only[Value.slice.injEq,Option.some.injEq,Addr.mk.injEq,and_true,true_and]at hv;obtain⟨rfl,rfl⟩:=hv;refine SlR.of h hs hc (by unfold maxLen at hm;exact hm) fun k t ht=>?_;have:=ho.cells (g:=g) rfl k (slT t) (by rw[List.getElem?_map,ht];rfl);rwa[addr_add,Nat.zero_add]at this
theorem slL_info:(Tryz.prog.info? 25).map (fun i=>(i.zero,i.size,i.bytes))=some (some (.slice none 0 0),1,24):=by kernel_rfl
theorem slT_one(S:List (Option Addr×Nat×Nat)):∀ u∈S.map slT,u.oneCell'=true:=by
 intro u h;obtain⟨s,_,rfl⟩:=List.mem_map.1 h;rfl
theorem own_slT(w:World)(S:List (Option Addr×Nat×Nat))(T:TypeId)(n:Nat)(hn:S.length=n)(h:n≤maxLen):(w.alloc (.cells (S.map slT).toArray T)).ownsRow w.heap.size T 1 (.slice (some ⟨w.heap.size,0,none⟩) n n) n (S.map slT):=
 ⟨by simp[hn],.inr ⟨w.heap.size,n,_,rfl,Nat.le_refl _,heap_alloc_new w _,Nat.le_refl _,h,by simp[hn],by rw[Nat.mul_one];exact List.take_of_length_le (by simp[hn])⟩⟩
theorem wi_ready(N M O Z S:ByteArray)(RA:Option Addr)(rn rc:Nat)(U H:ByteArray)(els:List ByteArray)(A:Option Addr)(n c:Nat)(b:Nat)(s1 s2 s3:Option Addr×Nat×Nat)(l1 l2 l3:List ByteArray)(w:World)(hM:M.size≤8)(hO:O.size≤8)
 (hes:SlN w A n c els) (hn:n≤1000) (hez:SzL els) (hL:SlsAt w [s1,s2,s3] [l1,l2,l3]) (hz:∀ l∈[l1,l2,l3],SzL l) (hb:w.heap[b]? =some (.cells #[slT s1,slT s2,slT s3] 25 (0,0))) :
 Calls Tryz.prog 22 #[.agg (ikC N M O Z S RA rn rc U H),.slice A n c,.slice (some ⟨b,0,none⟩) 3 3] w (Ret (.int .i64 (rdyR M O els (l1++(l2++l3)))) w):=by
 have HSE:=Hq hes;have HNL:=Hq hes.1;have hcap:=hes.2.1;have hcap2:=hes.2.2.1;have HSL:=Hq hL;have HBK:=Hq hb;obtain⟨RR,hRR⟩:=nm (rdyR M O els (l1++(l2++l3)));rw[hRR];have HRR:=Hq hRR;have HFL:=Hq (show [l1,l2,l3].flatten=l1++(l2++l3)from by simp);have HFL5:=Hq (show ([[M,O],els,l1,l2,l3].flatten.all nvalid)=(nvalid M&&nvalid O&&els.all nvalid&&(l1++(l2++l3)).all nvalid)from by
  rw[List.flatten_cons,List.flatten_cons,show [l1,l2,l3].flatten=l1++(l2++l3)from by simp,List.all_append,List.all_append]
  simp[Bool.and_assoc])
 have HZ5:=Hq (show ∀ l∈[[M,O],els,l1,l2,l3],SzL l from fun l hl=>by
  rcases List.mem_cons.1 hl with rfl | hl
  · intro s hs;simp only[List.mem_cons,List.mem_nil_iff,or_false]at hs;rcases hs with rfl | rfl<;>omega
  · rcases List.mem_cons.1 hl with rfl | hl
    · exact hez
    · exact hz l hl)
 have HZ3:=Hq hz;have HCK:=Hq (pw_Check M O hM hO);have HHS:=Hq (fun x hx=>pw_Has M O x hM hO hx);unfold gV at HCK HHS;obtain⟨W0,hW0⟩:=nm (w.alloc (.cells (ikC N M O Z S RA rn rc U H) 27));have hx0:BxC W0 w.heap.size (ikC N M O Z S RA rn rc U H) 27:=by rw[←hW0];exact BxC.new _ _ _
 have hb0:Below w.heap.size w W0:=by rw[←hW0];exact(blr).alloc nlr _
 have HX0:=Hq hx0;have HB0:=Hq hb0;have k1:W0.cell? ⟨w.heap.size,1,none⟩=some (.string M):=hx0.cell 1;have k2:W0.cell? ⟨w.heap.size,2,none⟩=some (.string O):=hx0.cell 2;clear hes hL hb hRR hz hez hx0 hb0 hM hO;unfold ikC at hW0⊢;unfold ikC at HX0;go_enter Tryz.func22,Tryz.ntmps22;go_upto_region 2 with(fail)
 try rw[hW0]
 clear hW0 k1 k2;have hs1:SlN (W0.alloc (.cells #[.string M,.string O] 22)) (some ⟨W0.heap.size,0,none⟩) 2 2 [M,O]:=sln_alloc W0 [M,O] 22 (by simp);have hb1:Below w.heap.size w (W0.alloc (.cells #[.string M,.string O] 22)):=HB0.out.alloc HB0.out.size _;have hx1:=HX0.out.alloc (.cells #[.string M,.string O] 22);obtain⟨W1,hW1⟩:=nm (W0.alloc (.cells #[.string M,.string O] 22));rw[hW1]at hs1 hb1 hx1⊢;obtain⟨P,hP⟩:=nm (W0.heap.size);rw[hP]at hs1⊢;clear hW1 hP HB0 HX0;have hb2:Below W1.heap.size W1 (W1.alloc (.cells #[.slice (some ⟨P,0,none⟩) 2 2,.slice A n c] 25)):=(blr).alloc nlr _;have HO2:=Hq (show (W1.alloc (.cells #[.slice (some ⟨P,0,none⟩) 2 2,.slice A n c] 25)).ownsRow W1.heap.size 25 1 (.slice (some ⟨W1.heap.size,0,none⟩) 2 2) 2 ([(some ⟨P,0,none⟩,2,2),(A,n,c)].map slT)from own_slT W1 [(some ⟨P,0,none⟩,2,2),(A,n,c)] 25 2 rfl (by decide));have HB1:=Hq hb1;have HB2:=Hq hb2;have HX1:=Hq hx1;have HSL1:=Hq (show SlsAt W1 [(some ⟨P,0,none⟩,2,2),(A,n,c),s1,s2,s3] [[M,O],els,l1,l2,l3]from⟨hs1,HSE.out.kept hb1 nlr,HSL.out.kept hb1 nlr⟩);have HBK2:=Hq (show (W1.alloc (.cells #[.slice (some ⟨P,0,none⟩) 2 2,.slice A n c] 25)).heap[b]? =some (.cells #[slT s1,slT s2,slT s3] 25 (0,0))from((hb1.trans (hb2.mono hb1.size)).block b (block_lt HBK.out)).trans HBK.out);clear hs1 hb1 hx1 hb2;obtain⟨i0,hi,iz0,iz1,iz2⟩:=info_parts slL_info;go_wp2_with (at_builtin;refine(wpList_append_lies _ rfl (.tmp 21) (.tmp 22) 30 rfl W1.heap.size 25 i0 _ 1 24 Tryz.underlying30 hi iz0 iz1 iz2 rfl (by decide) _ 2 _ rfl HO2.out ⟨b,0,none⟩ 3 3 ([s1,s2,s3].map slT) rfl rfl (World.news_of_block HBK2.out) (slT_one _) (by decide) (by decide) (by decide) ?n5 _ rfl ?_));case n5=>simp
 intro g cap3 w3 hown3 hgrow3 hat3 hlt3;have hb3:Below W1.heap.size W1 w3:=HB2.out.grown hgrow3 (by simp) (fun k e=>(HO2.out.lt k e).1);have HSR:=Hq (show SlR w3 (some ⟨g,0,none⟩) 5 cap3 [[M,O],els,l1,l2,l3]from SlR.of_own (HSL1.out.kept hb3 nlr) rfl (by decide) hown3);have HX3:=Hq (HX1.out.next hb3);have HB3:=bTr HB1 hb3;clear hown3 hgrow3 hat3 hlt3 hb3 hi iz0 iz1 iz2 HO2 HB2 HBK2 HSL1 HX1 HB1;have HFO:=Hq (wi_formed _ _ 5 cap3 w3 HSR.out HZ5.out);rw[HFL5.out]at HFO
 cases hf:(nvalid M&&nvalid O&&els.all nvalid&&(l1++(l2++l3)).all nvalid)with
 | false =>
  have HR3:=Hq (show RR=3 from by rw[←HRR.out];exact rdy_form hf);rw[hf,if_neg (by decide)]at HFO;clear hf;go_wp2_with fail;refine HFO.out.mono ?_;rintro e w4 ⟨rfl,hb⟩;have HB4:=bTr HB3 hb;clear hb;go_wp2;go_ret;exact⟨by rw[HR3.out];rfl,HB4.out⟩
 | true =>
  have HFT:=Hq hf;rw[hf,if_pos rfl]at HFO;have HEV:=Hq (show ∀ x∈els,nvalid x=true from by
   rw[Bool.and_eq_true,Bool.and_eq_true]at hf
   exact List.all_eq_true.1 hf.1.2)
  clear hf;go_wp2_with fail;refine HFO.out.mono ?_;rintro e w4 ⟨rfl,hb⟩;have hx4:=HX3.out.next hb;have HX4:=Hq hx4;have HB4:=bTr HB3 hb;have k1:w4.cell? ⟨w.heap.size,1,none⟩=some (.string M):=hx4.cell 1;have k2:w4.cell? ⟨w.heap.size,2,none⟩=some (.string O):=hx4.cell 2;clear hb hx4;by_cases hc:chkK M O=0
  · have HCC:=Hq hc;rw[hc]at HCK;have HRZ:=Hq (fun h3=>(HRR.out.symm.trans (rdy_nz HFT.out hc h3)));have HRH:=Hq (fun h3=>(HRR.out.symm.trans (rdy_has HFT.out hc h3)));clear hc;go_wp2_with fail;refine(HCK.out _).mono ?_;rintro e w5 ⟨rfl,hb⟩;have HX5:=Hq (HX4.out.next hb);have HB5:=bTr HB4 hb;clear hb k1 k2;go_wp2;go_loopw [36] (fun i wr=>∃ k:Nat,k≤n∧i=.int .i64 k∧(els.take k).all (fun x=>hasN (num M) (num O) (num x))=true∧Below w5.heap.size w5 wr) (fun i _=>n - (intOf i).toNat);case atStart=>exact⟨0,Nat.zero_le _,rfl,by simp,Below.refl _ _⟩
    case round =>
     obtain⟨k,hk,rfl,hall,hbb⟩:=hrel;have HB:=Hq hbb;have HALL:=Hq hall;clear hbb hall;by_cases hlt:k<n
     · obtain⟨x,he⟩:∃ x,els[k]? =some x:=⟨_,List.getElem?_eq_getElem (by rw[HNL.out];exact hlt)⟩;obtain⟨eb,eo,rfl⟩:=HSE.out.head (by omega);have hbr:=HB5.out.trans (HB.out.mono HB5.out.size);have c0:=(HSE.out.kept hbr nlr).get? k he;have hxr:=HX5.out.next HB.out;have k1:wr.cell? ⟨w.heap.size,1,none⟩=some (.string M):=hxr.cell 1;have k2:wr.cell? ⟨w.heap.size,2,none⟩=some (.string O):=hxr.cell 2;have hv:=HEV.out x (List.mem_of_getElem? he);have HH:=Hq (HHS.out x hv);have HBR:=Hq hbr;have hk2:hasK M O x=hasN (num M) (num O) (num x):=by unfold hasK;rw[hv,decide_eq_true HCC.out];simp
       rw[hk2]at HH;have HE:=Hq he;clear he hbr hxr hv hk2
       cases hh:hasN (num M) (num O) (num x)with
       | true =>
        have HHV:=Hq hh;rw[hh]at HH;clear hh;go_wp2_with fail;refine(HH.out _).mono ?_;rintro e w6 ⟨rfl,hb⟩;have HB6:=bTr HB hb;clear hb c0 k1 k2;go_wp2;go_roundw;case rel=>exact⟨k+1,by omega,by go_num,all_take HALL.out HE.out HHV.out,HB6.out⟩
        case measure=>simp[intOf];omega
       | false =>
        have HR13:=Hq (show RR=13 from HRH.out (all_false HE.out hh));rw[hh]at HH;clear hh;go_wp2_with fail;refine(HH.out _).mono ?_;rintro e w6 ⟨rfl,hb⟩;have HB6:=bTr HBR hb;clear hb c0 k1 k2;go_wp2;go_ret;exact⟨by rw[HR13.out];rfl,HB6.out⟩
     · obtain rfl:k=n:=by omega
       have HRN:=Hq (HRZ.out (all_len HALL.out HNL.out));have hbr:=HB5.out.trans (HB.out.mono HB5.out.size);have HBR:=Hq hbr;have HNZ:=Hq (wi_nonzero [l1,l2,l3] (some ⟨b,0,none⟩) 3 3 wr (SlR.of_block (S:=[s1,s2,s3]) (HSL.out.kept hbr nlr) ((hbr.block b (block_lt HBK.out)).trans HBK.out) (by simp)) HZ3.out);rw[HFL.out,←HRN.out]at HNZ;clear hbr;go_wp2_with fail;refine HNZ.out.mono ?_;rintro e w6 ⟨rfl,hb⟩;have HB6:=bTr HBR hb;clear hb;go_wp2;go_ret;exact⟨rfl,HB6.out⟩
  · have HRC:=Hq (show RR=chkK M O from by rw[←HRR.out];exact rdy_chk HFT.out hc);obtain⟨v,hv⟩:=nm (chkK M O);have hvb:(v != 0)=true:=by rw[bne_iff_ne,←hv];exact hc
    rw[hv]at HCK HRC;clear hc hv;go_wp2_with fail;refine(HCK.out _).mono ?_;rintro e w5 ⟨rfl,hb⟩;have HB5:=bTr HB4 hb;clear hb k1 k2;go_wp2;go_ret;exact⟨by rw[HRC.out];rfl,HB5.out⟩
set_option maxRecDepth 100000
set_option maxHeartbeats 4000000
theorem slZ_two(W:World)(a:Bool)(s:ByteArray)(b:Bool)(t:ByteArray)(T:TypeId):SlZ (W.alloc (.cells #[.bool a,.string s,.bool b,.string t] T)) (some ⟨W.heap.size,0,none⟩) 2 2 [(a,s),(b,t)]:=by
 have hc:=fun k=>Lib.cell_of_heap (j:=k) (heap_alloc_new W (.cells #[.bool a,.string s,.bool b,.string t] T));refine⟨rfl,Nat.le_refl _,by omega,W.heap.size,0,fun _=>rfl,fun k z hk=>?_⟩
 match k,hk with
 | 0,hk=>cases hk;exact⟨hc 0,hc 1⟩
 | 1,hk=>cases hk;exact⟨hc 2,hc 3⟩
theorem ex_bounds{u:ByteArray}{ad rm:List ByteArray}(hu:0<num u)(hr:0<prodN rm)(h:(exR u ad rm).2=0):(exR u ad rm).1.1.natAbs<256 ^ 128∧(exR u ad rm).1.2.natAbs<256 ^ 128:=by
 unfold exR at *;split at h
 · cases h
 · rename_i h1;rw[if_neg h1];split at h
   · cases h
   · rename_i h2;rw[if_neg h2];split at h
     · cases h
     · rename_i h3;rw[if_neg h3];split at h
       · rename_i h4;rw[if_pos h4];exact⟨h4,Nat.lt_of_le_of_lt (Bzt.xle (bzP_spec hu hr)) (Decidable.not_not.1 h2).2⟩
       · cases h
theorem up_rdy{M O w u acc:ByteArray}{ad rm:List ByteArray}(h:rdyR M O [w,acc] (u::(ad++rm))≠0):upR M O w u ad rm acc=(⟨#[]⟩,rdyR M O [w,acc] (u::(ad++rm))):=by unfold upR;rw[if_pos h]
theorem up_ex{M O w u acc:ByteArray}{ad rm:List ByteArray}(h:rdyR M O [w,acc] (u::(ad++rm))=0)(h2:(exR u ad rm).2≠0):upR M O w u ad rm acc=(⟨#[]⟩,(exR u ad rm).2):=by unfold upR;rw[if_neg (fun c=>c h),if_pos h2]
theorem up_ok{M O w u acc:ByteArray}{ad rm:List ByteArray}(h:rdyR M O [w,acc] (u::(ad++rm))=0)(h2:(exR u ad rm).2=0):upR M O w u ad rm acc=(nS (pz (num M) (num w) (exR u ad rm).1.1 * pz (num M) (num acc) (exR u ad rm).1.2%num M),0):=by unfold upR;rw[if_neg (fun c=>c h),if_neg (fun c=>c h2)]
theorem two_sz{a b:ByteArray}{K:Nat}(ha:a.size≤K)(hb:b.size≤K):∀ s∈[a,b],s.size≤K:=by
 intro s hs;simp only[List.mem_cons,List.mem_nil_iff,or_false]at hs;rcases hs with rfl | rfl
 · exact ha
 · exact hb
theorem two_szZ{a b:ByteArray}{x y:Bool}{K:Nat}(ha:a.size≤K)(hb:b.size≤K):∀ z∈[(x,a),(y,b)],z.2.size≤K:=by
 intro s hs;simp only[List.mem_cons,List.mem_nil_iff,or_false]at hs;rcases hs with rfl | rfl
 · exact ha
 · exact hb
structure Rdy (M O w acc u:ByteArray) (ad rm:List ByteArray):Prop where
 vw:nvalid w=true
 va:nvalid acc=true
 vu:nvalid u=true
 pu:0<num u
 vad:∀ x∈ad,nvalid x=true
 vrm:∀ x∈rm,nvalid x=true
 pad:∀ x∈ad,0<num x
 prm:∀ x∈rm,0<num x
 chk:chkK M O=0
 hw:hasN (num M) (num O) (num w)=true
 ha:hasN (num M) (num O) (num acc)=true
theorem rdy_of{M O w acc u:ByteArray}{ad rm:List ByteArray}(h:rdyR M O [w,acc] (u::(ad++rm))=0):Rdy M O w acc u ad rm:=by
 obtain⟨_,_,h1,h2,h3,h4,h5⟩:=rdy_zero h;have hv:∀ x∈u::(ad++rm),nvalid x=true:=List.all_eq_true.1 h2;have hp:∀ x∈u::(ad++rm),0<num x:=fun x hx=>num_posV (hv x hx) (fun e=>by
  rw[memB_nz,Bool.not_eq_false',List.all_eq_true]at h5;have:=h5 x hx;rw[e]at this
  exact absurd (nzB_t this) (by rw[ByteArray.toList_eq];decide))
 simp only[List.all_cons,List.all_nil,Bool.and_true,Bool.and_eq_true]at h1 h4;exact⟨h1.1,h1.2,hv u (by simp),hp u (by simp),fun x hx=>hv x (by simp[hx]),fun x hx=>hv x (by simp[hx]),fun x hx=>hp x (by simp[hx]),fun x hx=>hp x (by simp[hx]),h3,h4.1,h4.2⟩
theorem wi_Update(N M O Z S:ByteArray)(RA:Option Addr)(rn rc:Nat)(U H wt u acc:ByteArray)(ad rm:List ByteArray)(A1 A2:Option Addr)(n1 c1 n2 c2:Nat)(w:World)(hM:M.size≤8)(hO:O.size≤8)(hwt:wt.size≤1000)(hac:acc.size≤1000)(hus:u.size≤16)
 (h1:SlN w A1 n1 c1 ad) (h2:SlN w A2 n2 c2 rm) (z1:SzL ad) (z2:SzL rm) :
 Calls Tryz.prog 9 #[.agg (ikC N M O Z S RA rn rc U H),.string wt,.string u,.slice A1 n1 c1,.slice A2 n2 c2,.string acc] w (Ret (.tuple #[.string (upR M O wt u ad rm acc).1,.int .i64 (upR M O wt u ad rm acc).2]) w):=by
 have HS1:=Hq h1;have HS2:=Hq h2;obtain⟨W0,hW0⟩:=nm (w.alloc (.cells (ikC N M O Z S RA rn rc U H) 27));have hx0:BxC W0 w.heap.size (ikC N M O Z S RA rn rc U H) 27:=by rw[←hW0];exact BxC.new _ _ _
 have hb0:Below w.heap.size w W0:=by rw[←hW0];exact(blr).alloc nlr _
 have HX0:=Hq hx0;have HB0:=Hq hb0;obtain⟨W1,hW1⟩:=nm (((W0.alloc (.cells #[.string wt,.string acc] 22)).alloc (.cells #[.string u] 22)).alloc (.cells #[.slice (some ⟨W0.heap.size+1,0,none⟩) 1 1,.slice A1 n1 c1,.slice A2 n2 c2] 25));have hb1:Below W0.heap.size W0 W1:=(by rw[←hW1];exact(((Below.refl W0.heap.size W0).alloc nlr _).alloc (by simp) _).alloc (by simp;omega) _);have HE1:=Hq (show SlN W1 (some ⟨W0.heap.size,0,none⟩) 2 2 [wt,acc]from by
  rw[←hW1]
  exact(((sln_alloc W0 [wt,acc] 22 (by simp)).kept ((blr).alloc nlr _) nlr).kept ((blr).alloc nlr _) nlr))
 have HU1:=Hq (show SlN W1 (some ⟨W0.heap.size+1,0,none⟩) 1 1 [u]from by
  rw[←hW1];have:=(sln_alloc (W0.alloc (.cells #[.string wt,.string acc] 22)) [u] 22 (by simp)).kept ((blr).alloc nlr (.cells #[.slice (some ⟨W0.heap.size+1,0,none⟩) 1 1,.slice A1 n1 c1,.slice A2 n2 c2] 25)) nlr;rw[World.size_alloc]at this
  exact this)
 have HR1:=Hq (show W1.heap[W0.heap.size+1+1]? =some (.cells #[slT (some ⟨W0.heap.size+1,0,none⟩,1,1),slT (A1,n1,c1),slT (A2,n2,c2)] 25 (0,0))from by
  rw[←hW1];have:=heap_alloc_new ((W0.alloc (.cells #[.string wt,.string acc] 22)).alloc (.cells #[.string u] 22)) (.cells #[.slice (some ⟨W0.heap.size+1,0,none⟩) 1 1,.slice A1 n1 c1,.slice A2 n2 c2] 25);rw[World.size_alloc,World.size_alloc]at this
  exact this)
 have HX1:=Hq (hx0.next hb1);have HB1:=Hq (hb0.trans (hb1.mono hb0.size));have HRD:=Hq (wi_ready N M O Z S RA rn rc U H [wt,acc] (some ⟨W0.heap.size,0,none⟩) 2 2 (W0.heap.size+1+1) (some ⟨W0.heap.size+1,0,none⟩,1,1) (A1,n1,c1) (A2,n2,c2) [u] ad rm W1 hM hO HE1.out (by decide)
  (by intro s hs;simp only[List.mem_cons,List.mem_nil_iff,or_false]at hs;rcases hs with rfl | rfl<;>omega)
  ⟨HU1.out,h1.kept HB1.out nlr,h2.kept HB1.out nlr,trivial⟩
  (by intro l hl; simp only [List.mem_cons, List.mem_nil_iff, or_false] at hl; rcases hl with rfl | rfl | rfl; · intro s hs; rw [List.mem_singleton] at hs; rw [hs]; omega
      · exact z1
      · exact z2) HR1.out)
 rw[show [u]++(ad++rm)=u::(ad++rm)from rfl]at HRD;have HEX:=Hq (fun(hr:Rdy M O wt acc u ad rm) W (hb:Below w.heap.size w W)=>wi_exponents u ad rm A1 A2 n1 c1 n2 c2 W (h1.kept hb nlr) (h2.kept hb nlr) hr.vu hr.pu hus hr.vad hr.vrm hr.pad hr.prm);have HPW:=Hq (fun l zs A B W h3 h4 hl hz=>pw_Product M O l zs A B 2 2 2 2 hM hO h3 h4 (by decide) (by decide) W hl hz);have HSZ:=Hq (And.intro hwt hac);obtain⟨RR,hRR⟩:=nm (upR M O wt u ad rm acc);rw[hRR];obtain⟨R1,R2⟩:=RR;have HRR:=Hq hRR;dsimp only;clear hRR h1 h2 z1 z2 hM hO hwt hac hus hx0 hb0 hb1;unfold ikC at *;have k1:W0.cell? ⟨w.heap.size,1,none⟩=some (.string M):=HX0.out.cell 1;have k0:W0.cell? ⟨w.heap.size,0,none⟩=some (.string N):=HX0.out.cell 0;have k2:W0.cell? ⟨w.heap.size,2,none⟩=some (.string O):=HX0.out.cell 2;have k3:W0.cell? ⟨w.heap.size,3,none⟩=some (.string Z):=HX0.out.cell 3;have k4:W0.cell? ⟨w.heap.size,4,none⟩=some (.string S):=HX0.out.cell 4;have k5:W0.cell? ⟨w.heap.size,5,none⟩=some (.slice RA rn rc):=HX0.out.cell 5;have k6:W0.cell? ⟨w.heap.size,6,none⟩=some (.string U):=HX0.out.cell 6;have k7:W0.cell? ⟨w.heap.size,7,none⟩=some (.string H):=HX0.out.cell 7;go_enter Tryz.func9,Tryz.ntmps9;go_wp2_with fail;try rw[hW0]
 clear hW0;try rw[hW1]
 obtain⟨P,hP⟩:=nm (W0.heap.size);rw[hP]at HRD⊢;clear hW1 hP k0 k1 k2 k3 k4 k5 k6 k7;by_cases hr:rdyR M O [wt,acc] (u::(ad++rm))=0
 · have hy:=rdy_of hr;have HRY:=Hq hy;have HRZ:=Hq hr;rw[hr]at HRD;clear hr hy;refine HRD.out.mono ?_;rintro e w2 ⟨rfl,hb⟩;have HX2:=Hq (HX1.out.next hb);have HB2:=bTr HB1 hb;clear hb;have HEX2:=Hq (HEX.out HRY.out w2 HB2.out);by_cases he:(exR u ad rm).2=0
   · obtain⟨hbx,hby⟩:=ex_bounds HRY.out.pu (prodN_pos HRY.out.prm) he;have hres:=up_ok HRZ.out he;rw[HRR.out]at hres;obtain⟨r,hr⟩:=nm (exR u ad rm);rw[hr]at he hbx hby hres HEX2;clear hr;obtain⟨⟨x,y⟩,k⟩:=r;simp only[]at he hbx hby hres;obtain⟨e1,e2⟩:=Prod.mk.inj hres;subst he;subst e2;have HPR:=Hq (pr_two HRY.out.vw HRY.out.va HRY.out.chk HRY.out.hw HRY.out.ha hbx hby);rw[←e1]at HPR;have HXB:=Hq (show (nS x.natAbs).size≤1000∧(nS y.natAbs).size≤1000 from⟨by have:=nS_size_le.2 hbx;omega,by have:=nS_size_le.2 hby;omega⟩);unfold exV intV zV at HEX2;try simp only[]at HEX2
     try simp only[]
     obtain⟨xb,hxb⟩:=nm (decide (x<0));obtain⟨xs,hxs⟩:=nm (nS x.natAbs);obtain⟨yb,hyb⟩:=nm (decide (y<0));obtain⟨ys,hys⟩:=nm (nS y.natAbs);rw[hxb,hxs,hyb,hys]at HPR;rw[hxb,hxs,hyb,hys]at HEX2;rw[hxs,hys]at HXB;clear hxb hxs hyb hys hbx hby HRR e1 hres;go_wp2_with fail;refine HEX2.out.mono ?_;rintro e w3 ⟨rfl,hb⟩;have HX3:=Hq (HX2.out.next hb);have HB3:=bTr HB2 hb;clear hb;go_upto_region 5 with(fail)
     have hv5:=(Bx2.new w3 (.bool xb) (.string xs) 74).next ((blr).alloc nlr (.cells #[.bool yb,.string ys] 74));have hy5:=Bx2.new (w3.alloc (.cells #[.bool xb,.string xs] 74)) (.bool yb) (.string ys) 74;rw[World.size_alloc]at hy5;have hb5:=((Below.refl w3.heap.size w3).alloc nlr (.cells #[.bool xb,.string xs] 74)).alloc (by simp) (.cells #[.bool yb,.string ys] 74);obtain⟨W5,hW5⟩:=nm ((w3.alloc (.cells #[.bool xb,.string xs] 74)).alloc (.cells #[.bool yb,.string ys] 74));rw[hW5]at hv5 hy5 hb5⊢;have hx5:=HX3.out.next hb5;have HB5:=bTr HB3 hb5;obtain⟨Q,hQ⟩:=nm (w3.heap.size);rw[hQ]at hv5 hy5⊢;have hba:Below W5.heap.size W5 (W5.alloc (.cells #[.string wt,.string acc] 22)):=(blr).alloc nlr _;have v0:=(hv5.next hba).c0;have v1:=(hv5.next hba).c1;have y0:=(hy5.next hba).c0;have y1:=(hy5.next hba).c1;clear hba;have k1:W5.cell? ⟨w.heap.size,1,none⟩=some (.string M):=hx5.cell 1;have k2:W5.cell? ⟨w.heap.size,2,none⟩=some (.string O):=hx5.cell 2;have hb6:Below W5.heap.size W5 ((W5.alloc (.cells #[.string wt,.string acc] 22)).alloc (.cells #[.bool xb,.string xs,.bool yb,.string ys] 74)):=((blr).alloc nlr _).alloc (by simp) _;have HSN:=Hq (show SlN ((W5.alloc (.cells #[.string wt,.string acc] 22)).alloc (.cells #[.bool xb,.string xs,.bool yb,.string ys] 74)) (some ⟨W5.heap.size,0,none⟩) 2 2 [wt,acc]from
      (sln_alloc W5 [wt,acc] 22 (by simp)).kept ((blr).alloc nlr _) nlr)
     have hsz:=slZ_two (W5.alloc (.cells #[.string wt,.string acc] 22)) xb xs yb ys 74;rw[World.size_alloc]at hsz;have HSZZ:=Hq hsz;have HB6:=Hq hb6;have HP5:=Hq (HPW.out [wt,acc] [(xb,xs),(yb,ys)] _ _ _ (two_sz HSZ.out.1 HSZ.out.2) (two_szZ HXB.out.1 HXB.out.2) HSN.out HSZZ.out);rw[HPR.out]at HP5;unfold gV at HP5;clear hv5 hy5 hb5 hx5 hQ hW5 hb6 hsz;go_wp2_with fail;refine(show Calls _ _ _ _ _ from HP5.out).mono ?_;rintro e w7 ⟨rfl,hb⟩;have HB7:=Hq (HB5.out.trans ((HB6.out.trans (hb.mono HB6.out.size)).mono HB5.out.size));clear hb v0 v1 y0 y1 k1 k2;go_wp2;go_ret2;exact⟨by rfl,HB7.out⟩
   · have hres:=up_ex HRZ.out he;rw[HRR.out]at hres;obtain⟨r,hr⟩:=nm (exR u ad rm);rw[hr]at he hres HEX2;clear hr;obtain⟨⟨x,y⟩,k⟩:=r;simp only[]at he hres;obtain⟨rfl,rfl⟩:=Prod.mk.inj hres;clear hres;unfold exV intV zV at HEX2;try simp only[]at HEX2
     try simp only[]
     obtain⟨xb,hxb⟩:=nm (decide (x<0));obtain⟨xs,hxs⟩:=nm (nS x.natAbs);obtain⟨yb,hyb⟩:=nm (decide (y<0));obtain⟨ys,hys⟩:=nm (nS y.natAbs);rw[hxb,hxs,hyb,hys]at HEX2;have hkb:(R2 != 0)=true:=by rw[bne_iff_ne];exact he
     clear hxb hxs hyb hys he HRR;go_wp2_with fail;refine HEX2.out.mono ?_;rintro e w3 ⟨rfl,hb⟩;have hb5:=((Below.refl w3.heap.size w3).alloc nlr (.cells #[.bool xb,.string xs] 74)).alloc (by simp) (.cells #[.bool yb,.string ys] 74);have HB3:=Hq (HB2.out.trans ((hb.trans (hb5.mono hb.size)).mono HB2.out.size));clear hb hb5;go_wp2;go_ret2;exact⟨by rfl,HB3.out⟩
 · have hres:=up_rdy hr;rw[HRR.out]at hres;obtain⟨v,hv⟩:=nm (rdyR M O [wt,acc] (u::(ad++rm)));rw[hv]at hr HRD hres;obtain⟨rfl,rfl⟩:=Prod.mk.inj hres;clear hres;have hvb:(R2 != 0)=true:=by rw[bne_iff_ne];exact hr
   clear hr hv HRR;refine HRD.out.mono ?_;rintro e w2 ⟨rfl,hb⟩;have HB2:=bTr HB1 hb;clear hb;go_wp2;go_ret2;exact⟨by rfl,HB2.out⟩
end Go.Proofs.YtmahgbhpdfbbjaaGreatDoor

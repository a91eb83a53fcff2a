import Derived.Test.YtmahgbhpdfbbjaaGreatDoorQAuE
set_option linter.unusedVariables false
set_option linter.unusedSimpArgs false
namespace Go.Proofs.YtmahgbhpdfbbjaaGreatDoor
set_option maxRecDepth 100000
set_option maxHeartbeats 4000000
open Go.RowKit
open Go.Maps Go.WideMaps
def RetSG(l:List ByteArray)(n:Nat)(w:World)(e:Ending)(w':World):Prop:=∃ b,e=.returned (.tuple #[.map (some b),.int .i64 0])∧w.heap.size≤b∧SetB w' b n l∧Below w.heap.size w w'
theorem ac_setG(l:List ByteArray)(A:Option Addr)(n c:Nat)(w:World)(hn:n≤100000)(hs:SlN w A n c l)(hz:SzL l)(hd:l.Nodup):Calls Tryz.prog 18 #[.slice A n c] w (RetSG l n w):=by
 have HSN:=Hq hs;have HNL:=Hq hs.1;have hc1:=hs.2.1;have hc2:=hs.2.2.1;have HZZ:=Hq hz;have HD:=Hq hd;obtain⟨P,hP⟩:=nm (RetSG l n w);have HP:=Hq (fun e w' h=>hP▸(show RetSG l n w e w' from h));rw[hP];clear hP;have hmm:=@run_makeMap Tryz.prog;clear hs hz hd;go_enter Tryz.func18,Tryz.ntmps18;go_wp2;clear hmm;go_loopw [10] (fun i wr=>∃ k:Nat,k≤n∧i=.int .i64 k∧SetB wr w.heap.size k (l.take k)∧Below w.heap.size w wr) (fun i _=>n - (intOf i).toNat);case atStart=>exact⟨0,Nat.zero_le _,rfl,(SetB.made w).congr rfl (by simp),(blr).alloc nlr _⟩
 case round =>
  obtain⟨k,hk,rfl,hm,hbb⟩:=hrel;have HB:=Hq hbb;by_cases hlt:k<n
  · obtain⟨x,he⟩:∃ x,l[k]? =some x:=⟨_,List.getElem?_eq_getElem (by rw[HNL.out];exact hlt)⟩;obtain⟨b,o,rfl⟩:=HSN.out.head (by omega);have c0:=(HSN.out.kept hbb nlr).get? k he;have HXS:=Hq (show x.size≤maxLen from by have:=HZZ.out x (List.mem_of_getElem? he);unfold maxLen;omega);obtain⟨D,hown,hf⟩:=hm;have HOWN:=Hq hown;have HF:=Hq hf;have HL:=Hq (show (l.take k++[x])=l.take (k+1)from by rw[List.take_add_one,he,Option.toList_some]);have hin:memB (l.take k) x=false:=memB_no.2 (fun h=>nd_bad he h HD.out);clear hbb he hown hf;go_wp2_with (first | (at_lookup;refine wpList_lookup_own_bool _ rfl _ _ 64 rfl 22 4 lawN Tryz.underlying64 Tryz.underlying4 (zeroB _) w.heap.size k D rfl HOWN.out (.string x) (.string x.data.toList) rfl (keyN HXS.out) false ((HF.out x).trans (by rw[hin])) ?_) | (at_mapUpdate;refine wpList_mapUpdate_own _ rfl _ _ _ 64 rfl 22 4 lawN Tryz.underlying64 _ w.heap.size k D rfl HOWN.out (by unfold maxLen;omega) (.string x) (.bool true) (.string x.data.toList) rfl rfl (keyN HXS.out) (.lit (.bool true)) [] (plainElem_bool Tryz.underlying4 true) ?_));intro w3 hown3 hgrow3;have HM3:=Hq ((setB_put HF.out HOWN.out.isMap hown3).congr rfl HL.out);have HB3:=Hq (HB.out.grown hgrow3 HB.out.size (fun k hk=>by simp only[Option.some.injEq]at hk;omega));clear hown3 hgrow3;go_wp2;go_roundw;case rel=>exact⟨k+1,by omega,by go_num,HM3.out,HB3.out⟩
    case measure=>simp[intOf];omega
  · obtain rfl:k=n:=by omega
    have HMM:=Hq (hm.congr rfl (List.take_of_length_le (by have:=HNL.out;omega)));clear hm;go_wp2;exact(HP.out _ _ ⟨w.heap.size,rfl,Nat.le_refl _,HMM.out,HB.out⟩)
theorem memB_one{u x:ByteArray}:memB [u] x=decide (x=u):=by
 rw[Bool.eq_iff_iff,memB_iff,decide_eq_true_eq];simp
theorem nmB{P:Program}{md:Region.Mode}{ops:Array Oper}{Q:Exit→Act→World→Prop}{k:Nat}{S:World→Prop}{fuel:Nat}{listed:Array Bool}{a:Act}{w:World}(h:∀ V,w=V→Down md ops listed→wpAnyK P md ops Q k S fuel listed a V):Down md ops listed→wpAnyK P md ops Q k S fuel listed a w:=h w rfl
theorem nmA{P:Program}{md:Region.Mode}{ops:Array Oper}{Q:Exit→Act→World→Prop}{k:Nat}{S:World→Prop}{fuel:Nat}{listed:Array Bool}{a:Act}{w:World}(h:∀ V,w=V→wpAnyK P md ops Q k S fuel listed a V):wpAnyK P md ops Q k S fuel listed a w:=h w rfl
theorem joinW{K:Act→World→Prop}{Fc:Nat→Nat→Option Addr→Nat→World→Prop}{G:Prop}(F:Nat→Nat→Option Addr→Nat→Act)(hm:(∀ b c A d w,Fc b c A d w→K (F b c A d) w)→G)(hr:∀ b c A d w,Fc b c A d w→K (F b c A d) w):G:=hm hr
section
variable {W V : World} {s : ByteArray}
theorem cell_new(h:W.alloc (.cells #[.string s] 22)=V):V.cell? ⟨W.heap.size,0,none⟩=some (.string s):=by rw[←h];exact(Lib.cell_of_heap (heap_alloc_new _ _) 0).trans rfl
theorem cell_next{o:Obj}{a:Addr}{v:Value}(h:W.alloc o=V)(hc:W.cell? a=some v):V.cell? a=some v:=by rw[←h];exact kC ((blr).alloc nlr o) hc
theorem own_new{B:Nat}(h:W.alloc (.cells #[.string s] 22)=V)(hB:B≤W.heap.size):V.ownsRow B 22 1 (.slice (some ⟨W.heap.size,0,none⟩) 1 1) 1 ([s].map Value.string):=by rw[←h];exact own_alloc W [s] 22 B hB (by simp[maxLen])
theorem own_next{o:Obj}{B n:Nat}{v:Value}{l:List Value}(h:W.alloc o=V)(ho:W.ownsRow B 22 1 v n l):V.ownsRow B 22 1 v n l:=by rw[←h];exact ho.alloc o
theorem ne_next{B n g c:Nat}{l:List Value}(ho:W.ownsRow B 22 1 (.slice (some ⟨g,0,none⟩) n c) n l):W.heap.size≠g:=by have:=(ho.lt g rfl).2;omega
theorem sln_next{o:Obj}{A:Option Addr}{n c:Nat}{l:List ByteArray}(h:W.alloc o=V)(hs:SlN W A n c l):SlN V A n c l:=by rw[←h];exact hs.kept ((blr).alloc nlr o) nlr
theorem sl_one{b:Nat}(h:W.cell? ⟨b,0,none⟩=some (.string s)):SlN W (some ⟨b,0,none⟩) 1 1 [s]:=by
 refine⟨rfl,Nat.le_refl _,by omega,b,0,fun _=>rfl,fun j x hj=>?_⟩
 cases j with
 | zero=>cases hj;exact h
 | succ j=>cases hj
end
theorem wpList_append_slG(w:World){ops:Array Oper}{rest:List Oper}{o:Oper}{a:Act}{Q:Exit→Act→World→Prop}(hg:o.guard=none)(s x:Operand)(hop:o.op=Op.call { callee:=Callee.builtin Builtin.append,args:=#[s,x],argTypes:=#[25,25] })
 (base:Nat) (v:Value) (n:Nat) (xs:List ByteArray) (hs:a.eval s=v) (hown:w.ownsRow base 22 1 v n (xs.map Value.string)) (A:Option Addr) (m c:Nat) (l:List ByteArray) (hx:a.eval x=.slice A m c) (hsl:SlN w A m c l) (h0:0<m) (hn:n+m≤4000000) (hbase:base≤w.heap.size)
 (hK:∀ v' w',w'.ownsRow base 22 1 v' (n+m) ((xs++l).map Value.string)→w.grownBy w' v.ownBlock→wpList Tryz.prog ops Q rest (a.put o.dst v') w'):wpList Tryz.prog ops Q (o::rest) a w:=by
 obtain⟨i0,hi,iz0,iz1,iz2⟩:=info_parts nat_info
 cases A with
 | none=>obtain⟨b,o,e⟩:=hsl.head h0;cases e
 | some ad =>
  refine wpList_append_own w hg s x 25 hop base 22 i0 _ 1 16 Tryz.underlying25 hi iz0 iz1 iz2 rfl (by decide) v n _ hs hown ad m c (l.map Value.string) hx (by rw[List.length_map,hsl.1,Nat.mul_one]) hsl.cells (strs_one _) (by unfold maxLen;omega) (by omega) hbase ?_;intro v' w' hown' hgrow _;exact hK v' w' (by rw[List.map_append];exact hown') hgrow
def wit(M U u:ByteArray)(l:List ByteArray):ByteArray:=nS (valF (num M) (num U) (flt l [u]))
theorem ac_Witness(N M O Z S:ByteArray)(RA:Option Addr)(rn rc:Nat)(U H u:ByteArray)(l:List ByteArray)(A:Option Addr)(n c:Nat)(w:World)(hM:M.size≤8)(hO:O.size≤8)(hU:U.size≤1000)(hn:n≤1000)(hs:SlN w A n c l)(hz:SzL l)
 (hr:rdyR M O [U] (u::l)=0) (hd:l.Nodup) (hu:u∈l) :
 Calls Tryz.prog 6 #[.agg (ikC N M O Z S RA rn rc U H),.slice A n c,.string u] w (Ret (.tuple #[.string (wit M U u l),.int .i64 0]) w):=by
 have hrr:=rdy_zero hr;have HSN:=Hq hs;have HNL:=Hq hs.1;have hc1:=hs.2.1;have hc2:=hs.2.2.1;have hn0:0<n:=by rw[←hs.1];exact List.length_pos_of_mem hu
 have HZ:=Hq (show SzL (u::l)from fun x hx=>by rcases List.mem_cons.1 hx with rfl | h;exact hz _ hu;exact hz x h);have HRD:=Hq (fun(W:World) (A1 A':Option Addr) (c':Nat) (h1:SlN W A1 1 1 [U]) (h2:SlN W A' (1+n) c' (u::l))=>ac_ready M O [U] (u::l) A1 A' 1 1 (1+n) c' W hM hO h1 (szl_one hU) h2 HZ.out);rw[hr]at HRD;have HST:=Hq (fun(W:World) (hb:Below w.heap.size w W)=>ac_setG l A n c W (by omega) (hs.kept hb nlr) hz hd);have HRS:=Hq (fun(W:World) (A':Option Addr) (n' c':Nat) (h:SlN W A' n' c' (flt l [u]))=>ac_raised M O U (flt l [u]) A' n' c' W hM hO hrr.2.2.2.2.1 (by have:=hrr.2.2.1;simp at this;exact this) (by have:=hrr.2.2.2.2.2.1;simp at this;exact this) (List.all_eq_true.2 (fun x hx=>List.all_eq_true.1 hrr.2.2.2.1 x (List.mem_cons_of_mem _ (List.mem_filter.1 hx).1))) h);obtain⟨R,hR⟩:=nm (nS (valF (num M) (num U) (flt l [u])));rw[show wit M U u l=R from hR];rw[hR]at HRS;have HU:=Hq hu;have HSZ:=Hq hz;unfold gV at HRD HRS;unfold ikC;clear hR hr hrr hM hO hU hs hz hd hu;obtain⟨W0,hW0⟩:=nm (w.alloc (.cells #[.string N,.string M,.string O,.string Z,.string S,.slice RA rn rc,.string U,.string H] 27));have hx0:BxC W0 w.heap.size #[.string N,.string M,.string O,.string Z,.string S,.slice RA rn rc,.string U,.string H] 27:=by rw[←hW0];exact BxC.new _ _ _
 have hb0:Below w.heap.size w W0:=by rw[←hW0];exact(blr).alloc nlr _
 have HX0:=Hq hx0;have HB0:=Hq hb0;clear hx0 hb0;go_enter Tryz.func6,Tryz.ntmps6;go_wp2;try rw[hW0]
 clear hW0;rename_i K1 hK1;refine wp_onlyN ?_;obtain⟨wd,hwd⟩:=nm (W0.drew);have hbd:Below W0.heap.size W0 wd:=by rw[←hwd];exact(blr).drew
 have HXD:=Hq (HX0.out.next hbd);have HBD:=bTr HB0 hbd;clear hbd;have hx:=HXD.out;have k1:wd.cell? ⟨w.heap.size,1,none⟩=some (.string M):=hx.cell 1;have k2:wd.cell? ⟨w.heap.size,2,none⟩=some (.string O):=hx.cell 2;have k6:wd.cell? ⟨w.heap.size,6,none⟩=some (.string U):=hx.cell 6;clear hx;apply joinW (K:=K1) (Fc:=fun _ _ _ _ W=>Below w.heap.size w W∧BxC W w.heap.size #[.string N,.string M,.string O,.string Z,.string S,.slice RA rn rc,.string U,.string H] 27)
 · intro HJ;have HJ:=Hq HJ;refine wp_region_K 11 (Below (wd).heap.size (wd)) (by kernel_rfl) ?_;rw[hwd];refine rPs 0 14 10 blr ?_;refine rTs 1 15 9 blr (k3 k1 k2 k6) ?_;refine rPs 2 16 8 blr ?_;refine rTs 3 17 7 blr (k3 k1 k2 k6) ?_;refine rPs 5 19 6 blr ?_;refine rPs 7 21 5 blr ?_;intro hD;refine wpAnyK_two (i:=4) (i':=6) (fuel:=4) (by kernel_rfl) rfl rfl hD ?_ ?_ 
   · unfold StepK;intro K4 hK4;go_wp2;refine hK4 _ _ (by exact(blr).alloc nlr _) ?_;clear hK4;intro hS_1_4;refine nmB ?_;intro V4 hV4;have HC4:=Hq hS_1_4;clear hS_1_4;try have HS8:=Hq (sln_next hV4 HS8.out)
     try have HNE:=Hq (ne_next HO.out)
     try have HO:=Hq (own_next hV4 HO.out)
     have HU:=Hq (cell_new hV4);rw[hV4]at HC4;have hS_1_4:=HC4.out;clear hV4;refine rO 6 3 ?_;intro K6 hK6;go_wp2;refine hK6 _ _ (by exact Below.alloc hS_1_4 (Below.size hS_1_4) _) ?_;clear hK6;intro hS_1_6_4;refine nmB ?_;intro V6 hV6;have HC6:=Hq hS_1_6_4;clear hS_1_6_4;have HO:=Hq (own_new (B:=wd.heap.size) hV6 (by first | exact hS_1_4.size | exact Nat.le_refl _));try have HNE:=Hq (Nat.ne_of_lt (World.block_lt_of_cell? _ _ HU.out))
     try have HU:=Hq (cell_next hV6 HU.out)
     rw[hV6]at HC6;have hS_1_6_4:=HC6.out;clear hV6;refine rO 8 2 ?_;intro K8 hK8;have HSV:=Hq (HSN.out.kept (HBD.out.trans (hS_1_6_4.mono HBD.out.size)) nlr);refine wpList_append_slG _ rfl (.tmp 20) (.tmp 21) rfl wd.heap.size _ 1 [u] rfl HO.out A n c l rfl HSV.out hn0 (by omega) hS_1_6_4.size ?_;intro v8 w8 hown hgr;obtain⟨A8,c8,rfl,hs8,_⟩:=own_slnA hown;have HS8:=Hq (show SlN w8 A8 (1+n) c8 (u::l)from hs8);have HB8:=Hq (hS_1_6_4.grown hgr hS_1_6_4.size (fun k hk=>(HO.out.lt k hk).1));try have HU:=Hq (hgr.cell HU.out (fun h=>HNE.out (Option.some.inj h)))
     clear hown hgr hs8;go_wp2;refine hK8 _ _ (by exact HB8.out) ?_;clear hK8;intro hS_1_8_4;refine rO 9 1 ?_;intro K9 hK9;go_wp2_with fail;refine(HRD.out _ _ _ _ (sl_one HU.out) HS8.out).mono ?_;rintro ev w9 ⟨rfl,hb⟩;have HB9:=Hq hb;clear hb;go_wp2;refine hK9 _ _ (by exact Below.trans hS_1_8_4 (Below.mono HB9.out (Below.size hS_1_8_4))) ?_;clear hK9;intro hS_1_9_4;refine rO 10 0 ?_;intro K10 hK10;go_wp2;refine hK10 _ _ (by exact hS_1_9_4) ?_;clear hK10;intro hS_1_10_4;have HL:=Hq hS_1_10_4;refine wDn ?_;show K1 _ _;have HBL:=HBD.out.trans (HL.out.mono HBD.out.size);have hF:=And.intro HBL (HXD.out.next HL.out);first
     | (generalize wd.heap.size = p
        generalize V4.heap.size=q
        exact HJ.out p q A8 c8 _ hF)
     | (generalize wd.heap.size = q
        generalize V6.heap.size=p
        exact HJ.out p q A8 c8 _ hF)
     | (generalize wd.heap.size = q
        generalize w8.heap.size=p
        exact HJ.out p q A8 c8 _ hF)
   · unfold StepK;intro K6 hK6;go_wp2;refine hK6 _ _ (by exact(blr).alloc nlr _) ?_;clear hK6;intro hS_1_6;refine nmB ?_;intro V6 hV6;have HC6:=Hq hS_1_6;clear hS_1_6;have HO:=Hq (own_new (B:=wd.heap.size) hV6 (by first | exact(blr).size | exact Nat.le_refl _));try have HNE:=Hq (Nat.ne_of_lt (World.block_lt_of_cell? _ _ HU.out))
     try have HU:=Hq (cell_next hV6 HU.out)
     rw[hV6]at HC6;have hS_1_6:=HC6.out;clear hV6;intro hD;refine wpAnyK_two (i:=4) (i':=8) (fuel:=3) (by kernel_rfl) rfl rfl hD ?_ ?_ 
     · unfold StepK;intro K4 hK4;go_wp2;refine hK4 _ _ (by exact Below.alloc hS_1_6 (Below.size hS_1_6) _) ?_;clear hK4;intro hS_1_4_6;refine nmB ?_;intro V4 hV4;have HC4:=Hq hS_1_4_6;clear hS_1_4_6;try have HS8:=Hq (sln_next hV4 HS8.out)
       try have HNE:=Hq (ne_next HO.out)
       try have HO:=Hq (own_next hV4 HO.out)
       have HU:=Hq (cell_new hV4);rw[hV4]at HC4;have hS_1_4_6:=HC4.out;clear hV4;refine rO 8 2 ?_;intro K8 hK8;have HSV:=Hq (HSN.out.kept (HBD.out.trans (hS_1_4_6.mono HBD.out.size)) nlr);refine wpList_append_slG _ rfl (.tmp 20) (.tmp 21) rfl wd.heap.size _ 1 [u] rfl HO.out A n c l rfl HSV.out hn0 (by omega) hS_1_4_6.size ?_;intro v8 w8 hown hgr;obtain⟨A8,c8,rfl,hs8,_⟩:=own_slnA hown;have HS8:=Hq (show SlN w8 A8 (1+n) c8 (u::l)from hs8);have HB8:=Hq (hS_1_4_6.grown hgr hS_1_4_6.size (fun k hk=>(HO.out.lt k hk).1));try have HU:=Hq (hgr.cell HU.out (fun h=>HNE.out (Option.some.inj h)))
       clear hown hgr hs8;go_wp2;refine hK8 _ _ (by exact HB8.out) ?_;clear hK8;intro hS_1_8_6_4;refine rO 9 1 ?_;intro K9 hK9;go_wp2_with fail;refine(HRD.out _ _ _ _ (sl_one HU.out) HS8.out).mono ?_;rintro ev w9 ⟨rfl,hb⟩;have HB9:=Hq hb;clear hb;go_wp2;refine hK9 _ _ (by exact Below.trans hS_1_8_6_4 (Below.mono HB9.out (Below.size hS_1_8_6_4))) ?_;clear hK9;intro hS_1_9_6_4;refine rO 10 0 ?_;intro K10 hK10;go_wp2;refine hK10 _ _ (by exact hS_1_9_6_4) ?_;clear hK10;intro hS_1_10_6_4;have HL:=Hq hS_1_10_6_4;refine wDn ?_;show K1 _ _;have HBL:=HBD.out.trans (HL.out.mono HBD.out.size);have hF:=And.intro HBL (HXD.out.next HL.out);first
       | (generalize wd.heap.size = p
          generalize V4.heap.size=q
          exact HJ.out p q A8 c8 _ hF)
       | (generalize wd.heap.size = q
          generalize V6.heap.size=p
          exact HJ.out p q A8 c8 _ hF)
       | (generalize wd.heap.size = q
          generalize w8.heap.size=p
          exact HJ.out p q A8 c8 _ hF)
     · unfold StepK;intro K8 hK8;have HSV:=Hq (HSN.out.kept (HBD.out.trans (hS_1_6.mono HBD.out.size)) nlr);refine wpList_append_slG _ rfl (.tmp 20) (.tmp 21) rfl wd.heap.size _ 1 [u] rfl HO.out A n c l rfl HSV.out hn0 (by omega) hS_1_6.size ?_;intro v8 w8 hown hgr;obtain⟨A8,c8,rfl,hs8,_⟩:=own_slnA hown;have HS8:=Hq (show SlN w8 A8 (1+n) c8 (u::l)from hs8);have HB8:=Hq (hS_1_6.grown hgr hS_1_6.size (fun k hk=>(HO.out.lt k hk).1));try have HU:=Hq (hgr.cell HU.out (fun h=>HNE.out (Option.some.inj h)))
       clear hown hgr hs8;go_wp2;refine hK8 _ _ (by exact HB8.out) ?_;clear hK8;intro hS_1_8_6;refine rO 4 2 ?_;intro K4 hK4;go_wp2;refine hK4 _ _ (by exact Below.alloc hS_1_8_6 (Below.size hS_1_8_6) _) ?_;clear hK4;intro hS_1_4_6_8;refine nmB ?_;intro V4 hV4;have HC4:=Hq hS_1_4_6_8;clear hS_1_4_6_8;try have HS8:=Hq (sln_next hV4 HS8.out)
       try have HNE:=Hq (ne_next HO.out)
       try have HO:=Hq (own_next hV4 HO.out)
       have HU:=Hq (cell_new hV4);rw[hV4]at HC4;have hS_1_4_6_8:=HC4.out;clear hV4;refine rO 9 1 ?_;intro K9 hK9;go_wp2_with fail;refine(HRD.out _ _ _ _ (sl_one HU.out) HS8.out).mono ?_;rintro ev w9 ⟨rfl,hb⟩;have HB9:=Hq hb;clear hb;go_wp2;refine hK9 _ _ (by exact Below.trans hS_1_4_6_8 (Below.mono HB9.out (Below.size hS_1_4_6_8))) ?_;clear hK9;intro hS_1_9_6_8;refine rO 10 0 ?_;intro K10 hK10;go_wp2;refine hK10 _ _ (by exact hS_1_9_6_8) ?_;clear hK10;intro hS_1_10_6_8;have HL:=Hq hS_1_10_6_8;refine wDn ?_;show K1 _ _;have HBL:=HBD.out.trans (HL.out.mono HBD.out.size);have hF:=And.intro HBL (HXD.out.next HL.out);first
       | (generalize wd.heap.size = p
          generalize V4.heap.size=q
          exact HJ.out p q A8 c8 _ hF)
       | (generalize wd.heap.size = q
          generalize V6.heap.size=p
          exact HJ.out p q A8 c8 _ hF)
       | (generalize wd.heap.size = q
          generalize w8.heap.size=p
          exact HJ.out p q A8 c8 _ hF)
 · intro bu b6 A8 c8 w2 hz;refine hK1 _ _ ?_;clear hK1;clear k1 k2 k6;obtain⟨hb2,hx2⟩:=hz;have HB2:=Hq hb2;have HX2:=Hq hx2;have HST2:=Hq (HST.out w2 hb2);clear hb2 hx2 HST HRD;go_wp2_with fail;refine(show Calls _ _ _ _ _ from HST2.out).mono ?_;unfold RetSG;rintro e w3 ⟨mb,rfl,hmb,hsb,hb⟩;have HX3:=Hq (HX2.out.next hb);have HB3:=bTr HB2 hb;obtain⟨D,hown,hf⟩:=hsb;have HOWN:=Hq hown;have HF:=Hq (show D.atKey (.string u.data.toList) (.lit (.bool false))=.lit (.bool true)from(hf u).trans (by rw[memB_iff.2 HU.out]));have HUS:=Hq (show u.size≤maxLen from by have:=HSZ.out u HU.out;unfold maxLen;omega);clear hb hmb hown hf;go_wp2_with (at_lookup;refine wpList_lookup_own_bool _ rfl _ _ 64 rfl 22 4 lawN Tryz.underlying64 Tryz.underlying4 (zeroB _) mb n D rfl HOWN.out (.string u) (.string u.data.toList) rfl (keyN HUS.out) true HF.out ?_);clear HOWN HF;obtain⟨wq,hwq⟩:∃ V,V=w3:=⟨_,rfl⟩;subst hwq;go_loopw [11,41] (fun v i wr=>∃(k:Nat) (L:List ByteArray),k≤n∧i=.int .i64 k∧wr.ownsRow wq.heap.size 22 1 v L.length (L.map Value.string)∧L=flt (l.take k) [u]∧L.length≤k∧Below wq.heap.size wq wr) (fun _ i _=>n - (intOf i).toNat);case atStart=>exact⟨0,[],Nat.zero_le _,rfl,World.ownsRow_nil _ _ _ _,by rw[List.take_zero];rfl,Nat.zero_le _,Below.refl _ _⟩
   case round =>
    obtain⟨j,L,hj,rfl,hown,hL,hlj,hbb⟩:=hrel;have HB:=Hq hbb;have HL:=Hq hL;have HOW:=Hq hown;by_cases hlt:j<n
    · obtain⟨x,he⟩:∃ x,l[j]? =some x:=⟨_,List.getElem?_eq_getElem (by rw[HNL.out];exact hlt)⟩;obtain⟨bb,o,rfl⟩:=HSN.out.head (by omega);have hbq:=HB3.out.trans (hbb.mono HB3.out.size);have c0:=(HSN.out.kept hbq nlr).get? j he;have HFS:=Hq (flt_step (b:=[u]) he);clear hown hL hbb he hbq;by_cases hxu:x=u
      · have HFT:=Hq (show L=flt (l.take (j+1)) [u]from by rw[HFS.out,memB_one,decide_eq_true hxu,if_pos rfl,List.append_nil];exact HL.out);clear HFS;subst hxu;go_wp2;go_roundw;case rel=>exact⟨j+1,L,by omega,by go_num,HOW.out,HFT.out,by omega,HB.out⟩
        case measure=>simp[intOf];omega
      · have HFT:=Hq (show L++[x]=flt (l.take (j+1)) [u]from by rw[HFS.out,memB_one,decide_eq_false hxu,if_neg (by decide),HL.out]);have hne:=str_beq_false hxu;have HSNW:=Hq (SlN.new wr [x] 22 (by simp));clear hxu HFS;go_wp2_with (at_builtin;go_must (refine wpList_append_sl wq _ rfl (.tmp 48) (.tmp 50) rfl wq.heap.size _ L.length L rfl (HOW.out.alloc (.cells #[.string x] 22)) (some ⟨wr.heap.size,0,none⟩) 1 1 [x] rfl HSNW.out (by omega) (HB.out.alloc HB.out.size _) (by have:=HB.out.size;simp;omega) ?_));intro v2 w4 hown hb hsz;have HO2:=Hq (show w4.ownsRow wq.heap.size 22 1 v2 (L++[x]).length ((L++[x]).map Value.string)from by rw[List.length_append,List.map_append];exact hown);have HB4:=Hq hb;clear hown hb hsz;go_wp2;go_roundw;case rel=>exact⟨j+1,L++[x],by omega,by go_num,HO2.out,HFT.out,by simp;omega,HB4.out⟩
        case measure=>simp[intOf];omega
    · obtain rfl:j=n:=by omega
      have HLF:=Hq (show L=flt l [u]from by have h:=HL.out;rwa[List.take_of_length_le (by have:=HNL.out;omega)]at h);have HB5:=bTr HB3 hbb;have HX5:=Hq (HX3.out.next hbb);obtain⟨A5,c5,rfl,hs5,_⟩:=own_slnA hown;have HR5:=Hq (HRS.out wr A5 L.length c5 (HLF.out▸hs5));clear hown hL hbb hs5;have hx:=HX5.out;have k1:wr.cell? ⟨w.heap.size,1,none⟩=some (.string M):=hx.cell 1;have k2:wr.cell? ⟨w.heap.size,2,none⟩=some (.string O):=hx.cell 2;have k6:wr.cell? ⟨w.heap.size,6,none⟩=some (.string U):=hx.cell 6;clear hx;go_wp2_with fail;refine(show Calls _ _ _ _ _ from HR5.out).mono ?_;rintro e w6 ⟨rfl,hb⟩;have HB6:=bTr HB5 hb;clear hb k1 k2 k6;go_wp2;go_ret2;exact⟨rfl,HB6.out⟩
end Go.Proofs.YtmahgbhpdfbbjaaGreatDoor

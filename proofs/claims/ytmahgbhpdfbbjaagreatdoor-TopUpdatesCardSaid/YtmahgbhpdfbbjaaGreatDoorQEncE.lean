import Derived.Test.YtmahgbhpdfbbjaaGreatDoorQIt
set_option linter.unusedVariables false
set_option linter.unusedSimpArgs false
namespace Go.Proofs.YtmahgbhpdfbbjaaGreatDoor
set_option maxRecDepth 100000
set_option maxHeartbeats 1000000
open Go.RowKit
theorem item_info:(Tryz.prog.info? 151).map (fun i=>(i.zero,i.size,i.bytes))=some (some (.agg #[.int .i64 0,.string ⟨#[]⟩,.string ⟨#[]⟩,.slice none 0 0]),4,64):=by kernel_rfl
def CpRel(w:World)(R B:Nat)(k0:Int)(n0 t0:ByteArray)(l:List It)(i:Value)(wr:World):Prop:=
 ∃(k:Nat) (A:Option Addr) (cap:Nat) (vs:List Value),k≤l.length∧i=.int .i64 k∧wr.heap[B]? =some (.cells #[.int .i64 k0,.string n0,.string t0,.slice A k cap] 151 (0,0)) ∧
  wr.heap[R]? =some (.cells #[.int .i64 0,.string ⟨#[]⟩,.string ⟨#[]⟩,.slice none 0 0] 151 (0,0)) ∧
  wr.ownsRow (B+1) 151 4 (.slice A k cap) k vs∧RowV wr (fun b=>B+1≤b∧(Value.slice A k cap).ownBlock≠some b) vs (l.take k)∧Below R w wr
theorem cp_round{W0 wr w5 w6 w7:World}{R B k len6 cap6 g cap7 cap':Nat}{A' A6:Option Addr}{k0:Int}{n0 t0:ByteArray}{y:It}{l:List It}{vs:List Value}(hk:k<l.length)(hy:l[k]? =some y)(hRB:R<B)
 (hR:wr.heap[R]? =some (.cells #[.int .i64 0,.string ⟨#[]⟩,.string ⟨#[]⟩,.slice none 0 0] 151 (0,0)))
 (hown0:wr.ownsRow (B+1) 151 4 (.slice A' k cap') k vs)
 (hrow:RowV wr (fun b=>B+1≤b∧(Value.slice A' k cap').ownBlock≠some b) vs (l.take k)) (hB:Below R W0 wr) (hbW:B<wr.heap.size) (h5:Below wr.heap.size wr w5) (hsz5:wr.heap.size+1=w5.heap.size) (h6:Below w5.drew.heap.size w5.drew w6)
 (hs6:SlAt w6 (fun b=>w5.drew.heap.size≤b) A6 len6 cap6 y.list) (hown6:(w6.alloc (.cells #[.int .i64 y.kind,.string y.nat,.string y.text,.slice A6 len6 cap6] 151)).ownsRow (B+1) 151 4 (.slice A' k cap') k vs)
 (hgrow:(w6.alloc (.cells #[.int .i64 y.kind,.string y.nat,.string y.text,.slice A6 len6 cap6] 151)).grownBy w7 (Value.slice A' k cap').ownBlock)
 (hat:(Value.slice A' k cap').ownBlock=some g∨g=(w6.alloc (.cells #[.int .i64 y.kind,.string y.nat,.string y.text,.slice A6 len6 cap6] 151)).heap.size)
 (hout:w7.heap[B]? =some (.cells #[.int .i64 k0,.string n0,.string t0,.slice A' k cap'] 151 (0,0)))
 (hown:w7.ownsRow (B+1) 151 4 (.slice (some ⟨g,0,none⟩) (k+1) cap7) (k+1) (vs++[.int .i64 y.kind,.string y.nat,.string y.text,.slice A6 len6 cap6])) (i:Value) (hi:i=.int .i64 ((k+1:Nat):Int)) :
 CpRel W0 R B k0 n0 t0 l i (w7.setCell ⟨B,3,none⟩ (.slice (some ⟨g,0,none⟩) (k+1) cap7)):=by
 have e5:w5.drew.heap.size=w5.heap.size:=rfl;have h2:w5.heap.size≤w6.heap.size:=h6.size;have hlt:=hown0.lt;have hal:(w6.alloc (.cells #[.int .i64 y.kind,.string y.nat,.string y.text,.slice A6 len6 cap6] 151)).heap.size=w6.heap.size+1:=by simp
 -- the blocks of wr that are not the row appended to
 have same:∀ b,b<wr.heap.size→(Value.slice A' k cap').ownBlock≠some b→w7.heap[b]? =wr.heap[b]?:=fun b hb hne=>by
  rw[hgrow.block b (by omega) (fun e=>hne e.symm),Lib.alloc_old _ _ b (by omega),h6.block b (by omega)];exact h5.block b hb
 have same6:∀ b,b<w6.heap.size→(Value.slice A' k cap').ownBlock≠some b→w7.heap[b]? =w6.heap[b]?:=fun b hb hne=>by
  rw[hgrow.block b (by omega) (fun e=>hne e.symm),Lib.alloc_old _ _ b (by omega)]
 have hne:∀ b,b≤B→(Value.slice A' k cap').ownBlock≠some b:=fun b hb e=>by have:=(hlt _ e).1;omega
 have hset:∀ b,b≠B→(w7.setCell ⟨B,3,none⟩ (.slice (some ⟨g,0,none⟩) (k+1) cap7)).heap[b]? =w7.heap[b]?:=fun b hb=>Below.heap_setCell _ _ _ _ hb;refine⟨k+1,_,_,_,hk,hi,block_setCell hout _,?_,owns_setCell hown (Nat.lt_succ_self _) _,?_,?_⟩
 · rw[hset R (by omega),same R (block_lt hR) (hne R (by omega))];exact hR
 · rw[take_snoc hy];have hs7:SlAt (w7.setCell ⟨B,3,none⟩ (.slice (some ⟨g,0,none⟩) (k+1) cap7)) (fun b=>w5.drew.heap.size≤b∧b<w6.heap.size) A6 len6 cap6 y.list:=SlAt.keep hs6.bound fun b hb _=>by
    rw[hset b (by omega)];exact same6 b hb.2 (fun e=>by have:=(hlt _ e).2;omega)
   have hr7:RowV (w7.setCell ⟨B,3,none⟩ (.slice (some ⟨g,0,none⟩) (k+1) cap7)) (fun b=>(B+1≤b∧(Value.slice A' k cap').ownBlock≠some b)∧b<wr.heap.size) vs (l.take k):=RowV.keep (fun b hb _=>by
    rw[hset b (by omega)]
    exact same b hb.2 hb.1.2) _ _ (RowV.bound _ _ hrow)
   refine RowV.snoc (SlAt.low hs7 fun b hb=>⟨by omega,fun e=>?_⟩) _ _ (RowV.low (fun b hb=>⟨hb.1.1,fun e=>?_⟩) _ _ hr7)
   · simp only[Value.ownBlock,Option.some.injEq]at e;subst e;rcases hat with h | h
     · have:=(hlt _ h).2;omega
     · omega
   · simp only[Value.ownBlock,Option.some.injEq]at e;subst e;rcases hat with h | h
     · exact hb.1.2 h
     · omega
 · have e1:Below R wr w5.drew:=(h5.drew).mono (by omega);have e2:Below R w5.drew w6:=h6.mono (by omega);have e3:Below R w6 (w6.alloc (.cells #[.int .i64 y.kind,.string y.nat,.string y.text,.slice A6 len6 cap6] 151)):=(blr).alloc (by omega) _;exact(((((hB.trans e1).trans e2).trans e3).grown hgrow (by omega) (fun b e=>by have:=(hlt _ e).1;omega))).setCell (p:=⟨B,3,none⟩) (by show R≤B;omega) _
theorem enc_copied(N:Nat):∀(x:It) (v:Value) (w:World) (ok:Nat→Prop),x.nodes≤N→x.nodes≤1000000000000→ItAt w ok v x→Calls Tryz.prog 130 #[v] w (RetIt x w):=by
 induction N with
 | zero=>intro x v w ok h;have:=x.nodes_pos;omega
 | succ N ih =>
  intro x v w ok hN hM ⟨A,len,cap,hv,hs⟩;subst hv;have IH:=Hq ih;have hs0:=hs.bound;clear ih;go_enter Tryz.func130,Tryz.ntmps130;go_wp2;obtain⟨W0,hW0⟩:=nm (((w.alloc (.cells #[.int .i64 x.kind,.string x.nat,.string x.text,.slice A len cap] 151)).alloc (.cells #[.int .i64 0,.string ⟨#[]⟩,.string ⟨#[]⟩,.slice none 0 0] 151)).alloc (.cells #[.int .i64 x.kind,.string x.nat,.string x.text,.slice none 0 0] 151));rw[hW0];have hB0:Below w.heap.size w W0:=by
   rw[←hW0];exact(((blr).alloc nlr _).alloc (by simp) _).alloc (by simp;omega) _
  have hr0:CpRel W0 (w.heap.size+1) (w.heap.size+1+1) x.kind x.nat x.text x.list (.int .i64 0) W0:=by
   refine⟨0,none,0,[],Nat.zero_le _,rfl,?_,?_,World.ownsRow_nil _ _ _ _,trivial,Below.refl _ _⟩
   · rw[←hW0,show w.heap.size+1+1=((w.alloc (.cells #[.int .i64 x.kind,.string x.nat,.string x.text,.slice A len cap] 151)).alloc (.cells #[.int .i64 0,.string ⟨#[]⟩,.string ⟨#[]⟩,.slice none 0 0] 151)).heap.size from by simp];exact heap_alloc_new _ _
   · rw[←hW0,Lib.alloc_old _ _ _ (by simp),show w.heap.size+1=(w.alloc (.cells #[.int .i64 x.kind,.string x.nat,.string x.text,.slice A len cap] 151)).heap.size from by simp];exact heap_alloc_new _ _
  have HB0:=Hq hB0;clear hB0 hW0;go_loopw [16] (fun i wr=>CpRel W0 (w.heap.size+1) (w.heap.size+1+1) x.kind x.nat x.text x.list i wr) (fun i _=>x.list.length - (intOf i).toNat);case atStart=>exact hr0
  case round =>
   clear hr0;obtain⟨k,A',cap',vs,hk,rfl,hout,hres,hown,hrow,hB⟩:=hrel;have hs1:SlAt wr _ A len cap x.list:=hs0.keep (fun b hb _=>by rw[hB.block b (by omega)];exact HB0.out.block b hb.2);have hlen:=hs.1;by_cases hlt:k<len
   · obtain⟨b,o,rfl⟩:=hs1.head (by omega);obtain⟨y,hy⟩:∃ y,x.list[k]? =some y:=⟨_,List.getElem?_eq_getElem (by omega)⟩;obtain⟨A1,len1,cap1,c0,c1,c2,c3,hs2⟩:=(hs1.get? k hy).open;have hout0:wr.cell? ⟨w.heap.size+1+1,3,none⟩=some (.slice A' k cap'):=by rw[Lib.cell_of_heap hout];rfl
     have HS2:=Hq hs2;have HOUT:=Hq hout;have HRES:=Hq hres;have HOWN:=Hq hown;have HROW:=Hq hrow;have HB:=Hq hB;have HLEN:=Hq hlen;have HY:=Hq hy;clear hs1 hs2 hout hres hown hrow hB hlen hs hs0 hy;obtain⟨i0,hi,hz0,hz1,hz2⟩:=info_parts item_info;have hbW:w.heap.size+1+1<wr.heap.size:=block_lt HOUT.out;have hyc:=It.child_nodes HY.out;have hlb:=x.length_lt;have hll:=HLEN.out;have hkb:k≤1000000000000:=by omega
     have hyN:y.nodes≤N:=by omega
     have hyM:y.nodes≤1000000000000:=by omega
     clear hyc hlb hll;go_wp2;obtain⟨w5,hw5⟩:=nm (wr.alloc (.cells #[.int .i64 y.kind,.string y.nat,.string y.text,.slice A1 len1 cap1] 151));rw[hw5];have d0:w5.cell? ⟨wr.heap.size,0,none⟩=some (.int .i64 y.kind):=by rw[←hw5,World.cell?_alloc_at (hn:=rfl)];rfl
     have d1:w5.cell? ⟨wr.heap.size,1,none⟩=some (.string y.nat):=by rw[←hw5,World.cell?_alloc_at (hn:=rfl)];rfl
     have d2:w5.cell? ⟨wr.heap.size,2,none⟩=some (.string y.text):=by rw[←hw5,World.cell?_alloc_at (hn:=rfl)];rfl
     have d3:w5.cell? ⟨wr.heap.size,3,none⟩=some (.slice A1 len1 cap1):=by rw[←hw5,World.cell?_alloc_at (hn:=rfl)];rfl
     have hB5:Below wr.heap.size wr w5:=by rw[←hw5];exact(blr).alloc nlr _
     have hout5:w5.cell? ⟨w.heap.size+1+1,3,none⟩=some (.slice A' k cap'):=kc hB5 hout0;have HOUT5:=Hq (block_kept hB5 nlr HOUT.out);have HOWN5:=Hq (owns_kept HOWN.out hB5 nlr);have HS5:=Hq (HS2.out.below hB5 nlr);have HBB:=Hq hB5;have hsz5:wr.heap.size+1=w5.heap.size:=by rw[←hw5];simp
     have HSZ5:=Hq hsz5;clear c0 c1 c2 c3 hout0 hw5 hB5 hsz5;refine wp_region_K 5 (Below (w5.drew).heap.size (w5.drew)) (by kernel_rfl) ?_;refine qPs 0 7 blr ?_;refine qTs 1 6 blr (fun w' hS'=>(And.intro (kc hS' hout5) (And.intro (kc hS' d0) (And.intro (kc hS' d1) (And.intro (kc hS' d2) (kc hS' d3)))))) ?_;refine qTs 2 5 blr (fun w' hS'=>(And.intro (kc hS' hout5) (And.intro (kc hS' d0) (And.intro (kc hS' d1) (And.intro (kc hS' d2) (kc hS' d3)))))) ?_;refine oO 3 4 ?_;intro K3 hK3;go_wp2_with fail;refine(IH.out y _ _ _ hyN hyM ⟨A1,len1,cap1,rfl,HS5.out.below (blr).drew nlr⟩).mono ?_;rintro e w6 ⟨v6,rfl,⟨A6,len6,cap6,rfl,hs6⟩,hb6⟩;have HB3:=Hq hb6;have HS6:=Hq hs6;clear hb6 hs6;go_wp2;refine hK3 _ _ (by exact HB3.out) ?_;clear hK3;intro hS_5_3;refine oO 4 3 ?_;intro K4 hK4;go_wp2;refine hK4 _ _ (by exact Below.alloc hS_5_3 (Below.size hS_5_3) _) ?_;clear hK4;intro hS_5_4;refine oT 5 2 ?_;intro K5 hK5;have hown6:(w6.alloc (.cells #[.int .i64 y.kind,.string y.nat,.string y.text,.slice A6 len6 cap6] 151)).ownsRow (w.heap.size+1+1+1) 151 4 (.slice A' k cap') k vs:=(owns_kept HOWN5.out.drew HB3.out nlr).alloc _;refine(wpList_append_lies _ rfl (.tmp 21) (.tmp 24) 149 rfl (w.heap.size+1+1+1) 151 i0 _ 4 64 Tryz.underlying149 hi hz0 hz1 hz2 rfl (by decide) _ k vs rfl hown6 ⟨w6.heap.size,0,none⟩ 1 1 [.int .i64 y.kind,.string y.nat,.string y.text,.slice A6 len6 cap6] rfl rfl ?hnews ?hone (by decide) ?h63 ?hby ?hbase _ rfl ?_);case hnews=>exact World.news_of_block (heap_alloc_new _ _)
     case hone=>intro u hu;simp only[List.mem_cons,List.mem_nil_iff,or_false]at hu;rcases hu with rfl | rfl | rfl | rfl<;>rfl
     case h63=>unfold maxLen;omega
     case hby=>omega
     case hbase=>have:=HB3.out.size;have:=HSZ5.out;simp at *;omega
     intro g cap7 w7 hown7 hgrow7 hat7 hlt7;have hsz6:w5.drew.heap.size≤w6.heap.size:=HB3.out.size;have hout7:w7.heap[w.heap.size+1+1]? =some (.cells #[.int .i64 x.kind,.string x.nat,.string x.text,.slice A' k cap'] 151 (0,0)):=by
      have h6:=block_kept (w:=w5.drew) HB3.out nlr HOUT5.out;rw[hgrow7.block _ (by have:=block_lt h6;simp;omega) (fun e=>by have:=(hown6.lt _ e.symm).1;omega),Lib.alloc_old _ _ _ (block_lt h6)];exact h6
     have f7:=Lib.frozen_of_heap hout7 3;have c7:w7.cell? ⟨w.heap.size+1+1,3,none⟩=some (.slice A' k cap'):=by rw[Lib.cell_of_heap hout7];rfl
     have HEND:=Hq (fun i hi=>cp_round (g:=g) (by have:=HLEN.out;omega) HY.out (Nat.lt_succ_self _) HRES.out HOWN.out HROW.out HB.out hbW HBB.out HSZ5.out HB3.out HS6.out hown6 hgrow7 hat7 hout7 hown7 i hi);clear hout7 hown7 hgrow7 hat7 hlt7 hown6;go_wp2;refine hK5 _ _ ?_;clear hK5;intro hD;refine wpAnyK_pureT (i:=6) (v:=?v5_6b1) (fuel:=1) rfl (by kernel_rfl) (by kernel_rfl) (fun _ _ _ h=>h) hD  (.inl ⟨by kernel_rfl,?y5_6b1⟩) ?n5_6b1
     case y5_6b1=>intro w' _;go_simp;with_reducible rfl
     simp only[Act.put,sqA,sqB,sqC];refine oT 7 0 ?_;intro K7 hK7;go_wp2;refine hK7 _ _ ?_;clear hK7;refine wDn ?_;go_wp2;exact⟨HEND.out _ (by go_num),by simp[intOf];have:=HLEN.out;omega⟩
   · obtain rfl:k=len:=by omega
     obtain⟨hc0,hc1,hc2,hc3⟩:=four_cells hout;obtain⟨rc0,rc1,rc2,rc3⟩:=four_cells hres;obtain⟨rf0,rf1,rf2,rf3⟩:=four_free hres;have hfin:=(RowV.slice (RowV.low (fun b hb=>hb.1) _ _ hrow) hown (fun g e=>(hown.lt g e).1)).2;rw[List.take_of_length_le (by omega)]at hfin;have HB:=Hq hB;have HFIN:=Hq hfin;have HRES:=Hq hres;clear hs1 hrow hown hB hout hs hs0 hres hfin;go_wp2;have HE:=Hq (four_cells (set4_block HRES.out (.int .i64 x.kind) (.string x.nat) (.string x.text) (.slice A' k cap')));have HK:=Hq (HFIN.out.keep (w':=set4 wr (w.heap.size+1) (.int .i64 x.kind) (.string x.nat) (.string x.text) (.slice A' k cap')) (fun b hb _=>set4_other _ _ _ _ (by omega)));have HBE:=Hq (set4_below (B:=w.heap.size) (HB0.out.trans (HB.out.mono (by omega))) (b:=w.heap.size+1) (by omega) (.int .i64 x.kind) (.string x.nat) (.string x.text) (.slice A' k cap'));unfold set4 at HE HK HBE;obtain⟨wf,hwf⟩:=nm ((((wr.setCell ⟨w.heap.size+1,0,none⟩ (.int .i64 x.kind)).setCell ⟨w.heap.size+1,1,none⟩ (.string x.nat)).setCell ⟨w.heap.size+1,2,none⟩ (.string x.text)).setCell ⟨w.heap.size+1,3,none⟩ (.slice A' k cap'));rw[hwf]at HE HK HBE⊢;obtain⟨q0,q1,q2,q3⟩:=HE.out;exact bodyPost_ret (v:=.agg #[.int .i64 x.kind,.string x.nat,.string x.text,.slice A' k cap']) (by simp[results,Tryz.results130,go_sem,q0,q1,q2,q3]) rfl ⟨_,rfl,⟨_,_,_,rfl,HK.out.low (fun b hb=>by omega)⟩,HBE.out⟩
theorem enc_List(l:List It)(A:Option Addr)(len cap:Nat)(w:World)(ok:Nat→Prop)(hM:Its.nodes l≤1000000000000)(hs:SlAt w ok A len cap l):Calls Tryz.prog 91 #[.slice A len cap] w (RetIt (.mk 2 ⟨#[]⟩ ⟨#[]⟩ l) w):=by
 have hs0:=hs.bound;go_enter Tryz.func91,Tryz.ntmps91;go_wp2;obtain⟨W0,hW0⟩:=nm ((w.alloc (.cells #[.int .i64 0,.string ⟨#[]⟩,.string ⟨#[]⟩,.slice none 0 0] 151)).alloc (.cells #[.int .i64 2,.string ⟨#[]⟩,.string ⟨#[]⟩,.slice none 0 0] 151));rw[hW0];have hB0:Below w.heap.size w W0:=(by rw[←hW0];exact((blr).alloc nlr _).alloc (by simp) _);have hr0:CpRel W0 (w.heap.size) (w.heap.size+1) 2 ⟨#[]⟩ ⟨#[]⟩ l (.int .i64 0) W0:=by
  refine⟨0,none,0,[],Nat.zero_le _,rfl,?_,?_,World.ownsRow_nil _ _ _ _,trivial,Below.refl _ _⟩
  · rw[←hW0,show w.heap.size+1=(w.alloc (.cells #[.int .i64 0,.string ⟨#[]⟩,.string ⟨#[]⟩,.slice none 0 0] 151)).heap.size from by simp];exact heap_alloc_new _ _
  · rw[←hW0,Lib.alloc_old _ _ _ (by simp)];exact heap_alloc_new _ _
 have HB0:=Hq hB0;clear hB0 hW0;go_loopw [9] (fun i wr=>CpRel W0 (w.heap.size) (w.heap.size+1) 2 ⟨#[]⟩ ⟨#[]⟩ l i wr) (fun i _=>l.length - (intOf i).toNat);case atStart=>exact hr0
 case round =>
  clear hr0;obtain⟨k,A',cap',vs,hk,rfl,hout,hres,hown,hrow,hB⟩:=hrel;have hs1:SlAt wr _ A len cap l:=hs0.keep (fun b hb _=>by rw[hB.block b (by omega)];exact HB0.out.block b hb.2);have hlen:=hs.1;by_cases hlt:k<len
  · obtain⟨b,o,rfl⟩:=hs1.head (by omega);obtain⟨y,hy⟩:∃ y,l[k]? =some y:=⟨_,List.getElem?_eq_getElem (by omega)⟩;obtain⟨A1,len1,cap1,c0,c1,c2,c3,hs2⟩:=(hs1.get? k hy).open;have hout0:wr.cell? ⟨w.heap.size+1,3,none⟩=some (.slice A' k cap'):=by rw[Lib.cell_of_heap hout];rfl
    have HS2:=Hq hs2;have HOUT:=Hq hout;have HRES:=Hq hres;have HOWN:=Hq hown;have HROW:=Hq hrow;have HB:=Hq hB;have HLEN:=Hq hlen;have HY:=Hq hy;clear hs1 hs2 hout hres hown hrow hB hlen hs hs0 hy;obtain⟨i0,hi,hz0,hz1,hz2⟩:=info_parts item_info;have hbW:w.heap.size+1<wr.heap.size:=block_lt HOUT.out;have hyc:=Its.mem_nodes (List.mem_of_getElem? HY.out);have hlb:=Its.length_le_nodes l;have hll:=HLEN.out;have hkb:k≤1000000000000:=by omega
    have hyM:y.nodes≤1000000000000:=by omega
    clear hyc hlb hll;go_wp2;obtain⟨w5,hw5⟩:=nm (wr.alloc (.cells #[.int .i64 y.kind,.string y.nat,.string y.text,.slice A1 len1 cap1] 151));rw[hw5];have d0:w5.cell? ⟨wr.heap.size,0,none⟩=some (.int .i64 y.kind):=by rw[←hw5,World.cell?_alloc_at (hn:=rfl)];rfl
    have d1:w5.cell? ⟨wr.heap.size,1,none⟩=some (.string y.nat):=by rw[←hw5,World.cell?_alloc_at (hn:=rfl)];rfl
    have d2:w5.cell? ⟨wr.heap.size,2,none⟩=some (.string y.text):=by rw[←hw5,World.cell?_alloc_at (hn:=rfl)];rfl
    have d3:w5.cell? ⟨wr.heap.size,3,none⟩=some (.slice A1 len1 cap1):=by rw[←hw5,World.cell?_alloc_at (hn:=rfl)];rfl
    have hB5:Below wr.heap.size wr w5:=by rw[←hw5];exact(blr).alloc nlr _
    have hout5:w5.cell? ⟨w.heap.size+1,3,none⟩=some (.slice A' k cap'):=kc hB5 hout0;have HOUT5:=Hq (block_kept hB5 nlr HOUT.out);have HOWN5:=Hq (owns_kept HOWN.out hB5 nlr);have HS5:=Hq (HS2.out.below hB5 nlr);have HBB:=Hq hB5;have hsz5:wr.heap.size+1=w5.heap.size:=by rw[←hw5];simp
    have HSZ5:=Hq hsz5;clear c0 c1 c2 c3 hout0 hw5 hB5 hsz5;refine wp_region_K 5 (Below (w5.drew).heap.size (w5.drew)) (by kernel_rfl) ?_;refine qPs 0 7 blr ?_;refine qTs 1 6 blr (fun w' hS'=>(And.intro (kc hS' hout5) (And.intro (kc hS' d0) (And.intro (kc hS' d1) (And.intro (kc hS' d2) (kc hS' d3)))))) ?_;refine qTs 2 5 blr (fun w' hS'=>(And.intro (kc hS' hout5) (And.intro (kc hS' d0) (And.intro (kc hS' d1) (And.intro (kc hS' d2) (kc hS' d3)))))) ?_;refine oO 3 4 ?_;intro K3 hK3;go_wp2_with fail;refine(enc_copied _ y _ _ _ nlr hyM ⟨A1,len1,cap1,rfl,HS5.out.below (blr).drew nlr⟩).mono ?_;rintro e w6 ⟨v6,rfl,⟨A6,len6,cap6,rfl,hs6⟩,hb6⟩;have HB3:=Hq hb6;have HS6:=Hq hs6;clear hb6 hs6;go_wp2;refine hK3 _ _ (by exact HB3.out) ?_;clear hK3;intro hS_5_3;refine oO 4 3 ?_;intro K4 hK4;go_wp2;refine hK4 _ _ (by exact Below.alloc hS_5_3 (Below.size hS_5_3) _) ?_;clear hK4;intro hS_5_4;refine oT 5 2 ?_;intro K5 hK5;have hown6:(w6.alloc (.cells #[.int .i64 y.kind,.string y.nat,.string y.text,.slice A6 len6 cap6] 151)).ownsRow (w.heap.size+1+1) 151 4 (.slice A' k cap') k vs:=(owns_kept HOWN5.out.drew HB3.out nlr).alloc _;refine(wpList_append_lies _ rfl (.tmp 14) (.tmp 17) 149 rfl (w.heap.size+1+1) 151 i0 _ 4 64 Tryz.underlying149 hi hz0 hz1 hz2 rfl (by decide) _ k vs rfl hown6 ⟨w6.heap.size,0,none⟩ 1 1 [.int .i64 y.kind,.string y.nat,.string y.text,.slice A6 len6 cap6] rfl rfl ?hnews ?hone (by decide) ?h63 ?hby ?hbase _ rfl ?_);case hnews=>exact World.news_of_block (heap_alloc_new _ _)
    case hone=>intro u hu;simp only[List.mem_cons,List.mem_nil_iff,or_false]at hu;rcases hu with rfl | rfl | rfl | rfl<;>rfl
    case h63=>unfold maxLen;omega
    case hby=>omega
    case hbase=>have:=HB3.out.size;have:=HSZ5.out;simp at *;omega
    intro g cap7 w7 hown7 hgrow7 hat7 hlt7;have hsz6:w5.drew.heap.size≤w6.heap.size:=HB3.out.size;have hout7:w7.heap[w.heap.size+1]? =some (.cells #[.int .i64 2,.string ⟨#[]⟩,.string ⟨#[]⟩,.slice A' k cap'] 151 (0,0)):=by
     have h6:=block_kept (w:=w5.drew) HB3.out nlr HOUT5.out;rw[hgrow7.block _ (by have:=block_lt h6;simp;omega) (fun e=>by have:=(hown6.lt _ e.symm).1;omega),Lib.alloc_old _ _ _ (block_lt h6)];exact h6
    have f7:=Lib.frozen_of_heap hout7 3;have c7:w7.cell? ⟨w.heap.size+1,3,none⟩=some (.slice A' k cap'):=by rw[Lib.cell_of_heap hout7];rfl
    have HEND:=Hq (fun i hi=>cp_round (g:=g) (by have:=HLEN.out;omega) HY.out (Nat.lt_succ_self _) HRES.out HOWN.out HROW.out HB.out hbW HBB.out HSZ5.out HB3.out HS6.out hown6 hgrow7 hat7 hout7 hown7 i hi);clear hout7 hown7 hgrow7 hat7 hlt7 hown6;go_wp2;refine hK5 _ _ ?_;clear hK5;intro hD;refine wpAnyK_pureT (i:=6) (v:=?v5_6b2) (fuel:=1) rfl (by kernel_rfl) (by kernel_rfl) (fun _ _ _ h=>h) hD  (.inl ⟨by kernel_rfl,?y5_6b2⟩) ?n5_6b2
    case y5_6b2=>intro w' _;go_simp;with_reducible rfl
    simp only[Act.put,sqA,sqB,sqC];refine oT 7 0 ?_;intro K7 hK7;go_wp2;refine hK7 _ _ ?_;clear hK7;refine wDn ?_;go_wp2;exact⟨HEND.out _ (by go_num),by simp[intOf];have:=HLEN.out;omega⟩
  · obtain rfl:k=len:=by omega
    obtain⟨hc0,hc1,hc2,hc3⟩:=four_cells hout;obtain⟨rc0,rc1,rc2,rc3⟩:=four_cells hres;obtain⟨rf0,rf1,rf2,rf3⟩:=four_free hres;have hfin:=(RowV.slice (RowV.low (fun b hb=>hb.1) _ _ hrow) hown (fun g e=>(hown.lt g e).1)).2;rw[List.take_of_length_le (by omega)]at hfin;have HB:=Hq hB;have HFIN:=Hq hfin;have HRES:=Hq hres;clear hs1 hrow hown hB hout hs hs0 hres hfin;go_wp2;have HE:=Hq (four_cells (set4_block HRES.out (.int .i64 2) (.string ⟨#[]⟩) (.string ⟨#[]⟩) (.slice A' k cap')));have HK:=Hq (HFIN.out.keep (w':=set4 wr (w.heap.size) (.int .i64 2) (.string ⟨#[]⟩) (.string ⟨#[]⟩) (.slice A' k cap')) (fun b hb _=>set4_other _ _ _ _ (by omega)));have HBE:=Hq (set4_below (B:=w.heap.size) (HB0.out.trans (HB.out.mono (by omega))) (b:=w.heap.size) (by omega) (.int .i64 2) (.string ⟨#[]⟩) (.string ⟨#[]⟩) (.slice A' k cap'));unfold set4 at HE HK HBE;obtain⟨wf,hwf⟩:=nm ((((wr.setCell ⟨w.heap.size,0,none⟩ (.int .i64 2)).setCell ⟨w.heap.size,1,none⟩ (.string ⟨#[]⟩)).setCell ⟨w.heap.size,2,none⟩ (.string ⟨#[]⟩)).setCell ⟨w.heap.size,3,none⟩ (.slice A' k cap'));rw[hwf]at HE HK HBE⊢;obtain⟨q0,q1,q2,q3⟩:=HE.out;exact bodyPost_ret (v:=.agg #[.int .i64 2,.string ⟨#[]⟩,.string ⟨#[]⟩,.slice A' k cap']) (by simp[results,Tryz.results91,go_sem,q0,q1,q2,q3]) rfl ⟨_,rfl,⟨_,_,_,rfl,HK.out.low (fun b hb=>by omega)⟩,HBE.out⟩
set_option maxRecDepth 100000
set_option maxHeartbeats 2000000
theorem valid_take_step{l:List It}{k:Nat}{y:It}(h:l[k]? =some y)(hv:Its.valid (l.take k)=true):Its.valid (l.take (k+1))=y.valid:=by
 rw[take_snoc h,Its.valid_append,hv];simp[Its.valid]
theorem valid_take_false{l:List It}{k:Nat}(h:Its.valid (l.take (k+1))=false):Its.valid l=false:=by
 have:=Its.valid_append (l.take (k+1)) (l.drop (k+1));rw[List.take_append_drop,h]at this;exact this
theorem isEmpty_size(t:ByteArray):t.toList.isEmpty=(t.size==0):=by
 by_cases h:t.size=0
 · rw[sempty_true h];simp[h]
 · rw[sempty_false (by omega)];simp[h]
theorem enc_valid(N:Nat):∀(x:It) (v:Value) (w:World) (ok:Nat→Prop),x.nodes≤N→x.weight≤1000000000000→ItAt w ok v x→Calls Tryz.prog 127 #[v] w (Ret (.bool x.valid) w):=by
 induction N with
 | zero=>intro x v w ok h;have:=x.nodes_pos;omega
 | succ N ih =>
  intro x v w ok hN hM ⟨A,len,cap,hv,hs⟩;subst hv;have IH:=Hq ih;clear ih
  cases x with
  | mk q n t l =>
   simp only[It.kind,It.nat,It.text,It.list]at *;have hlen:=hs.1;have hcap:=hs.2.2.1;have hlc:=hs.2.1;have hnz:n.size≤9223372036854775807:=by simp only[It.weight]at hM;omega
   have hlle:((len:Int)==0)=l.isEmpty:=(by rw[←hlen];cases l<;>simp;omega);have hte:=isEmpty_size t;have hne:=isEmpty_size n;by_cases hq0:q=0
   · subst hq0;have hsp:It.valid (.mk 0 n t l)=(nvalid n&&((t.size==0)&&l.isEmpty)):=by simp[It.valid]
     rw[hsp];have HLEN:=Hq hlen;have HS:=Hq hs;clear hsp hlen hs hne hN hM
     cases hv:nvalid n<;>cases ht:(t.size==0)<;>cases hl:l.isEmpty<;>
     · rw[ht]at hte;rw[hl]at hlle;have HV:=Hq hv;clear hv ht hl;go_enter Tryz.func127,Tryz.ntmps127;go_wp2_with fail;refine(nat_Valid _ hnz _).mono ?_;rintro e w1 ⟨rfl,rfl⟩;rw[HV.out];go_wp2;go_ret;exact⟨rfl,(blr).alloc nlr _⟩
   · by_cases hq1:q=1
     · subst hq1;have hsp:It.valid (.mk 1 n t l)=((n.size==0)&&l.isEmpty):=by simp[It.valid]
       rw[hsp];have HLEN:=Hq hlen;have HS:=Hq hs;clear hsp hlen hs hte hN hM hq0
       cases ht:(n.size==0)<;>cases hl:l.isEmpty<;>
       · rw[ht]at hne;rw[hl]at hlle;clear ht hl;go_enter Tryz.func127,Tryz.ntmps127;go_wp2;go_ret;exact⟨rfl,(blr).alloc nlr _⟩
     · have e0:(q==0)=false:=beq_eq_false_iff_ne.2 hq0;have e1:(q==1)=false:=beq_eq_false_iff_ne.2 hq1;by_cases hq2:q=2
       · subst hq2;have hsp:It.valid (.mk 2 n t l)=(Its.valid l&&((n.size==0)&&(t.size==0))):=by simp[It.valid]
         rw[hsp];simp only[It.nodes,It.weight]at hN hM;have hs0:=hs.bound;have HN:=Hq hN;have HM:=Hq hM;clear hsp e0 e1 hq0 hq1 hN hM hlle hs;go_enter Tryz.func127,Tryz.ntmps127;go_wp2;go_loopw [39] (fun i wr=>∃ k:Nat,k≤len∧i=.int .i64 k∧Its.valid (l.take k)=true∧Below (w.heap.size+1) (w.alloc (.cells #[.int .i64 2,.string n,.string t,.slice A len cap] 151)) wr) (fun i _=>len - (intOf i).toNat);case atStart=>exact⟨0,Nat.zero_le _,rfl,rfl,Below.refl _ _⟩
         case round =>
          obtain⟨k,hk,rfl,hva,hB⟩:=hrel;have hbb:wr.heap[w.heap.size]? =some (.cells #[.int .i64 2,.string n,.string t,.slice A len cap] 151 (0,0)):=(by rw[hB.block _ (by omega)];exact heap_alloc_new _ _);obtain⟨b0,b1,b2,b3⟩:=four_cells hbb;have hBw:Below w.heap.size w wr:=((Below.refl w.heap.size w).alloc nlr _).trans (hB.mono (by omega));have hs1:=hs0.keep (fun b hb _=>hBw.block b hb.2);have hsz:w.heap.size+1≤wr.heap.size:=block_lt hbb;have HB:=Hq hB;have HBW:=Hq hBw;have HVA:=Hq hva;have HLEN:=Hq hlen;clear hbb hB hBw hva hlen;by_cases hlt:k<len
          · obtain⟨b,o,rfl⟩:=hs1.head (by omega);obtain⟨y,hy⟩:∃ y,l[k]? =some y:=⟨_,List.getElem?_eq_getElem (by rw[HLEN.out];exact hlt)⟩;obtain⟨A1,len1,cap1,c0,c1,c2,c3,hs2⟩:=(hs1.get? k hy).open;have hyN:y.nodes≤N:=by have:=Its.mem_nodes (List.mem_of_getElem? hy);have:=HN.out;omega
            have hyM:y.weight≤1000000000000:=by have:=Its.mem_weight (List.mem_of_getElem? hy);have:=HM.out;omega
            have HS2:=Hq hs2;have HY:=Hq hy;clear hs1 hs2 hs0 hy;go_wp2_with fail;refine(IH.out y _ _ _ hyN hyM ⟨A1,len1,cap1,rfl,HS2.out.below ((Below.refl wr.heap.size wr).alloc nlr _) nlr⟩).mono ?_;rintro e w2 ⟨rfl,hb2⟩;have HB2:=Hq hb2;clear hb2
            cases hyv:y.valid with
            | true =>
             have HYV:=Hq hyv;clear hyv;go_wp2;go_roundw;case rel=>exact⟨k+1,by omega,by go_num,by rw[valid_take_step HY.out HVA.out];exact HYV.out,HB.out.trans (((Below.refl (w.heap.size+1) wr).alloc (by omega) _).trans (HB2.out.mono (by simp;omega)))⟩
             case measure=>simp[intOf];omega
            | false =>
             have hvl:Its.valid l=false:=valid_take_false (k:=k) (by rw[valid_take_step HY.out HVA.out];exact hyv);have HVL:=Hq hvl;clear hyv hvl;go_wp2;go_ret;exact⟨by rw[HVL.out];rfl,HBW.out.trans (((Below.refl w.heap.size wr).alloc (by omega) _).trans (HB2.out.mono (by simp;omega)))⟩
          · obtain rfl:k=len:=by omega
            have hvl:Its.valid l=true:=(by have:=HVA.out;rw[List.take_of_length_le (by have:=HLEN.out;omega)]at this;exact this);have HVL:=Hq hvl;clear hvl hs1 hs0
            cases ht:(t.size==0)<;>cases hn:(n.size==0)<;>
            · rw[ht]at hte;rw[hn]at hne;have HT:=Hq ht;have HN0:=Hq hn;clear ht hn;go_wp2;go_ret;exact⟨by rw[HVL.out,HT.out,HN0.out];rfl,HBW.out⟩
       · have hsp:It.valid (.mk q n t l)=false:=by simp[It.valid,hq0,hq1,hq2]
         rw[hsp];have e2:(q==2)=false:=beq_eq_false_iff_ne.2 hq2;clear hsp hq0 hq1 hq2 hlen hs hlle hte hne hN hM;go_enter Tryz.func127,Tryz.ntmps127;go_wp2;go_ret;exact⟨rfl,(blr).alloc nlr _⟩
theorem depth_take_step{l:List It}{k:Nat}{y:It}(h:l[k]? =some y):Its.depth (l.take (k+1))=max (Its.depth (l.take k)) y.depth:=by
 rw[take_snoc h,Its.depth_append];simp[Its.depth]
theorem depth_take_le(l:List It)(k:Nat):Its.depth (l.take k)≤Its.depth l:=by
 have:=Its.depth_append (l.take k) (l.drop k);rw[List.take_append_drop]at this;omega
theorem enc_depth(N:Nat):∀(x:It) (v:Value) (w:World) (ok:Nat→Prop),x.nodes≤N→x.weight≤1000000000000→ItAt w ok v x→Calls Tryz.prog 128 #[v] w (Ret (.int .i64 x.depth) w):=by
 induction N with
 | zero=>intro x v w ok h;have:=x.nodes_pos;omega
 | succ N ih =>
  intro x v w ok hN hM ⟨A,len,cap,hv,hs⟩;subst hv;have IH:=Hq ih;clear ih
  cases x with
  | mk q n t l =>
   simp only[It.kind,It.nat,It.text,It.list]at *;have hlen:=hs.1;have hcap:=hs.2.2.1;have hlc:=hs.2.1;by_cases hq2:q=2
   · subst hq2;have hsp:It.depth (.mk 2 n t l)=Its.depth l+1:=by simp[It.depth]
     rw[hsp];simp only[It.nodes,It.weight]at hN hM;have hs0:=hs.bound;have hd0:=Its.depth_le l;have hd1:=Its.nodes_le l;have hdb:Its.depth l≤1000000000000:=by omega
     have HN:=Hq hN;have HM:=Hq hM;clear hsp hN hM hs hd0 hd1;go_enter Tryz.func128,Tryz.ntmps128;go_wp2;go_loopw [3,12] (fun m i wr=>∃ k:Nat,k≤len∧i=.int .i64 k∧m=.int .i64 ((Its.depth (l.take k):Nat):Int)∧Below (w.heap.size+1) (w.alloc (.cells #[.int .i64 2,.string n,.string t,.slice A len cap] 151)) wr) (fun _ i _=>len - (intOf i).toNat);case atStart=>exact⟨0,Nat.zero_le _,rfl,rfl,Below.refl _ _⟩
     case round =>
      obtain⟨k,hk,rfl,rfl,hB⟩:=hrel;have hbb:wr.heap[w.heap.size]? =some (.cells #[.int .i64 2,.string n,.string t,.slice A len cap] 151 (0,0)):=(by rw[hB.block _ (by omega)];exact heap_alloc_new _ _);obtain⟨b0,b1,b2,b3⟩:=four_cells hbb;have hBw:Below w.heap.size w wr:=((Below.refl w.heap.size w).alloc nlr _).trans (hB.mono (by omega));have hs1:=hs0.keep (fun b hb _=>hBw.block b hb.2);have hsz:w.heap.size+1≤wr.heap.size:=block_lt hbb;have hdk:=depth_take_le l k;have HB:=Hq hB;have HBW:=Hq hBw;have HLEN:=Hq hlen;clear hbb hB hBw hlen;obtain⟨D,hD⟩:∃ D,D=Its.depth (l.take k):=⟨_,rfl⟩;rw[←hD]at hdk⊢;have HD:=Hq hD;clear hD;by_cases hlt:k<len
      · obtain⟨b,o,rfl⟩:=hs1.head (by omega);obtain⟨y,hy⟩:∃ y,l[k]? =some y:=⟨_,List.getElem?_eq_getElem (by rw[HLEN.out];exact hlt)⟩;obtain⟨A1,len1,cap1,c0,c1,c2,c3,hs2⟩:=(hs1.get? k hy).open;have hyN:y.nodes≤N:=by have:=Its.mem_nodes (List.mem_of_getElem? hy);have:=HN.out;omega
        have hyM:y.weight≤1000000000000:=by have:=Its.mem_weight (List.mem_of_getElem? hy);have:=HM.out;omega
        have HS2:=Hq hs2;have HY:=Hq hy;clear hs1 hs2 hs0 hy;go_wp2_with fail;refine(IH.out y _ _ _ hyN hyM ⟨A1,len1,cap1,rfl,HS2.out.below ((Below.refl wr.heap.size wr).alloc nlr _) nlr⟩).mono ?_;rintro e w2 ⟨rfl,hb2⟩;have HB2:=Hq hb2;clear hb2;go_wp2;exact⟨⟨k+1,by omega,by go_num,by rw[depth_take_step HY.out,←HD.out];exact congrArg (Value.int .i64) (by omega),HB.out.trans (((Below.refl (w.heap.size+1) wr).alloc (by omega) _).trans (HB2.out.mono (by simp;omega)))⟩,by simp[intOf];omega⟩
      · obtain rfl:k=len:=by omega
        have hvl:D=Its.depth l:=(by have:=HD.out;rw[List.take_of_length_le (by have:=HLEN.out;omega)]at this;exact this);have HVL:=Hq hvl;clear hvl hs1 hs0;go_wp2;go_ret;exact⟨by rw[←HVL.out];rfl,HBW.out⟩
   · have hsp:It.depth (.mk q n t l)=0:=by simp[It.depth,hq2]
     rw[hsp];have e2:(q != 2)=true:=by rw[bne_iff_ne];exact hq2
     clear hsp hq2 hlen hs hN hM;go_enter Tryz.func128,Tryz.ntmps128;go_wp2;go_ret;exact⟨rfl,(blr).alloc nlr _⟩
set_option maxRecDepth 100000
set_option maxHeartbeats 2000000
theorem or128(c:Nat)(h:c<256):bits BinOp.or IntKind.u8 (c:Int) 128=((c%128+128:Nat):Int):=by
 have : ∀ c:Fin 256,bits BinOp.or IntKind.u8 ((c.1:Nat):Int) 128=((c.1%128+128:Nat):Int):=by decide +kernel
 exact this ⟨c,h⟩
theorem or128'(m:Nat):bits BinOp.or IntKind.u8 ((m:Int)%256) 128=((m%128+128:Nat):Int):=by
 rw[show ((m:Int)%256)=((m%256:Nat):Int)from by omega,or128 _ (by omega)];omega
theorem toNat_small{m:Nat}(h:m<256):(UInt8.ofNat m).toNat=m:=by
 rw[UInt8.toNat_ofNat'];omega
theorem bytesAt_alloc(w:World)(cs:Array Value)(T:TypeId)(bs:List UInt8)(len cap:Nat)(hl:bs.length=len)(hc:len≤cap)(hm:cap≤9223372036854775807)
 (h:∀ k,k<len→cs[k]? =some (.int .u8 (byteI bs k))):BytesAt (w.alloc (.cells cs T)) (some ⟨w.heap.size,0,none⟩) len cap bs:=
 ⟨hl,hc,hm,fun _=>⟨_,_,rfl,fun k hk=>by rw[Nat.zero_add,World.cell?_alloc_at (hn:=rfl)];exact h k hk⟩⟩
theorem lenB_0(n:Nat)(h:n<128):lenB n=[UInt8.ofNat (n)]:=by
 unfold lenB;rw[lenF,if_pos (by omega)]
theorem lenB_at0(w:World)(n:Nat)(h:n<128)(T:TypeId):BytesAt (w.alloc (.cells #[.int .u8 ((n:Int)),.int .u8 0,.int .u8 0,.int .u8 0,.int .u8 0,.int .u8 0,.int .u8 0,.int .u8 0,.int .u8 0,.int .u8 0] T)) (some ⟨w.heap.size,0,none⟩) 1 10 (lenB n):=by
 rw[lenB_0 n h];refine bytesAt_alloc w _ T _ _ _ rfl (by omega) (by omega) fun k hk=>?_
 match k,hk with
 | 0,_=>exact congrArg (fun x=>some (Value.int .u8 x)) (show ((n:Nat):Int)=_ from congrArg Int.ofNat (toNat_small (by omega)).symm)
theorem lenB_1(n:Nat)(hl:128≤n)(h:n<16384):lenB n=[UInt8.ofNat (n%128+128),UInt8.ofNat (n / 128)]:=by
 unfold lenB;rw[lenF,if_neg (by omega)];rw[lenF,if_pos (by omega)]
theorem lenB_at1(w:World)(n:Nat)(hl:128≤n)(h:n<16384)(T:TypeId):BytesAt (w.alloc (.cells #[.int .u8 (bits BinOp.or IntKind.u8 ((n:Int)%256) 128),.int .u8 ((n:Int) / 128),.int .u8 0,.int .u8 0,.int .u8 0,.int .u8 0,.int .u8 0,.int .u8 0,.int .u8 0,.int .u8 0] T)) (some ⟨w.heap.size,0,none⟩) 2 10 (lenB n):=by
 rw[lenB_1 n hl h];refine bytesAt_alloc w _ T _ _ _ rfl (by omega) (by omega) fun k hk=>?_
 match k,hk with
 | 0,_=>exact congrArg (fun x=>some (Value.int .u8 x)) ((or128' (n)).trans (congrArg Int.ofNat (toNat_small (by omega)).symm))
 | 1,_=>exact congrArg (fun x=>some (Value.int .u8 x)) (show ((n / 128:Nat):Int)=_ from congrArg Int.ofNat (toNat_small (by omega)).symm)
theorem lenB_2(n:Nat)(hl:16384≤n)(h:n<2097152):lenB n=[UInt8.ofNat (n%128+128),UInt8.ofNat (n / 128%128+128),UInt8.ofNat (n / 128 / 128)]:=by
 unfold lenB;rw[lenF,if_neg (by omega)];rw[lenF,if_neg (by omega)];rw[lenF,if_pos (by omega)]
theorem lenB_at2(w:World)(n:Nat)(hl:16384≤n)(h:n<2097152)(T:TypeId):BytesAt (w.alloc (.cells #[.int .u8 (bits BinOp.or IntKind.u8 ((n:Int)%256) 128),.int .u8 (bits BinOp.or IntKind.u8 ((n:Int) / 128%256) 128),.int .u8 ((n:Int) / 128 / 128),.int .u8 0,.int .u8 0,.int .u8 0,.int .u8 0,.int .u8 0,.int .u8 0,.int .u8 0] T)) (some ⟨w.heap.size,0,none⟩) 3 10 (lenB n):=by
 rw[lenB_2 n hl h];refine bytesAt_alloc w _ T _ _ _ rfl (by omega) (by omega) fun k hk=>?_
 match k,hk with
 | 0,_=>exact congrArg (fun x=>some (Value.int .u8 x)) ((or128' (n)).trans (congrArg Int.ofNat (toNat_small (by omega)).symm))
 | 1,_=>exact congrArg (fun x=>some (Value.int .u8 x)) ((or128' (n / 128)).trans (congrArg Int.ofNat (toNat_small (by omega)).symm))
 | 2,_=>exact congrArg (fun x=>some (Value.int .u8 x)) (show ((n / 128 / 128:Nat):Int)=_ from congrArg Int.ofNat (toNat_small (by omega)).symm)
theorem lenB_3(n:Nat)(hl:2097152≤n)(h:n<268435456):lenB n=[UInt8.ofNat (n%128+128),UInt8.ofNat (n / 128%128+128),UInt8.ofNat (n / 128 / 128%128+128),UInt8.ofNat (n / 128 / 128 / 128)]:=by
 unfold lenB;rw[lenF,if_neg (by omega)];rw[lenF,if_neg (by omega)];rw[lenF,if_neg (by omega)];rw[lenF,if_pos (by omega)]
theorem lenB_at3(w:World)(n:Nat)(hl:2097152≤n)(h:n<268435456)(T:TypeId):BytesAt (w.alloc (.cells #[.int .u8 (bits BinOp.or IntKind.u8 ((n:Int)%256) 128),.int .u8 (bits BinOp.or IntKind.u8 ((n:Int) / 128%256) 128),.int .u8 (bits BinOp.or IntKind.u8 ((n:Int) / 128 / 128%256) 128),.int .u8 ((n:Int) / 128 / 128 / 128),.int .u8 0,.int .u8 0,.int .u8 0,.int .u8 0,.int .u8 0,.int .u8 0] T)) (some ⟨w.heap.size,0,none⟩) 4 10 (lenB n):=by
 rw[lenB_3 n hl h];refine bytesAt_alloc w _ T _ _ _ rfl (by omega) (by omega) fun k hk=>?_
 match k,hk with
 | 0,_=>exact congrArg (fun x=>some (Value.int .u8 x)) ((or128' (n)).trans (congrArg Int.ofNat (toNat_small (by omega)).symm))
 | 1,_=>exact congrArg (fun x=>some (Value.int .u8 x)) ((or128' (n / 128)).trans (congrArg Int.ofNat (toNat_small (by omega)).symm))
 | 2,_=>exact congrArg (fun x=>some (Value.int .u8 x)) ((or128' (n / 128 / 128)).trans (congrArg Int.ofNat (toNat_small (by omega)).symm))
 | 3,_=>exact congrArg (fun x=>some (Value.int .u8 x)) (show ((n / 128 / 128 / 128:Nat):Int)=_ from congrArg Int.ofNat (toNat_small (by omega)).symm)
theorem lenB_4(n:Nat)(hl:268435456≤n)(h:n<34359738368):lenB n=[UInt8.ofNat (n%128+128),UInt8.ofNat (n / 128%128+128),UInt8.ofNat (n / 128 / 128%128+128),UInt8.ofNat (n / 128 / 128 / 128%128+128),UInt8.ofNat (n / 128 / 128 / 128 / 128)]:=by
 unfold lenB;rw[lenF,if_neg (by omega)];rw[lenF,if_neg (by omega)];rw[lenF,if_neg (by omega)];rw[lenF,if_neg (by omega)];rw[lenF,if_pos (by omega)]
theorem lenB_at4(w:World)(n:Nat)(hl:268435456≤n)(h:n<34359738368)(T:TypeId):BytesAt (w.alloc (.cells #[.int .u8 (bits BinOp.or IntKind.u8 ((n:Int)%256) 128),.int .u8 (bits BinOp.or IntKind.u8 ((n:Int) / 128%256) 128),.int .u8 (bits BinOp.or IntKind.u8 ((n:Int) / 128 / 128%256) 128),.int .u8 (bits BinOp.or IntKind.u8 ((n:Int) / 128 / 128 / 128%256) 128),.int .u8 ((n:Int) / 128 / 128 / 128 / 128),.int .u8 0,.int .u8 0,.int .u8 0,.int .u8 0,.int .u8 0] T)) (some ⟨w.heap.size,0,none⟩) 5 10 (lenB n):=by
 rw[lenB_4 n hl h];refine bytesAt_alloc w _ T _ _ _ rfl (by omega) (by omega) fun k hk=>?_
 match k,hk with
 | 0,_=>exact congrArg (fun x=>some (Value.int .u8 x)) ((or128' (n)).trans (congrArg Int.ofNat (toNat_small (by omega)).symm))
 | 1,_=>exact congrArg (fun x=>some (Value.int .u8 x)) ((or128' (n / 128)).trans (congrArg Int.ofNat (toNat_small (by omega)).symm))
 | 2,_=>exact congrArg (fun x=>some (Value.int .u8 x)) ((or128' (n / 128 / 128)).trans (congrArg Int.ofNat (toNat_small (by omega)).symm))
 | 3,_=>exact congrArg (fun x=>some (Value.int .u8 x)) ((or128' (n / 128 / 128 / 128)).trans (congrArg Int.ofNat (toNat_small (by omega)).symm))
 | 4,_=>exact congrArg (fun x=>some (Value.int .u8 x)) (show ((n / 128 / 128 / 128 / 128:Nat):Int)=_ from congrArg Int.ofNat (toNat_small (by omega)).symm)
theorem enc_length(n:Nat)(w:World)(h:n<34359738368):Calls Tryz.prog 145 #[.int .i64 n] w (Ret (.string (bstr (lenB n))) w):=by
 by_cases h0:n<128
 · have hconv:=BytesAt.conv (lenB_at0 w n h0 221) 70 9 5 Tryz.underlying70 Tryz.underlying5 Tryz.underlying9;go_enter Tryz.func145,Tryz.ntmps145;go_wp2;refine wp_loop_rounds 1 ?_;iterate 1 (rw[rounds_succ];go_wp2_with fail)
   go_ret;exact⟨rfl,(blr).alloc nlr _⟩
 · skip;by_cases h1:n<16384
   · have hconv:=BytesAt.conv (lenB_at1 w n (by omega) h1 221) 70 9 5 Tryz.underlying70 Tryz.underlying5 Tryz.underlying9;go_enter Tryz.func145,Tryz.ntmps145;go_wp2;refine wp_loop_rounds 2 ?_;iterate 2 (rw[rounds_succ];go_wp2_with fail)
     go_ret;exact⟨rfl,(blr).alloc nlr _⟩
   · skip;by_cases h2:n<2097152
     · have hconv:=BytesAt.conv (lenB_at2 w n (by omega) h2 221) 70 9 5 Tryz.underlying70 Tryz.underlying5 Tryz.underlying9;go_enter Tryz.func145,Tryz.ntmps145;go_wp2;refine wp_loop_rounds 3 ?_;iterate 3 (rw[rounds_succ];go_wp2_with fail)
       go_ret;exact⟨rfl,(blr).alloc nlr _⟩
     · skip;by_cases h3:n<268435456
       · have hconv:=BytesAt.conv (lenB_at3 w n (by omega) h3 221) 70 9 5 Tryz.underlying70 Tryz.underlying5 Tryz.underlying9;go_enter Tryz.func145,Tryz.ntmps145;go_wp2;refine wp_loop_rounds 4 ?_;iterate 4 (rw[rounds_succ];go_wp2_with fail)
         go_ret;exact⟨rfl,(blr).alloc nlr _⟩
       · skip;have hconv:=BytesAt.conv (lenB_at4 w n (by omega) h 221) 70 9 5 Tryz.underlying70 Tryz.underlying5 Tryz.underlying9;go_enter Tryz.func145,Tryz.ntmps145;go_wp2;refine wp_loop_rounds 5 ?_;iterate 5 (rw[rounds_succ];go_wp2_with fail)
         go_ret;exact⟨rfl,(blr).alloc nlr _⟩
theorem bstr_append(l m:List UInt8):bstr l++bstr m=bstr (l++m):=by
 unfold bstr;rw[ByteArray.mk_append_mk]
end Go.Proofs.YtmahgbhpdfbbjaaGreatDoor

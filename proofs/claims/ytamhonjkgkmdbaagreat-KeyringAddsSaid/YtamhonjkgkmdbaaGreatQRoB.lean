import Derived.Test.YtamhonjkgkmdbaaGreatQKyS
import Derived.Test.YtamhonjkgkmdbaaGreatQEncG
set_option linter.unusedVariables false
set_option linter.unusedSimpArgs false
namespace Go.Proofs.YtamhonjkgkmdbaaGreat
set_option maxRecDepth 100000
set_option maxHeartbeats 4000000
open Go.RowKit
def RetItK(ok:Nat→Prop)(x:It)(w:World)(e:Ending)(w':World):Prop:=∃ v,e=.returned v∧ItAt w' (fun b=>ok b∨w.heap.size≤b) v x∧Below w.heap.size w w'
theorem r08_ListK(l:List It)(A:Option Addr)(len cap:Nat)(w:World)(ok:Nat→Prop)(hM:l.length≤1000000000000)(hs:SlAt w ok A len cap l):Calls Tryz.prog 50 #[.slice A len cap] w (RetItK ok (.mk 2 ⟨#[]⟩ ⟨#[]⟩ l) w):=by
 have hlen:=hs.1;by_cases h0:len=0
 · subst h0;have hl:l=[]:=List.length_eq_zero_iff.1 hlen;subst hl;clear hlen hs hM
   cases A with
   | none =>
    go_enter Tryz.func50,Tryz.ntmps50;go_wp2;exact bodyPost_ret (v:=.agg #[.int .i64 2,.string ⟨#[]⟩,.string ⟨#[]⟩,.slice none 0 0]) (by simp[results,Tryz.results50,go_sem]) rfl ⟨_,rfl,⟨none,0,0,rfl,SlAt.nil _ _⟩,(Below.refl _ _).alloc (Nat.le_refl _) _⟩
   | some ad =>
    have hlc:=fun(w:World)=>(run_loadCells_list (P:=Tryz.prog) w ad [] (by intro j v hj;simp at hj));go_enter Tryz.func50,Tryz.ntmps50;go_wp2;exact bodyPost_ret (v:=.agg #[.int .i64 2,.string ⟨#[]⟩,.string ⟨#[]⟩,.slice none 0 0]) (by simp[results,Tryz.results50,go_sem]) rfl ⟨_,rfl,⟨none,0,0,rfl,SlAt.nil _ _⟩,(Below.refl _ _).alloc (Nat.le_refl _) _⟩
 · obtain⟨b,o,rfl⟩:=hs.head (by omega);obtain⟨vs,hrow,hc,ho⟩:∃ vs,RowV w ok vs l∧(∀ j u,vs[j]? =some u→w.cell? ⟨b,o+j,none⟩=some u)∧∀ u∈vs,u.oneCell'=true:=(by obtain⟨h1,h2,h3,b',o',h4,h5⟩:=hs;have:=(h4 (by omega)).1;simp only[Option.some.injEq,Addr.mk.injEq,and_true]at this;obtain⟨rfl,rfl⟩:=this;exact RowAt.vals l b o h5);obtain⟨i0,hi,hz0,hz1,hz2⟩:=info_parts item_info;have hvl:=hrow.length;have hlb:len≤1000000000000:=by omega
   have HLEN:=Hq hlen;have HS:=Hq hs;have HROW:=Hq hrow;have HC:=Hq hc;have HO:=Hq ho;have HVL:=Hq hvl;clear hlen hs hrow hc ho hvl;have hpos:0<len:=by omega
   clear h0;have hnews:∀ w':World,Below w.heap.size w w'→∀ j u,vs[j]? =some u→w'.cell? ((⟨b,o,none⟩:Addr).add j)=some u:=fun w' hb j u hj=>by
    have e:(⟨b,o,none⟩:Addr).add j=⟨b,o+j,none⟩:=by unfold Addr.add;split<;>simp_all
    rw[e];exact cell_kept hb (Nat.le_refl _) (HC.out j u hj)
   have HNEWS:=Hq hnews;clear hnews;go_enter Tryz.func50,Tryz.ntmps50;go_wp2_with (at_builtin;refine wpList_append_lies _ rfl (.tmp 4) (.tmp 5) 81 rfl (w.heap.size+1) 83 i0 _ 4 64 Tryz.underlying81 hi hz0 hz1 hz2 rfl (by decide) _ 0 [] rfl (World.ownsRow_nil _ _ _ _) ⟨b,o,none⟩ len cap vs rfl ?h1 ?h2 HO.out hpos ?h4 ?h5 ?h6 _ rfl ?_);case h1=>have:=HVL.out;have:=HLEN.out;omega
   case h2=>exact HNEWS.out _ ((Below.refl _ _).alloc (Nat.le_refl _) _)
   case h4=>unfold maxLen;omega
   case h5=>omega
   case h6=>simp
   intro g cap7 w7 hown7 hgrow7 hat7 hlt7;have hb7:Below w.heap.size w w7:=((Below.refl _ _).alloc (Nat.le_refl _) _).grown hgrow7 (by simp) (fun k e=>by cases e);have hres:w7.heap[w.heap.size]? =some (.cells #[.int .i64 0,.string ⟨#[]⟩,.string ⟨#[]⟩,.slice none 0 0] 83 (0,0)):=by
    rw[hgrow7.block _ (by simp) (fun e=>by cases e)];exact heap_alloc_new _ _
   have hfin:SlAt w7 (fun b=>(ok b∧b<w.heap.size)∨w.heap.size+1≤b) (some ⟨g,0,none⟩) len cap7 l:=by
    refine(RowV.slice (vs:=vs) (RowV.low (ok':=fun b=>(ok b∧b<w.heap.size)∨w.heap.size+1≤b) (fun b h=>.inl h) _ _ (RowV.keep (fun b h _=>?_) _ _ (RowV.bound _ _ HROW.out))) hown7 (fun g' e=>?_)).2
    · exact hb7.block b h.2
    · exact .inr (hown7.lt _ e).1
   obtain⟨rc0,rc1,rc2,rc3⟩:=four_cells hres;obtain⟨rf0,rf1,rf2,rf3⟩:=four_free hres;have HB7:=Hq hb7;have HRES:=Hq hres;have HFIN:=Hq hfin;clear hb7 hres hfin hown7 hgrow7 hat7 hlt7;go_wp2;have HE:=Hq (four_cells (set4_block HRES.out (.int .i64 2) (.string ⟨#[]⟩) (.string ⟨#[]⟩) (.slice (some ⟨g,0,none⟩) len cap7)));have HK:=Hq (HFIN.out.keep (w':=set4 w7 w.heap.size (.int .i64 2) (.string ⟨#[]⟩) (.string ⟨#[]⟩) (.slice (some ⟨g,0,none⟩) len cap7)) (fun b hb _=>set4_other _ _ _ _ (by rcases hb with h | h<;>omega)));have HBE:=Hq (set4_below (B:=w.heap.size) HB7.out (b:=w.heap.size) (Nat.le_refl _) (.int .i64 2) (.string ⟨#[]⟩) (.string ⟨#[]⟩) (.slice (some ⟨g,0,none⟩) len cap7));unfold set4 at HE HK HBE;obtain⟨wf,hwf⟩:∃ wf,(((w7.setCell ⟨w.heap.size,0,none⟩ (.int .i64 2)).setCell ⟨w.heap.size,1,none⟩ (.string ⟨#[]⟩)).setCell ⟨w.heap.size,2,none⟩ (.string ⟨#[]⟩)).setCell ⟨w.heap.size,3,none⟩ (.slice (some ⟨g,0,none⟩) len cap7)=wf:=⟨_,rfl⟩;rw[hwf]at HE HK HBE⊢;obtain⟨q0,q1,q2,q3⟩:=HE.out;exact bodyPost_ret (v:=.agg #[.int .i64 2,.string ⟨#[]⟩,.string ⟨#[]⟩,.slice (some ⟨g,0,none⟩) len cap7]) (by simp[results,Tryz.results50,go_sem,q0,q1,q2,q3]) rfl ⟨_,rfl,⟨_,_,_,rfl,HK.out.low (fun b hb=>hb.elim (fun h=>.inl h.1) (fun h=>.inr (by omega)))⟩,HBE.out⟩
theorem r58_items(l:List ByteArray)(A:Option Addr)(len cap:Nat)(w:World)(hs:SlN w A len cap l)(hl:len≤1000000):Calls Tryz.prog 52 #[.slice A len cap] w (RetIt (.mk 2 ⟨#[]⟩ ⟨#[]⟩ (l.map natIt)) w):=by
 obtain⟨W0,hW0⟩:∃ W0,w.alloc (.cells #[.int .i64 0,.string ⟨#[]⟩,.string ⟨#[]⟩,.slice none 0 0] 83)=W0:=⟨_,rfl⟩;have HR0:=Hq (show W0.heap[w.heap.size]? =some (.cells #[.int .i64 0,.string ⟨#[]⟩,.string ⟨#[]⟩,.slice none 0 0] 83 (0,0))from by rw[←hW0];exact heap_alloc_new _ _);have HB0:=Hq (show Below w.heap.size w W0 from by rw[←hW0];exact(Below.refl _ _).alloc (Nat.le_refl _) _);have hsz0:w.heap.size+1=W0.heap.size:=by rw[←hW0];simp
 have HS:=Hq (hs.kept HB0.out (Nat.le_refl _));have HLEN:=Hq hs.1;have HSZ0:=Hq hsz0;have hcap:=hs.2.1;have hcap2:=hs.2.2.1;clear hs hsz0;go_enter Tryz.func52,Tryz.ntmps52;go_wp2;try rw[hW0]
 clear hW0;go_loopw [3,4] (fun s i wr=>∃ j:Nat,j≤len∧i=.int .i64 j∧wr.ownsRow W0.heap.size 83 4 s j (itVals (l.take j))∧Below W0.heap.size W0 wr) (fun _ i _=>len - (intOf i).toNat);case atStart=>exact⟨0,Nat.zero_le _,rfl,World.ownsRow_nil _ _ _ _,Below.refl _ _⟩
 case round =>
  obtain⟨j,hj,rfl,hown,hbb⟩:=hrel;have HB:=Hq hbb;have HOWN:=Hq hown;clear hbb hown;by_cases hlt:j<len
  · obtain⟨a,he⟩:∃ a,l[j]? =some a:=⟨_,List.getElem?_eq_getElem (by rw[HLEN.out];exact hlt)⟩;obtain⟨b,o,rfl,e1⟩:=HS.out.cell he;have e2:=cell_kept HB.out (Nat.le_refl _) e1;have HE:=Hq he;clear he e1;go_wp2_with fail;refine(r08_NatV a _).mono ?_;rintro e w1 ⟨rfl,hb1⟩;have HO1:=Hq ((owns_kept HOWN.out hb1 (Nat.le_refl _)).alloc (.cells #[.int .i64 0,.string a,.string ⟨#[]⟩,.slice none 0 0] 83));have HB1:=Hq (HB.out.trans (hb1.mono HB.out.size));clear hb1 e2;obtain⟨i0,hi,hz0,hz1,hz2⟩:=info_parts item_info;go_wp2_with (at_builtin;refine wpList_append_lies _ rfl (.tmp 11) (.tmp 17) 81 rfl W0.heap.size 83 i0 _ 4 64 Tryz.underlying81 hi hz0 hz1 hz2 rfl (by decide) u3 j _ rfl HO1.out ⟨w1.heap.size,0,none⟩ 1 1 [.int .i64 0,.string a,.string ⟨#[]⟩,.slice none 0 0] rfl rfl (World.news_of_block (heap_alloc_new w1 (.cells #[.int .i64 0,.string a,.string ⟨#[]⟩,.slice none 0 0] 83))) ?hone (by decide) ?h63 ?hby ?hbase _ rfl ?_);case hone=>intro u hu;simp only[List.mem_cons,List.mem_nil_iff,or_false]at hu;rcases hu with rfl | rfl | rfl | rfl<;>rfl
    case h63=>unfold maxLen;omega
    case hby=>omega
    case hbase=>have:=HB1.out.size;simp;omega
    intro g cap7 w7 hown7 hgrow7 hat7 hlt7;have HO7:=Hq (show w7.ownsRow W0.heap.size 83 4 (.slice (some ⟨g,0,none⟩) (j+1) cap7) (j+1) (itVals (l.take (j+1)))from by
     rw[List.take_add_one,HE.out,Option.toList_some,itVals_snoc]
     exact hown7)
    have HB7:=Hq ((HB1.out.alloc HB1.out.size _).grown hgrow7 (by have:=HB1.out.size;simp;omega) (fun k hk=>(HO1.out.lt k hk).1));clear hown7 hgrow7 hat7 hlt7 hi hz0 hz1 hz2;go_wp2;go_roundw;case rel=>exact⟨j+1,by omega,by go_num,HO7.out,HB7.out⟩
    case measure=>simp[intOf];omega
  · obtain rfl:j=len:=by omega
    have hown:=HOWN.out;rw[←HLEN.out,List.take_length,HLEN.out]at hown;obtain⟨A2,m2,cap2,rfl⟩:∃ A2 m2 cap2,u3=.slice A2 m2 cap2:=by
     rcases hown.2 with⟨h,_⟩ | ⟨g,c,_,h,_⟩
     · exact⟨_,_,_,h⟩
     · exact⟨_,_,_,h⟩
    obtain⟨hm2,hsl⟩:=RowV.slice (itVals_row wr (fun b=>W0.heap.size≤b) l) hown (fun g e=>(hown.lt _ e).1);subst hm2;have HSL:=Hq hsl;have HN:=Hq (show (l.map natIt).length≤1000000000000 by rw[List.length_map,HLEN.out];omega);have HR:=Hq (block_kept HB.out (Nat.le_refl _) HR0.out);clear hown hsl hlt hj;go_wp2_with fail;refine(r08_ListK (l.map natIt) A2 m2 cap2 _ _ HN.out HSL.out).mono ?_;rintro e w1 ⟨v1,rfl,⟨A3,l3,c3,rfl,hs3⟩,hb1⟩;have hs3:=hs3.low (ok':=fun b=>W0.heap.size≤b) (fun b hb=>hb.elim id (fun h=>Nat.le_trans HB.out.size h));have hres:=block_kept hb1 (Nat.le_refl _) HR.out;have hwl:w.heap.size<wr.heap.size:=block_lt HR.out;obtain⟨rf0,rf1,rf2,rf3⟩:=four_free hres;obtain⟨rc0,rc1,rc2,rc3⟩:=four_cells hres;have HBB:=Hq (HB0.out.trans ((HB.out.trans (hb1.mono HB.out.size)).mono HB0.out.size));have HRES:=Hq hres;have HS3:=Hq hs3;clear hb1 hres hs3;go_wp2;have HE:=Hq (four_cells (set4_block HRES.out (.int .i64 2) (.string ⟨#[]⟩) (.string ⟨#[]⟩) (.slice A3 l3 c3)));have HK:=Hq (HS3.out.keep (w':=set4 w1 (w.heap.size) (.int .i64 2) (.string ⟨#[]⟩) (.string ⟨#[]⟩) (.slice A3 l3 c3)) (fun b hb _=>set4_other _ _ _ _ (by have:=HSZ0.out;omega)));have HBE:=Hq (set4_below HBB.out (b:=w.heap.size) (Nat.le_refl _) (.int .i64 2) (.string ⟨#[]⟩) (.string ⟨#[]⟩) (.slice A3 l3 c3));unfold set4 at HE HK HBE;simp only[It.kind,It.nat,It.text]at *;obtain⟨wf,hwf⟩:∃ wf,(((w1.setCell ⟨w.heap.size,0,none⟩ (.int .i64 2)).setCell ⟨w.heap.size,1,none⟩ (.string ⟨#[]⟩)).setCell ⟨w.heap.size,2,none⟩ (.string ⟨#[]⟩)).setCell ⟨w.heap.size,3,none⟩ (.slice A3 l3 c3)=wf:=⟨_,rfl⟩;rw[hwf]at HE HK HBE⊢;obtain⟨q0,q1,q2,q3⟩:=HE.out;exact bodyPost_ret (v:=.agg #[.int .i64 2,.string ⟨#[]⟩,.string ⟨#[]⟩,.slice A3 l3 c3]) (by simp[results,Tryz.results52,go_sem,q0,q1,q2,q3]) rfl ⟨_,rfl,⟨_,_,_,rfl,HK.out.low (fun b hb=>by have:=HSZ0.out;omega)⟩,HBE.out⟩
end Go.Proofs.YtamhonjkgkmdbaaGreat

import Derived.Test.YtmahgbhpdfbbjaaGreatDoorQCln
import Derived.Shelf.Spec.SlicesGrow
import Derived.Shelf.SlIter.Collect
import Derived.Deep.Upon
set_option linter.unusedVariables false
set_option linter.unusedSimpArgs false
namespace Go.Proofs.YtmahgbhpdfbbjaaGreatDoor
set_option maxRecDepth 100000
set_option maxHeartbeats 4000000
open Go.RowKit
theorem SlN.cell{w:World}{A:Option Addr}{n c:Nat}{l:List ByteArray}(h:SlN w A n c l){j:Nat}{s:ByteArray}(hj:l[j]? =some s):∃ b o,A=some ⟨b,o,none⟩∧w.cell? ⟨b,o+j,none⟩=some (.string s):=by
 have hl:=(List.getElem?_eq_some_iff.1 hj).1;obtain⟨b,o,rfl⟩:=h.head (by have:=h.1;omega);exact⟨b,o,rfl,h.get? j hj⟩
theorem SlN.new(w:World)(l:List ByteArray)(T:TypeId)(hl:l.length≤1000000):SlN (w.alloc (.cells (l.map Value.string).toArray T)) (some ⟨w.heap.size,0,none⟩) l.length l.length l:=by
 refine⟨rfl,Nat.le_refl _,by omega,w.heap.size,0,fun _=>rfl,fun k s hk=>?_⟩;rw[Lib.cell_of_heap (heap_alloc_new w _)];rw[List.getElem?_toArray,List.getElem?_map,Nat.zero_add,hk];rfl
theorem SlN.lt{w:World}{a:Addr}{n c:Nat}{l:List ByteArray}(h:SlN w (some a) n c l)(hn:0<n):a.block<w.heap.size:=by
 obtain⟨b,o,e⟩:=h.head hn;cases e;obtain⟨s,hs⟩:∃ s,l[0]? =some s:=⟨_,List.getElem?_eq_getElem (by rw[h.1];exact hn)⟩;have:=h.get? 0 hs;rcases Nat.lt_or_ge b w.heap.size with h1 | h1
 · exact h1
 · exfalso;unfold World.cell? at this;rw[Array.getElem?_eq_none h1]at this;simp at this
theorem SlN.of_blocks{w w':World}{A:Option Addr}{n c:Nat}{l:List ByteArray}(h:SlN w A n c l)(hb:0<n→∀ a,A=some a→w'.heap[a.block]? =w.heap[a.block]?):SlN w' A n c l:=by
 obtain⟨h1,h2,h3,b,o,h4,h5⟩:=h;refine⟨h1,h2,h3,b,o,h4,fun k s hk=>?_⟩;have hl:=(List.getElem?_eq_some_iff.1 hk).1;have:=hb (by omega) _ (h4 (by omega));have h6:=h5 k s hk;unfold World.cell? at h6⊢;simp only at this h6⊢;rw[this];exact h6
theorem enc_NatVe(a:ByteArray)(w:World):Calls Tryz.prog 89 #[.string a] w (Ret (.agg #[.int .i64 0,.string a,.string ⟨#[]⟩,.slice none 0 0]) w):=by
 go_enter Tryz.func89,Tryz.ntmps89;go_wp2;exact bodyPost_ret (v:=.agg #[.int .i64 0,.string a,.string ⟨#[]⟩,.slice none 0 0]) (by simp[results,Tryz.results89,go_sem]) rfl ⟨rfl,(blr).alloc nlr _⟩
theorem enc_TextVe(a:ByteArray)(w:World):Calls Tryz.prog 92 #[.string a] w (Ret (.agg #[.int .i64 1,.string ⟨#[]⟩,.string a,.slice none 0 0]) w):=by
 go_enter Tryz.func92,Tryz.ntmps92;go_wp2;exact bodyPost_ret (v:=.agg #[.int .i64 1,.string ⟨#[]⟩,.string a,.slice none 0 0]) (by simp[results,Tryz.results92,go_sem]) rfl ⟨rfl,(blr).alloc nlr _⟩
theorem ep_number(n:Nat)(w:World)(h:n<9223372036854775808):Calls Tryz.prog 88 #[.int .i64 n] w (Ret (.agg #[.int .i64 0,.string (bstr (encN n)),.string ⟨#[]⟩,.slice none 0 0]) w):=by
 have h1:(n:Int)%18446744073709551616=n:=by omega
 have H:=Hq h;clear h;obtain⟨W0,hW0⟩:=nm (w.alloc (.cells #[.int .i64 0,.string ⟨#[]⟩,.string ⟨#[]⟩,.slice none 0 0] 151));have hres0:W0.heap[w.heap.size]? =some (.cells #[.int .i64 0,.string ⟨#[]⟩,.string ⟨#[]⟩,.slice none 0 0] 151 (0,0)):=by rw[←hW0];exact heap_alloc_new _ _
 have hb0:Below w.heap.size w W0:=by rw[←hW0];exact(blr).alloc nlr _
 have HW0:=Hq hW0;have HR0:=Hq hres0;have HB0:=Hq hb0;clear hW0 hres0 hb0;go_enter Tryz.func88,Tryz.ntmps88;go_wp2_with fail;rw[HW0.out];refine(nat_Of n (by have:=H.out;omega) _).mono ?_;rintro e w1 ⟨rfl,hb1⟩;have HR1:=Hq (block_kept hb1 nlr HR0.out);have HB1:=bTr HB0 hb1;clear hb1;go_wp2_with fail;refine(enc_NatVe _ _).mono ?_;rintro e w2 ⟨rfl,hb2⟩;have hres:=block_kept hb2 nlr HR1.out;have HB2:=bTr HB1 hb2;obtain⟨rc0,rc1,rc2,rc3⟩:=four_cells hres;obtain⟨rf0,rf1,rf2,rf3⟩:=four_free hres;have HRES:=Hq hres;clear hb2 hres;go_wp2;have HE:=Hq (four_cells (set4_block HRES.out (.int .i64 0) (.string (bstr (encN n))) (.string ⟨#[]⟩) (.slice none 0 0)));have HBE:=Hq (set4_below HB2.out (b:=w.heap.size) nlr (.int .i64 0) (.string (bstr (encN n))) (.string ⟨#[]⟩) (.slice none 0 0));unfold set4 at HE HBE;obtain⟨wf,hwf⟩:=nm ((((w2.setCell ⟨w.heap.size,0,none⟩ (.int .i64 0)).setCell ⟨w.heap.size,1,none⟩ (.string (bstr (encN n)))).setCell ⟨w.heap.size,2,none⟩ (.string ⟨#[]⟩)).setCell ⟨w.heap.size,3,none⟩ (.slice none 0 0));rw[hwf]at HE HBE⊢;obtain⟨q0,q1,q2,q3⟩:=HE.out;exact bodyPost_ret (v:=.agg #[.int .i64 0,.string (bstr (encN n)),.string ⟨#[]⟩,.slice none 0 0]) (by simp[results,Tryz.results88,go_sem,q0,q1,q2,q3]) rfl ⟨rfl,HBE.out⟩
def natIt(a:ByteArray):It:=.mk 0 a ⟨#[]⟩ []
def itVals:List ByteArray→List Value
 | []=>[]
 | a::l=>[.int .i64 0,.string a,.string ⟨#[]⟩,.slice none 0 0]++itVals l
theorem itVals_snoc(l:List ByteArray)(a:ByteArray):itVals (l++[a])=itVals l++[.int .i64 0,.string a,.string ⟨#[]⟩,.slice none 0 0]:=by
 induction l with
 | nil=>rfl
 | cons b l ih=>simp[itVals,ih]
theorem itVals_row(w:World)(ok:Nat→Prop)(l:List ByteArray):RowV w ok (itVals l) (l.map natIt):=by
 have h:∀(k:Nat),RowV w ok (itVals (l.take k)) ((l.take k).map natIt):=by
  intro k
  induction k with
  | zero=>exact trivial
  | succ k ih =>
   rw[List.take_add_one]
   cases hk:l[k]? with
   | none=>simpa using ih
   | some a =>
    rw[Option.toList_some,itVals_snoc,List.map_append];exact RowV.snoc (x:=natIt a) (SlAt.nil w ok) _ _ ih
 have:=h l.length;rwa[List.take_length]at this
theorem natIt_nodes(l:List ByteArray):Its.nodes (l.map natIt)=l.length:=by
 induction l with
 | nil=>rfl
 | cons a l ih=>simp only[List.map_cons,Its.nodes,ih,natIt,It.nodes,List.length_cons];omega
theorem ep_list(l:List ByteArray)(A:Option Addr)(len cap:Nat)(w:World)(hs:SlN w A len cap l)(hl:len≤1000000):Calls Tryz.prog 93 #[.slice A len cap] w (RetIt (.mk 2 ⟨#[]⟩ ⟨#[]⟩ (l.map natIt)) w):=by
 obtain⟨W0,hW0⟩:=nm (w.alloc (.cells #[.int .i64 0,.string ⟨#[]⟩,.string ⟨#[]⟩,.slice none 0 0] 151));have HR0:=Hq (show W0.heap[w.heap.size]? =some (.cells #[.int .i64 0,.string ⟨#[]⟩,.string ⟨#[]⟩,.slice none 0 0] 151 (0,0))from by rw[←hW0];exact heap_alloc_new _ _);have HB0:=Hq (show Below w.heap.size w W0 from by rw[←hW0];exact(blr).alloc nlr _);have hsz0:w.heap.size+1=W0.heap.size:=by rw[←hW0];simp
 have HS:=Hq (hs.kept HB0.out nlr);have HLEN:=Hq hs.1;have HSZ0:=Hq hsz0;have hcap:=hs.2.1;have hcap2:=hs.2.2.1;clear hs hsz0;go_enter Tryz.func93,Tryz.ntmps93;go_wp2;try rw[hW0]
 clear hW0;go_loopw [3,8] (fun s i wr=>∃ j:Nat,j≤len∧i=.int .i64 j∧wr.ownsRow W0.heap.size 151 4 s j (itVals (l.take j))∧Below W0.heap.size W0 wr) (fun _ i _=>len - (intOf i).toNat);case atStart=>exact⟨0,Nat.zero_le _,rfl,World.ownsRow_nil _ _ _ _,Below.refl _ _⟩
 case round =>
  obtain⟨j,hj,rfl,hown,hbb⟩:=hrel;have HB:=Hq hbb;have HOWN:=Hq hown;clear hbb hown;by_cases hlt:j<len
  · obtain⟨a,he⟩:∃ a,l[j]? =some a:=⟨_,List.getElem?_eq_getElem (by rw[HLEN.out];exact hlt)⟩;obtain⟨b,o,rfl,e1⟩:=HS.out.cell he;have e2:=kc HB.out e1;have HE:=Hq he;clear he e1;go_wp2_with fail;refine(enc_NatVe a _).mono ?_;rintro e w1 ⟨rfl,hb1⟩;have HO1:=Hq ((owns_kept HOWN.out hb1 nlr).alloc (.cells #[.int .i64 0,.string a,.string ⟨#[]⟩,.slice none 0 0] 151));have HB1:=bTr HB hb1;clear hb1 e2;obtain⟨i0,hi,hz0,hz1,hz2⟩:=info_parts item_info;go_wp2_with (at_builtin;refine wpList_append_lies _ rfl (.tmp 12) (.tmp 15) 149 rfl W0.heap.size 151 i0 _ 4 64 Tryz.underlying149 hi hz0 hz1 hz2 rfl (by decide) u3 j _ rfl HO1.out ⟨w1.heap.size,0,none⟩ 1 1 [.int .i64 0,.string a,.string ⟨#[]⟩,.slice none 0 0] rfl rfl (World.news_of_block (heap_alloc_new w1 (.cells #[.int .i64 0,.string a,.string ⟨#[]⟩,.slice none 0 0] 151))) ?hone (by decide) ?h63 ?hby ?hbase _ rfl ?_);case hone=>intro u hu;simp only[List.mem_cons,List.mem_nil_iff,or_false]at hu;rcases hu with rfl | rfl | rfl | rfl<;>rfl
    case h63=>unfold maxLen;omega
    case hby=>omega
    case hbase=>have:=HB1.out.size;simp;omega
    intro g cap7 w7 hown7 hgrow7 hat7 hlt7;have HO7:=Hq (show w7.ownsRow W0.heap.size 151 4 (.slice (some ⟨g,0,none⟩) (j+1) cap7) (j+1) (itVals (l.take (j+1)))from by
     rw[List.take_add_one,HE.out,Option.toList_some,itVals_snoc]
     exact hown7)
    have HB7:=Hq ((HB1.out.alloc HB1.out.size _).grown hgrow7 (by have:=HB1.out.size;simp;omega) (fun k hk=>(HO1.out.lt k hk).1));clear hown7 hgrow7 hat7 hlt7 hi hz0 hz1 hz2;go_wp2;go_roundw;case rel=>exact⟨j+1,by omega,by go_num,HO7.out,HB7.out⟩
    case measure=>simp[intOf];omega
  · obtain rfl:j=len:=by omega
    have hown:=HOWN.out;rw[←HLEN.out,List.take_length,HLEN.out]at hown;obtain⟨A2,m2,cap2,rfl⟩:∃ A2 m2 cap2,u3=.slice A2 m2 cap2:=by
     rcases hown.2 with⟨h,_⟩ | ⟨g,c,_,h,_⟩
     · exact⟨_,_,_,h⟩
     · exact⟨_,_,_,h⟩
    obtain⟨hm2,hsl⟩:=RowV.slice (itVals_row wr (fun _=>True) l) hown (fun _ _=>trivial);subst hm2;have HSL:=Hq hsl;have hnn:=natIt_nodes l;have HN:=Hq (show Its.nodes (l.map natIt)≤1000000000000 by rw[hnn,HLEN.out];omega);have HR:=Hq (block_kept HB.out nlr HR0.out);clear hown hsl hlt hj hnn;go_wp2_with fail;refine(enc_List (l.map natIt) A2 m2 cap2 _ _ HN.out HSL.out).mono ?_;rintro e w1 ⟨v1,rfl,⟨A3,l3,c3,rfl,hs3⟩,hb1⟩;have hres:=block_kept hb1 nlr HR.out;have hwl:w.heap.size<wr.heap.size:=block_lt HR.out;obtain⟨rf0,rf1,rf2,rf3⟩:=four_free hres;obtain⟨rc0,rc1,rc2,rc3⟩:=four_cells hres;have HBB:=Hq (HB0.out.trans ((HB.out.trans (hb1.mono HB.out.size)).mono HB0.out.size));have HRES:=Hq hres;have HS3:=Hq hs3;clear hb1 hres hs3;go_wp2;have HE:=Hq (four_cells (set4_block HRES.out (.int .i64 2) (.string ⟨#[]⟩) (.string ⟨#[]⟩) (.slice A3 l3 c3)));have HK:=Hq (HS3.out.keep (w':=set4 w1 (w.heap.size) (.int .i64 2) (.string ⟨#[]⟩) (.string ⟨#[]⟩) (.slice A3 l3 c3)) (fun b hb _=>set4_other _ _ _ _ (by omega)));have HBE:=Hq (set4_below HBB.out (b:=w.heap.size) nlr (.int .i64 2) (.string ⟨#[]⟩) (.string ⟨#[]⟩) (.slice A3 l3 c3));unfold set4 at HE HK HBE;simp only[It.kind,It.nat,It.text]at *;obtain⟨wf,hwf⟩:=nm ((((w1.setCell ⟨w.heap.size,0,none⟩ (.int .i64 2)).setCell ⟨w.heap.size,1,none⟩ (.string ⟨#[]⟩)).setCell ⟨w.heap.size,2,none⟩ (.string ⟨#[]⟩)).setCell ⟨w.heap.size,3,none⟩ (.slice A3 l3 c3));rw[hwf]at HE HK HBE⊢;obtain⟨q0,q1,q2,q3⟩:=HE.out;exact bodyPost_ret (v:=.agg #[.int .i64 2,.string ⟨#[]⟩,.string ⟨#[]⟩,.slice A3 l3 c3]) (by simp[results,Tryz.results93,go_sem,q0,q1,q2,q3]) rfl ⟨_,rfl,⟨_,_,_,rfl,HK.out.low (fun b hb=>by omega)⟩,HBE.out⟩
set_option maxRecDepth 100000
set_option maxHeartbeats 1000000
open Go.RowKit
theorem canon_valid{s:ByteArray}(h:nvalid s=true):canon s.data.toList:=by
 unfold nvalid at h;rw[Bool.and_eq_true,Bool.not_eq_true',beq_eq_false_iff_ne]at h;exact h.2
theorem size_valid{s:ByteArray}(h:nvalid s=true):s.size≤128:=by
 unfold nvalid at h;rw[Bool.and_eq_true]at h;exact of_decide_eq_true h.1
theorem ordB_num{a b:ByteArray}(ha:nvalid a=true)(hb:nvalid b=true):ordB a b=cmpI (num a) (num b):=ordL_canon (canon_valid ha) (canon_valid hb)
theorem ncmp_num{a b:ByteArray}(ha:nvalid a=true)(hb:nvalid b=true):ncmp a b=cmpI (num a) (num b):=by
 unfold ncmp;rw[ha,hb];exact ordB_num ha hb
theorem cmpI_neg{a b:Nat}:cmpI a b<0↔a<b:=by
 unfold cmpI;split
 · simp_all
 · split<;>simp_all
theorem num_inj{a b:ByteArray}(ha:nvalid a=true)(hb:nvalid b=true)(h:num a=num b):a=b:=by
 have h1:=encN_bnat (canon_valid ha);have h2:=encN_bnat (canon_valid hb);have : a.data.toList=b.data.toList:=(by rw[←h1,←h2];exact congrArg encN h);exact ByteArray.ext (Array.toList_inj.1 this)
def ascB(l:List ByteArray):Bool:=(List.range l.length).all (fun k=>match l[k]?,l[k+1]? with
 | some a,some b=>decide (num a<num b)
 | _,_=>true)
theorem ascB_iff{l:List ByteArray}:ascB l=true↔∀(k:Nat) a b,l[k]? =some a→l[k+1]? =some b→num a<num b:=by
 unfold ascB;rw[List.all_eq_true];constructor
 · intro h k a b h1 h2;have:=h k (List.mem_range.2 (List.getElem?_eq_some_iff.1 h1).1);rw[h1,h2]at this;exact of_decide_eq_true this
 · intro h k _
   cases h1:l[k]? with
   | none=>rfl
   | some a =>
    cases h2:l[k+1]? with
    | none=>rfl
    | some b=>exact decide_eq_true (h k a b h1 h2)
theorem ascB_no{l:List ByteArray}{k:Nat}{a b:ByteArray}(h1:l[k]? =some a)(h2:l[k+1]? =some b)(h:¬ num a<num b):ascB l=false:=by
 cases h3:ascB l with
 | false=>rfl
 | true=>exact absurd (ascB_iff.1 h3 k a b h1 h2) h
theorem ep_ascends(l:List ByteArray)(A:Option Addr)(len cap:Nat)(w:World)(hs:SlN w A len cap l)(hv:∀ s∈l,nvalid s=true):Calls Tryz.prog 123 #[.slice A len cap] w (Ret (.bool (ascB l)) w):=by
 have HS:=Hq hs;have HV:=Hq hv;have HLEN:=Hq hs.1;have hcap:=hs.2.1;have hcap2:=hs.2.2.1;clear hs hv;go_enter Tryz.func123,Tryz.ntmps123;go_wp2;go_loopw [3] (fun i wr=>∃ k:Nat,(k+1≤len∨k=0)∧i=.int .i64 ((k:Int)+1)∧(∀(m:Nat) a b,m<k→l[m]? =some a→l[m+1]? =some b→num a<num b)∧Below w.heap.size w wr) (fun i _=>len+1 - (intOf i).toNat);case atStart=>exact⟨0,.inr rfl,rfl,fun m a b h=>absurd h (Nat.not_lt_zero _),Below.refl _ _⟩
 case round =>
  obtain⟨k,hk,rfl,hall,hbb⟩:=hrel;have HALL:=Hq hall;have HB:=Hq hbb;clear hall hbb;by_cases hlt:k+1<len
  · obtain⟨a,ha⟩:∃ a,l[k]? =some a:=⟨_,List.getElem?_eq_getElem (by rw[HLEN.out];omega)⟩;obtain⟨c,hc⟩:∃ c,l[k+1]? =some c:=⟨_,List.getElem?_eq_getElem (by rw[HLEN.out];exact hlt)⟩;have va:=HV.out a (List.mem_of_getElem? ha);have vc:=HV.out c (List.mem_of_getElem? hc);have hsa:=size_valid va;have hsc:=size_valid vc;obtain⟨b,o,rfl,e1⟩:=(HS.out.kept HB.out nlr).cell ha;obtain⟨_,_,e,e2⟩:=(HS.out.kept HB.out nlr).cell hc;cases e;have e1:wr.drew.cell? ⟨b,o+k,none⟩=some (.string a):=e1;have e2:wr.drew.cell? ⟨b,o+(k+1),none⟩=some (.string c):=e2;have HCM:=Hq (show ∀ w,Calls Tryz.prog 40 #[.string a,.string c] w (Ret (.int .i64 (cmpI (num a) (num c))) w)from fun w=>by
     have:=nat_Cmp a c (by omega) (by omega) w;rw[ncmp_num va vc]at this
     exact this.mono fun _ _ h=>⟨h.1,h.2▸Below.refl _ _⟩)
    have HA:=Hq ha;have HC:=Hq hc;have k1:(k:Int)+1 - 1=k:=by omega
    have k2:IntKind.i64.wrap (k:Int)=k:=by rw[IntKind.wrap_i64];omega
    have k3:k<len:=by omega
    have k4:(0:Int)≤(k:Int)+1:=by omega
    clear ha hc va vc hsa hsc;go_wp2;refine wp_region_K 11 (Below (wr.drew).heap.size (wr.drew)) (by kernel_rfl) ?_;refine qPDs 0 10 10 blr ?_;refine qPDs 1 11 9 blr ?_;refine qPDs 2 12 8 blr ?_;refine qPDs 3 13 7 blr ?_;refine qSDs 4 14 6 blr (fun w' hS'=>(And.intro (kc hS' e1) (kc hS' e2))) ?_;refine qPDs 5 15 5 blr ?_;refine qPDs 6 16 4 blr ?_;refine qPDs 7 17 3 blr ?_;refine qSDs 8 18 2 blr (fun w' hS'=>(And.intro (kc hS' e1) (kc hS' e2))) ?_;refine oO 9 1 ?_;intro K9 hK9;go_wp2_with fail;refine(HCM.out _).mono ?_;rintro e w1 ⟨rfl,hb⟩;have HL1:=Hq hb;go_wp2;refine hK9 _ _ (by exact hb) ?_;clear hK9;intro hS_4_9;refine qPDs 10 20 0 hS_4_9 ?_;refine wDn ?_;have HB1:=Hq (HB.out.trans (((Below.refl wr.heap.size wr).drew.trans HL1.out).mono HB.out.size));by_cases hlt2:num a<num c
    · have h0:cmpI (num a) (num c)<0:=cmpI_neg.2 hlt2;have HA2:=Hq (show ∀(m:Nat) a b,m<k+1→l[m]? =some a→l[m+1]? =some b→num a<num b from fun m x y hm hx hy=>by
       rcases Nat.lt_or_ge m k with h | h
       · exact HALL.out m x y h hx hy
       · obtain rfl:m=k:=by omega
         rw[HA.out]at hx;rw[HC.out]at hy;cases hx;cases hy
         exact hlt2)
      obtain⟨cc,hcc⟩:=nm (cmpI (num a) (num c));rw[hcc]at h0⊢;clear hcc hlt2;go_wp2;go_roundw;case rel=>exact⟨k+1,.inl (by omega),by go_num,HA2.out,HB1.out⟩
      case measure=>simp[intOf];omega
    · have h0:¬ (cmpI (num a) (num c)<0):=fun h=>hlt2 (cmpI_neg.1 h);have HF:=Hq (ascB_no HA.out HC.out hlt2);obtain⟨cc,hcc⟩:=nm (cmpI (num a) (num c));rw[hcc]at h0⊢;clear hcc hlt2;go_wp2;go_ret;exact⟨by rw[HF.out];rfl,HB1.out⟩
  · have HF:=Hq (show ascB l=true from ascB_iff.2 (fun m a b h1 h2=>HALL.out m a b (by have:=(List.getElem?_eq_some_iff.1 h2).1;rw[HLEN.out]at this;omega) h1 h2));clear hk;go_wp2;go_ret;exact⟨by rw[HF.out];rfl,HB.out⟩
end Go.Proofs.YtmahgbhpdfbbjaaGreatDoor
/-
 DERIVED: THE SHELF's CONTRACTS AT THIS DUMP, IN PLAIN WORDS (tools/lay-plain.mjs out of 'TryShel2.lean', which tools/lay-shelf.mjs wrote): THE SAME DECLARATIONS UNDER THE SAME NAMES: 'import', 'namespace', 'open', 'def', 'theorem' AND NOTHING ELSE: no command of the shelf's: FOR A HAND-IN. Each laying: the table of numbers ('.._ren') and one theorem, a field a fact of the dump's own or the kernel's comparison; each contract: ONE APPLICATION.
-/
namespace Go.Proofs
open Go.Shelf
def Tryz.growN_ren:Go.Shelf.Ren:=⟨fun | 4=>142 | n=>n,fun | 22=>25 | 25=>22 | 3=>3 | 4=>4 | 9=>9 | 20=>20 | 0=>0 | n=>n,fun | n=>n⟩
theorem Tryz.growN:Go.Proofs.Lays8.n4 Tryz.prog Tryz.growN_ren:={
 mixed:=by kernel_rfl
 f4:=⟨Tryz.f142.name,by decide,Tryz.func142.trans (congrArg some (by kernel_rfl))⟩
 t0:=Tryz.underlying0
 a0:=Tryz.isAgg0
 z0:=Tryz.sizeOf0
 v0:=Tryz.zeroValue0
 t3:=Tryz.underlying3
 a3:=Tryz.isAgg3
 z3:=Tryz.sizeOf3
 v3:=Tryz.zeroValue3
 t4:=Tryz.underlying4
 a4:=Tryz.isAgg4
 z4:=Tryz.sizeOf4
 v4:=Tryz.zeroValue4
 t9:=Tryz.underlying9
 a9:=Tryz.isAgg9
 z9:=Tryz.sizeOf9
 v9:=Tryz.zeroValue9
 t20:=Tryz.underlying20
 a20:=Tryz.isAgg20
 z20:=Tryz.sizeOf20
 v20:=Tryz.zeroValue20
 t22:=Tryz.underlying25
 a22:=Tryz.isAgg25
 z22:=Tryz.sizeOf25
 v22:=Tryz.zeroValue25 }
def Tryz.keysN_ren:Go.Shelf.Ren:=⟨fun | 7=>86 | 10=>121 | n=>n,fun | 23=>145 | 26=>22 | 3=>3 | 28=>131 | 0=>0 | 27=>130 | 33=>79 | 4=>4 | n=>n,fun | n=>n⟩
theorem Tryz.keysN:Go.Proofs.SlLaysZ.n7 Tryz.prog Tryz.keysN_ren:={
 mixed:=by kernel_rfl
 f7:=⟨Tryz.f86.name,by decide,Tryz.func86.trans (congrArg some (by kernel_rfl))⟩
 f10:=⟨Tryz.f121.name,by decide,Tryz.func121.trans (congrArg some (by kernel_rfl))⟩
 t0:=Tryz.underlying0
 a0:=Tryz.isAgg0
 z0:=Tryz.sizeOf0
 v0:=Tryz.zeroValue0
 t4:=Tryz.underlying4
 a4:=Tryz.isAgg4
 z4:=Tryz.sizeOf4
 v4:=Tryz.zeroValue4
 t23:=Tryz.underlying145
 a23:=Tryz.isAgg145
 z23:=Tryz.sizeOf145
 v23:=Tryz.zeroValue145
 t26:=Tryz.underlying22
 a26:=Tryz.isAgg22
 z26:=Tryz.sizeOf22
 v26:=Tryz.zeroValue22
 t27:=Tryz.underlying130
 a27:=Tryz.isAgg130
 z27:=Tryz.sizeOf130
 v27:=Tryz.zeroValue130
 t28:=Tryz.underlying131
 a28:=Tryz.isAgg131
 z28:=Tryz.sizeOf131
 v28:=Tryz.zeroValue131
 t33:=Tryz.underlying79
 a33:=Tryz.isAgg79
 z33:=Tryz.sizeOf79
 v33:=Tryz.zeroValue79 }
def Tryz.collectN_ren:Go.Shelf.Ren:=⟨fun | 8=>119 | 11=>139 | n=>n,fun | 26=>22 | 28=>131 | 24=>25 | 0=>0 | 33=>79 | 4=>4 | n=>n,fun | n=>n⟩
theorem Tryz.collectN:Go.Proofs.SlLaysZ.n8 Tryz.prog Tryz.collectN_ren:={
 mixed:=by kernel_rfl
 f8:=⟨Tryz.f119.name,by decide,Tryz.func119.trans (congrArg some (by kernel_rfl))⟩
 f11:=⟨Tryz.f139.name,by decide,Tryz.func139.trans (congrArg some (by kernel_rfl))⟩
 t0:=Tryz.underlying0
 a0:=Tryz.isAgg0
 z0:=Tryz.sizeOf0
 v0:=Tryz.zeroValue0
 t24:=Tryz.underlying25
 a24:=Tryz.isAgg25
 z24:=Tryz.sizeOf25
 v24:=Tryz.zeroValue25
 t26:=Tryz.underlying22
 a26:=Tryz.isAgg22
 z26:=Tryz.sizeOf22
 v26:=Tryz.zeroValue22
 t28:=Tryz.underlying131
 a28:=Tryz.isAgg131
 z28:=Tryz.sizeOf131
 v28:=Tryz.zeroValue131
 i26:=by kernel_rfl }
end Go.Proofs
namespace Go.Proofs.YtmahgbhpdfbbjaaGreatDoor
set_option maxRecDepth 100000
set_option maxHeartbeats 2000000
open Go.RowKit
theorem sl_Grow(n:Nat)(w:World)(hn:n≤2000000):Calls Tryz.prog 142 #[.slice none 0 0,.int .i64 n] w (fun e w'=>∃ v,e=.returned v∧w'.ownsRow w.heap.size 22 1 v 0 []∧Below w.heap.size w w'):=by
 rcases Nat.eq_zero_or_pos n with h0 | h0
 · subst h0;refine(show Calls Tryz.prog 142 _ _ _ from Any8.slices_Grow_room Tryz.growN none 0 0 0 w nlr (by omega) (by omega) (by omega)).mono ?_;rintro e w' ⟨rfl,rfl⟩;exact⟨_,rfl,World.ownsRow_nil _ _ _ _,Below.refl _ _⟩
 · obtain⟨i0,hi,hz0,hz1,hz2⟩:=info_parts nat_info;refine(show Calls Tryz.prog 142 _ _ _ from Any8.slices_Grow_grow Tryz.growN i0 _ hi hz0 (by rw[hz1];decide) none 0 0 n [] w nlr (by omega) (by rw[hz2];omega) (by omega) (by simp) (fun _=>rfl) (fun a h=>by cases h)).mono ?_;rintro e w' ⟨rfl,rfl⟩;have hge:=grownCap_ge w (0+n) 0 22;have hle:=grownCap_le_maxLen w (0+n) 0 22 (by unfold maxLen;omega);refine⟨_,rfl,World.ownsRow_made (base:=w.heap.size) w.drew _ _ nlr hle ?_,(blr).drew.alloc nlr _⟩;have hz:(Value.string ⟨#[]⟩).cells.size=1:=rfl;show (List.toArray []++Builtin.zeroCells (Value.string ⟨#[]⟩).cells (0+n - 0)++Builtin.zeroCells (Value.string ⟨#[]⟩).cells (grownCap w (0+n) 0 22 - (0+n))).size=grownCap w (0+n) 0 22 * 1;rw[Array.size_append,Array.size_append,size_zeroCells,size_zeroCells,hz];simp only[List.size_toArray,List.length_nil];omega
def cnt(n1 n2:Nat):Nat→Nat
 | 0=>0
 | 1=>n1
 | _+2=>n1+n2
def lst(l1 l2:List ByteArray):Nat→List ByteArray
 | 0=>[]
 | 1=>l1
 | _+2=>l1++l2
theorem sl_Concat(l1 l2:List ByteArray)(A1 A2:Option Addr)(n1 c1 n2 c2 g:Nat)(w:World)(h1:SlN w A1 n1 c1 l1)(h2:SlN w A2 n2 c2 l2)(hn1:n1≤1000000)(hn2:n2≤1000000)(g0:w.cell? ⟨g,0,none⟩=some (.slice A1 n1 c1))(g1:w.cell? ⟨g,1,none⟩=some (.slice A2 n2 c2)) :
 Calls Tryz.prog 122 #[.slice (some ⟨g,0,none⟩) 2 2] w (RetRow 22 1 (n1+n2) ((l1++l2).map Value.string) w):=by
 have H1:=Hq h1;have H2:=Hq h2;have hc1:=h1.2.1;have hc2:=h2.2.1;have hm1:=h1.2.2.1;have hm2:=h2.2.2.1;have G0:=Hq g0;have G1:=Hq g1;clear h1 h2 g0 g1;go_enter Tryz.func122,Tryz.ntmps122;go_wp2
 go_loop [3,11] (fun s i=>∃ j:Nat,j≤2∧i=.int .i64 j∧s=.int .i64 (cnt n1 n2 j)) (fun _ i=>2 - (intOf i).toNat)
 case atStart=>exact⟨0,by omega,rfl,rfl⟩
 case round =>
  obtain⟨j,hj,rfl,rfl⟩:=hrel
  match j,hj with
  | 0,_ =>
   have g0:=G0.out;simp only[cnt,Int.natCast_zero];go_wp2;go_round;case rel=>exact⟨1,by omega,by go_num,by simp only[cnt]⟩
   case measure=>simp[intOf]
  | 1,_ =>
   have g1:=G1.out;simp only[cnt];go_wp2;go_round;case rel=>exact⟨2,by omega,by go_num,by simp only[cnt];go_num⟩
   case measure=>simp[intOf]
  | 2,_ =>
   simp only[cnt];go_wp2_with fail;refine(sl_Grow (n1+n2) w (by omega)).mono ?_;rintro e w1 ⟨v,rfl,hown,hb⟩;have HO1:=Hq hown;have HB1:=Hq hb;clear hown hb;go_wp2;go_loopw [6,27] (fun v i wr=>∃ j:Nat,j≤2∧i=.int .i64 j∧wr.ownsRow w.heap.size 22 1 v (cnt n1 n2 j) ((lst l1 l2 j).map Value.string)∧Below w.heap.size w wr) (fun _ i _=>2 - (intOf i).toNat);case atStart=>exact⟨0,by omega,rfl,HO1.out,HB1.out⟩
   case round =>
    obtain⟨j,hj,rfl,hown,hbb⟩:=hrel;have HB:=Hq hbb;clear hbb
    match j,hj with
    | 0,_ =>
     have g0:=kc HB.out G0.out;simp only[Int.natCast_zero];have HA1:=Hq hown;clear hown
     cases A1 with
     | none =>
      have h0:n1=0:=by
       rcases Nat.eq_zero_or_pos n1 with h | h
       · exact h
       · obtain⟨b,o,e⟩:=H1.out.head h;cases e
      have hl:l1=[]:=List.length_eq_zero_iff.1 (by rw[H1.out.1,h0]);have H0:=Hq h0;have HL:=Hq hl;clear h0 hl;obtain⟨A6,m6,c6,hu6⟩:∃ A m c,u6=.slice A m c:=by
       rcases HA1.out.2 with⟨h,_⟩ | ⟨g,c,_,h,_⟩
       · exact⟨_,_,_,h⟩
       · exact⟨_,_,_,h⟩
      have hmc:m6≤c6:=by
       rcases HA1.out.2 with⟨h,_⟩ | ⟨g,c,_,h,_,_,h2,_⟩
       · rw[hu6]at h;cases h;exact Nat.le_refl _
       · rw[hu6]at h;cases h;exact h2
      obtain⟨i0,hi,iz0,iz1,iz2⟩:=info_parts nat_info;go_wp2_with (at_builtin;refine wpList_append_none _ rfl (.tmp 31) (.tmp 32) 25 rfl 22 i0 Tryz.underlying25 hi _ _ _ hu6 hmc c1 (congrArg (fun n=>Value.slice none n c1) H0.out) ?_);rw[←hu6];clear hu6;have HO7:=Hq (show wr.ownsRow w.heap.size 22 1 u6 (cnt n1 n2 (0+1)) ((lst l1 l2 (0+1)).map Value.string)from by have:=HA1.out;have h0:=H0.out;have hl:=HL.out;simp only[cnt,lst,hl,h0]at this⊢;simpa using this);have HB7:=Hq HB.out;clear hi iz0 iz1 iz2;go_wp2;go_roundw;case rel=>exact⟨0+1,by omega,by go_num,HO7.out,HB7.out⟩
      case measure=>simp[intOf]
     | some ad =>
      have HC:=Hq (H1.out.kept HB.out nlr).cells;have HV:=Hq (show (l1.map Value.string).length=n1 * 1 from by rw[List.length_map,H1.out.1,Nat.mul_one]);obtain⟨i0,hi,iz0,iz1,iz2⟩:=info_parts nat_info;go_wp2_with (at_builtin;refine wpList_append_own _ rfl (.tmp 31) (.tmp 32) 25 rfl w.heap.size 22 i0 _ 1 16 Tryz.underlying25 hi iz0 iz1 iz2 rfl (by decide) _ (cnt n1 n2 0) _ rfl HA1.out ad n1 c1 (l1.map Value.string) rfl ?h1 ?h2 (strs_one _) ?h4 ?h5 ?h6 ?_);case h1=>exact HV.out
      case h2=>exact HC.out
      case h4=>simp only[cnt];unfold maxLen;omega
      case h5=>simp only[cnt];omega
      case h6=>exact HB.out.size
      intro v' w' hown hgrow _;have HB7:=Hq (HB.out.grown hgrow HB.out.size (fun k hk=>(HA1.out.lt k hk).1));have HO7:=Hq (show w'.ownsRow w.heap.size 22 1 v' (cnt n1 n2 (0+1)) ((lst l1 l2 (0+1)).map Value.string)from by have:=hown;simp only[cnt,lst]at this⊢;simpa using this);clear hown hgrow hi iz0 iz1 iz2;go_wp2;go_roundw;case rel=>exact⟨0+1,by omega,by go_num,HO7.out,HB7.out⟩
      case measure=>simp[intOf]
    | 1,_ =>
     have g1:=kc HB.out G1.out;simp only[Int.natCast_one];have HA1:=Hq hown;clear hown
     cases A2 with
     | none =>
      have h0:n2=0:=by
       rcases Nat.eq_zero_or_pos n2 with h | h
       · exact h
       · obtain⟨b,o,e⟩:=H2.out.head h;cases e
      have hl:l2=[]:=List.length_eq_zero_iff.1 (by rw[H2.out.1,h0]);have H0:=Hq h0;have HL:=Hq hl;clear h0 hl;obtain⟨A6,m6,c6,hu6⟩:∃ A m c,u6=.slice A m c:=by
       rcases HA1.out.2 with⟨h,_⟩ | ⟨g,c,_,h,_⟩
       · exact⟨_,_,_,h⟩
       · exact⟨_,_,_,h⟩
      have hmc:m6≤c6:=by
       rcases HA1.out.2 with⟨h,_⟩ | ⟨g,c,_,h,_,_,h2,_⟩
       · rw[hu6]at h;cases h;exact Nat.le_refl _
       · rw[hu6]at h;cases h;exact h2
      obtain⟨i0,hi,iz0,iz1,iz2⟩:=info_parts nat_info;go_wp2_with (at_builtin;refine wpList_append_none _ rfl (.tmp 31) (.tmp 32) 25 rfl 22 i0 Tryz.underlying25 hi _ _ _ hu6 hmc c2 (congrArg (fun n=>Value.slice none n c2) H0.out) ?_);rw[←hu6];clear hu6;have HO7:=Hq (show wr.ownsRow w.heap.size 22 1 u6 (cnt n1 n2 (1+1)) ((lst l1 l2 (1+1)).map Value.string)from by have:=HA1.out;have h0:=H0.out;have hl:=HL.out;simp only[cnt,lst,hl,h0]at this⊢;simpa using this);have HB7:=Hq HB.out;clear hi iz0 iz1 iz2;go_wp2;go_roundw;case rel=>exact⟨1+1,by omega,by go_num,HO7.out,HB7.out⟩
      case measure=>simp[intOf]
     | some ad =>
      have HC:=Hq (H2.out.kept HB.out nlr).cells;have HV:=Hq (show (l2.map Value.string).length=n2 * 1 from by rw[List.length_map,H2.out.1,Nat.mul_one]);obtain⟨i0,hi,iz0,iz1,iz2⟩:=info_parts nat_info;go_wp2_with (at_builtin;refine wpList_append_own _ rfl (.tmp 31) (.tmp 32) 25 rfl w.heap.size 22 i0 _ 1 16 Tryz.underlying25 hi iz0 iz1 iz2 rfl (by decide) _ (cnt n1 n2 1) _ rfl HA1.out ad n2 c2 (l2.map Value.string) rfl ?h1 ?h2 (strs_one _) ?h4 ?h5 ?h6 ?_);case h1=>exact HV.out
      case h2=>exact HC.out
      case h4=>simp only[cnt];unfold maxLen;omega
      case h5=>simp only[cnt];omega
      case h6=>exact HB.out.size
      intro v' w' hown hgrow _;have HB7:=Hq (HB.out.grown hgrow HB.out.size (fun k hk=>(HA1.out.lt k hk).1));have HO7:=Hq (show w'.ownsRow w.heap.size 22 1 v' (cnt n1 n2 (1+1)) ((lst l1 l2 (1+1)).map Value.string)from by have:=hown;simp only[cnt,lst]at this⊢;simpa using this);clear hown hgrow hi iz0 iz1 iz2;go_wp2;go_roundw;case rel=>exact⟨1+1,by omega,by go_num,HO7.out,HB7.out⟩
      case measure=>simp[intOf]
    | 2,_ =>
     have HO:=Hq (show wr.ownsRow w.heap.size 22 1 u6 (n1+n2) ((l1++l2).map Value.string)from hown);clear hown;go_wp2;go_ret;exact⟨_,rfl,HO.out,HB.out⟩
end Go.Proofs.YtmahgbhpdfbbjaaGreatDoor

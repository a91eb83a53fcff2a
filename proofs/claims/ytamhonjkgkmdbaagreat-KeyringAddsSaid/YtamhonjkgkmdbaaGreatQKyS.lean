import Derived.Test.YtamhonjkgkmdbaaGreatQKyL
import Derived.Test.YtamhonjkgkmdbaaGreatQEncG
import Derived.Deep.AppendLies
import Derived.Test.YtamhonjkgkmdbaaGreatQEncB
import Derived.RangeFuncNested
import Derived.RangeFuncBound
import Derived.RangeFuncCalls
import Derived.RangeFuncLeaves
import Derived.RangeFuncFrom
import Derived.Shelf.Abstract
import Derived.Shelf.RegionOpen
import Derived.WalkKit
import Derived.OwnWalkIn
import Derived.TacticsInMore
import Derived.LoopNIn
import Derived.LoopIn
set_option linter.unusedVariables false
set_option linter.unusedSimpArgs false
namespace Go.Proofs.YtamhonjkgkmdbaaGreat
set_option maxRecDepth 100000
set_option maxHeartbeats 4000000
open Go.RowKit
theorem enc_NatV(a:ByteArray)(w:World):Calls Tryz.prog 38 #[.string a] w (Ret (.agg #[.int .i64 0,.string a,.string ⟨#[]⟩,.slice none 0 0]) w):=by
 go_enter Tryz.func38,Tryz.ntmps38;go_wp2;exact bodyPost_ret (v:=.agg #[.int .i64 0,.string a,.string ⟨#[]⟩,.slice none 0 0]) (by simp[results,Tryz.results38,go_sem]) rfl ⟨rfl,(Below.refl _ _).alloc (Nat.le_refl _) _⟩
theorem enc_TextV(a:ByteArray)(w:World):Calls Tryz.prog 41 #[.string a] w (Ret (.agg #[.int .i64 1,.string ⟨#[]⟩,.string a,.slice none 0 0]) w):=by
 go_enter Tryz.func41,Tryz.ntmps41;go_wp2;exact bodyPost_ret (v:=.agg #[.int .i64 1,.string ⟨#[]⟩,.string a,.slice none 0 0]) (by simp[results,Tryz.results41,go_sem]) rfl ⟨rfl,(Below.refl _ _).alloc (Nat.le_refl _) _⟩
theorem r08_NatV(a:ByteArray)(w:World):Calls Tryz.prog 51 #[.string a] w (Ret (.agg #[.int .i64 0,.string a,.string ⟨#[]⟩,.slice none 0 0]) w):=by
 go_enter Tryz.func51,Tryz.ntmps51;go_wp2;exact bodyPost_ret (v:=.agg #[.int .i64 0,.string a,.string ⟨#[]⟩,.slice none 0 0]) (by simp[results,Tryz.results51,go_sem]) rfl ⟨rfl,(Below.refl _ _).alloc (Nat.le_refl _) _⟩
theorem r08_TextV(a:ByteArray)(w:World):Calls Tryz.prog 54 #[.string a] w (Ret (.agg #[.int .i64 1,.string ⟨#[]⟩,.string a,.slice none 0 0]) w):=by
 go_enter Tryz.func54,Tryz.ntmps54;go_wp2;exact bodyPost_ret (v:=.agg #[.int .i64 1,.string ⟨#[]⟩,.string a,.slice none 0 0]) (by simp[results,Tryz.results54,go_sem]) rfl ⟨rfl,(Below.refl _ _).alloc (Nat.le_refl _) _⟩
theorem ky_small(n:Nat)(w:World)(h:n<9223372036854775808):Calls Tryz.prog 42 #[.int .i64 n] w (Ret (.agg #[.int .i64 0,.string (bstr (encN n)),.string ⟨#[]⟩,.slice none 0 0]) w):=by
 have h1:(n:Int)%18446744073709551616=n:=by omega
 have H:=Hq h;clear h;obtain⟨W0,hW0⟩:∃ W0,w.alloc (.cells #[.int .i64 0,.string ⟨#[]⟩,.string ⟨#[]⟩,.slice none 0 0] 83)=W0:=⟨_,rfl⟩;have hres0:W0.heap[w.heap.size]? =some (.cells #[.int .i64 0,.string ⟨#[]⟩,.string ⟨#[]⟩,.slice none 0 0] 83 (0,0)):=by rw[←hW0];exact heap_alloc_new _ _
 have hb0:Below w.heap.size w W0:=by rw[←hW0];exact(Below.refl _ _).alloc (Nat.le_refl _) _
 have HW0:=Hq hW0;have HR0:=Hq hres0;have HB0:=Hq hb0;clear hW0 hres0 hb0;go_enter Tryz.func42,Tryz.ntmps42;go_wp2_with fail;rw[HW0.out];refine(nat_Of n (by have:=H.out;omega) _).mono ?_;rintro e w1 ⟨rfl,hb1⟩;have HR1:=Hq (block_kept hb1 (Nat.le_refl _) HR0.out);have HB1:=Hq (HB0.out.trans (hb1.mono HB0.out.size));clear hb1;go_wp2_with fail;refine(enc_NatV _ _).mono ?_;rintro e w2 ⟨rfl,hb2⟩;have hres:=block_kept hb2 (Nat.le_refl _) HR1.out;have HB2:=Hq (HB1.out.trans (hb2.mono HB1.out.size));obtain⟨rc0,rc1,rc2,rc3⟩:=four_cells hres;obtain⟨rf0,rf1,rf2,rf3⟩:=four_free hres;have HRES:=Hq hres;clear hb2 hres;go_wp2;have HE:=Hq (four_cells (set4_block HRES.out (.int .i64 0) (.string (bstr (encN n))) (.string ⟨#[]⟩) (.slice none 0 0)));have HBE:=Hq (set4_below HB2.out (b:=w.heap.size) (Nat.le_refl _) (.int .i64 0) (.string (bstr (encN n))) (.string ⟨#[]⟩) (.slice none 0 0));unfold set4 at HE HBE;obtain⟨wf,hwf⟩:∃ wf,(((w2.setCell ⟨w.heap.size,0,none⟩ (.int .i64 0)).setCell ⟨w.heap.size,1,none⟩ (.string (bstr (encN n)))).setCell ⟨w.heap.size,2,none⟩ (.string ⟨#[]⟩)).setCell ⟨w.heap.size,3,none⟩ (.slice none 0 0)=wf:=⟨_,rfl⟩;rw[hwf]at HE HBE⊢;obtain⟨q0,q1,q2,q3⟩:=HE.out;exact bodyPost_ret (v:=.agg #[.int .i64 0,.string (bstr (encN n)),.string ⟨#[]⟩,.slice none 0 0]) (by simp[results,Tryz.results42,go_sem,q0,q1,q2,q3]) rfl ⟨rfl,HBE.out⟩
theorem r58_num(n:Nat)(w:World)(h:n<9223372036854775808):Calls Tryz.prog 55 #[.int .i64 n] w (Ret (.agg #[.int .i64 0,.string (bstr (encN n)),.string ⟨#[]⟩,.slice none 0 0]) w):=by
 have h1:(n:Int)%18446744073709551616=n:=by omega
 have H:=Hq h;clear h;obtain⟨W0,hW0⟩:∃ W0,w.alloc (.cells #[.int .i64 0,.string ⟨#[]⟩,.string ⟨#[]⟩,.slice none 0 0] 83)=W0:=⟨_,rfl⟩;have hres0:W0.heap[w.heap.size]? =some (.cells #[.int .i64 0,.string ⟨#[]⟩,.string ⟨#[]⟩,.slice none 0 0] 83 (0,0)):=by rw[←hW0];exact heap_alloc_new _ _
 have hb0:Below w.heap.size w W0:=by rw[←hW0];exact(Below.refl _ _).alloc (Nat.le_refl _) _
 have HW0:=Hq hW0;have HR0:=Hq hres0;have HB0:=Hq hb0;clear hW0 hres0 hb0;go_enter Tryz.func55,Tryz.ntmps55;go_wp2_with fail;rw[HW0.out];refine(r01_Of n (by have:=H.out;omega) _).mono ?_;rintro e w1 ⟨rfl,hb1⟩;have HR1:=Hq (block_kept hb1 (Nat.le_refl _) HR0.out);have HB1:=Hq (HB0.out.trans (hb1.mono HB0.out.size));clear hb1;go_wp2_with fail;refine(r08_NatV _ _).mono ?_;rintro e w2 ⟨rfl,hb2⟩;have hres:=block_kept hb2 (Nat.le_refl _) HR1.out;have HB2:=Hq (HB1.out.trans (hb2.mono HB1.out.size));obtain⟨rc0,rc1,rc2,rc3⟩:=four_cells hres;obtain⟨rf0,rf1,rf2,rf3⟩:=four_free hres;have HRES:=Hq hres;clear hb2 hres;go_wp2;have HE:=Hq (four_cells (set4_block HRES.out (.int .i64 0) (.string (bstr (encN n))) (.string ⟨#[]⟩) (.slice none 0 0)));have HBE:=Hq (set4_below HB2.out (b:=w.heap.size) (Nat.le_refl _) (.int .i64 0) (.string (bstr (encN n))) (.string ⟨#[]⟩) (.slice none 0 0));unfold set4 at HE HBE;obtain⟨wf,hwf⟩:∃ wf,(((w2.setCell ⟨w.heap.size,0,none⟩ (.int .i64 0)).setCell ⟨w.heap.size,1,none⟩ (.string (bstr (encN n)))).setCell ⟨w.heap.size,2,none⟩ (.string ⟨#[]⟩)).setCell ⟨w.heap.size,3,none⟩ (.slice none 0 0)=wf:=⟨_,rfl⟩;rw[hwf]at HE HBE⊢;obtain⟨q0,q1,q2,q3⟩:=HE.out;exact bodyPost_ret (v:=.agg #[.int .i64 0,.string (bstr (encN n)),.string ⟨#[]⟩,.slice none 0 0]) (by simp[results,Tryz.results55,go_sem,q0,q1,q2,q3]) rfl ⟨rfl,HBE.out⟩
def natIt(a:ByteArray):It:=.mk 0 a ⟨#[]⟩ []
def itVals:List ByteArray→List Value
 | []=>[]
 | a::l=>[.int .i64 0,.string a,.string ⟨#[]⟩,.slice none 0 0]++itVals l
theorem itVals_snoc(l:List ByteArray)(a:ByteArray):itVals (l++[a])=itVals l++[.int .i64 0,.string a,.string ⟨#[]⟩,.slice none 0 0]:=by
 induction l with
 | nil=>rfl
 | cons b l ih=>simp[itVals,ih]
theorem itVals_row(w:World)(ok:Nat→Prop)(l:List ByteArray):RowV w ok (itVals l) (l.map natIt):=by
 have h:∀(k:Nat),RowV w ok (itVals (l.take k)) ((l.take k).map natIt):=by
  intro k
  induction k with
  | zero=>exact trivial
  | succ k ih =>
   rw[List.take_add_one]
   cases hk:l[k]? with
   | none=>simpa using ih
   | some a =>
    rw[Option.toList_some,itVals_snoc,List.map_append];exact RowV.snoc (x:=natIt a) (SlAt.nil w ok) _ _ ih
 have:=h l.length;rwa[List.take_length]at this
theorem natIt_nodes(l:List ByteArray):Its.nodes (l.map natIt)=l.length:=by
 induction l with
 | nil=>rfl
 | cons a l ih=>simp only[List.map_cons,Its.nodes,ih,natIt,It.nodes,List.length_cons];omega
theorem ky_list(l:List ByteArray)(A:Option Addr)(len cap:Nat)(w:World)(hs:SlN w A len cap l)(hl:len≤1000000):Calls Tryz.prog 39 #[.slice A len cap] w (RetIt (.mk 2 ⟨#[]⟩ ⟨#[]⟩ (l.map natIt)) w):=by
 obtain⟨W0,hW0⟩:∃ W0,w.alloc (.cells #[.int .i64 0,.string ⟨#[]⟩,.string ⟨#[]⟩,.slice none 0 0] 83)=W0:=⟨_,rfl⟩;have HR0:=Hq (show W0.heap[w.heap.size]? =some (.cells #[.int .i64 0,.string ⟨#[]⟩,.string ⟨#[]⟩,.slice none 0 0] 83 (0,0))from by rw[←hW0];exact heap_alloc_new _ _);have HB0:=Hq (show Below w.heap.size w W0 from by rw[←hW0];exact(Below.refl _ _).alloc (Nat.le_refl _) _);have hsz0:w.heap.size+1=W0.heap.size:=by rw[←hW0];simp
 have HS:=Hq (hs.kept HB0.out (Nat.le_refl _));have HLEN:=Hq hs.1;have HSZ0:=Hq hsz0;have hcap:=hs.2.1;have hcap2:=hs.2.2.1;clear hs hsz0;go_enter Tryz.func39,Tryz.ntmps39;go_wp2;try rw[hW0]
 clear hW0;go_loopw [3,8] (fun s i wr=>∃ j:Nat,j≤len∧i=.int .i64 j∧wr.ownsRow W0.heap.size 83 4 s j (itVals (l.take j))∧Below W0.heap.size W0 wr) (fun _ i _=>len - (intOf i).toNat);case atStart=>exact⟨0,Nat.zero_le _,rfl,World.ownsRow_nil _ _ _ _,Below.refl _ _⟩
 case round =>
  obtain⟨j,hj,rfl,hown,hbb⟩:=hrel;have HB:=Hq hbb;have HOWN:=Hq hown;clear hbb hown;by_cases hlt:j<len
  · obtain⟨a,he⟩:∃ a,l[j]? =some a:=⟨_,List.getElem?_eq_getElem (by rw[HLEN.out];exact hlt)⟩;obtain⟨b,o,rfl,e1⟩:=HS.out.cell he;have e2:=cell_kept HB.out (Nat.le_refl _) e1;have HE:=Hq he;clear he e1;go_wp2_with fail;refine(enc_NatV a _).mono ?_;rintro e w1 ⟨rfl,hb1⟩;have HO1:=Hq ((owns_kept HOWN.out hb1 (Nat.le_refl _)).alloc (.cells #[.int .i64 0,.string a,.string ⟨#[]⟩,.slice none 0 0] 83));have HB1:=Hq (HB.out.trans (hb1.mono HB.out.size));clear hb1 e2;obtain⟨i0,hi,hz0,hz1,hz2⟩:=info_parts item_info;go_wp2_with (at_builtin;refine wpList_append_lies _ rfl (.tmp 12) (.tmp 15) 81 rfl W0.heap.size 83 i0 _ 4 64 Tryz.underlying81 hi hz0 hz1 hz2 rfl (by decide) u3 j _ rfl HO1.out ⟨w1.heap.size,0,none⟩ 1 1 [.int .i64 0,.string a,.string ⟨#[]⟩,.slice none 0 0] rfl rfl (World.news_of_block (heap_alloc_new w1 (.cells #[.int .i64 0,.string a,.string ⟨#[]⟩,.slice none 0 0] 83))) ?hone (by decide) ?h63 ?hby ?hbase _ rfl ?_);case hone=>intro u hu;simp only[List.mem_cons,List.mem_nil_iff,or_false]at hu;rcases hu with rfl | rfl | rfl | rfl<;>rfl
    case h63=>unfold maxLen;omega
    case hby=>omega
    case hbase=>have:=HB1.out.size;simp;omega
    intro g cap7 w7 hown7 hgrow7 hat7 hlt7;have HO7:=Hq (show w7.ownsRow W0.heap.size 83 4 (.slice (some ⟨g,0,none⟩) (j+1) cap7) (j+1) (itVals (l.take (j+1)))from by
     rw[List.take_add_one,HE.out,Option.toList_some,itVals_snoc]
     exact hown7)
    have HB7:=Hq ((HB1.out.alloc HB1.out.size _).grown hgrow7 (by have:=HB1.out.size;simp;omega) (fun k hk=>(HO1.out.lt k hk).1));clear hown7 hgrow7 hat7 hlt7 hi hz0 hz1 hz2;go_wp2;go_roundw;case rel=>exact⟨j+1,by omega,by go_num,HO7.out,HB7.out⟩
    case measure=>simp[intOf];omega
  · obtain rfl:j=len:=by omega
    have hown:=HOWN.out;rw[←HLEN.out,List.take_length,HLEN.out]at hown;obtain⟨A2,m2,cap2,rfl⟩:∃ A2 m2 cap2,u3=.slice A2 m2 cap2:=by
     rcases hown.2 with⟨h,_⟩ | ⟨g,c,_,h,_⟩
     · exact⟨_,_,_,h⟩
     · exact⟨_,_,_,h⟩
    obtain⟨hm2,hsl⟩:=RowV.slice (itVals_row wr (fun _=>True) l) hown (fun _ _=>trivial);subst hm2;have HSL:=Hq hsl;have hnn:=natIt_nodes l;have HN:=Hq (show Its.nodes (l.map natIt)≤1000000000000 by rw[hnn,HLEN.out];omega);have HR:=Hq (block_kept HB.out (Nat.le_refl _) HR0.out);clear hown hsl hlt hj hnn;go_wp2_with fail;refine(enc_List (l.map natIt) A2 m2 cap2 _ _ HN.out HSL.out).mono ?_;rintro e w1 ⟨v1,rfl,⟨A3,l3,c3,rfl,hs3⟩,hb1⟩;have hres:=block_kept hb1 (Nat.le_refl _) HR.out;have hwl:w.heap.size<wr.heap.size:=block_lt HR.out;obtain⟨rf0,rf1,rf2,rf3⟩:=four_free hres;obtain⟨rc0,rc1,rc2,rc3⟩:=four_cells hres;have HBB:=Hq (HB0.out.trans ((HB.out.trans (hb1.mono HB.out.size)).mono HB0.out.size));have HRES:=Hq hres;have HS3:=Hq hs3;clear hb1 hres hs3;go_wp2;have HE:=Hq (four_cells (set4_block HRES.out (.int .i64 2) (.string ⟨#[]⟩) (.string ⟨#[]⟩) (.slice A3 l3 c3)));have HK:=Hq (HS3.out.keep (w':=set4 w1 (w.heap.size) (.int .i64 2) (.string ⟨#[]⟩) (.string ⟨#[]⟩) (.slice A3 l3 c3)) (fun b hb _=>set4_other _ _ _ _ (by omega)));have HBE:=Hq (set4_below HBB.out (b:=w.heap.size) (Nat.le_refl _) (.int .i64 2) (.string ⟨#[]⟩) (.string ⟨#[]⟩) (.slice A3 l3 c3));unfold set4 at HE HK HBE;simp only[It.kind,It.nat,It.text]at *;obtain⟨wf,hwf⟩:∃ wf,(((w1.setCell ⟨w.heap.size,0,none⟩ (.int .i64 2)).setCell ⟨w.heap.size,1,none⟩ (.string ⟨#[]⟩)).setCell ⟨w.heap.size,2,none⟩ (.string ⟨#[]⟩)).setCell ⟨w.heap.size,3,none⟩ (.slice A3 l3 c3)=wf:=⟨_,rfl⟩;rw[hwf]at HE HK HBE⊢;obtain⟨q0,q1,q2,q3⟩:=HE.out;exact bodyPost_ret (v:=.agg #[.int .i64 2,.string ⟨#[]⟩,.string ⟨#[]⟩,.slice A3 l3 c3]) (by simp[results,Tryz.results39,go_sem,q0,q1,q2,q3]) rfl ⟨_,rfl,⟨_,_,_,rfl,HK.out.low (fun b hb=>by omega)⟩,HBE.out⟩
set_option maxRecDepth 100000
set_option maxHeartbeats 4000000
open Go.RowKit Go.Shelf
attribute [local go_sem] Oper.semAt_some
def Ver.ten(v:Ver):List ByteArray:=[v.km,v.ko,v.kz,v.ks,v.ku,v.kh,v.sm,v.so,v.sg,v.sy]
def Ver.nums(v:Ver):List ByteArray:=v.ten++v.kr
abbrev SzS:={ s:ByteArray // s.size≤9223372036854775807 }
def KpC(W W':World):Prop:=∀(b:Nat) (cs:Array Value) (T:TypeId) (fr:Nat×Nat),W.heap[b]? =some (.cells cs T fr)→W'.heap[b]? =some (.cells cs T fr)
theorem KpC.cell{W W':World}(h:KpC W W'){b k:Nat}{cs:Array Value}{T:TypeId}{fr:Nat×Nat}(hb:W.heap[b]? =some (.cells cs T fr)):W'.cell? ⟨b,k,none⟩=cs[k]?:=by
 rw[Lib.cell_of_heap (h b cs T fr hb)]
theorem SlN.kpc{W W':World}(h:KpC W W'){A:Option Addr}{n c:Nat}{l:List ByteArray}(hs:SlN W A n c l):SlN W' A n c l:=by
 obtain⟨h1,h2,h3,b,o,h4,h5⟩:=hs;refine⟨h1,h2,h3,b,o,h4,fun k s hk=>?_⟩;have h6:=h5 k s hk;unfold World.cell? at h6⊢;simp only at h6⊢
 cases hb:W.heap[b]? with
 | none=>rw[hb]at h6;simp at h6
 | some ob =>
  cases ob with
  | cells cs T fr=>rw[h b cs T fr hb];rw[hb]at h6;exact h6
  | _=>rw[hb]at h6;simp at h6
def Ver.sgn(v:Ver):Array Value:=#[.string v.sm,.string v.so,.string v.sg,.string v.sy]
theorem Ver.key_one(v:Ver)(A:Option Addr)(n c:Nat):(v.key (.slice A n c)).all (·.oneCell')=true:=by unfold Ver.key;simp[Value.oneCell']
theorem Ver.sgn_one(v:Ver):v.sgn.all (·.oneCell')=true:=by unfold Ver.sgn;simp[Value.oneCell']
theorem BxC.alloc{W:World}{B:Nat}{cs:Array Value}{T:TypeId}(h:BxC W B cs T)(o:Obj):BxC (W.alloc o) B cs T:=h.kept ((Below.refl _ _).alloc (Nat.le_refl _) o) h.lt
theorem BxC.row{W:World}{B C:Nat}{cs ds:Array Value}{T:TypeId}(h:BxC W B cs T)(hne:B≠C):BxC (W.setRow C ds) B cs T:=(setRow_other _ _ _ _ hne).trans h
theorem BxC.new1(W:World)(cs:Array Value)(T:TypeId)(o:Obj):BxC ((W.alloc o).alloc (.cells cs T)) (W.heap.size+1) cs T:=by
 have:=BxC.new (W.alloc o) cs T;rwa[World.size_alloc]at this
theorem grown_of_below{W W':World}(h:Below W.heap.size W W'):W.grownBy W' none:=⟨h.os,h.tape,h.output,h.size,fun k hk _=>h.block k hk⟩
theorem abides_below{β:Type}{B:Nat}{J:β→World→Prop}(hJ:AbidesFrom B J){s:β}{W W':World}(h:J s W)(hb:Below W.heap.size W W'):J s W':=hJ s W W' none h (grown_of_below hb) (fun r e=>by cases e)
theorem ten_index(v:Ver)(W:World)(j:Nat)(s:ByteArray)(h:v.ten[j]? =some s):(Instr.index 103 (.agg #[.string v.km,.string v.ko,.string v.kz,.string v.ks,.string v.ku,.string v.kh,.string v.sm,.string v.so,.string v.sg,.string v.sy]) (.int .i64 (j:Int))).run Tryz.prog W=.ok (.string s) W:=by
 have hl:j<10:=(List.getElem?_eq_some_iff.1 h).1;rcases(show j=0∨j=1∨j=2∨j=3∨j=4∨j=5∨j=6∨j=7∨j=8∨j=9 from by omega)with rfl | rfl | rfl | rfl | rfl | rfl | rfl | rfl | rfl | rfl<;>
 · cases h;show _=_;kernel_rfl
theorem KpC.refl(W:World):KpC W W:=fun _ _ _ _ h=>h
theorem KpC.trans{A B C:World}(h:KpC A B)(k:KpC B C):KpC A C:=fun b cs T fr hb=>k b cs T fr (h b cs T fr hb)
theorem numbers_stops(k:Nat)(hk:1≤k)(v:Ver)(A:Option Addr)(n c:Nat)(hz:SzL v.nums)(D:Nat)(w:World)(hD:BxC w D (v.arr (.slice A n c)) 36)(hS:SlN w A n c v.kr)(hn:n≤1000000) :
 SeqStopsK Fence.wide k Tryz.prog 60 #[.pointer (some ⟨D,0,none⟩)] (fun x:SzS=>#[Value.string x.val]) KpC (fun xs=>xs.map (·.val)=v.nums) (fun pre=>pre.map (·.val) <+: v.nums) v.nums.length w:=fun l J Jx W hW hJ hJx hY h0=>by
 have HD:=Hq (hD.kept hW hD.lt);have HS:=Hq (hS.kept hW (Nat.le_refl _));have x2:W.drew.cell? ⟨D,2,none⟩=some (.string v.kn):=HD.out.cell 2;have x3:W.drew.cell? ⟨D,3,none⟩=some (.string v.km):=HD.out.cell 3;have x4:W.drew.cell? ⟨D,4,none⟩=some (.string v.ko):=HD.out.cell 4;have x5:W.drew.cell? ⟨D,5,none⟩=some (.string v.kz):=HD.out.cell 5;have x6:W.drew.cell? ⟨D,6,none⟩=some (.string v.ks):=HD.out.cell 6;have x7:W.drew.cell? ⟨D,7,none⟩=some (.slice A n c):=HD.out.cell 7;have x8:W.drew.cell? ⟨D,8,none⟩=some (.string v.ku):=HD.out.cell 8;have x9:W.drew.cell? ⟨D,9,none⟩=some (.string v.kh):=HD.out.cell 9;have x10:W.drew.cell? ⟨D,10,none⟩=some (.string v.sm):=HD.out.cell 10;have x11:W.drew.cell? ⟨D,11,none⟩=some (.string v.so):=HD.out.cell 11;have x12:W.drew.cell? ⟨D,12,none⟩=some (.string v.sg):=HD.out.cell 12;have x13:W.drew.cell? ⟨D,13,none⟩=some (.string v.sy):=HD.out.cell 13;have HY:=Hq hY;have HJ:=Hq hJ;have HJ0:=Hq h0;have hDl:=HD.out.lt;clear hY hJ hJx h0 hW hD hS;refine callsIn_of_wp Tryz.func60 rfl trivial ?_ rfl;simp only[Tryz.ntmps60,List.size_toArray,List.length_cons,List.length_nil,Nat.reduceAdd,Nat.reduceSub,Array.replicate_succ,Array.replicate_zero,List.push_toArray,List.append_toArray,List.nil_append,List.cons_append];gi_wp2;rename_i K0 hK0;have rest:∀(P Q:Nat) (W7:World),BxC W7 P (v.key (.slice A n c)) 32→BxC W7 Q v.sgn 26→Below W.drew.heap.size W.drew W7→K0 { tmps:=#[.func (.yield l) #[] #[],.pointer (some ⟨D,0,none⟩),undef,.pointer (some ⟨P,0,none⟩),.pointer (some ⟨Q,0,none⟩),undef,undef,undef,undef,.pointer (some ⟨D,2,none⟩),.agg #[.string v.kn,.string v.km,.string v.ko,.string v.kz,.string v.ks,.slice A n c,.string v.ku,.string v.kh],.pointer (some ⟨D,10,none⟩),.agg #[.string v.sm,.string v.so,.string v.sg,.string v.sy],undef,undef,undef,undef,undef,undef,undef,undef,undef,undef,undef,undef,undef,undef,undef,undef,undef,undef,undef,undef,undef,undef,undef,undef,undef,undef,undef,undef,undef,undef,undef,undef,undef,undef,undef,undef,undef,undef,undef,undef,undef,undef,undef,undef,undef],defers:=[] } W7:=by
  intro P Q W7 hP hQ hL;have HP:=Hq hP;have HQ:=Hq hQ;have hbW:Below W.heap.size W W7:=((Below.refl _ _).drew).trans hL;have HJ7:=Hq (abides_below HJ.out HJ0.out hbW);have HS7:=Hq (HS.out.kept hbW (Nat.le_refl _));have p1:W7.cell? ⟨P,1,none⟩=some (.string v.km):=hP.cell 1;have p2:W7.cell? ⟨P,2,none⟩=some (.string v.ko):=hP.cell 2;have p3:W7.cell? ⟨P,3,none⟩=some (.string v.kz):=hP.cell 3;have p4:W7.cell? ⟨P,4,none⟩=some (.string v.ks):=hP.cell 4;have p6:W7.cell? ⟨P,6,none⟩=some (.string v.ku):=hP.cell 6;have p7:W7.cell? ⟨P,7,none⟩=some (.string v.kh):=hP.cell 7;have q0:W7.cell? ⟨Q,0,none⟩=some (.string v.sm):=hQ.cell 0;have q1:W7.cell? ⟨Q,1,none⟩=some (.string v.so):=hQ.cell 1;have q2:W7.cell? ⟨Q,2,none⟩=some (.string v.sg):=hQ.cell 2;have q3:W7.cell? ⟨Q,3,none⟩=some (.string v.sy):=hQ.cell 3;have HNL:=Hq (show v.nums.length=10+n from by unfold Ver.nums;rw[List.length_append,HS.out.1];rfl);have HZ:=Hq hz;clear hP hQ hbW hL x2 x3 x4 x5 x6 x7 x8 x9 x10 x11 x12 x13 hz;refine hK0 _ _ ?_;gi_wp2;clear p1 p2 p3 p4 p6 p7 q0 q1 q2 q3;gi_loopw [38] (fun i wr=>∃(j:Nat) (pre:List SzS),j≤10∧i=.int .i64 j∧pre.map (·.val)=v.ten.take j∧KpC W7 wr∧J pre wr) (fun i _=>10 - (intOf i).toNat);case atStart=>exact⟨0,[],by omega,rfl,rfl,KpC.refl _,HJ7.out⟩
  case round =>
   obtain⟨j,pre,hj,rfl,hpre,hkp,hJr⟩:=hrel;have HPRE:=Hq hpre;have HKP:=Hq hkp;have HJR:=Hq hJr;clear hpre hkp hJr;by_cases hlt:j<10
   · obtain⟨s,he⟩:∃ s,v.ten[j]? =some s:=⟨_,List.getElem?_eq_getElem (show j<10 from hlt)⟩;have hix:=fun W=>ten_index v W j s he;have hmem:s∈v.nums:=List.mem_append.2 (.inl (List.mem_of_getElem? he));have HSS:=Hq (HZ.out s hmem);have HPL:=Hq (show pre.length=j from by have:=congrArg List.length HPRE.out;rw[List.length_map,List.length_take,Nat.min_eq_left (show j≤v.ten.length from hj)]at this;exact this);have HLT:=Hq (show j<v.nums.length from by rw[HNL.out];omega);have HPN:=Hq (show (pre++[(⟨s,HSS.out⟩:SzS)]).map (·.val)=v.ten.take (j+1)from by rw[List.map_append,HPRE.out,List.take_add_one,he];rfl);have HPX:=Hq (show (pre++[(⟨s,HSS.out⟩:SzS)]).map (·.val) <+: v.nums from by rw[HPN.out];exact(List.take_prefix _ _).trans (List.prefix_append _ _));clear he hmem;obtain⟨fn,tmps,assign,body,hy,hR⟩:=HY.out pre ⟨s,HSS.out⟩ wr HJR.out (by rw[HPL.out];exact HLT.out);have HR:=Hq hR;clear hR;gi_wp2;refine HR.out.mono ?_;rintro ev W' (⟨rfl,hJ',hk'⟩ | ⟨rfl,hJx'⟩)
     · have HJ':=Hq hJ';have HK':=Hq (HKP.out.trans hk');clear hJ' hk';gi_wp2;go_roundw;case rel=>exact⟨j+1,pre++[⟨s,HSS.out⟩],by omega,by go_num,HPN.out,HK'.out,HJ'.out⟩
       case measure=>simp[intOf]<;>omega
     · have HX:=Hq hJx';clear hJx';gi_wp2;refine bodyPost_ret (results_none rfl _ _ _) rfl ?_;exact⟨⟨_,rfl⟩,.inr ⟨pre++[⟨s,HSS.out⟩],HPX.out,HX.out⟩⟩
   · obtain rfl:j=10:=by omega
     have z5:wr.cell? ⟨P,5,none⟩=some (.slice A n c):=KpC.cell HKP.out HP.out;have HPR:=Hq (show pre.map (·.val)=v.ten from HPRE.out);have hlt0:hlt=hlt:=rfl;have hJr:=HJR.out;have hkp:=HKP.out;clear hlt0 hlt hj;rw[show ((10:Nat):Int)=10 from rfl];gi_wp2;clear z5;gi_loopw [49] (fun i wr=>∃(j:Nat) (pre:List SzS),j≤n∧i=.int .i64 j∧pre.map (·.val)=v.ten++v.kr.take j∧KpC W7 wr∧J pre wr) (fun i _=>n - (intOf i).toNat);case atStart=>exact⟨0,pre,Nat.zero_le _,rfl,by rw[HPR.out];simp,hkp,hJr⟩
     case round =>
      clear hJr hkp HPR HPRE HKP HJR;obtain⟨j,pre,hj,rfl,hpre,hkp,hJr⟩:=hrel;have HPRE:=Hq hpre;have HKP:=Hq hkp;have HJR:=Hq hJr;clear hpre hkp hJr;by_cases hlt:j<n
      · obtain⟨s,he⟩:∃ s,v.kr[j]? =some s:=⟨_,List.getElem?_eq_getElem (by rw[HS7.out.1];exact hlt)⟩;obtain⟨b,o,rfl,e1⟩:=(SlN.kpc HKP.out HS7.out).cell he;have hmem:s∈v.nums:=List.mem_append.2 (.inr (List.mem_of_getElem? he));have HSS:=Hq (HZ.out s hmem);have HPL:=Hq (show pre.length=10+j from by have:=congrArg List.length HPRE.out;rw[List.length_map,List.length_append,List.length_take,Nat.min_eq_left (by rw[HS7.out.1];exact hj)]at this;exact this);have HLT:=Hq (show 10+j<v.nums.length from by rw[HNL.out];omega);have HPN:=Hq (show (pre++[(⟨s,HSS.out⟩:SzS)]).map (·.val)=v.ten++v.kr.take (j+1)from by rw[List.map_append,HPRE.out,List.take_add_one,he,List.append_assoc];rfl);have HPX:=Hq (show (pre++[(⟨s,HSS.out⟩:SzS)]).map (·.val) <+: v.nums from by
         rw[HPN.out]
         exact(List.prefix_append_right_inj _).2 (List.take_prefix _ _))
        clear he hmem;obtain⟨fn,tmps,assign,body,hy,hR⟩:=HY.out pre ⟨s,HSS.out⟩ wr HJR.out (by rw[HPL.out];exact HLT.out);have HR:=Hq hR;clear hR;gi_wp2;refine HR.out.mono ?_;rintro ev W' (⟨rfl,hJ',hk'⟩ | ⟨rfl,hJx'⟩)
        · have HJ':=Hq hJ';have HK':=Hq (HKP.out.trans hk');clear hJ' hk';gi_wp2;go_roundw;case rel=>exact⟨j+1,pre++[⟨s,HSS.out⟩],by omega,by go_num,HPN.out,HK'.out,HJ'.out⟩
          case measure=>simp[intOf]<;>omega
        · have HX:=Hq hJx';clear hJx';gi_wp2;refine bodyPost_ret (results_none rfl _ _ _) rfl ?_;exact⟨⟨_,rfl⟩,.inr ⟨pre++[⟨s,HSS.out⟩],HPX.out,HX.out⟩⟩
      · obtain rfl:j=n:=by omega
        have HPR:=Hq (show pre.map (·.val)=v.nums from by
         have:=HPRE.out;rw[←HS7.out.1,List.take_length]at this
         exact this)
        have hJr:=HJR.out;clear hlt hj;gi_wp2;go_end0;exact⟨⟨_,rfl⟩,.inl ⟨pre,HPR.out,hJr⟩⟩
 refine wpIn_wide.2 ?_;have HP6:=trivial;have HQ6:=trivial;refine wp_region_K 8 (Below (W.drew).heap.size (W.drew)) (by kernel_rfl) ?_;intro hD;refine qP 0 7 rfl hD (Below.refl _ _) ?_;clear hD;intro hD;simp only[Act.put,sqA,sqB,sqC];refine qS 1 6 rfl hD (Below.refl _ _) (by intro w' hS';have e0:=cell_kept hS' (Nat.le_refl _) x2;have e1:=cell_kept hS' (Nat.le_refl _) x3;have e2:=cell_kept hS' (Nat.le_refl _) x4;have e3:=cell_kept hS' (Nat.le_refl _) x5;have e4:=cell_kept hS' (Nat.le_refl _) x6;have e5:=cell_kept hS' (Nat.le_refl _) x7;have e6:=cell_kept hS' (Nat.le_refl _) x8;have e7:=cell_kept hS' (Nat.le_refl _) x9;have e8:=cell_kept hS' (Nat.le_refl _) x10;have e9:=cell_kept hS' (Nat.le_refl _) x11;have e10:=cell_kept hS' (Nat.le_refl _) x12;have e11:=cell_kept hS' (Nat.le_refl _) x13;go_simp;with_reducible rfl) ?_;clear hD;intro hD;simp only[Act.put,sqA,sqB,sqC];refine qP 2 5 rfl hD (Below.refl _ _) ?_;clear hD;intro hD;simp only[Act.put,sqA,sqB,sqC];refine qS 3 4 rfl hD (Below.refl _ _) (by intro w' hS';have e0:=cell_kept hS' (Nat.le_refl _) x2;have e1:=cell_kept hS' (Nat.le_refl _) x3;have e2:=cell_kept hS' (Nat.le_refl _) x4;have e3:=cell_kept hS' (Nat.le_refl _) x5;have e4:=cell_kept hS' (Nat.le_refl _) x6;have e5:=cell_kept hS' (Nat.le_refl _) x7;have e6:=cell_kept hS' (Nat.le_refl _) x8;have e7:=cell_kept hS' (Nat.le_refl _) x9;have e8:=cell_kept hS' (Nat.le_refl _) x10;have e9:=cell_kept hS' (Nat.le_refl _) x11;have e10:=cell_kept hS' (Nat.le_refl _) x12;have e11:=cell_kept hS' (Nat.le_refl _) x13;go_simp;with_reducible rfl) ?_;clear hD;intro hD;simp only[Act.put,sqA,sqB,sqC];refine wpAnyK_two (i:=4) (i':=5) (fuel:=3) (by kernel_rfl) rfl rfl hD ?_ ?_ 
 · unfold StepK;clear hD;intro K4 hK4;go_wp2;refine hK4 _ _ (by exact(Below.refl _ _).alloc (Nat.le_refl _) _) ?_;clear hK4;intro hS_0_4 hD;refine wpAnyK_one (i:=5) (fuel:=2) (by kernel_rfl) rfl hD ?_;clear hD;intro K5 hK5;go_wp2;refine hK5 _ _ (by exact Below.alloc hS_0_4 (Below.size hS_0_4) _) ?_;clear hK5;intro hS_0_5_4 hD;refine wpAnyK_one (i:=6) (fuel:=1) (by kernel_rfl) rfl hD ?_;clear hD;intro K6 hK6;first
   | (refine wpList_store_rowTo rfl 32 _ _ rfl rfl W.heap.size (v.key (.slice A n c)) rfl rfl 32 (ver0.key (.slice none 0 0)) (BxC.new W.drew (ver0.key (.slice none 0 0)) 32) (by kernel_rfl) rfl (v.key_one A n c) ?_
      have HP6:=Hq (show BxC ((W.drew.alloc (.cells (ver0.key (.slice none 0 0)) 32)).setRow W.heap.size (v.key (.slice A n c))) W.heap.size (v.key (.slice A n c)) 32 from setRow_heap _ _ _ _ _ _ (BxC.new W.drew (ver0.key (.slice none 0 0)) 32));have HQ6:=Hq (True.intro);have HL6:=Hq (show Below W.drew.heap.size W.drew ((W.drew.alloc (.cells (ver0.key (.slice none 0 0)) 32)).setRow W.heap.size (v.key (.slice A n c)))from below_setRow ((Below.refl _ _).alloc (Nat.le_refl _) _) (Nat.le_refl _) _);have hne6:=True.intro;show wpList _ _ _ _ _ ((W.drew.alloc (.cells (ver0.key (.slice none 0 0)) 32)).setRow W.heap.size (v.key (.slice A n c)))
      obtain⟨w6,hw6⟩:∃ w6,(W.drew.alloc (.cells (ver0.key (.slice none 0 0)) 32)).setRow W.heap.size (v.key (.slice A n c))=w6:=⟨_,rfl⟩)
   | (refine wpList_store_rowTo rfl 32 _ _ rfl rfl (W.heap.size + 1) (v.key (.slice A n c)) rfl rfl 32 (ver0.key (.slice none 0 0)) (BxC.new1 W.drew (ver0.key (.slice none 0 0)) 32 (.cells (ver0.sgn) 26)) (by kernel_rfl) rfl (v.key_one A n c) ?_
      have HP6:=Hq (show BxC (((W.drew.alloc (.cells (ver0.sgn) 26)).alloc (.cells (ver0.key (.slice none 0 0)) 32)).setRow (W.heap.size+1) (v.key (.slice A n c))) (W.heap.size+1) (v.key (.slice A n c)) 32 from setRow_heap _ _ _ _ _ _ (BxC.new1 W.drew (ver0.key (.slice none 0 0)) 32 (.cells (ver0.sgn) 26)));have HQ6:=Hq (show BxC (((W.drew.alloc (.cells (ver0.sgn) 26)).alloc (.cells (ver0.key (.slice none 0 0)) 32)).setRow (W.heap.size+1) (v.key (.slice A n c))) W.heap.size ver0.sgn 26 from(BxC.alloc (BxC.new W.drew ver0.sgn 26) _).row (show W.heap.size≠W.heap.size+1 from by omega));have HL6:=Hq (show Below W.drew.heap.size W.drew (((W.drew.alloc (.cells (ver0.sgn) 26)).alloc (.cells (ver0.key (.slice none 0 0)) 32)).setRow (W.heap.size+1) (v.key (.slice A n c)))from below_setRow (((Below.refl _ _).alloc (Nat.le_refl _) _).alloc (by simp) _) (Nat.le_succ _) _);have hne6:W.heap.size+1≠W.heap.size:=by omega
      show wpList _ _ _ _ _ (((W.drew.alloc (.cells (ver0.sgn) 26)).alloc (.cells (ver0.key (.slice none 0 0)) 32)).setRow (W.heap.size+1) (v.key (.slice A n c)))
      obtain⟨w6,hw6⟩:∃ w6,((W.drew.alloc (.cells (ver0.sgn) 26)).alloc (.cells (ver0.key (.slice none 0 0)) 32)).setRow (W.heap.size+1) (v.key (.slice A n c))=w6:=⟨_,rfl⟩)
   | (refine wpList_store_rowTo rfl 32 _ _ rfl rfl W.heap.size (v.key (.slice A n c)) rfl rfl 32 (ver0.key (.slice none 0 0)) (BxC.alloc (BxC.new W.drew (ver0.key (.slice none 0 0)) 32) (.cells (ver0.sgn) 26)) (by kernel_rfl) rfl (v.key_one A n c) ?_
      have HP6:=Hq (show BxC (((W.drew.alloc (.cells (ver0.key (.slice none 0 0)) 32)).alloc (.cells (ver0.sgn) 26)).setRow W.heap.size (v.key (.slice A n c))) W.heap.size (v.key (.slice A n c)) 32 from setRow_heap _ _ _ _ _ _ (BxC.alloc (BxC.new W.drew (ver0.key (.slice none 0 0)) 32) (.cells (ver0.sgn) 26)));have HQ6:=Hq (show BxC (((W.drew.alloc (.cells (ver0.key (.slice none 0 0)) 32)).alloc (.cells (ver0.sgn) 26)).setRow W.heap.size (v.key (.slice A n c))) (W.heap.size+1) ver0.sgn 26 from(BxC.new1 W.drew ver0.sgn 26 _).row (show W.heap.size+1≠W.heap.size from by omega));have HL6:=Hq (show Below W.drew.heap.size W.drew (((W.drew.alloc (.cells (ver0.key (.slice none 0 0)) 32)).alloc (.cells (ver0.sgn) 26)).setRow W.heap.size (v.key (.slice A n c)))from below_setRow (((Below.refl _ _).alloc (Nat.le_refl _) _).alloc (by simp) _) (Nat.le_refl _) _);have hne6:W.heap.size≠W.heap.size+1:=by omega
      show wpList _ _ _ _ _ (((W.drew.alloc (.cells (ver0.key (.slice none 0 0)) 32)).alloc (.cells (ver0.sgn) 26)).setRow W.heap.size (v.key (.slice A n c)))
      obtain⟨w6,hw6⟩:∃ w6,((W.drew.alloc (.cells (ver0.key (.slice none 0 0)) 32)).alloc (.cells (ver0.sgn) 26)).setRow W.heap.size (v.key (.slice A n c))=w6:=⟨_,rfl⟩)
   rw[hw6]at HP6 HL6⊢;try rw[hw6]at HQ6
   clear hw6;go_wp2;refine hK6 _ _ (by exact HL6.out) ?_;clear hK6;intro hS_0_6_4 hD;refine wpAnyK_one (i:=7) (fuel:=0) (by kernel_rfl) rfl hD ?_;clear hD;intro K7 hK7;first
   | (refine wpList_store_rowTo rfl 26 _ _ rfl rfl (W.heap.size + 1) v.sgn rfl rfl 26 ver0.sgn HQ6.out (by kernel_rfl) rfl v.sgn_one ?_
      have HP7:=Hq (HP6.out.row (C:=W.heap.size+1) (ds:=v.sgn) hne6);have HQ7:=Hq (show BxC _ _ v.sgn 26 from setRow_heap _ _ _ v.sgn _ _ HQ6.out)
      have HL7:=Hq (below_setRow HL6.out (g:=W.heap.size+1) (Nat.le_add_right _ _) v.sgn))
   | (refine wpList_store_rowTo rfl 26 _ _ rfl rfl (W.heap.size) v.sgn rfl rfl 26 ver0.sgn HQ6.out (by kernel_rfl) rfl v.sgn_one ?_
      have HP7:=Hq (HP6.out.row (C:=W.heap.size) (ds:=v.sgn) hne6);have HQ7:=Hq (show BxC _ _ v.sgn 26 from setRow_heap _ _ _ v.sgn _ _ HQ6.out)
      have HL7:=Hq (below_setRow HL6.out (g:=W.heap.size) (Nat.le_refl _) v.sgn))
   | (have hlt6 := HP6.out.lt
      refine wpList_store_rowTo rfl 26 _ _ rfl rfl w6.heap.size v.sgn rfl rfl 26 ver0.sgn (BxC.new w6 ver0.sgn 26) (by kernel_rfl) rfl v.sgn_one ?_;have HP7:=Hq ((HP6.out.alloc (.cells ver0.sgn 26)).row (C:=w6.heap.size) (ds:=v.sgn) (by omega));have HQ7:=Hq (show BxC _ _ v.sgn 26 from setRow_heap _ _ _ v.sgn _ _ (BxC.new w6 ver0.sgn 26))
      have HL7:=Hq (below_setRow (HL6.out.alloc HL6.out.size (.cells ver0.sgn 26)) (g:=w6.heap.size) HL6.out.size v.sgn))
   go_wp2;refine hK7 _ _ (by exact HL7.out) ?_;clear hK7;intro hS_0_7_4 hD;refine wpAnyK_done (by kernel_rfl) ?_ 0;clear hD;exact rest _ _ _ HP7.out HQ7.out HL7.out
 · unfold StepK;clear hD;intro K5 hK5;go_wp2;refine hK5 _ _ (by exact(Below.refl _ _).alloc (Nat.le_refl _) _) ?_;clear hK5;intro hS_0_5 hD;refine wpAnyK_one (i:=4) (fuel:=2) (by kernel_rfl) rfl hD ?_;clear hD;intro K4 hK4;go_wp2;refine hK4 _ _ (by exact Below.alloc hS_0_5 (Below.size hS_0_5) _) ?_;clear hK4;intro hS_0_4_5 hD;refine wpAnyK_one (i:=6) (fuel:=1) (by kernel_rfl) rfl hD ?_;clear hD;intro K6 hK6;first
   | (refine wpList_store_rowTo rfl 32 _ _ rfl rfl W.heap.size (v.key (.slice A n c)) rfl rfl 32 (ver0.key (.slice none 0 0)) (BxC.new W.drew (ver0.key (.slice none 0 0)) 32) (by kernel_rfl) rfl (v.key_one A n c) ?_
      have HP6:=Hq (show BxC ((W.drew.alloc (.cells (ver0.key (.slice none 0 0)) 32)).setRow W.heap.size (v.key (.slice A n c))) W.heap.size (v.key (.slice A n c)) 32 from setRow_heap _ _ _ _ _ _ (BxC.new W.drew (ver0.key (.slice none 0 0)) 32));have HQ6:=Hq (True.intro);have HL6:=Hq (show Below W.drew.heap.size W.drew ((W.drew.alloc (.cells (ver0.key (.slice none 0 0)) 32)).setRow W.heap.size (v.key (.slice A n c)))from below_setRow ((Below.refl _ _).alloc (Nat.le_refl _) _) (Nat.le_refl _) _);have hne6:=True.intro;show wpList _ _ _ _ _ ((W.drew.alloc (.cells (ver0.key (.slice none 0 0)) 32)).setRow W.heap.size (v.key (.slice A n c)))
      obtain⟨w6,hw6⟩:∃ w6,(W.drew.alloc (.cells (ver0.key (.slice none 0 0)) 32)).setRow W.heap.size (v.key (.slice A n c))=w6:=⟨_,rfl⟩)
   | (refine wpList_store_rowTo rfl 32 _ _ rfl rfl (W.heap.size + 1) (v.key (.slice A n c)) rfl rfl 32 (ver0.key (.slice none 0 0)) (BxC.new1 W.drew (ver0.key (.slice none 0 0)) 32 (.cells (ver0.sgn) 26)) (by kernel_rfl) rfl (v.key_one A n c) ?_
      have HP6:=Hq (show BxC (((W.drew.alloc (.cells (ver0.sgn) 26)).alloc (.cells (ver0.key (.slice none 0 0)) 32)).setRow (W.heap.size+1) (v.key (.slice A n c))) (W.heap.size+1) (v.key (.slice A n c)) 32 from setRow_heap _ _ _ _ _ _ (BxC.new1 W.drew (ver0.key (.slice none 0 0)) 32 (.cells (ver0.sgn) 26)));have HQ6:=Hq (show BxC (((W.drew.alloc (.cells (ver0.sgn) 26)).alloc (.cells (ver0.key (.slice none 0 0)) 32)).setRow (W.heap.size+1) (v.key (.slice A n c))) W.heap.size ver0.sgn 26 from(BxC.alloc (BxC.new W.drew ver0.sgn 26) _).row (show W.heap.size≠W.heap.size+1 from by omega));have HL6:=Hq (show Below W.drew.heap.size W.drew (((W.drew.alloc (.cells (ver0.sgn) 26)).alloc (.cells (ver0.key (.slice none 0 0)) 32)).setRow (W.heap.size+1) (v.key (.slice A n c)))from below_setRow (((Below.refl _ _).alloc (Nat.le_refl _) _).alloc (by simp) _) (Nat.le_succ _) _);have hne6:W.heap.size+1≠W.heap.size:=by omega
      show wpList _ _ _ _ _ (((W.drew.alloc (.cells (ver0.sgn) 26)).alloc (.cells (ver0.key (.slice none 0 0)) 32)).setRow (W.heap.size+1) (v.key (.slice A n c)))
      obtain⟨w6,hw6⟩:∃ w6,((W.drew.alloc (.cells (ver0.sgn) 26)).alloc (.cells (ver0.key (.slice none 0 0)) 32)).setRow (W.heap.size+1) (v.key (.slice A n c))=w6:=⟨_,rfl⟩)
   | (refine wpList_store_rowTo rfl 32 _ _ rfl rfl W.heap.size (v.key (.slice A n c)) rfl rfl 32 (ver0.key (.slice none 0 0)) (BxC.alloc (BxC.new W.drew (ver0.key (.slice none 0 0)) 32) (.cells (ver0.sgn) 26)) (by kernel_rfl) rfl (v.key_one A n c) ?_
      have HP6:=Hq (show BxC (((W.drew.alloc (.cells (ver0.key (.slice none 0 0)) 32)).alloc (.cells (ver0.sgn) 26)).setRow W.heap.size (v.key (.slice A n c))) W.heap.size (v.key (.slice A n c)) 32 from setRow_heap _ _ _ _ _ _ (BxC.alloc (BxC.new W.drew (ver0.key (.slice none 0 0)) 32) (.cells (ver0.sgn) 26)));have HQ6:=Hq (show BxC (((W.drew.alloc (.cells (ver0.key (.slice none 0 0)) 32)).alloc (.cells (ver0.sgn) 26)).setRow W.heap.size (v.key (.slice A n c))) (W.heap.size+1) ver0.sgn 26 from(BxC.new1 W.drew ver0.sgn 26 _).row (show W.heap.size+1≠W.heap.size from by omega));have HL6:=Hq (show Below W.drew.heap.size W.drew (((W.drew.alloc (.cells (ver0.key (.slice none 0 0)) 32)).alloc (.cells (ver0.sgn) 26)).setRow W.heap.size (v.key (.slice A n c)))from below_setRow (((Below.refl _ _).alloc (Nat.le_refl _) _).alloc (by simp) _) (Nat.le_refl _) _);have hne6:W.heap.size≠W.heap.size+1:=by omega
      show wpList _ _ _ _ _ (((W.drew.alloc (.cells (ver0.key (.slice none 0 0)) 32)).alloc (.cells (ver0.sgn) 26)).setRow W.heap.size (v.key (.slice A n c)))
      obtain⟨w6,hw6⟩:∃ w6,((W.drew.alloc (.cells (ver0.key (.slice none 0 0)) 32)).alloc (.cells (ver0.sgn) 26)).setRow W.heap.size (v.key (.slice A n c))=w6:=⟨_,rfl⟩)
   rw[hw6]at HP6 HL6⊢;try rw[hw6]at HQ6
   clear hw6;go_wp2;refine hK6 _ _ (by exact HL6.out) ?_;clear hK6;intro hS_0_6_5 hD;refine wpAnyK_one (i:=7) (fuel:=0) (by kernel_rfl) rfl hD ?_;clear hD;intro K7 hK7;first
   | (refine wpList_store_rowTo rfl 26 _ _ rfl rfl (W.heap.size + 1) v.sgn rfl rfl 26 ver0.sgn HQ6.out (by kernel_rfl) rfl v.sgn_one ?_
      have HP7:=Hq (HP6.out.row (C:=W.heap.size+1) (ds:=v.sgn) hne6);have HQ7:=Hq (show BxC _ _ v.sgn 26 from setRow_heap _ _ _ v.sgn _ _ HQ6.out)
      have HL7:=Hq (below_setRow HL6.out (g:=W.heap.size+1) (Nat.le_add_right _ _) v.sgn))
   | (refine wpList_store_rowTo rfl 26 _ _ rfl rfl (W.heap.size) v.sgn rfl rfl 26 ver0.sgn HQ6.out (by kernel_rfl) rfl v.sgn_one ?_
      have HP7:=Hq (HP6.out.row (C:=W.heap.size) (ds:=v.sgn) hne6);have HQ7:=Hq (show BxC _ _ v.sgn 26 from setRow_heap _ _ _ v.sgn _ _ HQ6.out)
      have HL7:=Hq (below_setRow HL6.out (g:=W.heap.size) (Nat.le_refl _) v.sgn))
   | (have hlt6 := HP6.out.lt
      refine wpList_store_rowTo rfl 26 _ _ rfl rfl w6.heap.size v.sgn rfl rfl 26 ver0.sgn (BxC.new w6 ver0.sgn 26) (by kernel_rfl) rfl v.sgn_one ?_;have HP7:=Hq ((HP6.out.alloc (.cells ver0.sgn 26)).row (C:=w6.heap.size) (ds:=v.sgn) (by omega));have HQ7:=Hq (show BxC _ _ v.sgn 26 from setRow_heap _ _ _ v.sgn _ _ (BxC.new w6 ver0.sgn 26))
      have HL7:=Hq (below_setRow (HL6.out.alloc HL6.out.size (.cells ver0.sgn 26)) (g:=w6.heap.size) HL6.out.size v.sgn))
   go_wp2;refine hK7 _ _ (by exact HL7.out) ?_;clear hK7;intro hS_0_7_5 hD;refine wpAnyK_done (by kernel_rfl) ?_ 0;clear hD;exact rest _ _ _ HP7.out HQ7.out HL7.out
end Go.Proofs.YtamhonjkgkmdbaaGreat

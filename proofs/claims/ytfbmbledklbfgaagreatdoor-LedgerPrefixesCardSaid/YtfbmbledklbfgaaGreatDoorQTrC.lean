import Derived.Test.YtfbmbledklbfgaaGreatDoorQDiv
set_option linter.unusedVariables false
set_option linter.unusedSimpArgs false
namespace Go.Proofs.YtfbmbledklbfgaaGreatDoor
set_option maxRecDepth 100000
set_option maxHeartbeats 4000000
open Go.RowKit
def SmE(l:List En):Prop:=∀(j:Nat) (e:En),l[j]? =some e→e.handle.size≤9223372036854775807∧e.schema.size≤9223372036854775807
theorem strL_info:(Tryz.prog.info? 9).map (fun i=>(i.zero,i.size,i.bytes))=some (some (.string ⟨#[]⟩),1,16):=by kernel_rfl
def RetMs(r:List ByteArray×Int)(w:World)(e:Ending)(w':World):Prop:=∃ A c,e=.returned (.tuple #[.slice A r.1.length c,.int .i64 r.2])∧SlN w' A r.1.length c r.1∧Below w.heap.size w w'
def msV(l:List En)(j:Nat):List Value:=((l.take j).map (fun e=>(msgS e).1)).map Value.string
theorem msV_snoc{l:List En}{j:Nat}{e:En}(he:l[j]? =some e):msV l (j+1)=msV l j++[.string (msgS e).1]:=by
 unfold msV;rw[List.take_add_one,he,Option.toList_some,List.map_append,List.map_append];rfl
theorem msV_full(l:List En):msV l l.length=(l.map (fun e=>(msgS e).1)).map Value.string:=by unfold msV;rw[List.take_length]
theorem led_messages(l:List En)(A:Option Addr)(len cap:Nat)(w:World)(hs:SlE w A len cap l)(hlen:len≤4096)(hsm:SmE l):Calls Tryz.prog 17 #[.slice A len cap] w (RetMs (msgsE l) w):=by
 have HLEN:=Hq hs.1;have hcap:=hs.2.1;have hcap2:=hs.2.2.1;have HS:=Hq hs;have HSM:=Hq hsm;clear hs hsm;go_enter Tryz.func17,Tryz.ntmps17;go_wp2;go_loopw [4,14] (fun s i wr=>∃ j:Nat,j≤len∧i=.int .i64 j∧(∀(k:Nat) y,k<j→l[k]? =some y→(msgS y).2=0)∧wr.ownsRow w.heap.size 9 1 s j (msV l j)∧Below w.heap.size w wr) (fun _ i _=>len - (RowKit.intOf i).toNat);case atStart=>exact⟨0,Nat.zero_le _,rfl,fun k y h=>absurd h (Nat.not_lt_zero _),World.ownsRow_nil _ _ _ _,Below.refl _ _⟩
 case round =>
  obtain⟨j,hj,rfl,hall,hown,hbb⟩:=hrel;have HALL:=Hq hall;have HOWN:=Hq hown;have HB:=Hq hbb;clear hall hown hbb;by_cases hlt:j<len
  · obtain⟨b,o,rfl⟩:=HS.out.head (by omega);obtain⟨x,he⟩:∃ x,l[j]? =some x:=⟨_,List.getElem?_eq_getElem (by rw[HLEN.out];exact hlt)⟩;have HE:=Hq he;obtain⟨c0,c1,c2,c3⟩:=(HS.out.kept HB.out nlr).get? j he;have HMG:=Hq (led_Message x (wr.alloc (.cells #[.int .i64 x.kind,.string x.handle,.string x.schema,.int .i64 x.epoch] 43)) (HSM.out j x he).1 (HSM.out j x he).2);have HB1:=Hq (show Below wr.heap.size wr (wr.alloc (.cells #[.int .i64 x.kind,.string x.handle,.string x.schema,.int .i64 x.epoch] 43))from(blr).alloc nlr _);have HBA:=Hq (HB.out.trans (HB1.out.mono HB.out.size));have HOA:=Hq (owns_kept HOWN.out HB1.out nlr);unfold En.val at HMG;obtain⟨r1,r2,hr⟩:∃ r1 r2,msgS x=(r1,r2):=⟨_,_,rfl⟩;have HMR:=Hq hr;rw[hr]at HMG;clear hr he;go_wp2_with fail;refine(show Calls _ _ _ _ _ from HMG.out).mono ?_;rintro ev w2 ⟨rfl,hb2⟩;have HB2:=Hq (HBA.out.trans (hb2.mono HBA.out.size));have HO2:=Hq (owns_kept HOA.out hb2 nlr);clear hb2;by_cases hz:r2=0
    · subst hz;have HAL:=Hq (show ∀(i:Nat) y,i<j+1→l[i]? =some y→(msgS y).2=0 from fun i y hi hy=>by
       rcases Nat.lt_or_ge i j with a | a
       · exact HALL.out i y a hy
       · obtain rfl:i=j:=by omega
         rw[HE.out]at hy;cases hy
         rw[HMR.out])
      obtain⟨i0,hi,iz0,iz1,iz2⟩:=info_parts strL_info;have HO3:=Hq (HO2.out.alloc (.cells #[.string r1] 9));have HB3:=Hq (HB2.out.alloc HB2.out.size (.cells #[.string r1] 9));have HN3:=Hq (heap_alloc_new w2 (.cells #[.string r1] 9));go_wp2_with (at_builtin;refine(wpList_append_lies _ rfl (.tmp 26) (.tmp 28) 41 rfl w.heap.size 9 i0 _ 1 16 Tryz.underlying41 hi iz0 iz1 iz2 rfl (by decide) _ j (msV l j) rfl HO3.out ⟨w2.heap.size,0,none⟩ 1 1 [.string r1] rfl rfl (World.news_of_block HN3.out) ?n2 (by decide) ?n3 ?n4 HB3.out.size _ rfl ?_));case n2=>intro u hu;simp only[List.mem_cons,List.mem_nil_iff,or_false]at hu;subst hu;rfl
      case n3=>unfold maxLen;omega
      case n4=>omega
      intro g cap7 w7 hown7 hgrow7 hat7 hlt7;have HB7:=Hq (HB3.out.grown hgrow7 HB3.out.size (fun k e=>(HO3.out.lt k e).1));have HO7:=Hq (show w7.ownsRow w.heap.size 9 1 _ (j+1) (msV l (j+1))from by rw[msV_snoc HE.out,HMR.out];exact hown7);clear hown7 hgrow7 hat7 hlt7 hi iz0 iz1 iz2;go_wp2;go_roundw;case rel=>exact⟨j+1,by omega,by go_num,HAL.out,HO7.out,HB7.out⟩
      case measure=>simp[RowKit.intOf];omega
    · have hne:(r2 != 0)=true:=by simp[hz]
      have HR:=Hq (show msgsE l=([],r2)from by
       have:=msgsE_bad HE.out (by rw[HMR.out];exact hz) (fun i y hi hy=>HALL.out i y hi hy)
       rw[this,HMR.out])
      go_wp2;go_ret2;exact⟨none,0,by rw[HR.out];rfl,by rw[HR.out];exact SlN.nil _ 0 (by omega) _,HB2.out⟩
  · skip;obtain rfl:j=len:=by omega
    have HR:=Hq (msgsE_good (l:=l) (fun i y hy=>HALL.out i y (by have:=(List.getElem?_eq_some_iff.1 hy).1;have:=HLEN.out;omega) hy));have HOL:=Hq (show wr.ownsRow w.heap.size 9 1 u4 j ((l.map (fun e=>(msgS e).1)).map Value.string)from by have:=HOWN.out;rw[show msV l j=msV l l.length from by rw[HLEN.out],msV_full]at this;exact this);clear hlt hj;go_wp2;go_ret2;obtain⟨hl7,A7,c7,e7,hs7⟩:=SlN.of_owns HOL.out;subst e7;exact⟨A7,c7,by rw[HR.out];show Ending.returned (.tuple #[.slice A7 j c7,.int .i64 0])=.returned (.tuple #[.slice A7 (l.map (fun e=>(msgS e).1)).length c7,.int .i64 0]);rw[List.length_map,HLEN.out],by rw[HR.out];show SlN _ A7 (l.map (fun e=>(msgS e).1)).length c7 (l.map (fun e=>(msgS e).1));rw[List.length_map,HLEN.out];exact hs7,HB.out⟩
def ptL(l:List (List UInt8)):List UInt8:=l.flatMap fun s=>shE8 s.length++s
def frL(k:UInt8)(l:List (List UInt8)):List UInt8:=k::shE8 l.length++ptL l
def trH(k:UInt8)(l:List (List UInt8)):List UInt8:=shaL (frL k l)
theorem ptL_snoc(l:List (List UInt8))(s:List UInt8):ptL (l++[s])=ptL l++shE8 s.length++s:=by simp[ptL]
theorem ptL_length(l:List (List UInt8)):(ptL l).length=8 * l.length+(l.map List.length).sum:=by
 induction l with
 | nil=>rfl
 | cons a l ih=>simp only[ptL,List.flatMap_cons,List.length_append,List.map_cons,List.sum_cons,List.length_cons]at ih⊢;rw[ih];simp[shE8];omega
theorem trH_length(k:UInt8)(l:List (List UInt8)):(trH k l).length=32:=shaL_length _
theorem sum_le_all{l:List (List UInt8)}{m:Nat}(h:∀ s∈l,s.length≤m):(l.map List.length).sum≤l.length * m:=by
 induction l with
 | nil=>simp
 | cons a l ih =>
  have h1:=h a (by simp);have h2:=ih fun s hs=>h s (by simp[hs]);simp only[List.map_cons,List.sum_cons,List.length_cons,Nat.succ_mul];omega
def chL(st:List UInt8)(n q:Nat):Nat:=bnat ((trH 67 [st,shE8 0]).take (n+8))%q
def snL(M O G Y r msg:List UInt8):List UInt8:=
 trH 65 [trH 76 [trH 76 [trH 78 [[115,99,104,110,111,114,114,32,115,105,103,110,97,116,117,114,101]],[107,101,121],M,O,G,Y],[99,111,109,109,105,116,109,101,110,116],r],[109,101,115,115,97,103,101],msg]
def chS(M O G Y:ByteArray)(r:Nat)(msg:ByteArray):Nat:=
 chL (snL M.data.toList O.data.toList G.data.toList Y.data.toList (nS r).data.toList msg.data.toList) O.size (num O)
set_option maxRecDepth 100000
set_option maxHeartbeats 2000000
def KeepS(w w':World):Prop:=∀(g:Nat) (cs:Array Value) (fr:Nat×Nat),w.heap[g]? =some (.cells cs 9 fr)→w'.heap[g]? =some (.cells cs 9 fr)
theorem KeepS.refl(w:World):KeepS w w:=fun _ _ _ h=>h
theorem KeepS.trans{a b c:World}(h:KeepS a b)(k:KeepS b c):KeepS a c:=fun g cs fr e=>k g cs fr (h g cs fr e)
theorem KeepS.below{w w':World}(h:Below w.heap.size w w'):KeepS w w':=fun g cs fr e=>(h.block g (block_lt e)).trans e
theorem KeepS.set{w:World}{b k:Nat}{cs:Array Value}{T:TypeId}{fr:Nat×Nat}(hb:w.heap[b]? =some (.cells cs T fr))(hT:T≠9)(v:Value):KeepS w (w.setCell ⟨b,k,none⟩ v):=fun g cs' fr' e=>by
 have hne:g≠b:=fun h=>by
  subst h;rw[hb]at e;simp only[Option.some.injEq,Obj.cells.injEq]at e;exact hT e.2.1
 exact(heap_setCell_other _ _ _ _ hne).trans e
theorem frb_lies:liesAt Tryz.prog Tryz.prog.depth 169 (2 / Tryz.prog.cellsOf 169) 0 141 1=true:=by kernel_rfl
theorem frb_check_fresh(b:Nat)(w:World)(h0:w.cell? ⟨b,0,none⟩=some (.pointer none))(hsh:w.shape? b=some (169,2))(hfz:w.frozen? ⟨b,0,none⟩=false) :
 Calls Tryz.prog 113 #[.pointer (some ⟨b,0,none⟩)] w fun e w'=>e=.returned (.tuple #[])∧w.setCell ⟨b,0,none⟩ (.pointer (some ⟨b,0,none⟩))=w':=by
 obtain⟨j,hj,hjs⟩:=Option.map_eq_some_iff.1 bld_size;go_enter Tryz.func113,Tryz.ntmps113;go_wp2;rw[Lib.run_to_unsafe w ⟨b,0,none⟩ Tryz.underlying139 Tryz.underlying201 hj (by rw[hjs];decide) hsh (Nat.zero_lt_succ 1)];simp only[Result.andThen];rw[Oper.upon_value];go_wp2;rw[run_callFunc_extern Tryz.func134 (by kernel_rfl) (by kernel_rfl) (by kernel_rfl) (e:=Extern.AbiNoEscape.same) (by kernel_rfl)];rw[Lib.run_noEscape];simp only[Result.andThen];rw[Oper.upon_value];go_wp2;rw[Lib.run_from_unsafe w ⟨b,0,none⟩ Tryz.underlying201 Tryz.underlying139 hj hsh frb_lies];simp only[Result.andThen];rw[Oper.upon_value];go_wp2;go_end0;exact⟨rfl,rfl⟩
theorem frb_check(B b:Nat)(bs:List Value)(w:World)(h:Lib.IsBuilder 169 5 B b bs w) :
 Calls Tryz.prog 113 #[.pointer (some ⟨b,0,none⟩)] w fun e w'=>e=.returned (.tuple #[])∧(Lib.BuilderAt 169 5 B b (.pointer (some ⟨b,0,none⟩)) bs w'∧Below B w w'∧KeepS w w'):=by
 rcases h with h | h
 · refine(frb_check_fresh b w h.cell0 h.shape h.frozen0).mono ?_;rintro e w' ⟨rfl,rfl⟩;exact⟨rfl,h.used _,(Below.refl B w).setCell (p:=⟨b,0,none⟩) h.1 _,by obtain⟨_,_,hb,_⟩:=h;exact KeepS.set hb (by decide) _⟩
 · refine(bld_check_used b w h.cell0).mono ?_;rintro e w' ⟨rfl,rfl⟩;exact⟨rfl,h,Below.refl B _,KeepS.refl _⟩
theorem frb_WriteString(B b:Nat)(bs:List Value)(s:ByteArray)(w:World)(h:Lib.IsBuilder 169 5 B b bs w)(hlen:bs.length+s.size≤140737488355328)(hBw:B≤w.heap.size) :
 Calls Tryz.prog 80 #[.pointer (some ⟨b,0,none⟩),.string s] w fun e w'=>e=.returned (.tuple #[.int .i64 s.size,.nilIface]) ∧
  (Lib.IsBuilder 169 5 B b (bs++Lib.strCells s) w'∧Below B w w'∧KeepS w w'):=by
 obtain⟨i0,hi,hz0,hz1,hz2⟩:=info_parts u8_infoB;go_enter Tryz.func80,Tryz.ntmps80;go_wp2_with fail;refine(frb_check B b bs _ h).mono ?_;rintro e w1 ⟨rfl,h1,hb1,hk1⟩;obtain⟨hB,v,hbk,hown,hne⟩:=h1;have c0:w1.cell? ⟨b,0,none⟩=some (.pointer (some ⟨b,0,none⟩)):=by rw[Lib.cell_of_heap hbk];rfl
 have c1:w1.cell? ⟨b,1,none⟩=some v:=by rw[Lib.cell_of_heap hbk];rfl
 go_wp2_with (at_builtin;refine Lib.wpList_append_own_string _ rfl _ _ 108 9 rfl B 5 i0 Tryz.underlying108 Tryz.underlying9 hi hz0 hz1 hz2 _ _ _ rfl hown s rfl ?c3 ?c4 ?c5 ?_);case c3=>unfold maxLen;omega
 case c4=>omega
 case c5=>have:=hb1.size;omega
 intro v' w2 hown' hgrow _;have hlt:b<w1.heap.size:=by
  rcases Nat.lt_or_ge b w1.heap.size with h' | h'
  · exact h'
  · rw[Array.getElem?_eq_none h']at hbk;cases hbk
 have hb2:w2.heap[b]? =some (.cells #[.pointer (some ⟨b,0,none⟩),v] 169 (0,0)):=(by rw[hgrow.block b hlt (fun e=>hne e.symm)];exact hbk);have d0:w2.cell? ⟨b,0,none⟩=some (.pointer (some ⟨b,0,none⟩)):=by rw[Lib.cell_of_heap hb2];rfl
 have d1:w2.cell? ⟨b,1,none⟩=some v:=by rw[Lib.cell_of_heap hb2];rfl
 have f1:w2.frozen? ⟨b,1,none⟩=false:=Lib.frozen_of_heap hb2 1;obtain⟨ao,n',cap,rfl⟩:∃ ao n' cap,v'=.slice ao n' cap:=by
  rcases hown'.2 with⟨hv,_⟩ | ⟨g,cap,cur,hv,_⟩
  · exact⟨_,_,_,hv⟩
  · exact⟨_,_,_,hv⟩
 go_wp2;go_ret2;have hk2:KeepS w1 w2:=fun g cs fr e=>(hgrow.block g (block_lt e) (fun h=>Lib.ownBlock_ne hown e (by decide) h.symm)).trans e;refine⟨rfl,.inr ?_,?_,(hk1.trans hk2).trans (KeepS.set hb2 (by decide) _)⟩
 · exact Lib.BuilderAt.put hB hb2 (bs':=bs++Lib.strCells s) (by simpa[Lib.strCells_length]using hown') (by decide)
 · exact(hb1.grown hgrow (by have:=hb1.size;omega) (fun k hk=>(hown.lt k hk).1)).setCell (p:=⟨b,1,none⟩) hB _
theorem frb_WriteByte(B b:Nat)(bs:List Value)(c:Int)(w:World)(h:Lib.IsBuilder 169 5 B b bs w)(hlen:bs.length+1≤140737488355328)(hBw:B≤w.heap.size) :
 Calls Tryz.prog 127 #[.pointer (some ⟨b,0,none⟩),.int .u8 c] w fun e w'=>e=.returned .nilIface ∧
  (Lib.IsBuilder 169 5 B b (bs++[.int .u8 c]) w'∧Below B w w'∧KeepS w w'):=by
 obtain⟨i0,hi,hz0,hz1,hz2⟩:=info_parts u8_infoB;go_enter Tryz.func127,Tryz.ntmps127;go_wp2_with fail;refine(frb_check B b bs _ h).mono ?_;rintro e w1 ⟨rfl,h1,hb1,hk1⟩;obtain⟨hB,v,hbk,hown,hne⟩:=h1;have c0:w1.cell? ⟨b,0,none⟩=some (.pointer (some ⟨b,0,none⟩)):=by rw[Lib.cell_of_heap hbk];rfl
 have c1:w1.cell? ⟨b,1,none⟩=some v:=by rw[Lib.cell_of_heap hbk];rfl
 have hb11:B≤w1.heap.size:=by have:=hb1.size;omega
 go_wp2_with (at_builtin;refine wpList_append_own _ rfl _ _ 108 rfl B 5 i0 (.int .u8 0) 1 1 Tryz.underlying108 hi hz0 hz1 hz2 rfl (by decide) v bs.length bs rfl (hown.alloc _) ⟨w1.heap.size,0,none⟩ 1 1 [.int .u8 c] rfl rfl ?c1 ?c2 ?c3 ?c4 ?c5 ?_);case c1 =>
  intro j u hj
  match j,hj with
  | 0,hj=>simp at hj;subst hj;simp[Addr.add]
  | (j+1),hj=>simp at hj
 case c2=>intro u hu;simp at hu;subst hu;rfl
 case c3=>unfold maxLen;omega
 case c4=>omega
 case c5=>have:=(Below.alloc (Below.refl w1.heap.size w1) nlr (.cells #[.int .u8 c] 5)).size;omega
 intro v' w2 hown' hgrow _;have hlt0:b<w1.heap.size:=by
  rcases Nat.lt_or_ge b w1.heap.size with h' | h'
  · exact h'
  · rw[Array.getElem?_eq_none h']at hbk;cases hbk
 have hbk1:(w1.alloc (.cells #[.int .u8 c] 5)).heap[b]? =some (.cells #[.pointer (some ⟨b,0,none⟩),v] 169 (0,0)):=(by rw[Lib.alloc_old _ _ _ hlt0];exact hbk);have hlt:b<(w1.alloc (.cells #[.int .u8 c] 5)).heap.size:=by simp;omega
 have hb2:w2.heap[b]? =some (.cells #[.pointer (some ⟨b,0,none⟩),v] 169 (0,0)):=(by rw[hgrow.block b hlt (fun e=>hne e.symm)];exact hbk1);have d0:w2.cell? ⟨b,0,none⟩=some (.pointer (some ⟨b,0,none⟩)):=by rw[Lib.cell_of_heap hb2];rfl
 have d1:w2.cell? ⟨b,1,none⟩=some v:=by rw[Lib.cell_of_heap hb2];rfl
 have f1:w2.frozen? ⟨b,1,none⟩=false:=Lib.frozen_of_heap hb2 1;obtain⟨ao,n',cap,rfl⟩:∃ ao n' cap,v'=.slice ao n' cap:=by
  rcases hown'.2 with⟨hv,_⟩ | ⟨g,cap,cur,hv,_⟩
  · exact⟨_,_,_,hv⟩
  · exact⟨_,_,_,hv⟩
 go_wp2;go_ret;have hk2:KeepS (w1.alloc (.cells #[.int .u8 c] 5)) w2:=fun g cs fr e=>(hgrow.block g (block_lt e) (fun h=>Lib.ownBlock_ne (hown.alloc _) e (by decide) h.symm)).trans e;refine⟨rfl,.inr ?_,?_,((hk1.trans (KeepS.below ((blr).alloc nlr _))).trans hk2).trans (KeepS.set hb2 (by decide) _)⟩
 · exact Lib.BuilderAt.put hB hb2 (bs':=bs++[.int .u8 c]) (by simpa using hown') (by decide)
 · exact(((hb1.alloc hb11 _).grown hgrow (by have:=hb1.size;simp;omega) (fun k hk=>(hown.lt k hk).1))).setCell (p:=⟨b,1,none⟩) hB _
theorem frb_kept{B b:Nat}{bs:List Value}{w w':World}(h:Lib.IsBuilder 169 5 B b bs w)(hb:Below w.heap.size w w'):Lib.IsBuilder 169 5 B b bs w':=by
 rcases h with⟨h1,v,h2,h3,h4⟩ | ⟨h1,v,h2,h3,h4⟩
 · exact .inl ⟨h1,v,block_kept hb nlr h2,owns_kept h3 hb nlr,h4⟩
 · exact .inr ⟨h1,v,block_kept hb nlr h2,owns_kept h3 hb nlr,h4⟩
theorem frb_drew{B b:Nat}{bs:List Value}{w:World}(h:Lib.IsBuilder 169 5 B b bs w):Lib.IsBuilder 169 5 B b bs w.drew:=frb_kept h (blr).drew
theorem frb_String(B b:Nat)(l:List UInt8)(w:World)(h:Lib.IsBuilder 169 5 B b (Lib.byteCells l) w)(hBw:B≤w.heap.size) :
 Calls Tryz.prog 83 #[.pointer (some ⟨b,0,none⟩)] w fun e w'=>e=.returned (.string (bstr l))∧KeepB B w w':=by
 obtain⟨p,hB,v,hbk,hown,hne⟩:∃ p,Lib.BuilderAt 169 5 B b p (Lib.byteCells l) w:=by
  rcases h with h | h
  · exact⟨_,h⟩
  · exact⟨_,h⟩
 clear h;have hlt:b<w.heap.size:=block_lt hbk;rw[Lib.byteCells_length]at hown;by_cases h0:l=[]
 · subst h0;have hUS:∀(W:World) (q:Option Addr),(Builtin.unsafeString_ #[181,3] 9 #[.pointer q,.int .i64 0]).run Tryz.prog W=.ok (.string .empty) W:=fun W q=>Lib.run_unsafeString_none W _ _ _ q;rcases hown.2 with⟨rfl,_⟩ | ⟨g,cap,cur,rfl,hbg,hg,_,_,_,_⟩
   · have c1:w.drew.cell? ⟨b,1,none⟩=some (.slice none 0 0):=(by rw[cell?_drew,Lib.cell_of_heap hbk];rfl);have hSD:(Builtin.unsafeSliceData_ #[108] 181 #[.slice none 0 0]).run Tryz.prog w.drew=.ok (.pointer none) w.drew:=rfl;clear hown hne hbk;go_enter Tryz.func83,Tryz.ntmps83;go_wp2;go_region;all_goals (go_wp2;go_ret;exact⟨rfl,(KeepB.refl B w).drew⟩)
   · by_cases hc0:cap=0
     · subst hc0;have c1:w.drew.cell? ⟨b,1,none⟩=some (.slice (some ⟨g,0,none⟩) 0 0):=by
        rw[cell?_drew,Lib.cell_of_heap hbk];rfl
       have hSD:(Builtin.unsafeSliceData_ #[108] 181 #[.slice (some ⟨g,0,none⟩) 0 0]).run Tryz.prog w.drew=.ok (.pointer (some ⟨w.drew.heap.size,0,none⟩)) (w.drew.alloc (.view ⟨g,0,none⟩ 5)):=
        Lib.run_unsafeSliceData_zero w.drew _ _ 5 Tryz.underlying181 ⟨g,0,none⟩ 0 (5,cur.size) (by have hg':w.drew.heap[g]? =some (.cells cur 5 (0,0)):=hg;simp[World.shape?,hg'])
       have c2:(w.drew.alloc (.view ⟨g,0,none⟩ 5)).cell? ⟨b,1,none⟩=some (.slice (some ⟨g,0,none⟩) 0 0):=(by have : (w.drew.alloc (.view ⟨g,0,none⟩ 5)).heap[b]? =_:=(Lib.alloc_old w.drew _ b hlt).trans hbk;rw[Lib.cell_of_heap this];rfl);have c3:(w.alloc (.view ⟨g,0,none⟩ 5)).drew.cell? ⟨b,1,none⟩=some (.slice (some ⟨g,0,none⟩) 0 0):=c2;have c0:w.cell? ⟨b,1,none⟩=some (.slice (some ⟨g,0,none⟩) 0 0):=c1;clear hown hne hbk;go_enter Tryz.func83,Tryz.ntmps83;go_wp2;go_region;all_goals (go_wp2;go_ret;exact⟨rfl,(KeepB.refl B w).drew.alloc hBw _⟩)
     · have c1:w.drew.cell? ⟨b,1,none⟩=some (.slice (some ⟨g,0,none⟩) 0 cap):=(by rw[cell?_drew,Lib.cell_of_heap hbk];rfl);have hSD:(Builtin.unsafeSliceData_ #[108] 181 #[.slice (some ⟨g,0,none⟩) 0 cap]).run Tryz.prog w.drew=.ok (.pointer (some ⟨g,0,none⟩)) w.drew:=
        Lib.run_unsafeSliceData_row _ _ _ _ _ _ hc0
       clear hown hne hbk hc0;go_enter Tryz.func83,Tryz.ntmps83;go_wp2;go_region;all_goals (go_wp2;go_ret;exact⟨rfl,(KeepB.refl B w).drew⟩)
 · have hl0:l.length≠0:=by simpa using h0
   obtain⟨g,cap,cur,rfl,hbg,hg,hnc,hcm,hcs,htake⟩:∃ g cap cur,v=.slice (some ⟨g,0,none⟩) l.length cap∧B≤g∧w.heap[g]? =some (.cells cur 5 (0,0))∧l.length≤cap∧cap≤maxLen∧cur.size=cap * 1∧cur.toList.take (l.length * 1)=Lib.byteCells l:=by
    rcases hown.2 with⟨_,hz⟩ | ⟨g,cap,cur,hv,r⟩
    · exact absurd hz hl0
    · exact⟨g,cap,cur,hv,r⟩
   have c1:w.drew.cell? ⟨b,1,none⟩=some (.slice (some ⟨g,0,none⟩) l.length cap):=(by rw[cell?_drew,Lib.cell_of_heap hbk];rfl);have hSD:(Builtin.unsafeSliceData_ #[108] 181 #[.slice (some ⟨g,0,none⟩) l.length cap]).run Tryz.prog w.drew=.ok (.pointer (some ⟨g,0,none⟩)) w.drew:=
    Lib.run_unsafeSliceData_row _ _ _ _ _ _ (by omega)
   have hUS:(Builtin.unsafeString_ #[181,3] 9 #[.pointer (some ⟨g,0,none⟩),.int .i64 l.length]).run Tryz.prog w.drew=.ok (.string (bstr l)) (w.drew.freeze ⟨g,0,none⟩ l.length):=(by refine Lib.run_unsafeString_row w.drew 181 3 9 5 Tryz.underlying181 u8_cells g cur.size (by have hg':w.drew.heap[g]? =some (.cells cur 5 (0,0)):=hg;simp[World.shape?,hg']) l h0 (by omega) (by unfold maxLen at hcm;omega) ?_;intro j x hx;exact hown.cells (g:=g) rfl j (.int .u8 x.toNat) (by simp[Lib.byteCells,hx]));clear hown hne hbk htake hcs h0;have hk:KeepB B w (w.drew.freeze ⟨g,0,none⟩ l.length):=⟨Lib.below_freeze (Below.drew (Below.refl B w)) (p:=⟨g,0,none⟩) hbg _,fun a v hc=>by rw[cell?_freeze];exact hc⟩;have HK:=Hq hk;clear hk;go_enter Tryz.func83,Tryz.ntmps83;go_wp2;go_region;all_goals (go_wp2;go_ret;exact⟨rfl,HK.out⟩)
theorem bld_Len(B b:Nat)(bs:List Value)(w:World)(h:Lib.IsBuilder 141 5 B b bs w) :
 Calls Tryz.prog 82 #[.pointer (some ⟨b,0,none⟩)] w fun e w'=>e=.returned (.int .i64 bs.length)∧w=w':=by
 obtain⟨p,hB,v,hbk,hown,hne⟩:∃ p,Lib.BuilderAt 141 5 B b p bs w:=by
  rcases h with h | h
  · exact⟨_,h⟩
  · exact⟨_,h⟩
 obtain⟨ao,cap,rfl⟩:∃ ao cap,v=.slice ao bs.length cap:=by
  rcases hown.2 with⟨hv,h0⟩ | ⟨g,cap,cur,hv,_⟩
  · exact⟨none,0,by rw[hv,h0]⟩
  · exact⟨_,_,hv⟩
 have c1:w.cell? ⟨b,1,none⟩=some (.slice ao bs.length cap):=by rw[Lib.cell_of_heap hbk];rfl
 clear h hbk hown hne;go_enter Tryz.func82,Tryz.ntmps82;go_wp2;go_ret;exact⟨rfl,rfl⟩
set_option maxRecDepth 100000
set_option maxHeartbeats 2000000
open Go.RowKit Go.Lib
theorem u8_wrap(n k:Nat):IntKind.u8.wrap ((n:Int) / 2 ^ k)=((UInt8.ofNat (n / 2 ^ k)).toNat:Int):=by
 have h:IntKind.u8.wrap ((n:Int) / 2 ^ k)=((n:Int) / 2 ^ k)%256:=rfl;have : ((n:Int) / 2 ^ k%256)=((n / 2 ^ k%256:Nat):Int):=by simp
 rw[h,this];simp[UInt8.toNat_ofNat']
theorem fr_eight(B b:Nat)(bs:List Value)(n:Nat)(hn:n≤4611686018427387904)(w:World)(h:IsBuilder 169 5 B b bs w)(hlen:bs.length≤1000000000000)(hBw:B≤w.heap.size) :
 Calls Tryz.prog 102 #[.pointer (some ⟨b,0,none⟩),.int .i64 n] w fun e w'=>e=.returned (.tuple #[])∧(IsBuilder 169 5 B b (bs++Lib.byteCells (shE8 n)) w'∧Below B w w'∧KeepS w w'):=by
 have HI:=Hq h;clear h;go_enter Tryz.func102,Tryz.ntmps102;go_wp2;go_loopw [4] (fun i wr=>∃ q:Nat,q≤8∧i=.int .i64 (56 - 8 * (q:Int))∧IsBuilder 169 5 B b (bs++Lib.byteCells ((shE8 n).take q)) wr∧Below B w wr∧B≤wr.heap.size∧KeepS w wr) (fun i _=>(RowKit.intOf i+8).toNat);case atStart=>exact⟨0,Nat.zero_le _,rfl,by simpa[Lib.byteCells]using HI.out,Below.refl _ _,hBw,KeepS.refl _⟩
 case round =>
  obtain⟨q,hq,rfl,hib,hb,hz,hks⟩:=hrel;have HKS:=Hq hks;clear hks;have HIB:=Hq hib;have HB:=Hq hb;clear hib hb;by_cases hlt:q<8
  · obtain⟨sh,hsh⟩:∃ sh,56 - 8 * q=sh:=⟨_,rfl⟩;have hshi:(56:Int) - 8 * (q:Int)=(sh:Int):=by omega
    have hsh64:(sh:Int)<64:=by omega
    have hge:(0:Int)≤(sh:Int):=by omega
    have HTK:=Hq (shE8_get n hlt);rw[hsh]at HTK;rw[hshi];have HSI:=Hq hshi;have HQ:=Hq hlt;have HLQ:=Hq (show ((shE8 n).take q).length≤8 from by rw[List.length_take];simp[shE8];omega);clear hsh hshi hlt hq;go_wp2;obtain⟨wd,hwd⟩:∃ wd,wr.drew=wd:=⟨_,rfl⟩;have HID:=Hq (show IsBuilder 169 5 B b (bs++Lib.byteCells ((shE8 n).take q)) wd from by rw[←hwd];exact frb_drew HIB.out);have HBD:=Hq (show Below B w wd from by rw[←hwd];exact HB.out.drew);have hzd:B≤wd.heap.size:=by rw[←hwd];exact hz
    have HZD:=Hq hzd;clear hz hzd;refine wp_region_K 8 (fun _=>True) (by kernel_rfl) ?_;intro hD;rw[hwd];refine rP 0 9 7 rfl hD trivial ?_;clear hD;intro hD;refine rP 1 10 6 rfl hD trivial ?_;clear hD;intro hD;refine rP 2 11 5 rfl hD trivial ?_;clear hD;intro hD;refine rP 3 12 4 rfl hD trivial ?_;clear hD;intro hD;refine rP 4 13 3 rfl hD trivial ?_;clear hD;intro hD;refine rP 5 14 2 rfl hD trivial ?_;clear hD;intro hD;refine rP 6 15 1 rfl hD trivial ?_;clear hD;intro hD;simp only[Act.put,sqA,sqB,sqC];refine rO 7 0 rfl hD ?_;clear hD;intro K7 hK7;rw[u8_wrap];go_wp2_with fail;refine(frb_WriteByte B b _ _ _ HID.out (by have:=HLQ.out;rw[List.length_append,byteCells_length];omega) HZD.out).mono ?_;rintro e w3 ⟨rfl,hi3,hb3,hk3⟩;have HK3:=Hq (show KeepS w w3 from(HKS.out.trans (by rw[←hwd];exact KeepS.below (blr).drew)).trans hk3);have HI3:=Hq hi3;have HB3:=Hq (HBD.out.trans hb3);have HZ3:=Hq (Nat.le_trans HZD.out hb3.size);clear hi3 hb3 hk3;go_wp2;refine hK7 _ _ (by trivial) ?_;clear hK7;intro hS_3_7 hD;refine wpD ?_;clear hD;have hsub:(sh:Int) - 8=56 - 8 * ((q+1:Nat):Int):=by have:=HSI.out;omega
    go_wp2;go_roundw;case rel =>
     refine⟨q+1,HQ.out,rfl,?_,HB3.out,HZ3.out,HK3.out⟩;rw[HTK.out,byteCells_append,←List.append_assoc];exact HI3.out
    case measure=>have:=HSI.out;simp[RowKit.intOf];omega
  · have HQ:=Hq (show q=8 from by omega);have hge:¬ ((0:Int)≤56 - 8 * (q:Int)):=by omega
    clear hq hlt;go_wp2;go_end0;refine⟨rfl,?_,HB.out,HKS.out⟩;have h8:(shE8 n).take q=shE8 n:=by rw[HQ.out];rfl
    rw[←h8];exact HIB.out
end Go.Proofs.YtfbmbledklbfgaaGreatDoor

import Derived.Test.YtmahgbhpdfbbjaaGreatDoorQEncE
set_option linter.unusedVariables false
set_option linter.unusedSimpArgs false
namespace Go.Proofs.YtmahgbhpdfbbjaaGreatDoor
set_option maxRecDepth 100000
set_option maxHeartbeats 2000000
open Go.RowKit
theorem bld_size:(Tryz.prog.info? 202).map (·.size)=some 2:=by kernel_rfl
theorem bld_lies:liesAt Tryz.prog Tryz.prog.depth 202 (2 / Tryz.prog.cellsOf 202) 0 202 1=true:=by kernel_rfl
theorem u8_infoB:(Tryz.prog.info? 5).map (fun i=>(i.zero,i.size,i.bytes))=some (some (.int .u8 0),1,1):=by kernel_rfl
theorem bld_check_used(b:Nat)(w:World)(h0:w.cell? ⟨b,0,none⟩=some (.pointer (some ⟨b,0,none⟩))) :
 Calls Tryz.prog 161 #[.pointer (some ⟨b,0,none⟩)] w fun e w'=>e=.returned (.tuple #[])∧w=w':=by
 obtain⟨j,hj,_⟩:=Option.map_eq_some_iff.1 bld_size;have hne:=Lib.run_neq_ptr_same (P:=Tryz.prog) w ⟨b,0,none⟩ Tryz.underlying200 hj;go_enter Tryz.func161,Tryz.ntmps161;go_wp2;go_end0;exact⟨rfl,rfl⟩
theorem bld_check_fresh(b:Nat)(w:World)(h0:w.cell? ⟨b,0,none⟩=some (.pointer none))(hsh:w.shape? b=some (202,2))(hfz:w.frozen? ⟨b,0,none⟩=false) :
 Calls Tryz.prog 161 #[.pointer (some ⟨b,0,none⟩)] w fun e w'=>e=.returned (.tuple #[])∧w.setCell ⟨b,0,none⟩ (.pointer (some ⟨b,0,none⟩))=w':=by
 obtain⟨j,hj,hjs⟩:=Option.map_eq_some_iff.1 bld_size;go_enter Tryz.func161,Tryz.ntmps161;go_wp2;rw[Lib.run_to_unsafe w ⟨b,0,none⟩ Tryz.underlying200 Tryz.underlying230 hj (by rw[hjs];decide) hsh (Nat.zero_lt_succ 1)];simp only[Result.andThen];rw[Oper.upon_value];go_wp2;rw[run_callFunc_extern Tryz.func168 (by kernel_rfl) (by kernel_rfl) (by kernel_rfl) (e:=Extern.AbiNoEscape.same) (by kernel_rfl)];rw[Lib.run_noEscape];simp only[Result.andThen];rw[Oper.upon_value];go_wp2;rw[Lib.run_from_unsafe w ⟨b,0,none⟩ Tryz.underlying230 Tryz.underlying200 hj hsh bld_lies];simp only[Result.andThen];rw[Oper.upon_value];go_wp2;go_end0;exact⟨rfl,rfl⟩
theorem bld_check(B b:Nat)(bs:List Value)(w:World)(h:Lib.IsBuilder 202 5 B b bs w) :
 Calls Tryz.prog 161 #[.pointer (some ⟨b,0,none⟩)] w fun e w'=>e=.returned (.tuple #[])∧(Lib.BuilderAt 202 5 B b (.pointer (some ⟨b,0,none⟩)) bs w'∧Below B w w'):=by
 rcases h with h | h
 · refine(bld_check_fresh b w h.cell0 h.shape h.frozen0).mono ?_;rintro e w' ⟨rfl,rfl⟩;exact⟨rfl,h.used _,(Below.refl B w).setCell (p:=⟨b,0,none⟩) h.1 _⟩
 · refine(bld_check_used b w h.cell0).mono ?_;rintro e w' ⟨rfl,rfl⟩;exact⟨rfl,h,Below.refl B _⟩
theorem bld_WriteString(B b:Nat)(bs:List Value)(s:ByteArray)(w:World)(h:Lib.IsBuilder 202 5 B b bs w)(hlen:bs.length+s.size≤140737488355328)(hBw:B≤w.heap.size) :
 Calls Tryz.prog 144 #[.pointer (some ⟨b,0,none⟩),.string s] w fun e w'=>e=.returned (.tuple #[.int .i64 s.size,.nilIface]) ∧
  (Lib.IsBuilder 202 5 B b (bs++Lib.strCells s) w'∧Below B w w'):=by
 obtain⟨i0,hi,hz0,hz1,hz2⟩:=info_parts u8_infoB;go_enter Tryz.func144,Tryz.ntmps144;go_wp2_with fail;refine(bld_check B b bs _ h).mono ?_;rintro e w1 ⟨rfl,h1,hb1⟩;obtain⟨hB,v,hbk,hown,hne⟩:=h1;have c0:w1.cell? ⟨b,0,none⟩=some (.pointer (some ⟨b,0,none⟩)):=by rw[Lib.cell_of_heap hbk];rfl
 have c1:w1.cell? ⟨b,1,none⟩=some v:=by rw[Lib.cell_of_heap hbk];rfl
 go_wp2_with (at_builtin;refine Lib.wpList_append_own_string _ rfl _ _ 70 9 rfl B 5 i0 Tryz.underlying70 Tryz.underlying9 hi hz0 hz1 hz2 _ _ _ rfl hown s rfl ?c3 ?c4 ?c5 ?_);case c3=>unfold maxLen;omega
 case c4=>omega
 case c5=>have:=hb1.size;omega
 intro v' w2 hown' hgrow _;have hlt:b<w1.heap.size:=by
  rcases Nat.lt_or_ge b w1.heap.size with h' | h'
  · exact h'
  · rw[Array.getElem?_eq_none h']at hbk;cases hbk
 have hb2:w2.heap[b]? =some (.cells #[.pointer (some ⟨b,0,none⟩),v] 202 (0,0)):=(by rw[hgrow.block b hlt (fun e=>hne e.symm)];exact hbk);have d0:w2.cell? ⟨b,0,none⟩=some (.pointer (some ⟨b,0,none⟩)):=by rw[Lib.cell_of_heap hb2];rfl
 have d1:w2.cell? ⟨b,1,none⟩=some v:=by rw[Lib.cell_of_heap hb2];rfl
 have f1:w2.frozen? ⟨b,1,none⟩=false:=Lib.frozen_of_heap hb2 1;obtain⟨ao,n',cap,rfl⟩:∃ ao n' cap,v'=.slice ao n' cap:=by
  rcases hown'.2 with⟨hv,_⟩ | ⟨g,cap,cur,hv,_⟩
  · exact⟨_,_,_,hv⟩
  · exact⟨_,_,_,hv⟩
 go_wp2;go_ret2;refine⟨rfl,.inr ?_,?_⟩
 · exact Lib.BuilderAt.put hB hb2 (bs':=bs++Lib.strCells s) (by simpa[Lib.strCells_length]using hown') (by decide)
 · exact(hb1.grown hgrow (by have:=hb1.size;omega) (fun k hk=>(hown.lt k hk).1)).setCell (p:=⟨b,1,none⟩) hB _
theorem u8_cells:Tryz.prog.cellsOf 5=1:=by kernel_rfl
theorem bld_kept{B b:Nat}{bs:List Value}{w w':World}(h:Lib.IsBuilder 202 5 B b bs w)(hb:Below w.heap.size w w'):Lib.IsBuilder 202 5 B b bs w':=by
 rcases h with⟨h1,v,h2,h3,h4⟩ | ⟨h1,v,h2,h3,h4⟩
 · exact .inl ⟨h1,v,block_kept hb nlr h2,owns_kept h3 hb nlr,h4⟩
 · exact .inr ⟨h1,v,block_kept hb nlr h2,owns_kept h3 hb nlr,h4⟩
theorem bld_drew{B b:Nat}{bs:List Value}{w:World}(h:Lib.IsBuilder 202 5 B b bs w):Lib.IsBuilder 202 5 B b bs w.drew:=bld_kept h (blr).drew
theorem bld_String(B b:Nat)(l:List UInt8)(w:World)(h:Lib.IsBuilder 202 5 B b (Lib.byteCells l) w)(hBw:B≤w.heap.size) :
 Calls Tryz.prog 147 #[.pointer (some ⟨b,0,none⟩)] w fun e w'=>e=.returned (.string (bstr l))∧KeepB B w w':=by
 obtain⟨p,hB,v,hbk,hown,hne⟩:∃ p,Lib.BuilderAt 202 5 B b p (Lib.byteCells l) w:=by
  rcases h with h | h
  · exact⟨_,h⟩
  · exact⟨_,h⟩
 clear h;have hlt:b<w.heap.size:=block_lt hbk;rw[Lib.byteCells_length]at hown;by_cases h0:l=[]
 · subst h0;have hUS:∀(W:World) (q:Option Addr),(Builtin.unsafeString_ #[222,3] 9 #[.pointer q,.int .i64 0]).run Tryz.prog W=.ok (.string .empty) W:=fun W q=>Lib.run_unsafeString_none W _ _ _ q;rcases hown.2 with⟨rfl,_⟩ | ⟨g,cap,cur,rfl,hbg,hg,_,_,_,_⟩
   · have c1:w.drew.cell? ⟨b,1,none⟩=some (.slice none 0 0):=(by rw[cell?_drew,Lib.cell_of_heap hbk];rfl);have hSD:(Builtin.unsafeSliceData_ #[70] 222 #[.slice none 0 0]).run Tryz.prog w.drew=.ok (.pointer none) w.drew:=rfl;clear hown hne hbk;go_enter Tryz.func147,Tryz.ntmps147;go_wp2;go_region;all_goals (go_wp2;go_ret;exact⟨rfl,(KeepB.refl B w).drew⟩)
   · by_cases hc0:cap=0
     · subst hc0;have c1:w.drew.cell? ⟨b,1,none⟩=some (.slice (some ⟨g,0,none⟩) 0 0):=by
        rw[cell?_drew,Lib.cell_of_heap hbk];rfl
       have hSD:(Builtin.unsafeSliceData_ #[70] 222 #[.slice (some ⟨g,0,none⟩) 0 0]).run Tryz.prog w.drew=.ok (.pointer (some ⟨w.drew.heap.size,0,none⟩)) (w.drew.alloc (.view ⟨g,0,none⟩ 5)):=
        Lib.run_unsafeSliceData_zero w.drew _ _ 5 Tryz.underlying222 ⟨g,0,none⟩ 0 (5,cur.size) (by have hg':w.drew.heap[g]? =some (.cells cur 5 (0,0)):=hg;simp[World.shape?,hg'])
       have c2:(w.drew.alloc (.view ⟨g,0,none⟩ 5)).cell? ⟨b,1,none⟩=some (.slice (some ⟨g,0,none⟩) 0 0):=(by have : (w.drew.alloc (.view ⟨g,0,none⟩ 5)).heap[b]? =_:=(Lib.alloc_old w.drew _ b hlt).trans hbk;rw[Lib.cell_of_heap this];rfl);have c3:(w.alloc (.view ⟨g,0,none⟩ 5)).drew.cell? ⟨b,1,none⟩=some (.slice (some ⟨g,0,none⟩) 0 0):=c2;have c0:w.cell? ⟨b,1,none⟩=some (.slice (some ⟨g,0,none⟩) 0 0):=c1;clear hown hne hbk;go_enter Tryz.func147,Tryz.ntmps147;go_wp2;go_region;all_goals (go_wp2;go_ret;exact⟨rfl,(KeepB.refl B w).drew.alloc hBw _⟩)
     · have c1:w.drew.cell? ⟨b,1,none⟩=some (.slice (some ⟨g,0,none⟩) 0 cap):=(by rw[cell?_drew,Lib.cell_of_heap hbk];rfl);have hSD:(Builtin.unsafeSliceData_ #[70] 222 #[.slice (some ⟨g,0,none⟩) 0 cap]).run Tryz.prog w.drew=.ok (.pointer (some ⟨g,0,none⟩)) w.drew:=
        Lib.run_unsafeSliceData_row _ _ _ _ _ _ hc0
       clear hown hne hbk hc0;go_enter Tryz.func147,Tryz.ntmps147;go_wp2;go_region;all_goals (go_wp2;go_ret;exact⟨rfl,(KeepB.refl B w).drew⟩)
 · have hl0:l.length≠0:=by simpa using h0
   obtain⟨g,cap,cur,rfl,hbg,hg,hnc,hcm,hcs,htake⟩:∃ g cap cur,v=.slice (some ⟨g,0,none⟩) l.length cap∧B≤g∧w.heap[g]? =some (.cells cur 5 (0,0))∧l.length≤cap∧cap≤maxLen∧cur.size=cap * 1∧cur.toList.take (l.length * 1)=Lib.byteCells l:=by
    rcases hown.2 with⟨_,hz⟩ | ⟨g,cap,cur,hv,r⟩
    · exact absurd hz hl0
    · exact⟨g,cap,cur,hv,r⟩
   have c1:w.drew.cell? ⟨b,1,none⟩=some (.slice (some ⟨g,0,none⟩) l.length cap):=(by rw[cell?_drew,Lib.cell_of_heap hbk];rfl);have hSD:(Builtin.unsafeSliceData_ #[70] 222 #[.slice (some ⟨g,0,none⟩) l.length cap]).run Tryz.prog w.drew=.ok (.pointer (some ⟨g,0,none⟩)) w.drew:=
    Lib.run_unsafeSliceData_row _ _ _ _ _ _ (by omega)
   have hUS:(Builtin.unsafeString_ #[222,3] 9 #[.pointer (some ⟨g,0,none⟩),.int .i64 l.length]).run Tryz.prog w.drew=.ok (.string (bstr l)) (w.drew.freeze ⟨g,0,none⟩ l.length):=(by refine Lib.run_unsafeString_row w.drew 222 3 9 5 Tryz.underlying222 u8_cells g cur.size (by have hg':w.drew.heap[g]? =some (.cells cur 5 (0,0)):=hg;simp[World.shape?,hg']) l h0 (by omega) (by unfold maxLen at hcm;omega) ?_;intro j x hx;exact hown.cells (g:=g) rfl j (.int .u8 x.toNat) (by simp[Lib.byteCells,hx]));clear hown hne hbk htake hcs h0;have hk:KeepB B w (w.drew.freeze ⟨g,0,none⟩ l.length):=⟨Lib.below_freeze (Below.drew (Below.refl B w)) (p:=⟨g,0,none⟩) hbg _,fun a v hc=>by rw[cell?_freeze];exact hc⟩;have HK:=Hq hk;clear hk;go_enter Tryz.func147,Tryz.ntmps147;go_wp2;go_region;all_goals (go_wp2;go_ret;exact⟨rfl,HK.out⟩)
set_option maxRecDepth 100000
set_option maxHeartbeats 4000000
theorem bytes_take_step{l:List It}{k:Nat}{y:It}(h:l[k]? =some y):Its.bytes (l.take (k+1))=Its.bytes (l.take k)++y.bytes:=by
 rw[take_snoc h,Its.bytes_append];simp[Its.bytes]
theorem bytes_take_le(l:List It)(k:Nat):(Its.bytes (l.take k)).length≤Its.weight l:=
 Nat.le_trans (Its.bytes_le _) (Its.weight_take_le l k)
theorem keep_new{B:Nat}{a W:World}{cs:Array Value}{T:TypeId}(h:KeepB B a (W.alloc (.cells cs T))):(W.alloc (.cells cs T)).cell? ⟨W.heap.size,0,none⟩=cs[0]?:=World.cell?_alloc_at (w:=W) cs T W.heap.size 0 rfl
theorem keep_bld{B b:Nat}{bs:List Value}{a W:World}{C:Obj}(h:KeepB B a (W.alloc C))(hi:Lib.IsBuilder 202 5 B b bs W):Lib.IsBuilder 202 5 B b bs (W.alloc C):=bld_kept hi ((blr).alloc nlr _)
theorem conv_cell{w:World}{g:Nat}{c:Int}{cb:UInt8}(h:w.cell? ⟨g,0,none⟩=some (.int .u8 c))(hc:c=(cb.toNat:Int)):(convert 70 9 (.slice (some ⟨g,0,none⟩) 1 1)).run Tryz.prog w=.ok (.string (bstr [cb])) w:=by
 refine BytesAt.conv (bs:=[cb]) (len:=1) (cap:=1) ⟨rfl,Nat.le_refl _,by omega,fun _=>⟨g,0,rfl,fun k hk=>?_⟩⟩ _ _ 5 Tryz.underlying70 Tryz.underlying5 Tryz.underlying9
 match k,hk with
 | 0,_=>rw[h,hc];rfl
theorem enc_write(N:Nat):∀(x:It) (v:Value) (w:World) (ok:Nat→Prop),x.nodes≤N→x.weight≤1000000000→ItAt w ok v x→Calls Tryz.prog 129 #[v] w (Ret (.string (bstr x.bytes)) w):=by
 induction N with
 | zero=>intro x v w ok h;have:=x.nodes_pos;omega
 | succ N ih =>
  intro x v w ok hN hM ⟨A,len,cap,hv,hs⟩;subst hv;have IH:=Hq ih;clear ih
  cases x with
  | mk q n t l =>
   simp only[It.kind,It.nat,It.text,It.list]at *;simp only[It.nodes,It.weight]at hN hM;have hlen:=hs.1;have hcap:=hs.2.2.1;have hlc:=hs.2.1;have hs0:=hs.bound;have HS0:=Hq hs0;have HLEN:=Hq hlen;have HN:=Hq hN;have HM:=Hq hM;have hM1:n.size≤1000000000:=by omega
   have hM2:n.size+t.size≤1000000000:=by omega
   clear hs hs0 hlen hN hM;go_enter Tryz.func129,Tryz.ntmps129;go_wp2_with fail;have hib:=Lib.fresh_isBuilder 202 5 (w.alloc (.cells #[.int .i64 q,.string n,.string t,.slice A len cap] 151));have hb0:(w.alloc (.cells #[.int .i64 q,.string n,.string t,.slice A len cap] 151)).heap.size=w.heap.size+1:=by simp
   rw[hb0]at hib;have hbox:((w.alloc (.cells #[.int .i64 q,.string n,.string t,.slice A len cap] 151)).alloc (.cells #[.pointer none,.slice none 0 0] 202)).heap[w.heap.size]? =some (.cells #[.int .i64 q,.string n,.string t,.slice A len cap] 151 (0,0)):=by
    rw[Lib.alloc_old _ _ _ (by simp)];exact heap_alloc_new _ _
   have hbl:Below w.heap.size w ((w.alloc (.cells #[.int .i64 q,.string n,.string t,.slice A len cap] 151)).alloc (.cells #[.pointer none,.slice none 0 0] 202)):=((blr).alloc nlr _).alloc (by simp) _;have hsz:w.heap.size+1≤((w.alloc (.cells #[.int .i64 q,.string n,.string t,.slice A len cap] 151)).alloc (.cells #[.pointer none,.slice none 0 0] 202)).heap.size:=by simp
   obtain⟨W0,hW0⟩:=nm ((w.alloc (.cells #[.int .i64 q,.string n,.string t,.slice A len cap] 151)).alloc (.cells #[.pointer none,.slice none 0 0] 202));rw[hW0]at hib hbox hbl hsz⊢;clear hW0 hb0;have HBOX:=Hq hbox;have HBL:=Hq hbl;clear hbox hbl;refine(bld_WriteString _ _ [] n _ hib (by simp;omega) hsz).mono ?_;rintro e w1 ⟨rfl,hi1,hb1⟩;rw[List.nil_append,Lib.strCells_eq]at hi1;have hbox1:w1.heap[w.heap.size]? =_:=(hb1.block _ (by omega)).trans HBOX.out;obtain⟨b0,b1,b2,b3⟩:=four_cells hbox1;have HB1:=Hq hb1;have HI1:=Hq hi1;have hz1:w.heap.size+1≤w1.heap.size:=block_lt hbox1;clear hb1 hi1 hib hbox1;go_wp2_with fail;refine(bld_WriteString _ _ _ t _ HI1.out (by rw[Lib.byteCells_length,data_len];omega) hz1).mono ?_;rintro e w2 ⟨rfl,hi2,hb2⟩;rw[Lib.strCells_eq,←Lib.byteCells_append]at hi2;clear b0 b1 b2 b3;have HBOX2:=Hq ((hb2.block _ (by omega)).trans ((HB1.out.block _ (by omega)).trans HBOX.out));have HB2:=Hq (HB1.out.trans hb2);have HI2:=Hq hi2;obtain⟨b0,b1,b2,b3⟩:=four_cells HBOX2.out;clear hb2 hi2;obtain⟨pre,hpre⟩:=nm (n.data.toList++t.data.toList);rw[hpre]at HI2;have hpl:pre.length=n.size+t.size:=by rw[←hpre,List.length_append,data_len,data_len]
   have HPRE:=Hq hpre;have HPL:=Hq hpl;clear hpre hpl;go_wp2;clear b0 b1 b2 b3;go_loopw [15] (fun i wr=>∃ k:Nat,k≤len∧i=.int .i64 k∧Lib.IsBuilder 202 5 (w.heap.size+1) (w.heap.size+1) (Lib.byteCells (pre++Its.bytes (l.take k))) wr∧Below (w.heap.size+1) W0 wr) (fun i _=>len - (intOf i).toNat);case atStart=>exact⟨0,Nat.zero_le _,rfl,by simpa[Its.bytes]using HI2.out,HB2.out⟩
   case round =>
    obtain⟨k,hk,rfl,hib,hB⟩:=hrel;have hbox1:wr.heap[w.heap.size]? =_:=(hB.block _ (by omega)).trans HBOX.out;obtain⟨b0,b1,b2,b3⟩:=four_cells hbox1;have hz1:w.heap.size+1≤wr.heap.size:=block_lt hbox1;have hs1:=HS0.out.keep (fun b hb _=>(hB.block b (by omega)).trans (HBL.out.block b hb.2));have HIB:=Hq hib;have HB:=Hq hB;clear hib hB hbox1;by_cases hlt:k<len
    · obtain⟨b,o,rfl⟩:=hs1.head (by omega);obtain⟨y,hy⟩:∃ y,l[k]? =some y:=⟨_,List.getElem?_eq_getElem (by rw[HLEN.out];exact hlt)⟩;obtain⟨A1,len1,cap1,c0,c1,c2,c3,hs2⟩:=(hs1.get? k hy).open;have hyN:y.nodes≤N:=by have:=Its.mem_nodes (List.mem_of_getElem? hy);have:=HN.out;omega
      have hyM:y.weight≤1000000000:=by have:=Its.mem_weight (List.mem_of_getElem? hy);have:=HM.out;omega
      have HS2:=Hq hs2;have HY:=Hq hy;clear hs1 hs2 hy;go_wp2_with fail;refine(IH.out y _ _ _ hyN hyM ⟨A1,len1,cap1,rfl,HS2.out.below ((Below.refl wr.heap.size wr).alloc nlr _) nlr⟩).mono ?_;rintro e w3 ⟨rfl,hb3⟩;have hb3':Below wr.heap.size wr w3:=((Below.refl wr.heap.size wr).alloc nlr _).trans (hb3.mono (by simp));have hz3:=hb3'.size;have HB3:=Hq hb3';clear hb3 hb3';go_wp2_with fail;refine(bld_WriteString _ _ _ (bstr y.bytes) _ (bld_kept HIB.out HB3.out) (by
       rw[Lib.byteCells_length,bstr_size,List.length_append];have h1:=bytes_take_le l (k+1);rw[bytes_take_step HY.out,List.length_append]at h1;have h2:=HPL.out;have h3:=HM.out
       omega) (by omega)).mono ?_
      rintro e w4 ⟨rfl,hi4,hb4⟩;rw[Lib.strCells_eq,←Lib.byteCells_append,bstr_data,List.append_assoc,←bytes_take_step HY.out]at hi4;have HI4:=Hq hi4;have HB4:=Hq hb4;clear hi4 hb4;go_wp2;go_roundw;case rel=>exact⟨k+1,by omega,by go_num,HI4.out,(HB.out.trans (HB3.out.mono (by omega))).trans HB4.out⟩
      case measure=>simp[intOf];omega
    · obtain rfl:k=len:=by omega
      rw[List.take_of_length_le (by have:=HLEN.out;omega)]at HIB;obtain⟨body,hbody⟩:=nm (pre++Its.bytes l);rw[hbody]at HIB;have hbl:body.length≤1000000000:=by
       rw[←hbody,List.length_append];have h1:=Its.bytes_le l;have h2:=HPL.out;have h3:=HM.out;omega
      have HBODY:=Hq hbody;clear hs1 hbody;go_wp2;obtain⟨wd,hwd⟩:=nm (wr.drew);have d0:wd.cell? ⟨w.heap.size,0,none⟩=some (.int .i64 q):=by rw[←hwd];exact b0
      have HIBC:=Hq (show Lib.IsBuilder 202 5 (w.heap.size+1) (w.heap.size+1) (Lib.byteCells body) wd from by rw[←hwd];exact bld_drew HIB.out);have HBD:=Hq (show Below w.heap.size w wd from by rw[←hwd];exact((HBL.out.trans (HB.out.mono (by omega))).drew));have hzd:w.heap.size+1≤wd.heap.size:=by rw[←hwd];exact hz1
      obtain⟨cb,hcb⟩:∃ cb:UInt8,UInt8.ofNat (q%256).toNat=cb:=⟨_,rfl⟩;have hq:q%256=(cb.toNat:Int):=by rw[←hcb,toNat_small (by omega)];omega
      have hlb:=lenF_length 10 body.length;have hadd1:∀ w,(Op.stringOp .add (bstr [cb]) (bstr (lenB body.length))).run Tryz.prog w=.ok (.string (bstr (cb::lenB body.length))) w:=fun w=>by
       rw[run_string_add_sum w _ _ (by rw[bstr_size,bstr_size];unfold lenB;simp;omega),bstr_append];rfl
      have hadd2:∀ w,(Op.stringOp .add (bstr (cb::lenB body.length)) (bstr body)).run Tryz.prog w=.ok (.string (bstr (cb::(lenB body.length++body)))) w:=fun w=>by
       rw[run_string_add_sum w _ _ (by rw[bstr_size,bstr_size];unfold lenB;simp;omega),bstr_append];rfl
      have hfin:=Hq (show (It.mk q n t l).bytes=cb::(lenB body.length++body)from by
       simp only[It.bytes];have e:n.data.toList++(t.data.toList++Its.bytes l)=body:=by rw[←List.append_assoc,HPRE.out,HBODY.out]
       rw[e,hcb])
      have HQ:=Hq hq;have HCB:=Hq hcb;have HWD:=Hq hwd;clear hq hcb hlb b0 b1 b2 b3;refine wp_region_K 11 (KeepB (w.heap.size+1) wd) (by kernel_rfl) ?_;rw[hwd];refine qPs 0 10 (KeepB.refl (w.heap.size+1) wd) ?_;refine qSs 1 9 (KeepB.refl (w.heap.size+1) wd) (fun w' hS'=>(hS'.cells _ _ d0)) ?_;refine qPs 2 8 (KeepB.refl (w.heap.size+1) wd) ?_;intro hD;refine wpAnyK_two (i:=3) (i':=5) (fuel:=7) (by kernel_rfl) rfl rfl hD ?_ ?_ 
      · unfold StepK;intro K3 hK3;go_wp2;refine hK3 _ _ (by exact KeepB.alloc (KeepB.refl (w.heap.size+1) wd) (Nat.le_trans hzd ((KeepB.refl (w.heap.size+1) wd)).below.size) _) ?_;clear hK3;intro hS_9_3;have hG:=keep_new hS_9_3;try (have HIBC:=Hq (keep_bld hS_9_3 HIBC.out))
        intro hD;refine wpAnyK_two (i:=4) (i':=5) (fuel:=6) (by kernel_rfl) rfl rfl hD ?_ ?_ 
        · unfold StepK;intro K4 hK4;have hcv:=conv_cell hG HQ.out;go_wp2;refine hK4 _ _ (by exact hS_9_3) ?_;clear hK4;intro hS_9_4_3;refine oO 5 5 ?_;intro K5 hK5;go_wp2_with fail;refine(Tryz.Builder_Len _ _ _ _ HIBC.out).mono ?_;rintro e w5 ⟨rfl,hw5⟩;subst w5;rw[Lib.byteCells_length];go_wp2;refine hK5 _ _ (by exact hS_9_4_3) ?_;clear hK5;intro hS_9_5_3_4;refine oO 6 4 ?_;intro K6 hK6;go_wp2_with fail;refine(enc_length body.length _ (by omega)).mono ?_;rintro e w6 ⟨rfl,hb6⟩;have HB6:=Hq hb6;clear hb6;have HIBC:=Hq (bld_kept HIBC.out HB6.out);try (replace hG:=kc HB6.out hG)
          go_wp2;refine hK6 _ _ (by exact(hS_9_5_3_4).trans (KeepB.of HB6.out nlr (Nat.le_trans hzd (hS_9_5_3_4).below.size))) ?_;clear hK6;intro hS_9_6_3_4;refine qPs 7 3 hS_9_6_3_4 ?_;refine oO 8 2 ?_;intro K8 hK8;go_wp2_with fail;refine(bld_String _ _ _ _ HIBC.out (Nat.le_trans hzd (hS_9_6_3_4).below.size)).mono ?_;rintro e w8 ⟨rfl,hb8⟩;have HB8:=Hq hb8;clear hb8;try (replace hG:=HB8.out.cells _ _ hG)
          go_wp2;refine hK8 _ _ (by exact(hS_9_6_3_4).trans HB8.out) ?_;clear hK8;intro hS_9_8_3_4;refine qPs 9 1 hS_9_8_3_4 ?_;refine oO 10 0 ?_;intro K10 hK10;go_wp2;refine hK10 _ _ (by exact hS_9_8_3_4) ?_;clear hK10;intro hS_9_10_3_4;refine wDn ?_;go_wp2;go_ret;exact⟨by rw[hfin.out];rfl,HBD.out.trans ((hS_9_10_3_4).below.mono (by omega))⟩
        · unfold StepK;intro K5 hK5;go_wp2_with fail;refine(Tryz.Builder_Len _ _ _ _ HIBC.out).mono ?_;rintro e w5 ⟨rfl,hw5⟩;subst w5;rw[Lib.byteCells_length];go_wp2;refine hK5 _ _ (by exact hS_9_3) ?_;clear hK5;intro hS_9_5_3;intro hD;refine wpAnyK_two (i:=4) (i':=6) (fuel:=5) (by kernel_rfl) rfl rfl hD ?_ ?_ 
          · unfold StepK;intro K4 hK4;have hcv:=conv_cell hG HQ.out;go_wp2;refine hK4 _ _ (by exact hS_9_5_3) ?_;clear hK4;intro hS_9_4_3_5;refine oO 6 4 ?_;intro K6 hK6;go_wp2_with fail;refine(enc_length body.length _ (by omega)).mono ?_;rintro e w6 ⟨rfl,hb6⟩;have HB6:=Hq hb6;clear hb6;have HIBC:=Hq (bld_kept HIBC.out HB6.out);try (replace hG:=kc HB6.out hG)
            go_wp2;refine hK6 _ _ (by exact(hS_9_4_3_5).trans (KeepB.of HB6.out nlr (Nat.le_trans hzd (hS_9_4_3_5).below.size))) ?_;clear hK6;intro hS_9_6_3_5_4;refine qPs 7 3 hS_9_6_3_5_4 ?_;refine oO 8 2 ?_;intro K8 hK8;go_wp2_with fail;refine(bld_String _ _ _ _ HIBC.out (Nat.le_trans hzd (hS_9_6_3_5_4).below.size)).mono ?_;rintro e w8 ⟨rfl,hb8⟩;have HB8:=Hq hb8;clear hb8;try (replace hG:=HB8.out.cells _ _ hG)
            go_wp2;refine hK8 _ _ (by exact(hS_9_6_3_5_4).trans HB8.out) ?_;clear hK8;intro hS_9_8_3_5_4;refine qPs 9 1 hS_9_8_3_5_4 ?_;refine oO 10 0 ?_;intro K10 hK10;go_wp2;refine hK10 _ _ (by exact hS_9_8_3_5_4) ?_;clear hK10;intro hS_9_10_3_5_4;refine wDn ?_;go_wp2;go_ret;exact⟨by rw[hfin.out];rfl,HBD.out.trans ((hS_9_10_3_5_4).below.mono (by omega))⟩
          · unfold StepK;intro K6 hK6;go_wp2_with fail;refine(enc_length body.length _ (by omega)).mono ?_;rintro e w6 ⟨rfl,hb6⟩;have HB6:=Hq hb6;clear hb6;have HIBC:=Hq (bld_kept HIBC.out HB6.out);try (replace hG:=kc HB6.out hG)
            go_wp2;refine hK6 _ _ (by exact(hS_9_5_3).trans (KeepB.of HB6.out nlr (Nat.le_trans hzd (hS_9_5_3).below.size))) ?_;clear hK6;intro hS_9_6_3_5;intro hD;refine wpAnyK_two (i:=4) (i':=8) (fuel:=4) (by kernel_rfl) rfl rfl hD ?_ ?_ 
            · unfold StepK;intro K4 hK4;have hcv:=conv_cell hG HQ.out;go_wp2;refine hK4 _ _ (by exact hS_9_6_3_5) ?_;clear hK4;intro hS_9_4_3_5_6;refine qPs 7 3 hS_9_4_3_5_6 ?_;refine oO 8 2 ?_;intro K8 hK8;go_wp2_with fail;refine(bld_String _ _ _ _ HIBC.out (Nat.le_trans hzd (hS_9_4_3_5_6).below.size)).mono ?_;rintro e w8 ⟨rfl,hb8⟩;have HB8:=Hq hb8;clear hb8;try (replace hG:=HB8.out.cells _ _ hG)
              go_wp2;refine hK8 _ _ (by exact(hS_9_4_3_5_6).trans HB8.out) ?_;clear hK8;intro hS_9_8_3_5_6_4;refine qPs 9 1 hS_9_8_3_5_6_4 ?_;refine oO 10 0 ?_;intro K10 hK10;go_wp2;refine hK10 _ _ (by exact hS_9_8_3_5_6_4) ?_;clear hK10;intro hS_9_10_3_5_6_4;refine wDn ?_;go_wp2;go_ret;exact⟨by rw[hfin.out];rfl,HBD.out.trans ((hS_9_10_3_5_6_4).below.mono (by omega))⟩
            · unfold StepK;intro K8 hK8;go_wp2_with fail;refine(bld_String _ _ _ _ HIBC.out (Nat.le_trans hzd (hS_9_6_3_5).below.size)).mono ?_;rintro e w8 ⟨rfl,hb8⟩;have HB8:=Hq hb8;clear hb8;try (replace hG:=HB8.out.cells _ _ hG)
              go_wp2;refine hK8 _ _ (by exact(hS_9_6_3_5).trans HB8.out) ?_;clear hK8;intro hS_9_8_3_5_6;refine oO 4 3 ?_;intro K4 hK4;have hcv:=conv_cell hG HQ.out;go_wp2;refine hK4 _ _ (by exact hS_9_8_3_5_6) ?_;clear hK4;intro hS_9_4_3_5_6_8;refine qPs 7 2 hS_9_4_3_5_6_8 ?_;refine qPs 9 1 hS_9_4_3_5_6_8 ?_;refine oO 10 0 ?_;intro K10 hK10;go_wp2;refine hK10 _ _ (by exact hS_9_4_3_5_6_8) ?_;clear hK10;intro hS_9_10_3_5_6_8;refine wDn ?_;go_wp2;go_ret;exact⟨by rw[hfin.out];rfl,HBD.out.trans ((hS_9_10_3_5_6_8).below.mono (by omega))⟩
      · unfold StepK;intro K5 hK5;go_wp2_with fail;refine(Tryz.Builder_Len _ _ _ _ HIBC.out).mono ?_;rintro e w5 ⟨rfl,hw5⟩;subst w5;rw[Lib.byteCells_length];go_wp2;refine hK5 _ _ (by exact(KeepB.refl (w.heap.size+1) wd)) ?_;clear hK5;intro hS_9_5;intro hD;refine wpAnyK_two (i:=3) (i':=6) (fuel:=6) (by kernel_rfl) rfl rfl hD ?_ ?_ 
        · unfold StepK;intro K3 hK3;go_wp2;refine hK3 _ _ (by exact KeepB.alloc hS_9_5 (Nat.le_trans hzd (hS_9_5).below.size) _) ?_;clear hK3;intro hS_9_3_5;have hG:=keep_new hS_9_3_5;try (have HIBC:=Hq (keep_bld hS_9_3_5 HIBC.out))
          intro hD;refine wpAnyK_two (i:=4) (i':=6) (fuel:=5) (by kernel_rfl) rfl rfl hD ?_ ?_ 
          · unfold StepK;intro K4 hK4;have hcv:=conv_cell hG HQ.out;go_wp2;refine hK4 _ _ (by exact hS_9_3_5) ?_;clear hK4;intro hS_9_4_5_3;refine oO 6 4 ?_;intro K6 hK6;go_wp2_with fail;refine(enc_length body.length _ (by omega)).mono ?_;rintro e w6 ⟨rfl,hb6⟩;have HB6:=Hq hb6;clear hb6;have HIBC:=Hq (bld_kept HIBC.out HB6.out);try (replace hG:=kc HB6.out hG)
            go_wp2;refine hK6 _ _ (by exact(hS_9_4_5_3).trans (KeepB.of HB6.out nlr (Nat.le_trans hzd (hS_9_4_5_3).below.size))) ?_;clear hK6;intro hS_9_6_5_3_4;refine qPs 7 3 hS_9_6_5_3_4 ?_;refine oO 8 2 ?_;intro K8 hK8;go_wp2_with fail;refine(bld_String _ _ _ _ HIBC.out (Nat.le_trans hzd (hS_9_6_5_3_4).below.size)).mono ?_;rintro e w8 ⟨rfl,hb8⟩;have HB8:=Hq hb8;clear hb8;try (replace hG:=HB8.out.cells _ _ hG)
            go_wp2;refine hK8 _ _ (by exact(hS_9_6_5_3_4).trans HB8.out) ?_;clear hK8;intro hS_9_8_5_3_4;refine qPs 9 1 hS_9_8_5_3_4 ?_;refine oO 10 0 ?_;intro K10 hK10;go_wp2;refine hK10 _ _ (by exact hS_9_8_5_3_4) ?_;clear hK10;intro hS_9_10_5_3_4;refine wDn ?_;go_wp2;go_ret;exact⟨by rw[hfin.out];rfl,HBD.out.trans ((hS_9_10_5_3_4).below.mono (by omega))⟩
          · unfold StepK;intro K6 hK6;go_wp2_with fail;refine(enc_length body.length _ (by omega)).mono ?_;rintro e w6 ⟨rfl,hb6⟩;have HB6:=Hq hb6;clear hb6;have HIBC:=Hq (bld_kept HIBC.out HB6.out);try (replace hG:=kc HB6.out hG)
            go_wp2;refine hK6 _ _ (by exact(hS_9_3_5).trans (KeepB.of HB6.out nlr (Nat.le_trans hzd (hS_9_3_5).below.size))) ?_;clear hK6;intro hS_9_6_5_3;intro hD;refine wpAnyK_two (i:=4) (i':=8) (fuel:=4) (by kernel_rfl) rfl rfl hD ?_ ?_ 
            · unfold StepK;intro K4 hK4;have hcv:=conv_cell hG HQ.out;go_wp2;refine hK4 _ _ (by exact hS_9_6_5_3) ?_;clear hK4;intro hS_9_4_5_3_6;refine qPs 7 3 hS_9_4_5_3_6 ?_;refine oO 8 2 ?_;intro K8 hK8;go_wp2_with fail;refine(bld_String _ _ _ _ HIBC.out (Nat.le_trans hzd (hS_9_4_5_3_6).below.size)).mono ?_;rintro e w8 ⟨rfl,hb8⟩;have HB8:=Hq hb8;clear hb8;try (replace hG:=HB8.out.cells _ _ hG)
              go_wp2;refine hK8 _ _ (by exact(hS_9_4_5_3_6).trans HB8.out) ?_;clear hK8;intro hS_9_8_5_3_6_4;refine qPs 9 1 hS_9_8_5_3_6_4 ?_;refine oO 10 0 ?_;intro K10 hK10;go_wp2;refine hK10 _ _ (by exact hS_9_8_5_3_6_4) ?_;clear hK10;intro hS_9_10_5_3_6_4;refine wDn ?_;go_wp2;go_ret;exact⟨by rw[hfin.out];rfl,HBD.out.trans ((hS_9_10_5_3_6_4).below.mono (by omega))⟩
            · unfold StepK;intro K8 hK8;go_wp2_with fail;refine(bld_String _ _ _ _ HIBC.out (Nat.le_trans hzd (hS_9_6_5_3).below.size)).mono ?_;rintro e w8 ⟨rfl,hb8⟩;have HB8:=Hq hb8;clear hb8;try (replace hG:=HB8.out.cells _ _ hG)
              go_wp2;refine hK8 _ _ (by exact(hS_9_6_5_3).trans HB8.out) ?_;clear hK8;intro hS_9_8_5_3_6;refine oO 4 3 ?_;intro K4 hK4;have hcv:=conv_cell hG HQ.out;go_wp2;refine hK4 _ _ (by exact hS_9_8_5_3_6) ?_;clear hK4;intro hS_9_4_5_3_6_8;refine qPs 7 2 hS_9_4_5_3_6_8 ?_;refine qPs 9 1 hS_9_4_5_3_6_8 ?_;refine oO 10 0 ?_;intro K10 hK10;go_wp2;refine hK10 _ _ (by exact hS_9_4_5_3_6_8) ?_;clear hK10;intro hS_9_10_5_3_6_8;refine wDn ?_;go_wp2;go_ret;exact⟨by rw[hfin.out];rfl,HBD.out.trans ((hS_9_10_5_3_6_8).below.mono (by omega))⟩
        · unfold StepK;intro K6 hK6;go_wp2_with fail;refine(enc_length body.length _ (by omega)).mono ?_;rintro e w6 ⟨rfl,hb6⟩;have HB6:=Hq hb6;clear hb6;have HIBC:=Hq (bld_kept HIBC.out HB6.out);try (replace hG:=kc HB6.out hG)
          go_wp2;refine hK6 _ _ (by exact(hS_9_5).trans (KeepB.of HB6.out nlr (Nat.le_trans hzd (hS_9_5).below.size))) ?_;clear hK6;intro hS_9_6_5;intro hD;refine wpAnyK_two (i:=3) (i':=8) (fuel:=5) (by kernel_rfl) rfl rfl hD ?_ ?_ 
          · unfold StepK;intro K3 hK3;go_wp2;refine hK3 _ _ (by exact KeepB.alloc hS_9_6_5 (Nat.le_trans hzd (hS_9_6_5).below.size) _) ?_;clear hK3;intro hS_9_3_5_6;have hG:=keep_new hS_9_3_5_6;try (have HIBC:=Hq (keep_bld hS_9_3_5_6 HIBC.out))
            intro hD;refine wpAnyK_two (i:=4) (i':=8) (fuel:=4) (by kernel_rfl) rfl rfl hD ?_ ?_ 
            · unfold StepK;intro K4 hK4;have hcv:=conv_cell hG HQ.out;go_wp2;refine hK4 _ _ (by exact hS_9_3_5_6) ?_;clear hK4;intro hS_9_4_5_6_3;refine qPs 7 3 hS_9_4_5_6_3 ?_;refine oO 8 2 ?_;intro K8 hK8;go_wp2_with fail;refine(bld_String _ _ _ _ HIBC.out (Nat.le_trans hzd (hS_9_4_5_6_3).below.size)).mono ?_;rintro e w8 ⟨rfl,hb8⟩;have HB8:=Hq hb8;clear hb8;try (replace hG:=HB8.out.cells _ _ hG)
              go_wp2;refine hK8 _ _ (by exact(hS_9_4_5_6_3).trans HB8.out) ?_;clear hK8;intro hS_9_8_5_6_3_4;refine qPs 9 1 hS_9_8_5_6_3_4 ?_;refine oO 10 0 ?_;intro K10 hK10;go_wp2;refine hK10 _ _ (by exact hS_9_8_5_6_3_4) ?_;clear hK10;intro hS_9_10_5_6_3_4;refine wDn ?_;go_wp2;go_ret;exact⟨by rw[hfin.out];rfl,HBD.out.trans ((hS_9_10_5_6_3_4).below.mono (by omega))⟩
            · unfold StepK;intro K8 hK8;go_wp2_with fail;refine(bld_String _ _ _ _ HIBC.out (Nat.le_trans hzd (hS_9_3_5_6).below.size)).mono ?_;rintro e w8 ⟨rfl,hb8⟩;have HB8:=Hq hb8;clear hb8;try (replace hG:=HB8.out.cells _ _ hG)
              go_wp2;refine hK8 _ _ (by exact(hS_9_3_5_6).trans HB8.out) ?_;clear hK8;intro hS_9_8_5_6_3;refine oO 4 3 ?_;intro K4 hK4;have hcv:=conv_cell hG HQ.out;go_wp2;refine hK4 _ _ (by exact hS_9_8_5_6_3) ?_;clear hK4;intro hS_9_4_5_6_3_8;refine qPs 7 2 hS_9_4_5_6_3_8 ?_;refine qPs 9 1 hS_9_4_5_6_3_8 ?_;refine oO 10 0 ?_;intro K10 hK10;go_wp2;refine hK10 _ _ (by exact hS_9_4_5_6_3_8) ?_;clear hK10;intro hS_9_10_5_6_3_8;refine wDn ?_;go_wp2;go_ret;exact⟨by rw[hfin.out];rfl,HBD.out.trans ((hS_9_10_5_6_3_8).below.mono (by omega))⟩
          · unfold StepK;intro K8 hK8;go_wp2_with fail;refine(bld_String _ _ _ _ HIBC.out (Nat.le_trans hzd (hS_9_6_5).below.size)).mono ?_;rintro e w8 ⟨rfl,hb8⟩;have HB8:=Hq hb8;clear hb8;try (replace hG:=HB8.out.cells _ _ hG)
            go_wp2;refine hK8 _ _ (by exact(hS_9_6_5).trans HB8.out) ?_;clear hK8;intro hS_9_8_5_6;refine oO 3 4 ?_;intro K3 hK3;go_wp2;refine hK3 _ _ (by exact KeepB.alloc hS_9_8_5_6 (Nat.le_trans hzd (hS_9_8_5_6).below.size) _) ?_;clear hK3;intro hS_9_3_5_6_8;have hG:=keep_new hS_9_3_5_6_8;try (have HIBC:=Hq (keep_bld hS_9_3_5_6_8 HIBC.out))
            refine oO 4 3 ?_;intro K4 hK4;have hcv:=conv_cell hG HQ.out;go_wp2;refine hK4 _ _ (by exact hS_9_3_5_6_8) ?_;clear hK4;intro hS_9_4_5_6_8;refine qPs 7 2 hS_9_4_5_6_8 ?_;refine qPs 9 1 hS_9_4_5_6_8 ?_;refine oO 10 0 ?_;intro K10 hK10;go_wp2;refine hK10 _ _ (by exact hS_9_4_5_6_8) ?_;clear hK10;intro hS_9_10_5_6_8;refine wDn ?_;go_wp2;go_ret;exact⟨by rw[hfin.out];rfl,HBD.out.trans ((hS_9_10_5_6_8).below.mono (by omega))⟩
set_option maxRecDepth 100000
set_option maxHeartbeats 2000000
def encS(x:It):ByteArray×Int:=
 if x.valid=false then(⟨#[]⟩,3)else if 32<x.depth then(⟨#[]⟩,7)else if 65536<x.bytes.length then(⟨#[]⟩,5)else(bstr x.bytes,0)
def RetSE(r:ByteArray×Int)(w:World)(e:Ending)(w':World):Prop:=e=.returned (.tuple #[.string r.1,.int .i64 r.2])∧Below w.heap.size w w'
theorem enc_Encode(x:It)(v:Value)(w:World)(ok:Nat→Prop)(hM:x.weight≤1000000000)(hx:ItAt w ok v x):Calls Tryz.prog 90 #[v] w (RetSE (encS x) w):=by
 obtain⟨A,len,cap,rfl,hs⟩:=hx;have hbd:=x.bytes_le;have hdd:=Nat.le_trans x.depth_le x.nodes_le;obtain⟨w1,hw1⟩:=nm (w.alloc (.cells #[.int .i64 x.kind,.string x.nat,.string x.text,.slice A len cap] 151));have hbox:w1.heap[w.heap.size]? =some (.cells #[.int .i64 x.kind,.string x.nat,.string x.text,.slice A len cap] 151 (0,0)):=by rw[←hw1];exact heap_alloc_new _ _
 have hb1:Below w.heap.size w w1:=by rw[←hw1];exact(blr).alloc nlr _
 have hi1:ItAt w1 (fun b=>ok b∧b<w.heap.size) (.agg #[.int .i64 x.kind,.string x.nat,.string x.text,.slice A len cap]) x:=⟨A,len,cap,rfl,hs.bound.below hb1 nlr⟩;have HI1:=Hq hi1;have HB1:=Hq hb1;have HBOX:=Hq hbox;have HW1:=Hq hw1;obtain⟨b0,b1,b2,b3⟩:=four_cells hbox;clear hi1 hb1 hbox hw1 hs;have hz1:w.heap.size+1≤w1.heap.size:=block_lt HBOX.out
 cases hv:x.valid with
 | false =>
  have hr:encS x=(⟨#[]⟩,3):=by simp[encS,hv]
  rw[hr];have HV:=Hq hv;clear hr hv;go_enter Tryz.func90,Tryz.ntmps90;go_wp2_with fail;rw[HW1.out];refine(enc_valid _ x _ _ _ nlr (by omega) HI1.out).mono ?_;rintro e w2 ⟨rfl,hb2⟩;rw[HV.out];go_wp2;go_ret2;exact⟨rfl,HB1.out.trans (hb2.mono (by omega))⟩
 | true =>
  have HV:=Hq hv;by_cases hd:32<x.depth
  · have hr:encS x=(⟨#[]⟩,7):=by simp[encS,hv,hd]
    rw[hr];clear hr hv;go_enter Tryz.func90,Tryz.ntmps90;go_wp2_with fail;rw[HW1.out];refine(enc_valid _ x _ _ _ nlr (by omega) HI1.out).mono ?_;rintro e w2 ⟨rfl,hb2⟩;rw[HV.out];have HB2:=Hq hb2;obtain⟨q0,q1,q2,q3⟩:=four_cells (block_kept hb2 nlr HBOX.out);have hz2:=hb2.size;clear hb2 b0 b1 b2 b3;go_wp2_with fail;refine(enc_depth _ x _ _ _ nlr (by omega) (HI1.out.below HB2.out nlr)).mono ?_;rintro e w3 ⟨rfl,hb3⟩;have HB3:=Hq hb3;clear hb3;go_wp2;go_ret2;exact⟨rfl,(HB1.out.trans (HB2.out.mono (by omega))).trans (HB3.out.mono (by omega))⟩
  · by_cases hl:65536<x.bytes.length;all_goals
     first
     | (have hr : encS x = (⟨#[]⟩, 5) := by simp [encS, hv, hd, hl]
        rw[hr])
     | (have hr : encS x = (bstr x.bytes, 0) := by simp [encS, hv, hd, hl]
        rw[hr])
     clear hr hv;have hbs:=bstr_size x.bytes;rw[←hbs]at hl;have HBS:=Hq hbs;clear hbs;go_enter Tryz.func90,Tryz.ntmps90;go_wp2_with fail;rw[HW1.out];refine(enc_valid _ x _ _ _ nlr (by omega) HI1.out).mono ?_;rintro e w2 ⟨rfl,hb2⟩;rw[HV.out];have HB2:=Hq hb2;obtain⟨q0,q1,q2,q3⟩:=four_cells (block_kept hb2 nlr HBOX.out);have HBOX2:=Hq (block_kept hb2 nlr HBOX.out);have hz2:=hb2.size;clear hb2 b0 b1 b2 b3;go_wp2_with fail;refine(enc_depth _ x _ _ _ nlr (by omega) (HI1.out.below HB2.out nlr)).mono ?_;rintro e w3 ⟨rfl,hb3⟩;have HB3:=Hq hb3;obtain⟨p0,p1,p2,p3⟩:=four_cells (block_kept hb3 nlr HBOX2.out);have hz3:=hb3.size;clear hb3 q0 q1 q2 q3;go_wp2_with fail;refine(enc_write _ x _ _ _ nlr (by omega) ((HI1.out.below HB2.out nlr).below HB3.out nlr)).mono ?_;rintro e w4 ⟨rfl,hb4⟩;have HB4:=Hq hb4;clear hb4;go_wp2;go_ret2;exact⟨rfl,((HB1.out.trans (HB2.out.mono (by omega))).trans (HB3.out.mono (by omega))).trans (HB4.out.mono (by omega))⟩
set_option maxRecDepth 100000
set_option maxHeartbeats 1000000
theorem cl_nats(l:List ByteArray)(A:Option Addr)(len cap:Nat)(w:World)(hs:SlN w A len cap l)(hlb:len≤1000000000000):Calls Tryz.prog 26 #[.slice A len cap] w (RetRow 22 1 len (l.map Value.string) w):=by
 have hee:=fun(w:World) (a:Option Addr) (n c:Nat)=>Lib.run_eql_slice_nil (P:=Tryz.prog) w 25 22 a n c 0 0 Tryz.underlying25
 cases A with
 | none =>
  have h0:len=0:=by
   rcases Nat.eq_zero_or_pos len with h | h
   · exact h
   · obtain⟨b,o,e⟩:=hs.head h;cases e
  subst h0;have hl:l=[]:=List.length_eq_zero_iff.1 hs.1;subst hl;clear hs;go_enter Tryz.func26,Tryz.ntmps26;go_wp2;go_ret;exact⟨_,rfl,World.ownsRow_nil _ _ _ _,Below.refl _ _⟩
 | some ad =>
  have hcells:=hs.cells;have HC:=Hq hcells;have HV:=Hq (show (l.map Value.string).length=len * 1 from by rw[List.length_map,hs.1,Nat.mul_one]);have HO:=Hq (strs_one l);obtain⟨i0,hi,hz0,hz1,hz2⟩:=info_parts nat_info;clear hs hcells;go_enter Tryz.func26,Tryz.ntmps26;go_wp2_with (at_builtin;refine wpList_append_own _ rfl (.tmp 5) (.tmp 6) 25 rfl w.heap.size 22 i0 _ 1 16 Tryz.underlying25 hi hz0 hz1 hz2 rfl (by decide) _ 0 [] rfl (World.ownsRow_made w _ _ nlr ?h0 ?h9) ad len cap (l.map Value.string) rfl ?h1 ?h2 HO.out ?h4 ?h5 ?h6 ?_);case h0=>unfold maxLen;omega
  case h9=>rfl
  case h1=>exact HV.out
  case h2=>exact fun j u hj=>cell_kept (w:=w) ((blr).alloc nlr _) nlr (HC.out j u hj)
  case h4=>unfold maxLen;omega
  case h5=>omega
  case h6=>simp
  intro v' w' hown hgrow _;have hb:Below w.heap.size w w':=((blr).alloc nlr _).grown hgrow (by simp) (fun k e=>by simp only[Value.ownBlock,Option.some.injEq]at e;omega);have HOWN:=Hq hown;have HB:=Hq hb;clear hown hgrow hb;go_wp2;go_ret;exact⟨_,rfl,HOWN.out,HB.out⟩
end Go.Proofs.YtmahgbhpdfbbjaaGreatDoor

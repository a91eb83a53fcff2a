import Derived.Test.YtkfgdcgmlobhfaaGreatQEncD
set_option linter.unusedVariables false
set_option linter.unusedSimpArgs false
namespace Go.Proofs.YtkfgdcgmlobhfaaGreat
set_option maxRecDepth 100000
set_option maxHeartbeats 2000000
open Go.RowKit
theorem zjv(w:World)(c:Nat)(h:c<256)(b:Nat)(hb:b=w.heap.size)(T:TypeId):(convert 140 9 (.slice (some ⟨b,0,none⟩) 1 1)).run Tryz.prog (w.alloc (.cells #[.int .u8 (c:Int)] T)) =
 .ok (.string (bstr [UInt8.ofNat c])) (w.alloc (.cells #[.int .u8 (c:Int)] T)):=by
 subst hb;refine BytesAt.conv (xt w _ T [UInt8.ofNat c] 1 1 rfl (by omega) (by omega) fun k hk=>?_) _ _ 5 Tryz.underlying140 Tryz.underlying5 Tryz.underlying9
 match k,hk with
 | 0,_=>exact congrArg (fun x=>some (Value.int .u8 x)) (congrArg Int.ofNat (jd h).symm)
theorem xq(l m:List UInt8):bstr l++bstr m=bstr (l++m):=by
 unfold bstr;rw[ByteArray.mk_append_mk]
theorem zco(n:Nat)(w:World)(h:n<34359738368):Calls Tryz.prog 175 #[.int .i64 n] w (Ret (.string (bstr (lenB n))) w):=by
 have hn:(n:Int)≤34359738368:=by omega
 have h0:n<128 ^ 10:=by omega
 have H0:=Hq h0;clear h h0;go_enter Tryz.func175,Tryz.ntmps175;go_wp2;go_loopw [0,3] (fun m s wr=>∃(q f:Nat) (p:List UInt8),m=.int .i64 q∧s=.string (bstr p)∧lenB n=p++lenF (f+1) q∧p.length+f=9∧q<128 ^ (f+1)∧q≤n∧Below w.heap.size w wr) (fun m _ _=>(intOf m).toNat);case atStart=>exact⟨n,9,[],rfl,rfl,rfl,rfl,H0.out,Nat.le_refl _,Below.refl _ _⟩
 case round =>
  obtain⟨q,f,p,rfl,rfl,hl,hp,hq,hqn,hB⟩:=hrel;have hps:(bstr p).size≤10:=by rw[jo];omega
  have hsz:=hB.size;have HL:=Hq hl;have HP:=Hq hp;have HQ:=Hq hq;have HB:=Hq hB;clear hl hp hq hB;by_cases h1:q<128
  · have hc:=zjv wr q (by omega) _ rfl 5;have hs:=jo [UInt8.ofNat q];have hadd:=run_string_add_sum (P:=Tryz.prog) (wr.alloc (.cells #[.int .u8 (q:Int)] 5)) (bstr p) (bstr [UInt8.ofNat q]) (by rw[hs];simp;omega);rw[xq]at hadd;clear hs;go_wp2;go_ret;refine⟨?_,HB.out.alloc hsz _⟩;have e:=HL.out;rw[lenF,if_pos h1]at e;rw[e];rfl
  · obtain⟨f',hf⟩:∃ f',f=f'+1:=by
     cases f with
     | zero=>have:=HQ.out;omega
     | succ f'=>exact⟨f',rfl⟩
    subst hf;have hc:=zjv wr (q%128+128) (by omega) _ rfl 5;rw[show (((q%128+128:Nat):Int))=(q:Int)%128+128 from by omega]at hc;have hs:=jo [UInt8.ofNat (q%128+128)];have hadd:=run_string_add_sum (P:=Tryz.prog) (wr.alloc (.cells #[.int .u8 ((q:Int)%128+128)] 5)) (bstr p) (bstr [UInt8.ofNat (q%128+128)]) (by rw[hs];simp;omega);rw[xq]at hadd;clear hs;obtain⟨c,hcc⟩:∃ c:UInt8,UInt8.ofNat (q%128+128)=c:=⟨_,rfl⟩;rw[hcc]at hc hadd;have HCC:=Hq hcc;clear hcc;go_wp2;refine⟨⟨q / 128,f',_,by go_num,rfl,?_,?_,?_,by omega,HB.out.alloc hsz _⟩,by simp[intOf];omega⟩
    · rw[HL.out,lenF,if_neg h1,HCC.out];simp
    · have:=HP.out;simp;omega
    · have:=HQ.out;rw[Nat.pow_succ]at this;exact Nat.div_lt_of_lt_mul (by omega)
set_option maxRecDepth 100000
set_option maxHeartbeats 2000000
theorem zj5:(Tryz.prog.info? 182).map (·.size)=some 2:=by kernel_rfl
theorem zot:liesAt Tryz.prog Tryz.prog.depth 182 (2 / Tryz.prog.cellsOf 182) 0 182 1=true:=by kernel_rfl
theorem zne:(Tryz.prog.info? 5).map (fun i=>(i.zero,i.size,i.bytes))=some (some (.int .u8 0),1,1):=by kernel_rfl
theorem zes(b:Nat)(w:World)(h0:w.cell? ⟨b,0,none⟩=some (.pointer (some ⟨b,0,none⟩))) :
 Calls Tryz.prog 190 #[.pointer (some ⟨b,0,none⟩)] w fun e w'=>e=.returned (.tuple #[])∧w=w':=by
 obtain⟨j,hj,_⟩:=Option.map_eq_some_iff.1 zj5;have hne:=Lib.run_neq_ptr_same (P:=Tryz.prog) w ⟨b,0,none⟩ Tryz.underlying180 hj;go_enter Tryz.func190,Tryz.ntmps190;go_wp2;go_end0;exact⟨rfl,rfl⟩
theorem zeh(b:Nat)(w:World)(h0:w.cell? ⟨b,0,none⟩=some (.pointer none))(hsh:w.shape? b=some (182,2))(hfz:w.frozen? ⟨b,0,none⟩=false) :
 Calls Tryz.prog 190 #[.pointer (some ⟨b,0,none⟩)] w fun e w'=>e=.returned (.tuple #[])∧w.setCell ⟨b,0,none⟩ (.pointer (some ⟨b,0,none⟩))=w':=by
 obtain⟨j,hj,hjs⟩:=Option.map_eq_some_iff.1 zj5;go_enter Tryz.func190,Tryz.ntmps190;go_wp2;rw[Lib.run_to_unsafe w ⟨b,0,none⟩ Tryz.underlying180 Tryz.underlying232 hj (by rw[hjs];decide) hsh (Nat.zero_lt_succ 1)];simp only[Result.andThen];rw[Oper.upon_value];go_wp2;rw[run_callFunc_extern Tryz.func212 (by kernel_rfl) (by kernel_rfl) (by kernel_rfl) (e:=Extern.AbiNoEscape.same) (by kernel_rfl)];rw[Lib.run_noEscape];simp only[Result.andThen];rw[Oper.upon_value];go_wp2;rw[Lib.run_from_unsafe w ⟨b,0,none⟩ Tryz.underlying232 Tryz.underlying180 hj hsh zot];simp only[Result.andThen];rw[Oper.upon_value];go_wp2;go_end0;exact⟨rfl,rfl⟩
theorem zm6(B b:Nat)(bs:List Value)(w:World)(h:Lib.IsBuilder 182 5 B b bs w) :
 Calls Tryz.prog 190 #[.pointer (some ⟨b,0,none⟩)] w fun e w'=>e=.returned (.tuple #[])∧(Lib.BuilderAt 182 5 B b (.pointer (some ⟨b,0,none⟩)) bs w'∧Below B w w'):=by
 rcases h with h | h
 · refine(zeh b w h.cell0 h.shape h.frozen0).mono ?_;rintro e w' ⟨rfl,rfl⟩;exact⟨rfl,h.used _,(Below.refl B w).setCell (p:=⟨b,0,none⟩) h.1 _⟩
 · refine(zes b w h.cell0).mono ?_;rintro e w' ⟨rfl,rfl⟩;exact⟨rfl,h,Below.refl B _⟩
theorem qg(B b:Nat)(bs:List Value)(s:ByteArray)(w:World)(h:Lib.IsBuilder 182 5 B b bs w)(hlen:bs.length+s.size≤140737488355328)(hBw:B≤w.heap.size) :
 Calls Tryz.prog 142 #[.pointer (some ⟨b,0,none⟩),.string s] w fun e w'=>e=.returned (.tuple #[.int .i64 s.size,.nilIface]) ∧
  (Lib.IsBuilder 182 5 B b (bs++Lib.strCells s) w'∧Below B w w'):=by
 obtain⟨i0,hi,hz0,hz1,hz2⟩:=info_parts zne;go_enter Tryz.func142,Tryz.ntmps142;go_wp2_with fail;refine(zm6 B b bs _ h).mono ?_;rintro e w1 ⟨rfl,h1,hb1⟩;obtain⟨hB,v,hbk,hown,hne⟩:=h1;have c0:w1.cell? ⟨b,0,none⟩=some (.pointer (some ⟨b,0,none⟩)):=by rw[Lib.cell_of_heap hbk];rfl
 have c1:w1.cell? ⟨b,1,none⟩=some v:=by rw[Lib.cell_of_heap hbk];rfl
 go_wp2_with (at_builtin;refine Lib.wpList_append_own_string _ rfl _ _ 140 9 rfl B 5 i0 Tryz.underlying140 Tryz.underlying9 hi hz0 hz1 hz2 _ _ _ rfl hown s rfl ?c3 ?c4 ?c5 ?_);case c3=>unfold maxLen;omega
 case c4=>omega
 case c5=>have:=hb1.size;omega
 intro v' w2 hown' hgrow _;have hlt:b<w1.heap.size:=by
  rcases Nat.lt_or_ge b w1.heap.size with h' | h'
  · exact h'
  · rw[Array.getElem?_eq_none h']at hbk;cases hbk
 have hb2:w2.heap[b]? =some (.cells #[.pointer (some ⟨b,0,none⟩),v] 182 (0,0)):=(by rw[hgrow.block b hlt (fun e=>hne e.symm)];exact hbk);have d0:w2.cell? ⟨b,0,none⟩=some (.pointer (some ⟨b,0,none⟩)):=by rw[Lib.cell_of_heap hb2];rfl
 have d1:w2.cell? ⟨b,1,none⟩=some v:=by rw[Lib.cell_of_heap hb2];rfl
 have f1:w2.frozen? ⟨b,1,none⟩=false:=Lib.frozen_of_heap hb2 1;obtain⟨ao,n',cap,rfl⟩:∃ ao n' cap,v'=.slice ao n' cap:=by
  rcases hown'.2 with⟨hv,_⟩ | ⟨g,cap,cur,hv,_⟩
  · exact⟨_,_,_,hv⟩
  · exact⟨_,_,_,hv⟩
 go_wp2;go_ret2;refine⟨rfl,.inr ?_,?_⟩
 · exact Lib.BuilderAt.put hB hb2 (bs':=bs++Lib.strCells s) (by simpa[Lib.strCells_length]using hown') (by decide)
 · exact(hb1.grown hgrow (by have:=hb1.size;omega) (fun k hk=>(hown.lt k hk).1)).setCell (p:=⟨b,1,none⟩) hB _
theorem znf:Tryz.prog.cellsOf 5=1:=by kernel_rfl
theorem ku{B b:Nat}{bs:List Value}{w w':World}(h:Lib.IsBuilder 182 5 B b bs w)(hb:Below w.heap.size w w'):Lib.IsBuilder 182 5 B b bs w':=by
 rcases h with⟨h1,v,h2,h3,h4⟩ | ⟨h1,v,h2,h3,h4⟩
 · exact .inl ⟨h1,v,jc hb nlr h2,jy h3 hb nlr,h4⟩
 · exact .inr ⟨h1,v,jc hb nlr h2,jy h3 hb nlr,h4⟩
theorem zou{B b:Nat}{bs:List Value}{w:World}(h:Lib.IsBuilder 182 5 B b bs w):Lib.IsBuilder 182 5 B b bs w.drew:=ku h (blr).drew
theorem xj(B b:Nat)(l:List UInt8)(w:World)(h:Lib.IsBuilder 182 5 B b (Lib.byteCells l) w)(hBw:B≤w.heap.size) :
 Calls Tryz.prog 145 #[.pointer (some ⟨b,0,none⟩)] w fun e w'=>e=.returned (.string (bstr l))∧KeepB B w w':=by
 obtain⟨p,hB,v,hbk,hown,hne⟩:∃ p,Lib.BuilderAt 182 5 B b p (Lib.byteCells l) w:=by
  rcases h with h | h
  · exact⟨_,h⟩
  · exact⟨_,h⟩
 clear h;have hlt:b<w.heap.size:=zw hbk;rw[Lib.byteCells_length]at hown;by_cases h0:l=[]
 · subst h0;have hUS:∀(W:World) (q:Option Addr),(Builtin.unsafeString_ #[219,3] 9 #[.pointer q,.int .i64 0]).run Tryz.prog W=.ok (.string .empty) W:=fun W q=>Lib.run_unsafeString_none W _ _ _ q;rcases hown.2 with⟨rfl,_⟩ | ⟨g,cap,cur,rfl,hbg,hg,_,_,_,_⟩
   · have c1:w.drew.cell? ⟨b,1,none⟩=some (.slice none 0 0):=(by rw[cell?_drew,Lib.cell_of_heap hbk];rfl);have hSD:(Builtin.unsafeSliceData_ #[140] 219 #[.slice none 0 0]).run Tryz.prog w.drew=.ok (.pointer none) w.drew:=rfl;clear hown hne hbk;go_enter Tryz.func145,Tryz.ntmps145;go_wp2;go_region;all_goals (go_wp2;go_ret;exact⟨rfl,(KeepB.refl B w).drew⟩)
   · by_cases hc0:cap=0
     · subst hc0;have c1:w.drew.cell? ⟨b,1,none⟩=some (.slice (some ⟨g,0,none⟩) 0 0):=by
        rw[cell?_drew,Lib.cell_of_heap hbk];rfl
       have hSD:(Builtin.unsafeSliceData_ #[140] 219 #[.slice (some ⟨g,0,none⟩) 0 0]).run Tryz.prog w.drew=.ok (.pointer (some ⟨w.drew.heap.size,0,none⟩)) (w.drew.alloc (.view ⟨g,0,none⟩ 5)):=
        Lib.run_unsafeSliceData_zero w.drew _ _ 5 Tryz.underlying219 ⟨g,0,none⟩ 0 (5,cur.size) (by have hg':w.drew.heap[g]? =some (.cells cur 5 (0,0)):=hg;simp[World.shape?,hg'])
       have c2:(w.drew.alloc (.view ⟨g,0,none⟩ 5)).cell? ⟨b,1,none⟩=some (.slice (some ⟨g,0,none⟩) 0 0):=(by have : (w.drew.alloc (.view ⟨g,0,none⟩ 5)).heap[b]? =_:=(Lib.alloc_old w.drew _ b hlt).trans hbk;rw[Lib.cell_of_heap this];rfl);have c3:(w.alloc (.view ⟨g,0,none⟩ 5)).drew.cell? ⟨b,1,none⟩=some (.slice (some ⟨g,0,none⟩) 0 0):=c2;have c0:w.cell? ⟨b,1,none⟩=some (.slice (some ⟨g,0,none⟩) 0 0):=c1;clear hown hne hbk;go_enter Tryz.func145,Tryz.ntmps145;go_wp2;go_region;all_goals (go_wp2;go_ret;exact⟨rfl,(KeepB.refl B w).drew.alloc hBw _⟩)
     · have c1:w.drew.cell? ⟨b,1,none⟩=some (.slice (some ⟨g,0,none⟩) 0 cap):=(by rw[cell?_drew,Lib.cell_of_heap hbk];rfl);have hSD:(Builtin.unsafeSliceData_ #[140] 219 #[.slice (some ⟨g,0,none⟩) 0 cap]).run Tryz.prog w.drew=.ok (.pointer (some ⟨g,0,none⟩)) w.drew:=
        Lib.run_unsafeSliceData_row _ _ _ _ _ _ hc0
       clear hown hne hbk hc0;go_enter Tryz.func145,Tryz.ntmps145;go_wp2;go_region;all_goals (go_wp2;go_ret;exact⟨rfl,(KeepB.refl B w).drew⟩)
 · have hl0:l.length≠0:=by simpa using h0
   obtain⟨g,cap,cur,rfl,hbg,hg,hnc,hcm,hcs,htake⟩:∃ g cap cur,v=.slice (some ⟨g,0,none⟩) l.length cap∧B≤g∧w.heap[g]? =some (.cells cur 5 (0,0))∧l.length≤cap∧cap≤maxLen∧cur.size=cap * 1∧cur.toList.take (l.length * 1)=Lib.byteCells l:=by
    rcases hown.2 with⟨_,hz⟩ | ⟨g,cap,cur,hv,r⟩
    · exact absurd hz hl0
    · exact⟨g,cap,cur,hv,r⟩
   have c1:w.drew.cell? ⟨b,1,none⟩=some (.slice (some ⟨g,0,none⟩) l.length cap):=(by rw[cell?_drew,Lib.cell_of_heap hbk];rfl);have hSD:(Builtin.unsafeSliceData_ #[140] 219 #[.slice (some ⟨g,0,none⟩) l.length cap]).run Tryz.prog w.drew=.ok (.pointer (some ⟨g,0,none⟩)) w.drew:=
    Lib.run_unsafeSliceData_row _ _ _ _ _ _ (by omega)
   have hUS:(Builtin.unsafeString_ #[219,3] 9 #[.pointer (some ⟨g,0,none⟩),.int .i64 l.length]).run Tryz.prog w.drew=.ok (.string (bstr l)) (w.drew.freeze ⟨g,0,none⟩ l.length):=(by refine Lib.run_unsafeString_row w.drew 219 3 9 5 Tryz.underlying219 znf g cur.size (by have hg':w.drew.heap[g]? =some (.cells cur 5 (0,0)):=hg;simp[World.shape?,hg']) l h0 (by omega) (by unfold maxLen at hcm;omega) ?_;intro j x hx;exact hown.cells (g:=g) rfl j (.int .u8 x.toNat) (by simp[Lib.byteCells,hx]));clear hown hne hbk htake hcs h0;have hk:KeepB B w (w.drew.freeze ⟨g,0,none⟩ l.length):=⟨Lib.below_freeze (Below.drew (Below.refl B w)) (p:=⟨g,0,none⟩) hbg _,fun a v hc=>by rw[cell?_freeze];exact hc⟩;have HK:=Hq hk;clear hk;go_enter Tryz.func145,Tryz.ntmps145;go_wp2;go_region;all_goals (go_wp2;go_ret;exact⟨rfl,HK.out⟩)
set_option maxRecDepth 100000
set_option maxHeartbeats 4000000
theorem kh{l:List It}{k:Nat}{y:It}(h:l[k]? =some y):Its.bytes (l.take (k+1))=Its.bytes (l.take k)++y.bytes:=by
 rw[zbz h,Its.bytes_append];simp[Its.bytes]
theorem zcl(l:List It)(k:Nat):(Its.bytes (l.take k)).length≤Its.weight l:=
 Nat.le_trans (Its.bytes_le _) (Its.weight_take_le l k)
theorem za7{B:Nat}{a W:World}{cs:Array Value}{T:TypeId}(h:KeepB B a (W.alloc (.cells cs T))):(W.alloc (.cells cs T)).cell? ⟨W.heap.size,0,none⟩=cs[0]?:=World.cell?_alloc_at (w:=W) cs T W.heap.size 0 rfl
theorem zda{B b:Nat}{bs:List Value}{a W:World}{C:Obj}(h:KeepB B a (W.alloc C))(hi:Lib.IsBuilder 182 5 B b bs W):Lib.IsBuilder 182 5 B b bs (W.alloc C):=ku hi ((blr).alloc nlr _)
theorem xc{w:World}{g:Nat}{c:Int}{cb:UInt8}(h:w.cell? ⟨g,0,none⟩=some (.int .u8 c))(hc:c=(cb.toNat:Int)):(convert 140 9 (.slice (some ⟨g,0,none⟩) 1 1)).run Tryz.prog w=.ok (.string (bstr [cb])) w:=by
 refine BytesAt.conv (bs:=[cb]) (len:=1) (cap:=1) ⟨rfl,Nat.le_refl _,by omega,fun _=>⟨g,0,rfl,fun k hk=>?_⟩⟩ _ _ 5 Tryz.underlying140 Tryz.underlying5 Tryz.underlying9
 match k,hk with
 | 0,_=>rw[h,hc];rfl
theorem zmw(N:Nat):∀(x:It) (v:Value) (w:World) (ok:Nat→Prop),x.nodes≤N→x.weight≤1000000000→ItAt w ok v x→Calls Tryz.prog 93 #[v] w (Ret (.string (bstr x.bytes)) w):=by
 induction N with
 | zero=>intro x v w ok h;have:=x.nodes_pos;omega
 | succ N ih =>
  intro x v w ok hN hM ⟨A,len,cap,hv,hs⟩;subst hv;have IH:=Hq ih;clear ih
  cases x with
  | mk q n t l =>
   simp only[It.kind,It.nat,It.text,It.list]at *;simp only[It.nodes,It.weight]at hN hM;have hlen:=hs.1;have hcap:=hs.2.2.1;have hlc:=hs.2.1;have hs0:=hs.bound;have HS0:=Hq hs0;have HLEN:=Hq hlen;have HN:=Hq hN;have HM:=Hq hM;have hM1:n.size≤1000000000:=by omega
   have hM2:n.size+t.size≤1000000000:=by omega
   clear hs hs0 hlen hN hM;go_enter Tryz.func93,Tryz.ntmps93;go_wp2_with fail;have hib:=Lib.fresh_isBuilder 182 5 (w.alloc (.cells #[.int .i64 q,.string n,.string t,.slice A len cap] 94));have hb0:(w.alloc (.cells #[.int .i64 q,.string n,.string t,.slice A len cap] 94)).heap.size=w.heap.size+1:=by simp
   rw[hb0]at hib;have hbox:((w.alloc (.cells #[.int .i64 q,.string n,.string t,.slice A len cap] 94)).alloc (.cells #[.pointer none,.slice none 0 0] 182)).heap[w.heap.size]? =some (.cells #[.int .i64 q,.string n,.string t,.slice A len cap] 94 (0,0)):=by
    rw[Lib.alloc_old _ _ _ (by simp)];exact heap_alloc_new _ _
   have hbl:Below w.heap.size w ((w.alloc (.cells #[.int .i64 q,.string n,.string t,.slice A len cap] 94)).alloc (.cells #[.pointer none,.slice none 0 0] 182)):=((blr).alloc nlr _).alloc (by simp) _;have hsz:w.heap.size+1≤((w.alloc (.cells #[.int .i64 q,.string n,.string t,.slice A len cap] 94)).alloc (.cells #[.pointer none,.slice none 0 0] 182)).heap.size:=by simp
   obtain⟨W0,hW0⟩:∃ W0,(w.alloc (.cells #[.int .i64 q,.string n,.string t,.slice A len cap] 94)).alloc (.cells #[.pointer none,.slice none 0 0] 182)=W0:=⟨_,rfl⟩;rw[hW0]at hib hbox hbl hsz⊢;clear hW0 hb0;have HBOX:=Hq hbox;have HBL:=Hq hbl;clear hbox hbl;refine(qg _ _ [] n _ hib (by simp;omega) hsz).mono ?_;rintro e w1 ⟨rfl,hi1,hb1⟩;rw[List.nil_append,Lib.strCells_eq]at hi1;have hbox1:w1.heap[w.heap.size]? =_:=(hb1.block _ (by omega)).trans HBOX.out;obtain⟨b0,b1,b2,b3⟩:=zx hbox1;have HB1:=Hq hb1;have HI1:=Hq hi1;have hz1:w.heap.size+1≤w1.heap.size:=zw hbox1;clear hb1 hi1 hib hbox1;go_wp2_with fail;refine(qg _ _ _ t _ HI1.out (by rw[Lib.byteCells_length,ji];omega) hz1).mono ?_;rintro e w2 ⟨rfl,hi2,hb2⟩;rw[Lib.strCells_eq,←Lib.byteCells_append]at hi2;clear b0 b1 b2 b3;have HBOX2:=Hq ((hb2.block _ (by omega)).trans ((HB1.out.block _ (by omega)).trans HBOX.out));have HB2:=Hq (HB1.out.trans hb2);have HI2:=Hq hi2;obtain⟨b0,b1,b2,b3⟩:=zx HBOX2.out;clear hb2 hi2;obtain⟨pre,hpre⟩:∃ pre,n.data.toList++t.data.toList=pre:=⟨_,rfl⟩;rw[hpre]at HI2;have hpl:pre.length=n.size+t.size:=by rw[←hpre,List.length_append,ji,ji]
   have HPRE:=Hq hpre;have HPL:=Hq hpl;clear hpre hpl;go_wp2;clear b0 b1 b2 b3;go_loopw [15] (fun i wr=>∃ k:Nat,k≤len∧i=.int .i64 k∧Lib.IsBuilder 182 5 (w.heap.size+1) (w.heap.size+1) (Lib.byteCells (pre++Its.bytes (l.take k))) wr∧Below (w.heap.size+1) W0 wr) (fun i _=>len - (intOf i).toNat);case atStart=>exact⟨0,Nat.zero_le _,rfl,by simpa[Its.bytes]using HI2.out,HB2.out⟩
   case round =>
    obtain⟨k,hk,rfl,hib,hB⟩:=hrel;have hbox1:wr.heap[w.heap.size]? =_:=(hB.block _ (by omega)).trans HBOX.out;obtain⟨b0,b1,b2,b3⟩:=zx hbox1;have hz1:w.heap.size+1≤wr.heap.size:=zw hbox1;have hs1:=HS0.out.keep (fun b hb _=>(hB.block b (by omega)).trans (HBL.out.block b hb.2));have HIB:=Hq hib;have HB:=Hq hB;clear hib hB hbox1;by_cases hlt:k<len
    · obtain⟨b,o,rfl⟩:=hs1.head (by omega);obtain⟨y,hy⟩:∃ y,l[k]? =some y:=⟨_,List.getElem?_eq_getElem (by rw[HLEN.out];exact hlt)⟩;obtain⟨A1,len1,cap1,c0,c1,c2,c3,hs2⟩:=(hs1.get? k hy).open;have hyN:y.nodes≤N:=by have:=Its.mem_nodes (List.mem_of_getElem? hy);have:=HN.out;omega
      have hyM:y.weight≤1000000000:=by have:=Its.mem_weight (List.mem_of_getElem? hy);have:=HM.out;omega
      have HS2:=Hq hs2;have HY:=Hq hy;clear hs1 hs2 hy;go_wp2_with fail;refine(IH.out y _ _ _ hyN hyM ⟨A1,len1,cap1,rfl,HS2.out.below ((Below.refl wr.heap.size wr).alloc nlr _) nlr⟩).mono ?_;rintro e w3 ⟨rfl,hb3⟩;have hb3':Below wr.heap.size wr w3:=((Below.refl wr.heap.size wr).alloc nlr _).trans (hb3.mono (by simp));have hz3:=hb3'.size;have HB3:=Hq hb3';clear hb3 hb3';go_wp2_with fail;refine(qg _ _ _ (bstr y.bytes) _ (ku HIB.out HB3.out) (by
       rw[Lib.byteCells_length,jo,List.length_append];have h1:=zcl l (k+1);rw[kh HY.out,List.length_append]at h1;have h2:=HPL.out;have h3:=HM.out
       omega) (by omega)).mono ?_
      rintro e w4 ⟨rfl,hi4,hb4⟩;rw[Lib.strCells_eq,←Lib.byteCells_append,zae,List.append_assoc,←kh HY.out]at hi4;have HI4:=Hq hi4;have HB4:=Hq hb4;clear hi4 hb4;go_wp2;go_roundw;case rel=>exact⟨k+1,by omega,by go_num,HI4.out,(HB.out.trans (HB3.out.mono (by omega))).trans HB4.out⟩
      case measure=>simp[intOf];omega
    · obtain rfl:k=len:=by omega
      rw[List.take_of_length_le (by have:=HLEN.out;omega)]at HIB;obtain⟨body,hbody⟩:∃ body,pre++Its.bytes l=body:=⟨_,rfl⟩;rw[hbody]at HIB;have hbl:body.length≤1000000000:=by
       rw[←hbody,List.length_append];have h1:=Its.bytes_le l;have h2:=HPL.out;have h3:=HM.out;omega
      have HBODY:=Hq hbody;clear hs1 hbody;go_wp2;obtain⟨wd,hwd⟩:∃ wd,wr.drew=wd:=⟨_,rfl⟩;have d0:wd.cell? ⟨w.heap.size,0,none⟩=some (.int .i64 q):=by rw[←hwd];exact b0
      have HIBC:=Hq (show Lib.IsBuilder 182 5 (w.heap.size+1) (w.heap.size+1) (Lib.byteCells body) wd from by rw[←hwd];exact zou HIB.out);have HBD:=Hq (show Below w.heap.size w wd from by rw[←hwd];exact((HBL.out.trans (HB.out.mono (by omega))).drew));have hzd:w.heap.size+1≤wd.heap.size:=by rw[←hwd];exact hz1
      obtain⟨cb,hcb⟩:∃ cb:UInt8,UInt8.ofNat (q%256).toNat=cb:=⟨_,rfl⟩;have hq:q%256=(cb.toNat:Int):=by rw[←hcb,jd (by omega)];omega
      have hlb:=zbr 10 body.length;have hadd1:∀ w,(Op.stringOp .add (bstr [cb]) (bstr (lenB body.length))).run Tryz.prog w=.ok (.string (bstr (cb::lenB body.length))) w:=fun w=>by
       rw[run_string_add_sum w _ _ (by rw[jo,jo];unfold lenB;simp;omega),xq];rfl
      have hadd2:∀ w,(Op.stringOp .add (bstr (cb::lenB body.length)) (bstr body)).run Tryz.prog w=.ok (.string (bstr (cb::(lenB body.length++body)))) w:=fun w=>by
       rw[run_string_add_sum w _ _ (by rw[jo,jo];unfold lenB;simp;omega),xq];rfl
      have hfin:=Hq (show (It.mk q n t l).bytes=cb::(lenB body.length++body)from by
       simp only[It.bytes];have e:n.data.toList++(t.data.toList++Its.bytes l)=body:=by rw[←List.append_assoc,HPRE.out,HBODY.out]
       rw[e,hcb])
      have HQ:=Hq hq;have HCB:=Hq hcb;have HWD:=Hq hwd;clear hq hcb hlb b0 b1 b2 b3;refine zg 11 (KeepB (w.heap.size+1) wd) (by kernel_rfl) ?_;intro hD;rw[hwd];refine qP 0 10 rfl hD (KeepB.refl (w.heap.size+1) wd) ?_;clear hD;intro hD;refine qS 1 9 rfl hD (KeepB.refl (w.heap.size+1) wd) (by intro w' hS';have e0:=hS'.cells _ _ d0;go_simp;with_reducible rfl) ?_;clear hD;intro hD;refine qP 2 8 rfl hD (KeepB.refl (w.heap.size+1) wd) ?_;clear hD;intro hD;simp only[Act.put,sqA,sqB,sqC];refine je (i:=3) (i':=5) (fuel:=7) (by kernel_rfl) rfl rfl hD ?_ ?_ 
      · unfold xh;clear hD;intro K3 hK3;go_wp2;refine hK3 _ _ (by exact KeepB.alloc (KeepB.refl (w.heap.size+1) wd) (Nat.le_trans hzd ((KeepB.refl (w.heap.size+1) wd)).below.size) _) ?_;clear hK3;intro hS_9_3 hD;have hG:=za7 hS_9_3;try (have HIBC:=Hq (zda hS_9_3 HIBC.out))
        refine je (i:=4) (i':=5) (fuel:=6) (by kernel_rfl) rfl rfl hD ?_ ?_ 
        · unfold xh;clear hD;intro K4 hK4;have hcv:=xc hG HQ.out;go_wp2;refine hK4 _ _ (by exact hS_9_3) ?_;clear hK4;intro hS_9_4_3 hD;refine zc (i:=5) (fuel:=5) (by kernel_rfl) rfl hD ?_;clear hD;intro K5 hK5;go_wp2_with fail;refine(Tryz.Builder_Len _ _ _ _ HIBC.out).mono ?_;rintro e w5 ⟨rfl,hw5⟩;subst w5;rw[Lib.byteCells_length];go_wp2;refine hK5 _ _ (by exact hS_9_4_3) ?_;clear hK5;intro hS_9_5_3_4 hD;refine zc (i:=6) (fuel:=4) (by kernel_rfl) rfl hD ?_;clear hD;intro K6 hK6;go_wp2_with fail;refine(ky body.length _ (by omega)).mono ?_;rintro e w6 ⟨rfl,hb6⟩;have HB6:=Hq hb6;clear hb6;have HIBC:=Hq (ku HIBC.out HB6.out);try (replace hG:=kc HB6.out hG)
          go_wp2;refine hK6 _ _ (by exact(hS_9_5_3_4).trans (KeepB.of HB6.out nlr (Nat.le_trans hzd (hS_9_5_3_4).below.size))) ?_;clear hK6;intro hS_9_6_3_4 hD;refine qP 7 3 rfl hD hS_9_6_3_4 ?_;clear hD;intro hD;simp only[Act.put,sqA,sqB,sqC];refine zc (i:=8) (fuel:=2) (by kernel_rfl) rfl hD ?_;clear hD;intro K8 hK8;go_wp2_with fail;refine(xj _ _ _ _ HIBC.out (Nat.le_trans hzd (hS_9_6_3_4).below.size)).mono ?_;rintro e w8 ⟨rfl,hb8⟩;have HB8:=Hq hb8;clear hb8;try (replace hG:=HB8.out.cells _ _ hG)
          go_wp2;refine hK8 _ _ (by exact(hS_9_6_3_4).trans HB8.out) ?_;clear hK8;intro hS_9_8_3_4 hD;refine qP 9 1 rfl hD hS_9_8_3_4 ?_;clear hD;intro hD;simp only[Act.put,sqA,sqB,sqC];refine zc (i:=10) (fuel:=0) (by kernel_rfl) rfl hD ?_;clear hD;intro K10 hK10;go_wp2;refine hK10 _ _ (by exact hS_9_8_3_4) ?_;clear hK10;intro hS_9_10_3_4 hD;refine ze (by kernel_rfl) ?_ 0;go_wp2;go_ret;exact⟨by rw[hfin.out];rfl,HBD.out.trans ((hS_9_10_3_4).below.mono (by omega))⟩
        · unfold xh;clear hD;intro K5 hK5;go_wp2_with fail;refine(Tryz.Builder_Len _ _ _ _ HIBC.out).mono ?_;rintro e w5 ⟨rfl,hw5⟩;subst w5;rw[Lib.byteCells_length];go_wp2;refine hK5 _ _ (by exact hS_9_3) ?_;clear hK5;intro hS_9_5_3 hD;refine je (i:=4) (i':=6) (fuel:=5) (by kernel_rfl) rfl rfl hD ?_ ?_ 
          · unfold xh;clear hD;intro K4 hK4;have hcv:=xc hG HQ.out;go_wp2;refine hK4 _ _ (by exact hS_9_5_3) ?_;clear hK4;intro hS_9_4_3_5 hD;refine zc (i:=6) (fuel:=4) (by kernel_rfl) rfl hD ?_;clear hD;intro K6 hK6;go_wp2_with fail;refine(ky body.length _ (by omega)).mono ?_;rintro e w6 ⟨rfl,hb6⟩;have HB6:=Hq hb6;clear hb6;have HIBC:=Hq (ku HIBC.out HB6.out);try (replace hG:=kc HB6.out hG)
            go_wp2;refine hK6 _ _ (by exact(hS_9_4_3_5).trans (KeepB.of HB6.out nlr (Nat.le_trans hzd (hS_9_4_3_5).below.size))) ?_;clear hK6;intro hS_9_6_3_5_4 hD;refine qP 7 3 rfl hD hS_9_6_3_5_4 ?_;clear hD;intro hD;simp only[Act.put,sqA,sqB,sqC];refine zc (i:=8) (fuel:=2) (by kernel_rfl) rfl hD ?_;clear hD;intro K8 hK8;go_wp2_with fail;refine(xj _ _ _ _ HIBC.out (Nat.le_trans hzd (hS_9_6_3_5_4).below.size)).mono ?_;rintro e w8 ⟨rfl,hb8⟩;have HB8:=Hq hb8;clear hb8;try (replace hG:=HB8.out.cells _ _ hG)
            go_wp2;refine hK8 _ _ (by exact(hS_9_6_3_5_4).trans HB8.out) ?_;clear hK8;intro hS_9_8_3_5_4 hD;refine qP 9 1 rfl hD hS_9_8_3_5_4 ?_;clear hD;intro hD;simp only[Act.put,sqA,sqB,sqC];refine zc (i:=10) (fuel:=0) (by kernel_rfl) rfl hD ?_;clear hD;intro K10 hK10;go_wp2;refine hK10 _ _ (by exact hS_9_8_3_5_4) ?_;clear hK10;intro hS_9_10_3_5_4 hD;refine ze (by kernel_rfl) ?_ 0;go_wp2;go_ret;exact⟨by rw[hfin.out];rfl,HBD.out.trans ((hS_9_10_3_5_4).below.mono (by omega))⟩
          · unfold xh;clear hD;intro K6 hK6;go_wp2_with fail;refine(ky body.length _ (by omega)).mono ?_;rintro e w6 ⟨rfl,hb6⟩;have HB6:=Hq hb6;clear hb6;have HIBC:=Hq (ku HIBC.out HB6.out);try (replace hG:=kc HB6.out hG)
            go_wp2;refine hK6 _ _ (by exact(hS_9_5_3).trans (KeepB.of HB6.out nlr (Nat.le_trans hzd (hS_9_5_3).below.size))) ?_;clear hK6;intro hS_9_6_3_5 hD;refine je (i:=4) (i':=8) (fuel:=4) (by kernel_rfl) rfl rfl hD ?_ ?_ 
            · unfold xh;clear hD;intro K4 hK4;have hcv:=xc hG HQ.out;go_wp2;refine hK4 _ _ (by exact hS_9_6_3_5) ?_;clear hK4;intro hS_9_4_3_5_6 hD;refine qP 7 3 rfl hD hS_9_4_3_5_6 ?_;clear hD;intro hD;simp only[Act.put,sqA,sqB,sqC];refine zc (i:=8) (fuel:=2) (by kernel_rfl) rfl hD ?_;clear hD;intro K8 hK8;go_wp2_with fail;refine(xj _ _ _ _ HIBC.out (Nat.le_trans hzd (hS_9_4_3_5_6).below.size)).mono ?_;rintro e w8 ⟨rfl,hb8⟩;have HB8:=Hq hb8;clear hb8;try (replace hG:=HB8.out.cells _ _ hG)
              go_wp2;refine hK8 _ _ (by exact(hS_9_4_3_5_6).trans HB8.out) ?_;clear hK8;intro hS_9_8_3_5_6_4 hD;refine qP 9 1 rfl hD hS_9_8_3_5_6_4 ?_;clear hD;intro hD;simp only[Act.put,sqA,sqB,sqC];refine zc (i:=10) (fuel:=0) (by kernel_rfl) rfl hD ?_;clear hD;intro K10 hK10;go_wp2;refine hK10 _ _ (by exact hS_9_8_3_5_6_4) ?_;clear hK10;intro hS_9_10_3_5_6_4 hD;refine ze (by kernel_rfl) ?_ 0;go_wp2;go_ret;exact⟨by rw[hfin.out];rfl,HBD.out.trans ((hS_9_10_3_5_6_4).below.mono (by omega))⟩
            · unfold xh;clear hD;intro K8 hK8;go_wp2_with fail;refine(xj _ _ _ _ HIBC.out (Nat.le_trans hzd (hS_9_6_3_5).below.size)).mono ?_;rintro e w8 ⟨rfl,hb8⟩;have HB8:=Hq hb8;clear hb8;try (replace hG:=HB8.out.cells _ _ hG)
              go_wp2;refine hK8 _ _ (by exact(hS_9_6_3_5).trans HB8.out) ?_;clear hK8;intro hS_9_8_3_5_6 hD;refine zc (i:=4) (fuel:=3) (by kernel_rfl) rfl hD ?_;clear hD;intro K4 hK4;have hcv:=xc hG HQ.out;go_wp2;refine hK4 _ _ (by exact hS_9_8_3_5_6) ?_;clear hK4;intro hS_9_4_3_5_6_8 hD;refine qP 7 2 rfl hD hS_9_4_3_5_6_8 ?_;clear hD;intro hD;refine qP 9 1 rfl hD hS_9_4_3_5_6_8 ?_;clear hD;intro hD;simp only[Act.put,sqA,sqB,sqC];refine zc (i:=10) (fuel:=0) (by kernel_rfl) rfl hD ?_;clear hD;intro K10 hK10;go_wp2;refine hK10 _ _ (by exact hS_9_4_3_5_6_8) ?_;clear hK10;intro hS_9_10_3_5_6_8 hD;refine ze (by kernel_rfl) ?_ 0;go_wp2;go_ret;exact⟨by rw[hfin.out];rfl,HBD.out.trans ((hS_9_10_3_5_6_8).below.mono (by omega))⟩
      · unfold xh;clear hD;intro K5 hK5;go_wp2_with fail;refine(Tryz.Builder_Len _ _ _ _ HIBC.out).mono ?_;rintro e w5 ⟨rfl,hw5⟩;subst w5;rw[Lib.byteCells_length];go_wp2;refine hK5 _ _ (by exact(KeepB.refl (w.heap.size+1) wd)) ?_;clear hK5;intro hS_9_5 hD;refine je (i:=3) (i':=6) (fuel:=6) (by kernel_rfl) rfl rfl hD ?_ ?_ 
        · unfold xh;clear hD;intro K3 hK3;go_wp2;refine hK3 _ _ (by exact KeepB.alloc hS_9_5 (Nat.le_trans hzd (hS_9_5).below.size) _) ?_;clear hK3;intro hS_9_3_5 hD;have hG:=za7 hS_9_3_5;try (have HIBC:=Hq (zda hS_9_3_5 HIBC.out))
          refine je (i:=4) (i':=6) (fuel:=5) (by kernel_rfl) rfl rfl hD ?_ ?_ 
          · unfold xh;clear hD;intro K4 hK4;have hcv:=xc hG HQ.out;go_wp2;refine hK4 _ _ (by exact hS_9_3_5) ?_;clear hK4;intro hS_9_4_5_3 hD;refine zc (i:=6) (fuel:=4) (by kernel_rfl) rfl hD ?_;clear hD;intro K6 hK6;go_wp2_with fail;refine(ky body.length _ (by omega)).mono ?_;rintro e w6 ⟨rfl,hb6⟩;have HB6:=Hq hb6;clear hb6;have HIBC:=Hq (ku HIBC.out HB6.out);try (replace hG:=kc HB6.out hG)
            go_wp2;refine hK6 _ _ (by exact(hS_9_4_5_3).trans (KeepB.of HB6.out nlr (Nat.le_trans hzd (hS_9_4_5_3).below.size))) ?_;clear hK6;intro hS_9_6_5_3_4 hD;refine qP 7 3 rfl hD hS_9_6_5_3_4 ?_;clear hD;intro hD;simp only[Act.put,sqA,sqB,sqC];refine zc (i:=8) (fuel:=2) (by kernel_rfl) rfl hD ?_;clear hD;intro K8 hK8;go_wp2_with fail;refine(xj _ _ _ _ HIBC.out (Nat.le_trans hzd (hS_9_6_5_3_4).below.size)).mono ?_;rintro e w8 ⟨rfl,hb8⟩;have HB8:=Hq hb8;clear hb8;try (replace hG:=HB8.out.cells _ _ hG)
            go_wp2;refine hK8 _ _ (by exact(hS_9_6_5_3_4).trans HB8.out) ?_;clear hK8;intro hS_9_8_5_3_4 hD;refine qP 9 1 rfl hD hS_9_8_5_3_4 ?_;clear hD;intro hD;simp only[Act.put,sqA,sqB,sqC];refine zc (i:=10) (fuel:=0) (by kernel_rfl) rfl hD ?_;clear hD;intro K10 hK10;go_wp2;refine hK10 _ _ (by exact hS_9_8_5_3_4) ?_;clear hK10;intro hS_9_10_5_3_4 hD;refine ze (by kernel_rfl) ?_ 0;go_wp2;go_ret;exact⟨by rw[hfin.out];rfl,HBD.out.trans ((hS_9_10_5_3_4).below.mono (by omega))⟩
          · unfold xh;clear hD;intro K6 hK6;go_wp2_with fail;refine(ky body.length _ (by omega)).mono ?_;rintro e w6 ⟨rfl,hb6⟩;have HB6:=Hq hb6;clear hb6;have HIBC:=Hq (ku HIBC.out HB6.out);try (replace hG:=kc HB6.out hG)
            go_wp2;refine hK6 _ _ (by exact(hS_9_3_5).trans (KeepB.of HB6.out nlr (Nat.le_trans hzd (hS_9_3_5).below.size))) ?_;clear hK6;intro hS_9_6_5_3 hD;refine je (i:=4) (i':=8) (fuel:=4) (by kernel_rfl) rfl rfl hD ?_ ?_ 
            · unfold xh;clear hD;intro K4 hK4;have hcv:=xc hG HQ.out;go_wp2;refine hK4 _ _ (by exact hS_9_6_5_3) ?_;clear hK4;intro hS_9_4_5_3_6 hD;refine qP 7 3 rfl hD hS_9_4_5_3_6 ?_;clear hD;intro hD;simp only[Act.put,sqA,sqB,sqC];refine zc (i:=8) (fuel:=2) (by kernel_rfl) rfl hD ?_;clear hD;intro K8 hK8;go_wp2_with fail;refine(xj _ _ _ _ HIBC.out (Nat.le_trans hzd (hS_9_4_5_3_6).below.size)).mono ?_;rintro e w8 ⟨rfl,hb8⟩;have HB8:=Hq hb8;clear hb8;try (replace hG:=HB8.out.cells _ _ hG)
              go_wp2;refine hK8 _ _ (by exact(hS_9_4_5_3_6).trans HB8.out) ?_;clear hK8;intro hS_9_8_5_3_6_4 hD;refine qP 9 1 rfl hD hS_9_8_5_3_6_4 ?_;clear hD;intro hD;simp only[Act.put,sqA,sqB,sqC];refine zc (i:=10) (fuel:=0) (by kernel_rfl) rfl hD ?_;clear hD;intro K10 hK10;go_wp2;refine hK10 _ _ (by exact hS_9_8_5_3_6_4) ?_;clear hK10;intro hS_9_10_5_3_6_4 hD;refine ze (by kernel_rfl) ?_ 0;go_wp2;go_ret;exact⟨by rw[hfin.out];rfl,HBD.out.trans ((hS_9_10_5_3_6_4).below.mono (by omega))⟩
            · unfold xh;clear hD;intro K8 hK8;go_wp2_with fail;refine(xj _ _ _ _ HIBC.out (Nat.le_trans hzd (hS_9_6_5_3).below.size)).mono ?_;rintro e w8 ⟨rfl,hb8⟩;have HB8:=Hq hb8;clear hb8;try (replace hG:=HB8.out.cells _ _ hG)
              go_wp2;refine hK8 _ _ (by exact(hS_9_6_5_3).trans HB8.out) ?_;clear hK8;intro hS_9_8_5_3_6 hD;refine zc (i:=4) (fuel:=3) (by kernel_rfl) rfl hD ?_;clear hD;intro K4 hK4;have hcv:=xc hG HQ.out;go_wp2;refine hK4 _ _ (by exact hS_9_8_5_3_6) ?_;clear hK4;intro hS_9_4_5_3_6_8 hD;refine qP 7 2 rfl hD hS_9_4_5_3_6_8 ?_;clear hD;intro hD;refine qP 9 1 rfl hD hS_9_4_5_3_6_8 ?_;clear hD;intro hD;simp only[Act.put,sqA,sqB,sqC];refine zc (i:=10) (fuel:=0) (by kernel_rfl) rfl hD ?_;clear hD;intro K10 hK10;go_wp2;refine hK10 _ _ (by exact hS_9_4_5_3_6_8) ?_;clear hK10;intro hS_9_10_5_3_6_8 hD;refine ze (by kernel_rfl) ?_ 0;go_wp2;go_ret;exact⟨by rw[hfin.out];rfl,HBD.out.trans ((hS_9_10_5_3_6_8).below.mono (by omega))⟩
        · unfold xh;clear hD;intro K6 hK6;go_wp2_with fail;refine(ky body.length _ (by omega)).mono ?_;rintro e w6 ⟨rfl,hb6⟩;have HB6:=Hq hb6;clear hb6;have HIBC:=Hq (ku HIBC.out HB6.out);try (replace hG:=kc HB6.out hG)
          go_wp2;refine hK6 _ _ (by exact(hS_9_5).trans (KeepB.of HB6.out nlr (Nat.le_trans hzd (hS_9_5).below.size))) ?_;clear hK6;intro hS_9_6_5 hD;refine je (i:=3) (i':=8) (fuel:=5) (by kernel_rfl) rfl rfl hD ?_ ?_ 
          · unfold xh;clear hD;intro K3 hK3;go_wp2;refine hK3 _ _ (by exact KeepB.alloc hS_9_6_5 (Nat.le_trans hzd (hS_9_6_5).below.size) _) ?_;clear hK3;intro hS_9_3_5_6 hD;have hG:=za7 hS_9_3_5_6;try (have HIBC:=Hq (zda hS_9_3_5_6 HIBC.out))
            refine je (i:=4) (i':=8) (fuel:=4) (by kernel_rfl) rfl rfl hD ?_ ?_ 
            · unfold xh;clear hD;intro K4 hK4;have hcv:=xc hG HQ.out;go_wp2;refine hK4 _ _ (by exact hS_9_3_5_6) ?_;clear hK4;intro hS_9_4_5_6_3 hD;refine qP 7 3 rfl hD hS_9_4_5_6_3 ?_;clear hD;intro hD;simp only[Act.put,sqA,sqB,sqC];refine zc (i:=8) (fuel:=2) (by kernel_rfl) rfl hD ?_;clear hD;intro K8 hK8;go_wp2_with fail;refine(xj _ _ _ _ HIBC.out (Nat.le_trans hzd (hS_9_4_5_6_3).below.size)).mono ?_;rintro e w8 ⟨rfl,hb8⟩;have HB8:=Hq hb8;clear hb8;try (replace hG:=HB8.out.cells _ _ hG)
              go_wp2;refine hK8 _ _ (by exact(hS_9_4_5_6_3).trans HB8.out) ?_;clear hK8;intro hS_9_8_5_6_3_4 hD;refine qP 9 1 rfl hD hS_9_8_5_6_3_4 ?_;clear hD;intro hD;simp only[Act.put,sqA,sqB,sqC];refine zc (i:=10) (fuel:=0) (by kernel_rfl) rfl hD ?_;clear hD;intro K10 hK10;go_wp2;refine hK10 _ _ (by exact hS_9_8_5_6_3_4) ?_;clear hK10;intro hS_9_10_5_6_3_4 hD;refine ze (by kernel_rfl) ?_ 0;go_wp2;go_ret;exact⟨by rw[hfin.out];rfl,HBD.out.trans ((hS_9_10_5_6_3_4).below.mono (by omega))⟩
            · unfold xh;clear hD;intro K8 hK8;go_wp2_with fail;refine(xj _ _ _ _ HIBC.out (Nat.le_trans hzd (hS_9_3_5_6).below.size)).mono ?_;rintro e w8 ⟨rfl,hb8⟩;have HB8:=Hq hb8;clear hb8;try (replace hG:=HB8.out.cells _ _ hG)
              go_wp2;refine hK8 _ _ (by exact(hS_9_3_5_6).trans HB8.out) ?_;clear hK8;intro hS_9_8_5_6_3 hD;refine zc (i:=4) (fuel:=3) (by kernel_rfl) rfl hD ?_;clear hD;intro K4 hK4;have hcv:=xc hG HQ.out;go_wp2;refine hK4 _ _ (by exact hS_9_8_5_6_3) ?_;clear hK4;intro hS_9_4_5_6_3_8 hD;refine qP 7 2 rfl hD hS_9_4_5_6_3_8 ?_;clear hD;intro hD;refine qP 9 1 rfl hD hS_9_4_5_6_3_8 ?_;clear hD;intro hD;simp only[Act.put,sqA,sqB,sqC];refine zc (i:=10) (fuel:=0) (by kernel_rfl) rfl hD ?_;clear hD;intro K10 hK10;go_wp2;refine hK10 _ _ (by exact hS_9_4_5_6_3_8) ?_;clear hK10;intro hS_9_10_5_6_3_8 hD;refine ze (by kernel_rfl) ?_ 0;go_wp2;go_ret;exact⟨by rw[hfin.out];rfl,HBD.out.trans ((hS_9_10_5_6_3_8).below.mono (by omega))⟩
          · unfold xh;clear hD;intro K8 hK8;go_wp2_with fail;refine(xj _ _ _ _ HIBC.out (Nat.le_trans hzd (hS_9_6_5).below.size)).mono ?_;rintro e w8 ⟨rfl,hb8⟩;have HB8:=Hq hb8;clear hb8;try (replace hG:=HB8.out.cells _ _ hG)
            go_wp2;refine hK8 _ _ (by exact(hS_9_6_5).trans HB8.out) ?_;clear hK8;intro hS_9_8_5_6 hD;refine zc (i:=3) (fuel:=4) (by kernel_rfl) rfl hD ?_;clear hD;intro K3 hK3;go_wp2;refine hK3 _ _ (by exact KeepB.alloc hS_9_8_5_6 (Nat.le_trans hzd (hS_9_8_5_6).below.size) _) ?_;clear hK3;intro hS_9_3_5_6_8 hD;have hG:=za7 hS_9_3_5_6_8;try (have HIBC:=Hq (zda hS_9_3_5_6_8 HIBC.out))
            refine zc (i:=4) (fuel:=3) (by kernel_rfl) rfl hD ?_;clear hD;intro K4 hK4;have hcv:=xc hG HQ.out;go_wp2;refine hK4 _ _ (by exact hS_9_3_5_6_8) ?_;clear hK4;intro hS_9_4_5_6_8 hD;refine qP 7 2 rfl hD hS_9_4_5_6_8 ?_;clear hD;intro hD;refine qP 9 1 rfl hD hS_9_4_5_6_8 ?_;clear hD;intro hD;simp only[Act.put,sqA,sqB,sqC];refine zc (i:=10) (fuel:=0) (by kernel_rfl) rfl hD ?_;clear hD;intro K10 hK10;go_wp2;refine hK10 _ _ (by exact hS_9_4_5_6_8) ?_;clear hK10;intro hS_9_10_5_6_8 hD;refine ze (by kernel_rfl) ?_ 0;go_wp2;go_ret;exact⟨by rw[hfin.out];rfl,HBD.out.trans ((hS_9_10_5_6_8).below.mono (by omega))⟩
set_option maxRecDepth 100000
set_option maxHeartbeats 4000000
theorem zlq(N:Nat):∀(x:It) (v:Value) (w:World) (ok:Nat→Prop),x.nodes≤N→x.weight≤1000000000→ItAt w ok v x→Calls Tryz.prog 123 #[v] w (Ret (.string (bstr x.bytes)) w):=by
 induction N with
 | zero=>intro x v w ok h;have:=x.nodes_pos;omega
 | succ N ih =>
  intro x v w ok hN hM ⟨A,len,cap,hv,hs⟩;subst hv;have IH:=Hq ih;clear ih
  cases x with
  | mk q n t l =>
   simp only[It.kind,It.nat,It.text,It.list]at *;simp only[It.nodes,It.weight]at hN hM;have hlen:=hs.1;have hcap:=hs.2.2.1;have hlc:=hs.2.1;have hs0:=hs.bound;have HS0:=Hq hs0;have HLEN:=Hq hlen;have HN:=Hq hN;have HM:=Hq hM;obtain⟨pre,hpre⟩:∃ pre,n.data.toList++t.data.toList=pre:=⟨_,rfl⟩;have hpl:pre.length=n.size+t.size:=by rw[←hpre,List.length_append,ji,ji]
   have hadd0:∀ w,(Op.stringOp .add n t).run Tryz.prog w=.ok (.string (bstr pre)) w:=fun w=>by
    rw[run_string_add_sum w _ _ (by omega),←za3 n,←za3 t,xq,hpre]
   have HPRE:=Hq hpre;have HPL:=Hq hpl;clear hs hs0 hlen hN hM hpre hpl;obtain⟨W0,hW0⟩:∃ W0,w.alloc (.cells #[.int .i64 q,.string n,.string t,.slice A len cap] 94)=W0:=⟨_,rfl⟩;have hbox:W0.heap[w.heap.size]? =some (.cells #[.int .i64 q,.string n,.string t,.slice A len cap] 94 (0,0)):=by rw[←hW0];exact heap_alloc_new _ _
   have hbl:Below w.heap.size w W0:=by rw[←hW0];exact(blr).alloc nlr _
   have HBOX:=Hq hbox;have HBL:=Hq hbl;have HW0:=Hq hW0;clear hbox hbl hW0;go_enter Tryz.func123,Tryz.ntmps123;go_wp2;clear hadd0;rw[HW0.out];go_loopw [3,4] (fun s i wr=>∃ k:Nat,k≤len∧i=.int .i64 k∧s=.string (bstr (pre++Its.bytes (l.take k)))∧Below (w.heap.size+1) W0 wr) (fun _ i _=>len - (intOf i).toNat);case atStart=>exact⟨0,Nat.zero_le _,rfl,by simp[Its.bytes],Below.refl _ _⟩
   case round =>
    obtain⟨k,hk,rfl,rfl,hB⟩:=hrel;have hbox1:wr.heap[w.heap.size]? =_:=(hB.block _ (by omega)).trans HBOX.out;obtain⟨b0,b1,b2,b3⟩:=zx hbox1;have hz1:w.heap.size+1≤wr.heap.size:=zw hbox1;have hs1:=HS0.out.keep (fun b hb _=>(hB.block b (by omega)).trans (HBL.out.block b hb.2));have HB:=Hq hB;clear hB hbox1;by_cases hlt:k<len
    · obtain⟨b,o,rfl⟩:=hs1.head (by omega);obtain⟨y,hy⟩:∃ y,l[k]? =some y:=⟨_,List.getElem?_eq_getElem (by rw[HLEN.out];exact hlt)⟩;obtain⟨A1,len1,cap1,c0,c1,c2,c3,hs2⟩:=(hs1.get? k hy).open;have hyN:y.nodes≤N:=by have:=Its.mem_nodes (List.mem_of_getElem? hy);have:=HN.out;omega
      have hyM:y.weight≤1000000000:=by have:=Its.mem_weight (List.mem_of_getElem? hy);have:=HM.out;omega
      have hadd:∀ w,(Op.stringOp .add (bstr (pre++Its.bytes (l.take k))) (bstr y.bytes)).run Tryz.prog w=.ok (.string (bstr (pre++Its.bytes (l.take (k+1))))) w:=fun w=>by
       have h1:=zcl l (k+1);rw[kh hy,List.length_append]at h1;have h2:=HPL.out;have h3:=HM.out;rw[run_string_add_sum w _ _ (by rw[jo,jo,List.length_append];omega),xq,List.append_assoc,←kh hy]
      have HS2:=Hq hs2;have HY:=Hq hy;clear hs1 hs2 hy;go_wp2_with fail;refine(IH.out y _ _ _ hyN hyM ⟨A1,len1,cap1,rfl,HS2.out⟩).mono ?_;rintro e w3 ⟨rfl,hb3⟩;have HB3:=Hq hb3;clear hb3;go_wp2;go_roundw;case rel=>exact⟨k+1,by omega,by go_num,rfl,HB.out.trans (HB3.out.mono (by omega))⟩
      case measure=>simp[intOf];omega
    · obtain rfl:k=len:=by omega
      rw[List.take_of_length_le (by have:=HLEN.out;omega)];obtain⟨body,hbody⟩:∃ body,pre++Its.bytes l=body:=⟨_,rfl⟩;rw[hbody];have hbl:body.length≤1000000000:=by
       rw[←hbody,List.length_append];have h1:=Its.bytes_le l;have h2:=HPL.out;have h3:=HM.out;omega
      have HBODY:=Hq hbody;clear hs1 hbody;go_wp2;obtain⟨wd,hwd⟩:∃ wd,wr.drew=wd:=⟨_,rfl⟩;have d0:wd.cell? ⟨w.heap.size,0,none⟩=some (.int .i64 q):=by rw[←hwd];exact b0
      have HBD:=Hq (show Below w.heap.size w wd from by rw[←hwd];exact((HBL.out.trans (HB.out.mono (by omega))).drew));have hzd:w.heap.size+1≤wd.heap.size:=by rw[←hwd];exact hz1
      obtain⟨cb,hcb⟩:∃ cb:UInt8,UInt8.ofNat (q%256).toNat=cb:=⟨_,rfl⟩;have hq:q%256=(cb.toNat:Int):=by rw[←hcb,jd (by omega)];omega
      have hlb:=zbr 10 body.length;have hbs:=jo body;have hadd1:∀ w,(Op.stringOp .add (bstr [cb]) (bstr (lenB body.length))).run Tryz.prog w=.ok (.string (bstr (cb::lenB body.length))) w:=fun w=>by
       rw[run_string_add_sum w _ _ (by rw[jo,jo];unfold lenB;simp;omega),xq];rfl
      have hadd2:∀ w,(Op.stringOp .add (bstr (cb::lenB body.length)) (bstr body)).run Tryz.prog w=.ok (.string (bstr (cb::(lenB body.length++body)))) w:=fun w=>by
       rw[run_string_add_sum w _ _ (by rw[jo,jo];unfold lenB;simp;omega),xq];rfl
      have hfin:=Hq (show (It.mk q n t l).bytes=cb::(lenB body.length++body)from by
       simp only[It.bytes];have e:n.data.toList++(t.data.toList++Its.bytes l)=body:=by rw[←List.append_assoc,HPRE.out,HBODY.out]
       rw[e,hcb])
      have HQ:=Hq hq;have HCB:=Hq hcb;have HWD:=Hq hwd;clear hq hcb hlb b0 b1 b2 b3;refine zg 12 (KeepB (w.heap.size+1) wd) (by kernel_rfl) ?_;intro hD;rw[hwd];refine qP 0 11 rfl hD (KeepB.refl (w.heap.size+1) wd) ?_;clear hD;intro hD;refine qS 1 10 rfl hD (KeepB.refl (w.heap.size+1) wd) (by intro w' hS';have e0:=hS'.cells _ _ d0;go_simp;with_reducible rfl) ?_;clear hD;intro hD;refine qP 2 9 rfl hD (KeepB.refl (w.heap.size+1) wd) ?_;clear hD;intro hD;refine qP 5 8 rfl hD (KeepB.refl (w.heap.size+1) wd) ?_;clear hD;intro hD;refine qP 6 7 rfl hD (KeepB.refl (w.heap.size+1) wd) ?_;clear hD;intro hD;refine qP 9 6 rfl hD (KeepB.refl (w.heap.size+1) wd) ?_;clear hD;intro hD;simp only[Act.put,sqA,sqB,sqC];refine je (i:=3) (i':=7) (fuel:=5) (by kernel_rfl) rfl rfl hD ?_ ?_ 
      · unfold xh;clear hD;intro K3 hK3;go_wp2;refine hK3 _ _ (by exact KeepB.alloc (KeepB.refl (w.heap.size+1) wd) (Nat.le_trans hzd ((KeepB.refl (w.heap.size+1) wd)).below.size) _) ?_;clear hK3;intro hS_6_3 hD;have hG:=za7 hS_6_3;refine je (i:=4) (i':=7) (fuel:=4) (by kernel_rfl) rfl rfl hD ?_ ?_ 
        · unfold xh;clear hD;intro K4 hK4;have hcv:=xc hG HQ.out;go_wp2;refine hK4 _ _ (by exact hS_6_3) ?_;clear hK4;intro hS_6_4_3 hD;refine zc (i:=7) (fuel:=3) (by kernel_rfl) rfl hD ?_;clear hD;intro K7 hK7;go_wp2_with fail;refine(zco body.length _ (by omega)).mono ?_;rintro e w6 ⟨rfl,hb6⟩;have HB6:=Hq hb6;clear hb6;try (replace hG:=kc HB6.out hG)
          go_wp2;refine hK7 _ _ (by exact(hS_6_4_3).trans (KeepB.of HB6.out nlr (Nat.le_trans hzd (hS_6_4_3).below.size))) ?_;clear hK7;intro hS_6_7_3_4 hD;refine qP 8 2 rfl hD hS_6_7_3_4 ?_;clear hD;intro hD;refine qP 10 1 rfl hD hS_6_7_3_4 ?_;clear hD;intro hD;simp only[Act.put,sqA,sqB,sqC];refine zc (i:=11) (fuel:=0) (by kernel_rfl) rfl hD ?_;clear hD;intro K11 hK11;go_wp2;refine hK11 _ _ (by exact hS_6_7_3_4) ?_;clear hK11;intro hS_6_11_3_4 hD;refine ze (by kernel_rfl) ?_ 0;go_wp2;go_ret;exact⟨by rw[hfin.out];rfl,HBD.out.trans ((hS_6_11_3_4).below.mono (by omega))⟩
        · unfold xh;clear hD;intro K7 hK7;go_wp2_with fail;refine(zco body.length _ (by omega)).mono ?_;rintro e w6 ⟨rfl,hb6⟩;have HB6:=Hq hb6;clear hb6;try (replace hG:=kc HB6.out hG)
          go_wp2;refine hK7 _ _ (by exact(hS_6_3).trans (KeepB.of HB6.out nlr (Nat.le_trans hzd (hS_6_3).below.size))) ?_;clear hK7;intro hS_6_7_3 hD;refine zc (i:=4) (fuel:=3) (by kernel_rfl) rfl hD ?_;clear hD;intro K4 hK4;have hcv:=xc hG HQ.out;go_wp2;refine hK4 _ _ (by exact hS_6_7_3) ?_;clear hK4;intro hS_6_4_3_7 hD;refine qP 8 2 rfl hD hS_6_4_3_7 ?_;clear hD;intro hD;refine qP 10 1 rfl hD hS_6_4_3_7 ?_;clear hD;intro hD;simp only[Act.put,sqA,sqB,sqC];refine zc (i:=11) (fuel:=0) (by kernel_rfl) rfl hD ?_;clear hD;intro K11 hK11;go_wp2;refine hK11 _ _ (by exact hS_6_4_3_7) ?_;clear hK11;intro hS_6_11_3_7 hD;refine ze (by kernel_rfl) ?_ 0;go_wp2;go_ret;exact⟨by rw[hfin.out];rfl,HBD.out.trans ((hS_6_11_3_7).below.mono (by omega))⟩
      · unfold xh;clear hD;intro K7 hK7;go_wp2_with fail;refine(zco body.length _ (by omega)).mono ?_;rintro e w6 ⟨rfl,hb6⟩;have HB6:=Hq hb6;clear hb6;try (replace hG:=kc HB6.out hG)
        go_wp2;refine hK7 _ _ (by exact((KeepB.refl (w.heap.size+1) wd)).trans (KeepB.of HB6.out nlr (Nat.le_trans hzd ((KeepB.refl (w.heap.size+1) wd)).below.size))) ?_;clear hK7;intro hS_6_7 hD;refine zc (i:=3) (fuel:=4) (by kernel_rfl) rfl hD ?_;clear hD;intro K3 hK3;go_wp2;refine hK3 _ _ (by exact KeepB.alloc hS_6_7 (Nat.le_trans hzd (hS_6_7).below.size) _) ?_;clear hK3;intro hS_6_3_7 hD;have hG:=za7 hS_6_3_7;refine zc (i:=4) (fuel:=3) (by kernel_rfl) rfl hD ?_;clear hD;intro K4 hK4;have hcv:=xc hG HQ.out;go_wp2;refine hK4 _ _ (by exact hS_6_3_7) ?_;clear hK4;intro hS_6_4_7 hD;refine qP 8 2 rfl hD hS_6_4_7 ?_;clear hD;intro hD;refine qP 10 1 rfl hD hS_6_4_7 ?_;clear hD;intro hD;simp only[Act.put,sqA,sqB,sqC];refine zc (i:=11) (fuel:=0) (by kernel_rfl) rfl hD ?_;clear hD;intro K11 hK11;go_wp2;refine hK11 _ _ (by exact hS_6_4_7) ?_;clear hK11;intro hS_6_11_7 hD;refine ze (by kernel_rfl) ?_ 0;go_wp2;go_ret;exact⟨by rw[hfin.out];rfl,HBD.out.trans ((hS_6_11_7).below.mono (by omega))⟩
def encS(x:It):ByteArray×Int:=
 if x.valid=false then(⟨#[]⟩,3)else if 32<x.depth then(⟨#[]⟩,7)else if 65536<x.bytes.length then(⟨#[]⟩,5)else(bstr x.bytes,0)
def zox(r:ByteArray×Int)(w:World)(e:Ending)(w':World):Prop:=e=.returned (.tuple #[.string r.1,.int .i64 r.2])∧Below w.heap.size w w'
theorem zk4(x:It)(v:Value)(w:World)(ok:Nat→Prop)(hM:x.weight≤1000000000)(hx:ItAt w ok v x):Calls Tryz.prog 40 #[v] w (zox (encS x) w):=by
 obtain⟨A,len,cap,rfl,hs⟩:=hx;have hbd:=x.bytes_le;have hdd:=Nat.le_trans x.depth_le x.nodes_le;obtain⟨w1,hw1⟩:∃ w1,w.alloc (.cells #[.int .i64 x.kind,.string x.nat,.string x.text,.slice A len cap] 94)=w1:=⟨_,rfl⟩;have hbox:w1.heap[w.heap.size]? =some (.cells #[.int .i64 x.kind,.string x.nat,.string x.text,.slice A len cap] 94 (0,0)):=by rw[←hw1];exact heap_alloc_new _ _
 have hb1:Below w.heap.size w w1:=by rw[←hw1];exact(blr).alloc nlr _
 have hi1:ItAt w1 (fun b=>ok b∧b<w.heap.size) (.agg #[.int .i64 x.kind,.string x.nat,.string x.text,.slice A len cap]) x:=⟨A,len,cap,rfl,hs.bound.below hb1 nlr⟩;have HI1:=Hq hi1;have HB1:=Hq hb1;have HBOX:=Hq hbox;have HW1:=Hq hw1;obtain⟨b0,b1,b2,b3⟩:=zx hbox;clear hi1 hb1 hbox hw1 hs;have hz1:w.heap.size+1≤w1.heap.size:=zw HBOX.out
 cases hv:x.valid with
 | false =>
  have hr:encS x=(⟨#[]⟩,3):=by simp[encS,hv]
  rw[hr];have HV:=Hq hv;clear hr hv;go_enter Tryz.func40,Tryz.ntmps40;go_wp2_with fail;rw[HW1.out];refine(zd9 _ x _ _ _ nlr (by omega) HI1.out).mono ?_;rintro e w2 ⟨rfl,hb2⟩;rw[HV.out];go_wp2;go_ret2;exact⟨rfl,HB1.out.trans (hb2.mono (by omega))⟩
 | true =>
  have HV:=Hq hv;by_cases hd:32<x.depth
  · have hr:encS x=(⟨#[]⟩,7):=by simp[encS,hv,hd]
    rw[hr];clear hr hv;go_enter Tryz.func40,Tryz.ntmps40;go_wp2_with fail;rw[HW1.out];refine(zd9 _ x _ _ _ nlr (by omega) HI1.out).mono ?_;rintro e w2 ⟨rfl,hb2⟩;rw[HV.out];have HB2:=Hq hb2;obtain⟨q0,q1,q2,q3⟩:=zx (jc hb2 nlr HBOX.out);have hz2:=hb2.size;clear hb2 b0 b1 b2 b3;go_wp2_with fail;refine(zhs _ x _ _ _ nlr (by omega) (HI1.out.below HB2.out nlr)).mono ?_;rintro e w3 ⟨rfl,hb3⟩;have HB3:=Hq hb3;clear hb3;go_wp2;go_ret2;exact⟨rfl,(HB1.out.trans (HB2.out.mono (by omega))).trans (HB3.out.mono (by omega))⟩
  · by_cases hl:65536<x.bytes.length;all_goals
     first
     | (have hr : encS x = (⟨#[]⟩, 5) := by simp [encS, hv, hd, hl]
        rw[hr])
     | (have hr : encS x = (bstr x.bytes, 0) := by simp [encS, hv, hd, hl]
        rw[hr])
     clear hr hv;have hbs:=jo x.bytes;rw[←hbs]at hl;have HBS:=Hq hbs;clear hbs;go_enter Tryz.func40,Tryz.ntmps40;go_wp2_with fail;rw[HW1.out];refine(zd9 _ x _ _ _ nlr (by omega) HI1.out).mono ?_;rintro e w2 ⟨rfl,hb2⟩;rw[HV.out];have HB2:=Hq hb2;obtain⟨q0,q1,q2,q3⟩:=zx (jc hb2 nlr HBOX.out);have HBOX2:=Hq (jc hb2 nlr HBOX.out);have hz2:=hb2.size;clear hb2 b0 b1 b2 b3;go_wp2_with fail;refine(zhs _ x _ _ _ nlr (by omega) (HI1.out.below HB2.out nlr)).mono ?_;rintro e w3 ⟨rfl,hb3⟩;have HB3:=Hq hb3;obtain⟨p0,p1,p2,p3⟩:=zx (jc hb3 nlr HBOX2.out);have hz3:=hb3.size;clear hb3 q0 q1 q2 q3;go_wp2_with fail;refine(zmw _ x _ _ _ nlr (by omega) ((HI1.out.below HB2.out nlr).below HB3.out nlr)).mono ?_;rintro e w4 ⟨rfl,hb4⟩;have HB4:=Hq hb4;clear hb4;go_wp2;go_ret2;exact⟨rfl,((HB1.out.trans (HB2.out.mono (by omega))).trans (HB3.out.mono (by omega))).trans (HB4.out.mono (by omega))⟩
theorem zkk(x:It)(v:Value)(w:World)(ok:Nat→Prop)(hM:x.weight≤1000000000)(hx:ItAt w ok v x):Calls Tryz.prog 67 #[v] w (zox (encS x) w):=by
 obtain⟨A,len,cap,rfl,hs⟩:=hx;have hbd:=x.bytes_le;have hdd:=Nat.le_trans x.depth_le x.nodes_le;obtain⟨w1,hw1⟩:∃ w1,w.alloc (.cells #[.int .i64 x.kind,.string x.nat,.string x.text,.slice A len cap] 94)=w1:=⟨_,rfl⟩;have hbox:w1.heap[w.heap.size]? =some (.cells #[.int .i64 x.kind,.string x.nat,.string x.text,.slice A len cap] 94 (0,0)):=by rw[←hw1];exact heap_alloc_new _ _
 have hb1:Below w.heap.size w w1:=by rw[←hw1];exact(blr).alloc nlr _
 have hi1:ItAt w1 (fun b=>ok b∧b<w.heap.size) (.agg #[.int .i64 x.kind,.string x.nat,.string x.text,.slice A len cap]) x:=⟨A,len,cap,rfl,hs.bound.below hb1 nlr⟩;have HI1:=Hq hi1;have HB1:=Hq hb1;have HBOX:=Hq hbox;have HW1:=Hq hw1;obtain⟨b0,b1,b2,b3⟩:=zx hbox;clear hi1 hb1 hbox hw1 hs;have hz1:w.heap.size+1≤w1.heap.size:=zw HBOX.out
 cases hv:x.valid with
 | false =>
  have hr:encS x=(⟨#[]⟩,3):=by simp[encS,hv]
  rw[hr];have HV:=Hq hv;clear hr hv;go_enter Tryz.func67,Tryz.ntmps67;go_wp2_with fail;rw[HW1.out];refine(zdp _ x _ _ _ nlr (by omega) HI1.out).mono ?_;rintro e w2 ⟨rfl,hb2⟩;rw[HV.out];go_wp2;go_ret2;exact⟨rfl,HB1.out.trans (hb2.mono (by omega))⟩
 | true =>
  have HV:=Hq hv;by_cases hd:32<x.depth
  · have hr:encS x=(⟨#[]⟩,7):=by simp[encS,hv,hd]
    rw[hr];clear hr hv;go_enter Tryz.func67,Tryz.ntmps67;go_wp2_with fail;rw[HW1.out];refine(zdp _ x _ _ _ nlr (by omega) HI1.out).mono ?_;rintro e w2 ⟨rfl,hb2⟩;rw[HV.out];have HB2:=Hq hb2;obtain⟨q0,q1,q2,q3⟩:=zx (jc hb2 nlr HBOX.out);have hz2:=hb2.size;clear hb2 b0 b1 b2 b3;go_wp2_with fail;refine(zg3 _ x _ _ _ nlr (by omega) (HI1.out.below HB2.out nlr)).mono ?_;rintro e w3 ⟨rfl,hb3⟩;have HB3:=Hq hb3;clear hb3;go_wp2;go_ret2;exact⟨rfl,(HB1.out.trans (HB2.out.mono (by omega))).trans (HB3.out.mono (by omega))⟩
  · by_cases hl:65536<x.bytes.length;all_goals
     first
     | (have hr : encS x = (⟨#[]⟩, 5) := by simp [encS, hv, hd, hl]
        rw[hr])
     | (have hr : encS x = (bstr x.bytes, 0) := by simp [encS, hv, hd, hl]
        rw[hr])
     clear hr hv;have hbs:=jo x.bytes;rw[←hbs]at hl;have HBS:=Hq hbs;clear hbs;go_enter Tryz.func67,Tryz.ntmps67;go_wp2_with fail;rw[HW1.out];refine(zdp _ x _ _ _ nlr (by omega) HI1.out).mono ?_;rintro e w2 ⟨rfl,hb2⟩;rw[HV.out];have HB2:=Hq hb2;obtain⟨q0,q1,q2,q3⟩:=zx (jc hb2 nlr HBOX.out);have HBOX2:=Hq (jc hb2 nlr HBOX.out);have hz2:=hb2.size;clear hb2 b0 b1 b2 b3;go_wp2_with fail;refine(zg3 _ x _ _ _ nlr (by omega) (HI1.out.below HB2.out nlr)).mono ?_;rintro e w3 ⟨rfl,hb3⟩;have HB3:=Hq hb3;obtain⟨p0,p1,p2,p3⟩:=zx (jc hb3 nlr HBOX2.out);have hz3:=hb3.size;clear hb3 q0 q1 q2 q3;go_wp2_with fail;refine(zlq _ x _ _ _ nlr (by omega) ((HI1.out.below HB2.out nlr).below HB3.out nlr)).mono ?_;rintro e w4 ⟨rfl,hb4⟩;have HB4:=Hq hb4;clear hb4;go_wp2;go_ret2;exact⟨rfl,((HB1.out.trans (HB2.out.mono (by omega))).trans (HB3.out.mono (by omega))).trans (HB4.out.mono (by omega))⟩
end Go.Proofs.YtkfgdcgmlobhfaaGreat

import Derived.Test.YtppbcopnfankcaaGreatQEncD
set_option linter.unusedVariables false
set_option linter.unusedSimpArgs false
namespace Go.Proofs.YtppbcopnfankcaaGreat
set_option maxRecDepth 100000
set_option maxHeartbeats 2000000
open Go.RowKit
theorem zoh(w:World)(c:Nat)(h:c<256)(b:Nat)(hb:b=w.heap.size)(T:TypeId):(convert 130 9 (.slice (some ⟨b,0,none⟩) 1 1)).run Tryz.prog (w.alloc (.cells #[.int .u8 (c:Int)] T)) =
 .ok (.string (bstr [UInt8.ofNat c])) (w.alloc (.cells #[.int .u8 (c:Int)] T)):=by
 subst hb;refine BytesAt.conv (xj w _ T [UInt8.ofNat c] 1 1 rfl (by omega) (by omega) fun k hk=>?_) _ _ 5 Tryz.underlying130 Tryz.underlying5 Tryz.underlying9
 match k,hk with
 | 0,_=>exact congrArg (fun x=>some (Value.int .u8 x)) (congrArg Int.ofNat (jd h).symm)
theorem xf(l m:List UInt8):bstr l++bstr m=bstr (l++m):=by
 unfold bstr;rw[ByteArray.mk_append_mk]
theorem zdf(n:Nat)(w:World)(h:n<34359738368):Calls Tryz.prog 197 #[.int .i64 n] w (Ret (.string (bstr (lenB n))) w):=by
 have hn:(n:Int)≤34359738368:=by omega
 have h0:n<128 ^ 10:=by omega
 have H0:=Hq h0;clear h h0;go_enter Tryz.func197,Tryz.ntmps197;go_wp2;go_loopw [0,3] (fun m s wr=>∃(q f:Nat) (p:List UInt8),m=.int .i64 q∧s=.string (bstr p)∧lenB n=p++lenF (f+1) q∧p.length+f=9∧q<128 ^ (f+1)∧q≤n∧Below w.heap.size w wr) (fun m _ _=>(intOf m).toNat);case atStart=>exact⟨n,9,[],rfl,rfl,rfl,rfl,H0.out,Nat.le_refl _,Below.refl _ _⟩
 case round =>
  obtain⟨q,f,p,rfl,rfl,hl,hp,hq,hqn,hB⟩:=hrel;have hps:(bstr p).size≤10:=by rw[zm];omega
  have hsz:=hB.size;have HL:=Hq hl;have HP:=Hq hp;have HQ:=Hq hq;have HB:=Hq hB;clear hl hp hq hB;by_cases h1:q<128
  · have hc:=zoh wr q (by omega) _ rfl 5;have hs:=zm [UInt8.ofNat q];have hadd:=run_string_add_sum (P:=Tryz.prog) (wr.alloc (.cells #[.int .u8 (q:Int)] 5)) (bstr p) (bstr [UInt8.ofNat q]) (by rw[hs];simp;omega);rw[xf]at hadd;clear hs;go_wp2;go_ret;refine⟨?_,HB.out.alloc hsz _⟩;have e:=HL.out;rw[lenF,if_pos h1]at e;rw[e];rfl
  · obtain⟨f',hf⟩:∃ f',f=f'+1:=by
     cases f with
     | zero=>have:=HQ.out;omega
     | succ f'=>exact⟨f',rfl⟩
    subst hf;have hc:=zoh wr (q%128+128) (by omega) _ rfl 5;rw[show (((q%128+128:Nat):Int))=(q:Int)%128+128 from by omega]at hc;have hs:=zm [UInt8.ofNat (q%128+128)];have hadd:=run_string_add_sum (P:=Tryz.prog) (wr.alloc (.cells #[.int .u8 ((q:Int)%128+128)] 5)) (bstr p) (bstr [UInt8.ofNat (q%128+128)]) (by rw[hs];simp;omega);rw[xf]at hadd;clear hs;obtain⟨c,hcc⟩:∃ c:UInt8,UInt8.ofNat (q%128+128)=c:=⟨_,rfl⟩;rw[hcc]at hc hadd;have HCC:=Hq hcc;clear hcc;go_wp2;refine⟨⟨q / 128,f',_,by go_num,rfl,?_,?_,?_,by omega,HB.out.alloc hsz _⟩,by simp[intOf];omega⟩
    · rw[HL.out,lenF,if_neg h1,HCC.out];simp
    · have:=HP.out;simp;omega
    · have:=HQ.out;rw[Nat.pow_succ]at this;exact Nat.div_lt_of_lt_mul (by omega)
theorem zea(l:List It)(A:Option Addr)(len cap:Nat)(w:World)(ok:Nat→Prop)(hM:l.length≤1000000000000)(hs:SlAt w ok A len cap l):Calls Tryz.prog 88 #[.slice A len cap] w (zzm (.mk 2 ⟨#[]⟩ ⟨#[]⟩ l) w):=by
 have hlen:=hs.1;by_cases h0:len=0
 · subst h0;have hl:l=[]:=List.length_eq_zero_iff.1 hlen;subst hl;clear hlen hs hM
   cases A with
   | none =>
    go_enter Tryz.func88,Tryz.ntmps88;go_wp2;exact bodyPost_ret (v:=.agg #[.int .i64 2,.string ⟨#[]⟩,.string ⟨#[]⟩,.slice none 0 0]) (by simp[results,Tryz.results88,go_sem]) rfl ⟨_,rfl,⟨none,0,0,rfl,SlAt.nil _ _⟩,(blr).alloc nlr _⟩
   | some ad =>
    have hlc:=fun(w:World)=>(run_loadCells_list (P:=Tryz.prog) w ad [] (by intro j v hj;simp at hj));go_enter Tryz.func88,Tryz.ntmps88;go_wp2;exact bodyPost_ret (v:=.agg #[.int .i64 2,.string ⟨#[]⟩,.string ⟨#[]⟩,.slice none 0 0]) (by simp[results,Tryz.results88,go_sem]) rfl ⟨_,rfl,⟨none,0,0,rfl,SlAt.nil _ _⟩,(blr).alloc nlr _⟩
 · obtain⟨b,o,rfl⟩:=hs.head (by omega);obtain⟨vs,hrow,hc,ho⟩:∃ vs,RowV w ok vs l∧(∀ j u,vs[j]? =some u→w.cell? ⟨b,o+j,none⟩=some u)∧∀ u∈vs,u.oneCell'=true:=(by obtain⟨h1,h2,h3,b',o',h4,h5⟩:=hs;have:=(h4 (by omega)).1;simp only[Option.some.injEq,Addr.mk.injEq,and_true]at this;obtain⟨rfl,rfl⟩:=this;exact RowAt.vals l b o h5);obtain⟨i0,hi,hz0,hz1,hz2⟩:=info_parts zar;have hvl:=hrow.length;have hlb:len≤1000000000000:=by omega
   have HLEN:=Hq hlen;have HS:=Hq hs;have HROW:=Hq hrow;have HC:=Hq hc;have HO:=Hq ho;have HVL:=Hq hvl;clear hlen hs hrow hc ho hvl;have hpos:0<len:=by omega
   clear h0;have hnews:∀ w':World,Below w.heap.size w w'→∀ j u,vs[j]? =some u→w'.cell? ((⟨b,o,none⟩:Addr).add j)=some u:=fun w' hb j u hj=>by
    have e:(⟨b,o,none⟩:Addr).add j=⟨b,o+j,none⟩:=by unfold Addr.add;split<;>simp_all
    rw[e];exact cell_kept hb nlr (HC.out j u hj)
   have HNEWS:=Hq hnews;clear hnews;go_enter Tryz.func88,Tryz.ntmps88;go_wp2_with (at_builtin;refine wpList_append_lies _ rfl (.tmp 4) (.tmp 5) 116 rfl (w.heap.size+1) 118 i0 _ 4 64 Tryz.underlying116 hi hz0 hz1 hz2 rfl (by decide) _ 0 [] rfl (World.ownsRow_nil _ _ _ _) ⟨b,o,none⟩ len cap vs rfl ?h1 ?h2 HO.out hpos ?h4 ?h5 ?h6 _ rfl ?_);case h1=>have:=HVL.out;have:=HLEN.out;omega
   case h2=>exact HNEWS.out _ ((blr).alloc nlr _)
   case h4=>unfold maxLen;omega
   case h5=>omega
   case h6=>simp
   intro g cap7 w7 hown7 hgrow7 hat7 hlt7;have hb7:Below w.heap.size w w7:=((blr).alloc nlr _).grown hgrow7 (by simp) (fun k e=>by cases e);have hres:w7.heap[w.heap.size]? =some (.cells #[.int .i64 0,.string ⟨#[]⟩,.string ⟨#[]⟩,.slice none 0 0] 118 (0,0)):=by
    rw[hgrow7.block _ (by simp) (fun e=>by cases e)];exact heap_alloc_new _ _
   have hfin:SlAt w7 (fun b=>b≠w.heap.size) (some ⟨g,0,none⟩) len cap7 l:=by
    refine(RowV.slice (vs:=vs) (RowV.low (ok':=fun b=>b≠w.heap.size) (fun b h=>by omega) _ _ (RowV.keep (fun b h _=>?_) _ _ (RowV.bound _ _ HROW.out))) hown7 (fun g' e=>?_)).2
    · exact hb7.block b h.2
    · have:=(hown7.lt _ e).1;omega
   obtain⟨rc0,rc1,rc2,rc3⟩:=zf hres;obtain⟨rf0,rf1,rf2,rf3⟩:=jr hres;have HB7:=Hq hb7;have HRES:=Hq hres;have HFIN:=Hq hfin;clear hb7 hres hfin hown7 hgrow7 hat7 hlt7;go_wp2;have HE:=Hq (zf (xg HRES.out (.int .i64 2) (.string ⟨#[]⟩) (.string ⟨#[]⟩) (.slice (some ⟨g,0,none⟩) len cap7)));have HK:=Hq (HFIN.out.keep (w':=set4 w7 w.heap.size (.int .i64 2) (.string ⟨#[]⟩) (.string ⟨#[]⟩) (.slice (some ⟨g,0,none⟩) len cap7)) (fun b hb _=>qm _ _ _ _ hb));have HBE:=Hq (xh (B:=w.heap.size) HB7.out (b:=w.heap.size) nlr (.int .i64 2) (.string ⟨#[]⟩) (.string ⟨#[]⟩) (.slice (some ⟨g,0,none⟩) len cap7));unfold set4 at HE HK HBE;obtain⟨wf,hwf⟩:=nm ((((w7.setCell ⟨w.heap.size,0,none⟩ (.int .i64 2)).setCell ⟨w.heap.size,1,none⟩ (.string ⟨#[]⟩)).setCell ⟨w.heap.size,2,none⟩ (.string ⟨#[]⟩)).setCell ⟨w.heap.size,3,none⟩ (.slice (some ⟨g,0,none⟩) len cap7));rw[hwf]at HE HK HBE⊢;obtain⟨q0,q1,q2,q3⟩:=HE.out;exact bodyPost_ret (v:=.agg #[.int .i64 2,.string ⟨#[]⟩,.string ⟨#[]⟩,.slice (some ⟨g,0,none⟩) len cap7]) (by simp[results,Tryz.results88,go_sem,q0,q1,q2,q3]) rfl ⟨_,rfl,⟨_,_,_,rfl,HK.out.low (fun b hb=>trivial)⟩,HBE.out⟩
set_option maxRecDepth 100000
set_option maxHeartbeats 2000000
theorem zjw:(Tryz.prog.info? 195).map (·.size)=some 2:=by kernel_rfl
theorem zve:liesAt Tryz.prog Tryz.prog.depth 195 (2 / Tryz.prog.cellsOf 195) 0 195 1=true:=by kernel_rfl
theorem zh7:(Tryz.prog.info? 5).map (fun i=>(i.zero,i.size,i.bytes))=some (some (.int .u8 0),1,1):=by kernel_rfl
theorem zb5(b:Nat)(w:World)(h0:w.cell? ⟨b,0,none⟩=some (.pointer (some ⟨b,0,none⟩))) :
 Calls Tryz.prog 213 #[.pointer (some ⟨b,0,none⟩)] w fun e w'=>e=.returned (.tuple #[])∧w=w':=by
 obtain⟨j,hj,_⟩:=Option.map_eq_some_iff.1 zjw;have hne:=Lib.run_neq_ptr_same (P:=Tryz.prog) w ⟨b,0,none⟩ Tryz.underlying193 hj;go_enter Tryz.func213,Tryz.ntmps213;go_wp2;go_end0;exact⟨rfl,rfl⟩
theorem zgj(b:Nat)(w:World)(h0:w.cell? ⟨b,0,none⟩=some (.pointer none))(hsh:w.shape? b=some (195,2))(hfz:w.frozen? ⟨b,0,none⟩=false) :
 Calls Tryz.prog 213 #[.pointer (some ⟨b,0,none⟩)] w fun e w'=>e=.returned (.tuple #[])∧w.setCell ⟨b,0,none⟩ (.pointer (some ⟨b,0,none⟩))=w':=by
 obtain⟨j,hj,hjs⟩:=Option.map_eq_some_iff.1 zjw;go_enter Tryz.func213,Tryz.ntmps213;go_wp2;rw[Lib.run_to_unsafe w ⟨b,0,none⟩ Tryz.underlying193 Tryz.underlying259 hj (by rw[hjs];decide) hsh (Nat.zero_lt_succ 1)];simp only[Result.andThen];rw[Oper.upon_value];go_wp2;rw[run_callFunc_extern Tryz.func244 (by kernel_rfl) (by kernel_rfl) (by kernel_rfl) (e:=Extern.AbiNoEscape.same) (by kernel_rfl)];rw[Lib.run_noEscape];simp only[Result.andThen];rw[Oper.upon_value];go_wp2;rw[Lib.run_from_unsafe w ⟨b,0,none⟩ Tryz.underlying259 Tryz.underlying193 hj hsh zve];simp only[Result.andThen];rw[Oper.upon_value];go_wp2;go_end0;exact⟨rfl,rfl⟩
theorem zs5(B b:Nat)(bs:List Value)(w:World)(h:Lib.IsBuilder 195 5 B b bs w) :
 Calls Tryz.prog 213 #[.pointer (some ⟨b,0,none⟩)] w fun e w'=>e=.returned (.tuple #[])∧(Lib.BuilderAt 195 5 B b (.pointer (some ⟨b,0,none⟩)) bs w'∧Below B w w'):=by
 rcases h with h | h
 · refine(zgj b w h.cell0 h.shape h.frozen0).mono ?_;rintro e w' ⟨rfl,rfl⟩;exact⟨rfl,h.used _,(Below.refl B w).setCell (p:=⟨b,0,none⟩) h.1 _⟩
 · refine(zb5 b w h.cell0).mono ?_;rintro e w' ⟨rfl,rfl⟩;exact⟨rfl,h,Below.refl B _⟩
theorem ke(B b:Nat)(bs:List Value)(s:ByteArray)(w:World)(h:Lib.IsBuilder 195 5 B b bs w)(hlen:bs.length+s.size≤140737488355328)(hBw:B≤w.heap.size) :
 Calls Tryz.prog 160 #[.pointer (some ⟨b,0,none⟩),.string s] w fun e w'=>e=.returned (.tuple #[.int .i64 s.size,.nilIface]) ∧
  (Lib.IsBuilder 195 5 B b (bs++Lib.strCells s) w'∧Below B w w'):=by
 obtain⟨i0,hi,hz0,hz1,hz2⟩:=info_parts zh7;go_enter Tryz.func160,Tryz.ntmps160;go_wp2_with fail;refine(zs5 B b bs _ h).mono ?_;rintro e w1 ⟨rfl,h1,hb1⟩;obtain⟨hB,v,hbk,hown,hne⟩:=h1;have c0:w1.cell? ⟨b,0,none⟩=some (.pointer (some ⟨b,0,none⟩)):=by rw[Lib.cell_of_heap hbk];rfl
 have c1:w1.cell? ⟨b,1,none⟩=some v:=by rw[Lib.cell_of_heap hbk];rfl
 go_wp2_with (at_builtin;refine Lib.wpList_append_own_string _ rfl _ _ 130 9 rfl B 5 i0 Tryz.underlying130 Tryz.underlying9 hi hz0 hz1 hz2 _ _ _ rfl hown s rfl ?c3 ?c4 ?c5 ?_);case c3=>unfold maxLen;omega
 case c4=>omega
 case c5=>have:=hb1.size;omega
 intro v' w2 hown' hgrow _;have hlt:b<w1.heap.size:=by
  rcases Nat.lt_or_ge b w1.heap.size with h' | h'
  · exact h'
  · rw[Array.getElem?_eq_none h']at hbk;cases hbk
 have hb2:w2.heap[b]? =some (.cells #[.pointer (some ⟨b,0,none⟩),v] 195 (0,0)):=(by rw[hgrow.block b hlt (fun e=>hne e.symm)];exact hbk);have d0:w2.cell? ⟨b,0,none⟩=some (.pointer (some ⟨b,0,none⟩)):=by rw[Lib.cell_of_heap hb2];rfl
 have d1:w2.cell? ⟨b,1,none⟩=some v:=by rw[Lib.cell_of_heap hb2];rfl
 have f1:w2.frozen? ⟨b,1,none⟩=false:=Lib.frozen_of_heap hb2 1;obtain⟨ao,n',cap,rfl⟩:∃ ao n' cap,v'=.slice ao n' cap:=by
  rcases hown'.2 with⟨hv,_⟩ | ⟨g,cap,cur,hv,_⟩
  · exact⟨_,_,_,hv⟩
  · exact⟨_,_,_,hv⟩
 go_wp2;go_ret2;refine⟨rfl,.inr ?_,?_⟩
 · exact Lib.BuilderAt.put hB hb2 (bs':=bs++Lib.strCells s) (by simpa[Lib.strCells_length]using hown') (by decide)
 · exact(hb1.grown hgrow (by have:=hb1.size;omega) (fun k hk=>(hown.lt k hk).1)).setCell (p:=⟨b,1,none⟩) hB _
theorem zm9:Tryz.prog.cellsOf 5=1:=by kernel_rfl
theorem qa{B b:Nat}{bs:List Value}{w w':World}(h:Lib.IsBuilder 195 5 B b bs w)(hb:Below w.heap.size w w'):Lib.IsBuilder 195 5 B b bs w':=by
 rcases h with⟨h1,v,h2,h3,h4⟩ | ⟨h1,v,h2,h3,h4⟩
 · exact .inl ⟨h1,v,zr hb nlr h2,jp h3 hb nlr,h4⟩
 · exact .inr ⟨h1,v,zr hb nlr h2,jp h3 hb nlr,h4⟩
theorem zvf{B b:Nat}{bs:List Value}{w:World}(h:Lib.IsBuilder 195 5 B b bs w):Lib.IsBuilder 195 5 B b bs w.drew:=qa h (blr).drew
theorem j9(B b:Nat)(l:List UInt8)(w:World)(h:Lib.IsBuilder 195 5 B b (Lib.byteCells l) w)(hBw:B≤w.heap.size) :
 Calls Tryz.prog 163 #[.pointer (some ⟨b,0,none⟩)] w fun e w'=>e=.returned (.string (bstr l))∧KeepB B w w':=by
 obtain⟨p,hB,v,hbk,hown,hne⟩:∃ p,Lib.BuilderAt 195 5 B b p (Lib.byteCells l) w:=by
  rcases h with h | h
  · exact⟨_,h⟩
  · exact⟨_,h⟩
 clear h;have hlt:b<w.heap.size:=zn hbk;rw[Lib.byteCells_length]at hown;by_cases h0:l=[]
 · subst h0;have hUS:∀(W:World) (q:Option Addr),(Builtin.unsafeString_ #[237,3] 9 #[.pointer q,.int .i64 0]).run Tryz.prog W=.ok (.string .empty) W:=fun W q=>Lib.run_unsafeString_none W _ _ _ q;rcases hown.2 with⟨rfl,_⟩ | ⟨g,cap,cur,rfl,hbg,hg,_,_,_,_⟩
   · have c1:w.drew.cell? ⟨b,1,none⟩=some (.slice none 0 0):=(by rw[cell?_drew,Lib.cell_of_heap hbk];rfl);have hSD:(Builtin.unsafeSliceData_ #[130] 237 #[.slice none 0 0]).run Tryz.prog w.drew=.ok (.pointer none) w.drew:=rfl;clear hown hne hbk;go_enter Tryz.func163,Tryz.ntmps163;go_wp2;go_region;all_goals (go_wp2;go_ret;exact⟨rfl,(KeepB.refl B w).drew⟩)
   · by_cases hc0:cap=0
     · subst hc0;have c1:w.drew.cell? ⟨b,1,none⟩=some (.slice (some ⟨g,0,none⟩) 0 0):=by
        rw[cell?_drew,Lib.cell_of_heap hbk];rfl
       have hSD:(Builtin.unsafeSliceData_ #[130] 237 #[.slice (some ⟨g,0,none⟩) 0 0]).run Tryz.prog w.drew=.ok (.pointer (some ⟨w.drew.heap.size,0,none⟩)) (w.drew.alloc (.view ⟨g,0,none⟩ 5)):=
        Lib.run_unsafeSliceData_zero w.drew _ _ 5 Tryz.underlying237 ⟨g,0,none⟩ 0 (5,cur.size) (by have hg':w.drew.heap[g]? =some (.cells cur 5 (0,0)):=hg;simp[World.shape?,hg'])
       have c2:(w.drew.alloc (.view ⟨g,0,none⟩ 5)).cell? ⟨b,1,none⟩=some (.slice (some ⟨g,0,none⟩) 0 0):=(by have : (w.drew.alloc (.view ⟨g,0,none⟩ 5)).heap[b]? =_:=(Lib.alloc_old w.drew _ b hlt).trans hbk;rw[Lib.cell_of_heap this];rfl);have c3:(w.alloc (.view ⟨g,0,none⟩ 5)).drew.cell? ⟨b,1,none⟩=some (.slice (some ⟨g,0,none⟩) 0 0):=c2;have c0:w.cell? ⟨b,1,none⟩=some (.slice (some ⟨g,0,none⟩) 0 0):=c1;clear hown hne hbk;go_enter Tryz.func163,Tryz.ntmps163;go_wp2;go_region;all_goals (go_wp2;go_ret;exact⟨rfl,(KeepB.refl B w).drew.alloc hBw _⟩)
     · have c1:w.drew.cell? ⟨b,1,none⟩=some (.slice (some ⟨g,0,none⟩) 0 cap):=(by rw[cell?_drew,Lib.cell_of_heap hbk];rfl);have hSD:(Builtin.unsafeSliceData_ #[130] 237 #[.slice (some ⟨g,0,none⟩) 0 cap]).run Tryz.prog w.drew=.ok (.pointer (some ⟨g,0,none⟩)) w.drew:=
        Lib.run_unsafeSliceData_row _ _ _ _ _ _ hc0
       clear hown hne hbk hc0;go_enter Tryz.func163,Tryz.ntmps163;go_wp2;go_region;all_goals (go_wp2;go_ret;exact⟨rfl,(KeepB.refl B w).drew⟩)
 · have hl0:l.length≠0:=by simpa using h0
   obtain⟨g,cap,cur,rfl,hbg,hg,hnc,hcm,hcs,htake⟩:∃ g cap cur,v=.slice (some ⟨g,0,none⟩) l.length cap∧B≤g∧w.heap[g]? =some (.cells cur 5 (0,0))∧l.length≤cap∧cap≤maxLen∧cur.size=cap * 1∧cur.toList.take (l.length * 1)=Lib.byteCells l:=by
    rcases hown.2 with⟨_,hz⟩ | ⟨g,cap,cur,hv,r⟩
    · exact absurd hz hl0
    · exact⟨g,cap,cur,hv,r⟩
   have c1:w.drew.cell? ⟨b,1,none⟩=some (.slice (some ⟨g,0,none⟩) l.length cap):=(by rw[cell?_drew,Lib.cell_of_heap hbk];rfl);have hSD:(Builtin.unsafeSliceData_ #[130] 237 #[.slice (some ⟨g,0,none⟩) l.length cap]).run Tryz.prog w.drew=.ok (.pointer (some ⟨g,0,none⟩)) w.drew:=
    Lib.run_unsafeSliceData_row _ _ _ _ _ _ (by omega)
   have hUS:(Builtin.unsafeString_ #[237,3] 9 #[.pointer (some ⟨g,0,none⟩),.int .i64 l.length]).run Tryz.prog w.drew=.ok (.string (bstr l)) (w.drew.freeze ⟨g,0,none⟩ l.length):=(by refine Lib.run_unsafeString_row w.drew 237 3 9 5 Tryz.underlying237 zm9 g cur.size (by have hg':w.drew.heap[g]? =some (.cells cur 5 (0,0)):=hg;simp[World.shape?,hg']) l h0 (by omega) (by unfold maxLen at hcm;omega) ?_;intro j x hx;exact hown.cells (g:=g) rfl j (.int .u8 x.toNat) (by simp[Lib.byteCells,hx]));clear hown hne hbk htake hcs h0;have hk:KeepB B w (w.drew.freeze ⟨g,0,none⟩ l.length):=⟨Lib.below_freeze (Below.drew (Below.refl B w)) (p:=⟨g,0,none⟩) hbg _,fun a v hc=>by rw[cell?_freeze];exact hc⟩;have HK:=Hq hk;clear hk;go_enter Tryz.func163,Tryz.ntmps163;go_wp2;go_region;all_goals (go_wp2;go_ret;exact⟨rfl,HK.out⟩)
set_option maxRecDepth 100000
set_option maxHeartbeats 4000000
theorem kd{l:List It}{k:Nat}{y:It}(h:l[k]? =some y):Its.bytes (l.take (k+1))=Its.bytes (l.take k)++y.bytes:=by
 rw[qu h,Its.bytes_append];simp[Its.bytes]
theorem zc8(l:List It)(k:Nat):(Its.bytes (l.take k)).length≤Its.weight l:=
 Nat.le_trans (Its.bytes_le _) (Its.weight_take_le l k)
theorem zbv{B:Nat}{a W:World}{cs:Array Value}{T:TypeId}(h:KeepB B a (W.alloc (.cells cs T))):(W.alloc (.cells cs T)).cell? ⟨W.heap.size,0,none⟩=cs[0]?:=World.cell?_alloc_at (w:=W) cs T W.heap.size 0 rfl
theorem zef{B b:Nat}{bs:List Value}{a W:World}{C:Obj}(h:KeepB B a (W.alloc C))(hi:Lib.IsBuilder 195 5 B b bs W):Lib.IsBuilder 195 5 B b bs (W.alloc C):=qa hi ((blr).alloc nlr _)
theorem j8{w:World}{g:Nat}{c:Int}{cb:UInt8}(h:w.cell? ⟨g,0,none⟩=some (.int .u8 c))(hc:c=(cb.toNat:Int)):(convert 130 9 (.slice (some ⟨g,0,none⟩) 1 1)).run Tryz.prog w=.ok (.string (bstr [cb])) w:=by
 refine BytesAt.conv (bs:=[cb]) (len:=1) (cap:=1) ⟨rfl,Nat.le_refl _,by omega,fun _=>⟨g,0,rfl,fun k hk=>?_⟩⟩ _ _ 5 Tryz.underlying130 Tryz.underlying5 Tryz.underlying9
 match k,hk with
 | 0,_=>rw[h,hc];rfl
theorem zsp(N:Nat):∀(x:It) (v:Value) (w:World) (ok:Nat→Prop),x.nodes≤N→x.weight≤1000000000→ItAt w ok v x→Calls Tryz.prog 112 #[v] w (Ret (.string (bstr x.bytes)) w):=by
 induction N with
 | zero=>intro x v w ok h;have:=x.nodes_pos;omega
 | succ N ih =>
  intro x v w ok hN hM ⟨A,len,cap,hv,hs⟩;subst hv;have IH:=Hq ih;clear ih
  cases x with
  | mk q n t l =>
   simp only[It.kind,It.nat,It.text,It.list]at *;simp only[It.nodes,It.weight]at hN hM;have hlen:=hs.1;have hcap:=hs.2.2.1;have hlc:=hs.2.1;have hs0:=hs.bound;have HS0:=Hq hs0;have HLEN:=Hq hlen;have HN:=Hq hN;have HM:=Hq hM;have hM1:n.size≤1000000000:=by omega
   have hM2:n.size+t.size≤1000000000:=by omega
   clear hs hs0 hlen hN hM;go_enter Tryz.func112,Tryz.ntmps112;go_wp2_with fail;have hib:=Lib.fresh_isBuilder 195 5 (w.alloc (.cells #[.int .i64 q,.string n,.string t,.slice A len cap] 118));have hb0:(w.alloc (.cells #[.int .i64 q,.string n,.string t,.slice A len cap] 118)).heap.size=w.heap.size+1:=by simp
   rw[hb0]at hib;have hbox:((w.alloc (.cells #[.int .i64 q,.string n,.string t,.slice A len cap] 118)).alloc (.cells #[.pointer none,.slice none 0 0] 195)).heap[w.heap.size]? =some (.cells #[.int .i64 q,.string n,.string t,.slice A len cap] 118 (0,0)):=by
    rw[Lib.alloc_old _ _ _ (by simp)];exact heap_alloc_new _ _
   have hbl:Below w.heap.size w ((w.alloc (.cells #[.int .i64 q,.string n,.string t,.slice A len cap] 118)).alloc (.cells #[.pointer none,.slice none 0 0] 195)):=((blr).alloc nlr _).alloc (by simp) _;have hsz:w.heap.size+1≤((w.alloc (.cells #[.int .i64 q,.string n,.string t,.slice A len cap] 118)).alloc (.cells #[.pointer none,.slice none 0 0] 195)).heap.size:=by simp
   obtain⟨W0,hW0⟩:=nm ((w.alloc (.cells #[.int .i64 q,.string n,.string t,.slice A len cap] 118)).alloc (.cells #[.pointer none,.slice none 0 0] 195));rw[hW0]at hib hbox hbl hsz⊢;clear hW0 hb0;have HBOX:=Hq hbox;have HBL:=Hq hbl;clear hbox hbl;refine(ke _ _ [] n _ hib (by simp;omega) hsz).mono ?_;rintro e w1 ⟨rfl,hi1,hb1⟩;rw[List.nil_append,Lib.strCells_eq]at hi1;have hbox1:w1.heap[w.heap.size]? =_:=(hb1.block _ (by omega)).trans HBOX.out;obtain⟨b0,b1,b2,b3⟩:=zf hbox1;have HB1:=Hq hb1;have HI1:=Hq hi1;have hz1:w.heap.size+1≤w1.heap.size:=zn hbox1;clear hb1 hi1 hib hbox1;go_wp2_with fail;refine(ke _ _ _ t _ HI1.out (by rw[Lib.byteCells_length,jb];omega) hz1).mono ?_;rintro e w2 ⟨rfl,hi2,hb2⟩;rw[Lib.strCells_eq,←Lib.byteCells_append]at hi2;clear b0 b1 b2 b3;have HBOX2:=Hq ((hb2.block _ (by omega)).trans ((HB1.out.block _ (by omega)).trans HBOX.out));have HB2:=Hq (HB1.out.trans hb2);have HI2:=Hq hi2;obtain⟨b0,b1,b2,b3⟩:=zf HBOX2.out;clear hb2 hi2;obtain⟨pre,hpre⟩:=nm (n.data.toList++t.data.toList);rw[hpre]at HI2;have hpl:pre.length=n.size+t.size:=by rw[←hpre,List.length_append,jb,jb]
   have HPRE:=Hq hpre;have HPL:=Hq hpl;clear hpre hpl;go_wp2;clear b0 b1 b2 b3;go_loopw [15] (fun i wr=>∃ k:Nat,k≤len∧i=.int .i64 k∧Lib.IsBuilder 195 5 (w.heap.size+1) (w.heap.size+1) (Lib.byteCells (pre++Its.bytes (l.take k))) wr∧Below (w.heap.size+1) W0 wr) (fun i _=>len - (intOf i).toNat);case atStart=>exact⟨0,Nat.zero_le _,rfl,by simpa[Its.bytes]using HI2.out,HB2.out⟩
   case round =>
    obtain⟨k,hk,rfl,hib,hB⟩:=hrel;have hbox1:wr.heap[w.heap.size]? =_:=(hB.block _ (by omega)).trans HBOX.out;obtain⟨b0,b1,b2,b3⟩:=zf hbox1;have hz1:w.heap.size+1≤wr.heap.size:=zn hbox1;have hs1:=HS0.out.keep (fun b hb _=>(hB.block b (by omega)).trans (HBL.out.block b hb.2));have HIB:=Hq hib;have HB:=Hq hB;clear hib hB hbox1;by_cases hlt:k<len
    · obtain⟨b,o,rfl⟩:=hs1.head (by omega);obtain⟨y,hy⟩:∃ y,l[k]? =some y:=⟨_,List.getElem?_eq_getElem (by rw[HLEN.out];exact hlt)⟩;obtain⟨A1,len1,cap1,c0,c1,c2,c3,hs2⟩:=(hs1.get? k hy).open;have hyN:y.nodes≤N:=by have:=Its.mem_nodes (List.mem_of_getElem? hy);have:=HN.out;omega
      have hyM:y.weight≤1000000000:=by have:=Its.mem_weight (List.mem_of_getElem? hy);have:=HM.out;omega
      have HS2:=Hq hs2;have HY:=Hq hy;clear hs1 hs2 hy;go_wp2_with fail;refine(IH.out y _ _ _ hyN hyM ⟨A1,len1,cap1,rfl,HS2.out.below ((Below.refl wr.heap.size wr).alloc nlr _) nlr⟩).mono ?_;rintro e w3 ⟨rfl,hb3⟩;have hb3':Below wr.heap.size wr w3:=((Below.refl wr.heap.size wr).alloc nlr _).trans (hb3.mono (by simp));have hz3:=hb3'.size;have HB3:=Hq hb3';clear hb3 hb3';go_wp2_with fail;refine(ke _ _ _ (bstr y.bytes) _ (qa HIB.out HB3.out) (by
       rw[Lib.byteCells_length,zm,List.length_append];have h1:=zc8 l (k+1);rw[kd HY.out,List.length_append]at h1;have h2:=HPL.out;have h3:=HM.out
       omega) (by omega)).mono ?_
      rintro e w4 ⟨rfl,hi4,hb4⟩;rw[Lib.strCells_eq,←Lib.byteCells_append,jn,List.append_assoc,←kd HY.out]at hi4;have HI4:=Hq hi4;have HB4:=Hq hb4;clear hi4 hb4;go_wp2;go_roundw;case rel=>exact⟨k+1,by omega,by go_num,HI4.out,(HB.out.trans (HB3.out.mono (by omega))).trans HB4.out⟩
      case measure=>simp[intOf];omega
    · obtain rfl:k=len:=by omega
      rw[List.take_of_length_le (by have:=HLEN.out;omega)]at HIB;obtain⟨body,hbody⟩:=nm (pre++Its.bytes l);rw[hbody]at HIB;have hbl:body.length≤1000000000:=by
       rw[←hbody,List.length_append];have h1:=Its.bytes_le l;have h2:=HPL.out;have h3:=HM.out;omega
      have HBODY:=Hq hbody;clear hs1 hbody;go_wp2;obtain⟨wd,hwd⟩:=nm (wr.drew);have d0:wd.cell? ⟨w.heap.size,0,none⟩=some (.int .i64 q):=by rw[←hwd];exact b0
      have HIBC:=Hq (show Lib.IsBuilder 195 5 (w.heap.size+1) (w.heap.size+1) (Lib.byteCells body) wd from by rw[←hwd];exact zvf HIB.out);have HBD:=Hq (show Below w.heap.size w wd from by rw[←hwd];exact((HBL.out.trans (HB.out.mono (by omega))).drew));have hzd:w.heap.size+1≤wd.heap.size:=by rw[←hwd];exact hz1
      obtain⟨cb,hcb⟩:∃ cb:UInt8,UInt8.ofNat (q%256).toNat=cb:=⟨_,rfl⟩;have hq:q%256=(cb.toNat:Int):=by rw[←hcb,jd (by omega)];omega
      have hlb:=zcf 10 body.length;have hadd1:∀ w,(Op.stringOp .add (bstr [cb]) (bstr (lenB body.length))).run Tryz.prog w=.ok (.string (bstr (cb::lenB body.length))) w:=fun w=>by
       rw[run_string_add_sum w _ _ (by rw[zm,zm];unfold lenB;simp;omega),xf];rfl
      have hadd2:∀ w,(Op.stringOp .add (bstr (cb::lenB body.length)) (bstr body)).run Tryz.prog w=.ok (.string (bstr (cb::(lenB body.length++body)))) w:=fun w=>by
       rw[run_string_add_sum w _ _ (by rw[zm,zm];unfold lenB;simp;omega),xf];rfl
      have hfin:=Hq (show (It.mk q n t l).bytes=cb::(lenB body.length++body)from by
       simp only[It.bytes];have e:n.data.toList++(t.data.toList++Its.bytes l)=body:=by rw[←List.append_assoc,HPRE.out,HBODY.out]
       rw[e,hcb])
      have HQ:=Hq hq;have HCB:=Hq hcb;have HWD:=Hq hwd;clear hq hcb hlb b0 b1 b2 b3;refine za 11 (KeepB (w.heap.size+1) wd) (by kernel_rfl) ?_;rw[hwd];refine qPs 0 10 (KeepB.refl (w.heap.size+1) wd) ?_;refine qSs 1 9 (KeepB.refl (w.heap.size+1) wd) (fun w' hS'=>(hS'.cells _ _ d0)) ?_;refine qPs 2 8 (KeepB.refl (w.heap.size+1) wd) ?_;intro hD;refine jg (i:=3) (i':=5) (fuel:=7) (by kernel_rfl) rfl rfl hD ?_ ?_ 
      · unfold xn;intro K3 hK3;go_wp2;refine hK3 _ _ (by exact KeepB.alloc (KeepB.refl (w.heap.size+1) wd) (Nat.le_trans hzd ((KeepB.refl (w.heap.size+1) wd)).below.size) _) ?_;clear hK3;intro hS_9_3;have hG:=zbv hS_9_3;try (have HIBC:=Hq (zef hS_9_3 HIBC.out))
        intro hD;refine jg (i:=4) (i':=5) (fuel:=6) (by kernel_rfl) rfl rfl hD ?_ ?_ 
        · unfold xn;intro K4 hK4;have hcv:=j8 hG HQ.out;go_wp2;refine hK4 _ _ (by exact hS_9_3) ?_;clear hK4;intro hS_9_4_3;refine oO 5 5 ?_;intro K5 hK5;go_wp2_with fail;refine(Tryz.Builder_Len _ _ _ _ HIBC.out).mono ?_;rintro e w5 ⟨rfl,hw5⟩;subst w5;rw[Lib.byteCells_length];go_wp2;refine hK5 _ _ (by exact hS_9_4_3) ?_;clear hK5;intro hS_9_5_3_4;refine oO 6 4 ?_;intro K6 hK6;go_wp2_with fail;refine(qo body.length _ (by omega)).mono ?_;rintro e w6 ⟨rfl,hb6⟩;have HB6:=Hq hb6;clear hb6;have HIBC:=Hq (qa HIBC.out HB6.out);try (replace hG:=kc HB6.out hG)
          go_wp2;refine hK6 _ _ (by exact(hS_9_5_3_4).trans (KeepB.of HB6.out nlr (Nat.le_trans hzd (hS_9_5_3_4).below.size))) ?_;clear hK6;intro hS_9_6_3_4;refine qPs 7 3 hS_9_6_3_4 ?_;refine oO 8 2 ?_;intro K8 hK8;go_wp2_with fail;refine(j9 _ _ _ _ HIBC.out (Nat.le_trans hzd (hS_9_6_3_4).below.size)).mono ?_;rintro e w8 ⟨rfl,hb8⟩;have HB8:=Hq hb8;clear hb8;try (replace hG:=HB8.out.cells _ _ hG)
          go_wp2;refine hK8 _ _ (by exact(hS_9_6_3_4).trans HB8.out) ?_;clear hK8;intro hS_9_8_3_4;refine qPs 9 1 hS_9_8_3_4 ?_;refine oO 10 0 ?_;intro K10 hK10;go_wp2;refine hK10 _ _ (by exact hS_9_8_3_4) ?_;clear hK10;intro hS_9_10_3_4;refine wDn ?_;go_wp2;go_ret;exact⟨by rw[hfin.out];rfl,HBD.out.trans ((hS_9_10_3_4).below.mono (by omega))⟩
        · unfold xn;intro K5 hK5;go_wp2_with fail;refine(Tryz.Builder_Len _ _ _ _ HIBC.out).mono ?_;rintro e w5 ⟨rfl,hw5⟩;subst w5;rw[Lib.byteCells_length];go_wp2;refine hK5 _ _ (by exact hS_9_3) ?_;clear hK5;intro hS_9_5_3;intro hD;refine jg (i:=4) (i':=6) (fuel:=5) (by kernel_rfl) rfl rfl hD ?_ ?_ 
          · unfold xn;intro K4 hK4;have hcv:=j8 hG HQ.out;go_wp2;refine hK4 _ _ (by exact hS_9_5_3) ?_;clear hK4;intro hS_9_4_3_5;refine oO 6 4 ?_;intro K6 hK6;go_wp2_with fail;refine(qo body.length _ (by omega)).mono ?_;rintro e w6 ⟨rfl,hb6⟩;have HB6:=Hq hb6;clear hb6;have HIBC:=Hq (qa HIBC.out HB6.out);try (replace hG:=kc HB6.out hG)
            go_wp2;refine hK6 _ _ (by exact(hS_9_4_3_5).trans (KeepB.of HB6.out nlr (Nat.le_trans hzd (hS_9_4_3_5).below.size))) ?_;clear hK6;intro hS_9_6_3_5_4;refine qPs 7 3 hS_9_6_3_5_4 ?_;refine oO 8 2 ?_;intro K8 hK8;go_wp2_with fail;refine(j9 _ _ _ _ HIBC.out (Nat.le_trans hzd (hS_9_6_3_5_4).below.size)).mono ?_;rintro e w8 ⟨rfl,hb8⟩;have HB8:=Hq hb8;clear hb8;try (replace hG:=HB8.out.cells _ _ hG)
            go_wp2;refine hK8 _ _ (by exact(hS_9_6_3_5_4).trans HB8.out) ?_;clear hK8;intro hS_9_8_3_5_4;refine qPs 9 1 hS_9_8_3_5_4 ?_;refine oO 10 0 ?_;intro K10 hK10;go_wp2;refine hK10 _ _ (by exact hS_9_8_3_5_4) ?_;clear hK10;intro hS_9_10_3_5_4;refine wDn ?_;go_wp2;go_ret;exact⟨by rw[hfin.out];rfl,HBD.out.trans ((hS_9_10_3_5_4).below.mono (by omega))⟩
          · unfold xn;intro K6 hK6;go_wp2_with fail;refine(qo body.length _ (by omega)).mono ?_;rintro e w6 ⟨rfl,hb6⟩;have HB6:=Hq hb6;clear hb6;have HIBC:=Hq (qa HIBC.out HB6.out);try (replace hG:=kc HB6.out hG)
            go_wp2;refine hK6 _ _ (by exact(hS_9_5_3).trans (KeepB.of HB6.out nlr (Nat.le_trans hzd (hS_9_5_3).below.size))) ?_;clear hK6;intro hS_9_6_3_5;intro hD;refine jg (i:=4) (i':=8) (fuel:=4) (by kernel_rfl) rfl rfl hD ?_ ?_ 
            · unfold xn;intro K4 hK4;have hcv:=j8 hG HQ.out;go_wp2;refine hK4 _ _ (by exact hS_9_6_3_5) ?_;clear hK4;intro hS_9_4_3_5_6;refine qPs 7 3 hS_9_4_3_5_6 ?_;refine oO 8 2 ?_;intro K8 hK8;go_wp2_with fail;refine(j9 _ _ _ _ HIBC.out (Nat.le_trans hzd (hS_9_4_3_5_6).below.size)).mono ?_;rintro e w8 ⟨rfl,hb8⟩;have HB8:=Hq hb8;clear hb8;try (replace hG:=HB8.out.cells _ _ hG)
              go_wp2;refine hK8 _ _ (by exact(hS_9_4_3_5_6).trans HB8.out) ?_;clear hK8;intro hS_9_8_3_5_6_4;refine qPs 9 1 hS_9_8_3_5_6_4 ?_;refine oO 10 0 ?_;intro K10 hK10;go_wp2;refine hK10 _ _ (by exact hS_9_8_3_5_6_4) ?_;clear hK10;intro hS_9_10_3_5_6_4;refine wDn ?_;go_wp2;go_ret;exact⟨by rw[hfin.out];rfl,HBD.out.trans ((hS_9_10_3_5_6_4).below.mono (by omega))⟩
            · unfold xn;intro K8 hK8;go_wp2_with fail;refine(j9 _ _ _ _ HIBC.out (Nat.le_trans hzd (hS_9_6_3_5).below.size)).mono ?_;rintro e w8 ⟨rfl,hb8⟩;have HB8:=Hq hb8;clear hb8;try (replace hG:=HB8.out.cells _ _ hG)
              go_wp2;refine hK8 _ _ (by exact(hS_9_6_3_5).trans HB8.out) ?_;clear hK8;intro hS_9_8_3_5_6;refine oO 4 3 ?_;intro K4 hK4;have hcv:=j8 hG HQ.out;go_wp2;refine hK4 _ _ (by exact hS_9_8_3_5_6) ?_;clear hK4;intro hS_9_4_3_5_6_8;refine qPs 7 2 hS_9_4_3_5_6_8 ?_;refine qPs 9 1 hS_9_4_3_5_6_8 ?_;refine oO 10 0 ?_;intro K10 hK10;go_wp2;refine hK10 _ _ (by exact hS_9_4_3_5_6_8) ?_;clear hK10;intro hS_9_10_3_5_6_8;refine wDn ?_;go_wp2;go_ret;exact⟨by rw[hfin.out];rfl,HBD.out.trans ((hS_9_10_3_5_6_8).below.mono (by omega))⟩
      · unfold xn;intro K5 hK5;go_wp2_with fail;refine(Tryz.Builder_Len _ _ _ _ HIBC.out).mono ?_;rintro e w5 ⟨rfl,hw5⟩;subst w5;rw[Lib.byteCells_length];go_wp2;refine hK5 _ _ (by exact(KeepB.refl (w.heap.size+1) wd)) ?_;clear hK5;intro hS_9_5;intro hD;refine jg (i:=3) (i':=6) (fuel:=6) (by kernel_rfl) rfl rfl hD ?_ ?_ 
        · unfold xn;intro K3 hK3;go_wp2;refine hK3 _ _ (by exact KeepB.alloc hS_9_5 (Nat.le_trans hzd (hS_9_5).below.size) _) ?_;clear hK3;intro hS_9_3_5;have hG:=zbv hS_9_3_5;try (have HIBC:=Hq (zef hS_9_3_5 HIBC.out))
          intro hD;refine jg (i:=4) (i':=6) (fuel:=5) (by kernel_rfl) rfl rfl hD ?_ ?_ 
          · unfold xn;intro K4 hK4;have hcv:=j8 hG HQ.out;go_wp2;refine hK4 _ _ (by exact hS_9_3_5) ?_;clear hK4;intro hS_9_4_5_3;refine oO 6 4 ?_;intro K6 hK6;go_wp2_with fail;refine(qo body.length _ (by omega)).mono ?_;rintro e w6 ⟨rfl,hb6⟩;have HB6:=Hq hb6;clear hb6;have HIBC:=Hq (qa HIBC.out HB6.out);try (replace hG:=kc HB6.out hG)
            go_wp2;refine hK6 _ _ (by exact(hS_9_4_5_3).trans (KeepB.of HB6.out nlr (Nat.le_trans hzd (hS_9_4_5_3).below.size))) ?_;clear hK6;intro hS_9_6_5_3_4;refine qPs 7 3 hS_9_6_5_3_4 ?_;refine oO 8 2 ?_;intro K8 hK8;go_wp2_with fail;refine(j9 _ _ _ _ HIBC.out (Nat.le_trans hzd (hS_9_6_5_3_4).below.size)).mono ?_;rintro e w8 ⟨rfl,hb8⟩;have HB8:=Hq hb8;clear hb8;try (replace hG:=HB8.out.cells _ _ hG)
            go_wp2;refine hK8 _ _ (by exact(hS_9_6_5_3_4).trans HB8.out) ?_;clear hK8;intro hS_9_8_5_3_4;refine qPs 9 1 hS_9_8_5_3_4 ?_;refine oO 10 0 ?_;intro K10 hK10;go_wp2;refine hK10 _ _ (by exact hS_9_8_5_3_4) ?_;clear hK10;intro hS_9_10_5_3_4;refine wDn ?_;go_wp2;go_ret;exact⟨by rw[hfin.out];rfl,HBD.out.trans ((hS_9_10_5_3_4).below.mono (by omega))⟩
          · unfold xn;intro K6 hK6;go_wp2_with fail;refine(qo body.length _ (by omega)).mono ?_;rintro e w6 ⟨rfl,hb6⟩;have HB6:=Hq hb6;clear hb6;have HIBC:=Hq (qa HIBC.out HB6.out);try (replace hG:=kc HB6.out hG)
            go_wp2;refine hK6 _ _ (by exact(hS_9_3_5).trans (KeepB.of HB6.out nlr (Nat.le_trans hzd (hS_9_3_5).below.size))) ?_;clear hK6;intro hS_9_6_5_3;intro hD;refine jg (i:=4) (i':=8) (fuel:=4) (by kernel_rfl) rfl rfl hD ?_ ?_ 
            · unfold xn;intro K4 hK4;have hcv:=j8 hG HQ.out;go_wp2;refine hK4 _ _ (by exact hS_9_6_5_3) ?_;clear hK4;intro hS_9_4_5_3_6;refine qPs 7 3 hS_9_4_5_3_6 ?_;refine oO 8 2 ?_;intro K8 hK8;go_wp2_with fail;refine(j9 _ _ _ _ HIBC.out (Nat.le_trans hzd (hS_9_4_5_3_6).below.size)).mono ?_;rintro e w8 ⟨rfl,hb8⟩;have HB8:=Hq hb8;clear hb8;try (replace hG:=HB8.out.cells _ _ hG)
              go_wp2;refine hK8 _ _ (by exact(hS_9_4_5_3_6).trans HB8.out) ?_;clear hK8;intro hS_9_8_5_3_6_4;refine qPs 9 1 hS_9_8_5_3_6_4 ?_;refine oO 10 0 ?_;intro K10 hK10;go_wp2;refine hK10 _ _ (by exact hS_9_8_5_3_6_4) ?_;clear hK10;intro hS_9_10_5_3_6_4;refine wDn ?_;go_wp2;go_ret;exact⟨by rw[hfin.out];rfl,HBD.out.trans ((hS_9_10_5_3_6_4).below.mono (by omega))⟩
            · unfold xn;intro K8 hK8;go_wp2_with fail;refine(j9 _ _ _ _ HIBC.out (Nat.le_trans hzd (hS_9_6_5_3).below.size)).mono ?_;rintro e w8 ⟨rfl,hb8⟩;have HB8:=Hq hb8;clear hb8;try (replace hG:=HB8.out.cells _ _ hG)
              go_wp2;refine hK8 _ _ (by exact(hS_9_6_5_3).trans HB8.out) ?_;clear hK8;intro hS_9_8_5_3_6;refine oO 4 3 ?_;intro K4 hK4;have hcv:=j8 hG HQ.out;go_wp2;refine hK4 _ _ (by exact hS_9_8_5_3_6) ?_;clear hK4;intro hS_9_4_5_3_6_8;refine qPs 7 2 hS_9_4_5_3_6_8 ?_;refine qPs 9 1 hS_9_4_5_3_6_8 ?_;refine oO 10 0 ?_;intro K10 hK10;go_wp2;refine hK10 _ _ (by exact hS_9_4_5_3_6_8) ?_;clear hK10;intro hS_9_10_5_3_6_8;refine wDn ?_;go_wp2;go_ret;exact⟨by rw[hfin.out];rfl,HBD.out.trans ((hS_9_10_5_3_6_8).below.mono (by omega))⟩
        · unfold xn;intro K6 hK6;go_wp2_with fail;refine(qo body.length _ (by omega)).mono ?_;rintro e w6 ⟨rfl,hb6⟩;have HB6:=Hq hb6;clear hb6;have HIBC:=Hq (qa HIBC.out HB6.out);try (replace hG:=kc HB6.out hG)
          go_wp2;refine hK6 _ _ (by exact(hS_9_5).trans (KeepB.of HB6.out nlr (Nat.le_trans hzd (hS_9_5).below.size))) ?_;clear hK6;intro hS_9_6_5;intro hD;refine jg (i:=3) (i':=8) (fuel:=5) (by kernel_rfl) rfl rfl hD ?_ ?_ 
          · unfold xn;intro K3 hK3;go_wp2;refine hK3 _ _ (by exact KeepB.alloc hS_9_6_5 (Nat.le_trans hzd (hS_9_6_5).below.size) _) ?_;clear hK3;intro hS_9_3_5_6;have hG:=zbv hS_9_3_5_6;try (have HIBC:=Hq (zef hS_9_3_5_6 HIBC.out))
            intro hD;refine jg (i:=4) (i':=8) (fuel:=4) (by kernel_rfl) rfl rfl hD ?_ ?_ 
            · unfold xn;intro K4 hK4;have hcv:=j8 hG HQ.out;go_wp2;refine hK4 _ _ (by exact hS_9_3_5_6) ?_;clear hK4;intro hS_9_4_5_6_3;refine qPs 7 3 hS_9_4_5_6_3 ?_;refine oO 8 2 ?_;intro K8 hK8;go_wp2_with fail;refine(j9 _ _ _ _ HIBC.out (Nat.le_trans hzd (hS_9_4_5_6_3).below.size)).mono ?_;rintro e w8 ⟨rfl,hb8⟩;have HB8:=Hq hb8;clear hb8;try (replace hG:=HB8.out.cells _ _ hG)
              go_wp2;refine hK8 _ _ (by exact(hS_9_4_5_6_3).trans HB8.out) ?_;clear hK8;intro hS_9_8_5_6_3_4;refine qPs 9 1 hS_9_8_5_6_3_4 ?_;refine oO 10 0 ?_;intro K10 hK10;go_wp2;refine hK10 _ _ (by exact hS_9_8_5_6_3_4) ?_;clear hK10;intro hS_9_10_5_6_3_4;refine wDn ?_;go_wp2;go_ret;exact⟨by rw[hfin.out];rfl,HBD.out.trans ((hS_9_10_5_6_3_4).below.mono (by omega))⟩
            · unfold xn;intro K8 hK8;go_wp2_with fail;refine(j9 _ _ _ _ HIBC.out (Nat.le_trans hzd (hS_9_3_5_6).below.size)).mono ?_;rintro e w8 ⟨rfl,hb8⟩;have HB8:=Hq hb8;clear hb8;try (replace hG:=HB8.out.cells _ _ hG)
              go_wp2;refine hK8 _ _ (by exact(hS_9_3_5_6).trans HB8.out) ?_;clear hK8;intro hS_9_8_5_6_3;refine oO 4 3 ?_;intro K4 hK4;have hcv:=j8 hG HQ.out;go_wp2;refine hK4 _ _ (by exact hS_9_8_5_6_3) ?_;clear hK4;intro hS_9_4_5_6_3_8;refine qPs 7 2 hS_9_4_5_6_3_8 ?_;refine qPs 9 1 hS_9_4_5_6_3_8 ?_;refine oO 10 0 ?_;intro K10 hK10;go_wp2;refine hK10 _ _ (by exact hS_9_4_5_6_3_8) ?_;clear hK10;intro hS_9_10_5_6_3_8;refine wDn ?_;go_wp2;go_ret;exact⟨by rw[hfin.out];rfl,HBD.out.trans ((hS_9_10_5_6_3_8).below.mono (by omega))⟩
          · unfold xn;intro K8 hK8;go_wp2_with fail;refine(j9 _ _ _ _ HIBC.out (Nat.le_trans hzd (hS_9_6_5).below.size)).mono ?_;rintro e w8 ⟨rfl,hb8⟩;have HB8:=Hq hb8;clear hb8;try (replace hG:=HB8.out.cells _ _ hG)
            go_wp2;refine hK8 _ _ (by exact(hS_9_6_5).trans HB8.out) ?_;clear hK8;intro hS_9_8_5_6;refine oO 3 4 ?_;intro K3 hK3;go_wp2;refine hK3 _ _ (by exact KeepB.alloc hS_9_8_5_6 (Nat.le_trans hzd (hS_9_8_5_6).below.size) _) ?_;clear hK3;intro hS_9_3_5_6_8;have hG:=zbv hS_9_3_5_6_8;try (have HIBC:=Hq (zef hS_9_3_5_6_8 HIBC.out))
            refine oO 4 3 ?_;intro K4 hK4;have hcv:=j8 hG HQ.out;go_wp2;refine hK4 _ _ (by exact hS_9_3_5_6_8) ?_;clear hK4;intro hS_9_4_5_6_8;refine qPs 7 2 hS_9_4_5_6_8 ?_;refine qPs 9 1 hS_9_4_5_6_8 ?_;refine oO 10 0 ?_;intro K10 hK10;go_wp2;refine hK10 _ _ (by exact hS_9_4_5_6_8) ?_;clear hK10;intro hS_9_10_5_6_8;refine wDn ?_;go_wp2;go_ret;exact⟨by rw[hfin.out];rfl,HBD.out.trans ((hS_9_10_5_6_8).below.mono (by omega))⟩
set_option maxRecDepth 100000
set_option maxHeartbeats 4000000
theorem zq9(N:Nat):∀(x:It) (v:Value) (w:World) (ok:Nat→Prop),x.nodes≤N→x.weight≤1000000000→ItAt w ok v x→Calls Tryz.prog 138 #[v] w (Ret (.string (bstr x.bytes)) w):=by
 induction N with
 | zero=>intro x v w ok h;have:=x.nodes_pos;omega
 | succ N ih =>
  intro x v w ok hN hM ⟨A,len,cap,hv,hs⟩;subst hv;have IH:=Hq ih;clear ih
  cases x with
  | mk q n t l =>
   simp only[It.kind,It.nat,It.text,It.list]at *;simp only[It.nodes,It.weight]at hN hM;have hlen:=hs.1;have hcap:=hs.2.2.1;have hlc:=hs.2.1;have hs0:=hs.bound;have HS0:=Hq hs0;have HLEN:=Hq hlen;have HN:=Hq hN;have HM:=Hq hM;obtain⟨pre,hpre⟩:=nm (n.data.toList++t.data.toList);have hpl:pre.length=n.size+t.size:=by rw[←hpre,List.length_append,jb,jb]
   have hadd0:∀ w,(Op.stringOp .add n t).run Tryz.prog w=.ok (.string (bstr pre)) w:=fun w=>by
    rw[run_string_add_sum w _ _ (by omega),←xd n,←xd t,xf,hpre]
   have HPRE:=Hq hpre;have HPL:=Hq hpl;clear hs hs0 hlen hN hM hpre hpl;obtain⟨W0,hW0⟩:=nm (w.alloc (.cells #[.int .i64 q,.string n,.string t,.slice A len cap] 118));have hbox:W0.heap[w.heap.size]? =some (.cells #[.int .i64 q,.string n,.string t,.slice A len cap] 118 (0,0)):=by rw[←hW0];exact heap_alloc_new _ _
   have hbl:Below w.heap.size w W0:=by rw[←hW0];exact(blr).alloc nlr _
   have HBOX:=Hq hbox;have HBL:=Hq hbl;have HW0:=Hq hW0;clear hbox hbl hW0;go_enter Tryz.func138,Tryz.ntmps138;go_wp2;clear hadd0;rw[HW0.out];go_loopw [3,4] (fun s i wr=>∃ k:Nat,k≤len∧i=.int .i64 k∧s=.string (bstr (pre++Its.bytes (l.take k)))∧Below (w.heap.size+1) W0 wr) (fun _ i _=>len - (intOf i).toNat);case atStart=>exact⟨0,Nat.zero_le _,rfl,by simp[Its.bytes],Below.refl _ _⟩
   case round =>
    obtain⟨k,hk,rfl,rfl,hB⟩:=hrel;have hbox1:wr.heap[w.heap.size]? =_:=(hB.block _ (by omega)).trans HBOX.out;obtain⟨b0,b1,b2,b3⟩:=zf hbox1;have hz1:w.heap.size+1≤wr.heap.size:=zn hbox1;have hs1:=HS0.out.keep (fun b hb _=>(hB.block b (by omega)).trans (HBL.out.block b hb.2));have HB:=Hq hB;clear hB hbox1;by_cases hlt:k<len
    · obtain⟨b,o,rfl⟩:=hs1.head (by omega);obtain⟨y,hy⟩:∃ y,l[k]? =some y:=⟨_,List.getElem?_eq_getElem (by rw[HLEN.out];exact hlt)⟩;obtain⟨A1,len1,cap1,c0,c1,c2,c3,hs2⟩:=(hs1.get? k hy).open;have hyN:y.nodes≤N:=by have:=Its.mem_nodes (List.mem_of_getElem? hy);have:=HN.out;omega
      have hyM:y.weight≤1000000000:=by have:=Its.mem_weight (List.mem_of_getElem? hy);have:=HM.out;omega
      have hadd:∀ w,(Op.stringOp .add (bstr (pre++Its.bytes (l.take k))) (bstr y.bytes)).run Tryz.prog w=.ok (.string (bstr (pre++Its.bytes (l.take (k+1))))) w:=fun w=>by
       have h1:=zc8 l (k+1);rw[kd hy,List.length_append]at h1;have h2:=HPL.out;have h3:=HM.out;rw[run_string_add_sum w _ _ (by rw[zm,zm,List.length_append];omega),xf,List.append_assoc,←kd hy]
      have HS2:=Hq hs2;have HY:=Hq hy;clear hs1 hs2 hy;go_wp2_with fail;refine(IH.out y _ _ _ hyN hyM ⟨A1,len1,cap1,rfl,HS2.out⟩).mono ?_;rintro e w3 ⟨rfl,hb3⟩;have HB3:=Hq hb3;clear hb3;go_wp2;go_roundw;case rel=>exact⟨k+1,by omega,by go_num,rfl,HB.out.trans (HB3.out.mono (by omega))⟩
      case measure=>simp[intOf];omega
    · obtain rfl:k=len:=by omega
      rw[List.take_of_length_le (by have:=HLEN.out;omega)];obtain⟨body,hbody⟩:=nm (pre++Its.bytes l);rw[hbody];have hbl:body.length≤1000000000:=by
       rw[←hbody,List.length_append];have h1:=Its.bytes_le l;have h2:=HPL.out;have h3:=HM.out;omega
      have HBODY:=Hq hbody;clear hs1 hbody;go_wp2;obtain⟨wd,hwd⟩:=nm (wr.drew);have d0:wd.cell? ⟨w.heap.size,0,none⟩=some (.int .i64 q):=by rw[←hwd];exact b0
      have HBD:=Hq (show Below w.heap.size w wd from by rw[←hwd];exact((HBL.out.trans (HB.out.mono (by omega))).drew));have hzd:w.heap.size+1≤wd.heap.size:=by rw[←hwd];exact hz1
      obtain⟨cb,hcb⟩:∃ cb:UInt8,UInt8.ofNat (q%256).toNat=cb:=⟨_,rfl⟩;have hq:q%256=(cb.toNat:Int):=by rw[←hcb,jd (by omega)];omega
      have hlb:=zcf 10 body.length;have hbs:=zm body;have hadd1:∀ w,(Op.stringOp .add (bstr [cb]) (bstr (lenB body.length))).run Tryz.prog w=.ok (.string (bstr (cb::lenB body.length))) w:=fun w=>by
       rw[run_string_add_sum w _ _ (by rw[zm,zm];unfold lenB;simp;omega),xf];rfl
      have hadd2:∀ w,(Op.stringOp .add (bstr (cb::lenB body.length)) (bstr body)).run Tryz.prog w=.ok (.string (bstr (cb::(lenB body.length++body)))) w:=fun w=>by
       rw[run_string_add_sum w _ _ (by rw[zm,zm];unfold lenB;simp;omega),xf];rfl
      have hfin:=Hq (show (It.mk q n t l).bytes=cb::(lenB body.length++body)from by
       simp only[It.bytes];have e:n.data.toList++(t.data.toList++Its.bytes l)=body:=by rw[←List.append_assoc,HPRE.out,HBODY.out]
       rw[e,hcb])
      have HQ:=Hq hq;have HCB:=Hq hcb;have HWD:=Hq hwd;clear hq hcb hlb b0 b1 b2 b3;refine za 12 (KeepB (w.heap.size+1) wd) (by kernel_rfl) ?_;rw[hwd];refine qPs 0 11 (KeepB.refl (w.heap.size+1) wd) ?_;refine qSs 1 10 (KeepB.refl (w.heap.size+1) wd) (fun w' hS'=>(hS'.cells _ _ d0)) ?_;refine qPs 2 9 (KeepB.refl (w.heap.size+1) wd) ?_;refine qPs 5 8 (KeepB.refl (w.heap.size+1) wd) ?_;refine qPs 6 7 (KeepB.refl (w.heap.size+1) wd) ?_;refine qPs 9 6 (KeepB.refl (w.heap.size+1) wd) ?_;intro hD;refine jg (i:=3) (i':=7) (fuel:=5) (by kernel_rfl) rfl rfl hD ?_ ?_ 
      · unfold xn;intro K3 hK3;go_wp2;refine hK3 _ _ (by exact KeepB.alloc (KeepB.refl (w.heap.size+1) wd) (Nat.le_trans hzd ((KeepB.refl (w.heap.size+1) wd)).below.size) _) ?_;clear hK3;intro hS_6_3;have hG:=zbv hS_6_3;intro hD;refine jg (i:=4) (i':=7) (fuel:=4) (by kernel_rfl) rfl rfl hD ?_ ?_ 
        · unfold xn;intro K4 hK4;have hcv:=j8 hG HQ.out;go_wp2;refine hK4 _ _ (by exact hS_6_3) ?_;clear hK4;intro hS_6_4_3;refine oO 7 3 ?_;intro K7 hK7;go_wp2_with fail;refine(zdf body.length _ (by omega)).mono ?_;rintro e w6 ⟨rfl,hb6⟩;have HB6:=Hq hb6;clear hb6;try (replace hG:=kc HB6.out hG)
          go_wp2;refine hK7 _ _ (by exact(hS_6_4_3).trans (KeepB.of HB6.out nlr (Nat.le_trans hzd (hS_6_4_3).below.size))) ?_;clear hK7;intro hS_6_7_3_4;refine qPs 8 2 hS_6_7_3_4 ?_;refine qPs 10 1 hS_6_7_3_4 ?_;refine oO 11 0 ?_;intro K11 hK11;go_wp2;refine hK11 _ _ (by exact hS_6_7_3_4) ?_;clear hK11;intro hS_6_11_3_4;refine wDn ?_;go_wp2;go_ret;exact⟨by rw[hfin.out];rfl,HBD.out.trans ((hS_6_11_3_4).below.mono (by omega))⟩
        · unfold xn;intro K7 hK7;go_wp2_with fail;refine(zdf body.length _ (by omega)).mono ?_;rintro e w6 ⟨rfl,hb6⟩;have HB6:=Hq hb6;clear hb6;try (replace hG:=kc HB6.out hG)
          go_wp2;refine hK7 _ _ (by exact(hS_6_3).trans (KeepB.of HB6.out nlr (Nat.le_trans hzd (hS_6_3).below.size))) ?_;clear hK7;intro hS_6_7_3;refine oO 4 3 ?_;intro K4 hK4;have hcv:=j8 hG HQ.out;go_wp2;refine hK4 _ _ (by exact hS_6_7_3) ?_;clear hK4;intro hS_6_4_3_7;refine qPs 8 2 hS_6_4_3_7 ?_;refine qPs 10 1 hS_6_4_3_7 ?_;refine oO 11 0 ?_;intro K11 hK11;go_wp2;refine hK11 _ _ (by exact hS_6_4_3_7) ?_;clear hK11;intro hS_6_11_3_7;refine wDn ?_;go_wp2;go_ret;exact⟨by rw[hfin.out];rfl,HBD.out.trans ((hS_6_11_3_7).below.mono (by omega))⟩
      · unfold xn;intro K7 hK7;go_wp2_with fail;refine(zdf body.length _ (by omega)).mono ?_;rintro e w6 ⟨rfl,hb6⟩;have HB6:=Hq hb6;clear hb6;try (replace hG:=kc HB6.out hG)
        go_wp2;refine hK7 _ _ (by exact((KeepB.refl (w.heap.size+1) wd)).trans (KeepB.of HB6.out nlr (Nat.le_trans hzd ((KeepB.refl (w.heap.size+1) wd)).below.size))) ?_;clear hK7;intro hS_6_7;refine oO 3 4 ?_;intro K3 hK3;go_wp2;refine hK3 _ _ (by exact KeepB.alloc hS_6_7 (Nat.le_trans hzd (hS_6_7).below.size) _) ?_;clear hK3;intro hS_6_3_7;have hG:=zbv hS_6_3_7;refine oO 4 3 ?_;intro K4 hK4;have hcv:=j8 hG HQ.out;go_wp2;refine hK4 _ _ (by exact hS_6_3_7) ?_;clear hK4;intro hS_6_4_7;refine qPs 8 2 hS_6_4_7 ?_;refine qPs 10 1 hS_6_4_7 ?_;refine oO 11 0 ?_;intro K11 hK11;go_wp2;refine hK11 _ _ (by exact hS_6_4_7) ?_;clear hK11;intro hS_6_11_7;refine wDn ?_;go_wp2;go_ret;exact⟨by rw[hfin.out];rfl,HBD.out.trans ((hS_6_11_7).below.mono (by omega))⟩
def encS(x:It):ByteArray×Int:=
 if x.valid=false then(⟨#[]⟩,3)else if 32<x.depth then(⟨#[]⟩,7)else if 65536<x.bytes.length then(⟨#[]⟩,5)else(bstr x.bytes,0)
def yy(r:ByteArray×Int)(w:World)(e:Ending)(w':World):Prop:=e=.returned (.tuple #[.string r.1,.int .i64 r.2])∧Below w.heap.size w w'
theorem zav(x:It)(v:Value)(w:World)(ok:Nat→Prop)(hM:x.weight≤1000000000)(hx:ItAt w ok v x):Calls Tryz.prog 68 #[v] w (yy (encS x) w):=by
 obtain⟨A,len,cap,rfl,hs⟩:=hx;have hbd:=x.bytes_le;have hdd:=Nat.le_trans x.depth_le x.nodes_le;obtain⟨w1,hw1⟩:=nm (w.alloc (.cells #[.int .i64 x.kind,.string x.nat,.string x.text,.slice A len cap] 118));have hbox:w1.heap[w.heap.size]? =some (.cells #[.int .i64 x.kind,.string x.nat,.string x.text,.slice A len cap] 118 (0,0)):=by rw[←hw1];exact heap_alloc_new _ _
 have hb1:Below w.heap.size w w1:=by rw[←hw1];exact(blr).alloc nlr _
 have hi1:ItAt w1 (fun b=>ok b∧b<w.heap.size) (.agg #[.int .i64 x.kind,.string x.nat,.string x.text,.slice A len cap]) x:=⟨A,len,cap,rfl,hs.bound.below hb1 nlr⟩;have HI1:=Hq hi1;have HB1:=Hq hb1;have HBOX:=Hq hbox;have HW1:=Hq hw1;obtain⟨b0,b1,b2,b3⟩:=zf hbox;clear hi1 hb1 hbox hw1 hs;have hz1:w.heap.size+1≤w1.heap.size:=zn HBOX.out
 cases hv:x.valid with
 | false =>
  have hr:encS x=(⟨#[]⟩,3):=by simp[encS,hv]
  rw[hr];have HV:=Hq hv;clear hr hv;go_enter Tryz.func68,Tryz.ntmps68;go_wp2_with fail;rw[HW1.out];refine(zga _ x _ _ _ nlr (by omega) HI1.out).mono ?_;rintro e w2 ⟨rfl,hb2⟩;rw[HV.out];go_wp2;go_ret2;exact⟨rfl,HB1.out.trans (hb2.mono (by omega))⟩
 | true =>
  have HV:=Hq hv;by_cases hd:32<x.depth
  · have hr:encS x=(⟨#[]⟩,7):=by simp[encS,hv,hd]
    rw[hr];clear hr hv;go_enter Tryz.func68,Tryz.ntmps68;go_wp2_with fail;rw[HW1.out];refine(zga _ x _ _ _ nlr (by omega) HI1.out).mono ?_;rintro e w2 ⟨rfl,hb2⟩;rw[HV.out];have HB2:=Hq hb2;obtain⟨q0,q1,q2,q3⟩:=zf (zr hb2 nlr HBOX.out);have hz2:=hb2.size;clear hb2 b0 b1 b2 b3;go_wp2_with fail;refine(zls _ x _ _ _ nlr (by omega) (HI1.out.below HB2.out nlr)).mono ?_;rintro e w3 ⟨rfl,hb3⟩;have HB3:=Hq hb3;clear hb3;go_wp2;go_ret2;exact⟨rfl,(HB1.out.trans (HB2.out.mono (by omega))).trans (HB3.out.mono (by omega))⟩
  · by_cases hl:65536<x.bytes.length;all_goals
     first
     | (have hr : encS x = (⟨#[]⟩, 5) := by simp [encS, hv, hd, hl]
        rw[hr])
     | (have hr : encS x = (bstr x.bytes, 0) := by simp [encS, hv, hd, hl]
        rw[hr])
     clear hr hv;have hbs:=zm x.bytes;rw[←hbs]at hl;have HBS:=Hq hbs;clear hbs;go_enter Tryz.func68,Tryz.ntmps68;go_wp2_with fail;rw[HW1.out];refine(zga _ x _ _ _ nlr (by omega) HI1.out).mono ?_;rintro e w2 ⟨rfl,hb2⟩;rw[HV.out];have HB2:=Hq hb2;obtain⟨q0,q1,q2,q3⟩:=zf (zr hb2 nlr HBOX.out);have HBOX2:=Hq (zr hb2 nlr HBOX.out);have hz2:=hb2.size;clear hb2 b0 b1 b2 b3;go_wp2_with fail;refine(zls _ x _ _ _ nlr (by omega) (HI1.out.below HB2.out nlr)).mono ?_;rintro e w3 ⟨rfl,hb3⟩;have HB3:=Hq hb3;obtain⟨p0,p1,p2,p3⟩:=zf (zr hb3 nlr HBOX2.out);have hz3:=hb3.size;clear hb3 q0 q1 q2 q3;go_wp2_with fail;refine(zsp _ x _ _ _ nlr (by omega) ((HI1.out.below HB2.out nlr).below HB3.out nlr)).mono ?_;rintro e w4 ⟨rfl,hb4⟩;have HB4:=Hq hb4;clear hb4;go_wp2;go_ret2;exact⟨rfl,((HB1.out.trans (HB2.out.mono (by omega))).trans (HB3.out.mono (by omega))).trans (HB4.out.mono (by omega))⟩
theorem zal(x:It)(v:Value)(w:World)(ok:Nat→Prop)(hM:x.weight≤1000000000)(hx:ItAt w ok v x):Calls Tryz.prog 87 #[v] w (yy (encS x) w):=by
 obtain⟨A,len,cap,rfl,hs⟩:=hx;have hbd:=x.bytes_le;have hdd:=Nat.le_trans x.depth_le x.nodes_le;obtain⟨w1,hw1⟩:=nm (w.alloc (.cells #[.int .i64 x.kind,.string x.nat,.string x.text,.slice A len cap] 118));have hbox:w1.heap[w.heap.size]? =some (.cells #[.int .i64 x.kind,.string x.nat,.string x.text,.slice A len cap] 118 (0,0)):=by rw[←hw1];exact heap_alloc_new _ _
 have hb1:Below w.heap.size w w1:=by rw[←hw1];exact(blr).alloc nlr _
 have hi1:ItAt w1 (fun b=>ok b∧b<w.heap.size) (.agg #[.int .i64 x.kind,.string x.nat,.string x.text,.slice A len cap]) x:=⟨A,len,cap,rfl,hs.bound.below hb1 nlr⟩;have HI1:=Hq hi1;have HB1:=Hq hb1;have HBOX:=Hq hbox;have HW1:=Hq hw1;obtain⟨b0,b1,b2,b3⟩:=zf hbox;clear hi1 hb1 hbox hw1 hs;have hz1:w.heap.size+1≤w1.heap.size:=zn HBOX.out
 cases hv:x.valid with
 | false =>
  have hr:encS x=(⟨#[]⟩,3):=by simp[encS,hv]
  rw[hr];have HV:=Hq hv;clear hr hv;go_enter Tryz.func87,Tryz.ntmps87;go_wp2_with fail;rw[HW1.out];refine(zfd _ x _ _ _ nlr (by omega) HI1.out).mono ?_;rintro e w2 ⟨rfl,hb2⟩;rw[HV.out];go_wp2;go_ret2;exact⟨rfl,HB1.out.trans (hb2.mono (by omega))⟩
 | true =>
  have HV:=Hq hv;by_cases hd:32<x.depth
  · have hr:encS x=(⟨#[]⟩,7):=by simp[encS,hv,hd]
    rw[hr];clear hr hv;go_enter Tryz.func87,Tryz.ntmps87;go_wp2_with fail;rw[HW1.out];refine(zfd _ x _ _ _ nlr (by omega) HI1.out).mono ?_;rintro e w2 ⟨rfl,hb2⟩;rw[HV.out];have HB2:=Hq hb2;obtain⟨q0,q1,q2,q3⟩:=zf (zr hb2 nlr HBOX.out);have hz2:=hb2.size;clear hb2 b0 b1 b2 b3;go_wp2_with fail;refine(zkn _ x _ _ _ nlr (by omega) (HI1.out.below HB2.out nlr)).mono ?_;rintro e w3 ⟨rfl,hb3⟩;have HB3:=Hq hb3;clear hb3;go_wp2;go_ret2;exact⟨rfl,(HB1.out.trans (HB2.out.mono (by omega))).trans (HB3.out.mono (by omega))⟩
  · by_cases hl:65536<x.bytes.length;all_goals
     first
     | (have hr : encS x = (⟨#[]⟩, 5) := by simp [encS, hv, hd, hl]
        rw[hr])
     | (have hr : encS x = (bstr x.bytes, 0) := by simp [encS, hv, hd, hl]
        rw[hr])
     clear hr hv;have hbs:=zm x.bytes;rw[←hbs]at hl;have HBS:=Hq hbs;clear hbs;go_enter Tryz.func87,Tryz.ntmps87;go_wp2_with fail;rw[HW1.out];refine(zfd _ x _ _ _ nlr (by omega) HI1.out).mono ?_;rintro e w2 ⟨rfl,hb2⟩;rw[HV.out];have HB2:=Hq hb2;obtain⟨q0,q1,q2,q3⟩:=zf (zr hb2 nlr HBOX.out);have HBOX2:=Hq (zr hb2 nlr HBOX.out);have hz2:=hb2.size;clear hb2 b0 b1 b2 b3;go_wp2_with fail;refine(zkn _ x _ _ _ nlr (by omega) (HI1.out.below HB2.out nlr)).mono ?_;rintro e w3 ⟨rfl,hb3⟩;have HB3:=Hq hb3;obtain⟨p0,p1,p2,p3⟩:=zf (zr hb3 nlr HBOX2.out);have hz3:=hb3.size;clear hb3 q0 q1 q2 q3;go_wp2_with fail;refine(zq9 _ x _ _ _ nlr (by omega) ((HI1.out.below HB2.out nlr).below HB3.out nlr)).mono ?_;rintro e w4 ⟨rfl,hb4⟩;have HB4:=Hq hb4;clear hb4;go_wp2;go_ret2;exact⟨rfl,((HB1.out.trans (HB2.out.mono (by omega))).trans (HB3.out.mono (by omega))).trans (HB4.out.mono (by omega))⟩
set_option maxRecDepth 100000
set_option maxHeartbeats 400000
theorem zd2{l m:List UInt8}(h:l.length=m.length):Lib.compareBytes l m=cmpI (bnat l) (bnat m):=by
 induction l generalizing m with
 | nil=>cases m with
  | nil=>rfl
  | cons y m=>simp at h
 | cons x l ih=>cases m with
  | nil=>simp at h
  | cons y m =>
   have hl:l.length=m.length:=by simpa using h
   unfold Lib.compareBytes;by_cases h1:x<y
   · have:=zbc (p:=[]) (a:=l) (b:=m) hl (UInt8.lt_iff_toNat_lt.1 h1);rw[List.nil_append,List.nil_append]at this;rw[if_pos h1,qh this]
   · rw[if_neg h1];by_cases h2:y<x
     · have:=zbc (p:=[]) (a:=m) (b:=l) hl.symm (UInt8.lt_iff_toNat_lt.1 h2);rw[List.nil_append,List.nil_append]at this;rw[if_pos h2,zmz this]
     · rw[if_neg h2,ih hl];have : x=y:=by
        apply UInt8.toNat_inj.1;rw[UInt8.lt_iff_toNat_lt]at h1 h2;omega
       subst this;rw[xr,xr,hl];unfold cmpI;simp
def ordB(a b:ByteArray):Int:=ordL a.data.toList b.data.toList
theorem zmg{a b:ByteArray}(h:a.size≠b.size):ordB a b=Lib.compareInt a.size b.size:=by
 unfold ordB ordL Lib.compareInt;rw[jb,jb];by_cases h1:a.size<b.size
 · rw[if_pos h1,if_pos (by omega)]
 · rw[if_neg h1,if_pos (by omega),if_neg (by omega),if_pos (by omega)]
theorem zw0{a b:ByteArray}(h:a.size=b.size):ordB a b=Lib.compareBytes a.data.toList b.data.toList:=by
 unfold ordB ordL;rw[jb,jb,if_neg (by omega),if_neg (by omega),zd2 (by rw[jb,jb,h])]
theorem zjt{x y:Int}(h:x≠y):(Lib.compareInt x y != 0)=true:=by
 unfold Lib.compareInt;split
 · rfl
 · rw[if_pos (by omega)];rfl
theorem ko(a b:ByteArray)(ha:a.size≤9223372036854775807)(hb:b.size≤9223372036854775807)(w:World) :
 Calls Tryz.prog 106 #[.string a,.string b] w (RetQ (.int .i64 (ordB a b)) w):=by
 by_cases h:a.size=b.size
 · have H:=Hq h;rw[zw0 h];have hc:Lib.compareInt a.size b.size=0:=by unfold Lib.compareInt;rw[h];simp
   have HC:=Hq hc;clear h hc;go_enter Tryz.func106,Tryz.ntmps106;go_wp2_with fail;refine(Tryz.cmp_Compare_int _ _ _).mono ?_;rintro e w1 ⟨rfl,rfl⟩;rw[HC.out];go_wp2_with fail;refine(Tryz.strings_Compare _ _ _).mono ?_;rintro e w1 ⟨rfl,rfl⟩;go_wp2;go_ret;exact⟨rfl,rfl⟩
 · rw[zmg h];have hc:=zjt (x:=a.size) (y:=b.size) (by omega);clear h;go_enter Tryz.func106,Tryz.ntmps106;go_wp2_with fail;refine(Tryz.cmp_Compare_int _ _ _).mono ?_;rintro e w1 ⟨rfl,rfl⟩;go_wp2;go_ret;exact⟨rfl,rfl⟩
def ncmp(a b:ByteArray):Int:=if zc a&&zc b then ordB a b else 0
theorem jw(a b:ByteArray)(ha:a.size≤9223372036854775807)(hb:b.size≤9223372036854775807)(w:World) :
 Calls Tryz.prog 65 #[.string a,.string b] w (RetQ (.int .i64 (ncmp a b)) w):=by
 cases h1:zc a with
 | false =>
  have hn:ncmp a b=0:=by simp[ncmp,h1]
  rw[hn];have H1:=Hq h1;clear h1 hn;go_enter Tryz.func65,Tryz.ntmps65;go_wp2_with fail;refine(zh _ ha _).mono ?_;rintro e w1 ⟨rfl,rfl⟩;rw[H1.out];go_wp2;go_ret;exact⟨rfl,rfl⟩
 | true=>cases h2:zc b with
  | false =>
   have hn:ncmp a b=0:=by simp[ncmp,h2]
   rw[hn];have H1:=Hq h1;have H2:=Hq h2;clear h1 h2 hn;go_enter Tryz.func65,Tryz.ntmps65;go_wp2_with fail;refine(zh _ ha _).mono ?_;rintro e w1 ⟨rfl,rfl⟩;rw[H1.out];go_wp2_with fail;refine(zh _ hb _).mono ?_;rintro e w1 ⟨rfl,rfl⟩;rw[H2.out];go_wp2;go_ret;exact⟨rfl,rfl⟩
  | true =>
   have hn:ncmp a b=ordB a b:=by simp[ncmp,h1,h2]
   rw[hn];have H1:=Hq h1;have H2:=Hq h2;clear h1 h2 hn;go_enter Tryz.func65,Tryz.ntmps65;go_wp2_with fail;refine(zh _ ha _).mono ?_;rintro e w1 ⟨rfl,rfl⟩;rw[H1.out];go_wp2_with fail;refine(zh _ hb _).mono ?_;rintro e w1 ⟨rfl,rfl⟩;rw[H2.out];go_wp2_with fail;refine(ko _ _ ha hb _).mono ?_;rintro e w1 ⟨rfl,rfl⟩;go_wp2;go_ret;exact⟨rfl,rfl⟩
theorem zqs{l m:List UInt8}{k:Nat}(hl:l.length=m.length)(h:l.take k=m.take k)(hk:k<l.length)(he:l.getD k 0=m.getD k 0):l.take (k+1)=m.take (k+1):=by
 rw[List.take_succ_eq_append_getElem hk,List.take_succ_eq_append_getElem (by omega),h];have e:l[k]=m[k]:=by
  rw[List.getD_eq_getElem?_getD,List.getD_eq_getElem?_getD,List.getElem?_eq_getElem hk,List.getElem?_eq_getElem (by omega)]at he;exact he
 rw[e]
theorem ja(a b:ByteArray)(ha:a.size≤9223372036854775807)(hb:b.size≤9223372036854775807)(w:World) :
 Calls Tryz.prog 60 #[.string a,.string b] w (Ret (.int .i64 (ordB a b)) w):=by
 by_cases h:a.size=b.size
 · have hl:a.data.toList.length=b.data.toList.length:=by rw[jb,jb,h]
   have HL:=Hq hl;have H:=Hq h;have hne:((a.size:Int) != (b.size:Int))=false:=by rw[h];simp
   have h1:a.size≤b.size:=by omega
   have h2:b.size≤a.size:=by omega
   clear h hl;go_enter Tryz.func60,Tryz.ntmps60;go_wp2;go_loopw [5] (fun i wr=>∃ k:Nat,k≤a.size∧i=.int .i64 k∧a.data.toList.take k=b.data.toList.take k∧Below w.heap.size w wr) (fun i _=>a.size - (intOf i).toNat);case atStart=>exact⟨0,Nat.zero_le _,rfl,rfl,Below.refl _ _⟩
   case round =>
    obtain⟨k,hk,rfl,he,hB⟩:=hrel;have HE:=Hq he;have HB:=Hq hB;clear he hB;by_cases hlt:k<a.size
    · have hlt2:k<b.size:=by omega
      by_cases hx:(a[k].toNat:Int)=b[k].toNat
      · have hx2:((a[k].toNat:Int) != b[k].toNat)=false:=by rw[hx];simp
        have HX:=Hq hx;clear hx;go_wp2
        go_quiet (fail)
        go_wp2;go_roundw;case rel=>exact⟨k+1,by omega,by go_num,zqs HL.out HE.out (by rw[jb];exact hlt) (by rw[kb _ _ hlt,kb _ _ hlt2];exact UInt8.toNat_inj.1 (by have:=HX.out;omega)),below_drewN HB.out _⟩
        case measure=>simp[intOf];omega
      · have hx2:((a[k].toNat:Int) != b[k].toNat)=true:=by rw[bne_iff_ne];exact hx
        by_cases hy:(a[k].toNat:Int)<b[k].toNat
        · have hr:=(zhn (k:=k) HL.out (by rw[jb];exact hlt) HE.out (by rw[kb _ _ hlt,kb _ _ hlt2];omega)).1;have hn:ordB a b = -1:=hr;rw[hn];clear hr hn hx;go_wp2
          go_quiet (fail)
          go_wp2
          go_quiet (fail)
          go_wp2;go_ret;exact⟨rfl,below_drewN (below_drewN HB.out _) _⟩
        · have hr:=(zhn (k:=k) HL.out.symm (by rw[jb];exact hlt2) HE.out.symm (by rw[kb _ _ hlt,kb _ _ hlt2];omega)).2;have hn:ordB a b=1:=hr;rw[hn];clear hr hn hx;go_wp2
          go_quiet (fail)
          go_wp2
          go_quiet (fail)
          go_wp2;go_ret;exact⟨rfl,below_drewN (below_drewN HB.out _) _⟩
    · obtain rfl:k=a.size:=by omega
      have hr:ordB a b=0:=zrk (by
       have:=HE.out;rw[List.take_of_length_le (by rw[jb];omega),List.take_of_length_le (by rw[jb];omega)]at this
       exact this)
      have HR:=Hq hr;clear hr;go_wp2;go_ret;exact⟨by rw[HR.out];rfl,HB.out⟩
 · by_cases h2:a.size<b.size
   · have hn:ordB a b = -1:=by rw[zmg h];unfold Lib.compareInt;rw[if_pos (by omega)]
     rw[hn];have hne:((a.size:Int) != (b.size:Int))=true:=by rw[bne_iff_ne];omega
     clear hn h;go_enter Tryz.func60,Tryz.ntmps60;go_wp2;go_ret;exact⟨rfl,Below.refl _ _⟩
   · have hn:ordB a b=1:=by rw[zmg h];unfold Lib.compareInt;rw[if_neg (by omega),if_pos (by omega)]
     rw[hn];have hne:((a.size:Int) != (b.size:Int))=true:=by rw[bne_iff_ne];omega
     clear hn h;go_enter Tryz.func60,Tryz.ntmps60;go_wp2;go_ret;exact⟨rfl,Below.refl _ _⟩
end Go.Proofs.YtppbcopnfankcaaGreat

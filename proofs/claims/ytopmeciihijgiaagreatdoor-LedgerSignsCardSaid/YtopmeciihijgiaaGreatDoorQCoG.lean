import Derived.Test.YtopmeciihijgiaaGreatDoorQCoE
set_option linter.unusedVariables false
set_option linter.unusedSimpArgs false
namespace Go.Proofs.YtopmeciihijgiaaGreatDoor
open Go.RowKit Go.Lib
def T10 (w : World) : Prop := Lib.TabIs Tryz.prog w "internal/strconv.uint64pow10" .u64 Lib.pow10Tab
theorem T10.kept{B:Nat}{w w':World}(h:T10 w)(hb:Below B w w')(hB:w.heap.size≤B):T10 w':=by
 unfold T10 Lib.TabIs World.var? at *
 cases hg : Tryz.prog.globalNamed "internal/strconv.uint64pow10" with
 | none=>rw[hg]at h;cases h
 | some g =>
  rw[hg]at h;simp only[Option.bind_some]at h⊢;have hlt:g<w.heap.size:=by
   rcases Nat.lt_or_ge g w.heap.size with a | a
   · exact a
   · rw[Array.getElem?_eq_none a]at h;cases h
  rw[hb.block g (Nat.lt_of_lt_of_le hlt hB)];exact h
theorem T10.next{w w':World}(h:T10 w)(hb:Below w.heap.size w w'):T10 w':=h.kept hb nlr
theorem below_grown(w:World)(k:Nat)(os:Array Obj):Below w.heap.size w (Go.Sort.grow (w.drewN k) os):=
 ⟨rfl,rfl,rfl,by show w.heap.size≤(w.heap++os).size;rw[Array.size_append];omega,fun j hj=>by show (w.heap++os)[j]? =w.heap[j]?;rw[Array.getElem?_append_left hj]⟩
theorem itoa_digits(n:Nat):Lib.itoa (n:Int)=Lib.decDigits n:=by
 unfold Lib.itoa;rw[if_neg (by omega),Int.toNat_natCast]
theorem sc_Itoa(n:Nat)(hn:n<9223372036854775808)(w:World)(ht:T10 w):Calls Tryz.prog 219 #[.int .i64 n] w (Ret (.string (bstr (Lib.decDigits n))) w):=by
 refine(Tryz.strconv_Itoa (n:Int) (by omega) (by omega) w ht).mono ?_;rintro e w' ⟨rfl,k,os,rfl⟩;rw[itoa_digits];exact⟨rfl,below_grown w k os⟩
set_option maxRecDepth 100000
set_option maxHeartbeats 2000000
open Go.RowKit Go.Shelf Go.Lib
attribute [local go_sem] Oper.semAt_some
def SeqFirst(F:Fence)(n:Nat)(P:Program)(g:Nat)(lb:Array Value)(args:Array Value)(w:World):Prop:=
 ∀(l:Nat) (J Jx:Unit→World→Prop) (W:World),Below w.heap.size w W→AbidesFrom W.heap.size J→AbidesFrom W.heap.size Jx →
  (∀ W1,J () W1→YieldAt F (n - 1) P l args W1 fun e W'=>e=.returned (.bool false)∧Jx () W')→J () W →
  CallsIn F n P g (#[.func (.yield l) #[] #[]]++lb) W fun e W'=>(∃ v,e=.returned v)∧Jx () W'
theorem rangeFunc_first{F:Fence}{n:Nat}{P:Program}{g:Operand}{ps:Array Tmp}{assign body:Code}{Q:Exit→Act→World→Prop}{a:Act}{w:World}
 (hro:F.round=none) (h1:1≤n) {gf:Nat} {lb:Array Value} (hg:a.eval g=.func (.func gf) #[] lb) (hFg:F.fn gf) (eg:∀ args w,(callFunc gf args).run P w=.ok (.enter gf args) w)
 {args:Array Value} {w0:World} (hseq:SeqFirst F (n - 1) P gf lb args w0) (hb0:Below w0.heap.size w0 w) (hps:args.size=ps.size)
 (I:Unit→World→Prop) (Ix:Code→Unit→World→Prop) (hI:OwnFrom w.heap.size I) (hIx:∀ c,OwnFrom w.heap.size (Ix c)) (h0:I () w) (Fr:Array Value→Array Value)
 (hassign:∀(l:Nat) (W:World) (K:Act→World→Prop),K { tmps:=Fr a.tmps,defers:=[] } W→assign.wpIn (F.inRound l) (n - 1 - 1) P (Exit.then K (fun _ _ _=>False)) { tmps:=(ps.zip args).foldl (fun t (p,v)=>t.setIfInBounds p v) a.tmps,defers:=[] } W)
 (hbody:∀(l:Nat) (W:World),I () W→body.wpIn (F.inRound l) (n - 1 - 1) P (ownPostK (fun _ _=>False) (fun(_:List Unit) _=>True) (fun c (_:List Unit) W=>Ix c () W) [] W) { tmps:=Fr a.tmps,defers:=[] } W)
 (hstop:∀(D:Nat) (c:Code) (W:World),w.heap.size≤D→Ix c () W→W.heap[D]? =some (.deferred (some []))→c.wpIn F n P Q { a with defers:={ target:=.collected D,args:=#[] }::a.defers } W) :
 (Code.rangeFunc g ps assign body).wpIn F n P Q a w:=by
 refine wpIn_rangeFunc fun fn hfn=>?_;rw[hro];obtain⟨R,hR⟩:∃ R:LoopState→Option Code→Loop,R=fun st pe => { state:=st,pending:=pe,fn,tmps:=a.tmps,params:=ps,assign,body,defers:=w.heap.size }:=⟨_,rfl⟩;obtain⟨V,hV⟩:∃ V,(w.alloc (.deferred (some []))).alloc (.loop (R .ready none))=V:=⟨_,rfl⟩;obtain⟨L,hL⟩:∃ L,L=w.heap.size+1:=⟨_,rfl⟩;have rowL:V.heap[L]? =some (.loop (R .ready none)):=by
  have:=World.alloc_heap_new (w.alloc (.deferred (some []))) (.loop (R .ready none));rw[World.size_alloc]at this;rw[←hV,hL];exact this
 have rowD:V.heap[w.heap.size]? =some (.deferred (some [])):=(by rw[←hV];exact(Below.heap_alloc _ _ _ (by simp)).trans (World.alloc_heap_new w _));have iV:I () V:=by rw[←hV];exact hI.alloc _ (hI.alloc _ h0)
 have bV:Below w0.heap.size w0 V:=(by rw[←hV];exact hb0.trans ((((Below.refl _ w).alloc nlr _).alloc (by simp) _).mono hb0.size));have sV:w.heap.size≤V.heap.size:=by rw[←hV];simp;omega
 refine⟨L,[{ target:=.collected w.heap.size,args:=#[] }],V,{ target:=.fn (.func gf) lb,args:=#[.func (.yield L) #[] #[]] },V,gf,#[.func (.yield L) #[] #[]]++lb,V,?_,?_,?_,?_,fun _=>h1,?_⟩
 · rw[←hV,hR,hL];exact run_enterLoop_outer _ _ _ _ _
 · simp only[resolve,hg];simp[go_sem]
 · intro f' hf';simp[Target.leads]at hf';subst hf';exact hFg
 · simp[invoke,go_sem,eg]
 · have rows:∀ {A:World} {row:Option Nat},(∀ r,row=some r→V.heap.size≤r∧∃ o:Obj,A.heap[r]? =some o∧o.isWalk=true)→(∀ r,row=some r→w.heap.size≤r∧∃ o:Obj,A.heap[r]? =some o∧o.isCells=false):=
    fun hr r e=>by obtain⟨hB,o,ho,hw⟩:=hr r e;exact⟨Nat.le_trans sV hB,o,ho,Obj.not_cells_of_walk hw⟩
   refine(hseq L (fun u W=>I u W∧W.heap[L]? =some (.loop (R .ready none))∧W.heap[w.heap.size]? =some (.deferred (some [])))
    (fun u W=>∃ c,Ix c u W∧W.heap[L]? =some (.loop (R .done (some c)))∧W.heap[w.heap.size]? =some (.deferred (some []))) V bV
    (fun s A B row hs hg' hr=>⟨hI s A B row hs.1 hg' (rows hr),(grownBy_keeps hg' (fun r e=>(hr r e).2) hs.2.1 rfl).trans hs.2.1,(grownBy_keeps hg' (fun r e=>(hr r e).2) hs.2.2 rfl).trans hs.2.2⟩)
    (fun s A B row ⟨c,hc,hl,hk⟩ hg' hr=>⟨c,hIx c s A B row hc hg' (rows hr),(grownBy_keeps hg' (fun r e=>(hr r e).2) hl rfl).trans hl,(grownBy_keeps hg' (fun r e=>(hr r e).2) hk rfl).trans hk⟩)
    ?_ ⟨iV,rowL,rowD⟩).mono ?_
   · rintro W ⟨hi,hl,hk⟩;have hlt:L<W.heap.size:=(Array.getElem?_eq_some_iff.1 hl).1;have hy:=run_yield (P:=P) (args:=args) hl (by rw[hR];exact hps);rw[hR]at hy;refine⟨fn,_,assign,body,hy,roundIn_of_wpIn hfn (hassign _ W _ ⟨_,run_beginRound hl (by rw[hR]),?_⟩)⟩;have hl2:(W.putObj L (.loop { R .ready none with state:=.busy })).heap[L]? =some (.loop { R .ready none with state:=.busy }):=World.putObj_heap_same hlt;have hk2:(W.putObj L (.loop { R .ready none with state:=.busy })).heap[w.heap.size]? =some (.deferred (some [])):=(World.putObj_heap_other (by omega)).trans hk;refine wpIn_mono (hbody _ _ (hI.putObj _ hi (by omega) hl rfl)) ?_;have fin:∀(jump:Option Code) (W3:World),KeepsOthers (W.putObj L (.loop { R .ready none with state:=.busy })) W3 →
      (Instr.endRound L jump).run P W3=.ok (.bool jump.isNone) (W3.putObj L (.loop (R (if jump.isNone then .ready else .done) jump))) ∧
      W3.heap[L]? =some (.loop { R .ready none with state:=.busy }) ∧
      (W3.putObj L (.loop (R (if jump.isNone then .ready else .done) jump))).heap[L]? =some (.loop (R (if jump.isNone then .ready else .done) jump)) ∧
      (W3.putObj L (.loop (R (if jump.isNone then .ready else .done) jump))).heap[w.heap.size]? =some (.deferred (some [])):=fun jump W3 hk3=>by
      have hl3:=hk3.same _ _ hl2 rfl;have:=run_endRound (P:=P) jump hl3;rw[hR]at this⊢;exact⟨this,by rw[hR]at hl3;exact hl3,World.putObj_heap_same (Array.getElem?_eq_some_iff.1 hl3).1,(World.putObj_heap_other (by omega)).trans (hk3.same _ _ hk2 rfl)⟩
     rintro e a3 W3 hp
     cases e with
     | normal=>exact hp.2.1.elim
     | ret =>
      obtain⟨hk3,hi3⟩:=hp;obtain⟨hr,hl3,hl4,hk4⟩:=fin (some .ret) W3 hk3;exact⟨_,_,hr,⟨rfl,.ret,(hIx _).putObj _ hi3 (by omega) hl3 rfl,hl4,hk4⟩⟩
     | exit id =>
      obtain⟨hk3,hi3⟩:=hp;obtain⟨hr,hl3,hl4,hk4⟩:=fin (some (.exit id)) W3 hk3;exact⟨_,_,hr,⟨rfl,.exit id,(hIx _).putObj _ hi3 (by omega) hl3 rfl,hl4,hk4⟩⟩
     | goto t =>
      obtain⟨hk3,hi3⟩:=hp;obtain⟨hr,hl3,hl4,hk4⟩:=fin (some (.goto t)) W3 hk3;exact⟨_,_,hr,⟨rfl,.goto t,(hIx _).putObj _ hi3 (by omega) hl3 rfl,hl4,hk4⟩⟩
     | panic ch=>exact hp.elim
     | outgrown=>exact hp.elim
   · rintro e W2 ⟨⟨v,rfl⟩,⟨c,hi,hl,hk⟩⟩;exact⟨some c,_,by have:=run_endLoop (P:=P) hl (by rw[hR];simp);rw[hR]at this;exact this,hstop _ c _ nlr ((hIx c).putObj _ hi (by omega) hl rfl) ((World.putObj_heap_other (by omega)).trans hk)⟩
theorem abides_belowC{β:Type}{B:Nat}{J:β→World→Prop}(hJ:AbidesFrom B J){s:β}{W W':World}(h:J s W)(hb:Below W.heap.size W W'):J s W':=hJ s W W' none h ⟨hb.os,hb.tape,hb.output,hb.size,fun k hk _=>hb.block k hk⟩ (fun r e=>by cases e)
theorem add_bstr(l m:List UInt8)(h:l.length+m.length≤1000000)(P:Program)(w:World):(Op.stringOp .add (bstr l) (bstr m)).run P w=.ok (.string (bstr (l++m))) w:=by
 rw[run_string_add_sum w _ _ (by rw[bstr_size,bstr_size];omega)];refine congrArg (fun x=>Result.ok (Value.string x) w) ?_;rw[←bstr_of (bstr l++bstr m),app_data,bstr_data,bstr_data]
theorem dec_short(k:Nat)(h:k<2147483648):(Lib.decDigits k).length≤10:=by
 have : ∀(q y:Nat),y<10 ^ (q+1)→(Lib.decDigits y).length≤q+1:=by
  intro q
  induction q with
  | zero=>intro y hy;rw[Lib.decDigits_one (by omega)];simp
  | succ q ih =>
   intro y hy;rw[Lib.decDigits.eq_1 y];split
   · simp
   · have:=ih (y / 10) (by rw[Nat.pow_succ]at hy;omega);simp;omega
 exact this 9 k (by omega)
theorem co_blocks(A:Option Addr)(n cap:Nat)(s:ByteArray)(k a:Int)(w:World):Calls Tryz.prog 190 #[tpV A n cap s k,.int .i64 a] w fun e w'=>e=.returned (.func (.func 218) #[] #[.pointer (some ⟨w.heap.size,0,none⟩),.pointer (some ⟨w.heap.size+1,0,none⟩)])∧w'=(w.alloc (.cells #[.slice A n cap,.string s,.int .i64 k] 30)).alloc (.cells #[.int .i64 a] 3):=by
 unfold tpV;go_enter Tryz.func190,Tryz.ntmps190;go_wp2;go_ret;exact⟨rfl,rfl⟩
theorem blocks_first(q:Nat)(hq:1≤q)(A:Option Addr)(n cap:Nat)(s:ByteArray)(k a:Nat)(hs:s.size≤1000000)(hk:k<2147483648)(ha:a<256)(D E:Nat)(w:World)(hD:TB w D A n cap s k)(hE:w.heap[E]? =some (.cells #[.int .i64 a] 3 (0,0)))(ht:T10 w) :
 SeqFirst Fence.wide q Tryz.prog 218 #[.pointer (some ⟨D,0,none⟩),.pointer (some ⟨E,0,none⟩)] #[.string (bstr (macL s.data.toList (nmL k a 0)))] w:=fun lp J Jx W hW hJ hJx hY h0=>by
 have HT:=Hq (ht.next hW);have HTB:=Hq (hD.nextT hW);have HE:=Hq ((hW.block E (block_lt hE)).trans hE);have HI1:=Hq (fun w ht=>sc_Itoa k (by omega) w ht);have HI2:=Hq (fun w ht=>sc_Itoa a (by omega) w ht);have HI3:=Hq (show ∀ w,T10 w→Calls Tryz.prog 219 #[.int .i64 0] w (Ret (.string (bstr (Lib.decDigits 0))) w)from fun w ht=>sc_Itoa 0 (by omega) w ht);have l1:=dec_short k hk;have l2:=dec_short a (by omega);have l3:=dec_short 0 (by omega);have a1:=add_bstr (Lib.decDigits k) [46] (by simp;omega) Tryz.prog;have a2:=add_bstr (Lib.decDigits k++[46]) (Lib.decDigits a) (by simp;omega) Tryz.prog;have a3:=add_bstr (Lib.decDigits k++[46]++Lib.decDigits a) [46] (by simp;omega) Tryz.prog;have a4:=add_bstr (Lib.decDigits k++[46]++Lib.decDigits a++[46]) (Lib.decDigits 0) (by simp;omega) Tryz.prog;have HM:=Hq (h_Mac s (bstr (nmL k a 0)) hs (by rw[bstr_size];unfold nmL;simp;omega));rw[bstr_data]at HM;rw[show Lib.decDigits k++[46]++Lib.decDigits a++[46]++Lib.decDigits 0=nmL k a 0 from rfl]at a4;rw[show bstr [46]=⟨#[46]⟩from rfl]at a1 a3;obtain⟨d1,hd1⟩:∃ z,bstr (Lib.decDigits k)=z:=⟨_,rfl⟩;obtain⟨d2,hd2⟩:∃ z,bstr (Lib.decDigits a)=z:=⟨_,rfl⟩;obtain⟨d3,hd3⟩:∃ z,bstr (Lib.decDigits 0)=z:=⟨_,rfl⟩;obtain⟨e1,he1⟩:∃ z,bstr (Lib.decDigits k++[46])=z:=⟨_,rfl⟩;obtain⟨e2,he2⟩:∃ z,bstr (Lib.decDigits k++[46]++Lib.decDigits a)=z:=⟨_,rfl⟩;obtain⟨e3,he3⟩:∃ z,bstr (Lib.decDigits k++[46]++Lib.decDigits a++[46])=z:=⟨_,rfl⟩;obtain⟨e4,he4⟩:∃ z,bstr (nmL k a 0)=z:=⟨_,rfl⟩;obtain⟨b0,hb0⟩:∃ z,bstr (macL s.data.toList (nmL k a 0))=z:=⟨_,rfl⟩;rw[hd1]at HI1 a1;rw[hd2]at HI2 a2;rw[hd3]at HI3 a4;rw[he1]at a1 a2;rw[he2]at a2 a3;rw[he3]at a3 a4;rw[he4]at a4 HM;rw[hb0]at HM hY;have HY:=Hq hY;have HJ:=Hq hJ;have HJ0:=Hq h0;clear hY hJ hJx h0 hW hD hE ht l1 l2 l3 hd1 hd2 hd3 he1 he2 he3 he4 hb0 hs ha;refine callsIn_of_wp Tryz.func218 rfl trivial ?_ rfl;simp only[Tryz.ntmps218,List.size_toArray,List.length_cons,List.length_nil,Nat.reduceAdd,Nat.reduceSub,Array.replicate_succ,Array.replicate_zero,List.push_toArray,List.append_toArray,List.nil_append,List.cons_append];gi_wp2;gi_loopw [4] (fun i wr=>i=.int .i64 0∧wr=W) (fun i _=>0);case atStart=>exact⟨rfl,rfl⟩
 case round =>
  obtain⟨rfl,rfl⟩:=hrel;gi_wp2;rename_i KR hKR;refine wpIn_wide.2 ?_;refine wp_onlyN ?_;obtain⟨wd,hwd⟩:∃ wd,wr.drew=wd:=⟨_,rfl⟩;have hbd:Below wr.heap.size wr wd:=by rw[←hwd];exact(blr).drew
  have HTd:=Hq (HT.out.next hbd);obtain⟨c0,c1,c2⟩:=(HTB.out.nextT hbd).c;have x0:wd.cell? ⟨E,0,none⟩=some (.int .i64 a):=by rw[Lib.cell_of_heap ((hbd.block E (block_lt HE.out)).trans HE.out)];rfl
  have HBD:=Hq hbd;clear hbd;refine wp_region_K 12 (Below (wd).heap.size (wd)) (by kernel_rfl) ?_;intro hD;rw[hwd];have KK1:=Hq (fun w' (hS':(Below (wd).heap.size (wd)) w')=>And.intro (kC hS' c0) (And.intro (kC hS' c1) (And.intro (kC hS' c2) (kC hS' x0))));refine rP 0 8 11 rfl hD blr ?_;clear hD;intro hD;refine rT 1 9 10 rfl hD blr (by intro w' hS';obtain⟨e0,e1,e2,e3⟩:=KK1.out w' hS';go_simp;with_reducible rfl) ?_;clear hD;intro hD;refine rT 4 12 9 rfl hD blr (by intro w' hS';obtain⟨e0,e1,e2,e3⟩:=KK1.out w' hS';go_simp;with_reducible rfl) ?_;clear hD;intro hD;refine rP 8 16 8 rfl hD blr ?_;clear hD;intro hD;simp only[Act.put,sqA,sqB,sqC];refine rO 2 7 rfl hD ?_;clear hD;intro K2 hK2;go_wp2_with fail;refine(HI1.out _ HTd.out).mono ?_;rintro ev w2 ⟨rfl,hb⟩;have HB2:=Hq hb;clear hb;go_wp2;refine hK2 _ _ (by exact HB2.out) ?_;clear hK2;intro hS_2_2 hD;refine rP 3 11 6 rfl hD hS_2_2 ?_;clear hD;intro hD;simp only[Act.put,sqA,sqB,sqC];refine rO 5 5 rfl hD ?_;clear hD;intro K5 hK5;go_wp2_with fail;refine(HI2.out _ (HTd.out.next HB2.out)).mono ?_;rintro ev w3 ⟨rfl,hb⟩;have HB5:=Hq hb;clear hb;go_wp2;refine hK5 _ _ (by exact Below.trans hS_2_2 (Below.mono HB5.out (Below.size hS_2_2))) ?_;clear hK5;intro hS_2_5 hD;refine rP 6 14 4 rfl hD hS_2_5 ?_;clear hD;intro hD;refine rP 7 15 3 rfl hD hS_2_5 ?_;clear hD;intro hD;simp only[Act.put,sqA,sqB,sqC];refine rO 9 2 rfl hD ?_;clear hD;intro K9 hK9;go_wp2_with fail;refine(HI3.out _ ((HTd.out.next HB2.out).next HB5.out)).mono ?_;rintro ev w4 ⟨rfl,hb⟩;have HB9:=Hq hb;clear hb;go_wp2;refine hK9 _ _ (by exact Below.trans hS_2_5 (Below.mono HB9.out (Below.size hS_2_5))) ?_;clear hK9;intro hS_2_9 hD;refine rP 10 18 1 rfl hD hS_2_9 ?_;clear hD;intro hD;simp only[Act.put,sqA,sqB,sqC];refine rO 11 0 rfl hD ?_;clear hD;intro K11 hK11;go_wp2;refine hK11 _ _ (by exact hS_2_9) ?_;clear hK11;intro hS_2_11 hD;have HL:=Hq hS_2_11;refine wpD ?_;clear hD;show KR _ _;refine hKR _ _ ?_;clear hKR c0 c1 c2 x0 a1 a2 a3 a4;have hbw:Below wr.heap.size wr w4:=HBD.out.trans (HL.out.mono HBD.out.size);have HJ4:=Hq (abides_belowC HJ.out HJ0.out hbw);obtain⟨c0,c1,c2⟩:=(HTB.out.nextT hbw).c;clear hbw;gi_wp2;refine⟨trivial,callsIn_wide.2 ((HM.out _).mono ?_)⟩;rintro e w5 ⟨rfl,hb⟩;have HJ5:=Hq (abides_belowC HJ.out HJ4.out hb);clear hb c0 c1 c2;obtain⟨fn,tmps,assign,body,hy,hR⟩:=HY.out w5 HJ5.out;have HR:=Hq hR;clear hR;gi_wp2;refine HR.out.mono ?_;rintro ev W' ⟨rfl,hJx'⟩;have HX:=Hq hJx';clear hJx';gi_wp2;refine bodyPost_ret (results_none rfl _ _ _) rfl ?_;exact⟨⟨_,rfl⟩,HX.out⟩
open Go.RowKit Go.Shelf
theorem letsOut_then{K:Act→World→Prop}{Q:Exit→Act→World→Prop}(h:¬ LetsOut Q):¬ LetsOut (Exit.then K Q):=fun⟨a,w,hq⟩=>h ⟨a,w,hq⟩
theorem letsOut_block{id:Nat}{Q:Exit→Act→World→Prop}(h:¬ LetsOut Q):¬ LetsOut (Exit.inBlock id Q):=fun⟨a,w,hq⟩=>h ⟨a,w,hq⟩
theorem letsOut_own{α:Type}(Kp:World→World→Prop)(I:List α→World→Prop)(Ix:Code→List α→World→Prop)(xs:List α)(W:World):¬ LetsOut (ownPostK Kp I Ix xs W):=fun⟨_,_,h⟩=>h
def nodef:List Oper→Bool:=fun l=>l.all fun o=>match o.op with
 | .defer _=>false
 | _=>true
theorem oper_in{P:Program}{r n:Nat}{o:Oper}{a:Act}{w:World}{K K':Act→World→Prop}{Q:Exit→Act→World→Prop}(hd:∀ c,o.op≠.defer c)(hQ:¬ LetsOut Q)(h:o.wp P a w K Q∨(o.asks P a w∧LetsOut Q))(hK:∀ a w,K a w→K' a w):o.wpIn (Fence.wide.inRound r) n P a w K' Q:=by
 rcases h with h | ⟨_,h⟩
 · refine⟨fun _ _=>trivial,?_⟩;rw[Oper.semAt_eq _ _ _ hd];unfold Oper.wp at h
   cases hr:(execOp a.eval o).run P w with
   | ok x w' =>
    rw[hr]at h
    cases x with
    | value v=>exact hK _ _ h
    | skip=>exact hK _ _ h
    | defer d=>exact hK _ _ h
    | enter f args =>
     refine⟨(fun h0=>absurd h0 (by simp[Fence.wide])),CallsIn.inRound r (callsIn_wide.2 (Calls.mono h ?_))⟩;intro e w'' he
     cases e with
     | returned v=>exact hK _ _ he
     | panicked c=>exact he
     | outgrown=>exact he
    | row row args =>
     refine⟨(fun h0=>absurd h0 (by simp[Fence.wide])),fun c cs _=>?_⟩;obtain⟨v,w'',h1,h2⟩:=h c cs;exact⟨v,w'',hK _ _ h1,(stepsIn_wide (P:=P)).2 h2⟩
    | _=>exact h.elim
   | halt x w' =>
    rw[hr]at h
    cases x with
    | panic v=>exact h
    | _=>exact h.elim
 · exact absurd h hQ
theorem list_in{P:Program}{r n:Nat}{ops:Array Oper}{Q:Exit→Act→World→Prop}(hQ:¬ LetsOut Q):∀(l:List Oper),nodef l=true→∀ a w,wpList P ops Q l a w→wpListIn (Fence.wide.inRound r) n P ops Q l a w
 | [],_,_,_,h=>h
 | o::l,hd,a,w,h=>by
  have hd2:(∀ c,o.op≠.defer c)∧nodef l=true:=(by unfold nodef at hd⊢;rw[List.all_cons,Bool.and_eq_true]at hd;refine⟨fun c hc=>?_,hd.2⟩;rw[hc]at hd;simp at hd);unfold wpList at h;unfold wpListIn;split
  · rename_i hw;rw[if_pos hw]at h;exact oper_in hd2.1 hQ h (fun a w h=>list_in hQ l hd2.2 a w h)
  · rename_i hw;rw[if_neg hw]at h;exact⟨fun _ _=>trivial,list_in hQ l hd2.2 _ _ h⟩
theorem region_in{P:Program}{r n id:Nat}{l:List Oper}{Q:Exit→Act→World→Prop}{a:Act}{w:World}(hQ:¬ LetsOut Q)(hd:nodef l=true)(h:wpList P l.toArray Q l a w):(Code.region id l.toArray false).wpIn (Fence.wide.inRound r) n P Q a w:=
 wpIn_region_lit (list_in hQ l hd a w h)
theorem bodyM_mark{F:Fence}{n:Nat}{P:Program}{fn:Func}{R:Ending→World→Prop}{a:Act}{w:World}{v:Value}{D:Nat}(hk:w.heap[D]? =some (.deferred (some [])))(hd:a.defers=[{ target:=.collected D,args:=#[] }])(hr:(results fn a.tmps).run P (w.putObj D (.deferred none))=.ok v (w.putObj D (.deferred none)))(hR:R (.returned v) (w.putObj D (.deferred none))):bodyPostM F n P fn R .ret a w:=by
 show LeavesInM F n P fn a.tmps R a.defers .returning w;rw[hd];exact⟨by simp,.inl ⟨_,_,rfl,run_takeDeferred hk,v,hr,hR⟩⟩
set_option maxRecDepth 100000
set_option maxHeartbeats 4000000
attribute [local go_sem] Oper.semAt_some
theorem macL_length(k l:List UInt8):(macL k l).length=32:=by unfold macL;exact shaL_length _
theorem append_mac(l:List UInt8)(hl:l.length=32)(B:Nat)(ty:TypeId)(W:World)(hB:B≤W.heap.size) :
 ∃ A c w',(Builtin.append_ #[127,9] ty #[.slice none 0 0,.string (bstr l)]).run Tryz.prog W=.ok (.slice A 32 c) w'∧w'.ownsRow B 5 1 (.slice A 32 c) 32 (Lib.byteCells l)∧W.grownBy w' none:=by
 obtain⟨i0,hi,hz0,hz1,hz2⟩:=info_parts byte_info;obtain⟨v',w',h1,h2,h3,_⟩:=run_append_own_string (P:=Tryz.prog) (w:=W) B 127 9 ty 5 i0 Tryz.underlying127 Tryz.underlying9 hi hz0 hz1 hz2 (.slice none 0 0) 0 [] (World.ownsRow_nil _ _ _ _) (bstr l) (by rw[bstr_size,hl];unfold maxLen;omega) (by rw[bstr_size,hl];omega) hB;rw[bstr_size,hl]at h2;have e:strCells (bstr l)=Lib.byteCells l:=by unfold strCells Lib.byteCells;rw[bstr_data]
 rw[e]at h2;simp only[List.nil_append,Nat.zero_add]at h2;obtain⟨A,c,rfl,_⟩:=own_bytes h2 hl;exact⟨A,c,w',h1,h2,h3⟩
def BX4(W w:World)(A:Option Addr)(n cap:Nat)(s:ByteArray)(k:Int)(z:Nat):Prop:=
 TB W w.heap.size A n cap s k∧W.heap[w.heap.size+1]? =some (.cells #[.int .i64 z] 3 (0,0))∧W.heap[w.heap.size+1+1]? =some (.cells #[.slice none 0 0] 127 (0,0))∧Below w.heap.size w W
theorem BX4.next4{W W' w:World}{A:Option Addr}{n cap:Nat}{s:ByteArray}{k:Int}{z:Nat}(h:BX4 W w A n cap s k z)(hb:Below W.heap.size W W'):BX4 W' w A n cap s k z:=
 ⟨h.1.nextT hb,(hb.block _ (block_lt h.2.1)).trans h.2.1,(hb.block _ (block_lt h.2.2.1)).trans h.2.2.1,h.2.2.2.trans (hb.mono h.2.2.2.size)⟩
theorem BX4.mk4(w:World)(A:Option Addr)(n cap:Nat)(s:ByteArray)(k:Int)(z:Nat) :
 BX4 (((w.alloc (.cells #[.slice A n cap,.string s,.int .i64 k] 30)).alloc (.cells #[.int .i64 z] 3)).alloc (.cells #[.slice none 0 0] 127)) w A n cap s k z:=by
 have al:∀(W:World) (o:Obj),Below W.heap.size W (W.alloc o):=fun W o=>(blr).alloc nlr _;obtain⟨w1,h1⟩:∃ W,w.alloc (.cells #[.slice A n cap,.string s,.int .i64 k] 30)=W:=⟨_,rfl⟩;have x1:TB w1 w.heap.size A n cap s k:=h1▸TB.new _ _ _ _ _ _;have s1:w1.heap.size=w.heap.size+1:=by rw[←h1];simp
 have b1:Below w.heap.size w w1:=h1▸al _ _;rw[h1];obtain⟨w2,h2⟩:∃ W,w1.alloc (.cells #[.int .i64 z] 3)=W:=⟨_,rfl⟩;have x2:w2.heap[w1.heap.size]? =some (.cells #[.int .i64 z] 3 (0,0)):=h2▸heap_alloc_new _ _;have s2:w2.heap.size=w.heap.size+1+1:=by rw[←h2];simp[s1]
 have b2:Below w1.heap.size w1 w2:=h2▸al _ _;rw[h2];obtain⟨w3,h3⟩:∃ W,w2.alloc (.cells #[.slice none 0 0] 127)=W:=⟨_,rfl⟩;have x3:w3.heap[w2.heap.size]? =some (.cells #[.slice none 0 0] 127 (0,0)):=h3▸heap_alloc_new _ _;have b3:Below w2.heap.size w2 w3:=h3▸al _ _;rw[h3];rw[s1]at x2;rw[s2]at x3;exact⟨(x1.nextT b2).nextT b3,(b3.block _ (by omega)).trans x2,x3,(b1.trans (b2.mono (by omega))).trans (b3.mono (by omega))⟩
theorem keeps_below{W W':World}(h:Below W.heap.size W W'):KeepsOthers W W':=⟨h.size,fun k o hk _=>(h.block k (block_lt hk)).trans hk⟩
theorem wpList_append_ran{P:Program}(w:World){ops:Array Oper}{rest:List Oper}{o:Oper}{a:Act}{Q:Exit→Act→World→Prop}(hgd:o.guard=none)(d s:Operand)(t t':TypeId)
 (ho:o.op=.call { callee:=.builtin .append,args:=#[d,s],argTypes:=#[t,t'] }) (v u:Value) (hd:a.eval d=v) (hs:a.eval s=u) {v':Value} {w':World}
 (hr:(Builtin.append_ #[t,t'] o.type #[v,u]).run P w=.ok v' w') (h:wpList P ops Q rest (a.put o.dst v') w'):wpList P ops Q (o::rest) a w:=by
 refine wpList_plain hgd fun K hK=>?_;unfold Oper.wp;simp[execOp,ho,resolve,invoke,builtin,hd,hs,hr,Result.andThen];exact hK _ _ h
theorem BytesAt.row{W:World}{g:Nat}{cur:Array Value}{ml:List UInt8}(h:W.heap[g]? =some (.cells cur 5 (0,0)))(ht:cur.toList.take 32=Lib.byteCells ml)(hl:ml.length=32)(z cp:Nat)(hz:z≤32)(hzc:z≤cp)(hcp:cp≤9223372036854775807):BytesAt W (some ⟨g,0,none⟩) z cp (ml.take z):=by
 refine⟨by simp[hl];omega,hzc,hcp,fun _=>⟨g,0,rfl,fun j hj=>?_⟩⟩;rw[Nat.zero_add,Lib.cell_of_heap h];have h1:cur.toList[j]? =(Lib.byteCells ml)[j]?:=by rw[←ht,List.getElem?_take,if_pos (by omega)]
 rw[Array.getElem?_toList]at h1;rw[h1];have h2:j<ml.length:=by omega
 simp[Lib.byteCells,byteI,h2,hj]
theorem and_mask:∀ sh,sh<8→∀ x,x<256→bits .and .u8 ((x:Nat):Int) ((255:Int) / 2 ^ min sh 8)=((x%2 ^ (8 - sh):Nat):Int):=by decide +kernel
theorem BytesAt.first{W:World}{g z cp:Nat}{l:List UInt8}(h:BytesAt W (some ⟨g,0,none⟩) z cp l){x:Nat}(hz:0<z)(hx:x≤255):BytesAt (W.setCell ⟨g,0,none⟩ (.int .u8 x)) (some ⟨g,0,none⟩) z cp (UInt8.ofNat x::l.drop 1):=by
 obtain⟨h1,h2,h3,h4⟩:=h;obtain⟨b,o,e,h5⟩:=h4 hz;cases e;refine⟨by simp;omega,h2,h3,fun _=>⟨g,0,rfl,fun j hj=>?_⟩⟩;rcases Nat.eq_zero_or_pos j with h0 | h0
 · subst h0;have hc:=h5 0 hz;rw[Nat.zero_add]at hc⊢;have hs:(W.setCell ⟨g,0,none⟩ (.int .u8 x)).cell? ⟨g,0,none⟩=some (.int .u8 x):=by
    apply World.cell?_setCell_same;exact hc
   rw[hs];have : (UInt8.ofNat x).toNat=x:=by simp[UInt8.toNat_ofNat'];omega
   simp[byteI,this]
 · have hs:(W.setCell ⟨g,0,none⟩ (.int .u8 x)).cell? ⟨g,0+j,none⟩=W.cell? ⟨g,0+j,none⟩:=by
    apply World.cell?_setCell_other;intro e;injection e with _ e2
    omega
   rw[hs,h5 j hj];obtain⟨i,rfl⟩:∃ i,j=i+1:=⟨j - 1,by omega⟩;simp[byteI,List.getD_eq_getElem?_getD,Nat.add_comm]
theorem attempt_val{ml:List UInt8}(hl:ml.length=32){b z:Nat}(hz:(b+7) / 8=z)(hb0:0<b)(hb:b≤256){x sh y:Nat}(hx:(ml.getD 0 0).toNat=x)(hsh:8 * z - b=sh)(hy:x%2 ^ (8 - sh)=y) :
 bnat (UInt8.ofNat y::(ml.take z).drop 1)=bnat (ml.take ((b+7) / 8))%2 ^ b:=by
 rw[hz]
 cases ml with
 | nil=>cases hl
 | cons a r =>
  obtain⟨q,rfl⟩:∃ q,z=q+1:=⟨z - 1,by omega⟩;simp only[List.getD_cons_zero]at hx;rw[List.take_succ_cons,List.drop_succ_cons,List.drop_zero,bnat_cons,bnat_cons];have hlen:(r.take q).length=q:=by simp at hl⊢;omega
  rw[hlen];have hlt:=bnat_lt (r.take q);rw[hlen]at hlt;have hx255:x<256:=by rw[←hx];exact a.toNat_lt
  have hy255:y<256:=by rw[←hy];exact Nat.lt_of_le_of_lt (Nat.mod_le _ _) hx255
  have e1:(UInt8.ofNat y).toNat=y:=by simp[UInt8.toNat_ofNat'];omega
  rw[e1,hx];have hb2:b=8 * q+(8 - sh):=by omega
  have e2:(256:Nat) ^ q=2 ^ (8 * q):=by rw[show (256:Nat)=2 ^ 8 from rfl,←Nat.pow_mul]
  rw[hb2,Nat.pow_add,←e2,Nat.mod_mul,←hy];rw[Nat.mul_comm x,Nat.mul_add_mod,Nat.mod_eq_of_lt hlt,Nat.mul_add_div (Nat.pos_of_ne_zero (by intro h;rw[h]at hlt;omega)),Nat.div_eq_of_lt hlt,Nat.add_zero];rw[Nat.mul_comm,Nat.add_comm]
theorem BytesAt.offB{W:World}{g o n c B:Nat}{v:Value}{l:List UInt8}(h:BytesAt W (some ⟨g,o,none⟩) n c l)(hne:g≠B):BytesAt (W.setCell ⟨B,0,none⟩ v) (some ⟨g,o,none⟩) n c l:=by
 obtain⟨h1,h2,h3,h4⟩:=h;refine⟨h1,h2,h3,fun hn=>?_⟩;obtain⟨b,o',e,h5⟩:=h4 hn;cases e;refine⟨g,o,rfl,fun k hk=>?_⟩;have hs:(W.setCell ⟨B,0,none⟩ v).cell? ⟨g,o+k,none⟩=W.cell? ⟨g,o+k,none⟩:=by
  apply World.cell?_setCell_other;intro e;injection e with e1 _
  exact hne e1.symm
 rw[hs];exact h5 k hk
theorem belowK_b'{B D:Nat}{W:World}{o':Obj}(hD:B≤D){o:Obj}(h:W.heap[D]? =some o):Below B W (W.putObj D o'):=
 (Below.refl B W).grown (grownBy_putObj' W D o') (by have:=(Array.getElem?_eq_some_iff.1 h).1;omega) (fun k e=>by cases e;exact hD)
def bxLen(W:World)(B:Nat):Nat:=match W.cell? ⟨B,0,none⟩with
 | some (.slice _ n _)=>n
 | _=>0
theorem heap_ownB{β:Type}(B:Nat)(cs:Array Value)(T:TypeId):Own (fun(_:β) W=>W.heap[B]? =some (.cells cs T (0,0))):=fun s X Y row hs hg hrow=>by
 refine(hg.block B (block_lt hs) (fun e=>?_)).trans hs;obtain⟨o,ho,hc⟩:=hrow B e.symm;rw[show X.heap[B]? =_ from hs]at ho;cases ho;cases hc
def ITa(w:World)(z:Nat)(_:Unit)(W:World):Prop:=
 W.heap[w.heap.size+1]? =some (.cells #[.int .i64 z] 3 (0,0))∧W.heap[w.heap.size+1+1]? =some (.cells #[.slice none 0 0] 127 (0,0))∧Below w.heap.size w W
def IXa(w:World)(z:Nat)(ml:List UInt8)(c:Code)(_:Unit)(W:World):Prop:=
 c=.exit 0∧∃(g cp:Nat) (cur:Array Value),W.heap[w.heap.size+1]? =some (.cells #[.int .i64 z] 3 (0,0))∧W.heap[w.heap.size+1+1]? =some (.cells #[.slice (some ⟨g,0,none⟩) 32 cp] 127 (0,0))∧W.heap[g]? =some (.cells cur 5 (0,0)) ∧
  cur.toList.take 32=Lib.byteCells ml∧32≤cp∧cp≤maxLen∧cur.size=cp∧w.heap.size+1+1<g∧Below w.heap.size w W
theorem ita_own(w:World)(z:Nat){B:Nat}(hB:w.heap.size≤B):OwnFrom B (ITa w z):=fun s X Y row ⟨h1,h2,h3⟩ hg hr =>
 ⟨heap_ownB (β:=Unit) _ _ _ () X Y row h1 hg (fun r e=>(hr r e).2),heap_ownB (β:=Unit) _ _ _ () X Y row h2 hg (fun r e=>(hr r e).2),ownFrom_below (β:=Unit) nlr hB () X Y row h3 hg hr⟩
theorem ixa_own(w:World)(z:Nat)(ml:List UInt8)(c:Code){B:Nat}(hB:w.heap.size≤B):OwnFrom B (IXa w z ml c):=fun s X Y row ⟨e,g,cp,cur,h1,h2,h3,h4,h5,h6,h7,h8,h9⟩ hg hr =>
 ⟨e,g,cp,cur,heap_ownB (β:=Unit) _ _ _ () X Y row h1 hg (fun r e=>(hr r e).2),heap_ownB (β:=Unit) _ _ _ () X Y row h2 hg (fun r e=>(hr r e).2),heap_ownB (β:=Unit) _ _ _ () X Y row h3 hg (fun r e=>(hr r e).2),h4,h5,h6,h7,h8,ownFrom_below (β:=Unit) nlr hB () X Y row h9 hg hr⟩
theorem co_attempt(A:Option Addr)(n cap:Nat)(s:ByteArray)(k a b:Nat)(hs:s.size≤1000000)(hk:k<2147483648)(ha:a<256)(hb0:0<b)(hb:b≤256)(w:World)(ht:T10 w) :
 Calls Tryz.prog 140 #[tpV A n cap s k,.int .i64 a,.int .i64 b] w (Ret (.string (nS (attN s.data.toList k a b))) w):=by
 have HSQ:=Hq (fun q hq D E W hD hE ht=>blocks_first q hq A n cap s k a hs hk ha D E W hD hE ht);obtain⟨ml,hml⟩:∃ l,macL s.data.toList (nmL k a 0)=l:=⟨_,rfl⟩;have hll:ml.length=32:=by rw[←hml];exact macL_length _ _
 have HRES:=Hq (show attN s.data.toList k a b=bnat (ml.take ((b+7) / 8))%2 ^ b from by unfold attN;rw[hml]);rw[hml]at HSQ;have HLL:=Hq hll;have HT:=Hq ht;have hbi:(b:Int)≤256:=by omega
 rw[HRES.out];unfold tpV;clear hml hll ht hs;refine(callsIn_wide (n:=3)).1 ?_;refine callsIn_of_wp_marks Tryz.func140 rfl trivial ?_ rfl;simp only[Tryz.ntmps140,List.size_toArray,List.length_cons,List.length_nil,Nat.reduceAdd,Nat.reduceSub,Array.replicate_succ,Array.replicate_zero,List.push_toArray,List.append_toArray,List.nil_append,List.cons_append];refine wpIn_wide.2 ?_;go_upto_region 3 with(fail)
 obtain⟨z,hz⟩:∃ z,(b+7) / 8=z:=⟨_,rfl⟩;have hzi:((b:Int)+7) / 8=(z:Int):=by omega
 rw[hzi];have HZ:=Hq hz;have hw1:BX4 ((((w.alloc (.cells #[.slice A n cap,.string s,.int .i64 k] 30)).alloc (.cells #[.int .i64 z] 3)).alloc (.cells #[.slice none 0 0] 127))) w A n cap s k z:=BX4.mk4 _ _ _ _ _ _ _;obtain⟨W1,hW1⟩:∃ W,(((w.alloc (.cells #[.slice A n cap,.string s,.int .i64 k] 30)).alloc (.cells #[.int .i64 z] 3)).alloc (.cells #[.slice none 0 0] 127))=W:=⟨_,rfl⟩;rw[hW1]at hw1⊢;have H1:=Hq hw1;obtain⟨c0,c1,c2⟩:=hw1.1.c;clear hw1 hW1 hz hzi;go_wp2_with fail;refine(co_blocks A n cap s k a W1).mono ?_;rintro ev w2 ⟨rfl,rfl⟩;have hD2:TB ((W1.alloc (.cells #[.slice A n cap,.string s,.int .i64 k] 30)).alloc (.cells #[.int .i64 a] 3)) W1.heap.size A n cap s k:=(TB.new _ _ _ _ _ _).nextT ((blr).alloc nlr _);have hE2:((W1.alloc (.cells #[.slice A n cap,.string s,.int .i64 k] 30)).alloc (.cells #[.int .i64 a] 3)).heap[W1.heap.size+1]? =some (.cells #[.int .i64 a] 3 (0,0)):=by
  have:=heap_alloc_new (W1.alloc (.cells #[.slice A n cap,.string s,.int .i64 k] 30)) (.cells #[.int .i64 a] 3);rwa[World.size_alloc]at this
 have hb2:=((Below.refl W1.heap.size W1).alloc nlr (.cells #[.slice A n cap,.string s,.int .i64 k] 30)).alloc (by simp) (.cells #[.int .i64 a] 3);obtain⟨D,hD⟩:∃ D,W1.heap.size=D:=⟨_,rfl⟩;obtain⟨W2,hW2⟩:∃ W,(W1.alloc (.cells #[.slice A n cap,.string s,.int .i64 k] 30)).alloc (.cells #[.int .i64 a] 3)=W:=⟨_,rfl⟩;rw[hW2]at hD2 hE2 hb2;try rw[hW2]
 have H2:=Hq (H1.out.next4 hb2);rw[hD]at hD2 hE2;try rw[hD]
 have HQ:=Hq (HSQ.out 2 (by omega) D (D+1) W2 hD2 hE2 (HT.out.next (H2.out.2.2.2)));clear c0 c1 c2 hb2 hW2 hD hD2 hE2;go_wp2;rename_i K5 hK5;refine(wpIn_wide (n:=3)).1 ?_;refine rangeFunc_first rfl (by omega) (gf:=218) (lb:=#[.pointer (some ⟨D,0,none⟩),.pointer (some ⟨D+1,0,none⟩)]) rfl trivial (enters_of Tryz.func218 (by kernel_rfl) rfl)
  HQ.out blr rfl (ITa w z) (IXa w z ml) (ita_own w z (by have:=H2.out.2.2.2.size;exact this)) (fun c=>ixa_own w z ml c (by have:=H2.out.2.2.2.size;exact this)) ⟨H2.out.2.1,H2.out.2.2.1,H2.out.2.2.2⟩
  (fun t=>(t.setIfInBounds 16 (.string (bstr ml))).setIfInBounds 9 (.string (bstr ml))) ?assign ?body ?stop
 case assign =>
  intro l W K hK;gi_wp2;exact hK
 case body =>
  rintro l W ⟨h1,h2,h3⟩;obtain⟨A',c',w',hr,hown,hg⟩:=append_mac ml HLL.out W.heap.size 127 W nlr;rcases hown.2 with⟨e,_⟩ | ⟨g,cp,cur,e,hbg,hgh,hnc,hcm,hcs,htake⟩
  · cases e
  · cases e;have hbW:Below W.heap.size W w':=⟨hg.os,hg.tape,hg.output,hg.size,fun k hk=>hg.block k hk (fun e=>by cases e)⟩;have hlt2:w.heap.size+1+1<W.heap.size:=block_lt h2;have d0:W.cell? ⟨w.heap.size+1+1,0,none⟩=some (.slice none 0 0):=by rw[Lib.cell_of_heap h2];rfl
    have h1':=(hbW.block _ (block_lt h1)).trans h1;have h2':=(hbW.block _ (block_lt h2)).trans h2;have d1:w'.cell? ⟨w.heap.size+1,0,none⟩=some (.int .i64 z):=by rw[Lib.cell_of_heap h1'];rfl
    have d2:w'.cell? ⟨w.heap.size+1+1,0,none⟩=some (.slice none 0 0):=by rw[Lib.cell_of_heap h2'];rfl
    have f2:w'.frozen? ⟨w.heap.size+1+1,0,none⟩=false:=Lib.frozen_of_heap h2' 0;have HFIN:=Hq (show KeepsOthers W (w'.setCell ⟨w.heap.size+1+1,0,none⟩ (.slice (some ⟨g,0,none⟩) 32 c'))∧IXa w z ml (.exit 0) () (w'.setCell ⟨w.heap.size+1+1,0,none⟩ (.slice (some ⟨g,0,none⟩) 32 c'))from by
     refine⟨(keeps_below hbW).trans (KeepsOthers.setCell _ _ _),rfl,g,c',cur,?_,?_,?_,?_,hnc,hcm,?_,by omega,?_⟩
     · exact(heap_setCell_other _ _ _ _ (show w.heap.size+1≠w.heap.size+1+1 by omega)).trans h1'
     · exact block_setCell h2' _
     · exact(heap_setCell_other _ _ _ _ (show g≠w.heap.size+1+1 by omega)).trans hgh
     · simpa using htake
     · simpa using hcs
     · exact(h3.trans (hbW.mono h3.size)).setCell (p:=⟨w.heap.size+1+1,0,none⟩) (show w.heap.size≤w.heap.size+1+1 by omega) _)
    have hz32:z≤32:=by have:=HZ.out;omega
    clear h1 h2 h3 h1' h2' hgh htake hcs hown hbW hg;simp only[List.setIfInBounds_toArray,List.set_cons_zero,List.set_cons_succ]
    gi_step
    gi_step
    gi_step
    refine region_in ?hq (by rfl) ?_;case hq =>
     repeat first
      | refine letsOut_then ?_
      | refine letsOut_block ?_
     exact letsOut_own _ _ _ _ _
    go_wp2_with (refine wpList_append_ran _ rfl (.tmp 17) (.tmp 18) 127 9 rfl _ _ rfl rfl hr ?_);clear hr d0;gi_wp2;exact HFIN.out
 case stop =>
  rintro D' c W hD' ⟨rfl,g,cp,cur,h1,h2,h3,h4,h5,h6,h7,h8,h9⟩ hK;have HDD:=Hq (show w.heap.size≤D' from Nat.le_trans H2.out.2.2.2.size hD');have HC1:=Hq h1;have HC2:=Hq h2;have HC3:=Hq h3;have HTK:=Hq h4;have HCP:=Hq (show 32≤cp∧cp≤maxLen∧cur.size=cp∧w.heap.size+1+1<g from⟨h5,h6,h7,h8⟩);have HBW:=Hq h9;have HKD:=Hq hK;clear h1 h2 h3 h4 h5 h6 h7 h8 h9 hK;refine wpIn_exit ?_;simp only[Exit.inBlock,if_true];show K5 _ _;refine hK5 _ _ ?_;clear hK5 HSQ HQ H1 H2;have hz1:0<z:=by have:=HZ.out;omega
  have hz32:z≤32:=by have:=HZ.out;omega
  have HZP:=Hq (show 0<z∧z≤32 from⟨hz1,hz32⟩);have hbyt:=BytesAt.row HC3.out HTK.out HLL.out z cp hz32 (by have:=HCP.out.1;omega) (by have:=HCP.out.2.1;unfold maxLen at this;omega);obtain⟨x,hx⟩:∃ x:Nat,(ml.getD 0 0).toNat=x:=⟨_,rfl⟩;have hx255:x≤255:=by rw[←hx];have:=(ml.getD 0 0).toNat_lt;omega
  have HXX:=Hq hx;have k1:W.cell? ⟨w.heap.size+1,0,none⟩=some (.int .i64 z):=by rw[Lib.cell_of_heap HC1.out];rfl
  have k2:W.cell? ⟨w.heap.size+1+1,0,none⟩=some (.slice (some ⟨g,0,none⟩) 32 cp):=by rw[Lib.cell_of_heap HC2.out];rfl
  have f2:W.frozen? ⟨w.heap.size+1+1,0,none⟩=false:=Lib.frozen_of_heap HC2.out 0;have hcp32:32≤cp:=HCP.out.1;have hzc:z≤cp:=by omega
  have HBY:=Hq hbyt;clear hx hbyt;go_upto_region 8 with(fail)
  have h1':(W.setCell ⟨w.heap.size+1+1,0,none⟩ (.slice (some ⟨g,0,none⟩) z cp)).heap[w.heap.size+1]? =some (.cells #[.int .i64 z] 3 (0,0)):=(heap_setCell_other _ _ _ _ (show w.heap.size+1≠w.heap.size+1+1 by omega)).trans HC1.out;have h2':(W.setCell ⟨w.heap.size+1+1,0,none⟩ (.slice (some ⟨g,0,none⟩) z cp)).heap[w.heap.size+1+1]? =some (.cells #[.slice (some ⟨g,0,none⟩) z cp] 127 (0,0)):=block_setCell HC2.out _;have h3':(W.setCell ⟨w.heap.size+1+1,0,none⟩ (.slice (some ⟨g,0,none⟩) z cp)).heap[g]? =some (.cells cur 5 (0,0)):=(heap_setCell_other _ _ _ _ (show g≠w.heap.size+1+1 by have:=HCP.out;omega)).trans HC3.out;have h4':(W.setCell ⟨w.heap.size+1+1,0,none⟩ (.slice (some ⟨g,0,none⟩) z cp)).heap[D']? =some (.deferred (some [])):=(heap_setCell_other _ _ _ _ (show D'≠w.heap.size+1+1 by intro e;rw[e,HC2.out]at HKD;cases HKD.out)).trans HKD.out;have h5':Below w.heap.size w (W.setCell ⟨w.heap.size+1+1,0,none⟩ (.slice (some ⟨g,0,none⟩) z cp)):=HBW.out.setCell (p:=⟨w.heap.size+1+1,0,none⟩) (show w.heap.size≤w.heap.size+1+1 by omega) _;obtain⟨W3,hW3⟩:∃ X,W.setCell ⟨w.heap.size+1+1,0,none⟩ (.slice (some ⟨g,0,none⟩) z cp)=X:=⟨_,rfl⟩;rw[hW3]at h1' h2' h3' h4' h5'⊢;have HD1:=Hq h1';have HD2:=Hq h2';have HD3:=Hq h3';have HKD3:=Hq h4';have HBW3:=Hq h5';clear h1' h2' h3' h4' h5' hW3 k1 k2 f2 HC1 HC2 HC3 HKD HBW HBY hD';have k1:W3.cell? ⟨w.heap.size+1,0,none⟩=some (.int .i64 z):=by rw[Lib.cell_of_heap HD1.out];rfl
  go_wp2;obtain⟨wd,hwd⟩:∃ wd,W3.drew=wd:=⟨_,rfl⟩;have HE1:=Hq (show wd.heap[w.heap.size+1]? =some (.cells #[.int .i64 z] 3 (0,0))from hwd▸HD1.out);have HE2:=Hq (show wd.heap[w.heap.size+1+1]? =some (.cells #[.slice (some ⟨g,0,none⟩) z cp] 127 (0,0))from hwd▸HD2.out);have HE3:=Hq (show wd.heap[g]? =some (.cells cur 5 (0,0))from hwd▸HD3.out);have HKD4:=Hq (show wd.heap[D']? =some (.deferred (some []))from hwd▸HKD3.out);have HBW4:=Hq (show Below w.heap.size w wd from hwd▸HBW3.out.drew);clear k1 HD1 HD2 HD3 HKD3 HBW3;have k1:wd.cell? ⟨w.heap.size+1,0,none⟩=some (.int .i64 z):=by rw[Lib.cell_of_heap HE1.out];rfl
  have k2:wd.cell? ⟨w.heap.size+1+1,0,none⟩=some (.slice (some ⟨g,0,none⟩) z cp):=by rw[Lib.cell_of_heap HE2.out];rfl
  have k3:wd.cell? ⟨g,0,none⟩=some (.int .u8 x):=(by obtain⟨b',o',e',hcel⟩:=(BytesAt.row HE3.out HTK.out HLL.out z cp hz32 hzc (by have:=HCP.out.2.1;unfold maxLen at this;omega)).2.2.2 hz1;cases e';have:=hcel 0 hz1;rw[Nat.add_zero]at this;rw[this,←HXX.out];unfold byteI;rw[List.getD_eq_getElem?_getD,List.getD_eq_getElem?_getD,List.getElem?_take,if_pos hz1]);have f3:wd.frozen? ⟨g,0,none⟩=false:=Lib.frozen_of_heap HE3.out 0;obtain⟨sh,hsh⟩:∃ sh,8 * z - b=sh:=⟨_,rfl⟩;have hshi:8 * (z:Int) - (b:Int)=(sh:Int):=by have:=HZ.out;omega
  have hsh0:(0:Int)≤(sh:Int):=by omega
  have hsh8:sh<8:=by have:=HZ.out;omega
  have hwr:IntKind.i64.wrap (IntKind.i64.wrap (8 * (z:Int)) - (b:Int))=(sh:Int):=(by rw[IntKind.wrap_i64,IntKind.wrap_i64];omega);obtain⟨y,hy⟩:∃ y,x%2 ^ (8 - sh)=y:=⟨_,rfl⟩;have hand:bits .and .u8 (x:Int) ((255:Int) / 2 ^ min sh 8)=(y:Int):=by rw[←hy];exact and_mask sh hsh8 x (by omega)
  have HSH:=Hq (show 8 * z - b=sh∧x%2 ^ (8 - sh)=y from⟨hsh,hy⟩);clear hy hsh hsh8 hshi;rename_i K6 hK6;refine wp_onlyN ?_;refine wp_region_K 10 (Below (wd).heap.size (wd)) (by kernel_rfl) ?_;intro hD;rw[hwd];refine qTD 0 29 10 rfl hD blr (by intro w' hS';have e0:=kC hS' k1;have e1:=kC hS' k2;have e2:=kC hS' k3;go_simp;with_reducible rfl) ?_;clear hD;intro hD;simp only[Act.put,sqA,sqB,sqC];refine qPD 1 30 9 rfl hD blr ?_;clear hD;intro hD;simp only[Act.put,sqA,sqB,sqC];refine qTD 2 31 8 rfl hD blr (by intro w' hS';have e0:=kC hS' k1;have e1:=kC hS' k2;have e2:=kC hS' k3;go_simp;with_reducible rfl) ?_;clear hD;intro hD;simp only[Act.put,sqA,sqB,sqC];refine qTD 3 32 7 rfl hD blr (by intro w' hS';have e0:=kC hS' k1;have e1:=kC hS' k2;have e2:=kC hS' k3;go_simp;with_reducible rfl) ?_;clear hD;intro hD;simp only[Act.put,sqA,sqB,sqC];refine qPD 4 33 6 rfl hD blr ?_;clear hD;intro hD;simp only[Act.put,sqA,sqB,sqC];refine qPD 5 34 5 rfl hD blr ?_;clear hD;intro hD;simp only[Act.put,sqA,sqB,sqC];refine qPD 6 35 4 rfl hD blr ?_;clear hD;intro hD;simp only[Act.put,sqA,sqB,sqC];refine qPD 7 36 3 rfl hD blr ?_;clear hD;intro hD;simp only[Act.put,sqA,sqB,sqC];refine qPD 8 37 2 rfl hD blr ?_;clear hD;intro hD;simp only[Act.put,sqA,sqB,sqC];refine qPD 9 38 1 rfl hD blr ?_;clear hD;intro hD;simp only[Act.put,sqA,sqB,sqC];refine wpAnyK_oneT (i:=10) (fuel:=0) (by kernel_rfl) rfl hD (by kernel_rfl) ?_;clear hD;intro K10 hK10;go_wp2;refine hK10 _ _ ?_;clear hK10;intro hD;refine wpD ?_;clear hD;show K6 _ _;refine hK6 _ _ ?_;clear hK6;have hl0:=BytesAt.row HE3.out HTK.out HLL.out z cp hz32 hzc (by have:=HCP.out.2.1;unfold maxLen at this;omega);have hg2:g≠w.heap.size+1+1:=by have:=HCP.out;omega
  have hg1:g≠w.heap.size+1:=by have:=HCP.out;omega
  have h1':(wd.setCell ⟨g,0,none⟩ (.int .u8 y)).heap[w.heap.size+1+1]? =some (.cells #[.slice (some ⟨g,0,none⟩) z cp] 127 (0,0)):=(heap_setCell_other _ _ _ _ (Ne.symm hg2)).trans HE2.out;have h2':(wd.setCell ⟨g,0,none⟩ (.int .u8 y)).heap[D']? =some (.deferred (some [])):=(heap_setCell_other _ _ _ _ (show D'≠g by intro e;have:=HKD4.out;rw[e,HE3.out]at this;cases this)).trans HKD4.out;have h3':Below w.heap.size w (wd.setCell ⟨g,0,none⟩ (.int .u8 y)):=HBW4.out.setCell (p:=⟨g,0,none⟩) (show w.heap.size≤g by have:=HCP.out;omega) _;have hy255:y≤255:=by rw[←HSH.out.2];exact Nat.le_trans (Nat.mod_le _ _) hx255
  have h4':=BytesAt.first hl0 (x:=y) hz1 hy255;have hval:=attempt_val HLL.out HZ.out hb0 hb HXX.out HSH.out.1 HSH.out.2;obtain⟨W5,hW5⟩:∃ X,wd.setCell ⟨g,0,none⟩ (.int .u8 y)=X:=⟨_,rfl⟩;rw[hW5]at h1' h2' h3' h4'⊢;obtain⟨L,hL⟩:∃ L,UInt8.ofNat y::(ml.take z).drop 1=L:=⟨_,rfl⟩;rw[hL]at h4' hval;have HF2:=Hq h1';have HFD:=Hq h2';have HFB:=Hq h3';have HFL:=Hq h4';have HVAL:=Hq hval;clear h1' h2' h3' h4' hval hl0 hW5 hL hy255 k1 k2 k3 f3 HE1 HE2 HE3 HKD4 HBW4 HXX HSH HTK hx255;have HL0:=Hq (show ∃(o m c:Nat) (l':List UInt8),W5.heap[w.heap.size+1+1]? =some (.cells #[.slice (some ⟨g,o,none⟩) m c] 127 (0,0))∧BytesAt W5 (some ⟨g,o,none⟩) m c l'∧trimZ l'=trimZ L from⟨0,z,cp,L,HF2.out,HFL.out,rfl⟩);have HLZ:=Hq (show L.length=z from HFL.out.1);go_wp2;go_loopw [] (fun wr=>(∃(o m c:Nat) (l':List UInt8),wr.heap[w.heap.size+1+1]? =some (.cells #[.slice (some ⟨g,o,none⟩) m c] 127 (0,0))∧BytesAt wr (some ⟨g,o,none⟩) m c l'∧trimZ l'=trimZ L)∧wr.heap[D']? =some (.deferred (some []))∧Below w.heap.size w wr) (fun wr=>bxLen wr (w.heap.size+1+1));case atStart=>exact⟨HL0.out,HFD.out,HFB.out⟩
  case round =>
   obtain⟨⟨o,m,c,l',hb2,hby,htr⟩,hdf,hbl⟩:=hrel;have HB2:=Hq hb2
   have HBY:=Hq hby
   have HTR:=Hq htr;have HDF:=Hq hdf;have HBL:=Hq hbl;have k2:wr.cell? ⟨w.heap.size+1+1,0,none⟩=some (.slice (some ⟨g,o,none⟩) m c):=by rw[Lib.cell_of_heap hb2];rfl
   have f2:wr.frozen? ⟨w.heap.size+1+1,0,none⟩=false:=Lib.frozen_of_heap hb2 0;clear hb2 hby htr hdf hbl HF2 HFD HFB HFL HL0;have fin:∀(W':World),trimZ l'=l'→bstr l'=nS (bnat (ml.take ((b+7) / 8))%2 ^ b):=fun _ h=>by
    rw[←HVAL.out,←bnat_trimZ L,←HTR.out,h];unfold nS;rw[encN_bnat];rw[←h];exact trimZ_canon _
   by_cases h0:0<m
   · obtain⟨b',o',e',hcel⟩:=HBY.out.2.2.2 h0;cases e';have e0:=hcel 0 h0;simp only[Nat.add_zero]at e0;have hmc:m≤c:=HBY.out.2.1;have hcm:c≤9223372036854775807:=HBY.out.2.2.1;clear hcel;by_cases hzb:byteI l' 0=0
     · have hz2:(byteI l' 0==0)=true:=beq_iff_eq.2 hzb;have HTL:=Hq (HBY.out.tail h0);have HNT:=Hq (show trimZ (l'.drop 1)=trimZ L from by rw[←HTR.out,trimZ_zero (by have:=HBY.out.1;omega) hzb]);have hs1:=fun v=>(block_setCell HB2.out v:(wr.setCell ⟨w.heap.size+1+1,0,none⟩ v).heap[w.heap.size+1+1]? =_);have HS1:=Hq hs1;have HM0:=Hq h0;clear hzb hs1 fin;go_wp2;have hdb:D'≠w.heap.size+1+1:=by intro e;have:=HDF.out;rw[e,HB2.out]at this;cases this
       refine⟨⟨?_,(heap_setCell_other _ _ _ _ hdb).trans HDF.out,HBL.out.setCell (p:=⟨w.heap.size+1+1,0,none⟩) (show w.heap.size≤w.heap.size+1+1 by omega) _⟩,?_⟩
       · have htl:=HTL.out;by_cases hc1:c=1
         · rw[if_pos hc1]at htl⊢;exact⟨o,m - 1,c - 1,l'.drop 1,HS1.out _,htl.offB (by have:=HCP.out;omega),HNT.out⟩
         · rw[if_neg hc1]at htl⊢;exact⟨o+1,m - 1,c - 1,l'.drop 1,HS1.out _,htl.offB (by have:=HCP.out;omega),HNT.out⟩
       · have e1:bxLen wr (w.heap.size+1+1)=m:=by unfold bxLen;rw[k2]
         rw[e1];unfold bxLen;rw[Lib.cell_of_heap (HS1.out _)];show m - 1<m;have:=HM0.out;omega
     · have hz2:(byteI l' 0==0)=false:=beq_eq_false_iff_ne.2 hzb;have HFI:=Hq (fin wr (trimZ_stop (.inr hzb)));have hconv:=HBY.out.conv 127 22 5 Tryz.underlying127 Tryz.underlying5 Tryz.underlying22;clear hzb fin;go_wp2;exact bodyM_mark HDF.out rfl (results_tmp rfl _ _ _) ⟨by show Ending.returned (.string (bstr l'))=_;rw[HFI.out],(HBL.out.trans (belowK_b' HDD.out HDF.out))⟩
   · obtain rfl:m=0:=by omega
     have HFI:=Hq (fin wr (trimZ_stop (.inl HBY.out.1)));have hconv:=HBY.out.conv 127 22 5 Tryz.underlying127 Tryz.underlying5 Tryz.underlying22;clear h0 fin;go_wp2;exact bodyM_mark HDF.out rfl (results_tmp rfl _ _ _) ⟨by show Ending.returned (.string (bstr l'))=_;rw[HFI.out],(HBL.out.trans (belowK_b' HDD.out HDF.out))⟩
end Go.Proofs.YtopmeciihijgiaaGreatDoor

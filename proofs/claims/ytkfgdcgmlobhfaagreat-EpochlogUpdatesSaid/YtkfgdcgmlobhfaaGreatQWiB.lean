import Derived.Test.YtkfgdcgmlobhfaaGreatQEpX
set_option linter.unusedVariables false
set_option linter.unusedSimpArgs false
namespace Go.Proofs.YtkfgdcgmlobhfaaGreat
set_option maxRecDepth 100000
set_option maxHeartbeats 4000000
open Go.RowKit Go.Shelf
attribute [local go_sem] Oper.semAt_some
theorem zbg{W W':World}(h:Below W.heap.size W W'):W.grownBy W' none:=⟨h.os,h.tape,h.output,h.size,fun k hk _=>h.block k hk⟩
theorem zh2{β:Type}{B:Nat}{J:β→World→Prop}(hJ:AbidesFrom B J){s:β}{W W':World}(h:J s W)(hb:Below W.heap.size W W'):J s W':=hJ s W W' none h (zbg hb) (fun r e=>by cases e)
structure DV where
 d:Dl
 A1:Option Addr
 n1:Nat
 c1:Nat
 A2:Option Addr
 n2:Nat
 c2:Nat
structure DVok (w:World) (x:DV):Prop where
 s1:SlN w x.A1 x.n1 x.c1 x.d.ad
 s2:SlN w x.A2 x.n2 x.c2 x.d.rm
 few:FewD x.d
 sz:SzL x.d.str
abbrev DX(w:World):={ x:DV // DVok w x }
def DX.enc{w:World}(x:DX w):Array Value:=#[.agg (x.val.d.arr (.slice x.val.A1 x.val.n1 x.val.c1) (.slice x.val.A2 x.val.n2 x.val.c2))]
def KpB(B:Nat)(W W':World):Prop:=W.heap.size≤W'.heap.size∧∀ k,k<B→W'.heap[k]? =W.heap[k]?
theorem KpB.refl(B:Nat)(W:World):KpB B W W:=⟨Nat.le_refl _,fun _ _=>rfl⟩
theorem KpB.trans{B:Nat}{A C D:World}(h:KpB B A C)(k:KpB B C D):KpB B A D:=⟨Nat.le_trans h.1 k.1,fun i hi=>(k.2 i hi).trans (h.2 i hi)⟩
theorem KpB.of_below{B:Nat}{W W':World}(h:Below B W W'):KpB B W W':=⟨h.size,h.block⟩
theorem KpB.cell{w W:World}(h:KpB w.heap.size w W){a:Addr}{v:Value}(hc:w.cell? a=some v):W.cell? a=some v:=by
 have hl:a.block<w.heap.size:=by
  rcases Nat.lt_or_ge a.block w.heap.size with h1 | h1
  · exact h1
  · unfold World.cell? at hc;rw[Array.getElem?_eq_none h1]at hc;simp at hc
 rw[World.cell?_of_block (h.2 _ hl)];exact hc
theorem zmt(A:Option Addr)(n c:Nat)(f t:Int)(w:World):Calls Tryz.prog 25 #[.slice A n c,.int .i64 f,.int .i64 t] w fun e w'=>e=.returned (.func (.func 48) #[] #[.pointer (some ⟨w.heap.size,0,none⟩),.pointer (some ⟨w.heap.size+1,0,none⟩),.pointer (some ⟨w.heap.size+1+1,0,none⟩)])∧w'=((w.alloc (.cells #[.slice A n c] 28)).alloc (.cells #[.int .i64 f] 3)).alloc (.cells #[.int .i64 t] 3):=by
 go_enter Tryz.func25,Tryz.ntmps25;go_wp2;go_ret;exact⟨rfl,rfl⟩
theorem zhw(k:Nat)(hk:1≤k)(w0:World)(l:List Dl)(A:Option Addr)(n c:Nat)(hs:SlD w0 A n c l)(hf:∀ d∈l,FewD d)(hz:SzD l)(F T:Nat)(hFT:F<T)(hTn:T≤n)(w:World)(hw:Below w0.heap.size w0 w)(B1 B2 B3:Nat)(h1:BxC w B1 #[.slice A n c] 28)(h2:BxC w B2 #[.int .i64 F] 3)(h3:BxC w B3 #[.int .i64 T] 3) :
 SeqStopsK Fence.wide k Tryz.prog 48 #[.pointer (some ⟨B1,0,none⟩),.pointer (some ⟨B2,0,none⟩),.pointer (some ⟨B3,0,none⟩)] (DX.enc (w:=w0)) (KpB w0.heap.size) (fun xs=>xs.map (·.val.d)=(l.drop F).take (T - F)) (fun pre=>pre.map (·.val.d) <+: (l.drop F).take (T - F)) (T - F) w:=fun lp J Jx W hW hJ hJx hY h0=>by
 obtain⟨b,o,rfl⟩:∃ b o,A=some ⟨b,o,none⟩:=(by obtain⟨e,he⟩:∃ e,l[F]? =some e:=⟨_,List.getElem?_eq_getElem (by rw[hs.1];omega)⟩;obtain⟨b,o,h,_⟩:=hs.get he;exact⟨b,o,h⟩);have HS:=Hq hs;have HLEN:=Hq hs.1;have hcap:=hs.2.1;have hcap2:=hs.2.2.1;have HF:=Hq hf;have HZ:=Hq hz;have HW0:=Hq (show KpB w0.heap.size w0 W from(KpB.of_below hw).trans (KpB.of_below (hW.mono hw.size)));have x1:W.cell? ⟨B1,0,none⟩=some (.slice (some ⟨b,o,none⟩) n c):=(h1.next hW).cell 0;have x2:W.cell? ⟨B2,0,none⟩=some (.int .i64 F):=(h2.next hW).cell 0;have x3:W.cell? ⟨B3,0,none⟩=some (.int .i64 T):=(h3.next hW).cell 0;have HY:=Hq hY;have HJ:=Hq hJ;have HJ0:=Hq h0;clear hY hJ hJx h0 hW hw h1 h2 h3 hs hf hz;refine callsIn_of_wp Tryz.func48 rfl trivial ?_ rfl;simp only[Tryz.ntmps48,List.size_toArray,List.length_cons,List.length_nil,Nat.reduceAdd,Nat.reduceSub,Array.replicate_succ,Array.replicate_zero,List.push_toArray,List.append_toArray,List.nil_append,List.cons_append];gi_wp2;obtain⟨N,hN⟩:∃ N,T - F=N:=⟨_,rfl⟩;obtain⟨c',hc'⟩:∃ c',c - F=c':=⟨_,rfl⟩;rw[hN]at HY⊢;rw[hc'];have HN:=Hq hN;have hNc:N≤c':=by omega
 have hcb:c'≤9223372036854775807:=by omega
 clear x1 x2 x3 hN hc';gi_loopw [12] (fun i wr=>∃(j:Nat) (pre:List (DX w0)),j≤N∧i=.int .i64 j∧pre.map (·.val.d)=(l.drop F).take j∧KpB w0.heap.size w0 wr∧J pre wr) (fun i _=>N - (intOf i).toNat);case atStart=>exact⟨0,[],by omega,rfl,by simp,HW0.out,HJ0.out⟩
 case round =>
  obtain⟨j,pre,hj,rfl,hpre,hkp,hJr⟩:=hrel;have HPRE:=Hq hpre;have HKP:=Hq hkp;have HJR:=Hq hJr;clear hpre hkp hJr;by_cases hlt:j<N
  · obtain⟨d,he⟩:∃ d,l[F+j]? =some d:=⟨_,List.getElem?_eq_getElem (by rw[HLEN.out];have:=HN.out;omega)⟩;obtain⟨b2,o2,he2,A1,n1,c1,A2,n2,c2,hin⟩:=HS.out.get he;obtain⟨rfl,rfl⟩:b=b2∧o=o2:=by simpa using he2
    have HOKX:=Hq (show DVok w0 ⟨d,A1,n1,c1,A2,n2,c2⟩from⟨hin.2.1,hin.2.2,HF.out d (List.mem_of_getElem? he),HZ.out d (List.mem_of_getElem? he)⟩);have HPL:=Hq (show pre.length=j from by have:=congrArg List.length HPRE.out;rw[List.length_map,List.length_take,List.length_drop,Nat.min_eq_left (by rw[HLEN.out];have:=HN.out;omega)]at this;exact this);have HPN:=Hq (show (pre++[(⟨⟨d,A1,n1,c1,A2,n2,c2⟩,HOKX.out⟩:DX w0)]).map (·.val.d)=(l.drop F).take (j+1)from by rw[List.map_append,HPRE.out,List.take_add_one,List.getElem?_drop,he];rfl);have HPX:=Hq (show (pre++[(⟨⟨d,A1,n1,c1,A2,n2,c2⟩,HOKX.out⟩:DX w0)]).map (·.val.d) <+: (l.drop F).take N from by rw[HPN.out];exact List.take_prefix_take_left (by omega));have HIN:=Hq hin;have x0:wr.cell? ⟨b,o+F * 8+j * 8,none⟩=some (.int .i64 d.fr):=(by have:=HKP.out.cell (HIN.out.cell 0 rfl);rwa[show o+(F+j) * 8+0=o+F * 8+j * 8 from by omega]at this);have x1:wr.cell? ⟨b,o+F * 8+j * 8+1,none⟩=some (.int .i64 d.to):=(by have:=HKP.out.cell (HIN.out.cell 1 rfl);rwa[show o+(F+j) * 8+1=o+F * 8+j * 8+1 from by omega]at this);have x2:wr.cell? ⟨b,o+F * 8+j * 8+2,none⟩=some (.slice A1 n1 c1):=(by have:=HKP.out.cell (HIN.out.cell 2 rfl);rwa[show o+(F+j) * 8+2=o+F * 8+j * 8+2 from by omega]at this);have x3:wr.cell? ⟨b,o+F * 8+j * 8+3,none⟩=some (.slice A2 n2 c2):=(by have:=HKP.out.cell (HIN.out.cell 3 rfl);rwa[show o+(F+j) * 8+3=o+F * 8+j * 8+3 from by omega]at this);have x4:wr.cell? ⟨b,o+F * 8+j * 8+4,none⟩=some (.string d.be):=(by have:=HKP.out.cell (HIN.out.cell 4 rfl);rwa[show o+(F+j) * 8+4=o+F * 8+j * 8+4 from by omega]at this);have x5:wr.cell? ⟨b,o+F * 8+j * 8+5,none⟩=some (.string d.af):=(by have:=HKP.out.cell (HIN.out.cell 5 rfl);rwa[show o+(F+j) * 8+5=o+F * 8+j * 8+5 from by omega]at this);have x6:wr.cell? ⟨b,o+F * 8+j * 8+6,none⟩=some (.string d.sc):=(by have:=HKP.out.cell (HIN.out.cell 6 rfl);rwa[show o+(F+j) * 8+6=o+F * 8+j * 8+6 from by omega]at this);have x7:wr.cell? ⟨b,o+F * 8+j * 8+7,none⟩=some (.string d.sr):=(by have:=HKP.out.cell (HIN.out.cell 7 rfl);rwa[show o+(F+j) * 8+7=o+F * 8+j * 8+7 from by omega]at this);have hbX:Below wr.heap.size wr (wr.alloc (.cells #[.int .i64 d.fr,.int .i64 d.to,.slice A1 n1 c1,.slice A2 n2 c2,.string d.be,.string d.af,.string d.sc,.string d.sr] 50)):=(blr).alloc nlr _;have HJX:=Hq (zh2 HJ.out HJR.out hbX);have HKX:=Hq (HKP.out.trans (KpB.of_below (hbX.mono HKP.out.1)));clear he he2 hin hbX;obtain⟨fn,tmps,assign,body,hy,hR⟩:=HY.out pre ⟨⟨d,A1,n1,c1,A2,n2,c2⟩,HOKX.out⟩ _ HJX.out (by rw[HPL.out];exact hlt);have HR:=Hq hR;clear hR;unfold DX.enc Dl.arr at hy;dsimp only at hy;gi_wp2;refine HR.out.mono ?_;rintro ev W' (⟨rfl,hJ',hk'⟩ | ⟨rfl,hJx'⟩)
    · have HJ':=Hq hJ';have HK':=Hq (HKX.out.trans hk');clear hJ' hk';gi_wp2;go_roundw;case rel=>exact⟨j+1,pre++[⟨⟨d,A1,n1,c1,A2,n2,c2⟩,HOKX.out⟩],by omega,by go_num,HPN.out,HK'.out,HJ'.out⟩
      case measure=>simp[intOf]<;>omega
    · have HX:=Hq hJx';clear hJx';gi_wp2;refine bodyPost_ret (results_none rfl _ _ _) rfl ?_;exact⟨⟨_,rfl⟩,.inr ⟨pre++[⟨⟨d,A1,n1,c1,A2,n2,c2⟩,HOKX.out⟩],by rw[HN.out];exact HPX.out,HX.out⟩⟩
  · obtain rfl:j=N:=by omega
    have HPR:=Hq (show pre.map (·.val.d)=(l.drop F).take (T - F)from by rw[HN.out];exact HPRE.out);clear hlt hj;gi_wp2;go_end0;exact⟨⟨_,rfl⟩,.inl ⟨pre,HPR.out,HJR.out⟩⟩
theorem zh{K:Act→World→Prop}{Q:Exit→Act→World→Prop}(h:¬ LetsOut Q):¬ LetsOut (Exit.then K Q):=fun⟨a,w,hq⟩=>h ⟨a,w,hq⟩
theorem zl{id:Nat}{Q:Exit→Act→World→Prop}(h:¬ LetsOut Q):¬ LetsOut (Exit.inBlock id Q):=fun⟨a,w,hq⟩=>h ⟨a,w,hq⟩
theorem zq{α:Type}(Kp:World→World→Prop)(I:List α→World→Prop)(Ix:Code→List α→World→Prop)(xs:List α)(W:World):¬ LetsOut (ownPostK Kp I Ix xs W):=fun⟨_,_,h⟩=>h
def zl9:List Oper→Bool:=fun l=>l.all fun o=>match o.op with
 | .defer _=>false
 | _=>true
theorem zqn{P:Program}{r n:Nat}{o:Oper}{a:Act}{w:World}{K K':Act→World→Prop}{Q:Exit→Act→World→Prop}(hd:∀ c,o.op≠.defer c)(hQ:¬ LetsOut Q)(h:o.wp P a w K Q∨(o.asks P a w∧LetsOut Q))(hK:∀ a w,K a w→K' a w):o.wpIn (Fence.wide.inRound r) n P a w K' Q:=by
 rcases h with h | ⟨_,h⟩
 · refine⟨fun _ _=>trivial,?_⟩;rw[Oper.semAt_eq _ _ _ hd];unfold Oper.wp at h
   cases hr:(execOp a.eval o).run P w with
   | ok x w' =>
    rw[hr]at h
    cases x with
    | value v=>exact hK _ _ h
    | skip=>exact hK _ _ h
    | defer d=>exact hK _ _ h
    | enter f args =>
     refine⟨(fun h0=>absurd h0 (by simp[Fence.wide])),CallsIn.inRound r (callsIn_wide.2 (Calls.mono h ?_))⟩;intro e w'' he
     cases e with
     | returned v=>exact hK _ _ he
     | panicked c=>exact he
     | outgrown=>exact he
    | row row args =>
     refine⟨(fun h0=>absurd h0 (by simp[Fence.wide])),fun c cs _=>?_⟩;obtain⟨v,w'',h1,h2⟩:=h c cs;exact⟨v,w'',hK _ _ h1,(stepsIn_wide (P:=P)).2 h2⟩
    | _=>exact h.elim
   | halt x w' =>
    rw[hr]at h
    cases x with
    | panic v=>exact h
    | _=>exact h.elim
 · exact absurd h hQ
theorem zgh{P:Program}{r n:Nat}{ops:Array Oper}{Q:Exit→Act→World→Prop}(hQ:¬ LetsOut Q):∀(l:List Oper),zl9 l=true→∀ a w,wpList P ops Q l a w→wpListIn (Fence.wide.inRound r) n P ops Q l a w
 | [],_,_,_,h=>h
 | o::l,hd,a,w,h=>by
  have hd2:(∀ c,o.op≠.defer c)∧zl9 l=true:=(by unfold zl9 at hd⊢;rw[List.all_cons,Bool.and_eq_true]at hd;refine⟨fun c hc=>?_,hd.2⟩;rw[hc]at hd;simp at hd);unfold wpList at h;unfold wpListIn;split
  · rename_i hw;rw[if_pos hw]at h;exact zqn hd2.1 hQ h (fun a w h=>zgh hQ l hd2.2 a w h)
  · rename_i hw;rw[if_neg hw]at h;exact⟨fun _ _=>trivial,zgh hQ l hd2.2 _ _ h⟩
theorem ke{P:Program}{r n id:Nat}{l:List Oper}{Q:Exit→Act→World→Prop}{a:Act}{w:World}(hQ:¬ LetsOut Q)(hd:zl9 l=true)(h:wpList P l.toArray Q l a w):(Code.region id l.toArray false).wpIn (Fence.wide.inRound r) n P Q a w:=
 wpIn_region_lit (zgh hQ l hd a w h)
theorem zkg{P:Program}{r n id:Nat}{l:List Oper}{K:Act→World→Prop}{a:Act}{w:World}(hd:zl9 l=true)(h:wpList P l.toArray (Exit.then K (fun _ _ _=>False)) l a w):(Code.region id l.toArray false).wpIn (Fence.wide.inRound r) n P (Exit.then K (fun _ _ _=>False)) a w:=
 wpIn_region_lit (zgh (fun⟨_,_,h⟩=>h) l hd a w h)
theorem zeg{F:Fence}{n:Nat}{P:Program}{fn:Func}{R:Ending→World→Prop}{a:Act}{w:World}{v:Value}(hr:(results fn a.tmps).run P w=.ok v w)(hd:a.defers=[])(hR:R (.returned v) w):bodyPostM F n P fn R .ret a w:=by
 show LeavesInM F n P fn a.tmps R a.defers .returning w;rw[hd];exact⟨v,hr,hR⟩
theorem zba{F:Fence}{n:Nat}{P:Program}{fn:Func}{R:Ending→World→Prop}{a:Act}{w:World}{v:Value}{D:Nat}(hk:w.heap[D]? =some (.deferred (some [])))(hd:a.defers=[{ target:=.collected D,args:=#[] }])(hr:(results fn a.tmps).run P (w.putObj D (.deferred none))=.ok v (w.putObj D (.deferred none)))(hR:R (.returned v) (w.putObj D (.deferred none))):bodyPostM F n P fn R .ret a w:=by
 show LeavesInM F n P fn a.tmps R a.defers .returning w;rw[hd];exact⟨by simp,.inl ⟨_,_,rfl,run_takeDeferred hk,v,hr,hR⟩⟩
theorem zfq{F:Fence}{n:Nat}{P:Program}{α:Type}{g:Operand}{ps:Array Tmp}{assign body:Code}{Q:Exit→Act→World→Prop}{a:Act}{w:World}
 (hro:F.round=none) (h1:1≤n) {gf:Nat} {lb:Array Value} (hg:a.eval g=.func (.func gf) #[] lb) (hFg:F.fn gf) (eg:∀ args w,(callFunc gf args).run P w=.ok (.enter gf args) w)
 {encs:α→Array Value} {Kp:World→World→Prop} {S Sp:List α→Prop} {N:Nat} {w0:World} (hseq:SeqStopsK F (n - 1) P gf lb encs Kp S Sp N w0)
 (hKt:∀ {A B C:World},Kp A B→Kp B C→Kp A C) (hKb:∀(W:World) (l:Nat) (o o':Obj),w.heap.size≤l→W.heap[l]? =some o→o.isCells=false→o.isWalk=false→Kp W (W.putObj l o')) (hKa:∀ W W',w.heap.size≤W.heap.size→Below W.heap.size W W'→Kp W W')
 (hb0:Below w0.heap.size w0 w) (hps:∀ x,(encs x).size=ps.size)
 (I:List α→World→Prop) (Ix:Code→List α→World→Prop) (hI:OwnFrom w.heap.size I) (hIx:∀ c,OwnFrom w.heap.size (Ix c)) (h0:I [] w)
 (M:α×Act→World→Prop) (hM:OwnFrom w.heap.size M)
 (hassign:∀(l:Nat) (x:α) (W:World) (K:Act→World→Prop),w.heap.size≤W.heap.size→(∀ a' W',Below W.heap.size W W'→M (x,a') W'→K a' W') →
  assign.wpIn (F.inRound l) (n - 1 - 1) P (Exit.then K (fun _ _ _=>False)) { tmps:=(ps.zip (encs x)).foldl (fun t (p,v)=>t.setIfInBounds p v) a.tmps,defers:=[] } W)
 (hbody:∀(l:Nat) (pre:List α) (x:α) (a':Act) (W:World),I pre W→M (x,a') W→pre.length<N→body.wpIn (F.inRound l) (n - 1 - 1) P (ownPostK Kp I Ix (pre++[x]) W) a' W)
 (hdone:∀(D:Nat) (xs:List α) (W:World),w.heap.size≤D→S xs→I xs W→W.heap[D]? =some (.deferred (some []))→Q .normal { a with defers:={ target:=.collected D,args:=#[] }::a.defers } W)
 (hstop:∀(D:Nat) (c:Code) (pre:List α) (W:World),w.heap.size≤D→Sp pre→Ix c pre W→W.heap[D]? =some (.deferred (some []))→c.wpIn F n P Q { a with defers:={ target:=.collected D,args:=#[] }::a.defers } W) :
 (Code.rangeFunc g ps assign body).wpIn F n P Q a w:=by
 refine wpIn_rangeFunc fun fn hfn=>?_;rw[hro];obtain⟨R,hR⟩:∃ R:LoopState→Option Code→Loop,R=fun st pe => { state:=st,pending:=pe,fn,tmps:=a.tmps,params:=ps,assign,body,defers:=w.heap.size }:=⟨_,rfl⟩;obtain⟨V,hV⟩:∃ V,(w.alloc (.deferred (some []))).alloc (.loop (R .ready none))=V:=⟨_,rfl⟩;obtain⟨L,hL⟩:∃ L,L=w.heap.size+1:=⟨_,rfl⟩;have rowL:V.heap[L]? =some (.loop (R .ready none)):=by
  have:=World.alloc_heap_new (w.alloc (.deferred (some []))) (.loop (R .ready none));rw[World.size_alloc]at this;rw[←hV,hL];exact this
 have rowD:V.heap[w.heap.size]? =some (.deferred (some [])):=(by rw[←hV];exact(Below.heap_alloc _ _ _ (by simp)).trans (World.alloc_heap_new w _));have iV:I [] V:=by rw[←hV];exact hI.alloc _ (hI.alloc _ h0)
 have bV:Below w0.heap.size w0 V:=(by rw[←hV];exact hb0.trans ((((Below.refl _ w).alloc nlr _).alloc (by simp) _).mono hb0.size));have sV:w.heap.size≤V.heap.size:=by rw[←hV];simp;omega
 refine⟨L,[{ target:=.collected w.heap.size,args:=#[] }],V,{ target:=.fn (.func gf) lb,args:=#[.func (.yield L) #[] #[]] },V,gf,#[.func (.yield L) #[] #[]]++lb,V,?_,?_,?_,?_,fun _=>h1,?_⟩
 · rw[←hV,hR,hL];exact run_enterLoop_outer _ _ _ _ _
 · simp only[resolve,hg];simp[go_sem]
 · intro f' hf';simp[Target.leads]at hf';subst hf';exact hFg
 · simp[invoke,go_sem,eg]
 · have rows:∀ {A:World} {row:Option Nat},(∀ r,row=some r→V.heap.size≤r∧∃ o:Obj,A.heap[r]? =some o∧o.isWalk=true)→(∀ r,row=some r→w.heap.size≤r∧∃ o:Obj,A.heap[r]? =some o∧o.isCells=false):=
    fun hr r e=>by obtain⟨hB,o,ho,hw⟩:=hr r e;exact⟨Nat.le_trans sV hB,o,ho,Obj.not_cells_of_walk hw⟩
   refine(hseq L (fun pre W=>I pre W∧W.heap[L]? =some (.loop (R .ready none))∧W.heap[w.heap.size]? =some (.deferred (some [])))
    (fun pre W=>∃ c,Ix c pre W∧W.heap[L]? =some (.loop (R .done (some c)))∧W.heap[w.heap.size]? =some (.deferred (some []))) V bV
    (fun s A B row hs hg' hr=>⟨hI s A B row hs.1 hg' (rows hr),(grownBy_keeps hg' (fun r e=>(hr r e).2) hs.2.1 rfl).trans hs.2.1,(grownBy_keeps hg' (fun r e=>(hr r e).2) hs.2.2 rfl).trans hs.2.2⟩)
    (fun s A B row ⟨c,hc,hl,hk⟩ hg' hr=>⟨c,hIx c s A B row hc hg' (rows hr),(grownBy_keeps hg' (fun r e=>(hr r e).2) hl rfl).trans hl,(grownBy_keeps hg' (fun r e=>(hr r e).2) hk rfl).trans hk⟩)
    ?_ ⟨iV,rowL,rowD⟩).mono ?_
   · rintro pre x W ⟨hi,hl,hk⟩ hlen;have hlt:L<W.heap.size:=(Array.getElem?_eq_some_iff.1 hl).1;have hy:=run_yield (P:=P) (args:=encs x) hl (by rw[hR];exact hps x);rw[hR]at hy;refine⟨fn,_,assign,body,hy,roundIn_of_wpIn hfn (hassign _ x W _ (by omega) ?_)⟩;intro a' W1 hb1 hm1;have hi1:I pre W1:=hI pre W W1 none hi (zbg hb1) (fun r e=>by cases e);have hl1:W1.heap[L]? =some (.loop (R .ready none)):=(hb1.block L hlt).trans hl;have hk1:W1.heap[w.heap.size]? =some (.deferred (some [])):=(hb1.block _ (by omega)).trans hk;have hlt1:L<W1.heap.size:=Nat.lt_of_lt_of_le hlt hb1.size;refine⟨_,run_beginRound hl1 (by rw[hR]),?_⟩;have hl2:(W1.putObj L (.loop { R .ready none with state:=.busy })).heap[L]? =some (.loop { R .ready none with state:=.busy }):=World.putObj_heap_same hlt1;have hk2:(W1.putObj L (.loop { R .ready none with state:=.busy })).heap[w.heap.size]? =some (.deferred (some [])):=(World.putObj_heap_other (by omega)).trans hk1;have hw2:Kp W (W1.putObj L (.loop { R .ready none with state:=.busy })):=hKt (hKa W W1 (by omega) hb1) (hKb _ _ _ _ (by omega) hl1 rfl rfl);refine wpIn_mono (hbody _ pre x a' _ (hI.putObj _ hi1 (by omega) hl1 rfl) (hM.putObj _ hm1 (by omega) hl1 rfl) hlen) ?_;have fin:∀(jump:Option Code) (W3:World),KeepsOthers (W1.putObj L (.loop { R .ready none with state:=.busy })) W3 →
      (Instr.endRound L jump).run P W3=.ok (.bool jump.isNone) (W3.putObj L (.loop (R (if jump.isNone then .ready else .done) jump))) ∧
      W3.heap[L]? =some (.loop { R .ready none with state:=.busy }) ∧
      (W3.putObj L (.loop (R (if jump.isNone then .ready else .done) jump))).heap[L]? =some (.loop (R (if jump.isNone then .ready else .done) jump)) ∧
      (W3.putObj L (.loop (R (if jump.isNone then .ready else .done) jump))).heap[w.heap.size]? =some (.deferred (some [])):=fun jump W3 hk3=>by
      have hl3:=hk3.same _ _ hl2 rfl;have:=run_endRound (P:=P) jump hl3;rw[hR]at this⊢;exact⟨this,by rw[hR]at hl3;exact hl3,World.putObj_heap_same (Array.getElem?_eq_some_iff.1 hl3).1,(World.putObj_heap_other (by omega)).trans (hk3.same _ _ hk2 rfl)⟩
     rintro e a3 W3 hp
     cases e with
     | normal =>
      obtain⟨hk3,hkp3,hi3⟩:=hp;obtain⟨hr,hl3,hl4,hk4⟩:=fin none W3 hk3;exact⟨_,_,hr,.inl ⟨rfl,⟨hI.putObj _ hi3 (by omega) hl3 rfl,hl4,hk4⟩,hKt (hKt hw2 hkp3) (hKb _ _ _ _ (by omega) hl3 rfl rfl)⟩⟩
     | ret =>
      obtain⟨hk3,hi3⟩:=hp;obtain⟨hr,hl3,hl4,hk4⟩:=fin (some .ret) W3 hk3;exact⟨_,_,hr,.inr ⟨rfl,.ret,(hIx _).putObj _ hi3 (by omega) hl3 rfl,hl4,hk4⟩⟩
     | exit id =>
      obtain⟨hk3,hi3⟩:=hp;obtain⟨hr,hl3,hl4,hk4⟩:=fin (some (.exit id)) W3 hk3;exact⟨_,_,hr,.inr ⟨rfl,.exit id,(hIx _).putObj _ hi3 (by omega) hl3 rfl,hl4,hk4⟩⟩
     | goto t =>
      obtain⟨hk3,hi3⟩:=hp;obtain⟨hr,hl3,hl4,hk4⟩:=fin (some (.goto t)) W3 hk3;exact⟨_,_,hr,.inr ⟨rfl,.goto t,(hIx _).putObj _ hi3 (by omega) hl3 rfl,hl4,hk4⟩⟩
     | panic ch=>exact hp.elim
     | outgrown=>exact hp.elim
   · rintro e W2 ⟨⟨v,rfl⟩,(⟨xs,hS,hi,hl,hk⟩ | ⟨pre,hSp,c,hi,hl,hk⟩)⟩
     · exact⟨none,_,by have:=run_endLoop (P:=P) hl (by rw[hR];simp);rw[hR]at this;exact this,hdone _ xs _ nlr hS (hI.putObj _ hi (by omega) hl rfl) ((World.putObj_heap_other (by omega)).trans hk)⟩
     · exact⟨some c,_,by have:=run_endLoop (P:=P) hl (by rw[hR];simp);rw[hR]at this;exact this,hstop _ c pre _ nlr hSp ((hIx c).putObj _ hi (by omega) hl rfl) ((World.putObj_heap_other (by omega)).trans hk)⟩
theorem qf{β:Type}(B:Nat)(cs:Array Value)(T:TypeId):Own (fun(_:β) W=>BxC W B cs T):=fun s X Y row hs hg hrow=>by
 refine(hg.block B hs.lt (fun e=>?_)).trans hs;obtain⟨o,ho,hc⟩:=hrow B e.symm;rw[show X.heap[B]? =_ from hs]at ho;cases ho;cases hc
theorem zfp{β:Type}(A:Option Addr)(n c:Nat)(l:List ByteArray):Own (fun(_:β) W=>SlN W A n c l):=fun s X Y row hs hg hrow=>by
 obtain⟨h1,h2,h3,b,o,h4,h5⟩:=hs;refine⟨h1,h2,h3,b,o,h4,fun k s hk=>?_⟩;have h6:=h5 k s hk;unfold World.cell? at h6⊢;simp only at h6⊢
 cases hb:X.heap[b]? with
 | none=>rw[hb]at h6;simp at h6
 | some ob =>
  rw[hg.block b (Array.getElem?_eq_some_iff.1 hb).1 (fun e=>by
   obtain⟨o',ho,hc⟩:=hrow b e.symm;rw[hb]at ho h6;cases ho
   cases ob<;>simp_all [Obj.isCells]),hb]
  rw[hb]at h6;exact h6
theorem zp{W:World}{D B k:Nat}{cs:Array Value}{T:TypeId}(o:Obj)(h:BxC W B cs T)(hne:B≠D):(W.putObj D o).cell? ⟨B,k,none⟩=cs[k]?:=by
 rw[Lib.cell_of_heap ((World.putObj_heap_other hne).trans h)]
def Bnd(P Q:Nat)(W W':World):Prop:=W.heap.size≤W'.heap.size∧∀ k,k<W.heap.size→(k<P∨Q≤k)→W'.heap[k]? =W.heap[k]?
theorem Bnd.refl(P Q:Nat)(W:World):Bnd P Q W W:=⟨Nat.le_refl _,fun _ _ _=>rfl⟩
theorem Bnd.trans{P Q:Nat}{A B C:World}(h:Bnd P Q A B)(k:Bnd P Q B C):Bnd P Q A C:=⟨Nat.le_trans h.1 k.1,fun i hi hs=>(k.2 i (Nat.lt_of_lt_of_le hi h.1) hs).trans (h.2 i hi hs)⟩
theorem Bnd.below{P Q:Nat}{W W':World}(h:Below W.heap.size W W'):Bnd P Q W W':=⟨h.size,fun k hk _=>h.block k hk⟩
theorem Bnd.row{P Q:Nat}{W W':World}(h:Bnd P Q W W'){g:Nat}(hg:(P≤g∧g<Q)∨W.heap.size≤g)(cs:Array Value):Bnd P Q W (W'.setRow g cs):=
 ⟨by rw[show (W'.setRow g cs).heap.size=W'.heap.size from by simp[World.setRow]];exact h.1,fun k hk hs=>(setRow_other _ _ _ _ (by omega)).trans (h.2 k hk hs)⟩
theorem Bnd.set{P Q:Nat}{W W':World}(h:Bnd P Q W W'){a:Addr}(hg:(P≤a.block∧a.block<Q)∨W.heap.size≤a.block)(v:Value):Bnd P Q W (W'.setCell a v):=
 ⟨by rw[show (W'.setCell a v).heap.size=W'.heap.size from by simp[World.setCell]];exact h.1,fun k hk hs=>(heap_setCell_other _ _ _ _ (by omega)).trans (h.2 k hk hs)⟩
theorem Bnd.others{P Q:Nat}{W W':World}(h:Bnd P Q W W')(hc:∀ k,P≤k→k<Q→∃ cs T fr,W.heap[k]? =some (.cells cs T fr)):KeepsOthers W W':=
 ⟨h.1,fun k o hk ho=>by
  rcases Nat.lt_or_ge k P with h1 | h1
  · exact(h.2 k (zw hk) (.inl h1)).trans hk
  · rcases Nat.lt_or_ge k Q with h2 | h2
    · obtain⟨cs,T,fr,h3⟩:=hc k h1 h2;rw[hk]at h3;cases h3;cases ho
    · exact(h.2 k (zw hk) (.inr h2)).trans hk⟩
theorem Bnd.kp{P Q:Nat}{W W':World}(h:Bnd P Q W W')(hP:P≤W.heap.size):KpB P W W':=⟨h.1,fun k hk=>h.2 k (Nat.lt_of_lt_of_le hk hP) (.inl hk)⟩
set_option maxRecDepth 100000
set_option maxHeartbeats 4000000
attribute [local go_sem] Oper.semAt_some
def SlR(w:World)(A:Option Addr)(len cap:Nat)(L:List (List ByteArray)):Prop:=
 L.length=len∧len≤cap∧cap≤9223372036854775807∧∀ k l,L[k]? =some l→∃ b o,A=some ⟨b,o,none⟩∧∃ A' n' c',w.cell? ⟨b,o+k,none⟩=some (.slice A' n' c')∧SlN w A' n' c' l
theorem SlR.kept{B:Nat}{w w':World}{A:Option Addr}{len cap:Nat}{L:List (List ByteArray)}(h:SlR w A len cap L)(hb:Below B w w')(hB:w.heap.size≤B):SlR w' A len cap L:=
 ⟨h.1,h.2.1,h.2.2.1,fun k l hk =>
  let ⟨b,o,e,A',n',c',hc,hs⟩:=h.2.2.2 k l hk
  ⟨b,o,e,A',n',c',cell_kept hb hB hc,hs.kept hb hB⟩⟩
abbrev SzH:={ s:ByteArray // s.size≤9223372036854775807 }
theorem zmq{α:Type}:∀ {L:List (List α)} {j:Nat} {l:List α},L[j]? =some l→L.flatten=(L.take j).flatten++(l++(L.drop (j+1)).flatten)
 | [],_,_,h=>by cases h
 | x::L,0,l,h=>by
  cases h;simp
 | x::L,j+1,l,h=>by
  have ih:=zmq (L:=L) (j:=j) (l:=l) (by simpa using h);rw[List.flatten_cons,ih];simp
theorem zmp{α:Type}{L:List (List α)}{j:Nat}{l:List α}(h:L[j]? =some l):(L.take (j+1)).flatten=(L.take j).flatten++l:=by
 rw[List.take_add_one,h];simp
theorem zew(A:Option Addr)(n c:Nat)(w:World):Calls Tryz.prog 100 #[.slice A n c] w fun e w'=>e=.returned (.func (.func 158) #[] #[.pointer (some ⟨w.heap.size,0,none⟩)])∧w'=w.alloc (.cells #[.slice A n c] 106):=by
 go_enter Tryz.func100,Tryz.ntmps100;go_wp2;go_ret;exact⟨rfl,rfl⟩
theorem zcf(k:Nat)(hk:1≤k)(w0:World)(L:List (List ByteArray))(A:Option Addr)(n c:Nat)(hs:SlR w0 A n c L)(hz:∀ l∈L,SzL l)(w:World)(hw:Below w0.heap.size w0 w)(B1:Nat)(h1:BxC w B1 #[.slice A n c] 106) :
 SeqStopsK Fence.wide k Tryz.prog 158 #[.pointer (some ⟨B1,0,none⟩)] (fun x:SzH=>#[Value.string x.val]) (KpB w0.heap.size) (fun xs=>xs.map (·.val)=L.flatten) (fun pre=>pre.map (·.val) <+: L.flatten) L.flatten.length w:=fun lp J Jx W hW hJ hJx hY h0=>by
 have HS:=Hq hs;have HLEN:=Hq hs.1;have hcap:=hs.2.1;have hcap2:=hs.2.2.1;have HZ:=Hq hz;have HW0:=Hq (show KpB w0.heap.size w0 W from(KpB.of_below hw).trans (KpB.of_below (hW.mono hw.size)));have x1:W.cell? ⟨B1,0,none⟩=some (.slice A n c):=(h1.next hW).cell 0;have HY:=Hq hY;have HJ:=Hq hJ;have HJ0:=Hq h0;clear hY hJ hJx h0 hW hw h1 hs hz;refine callsIn_of_wp Tryz.func158 rfl trivial ?_ rfl;simp only[Tryz.ntmps158,List.size_toArray,List.length_cons,List.length_nil,Nat.reduceAdd,Nat.reduceSub,Array.replicate_succ,Array.replicate_zero,List.push_toArray,List.append_toArray,List.nil_append,List.cons_append];gi_wp2;clear x1;gi_loopw [9] (fun i wr=>∃(j:Nat) (pre:List SzH),j≤n∧i=.int .i64 j∧pre.map (·.val)=(L.take j).flatten∧KpB w0.heap.size w0 wr∧J pre wr) (fun i _=>n - (intOf i).toNat);case atStart=>exact⟨0,[],by omega,rfl,rfl,HW0.out,HJ0.out⟩
 case round =>
  obtain⟨j,pre,hj,rfl,hpre,hkp,hJr⟩:=hrel;have HPRE:=Hq hpre;have HKP:=Hq hkp;have HJR:=Hq hJr;clear hpre hkp hJr;by_cases hlt:j<n
  · obtain⟨l,he⟩:∃ l,L[j]? =some l:=⟨_,List.getElem?_eq_getElem (by rw[HLEN.out];exact hlt)⟩;obtain⟨b,o,rfl,A2,n2,c2,hc,hsl⟩:=HS.out.2.2.2 j l he;have x0:wr.cell? ⟨b,o+j,none⟩=some (.slice A2 n2 c2):=HKP.out.cell hc;have HSL:=Hq hsl;have HLL:=Hq hsl.1;have hca:=hsl.2.1;have hcb:=hsl.2.2.1;have HSZ:=Hq (HZ.out l (List.mem_of_getElem? he));have HE:=Hq he;clear he hc hsl;obtain⟨V,hV⟩:∃ V,V=wr:=⟨_,rfl⟩;subst hV;gi_wp2;clear x0;gi_loopw [15] (fun i wr=>∃(q:Nat) (pre:List SzH),q≤n2∧i=.int .i64 q∧pre.map (·.val)=(L.take j).flatten++l.take q∧KpB w0.heap.size w0 wr∧J pre wr) (fun i _=>n2 - (intOf i).toNat);case atStart=>exact⟨0,pre,Nat.zero_le _,rfl,by rw[HPRE.out];simp,HKP.out,HJR.out⟩
    case round =>
     clear HPRE HKP HJR pre;obtain⟨q,pre,hq,rfl,hpre,hkp,hJr⟩:=hrel;have HPRE:=Hq hpre;have HKP:=Hq hkp;have HJR:=Hq hJr;clear hpre hkp hJr;by_cases hlt2:q<n2
     · obtain⟨s,he⟩:∃ s,l[q]? =some s:=⟨_,List.getElem?_eq_getElem (by rw[HLL.out];exact hlt2)⟩;obtain⟨b2,o2,rfl,e1⟩:=HSL.out.cell he;have x0:=HKP.out.cell e1;have HSS:=Hq (HSZ.out s (List.mem_of_getElem? he));have HPN:=Hq (show (pre++[(⟨s,HSS.out⟩:SzH)]).map (·.val)=(L.take j).flatten++l.take (q+1)from by rw[List.map_append,HPRE.out,List.take_add_one,he,List.append_assoc];rfl);have HPX:=Hq (show (pre++[(⟨s,HSS.out⟩:SzH)]).map (·.val) <+: L.flatten from by
        rw[HPN.out,zmq HE.out]
        exact(List.prefix_append_right_inj _).2 ((List.take_prefix _ _).trans (List.prefix_append _ _)))
       have HPL:=Hq (show pre.length<L.flatten.length from by
        have:=HPX.out.length_le;rw[List.length_map,List.length_append,List.length_singleton]at this
        omega)
       clear he e1;obtain⟨fn,tmps,assign,body,hy,hR⟩:=HY.out pre ⟨s,HSS.out⟩ wr HJR.out HPL.out;have HR:=Hq hR;clear hR;gi_wp2;refine HR.out.mono ?_;rintro ev W' (⟨rfl,hJ',hk'⟩ | ⟨rfl,hJx'⟩)
       · have HJ':=Hq hJ';have HK':=Hq (HKP.out.trans hk');clear hJ' hk';gi_wp2;go_roundw;case rel=>exact⟨q+1,pre++[⟨s,HSS.out⟩],by omega,by go_num,HPN.out,HK'.out,HJ'.out⟩
         case measure=>simp[intOf]<;>omega
       · have HX:=Hq hJx';clear hJx';gi_wp2;refine bodyPost_ret (results_none rfl _ _ _) rfl ?_;exact⟨⟨_,rfl⟩,.inr ⟨pre++[⟨s,HSS.out⟩],HPX.out,HX.out⟩⟩
     · obtain rfl:q=n2:=by omega
       have HPR:=Hq (show pre.map (·.val)=(L.take (j+1)).flatten from by rw[zmp HE.out,HPRE.out,←HLL.out,List.take_length]);clear hlt2 hq;gi_wp2;go_roundw;case rel=>exact⟨j+1,pre,by omega,by go_num,HPR.out,HKP.out,HJR.out⟩
       case measure=>simp[intOf]<;>omega
  · obtain rfl:j=n:=by omega
    have HPR:=Hq (show pre.map (·.val)=L.flatten from by
     have:=HPRE.out;rw[←HLEN.out,List.take_length]at this
     exact this)
    clear hlt hj;gi_wp2;go_end0;exact⟨⟨_,rfl⟩,.inl ⟨pre,HPR.out,HJR.out⟩⟩
end Go.Proofs.YtkfgdcgmlobhfaaGreat

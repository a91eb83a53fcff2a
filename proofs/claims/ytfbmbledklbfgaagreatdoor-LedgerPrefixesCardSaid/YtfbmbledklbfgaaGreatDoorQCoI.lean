import Derived.Test.YtfbmbledklbfgaaGreatDoorQCoF
set_option linter.unusedVariables false
set_option linter.unusedSimpArgs false
namespace Go.Proofs.YtfbmbledklbfgaaGreatDoor
open Go.RowKit Go.Shelf
theorem letsOut_then{K:Act→World→Prop}{Q:Exit→Act→World→Prop}(h:¬ LetsOut Q):¬ LetsOut (Exit.then K Q):=fun⟨a,w,hq⟩=>h ⟨a,w,hq⟩
theorem letsOut_block{id:Nat}{Q:Exit→Act→World→Prop}(h:¬ LetsOut Q):¬ LetsOut (Exit.inBlock id Q):=fun⟨a,w,hq⟩=>h ⟨a,w,hq⟩
theorem letsOut_own{α:Type}(Kp:World→World→Prop)(I:List α→World→Prop)(Ix:Code→List α→World→Prop)(xs:List α)(W:World):¬ LetsOut (ownPostK Kp I Ix xs W):=fun⟨_,_,h⟩=>h
def nodef:List Oper→Bool:=fun l=>l.all fun o=>match o.op with
 | .defer _=>false
 | _=>true
theorem oper_in{P:Program}{r n:Nat}{o:Oper}{a:Act}{w:World}{K K':Act→World→Prop}{Q:Exit→Act→World→Prop}(hd:∀ c,o.op≠.defer c)(hQ:¬ LetsOut Q)(h:o.wp P a w K Q∨(o.asks P a w∧LetsOut Q))(hK:∀ a w,K a w→K' a w):o.wpIn (Fence.wide.inRound r) n P a w K' Q:=by
 rcases h with h | ⟨_,h⟩
 · refine⟨fun _ _=>trivial,?_⟩;rw[Oper.semAt_eq _ _ _ hd];unfold Oper.wp at h
   cases hr:(execOp a.eval o).run P w with
   | ok x w' =>
    rw[hr]at h
    cases x with
    | value v=>exact hK _ _ h
    | skip=>exact hK _ _ h
    | defer d=>exact hK _ _ h
    | enter f args =>
     refine⟨(fun h0=>absurd h0 (by simp[Fence.wide])),CallsIn.inRound r (callsIn_wide.2 (Calls.mono h ?_))⟩;intro e w'' he
     cases e with
     | returned v=>exact hK _ _ he
     | panicked c=>exact he
     | outgrown=>exact he
    | row row args =>
     refine⟨(fun h0=>absurd h0 (by simp[Fence.wide])),fun c cs _=>?_⟩;obtain⟨v,w'',h1,h2⟩:=h c cs;exact⟨v,w'',hK _ _ h1,(stepsIn_wide (P:=P)).2 h2⟩
    | _=>exact h.elim
   | halt x w' =>
    rw[hr]at h
    cases x with
    | panic v=>exact h
    | _=>exact h.elim
 · exact absurd h hQ
theorem list_in{P:Program}{r n:Nat}{ops:Array Oper}{Q:Exit→Act→World→Prop}(hQ:¬ LetsOut Q):∀(l:List Oper),nodef l=true→∀ a w,wpList P ops Q l a w→wpListIn (Fence.wide.inRound r) n P ops Q l a w
 | [],_,_,_,h=>h
 | o::l,hd,a,w,h=>by
  have hd2:(∀ c,o.op≠.defer c)∧nodef l=true:=(by unfold nodef at hd⊢;rw[List.all_cons,Bool.and_eq_true]at hd;refine⟨fun c hc=>?_,hd.2⟩;rw[hc]at hd;simp at hd);unfold wpList at h;unfold wpListIn;split
  · rename_i hw;rw[if_pos hw]at h;exact oper_in hd2.1 hQ h (fun a w h=>list_in hQ l hd2.2 a w h)
  · rename_i hw;rw[if_neg hw]at h;exact⟨fun _ _=>trivial,list_in hQ l hd2.2 _ _ h⟩
theorem region_in{P:Program}{r n id:Nat}{l:List Oper}{Q:Exit→Act→World→Prop}{a:Act}{w:World}(hQ:¬ LetsOut Q)(hd:nodef l=true)(h:wpList P l.toArray Q l a w):(Code.region id l.toArray false).wpIn (Fence.wide.inRound r) n P Q a w:=
 wpIn_region_lit (list_in hQ l hd a w h)
theorem bodyM_mark{F:Fence}{n:Nat}{P:Program}{fn:Func}{R:Ending→World→Prop}{a:Act}{w:World}{v:Value}{D:Nat}(hk:w.heap[D]? =some (.deferred (some [])))(hd:a.defers=[{ target:=.collected D,args:=#[] }])(hr:(results fn a.tmps).run P (w.putObj D (.deferred none))=.ok v (w.putObj D (.deferred none)))(hR:R (.returned v) (w.putObj D (.deferred none))):bodyPostM F n P fn R .ret a w:=by
 show LeavesInM F n P fn a.tmps R a.defers .returning w;rw[hd];exact⟨by simp,.inl ⟨_,_,rfl,run_takeDeferred hk,v,hr,hR⟩⟩
set_option maxRecDepth 100000
set_option maxHeartbeats 4000000
open Go.RowKit Go.Shelf Go.Lib
attribute [local go_sem] Oper.semAt_some
theorem macL_length(k l:List UInt8):(macL k l).length=32:=by unfold macL;exact shaL_length _
theorem append_mac(l:List UInt8)(hl:l.length=32)(B:Nat)(ty:TypeId)(W:World)(hB:B≤W.heap.size) :
 ∃ A c w',(Builtin.append_ #[108,9] ty #[.slice none 0 0,.string (bstr l)]).run Tryz.prog W=.ok (.slice A 32 c) w'∧w'.ownsRow B 5 1 (.slice A 32 c) 32 (Lib.byteCells l)∧W.grownBy w' none:=by
 obtain⟨i0,hi,hz0,hz1,hz2⟩:=info_parts byte_info;obtain⟨v',w',h1,h2,h3,_⟩:=run_append_own_string (P:=Tryz.prog) (w:=W) B 108 9 ty 5 i0 Tryz.underlying108 Tryz.underlying9 hi hz0 hz1 hz2 (.slice none 0 0) 0 [] (World.ownsRow_nil _ _ _ _) (bstr l) (by rw[bstr_size,hl];unfold maxLen;omega) (by rw[bstr_size,hl];omega) hB;rw[bstr_size,hl]at h2;have e:strCells (bstr l)=Lib.byteCells l:=by unfold strCells Lib.byteCells;rw[bstr_data]
 rw[e]at h2;simp only[List.nil_append,Nat.zero_add]at h2;obtain⟨A,c,rfl,_⟩:=own_bytes h2 hl;exact⟨A,c,w',h1,h2,h3⟩
def BX4(W w:World)(A:Option Addr)(n cap:Nat)(s:ByteArray)(k:Int)(z:Nat):Prop:=
 TB W w.heap.size A n cap s k∧W.heap[w.heap.size+1]? =some (.cells #[.int .i64 z] 3 (0,0))∧W.heap[w.heap.size+1+1]? =some (.cells #[.slice none 0 0] 108 (0,0))∧Below w.heap.size w W
theorem BX4.next4{W W' w:World}{A:Option Addr}{n cap:Nat}{s:ByteArray}{k:Int}{z:Nat}(h:BX4 W w A n cap s k z)(hb:Below W.heap.size W W'):BX4 W' w A n cap s k z:=
 ⟨h.1.nextT hb,(hb.block _ (block_lt h.2.1)).trans h.2.1,(hb.block _ (block_lt h.2.2.1)).trans h.2.2.1,h.2.2.2.trans (hb.mono h.2.2.2.size)⟩
theorem BX4.mk4(w:World)(A:Option Addr)(n cap:Nat)(s:ByteArray)(k:Int)(z:Nat) :
 BX4 (((w.alloc (.cells #[.slice A n cap,.string s,.int .i64 k] 30)).alloc (.cells #[.int .i64 z] 3)).alloc (.cells #[.slice none 0 0] 108)) w A n cap s k z:=by
 have al:∀(W:World) (o:Obj),Below W.heap.size W (W.alloc o):=fun W o=>(blr).alloc nlr _;obtain⟨w1,h1⟩:∃ W,w.alloc (.cells #[.slice A n cap,.string s,.int .i64 k] 30)=W:=⟨_,rfl⟩;have x1:TB w1 w.heap.size A n cap s k:=h1▸TB.new _ _ _ _ _ _;have s1:w1.heap.size=w.heap.size+1:=by rw[←h1];simp
 have b1:Below w.heap.size w w1:=h1▸al _ _;rw[h1];obtain⟨w2,h2⟩:∃ W,w1.alloc (.cells #[.int .i64 z] 3)=W:=⟨_,rfl⟩;have x2:w2.heap[w1.heap.size]? =some (.cells #[.int .i64 z] 3 (0,0)):=h2▸heap_alloc_new _ _;have s2:w2.heap.size=w.heap.size+1+1:=by rw[←h2];simp[s1]
 have b2:Below w1.heap.size w1 w2:=h2▸al _ _;rw[h2];obtain⟨w3,h3⟩:∃ W,w2.alloc (.cells #[.slice none 0 0] 108)=W:=⟨_,rfl⟩;have x3:w3.heap[w2.heap.size]? =some (.cells #[.slice none 0 0] 108 (0,0)):=h3▸heap_alloc_new _ _;have b3:Below w2.heap.size w2 w3:=h3▸al _ _;rw[h3];rw[s1]at x2;rw[s2]at x3;exact⟨(x1.nextT b2).nextT b3,(b3.block _ (by omega)).trans x2,x3,(b1.trans (b2.mono (by omega))).trans (b3.mono (by omega))⟩
theorem keeps_below{W W':World}(h:Below W.heap.size W W'):KeepsOthers W W':=⟨h.size,fun k o hk _=>(h.block k (block_lt hk)).trans hk⟩
theorem wpList_append_ran{P:Program}(w:World){ops:Array Oper}{rest:List Oper}{o:Oper}{a:Act}{Q:Exit→Act→World→Prop}(hgd:o.guard=none)(d s:Operand)(t t':TypeId)
 (ho:o.op=.call { callee:=.builtin .append,args:=#[d,s],argTypes:=#[t,t'] }) (v u:Value) (hd:a.eval d=v) (hs:a.eval s=u) {v':Value} {w':World}
 (hr:(Builtin.append_ #[t,t'] o.type #[v,u]).run P w=.ok v' w') (h:wpList P ops Q rest (a.put o.dst v') w'):wpList P ops Q (o::rest) a w:=by
 refine wpList_plain hgd fun K hK=>?_;unfold Oper.wp;simp[execOp,ho,resolve,invoke,builtin,hd,hs,hr,Result.andThen];exact hK _ _ h
theorem BytesAt.row{W:World}{g:Nat}{cur:Array Value}{ml:List UInt8}(h:W.heap[g]? =some (.cells cur 5 (0,0)))(ht:cur.toList.take 32=Lib.byteCells ml)(hl:ml.length=32)(z cp:Nat)(hz:z≤32)(hzc:z≤cp)(hcp:cp≤9223372036854775807):BytesAt W (some ⟨g,0,none⟩) z cp (ml.take z):=by
 refine⟨by simp[hl];omega,hzc,hcp,fun _=>⟨g,0,rfl,fun j hj=>?_⟩⟩;rw[Nat.zero_add,Lib.cell_of_heap h];have h1:cur.toList[j]? =(Lib.byteCells ml)[j]?:=by rw[←ht,List.getElem?_take,if_pos (by omega)]
 rw[Array.getElem?_toList]at h1;rw[h1];have h2:j<ml.length:=by omega
 simp[Lib.byteCells,byteI,h2,hj]
theorem and_mask:∀ sh,sh<8→∀ x,x<256→bits .and .u8 ((x:Nat):Int) ((255:Int) / 2 ^ min sh 8)=((x%2 ^ (8 - sh):Nat):Int):=by decide +kernel
theorem BytesAt.first{W:World}{g z cp:Nat}{l:List UInt8}(h:BytesAt W (some ⟨g,0,none⟩) z cp l){x:Nat}(hz:0<z)(hx:x≤255):BytesAt (W.setCell ⟨g,0,none⟩ (.int .u8 x)) (some ⟨g,0,none⟩) z cp (UInt8.ofNat x::l.drop 1):=by
 obtain⟨h1,h2,h3,h4⟩:=h;obtain⟨b,o,e,h5⟩:=h4 hz;cases e;refine⟨by simp;omega,h2,h3,fun _=>⟨g,0,rfl,fun j hj=>?_⟩⟩;rcases Nat.eq_zero_or_pos j with h0 | h0
 · subst h0;have hc:=h5 0 hz;rw[Nat.zero_add]at hc⊢;have hs:(W.setCell ⟨g,0,none⟩ (.int .u8 x)).cell? ⟨g,0,none⟩=some (.int .u8 x):=by
    apply World.cell?_setCell_same;exact hc
   rw[hs];have : (UInt8.ofNat x).toNat=x:=by simp[UInt8.toNat_ofNat'];omega
   simp[byteI,this]
 · have hs:(W.setCell ⟨g,0,none⟩ (.int .u8 x)).cell? ⟨g,0+j,none⟩=W.cell? ⟨g,0+j,none⟩:=by
    apply World.cell?_setCell_other;intro e;injection e with _ e2
    omega
   rw[hs,h5 j hj];obtain⟨i,rfl⟩:∃ i,j=i+1:=⟨j - 1,by omega⟩;simp[byteI,List.getD_eq_getElem?_getD,Nat.add_comm]
theorem attempt_val{ml:List UInt8}(hl:ml.length=32){b z:Nat}(hz:(b+7) / 8=z)(hb0:0<b)(hb:b≤256){x sh y:Nat}(hx:(ml.getD 0 0).toNat=x)(hsh:8 * z - b=sh)(hy:x%2 ^ (8 - sh)=y) :
 bnat (UInt8.ofNat y::(ml.take z).drop 1)=bnat (ml.take ((b+7) / 8))%2 ^ b:=by
 rw[hz]
 cases ml with
 | nil=>cases hl
 | cons a r =>
  obtain⟨q,rfl⟩:∃ q,z=q+1:=⟨z - 1,by omega⟩;simp only[List.getD_cons_zero]at hx;rw[List.take_succ_cons,List.drop_succ_cons,List.drop_zero,bnat_cons,bnat_cons];have hlen:(r.take q).length=q:=by simp at hl⊢;omega
  rw[hlen];have hlt:=bnat_lt (r.take q);rw[hlen]at hlt;have hx255:x<256:=by rw[←hx];exact a.toNat_lt
  have hy255:y<256:=by rw[←hy];exact Nat.lt_of_le_of_lt (Nat.mod_le _ _) hx255
  have e1:(UInt8.ofNat y).toNat=y:=by simp[UInt8.toNat_ofNat'];omega
  rw[e1,hx];have hb2:b=8 * q+(8 - sh):=by omega
  have e2:(256:Nat) ^ q=2 ^ (8 * q):=by rw[show (256:Nat)=2 ^ 8 from rfl,←Nat.pow_mul]
  rw[hb2,Nat.pow_add,←e2,Nat.mod_mul,←hy];rw[Nat.mul_comm x,Nat.mul_add_mod,Nat.mod_eq_of_lt hlt,Nat.mul_add_div (Nat.pos_of_ne_zero (by intro h;rw[h]at hlt;omega)),Nat.div_eq_of_lt hlt,Nat.add_zero];rw[Nat.mul_comm,Nat.add_comm]
theorem BytesAt.offB{W:World}{g o n c B:Nat}{v:Value}{l:List UInt8}(h:BytesAt W (some ⟨g,o,none⟩) n c l)(hne:g≠B):BytesAt (W.setCell ⟨B,0,none⟩ v) (some ⟨g,o,none⟩) n c l:=by
 obtain⟨h1,h2,h3,h4⟩:=h;refine⟨h1,h2,h3,fun hn=>?_⟩;obtain⟨b,o',e,h5⟩:=h4 hn;cases e;refine⟨g,o,rfl,fun k hk=>?_⟩;have hs:(W.setCell ⟨B,0,none⟩ v).cell? ⟨g,o+k,none⟩=W.cell? ⟨g,o+k,none⟩:=by
  apply World.cell?_setCell_other;intro e;injection e with e1 _
  exact hne e1.symm
 rw[hs];exact h5 k hk
theorem belowK_b'{B D:Nat}{W:World}{o':Obj}(hD:B≤D){o:Obj}(h:W.heap[D]? =some o):Below B W (W.putObj D o'):=
 (Below.refl B W).grown (grownBy_putObj' W D o') (by have:=(Array.getElem?_eq_some_iff.1 h).1;omega) (fun k e=>by cases e;exact hD)
def bxLen(W:World)(B:Nat):Nat:=match W.cell? ⟨B,0,none⟩with
 | some (.slice _ n _)=>n
 | _=>0
theorem heap_ownB{β:Type}(B:Nat)(cs:Array Value)(T:TypeId):Own (fun(_:β) W=>W.heap[B]? =some (.cells cs T (0,0))):=fun s X Y row hs hg hrow=>by
 refine(hg.block B (block_lt hs) (fun e=>?_)).trans hs;obtain⟨o,ho,hc⟩:=hrow B e.symm;rw[show X.heap[B]? =_ from hs]at ho;cases ho;cases hc
def ITa(w:World)(z:Nat)(_:Unit)(W:World):Prop:=
 W.heap[w.heap.size+1]? =some (.cells #[.int .i64 z] 3 (0,0))∧W.heap[w.heap.size+1+1]? =some (.cells #[.slice none 0 0] 108 (0,0))∧Below w.heap.size w W
def IXa(w:World)(z:Nat)(ml:List UInt8)(c:Code)(_:Unit)(W:World):Prop:=
 c=.exit 0∧∃(g cp:Nat) (cur:Array Value),W.heap[w.heap.size+1]? =some (.cells #[.int .i64 z] 3 (0,0))∧W.heap[w.heap.size+1+1]? =some (.cells #[.slice (some ⟨g,0,none⟩) 32 cp] 108 (0,0))∧W.heap[g]? =some (.cells cur 5 (0,0)) ∧
  cur.toList.take 32=Lib.byteCells ml∧32≤cp∧cp≤maxLen∧cur.size=cp∧w.heap.size+1+1<g∧Below w.heap.size w W
theorem ita_own(w:World)(z:Nat){B:Nat}(hB:w.heap.size≤B):OwnFrom B (ITa w z):=fun s X Y row ⟨h1,h2,h3⟩ hg hr =>
 ⟨heap_ownB (β:=Unit) _ _ _ () X Y row h1 hg (fun r e=>(hr r e).2),heap_ownB (β:=Unit) _ _ _ () X Y row h2 hg (fun r e=>(hr r e).2),ownFrom_below (β:=Unit) nlr hB () X Y row h3 hg hr⟩
theorem ixa_own(w:World)(z:Nat)(ml:List UInt8)(c:Code){B:Nat}(hB:w.heap.size≤B):OwnFrom B (IXa w z ml c):=fun s X Y row ⟨e,g,cp,cur,h1,h2,h3,h4,h5,h6,h7,h8,h9⟩ hg hr =>
 ⟨e,g,cp,cur,heap_ownB (β:=Unit) _ _ _ () X Y row h1 hg (fun r e=>(hr r e).2),heap_ownB (β:=Unit) _ _ _ () X Y row h2 hg (fun r e=>(hr r e).2),heap_ownB (β:=Unit) _ _ _ () X Y row h3 hg (fun r e=>(hr r e).2),h4,h5,h6,h7,h8,ownFrom_below (β:=Unit) nlr hB () X Y row h9 hg hr⟩
theorem co_attempt(A:Option Addr)(n cap:Nat)(s:ByteArray)(k a b:Nat)(hs:s.size≤1000000)(hk:k<2147483648)(ha:a<256)(hb0:0<b)(hb:b≤256)(w:World)(ht:T10 w) :
 Calls Tryz.prog 94 #[tpV A n cap s k,.int .i64 a,.int .i64 b] w (Ret (.string (nS (attN s.data.toList k a b))) w):=by
 have HSQ:=Hq (fun q hq D E W hD hE ht=>blocks_first q hq A n cap s k a hs hk ha D E W hD hE ht);obtain⟨ml,hml⟩:∃ l,macL s.data.toList (nmL k a 0)=l:=⟨_,rfl⟩;have hll:ml.length=32:=by rw[←hml];exact macL_length _ _
 have HRES:=Hq (show attN s.data.toList k a b=bnat (ml.take ((b+7) / 8))%2 ^ b from by unfold attN;rw[hml]);rw[hml]at HSQ;have HLL:=Hq hll;have HT:=Hq ht;have hbi:(b:Int)≤256:=by omega
 rw[HRES.out];unfold tpV;clear hml hll ht hs;refine(callsIn_wide (n:=3)).1 ?_;refine callsIn_of_wp_marks Tryz.func94 rfl trivial ?_ rfl;simp only[Tryz.ntmps94,List.size_toArray,List.length_cons,List.length_nil,Nat.reduceAdd,Nat.reduceSub,Array.replicate_succ,Array.replicate_zero,List.push_toArray,List.append_toArray,List.nil_append,List.cons_append];refine wpIn_wide.2 ?_;go_upto_region 3 with(fail)
 obtain⟨z,hz⟩:∃ z,(b+7) / 8=z:=⟨_,rfl⟩;have hzi:((b:Int)+7) / 8=(z:Int):=by omega
 rw[hzi];have HZ:=Hq hz;have hw1:BX4 ((((w.alloc (.cells #[.slice A n cap,.string s,.int .i64 k] 30)).alloc (.cells #[.int .i64 z] 3)).alloc (.cells #[.slice none 0 0] 108))) w A n cap s k z:=BX4.mk4 _ _ _ _ _ _ _;obtain⟨W1,hW1⟩:∃ W,(((w.alloc (.cells #[.slice A n cap,.string s,.int .i64 k] 30)).alloc (.cells #[.int .i64 z] 3)).alloc (.cells #[.slice none 0 0] 108))=W:=⟨_,rfl⟩;rw[hW1]at hw1⊢;have H1:=Hq hw1;obtain⟨c0,c1,c2⟩:=hw1.1.c;clear hw1 hW1 hz hzi;go_wp2_with fail;refine(co_blocks A n cap s k a W1).mono ?_;rintro ev w2 ⟨rfl,rfl⟩;have hD2:TB ((W1.alloc (.cells #[.slice A n cap,.string s,.int .i64 k] 30)).alloc (.cells #[.int .i64 a] 3)) W1.heap.size A n cap s k:=(TB.new _ _ _ _ _ _).nextT ((blr).alloc nlr _);have hE2:((W1.alloc (.cells #[.slice A n cap,.string s,.int .i64 k] 30)).alloc (.cells #[.int .i64 a] 3)).heap[W1.heap.size+1]? =some (.cells #[.int .i64 a] 3 (0,0)):=by
  have:=heap_alloc_new (W1.alloc (.cells #[.slice A n cap,.string s,.int .i64 k] 30)) (.cells #[.int .i64 a] 3);rwa[World.size_alloc]at this
 have hb2:=((Below.refl W1.heap.size W1).alloc nlr (.cells #[.slice A n cap,.string s,.int .i64 k] 30)).alloc (by simp) (.cells #[.int .i64 a] 3);obtain⟨D,hD⟩:∃ D,W1.heap.size=D:=⟨_,rfl⟩;obtain⟨W2,hW2⟩:∃ W,(W1.alloc (.cells #[.slice A n cap,.string s,.int .i64 k] 30)).alloc (.cells #[.int .i64 a] 3)=W:=⟨_,rfl⟩;rw[hW2]at hD2 hE2 hb2;try rw[hW2]
 have H2:=Hq (H1.out.next4 hb2);rw[hD]at hD2 hE2;try rw[hD]
 have HQ:=Hq (HSQ.out 2 (by omega) D (D+1) W2 hD2 hE2 (HT.out.next (H2.out.2.2.2)));clear c0 c1 c2 hb2 hW2 hD hD2 hE2;go_wp2;rename_i K5 hK5;refine(wpIn_wide (n:=3)).1 ?_;refine rangeFunc_first rfl (by omega) (gf:=139) (lb:=#[.pointer (some ⟨D,0,none⟩),.pointer (some ⟨D+1,0,none⟩)]) rfl trivial (enters_of Tryz.func139 (by kernel_rfl) rfl)
  HQ.out blr rfl (ITa w z) (IXa w z ml) (ita_own w z (by have:=H2.out.2.2.2.size;exact this)) (fun c=>ixa_own w z ml c (by have:=H2.out.2.2.2.size;exact this)) ⟨H2.out.2.1,H2.out.2.2.1,H2.out.2.2.2⟩
  (fun t=>(t.setIfInBounds 16 (.string (bstr ml))).setIfInBounds 9 (.string (bstr ml))) ?assign ?body ?stop
 case assign =>
  intro l W K hK;gi_wp2;exact hK
 case body =>
  rintro l W ⟨h1,h2,h3⟩;obtain⟨A',c',w',hr,hown,hg⟩:=append_mac ml HLL.out W.heap.size 108 W nlr;rcases hown.2 with⟨e,_⟩ | ⟨g,cp,cur,e,hbg,hgh,hnc,hcm,hcs,htake⟩
  · cases e
  · cases e;have hbW:Below W.heap.size W w':=⟨hg.os,hg.tape,hg.output,hg.size,fun k hk=>hg.block k hk (fun e=>by cases e)⟩;have hlt2:w.heap.size+1+1<W.heap.size:=block_lt h2;have d0:W.cell? ⟨w.heap.size+1+1,0,none⟩=some (.slice none 0 0):=by rw[Lib.cell_of_heap h2];rfl
    have h1':=(hbW.block _ (block_lt h1)).trans h1;have h2':=(hbW.block _ (block_lt h2)).trans h2;have d1:w'.cell? ⟨w.heap.size+1,0,none⟩=some (.int .i64 z):=by rw[Lib.cell_of_heap h1'];rfl
    have d2:w'.cell? ⟨w.heap.size+1+1,0,none⟩=some (.slice none 0 0):=by rw[Lib.cell_of_heap h2'];rfl
    have f2:w'.frozen? ⟨w.heap.size+1+1,0,none⟩=false:=Lib.frozen_of_heap h2' 0;have HFIN:=Hq (show KeepsOthers W (w'.setCell ⟨w.heap.size+1+1,0,none⟩ (.slice (some ⟨g,0,none⟩) 32 c'))∧IXa w z ml (.exit 0) () (w'.setCell ⟨w.heap.size+1+1,0,none⟩ (.slice (some ⟨g,0,none⟩) 32 c'))from by
     refine⟨(keeps_below hbW).trans (KeepsOthers.setCell _ _ _),rfl,g,c',cur,?_,?_,?_,?_,hnc,hcm,?_,by omega,?_⟩
     · exact(heap_setCell_other _ _ _ _ (show w.heap.size+1≠w.heap.size+1+1 by omega)).trans h1'
     · exact block_setCell h2' _
     · exact(heap_setCell_other _ _ _ _ (show g≠w.heap.size+1+1 by omega)).trans hgh
     · simpa using htake
     · simpa using hcs
     · exact(h3.trans (hbW.mono h3.size)).setCell (p:=⟨w.heap.size+1+1,0,none⟩) (show w.heap.size≤w.heap.size+1+1 by omega) _)
    have hz32:z≤32:=by have:=HZ.out;omega
    clear h1 h2 h3 h1' h2' hgh htake hcs hown hbW hg;simp only[List.setIfInBounds_toArray,List.set_cons_zero,List.set_cons_succ]
    gi_step
    gi_step
    gi_step
    refine region_in ?hq (by rfl) ?_;case hq =>
     repeat first
      | refine letsOut_then ?_
      | refine letsOut_block ?_
     exact letsOut_own _ _ _ _ _
    go_wp2_with (refine wpList_append_ran _ rfl (.tmp 17) (.tmp 18) 108 9 rfl _ _ rfl rfl hr ?_);clear hr d0;gi_wp2;exact HFIN.out
 case stop =>
  rintro D' c W hD' ⟨rfl,g,cp,cur,h1,h2,h3,h4,h5,h6,h7,h8,h9⟩ hK;have HDD:=Hq (show w.heap.size≤D' from Nat.le_trans H2.out.2.2.2.size hD');have HC1:=Hq h1;have HC2:=Hq h2;have HC3:=Hq h3;have HTK:=Hq h4;have HCP:=Hq (show 32≤cp∧cp≤maxLen∧cur.size=cp∧w.heap.size+1+1<g from⟨h5,h6,h7,h8⟩);have HBW:=Hq h9;have HKD:=Hq hK;clear h1 h2 h3 h4 h5 h6 h7 h8 h9 hK;refine wpIn_exit ?_;simp only[Exit.inBlock,if_true];show K5 _ _;refine hK5 _ _ ?_;clear hK5 HSQ HQ H1 H2;have hz1:0<z:=by have:=HZ.out;omega
  have hz32:z≤32:=by have:=HZ.out;omega
  have HZP:=Hq (show 0<z∧z≤32 from⟨hz1,hz32⟩);have hbyt:=BytesAt.row HC3.out HTK.out HLL.out z cp hz32 (by have:=HCP.out.1;omega) (by have:=HCP.out.2.1;unfold maxLen at this;omega);obtain⟨x,hx⟩:∃ x:Nat,(ml.getD 0 0).toNat=x:=⟨_,rfl⟩;have hx255:x≤255:=by rw[←hx];have:=(ml.getD 0 0).toNat_lt;omega
  have HXX:=Hq hx;have k1:W.cell? ⟨w.heap.size+1,0,none⟩=some (.int .i64 z):=by rw[Lib.cell_of_heap HC1.out];rfl
  have k2:W.cell? ⟨w.heap.size+1+1,0,none⟩=some (.slice (some ⟨g,0,none⟩) 32 cp):=by rw[Lib.cell_of_heap HC2.out];rfl
  have f2:W.frozen? ⟨w.heap.size+1+1,0,none⟩=false:=Lib.frozen_of_heap HC2.out 0;have hcp32:32≤cp:=HCP.out.1;have hzc:z≤cp:=by omega
  have HBY:=Hq hbyt;clear hx hbyt;go_upto_region 8 with(fail)
  have h1':(W.setCell ⟨w.heap.size+1+1,0,none⟩ (.slice (some ⟨g,0,none⟩) z cp)).heap[w.heap.size+1]? =some (.cells #[.int .i64 z] 3 (0,0)):=(heap_setCell_other _ _ _ _ (show w.heap.size+1≠w.heap.size+1+1 by omega)).trans HC1.out;have h2':(W.setCell ⟨w.heap.size+1+1,0,none⟩ (.slice (some ⟨g,0,none⟩) z cp)).heap[w.heap.size+1+1]? =some (.cells #[.slice (some ⟨g,0,none⟩) z cp] 108 (0,0)):=block_setCell HC2.out _;have h3':(W.setCell ⟨w.heap.size+1+1,0,none⟩ (.slice (some ⟨g,0,none⟩) z cp)).heap[g]? =some (.cells cur 5 (0,0)):=(heap_setCell_other _ _ _ _ (show g≠w.heap.size+1+1 by have:=HCP.out;omega)).trans HC3.out;have h4':(W.setCell ⟨w.heap.size+1+1,0,none⟩ (.slice (some ⟨g,0,none⟩) z cp)).heap[D']? =some (.deferred (some [])):=(heap_setCell_other _ _ _ _ (show D'≠w.heap.size+1+1 by intro e;rw[e,HC2.out]at HKD;cases HKD.out)).trans HKD.out;have h5':Below w.heap.size w (W.setCell ⟨w.heap.size+1+1,0,none⟩ (.slice (some ⟨g,0,none⟩) z cp)):=HBW.out.setCell (p:=⟨w.heap.size+1+1,0,none⟩) (show w.heap.size≤w.heap.size+1+1 by omega) _;obtain⟨W3,hW3⟩:∃ X,W.setCell ⟨w.heap.size+1+1,0,none⟩ (.slice (some ⟨g,0,none⟩) z cp)=X:=⟨_,rfl⟩;rw[hW3]at h1' h2' h3' h4' h5'⊢;have HD1:=Hq h1';have HD2:=Hq h2';have HD3:=Hq h3';have HKD3:=Hq h4';have HBW3:=Hq h5';clear h1' h2' h3' h4' h5' hW3 k1 k2 f2 HC1 HC2 HC3 HKD HBW HBY hD';have k1:W3.cell? ⟨w.heap.size+1,0,none⟩=some (.int .i64 z):=by rw[Lib.cell_of_heap HD1.out];rfl
  go_wp2;obtain⟨wd,hwd⟩:∃ wd,W3.drew=wd:=⟨_,rfl⟩;have HE1:=Hq (show wd.heap[w.heap.size+1]? =some (.cells #[.int .i64 z] 3 (0,0))from hwd▸HD1.out);have HE2:=Hq (show wd.heap[w.heap.size+1+1]? =some (.cells #[.slice (some ⟨g,0,none⟩) z cp] 108 (0,0))from hwd▸HD2.out);have HE3:=Hq (show wd.heap[g]? =some (.cells cur 5 (0,0))from hwd▸HD3.out);have HKD4:=Hq (show wd.heap[D']? =some (.deferred (some []))from hwd▸HKD3.out);have HBW4:=Hq (show Below w.heap.size w wd from hwd▸HBW3.out.drew);clear k1 HD1 HD2 HD3 HKD3 HBW3;have k1:wd.cell? ⟨w.heap.size+1,0,none⟩=some (.int .i64 z):=by rw[Lib.cell_of_heap HE1.out];rfl
  have k2:wd.cell? ⟨w.heap.size+1+1,0,none⟩=some (.slice (some ⟨g,0,none⟩) z cp):=by rw[Lib.cell_of_heap HE2.out];rfl
  have k3:wd.cell? ⟨g,0,none⟩=some (.int .u8 x):=(by obtain⟨b',o',e',hcel⟩:=(BytesAt.row HE3.out HTK.out HLL.out z cp hz32 hzc (by have:=HCP.out.2.1;unfold maxLen at this;omega)).2.2.2 hz1;cases e';have:=hcel 0 hz1;rw[Nat.add_zero]at this;rw[this,←HXX.out];unfold byteI;rw[List.getD_eq_getElem?_getD,List.getD_eq_getElem?_getD,List.getElem?_take,if_pos hz1]);have f3:wd.frozen? ⟨g,0,none⟩=false:=Lib.frozen_of_heap HE3.out 0;obtain⟨sh,hsh⟩:∃ sh,8 * z - b=sh:=⟨_,rfl⟩;have hshi:8 * (z:Int) - (b:Int)=(sh:Int):=by have:=HZ.out;omega
  have hsh0:(0:Int)≤(sh:Int):=by omega
  have hsh8:sh<8:=by have:=HZ.out;omega
  have hwr:IntKind.i64.wrap (IntKind.i64.wrap (8 * (z:Int)) - (b:Int))=(sh:Int):=(by rw[IntKind.wrap_i64,IntKind.wrap_i64];omega);obtain⟨y,hy⟩:∃ y,x%2 ^ (8 - sh)=y:=⟨_,rfl⟩;have hand:bits .and .u8 (x:Int) ((255:Int) / 2 ^ min sh 8)=(y:Int):=by rw[←hy];exact and_mask sh hsh8 x (by omega)
  have HSH:=Hq (show 8 * z - b=sh∧x%2 ^ (8 - sh)=y from⟨hsh,hy⟩);clear hy hsh hsh8 hshi;rename_i K6 hK6;refine wp_onlyN ?_;refine wp_region_K 10 (Below (wd).heap.size (wd)) (by kernel_rfl) ?_;intro hD;rw[hwd];refine qTD 0 29 10 rfl hD blr (by intro w' hS';have e0:=kC hS' k1;have e1:=kC hS' k2;have e2:=kC hS' k3;go_simp;with_reducible rfl) ?_;clear hD;intro hD;simp only[Act.put,sqA,sqB,sqC];refine qPD 1 30 9 rfl hD blr ?_;clear hD;intro hD;simp only[Act.put,sqA,sqB,sqC];refine qTD 2 31 8 rfl hD blr (by intro w' hS';have e0:=kC hS' k1;have e1:=kC hS' k2;have e2:=kC hS' k3;go_simp;with_reducible rfl) ?_;clear hD;intro hD;simp only[Act.put,sqA,sqB,sqC];refine qTD 3 32 7 rfl hD blr (by intro w' hS';have e0:=kC hS' k1;have e1:=kC hS' k2;have e2:=kC hS' k3;go_simp;with_reducible rfl) ?_;clear hD;intro hD;simp only[Act.put,sqA,sqB,sqC];refine qPD 4 33 6 rfl hD blr ?_;clear hD;intro hD;simp only[Act.put,sqA,sqB,sqC];refine qPD 5 34 5 rfl hD blr ?_;clear hD;intro hD;simp only[Act.put,sqA,sqB,sqC];refine qPD 6 35 4 rfl hD blr ?_;clear hD;intro hD;simp only[Act.put,sqA,sqB,sqC];refine qPD 7 36 3 rfl hD blr ?_;clear hD;intro hD;simp only[Act.put,sqA,sqB,sqC];refine qPD 8 37 2 rfl hD blr ?_;clear hD;intro hD;simp only[Act.put,sqA,sqB,sqC];refine qPD 9 38 1 rfl hD blr ?_;clear hD;intro hD;simp only[Act.put,sqA,sqB,sqC];refine wpAnyK_oneT (i:=10) (fuel:=0) (by kernel_rfl) rfl hD (by kernel_rfl) ?_;clear hD;intro K10 hK10;go_wp2;refine hK10 _ _ ?_;clear hK10;intro hD;refine wpD ?_;clear hD;show K6 _ _;refine hK6 _ _ ?_;clear hK6;have hl0:=BytesAt.row HE3.out HTK.out HLL.out z cp hz32 hzc (by have:=HCP.out.2.1;unfold maxLen at this;omega);have hg2:g≠w.heap.size+1+1:=by have:=HCP.out;omega
  have hg1:g≠w.heap.size+1:=by have:=HCP.out;omega
  have h1':(wd.setCell ⟨g,0,none⟩ (.int .u8 y)).heap[w.heap.size+1+1]? =some (.cells #[.slice (some ⟨g,0,none⟩) z cp] 108 (0,0)):=(heap_setCell_other _ _ _ _ (Ne.symm hg2)).trans HE2.out;have h2':(wd.setCell ⟨g,0,none⟩ (.int .u8 y)).heap[D']? =some (.deferred (some [])):=(heap_setCell_other _ _ _ _ (show D'≠g by intro e;have:=HKD4.out;rw[e,HE3.out]at this;cases this)).trans HKD4.out;have h3':Below w.heap.size w (wd.setCell ⟨g,0,none⟩ (.int .u8 y)):=HBW4.out.setCell (p:=⟨g,0,none⟩) (show w.heap.size≤g by have:=HCP.out;omega) _;have hy255:y≤255:=by rw[←HSH.out.2];exact Nat.le_trans (Nat.mod_le _ _) hx255
  have h4':=BytesAt.first hl0 (x:=y) hz1 hy255;have hval:=attempt_val HLL.out HZ.out hb0 hb HXX.out HSH.out.1 HSH.out.2;obtain⟨W5,hW5⟩:∃ X,wd.setCell ⟨g,0,none⟩ (.int .u8 y)=X:=⟨_,rfl⟩;rw[hW5]at h1' h2' h3' h4'⊢;obtain⟨L,hL⟩:∃ L,UInt8.ofNat y::(ml.take z).drop 1=L:=⟨_,rfl⟩;rw[hL]at h4' hval;have HF2:=Hq h1';have HFD:=Hq h2';have HFB:=Hq h3';have HFL:=Hq h4';have HVAL:=Hq hval;clear h1' h2' h3' h4' hval hl0 hW5 hL hy255 k1 k2 k3 f3 HE1 HE2 HE3 HKD4 HBW4 HXX HSH HTK hx255;have HL0:=Hq (show ∃(o m c:Nat) (l':List UInt8),W5.heap[w.heap.size+1+1]? =some (.cells #[.slice (some ⟨g,o,none⟩) m c] 108 (0,0))∧BytesAt W5 (some ⟨g,o,none⟩) m c l'∧trimZ l'=trimZ L from⟨0,z,cp,L,HF2.out,HFL.out,rfl⟩);have HLZ:=Hq (show L.length=z from HFL.out.1);go_wp2;go_loopw [] (fun wr=>(∃(o m c:Nat) (l':List UInt8),wr.heap[w.heap.size+1+1]? =some (.cells #[.slice (some ⟨g,o,none⟩) m c] 108 (0,0))∧BytesAt wr (some ⟨g,o,none⟩) m c l'∧trimZ l'=trimZ L)∧wr.heap[D']? =some (.deferred (some []))∧Below w.heap.size w wr) (fun wr=>bxLen wr (w.heap.size+1+1));case atStart=>exact⟨HL0.out,HFD.out,HFB.out⟩
  case round =>
   obtain⟨⟨o,m,c,l',hb2,hby,htr⟩,hdf,hbl⟩:=hrel;have HB2:=Hq hb2
   have HBY:=Hq hby
   have HTR:=Hq htr;have HDF:=Hq hdf;have HBL:=Hq hbl;have k2:wr.cell? ⟨w.heap.size+1+1,0,none⟩=some (.slice (some ⟨g,o,none⟩) m c):=by rw[Lib.cell_of_heap hb2];rfl
   have f2:wr.frozen? ⟨w.heap.size+1+1,0,none⟩=false:=Lib.frozen_of_heap hb2 0;clear hb2 hby htr hdf hbl HF2 HFD HFB HFL HL0;have fin:∀(W':World),trimZ l'=l'→bstr l'=nS (bnat (ml.take ((b+7) / 8))%2 ^ b):=fun _ h=>by
    rw[←HVAL.out,←bnat_trimZ L,←HTR.out,h];unfold nS;rw[encN_bnat];rw[←h];exact trimZ_canon _
   by_cases h0:0<m
   · obtain⟨b',o',e',hcel⟩:=HBY.out.2.2.2 h0;cases e';have e0:=hcel 0 h0;simp only[Nat.add_zero]at e0;have hmc:m≤c:=HBY.out.2.1;have hcm:c≤9223372036854775807:=HBY.out.2.2.1;clear hcel;by_cases hzb:byteI l' 0=0
     · have hz2:(byteI l' 0==0)=true:=beq_iff_eq.2 hzb;have HTL:=Hq (HBY.out.tail h0);have HNT:=Hq (show trimZ (l'.drop 1)=trimZ L from by rw[←HTR.out,trimZ_zero (by have:=HBY.out.1;omega) hzb]);have hs1:=fun v=>(block_setCell HB2.out v:(wr.setCell ⟨w.heap.size+1+1,0,none⟩ v).heap[w.heap.size+1+1]? =_);have HS1:=Hq hs1;have HM0:=Hq h0;clear hzb hs1 fin;go_wp2;have hdb:D'≠w.heap.size+1+1:=by intro e;have:=HDF.out;rw[e,HB2.out]at this;cases this
       refine⟨⟨?_,(heap_setCell_other _ _ _ _ hdb).trans HDF.out,HBL.out.setCell (p:=⟨w.heap.size+1+1,0,none⟩) (show w.heap.size≤w.heap.size+1+1 by omega) _⟩,?_⟩
       · have htl:=HTL.out;by_cases hc1:c=1
         · rw[if_pos hc1]at htl⊢;exact⟨o,m - 1,c - 1,l'.drop 1,HS1.out _,htl.offB (by have:=HCP.out;omega),HNT.out⟩
         · rw[if_neg hc1]at htl⊢;exact⟨o+1,m - 1,c - 1,l'.drop 1,HS1.out _,htl.offB (by have:=HCP.out;omega),HNT.out⟩
       · have e1:bxLen wr (w.heap.size+1+1)=m:=by unfold bxLen;rw[k2]
         rw[e1];unfold bxLen;rw[Lib.cell_of_heap (HS1.out _)];show m - 1<m;have:=HM0.out;omega
     · have hz2:(byteI l' 0==0)=false:=beq_eq_false_iff_ne.2 hzb;have HFI:=Hq (fin wr (trimZ_stop (.inr hzb)));have hconv:=HBY.out.conv 108 22 5 Tryz.underlying108 Tryz.underlying5 Tryz.underlying22;clear hzb fin;go_wp2;exact bodyM_mark HDF.out rfl (results_tmp rfl _ _ _) ⟨by show Ending.returned (.string (bstr l'))=_;rw[HFI.out],(HBL.out.trans (belowK_b' HDD.out HDF.out))⟩
   · obtain rfl:m=0:=by omega
     have HFI:=Hq (fin wr (trimZ_stop (.inl HBY.out.1)));have hconv:=HBY.out.conv 108 22 5 Tryz.underlying108 Tryz.underlying5 Tryz.underlying22;clear h0 fin;go_wp2;exact bodyM_mark HDF.out rfl (results_tmp rfl _ _ _) ⟨by show Ending.returned (.string (bstr l'))=_;rw[HFI.out],(HBL.out.trans (belowK_b' HDD.out HDF.out))⟩
set_option maxRecDepth 100000
set_option maxHeartbeats 4000000
open Go.RowKit Go.Lib
def DS(w wr:World)(A:Option Addr)(n cap:Nat)(s:ByteArray)(k:Int)(b7 c7:Nat)(l:List ByteArray):Prop:=
 TB wr w.heap.size A n cap s k∧TB wr (w.heap.size+1) none 0 0 ⟨#[]⟩ 0∧TB wr b7 (some ⟨c7,0,none⟩) n n s (k+1)∧wr.heap[c7]? =some (.cells (l.map Value.string).toArray 22 (0,0))∧Below w.heap.size w wr
theorem DS.next{w wr W:World}{A:Option Addr}{n cap:Nat}{s:ByteArray}{k:Int}{b7 c7:Nat}{l:List ByteArray}(h:DS w wr A n cap s k b7 c7 l)(hb:Below wr.heap.size wr W):DS w W A n cap s k b7 c7 l:=
 ⟨h.1.nextT hb,h.2.1.nextT hb,h.2.2.1.nextT hb,(hb.block _ (block_lt h.2.2.2.1)).trans h.2.2.2.1,h.2.2.2.2.trans (hb.mono h.2.2.2.2.size)⟩
theorem attN_lt(s:List UInt8)(k a b:Nat):attN s k a b<2 ^ b:=Nat.mod_lt _ (Nat.two_pow_pos b)
theorem co_drawS(l:List ByteArray)(s:ByteArray)(k N:Nat)(A:Option Addr)(n cap:Nat)(hk:n≤k)(hk2:k≤2147483647)(hn:n≤1000)(hs64:s.size≤1000000)(hN0:0<N)(hN:N<256 ^ 32)(w:World)(hs:SlN w A n cap l)(ht:T10 w) :
 Calls Tryz.prog 68 #[tpV A n cap s k,.string (nS N)] w (RetC (dwN l s k N) (tpN (dwN l s k N).2 l s k) w):=by
 have HLEN:=Hq hs.1;have hcap:=hs.2.1;have hcap2:=hs.2.2.1;have hdw:dwN l s k N=if s.toList.isEmpty=true∨(k:Int)=2147483647 then((0,14):Nat×Int)else match drwF (fun a=>attN s.data.toList k a (blen N)) N with
  | some x=>((x,0):Nat×Int)
  | none=>(0,14):=by
  unfold dwN;rw[if_neg (by have:=hs.1;omega),Int.toNat_natCast];split
  · rfl
  · cases drwF (fun a=>attN s.data.toList k a (blen N)) N<;>rfl
 have HT10:=Hq ht;have hb1:=((Below.refl w.heap.size w).alloc nlr (.cells #[.slice A n cap,.string s,.int .i64 k] 30)).alloc (by simp) (.cells #[.slice none 0 0,.string ⟨#[]⟩,.int .i64 0] 30);have ht1:TB ((w.alloc (.cells #[.slice A n cap,.string s,.int .i64 k] 30)).alloc (.cells #[.slice none 0 0,.string ⟨#[]⟩,.int .i64 0] 30)) w.heap.size A n cap s k:=(TB.new w A n cap s k).nextT ((blr).alloc nlr _);have hr1:TB ((w.alloc (.cells #[.slice A n cap,.string s,.int .i64 k] 30)).alloc (.cells #[.slice none 0 0,.string ⟨#[]⟩,.int .i64 0] 30)) (w.heap.size+1) none 0 0 ⟨#[]⟩ 0:=(by have:=TB.new (w.alloc (.cells #[.slice A n cap,.string s,.int .i64 k] 30)) none 0 0 ⟨#[]⟩ 0;rwa[World.size_alloc]at this);obtain⟨W1,hW1⟩:∃ W,(w.alloc (.cells #[.slice A n cap,.string s,.int .i64 k] 30)).alloc (.cells #[.slice none 0 0,.string ⟨#[]⟩,.int .i64 0] 30)=W:=⟨_,rfl⟩;have HSZ:=Hq (show W1.heap.size=w.heap.size+1+1 from by rw[←hW1];simp);rw[hW1]at hb1 ht1 hr1;have HB1:=Hq hb1;have HT1:=Hq ht1;have HR1:=Hq hr1;have hs1:=hs.kept hb1 nlr;have HS0:=Hq hs;have HS1:=Hq hs1;obtain⟨c0,c1,c2⟩:=ht1.c;obtain⟨r0,r1,r2⟩:=hr1.c;have f0:=hr1.f 0;have f1:=hr1.f 1;have f2:=hr1.f 2;have hnk:¬ (k<n):=by omega
 have hnki:¬ ((k:Int)<(n:Int)):=by omega
 have hnk2:(n:Int)≤(k:Int):=by omega
 have hdk1:decide (k<n)=false:=decide_eq_false hnk;have hdk2:decide ((k:Int)<(n:Int))=false:=decide_eq_false hnki;obtain⟨M,hM⟩:∃ M,nS N=M:=⟨_,rfl⟩;have HMM:=Hq hM;rw[hM];unfold tpV;by_cases he:s.toList.isEmpty=true∨(k:Int)=2147483647
 · rw[if_pos he]at hdw;rw[hdw];have hq:=hr1.set3 (A':=none) (n':=0) (c':=0) (s':=⟨#[]⟩) (a':=0);obtain⟨q0,q1,q2⟩:=hq.c;have HBQ:=Hq (below_set3 HB1.out (C:=w.heap.size+1) (by omega) (.slice none 0 0) (.string ⟨#[]⟩) (.int .i64 0));clear hr1 hq hdw hs hb1 ht1 hs1 hN0 hN hM ht hs64;have hee:s.toList.isEmpty=true∨(s.toList.isEmpty=false∧(k:Int)=2147483647):=by
    cases hx:s.toList.isEmpty with
    | true=>exact .inl rfl
    | false=>rw[hx]at he;exact .inr ⟨rfl,by simpa using he⟩
   rcases hee with h1 | ⟨h1,h2⟩
   · clear he;go_enter Tryz.func68,Tryz.ntmps68;go_wp2;refine bodyPost_ret (v:=.tuple #[.string ⟨#[]⟩,.agg #[.slice none 0 0,.string ⟨#[]⟩,.int .i64 0],.int .i64 14]) (by simp[results,Tryz.results68,go_sem,q0,q1,q2]) rfl ?_;exact⟨none,0,rfl,SlN.nil _ 0 (by omega) none,(fun b o h=>by cases h),HBQ.out⟩
   · have h2':((k:Int)==2147483647)=true:=beq_iff_eq.2 h2;clear he h2;go_enter Tryz.func68,Tryz.ntmps68;go_wp2;refine bodyPost_ret (v:=.tuple #[.string ⟨#[]⟩,.agg #[.slice none 0 0,.string ⟨#[]⟩,.int .i64 0],.int .i64 14]) (by simp[results,Tryz.results68,go_sem,q0,q1,q2]) rfl ?_;exact⟨none,0,rfl,SlN.nil _ 0 (by omega) none,(fun b o h=>by cases h),HBQ.out⟩
 · rw[if_neg he]at hdw;have h1:s.toList.isEmpty=false:=by
    cases hx:s.toList.isEmpty with
    | true=>exact absurd (.inl hx) he
    | false=>rfl
   have h2':((k:Int)==2147483647)=false:=beq_eq_false_iff_ne.2 (fun h=>he (.inr h));have hkk:k<2147483647:=by
    rcases Nat.lt_or_ge k 2147483647 with h | h
    · exact h
    · exact absurd (.inr (by omega)) he
   have hkm:(k:Int)<2147483647:=by omega
   obtain⟨b,hb⟩:∃ b,blen N=b:=⟨_,rfl⟩;have hb256:b≤256:=by rw[←hb];exact blen_le8 (k:=32) hN
   have hb0:0<b:=by
    rcases Nat.eq_zero_or_pos b with h | h
    · have:=blen_lt N;rw[hb,h]at this;omega
    · exact h
   obtain⟨f,hf⟩:∃ f:Nat→Nat,(fun a=>attN s.data.toList k a b)=f:=⟨_,rfl⟩;rw[hb,hf]at hdw;have HBI:=Hq (nat_Bits N (Nat.lt_trans hN (by decide)));have HAT:=Hq (fun a (ha:a<256) W hW=>co_attempt A n cap s k a b hs64 (by omega) ha hb0 hb256 W hW);have hfl:∀ a,f a<256 ^ 128:=fun a=>by
    rw[←hf];exact Nat.lt_of_lt_of_le (attN_lt _ _ _ _) (Nat.le_trans (Nat.pow_le_pow_right (by omega) hb256) (by decide))
   have HCM:=Hq (fun a=>nat_Cmp (nS (f a)) (nS N) (by have:=nS_size_le.2 (hfl a);omega) (by have:=nS_size_le.2 (Nat.lt_trans hN (show 256 ^ 32<256 ^ 128 by decide));omega));have HCN:=Hq (fun a=>ncmp_n (hfl a) (Nat.lt_trans hN (show 256 ^ 32<256 ^ 128 by decide)));have HFE:=Hq (fun a=>(show attN s.data.toList k a b=f a from by rw[←hf]));rw[hb,HMM.out]at HBI;rw[HMM.out]at HCM;obtain⟨r,hr⟩:∃ r,dwN l s k N=r:=⟨_,rfl⟩;have HR:=Hq (hdw.symm.trans hr);rw[hr];have HN1:=Hq hn;have HK:=Hq hk;clear hr hdw hs hb1 ht1 hr1 hs1 hN0 hN hM ht hs64 he hb hf hfl hb256 hb0 hnk hk2 hn;go_enter Tryz.func68,Tryz.ntmps68;go_wp2;rename_i K5 hK5;refine wp_onlyN ?_;obtain⟨wd,hwd⟩:∃ wd,W1.drew=wd:=⟨_,rfl⟩;have hbd:Below W1.heap.size W1 wd:=by rw[←hwd];exact(blr).drew
   have HTD:=Hq (HT1.out.nextT hbd);have HRD:=Hq (HR1.out.nextT hbd);have HBD:=Hq (HB1.out.trans (hbd.mono HB1.out.size));have HSZD:=Hq (show w.heap.size+1<wd.heap.size from by have:=hbd.size;have:=HSZ.out;omega);clear hbd c0 c1 c2 r0 r1 r2 f0 f1 f2;obtain⟨c0,c1,c2⟩:=HTD.out.c;have hmk:=fun W=>make_nats n (by have:=HN1.out;omega) W;have hk1:=hkm;apply join2 (K:=K5) (Fc:=NT wd n s ((k:Int)+1))
   · intro HJ;have HJ:=Hq HJ;refine wp_region_K 12 (Below (wd).heap.size (wd)) (by kernel_rfl) ?_;intro hD;rw[hwd];refine rP 0 45 11 rfl hD blr ?_;clear hD;intro hD;refine rT 1 46 10 rfl hD blr (by intro w' hS';have e0:=kC hS' c0;have e1:=kC hS' c1;have e2:=kC hS' c2;go_simp;with_reducible rfl) ?_;clear hD;intro hD;refine rP 2 47 9 rfl hD blr ?_;clear hD;intro hD;refine rP 4 49 8 rfl hD blr ?_;clear hD;intro hD;refine rT 5 50 7 rfl hD blr (by intro w' hS';have e0:=kC hS' c0;have e1:=kC hS' c1;have e2:=kC hS' c2;go_simp;with_reducible rfl) ?_;clear hD;intro hD;refine rP 6 51 6 rfl hD blr ?_;clear hD;intro hD;refine rT 7 52 5 rfl hD blr (by intro w' hS';have e0:=kC hS' c0;have e1:=kC hS' c1;have e2:=kC hS' c2;go_simp;with_reducible rfl) ?_;clear hD;intro hD;refine rP 8 53 4 rfl hD blr ?_;clear hD;intro hD;simp only[Act.put,sqA,sqB,sqC];refine wpAnyK_two (i:=3) (i':=10) (fuel:=3) (by kernel_rfl) rfl rfl hD ?_ ?_ 
     · unfold StepK;clear hD;intro K3 hK3;go_wp2;refine hK3 _ _ (by exact(blr).alloc nlr _) ?_;clear hK3;intro hS_5_3 hD;refine rP 9 54 2 rfl hD hS_5_3 ?_;clear hD;intro hD;simp only[Act.put,sqA,sqB,sqC];refine rO 10 1 rfl hD ?_;clear hD;intro K10 hK10;go_wp2;refine hK10 _ _ (by exact Below.alloc hS_5_3 (Below.size hS_5_3) _) ?_;clear hK10;intro hS_5_10_3 hD;refine rO 11 0 rfl hD ?_;clear hD;intro K11 hK11;go_wp2;refine hK11 _ _ (by exact((blr).alloc nlr _).alloc (by simp) _) ?_;clear hK11;intro hS_5_11_3 hD;refine wpD ?_;clear hD;show K5 _ _;first
       | (have hF := NT.a wd n s ((k : Int) + 1)
          obtain⟨wz,hwz⟩:∃ W,(wd.alloc (.cells (madeCells #[.string ⟨#[]⟩] n) 22)).alloc (.cells #[.slice (some ⟨wd.heap.size,0,none⟩) n n,.string s,.int .i64 ((k:Int)+1)] 30)=W:=⟨_,rfl⟩;rw[hwz]at hF⊢;clear hwz;obtain⟨p,hp⟩:∃ p,wd.heap.size+1=p:=⟨_,rfl⟩;rw[hp]at hF⊢;obtain⟨q,hq⟩:∃ q,wd.heap.size=q:=⟨_,rfl⟩;rw[hq]at hF⊢
          exact HJ.out p q _ hF)
       | (have hF := NT.b wd n s ((k : Int) + 1)
          obtain⟨wz,hwz⟩:∃ W,(wd.alloc (.cells #[.slice (some ⟨wd.heap.size+1,0,none⟩) n n,.string s,.int .i64 ((k:Int)+1)] 30)).alloc (.cells (madeCells #[.string ⟨#[]⟩] n) 22)=W:=⟨_,rfl⟩;rw[hwz]at hF⊢;clear hwz;obtain⟨p,hp⟩:∃ p,wd.heap.size+1=p:=⟨_,rfl⟩;rw[hp]at hF⊢;obtain⟨q,hq⟩:∃ q,wd.heap.size=q:=⟨_,rfl⟩;rw[hq]at hF⊢
          exact HJ.out q p _ hF)
     · unfold StepK;clear hD;intro K10 hK10;go_wp2;refine hK10 _ _ (by exact(blr).alloc nlr _) ?_;clear hK10;intro hS_5_10 hD;refine rO 3 2 rfl hD ?_;clear hD;intro K3 hK3;go_wp2;refine hK3 _ _ (by exact Below.alloc hS_5_10 (Below.size hS_5_10) _) ?_;clear hK3;intro hS_5_3_10 hD;refine rP 9 54 1 rfl hD hS_5_3_10 ?_;clear hD;intro hD;simp only[Act.put,sqA,sqB,sqC];refine rO 11 0 rfl hD ?_;clear hD;intro K11 hK11;go_wp2;refine hK11 _ _ (by exact((blr).alloc nlr _).alloc (by simp) _) ?_;clear hK11;intro hS_5_11_10 hD;refine wpD ?_;clear hD;show K5 _ _;first
       | (have hF := NT.a wd n s ((k : Int) + 1)
          obtain⟨wz,hwz⟩:∃ W,(wd.alloc (.cells (madeCells #[.string ⟨#[]⟩] n) 22)).alloc (.cells #[.slice (some ⟨wd.heap.size,0,none⟩) n n,.string s,.int .i64 ((k:Int)+1)] 30)=W:=⟨_,rfl⟩;rw[hwz]at hF⊢;clear hwz;obtain⟨p,hp⟩:∃ p,wd.heap.size+1=p:=⟨_,rfl⟩;rw[hp]at hF⊢;obtain⟨q,hq⟩:∃ q,wd.heap.size=q:=⟨_,rfl⟩;rw[hq]at hF⊢
          exact HJ.out p q _ hF)
       | (have hF := NT.b wd n s ((k : Int) + 1)
          obtain⟨wz,hwz⟩:∃ W,(wd.alloc (.cells #[.slice (some ⟨wd.heap.size+1,0,none⟩) n n,.string s,.int .i64 ((k:Int)+1)] 30)).alloc (.cells (madeCells #[.string ⟨#[]⟩] n) 22)=W:=⟨_,rfl⟩;rw[hwz]at hF⊢;clear hwz;obtain⟨p,hp⟩:∃ p,wd.heap.size+1=p:=⟨_,rfl⟩;rw[hp]at hF⊢;obtain⟨q,hq⟩:∃ q,wd.heap.size=q:=⟨_,rfl⟩;rw[hq]at hF⊢
          exact HJ.out q p _ hF)
   · intro b7 c7 wz hz;obtain⟨ht7,hc7,hbz,hb7,hc7',hne⟩:=hz;refine hK5 _ _ ?_;clear hK5 hmk c0 c1 c2;have HTZ:=Hq (HTD.out.nextT hbz);have HRZ:=Hq (HRD.out.nextT hbz);have HBZ:=Hq (HBD.out.trans (hbz.mono HBD.out.size));have HSL:=Hq (HS0.out.kept HBZ.out nlr);have H7:=Hq ht7;have HC7:=Hq hc7;have HX:=Hq (show w.heap.size+1<b7∧w.heap.size+1<c7∧b7≠c7 from by have:=HSZD.out;omega);obtain⟨c0,c1,c2⟩:=HTZ.out.c;obtain⟨p0,p1,p2⟩:=ht7.c;clear ht7 hc7 hbz hb7 hc7' hne;go_wp2_with (refine wpList_copy_nats rfl (.tmp 56) (.tmp 58) rfl c7 n cap _ l rfl rfl HC7.out HSL.out w.heap.size w HBZ.out (by have:=HX.out;omega) ?_);intro w3 hc3 ho3 hb3;have ht3:TB w3 w.heap.size (A) n cap s k:=(ho3 _ (by have:=HX.out;omega)).trans HTZ.out;have hr3:TB w3 (w.heap.size+1) none 0 0 ⟨#[]⟩ 0:=(ho3 _ (by have:=HX.out;omega)).trans HRZ.out;have h73:TB w3 b7 (some ⟨c7,0,none⟩) n n s ((k:Int)+1):=(ho3 _ (by have:=HX.out;omega)).trans H7.out;have HDS:=Hq (show DS w w3 A n cap s k b7 c7 l from⟨ht3,hr3,h73,hc3,hb3⟩);clear c0 c1 c2 p0 p1 p2 hc3 ho3 hb3 ht3 hr3 h73 HTD HRD HBD HTZ HRZ HBZ HSL H7 HC7 HS0 HS1 HB1 HT1 HR1 HSZ HSZD;clear hk1 hkm hkk h2' hcap2;obtain⟨c0,c1,c2⟩:=HDS.out.1.c;go_wp2;clear c0 c1 c2;go_loopw [73] (fun v wr=>∃ a:Nat,a≤256∧v=.int .i64 a∧(∀ j,j<a→¬ f j<N)∧DS w wr A n cap s k b7 c7 l) (fun v _=>256 - (RowKit.intOf v).toNat);case atStart=>exact⟨0,by omega,rfl,fun j h=>by omega,HDS.out⟩
     case round =>
      obtain⟨a,ha,rfl,hno,hds⟩:=hrel;have HNO:=Hq hno;have HDW:=Hq hds;clear hno hds;by_cases hlt:a<256
      · have hai:(a:Int)<256:=by omega
        have HLT:=Hq hlt;go_wp2;obtain⟨wd,hwd⟩:∃ wd,wr.drew=wd:=⟨_,rfl⟩;have hdd:DS w wd A n cap s k b7 c7 l:=by rw[←hwd];exact HDW.out.next (blr).drew
        have HDd:=Hq hdd;have HATa:=Hq (HAT.out a HLT.out wd (HT10.out.kept hdd.2.2.2.2 nlr));have HCMa:=Hq (HCM.out a);have hcm:=cmpI_ltP (x:=f a) (y:=N);obtain⟨k1,hk1⟩:∃ k1,ncmp (nS (f a)) M=k1:=⟨_,rfl⟩;have hk1':cmpI (f a) N=k1:=by rw[←hk1,←HMM.out,HCN.out a]
        rw[hk1]at HCMa;rw[hk1']at hcm;rw[HFE.out a]at HATa;obtain⟨x,hx⟩:∃ x,nS (f a)=x:=⟨_,rfl⟩;rw[hx]at HCMa HATa;have HX1:=Hq hx;have HC1:=Hq hcm;unfold tpV at HATa;clear hdd hk1 hk1' hx hcm;obtain⟨c0,c1,c2⟩:=HDd.out.1.c;refine wp_region_K 6 (Below (wd).heap.size (wd)) (by kernel_rfl) ?_;intro hD;rw[hwd];refine rT 0 76 5 rfl hD blr (by intro w' hS';have e0:=kC hS' c0;have e1:=kC hS' c1;have e2:=kC hS' c2;go_simp;with_reducible rfl) ?_;clear hD;intro hD;refine rP 1 77 4 rfl hD blr ?_;clear hD;intro hD;refine rP 2 78 3 rfl hD blr ?_;clear hD;intro hD;simp only[Act.put,sqA,sqB,sqC];refine rO 3 2 rfl hD ?_;clear hD;intro K3 hK3;go_wp2_with fail;refine(HBI.out _).mono ?_;rintro ev w4 ⟨rfl,rfl⟩;have HB3:=Hq (Below.refl wd.heap.size wd);go_wp2;refine hK3 _ _ (by exact HB3.out) ?_;clear hK3;intro hS_12_3 hD;refine rO 4 1 rfl hD ?_;clear hD;intro K4 hK4;go_wp2_with fail;refine HATa.out.mono ?_;rintro ev w5 ⟨rfl,hb⟩;have HB4:=Hq hb;clear hb;go_wp2;refine hK4 _ _ (by exact Below.trans hS_12_3 (Below.mono HB4.out (Below.size hS_12_3))) ?_;clear hK4;intro hS_12_4 hD;refine rO 5 0 rfl hD ?_;clear hD;intro K5 hK5;go_wp2;refine hK5 _ _ (by exact hS_12_4) ?_;clear hK5;intro hS_12_5 hD;refine wpD ?_;clear hD;have HD5:=Hq (HDd.out.next HB4.out);clear c0 c1 c2;go_wp2_with fail;refine(HCMa.out _).mono ?_;rintro ev w6 ⟨rfl,rfl⟩;by_cases hfn:f a<N
        · have hneg:k1<0:=by rw[HC1.out];exact hfn
          have HRV:=Hq (show r=(f a,0)from by rw[←HR.out,drwF_at HLT.out HNO.out hfn]);clear hfn;go_wp2;obtain⟨we,hwe⟩:∃ we,w5.drew=we:=⟨_,rfl⟩;have HE:=Hq (show DS w we A n cap s k b7 c7 l from by rw[←hwe];exact HD5.out.next (blr).drew);have HS0E:=Hq (show Below w.heap.size w we∧TB we b7 (some ⟨c7,0,none⟩) n n s ((k:Int)+1)from⟨HE.out.2.2.2.2,HE.out.2.2.1⟩);obtain⟨r0,r1,r2⟩:=HE.out.2.1.c;have f0:=HE.out.2.1.f 0;have f1:=HE.out.2.1.f 1;have f2:=HE.out.2.1.f 2;refine wp_region_K 5 (fun W'=>Below w.heap.size w W'∧TB W' b7 (some ⟨c7,0,none⟩) n n s ((k:Int)+1)) (by kernel_rfl) ?_;intro hD;rw[hwe];refine rP 0 85 4 rfl hD HS0E.out ?_;clear hD;intro hD;refine rT 1 86 3 rfl hD HS0E.out (by intro w' hS';have e0:=hS'.2.c.1;have e1:=hS'.2.c.2.1;have e2:=hS'.2.c.2.2;go_simp;with_reducible rfl) ?_;clear hD;intro hD;simp only[Act.put,sqA,sqB,sqC];refine rO 2 2 rfl hD ?_;clear hD;intro K2 hK2;go_wp2;refine hK2 _ _ (by exact HS0E.out) ?_;clear hK2;intro hS_14_2 hD;refine rO 3 1 rfl hD ?_;clear hD;intro K3 hK3;go_wp2;refine hK3 _ _ (by exact⟨below_set3 (hS_14_2).1 (by omega) _ _ _,(((hS_14_2).2.off (by have:=HX.out;omega) _).off (by have:=HX.out;omega) _).off (by have:=HX.out;omega) _⟩) ?_;clear hK3;intro hS_14_3 hD;refine rO 4 0 rfl hD ?_;clear hD;intro K4 hK4;go_wp2;refine hK4 _ _ (by exact hS_14_3) ?_;clear hK4;intro hS_14_4 hD;refine wpD ?_;clear hD r0 r1 r2 f0 f1 f2;have hq:=HE.out.2.1.set3 (A':=some (⟨c7,0,none⟩:Addr)) (n':=n) (c':=n) (s':=s) (a':=(k:Int)+1);obtain⟨q0,q1,q2⟩:=hq.c;have HBQ:=Hq (hS_14_4).1;clear hq;go_wp2;refine bodyPost_ret (v:=.tuple #[.string x,.agg #[.slice (some ⟨c7,0,none⟩) n n,.string s,.int .i64 ((k:Int)+1)],.int .i64 0]) (by simp[results,Tryz.results68,go_sem,q0,q1,q2]) rfl ?_;rw[HRV.out];refine⟨some ⟨c7,0,none⟩,n,?_,?_,(fun b o h=>by cases h;have:=HX.out;omega),HBQ.out⟩
          · show _=Ending.returned (.tuple #[.string (nS (f a)),.agg #[.slice (some ⟨c7,0,none⟩) l.length n,.string s,.int .i64 ((k:Int)+1)],.int .i64 0]);rw[HLEN.out,HX1.out]
          · show SlN _ _ l.length n l;have hne:c7≠w.heap.size+1:=by have:=HX.out;omega
            have hc8:(((we.setCell ⟨w.heap.size+1,0,none⟩ (.slice (some ⟨c7,0,none⟩) n n)).setCell ⟨w.heap.size+1,1,none⟩ (.string s)).setCell ⟨w.heap.size+1,2,none⟩ (.int .i64 ((k:Int)+1))).heap[c7]? =some (.cells (l.map Value.string).toArray 22 (0,0)):=
             (heap_setCell_other _ _ _ _ hne).trans ((heap_setCell_other _ _ _ _ hne).trans ((heap_setCell_other _ _ _ _ hne).trans HE.out.2.2.2.1))
            have:=sln_heap hc8 (by have:=HLEN.out;have:=HN1.out;omega);rwa[HLEN.out]at this⊢
        · have hneg:¬ (k1<0):=by rw[HC1.out];exact hfn
          have HNN:=Hq (show ∀ j,j<a+1→¬ f j<N from fun j hj=>by
           rcases Nat.lt_or_ge j a with h | h
           · exact HNO.out j h
           · obtain rfl:j=a:=by omega
             exact hfn)
          clear hfn;go_wp2
          trace_state
          go_roundw;case rel=>exact⟨a+1,by have:=HLT.out;omega,by go_num,HNN.out,HD5.out⟩
          case measure=>have:=HLT.out;simp[RowKit.intOf];omega
      · obtain rfl:a=256:=by omega
        have HRV:=Hq (show r=(0,14)from by rw[←HR.out,drwF_none HNO.out]);have hai:¬ (((256:Nat):Int)<256):=by omega
        obtain⟨r0,r1,r2⟩:=HDW.out.2.1.c;have f0:=HDW.out.2.1.f 0;have f1:=HDW.out.2.1.f 1;have f2:=HDW.out.2.1.f 2;have hq:=HDW.out.2.1.set3 (A':=none) (n':=0) (c':=0) (s':=⟨#[]⟩) (a':=0);obtain⟨q0,q1,q2⟩:=hq.c;have HBQ:=Hq (below_set3 HDW.out.2.2.2.2 (C:=w.heap.size+1) (by omega) (.slice none 0 0) (.string ⟨#[]⟩) (.int .i64 0));clear hq hlt ha;go_wp2;refine bodyPost_ret (v:=.tuple #[.string ⟨#[]⟩,.agg #[.slice none 0 0,.string ⟨#[]⟩,.int .i64 0],.int .i64 14]) (by simp[results,Tryz.results68,go_sem,q0,q1,q2]) rfl ?_;rw[HRV.out];exact⟨none,0,rfl,SlN.nil _ 0 (by omega) none,(fun b o h=>by cases h),HBQ.out⟩
theorem tpG_parts{l:List ByteArray}{k:Int}(h:tpG l k=true):0≤k∧k≤2147483647∧l.all nvalid=true:=by
 unfold tpG at h;rw[Bool.and_eq_true,Bool.and_eq_true]at h;exact⟨of_decide_eq_true h.1.1,of_decide_eq_true h.1.2,h.2⟩
theorem co_draw(l:List ByteArray)(s:ByteArray)(k:Int)(N:Nat)(A:Option Addr)(n cap:Nat)(hg:tpG l k=true)(hn:n≤1000)(hs64:s.size≤1000000)(hN0:0<N)(hN:N<256 ^ 32)(w:World)(hs:SlN w A n cap l)(ht:T10 w) :
 Calls Tryz.prog 68 #[tpV A n cap s k,.string (nS N)] w (RetC (dwN l s k N) (tpN (dwN l s k N).2 l s k) w):=by
 obtain⟨h0,h1,hall⟩:=tpG_parts hg;obtain⟨q,rfl⟩:∃ q:Nat,k=(q:Int):=⟨k.toNat,by omega⟩;by_cases hq:q<n
 · have hlen:=hs.1;obtain⟨y,hy⟩:∃ y,l[q]? =some y:=⟨_,List.getElem?_eq_getElem (by omega)⟩;have e:dwN l s q N=if num y<N then(num y,0)else(0,2):=by
    unfold dwN;rw[if_pos (by omega),Int.toNat_natCast,List.getD_eq_getElem?_getD,hy];rfl
   rw[e];exact co_drawV l s q N A n cap y hy hq hn (List.all_eq_true.1 hall y (List.mem_of_getElem? hy)) (Nat.lt_trans hN (by decide)) w hs
 · exact co_drawS l s q N A n cap (by omega) (by omega) hn hs64 hN0 hN w hs ht
theorem co_Below(l:List ByteArray)(s:ByteArray)(k:Int)(N:ByteArray)(A:Option Addr)(n cap:Nat)(hn:n≤1000)(hp:∀ x∈l,x.size≤9223372036854775807)(hs64:s.size≤1000000)(hN:N.size≤32)(w:World)(hs:SlN w A n cap l)(ht:T10 w) :
 Calls Tryz.prog 45 #[tpV A n cap s k,.string N] w (RetC (coN l s k N) (tpN (coN l s k N).2 l s k) w):=by
 refine co_Below_of l s k N A n cap hp (by omega) w (fun hg hv he W hb hsW=>?_) hs;have hlt:num N<256 ^ 32:=Nat.lt_of_lt_of_le (num_lt_size N) (Nat.pow_le_pow_right (by omega) hN);have hpos:0<num N:=by
  rcases Nat.eq_zero_or_pos (num N)with h | h
  · rw[nS_num hv,h,show (nS 0).toList.isEmpty=true from sempty_true rfl]at he;cases he
  · exact h
 have:=co_draw l s k (num N) A n cap hg hn hs64 hpos hlt W hsW (ht.kept hb nlr);rwa[←nS_num hv]at this
end Go.Proofs.YtfbmbledklbfgaaGreatDoor

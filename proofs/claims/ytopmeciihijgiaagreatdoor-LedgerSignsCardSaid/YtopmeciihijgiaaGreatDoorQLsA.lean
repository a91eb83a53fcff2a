import Derived.Test.YtopmeciihijgiaaGreatDoorQOpn
set_option linter.unusedVariables false
set_option linter.unusedSimpArgs false
namespace Go.Proofs.YtopmeciihijgiaaGreatDoor
set_option maxRecDepth 100000
set_option maxHeartbeats 2000000
open Go.RowKit Go.Lib
def slV(M O G Y X:ByteArray)(B:Option Addr)(m cb:Nat)(A:Option Addr)(n cap:Nat)(s:ByteArray)(k:Int):Value:=.agg #[.string M,.string O,.string G,.string Y,.string X,.slice B m cb,.slice A n cap,.string s,.int .i64 k]
def SL9(w W:World)(M O G Y X:ByteArray)(B:Option Addr)(m cb:Nat)(L:List En)(A:Option Addr)(n cap:Nat)(s:ByteArray)(k:Int)(l:List ByteArray):Prop:=
 W.heap[w.heap.size]? =some (.cells #[.string M,.string O,.string G,.string Y,.string X,.slice B m cb,.slice A n cap,.string s,.int .i64 k] 32 (0,0))∧SlE W B m cb L∧SlN W A n cap l∧Below w.heap.size w W
theorem SL9.new(w:World)(M O G Y X:ByteArray)(B:Option Addr)(m cb:Nat)(L:List En)(A:Option Addr)(n cap:Nat)(s:ByteArray)(k:Int)(l:List ByteArray)(hL:SlE w B m cb L)(hs:SlN w A n cap l):SL9 w (w.alloc (.cells #[.string M,.string O,.string G,.string Y,.string X,.slice B m cb,.slice A n cap,.string s,.int .i64 k] 32)) M O G Y X B m cb L A n cap s k l:=
 ⟨heap_alloc_new _ _,hL.kept ((blr).alloc nlr _) nlr,hs.kept ((blr).alloc nlr _) nlr,(blr).alloc nlr _⟩
theorem SL9.next{w W W':World}{M O G Y X:ByteArray}{B:Option Addr}{m cb:Nat}{L:List En}{A:Option Addr}{n cap:Nat}{s:ByteArray}{k:Int}{l:List ByteArray}(h:SL9 w W M O G Y X B m cb L A n cap s k l)(hb:Below W.heap.size W W'):SL9 w W' M O G Y X B m cb L A n cap s k l:=
 ⟨(hb.block _ (block_lt h.1)).trans h.1,h.2.1.kept hb nlr,h.2.2.1.kept hb nlr,h.2.2.2.trans (hb.mono h.2.2.2.size)⟩
theorem SL9.cells{w W:World}{M O G Y X:ByteArray}{B:Option Addr}{m cb:Nat}{L:List En}{A:Option Addr}{n cap:Nat}{s:ByteArray}{k:Int}{l:List ByteArray}(h:SL9 w W M O G Y X B m cb L A n cap s k l) :
 W.cell? ⟨w.heap.size,0,none⟩=some (.string M)∧W.cell? ⟨w.heap.size,1,none⟩=some (.string O)∧W.cell? ⟨w.heap.size,2,none⟩=some (.string G)∧W.cell? ⟨w.heap.size,3,none⟩=some (.string Y)∧W.cell? ⟨w.heap.size,4,none⟩=some (.string X)∧W.cell? ⟨w.heap.size,5,none⟩=some (.slice B m cb)∧W.cell? ⟨w.heap.size,6,none⟩=some (.slice A n cap)∧W.cell? ⟨w.heap.size,7,none⟩=some (.string s)∧W.cell? ⟨w.heap.size,8,none⟩=some (.int .i64 k):=by
 have:=h.1;refine⟨?_,?_,?_,?_,?_,?_,?_,?_,?_⟩<;>(rw[Lib.cell_of_heap this];rfl)
def fewSL(M O G Y X:ByteArray)(L:List En)(l:List ByteArray)(s:ByteArray)(k:Int):Bool:=few33 M O G Y [X]&&(fewB L&&few11 l s k)
theorem law57_fewS(M O G Y X:ByteArray)(B:Option Addr)(m cb:Nat)(L:List En)(l:List ByteArray)(s:ByteArray)(k:Int)(A:Option Addr)(n cap:Nat)(w:World)(hL:SlE w B m cb L)(hs:SlN w A n cap l):Calls Tryz.prog 5 #[slV M O G Y X B m cb A n cap s k] w (Ret (.bool (fewSL M O G Y X L l s k)) w):=by
 have hx0:=SL9.new w M O G Y X B m cb L A n cap s k l hL hs;obtain⟨W0,hW0⟩:∃ W,w.alloc (.cells #[.string M,.string O,.string G,.string Y,.string X,.slice B m cb,.slice A n cap,.string s,.int .i64 k] 32)=W:=⟨_,rfl⟩;rw[hW0]at hx0;have HX0:=Hq hx0;have HX1:=Hq (hx0.next ((Below.refl W0.heap.size W0).alloc nlr (.cells #[.string X] 22)));have HFW:=Hq (law33_Few M O G Y [X] _ 1 1 (by omega) _ (sln_alloc W0 [X] 22 (by simp)));have HFT:=Hq (fun W hs=>law11_Few l s k A n cap W hs);have HFE:=Hq (fun W hs=>few_entries L B m cb W hs);obtain⟨c0,c1,c2,c3,c4,c5,c6,c7,c8⟩:=HX0.out.cells;have HR:=Hq (show fewSL M O G Y X L l s k=(few33 M O G Y [X]&&(fewB L&&few11 l s k))from rfl);rw[HR.out];unfold slV kV tpV at *;clear hx0 hs hL
 cases h1:few33 M O G Y [X]with
 | false =>
  rw[h1]at HFW;rw[Bool.false_and];clear h1;go_enter Tryz.func5,Tryz.ntmps5;go_wp2_with fail;try rw[hW0]
  clear hW0;refine HFW.out.mono ?_;rintro ev w1 ⟨rfl,hb⟩;have HX2:=Hq (HX1.out.next hb);clear hb c0 c1 c2 c3 c4 c5 c6 c7 c8;obtain⟨c0,c1,c2,c3,c4,c5,c6,c7,c8⟩:=HX2.out.cells;go_wp2;go_ret;exact⟨rfl,HX2.out.2.2.2⟩
 | true =>
  rw[h1]at HFW;rw[Bool.true_and];clear h1;go_enter Tryz.func5,Tryz.ntmps5;go_wp2_with fail;try rw[hW0]
  clear hW0;refine HFW.out.mono ?_;rintro ev w1 ⟨rfl,hb⟩;have HX2:=Hq (HX1.out.next hb);clear hb c0 c1 c2 c3 c4 c5 c6 c7 c8;obtain⟨c0,c1,c2,c3,c4,c5,c6,c7,c8⟩:=HX2.out.cells;have HFB:=Hq (HFE.out _ HX2.out.2.1)
  cases h2:fewB L with
  | true =>
   rw[h2]at HFB;have H2:=Hq h2;clear h2;go_wp2_with fail;refine HFB.out.mono ?_;rintro ev w2 ⟨rfl,rfl⟩;have HFU:=Hq (HFT.out _ HX2.out.2.2.1);go_wp2_with fail;refine HFU.out.mono ?_;rintro ev w2 ⟨rfl,hb⟩;have HX3:=Hq (HX2.out.next hb);clear hb c0 c1 c2 c3 c4 c5 c6 c7 c8;go_wp2;go_ret;exact⟨by rw[H2.out];rfl,HX3.out.2.2.2⟩
  | false =>
   rw[h2]at HFB;have H2:=Hq h2;clear h2;go_wp2_with fail;refine HFB.out.mono ?_;rintro ev w2 ⟨rfl,rfl⟩;go_wp2;go_ret;exact⟨by rw[H2.out];rfl,HX2.out.2.2.2⟩
set_option maxRecDepth 100000
open Go.ChangeShapes Go.WideShapes Go.ChangeAt Go.Deep Go.Joins Go.RowKit
open Go.ChangeMaps (open_string shut_string)
section
variable {H : Type} {enc : TypeId × Value → H} {W : World} {sp : Nat → Bool} {held : Bool}
theorem open_entriesC{fuel:Nat}{c:Value}{x:DataW H×List MemPlace}(h:DataW.trod enc Tryz.prog W 0 (fun _=>true) held fuel 27 [c]=some x):∃ A len cap l,c=.slice A len cap∧SlE W A len cap l:=by
 rcases open_slice_fields Tryz.underlying27 Tryz.underlying47 (by kernel_rfl) (by kernel_rfl) h with⟨hcs,_⟩ | ⟨ad,len',cap',m,hcs,_⟩
 · simp only[List.cons.injEq,and_true]at hcs;subst hcs;obtain⟨l,hl⟩:=open_entries (a:=none) (len:=0) (cap:=0) h;exact⟨_,_,_,l,rfl,hl⟩
 · simp only[List.cons.injEq,and_true]at hcs;subst hcs;obtain⟨l,hl⟩:=open_entries (a:=some ad) (len:=len') (cap:=cap') h;exact⟨_,_,_,l,rfl,hl⟩
theorem open_signerL{r:Reach}{b0:Nat}{v:Value}{d:DataW H}{p:List MemPlace}(hv:Value.okWide Tryz.prog W r b0 32 v)(h:DataW.Trod enc Tryz.prog W 0 (fun _=>true) held 32 v d p):∃(M O G Y X:ByteArray) (B:Option Addr) (m cb:Nat) (L:List En) (A:Option Addr) (n cap:Nat) (l:List ByteArray) (s:ByteArray) (k:Int),v=slV M O G Y X B m cb A n cap s k∧SlE W B m cb L∧SlN W A n cap l:=by
 obtain⟨cs,rfl,hsz⟩:=okWide_struct Tryz.underlying32 hv;obtain⟨c0,c1,c2,c3,c4,c5,c6,c7,c8,rfl⟩:=array9T (hsz.trans (show Tryz.prog.cellsOf 32=9 from by kernel_rfl));obtain⟨fuel,hf⟩:=h;have hf:DataW.trod enc Tryz.prog W 0 (fun _=>true) held fuel 32 [c0,c1,c2,c3,c4,c5,c6,c7,c8]=some (d,p):=hf;obtain⟨n1,y1,g1⟩:=trod_at Tryz.underlying32 hf 0 _ rfl 4 (by kernel_rfl);have g1:DataW.trod enc Tryz.prog W 0 (fun _=>true) held n1 26 [c0,c1,c2,c3]=some y1:=g1;obtain⟨n2,y2,g2⟩:=trod_at Tryz.underlying32 hf 1 _ rfl 1 (by kernel_rfl);have g2:DataW.trod enc Tryz.prog W 0 (fun _=>true) held n2 22 [c4]=some y2:=g2;obtain⟨n3,y3,g3⟩:=trod_at Tryz.underlying32 hf 2 _ rfl 1 (by kernel_rfl);have g3:DataW.trod enc Tryz.prog W 0 (fun _=>true) held n3 27 [c5]=some y3:=g3;obtain⟨n4,y4,g4⟩:=trod_at Tryz.underlying32 hf 3 _ rfl 3 (by kernel_rfl);have g4:DataW.trod enc Tryz.prog W 0 (fun _=>true) held n4 30 [c6,c7,c8]=some y4:=g4;obtain⟨X,e2,_⟩:=DataW.trod_string Tryz.underlying22 g2;obtain⟨B,m,cb,L,e3,hL⟩:=open_entriesC g3;obtain⟨A,n,cap,l,s,k,e6,e7,e8,hs⟩:=open_tapeC g4;obtain⟨M,O,G,K,e0,e1,e4,e5⟩:=open_skeyC g1;simp only[List.cons.injEq,and_true]at e2;subst e0 e1 e2 e3 e4 e5 e6 e7 e8;exact⟨M,O,G,K,X,B,m,cb,L,A,n,cap,l,s,k,rfl,hL,hs⟩
end
def halfN(n:Nat):Nat:=2 ^ Nat.log2 (n - 1)
theorem halfN_lt{n:Nat}(h:2≤n):halfN n<n:=by
 unfold halfN;have:=Nat.log2_self_le (n:=n - 1) (by omega);omega
theorem halfN_pos(n:Nat):1≤halfN n:=Nat.one_le_two_pow
theorem halfN_of{n j:Nat}(h1:2 ^ j<n)(h2:n≤2 * 2 ^ j):halfN n=2 ^ j:=by
 unfold halfN;have hp:1≤2 ^ j:=Nat.one_le_two_pow;have a:Nat.log2 (n - 1)<j+1:=(Nat.log2_lt (by omega)).2 (by rw[Nat.pow_succ];omega);have b:j≤Nat.log2 (n - 1):=(Nat.le_log2 (by omega)).2 (by omega);rw[show Nat.log2 (n - 1)=j from by omega]
def leafH(s:ByteArray):ByteArray:=bstr (shaL (0::s.data.toList))
def nodeH(a b:ByteArray):ByteArray:=bstr (shaL (1::(a.data.toList++b.data.toList)))
def rootF:Nat→List ByteArray→ByteArray
 | 0,_=>bstr (shaL [])
 | f+1,l=>if l.length=0 then bstr (shaL [])else if l.length=1 then leafH (l.headD ⟨#[]⟩)else nodeH (rootF f (l.take (halfN l.length))) (rootF f (l.drop (halfN l.length)))
theorem rootF_succ(f:Nat)(l:List ByteArray):rootF (f+1) l=if l.length=0 then bstr (shaL [])else if l.length=1 then leafH (l.headD ⟨#[]⟩)else nodeH (rootF f (l.take (halfN l.length))) (rootF f (l.drop (halfN l.length))):=rfl
theorem rootF_enough:∀(f g:Nat) (l:List ByteArray),l.length≤f→l.length≤g→rootF f l=rootF g l
 | 0,0,_,_,_=>rfl
 | 0,g+1,l,h,_=>by
  unfold rootF;rw[if_pos (by omega)]
 | f+1,0,l,_,h=>by
  unfold rootF;rw[if_pos (by omega)]
 | f+1,g+1,l,h1,h2=>by
  unfold rootF;by_cases h0:l.length=0
  · rw[if_pos h0,if_pos h0]
  · rw[if_neg h0,if_neg h0];by_cases h3:l.length=1
    · rw[if_pos h3,if_pos h3]
    · rw[if_neg h3,if_neg h3];have:=halfN_lt (n:=l.length) (by omega);have:=halfN_pos l.length;rw[rootF_enough f g (l.take (halfN l.length)) (by rw[List.length_take];omega) (by rw[List.length_take];omega),rootF_enough f g (l.drop (halfN l.length)) (by rw[List.length_drop];omega) (by rw[List.length_drop];omega)]
def rootL(l:List ByteArray):ByteArray:=rootF l.length l
theorem rootL_nil:rootL []=bstr (shaL []):=rfl
theorem rootL_one(x:ByteArray):rootL [x]=leafH x:=rfl
theorem rootL_more{l:List ByteArray}(h:2≤l.length):rootL l=nodeH (rootL (l.take (halfN l.length))) (rootL (l.drop (halfN l.length))):=by
 obtain⟨f,hf⟩:∃ f,l.length=f+1:=⟨l.length - 1,by omega⟩;have h1:=halfN_lt h;have h2:=halfN_pos l.length;unfold rootL;rw[show rootF l.length l=rootF (f+1) l from by rw[hf],rootF_succ,if_neg (show ¬ l.length=0 by omega),if_neg (show ¬ l.length=1 by omega),←rootF_enough (l.take (halfN l.length)).length f _ nlr (by rw[List.length_take];omega),←rootF_enough (l.drop (halfN l.length)).length f _ nlr (by rw[List.length_drop];omega)]
open Go.RowKit
def msgsE(l:List En):List ByteArray×Int:=match l.find? (fun e=>decide ((msgS e).2≠0))with
 | some e=>([],(msgS e).2)
 | none=>(l.map (fun e=>(msgS e).1),0)
theorem msgsE_bad{l:List En}{j:Nat}{e:En}(he:l[j]? =some e)(hb:(msgS e).2≠0)(hall:∀(i:Nat) x,i<j→l[i]? =some x→(msgS x).2=0):msgsE l=([],(msgS e).2):=by
 have : l.find? (fun e=>decide ((msgS e).2≠0))=some e:=by
  rw[List.find?_eq_some_iff_getElem];obtain⟨hj,he⟩:=List.getElem?_eq_some_iff.1 he;exact⟨by simpa using hb,j,hj,he,fun i hi=>by
   have:=hall i l[i] hi (List.getElem?_eq_getElem _)
   simp[this]⟩
 unfold msgsE;rw[this]
theorem msgsE_good{l:List En}(hall:∀(i:Nat) x,l[i]? =some x→(msgS x).2=0):msgsE l=(l.map (fun e=>(msgS e).1),0):=by
 have : l.find? (fun e=>decide ((msgS e).2≠0))=none:=(by rw[List.find?_eq_none];intro x hx;obtain⟨i,hi⟩:=List.getElem?_of_mem hx;simp[hall i x hi]);unfold msgsE;rw[this]
theorem msgsE_len{l:List En}(h:(msgsE l).2=0):(msgsE l).1=l.map (fun e=>(msgS e).1):=by
 unfold msgsE at *;split at h
 · rename_i e he;have:=List.find?_some he;simp at this;exact absurd h this
 · rfl
theorem encS_sizeL(x:It):(encS x).1.size≤1000000:=by
 unfold encS;split
 · show (⟨#[]⟩:ByteArray).size≤_;decide
 · split
   · show (⟨#[]⟩:ByteArray).size≤_;decide
   · split
     · show (⟨#[]⟩:ByteArray).size≤_;decide
     · rw[bstr_size];omega
theorem msgS_size(e:En):(msgS e).1.size≤1000000:=by
 unfold msgS;split
 · show (⟨#[]⟩:ByteArray).size≤_;decide
 · split
   · show (⟨#[]⟩:ByteArray).size≤_;decide
   · exact encS_sizeL _
abbrev itsH(n:Nat)(r:ByteArray):List It:=[.mk 1 ⟨#[]⟩ ⟨#[104,101,97,100]⟩ [],.mk 0 (bstr (encN n)) ⟨#[]⟩ [],.mk 1 ⟨#[]⟩ r []]
def itH(n:Nat)(r:ByteArray):It:=.mk 2 ⟨#[]⟩ ⟨#[]⟩ (itsH n r)
def hdS(n:Nat)(r:ByteArray):ByteArray:=(encS (itH n r)).1
theorem itH_weight{n:Nat}{r:ByteArray}(hn:n≤100000)(hr:r.size≤100):(itH n r).weight≤1000:=by
 have h1:(encN n).length≤8:=encN_length_le.2 (by omega);simp only[itH,It.weight,Its.weight,bstr_size];have e1:(⟨#[]⟩:ByteArray).size=0:=rfl;have e2:(⟨#[104,101,97,100]⟩:ByteArray).size=4:=rfl;omega
theorem hd_ok{n:Nat}{r:ByteArray}(hn:n≤100000)(hr:r.size≤100):encS (itH n r)=(hdS n r,0):=by
 have hv:nvalid (bstr (encN n))=true:=(nvalid_nS (n:=n)).2 (Nat.lt_of_le_of_lt hn (by decide));have e1:(itH n r).valid=true:=(by unfold itH It.valid;rw[if_neg (by decide),if_neg (by decide),if_pos rfl];simp only[itsH,Its.valid,It.valid,hv];rfl);have e2:(itH n r).depth=1:=rfl;have e3:(itH n r).bytes.length≤1000:=Nat.le_trans (It.bytes_le _) (itH_weight hn hr);have : (encS (itH n r)).2=0:=(by unfold encS;rw[if_neg (by rw[e1];decide),if_neg (by rw[e2];decide),if_neg (by omega)]);exact Prod.ext rfl this
theorem hdS_size(n:Nat)(r:ByteArray):(hdS n r).size≤1000000:=encS_sizeL _
theorem row3H{w:World}{T:TypeId}{fr:Nat×Nat}{b:Nat}{k0 k1 k2:Int}{n0 n1 n2 t0 t1 t2:ByteArray}
 (hb:w.heap[b]? =some (.cells #[.int .i64 k0,.string n0,.string t0,.slice none 0 0,.int .i64 k1,.string n1,.string t1,.slice none 0 0,.int .i64 k2,.string n2,.string t2,.slice none 0 0] T fr)) :
 SlAt w (fun _=>True) (some ⟨b,0,none⟩) 3 3 [.mk k0 n0 t0 [],.mk k1 n1 t1 [],.mk k2 n2 t2 []]:=by
 have hc:=fun k=>Lib.cell_of_heap hb (j:=k);refine⟨rfl,Nat.le_refl _,by omega,b,0,fun _=>⟨rfl,trivial⟩,?_⟩;refine⟨CellsAt.mk' (hc 0) (hc 1) (hc 2) (hc 3) (SlAt.nil _ _),CellsAt.mk' (hc 4) (hc 5) (hc 6) (hc 7) (SlAt.nil _ _),CellsAt.mk' (hc 8) (hc 9) (hc 10) (hc 11) (SlAt.nil _ _),trivial⟩
theorem rootF_size:∀(f:Nat) (l:List ByteArray),(rootF f l).size=32
 | 0,l=>by unfold rootF;rw[bstr_size,shaL_length]
 | f+1,l=>by
  unfold rootF;split
  · rw[bstr_size,shaL_length]
  · split
    · unfold leafH;rw[bstr_size,shaL_length]
    · unfold nodeH;rw[bstr_size,shaL_length]
theorem rootL_size(l:List ByteArray):(rootL l).size=32:=rootF_size _ _
def rtE(l:List En):ByteArray:=rootL (l.map (fun e=>(msgS e).1))
end Go.Proofs.YtopmeciihijgiaaGreatDoor

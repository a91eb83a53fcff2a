import Derived.Test.YtppbcopnfankcaaGreatQShD
import Derived.Deep.WholeRow
set_option linter.unusedVariables false
set_option linter.unusedSimpArgs false
namespace Go.Proofs.YtppbcopnfankcaaGreat
set_option maxRecDepth 100000
set_option maxHeartbeats 2000000
open Go.RowKit
def RowS(w:World)(B:Nat)(s:W8):Prop:=w.heap[B]? =some (.cells s.arr 133 (0,0))
theorem RowS.kept{w w':World}{K B:Nat}{s:W8}(h:RowS w B s)(hb:Below K w w')(hB:B<K):RowS w' B s:=(hb.block B hB).trans h
theorem RowS.lt{w:World}{B:Nat}{s:W8}(h:RowS w B s):B<w.heap.size:=zn h
theorem RowS.drew{w:World}{B:Nat}{s:W8}(h:RowS w B s):RowS w.drew B s:=h
theorem RowS.cell{w:World}{B:Nat}{s:W8}(h:RowS w B s)(i:Nat){v:Value}(hv:s.arr[i]? =some v):w.cell? ⟨B,i,none⟩=some v:=by rw[Lib.cell_of_heap h];exact hv
theorem RowS.c8{w:World}{B:Nat}{a b c d e f g h:BitVec 32}(H:RowS w B ⟨a,b,c,d,e,f,g,h⟩):w.cell? ⟨B,0,none⟩=some (.int .u32 (wi a))∧w.cell? ⟨B,1,none⟩=some (.int .u32 (wi b))∧w.cell? ⟨B,2,none⟩=some (.int .u32 (wi c))∧w.cell? ⟨B,3,none⟩=some (.int .u32 (wi d))∧w.cell? ⟨B,4,none⟩=some (.int .u32 (wi e))∧w.cell? ⟨B,5,none⟩=some (.int .u32 (wi f))∧w.cell? ⟨B,6,none⟩=some (.int .u32 (wi g))∧w.cell? ⟨B,7,none⟩=some (.int .u32 (wi h)):=
 ⟨H.cell 0 rfl,H.cell 1 rfl,H.cell 2 rfl,H.cell 3 rfl,H.cell 4 rfl,H.cell 5 rfl,H.cell 6 rfl,H.cell 7 rfl⟩
theorem RowS.free{w:World}{B:Nat}{s:W8}(h:RowS w B s)(k:Nat):w.frozen? ⟨B,k,none⟩=false:=Lib.frozen_of_heap h k
theorem W8.arr_one(s:W8):s.arr.all (·.oneCell')=true:=by simp[W8.arr,Value.oneCell']
def z8:Array Value:=#[.int .u32 0,.int .u32 0,.int .u32 0,.int .u32 0,.int .u32 0,.int .u32 0,.int .u32 0,.int .u32 0]
theorem BytesAt.kept{w w':World}{A:Option Addr}{len cap:Nat}{bs:List UInt8}(h:BytesAt w A len cap bs)(hb:Below w.heap.size w w'):BytesAt w' A len cap bs:=by
 obtain⟨h1,h2,h3,h4⟩:=h;refine⟨h1,h2,h3,fun hp=>?_⟩;obtain⟨b,o,e,hc⟩:=h4 hp;exact⟨b,o,e,fun k hk=>cell_kept hb nlr (hc k hk)⟩
def z64:Array Value:=madeCells #[.int .u32 0] 64
theorem ztg(w:World)(f g:Nat→BitVec 32)(T:TypeId):RowW ((((w.alloc (.cells z64 T)).alloc (.cells z64 T)).setRow w.heap.size (wa 64 f)).setRow (w.heap.size+1) (wa 64 g)) w.heap.size 64 T f ∧
 RowW ((((w.alloc (.cells z64 T)).alloc (.cells z64 T)).setRow w.heap.size (wa 64 f)).setRow (w.heap.size+1) (wa 64 g)) (w.heap.size+1) 64 T g ∧
 Below w.heap.size w ((((w.alloc (.cells z64 T)).alloc (.cells z64 T)).setRow w.heap.size (wa 64 f)).setRow (w.heap.size+1) (wa 64 g)):=by
 have e0:((w.alloc (.cells z64 T)).alloc (.cells z64 T)).heap[w.heap.size]? =some (.cells z64 T (0,0)):=by rw[heap_alloc_old _ _ (by simp)];exact heap_alloc_new _ _
 have e1:((w.alloc (.cells z64 T)).alloc (.cells z64 T)).heap[w.heap.size+1]? =some (.cells z64 T (0,0)):=heap_alloc2_new _ _ _;have e2:(((w.alloc (.cells z64 T)).alloc (.cells z64 T)).setRow w.heap.size (wa 64 f)).heap[w.heap.size+1]? =some (.cells z64 T (0,0)):=by rw[setRow_other _ _ _ _ (by omega)];exact e1
 refine⟨?_,?_,?_⟩
 · unfold RowW;rw[setRow_other _ _ _ _ (by omega)];exact setRow_heap _ _ _ _ _ _ e0
 · unfold RowW;exact setRow_heap _ _ _ _ _ _ e2
 · exact below_setRow (below_setRow (((blr).alloc nlr _).alloc (by simp) _) nlr _) (by omega) _
theorem zqq:IntKind.u32.max=4294967295:=rfl
theorem zx8(e f g h k w:BitVec 32):(wi h+bits .xor .u32 (bits .xor .u32 (wi (rr e 6)) (wi (rr e 11))) (wi (rr e 25))+bits .xor .u32 (bits .and .u32 (wi e) (wi f)) (bits .and .u32 (bits .xor .u32 IntKind.u32.max (wi e)) (wi g))+wi k+wi w)%4294967296 =
 wi (h+(rr e 6 ^^^ rr e 11 ^^^ rr e 25)+(e &&& f ^^^ ~~~ e &&& g)+k+w):=by
 rw[zqq,zvk,xz,xz,zep,zep,xz,←zcn,←zcn,←zcn,←zcn];simp only[IntKind.wrap_u32'];omega
theorem zvm(a b c:BitVec 32):(bits .xor .u32 (bits .xor .u32 (wi (rr a 2)) (wi (rr a 13))) (wi (rr a 22))+bits .xor .u32 (bits .xor .u32 (bits .and .u32 (wi a) (wi b)) (bits .and .u32 (wi a) (wi c))) (bits .and .u32 (wi b) (wi c)))%4294967296 =
 wi ((rr a 2 ^^^ rr a 13 ^^^ rr a 22)+(a &&& b ^^^ a &&& c ^^^ b &&& c)):=by
 rw[xz,xz,zep,zep,zep,xz,xz,←zcn,IntKind.wrap_u32']
theorem ks(a b:BitVec 32):(wi a+wi b)%4294967296=wi (a+b):=by rw[←zcn,IntKind.wrap_u32']
def W8.at(s:W8)(i:Nat):BitVec 32:=s.ws.getD i 0
theorem W8.arr_wa(s:W8):s.arr=wa 8 s.at:=rfl
theorem RowS.row{w:World}{B:Nat}{s:W8}(h:RowS w B s):RowW w B 8 133 s.at:=h
def addP(x s:W8)(k j:Nat):BitVec 32:=if j<k then x.at j+s.at j else x.at j
theorem zot(x s:W8):∀ i,i<8→addP x s 8 i=(x.add s).at i:=by
 intro i hi;unfold addP;rw[if_pos hi]
 match i,hi with
 | 0,_=>rfl
 | 1,_=>rfl
 | 2,_=>rfl
 | 3,_=>rfl
 | 4,_=>rfl
 | 5,_=>rfl
 | 6,_=>rfl
 | 7,_=>rfl
theorem zty{w:World}{R:Nat}{X s:W8}(h:RowW w R 8 133 (addP X s 8)):RowS w R (X.add s):=by
 have h2:=h.congr (zot X s);unfold RowS;rw[W8.arr_wa];exact h2
theorem zqh{w:World}{R:Nat}{X s:W8}(h:RowS w R X):RowW w R 8 133 (addP X s 0):=by
 refine h.row.congr fun i _=>?_;unfold addP;rw[if_neg (Nat.not_lt_zero _)]
theorem znh(m:List UInt8)(s:W8)(k:Nat):rds m s (k+1)=rd (kv k) (wv m k) (rds m s k):=rfl
theorem zng(m:List UInt8)(s:W8):rds m s 0=s:=rfl
theorem zst{ops:Array Oper}{rest:List Oper}{op:Oper}{ac:Act}{w:World}{Q:Exit→Act→World→Prop}(hgd:op.guard=none)(d' s':Operand)
 (ho:op.op=.call { callee:=.builtin .copy,args:=#[d',s'],argTypes:=#[148,148] }) {R:Nat} {a b c d e f g h:BitVec 32} (hx:RowS w R ⟨a,b,c,d,e,f,g,h⟩)
 (hd:ac.eval d'=.slice (some ⟨R,1,none⟩) 7 7) (hs:ac.eval s'=.slice (some ⟨R,0,none⟩) 7 8)
 (H:∀ w',RowS w' R ⟨a,a,b,c,d,e,f,g⟩→Below R w w'→wpList Tryz.prog ops Q rest (ac.put op.dst (goInt 7)) w'):wpList Tryz.prog ops Q (op::rest) ac w:=by
 refine wpList_copy_splice hgd d' s' 148 148 ho 131 (Tryz.underlying148) (by kernel_rfl) (some ⟨R,1,none⟩) (some ⟨R,0,none⟩) 7 7 7 8 hd hs R 1 (W8.arr ⟨a,b,c,d,e,f,g,h⟩).toList 133 hx [.int .u32 (wi a),.int .u32 (wi b),.int .u32 (wi c),.int .u32 (wi d),.int .u32 (wi e),.int .u32 (wi f),.int .u32 (wi g)] rfl (fun _=>⟨rfl,_,rfl,fun j v hv=>?_⟩) nlr (by intro v hv;simp only[List.mem_cons,List.not_mem_nil,or_false]at hv;rcases hv with h | h | h | h | h | h | h<;>(rw[h];rfl)) R w blr nlr (fun w' h1 h2=>H w' h1 h2);have hj:j<7:=(List.getElem?_eq_some_iff.1 hv).1;rw[show (⟨R,0,none⟩:Addr).add j=⟨R,j,none⟩from by unfold Addr.add;simp;exact fun h=>h.symm];refine hx.cell j ?_;rw[←hv]
 match j,hj with
 | 0,_=>rfl
 | 1,_=>rfl
 | 2,_=>rfl
 | 3,_=>rfl
 | 4,_=>rfl
 | 5,_=>rfl
 | 6,_=>rfl
theorem RowS.set4{w:World}{B:Nat}{a b c d e f g h:BitVec 32}(H:RowS w B ⟨a,b,c,d,e,f,g,h⟩)(x:BitVec 32):RowS (w.setCell ⟨B,4,none⟩ (.int .u32 (wi x))) B ⟨a,b,c,d,x,f,g,h⟩:=zl H _
theorem RowS.set0{w:World}{B:Nat}{a b c d e f g h:BitVec 32}(H:RowS w B ⟨a,b,c,d,e,f,g,h⟩)(x:BitVec 32):RowS (w.setCell ⟨B,0,none⟩ (.int .u32 (wi x))) B ⟨x,b,c,d,e,f,g,h⟩:=zl H _
theorem zxi(s:W8)(m:List UInt8)(b o cap:Nat)(w:World)(hm:BytesAt w (some ⟨b,o,none⟩) 64 cap m):Calls Tryz.prog 79 #[.agg s.arr,.slice (some ⟨b,o,none⟩) 64 cap] w (Ret (.agg (blk s m).arr) w):=by
 have HM:=Hq hm;clear hm;obtain⟨sa,hsa⟩:=nm (s.arr);have HSA:=Hq hsa;rw[hsa];obtain⟨Y,hY⟩:=nm (blk s m);have HY:=Hq hY;rw[hY];clear hY;clear hsa;go_enter Tryz.func79,Tryz.ntmps79;go_wp2_with fail;obtain⟨w0,hw0⟩:=nm ((w.alloc (.cells sa 133)).alloc (.cells #[.int .u32 0,.int .u32 0,.int .u32 0,.int .u32 0,.int .u32 0,.int .u32 0,.int .u32 0,.int .u32 0] 133));have hb0:Below w.heap.size w w0:=hw0▸((blr).alloc nlr _).alloc (by simp) _;have hr0:RowS w0 w.heap.size s:=by rw[←hw0];unfold RowS;rw[heap_alloc_old _ _ (by simp),HSA.out];exact heap_alloc_new _ _
 have hz0:w0.heap[w.heap.size+1]? =some (.cells z8 133 (0,0)):=by rw[←hw0];exact heap_alloc2_new _ _ _
 rw[hw0];clear hw0;refine(zms w0).mono ?_;rintro e w1 ⟨rfl,hb1⟩;dsimp only;go_wp2_with fail;refine(zpz m b o cap w1 ((HM.out.kept hb0).kept hb1)).mono ?_;rintro e w2 ⟨rfl,hb2⟩;dsimp only;have hb02:Below w0.heap.size w0 w2:=hb1.trans (hb2.mono hb1.size);have HB2:=Hq (show Below w.heap.size w w2 from hb0.trans (hb02.mono hb0.size));have HR2:=Hq (show RowS w2 w.heap.size s from hr0.kept hb02 hr0.lt);have HZ2:=Hq (show w2.heap[w.heap.size+1]? =some (.cells z8 133 (0,0))from(hb02.block _ (zn hz0)).trans hz0);clear hb0 hr0 hz0 hb1 hb2 hb02;obtain⟨H,hH⟩:=nm (w.heap.size);rw[hH]at HB2 HR2 HZ2⊢;go_step;obtain⟨hrk,hrw,hb6⟩:=ztg w2 kv (wv m) 171;obtain⟨P,hP⟩:=nm (w2.heap.size);have hHP:H+1<P:=by rw[←hP];exact zn HZ2.out
 have ek:((w2.alloc (.cells z64 171)).alloc (.cells z64 171)).heap[P]? =some (.cells z64 171 (0,0)):=by rw[←hP,heap_alloc_old _ _ (by simp)];exact heap_alloc_new _ _
 have ew:(((w2.alloc (.cells z64 171)).alloc (.cells z64 171)).setRow P (wa 64 kv)).heap[P+1]? =some (.cells z64 171 (0,0)):=by rw[←hP,setRow_other _ _ _ _ (by omega)];exact heap_alloc2_new _ _ _
 have ez:(w2.alloc (.cells z64 171)).heap.size=P+1:=by rw[←hP];exact World.size_alloc _ _
 refine Great.wpList_allocTo rfl _ rfl (.pointer (some ⟨P,0,none⟩)) (.cells z64 171) (by rw[←hP];kernel_rfl) ?_;rw[hP]at hrk hrw hb6;obtain⟨w3,hw3⟩:=nm (w2.alloc (.cells z64 171));rw[hw3]at hrk hrw hb6 ek ew ez⊢;refine Great.wpList_allocTo rfl _ rfl (.pointer (some ⟨P+1,0,none⟩)) (.cells z64 171) (by rw[←ez];kernel_rfl) ?_;refine wpList_store_rowTo rfl 171 _ _ rfl rfl P (wa 64 kv) (by kernel_rfl) (by kernel_rfl) 171 z64 ek (by rw[xt];kernel_rfl) (by rw[xt];kernel_rfl) (zm4 _ _) ?_;refine wpList_store_rowTo rfl 171 _ _ rfl rfl (P+1) (wa 64 (wv m)) (by kernel_rfl) (by kernel_rfl) 171 z64 ew (by rw[xt];kernel_rfl) (by rw[xt];kernel_rfl) (zm4 _ _) ?_;obtain⟨w6,hw6⟩:=nm (((w3.alloc (.cells z64 171)).setRow P (wa 64 kv)).setRow (P+1) (wa 64 (wv m)));rw[hw6]at hrk hrw hb6⊢;have HB6:=Hq (show Below H w w6 from HB2.out.trans (hb6.mono (by omega)));have HR6:=Hq (show RowS w6 H s from HR2.out.kept hb6 (by omega));have HZ6:=Hq (show w6.heap[H+1]? =some (.cells z8 133 (0,0))from(hb6.block _ (by omega)).trans HZ2.out);have HK:=Hq hrk;have HW:=Hq hrw;clear hw6 ek ew ez hw3 hrk hrw hb6 HB2 HR2 HZ2;have hz6:w6.heap.size=w6.heap.size:=rfl;iterate 5 go_step
 refine wpList_load_row rfl 133 _ rfl H rfl 133 s.arr (0,0) _ HR6.out Tryz.underlying133 rfl (by kernel_rfl) ?_;obtain⟨R,hR⟩:=nm (w6.heap.size);refine Great.wpList_allocTo rfl _ rfl (.pointer (some ⟨R,0,none⟩)) (.cells z8 133) (by rw[←hR];kernel_rfl) ?_;refine wpList_store_rowTo rfl 133 _ _ rfl rfl R s.arr (by kernel_rfl) (by kernel_rfl) 133 z8 (by rw[←hR];exact heap_alloc_new _ _) (by kernel_rfl) (by kernel_rfl) (W8.arr_one _) ?_;rw[←hR,World.setRow_alloc_new];obtain⟨w7,hw7⟩:=nm (w6.alloc (.cells s.arr 133));have hb7:Below R w6 w7:=hR▸hw7▸(blr).alloc nlr _;have hPR:P+1<R:=by rw[←hR];exact zn HW.out
 have HX:=Hq (show RowS w7 R s from by rw[←hw7,←hR];exact heap_alloc_new _ _);have HB:=Hq (show Below H w w7 from HB6.out.trans (hb7.mono (by omega)));have HS:=Hq (show RowS w7 H s from HR6.out.kept hb7 (by omega));have HZ:=Hq (show w7.heap[H+1]? =some (.cells z8 133 (0,0))from(hb7.block _ (by omega)).trans HZ6.out);have HK7:=Hq (HK.out.kept hb7 (by omega));have HW7:=Hq (HW.out.kept hb7 (by omega));rw[hw7,hR];clear hw7 hb7 HB6 HR6 HZ6 HK HW hz6;go_wp2;go_loopw [22] (fun i wr=>∃ k:Nat,k≤64∧i=.int .i64 k∧RowS wr R (rds m s k)∧Below R w7 wr) (fun i _=>64 - (intOf i).toNat);case atStart=>exact⟨0,by omega,rfl,by rw[zng];exact HX.out,Below.refl _ _⟩
 case round =>
  obtain⟨k,hk,rfl,hx,hb⟩:=hrel;have HX2:=Hq hx;have HBR:=Hq hb;clear hx hb;by_cases hlt:k<64
  · have hlti:(k:Int)<64:=by omega
    obtain⟨⟨a,b',c,d,e,f,g,hh⟩,hst⟩:∃ x,rds m s k=x:=⟨_,rfl⟩;have HST:=Hq hst;rw[hst]at HX2;clear hst;obtain⟨c0,c1,c2,c3,c4,c5,c6,c7⟩:=HX2.out.drew.c8;clear c3 c7;obtain⟨_,_,_,_,_,_,_,c7⟩:=HX2.out.drew.drew.c8;have ck:=(HK7.out.kept HBR.out (by omega)).drew.drew.cell hlt;have cw:=(HW7.out.kept HBR.out (by omega)).drew.drew.cell hlt;obtain⟨kk,hkk⟩:=nm (kv k);obtain⟨ww,hww⟩:=nm (wv m k);rw[hkk]at ck;rw[hww]at cw;have HKK:=Hq hkk;have HWW:=Hq hww;clear hkk hww;obtain⟨wd,hwd⟩:=nm (wr.drew);obtain⟨we,hwe⟩:=nm (wd.drew);rw[hwd]at c0 c1 c2 c4 c5 c6 c7 ck cw;rw[hwe]at c7 ck cw;go_wp2;refine za 18 (Eq wd) (by kernel_rfl) ?_;rw[hwd];have KK1:=Hq (fun w' (hS':(Eq wd) w')=>And.intro ((hS'▸c0)) (And.intro ((hS'▸c1)) (And.intro ((hS'▸c2)) (And.intro ((hS'▸c4)) (And.intro ((hS'▸c5)) ((hS'▸c6)))))));refine rPs 0 25 17 rfl ?_;refine rTs 1 26 16 rfl KK1.out ?_;refine rPs 2 27 15 rfl ?_;refine rTs 3 28 14 rfl KK1.out ?_;refine rPs 4 29 13 rfl ?_;refine rTs 5 30 12 rfl KK1.out ?_;refine rPs 6 31 11 rfl ?_;refine rTs 7 32 10 rfl KK1.out ?_;refine rPs 8 33 9 rfl ?_;refine rTs 9 34 8 rfl KK1.out ?_;refine rPs 10 35 7 rfl ?_;refine rTs 11 36 6 rfl KK1.out ?_;refine rO 12 5 ?_;intro K12 hK12;go_wp2;refine hK12 _ _ (by rfl) ?_;clear hK12;intro hS_6_12;refine rO 13 4 ?_;intro K13 hK13;go_wp2;refine hK13 _ _ (by rfl) ?_;clear hK13;intro hS_6_13;refine rO 14 3 ?_;intro K14 hK14;go_wp2;refine hK14 _ _ (by rfl) ?_;clear hK14;intro hS_6_14;refine rO 15 2 ?_;intro K15 hK15;go_wp2;refine hK15 _ _ (by rfl) ?_;clear hK15;intro hS_6_15;refine rO 16 1 ?_;intro K16 hK16;go_wp2;refine hK16 _ _ (by rfl) ?_;clear hK16;intro hS_6_16;refine rO 17 0 ?_;intro K17 hK17;go_wp2;refine hK17 _ _ (by rfl) ?_;clear hK17;intro hS_6_17;refine wDn ?_;go_wp2;refine za 29 (Eq we) (by kernel_rfl) ?_;rw[hwe];refine rPs 0 37 28 rfl ?_;refine rTs 1 38 27 rfl (fun w' hS'=>(And.intro ((hS'▸c7)) (And.intro ((hS'▸ck)) ((hS'▸cw))))) ?_;refine rPs 2 39 26 rfl ?_;refine rPs 4 41 25 rfl ?_;refine rPs 7 44 24 rfl ?_;refine rPs 11 48 23 rfl ?_;refine rPs 12 49 22 rfl ?_;refine rPs 13 50 21 rfl ?_;refine rPs 14 51 20 rfl ?_;refine rPs 15 52 19 rfl ?_;refine rPs 16 53 18 rfl ?_;refine rPs 17 54 17 rfl ?_;refine rPs 18 55 16 rfl ?_;refine rPs 20 57 15 rfl ?_;refine rPs 21 58 14 rfl ?_;refine rTs 22 59 13 rfl (fun w' hS'=>(And.intro ((hS'▸c7)) (And.intro ((hS'▸ck)) ((hS'▸cw))))) ?_;refine rPs 24 61 12 rfl ?_;refine rPs 25 62 11 rfl ?_;refine rTs 26 63 10 rfl (fun w' hS'=>(And.intro ((hS'▸c7)) (And.intro ((hS'▸ck)) ((hS'▸cw))))) ?_;refine rO 3 9 ?_;intro K3 hK3;go_wp2_with fail;refine(zb4 e 6 (by decide) (by decide) _).mono ?_;rintro e' w1 ⟨rfl,rfl⟩;go_wp2;refine hK3 _ _ (by rfl) ?_;clear hK3;intro hS_7_3;refine rO 5 8 ?_;intro K5 hK5;go_wp2_with fail;refine(zb4 e 11 (by decide) (by decide) _).mono ?_;rintro e' w1 ⟨rfl,rfl⟩;go_wp2;refine hK5 _ _ (by rfl) ?_;clear hK5;intro hS_7_5;refine rPs 6 43 7 hS_7_5 ?_;refine rO 8 6 ?_;intro K8 hK8;go_wp2_with fail;refine(zb4 e 25 (by decide) (by decide) _).mono ?_;rintro e' w1 ⟨rfl,rfl⟩;go_wp2;refine hK8 _ _ (by rfl) ?_;clear hK8;intro hS_7_8;refine rPs 9 46 5 hS_7_8 ?_;refine rPs 10 47 4 hS_7_8 ?_;refine rPs 19 56 3 hS_7_8 ?_;refine rPs 23 60 2 hS_7_8 ?_;refine rPs 27 64 1 hS_7_8 ?_;refine rO 28 0 ?_;intro K28 hK28;go_wp2;refine hK28 _ _ (by rfl) ?_;clear hK28;intro hS_7_28;refine wDn ?_;clear c0 c1 c2 c4 c5 c6 c7 ck cw;rw[zx8];obtain⟨T,hT⟩:=nm (hh+(rr e 6 ^^^ rr e 11 ^^^ rr e 25)+(e &&& f ^^^ ~~~ e &&& g)+kk+ww);have HT:=Hq hT;rw[hT];clear hT;go_wp2_with fail;refine(zb4 a 2 (by decide) (by decide) _).mono ?_;rintro e' w1 ⟨rfl,rfl⟩;go_wp2_with fail;refine(zb4 a 13 (by decide) (by decide) _).mono ?_;rintro e' w1 ⟨rfl,rfl⟩;go_wp2_with fail;refine(zb4 a 22 (by decide) (by decide) _).mono ?_;rintro e' w1 ⟨rfl,rfl⟩;go_wp2;rw[zvm];obtain⟨U,hU⟩:=nm ((rr a 2 ^^^ rr a 13 ^^^ rr a 22)+(a &&& b' ^^^ a &&& c ^^^ b' &&& c));have HU:=Hq hU;rw[hU];clear hU;obtain⟨wf,hwf⟩:=nm (we.drew);have HXF:=Hq (show RowS wf R ⟨a,b',c,d,e,f,g,hh⟩from by rw[←hwf,←hwe,←hwd];exact HX2.out);have HBF:=Hq (show Below R w7 wf from by rw[←hwf,←hwe,←hwd];exact HBR.out.drew.drew.drew);refine za 2 (Eq wf) (by kernel_rfl) ?_;rw[hwf];refine qPDs 0 85 2 rfl ?_;refine qPDs 1 86 1 rfl ?_;refine oT 2 0 ?_;intro K2 hK2;refine zst rfl (.tmp 85) (.tmp 86) rfl HXF.out rfl rfl ?_;intro wg hxg hbg;have HXG:=Hq hxg;have HBG:=Hq (show Below R w7 wg from HBF.out.trans hbg);clear hxg hbg;go_wp2;refine hK2 _ _ ?_;clear hK2;refine wDn ?_;obtain⟨g0,g1,g2,g3,g4,g5,g6,g7⟩:=HXG.out.c8;have gf0:=HXG.out.free 0;have gf4:=HXG.out.free 4;clear g1 g2 g3 g5 g6 g7;go_wp2;rw[ks,ks];go_roundw;case rel =>
     refine⟨k+1,by omega,by go_num,?_,?_⟩
     · rw[znh,HST.out,HKK.out,HWW.out];have:=(HXG.out.set4 (d+T)).set0 (T+U);rw[←HT.out,←HU.out]at this⊢;exact this
     · exact(HBG.out.setCell nlr _).setCell nlr _
    case measure=>simp[intOf];omega
  · have HK64:=Hq (show k=64 from by omega);have hge:¬ ((k:Int)<64):=by omega
    clear hk hlt;have HX3:=Hq (show RowS wr R (rds m s 64)from by rw[←HK64.out];exact HX2.out);have HS3:=Hq (HS.out.kept HBR.out (by omega));have HZ3:=Hq (show wr.heap[H+1]? =some (.cells z8 133 (0,0))from(HBR.out.block _ (by omega)).trans HZ.out);have HB3:=Hq (show Below H w wr from HB.out.trans (HBR.out.mono (by omega)));clear HX2 HK64 HX HS HZ HB HK7 HW7 HBR;go_wp2;obtain⟨X,hX⟩:=nm (rds m s 64);rw[hX]at HX3;have HXX:=Hq hX;clear hX;go_loopw [98] (fun i wq=>∃ q:Nat,q≤8∧i=.int .i64 q∧RowW wq R 8 133 (addP X s q)∧Below R wr wq) (fun i _=>8 - (intOf i).toNat);case atStart=>exact⟨0,by omega,rfl,zqh HX3.out,Below.refl _ _⟩
    case round =>
     obtain⟨q,hq,rfl,hx,hb⟩:=hrel;have HXQ:=Hq hx;have HBQ:=Hq hb;clear hx hb;by_cases hq8:q<8
     · have hqi:(q:Int)<8:=by omega
       have c0:=HXQ.out.drew.cell hq8;have c1:=(HS3.out.row.kept HBQ.out (by omega)).drew.cell hq8;have hf:=HXQ.out.drew.free q;obtain⟨x,hx⟩:=nm (addP X s q q);obtain⟨y,hy⟩:=nm (s.at q);have HE:=Hq (show addP X s (q+1) q=x+y from by rw[←hx,←hy];unfold addP;rw[if_pos (by omega),if_neg (by omega)]);rw[hx]at c0;rw[hy]at c1;clear hx hy;obtain⟨wd,hwd⟩:=nm (wr.drew);rw[hwd]at c0 c1 hf;go_wp2;refine za 8 (Eq wd) (by kernel_rfl) ?_;rw[hwd];refine qPDs 0 101 8 rfl ?_;refine qPDs 1 102 7 rfl ?_;refine qTDs 2 103 6 rfl (fun w' hS'=>(And.intro ((hS'▸c0)) ((hS'▸c1)))) ?_;refine qPDs 3 104 5 rfl ?_;refine qPDs 4 105 4 rfl ?_;refine qTDs 5 106 3 rfl (fun w' hS'=>(And.intro ((hS'▸c0)) ((hS'▸c1)))) ?_;refine qPDs 6 107 2 rfl ?_;refine qPDs 7 108 1 rfl ?_;refine oT 8 0 ?_;intro K8 hK8;go_wp2;refine hK8 _ _ ?_;clear hK8;refine wDn ?_;clear c0 c1 hf;rw[ks];go_wp2;go_roundw;case rel =>
        refine⟨q+1,by omega,by go_num,?_,?_⟩
        · rw[←hwd];refine(HXQ.out.drew.set q (x+y)).congr fun i hi=>?_;by_cases e:i=q
          · rw[if_pos e,e,HE.out]
          · rw[if_neg e];unfold addP;by_cases h:i<q
            · rw[if_pos h,if_pos (by omega)]
            · rw[if_neg h,if_neg (by omega)]
        · rw[←hwd];exact HBQ.out.drew.setCell nlr _
       case measure=>simp[intOf];omega
     · have HQ:=Hq (show q=8 from by omega);have hqe:¬ ((q:Int)<8):=by omega
       clear hq hq8;have HXE:=Hq (show RowS wr R Y from by
        have h:=HXQ.out;rw[HQ.out]at h;rw[←HY.out];unfold blk;rw[HXX.out]
        exact zty h)
       have HZE:=Hq (show wr.heap[H+1]? =some (.cells z8 133 (0,0))from(HBQ.out.block _ (by omega)).trans HZ3.out);have HBE:=Hq (show Below H w wr from HB3.out.trans (HBQ.out.mono (by omega)));clear HXQ HBQ HX3 HS3 HZ3 HB3;go_wp2_with (first
        | refine wpList_load_row rfl 133 _ rfl R rfl 133 Y.arr (0,0) _ HXE.out Tryz.underlying133 rfl (by kernel_rfl) ?_
        | refine wpList_store_rowTo rfl 133 _ _ rfl rfl (H+1) Y.arr rfl rfl 133 z8 HZE.out (by kernel_rfl) (by kernel_rfl) (W8.arr_one _) ?_)
       refine bodyPost_ret (v:=.agg Y.arr) (results_cell_row rfl _ _ (H+1) 133 Y.arr (0,0) _ rfl (setRow_heap _ _ _ _ _ _ HZE.out) Tryz.underlying133 rfl (by kernel_rfl)) rfl ⟨rfl,?_⟩;rw[hH];exact below_setRow HBE.out (by omega) _
end Go.Proofs.YtppbcopnfankcaaGreat

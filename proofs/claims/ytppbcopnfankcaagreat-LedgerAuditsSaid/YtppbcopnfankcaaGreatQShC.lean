import Derived.Test.YtppbcopnfankcaaGreatQGsh
import Derived.Test.YtppbcopnfankcaaGreatQKnu
import Derived.Great.Walk
import Derived.Laws.CopyOwn
set_option linter.unusedVariables false
set_option linter.unusedSimpArgs false
namespace Go.Proofs.YtppbcopnfankcaaGreat
def wi(x:BitVec 32):Int:=(x.toNat:Int)
theorem xz(a b:BitVec 32):bits .xor .u32 (wi a) (wi b)=wi (a ^^^ b):=by
 unfold wi;rw[u32_xor_nat _ _ a.isLt b.isLt,BitVec.toNat_xor]
theorem zep(a b:BitVec 32):bits .and .u32 (wi a) (wi b)=wi (a &&& b):=by
 unfold wi;rw[u32_and_nat _ _ a.isLt b.isLt,BitVec.toNat_and]
theorem zx5(a b:BitVec 32):bits .or .u32 (wi a) (wi b)=wi (a ||| b):=by
 unfold wi;rw[u32_or_nat _ _ a.isLt b.isLt,BitVec.toNat_or]
theorem zvk(a:BitVec 32):bits .xor .u32 4294967295 (wi a)=wi (~~~ a):=by
 have : (4294967295:Int)=wi (BitVec.allOnes 32):=rfl;rw[this,xz,BitVec.allOnes_xor]
theorem zcn(a b:BitVec 32):IntKind.u32.wrap (wi a+wi b)=wi (a+b):=by
 unfold wi;rw[IntKind.wrap_u32',BitVec.toNat_add];omega
theorem zx3(a:BitVec 32)(n:Nat):(wi a).fdiv (2 ^ n)=wi (a >>> n):=by
 unfold wi;rw[BitVec.toNat_ushiftRight,Nat.shiftRight_eq_div_pow];rw[Int.fdiv_eq_ediv_of_nonneg _ (Int.pow_nonneg (by decide))];simp
theorem zx4(a:BitVec 32)(n:Nat):IntKind.u32.wrap (wi a * 2 ^ n)=wi (a <<< n):=by
 unfold wi;rw[IntKind.wrap_u32',BitVec.toNat_shiftLeft,Nat.shiftLeft_eq];simp
structure W8 where
 a:BitVec 32
 b:BitVec 32
 c:BitVec 32
 d:BitVec 32
 e:BitVec 32
 f:BitVec 32
 g:BitVec 32
 h:BitVec 32
def rr(x:BitVec 32)(n:Nat):BitVec 32:=x >>> n ||| x <<< (32 - n)
def sg0(x:BitVec 32):BitVec 32:=rr x 7 ^^^ rr x 18 ^^^ x >>> 3
def sg1(x:BitVec 32):BitVec 32:=rr x 17 ^^^ rr x 19 ^^^ x >>> 10
def wd(m:List UInt8)(i:Nat):BitVec 32:=BitVec.ofNat 32 ((((m.getD (4 * i) 0).toNat * 256+(m.getD (4 * i+1) 0).toNat) * 256+(m.getD (4 * i+2) 0).toNat) * 256+(m.getD (4 * i+3) 0).toNat)
def wf(w:List (BitVec 32))(n:Nat):BitVec 32:=w.getD (n - 16) 0+sg0 (w.getD (n - 15) 0)+w.getD (n - 7) 0+sg1 (w.getD (n - 2) 0)
def wl(m:List UInt8):Nat→List (BitVec 32)
 | 0=>[]
 | n+1=>wl m n++[if n<16 then wd m n else wf (wl m n) n]
theorem zeo(m:List UInt8)(n:Nat):(wl m n).length=n:=by
 induction n with
 | zero=>rfl
 | succ n ih=>simp[wl,ih]
def wv(m:List UInt8)(i:Nat):BitVec 32:=(wl m (i+1)).getD i 0
theorem zm3(m:List UInt8){n i:Nat}(h:i<n):(wl m n).getD i 0=wv m i:=by
 induction n with
 | zero=>omega
 | succ n ih =>
  rcases Nat.lt_or_ge i n with h1 | h1
  · rw[←ih h1,wl,List.getD_eq_getElem?_getD,List.getElem?_append_left (by rw[zeo];exact h1),←List.getD_eq_getElem?_getD]
  · have : i=n:=by omega
    subst this;rfl
theorem zx2(m:List UInt8)(i:Nat):wv m i=if i<16 then wd m i else wf (wl m i) i:=by
 unfold wv;rw[wl,List.getD_eq_getElem?_getD,List.getElem?_append_right (by rw[zeo];exact Nat.le_refl _),zeo,Nat.sub_self];rfl
theorem zvj(m:List UInt8){i:Nat}(h:i<16):wv m i=wd m i:=by rw[zx2,if_pos h]
theorem zqj(m:List UInt8){i:Nat}(h:16≤i):wv m i=wv m (i - 16)+sg0 (wv m (i - 15))+wv m (i - 7)+sg1 (wv m (i - 2)):=by
 rw[zx2,if_neg (by omega)];unfold wf;rw[zm3 m (by omega),zm3 m (by omega),zm3 m (by omega),zm3 m (by omega)]
def kL:List Nat:=[
 0x428a2f98,0x71374491,0xb5c0fbcf,0xe9b5dba5,0x3956c25b,0x59f111f1,0x923f82a4,0xab1c5ed5,
 0xd807aa98,0x12835b01,0x243185be,0x550c7dc3,0x72be5d74,0x80deb1fe,0x9bdc06a7,0xc19bf174,
 0xe49b69c1,0xefbe4786,0x0fc19dc6,0x240ca1cc,0x2de92c6f,0x4a7484aa,0x5cb0a9dc,0x76f988da,
 0x983e5152,0xa831c66d,0xb00327c8,0xbf597fc7,0xc6e00bf3,0xd5a79147,0x06ca6351,0x14292967,
 0x27b70a85,0x2e1b2138,0x4d2c6dfc,0x53380d13,0x650a7354,0x766a0abb,0x81c2c92e,0x92722c85,
 0xa2bfe8a1,0xa81a664b,0xc24b8b70,0xc76c51a3,0xd192e819,0xd6990624,0xf40e3585,0x106aa070,
 0x19a4c116,0x1e376c08,0x2748774c,0x34b0bcb5,0x391c0cb3,0x4ed8aa4a,0x5b9cca4f,0x682e6ff3,
 0x748f82ee,0x78a5636f,0x84c87814,0x8cc70208,0x90befffa,0xa4506ceb,0xbef9a3f7,0xc67178f2]
def kv(i:Nat):BitVec 32:=BitVec.ofNat 32 (kL.getD i 0)
def tv(k w:BitVec 32)(s:W8):BitVec 32:=s.h+(rr s.e 6 ^^^ rr s.e 11 ^^^ rr s.e 25)+(s.e &&& s.f ^^^ ~~~ s.e &&& s.g)+k+w
def uv(s:W8):BitVec 32:=(rr s.a 2 ^^^ rr s.a 13 ^^^ rr s.a 22)+(s.a &&& s.b ^^^ s.a &&& s.c ^^^ s.b &&& s.c)
def rd(k w:BitVec 32)(s:W8):W8:=⟨tv k w s+uv s,s.a,s.b,s.c,s.d+tv k w s,s.e,s.f,s.g⟩
def rds(m:List UInt8)(s:W8):Nat→W8
 | 0=>s
 | n+1=>rd (kv n) (wv m n) (rds m s n)
def W8.add(s t:W8):W8:=⟨s.a+t.a,s.b+t.b,s.c+t.c,s.d+t.d,s.e+t.e,s.f+t.f,s.g+t.g,s.h+t.h⟩
def blk(s:W8)(m:List UInt8):W8:=(rds m s 64).add s
def st0:W8:=⟨BitVec.ofNat 32 0x6a09e667,BitVec.ofNat 32 0xbb67ae85,BitVec.ofNat 32 0x3c6ef372,BitVec.ofNat 32 0xa54ff53a,BitVec.ofNat 32 0x510e527f,BitVec.ofNat 32 0x9b05688c,BitVec.ofNat 32 0x1f83d9ab,BitVec.ofNat 32 0x5be0cd19⟩
def blks(s:W8):Nat→List UInt8→W8
 | 0,_=>s
 | n+1,m=>blks (blk s (m.take 64)) n (m.drop 64)
theorem zl0(s:W8)(n:Nat)(m:List UInt8):blks s (n+1) m=blk (blks s n m) ((m.drop (64 * n)).take 64):=by
 induction n generalizing s m with
 | zero=>simp[blks]
 | succ n ih=>rw[blks,ih,blks,List.drop_drop];congr 3;omega
def shE8(n:Nat):List UInt8:=[UInt8.ofNat (n / 2 ^ 56),UInt8.ofNat (n / 2 ^ 48),UInt8.ofNat (n / 2 ^ 40),UInt8.ofNat (n / 2 ^ 32),UInt8.ofNat (n / 2 ^ 24),UInt8.ofNat (n / 2 ^ 16),UInt8.ofNat (n / 2 ^ 8),UInt8.ofNat n]
def zs(n:Nat):Nat:=(119 - n%64)%64
def padL(l:List UInt8):List UInt8:=l++[128]++List.replicate (zs l.length) 0++shE8 (l.length * 8)
theorem zca(l:List UInt8):(padL l).length=l.length+zs l.length+9:=by simp[padL,shE8];omega
theorem znl(l:List UInt8):(padL l).length%64=0:=by rw[zca];unfold zs;omega
def wo(x:BitVec 32):List UInt8:=[UInt8.ofNat (x.toNat / 2 ^ 24),UInt8.ofNat (x.toNat / 2 ^ 16),UInt8.ofNat (x.toNat / 2 ^ 8),UInt8.ofNat x.toNat]
def W8.ws(s:W8):List (BitVec 32):=[s.a,s.b,s.c,s.d,s.e,s.f,s.g,s.h]
def shaL(l:List UInt8):List UInt8:=(blks st0 ((padL l).length / 64) (padL l)).ws.flatMap wo
theorem qv(l:List UInt8):(shaL l).length=32:=by simp[shaL,W8.ws,wo]
def xorL(k:List UInt8)(x:UInt8):List UInt8:=(List.range 64).map fun i=>k.getD i 0 ^^^ x
def macL(k l:List UInt8):List UInt8:=
 let k:=if 64<k.length then shaL k else k
 shaL (xorL k 92++shaL (xorL k 54++l))
open Go.RowKit
def ptL(l:List (List UInt8)):List UInt8:=l.flatMap fun s=>shE8 s.length++s
def frL(k:UInt8)(l:List (List UInt8)):List UInt8:=k::shE8 l.length++ptL l
def trH(k:UInt8)(l:List (List UInt8)):List UInt8:=shaL (frL k l)
theorem zi1(l:List (List UInt8))(s:List UInt8):ptL (l++[s])=ptL l++shE8 s.length++s:=by simp[ptL]
theorem zph(l:List (List UInt8)):(ptL l).length=8 * l.length+(l.map List.length).sum:=by
 induction l with
 | nil=>rfl
 | cons a l ih=>simp only[ptL,List.flatMap_cons,List.length_append,List.map_cons,List.sum_cons,List.length_cons]at ih⊢;rw[ih];simp[shE8];omega
theorem zdd(k:UInt8)(l:List (List UInt8)):(trH k l).length=32:=qv _
theorem zo5{l:List (List UInt8)}{m:Nat}(h:∀ s∈l,s.length≤m):(l.map List.length).sum≤l.length * m:=by
 induction l with
 | nil=>simp
 | cons a l ih =>
  have h1:=h a (by simp);have h2:=ih fun s hs=>h s (by simp[hs]);simp only[List.map_cons,List.sum_cons,List.length_cons,Nat.succ_mul];omega
def chL(st:List UInt8)(n q:Nat):Nat:=bnat ((trH 67 [st,shE8 0]).take (n+8))%q
def snL(M O G Y r msg:List UInt8):List UInt8:=
 trH 65 [trH 76 [trH 76 [trH 78 [[115,99,104,110,111,114,114,32,115,105,103,110,97,116,117,114,101]],[107,101,121],M,O,G,Y],[99,111,109,109,105,116,109,101,110,116],r],[109,101,115,115,97,103,101],msg]
def chS(M O G Y:ByteArray)(r:Nat)(msg:ByteArray):Nat:=
 chL (snL M.data.toList O.data.toList G.data.toList Y.data.toList (nS r).data.toList msg.data.toList) O.size (num O)
set_option maxRecDepth 100000
set_option maxHeartbeats 2000000
def KeepS(w w':World):Prop:=∀(g:Nat) (cs:Array Value) (fr:Nat×Nat),w.heap[g]? =some (.cells cs 9 fr)→w'.heap[g]? =some (.cells cs 9 fr)
theorem KeepS.refl(w:World):KeepS w w:=fun _ _ _ h=>h
theorem KeepS.trans{a b c:World}(h:KeepS a b)(k:KeepS b c):KeepS a c:=fun g cs fr e=>k g cs fr (h g cs fr e)
theorem KeepS.below{w w':World}(h:Below w.heap.size w w'):KeepS w w':=fun g cs fr e=>(h.block g (zn e)).trans e
theorem KeepS.set{w:World}{b k:Nat}{cs:Array Value}{T:TypeId}{fr:Nat×Nat}(hb:w.heap[b]? =some (.cells cs T fr))(hT:T≠9)(v:Value):KeepS w (w.setCell ⟨b,k,none⟩ v):=fun g cs' fr' e=>by
 have hne:g≠b:=fun h=>by
  subst h;rw[hb]at e;simp only[Option.some.injEq,Obj.cells.injEq]at e;exact hT e.2.1
 exact(heap_setCell_other _ _ _ _ hne).trans e
theorem zux:liesAt Tryz.prog Tryz.prog.depth 211 (2 / Tryz.prog.cellsOf 211) 0 195 1=true:=by kernel_rfl
theorem zf7(b:Nat)(w:World)(h0:w.cell? ⟨b,0,none⟩=some (.pointer none))(hsh:w.shape? b=some (211,2))(hfz:w.frozen? ⟨b,0,none⟩=false) :
 Calls Tryz.prog 213 #[.pointer (some ⟨b,0,none⟩)] w fun e w'=>e=.returned (.tuple #[])∧w.setCell ⟨b,0,none⟩ (.pointer (some ⟨b,0,none⟩))=w':=by
 obtain⟨j,hj,hjs⟩:=Option.map_eq_some_iff.1 zjw;go_enter Tryz.func213,Tryz.ntmps213;go_wp2;rw[Lib.run_to_unsafe w ⟨b,0,none⟩ Tryz.underlying193 Tryz.underlying259 hj (by rw[hjs];decide) hsh (Nat.zero_lt_succ 1)];simp only[Result.andThen];rw[Oper.upon_value];go_wp2;rw[run_callFunc_extern Tryz.func244 (by kernel_rfl) (by kernel_rfl) (by kernel_rfl) (e:=Extern.AbiNoEscape.same) (by kernel_rfl)];rw[Lib.run_noEscape];simp only[Result.andThen];rw[Oper.upon_value];go_wp2;rw[Lib.run_from_unsafe w ⟨b,0,none⟩ Tryz.underlying259 Tryz.underlying193 hj hsh zux];simp only[Result.andThen];rw[Oper.upon_value];go_wp2;go_end0;exact⟨rfl,rfl⟩
theorem zlm(B b:Nat)(bs:List Value)(w:World)(h:Lib.IsBuilder 211 5 B b bs w) :
 Calls Tryz.prog 213 #[.pointer (some ⟨b,0,none⟩)] w fun e w'=>e=.returned (.tuple #[])∧(Lib.BuilderAt 211 5 B b (.pointer (some ⟨b,0,none⟩)) bs w'∧Below B w w'∧KeepS w w'):=by
 rcases h with h | h
 · refine(zf7 b w h.cell0 h.shape h.frozen0).mono ?_;rintro e w' ⟨rfl,rfl⟩;exact⟨rfl,h.used _,(Below.refl B w).setCell (p:=⟨b,0,none⟩) h.1 _,by obtain⟨_,_,hb,_⟩:=h;exact KeepS.set hb (by decide) _⟩
 · refine(zb5 b w h.cell0).mono ?_;rintro e w' ⟨rfl,rfl⟩;exact⟨rfl,h,Below.refl B _,KeepS.refl _⟩
theorem zbo(B b:Nat)(bs:List Value)(s:ByteArray)(w:World)(h:Lib.IsBuilder 211 5 B b bs w)(hlen:bs.length+s.size≤140737488355328)(hBw:B≤w.heap.size) :
 Calls Tryz.prog 160 #[.pointer (some ⟨b,0,none⟩),.string s] w fun e w'=>e=.returned (.tuple #[.int .i64 s.size,.nilIface]) ∧
  (Lib.IsBuilder 211 5 B b (bs++Lib.strCells s) w'∧Below B w w'∧KeepS w w'):=by
 obtain⟨i0,hi,hz0,hz1,hz2⟩:=info_parts zh7;go_enter Tryz.func160,Tryz.ntmps160;go_wp2_with fail;refine(zlm B b bs _ h).mono ?_;rintro e w1 ⟨rfl,h1,hb1,hk1⟩;obtain⟨hB,v,hbk,hown,hne⟩:=h1;have c0:w1.cell? ⟨b,0,none⟩=some (.pointer (some ⟨b,0,none⟩)):=by rw[Lib.cell_of_heap hbk];rfl
 have c1:w1.cell? ⟨b,1,none⟩=some v:=by rw[Lib.cell_of_heap hbk];rfl
 go_wp2_with (at_builtin;refine Lib.wpList_append_own_string _ rfl _ _ 130 9 rfl B 5 i0 Tryz.underlying130 Tryz.underlying9 hi hz0 hz1 hz2 _ _ _ rfl hown s rfl ?c3 ?c4 ?c5 ?_);case c3=>unfold maxLen;omega
 case c4=>omega
 case c5=>have:=hb1.size;omega
 intro v' w2 hown' hgrow _;have hlt:b<w1.heap.size:=by
  rcases Nat.lt_or_ge b w1.heap.size with h' | h'
  · exact h'
  · rw[Array.getElem?_eq_none h']at hbk;cases hbk
 have hb2:w2.heap[b]? =some (.cells #[.pointer (some ⟨b,0,none⟩),v] 211 (0,0)):=(by rw[hgrow.block b hlt (fun e=>hne e.symm)];exact hbk);have d0:w2.cell? ⟨b,0,none⟩=some (.pointer (some ⟨b,0,none⟩)):=by rw[Lib.cell_of_heap hb2];rfl
 have d1:w2.cell? ⟨b,1,none⟩=some v:=by rw[Lib.cell_of_heap hb2];rfl
 have f1:w2.frozen? ⟨b,1,none⟩=false:=Lib.frozen_of_heap hb2 1;obtain⟨ao,n',cap,rfl⟩:∃ ao n' cap,v'=.slice ao n' cap:=by
  rcases hown'.2 with⟨hv,_⟩ | ⟨g,cap,cur,hv,_⟩
  · exact⟨_,_,_,hv⟩
  · exact⟨_,_,_,hv⟩
 go_wp2;go_ret2;have hk2:KeepS w1 w2:=fun g cs fr e=>(hgrow.block g (zn e) (fun h=>Lib.ownBlock_ne hown e (by decide) h.symm)).trans e;refine⟨rfl,.inr ?_,?_,(hk1.trans hk2).trans (KeepS.set hb2 (by decide) _)⟩
 · exact Lib.BuilderAt.put hB hb2 (bs':=bs++Lib.strCells s) (by simpa[Lib.strCells_length]using hown') (by decide)
 · exact(hb1.grown hgrow (by have:=hb1.size;omega) (fun k hk=>(hown.lt k hk).1)).setCell (p:=⟨b,1,none⟩) hB _
theorem za8(B b:Nat)(bs:List Value)(c:Int)(w:World)(h:Lib.IsBuilder 211 5 B b bs w)(hlen:bs.length+1≤140737488355328)(hBw:B≤w.heap.size) :
 Calls Tryz.prog 219 #[.pointer (some ⟨b,0,none⟩),.int .u8 c] w fun e w'=>e=.returned .nilIface ∧
  (Lib.IsBuilder 211 5 B b (bs++[.int .u8 c]) w'∧Below B w w'∧KeepS w w'):=by
 obtain⟨i0,hi,hz0,hz1,hz2⟩:=info_parts zh7;go_enter Tryz.func219,Tryz.ntmps219;go_wp2_with fail;refine(zlm B b bs _ h).mono ?_;rintro e w1 ⟨rfl,h1,hb1,hk1⟩;obtain⟨hB,v,hbk,hown,hne⟩:=h1;have c0:w1.cell? ⟨b,0,none⟩=some (.pointer (some ⟨b,0,none⟩)):=by rw[Lib.cell_of_heap hbk];rfl
 have c1:w1.cell? ⟨b,1,none⟩=some v:=by rw[Lib.cell_of_heap hbk];rfl
 have hb11:B≤w1.heap.size:=by have:=hb1.size;omega
 go_wp2_with (at_builtin;refine wpList_append_own _ rfl _ _ 130 rfl B 5 i0 (.int .u8 0) 1 1 Tryz.underlying130 hi hz0 hz1 hz2 rfl (by decide) v bs.length bs rfl (hown.alloc _) ⟨w1.heap.size,0,none⟩ 1 1 [.int .u8 c] rfl rfl ?c1 ?c2 ?c3 ?c4 ?c5 ?_);case c1 =>
  intro j u hj
  match j,hj with
  | 0,hj=>simp at hj;subst hj;simp[Addr.add]
  | (j+1),hj=>simp at hj
 case c2=>intro u hu;simp at hu;subst hu;rfl
 case c3=>unfold maxLen;omega
 case c4=>omega
 case c5=>have:=(Below.alloc (Below.refl w1.heap.size w1) nlr (.cells #[.int .u8 c] 5)).size;omega
 intro v' w2 hown' hgrow _;have hlt0:b<w1.heap.size:=by
  rcases Nat.lt_or_ge b w1.heap.size with h' | h'
  · exact h'
  · rw[Array.getElem?_eq_none h']at hbk;cases hbk
 have hbk1:(w1.alloc (.cells #[.int .u8 c] 5)).heap[b]? =some (.cells #[.pointer (some ⟨b,0,none⟩),v] 211 (0,0)):=(by rw[Lib.alloc_old _ _ _ hlt0];exact hbk);have hlt:b<(w1.alloc (.cells #[.int .u8 c] 5)).heap.size:=by simp;omega
 have hb2:w2.heap[b]? =some (.cells #[.pointer (some ⟨b,0,none⟩),v] 211 (0,0)):=(by rw[hgrow.block b hlt (fun e=>hne e.symm)];exact hbk1);have d0:w2.cell? ⟨b,0,none⟩=some (.pointer (some ⟨b,0,none⟩)):=by rw[Lib.cell_of_heap hb2];rfl
 have d1:w2.cell? ⟨b,1,none⟩=some v:=by rw[Lib.cell_of_heap hb2];rfl
 have f1:w2.frozen? ⟨b,1,none⟩=false:=Lib.frozen_of_heap hb2 1;obtain⟨ao,n',cap,rfl⟩:∃ ao n' cap,v'=.slice ao n' cap:=by
  rcases hown'.2 with⟨hv,_⟩ | ⟨g,cap,cur,hv,_⟩
  · exact⟨_,_,_,hv⟩
  · exact⟨_,_,_,hv⟩
 go_wp2;go_ret;have hk2:KeepS (w1.alloc (.cells #[.int .u8 c] 5)) w2:=fun g cs fr e=>(hgrow.block g (zn e) (fun h=>Lib.ownBlock_ne (hown.alloc _) e (by decide) h.symm)).trans e;refine⟨rfl,.inr ?_,?_,((hk1.trans (KeepS.below ((blr).alloc nlr _))).trans hk2).trans (KeepS.set hb2 (by decide) _)⟩
 · exact Lib.BuilderAt.put hB hb2 (bs':=bs++[.int .u8 c]) (by simpa using hown') (by decide)
 · exact(((hb1.alloc hb11 _).grown hgrow (by have:=hb1.size;simp;omega) (fun k hk=>(hown.lt k hk).1))).setCell (p:=⟨b,1,none⟩) hB _
theorem zjm{B b:Nat}{bs:List Value}{w w':World}(h:Lib.IsBuilder 211 5 B b bs w)(hb:Below w.heap.size w w'):Lib.IsBuilder 211 5 B b bs w':=by
 rcases h with⟨h1,v,h2,h3,h4⟩ | ⟨h1,v,h2,h3,h4⟩
 · exact .inl ⟨h1,v,zr hb nlr h2,jp h3 hb nlr,h4⟩
 · exact .inr ⟨h1,v,zr hb nlr h2,jp h3 hb nlr,h4⟩
theorem zjn{B b:Nat}{bs:List Value}{w:World}(h:Lib.IsBuilder 211 5 B b bs w):Lib.IsBuilder 211 5 B b bs w.drew:=zjm h (blr).drew
theorem zdj(B b:Nat)(l:List UInt8)(w:World)(h:Lib.IsBuilder 211 5 B b (Lib.byteCells l) w)(hBw:B≤w.heap.size) :
 Calls Tryz.prog 163 #[.pointer (some ⟨b,0,none⟩)] w fun e w'=>e=.returned (.string (bstr l))∧KeepB B w w':=by
 obtain⟨p,hB,v,hbk,hown,hne⟩:∃ p,Lib.BuilderAt 211 5 B b p (Lib.byteCells l) w:=by
  rcases h with h | h
  · exact⟨_,h⟩
  · exact⟨_,h⟩
 clear h;have hlt:b<w.heap.size:=zn hbk;rw[Lib.byteCells_length]at hown;by_cases h0:l=[]
 · subst h0;have hUS:∀(W:World) (q:Option Addr),(Builtin.unsafeString_ #[237,3] 9 #[.pointer q,.int .i64 0]).run Tryz.prog W=.ok (.string .empty) W:=fun W q=>Lib.run_unsafeString_none W _ _ _ q;rcases hown.2 with⟨rfl,_⟩ | ⟨g,cap,cur,rfl,hbg,hg,_,_,_,_⟩
   · have c1:w.drew.cell? ⟨b,1,none⟩=some (.slice none 0 0):=(by rw[cell?_drew,Lib.cell_of_heap hbk];rfl);have hSD:(Builtin.unsafeSliceData_ #[130] 237 #[.slice none 0 0]).run Tryz.prog w.drew=.ok (.pointer none) w.drew:=rfl;clear hown hne hbk;go_enter Tryz.func163,Tryz.ntmps163;go_wp2;go_region;all_goals (go_wp2;go_ret;exact⟨rfl,(KeepB.refl B w).drew⟩)
   · by_cases hc0:cap=0
     · subst hc0;have c1:w.drew.cell? ⟨b,1,none⟩=some (.slice (some ⟨g,0,none⟩) 0 0):=by
        rw[cell?_drew,Lib.cell_of_heap hbk];rfl
       have hSD:(Builtin.unsafeSliceData_ #[130] 237 #[.slice (some ⟨g,0,none⟩) 0 0]).run Tryz.prog w.drew=.ok (.pointer (some ⟨w.drew.heap.size,0,none⟩)) (w.drew.alloc (.view ⟨g,0,none⟩ 5)):=
        Lib.run_unsafeSliceData_zero w.drew _ _ 5 Tryz.underlying237 ⟨g,0,none⟩ 0 (5,cur.size) (by have hg':w.drew.heap[g]? =some (.cells cur 5 (0,0)):=hg;simp[World.shape?,hg'])
       have c2:(w.drew.alloc (.view ⟨g,0,none⟩ 5)).cell? ⟨b,1,none⟩=some (.slice (some ⟨g,0,none⟩) 0 0):=(by have : (w.drew.alloc (.view ⟨g,0,none⟩ 5)).heap[b]? =_:=(Lib.alloc_old w.drew _ b hlt).trans hbk;rw[Lib.cell_of_heap this];rfl);have c3:(w.alloc (.view ⟨g,0,none⟩ 5)).drew.cell? ⟨b,1,none⟩=some (.slice (some ⟨g,0,none⟩) 0 0):=c2;have c0:w.cell? ⟨b,1,none⟩=some (.slice (some ⟨g,0,none⟩) 0 0):=c1;clear hown hne hbk;go_enter Tryz.func163,Tryz.ntmps163;go_wp2;go_region;all_goals (go_wp2;go_ret;exact⟨rfl,(KeepB.refl B w).drew.alloc hBw _⟩)
     · have c1:w.drew.cell? ⟨b,1,none⟩=some (.slice (some ⟨g,0,none⟩) 0 cap):=(by rw[cell?_drew,Lib.cell_of_heap hbk];rfl);have hSD:(Builtin.unsafeSliceData_ #[130] 237 #[.slice (some ⟨g,0,none⟩) 0 cap]).run Tryz.prog w.drew=.ok (.pointer (some ⟨g,0,none⟩)) w.drew:=
        Lib.run_unsafeSliceData_row _ _ _ _ _ _ hc0
       clear hown hne hbk hc0;go_enter Tryz.func163,Tryz.ntmps163;go_wp2;go_region;all_goals (go_wp2;go_ret;exact⟨rfl,(KeepB.refl B w).drew⟩)
 · have hl0:l.length≠0:=by simpa using h0
   obtain⟨g,cap,cur,rfl,hbg,hg,hnc,hcm,hcs,htake⟩:∃ g cap cur,v=.slice (some ⟨g,0,none⟩) l.length cap∧B≤g∧w.heap[g]? =some (.cells cur 5 (0,0))∧l.length≤cap∧cap≤maxLen∧cur.size=cap * 1∧cur.toList.take (l.length * 1)=Lib.byteCells l:=by
    rcases hown.2 with⟨_,hz⟩ | ⟨g,cap,cur,hv,r⟩
    · exact absurd hz hl0
    · exact⟨g,cap,cur,hv,r⟩
   have c1:w.drew.cell? ⟨b,1,none⟩=some (.slice (some ⟨g,0,none⟩) l.length cap):=(by rw[cell?_drew,Lib.cell_of_heap hbk];rfl);have hSD:(Builtin.unsafeSliceData_ #[130] 237 #[.slice (some ⟨g,0,none⟩) l.length cap]).run Tryz.prog w.drew=.ok (.pointer (some ⟨g,0,none⟩)) w.drew:=
    Lib.run_unsafeSliceData_row _ _ _ _ _ _ (by omega)
   have hUS:(Builtin.unsafeString_ #[237,3] 9 #[.pointer (some ⟨g,0,none⟩),.int .i64 l.length]).run Tryz.prog w.drew=.ok (.string (bstr l)) (w.drew.freeze ⟨g,0,none⟩ l.length):=(by refine Lib.run_unsafeString_row w.drew 237 3 9 5 Tryz.underlying237 zm9 g cur.size (by have hg':w.drew.heap[g]? =some (.cells cur 5 (0,0)):=hg;simp[World.shape?,hg']) l h0 (by omega) (by unfold maxLen at hcm;omega) ?_;intro j x hx;exact hown.cells (g:=g) rfl j (.int .u8 x.toNat) (by simp[Lib.byteCells,hx]));clear hown hne hbk htake hcs h0;have hk:KeepB B w (w.drew.freeze ⟨g,0,none⟩ l.length):=⟨Lib.below_freeze (Below.drew (Below.refl B w)) (p:=⟨g,0,none⟩) hbg _,fun a v hc=>by rw[cell?_freeze];exact hc⟩;have HK:=Hq hk;clear hk;go_enter Tryz.func163,Tryz.ntmps163;go_wp2;go_region;all_goals (go_wp2;go_ret;exact⟨rfl,HK.out⟩)
theorem zs6(B b:Nat)(bs:List Value)(w:World)(h:Lib.IsBuilder 195 5 B b bs w) :
 Calls Tryz.prog 162 #[.pointer (some ⟨b,0,none⟩)] w fun e w'=>e=.returned (.int .i64 bs.length)∧w=w':=by
 obtain⟨p,hB,v,hbk,hown,hne⟩:∃ p,Lib.BuilderAt 195 5 B b p bs w:=by
  rcases h with h | h
  · exact⟨_,h⟩
  · exact⟨_,h⟩
 obtain⟨ao,cap,rfl⟩:∃ ao cap,v=.slice ao bs.length cap:=by
  rcases hown.2 with⟨hv,h0⟩ | ⟨g,cap,cur,hv,_⟩
  · exact⟨none,0,by rw[hv,h0]⟩
  · exact⟨_,_,hv⟩
 have c1:w.cell? ⟨b,1,none⟩=some (.slice ao bs.length cap):=by rw[Lib.cell_of_heap hbk];rfl
 clear h hbk hown hne;go_enter Tryz.func162,Tryz.ntmps162;go_wp2;go_ret;exact⟨rfl,rfl⟩
set_option maxRecDepth 100000
theorem zqz{P:Program}(x:BitVec 32)(k:IntKind)(m:Nat)(hm:m≤32)(w:World):(Op.shift .shl .u32 (wi x) k (m:Int)).run P w=.ok (.int .u32 (wi (x <<< m))) w:=by
 have e:min m 32=m:=by omega
 simp only[Op.shift,if_neg (show ¬ ((m:Int)<0)by omega),Int.toNat_natCast,IntKind.bits,e,zx4];rfl
theorem zwk:∀ n:Fin 32,n.val=0∨bits .and .u64 (IntKind.u64.wrap (-(n.val:Int))) 31=((32 - n.val:Nat):Int):=by decide +kernel
theorem zq0(n:Nat)(h0:0<n)(h1:n<32):bits .and .u64 (IntKind.u64.wrap (-(n:Int))) 31=((32 - n:Nat):Int):=(zwk ⟨n,h1⟩).resolve_left (by simp;omega)
theorem zhe(x:BitVec 32)(n:Nat):wi x / 2 ^ n=wi (x >>> n):=by rw[←zx3,Int.fdiv_eq_ediv_of_nonneg _ (Int.pow_nonneg (by decide))]
theorem zwj(n:Nat)(h0:0<n)(h1:n<32):IntKind.u64.wrap (32 - ((32 - n:Nat):Int))=n:=by
 rw[IntKind.wrap_u64];omega
theorem zvg(x:BitVec 32)(n:Nat)(h0:0<n)(h1:n<32)(w:World):Calls Tryz.prog 177 #[.int .u32 (wi x),.int .i64 (-(n:Int))] w (RetQ (.int .u32 (wi (rr x n))) w):=by
 have H1:∀ w,(Op.shift .shl .u32 (wi x) .u64 (bits .and .u64 (IntKind.u64.wrap (-(n:Int))) 31)).run Tryz.prog w=.ok (.int .u32 (wi (x <<< (32 - n)))) w:=(by intro w;rw[zq0 n h0 h1];exact zqz _ _ _ (by omega) _);have H2:wi x / 2 ^ min (IntKind.u64.wrap (32 - bits .and .u64 (IntKind.u64.wrap (-(n:Int))) 31)).toNat 32=wi (x >>> n):=(by rw[zq0 n h0 h1,zwj n h0 h1,Int.toNat_natCast,Nat.min_eq_left (by omega)];exact zhe _ _);have H3:bits .or .u32 (wi (x <<< (32 - n))) (wi (x >>> n))=wi (rr x n):=by rw[zx5,BitVec.or_comm];rfl
 clear h0 h1;go_enter Tryz.func177,Tryz.ntmps177;go_wp2;go_ret;exact⟨rfl,rfl⟩
theorem zb4(x:BitVec 32)(n:Nat)(h0:0<n)(h1:n<32)(w:World):Calls Tryz.prog 123 #[.int .u32 (wi x),.int .i64 n] w (RetQ (.int .u32 (wi (rr x n))) w):=by
 go_enter Tryz.func123,Tryz.ntmps123;go_wp2_with fail;refine(zvg x n h0 h1 _).mono ?_;rintro e w1 ⟨rfl,rfl⟩;go_wp2;go_ret;exact⟨rfl,rfl⟩
theorem xo(x:BitVec 32)(n:Nat)(h0:0<n)(h1:n<32)(w:World):Calls Tryz.prog 149 #[.int .u32 (wi x),.int .i64 n] w (Ret (.int .u32 (wi (rr x n))) w):=by
 have H1:∀ w,(Op.shift .shl .u32 (wi x) .i64 (IntKind.i64.wrap (32 - (n:Int)))).run Tryz.prog w=.ok (.int .u32 (wi (x <<< (32 - n)))) w:=(by intro w;rw[show IntKind.i64.wrap (32 - (n:Int))=((32 - n:Nat):Int)by rw[IntKind.wrap_i64];omega];exact zqz _ _ _ (by omega) _);have H2:wi x / 2 ^ n=wi (x >>> n):=zhe _ _;have H3:bits .or .u32 (wi (x >>> n)) (wi (x <<< (32 - n)))=wi (rr x n):=by rw[zx5];rfl
 have hn:(n:Int)<32:=by omega
 clear h0 h1;go_enter Tryz.func149,Tryz.ntmps149;go_wp2;refine za 9 (Below (w.drew).heap.size (w.drew)) (by kernel_rfl) ?_;refine rPs 0 5 8 blr ?_;refine rPs 1 6 7 blr ?_;refine rPs 2 7 6 blr ?_;refine rPs 3 8 5 blr ?_;refine rPs 4 9 4 blr ?_;refine rPs 5 10 3 blr ?_;refine rPs 6 11 2 blr ?_;refine rPs 7 12 1 blr ?_;refine rO 8 0 ?_;intro K8 hK8;go_wp2;refine hK8 _ _ (by exact blr) ?_;clear hK8;intro hS_1_8;refine wDn ?_;go_wp2;go_ret;exact⟨rfl,(blr).drew⟩
set_option maxRecDepth 100000
def W8.arr(s:W8):Array Value:=#[.int .u32 (wi s.a),.int .u32 (wi s.b),.int .u32 (wi s.c),.int .u32 (wi s.d),.int .u32 (wi s.e),.int .u32 (wi s.f),.int .u32 (wi s.g),.int .u32 (wi s.h)]
def wa(n:Nat)(f:Nat→BitVec 32):Array Value:=((List.range n).map fun i=>Value.int .u32 (wi (f i))).toArray
theorem xt(n:Nat)(f:Nat→BitVec 32):(wa n f).size=n:=by simp[wa]
theorem zeq{n:Nat}(f:Nat→BitVec 32){i:Nat}(h:i<n):(wa n f)[i]? =some (.int .u32 (wi (f i))):=by simp[wa,h]
theorem zx6{n:Nat}(f:Nat→BitVec 32)(i:Nat)(x:BitVec 32):(wa n f).setIfInBounds i (.int .u32 (wi x))=wa n (fun j=>if j=i then x else f j):=by
 apply Array.ext_getElem?;intro j;rw[Array.getElem?_setIfInBounds];rcases Nat.lt_or_ge j n with h | h
 · rw[zeq _ h,zeq _ h,xt];by_cases e:i=j
   · subst e;simp[h]
   · rw[if_neg e,if_neg (Ne.symm e)]
 · rw[Array.getElem?_eq_none (by rw[xt];exact h),Array.getElem?_eq_none (by rw[xt];exact h)];by_cases e:i=j
   · subst e;simp[xt];omega
   · rw[if_neg e]
theorem zte{n:Nat}{f g:Nat→BitVec 32}(h:∀ i,i<n→f i=g i):wa n f=wa n g:=by
 unfold wa;congr 1;apply List.map_congr_left;intro i hi;rw[h i (by simpa using hi)]
theorem zm4(n:Nat)(f:Nat→BitVec 32):(wa n f).all (·.oneCell')=true:=by
 rw[Array.all_eq_true'];intro v hv;simp only[wa,List.mem_toArray,List.mem_map]at hv;obtain⟨i,_,rfl⟩:=hv;rfl
theorem zql(n:Nat):wa n (fun _=>0)=madeCells #[.int .u32 0] n:=by
 apply Array.ext_getElem?;intro j;rcases Nat.lt_or_ge j n with h | h
 · rw[zeq _ h];unfold madeCells;simp[wi,h];rw[Nat.mod_one];rfl
 · rw[Array.getElem?_eq_none (by rw[xt];exact h),Array.getElem?_eq_none (by rw[size_madeCells];exact h)]
theorem zy4:wa 64 kv=(kL.map fun n:Nat=>Value.int .u32 (n:Int)).toArray:=by kernel_rfl
def RowW(w:World)(B n:Nat)(T:TypeId)(f:Nat→BitVec 32):Prop:=w.heap[B]? =some (.cells (wa n f) T (0,0))
theorem RowW.cell{w:World}{B n:Nat}{T:TypeId}{f:Nat→BitVec 32}(h:RowW w B n T f){k:Nat}(hk:k<n):w.cell? ⟨B,k,none⟩=some (.int .u32 (wi (f k))):=by
 rw[Lib.cell_of_heap h,zeq f hk]
theorem RowW.free{w:World}{B n:Nat}{T:TypeId}{f:Nat→BitVec 32}(h:RowW w B n T f)(k:Nat):w.frozen? ⟨B,k,none⟩=false:=Lib.frozen_of_heap h k
theorem RowW.set{w:World}{B n:Nat}{T:TypeId}{f:Nat→BitVec 32}(h:RowW w B n T f)(k:Nat)(x:BitVec 32):RowW (w.setCell ⟨B,k,none⟩ (.int .u32 (wi x))) B n T (fun j=>if j=k then x else f j):=by
 unfold RowW;rw[zl h,zx6]
theorem RowW.kept{w w':World}{K B n:Nat}{T:TypeId}{f:Nat→BitVec 32}(h:RowW w B n T f)(hb:Below K w w')(hB:B<K):RowW w' B n T f:=(hb.block B hB).trans h
theorem RowW.lt{w:World}{B n:Nat}{T:TypeId}{f:Nat→BitVec 32}(h:RowW w B n T f):B<w.heap.size:=zn h
theorem RowW.drew{w:World}{B n:Nat}{T:TypeId}{f:Nat→BitVec 32}(h:RowW w B n T f):RowW w.drew B n T f:=h
theorem RowW.congr{w:World}{B n:Nat}{T:TypeId}{f g:Nat→BitVec 32}(h:RowW w B n T f)(hfg:∀ i,i<n→f i=g i):RowW w B n T g:=by
 unfold RowW;rw[←zte hfg];exact h
theorem zxh(w:World):Calls Tryz.prog 78 #[] w (Ret (.agg st0.arr) w):=by
 go_enter Tryz.func78,Tryz.ntmps78;go_wp2;refine bodyPost_ret (v:=.agg st0.arr) (results_cell_row rfl _ _ w.heap.size 133 st0.arr (0,0) _ rfl (heap_alloc_new _ _) Tryz.underlying133 rfl (by kernel_rfl)) rfl ⟨rfl,(blr).alloc nlr _⟩
theorem zms(w:World):Calls Tryz.prog 121 #[] w (Ret (.agg (wa 64 kv)) w):=by
 go_enter Tryz.func121,Tryz.ntmps121;iterate 2 go_step
 refine Great.wpList_allocTo rfl _ rfl (.pointer (some ⟨w.heap.size,0,none⟩)) (.cells (madeCells #[.int .u32 0] 64) 171) (by kernel_rfl) ?_;obtain⟨W,hW⟩:=nm (w.alloc (.cells (madeCells #[.int .u32 0] 64) 171));have HB:Below w.heap.size w W:=hW▸(blr).alloc nlr _;have HC:W.heap[w.heap.size]? =some (.cells (madeCells #[.int .u32 0] 64) 171 (0,0)):=hW▸heap_alloc_new _ _;rw[hW];clear hW;iterate 5 go_step
 refine wpList_buildFlatArrTo rfl 171 131 64 _ rfl .u32 (kL.map fun n:Nat=>(n:Int)) (some 1) rfl (Tryz.underlying171) (by kernel_rfl) (by kernel_rfl) (by kernel_rfl) ?_;refine wpList_store_rowTo rfl 171 _ _ rfl rfl w.heap.size (wa 64 kv) (by kernel_rfl) (by kernel_rfl) 171 _ HC (by kernel_rfl) (by kernel_rfl) (zm4 _ _) ?_;obtain⟨X,hX⟩:=nm (W.setRow w.heap.size (wa 64 kv));have HB2:Below w.heap.size w X:=hX▸below_setRow HB nlr _;have HC2:X.heap[w.heap.size]? =some (.cells (wa 64 kv) 171 (0,0)):=hX▸setRow_heap _ _ _ _ _ _ HC;rw[hX];clear hX HB HC;go_wp2;refine bodyPost_ret (v:=.agg (wa 64 kv)) (results_cell_row rfl _ _ w.heap.size 171 (wa 64 kv) (0,0) _ rfl HC2 Tryz.underlying171 rfl (by rw[xt];kernel_rfl)) rfl ⟨rfl,HB2⟩
theorem zir(w:World):Calls Tryz.prog 148 #[] w fun e w'=>e=.returned (.slice (some ⟨w.heap.size,0,none⟩) 64 64)∧RowW w' w.heap.size 64 131 kv∧Below w.heap.size w w':=by
 go_enter Tryz.func148,Tryz.ntmps148;go_wp2;go_ret;refine⟨rfl,?_,(blr).alloc nlr _⟩;unfold RowW;rw[zy4];exact heap_alloc_new _ _
end Go.Proofs.YtppbcopnfankcaaGreat

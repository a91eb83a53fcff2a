import Derived.Test.YtfbmbledklbfgaaGreatDoorQReg
set_option linter.unusedVariables false
set_option linter.unusedSimpArgs false
namespace Go.Proofs.YtfbmbledklbfgaaGreatDoor
def wi(x:BitVec 32):Int:=(x.toNat:Int)
theorem wi_xor(a b:BitVec 32):bits .xor .u32 (wi a) (wi b)=wi (a ^^^ b):=by
 unfold wi;rw[u32_xor_nat _ _ a.isLt b.isLt,BitVec.toNat_xor]
theorem wi_and(a b:BitVec 32):bits .and .u32 (wi a) (wi b)=wi (a &&& b):=by
 unfold wi;rw[u32_and_nat _ _ a.isLt b.isLt,BitVec.toNat_and]
theorem wi_or(a b:BitVec 32):bits .or .u32 (wi a) (wi b)=wi (a ||| b):=by
 unfold wi;rw[u32_or_nat _ _ a.isLt b.isLt,BitVec.toNat_or]
theorem wi_not(a:BitVec 32):bits .xor .u32 4294967295 (wi a)=wi (~~~ a):=by
 have : (4294967295:Int)=wi (BitVec.allOnes 32):=rfl;rw[this,wi_xor,BitVec.allOnes_xor]
theorem wi_add(a b:BitVec 32):IntKind.u32.wrap (wi a+wi b)=wi (a+b):=by
 unfold wi;rw[IntKind.wrap_u32',BitVec.toNat_add];omega
theorem wi_shr(a:BitVec 32)(n:Nat):(wi a).fdiv (2 ^ n)=wi (a >>> n):=by
 unfold wi;rw[BitVec.toNat_ushiftRight,Nat.shiftRight_eq_div_pow];rw[Int.fdiv_eq_ediv_of_nonneg _ (Int.pow_nonneg (by decide))];simp
theorem wi_shl(a:BitVec 32)(n:Nat):IntKind.u32.wrap (wi a * 2 ^ n)=wi (a <<< n):=by
 unfold wi;rw[IntKind.wrap_u32',BitVec.toNat_shiftLeft,Nat.shiftLeft_eq];simp
structure W8 where
 a:BitVec 32
 b:BitVec 32
 c:BitVec 32
 d:BitVec 32
 e:BitVec 32
 f:BitVec 32
 g:BitVec 32
 h:BitVec 32
def rr(x:BitVec 32)(n:Nat):BitVec 32:=x >>> n ||| x <<< (32 - n)
def sg0(x:BitVec 32):BitVec 32:=rr x 7 ^^^ rr x 18 ^^^ x >>> 3
def sg1(x:BitVec 32):BitVec 32:=rr x 17 ^^^ rr x 19 ^^^ x >>> 10
def wd(m:List UInt8)(i:Nat):BitVec 32:=BitVec.ofNat 32 ((((m.getD (4 * i) 0).toNat * 256+(m.getD (4 * i+1) 0).toNat) * 256+(m.getD (4 * i+2) 0).toNat) * 256+(m.getD (4 * i+3) 0).toNat)
def wf(w:List (BitVec 32))(n:Nat):BitVec 32:=w.getD (n - 16) 0+sg0 (w.getD (n - 15) 0)+w.getD (n - 7) 0+sg1 (w.getD (n - 2) 0)
def wl(m:List UInt8):Nat→List (BitVec 32)
 | 0=>[]
 | n+1=>wl m n++[if n<16 then wd m n else wf (wl m n) n]
theorem wl_length(m:List UInt8)(n:Nat):(wl m n).length=n:=by
 induction n with
 | zero=>rfl
 | succ n ih=>simp[wl,ih]
def wv(m:List UInt8)(i:Nat):BitVec 32:=(wl m (i+1)).getD i 0
theorem wl_get(m:List UInt8){n i:Nat}(h:i<n):(wl m n).getD i 0=wv m i:=by
 induction n with
 | zero=>omega
 | succ n ih =>
  rcases Nat.lt_or_ge i n with h1 | h1
  · rw[←ih h1,wl,List.getD_eq_getElem?_getD,List.getElem?_append_left (by rw[wl_length];exact h1),←List.getD_eq_getElem?_getD]
  · have : i=n:=by omega
    subst this;rfl
theorem wv_eq(m:List UInt8)(i:Nat):wv m i=if i<16 then wd m i else wf (wl m i) i:=by
 unfold wv;rw[wl,List.getD_eq_getElem?_getD,List.getElem?_append_right (by rw[wl_length];exact Nat.le_refl _),wl_length,Nat.sub_self];rfl
theorem wv_low(m:List UInt8){i:Nat}(h:i<16):wv m i=wd m i:=by rw[wv_eq,if_pos h]
theorem wv_high(m:List UInt8){i:Nat}(h:16≤i):wv m i=wv m (i - 16)+sg0 (wv m (i - 15))+wv m (i - 7)+sg1 (wv m (i - 2)):=by
 rw[wv_eq,if_neg (by omega)];unfold wf;rw[wl_get m (by omega),wl_get m (by omega),wl_get m (by omega),wl_get m (by omega)]
def kL:List Nat:=[
 0x428a2f98,0x71374491,0xb5c0fbcf,0xe9b5dba5,0x3956c25b,0x59f111f1,0x923f82a4,0xab1c5ed5,
 0xd807aa98,0x12835b01,0x243185be,0x550c7dc3,0x72be5d74,0x80deb1fe,0x9bdc06a7,0xc19bf174,
 0xe49b69c1,0xefbe4786,0x0fc19dc6,0x240ca1cc,0x2de92c6f,0x4a7484aa,0x5cb0a9dc,0x76f988da,
 0x983e5152,0xa831c66d,0xb00327c8,0xbf597fc7,0xc6e00bf3,0xd5a79147,0x06ca6351,0x14292967,
 0x27b70a85,0x2e1b2138,0x4d2c6dfc,0x53380d13,0x650a7354,0x766a0abb,0x81c2c92e,0x92722c85,
 0xa2bfe8a1,0xa81a664b,0xc24b8b70,0xc76c51a3,0xd192e819,0xd6990624,0xf40e3585,0x106aa070,
 0x19a4c116,0x1e376c08,0x2748774c,0x34b0bcb5,0x391c0cb3,0x4ed8aa4a,0x5b9cca4f,0x682e6ff3,
 0x748f82ee,0x78a5636f,0x84c87814,0x8cc70208,0x90befffa,0xa4506ceb,0xbef9a3f7,0xc67178f2]
def kv(i:Nat):BitVec 32:=BitVec.ofNat 32 (kL.getD i 0)
def tv(k w:BitVec 32)(s:W8):BitVec 32:=s.h+(rr s.e 6 ^^^ rr s.e 11 ^^^ rr s.e 25)+(s.e &&& s.f ^^^ ~~~ s.e &&& s.g)+k+w
def uv(s:W8):BitVec 32:=(rr s.a 2 ^^^ rr s.a 13 ^^^ rr s.a 22)+(s.a &&& s.b ^^^ s.a &&& s.c ^^^ s.b &&& s.c)
def rd(k w:BitVec 32)(s:W8):W8:=⟨tv k w s+uv s,s.a,s.b,s.c,s.d+tv k w s,s.e,s.f,s.g⟩
def rds(m:List UInt8)(s:W8):Nat→W8
 | 0=>s
 | n+1=>rd (kv n) (wv m n) (rds m s n)
def W8.add(s t:W8):W8:=⟨s.a+t.a,s.b+t.b,s.c+t.c,s.d+t.d,s.e+t.e,s.f+t.f,s.g+t.g,s.h+t.h⟩
def blk(s:W8)(m:List UInt8):W8:=(rds m s 64).add s
def st0:W8:=⟨BitVec.ofNat 32 0x6a09e667,BitVec.ofNat 32 0xbb67ae85,BitVec.ofNat 32 0x3c6ef372,BitVec.ofNat 32 0xa54ff53a,BitVec.ofNat 32 0x510e527f,BitVec.ofNat 32 0x9b05688c,BitVec.ofNat 32 0x1f83d9ab,BitVec.ofNat 32 0x5be0cd19⟩
def blks(s:W8):Nat→List UInt8→W8
 | 0,_=>s
 | n+1,m=>blks (blk s (m.take 64)) n (m.drop 64)
theorem blks_succ(s:W8)(n:Nat)(m:List UInt8):blks s (n+1) m=blk (blks s n m) ((m.drop (64 * n)).take 64):=by
 induction n generalizing s m with
 | zero=>simp[blks]
 | succ n ih=>rw[blks,ih,blks,List.drop_drop];congr 3;omega
def shE8(n:Nat):List UInt8:=[UInt8.ofNat (n / 2 ^ 56),UInt8.ofNat (n / 2 ^ 48),UInt8.ofNat (n / 2 ^ 40),UInt8.ofNat (n / 2 ^ 32),UInt8.ofNat (n / 2 ^ 24),UInt8.ofNat (n / 2 ^ 16),UInt8.ofNat (n / 2 ^ 8),UInt8.ofNat n]
def zs(n:Nat):Nat:=(119 - n%64)%64
def padL(l:List UInt8):List UInt8:=l++[128]++List.replicate (zs l.length) 0++shE8 (l.length * 8)
theorem padL_length(l:List UInt8):(padL l).length=l.length+zs l.length+9:=by simp[padL,shE8];omega
theorem padL_mod(l:List UInt8):(padL l).length%64=0:=by rw[padL_length];unfold zs;omega
def wo(x:BitVec 32):List UInt8:=[UInt8.ofNat (x.toNat / 2 ^ 24),UInt8.ofNat (x.toNat / 2 ^ 16),UInt8.ofNat (x.toNat / 2 ^ 8),UInt8.ofNat x.toNat]
def W8.ws(s:W8):List (BitVec 32):=[s.a,s.b,s.c,s.d,s.e,s.f,s.g,s.h]
def shaL(l:List UInt8):List UInt8:=(blks st0 ((padL l).length / 64) (padL l)).ws.flatMap wo
theorem shaL_length(l:List UInt8):(shaL l).length=32:=by simp[shaL,W8.ws,wo]
def xorL(k:List UInt8)(x:UInt8):List UInt8:=(List.range 64).map fun i=>k.getD i 0 ^^^ x
def macL(k l:List UInt8):List UInt8:=
 let k:=if 64<k.length then shaL k else k
 shaL (xorL k 92++shaL (xorL k 54++l))
def halfN(n:Nat):Nat:=2 ^ Nat.log2 (n - 1)
theorem halfN_lt{n:Nat}(h:2≤n):halfN n<n:=by
 unfold halfN;have:=Nat.log2_self_le (n:=n - 1) (by omega);omega
theorem halfN_pos(n:Nat):1≤halfN n:=Nat.one_le_two_pow
theorem halfN_ge{n:Nat}(h:2≤n):n≤2 * halfN n:=by
 unfold halfN;have:=Nat.lt_log2_self (n:=n - 1);rw[Nat.pow_succ]at this;omega
theorem halfN_of{n j:Nat}(h1:2 ^ j<n)(h2:n≤2 * 2 ^ j):halfN n=2 ^ j:=by
 unfold halfN;have hp:1≤2 ^ j:=Nat.one_le_two_pow;have a:Nat.log2 (n - 1)<j+1:=(Nat.log2_lt (by omega)).2 (by rw[Nat.pow_succ];omega);have b:j≤Nat.log2 (n - 1):=(Nat.le_log2 (by omega)).2 (by omega);rw[show Nat.log2 (n - 1)=j from by omega]
def leafH(s:ByteArray):ByteArray:=bstr (shaL (0::s.data.toList))
def nodeH(a b:ByteArray):ByteArray:=bstr (shaL (1::(a.data.toList++b.data.toList)))
def rootF:Nat→List ByteArray→ByteArray
 | 0,_=>bstr (shaL [])
 | f+1,l=>if l.length=0 then bstr (shaL [])else if l.length=1 then leafH (l.headD ⟨#[]⟩)else nodeH (rootF f (l.take (halfN l.length))) (rootF f (l.drop (halfN l.length)))
theorem rootF_succ(f:Nat)(l:List ByteArray):rootF (f+1) l=if l.length=0 then bstr (shaL [])else if l.length=1 then leafH (l.headD ⟨#[]⟩)else nodeH (rootF f (l.take (halfN l.length))) (rootF f (l.drop (halfN l.length))):=rfl
theorem rootF_enough:∀(f g:Nat) (l:List ByteArray),l.length≤f→l.length≤g→rootF f l=rootF g l
 | 0,0,_,_,_=>rfl
 | 0,g+1,l,h,_=>by
  unfold rootF;rw[if_pos (by omega)]
 | f+1,0,l,_,h=>by
  unfold rootF;rw[if_pos (by omega)]
 | f+1,g+1,l,h1,h2=>by
  unfold rootF;by_cases h0:l.length=0
  · rw[if_pos h0,if_pos h0]
  · rw[if_neg h0,if_neg h0];by_cases h3:l.length=1
    · rw[if_pos h3,if_pos h3]
    · rw[if_neg h3,if_neg h3];have:=halfN_lt (n:=l.length) (by omega);have:=halfN_pos l.length;rw[rootF_enough f g (l.take (halfN l.length)) (by rw[List.length_take];omega) (by rw[List.length_take];omega),rootF_enough f g (l.drop (halfN l.length)) (by rw[List.length_drop];omega) (by rw[List.length_drop];omega)]
def rootL(l:List ByteArray):ByteArray:=rootF l.length l
theorem rootL_nil:rootL []=bstr (shaL []):=rfl
theorem rootL_one(x:ByteArray):rootL [x]=leafH x:=rfl
theorem rootL_more{l:List ByteArray}(h:2≤l.length):rootL l=nodeH (rootL (l.take (halfN l.length))) (rootL (l.drop (halfN l.length))):=by
 obtain⟨f,hf⟩:∃ f,l.length=f+1:=⟨l.length - 1,by omega⟩;have h1:=halfN_lt h;have h2:=halfN_pos l.length;unfold rootL;rw[show rootF l.length l=rootF (f+1) l from by rw[hf],rootF_succ,if_neg (show ¬ l.length=0 by omega),if_neg (show ¬ l.length=1 by omega),←rootF_enough (l.take (halfN l.length)).length f _ nlr (by rw[List.length_take];omega),←rootF_enough (l.drop (halfN l.length)).length f _ nlr (by rw[List.length_drop];omega)]
def rootsF:Nat→ByteArray→Nat→Nat→Bool→List ByteArray→ByteArray×ByteArray×Bool
 | 0,_,_,_,_,_=>(⟨#[]⟩,⟨#[]⟩,false)
 | f+1,B,m,n,wh,p=>if m=n∧wh=true then(B,B,p.isEmpty)else match p.getLast? with
  | none=>(⟨#[]⟩,⟨#[]⟩,false)
  | some x=>if m=n then(x,x,p.dropLast.isEmpty)else if m≤halfN n then
   let r:=rootsF f B m (halfN n) wh p.dropLast
   (r.1,nodeH r.2.1 x,r.2.2)
   else
    let r:=rootsF f B (m - halfN n) (n - halfN n) false p.dropLast
    (nodeH x r.1,nodeH x r.2.1,r.2.2)
def popC(p:List ByteArray)(ok:Bool):ByteArray×List ByteArray×Bool:=match p.getLast? with
 | none=>(⟨#[]⟩,p,false)
 | some x=>(x,p.dropLast,ok)
def climbF:Nat→ByteArray→Nat→Nat→Bool→List ByteArray→Bool→(ByteArray×ByteArray)×List ByteArray×Bool
 | 0,_,_,_,_,p,ok=>((⟨#[]⟩,⟨#[]⟩),p,ok)
 | f+1,B,m,n,wh,p,ok=>if ok=false then((⟨#[]⟩,⟨#[]⟩),p,ok)else if m=n then
  (if wh=true then((B,B),p,ok)else(((popC p ok).1,(popC p ok).1),(popC p ok).2))
  else if m≤halfN n then
   let r:=climbF f B m (halfN n) wh (popC p ok).2.1 (popC p ok).2.2
   ((r.1.1,nodeH r.1.2 (popC p ok).1),r.2)
  else
   let r:=climbF f B (m - halfN n) (n - halfN n) false (popC p ok).2.1 (popC p ok).2.2
   ((nodeH (popC p ok).1 r.1.1,nodeH (popC p ok).1 r.1.2),r.2)
theorem climbF_no(f:Nat)(B:ByteArray)(m n:Nat)(wh:Bool)(p:List ByteArray):climbF f B m n wh p false=((⟨#[]⟩,⟨#[]⟩),p,false):=by
 cases f with
 | zero=>rfl
 | succ f=>unfold climbF;rw[if_pos rfl]
theorem climbF_succ(f:Nat)(B:ByteArray)(m n:Nat)(wh:Bool)(p:List ByteArray)(ok:Bool):climbF (f+1) B m n wh p ok=if ok=false then((⟨#[]⟩,⟨#[]⟩),p,ok)else if m=n then
 (if wh=true then((B,B),p,ok)else(((popC p ok).1,(popC p ok).1),(popC p ok).2))
 else if m≤halfN n then
  (((climbF f B m (halfN n) wh (popC p ok).2.1 (popC p ok).2.2).1.1,nodeH (climbF f B m (halfN n) wh (popC p ok).2.1 (popC p ok).2.2).1.2 (popC p ok).1),(climbF f B m (halfN n) wh (popC p ok).2.1 (popC p ok).2.2).2)
 else
  ((nodeH (popC p ok).1 (climbF f B (m - halfN n) (n - halfN n) false (popC p ok).2.1 (popC p ok).2.2).1.1,nodeH (popC p ok).1 (climbF f B (m - halfN n) (n - halfN n) false (popC p ok).2.1 (popC p ok).2.2).1.2),(climbF f B (m - halfN n) (n - halfN n) false (popC p ok).2.1 (popC p ok).2.2).2):=rfl
theorem rootsF_whole(f:Nat)(B:ByteArray){m n:Nat}{wh:Bool}(p:List ByteArray)(hm:m=n)(hw:wh=true):rootsF (f+1) B m n wh p=(B,B,p.isEmpty):=if_pos ⟨hm,hw⟩
theorem rootsF_none(f:Nat)(B:ByteArray){m n:Nat}{wh:Bool}{p:List ByteArray}(h:¬ (m=n∧wh=true))(hp:p.getLast? =none):rootsF (f+1) B m n wh p=(⟨#[]⟩,⟨#[]⟩,false):=by
 show (if m=n∧wh=true then _ else _)=_;rw[if_neg h,hp]
theorem rootsF_leaf(f:Nat)(B:ByteArray){m n:Nat}{wh:Bool}{p:List ByteArray}{x:ByteArray}(h:¬ (m=n∧wh=true))(hp:p.getLast? =some x)(hm:m=n):rootsF (f+1) B m n wh p=(x,x,p.dropLast.isEmpty):=by
 show (if m=n∧wh=true then _ else _)=_;rw[if_neg h,hp];exact if_pos hm
theorem rootsF_low(f:Nat)(B:ByteArray){m n:Nat}{wh:Bool}{p:List ByteArray}{x:ByteArray}(hp:p.getLast? =some x)(hm:¬ m=n)(hk:m≤halfN n):rootsF (f+1) B m n wh p=((rootsF f B m (halfN n) wh p.dropLast).1,nodeH (rootsF f B m (halfN n) wh p.dropLast).2.1 x,(rootsF f B m (halfN n) wh p.dropLast).2.2):=by
 show (if m=n∧wh=true then _ else _)=_;rw[if_neg (show ¬ (m=n∧wh=true)from fun h=>hm h.1),hp];show (if m=n then _ else if m≤halfN n then _ else _)=_;rw[if_neg hm,if_pos hk]
theorem rootsF_high(f:Nat)(B:ByteArray){m n:Nat}{wh:Bool}{p:List ByteArray}{x:ByteArray}(hp:p.getLast? =some x)(hm:¬ m=n)(hk:¬ m≤halfN n):rootsF (f+1) B m n wh p=(nodeH x (rootsF f B (m - halfN n) (n - halfN n) false p.dropLast).1,nodeH x (rootsF f B (m - halfN n) (n - halfN n) false p.dropLast).2.1,(rootsF f B (m - halfN n) (n - halfN n) false p.dropLast).2.2):=by
 show (if m=n∧wh=true then _ else _)=_;rw[if_neg (show ¬ (m=n∧wh=true)from fun h=>hm h.1),hp];show (if m=n then _ else if m≤halfN n then _ else _)=_;rw[if_neg hm,if_neg hk]
theorem popC_none{p:List ByteArray}(ok:Bool)(hp:p.getLast? =none):popC p ok=(⟨#[]⟩,p,false):=by unfold popC;rw[hp]
theorem popC_some{p:List ByteArray}{x:ByteArray}(ok:Bool)(hp:p.getLast? =some x):popC p ok=(x,p.dropLast,ok):=by unfold popC;rw[hp]
theorem climb_roots:∀(f:Nat) (B:ByteArray) (m n:Nat) (wh:Bool) (p:List ByteArray),1≤m→m≤n→n≤f →
 ((climbF f B m n wh p true).2.2&&(climbF f B m n wh p true).2.1.isEmpty)=(rootsF f B m n wh p).2.2 ∧
 ((rootsF f B m n wh p).2.2=true→(climbF f B m n wh p true).1=((rootsF f B m n wh p).1,(rootsF f B m n wh p).2.1))
 | 0,_,_,_,_,_,h1,h2,h3=>by omega
 | f+1,B,m,n,wh,p,h1,h2,h3=>by
  rw[climbF_succ,if_neg (show ¬ (true=false)from by decide)];by_cases hm:m=n
  · rw[if_pos hm];by_cases hw:wh=true
    · rw[if_pos hw,rootsF_whole f B p hm hw];exact⟨by simp,fun _=>rfl⟩
    · rw[if_neg hw]
      cases hp:p.getLast? with
      | none =>
       rw[popC_none true hp,rootsF_none f B (fun h=>hw h.2) hp];exact⟨by simp,fun h=>by simp at h⟩
      | some x =>
       rw[popC_some true hp,rootsF_leaf f B (fun h=>hw h.2) hp hm];exact⟨by simp,fun _=>rfl⟩
  · rw[if_neg hm];have hn:2≤n:=by omega
    have k1:=halfN_lt hn;have k2:=halfN_pos n
    cases hp:p.getLast? with
    | none =>
     rw[popC_none true hp,rootsF_none f B (fun h=>hm h.1) hp];simp only[climbF_no];by_cases hk:m≤halfN n
     · rw[if_pos hk];exact⟨by simp,fun h=>by simp at h⟩
     · rw[if_neg hk];exact⟨by simp,fun h=>by simp at h⟩
    | some x =>
     rw[popC_some true hp];by_cases hk:m≤halfN n
     · rw[if_pos hk,rootsF_low f B hp hm hk];obtain⟨e1,e2⟩:=climb_roots f B m (halfN n) wh p.dropLast h1 hk (by omega);exact⟨e1,fun h=>by rw[e2 h]⟩
     · rw[if_neg hk,rootsF_high f B hp hm hk];obtain⟨e1,e2⟩:=climb_roots f B (m - halfN n) (n - halfN n) false p.dropLast (by omega) (by omega) (by omega);exact⟨e1,fun h=>by rw[e2 h]⟩
def extB(B:ByteArray)(m:Int)(A:ByteArray)(n:Int)(p:List ByteArray):Bool:=
 if m<0∨n<m then false else if m=0 then p.isEmpty&&decide (B=bstr (shaL []))else if m=n then p.isEmpty&&decide (B=A)else
  (rootsF n.toNat B m.toNat n.toNat true p).2.2&&decide ((rootsF n.toNat B m.toNat n.toNat true p).1=B)&&decide ((rootsF n.toNat B m.toNat n.toNat true p).2.1=A)
def proofF:Nat→List ByteArray→Nat→Bool→List ByteArray
 | 0,_,_,_=>[]
 | f+1,l,m,wh=>if m=l.length then(if wh=true then []else [rootL l])else if m≤halfN l.length then proofF f (l.take (halfN l.length)) m wh++[rootL (l.drop (halfN l.length))]else proofF f (l.drop (halfN l.length)) (m - halfN l.length) false++[rootL (l.take (halfN l.length))]
theorem proofF_succ(f:Nat)(l:List ByteArray)(m:Nat)(wh:Bool):proofF (f+1) l m wh=if m=l.length then(if wh=true then []else [rootL l])else if m≤halfN l.length then proofF f (l.take (halfN l.length)) m wh++[rootL (l.drop (halfN l.length))]else proofF f (l.drop (halfN l.length)) (m - halfN l.length) false++[rootL (l.take (halfN l.length))]:=rfl
theorem halfN_pow(n:Nat):∃ j,halfN n=2 ^ j:=⟨_,rfl⟩
theorem root_prefix{l:List ByteArray}{m:Nat}(h1:halfN l.length<m)(h2:m≤l.length)(h3:2≤l.length):rootL (l.take m)=nodeH (rootL (l.take (halfN l.length))) (rootL ((l.drop (halfN l.length)).take (m - halfN l.length))):=by
 obtain⟨j,hj⟩:=halfN_pow l.length;have hge:=halfN_ge h3;have hp:=halfN_pos l.length;have hm:(l.take m).length=m:=by rw[List.length_take];omega
 have hh:halfN (l.take m).length=halfN l.length:=(by rw[hm,hj];exact halfN_of (by omega) (by omega));rw[rootL_more (by omega),hh,List.take_take,Nat.min_eq_left (by omega),List.drop_take]
theorem roots_proof:∀(f:Nat) (l:List ByteArray) (m:Nat) (wh:Bool) (B:ByteArray),1≤m→m≤l.length→l.length≤f→(wh=true→B=rootL (l.take m))→rootsF f B m l.length wh (proofF f l m wh)=(rootL (l.take m),rootL l,true)
 | 0,l,m,wh,B,h1,h2,h3,_=>by omega
 | f+1,l,m,wh,B,h1,h2,h3,hB=>by
  by_cases hm:m=l.length
  · by_cases hw:wh=true
    · rw[rootsF_whole f B _ hm hw,proofF_succ,if_pos hm,if_pos hw,hB hw,hm,List.take_length];rfl
    · have hp:proofF (f+1) l m wh=[rootL l]:=by rw[proofF_succ,if_pos hm,if_neg hw]
      rw[rootsF_leaf f B (fun h=>hw h.2) (x:=rootL l) (by rw[hp];rfl) hm,hp,hm,List.take_length];rfl
  · have hn:2≤l.length:=by omega
    have k1:=halfN_lt hn;have k2:=halfN_pos l.length;by_cases hk:m≤halfN l.length
    · have hp:proofF (f+1) l m wh=proofF f (l.take (halfN l.length)) m wh++[rootL (l.drop (halfN l.length))]:=by rw[proofF_succ,if_neg hm,if_pos hk]
      rw[rootsF_low f B (x:=rootL (l.drop (halfN l.length))) (by rw[hp,List.getLast?_concat]) hm hk,hp,List.dropLast_concat];have hl:(l.take (halfN l.length)).length=halfN l.length:=by rw[List.length_take];omega
      have ht:(l.take (halfN l.length)).take m=l.take m:=by rw[List.take_take,Nat.min_eq_left hk]
      have:=roots_proof f (l.take (halfN l.length)) m wh B h1 (by omega) (by omega) (fun h=>by rw[ht];exact hB h);rw[hl]at this;rw[this,ht,←rootL_more hn]
    · have hp:proofF (f+1) l m wh=proofF f (l.drop (halfN l.length)) (m - halfN l.length) false++[rootL (l.take (halfN l.length))]:=by rw[proofF_succ,if_neg hm,if_neg hk]
      rw[rootsF_high f B (x:=rootL (l.take (halfN l.length))) (by rw[hp,List.getLast?_concat]) hm hk,hp,List.dropLast_concat];have hl:(l.drop (halfN l.length)).length=l.length - halfN l.length:=by rw[List.length_drop]
      have:=roots_proof f (l.drop (halfN l.length)) (m - halfN l.length) false B (by omega) (by omega) (by omega) (fun h=>by cases h);rw[hl]at this;rw[this,←rootL_more hn,←root_prefix (by omega) h2 hn]
def nS(n:Nat):ByteArray:=bstr (encN n)
def num(s:ByteArray):Nat:=bnat s.data.toList
theorem nS_data(n:Nat):(nS n).data.toList=encN n:=bstr_data _
theorem nS_size(n:Nat):(nS n).size=(encN n).length:=bstr_size _
theorem num_nS(n:Nat):num (nS n)=n:=by unfold num;rw[nS_data,bnat_encN]
theorem nS_size_le{n k:Nat}:(nS n).size≤k↔n<256 ^ k:=by rw[nS_size,encN_length_le]
theorem nvalid_canon{s:ByteArray}(h:nvalid s=true):canon s.data.toList:=by
 unfold nvalid at h;simp only[Bool.and_eq_true,Bool.not_eq_true',beq_eq_false_iff_ne]at h;exact h.2
theorem nvalid_nS{n:Nat}:nvalid (nS n)=true↔n<256 ^ 128:=by
 unfold nvalid;rw[nS_data,Bool.and_eq_true,decide_eq_true_eq,nS_size_le];constructor
 · exact fun h=>h.1
 · intro h;refine⟨h,?_⟩;have:=canon_encN n;unfold canon at this;simpa using this
theorem nS_num{s:ByteArray}(h:nvalid s=true):s=nS (num s):=by
 unfold nS num;rw[encN_bnat (nvalid_canon h),bstr_of]
theorem num_lt{s:ByteArray}(h:s.size≤128):num s<256 ^ 128:=by
 have h1:=bnat_lt s.data.toList;rw[data_len]at h1;exact Nat.lt_of_lt_of_le h1 (Nat.pow_le_pow_right (by omega) h)
theorem num_lt_size(s:ByteArray):num s<256 ^ s.size:=by
 have h1:=bnat_lt s.data.toList;rw[data_len]at h1;exact h1
theorem num_small{s:ByteArray}(h:s.size≤8):num s<18446744073709551616:=by
 have h1:=num_lt_size s;exact Nat.lt_of_lt_of_le h1 (Nat.le_trans (Nat.pow_le_pow_right (by omega) h) (by decide))
theorem nS_zero:nS 0=⟨#[]⟩:=rfl
theorem nS_one:nS 1=⟨#[1]⟩:=rfl
theorem nS_small_size{n:Nat}(h:n<18446744073709551616):(nS n).size≤8:=nS_size_le.2 (by rw[show (256:Nat) ^ 8=18446744073709551616 from by decide];exact h)
theorem nS_size_zero{n:Nat}:(nS n).size=0↔n=0:=by
 rw[nS_size,List.length_eq_zero_iff,encN_eq_nil]
def dig(n i:Nat):Nat:=n / 256 ^ i%256
theorem dig_lt(n i:Nat):dig n i<256:=Nat.mod_lt _ (by omega)
theorem bnat_dig:∀(i:Nat) (l:List UInt8),dig (bnat l) i=if h:i<l.length then(l[l.length - 1 - i]'(by omega)).toNat else 0:=by
 intro i
 induction i with
 | zero =>
  intro l;rcases List.eq_nil_or_concat l with rfl | ⟨l,x,rfl⟩
  · simp[dig,bnat]
  · rw[List.concat_eq_append];unfold dig;rw[bnat_snoc,Nat.pow_zero,Nat.div_one,dif_pos (by simp)];have:=x.toNat_lt;simp only[List.length_append,List.length_singleton,Nat.add_sub_cancel,Nat.sub_zero];rw[List.getElem_append_right (by omega)];simp
 | succ i ih =>
  intro l;rcases List.eq_nil_or_concat l with rfl | ⟨l,x,rfl⟩
  · simp[dig,bnat]
  · rw[List.concat_eq_append];have hi:=ih l;unfold dig at *;have hx:=x.toNat_lt;rw[bnat_snoc,Nat.pow_succ,Nat.mul_comm (256 ^ i),←Nat.div_div_eq_div_mul,show (bnat l * 256+x.toNat) / 256=bnat l from by omega,hi];by_cases h:i<l.length
    · rw[dif_pos h,dif_pos (by simp;omega)];congr 1;simp only[List.length_append,List.length_singleton];rw[List.getElem_append_left (by omega)];congr 1;omega
    · rw[dif_neg h,dif_neg (by simp;omega)]
theorem dig_encN(n i:Nat)(h:i<(encN n).length):((encN n)[(encN n).length - 1 - i]'(by omega)).toNat=dig n i:=by
 have:=bnat_dig i (encN n);rw[bnat_encN,dif_pos h]at this;exact this.symm
theorem dig_beyond{n i:Nat}(h:(encN n).length≤i):dig n i=0:=by
 have:=bnat_dig i (encN n);rw[bnat_encN,dif_neg (by omega)]at this;exact this
theorem div_succ(n i:Nat):n / 256 ^ (i+1)=n / 256 ^ i / 256:=by rw[Nat.pow_succ,Nat.div_div_eq_div_mul]
def beN(n v:Nat):List UInt8:=(List.range n).map fun k=>UInt8.ofNat (v / 256 ^ (n - 1 - k)%256)
theorem beN_length(n v:Nat):(beN n v).length=n:=by simp[beN]
theorem beN_get(n v k:Nat)(h:k<n):(beN n v)[k]? =some (UInt8.ofNat (v / 256 ^ (n - 1 - k)%256)):=by
 unfold beN;rw[List.getElem?_map,List.getElem?_range h];rfl
theorem beN_succ(n v:Nat):beN (n+1) v=beN n (v / 256)++[UInt8.ofNat (v%256)]:=by
 apply List.ext_getElem?;intro k;by_cases h:k<n
 · rw[beN_get _ _ _ (by omega),List.getElem?_append_left (by rw[beN_length];exact h),beN_get _ _ _ h];congr 2;rw[show n+1 - 1 - k=(n - 1 - k)+1 from by omega,Nat.pow_succ,Nat.mul_comm (256 ^ (n - 1 - k)),←Nat.div_div_eq_div_mul]
 · by_cases h2:k=n
   · subst h2;rw[beN_get _ _ _ (by omega),List.getElem?_append_right (by rw[beN_length];exact Nat.le_refl _),beN_length];simp
   · rw[List.getElem?_eq_none (by rw[beN_length];omega),List.getElem?_eq_none (by rw[List.length_append,beN_length];simp;omega)]
theorem bnat_beN:∀(n v:Nat),bnat (beN n v)=v%256 ^ n
 | 0,v=>by simp[beN,bnat,Nat.mod_one]
 | n+1,v=>by
  rw[beN_succ,bnat_snoc,bnat_beN n,ofNat_mod_toNat,Nat.pow_succ,Nat.mul_comm (256 ^ n) 256,Nat.mod_mul,Nat.mul_comm];omega
theorem trim_beN{n v:Nat}(h:v<256 ^ n):trimZ (beN n v)=encN v:=by rw[trimZ_eq,bnat_beN,Nat.mod_eq_of_lt h]
theorem add_step{a b c i:Nat}(h:(a+b) / 256 ^ i=a / 256 ^ i+b / 256 ^ i+c):(a+b) / 256 ^ (i+1)=a / 256 ^ (i+1)+b / 256 ^ (i+1)+(dig a i+dig b i+c) / 256∧dig (a+b) i=(dig a i+dig b i+c)%256:=by
 simp only[div_succ,dig,h];omega
theorem sub_step{a b c i:Nat}(hab:b≤a)(h:a / 256 ^ i=b / 256 ^ i+(a - b) / 256 ^ i+c)(hc:c≤1) :
 (dig b i+c≤dig a i→dig (a - b) i=dig a i - dig b i - c∧a / 256 ^ (i+1)=b / 256 ^ (i+1)+(a - b) / 256 ^ (i+1)+0) ∧
 (dig a i<dig b i+c→dig (a - b) i=dig a i+256 - dig b i - c∧a / 256 ^ (i+1)=b / 256 ^ (i+1)+(a - b) / 256 ^ (i+1)+1):=by
 simp only[div_succ,dig]at *;generalize (a - b) / 256 ^ i=d at *;generalize b / 256 ^ i=y at *;rw[h];constructor<;>intro h1<;>omega
end Go.Proofs.YtfbmbledklbfgaaGreatDoor

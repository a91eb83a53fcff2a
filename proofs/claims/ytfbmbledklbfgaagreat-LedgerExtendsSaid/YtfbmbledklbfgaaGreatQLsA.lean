import Derived.Test.YtfbmbledklbfgaaGreatQLedM
set_option linter.unusedVariables false
set_option linter.unusedSimpArgs false
namespace Go.Proofs.YtfbmbledklbfgaaGreat
def halfN(n:Nat):Nat:=2 ^ Nat.log2 (n - 1)
theorem halfN_lt{n:Nat}(h:2≤n):halfN n<n:=by
 unfold halfN;have:=Nat.log2_self_le (n:=n - 1) (by omega);omega
theorem halfN_pos(n:Nat):1≤halfN n:=Nat.one_le_two_pow
theorem halfN_of{n j:Nat}(h1:2 ^ j<n)(h2:n≤2 * 2 ^ j):halfN n=2 ^ j:=by
 unfold halfN;have hp:1≤2 ^ j:=Nat.one_le_two_pow;have a:Nat.log2 (n - 1)<j+1:=(Nat.log2_lt (by omega)).2 (by rw[Nat.pow_succ];omega);have b:j≤Nat.log2 (n - 1):=(Nat.le_log2 (by omega)).2 (by omega);rw[show Nat.log2 (n - 1)=j from by omega]
def leafH(s:ByteArray):ByteArray:=bstr (shaL (0::s.data.toList))
def nodeH(a b:ByteArray):ByteArray:=bstr (shaL (1::(a.data.toList++b.data.toList)))
def rootF:Nat→List ByteArray→ByteArray
 | 0,_=>bstr (shaL [])
 | f+1,l=>if l.length=0 then bstr (shaL [])else if l.length=1 then leafH (l.headD ⟨#[]⟩)else nodeH (rootF f (l.take (halfN l.length))) (rootF f (l.drop (halfN l.length)))
theorem rootF_succ(f:Nat)(l:List ByteArray):rootF (f+1) l=if l.length=0 then bstr (shaL [])else if l.length=1 then leafH (l.headD ⟨#[]⟩)else nodeH (rootF f (l.take (halfN l.length))) (rootF f (l.drop (halfN l.length))):=rfl
theorem rootF_enough:∀(f g:Nat) (l:List ByteArray),l.length≤f→l.length≤g→rootF f l=rootF g l
 | 0,0,_,_,_=>rfl
 | 0,g+1,l,h,_=>by
  unfold rootF;rw[if_pos (by omega)]
 | f+1,0,l,_,h=>by
  unfold rootF;rw[if_pos (by omega)]
 | f+1,g+1,l,h1,h2=>by
  unfold rootF;by_cases h0:l.length=0
  · rw[if_pos h0,if_pos h0]
  · rw[if_neg h0,if_neg h0];by_cases h3:l.length=1
    · rw[if_pos h3,if_pos h3]
    · rw[if_neg h3,if_neg h3];have:=halfN_lt (n:=l.length) (by omega);have:=halfN_pos l.length;rw[rootF_enough f g (l.take (halfN l.length)) (by rw[List.length_take];omega) (by rw[List.length_take];omega),rootF_enough f g (l.drop (halfN l.length)) (by rw[List.length_drop];omega) (by rw[List.length_drop];omega)]
def rootL(l:List ByteArray):ByteArray:=rootF l.length l
theorem rootL_nil:rootL []=bstr (shaL []):=rfl
theorem rootL_one(x:ByteArray):rootL [x]=leafH x:=rfl
theorem rootL_more{l:List ByteArray}(h:2≤l.length):rootL l=nodeH (rootL (l.take (halfN l.length))) (rootL (l.drop (halfN l.length))):=by
 obtain⟨f,hf⟩:∃ f,l.length=f+1:=⟨l.length - 1,by omega⟩;have h1:=halfN_lt h;have h2:=halfN_pos l.length;unfold rootL;rw[show rootF l.length l=rootF (f+1) l from by rw[hf],rootF_succ,if_neg (show ¬ l.length=0 by omega),if_neg (show ¬ l.length=1 by omega),←rootF_enough (l.take (halfN l.length)).length f _ nlr (by rw[List.length_take];omega),←rootF_enough (l.drop (halfN l.length)).length f _ nlr (by rw[List.length_drop];omega)]
def rootsF:Nat→ByteArray→Nat→Nat→Bool→List ByteArray→ByteArray×ByteArray×Bool
 | 0,_,_,_,_,_=>(⟨#[]⟩,⟨#[]⟩,false)
 | f+1,B,m,n,wh,p=>if m=n∧wh=true then(B,B,p.isEmpty)else match p.getLast? with
  | none=>(⟨#[]⟩,⟨#[]⟩,false)
  | some x=>if m=n then(x,x,p.dropLast.isEmpty)else if m≤halfN n then
   let r:=rootsF f B m (halfN n) wh p.dropLast
   (r.1,nodeH r.2.1 x,r.2.2)
   else
    let r:=rootsF f B (m - halfN n) (n - halfN n) false p.dropLast
    (nodeH x r.1,nodeH x r.2.1,r.2.2)
def popC(p:List ByteArray)(ok:Bool):ByteArray×List ByteArray×Bool:=match p.getLast? with
 | none=>(⟨#[]⟩,p,false)
 | some x=>(x,p.dropLast,ok)
def climbF:Nat→ByteArray→Nat→Nat→Bool→List ByteArray→Bool→(ByteArray×ByteArray)×List ByteArray×Bool
 | 0,_,_,_,_,p,ok=>((⟨#[]⟩,⟨#[]⟩),p,ok)
 | f+1,B,m,n,wh,p,ok=>if ok=false then((⟨#[]⟩,⟨#[]⟩),p,ok)else if m=n then
  (if wh=true then((B,B),p,ok)else(((popC p ok).1,(popC p ok).1),(popC p ok).2))
  else if m≤halfN n then
   let r:=climbF f B m (halfN n) wh (popC p ok).2.1 (popC p ok).2.2
   ((r.1.1,nodeH r.1.2 (popC p ok).1),r.2)
  else
   let r:=climbF f B (m - halfN n) (n - halfN n) false (popC p ok).2.1 (popC p ok).2.2
   ((nodeH (popC p ok).1 r.1.1,nodeH (popC p ok).1 r.1.2),r.2)
theorem climbF_no(f:Nat)(B:ByteArray)(m n:Nat)(wh:Bool)(p:List ByteArray):climbF f B m n wh p false=((⟨#[]⟩,⟨#[]⟩),p,false):=by
 cases f with
 | zero=>rfl
 | succ f=>unfold climbF;rw[if_pos rfl]
theorem climbF_succ(f:Nat)(B:ByteArray)(m n:Nat)(wh:Bool)(p:List ByteArray)(ok:Bool):climbF (f+1) B m n wh p ok=if ok=false then((⟨#[]⟩,⟨#[]⟩),p,ok)else if m=n then
 (if wh=true then((B,B),p,ok)else(((popC p ok).1,(popC p ok).1),(popC p ok).2))
 else if m≤halfN n then
  (((climbF f B m (halfN n) wh (popC p ok).2.1 (popC p ok).2.2).1.1,nodeH (climbF f B m (halfN n) wh (popC p ok).2.1 (popC p ok).2.2).1.2 (popC p ok).1),(climbF f B m (halfN n) wh (popC p ok).2.1 (popC p ok).2.2).2)
 else
  ((nodeH (popC p ok).1 (climbF f B (m - halfN n) (n - halfN n) false (popC p ok).2.1 (popC p ok).2.2).1.1,nodeH (popC p ok).1 (climbF f B (m - halfN n) (n - halfN n) false (popC p ok).2.1 (popC p ok).2.2).1.2),(climbF f B (m - halfN n) (n - halfN n) false (popC p ok).2.1 (popC p ok).2.2).2):=rfl
theorem rootsF_whole(f:Nat)(B:ByteArray){m n:Nat}{wh:Bool}(p:List ByteArray)(hm:m=n)(hw:wh=true):rootsF (f+1) B m n wh p=(B,B,p.isEmpty):=if_pos ⟨hm,hw⟩
theorem rootsF_none(f:Nat)(B:ByteArray){m n:Nat}{wh:Bool}{p:List ByteArray}(h:¬ (m=n∧wh=true))(hp:p.getLast? =none):rootsF (f+1) B m n wh p=(⟨#[]⟩,⟨#[]⟩,false):=by
 show (if m=n∧wh=true then _ else _)=_;rw[if_neg h,hp]
theorem rootsF_leaf(f:Nat)(B:ByteArray){m n:Nat}{wh:Bool}{p:List ByteArray}{x:ByteArray}(h:¬ (m=n∧wh=true))(hp:p.getLast? =some x)(hm:m=n):rootsF (f+1) B m n wh p=(x,x,p.dropLast.isEmpty):=by
 show (if m=n∧wh=true then _ else _)=_;rw[if_neg h,hp];exact if_pos hm
theorem rootsF_low(f:Nat)(B:ByteArray){m n:Nat}{wh:Bool}{p:List ByteArray}{x:ByteArray}(hp:p.getLast? =some x)(hm:¬ m=n)(hk:m≤halfN n):rootsF (f+1) B m n wh p=((rootsF f B m (halfN n) wh p.dropLast).1,nodeH (rootsF f B m (halfN n) wh p.dropLast).2.1 x,(rootsF f B m (halfN n) wh p.dropLast).2.2):=by
 show (if m=n∧wh=true then _ else _)=_;rw[if_neg (show ¬ (m=n∧wh=true)from fun h=>hm h.1),hp];show (if m=n then _ else if m≤halfN n then _ else _)=_;rw[if_neg hm,if_pos hk]
theorem rootsF_high(f:Nat)(B:ByteArray){m n:Nat}{wh:Bool}{p:List ByteArray}{x:ByteArray}(hp:p.getLast? =some x)(hm:¬ m=n)(hk:¬ m≤halfN n):rootsF (f+1) B m n wh p=(nodeH x (rootsF f B (m - halfN n) (n - halfN n) false p.dropLast).1,nodeH x (rootsF f B (m - halfN n) (n - halfN n) false p.dropLast).2.1,(rootsF f B (m - halfN n) (n - halfN n) false p.dropLast).2.2):=by
 show (if m=n∧wh=true then _ else _)=_;rw[if_neg (show ¬ (m=n∧wh=true)from fun h=>hm h.1),hp];show (if m=n then _ else if m≤halfN n then _ else _)=_;rw[if_neg hm,if_neg hk]
theorem popC_none{p:List ByteArray}(ok:Bool)(hp:p.getLast? =none):popC p ok=(⟨#[]⟩,p,false):=by unfold popC;rw[hp]
theorem popC_some{p:List ByteArray}{x:ByteArray}(ok:Bool)(hp:p.getLast? =some x):popC p ok=(x,p.dropLast,ok):=by unfold popC;rw[hp]
theorem climb_roots:∀(f:Nat) (B:ByteArray) (m n:Nat) (wh:Bool) (p:List ByteArray),1≤m→m≤n→n≤f →
 ((climbF f B m n wh p true).2.2&&(climbF f B m n wh p true).2.1.isEmpty)=(rootsF f B m n wh p).2.2 ∧
 ((rootsF f B m n wh p).2.2=true→(climbF f B m n wh p true).1=((rootsF f B m n wh p).1,(rootsF f B m n wh p).2.1))
 | 0,_,_,_,_,_,h1,h2,h3=>by omega
 | f+1,B,m,n,wh,p,h1,h2,h3=>by
  rw[climbF_succ,if_neg (show ¬ (true=false)from by decide)];by_cases hm:m=n
  · rw[if_pos hm];by_cases hw:wh=true
    · rw[if_pos hw,rootsF_whole f B p hm hw];exact⟨by simp,fun _=>rfl⟩
    · rw[if_neg hw]
      cases hp:p.getLast? with
      | none =>
       rw[popC_none true hp,rootsF_none f B (fun h=>hw h.2) hp];exact⟨by simp,fun h=>by simp at h⟩
      | some x =>
       rw[popC_some true hp,rootsF_leaf f B (fun h=>hw h.2) hp hm];exact⟨by simp,fun _=>rfl⟩
  · rw[if_neg hm];have hn:2≤n:=by omega
    have k1:=halfN_lt hn;have k2:=halfN_pos n
    cases hp:p.getLast? with
    | none =>
     rw[popC_none true hp,rootsF_none f B (fun h=>hm h.1) hp];simp only[climbF_no];by_cases hk:m≤halfN n
     · rw[if_pos hk];exact⟨by simp,fun h=>by simp at h⟩
     · rw[if_neg hk];exact⟨by simp,fun h=>by simp at h⟩
    | some x =>
     rw[popC_some true hp];by_cases hk:m≤halfN n
     · rw[if_pos hk,rootsF_low f B hp hm hk];obtain⟨e1,e2⟩:=climb_roots f B m (halfN n) wh p.dropLast h1 hk (by omega);exact⟨e1,fun h=>by rw[e2 h]⟩
     · rw[if_neg hk,rootsF_high f B hp hm hk];obtain⟨e1,e2⟩:=climb_roots f B (m - halfN n) (n - halfN n) false p.dropLast (by omega) (by omega) (by omega);exact⟨e1,fun h=>by rw[e2 h]⟩
def extB(B:ByteArray)(m:Int)(A:ByteArray)(n:Int)(p:List ByteArray):Bool:=
 if m<0∨n<m then false else if m=0 then p.isEmpty&&decide (B=bstr (shaL []))else if m=n then p.isEmpty&&decide (B=A)else
  (rootsF n.toNat B m.toNat n.toNat true p).2.2&&decide ((rootsF n.toNat B m.toNat n.toNat true p).1=B)&&decide ((rootsF n.toNat B m.toNat n.toNat true p).2.1=A)
open Go.RowKit
theorem encS_sizeL(x:It):(encS x).1.size≤1000000:=by
 unfold encS;split
 · show (⟨#[]⟩:ByteArray).size≤_;decide
 · split
   · show (⟨#[]⟩:ByteArray).size≤_;decide
   · split
     · show (⟨#[]⟩:ByteArray).size≤_;decide
     · rw[bstr_size];omega
abbrev itsH(n:Nat)(r:ByteArray):List It:=[.mk 1 ⟨#[]⟩ ⟨#[104,101,97,100]⟩ [],.mk 0 (bstr (encN n)) ⟨#[]⟩ [],.mk 1 ⟨#[]⟩ r []]
def itH(n:Nat)(r:ByteArray):It:=.mk 2 ⟨#[]⟩ ⟨#[]⟩ (itsH n r)
def hdS(n:Nat)(r:ByteArray):ByteArray:=(encS (itH n r)).1
theorem itH_weight{n:Nat}{r:ByteArray}(hn:n≤100000)(hr:r.size≤100):(itH n r).weight≤1000:=by
 have h1:(encN n).length≤8:=encN_length_le.2 (by omega);simp only[itH,It.weight,Its.weight,bstr_size];have e1:(⟨#[]⟩:ByteArray).size=0:=rfl;have e2:(⟨#[104,101,97,100]⟩:ByteArray).size=4:=rfl;omega
theorem hd_ok{n:Nat}{r:ByteArray}(hn:n≤100000)(hr:r.size≤100):encS (itH n r)=(hdS n r,0):=by
 have hv:nvalid (bstr (encN n))=true:=(nvalid_nS (n:=n)).2 (Nat.lt_of_le_of_lt hn (by decide));have e1:(itH n r).valid=true:=(by unfold itH It.valid;rw[if_neg (by decide),if_neg (by decide),if_pos rfl];simp only[itsH,Its.valid,It.valid,hv];rfl);have e2:(itH n r).depth=1:=rfl;have e3:(itH n r).bytes.length≤1000:=Nat.le_trans (It.bytes_le _) (itH_weight hn hr);have : (encS (itH n r)).2=0:=(by unfold encS;rw[if_neg (by rw[e1];decide),if_neg (by rw[e2];decide),if_neg (by omega)]);exact Prod.ext rfl this
theorem hdS_size(n:Nat)(r:ByteArray):(hdS n r).size≤1000000:=encS_sizeL _
theorem row3H{w:World}{T:TypeId}{fr:Nat×Nat}{b:Nat}{k0 k1 k2:Int}{n0 n1 n2 t0 t1 t2:ByteArray}
 (hb:w.heap[b]? =some (.cells #[.int .i64 k0,.string n0,.string t0,.slice none 0 0,.int .i64 k1,.string n1,.string t1,.slice none 0 0,.int .i64 k2,.string n2,.string t2,.slice none 0 0] T fr)) :
 SlAt w (fun _=>True) (some ⟨b,0,none⟩) 3 3 [.mk k0 n0 t0 [],.mk k1 n1 t1 [],.mk k2 n2 t2 []]:=by
 have hc:=fun k=>Lib.cell_of_heap hb (j:=k);refine⟨rfl,Nat.le_refl _,by omega,b,0,fun _=>⟨rfl,trivial⟩,?_⟩;refine⟨CellsAt.mk' (hc 0) (hc 1) (hc 2) (hc 3) (SlAt.nil _ _),CellsAt.mk' (hc 4) (hc 5) (hc 6) (hc 7) (SlAt.nil _ _),CellsAt.mk' (hc 8) (hc 9) (hc 10) (hc 11) (SlAt.nil _ _),trivial⟩
end Go.Proofs.YtfbmbledklbfgaaGreat

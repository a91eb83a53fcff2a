import Derived.Lib.Hide
import Derived.WalkSpells
import Derived.WalkLawsBesides
import Derived.OrdersHeld
import Derived.Test.YtppbcopnfankcaaGreatRows
import Derived.Deep.RegionLaw
import Derived.Deep.AppendLies
set_option linter.unusedVariables false
set_option linter.unusedSimpArgs false
namespace Go.Proofs.YtppbcopnfankcaaGreat
theorem nm{α:Sort _}(a:α):∃ b,a=b:=⟨_,rfl⟩
theorem Hq{p:Prop}(h:p):Go.RowKit.Hid p:=h
open Go.RowKit in
theorem blr{B:Nat}{w:World}:Below B w w:=Below.refl B w
theorem nlr{n:Nat}:n≤n:=Nat.le_refl n
open Go.RowKit in
theorem bt{B:Nat}{w W V:World}(h:Go.RowKit.Hid (Below B w W))(k:Below W.heap.size W V)(e:B=w.heap.size:=by exact rfl):Go.RowKit.Hid (Below B w V):=Hq (h.out.trans (k.mono (by rw[e];exact h.out.size)))
def bnat(l:List UInt8):Nat:=l.foldl (fun n b=>n * 256+b.toNat) 0
def encF:Nat→Nat→List UInt8
 | 0,_=>[]
 | k+1,n=>if n=0 then []else encF k (n / 256)++[UInt8.ofNat (n%256)]
def encN(n:Nat):List UInt8:=encF n n
def xc(l:List UInt8):List UInt8:=l.dropWhile (· == 0)
def zaz(l:List UInt8):Prop:=l.head? ≠ some 0
theorem zhy(l:List UInt8)(a:Nat):l.foldl (fun n b=>n * 256+b.toNat) a=a * 256 ^ l.length+bnat l:=by
 induction l generalizing a with
 | nil=>simp[bnat]
 | cons x l ih =>
  have h1:=ih (a * 256+x.toNat);have h2:=ih (0 * 256+x.toNat);simp only[List.foldl_cons,bnat,List.length_cons]at *;rw[h1,h2];simp only[Nat.pow_succ];rw[Nat.add_mul,Nat.zero_mul,Nat.zero_add,Nat.mul_assoc,Nat.mul_comm 256,Nat.add_assoc]
theorem xr(x:UInt8)(l:List UInt8):bnat (x::l)=x.toNat * 256 ^ l.length+bnat l:=by
 have:=zhy l (0 * 256+x.toNat);simp only[bnat,List.foldl_cons]at *;rw[this];simp
theorem zcj(l m:List UInt8):bnat (l++m)=bnat l * 256 ^ m.length+bnat m:=by
 have:=zhy m (bnat l);rw[←this];simp[bnat,List.foldl_append]
theorem za0(l:List UInt8)(x:UInt8):bnat (l++[x])=bnat l * 256+x.toNat:=by
 rw[zcj];simp[bnat]
theorem zbd(l:List UInt8):bnat l<256 ^ l.length:=by
 induction l with
 | nil=>simp[bnat]
 | cons x l ih =>
  rw[xr,List.length_cons,Nat.pow_succ];have hx:=x.toNat_lt;have : x.toNat * 256 ^ l.length+256 ^ l.length≤256 * 256 ^ l.length:=by
   rw[←Nat.succ_mul];exact Nat.mul_le_mul_right _ (by omega)
  rw[Nat.mul_comm (256 ^ l.length)];omega
theorem zs1(x:UInt8)(l:List UInt8)(hx:x≠0):256 ^ l.length≤bnat (x::l):=by
 rw[xr];have : 1≤x.toNat:=by
  rcases Nat.eq_zero_or_pos x.toNat with h | h
  · exact absurd (UInt8.toNat_inj.1 (by simpa using h)) hx
  · exact h
 have:=Nat.mul_le_mul_right (256 ^ l.length) this;omega
theorem zl6(l:List UInt8):zaz (xc l):=by
 induction l with
 | nil=>simp[xc,zaz]
 | cons x l ih =>
  unfold xc at *;rw[List.dropWhile_cons];by_cases h:(x==0)=true
  · rw[if_pos h];exact ih
  · rw[if_neg h];simpa[zaz]using h
theorem zqc(l:List UInt8):bnat (xc l)=bnat l:=by
 induction l with
 | nil=>rfl
 | cons x l ih =>
  unfold xc at *;rw[List.dropWhile_cons];by_cases h:(x==0)=true
  · rw[if_pos h,ih,xr];have : x=0:=by simpa using h
    subst this;simp
  · rw[if_neg h]
theorem zer(l:List UInt8):(xc l).length≤l.length:=by
 unfold xc;exact(List.dropWhile_suffix _).length_le
theorem zgo{l:List UInt8}(h:zaz l):xc l=l:=by
 cases l with
 | nil=>rfl
 | cons x l =>
  unfold xc zaz at *;rw[List.dropWhile_cons,if_neg];simpa using h
theorem zc7:zaz []:=by simp[zaz]
theorem kw{x:UInt8}{l:List UInt8}:zaz (x::l)↔x≠0:=by simp[zaz]
theorem j7(n:Nat):(UInt8.ofNat (n%256)).toNat=n%256:=by
 simp[UInt8.toNat_ofNat']
theorem zlt(k n:Nat)(h:n≤k):bnat (encF k n)=n:=by
 induction k generalizing n with
 | zero => have : n = 0 := by omega
           subst this;rfl
 | succ k ih =>
  unfold encF;by_cases h0:n=0
  · rw[if_pos h0,h0];rfl
  · rw[if_neg h0,za0,ih (n / 256) (by omega),j7];omega
theorem zp8(k n:Nat)(h:n≤k):zaz (encF k n):=by
 induction k generalizing n with
 | zero=>exact zc7
 | succ k ih =>
  unfold encF;by_cases h0:n=0
  · rw[if_pos h0];exact zc7
  · rw[if_neg h0];by_cases h1:n / 256=0
    · have : encF k (n / 256)=[]:=by rw[h1];cases k<;>simp[encF]
      rw[this,List.nil_append,kw];intro e;have:=congrArg UInt8.toNat e;rw[j7]at this;simp at this;omega
    · have hc:=ih (n / 256) (by omega);have hb:=zlt k (n / 256) (by omega)
      cases hl:encF k (n / 256)with
      | nil=>rw[hl]at hb;exact absurd hb.symm h1
      | cons x l=>rw[hl]at hc;exact kw.2 (kw.1 hc)
theorem y9(n:Nat):bnat (encN n)=n:=zlt n n (Nat.le_refl n)
theorem qp(n:Nat):zaz (encN n):=zp8 n n (Nat.le_refl n)
theorem zac{a b:List UInt8}(hb:zaz b)(h:a.length<b.length):bnat a<bnat b:=by
 cases b with
 | nil=>simp at h
 | cons x l =>
  have h1:=zs1 x l (kw.1 hb);have h2:=zbd a;have h3:256 ^ a.length≤256 ^ l.length:=Nat.pow_le_pow_right (by omega) (by simp at h;omega);omega
theorem zlz{a b:List UInt8}(hl:a.length=b.length)(h:bnat a=bnat b):a=b:=by
 induction a generalizing b with
 | nil=>cases b with
  | nil=>rfl
  | cons y m=>simp at hl
 | cons x l ih=>cases b with
  | nil=>simp at hl
  | cons y m =>
   have hlm:l.length=m.length:=by simpa using hl
   rw[xr,xr,hlm]at h;have h1:=zbd l;have h2:=zbd m;rw[hlm]at h1;have hp:0<256 ^ m.length:=Nat.pow_pos (by omega);have hx:x.toNat=y.toNat:=by
    have e1:(x.toNat * 256 ^ m.length+bnat l) / 256 ^ m.length=x.toNat:=(by rw[Nat.add_comm,Nat.add_mul_div_right _ _ hp,Nat.div_eq_of_lt h1];omega);have e2:(y.toNat * 256 ^ m.length+bnat m) / 256 ^ m.length=y.toNat:=(by rw[Nat.add_comm,Nat.add_mul_div_right _ _ hp,Nat.div_eq_of_lt h2];omega);rw[←e1,h,e2]
   have hxy:x=y:=UInt8.toNat_inj.1 hx;subst hxy;rw[ih hlm (by omega)]
theorem zsw{a b:List UInt8}(ha:zaz a)(hb:zaz b)(h:bnat a=bnat b):a=b:=by
 rcases Nat.lt_trichotomy a.length b.length with hl | hl | hl
 · have:=zac hb hl;omega
 · exact zlz hl h
 · have:=zac ha hl;omega
theorem zc4{l:List UInt8}(h:zaz l):encN (bnat l)=l:=zsw (qp _) h (y9 _)
theorem zd3(l:List UInt8):xc l=encN (bnat l):=by rw[←zqc,zc4 (zl6 l)]
theorem zgb{n:Nat}:encN n=[]↔n=0:=⟨fun h=>by rw[←y9 n,h];rfl,fun h=>by rw[h];rfl⟩
theorem jt{n k:Nat}:(encN n).length≤k↔n<256 ^ k:=by
 constructor
 · intro h;have:=zbd (encN n);rw[y9]at this;exact Nat.lt_of_lt_of_le this (Nat.pow_le_pow_right (by omega) h)
 · intro h
   cases hl:encN n with
   | nil=>simp
   | cons x l =>
    have hc:=qp n;rw[hl]at hc;have h1:=zs1 x l (kw.1 hc);rw[←hl,y9]at h1;rcases Nat.lt_or_ge l.length k with h2 | h2
    · (simp only[List.length_cons];omega)
    · have:=Nat.pow_le_pow_right (show 0<256 by omega) h2;omega
theorem zbg{m n:Nat}(h:m≤n):(encN m).length≤(encN n).length:=
 jt.2 (Nat.lt_of_le_of_lt h (jt.1 nlr))
def cmpI(a b:Nat):Int:=if a<b then -1 else if b<a then 1 else 0
theorem zbc{p a b:List UInt8}{x y:UInt8}(hl:a.length=b.length)(h:x.toNat<y.toNat):bnat (p++x::a)<bnat (p++y::b):=by
 rw[zcj,zcj,xr,xr,List.length_cons,List.length_cons,hl];have h1:=zbd a;rw[hl]at h1;have h2:(x.toNat+1) * 256 ^ b.length≤y.toNat * 256 ^ b.length:=Nat.mul_le_mul_right _ h;rw[Nat.succ_mul]at h2;omega
theorem qh{a b:Nat}(h:a<b):cmpI a b = -1:=by simp[cmpI,h]
theorem zmz{a b:Nat}(h:b<a):cmpI a b=1:=by simp[cmpI,h];omega
def ordL(a b:List UInt8):Int:=if a.length<b.length then -1 else if b.length<a.length then 1 else cmpI (bnat a) (bnat b)
theorem zho{a b:List UInt8}(ha:zaz a)(hb:zaz b):ordL a b=cmpI (bnat a) (bnat b):=by
 unfold ordL;split
 · rw[qh (zac hb ‹_›)]
 · split
   · rw[zmz (zac ha ‹_›)]
   · rfl
theorem zhn{a b:List UInt8}{k:Nat}(hl:a.length=b.length)(hk:k<a.length)(he:a.take k=b.take k)(h:(a.getD k 0).toNat<(b.getD k 0).toNat) :
 ordL a b = -1∧ordL b a=1:=by
 have ea:a=b.take k++a.getD k 0::a.drop (k+1):=(by rw[←he,List.getD_eq_getElem?_getD,List.getElem?_eq_getElem hk,Option.getD_some,List.getElem_cons_drop,List.take_append_drop]);have eb:b=b.take k++b.getD k 0::b.drop (k+1):=(by rw[List.getD_eq_getElem?_getD,List.getElem?_eq_getElem (by omega),Option.getD_some,List.getElem_cons_drop,List.take_append_drop]);have hlt:bnat a<bnat b:=(by have:=zbc (p:=b.take k) (a:=a.drop (k+1)) (b:=b.drop (k+1)) (by simp[hl]) h;rw[←ea,←eb]at this;exact this);constructor
 · unfold ordL;rw[if_neg (by omega),if_neg (by omega),qh hlt]
 · unfold ordL;rw[if_neg (by omega),if_neg (by omega),zmz hlt]
theorem zrk{a b:List UInt8}(h:a=b):ordL a b=0:=by subst h;simp[ordL,cmpI]
open Go.RowKit
def Ret(v:Value)(w:World)(e:Ending)(w':World):Prop:=e=.returned v∧Below w.heap.size w w'
def RetQ(v:Value)(w:World)(e:Ending)(w':World):Prop:=e=.returned v∧w=w'
def za2:Value→Nat | .slice _ n _=>n | _=>0
def jv(l:List UInt8)(k:Nat):Int:=((l.getD k 0).toNat:Int)
def BytesAt(w:World)(A:Option Addr)(len cap:Nat)(bs:List UInt8):Prop:=
 bs.length=len∧len≤cap∧cap≤9223372036854775807∧(0<len→∃ b o,A=some ⟨b,o,none⟩∧∀ k,k<len→w.cell? ⟨b,o+k,none⟩=some (.int .u8 (jv bs k)))
def bstr(l:List UInt8):ByteArray:=⟨l.toArray⟩
theorem zm(l:List UInt8):(bstr l).size=l.length:=by simp[bstr,ByteArray.size]
theorem jn(l:List UInt8):(bstr l).data.toList=l:=by simp[bstr]
theorem xd(s:ByteArray):bstr s.data.toList=s:=by cases s;simp[bstr]
def zc(s:ByteArray):Bool:=decide (s.size≤128) && !(s.data.toList.head? ==some 0)
theorem zcc{a:ByteArray}(h:¬ a.size≤128):zc a=false:=by simp[zc,h]
theorem zoe{a:ByteArray}(h:a.size=0):a.data.toList=[]:=by
 rw[←List.length_eq_zero_iff,Array.length_toList];exact h
theorem jb(a:ByteArray):a.data.toList.length=a.size:=Array.length_toList
theorem zof(a:ByteArray)(k:Nat)(h:k<a.size):a.data.toList[k]? =some a[k]:=by
 have : k<a.data.toList.length:=by rw[Array.length_toList];exact h
 rw[List.getElem?_eq_getElem this];rfl
theorem kb(a:ByteArray)(k:Nat)(h:k<a.size):a.data.toList.getD k 0=a[k]:=by
 rw[List.getD_eq_getElem?_getD,zof a k h];rfl
theorem zz{a:ByteArray}(h:a.size=0):a.toList.isEmpty=true:=by rw[ByteArray.toList_eq,zoe h];rfl
theorem j4{a:ByteArray}(h:0<a.size):a.toList.isEmpty=false:=by
 rw[ByteArray.toList_eq]
 cases e:a.data.toList with
 | nil=>rw[←jb,e]at h;simp at h
 | cons x l=>rfl
theorem zsx(a:ByteArray)(h:0<a.size):(a.data.toList.head? ==some 0)=((a[0].toNat:Int)==0):=by
 have e:a.data.toList.head? =some a[0]:=by rw[List.head?_eq_getElem?];exact zof a 0 h
 rw[e,Bool.eq_iff_iff];simp only[beq_iff_eq,Option.some.injEq];constructor
 · intro h;rw[h];rfl
 · intro h;exact UInt8.toNat_inj.1 (by simpa using h)
theorem zdg{a:ByteArray}(h:a.size=0):zc a=true:=by simp[zc,zoe h,h]
theorem zcb{a:ByteArray}(h:a.size≤128)(h0:0<a.size):zc a=((a[0].toNat:Int) != 0):=by
 simp[zc,h,zsx a h0,bne]
theorem zh3{l:List UInt8}{k:Nat}:jv l k=0↔l.getD k 0=0:=by
 unfold jv;constructor
 · intro h;exact UInt8.toNat_inj.1 (by simpa using h)
 · intro h;rw[h];rfl
theorem zdc{l:List UInt8}(h0:0<l.length)(h:jv l 0=0):xc l=xc (l.drop 1):=by
 cases l with
 | nil=>simp at h0
 | cons x l =>
  have : x=0:=zh3.1 h;subst this;simp[xc]
theorem kj{l:List UInt8}(h:l.length=0∨jv l 0≠0):xc l=l:=by
 apply zgo;rcases h with h | h
 · rw[List.length_eq_zero_iff.1 h];exact zc7
 · cases l with
   | nil=>exact zc7
   | cons x l=>exact kw.2 fun e=>h (zh3.2 e)
theorem BytesAt.conv{P:Program}{w:World}{A:Option Addr}{len cap:Nat}{bs:List UInt8}(h:BytesAt w A len cap bs)(src dst e:TypeId)
 (hs:P.underlying src=some (.slice e)) (he:P.underlying e=some (.int .u8)) (hd:P.underlying dst=some .string) :
 (convert src dst (.slice A len cap)).run P w=.ok (.string (bstr bs)) w:=by
 obtain⟨hl,_,_,hc⟩:=h;rcases Nat.eq_zero_or_pos len with h0 | h0
 · subst h0;have hb:bs=[]:=List.length_eq_zero_iff.1 hl;subst hb
   cases A with
   | none=>rw[run_convert_bytes_nil w src e hs he 0 cap dst hd];rfl
   | some a =>
    rw[run_convert_bytes_string w src dst e _ 0 cap hs he hd,run_bytesToString w a 0 cap [] (by simpa using run_loadCells_list (P:=P) w a [] (by intro j v hj;simp at hj))];rfl
 · obtain⟨b,o,rfl,hcell⟩:=hc h0;have hz:∀ i,i<len→w.cell? ⟨b,o+i,none⟩=some (.int .u8 ((bs.map fun x=>(x.toNat:Int)).getD i 0)):=by
    intro i hi;rw[hcell i hi];have : i<bs.length:=by omega
    simp[jv,List.getElem?_eq_getElem this]
   rw[run_convert_bytes_arg w src e hs he b o len cap (bs.map fun x=>(x.toNat:Int)) (by simp[hl]) hz dst hd];have e1:strOfNums (bs.map fun x=>(x.toNat:Int))=bstr bs:=by
    unfold strOfNums bstr;rw[List.map_map];congr 2
    conv=>rhs;rw[←List.map_id bs]
    apply List.map_congr_left;intro x _;simp
   rw[e1]
theorem BytesAt.from{w:World}{b o len cap:Nat}{bs:List UInt8}(h:BytesAt w (some ⟨b,o,none⟩) len cap bs)(k:Nat)(hk:k≤len) :
 BytesAt w (if cap=k then some ⟨b,o,none⟩else some ⟨b,o+k,none⟩) (len - k) (cap - k) (bs.drop k):=by
 obtain⟨hl,hc,hm,hcell⟩:=h;refine⟨by simp[hl],by omega,by omega,fun h1=>?_⟩;obtain⟨b',o',e,hcell⟩:=hcell (by omega);simp only[Option.some.injEq,Addr.mk.injEq,and_true]at e;obtain⟨rfl,rfl⟩:=e;rw[if_neg (by omega)];refine⟨b,o+k,rfl,fun j hj=>?_⟩;have:=hcell (k+j) (by omega);rw[show o+k+j=o+(k+j)from by omega,this];simp[jv]
theorem BytesAt.tail{w:World}{b o len cap:Nat}{bs:List UInt8}(h:BytesAt w (some ⟨b,o,none⟩) len cap bs)(h0:0<len) :
 BytesAt w (if cap=1 then some ⟨b,o,none⟩else some ⟨b,o+1,none⟩) (len - 1) (cap - 1) (bs.drop 1):=h.from 1 h0
theorem zh4(l:List UInt8)(k j:Nat):jv (l.drop k) j=jv l (k+j):=by simp[jv]
theorem zo2{l:List UInt8}{k:Nat}(h:k<l.length)(hz:jv l k=0):xc (l.drop k)=xc (l.drop (k+1)):=by
 rw[zdc (by simp;omega) (by rw[zh4];exact hz),List.drop_drop]
theorem cell_kept{B:Nat}{w w':World}(hb:Below B w w')(hB:w.heap.size≤B){a:Addr}{v:Value}(h:w.cell? a=some v):w'.cell? a=some v:=by
 rw[hb.cell (Nat.lt_of_lt_of_le (World.block_lt_of_cell? w a h) hB)];exact h
theorem kc{w w':World}(h:Below w.heap.size w w'){a:Addr}{v:Value}(c:w.cell? a=some v):w'.cell? a=some v:=cell_kept h nlr c
theorem zn{w:World}{k:Nat}{o:Obj}(h:w.heap[k]? =some o):k<w.heap.size:=by
 rcases Nat.lt_or_ge k w.heap.size with h' | h'
 · exact h'
 · rw[Array.getElem?_eq_none h']at h;cases h
theorem zr{B:Nat}{w w':World}(hb:Below B w w')(hB:w.heap.size≤B){k:Nat}{o:Obj}(h:w.heap[k]? =some o):w'.heap[k]? =some o:=by
 rw[hb.block k (Nat.lt_of_lt_of_le (zn h) hB)];exact h
theorem jp{base:Nat}{e:TypeId}{size:Nat}{v:Value}{n:Nat}{xs:List Value}{B:Nat}{w w':World}(h:w.ownsRow base e size v n xs)(hb:Below B w w')(hB:w.heap.size≤B):w'.ownsRow base e size v n xs:=by
 obtain⟨h1,h2⟩:=h;refine⟨h1,?_⟩;rcases h2 with h2 | ⟨g,cap,cur,hv,hbg,hh,r⟩
 · exact .inl h2
 · exact .inr ⟨g,cap,cur,hv,hbg,zr hb hB hh,r⟩
theorem zkw{base:Nat}{e:TypeId}{size:Nat}{v:Value}{n:Nat}{xs:List Value}{w:World}(h:w.ownsRow base e size v n xs){a:Addr}(ha:a.block<base)(u:Value):(w.setCell a u).ownsRow base e size v n xs:=
 ownsRow_setCell_below h ha u
theorem zl{w:World}{b j:Nat}{cs:Array Value}{T:TypeId}{fr:Nat×Nat}(h:w.heap[b]? =some (.cells cs T fr))(u:Value):(w.setCell ⟨b,j,none⟩ u).heap[b]? =some (.cells (cs.setIfInBounds j u) T fr):=by
 simp[World.setCell,Array.getElem?_modify,h]
theorem zf{w:World}{b:Nat}{a0 a1 a2 a3:Value}{T:TypeId}{fr:Nat×Nat}(h:w.heap[b]? =some (.cells #[a0,a1,a2,a3] T fr)) :
 w.cell? ⟨b,0,none⟩=some a0∧w.cell? ⟨b,1,none⟩=some a1∧w.cell? ⟨b,2,none⟩=some a2∧w.cell? ⟨b,3,none⟩=some a3:=by
 simp[World.cell?,h]
theorem jr{w:World}{b:Nat}{a0 a1 a2 a3:Value}{T:TypeId}(h:w.heap[b]? =some (.cells #[a0,a1,a2,a3] T (0,0))) :
 w.frozen? ⟨b,0,none⟩=false∧w.frozen? ⟨b,1,none⟩=false∧w.frozen? ⟨b,2,none⟩=false∧w.frozen? ⟨b,3,none⟩=false:=by
 simp[World.frozen?,h]
structure KeepB (B:Nat) (w w':World):Prop where
 below:Below B w w'
 cells:∀ a v,w.cell? a=some v→w'.cell? a=some v
theorem KeepB.refl(B:Nat)(w:World):KeepB B w w:=⟨Below.refl _ _,fun _ _ h=>h⟩
theorem KeepB.of{B C:Nat}{w w':World}(h:Below C w w')(hC:w.heap.size≤C)(hB:B≤C):KeepB B w w':=⟨h.mono hB,fun _ _ hc=>cell_kept h hC hc⟩
theorem KeepB.trans{B:Nat}{a b c:World}(h:KeepB B a b)(k:KeepB B b c):KeepB B a c:=⟨h.below.trans k.below,fun x v hc=>k.cells x v (h.cells x v hc)⟩
theorem KeepB.drew{B:Nat}{a w:World}(h:KeepB B a w):KeepB B a w.drew:=⟨h.below.drew,fun x v hc=>h.cells x v hc⟩
theorem KeepB.alloc{B:Nat}{a w:World}(h:KeepB B a w)(hB:B≤w.heap.size)(o:Obj):KeepB B a (w.alloc o):=
 h.trans (.of ((blr).alloc nlr _) nlr hB)
theorem cell?_freeze(w:World)(a:Addr)(n:Nat)(p:Addr):(w.freeze a n).cell? p=w.cell? p:=by
 unfold World.freeze;split
 · rfl
 · simp only[World.cell?,Array.getElem?_modify];by_cases h:a.block=p.block
   · rw[if_pos h]
     cases w.heap[p.block]? with
     | none=>rfl
     | some o=>cases o<;>rfl
   · rw[if_neg h]
theorem cell?_drew(w:World)(p:Addr):w.drew.cell? p=w.cell? p:=rfl
def set4(w:World)(b:Nat)(v0 v1 v2 v3:Value):World:=(((w.setCell ⟨b,0,none⟩ v0).setCell ⟨b,1,none⟩ v1).setCell ⟨b,2,none⟩ v2).setCell ⟨b,3,none⟩ v3
theorem xg{w:World}{b:Nat}{a0 a1 a2 a3:Value}{T:TypeId}{fr:Nat×Nat}(h:w.heap[b]? =some (.cells #[a0,a1,a2,a3] T fr))(v0 v1 v2 v3:Value):(set4 w b v0 v1 v2 v3).heap[b]? =some (.cells #[v0,v1,v2,v3] T fr):=
 zl (zl (zl (zl h v0) v1) v2) v3
theorem qm{w:World}{b:Nat}(v0 v1 v2 v3:Value){k:Nat}(h:k≠b):(set4 w b v0 v1 v2 v3).heap[k]? =w.heap[k]?:=by
 unfold set4;rw[Below.heap_setCell _ _ _ _ h,Below.heap_setCell _ _ _ _ h,Below.heap_setCell _ _ _ _ h,Below.heap_setCell _ _ _ _ h]
theorem xh{B:Nat}{w0 w:World}(hb:Below B w0 w){b:Nat}(h:B≤b)(v0 v1 v2 v3:Value):Below B w0 (set4 w b v0 v1 v2 v3):=
 (((hb.setCell (p:=⟨b,0,none⟩) h _).setCell (p:=⟨b,1,none⟩) h _).setCell (p:=⟨b,2,none⟩) h _).setCell (p:=⟨b,3,none⟩) h _
def be8(n:Nat):List UInt8:=[UInt8.ofNat (n / 72057594037927936%256),UInt8.ofNat (n / 281474976710656%256),UInt8.ofNat (n / 1099511627776%256),UInt8.ofNat (n / 4294967296%256),
 UInt8.ofNat (n / 16777216%256),UInt8.ofNat (n / 65536%256),UInt8.ofNat (n / 256%256),UInt8.ofNat (n%256)]
theorem zor(n:Nat)(h:n<18446744073709551616):xc (be8 n)=encN n:=by
 rw[zd3];congr 1;simp only[be8,bnat,List.foldl_cons,List.foldl_nil,j7];omega
theorem zv2(w:World)(n:Nat)(T:TypeId):BytesAt (w.alloc (.cells #[.int .u8 ((n:Int) / 72057594037927936%256),.int .u8 ((n:Int) / 281474976710656%256),.int .u8 ((n:Int) / 1099511627776%256),
 .int .u8 ((n:Int) / 4294967296%256),.int .u8 ((n:Int) / 16777216%256),.int .u8 ((n:Int) / 65536%256),.int .u8 ((n:Int) / 256%256),.int .u8 ((n:Int)%256)] T)) (some ⟨w.heap.size,0,none⟩) 8 8 (be8 n):=by
 refine⟨rfl,by omega,by omega,fun _=>⟨_,_,rfl,fun k hk=>?_⟩⟩;have e:∀ m:Nat,((UInt8.ofNat (m%256)).toNat:Int)=(m:Int)%256:=fun m=>by rw[j7];omega
 rw[Nat.zero_add,World.cell?_alloc_at (hn:=rfl)]
 match k,hk with
 | 0,_=>exact congrArg (fun x=>some (Value.int .u8 x)) (e _).symm
 | 1,_=>exact congrArg (fun x=>some (Value.int .u8 x)) (e _).symm
 | 2,_=>exact congrArg (fun x=>some (Value.int .u8 x)) (e _).symm
 | 3,_=>exact congrArg (fun x=>some (Value.int .u8 x)) (e _).symm
 | 4,_=>exact congrArg (fun x=>some (Value.int .u8 x)) (e _).symm
 | 5,_=>exact congrArg (fun x=>some (Value.int .u8 x)) (e _).symm
 | 6,_=>exact congrArg (fun x=>some (Value.int .u8 x)) (e _).symm
 | 7,_=>exact congrArg (fun x=>some (Value.int .u8 x)) (e _).symm
theorem zxw(w:World)(n:Nat)(T:TypeId):BytesAt (w.alloc (.cells #[.int .u8 ((n:Int) / 256 / 256 / 256 / 256 / 256 / 256 / 256%256),.int .u8 ((n:Int) / 256 / 256 / 256 / 256 / 256 / 256%256),.int .u8 ((n:Int) / 256 / 256 / 256 / 256 / 256%256),
 .int .u8 ((n:Int) / 256 / 256 / 256 / 256%256),.int .u8 ((n:Int) / 256 / 256 / 256%256),.int .u8 ((n:Int) / 256 / 256%256),.int .u8 ((n:Int) / 256%256),.int .u8 ((n:Int)%256)] T)) (some ⟨w.heap.size,0,none⟩) 8 8 (be8 n):=by
 have h:=zv2 w n T;rw[show (n:Int) / 256 / 256 / 256 / 256 / 256 / 256 / 256=(n:Int) / 72057594037927936 from by omega,show (n:Int) / 256 / 256 / 256 / 256 / 256 / 256=(n:Int) / 281474976710656 from by omega,
  show (n:Int) / 256 / 256 / 256 / 256 / 256=(n:Int) / 1099511627776 from by omega,show (n:Int) / 256 / 256 / 256 / 256=(n:Int) / 4294967296 from by omega,
  show (n:Int) / 256 / 256 / 256=(n:Int) / 16777216 from by omega,show (n:Int) / 256 / 256=(n:Int) / 65536 from by omega]
 exact h
theorem zma{k:IntKind}{a b:Int}(h:a=b):Ending.returned (.int k a)=.returned (.int k b):=by rw[h]
inductive It where
 | mk (kind:Int) (nat text:ByteArray) (list:List It)
def It.kind:It→Int | .mk k _ _ _=>k
def It.nat:It→ByteArray | .mk _ n _ _=>n
def It.text:It→ByteArray | .mk _ _ t _=>t
def It.list:It→List It | .mk _ _ _ l=>l
def lenF:Nat→Nat→List UInt8
 | 0,_=>[]
 | k+1,n=>if n<128 then [UInt8.ofNat n]else UInt8.ofNat (n%128+128)::lenF k (n / 128)
def lenB(n:Nat):List UInt8:=lenF 10 n
mutual
def It.valid:It→Bool
 | .mk k n t l=>if k=0 then zc n&&(t.size==0&&l.isEmpty)else if k=1 then n.size==0&&l.isEmpty else if k=2 then Its.valid l&&(n.size==0&&t.size==0)else false
def Its.valid:List It→Bool
 | []=>true
 | x::l=>x.valid&&Its.valid l
end
mutual
def It.depth:It→Nat
 | .mk k _ _ l=>if k=2 then Its.depth l+1 else 0
def Its.depth:List It→Nat
 | []=>0
 | x::l=>max x.depth (Its.depth l)
end
mutual
def It.bytes:It→List UInt8
 | .mk k n t l=>UInt8.ofNat (k%256).toNat::(lenB (n.data.toList++(t.data.toList++Its.bytes l)).length++(n.data.toList++(t.data.toList++Its.bytes l)))
def Its.bytes:List It→List UInt8
 | []=>[]
 | x::l=>x.bytes++Its.bytes l
end
mutual
def It.weight:It→Nat
 | .mk _ n t l=>n.size+t.size+Its.weight l+11
def Its.weight:List It→Nat
 | []=>0
 | x::l=>x.weight+Its.weight l
end
mutual
def It.nodes:It→Nat
 | .mk _ _ _ l=>Its.nodes l+1
def Its.nodes:List It→Nat
 | []=>0
 | x::l=>x.nodes+Its.nodes l
end
theorem Its.valid_append(l m:List It):Its.valid (l++m)=(Its.valid l&&Its.valid m):=by
 induction l with
 | nil=>simp[Its.valid]
 | cons x l ih=>simp[Its.valid,ih,Bool.and_assoc]
theorem Its.depth_append(l m:List It):Its.depth (l++m)=max (Its.depth l) (Its.depth m):=by
 induction l with
 | nil=>simp[Its.depth]
 | cons x l ih=>simp[Its.depth,ih,Nat.max_assoc]
theorem Its.bytes_append(l m:List It):Its.bytes (l++m)=Its.bytes l++Its.bytes m:=by
 induction l with
 | nil=>simp[Its.bytes]
 | cons x l ih=>simp[Its.bytes,ih]
theorem Its.weight_append(l m:List It):Its.weight (l++m)=Its.weight l+Its.weight m:=by
 induction l with
 | nil=>simp[Its.weight]
 | cons x l ih=>simp[Its.weight,ih,Nat.add_assoc]
theorem zcf(k n:Nat):(lenF k n).length≤k:=by
 induction k generalizing n with
 | zero=>simp[lenF]
 | succ k ih =>
  unfold lenF;split
  · simp
  · have:=ih (n / 128);simp only[List.length_cons];omega
mutual
theorem It.bytes_le:∀ x:It,x.bytes.length≤x.weight
 | .mk k n t l=>by
  have h:=Its.bytes_le l;have h1:=zcf 10 (n.data.toList++(t.data.toList++Its.bytes l)).length;simp only[It.bytes,It.weight,List.length_cons,List.length_append,jb,lenB]at *;omega
theorem Its.bytes_le:∀ l:List It,(Its.bytes l).length≤Its.weight l
 | []=>by simp[Its.bytes,Its.weight]
 | x::l=>by
  have h1:=It.bytes_le x;have h2:=Its.bytes_le l;simp only[Its.bytes,Its.weight,List.length_append];omega
end
mutual
theorem It.depth_le:∀ x:It,x.depth≤x.nodes
 | .mk k n t l=>by
  have h:=Its.depth_le l;simp only[It.depth,It.nodes];split<;>omega
theorem Its.depth_le:∀ l:List It,Its.depth l≤Its.nodes l
 | []=>by simp[Its.depth,Its.nodes]
 | x::l=>by
  have h1:=It.depth_le x;have h2:=Its.depth_le l;simp only[Its.depth,Its.nodes];omega
end
mutual
theorem It.nodes_le:∀ x:It,x.nodes≤x.weight
 | .mk k n t l=>by
  have h:=Its.nodes_le l;simp only[It.weight,It.nodes];omega
theorem Its.nodes_le:∀ l:List It,Its.nodes l≤Its.weight l
 | []=>by simp[Its.nodes,Its.weight]
 | x::l=>by
  have h1:=It.nodes_le x;have h2:=Its.nodes_le l;simp only[Its.weight,Its.nodes];omega
end
theorem It.nodes_pos(x:It):1≤x.nodes:=by cases x;simp[It.nodes]
theorem Its.length_le_nodes(l:List It):l.length≤Its.nodes l:=by
 induction l with
 | nil=>simp
 | cons x l ih=>have:=x.nodes_pos;simp only[Its.nodes,List.length_cons];omega
theorem Its.mem_nodes{l:List It}{x:It}(h:x∈l):x.nodes≤Its.nodes l:=by
 induction l with
 | nil=>cases h
 | cons y l ih =>
  simp only[Its.nodes];rcases List.mem_cons.1 h with rfl | h
  · omega
  · have:=ih h;omega
theorem Its.mem_weight{l:List It}{x:It}(h:x∈l):x.weight≤Its.weight l:=by
 induction l with
 | nil=>cases h
 | cons y l ih =>
  simp only[Its.weight];rcases List.mem_cons.1 h with rfl | h
  · omega
  · have:=ih h;omega
theorem It.length_lt(x:It):x.list.length+1≤x.nodes:=by
 cases x with
 | mk k n t l=>have:=Its.length_le_nodes l;simp only[It.list,It.nodes];omega
theorem It.child_nodes{x y:It}{k:Nat}(h:x.list[k]? =some y):y.nodes+1≤x.nodes:=by
 cases x with
 | mk k n t l=>have:=Its.mem_nodes (List.mem_of_getElem? h);simp only[It.nodes];simp only[It.list]at this;omega
mutual
def CellsAt(w:World)(ok:Nat→Prop):It→Nat→Nat→Prop
 | .mk k n t l,b,o=>w.cell? ⟨b,o,none⟩=some (.int .i64 k)∧w.cell? ⟨b,o+1,none⟩=some (.string n)∧w.cell? ⟨b,o+2,none⟩=some (.string t) ∧
  ∃ A len cap,w.cell? ⟨b,o+3,none⟩=some (.slice A len cap)∧l.length=len∧len≤cap∧cap≤9223372036854775807∧∃ b' o',(0<len→A=some ⟨b',o',none⟩∧ok b')∧RowAt w ok l b' o'
def RowAt(w:World)(ok:Nat→Prop):List It→Nat→Nat→Prop
 | [],_,_=>True
 | x::l,b,o=>CellsAt w ok x b o∧RowAt w ok l b (o+4)
end
def SlAt(w:World)(ok:Nat→Prop)(A:Option Addr)(len cap:Nat)(l:List It):Prop:=
 l.length=len∧len≤cap∧cap≤9223372036854775807∧∃ b o,(0<len→A=some ⟨b,o,none⟩∧ok b)∧RowAt w ok l b o
def ItAt(w:World)(ok:Nat→Prop)(v:Value)(x:It):Prop:=∃ A len cap,v=.agg #[.int .i64 x.kind,.string x.nat,.string x.text,.slice A len cap]∧SlAt w ok A len cap x.list
def Agree(ok:Nat→Prop)(w w':World):Prop:=∀ k,ok k→k<w.heap.size→w'.heap[k]? =w.heap[k]?
theorem Agree.of_below{B:Nat}{ok:Nat→Prop}{w w':World}(hb:Below B w w')(hB:w.heap.size≤B):Agree ok w w':=fun k _ h=>hb.block k (Nat.lt_of_lt_of_le h hB)
theorem Agree.trans{ok:Nat→Prop}{a b c:World}(h:Agree ok a b)(h':Agree ok b c)(hs:a.heap.size≤b.heap.size):Agree ok a c:=fun k h1 h2=>(h' k h1 (by omega)).trans (h k h1 h2)
theorem Agree.cell{ok:Nat→Prop}{w w':World}(h:Agree ok w w'){a:Addr}{v:Value}(hl:ok a.block)(hc:w.cell? a=some v):w'.cell? a=some v:=by
 rw[World.cell?_of_block (h a.block hl (World.block_lt_of_cell? w a hc))];exact hc
mutual
theorem CellsAt.keep{ok:Nat→Prop}{w w':World}(hb:Agree ok w w'):∀(x:It) (b o:Nat),ok b→CellsAt w ok x b o→CellsAt w' ok x b o
 | .mk k n t l,b,o,hl,⟨h0,h1,h2,A,len,cap,h3,h4,h5,h6,b',o',h7,h8⟩ =>
  ⟨hb.cell hl h0,hb.cell hl h1,hb.cell hl h2,A,len,cap,hb.cell hl h3,h4,h5,h6,b',o',h7,RowAt.keep hb l b' o' (fun h=>(h7 (by rw[←h4];exact List.length_pos_iff.2 h)).2) h8⟩
theorem RowAt.keep{ok:Nat→Prop}{w w':World}(hb:Agree ok w w'):∀(l:List It) (b o:Nat),(l≠[]→ok b)→RowAt w ok l b o→RowAt w' ok l b o
 | [],_,_,_,_=>trivial
 | x::l,b,o,hl,⟨h,h'⟩=>⟨CellsAt.keep hb x b o (hl (by simp)) h,RowAt.keep hb l b (o+4) (fun _=>hl (by simp)) h'⟩
end
mutual
theorem CellsAt.low{ok ok':Nat→Prop}{w:World}(hl:∀ b,ok b→ok' b):∀(x:It) (b o:Nat),CellsAt w ok x b o→CellsAt w ok' x b o
 | .mk k n t l,b,o,⟨h0,h1,h2,A,len,cap,h3,h4,h5,h6,b',o',h7,h8⟩ =>
  ⟨h0,h1,h2,A,len,cap,h3,h4,h5,h6,b',o',fun h=>⟨(h7 h).1,hl _ (h7 h).2⟩,RowAt.low hl l b' o' h8⟩
theorem RowAt.low{ok ok':Nat→Prop}{w:World}(hl:∀ b,ok b→ok' b):∀(l:List It) (b o:Nat),RowAt w ok l b o→RowAt w ok' l b o
 | [],_,_,_=>trivial
 | x::l,b,o,⟨h,h'⟩=>⟨CellsAt.low hl x b o h,RowAt.low hl l b (o+4) h'⟩
end
theorem SlAt.keep{ok:Nat→Prop}{w w':World}{A:Option Addr}{len cap:Nat}{l:List It}(h:SlAt w ok A len cap l)(hb:Agree ok w w'):SlAt w' ok A len cap l:=
 let ⟨h1,h2,h3,b,o,h4,h5⟩:=h
 ⟨h1,h2,h3,b,o,h4,RowAt.keep hb l b o (fun h=>(h4 (by rw[←h1];exact List.length_pos_iff.2 h)).2) h5⟩
theorem SlAt.low{ok ok':Nat→Prop}{w:World}{A:Option Addr}{len cap:Nat}{l:List It}(h:SlAt w ok A len cap l)(hl:∀ b,ok b→ok' b):SlAt w ok' A len cap l:=
 let ⟨h1,h2,h3,b,o,h4,h5⟩:=h
 ⟨h1,h2,h3,b,o,fun h=>⟨(h4 h).1,hl _ (h4 h).2⟩,RowAt.low hl l b o h5⟩
theorem SlAt.below{B:Nat}{ok:Nat→Prop}{w w':World}{A:Option Addr}{len cap:Nat}{l:List It}(h:SlAt w ok A len cap l)(hb:Below B w w')(hB:w.heap.size≤B):SlAt w' ok A len cap l:=h.keep (.of_below hb hB)
theorem ItAt.keep{ok:Nat→Prop}{w w':World}{v:Value}{x:It}(h:ItAt w ok v x)(hb:Agree ok w w'):ItAt w' ok v x:=
 let ⟨A,len,cap,h1,h2⟩:=h
 ⟨A,len,cap,h1,h2.keep hb⟩
theorem ItAt.low{ok ok':Nat→Prop}{w:World}{v:Value}{x:It}(h:ItAt w ok v x)(hl:∀ b,ok b→ok' b):ItAt w ok' v x:=
 let ⟨A,len,cap,h1,h2⟩:=h
 ⟨A,len,cap,h1,h2.low hl⟩
theorem ItAt.below{B:Nat}{ok:Nat→Prop}{w w':World}{v:Value}{x:It}(h:ItAt w ok v x)(hb:Below B w w')(hB:w.heap.size≤B):ItAt w' ok v x:=h.keep (.of_below hb hB)
theorem RowAt.get{w:World}{ok:Nat→Prop}:∀ {l:List It} {b o i:Nat} (h:RowAt w ok l b o) (hi:i<l.length),CellsAt w ok l[i] b (o+4 * i)
 | x::l,b,o,0,h,_=>h.1
 | x::l,b,o,i+1,h,hi=>by
  have:=RowAt.get (i:=i) h.2 (by simpa using hi);rw[show o+4 * (i+1)=o+4+4 * i from by omega];exact this
theorem CellsAt.open{w:World}{ok:Nat→Prop}{x:It}{b o:Nat}(h:CellsAt w ok x b o) :
 ∃ A len cap,w.cell? ⟨b,o,none⟩=some (.int .i64 x.kind)∧w.cell? ⟨b,o+1,none⟩=some (.string x.nat)∧w.cell? ⟨b,o+2,none⟩=some (.string x.text)∧w.cell? ⟨b,o+3,none⟩=some (.slice A len cap)∧SlAt w ok A len cap x.list:=by
 cases x with
 | mk k n t l =>
  obtain⟨h0,h1,h2,A,len,cap,h3,h4,h5,h6,b',o',h7,h8⟩:=h;exact⟨A,len,cap,h0,h1,h2,h3,h4,h5,h6,b',o',h7,h8⟩
theorem CellsAt.mk'{w:World}{ok:Nat→Prop}{x:It}{b o:Nat}{A:Option Addr}{len cap:Nat}(h0:w.cell? ⟨b,o,none⟩=some (.int .i64 x.kind))(h1:w.cell? ⟨b,o+1,none⟩=some (.string x.nat))
 (h2:w.cell? ⟨b,o+2,none⟩=some (.string x.text)) (h3:w.cell? ⟨b,o+3,none⟩=some (.slice A len cap)) (h4:SlAt w ok A len cap x.list):CellsAt w ok x b o:=by
 cases x with
 | mk k n t l =>
  obtain⟨h4,h5,h6,b',o',h7,h8⟩:=h4;exact⟨h0,h1,h2,A,len,cap,h3,h4,h5,h6,b',o',h7,h8⟩
theorem SlAt.get?{w:World}{ok:Nat→Prop}{b o len cap:Nat}{l:List It}{y:It}(h:SlAt w ok (some ⟨b,o,none⟩) len cap l)(i:Nat)(hi:l[i]? =some y):CellsAt w ok y b (o+i * 4):=by
 obtain⟨hj,rfl⟩:=List.getElem?_eq_some_iff.1 hi;obtain⟨h1,h2,h3,b',o',h4,h5⟩:=h;have:=(h4 (by omega)).1;simp only[Option.some.injEq,Addr.mk.injEq,and_true]at this;obtain⟨rfl,rfl⟩:=this;rw[Nat.mul_comm];exact h5.get hj
theorem SlAt.head{w:World}{ok:Nat→Prop}{A:Option Addr}{len cap:Nat}{l:List It}(h:SlAt w ok A len cap l)(h0:0<len):∃ b o,A=some ⟨b,o,none⟩:=by
 obtain⟨_,_,_,b,o,h4,_⟩:=h;exact⟨b,o,(h4 h0).1⟩
mutual
theorem CellsAt.bound{ok:Nat→Prop}{w:World}:∀(x:It) (b o:Nat),CellsAt w ok x b o→CellsAt w (fun c=>ok c∧c<w.heap.size) x b o
 | .mk k n t l,b,o,⟨h0,h1,h2,A,len,cap,h3,h4,h5,h6,b',o',h7,h8⟩ =>
  ⟨h0,h1,h2,A,len,cap,h3,h4,h5,h6,b',o',fun h=>⟨(h7 h).1,(h7 h).2,RowAt.lt l b' o' (List.length_pos_iff.1 (by omega)) h8⟩,RowAt.bound l b' o' h8⟩
theorem RowAt.bound{ok:Nat→Prop}{w:World}:∀(l:List It) (b o:Nat),RowAt w ok l b o→RowAt w (fun c=>ok c∧c<w.heap.size) l b o
 | [],_,_,_=>trivial
 | x::l,b,o,⟨h,h'⟩=>⟨CellsAt.bound x b o h,RowAt.bound l b (o+4) h'⟩
theorem RowAt.lt{ok:Nat→Prop}{w:World}:∀(l:List It) (b o:Nat),l≠[]→RowAt w ok l b o→b<w.heap.size
 | .mk _ _ _ _::_,b,o,_,⟨⟨h0,_⟩,_⟩=>World.block_lt_of_cell? w ⟨b,o,none⟩ h0
end
theorem SlAt.bound{w:World}{ok:Nat→Prop}{A:Option Addr}{len cap:Nat}{l:List It}(h:SlAt w ok A len cap l):SlAt w (fun c=>ok c∧c<w.heap.size) A len cap l:=
 let ⟨h1,h2,h3,b,o,h4,h5⟩:=h
 ⟨h1,h2,h3,b,o,fun h=>⟨(h4 h).1,(h4 h).2,RowAt.lt l b o (List.length_pos_iff.1 (by omega)) h5⟩,RowAt.bound l b o h5⟩
theorem SlAt.nil(w:World)(ok:Nat→Prop):SlAt w ok none 0 0 []:=⟨rfl,Nat.le_refl _,by omega,0,0,fun h=>absurd h (by omega),trivial⟩
def RowV(w:World)(ok:Nat→Prop):List Value→List It→Prop
 | [],[]=>True
 | k::n::t::s::vs,x::l=>k=.int .i64 x.kind∧n=.string x.nat∧t=.string x.text∧(∃ A len cap,s=.slice A len cap∧SlAt w ok A len cap x.list)∧RowV w ok vs l
 | _,_=>False
theorem RowV.keep{ok:Nat→Prop}{w w':World}(hb:Agree ok w w'):∀(vs:List Value) (l:List It),RowV w ok vs l→RowV w' ok vs l
 | [],[],_=>trivial
 | k::n::t::s::vs,x::l,⟨h1,h2,h3,⟨A,len,cap,h4,h5⟩,h6⟩=>⟨h1,h2,h3,⟨A,len,cap,h4,h5.keep hb⟩,RowV.keep hb vs l h6⟩
theorem RowV.low{ok ok':Nat→Prop}{w:World}(hl:∀ b,ok b→ok' b):∀(vs:List Value) (l:List It),RowV w ok vs l→RowV w ok' vs l
 | [],[],_=>trivial
 | k::n::t::s::vs,x::l,⟨h1,h2,h3,⟨A,len,cap,h4,h5⟩,h6⟩=>⟨h1,h2,h3,⟨A,len,cap,h4,h5.low hl⟩,RowV.low hl vs l h6⟩
theorem RowV.bound{ok:Nat→Prop}{w:World}:∀(vs:List Value) (l:List It),RowV w ok vs l→RowV w (fun c=>ok c∧c<w.heap.size) vs l
 | [],[],_=>trivial
 | k::n::t::s::vs,x::l,⟨h1,h2,h3,⟨A,len,cap,h4,h5⟩,h6⟩=>⟨h1,h2,h3,⟨A,len,cap,h4,h5.bound⟩,RowV.bound vs l h6⟩
theorem RowV.snoc{w:World}{ok:Nat→Prop}{x:It}{A:Option Addr}{len cap:Nat}(hs:SlAt w ok A len cap x.list):∀(vs:List Value) (l:List It),RowV w ok vs l →
 RowV w ok (vs++[.int .i64 x.kind,.string x.nat,.string x.text,.slice A len cap]) (l++[x])
 | [],[],_=>⟨rfl,rfl,rfl,⟨A,len,cap,rfl,hs⟩,trivial⟩
 | k::n::t::s::vs,y::l,⟨h1,h2,h3,h4,h6⟩=>⟨h1,h2,h3,h4,RowV.snoc hs vs l h6⟩
theorem RowV.length{w:World}{ok:Nat→Prop}:∀ {vs:List Value} {l:List It},RowV w ok vs l→vs.length=l.length * 4
 | [],[],_=>rfl
 | k::n::t::s::vs,x::l,⟨_,_,_,_,h⟩=>by have:=RowV.length h;simp only[List.length_cons];omega
theorem RowV.row{w:World}{ok:Nat→Prop}{b:Nat}:∀ {vs:List Value} {l:List It} {o:Nat},RowV w ok vs l→(∀ j u,vs[j]? =some u→w.cell? ⟨b,o+j,none⟩=some u)→RowAt w ok l b o
 | [],[],_,_,_=>trivial
 | k::n::t::s::vs,x::l,o,⟨h1,h2,h3,⟨A,len,cap,h4,h5⟩,h6⟩,hc=>by
  refine⟨CellsAt.mk' (A:=A) (len:=len) (cap:=cap) ?_ ?_ ?_ ?_ h5,RowV.row h6 fun j u hj=>?_⟩
  · rw[←h1];exact hc 0 k rfl
  · rw[←h2];exact hc 1 n rfl
  · rw[←h3];exact hc 2 t rfl
  · rw[←h4];exact hc 3 s rfl
  · rw[show o+4+j=o+(j+4)from by omega];exact hc (j+4) u hj
theorem RowV.slice{w:World}{ok:Nat→Prop}{base:Nat}{e:TypeId}{A:Option Addr}{len n cap:Nat}{vs:List Value}{l:List It}(h:RowV w ok vs l)(hown:w.ownsRow base e 4 (.slice A len cap) n vs)(hb:∀ g,(Value.slice A len cap).ownBlock=some g→ok g) :
 len=n∧SlAt w ok A n cap l:=by
 have hlen:=h.length;have h1:=hown.1;rcases hown.2 with⟨hv,h0⟩ | ⟨g,cap,cur,hv,hbg,hg,hn,hm,hs,ht⟩
 · simp only[Value.slice.injEq]at hv;obtain⟨rfl,rfl,rfl⟩:=hv;subst h0;have : l=[]:=List.length_eq_zero_iff.1 (by omega);subst this;exact⟨rfl,SlAt.nil w ok⟩
 · simp only[Value.slice.injEq]at hv;obtain⟨rfl,rfl,rfl⟩:=hv;refine⟨rfl,by omega,hn,hm,g,0,fun _=>⟨rfl,hb g rfl⟩,h.row fun j u hj=>?_⟩;have:=hown.cells (g:=g) rfl j u hj;rw[show (0:Nat)+j=j from by omega];unfold Addr.add at this;split at this
   · subst_vars;exact this
   · simpa using this
mutual
theorem CellsAt.vals{w:World}{ok:Nat→Prop}:∀(x:It) (b o:Nat),CellsAt w ok x b o→∃ A len cap,SlAt w ok A len cap x.list∧w.cell? ⟨b,o,none⟩=some (.int .i64 x.kind)∧w.cell? ⟨b,o+1,none⟩=some (.string x.nat)∧w.cell? ⟨b,o+2,none⟩=some (.string x.text)∧w.cell? ⟨b,o+3,none⟩=some (.slice A len cap)
 | x,b,o,h=>let ⟨A,len,cap,h0,h1,h2,h3,h4⟩:=h.open;⟨A,len,cap,h4,h0,h1,h2,h3⟩
theorem RowAt.vals{w:World}{ok:Nat→Prop}:∀(l:List It) (b o:Nat),RowAt w ok l b o→∃ vs,RowV w ok vs l∧(∀ j u,vs[j]? =some u→w.cell? ⟨b,o+j,none⟩=some u)∧∀ u∈vs,u.oneCell'=true
 | [],_,_,_=>⟨[],trivial,fun j u h=>by simp at h,fun u h=>by simp at h⟩
 | x::l,b,o,⟨h,h'⟩=>by
  obtain⟨A,len,cap,h4,h0,h1,h2,h3⟩:=CellsAt.vals x b o h;obtain⟨vs,hr,hc,ho⟩:=RowAt.vals l b (o+4) h';refine⟨.int .i64 x.kind::.string x.nat::.string x.text::.slice A len cap::vs,⟨rfl,rfl,rfl,⟨A,len,cap,rfl,h4⟩,hr⟩,fun j u hj=>?_,fun u hu=>?_⟩
  · match j,hj with
    | 0,hj=>rw[←Option.some.inj hj];exact h0
    | 1,hj=>rw[←Option.some.inj hj];exact h1
    | 2,hj=>rw[←Option.some.inj hj];exact h2
    | 3,hj=>rw[←Option.some.inj hj];exact h3
    | j+4,hj=>rw[show o+(j+4)=o+4+j from by omega];exact hc j u hj
  · simp only[List.mem_cons]at hu;rcases hu with rfl | rfl | rfl | rfl | hu
    · rfl
    · rfl
    · rfl
    · rfl
    · exact ho u hu
end
theorem qu{α:Type}{l:List α}{k:Nat}{y:α}(h:l[k]? =some y):l.take (k+1)=l.take k++[y]:=by
 obtain⟨h1,rfl⟩:=List.getElem?_eq_some_iff.1 h;exact List.take_succ_eq_append_getElem h1
theorem Its.weight_take_le(l:List It)(k:Nat):Its.weight (l.take k)≤Its.weight l:=by
 have:=Its.weight_append (l.take k) (l.drop k);rw[List.take_append_drop]at this;omega
def zvi(x:It)(w:World)(e:Ending)(w':World):Prop:=∃ v,e=.returned v∧ItAt w' (fun b=>w.heap.size≤b) v x∧Below w.heap.size w w'
def zzm(x:It)(w:World)(e:Ending)(w':World):Prop:=∃ v,e=.returned v∧ItAt w' (fun _=>True) v x∧Below w.heap.size w w'
theorem sqA{α:Type _}(l:List α)(i:Nat)(a:α):l.toArray.setIfInBounds i a=(l.set i a).toArray:=List.setIfInBounds_toArray _ _ _
theorem sqB{α:Type _}(a b:α)(l:List α):(a::l).set 0 b=b::l:=rfl
theorem sqC{α:Type _}(a b:α)(l:List α)(n:Nat):(a::l).set (n+1) b=a::l.set n b:=rfl
section
variable {P : Program} {ops : Array Oper} {Q : Exit → Act → World → Prop} {md : Region.Mode} {S : World → Prop} {k : Nat}
def Down(md:Region.Mode)(ops:Array Oper)(listed:Array Bool):Prop:=
 listed.size=ops.size∧∀ j o,ops[j]? =some o→listed.getD j false=true→∀ e∈o.after,Region.binds md e=true→listed.getD e.on false=true
theorem zf6(n j:Nat):(Array.replicate n false).getD j false=false:=by
 rw[Array.getD_eq_getD_getElem?,Array.getElem?_replicate];split<;>rfl
theorem Down.start:Down md ops (Array.replicate ops.size false):=by
 refine⟨Array.size_replicate,fun j o _ h=>?_⟩;rw[zf6]at h;cases h
theorem Down.beyond{listed:Array Bool}(h:Down md ops listed){j:Nat}(hj:ops.size≤j):listed.getD j false=false:=by
 rw[Array.getD_eq_getD_getElem?,Array.getElem?_eq_none (by rw[h.1];exact hj)];rfl
theorem zhw{listed:Array Bool}{j:Nat}(h:listed.getD j true=false):listed.getD j false=false:=by
 rw[Array.getD_eq_getD_getElem?]at *
 cases e:listed[j]? with
 | none=>rfl
 | some b=>rw[e]at h;exact h
theorem zjl{listed:Array Bool}{i:Nat}(h:listed.getD i true=false):(listed.setIfInBounds i true).getD i false=true:=by
 rw[Array.getD_eq_getD_getElem?]at *;have hi:i<listed.size:=by
  rcases Nat.lt_or_ge i listed.size with h' | h'
  · exact h'
  · rw[Array.getElem?_eq_none h']at h;cases h
 rw[Array.getElem?_setIfInBounds_self];rw[if_pos hi];rfl
theorem Down.set{listed:Array Bool}(h:Down md ops listed){i:Nat}(hi:i∈Region.ready md ops listed):Down md ops (listed.setIfInBounds i true):=by
 refine⟨by rw[Array.size_setIfInBounds];exact h.1,fun j o hj hl e he hb=>?_⟩;by_cases hij:i=j
 · subst hij;obtain⟨_,o',ho',hall⟩:=mem_ready.1 hi;rw[hj]at ho';cases ho';exact getD_set_true (hall e he hb)
 · rw[getD_set_ne false hij]at hl;exact getD_set_true (h.2 j o hj hl e he hb)
def zcu(md:Region.Mode)(ops:Array Oper):Nat→Nat→Nat→Bool
 | 0,_,_=>false
 | n+1,k,i=>match ops[k]? with
  | none=>false
  | some o=>o.after.any fun e=>Region.binds md e&&(e.on==i||zcu md ops n e.on i)
theorem zev{listed:Array Bool}(h:Down md ops listed):∀(n k i:Nat),zcu md ops n k i=true→listed.getD k false=true→listed.getD i false=true
 | 0,_,_,hr,_=>by cases hr
 | n+1,k,i,hr,hk=>by
  unfold zcu at hr
  cases ho:ops[k]? with
  | none=>rw[ho]at hr;cases hr
  | some o =>
   rw[ho]at hr;simp only[Array.any_eq_true',Bool.and_eq_true,Bool.or_eq_true,beq_iff_eq]at hr;obtain⟨e,he,hb,h1 | h1⟩:=hr
   · rw[←h1];exact h.2 k o ho hk e he hb
   · exact zev h n e.on i h1 (h.2 k o ho hk e he hb)
def zq(P:Program)(md:Region.Mode)(ops:Array Oper)(Q:Exit→Act→World→Prop)(k:Nat)(S:World→Prop):Nat→Array Bool→Act→World→Prop
 | 0,listed,a,w=>Region.ready md ops listed=[]∧Q .normal a w
 | fuel+1,listed,a,w =>
  (Region.ready md ops listed=[]→Q .normal a w) ∧
  ∀ i∈Region.ready md ops listed,wpOp P ops Q i (fun a' w'=>((listed.setIfInBounds i true).getD k false=false→S w')∧zq P md ops Q k S fuel (listed.setIfInBounds i true) a' w') a w
theorem zhc:∀(fuel:Nat) (listed:Array Bool) (a:Act) (w:World),zq P md ops Q k S fuel listed a w→wpAny P md ops Q fuel listed a w
 | 0,_,_,_,h=>h
 | fuel+1,_,_,_,h=>⟨h.1,fun i hi=>wpOp_mono (fun a' w' h'=>zhc fuel _ a' w' h'.2) (h.2 i hi)⟩
theorem q6{i:Nat}{oi:Oper}{v:Value}{T:World→Prop}(hi:ops[i]? =some oi)(hsel:∀(j:Nat) (o:Oper) cs b,ops[j]? =some o→o.op≠.select cs b)
 (hT:∀(listed:Array Bool) (w:World),Down md ops listed→listed.getD i true=false→(listed.getD k false=false→S w)→T w) (hki:k≠i)
 (hQ:∀ c a w,Q (.panic c) (a.put oi.dst v) w→Q (.panic c) a w) :
 ∀(fuel:Nat) (listed:Array Bool) (a:Act) (w:World),Down md ops listed →
  (∀ j oj,ops[j]? =some oj→j≠i→listed.getD j true=false→(∀ e∈oj.after,Region.binds md e=true→e.on≠i)→oi.apart ops oj=true) →
  i∈Region.ready md ops listed→YieldsIf P ops T oi v a→(listed.getD k false=false→S w) →
  zq P md ops Q k S fuel (listed.setIfInBounds i true) (a.put oi.dst v) w→zq P md ops Q k S (fuel+1) listed a w:=by
 intro fuel
 induction fuel with
 | zero =>
  intro listed a w hD _ hr hy hS H;refine⟨fun h=>(by rw[h]at hr;cases hr),fun j hj=>?_⟩;have hTw:=hT listed w hD (mem_ready.1 hr).1 hS;by_cases hji:j=i
  · subst hji;exact hy.wpOp hi hTw ⟨fun h=>hS (by rw[getD_set_ne false (Ne.symm hki)]at h;exact h),H⟩
  · have:=ready_mono hj hji;rw[H.1]at this;cases this
 | succ fuel ih =>
  intro listed a w hD hfree hr hy hS H;refine⟨fun h=>(by rw[h]at hr;cases hr),fun j hj=>?_⟩;have hTw:=hT listed w hD (mem_ready.1 hr).1 hS;by_cases hji:j=i
  · subst hji;exact hy.wpOp hi hTw ⟨fun h=>hS (by rw[getD_set_ne false (Ne.symm hki)]at h;exact h),H⟩
  · have h1:=H.2 j (ready_mono hj hji);obtain⟨hjun,oj,hoj,hall⟩:=mem_ready.1 hj;have hnot:∀ e∈oj.after,Region.binds md e=true→e.on≠i:=fun e he hb heq=>by
     have h1:=hall e he hb;have h0:=zhw (mem_ready.1 hr).1;rw[heq,h0]at h1;cases h1
    have h2:=wpOp_putIf hoj (hfree j oj hoj hji hjun hnot) (fun cs b=>hsel i oi cs b hi) (fun cs b=>hsel j oj cs b hoj) hQ hy h1;have hfree':∀ m om,ops[m]? =some om→m≠i→(listed.setIfInBounds j true).getD m true=false →
     (∀ e∈om.after,Region.binds md e=true→e.on≠i)→oi.apart ops om=true:=fun m om hm hmi hun hno=>by
     refine hfree m om hm hmi ?_ hno;by_cases hjm:j=m
     · subst hjm;exact hjun
     · rw[getD_set_ne true hjm]at hun;exact hun
    refine wpOp_mono (fun a' w' h3=>?_) h2;have hS':(listed.setIfInBounds j true).getD k false=false→S w':=fun h=>h3.2.1 (by
     rw[Array.setIfInBounds_comm _ _ (Ne.symm hji),getD_set_ne false (Ne.symm hki)]
     exact h)
    refine⟨hS',ih (listed.setIfInBounds j true) a' w' (hD.set hj) hfree' (ready_mono hr (Ne.symm hji)) h3.1 hS' ?_⟩;rw[Array.setIfInBounds_comm _ _ hji];exact h3.2.2
def kg(md:Region.Mode)(ops:Array Oper)(listed:Array Bool)(k i:Nat):Bool:=
 Region.noSelect ops&&Region.free md ops listed i&&(Region.ready md ops listed).contains i && !(k==i)
theorem zbt{listed:Array Bool}{i:Nat}(h:kg md ops listed k i=true):Region.noSelect ops=true∧Region.free md ops listed i=true∧i∈Region.ready md ops listed∧k≠i:=by
 simp only[kg,Bool.and_eq_true,Bool.not_eq_true',beq_eq_false_iff_ne,List.contains_iff_mem]at h;exact⟨h.1.1.1,h.1.1.2,h.1.2,h.2⟩
theorem zem{i:Nat}{oi:Oper}{v:Value}{fuel:Nat}{listed:Array Bool}{a:Act}{w:World}(hi:ops[i]? =some oi)(hst:kg md ops listed k i=true)(hre:zcu md ops ops.size k i=true)
 (hQ:∀ c a w,Q (.panic c) (a.put oi.dst v) w→Q (.panic c) a w) (hD:Down md ops listed) (hS:S w) (hy:YieldsIf P ops S oi v a)
 (h:Down md ops (listed.setIfInBounds i true)→zq P md ops Q k S fuel (listed.setIfInBounds i true) (a.put oi.dst v) w):zq P md ops Q k S (fuel+1) listed a w:=by
 obtain⟨hs,hf,hr',hki'⟩:=zbt hst;refine q6 (T:=S) hi (Region.noSelect_spec hs) (fun l w' hD' hl hS'=>hS' ?_) hki' hQ fuel listed a w hD (Region.free_spec hi hf) hr' hy (fun _=>hS) (h (hD.set hr'))
 cases hk:l.getD k false with
 | false=>rfl
 | true=>rw[←zhw hl];exact(zev hD' _ k i hre hk).symm
theorem zdm{i:Nat}{oi:Oper}{v:Value}{fuel:Nat}{listed:Array Bool}{a:Act}{w:World}(hi:ops[i]? =some oi)(hst:kg md ops listed k i=true)(hre:decide (ops.size≤k)=true)
 (hQ:∀ c a w,Q (.panic c) (a.put oi.dst v) w→Q (.panic c) a w) (hD:Down md ops listed) (hS:S w) (hy:YieldsIf P ops S oi v a)
 (h:Down md ops (listed.setIfInBounds i true)→zq P md ops Q k S fuel (listed.setIfInBounds i true) (a.put oi.dst v) w):zq P md ops Q k S (fuel+1) listed a w:=by
 obtain⟨hs,hf,hr',hki'⟩:=zbt hst;exact q6 (T:=S) hi (Region.noSelect_spec hs) (fun l w' hD' hl hS'=>hS' (hD'.beyond (of_decide_eq_true hre))) hki' hQ fuel listed a w hD (Region.free_spec hi hf) hr' hy (fun _=>hS) (h (hD.set hr'))
theorem zen{i:Nat}{oi:Oper}{v:Value}{fuel:Nat}{listed:Array Bool}{a:Act}{w:World}(hi:ops[i]? =some oi)(hst:kg md ops listed k i=true)
 (hQ:∀ c a w,Q (.panic c) (a.put oi.dst v) w→Q (.panic c) a w) (hD:Down md ops listed) (hS:S w) (hy:YieldsIf P ops (fun _=>True) oi v a)
 (h:Down md ops (listed.setIfInBounds i true)→zq P md ops Q k S fuel (listed.setIfInBounds i true) (a.put oi.dst v) w):zq P md ops Q k S (fuel+1) listed a w:=by
 obtain⟨hs,hf,hr',hki'⟩:=zbt hst;exact q6 (T:=fun _=>True) hi (Region.noSelect_spec hs) (fun _ _ _ _ _=>trivial) hki' hQ fuel listed a w hD (Region.free_spec hi hf) hr' hy (fun _=>hS) (h (hD.set hr'))
theorem xw{i:Nat}{oi:Oper}{v:Value}{fuel:Nat}{listed:Array Bool}{a:Act}{w:World}(hi:ops[i]? =some oi)(hst:kg md ops listed k i=true)(hk:listed.getD k false=true)
 (hQ:∀ c a w,Q (.panic c) (a.put oi.dst v) w→Q (.panic c) a w) (hD:Down md ops listed) (hy:YieldsIf P ops (fun _=>True) oi v a)
 (h:Down md ops (listed.setIfInBounds i true)→zq P md ops Q k S fuel (listed.setIfInBounds i true) (a.put oi.dst v) w):zq P md ops Q k S (fuel+1) listed a w:=by
 obtain⟨hs,hf,hr',hki'⟩:=zbt hst;exact q6 (T:=fun _=>True) hi (Region.noSelect_spec hs) (fun _ _ _ _ _=>trivial) hki' hQ fuel listed a w hD (Region.free_spec hi hf) hr' hy (fun h0=>by rw[hk]at h0;cases h0) (h (hD.set hr'))
theorem zj0{o:Oper}{a:Act}{w:World}{K:Act→World→Prop}{Q':Exit→Act→World→Prop}(hQ:∀ c a w,Q' (.panic c) a w→Q (.panic c) a w)(hO:LetsOut Q'→LetsOut Q)
 (h:o.wp P a w K Q'):o.wp P a w K Q:=by
 unfold Oper.wp at *;generalize (execOp a.eval o).run P w=r at *
 cases r with
 | ok n w' =>
  cases n<;>simp only[Oper.upon]at h⊢;case value u=>exact h
  case skip=>exact h
  case defer d=>exact h
  case enter f args =>
   refine Calls.mono h fun e w'' he=>?_
   cases e with
   | returned u=>exact he
   | panicked c=>exact hQ _ _ _ he
   | outgrown=>exact hO he
  case row row args=>exact h
 | halt x w' =>
  cases x<;>simp only[Oper.upon]at h⊢;case panic u=>exact hQ _ _ _ h
def EndK(K:Act→World→Prop)(Q:Exit→Act→World→Prop):Exit→Act→World→Prop
 | .normal,a,w=>K a w
 | e,a,w=>Q e a w
def xn(P:Program)(md:Region.Mode)(ops:Array Oper)(Q:Exit→Act→World→Prop)(k:Nat)(S:World→Prop)(i:Nat)(oi:Oper)(fuel:Nat)(listed:Array Bool)(a:Act)(w:World):Prop:=
 ∀ K:Act→World→Prop,(∀ a' w',S w'→(S w'→Down md ops (listed.setIfInBounds i true)→zq P md ops Q k S fuel (listed.setIfInBounds i true) a' w')→K a' w')→wpList P ops (EndK K Q) [oi] a w
theorem zb7{i:Nat}{oi:Oper}{fuel:Nat}{listed:Array Bool}{a:Act}{w:World}(hi':i∈Region.ready md ops listed)(hi:ops[i]? =some oi)(hD:Down md ops listed)(R:World→Prop)(hR:∀ w',R w'→(listed.setIfInBounds i true).getD k false=false→S w')
 (h:∀ K:Act→World→Prop,(∀ a' w',R w'→(R w'→Down md ops (listed.setIfInBounds i true)→zq P md ops Q k S fuel (listed.setIfInBounds i true) a' w')→K a' w')→wpList P ops (EndK K Q) [oi] a w) :
 wpOp P ops Q i (fun a' w'=>((listed.setIfInBounds i true).getD k false=false→S w')∧zq P md ops Q k S fuel (listed.setIfInBounds i true) a' w') a w:=by
 have h1:=h (fun a' w'=>((listed.setIfInBounds i true).getD k false=false→S w')∧zq P md ops Q k S fuel (listed.setIfInBounds i true) a' w') (fun a' w' hS hh=>⟨hR w' hS,hh hS (hD.set hi')⟩);have hO:LetsOut (EndK (fun a' w'=>((listed.setIfInBounds i true).getD k false=false→S w')∧zq P md ops Q k S fuel (listed.setIfInBounds i true) a' w') Q)→LetsOut Q:=fun⟨a',w',hh⟩=>⟨a',w',hh⟩;unfold wpList at h1;unfold wpOp;simp only[hi];split
 · rename_i hw;rw[if_pos hw]at h1;rcases h1 with h1 | ⟨h2,h3⟩
   · exact .inl (zj0 (fun _ _ _ hh=>hh) hO h1)
   · exact .inr ⟨h2,hO h3⟩
 · rename_i hw;rw[if_neg hw]at h1;exact h1
theorem zl2{i:Nat}{oi:Oper}{fuel:Nat}{listed:Array Bool}{a:Act}{w:World}(hr:Region.ready md ops listed=[i])(hi:ops[i]? =some oi)(hD:Down md ops listed)(hk:(listed.setIfInBounds i true).getD k false=true)
 (h:∀ K:Act→World→Prop,(∀ a' w',(Down md ops (listed.setIfInBounds i true)→zq P md ops Q k S fuel (listed.setIfInBounds i true) a' w')→K a' w')→wpList P ops (EndK K Q) [oi] a w):zq P md ops Q k S (fuel+1) listed a w:=by
 refine⟨fun h0=>(by rw[hr]at h0;cases h0),fun j hj=>?_⟩;have hi':i∈Region.ready md ops listed:=by rw[hr];exact List.mem_singleton.2 rfl
 rw[hr]at hj;obtain rfl:=List.mem_singleton.1 hj;exact zb7 hi' hi hD (fun _=>True) (fun _ _ h0=>by rw[hk]at h0;cases h0) (fun K hK=>h K fun a' w' hh=>hK a' w' trivial fun _=>hh)
theorem zaj{i:Nat}{oi:Oper}{fuel:Nat}{listed:Array Bool}{a:Act}{w:World}(hr:Region.ready md ops listed=[i])(hi:ops[i]? =some oi)(hD:Down md ops listed)
 (h:∀ K:Act→World→Prop,(∀ a' w',S w'→(S w'→Down md ops (listed.setIfInBounds i true)→zq P md ops Q k S fuel (listed.setIfInBounds i true) a' w')→K a' w')→wpList P ops (EndK K Q) [oi] a w):zq P md ops Q k S (fuel+1) listed a w:=by
 refine⟨fun h0=>(by rw[hr]at h0;cases h0),fun j hj=>?_⟩;have hi':i∈Region.ready md ops listed:=by rw[hr];exact List.mem_singleton.2 rfl
 rw[hr]at hj;obtain rfl:=List.mem_singleton.1 hj;exact zb7 hi' hi hD S (fun _ h _=>h) h
theorem jg{i i':Nat}{oi oi':Oper}{fuel:Nat}{listed:Array Bool}{a:Act}{w:World}(hr:Region.ready md ops listed=[i,i'])(hi:ops[i]? =some oi)(hi':ops[i']? =some oi')(hD:Down md ops listed)
 (h:xn P md ops Q k S i oi fuel listed a w) (h':xn P md ops Q k S i' oi' fuel listed a w):zq P md ops Q k S (fuel+1) listed a w:=by
 refine⟨fun h0=>(by rw[hr]at h0;cases h0),fun j hj=>?_⟩;have hj':=hj;rw[hr]at hj;simp only[List.mem_cons,List.mem_nil_iff,or_false]at hj;rcases hj with rfl | rfl
 · exact zb7 hj' hi hD S (fun _ h _=>h) h
 · exact zb7 hj' hi' hD S (fun _ h _=>h) h'
theorem zj1{i i' i'':Nat}{oi oi' oi'':Oper}{fuel:Nat}{listed:Array Bool}{a:Act}{w:World}(hr:Region.ready md ops listed=[i,i',i''])(hi:ops[i]? =some oi)(hi':ops[i']? =some oi')(hi'':ops[i'']? =some oi'')(hD:Down md ops listed)
 (h:xn P md ops Q k S i oi fuel listed a w) (h':xn P md ops Q k S i' oi' fuel listed a w) (h'':xn P md ops Q k S i'' oi'' fuel listed a w):zq P md ops Q k S (fuel+1) listed a w:=by
 refine⟨fun h0=>(by rw[hr]at h0;cases h0),fun j hj=>?_⟩;have hj':=hj;rw[hr]at hj;simp only[List.mem_cons,List.mem_nil_iff,or_false]at hj;rcases hj with rfl | rfl | rfl
 · exact zb7 hj' hi hD S (fun _ h _=>h) h
 · exact zb7 hj' hi' hD S (fun _ h _=>h) h'
 · exact zb7 hj' hi'' hD S (fun _ h _=>h) h''
theorem zl3{listed:Array Bool}{a:Act}{w:World}(hr:Region.ready md ops listed=[])(h:Q .normal a w) :
 ∀ fuel,zq P md ops Q k S fuel listed a w
 | 0=>⟨hr,h⟩
 | _+1=>⟨fun _=>h,by rw[hr];simp⟩
theorem za(k:Nat)(S:World→Prop){id:Nat}{a:Act}{w:World}(hm:P.follows .mixedOrders=true)
 (h:Down .any ops (Array.replicate ops.size false)→zq P .any ops Q k S ops.size (Array.replicate ops.size false) a w.drew):(Code.region id ops true).wp P Q a w:=
 wp_region_any hm (zhc _ _ _ _ (h Down.start))
end
section
variable {P : Program} {ops : Array Oper} {Q : Exit → Act → World → Prop} {md : Region.Mode} {S : World → Prop} {k : Nat}
theorem qP{oi:Oper}{v:Value}{listed:Array Bool}{a:Act}{w:World}(i fuel:Nat)(hS:S w)(h:Down md ops (listed.setIfInBounds i true)→zq P md ops Q k S fuel (listed.setIfInBounds i true) (a.put oi.dst v) w)(hi:ops[i]? =some oi:=by rfl)(hy:∀ w',True→(execOp a.eval oi).run P w'=.ok (.value v) w':=by intro w' _;go_simp;with_reducible rfl)(hst:kg md ops listed k i=true:=by kernel_rfl)(hg:Region.wanted oi (yielded ops a.tmps)=true:=by kernel_rfl)(hQ:∀ c a w,Q (.panic c) (a.put oi.dst v) w→Q (.panic c) a w:=by exact fun _ _ _ h=>h):Down md ops listed→zq P md ops Q k S (fuel+1) listed a w:=fun hD=>zen hi hst hQ hD hS (.inl ⟨hg,hy⟩) h
theorem qPs{oi:Oper}{v:Value}{listed:Array Bool}{a a':Act}{w:World}(i fuel:Nat)(hS:S w)(h:Down md ops (listed.setIfInBounds i true)→zq P md ops Q k S fuel (listed.setIfInBounds i true) a' w)(hi:ops[i]? =some oi:=by rfl)(hy:∀ w',True→(execOp a.eval oi).run P w'=.ok (.value v) w':=by intro w' _;go_simp;with_reducible rfl)(hst:kg md ops listed k i=true:=by kernel_rfl)(hg:Region.wanted oi (yielded ops a.tmps)=true:=by kernel_rfl)(hQ:∀ c a w,Q (.panic c) (a.put oi.dst v) w→Q (.panic c) a w:=by exact fun _ _ _ h=>h)(ha:a.put oi.dst v=a':=by simp only[Act.put,sqA,sqB,sqC];rfl):Down md ops listed→zq P md ops Q k S (fuel+1) listed a w:=by subst ha;exact qP i fuel hS h hi hy hst hg hQ
theorem qT{oi:Oper}{v:Value}{listed:Array Bool}{a:Act}{w:World}(i fuel:Nat)(hS:S w){F:World→Prop}(K:∀ w',S w'→F w')(h:Down md ops (listed.setIfInBounds i true)→zq P md ops Q k S fuel (listed.setIfInBounds i true) (a.put oi.dst v) w)(hi:ops[i]? =some oi:=by rfl)(hst:kg md ops listed k i=true:=by kernel_rfl)(hre:zcu md ops ops.size k i=true:=by kernel_rfl)(hg:Region.wanted oi (yielded ops a.tmps)=true:=by kernel_rfl)(hy:∀ w',F w'→(execOp a.eval oi).run P w'=.ok (.value v) w':=by intro w' hF;go_simp;with_reducible rfl)(hQ:∀ c a w,Q (.panic c) (a.put oi.dst v) w→Q (.panic c) a w:=by exact fun _ _ _ h=>h):Down md ops listed→zq P md ops Q k S (fuel+1) listed a w:=fun hD=>zem hi hst hre hQ hD hS (.inl ⟨hg,fun w' h'=>hy w' (K w' h')⟩) h
theorem qTs{oi:Oper}{v:Value}{listed:Array Bool}{a a':Act}{w:World}(i fuel:Nat)(hS:S w){F:World→Prop}(K:∀ w',S w'→F w')(h:Down md ops (listed.setIfInBounds i true)→zq P md ops Q k S fuel (listed.setIfInBounds i true) a' w)(hi:ops[i]? =some oi:=by rfl)(hst:kg md ops listed k i=true:=by kernel_rfl)(hre:zcu md ops ops.size k i=true:=by kernel_rfl)(hg:Region.wanted oi (yielded ops a.tmps)=true:=by kernel_rfl)(hy:∀ w',F w'→(execOp a.eval oi).run P w'=.ok (.value v) w':=by intro w' hF;go_simp;with_reducible rfl)(hQ:∀ c a w,Q (.panic c) (a.put oi.dst v) w→Q (.panic c) a w:=by exact fun _ _ _ h=>h)(ha:a.put oi.dst v=a':=by simp only[Act.put,sqA,sqB,sqC];rfl):Down md ops listed→zq P md ops Q k S (fuel+1) listed a w:=by subst ha;exact qT i fuel hS K h hi hst hre hg hy hQ
theorem qS{oi:Oper}{v:Value}{listed:Array Bool}{a:Act}{w:World}(i fuel:Nat)(hS:S w){F:World→Prop}(K:∀ w',S w'→F w')(h:Down md ops (listed.setIfInBounds i true)→zq P md ops Q k S fuel (listed.setIfInBounds i true) (a.put oi.dst v) w)(hi:ops[i]? =some oi:=by rfl)(hst:kg md ops listed k i=true:=by kernel_rfl)(hre:decide (ops.size≤k)=true:=by kernel_rfl)(hg:Region.wanted oi (yielded ops a.tmps)=true:=by kernel_rfl)(hy:∀ w',F w'→(execOp a.eval oi).run P w'=.ok (.value v) w':=by intro w' hF;go_simp;with_reducible rfl)(hQ:∀ c a w,Q (.panic c) (a.put oi.dst v) w→Q (.panic c) a w:=by exact fun _ _ _ h=>h):Down md ops listed→zq P md ops Q k S (fuel+1) listed a w:=fun hD=>zdm hi hst hre hQ hD hS (.inl ⟨hg,fun w' h'=>hy w' (K w' h')⟩) h
theorem qSs{oi:Oper}{v:Value}{listed:Array Bool}{a a':Act}{w:World}(i fuel:Nat)(hS:S w){F:World→Prop}(K:∀ w',S w'→F w')(h:Down md ops (listed.setIfInBounds i true)→zq P md ops Q k S fuel (listed.setIfInBounds i true) a' w)(hi:ops[i]? =some oi:=by rfl)(hst:kg md ops listed k i=true:=by kernel_rfl)(hre:decide (ops.size≤k)=true:=by kernel_rfl)(hg:Region.wanted oi (yielded ops a.tmps)=true:=by kernel_rfl)(hy:∀ w',F w'→(execOp a.eval oi).run P w'=.ok (.value v) w':=by intro w' hF;go_simp;with_reducible rfl)(hQ:∀ c a w,Q (.panic c) (a.put oi.dst v) w→Q (.panic c) a w:=by exact fun _ _ _ h=>h)(ha:a.put oi.dst v=a':=by simp only[Act.put,sqA,sqB,sqC];rfl):Down md ops listed→zq P md ops Q k S (fuel+1) listed a w:=by subst ha;exact qS i fuel hS K h hi hst hre hg hy hQ
end
section
variable {P : Program} {ops : Array Oper} {Q : Exit → Act → World → Prop} {md : Region.Mode} {S : World → Prop} {k : Nat}
theorem wDn{listed:Array Bool}{a:Act}{w:World}{fuel:Nat}(h:Q .normal a w)(hr:Region.ready md ops listed=[]:=by kernel_rfl):Down md ops listed→zq P md ops Q k S fuel listed a w:=fun _=>zl3 hr h _
theorem oT{oi:Oper}{listed:Array Bool}{a:Act}{w:World}(i fuel:Nat)
 (h:∀ K:Act→World→Prop,(∀ a' w',(Down md ops (listed.setIfInBounds i true)→zq P md ops Q k S fuel (listed.setIfInBounds i true) a' w')→K a' w')→wpList P ops (EndK K Q) [oi] a w)
 (hi:ops[i]? =some oi:=by rfl) (hr:Region.ready md ops listed=[i]:=by kernel_rfl) (hk:(listed.setIfInBounds i true).getD k false=true:=by kernel_rfl):Down md ops listed→zq P md ops Q k S (fuel+1) listed a w:=fun hD=>zl2 hr hi hD hk h
theorem oO{oi:Oper}{listed:Array Bool}{a:Act}{w:World}(i fuel:Nat)
 (h:∀ K:Act→World→Prop,(∀ a' w',S w'→(S w'→Down md ops (listed.setIfInBounds i true)→zq P md ops Q k S fuel (listed.setIfInBounds i true) a' w')→K a' w')→wpList P ops (EndK K Q) [oi] a w)
 (hi:ops[i]? =some oi:=by rfl) (hr:Region.ready md ops listed=[i]:=by kernel_rfl):Down md ops listed→zq P md ops Q k S (fuel+1) listed a w:=fun hD=>zaj hr hi hD h
end
set_option maxRecDepth 100000
set_option maxHeartbeats 1000000
theorem zar:(Tryz.prog.info? 118).map (fun i=>(i.zero,i.size,i.bytes))=some (some (.agg #[.int .i64 0,.string ⟨#[]⟩,.string ⟨#[]⟩,.slice none 0 0]),4,64):=by kernel_rfl
def ztd(w:World)(R B:Nat)(k0:Int)(n0 t0:ByteArray)(l:List It)(i:Value)(wr:World):Prop:=
 ∃(k:Nat) (A:Option Addr) (cap:Nat) (vs:List Value),k≤l.length∧i=.int .i64 k∧wr.heap[B]? =some (.cells #[.int .i64 k0,.string n0,.string t0,.slice A k cap] 118 (0,0)) ∧
  wr.heap[R]? =some (.cells #[.int .i64 0,.string ⟨#[]⟩,.string ⟨#[]⟩,.slice none 0 0] 118 (0,0)) ∧
  wr.ownsRow (B+1) 118 4 (.slice A k cap) k vs∧RowV wr (fun b=>B+1≤b∧(Value.slice A k cap).ownBlock≠some b) vs (l.take k)∧Below R w wr
theorem zog{W0 wr w5 w6 w7:World}{R B k len6 cap6 g cap7 cap':Nat}{A' A6:Option Addr}{k0:Int}{n0 t0:ByteArray}{y:It}{l:List It}{vs:List Value}(hk:k<l.length)(hy:l[k]? =some y)(hRB:R<B)
 (hR:wr.heap[R]? =some (.cells #[.int .i64 0,.string ⟨#[]⟩,.string ⟨#[]⟩,.slice none 0 0] 118 (0,0)))
 (hown0:wr.ownsRow (B+1) 118 4 (.slice A' k cap') k vs)
 (hrow:RowV wr (fun b=>B+1≤b∧(Value.slice A' k cap').ownBlock≠some b) vs (l.take k)) (hB:Below R W0 wr) (hbW:B<wr.heap.size) (h5:Below wr.heap.size wr w5) (hsz5:wr.heap.size+1=w5.heap.size) (h6:Below w5.drew.heap.size w5.drew w6)
 (hs6:SlAt w6 (fun b=>w5.drew.heap.size≤b) A6 len6 cap6 y.list) (hown6:(w6.alloc (.cells #[.int .i64 y.kind,.string y.nat,.string y.text,.slice A6 len6 cap6] 118)).ownsRow (B+1) 118 4 (.slice A' k cap') k vs)
 (hgrow:(w6.alloc (.cells #[.int .i64 y.kind,.string y.nat,.string y.text,.slice A6 len6 cap6] 118)).grownBy w7 (Value.slice A' k cap').ownBlock)
 (hat:(Value.slice A' k cap').ownBlock=some g∨g=(w6.alloc (.cells #[.int .i64 y.kind,.string y.nat,.string y.text,.slice A6 len6 cap6] 118)).heap.size)
 (hout:w7.heap[B]? =some (.cells #[.int .i64 k0,.string n0,.string t0,.slice A' k cap'] 118 (0,0)))
 (hown:w7.ownsRow (B+1) 118 4 (.slice (some ⟨g,0,none⟩) (k+1) cap7) (k+1) (vs++[.int .i64 y.kind,.string y.nat,.string y.text,.slice A6 len6 cap6])) (i:Value) (hi:i=.int .i64 ((k+1:Nat):Int)) :
 ztd W0 R B k0 n0 t0 l i (w7.setCell ⟨B,3,none⟩ (.slice (some ⟨g,0,none⟩) (k+1) cap7)):=by
 have e5:w5.drew.heap.size=w5.heap.size:=rfl;have h2:w5.heap.size≤w6.heap.size:=h6.size;have hlt:=hown0.lt;have hal:(w6.alloc (.cells #[.int .i64 y.kind,.string y.nat,.string y.text,.slice A6 len6 cap6] 118)).heap.size=w6.heap.size+1:=by simp
 -- the blocks of wr that are not the row appended to
 have same:∀ b,b<wr.heap.size→(Value.slice A' k cap').ownBlock≠some b→w7.heap[b]? =wr.heap[b]?:=fun b hb hne=>by
  rw[hgrow.block b (by omega) (fun e=>hne e.symm),Lib.alloc_old _ _ b (by omega),h6.block b (by omega)];exact h5.block b hb
 have same6:∀ b,b<w6.heap.size→(Value.slice A' k cap').ownBlock≠some b→w7.heap[b]? =w6.heap[b]?:=fun b hb hne=>by
  rw[hgrow.block b (by omega) (fun e=>hne e.symm),Lib.alloc_old _ _ b (by omega)]
 have hne:∀ b,b≤B→(Value.slice A' k cap').ownBlock≠some b:=fun b hb e=>by have:=(hlt _ e).1;omega
 have hset:∀ b,b≠B→(w7.setCell ⟨B,3,none⟩ (.slice (some ⟨g,0,none⟩) (k+1) cap7)).heap[b]? =w7.heap[b]?:=fun b hb=>Below.heap_setCell _ _ _ _ hb;refine⟨k+1,_,_,_,hk,hi,zl hout _,?_,zkw hown (Nat.lt_succ_self _) _,?_,?_⟩
 · rw[hset R (by omega),same R (zn hR) (hne R (by omega))];exact hR
 · rw[qu hy];have hs7:SlAt (w7.setCell ⟨B,3,none⟩ (.slice (some ⟨g,0,none⟩) (k+1) cap7)) (fun b=>w5.drew.heap.size≤b∧b<w6.heap.size) A6 len6 cap6 y.list:=SlAt.keep hs6.bound fun b hb _=>by
    rw[hset b (by omega)];exact same6 b hb.2 (fun e=>by have:=(hlt _ e).2;omega)
   have hr7:RowV (w7.setCell ⟨B,3,none⟩ (.slice (some ⟨g,0,none⟩) (k+1) cap7)) (fun b=>(B+1≤b∧(Value.slice A' k cap').ownBlock≠some b)∧b<wr.heap.size) vs (l.take k):=RowV.keep (fun b hb _=>by
    rw[hset b (by omega)]
    exact same b hb.2 hb.1.2) _ _ (RowV.bound _ _ hrow)
   refine RowV.snoc (SlAt.low hs7 fun b hb=>⟨by omega,fun e=>?_⟩) _ _ (RowV.low (fun b hb=>⟨hb.1.1,fun e=>?_⟩) _ _ hr7)
   · simp only[Value.ownBlock,Option.some.injEq]at e;subst e;rcases hat with h | h
     · have:=(hlt _ h).2;omega
     · omega
   · simp only[Value.ownBlock,Option.some.injEq]at e;subst e;rcases hat with h | h
     · exact hb.1.2 h
     · omega
 · have e1:Below R wr w5.drew:=(h5.drew).mono (by omega);have e2:Below R w5.drew w6:=h6.mono (by omega);have e3:Below R w6 (w6.alloc (.cells #[.int .i64 y.kind,.string y.nat,.string y.text,.slice A6 len6 cap6] 118)):=(blr).alloc (by omega) _;exact(((((hB.trans e1).trans e2).trans e3).grown hgrow (by omega) (fun b e=>by have:=(hlt _ e).1;omega))).setCell (p:=⟨B,3,none⟩) (by show R≤B;omega) _
theorem zp5(N:Nat):∀(x:It) (v:Value) (w:World) (ok:Nat→Prop),x.nodes≤N→x.nodes≤1000000000000→ItAt w ok v x→Calls Tryz.prog 113 #[v] w (zvi x w):=by
 induction N with
 | zero=>intro x v w ok h;have:=x.nodes_pos;omega
 | succ N ih =>
  intro x v w ok hN hM ⟨A,len,cap,hv,hs⟩;subst hv;have IH:=Hq ih;have hs0:=hs.bound;clear ih;go_enter Tryz.func113,Tryz.ntmps113;go_wp2;obtain⟨W0,hW0⟩:=nm (((w.alloc (.cells #[.int .i64 x.kind,.string x.nat,.string x.text,.slice A len cap] 118)).alloc (.cells #[.int .i64 0,.string ⟨#[]⟩,.string ⟨#[]⟩,.slice none 0 0] 118)).alloc (.cells #[.int .i64 x.kind,.string x.nat,.string x.text,.slice none 0 0] 118));rw[hW0];have hB0:Below w.heap.size w W0:=by
   rw[←hW0];exact(((blr).alloc nlr _).alloc (by simp) _).alloc (by simp;omega) _
  have hr0:ztd W0 (w.heap.size+1) (w.heap.size+1+1) x.kind x.nat x.text x.list (.int .i64 0) W0:=by
   refine⟨0,none,0,[],Nat.zero_le _,rfl,?_,?_,World.ownsRow_nil _ _ _ _,trivial,Below.refl _ _⟩
   · rw[←hW0,show w.heap.size+1+1=((w.alloc (.cells #[.int .i64 x.kind,.string x.nat,.string x.text,.slice A len cap] 118)).alloc (.cells #[.int .i64 0,.string ⟨#[]⟩,.string ⟨#[]⟩,.slice none 0 0] 118)).heap.size from by simp];exact heap_alloc_new _ _
   · rw[←hW0,Lib.alloc_old _ _ _ (by simp),show w.heap.size+1=(w.alloc (.cells #[.int .i64 x.kind,.string x.nat,.string x.text,.slice A len cap] 118)).heap.size from by simp];exact heap_alloc_new _ _
  have HB0:=Hq hB0;clear hB0 hW0;go_loopw [16] (fun i wr=>ztd W0 (w.heap.size+1) (w.heap.size+1+1) x.kind x.nat x.text x.list i wr) (fun i _=>x.list.length - (intOf i).toNat);case atStart=>exact hr0
  case round =>
   clear hr0;obtain⟨k,A',cap',vs,hk,rfl,hout,hres,hown,hrow,hB⟩:=hrel;have hs1:SlAt wr _ A len cap x.list:=hs0.keep (fun b hb _=>by rw[hB.block b (by omega)];exact HB0.out.block b hb.2);have hlen:=hs.1;by_cases hlt:k<len
   · obtain⟨b,o,rfl⟩:=hs1.head (by omega);obtain⟨y,hy⟩:∃ y,x.list[k]? =some y:=⟨_,List.getElem?_eq_getElem (by omega)⟩;obtain⟨A1,len1,cap1,c0,c1,c2,c3,hs2⟩:=(hs1.get? k hy).open;have hout0:wr.cell? ⟨w.heap.size+1+1,3,none⟩=some (.slice A' k cap'):=by rw[Lib.cell_of_heap hout];rfl
     have HS2:=Hq hs2;have HOUT:=Hq hout;have HRES:=Hq hres;have HOWN:=Hq hown;have HROW:=Hq hrow;have HB:=Hq hB;have HLEN:=Hq hlen;have HY:=Hq hy;clear hs1 hs2 hout hres hown hrow hB hlen hs hs0 hy;obtain⟨i0,hi,hz0,hz1,hz2⟩:=info_parts zar;have hbW:w.heap.size+1+1<wr.heap.size:=zn HOUT.out;have hyc:=It.child_nodes HY.out;have hlb:=x.length_lt;have hll:=HLEN.out;have hkb:k≤1000000000000:=by omega
     have hyN:y.nodes≤N:=by omega
     have hyM:y.nodes≤1000000000000:=by omega
     clear hyc hlb hll;go_wp2;obtain⟨w5,hw5⟩:=nm (wr.alloc (.cells #[.int .i64 y.kind,.string y.nat,.string y.text,.slice A1 len1 cap1] 118));rw[hw5];have d0:w5.cell? ⟨wr.heap.size,0,none⟩=some (.int .i64 y.kind):=by rw[←hw5,World.cell?_alloc_at (hn:=rfl)];rfl
     have d1:w5.cell? ⟨wr.heap.size,1,none⟩=some (.string y.nat):=by rw[←hw5,World.cell?_alloc_at (hn:=rfl)];rfl
     have d2:w5.cell? ⟨wr.heap.size,2,none⟩=some (.string y.text):=by rw[←hw5,World.cell?_alloc_at (hn:=rfl)];rfl
     have d3:w5.cell? ⟨wr.heap.size,3,none⟩=some (.slice A1 len1 cap1):=by rw[←hw5,World.cell?_alloc_at (hn:=rfl)];rfl
     have hB5:Below wr.heap.size wr w5:=by rw[←hw5];exact(blr).alloc nlr _
     have hout5:w5.cell? ⟨w.heap.size+1+1,3,none⟩=some (.slice A' k cap'):=kc hB5 hout0;have HOUT5:=Hq (zr hB5 nlr HOUT.out);have HOWN5:=Hq (jp HOWN.out hB5 nlr);have HS5:=Hq (HS2.out.below hB5 nlr);have HBB:=Hq hB5;have hsz5:wr.heap.size+1=w5.heap.size:=by rw[←hw5];simp
     have HSZ5:=Hq hsz5;clear c0 c1 c2 c3 hout0 hw5 hB5 hsz5;refine za 5 (Below (w5.drew).heap.size (w5.drew)) (by kernel_rfl) ?_;refine qPs 0 7 blr ?_;refine qTs 1 6 blr (fun w' hS'=>(And.intro (kc hS' hout5) (And.intro (kc hS' d0) (And.intro (kc hS' d1) (And.intro (kc hS' d2) (kc hS' d3)))))) ?_;refine qTs 2 5 blr (fun w' hS'=>(And.intro (kc hS' hout5) (And.intro (kc hS' d0) (And.intro (kc hS' d1) (And.intro (kc hS' d2) (kc hS' d3)))))) ?_;refine oO 3 4 ?_;intro K3 hK3;go_wp2_with fail;refine(IH.out y _ _ _ hyN hyM ⟨A1,len1,cap1,rfl,HS5.out.below (blr).drew nlr⟩).mono ?_;rintro e w6 ⟨v6,rfl,⟨A6,len6,cap6,rfl,hs6⟩,hb6⟩;have HB3:=Hq hb6;have HS6:=Hq hs6;clear hb6 hs6;go_wp2;refine hK3 _ _ (by exact HB3.out) ?_;clear hK3;intro hS_5_3;refine oO 4 3 ?_;intro K4 hK4;go_wp2;refine hK4 _ _ (by exact Below.alloc hS_5_3 (Below.size hS_5_3) _) ?_;clear hK4;intro hS_5_4;refine oT 5 2 ?_;intro K5 hK5;have hown6:(w6.alloc (.cells #[.int .i64 y.kind,.string y.nat,.string y.text,.slice A6 len6 cap6] 118)).ownsRow (w.heap.size+1+1+1) 118 4 (.slice A' k cap') k vs:=(jp HOWN5.out.drew HB3.out nlr).alloc _;refine(wpList_append_lies _ rfl (.tmp 21) (.tmp 24) 116 rfl (w.heap.size+1+1+1) 118 i0 _ 4 64 Tryz.underlying116 hi hz0 hz1 hz2 rfl (by decide) _ k vs rfl hown6 ⟨w6.heap.size,0,none⟩ 1 1 [.int .i64 y.kind,.string y.nat,.string y.text,.slice A6 len6 cap6] rfl rfl ?hnews ?hone (by decide) ?h63 ?hby ?hbase _ rfl ?_);case hnews=>exact World.news_of_block (heap_alloc_new _ _)
     case hone=>intro u hu;simp only[List.mem_cons,List.mem_nil_iff,or_false]at hu;rcases hu with rfl | rfl | rfl | rfl<;>rfl
     case h63=>unfold maxLen;omega
     case hby=>omega
     case hbase=>have:=HB3.out.size;have:=HSZ5.out;simp at *;omega
     intro g cap7 w7 hown7 hgrow7 hat7 hlt7;have hsz6:w5.drew.heap.size≤w6.heap.size:=HB3.out.size;have hout7:w7.heap[w.heap.size+1+1]? =some (.cells #[.int .i64 x.kind,.string x.nat,.string x.text,.slice A' k cap'] 118 (0,0)):=by
      have h6:=zr (w:=w5.drew) HB3.out nlr HOUT5.out;rw[hgrow7.block _ (by have:=zn h6;simp;omega) (fun e=>by have:=(hown6.lt _ e.symm).1;omega),Lib.alloc_old _ _ _ (zn h6)];exact h6
     have f7:=Lib.frozen_of_heap hout7 3;have c7:w7.cell? ⟨w.heap.size+1+1,3,none⟩=some (.slice A' k cap'):=by rw[Lib.cell_of_heap hout7];rfl
     have HEND:=Hq (fun i hi=>zog (g:=g) (by have:=HLEN.out;omega) HY.out (Nat.lt_succ_self _) HRES.out HOWN.out HROW.out HB.out hbW HBB.out HSZ5.out HB3.out HS6.out hown6 hgrow7 hat7 hout7 hown7 i hi);clear hout7 hown7 hgrow7 hat7 hlt7 hown6;go_wp2;refine hK5 _ _ ?_;clear hK5;intro hD;refine xw (i:=6) (v:=?v5_6b1) (fuel:=1) rfl (by kernel_rfl) (by kernel_rfl) (fun _ _ _ h=>h) hD  (.inl ⟨by kernel_rfl,?y5_6b1⟩) ?n5_6b1
     case y5_6b1=>intro w' _;go_simp;with_reducible rfl
     simp only[Act.put,sqA,sqB,sqC];refine oT 7 0 ?_;intro K7 hK7;go_wp2;refine hK7 _ _ ?_;clear hK7;refine wDn ?_;go_wp2;exact⟨HEND.out _ (by go_num),by simp[intOf];have:=HLEN.out;omega⟩
   · obtain rfl:k=len:=by omega
     obtain⟨hc0,hc1,hc2,hc3⟩:=zf hout;obtain⟨rc0,rc1,rc2,rc3⟩:=zf hres;obtain⟨rf0,rf1,rf2,rf3⟩:=jr hres;have hfin:=(RowV.slice (RowV.low (fun b hb=>hb.1) _ _ hrow) hown (fun g e=>(hown.lt g e).1)).2;rw[List.take_of_length_le (by omega)]at hfin;have HB:=Hq hB;have HFIN:=Hq hfin;have HRES:=Hq hres;clear hs1 hrow hown hB hout hs hs0 hres hfin;go_wp2;have HE:=Hq (zf (xg HRES.out (.int .i64 x.kind) (.string x.nat) (.string x.text) (.slice A' k cap')));have HK:=Hq (HFIN.out.keep (w':=set4 wr (w.heap.size+1) (.int .i64 x.kind) (.string x.nat) (.string x.text) (.slice A' k cap')) (fun b hb _=>qm _ _ _ _ (by omega)));have HBE:=Hq (xh (B:=w.heap.size) (HB0.out.trans (HB.out.mono (by omega))) (b:=w.heap.size+1) (by omega) (.int .i64 x.kind) (.string x.nat) (.string x.text) (.slice A' k cap'));unfold set4 at HE HK HBE;obtain⟨wf,hwf⟩:=nm ((((wr.setCell ⟨w.heap.size+1,0,none⟩ (.int .i64 x.kind)).setCell ⟨w.heap.size+1,1,none⟩ (.string x.nat)).setCell ⟨w.heap.size+1,2,none⟩ (.string x.text)).setCell ⟨w.heap.size+1,3,none⟩ (.slice A' k cap'));rw[hwf]at HE HK HBE⊢;obtain⟨q0,q1,q2,q3⟩:=HE.out;exact bodyPost_ret (v:=.agg #[.int .i64 x.kind,.string x.nat,.string x.text,.slice A' k cap']) (by simp[results,Tryz.results113,go_sem,q0,q1,q2,q3]) rfl ⟨_,rfl,⟨_,_,_,rfl,HK.out.low (fun b hb=>by omega)⟩,HBE.out⟩
theorem zbw(l:List It)(A:Option Addr)(len cap:Nat)(w:World)(ok:Nat→Prop)(hM:Its.nodes l≤1000000000000)(hs:SlAt w ok A len cap l):Calls Tryz.prog 69 #[.slice A len cap] w (zvi (.mk 2 ⟨#[]⟩ ⟨#[]⟩ l) w):=by
 have hs0:=hs.bound;go_enter Tryz.func69,Tryz.ntmps69;go_wp2;obtain⟨W0,hW0⟩:=nm ((w.alloc (.cells #[.int .i64 0,.string ⟨#[]⟩,.string ⟨#[]⟩,.slice none 0 0] 118)).alloc (.cells #[.int .i64 2,.string ⟨#[]⟩,.string ⟨#[]⟩,.slice none 0 0] 118));rw[hW0];have hB0:Below w.heap.size w W0:=(by rw[←hW0];exact((blr).alloc nlr _).alloc (by simp) _);have hr0:ztd W0 (w.heap.size) (w.heap.size+1) 2 ⟨#[]⟩ ⟨#[]⟩ l (.int .i64 0) W0:=by
  refine⟨0,none,0,[],Nat.zero_le _,rfl,?_,?_,World.ownsRow_nil _ _ _ _,trivial,Below.refl _ _⟩
  · rw[←hW0,show w.heap.size+1=(w.alloc (.cells #[.int .i64 0,.string ⟨#[]⟩,.string ⟨#[]⟩,.slice none 0 0] 118)).heap.size from by simp];exact heap_alloc_new _ _
  · rw[←hW0,Lib.alloc_old _ _ _ (by simp)];exact heap_alloc_new _ _
 have HB0:=Hq hB0;clear hB0 hW0;go_loopw [9] (fun i wr=>ztd W0 (w.heap.size) (w.heap.size+1) 2 ⟨#[]⟩ ⟨#[]⟩ l i wr) (fun i _=>l.length - (intOf i).toNat);case atStart=>exact hr0
 case round =>
  clear hr0;obtain⟨k,A',cap',vs,hk,rfl,hout,hres,hown,hrow,hB⟩:=hrel;have hs1:SlAt wr _ A len cap l:=hs0.keep (fun b hb _=>by rw[hB.block b (by omega)];exact HB0.out.block b hb.2);have hlen:=hs.1;by_cases hlt:k<len
  · obtain⟨b,o,rfl⟩:=hs1.head (by omega);obtain⟨y,hy⟩:∃ y,l[k]? =some y:=⟨_,List.getElem?_eq_getElem (by omega)⟩;obtain⟨A1,len1,cap1,c0,c1,c2,c3,hs2⟩:=(hs1.get? k hy).open;have hout0:wr.cell? ⟨w.heap.size+1,3,none⟩=some (.slice A' k cap'):=by rw[Lib.cell_of_heap hout];rfl
    have HS2:=Hq hs2;have HOUT:=Hq hout;have HRES:=Hq hres;have HOWN:=Hq hown;have HROW:=Hq hrow;have HB:=Hq hB;have HLEN:=Hq hlen;have HY:=Hq hy;clear hs1 hs2 hout hres hown hrow hB hlen hs hs0 hy;obtain⟨i0,hi,hz0,hz1,hz2⟩:=info_parts zar;have hbW:w.heap.size+1<wr.heap.size:=zn HOUT.out;have hyc:=Its.mem_nodes (List.mem_of_getElem? HY.out);have hlb:=Its.length_le_nodes l;have hll:=HLEN.out;have hkb:k≤1000000000000:=by omega
    have hyM:y.nodes≤1000000000000:=by omega
    clear hyc hlb hll;go_wp2;obtain⟨w5,hw5⟩:=nm (wr.alloc (.cells #[.int .i64 y.kind,.string y.nat,.string y.text,.slice A1 len1 cap1] 118));rw[hw5];have d0:w5.cell? ⟨wr.heap.size,0,none⟩=some (.int .i64 y.kind):=by rw[←hw5,World.cell?_alloc_at (hn:=rfl)];rfl
    have d1:w5.cell? ⟨wr.heap.size,1,none⟩=some (.string y.nat):=by rw[←hw5,World.cell?_alloc_at (hn:=rfl)];rfl
    have d2:w5.cell? ⟨wr.heap.size,2,none⟩=some (.string y.text):=by rw[←hw5,World.cell?_alloc_at (hn:=rfl)];rfl
    have d3:w5.cell? ⟨wr.heap.size,3,none⟩=some (.slice A1 len1 cap1):=by rw[←hw5,World.cell?_alloc_at (hn:=rfl)];rfl
    have hB5:Below wr.heap.size wr w5:=by rw[←hw5];exact(blr).alloc nlr _
    have hout5:w5.cell? ⟨w.heap.size+1,3,none⟩=some (.slice A' k cap'):=kc hB5 hout0;have HOUT5:=Hq (zr hB5 nlr HOUT.out);have HOWN5:=Hq (jp HOWN.out hB5 nlr);have HS5:=Hq (HS2.out.below hB5 nlr);have HBB:=Hq hB5;have hsz5:wr.heap.size+1=w5.heap.size:=by rw[←hw5];simp
    have HSZ5:=Hq hsz5;clear c0 c1 c2 c3 hout0 hw5 hB5 hsz5;refine za 5 (Below (w5.drew).heap.size (w5.drew)) (by kernel_rfl) ?_;refine qPs 0 7 blr ?_;refine qTs 1 6 blr (fun w' hS'=>(And.intro (kc hS' hout5) (And.intro (kc hS' d0) (And.intro (kc hS' d1) (And.intro (kc hS' d2) (kc hS' d3)))))) ?_;refine qTs 2 5 blr (fun w' hS'=>(And.intro (kc hS' hout5) (And.intro (kc hS' d0) (And.intro (kc hS' d1) (And.intro (kc hS' d2) (kc hS' d3)))))) ?_;refine oO 3 4 ?_;intro K3 hK3;go_wp2_with fail;refine(zp5 _ y _ _ _ nlr hyM ⟨A1,len1,cap1,rfl,HS5.out.below (blr).drew nlr⟩).mono ?_;rintro e w6 ⟨v6,rfl,⟨A6,len6,cap6,rfl,hs6⟩,hb6⟩;have HB3:=Hq hb6;have HS6:=Hq hs6;clear hb6 hs6;go_wp2;refine hK3 _ _ (by exact HB3.out) ?_;clear hK3;intro hS_5_3;refine oO 4 3 ?_;intro K4 hK4;go_wp2;refine hK4 _ _ (by exact Below.alloc hS_5_3 (Below.size hS_5_3) _) ?_;clear hK4;intro hS_5_4;refine oT 5 2 ?_;intro K5 hK5;have hown6:(w6.alloc (.cells #[.int .i64 y.kind,.string y.nat,.string y.text,.slice A6 len6 cap6] 118)).ownsRow (w.heap.size+1+1) 118 4 (.slice A' k cap') k vs:=(jp HOWN5.out.drew HB3.out nlr).alloc _;refine(wpList_append_lies _ rfl (.tmp 14) (.tmp 17) 116 rfl (w.heap.size+1+1) 118 i0 _ 4 64 Tryz.underlying116 hi hz0 hz1 hz2 rfl (by decide) _ k vs rfl hown6 ⟨w6.heap.size,0,none⟩ 1 1 [.int .i64 y.kind,.string y.nat,.string y.text,.slice A6 len6 cap6] rfl rfl ?hnews ?hone (by decide) ?h63 ?hby ?hbase _ rfl ?_);case hnews=>exact World.news_of_block (heap_alloc_new _ _)
    case hone=>intro u hu;simp only[List.mem_cons,List.mem_nil_iff,or_false]at hu;rcases hu with rfl | rfl | rfl | rfl<;>rfl
    case h63=>unfold maxLen;omega
    case hby=>omega
    case hbase=>have:=HB3.out.size;have:=HSZ5.out;simp at *;omega
    intro g cap7 w7 hown7 hgrow7 hat7 hlt7;have hsz6:w5.drew.heap.size≤w6.heap.size:=HB3.out.size;have hout7:w7.heap[w.heap.size+1]? =some (.cells #[.int .i64 2,.string ⟨#[]⟩,.string ⟨#[]⟩,.slice A' k cap'] 118 (0,0)):=by
     have h6:=zr (w:=w5.drew) HB3.out nlr HOUT5.out;rw[hgrow7.block _ (by have:=zn h6;simp;omega) (fun e=>by have:=(hown6.lt _ e.symm).1;omega),Lib.alloc_old _ _ _ (zn h6)];exact h6
    have f7:=Lib.frozen_of_heap hout7 3;have c7:w7.cell? ⟨w.heap.size+1,3,none⟩=some (.slice A' k cap'):=by rw[Lib.cell_of_heap hout7];rfl
    have HEND:=Hq (fun i hi=>zog (g:=g) (by have:=HLEN.out;omega) HY.out (Nat.lt_succ_self _) HRES.out HOWN.out HROW.out HB.out hbW HBB.out HSZ5.out HB3.out HS6.out hown6 hgrow7 hat7 hout7 hown7 i hi);clear hout7 hown7 hgrow7 hat7 hlt7 hown6;go_wp2;refine hK5 _ _ ?_;clear hK5;intro hD;refine xw (i:=6) (v:=?v5_6b2) (fuel:=1) rfl (by kernel_rfl) (by kernel_rfl) (fun _ _ _ h=>h) hD  (.inl ⟨by kernel_rfl,?y5_6b2⟩) ?n5_6b2
    case y5_6b2=>intro w' _;go_simp;with_reducible rfl
    simp only[Act.put,sqA,sqB,sqC];refine oT 7 0 ?_;intro K7 hK7;go_wp2;refine hK7 _ _ ?_;clear hK7;refine wDn ?_;go_wp2;exact⟨HEND.out _ (by go_num),by simp[intOf];have:=HLEN.out;omega⟩
  · obtain rfl:k=len:=by omega
    obtain⟨hc0,hc1,hc2,hc3⟩:=zf hout;obtain⟨rc0,rc1,rc2,rc3⟩:=zf hres;obtain⟨rf0,rf1,rf2,rf3⟩:=jr hres;have hfin:=(RowV.slice (RowV.low (fun b hb=>hb.1) _ _ hrow) hown (fun g e=>(hown.lt g e).1)).2;rw[List.take_of_length_le (by omega)]at hfin;have HB:=Hq hB;have HFIN:=Hq hfin;have HRES:=Hq hres;clear hs1 hrow hown hB hout hs hs0 hres hfin;go_wp2;have HE:=Hq (zf (xg HRES.out (.int .i64 2) (.string ⟨#[]⟩) (.string ⟨#[]⟩) (.slice A' k cap')));have HK:=Hq (HFIN.out.keep (w':=set4 wr (w.heap.size) (.int .i64 2) (.string ⟨#[]⟩) (.string ⟨#[]⟩) (.slice A' k cap')) (fun b hb _=>qm _ _ _ _ (by omega)));have HBE:=Hq (xh (B:=w.heap.size) (HB0.out.trans (HB.out.mono (by omega))) (b:=w.heap.size) (by omega) (.int .i64 2) (.string ⟨#[]⟩) (.string ⟨#[]⟩) (.slice A' k cap'));unfold set4 at HE HK HBE;obtain⟨wf,hwf⟩:=nm ((((wr.setCell ⟨w.heap.size,0,none⟩ (.int .i64 2)).setCell ⟨w.heap.size,1,none⟩ (.string ⟨#[]⟩)).setCell ⟨w.heap.size,2,none⟩ (.string ⟨#[]⟩)).setCell ⟨w.heap.size,3,none⟩ (.slice A' k cap'));rw[hwf]at HE HK HBE⊢;obtain⟨q0,q1,q2,q3⟩:=HE.out;exact bodyPost_ret (v:=.agg #[.int .i64 2,.string ⟨#[]⟩,.string ⟨#[]⟩,.slice A' k cap']) (by simp[results,Tryz.results69,go_sem,q0,q1,q2,q3]) rfl ⟨_,rfl,⟨_,_,_,rfl,HK.out.low (fun b hb=>by omega)⟩,HBE.out⟩
end Go.Proofs.YtppbcopnfankcaaGreat

import Derived.Lib.Hide
import Derived.WalkSpells
import Derived.WalkLawsBesides
import Derived.OrdersHeld
set_option linter.unusedVariables false
namespace Go.Proofs.YtfbmbledklbfgaaGreatDoor
theorem Hq{p:Prop}(h:p):Go.RowKit.Hid p:=h
open Go.RowKit in
theorem blr{B:Nat}{w:World}:Below B w w:=Below.refl B w
theorem nlr{n:Nat}:n≤n:=Nat.le_refl n
def bnat(l:List UInt8):Nat:=l.foldl (fun n b=>n * 256+b.toNat) 0
def encF:Nat→Nat→List UInt8
 | 0,_=>[]
 | k+1,n=>if n=0 then []else encF k (n / 256)++[UInt8.ofNat (n%256)]
def encN(n:Nat):List UInt8:=encF n n
def trimZ(l:List UInt8):List UInt8:=l.dropWhile (· == 0)
def canon(l:List UInt8):Prop:=l.head? ≠ some 0
theorem foldl_bnat(l:List UInt8)(a:Nat):l.foldl (fun n b=>n * 256+b.toNat) a=a * 256 ^ l.length+bnat l:=by
 induction l generalizing a with
 | nil=>simp[bnat]
 | cons x l ih =>
  have h1:=ih (a * 256+x.toNat);have h2:=ih (0 * 256+x.toNat);simp only[List.foldl_cons,bnat,List.length_cons]at *;rw[h1,h2];simp only[Nat.pow_succ];rw[Nat.add_mul,Nat.zero_mul,Nat.zero_add,Nat.mul_assoc,Nat.mul_comm 256,Nat.add_assoc]
theorem bnat_cons(x:UInt8)(l:List UInt8):bnat (x::l)=x.toNat * 256 ^ l.length+bnat l:=by
 have:=foldl_bnat l (0 * 256+x.toNat);simp only[bnat,List.foldl_cons]at *;rw[this];simp
theorem bnat_append(l m:List UInt8):bnat (l++m)=bnat l * 256 ^ m.length+bnat m:=by
 have:=foldl_bnat m (bnat l);rw[←this];simp[bnat,List.foldl_append]
theorem bnat_snoc(l:List UInt8)(x:UInt8):bnat (l++[x])=bnat l * 256+x.toNat:=by
 rw[bnat_append];simp[bnat]
theorem bnat_lt(l:List UInt8):bnat l<256 ^ l.length:=by
 induction l with
 | nil=>simp[bnat]
 | cons x l ih =>
  rw[bnat_cons,List.length_cons,Nat.pow_succ];have hx:=x.toNat_lt;have : x.toNat * 256 ^ l.length+256 ^ l.length≤256 * 256 ^ l.length:=by
   rw[←Nat.succ_mul];exact Nat.mul_le_mul_right _ (by omega)
  rw[Nat.mul_comm (256 ^ l.length)];omega
theorem bnat_ge(x:UInt8)(l:List UInt8)(hx:x≠0):256 ^ l.length≤bnat (x::l):=by
 rw[bnat_cons];have : 1≤x.toNat:=by
  rcases Nat.eq_zero_or_pos x.toNat with h | h
  · exact absurd (UInt8.toNat_inj.1 (by simpa using h)) hx
  · exact h
 have:=Nat.mul_le_mul_right (256 ^ l.length) this;omega
theorem trimZ_canon(l:List UInt8):canon (trimZ l):=by
 induction l with
 | nil=>simp[trimZ,canon]
 | cons x l ih =>
  unfold trimZ at *;rw[List.dropWhile_cons];by_cases h:(x==0)=true
  · rw[if_pos h];exact ih
  · rw[if_neg h];simpa[canon]using h
theorem bnat_trimZ(l:List UInt8):bnat (trimZ l)=bnat l:=by
 induction l with
 | nil=>rfl
 | cons x l ih =>
  unfold trimZ at *;rw[List.dropWhile_cons];by_cases h:(x==0)=true
  · rw[if_pos h,ih,bnat_cons];have : x=0:=by simpa using h
    subst this;simp
  · rw[if_neg h]
theorem trimZ_of_canon{l:List UInt8}(h:canon l):trimZ l=l:=by
 cases l with
 | nil=>rfl
 | cons x l =>
  unfold trimZ canon at *;rw[List.dropWhile_cons,if_neg];simpa using h
theorem canon_nil:canon []:=by simp[canon]
theorem canon_cons{x:UInt8}{l:List UInt8}:canon (x::l)↔x≠0:=by simp[canon]
theorem ofNat_mod_toNat(n:Nat):(UInt8.ofNat (n%256)).toNat=n%256:=by
 simp[UInt8.toNat_ofNat']
theorem encF_bnat(k n:Nat)(h:n≤k):bnat (encF k n)=n:=by
 induction k generalizing n with
 | zero => have : n = 0 := by omega
           subst this;rfl
 | succ k ih =>
  unfold encF;by_cases h0:n=0
  · rw[if_pos h0,h0];rfl
  · rw[if_neg h0,bnat_snoc,ih (n / 256) (by omega),ofNat_mod_toNat];omega
theorem encF_canon(k n:Nat)(h:n≤k):canon (encF k n):=by
 induction k generalizing n with
 | zero=>exact canon_nil
 | succ k ih =>
  unfold encF;by_cases h0:n=0
  · rw[if_pos h0];exact canon_nil
  · rw[if_neg h0];by_cases h1:n / 256=0
    · have : encF k (n / 256)=[]:=by rw[h1];cases k<;>simp[encF]
      rw[this,List.nil_append,canon_cons];intro e;have:=congrArg UInt8.toNat e;rw[ofNat_mod_toNat]at this;simp at this;omega
    · have hc:=ih (n / 256) (by omega);have hb:=encF_bnat k (n / 256) (by omega)
      cases hl:encF k (n / 256)with
      | nil=>rw[hl]at hb;exact absurd hb.symm h1
      | cons x l=>rw[hl]at hc;exact canon_cons.2 (canon_cons.1 hc)
theorem bnat_encN(n:Nat):bnat (encN n)=n:=encF_bnat n n (Nat.le_refl n)
theorem canon_encN(n:Nat):canon (encN n):=encF_canon n n (Nat.le_refl n)
theorem canon_len_lt{a b:List UInt8}(hb:canon b)(h:a.length<b.length):bnat a<bnat b:=by
 cases b with
 | nil=>simp at h
 | cons x l =>
  have h1:=bnat_ge x l (canon_cons.1 hb);have h2:=bnat_lt a;have h3:256 ^ a.length≤256 ^ l.length:=Nat.pow_le_pow_right (by omega) (by simp at h;omega);omega
theorem bnat_inj_len{a b:List UInt8}(hl:a.length=b.length)(h:bnat a=bnat b):a=b:=by
 induction a generalizing b with
 | nil=>cases b with
  | nil=>rfl
  | cons y m=>simp at hl
 | cons x l ih=>cases b with
  | nil=>simp at hl
  | cons y m =>
   have hlm:l.length=m.length:=by simpa using hl
   rw[bnat_cons,bnat_cons,hlm]at h;have h1:=bnat_lt l;have h2:=bnat_lt m;rw[hlm]at h1;have hp:0<256 ^ m.length:=Nat.pow_pos (by omega);have hx:x.toNat=y.toNat:=by
    have e1:(x.toNat * 256 ^ m.length+bnat l) / 256 ^ m.length=x.toNat:=(by rw[Nat.add_comm,Nat.add_mul_div_right _ _ hp,Nat.div_eq_of_lt h1];omega);have e2:(y.toNat * 256 ^ m.length+bnat m) / 256 ^ m.length=y.toNat:=(by rw[Nat.add_comm,Nat.add_mul_div_right _ _ hp,Nat.div_eq_of_lt h2];omega);rw[←e1,h,e2]
   have hxy:x=y:=UInt8.toNat_inj.1 hx;subst hxy;rw[ih hlm (by omega)]
theorem canon_inj{a b:List UInt8}(ha:canon a)(hb:canon b)(h:bnat a=bnat b):a=b:=by
 rcases Nat.lt_trichotomy a.length b.length with hl | hl | hl
 · have:=canon_len_lt hb hl;omega
 · exact bnat_inj_len hl h
 · have:=canon_len_lt ha hl;omega
theorem encN_bnat{l:List UInt8}(h:canon l):encN (bnat l)=l:=canon_inj (canon_encN _) h (bnat_encN _)
theorem trimZ_eq(l:List UInt8):trimZ l=encN (bnat l):=by rw[←bnat_trimZ,encN_bnat (trimZ_canon l)]
theorem encN_eq_nil{n:Nat}:encN n=[]↔n=0:=⟨fun h=>by rw[←bnat_encN n,h];rfl,fun h=>by rw[h];rfl⟩
theorem encN_length_le{n k:Nat}:(encN n).length≤k↔n<256 ^ k:=by
 constructor
 · intro h;have:=bnat_lt (encN n);rw[bnat_encN]at this;exact Nat.lt_of_lt_of_le this (Nat.pow_le_pow_right (by omega) h)
 · intro h
   cases hl:encN n with
   | nil=>simp
   | cons x l =>
    have hc:=canon_encN n;rw[hl]at hc;have h1:=bnat_ge x l (canon_cons.1 hc);rw[←hl,bnat_encN]at h1;rcases Nat.lt_or_ge l.length k with h2 | h2
    · (simp only[List.length_cons];omega)
    · have:=Nat.pow_le_pow_right (show 0<256 by omega) h2;omega
theorem encN_length_mono{m n:Nat}(h:m≤n):(encN m).length≤(encN n).length:=
 encN_length_le.2 (Nat.lt_of_le_of_lt h (encN_length_le.1 nlr))
def cmpI(a b:Nat):Int:=if a<b then -1 else if b<a then 1 else 0
theorem bnat_lt_first{p a b:List UInt8}{x y:UInt8}(hl:a.length=b.length)(h:x.toNat<y.toNat):bnat (p++x::a)<bnat (p++y::b):=by
 rw[bnat_append,bnat_append,bnat_cons,bnat_cons,List.length_cons,List.length_cons,hl];have h1:=bnat_lt a;rw[hl]at h1;have h2:(x.toNat+1) * 256 ^ b.length≤y.toNat * 256 ^ b.length:=Nat.mul_le_mul_right _ h;rw[Nat.succ_mul]at h2;omega
theorem cmpI_lt{a b:Nat}(h:a<b):cmpI a b = -1:=by simp[cmpI,h]
theorem cmpI_gt{a b:Nat}(h:b<a):cmpI a b=1:=by simp[cmpI,h];omega
def ordL(a b:List UInt8):Int:=if a.length<b.length then -1 else if b.length<a.length then 1 else cmpI (bnat a) (bnat b)
theorem ordL_canon{a b:List UInt8}(ha:canon a)(hb:canon b):ordL a b=cmpI (bnat a) (bnat b):=by
 unfold ordL;split
 · rw[cmpI_lt (canon_len_lt hb ‹_›)]
 · split
   · rw[cmpI_gt (canon_len_lt ha ‹_›)]
   · rfl
open Go.RowKit
def Ret(v:Value)(w:World)(e:Ending)(w':World):Prop:=e=.returned v∧Below w.heap.size w w'
def RetQ(v:Value)(w:World)(e:Ending)(w':World):Prop:=e=.returned v∧w=w'
def sliceLen:Value→Nat | .slice _ n _=>n | _=>0
def byteI(l:List UInt8)(k:Nat):Int:=((l.getD k 0).toNat:Int)
def BytesAt(w:World)(A:Option Addr)(len cap:Nat)(bs:List UInt8):Prop:=
 bs.length=len∧len≤cap∧cap≤9223372036854775807∧(0<len→∃ b o,A=some ⟨b,o,none⟩∧∀ k,k<len→w.cell? ⟨b,o+k,none⟩=some (.int .u8 (byteI bs k)))
def bstr(l:List UInt8):ByteArray:=⟨l.toArray⟩
theorem bstr_size(l:List UInt8):(bstr l).size=l.length:=by simp[bstr,ByteArray.size]
theorem bstr_data(l:List UInt8):(bstr l).data.toList=l:=by simp[bstr]
theorem bstr_of(s:ByteArray):bstr s.data.toList=s:=by cases s;simp[bstr]
def nvalid(s:ByteArray):Bool:=decide (s.size≤128) && !(s.data.toList.head? ==some 0)
theorem nvalid_long{a:ByteArray}(h:¬ a.size≤128):nvalid a=false:=by simp[nvalid,h]
theorem data_nil{a:ByteArray}(h:a.size=0):a.data.toList=[]:=by
 rw[←List.length_eq_zero_iff,Array.length_toList];exact h
theorem data_len(a:ByteArray):a.data.toList.length=a.size:=Array.length_toList
theorem data_get(a:ByteArray)(k:Nat)(h:k<a.size):a.data.toList[k]? =some a[k]:=by
 have : k<a.data.toList.length:=by rw[Array.length_toList];exact h
 rw[List.getElem?_eq_getElem this];rfl
theorem data_getD(a:ByteArray)(k:Nat)(h:k<a.size):a.data.toList.getD k 0=a[k]:=by
 rw[List.getD_eq_getElem?_getD,data_get a k h];rfl
theorem sempty_true{a:ByteArray}(h:a.size=0):a.toList.isEmpty=true:=by rw[ByteArray.toList_eq,data_nil h];rfl
theorem sempty_false{a:ByteArray}(h:0<a.size):a.toList.isEmpty=false:=by
 rw[ByteArray.toList_eq]
 cases e:a.data.toList with
 | nil=>rw[←data_len,e]at h;simp at h
 | cons x l=>rfl
theorem byte_zero(a:ByteArray)(h:0<a.size):(a.data.toList.head? ==some 0)=((a[0].toNat:Int)==0):=by
 have e:a.data.toList.head? =some a[0]:=by rw[List.head?_eq_getElem?];exact data_get a 0 h
 rw[e,Bool.eq_iff_iff];simp only[beq_iff_eq,Option.some.injEq];constructor
 · intro h;rw[h];rfl
 · intro h;exact UInt8.toNat_inj.1 (by simpa using h)
theorem nvalid_nil{a:ByteArray}(h:a.size=0):nvalid a=true:=by simp[nvalid,data_nil h,h]
theorem nvalid_some{a:ByteArray}(h:a.size≤128)(h0:0<a.size):nvalid a=((a[0].toNat:Int) != 0):=by
 simp[nvalid,h,byte_zero a h0,bne]
theorem byteI_zero{l:List UInt8}{k:Nat}:byteI l k=0↔l.getD k 0=0:=by
 unfold byteI;constructor
 · intro h;exact UInt8.toNat_inj.1 (by simpa using h)
 · intro h;rw[h];rfl
theorem trimZ_zero{l:List UInt8}(h0:0<l.length)(h:byteI l 0=0):trimZ l=trimZ (l.drop 1):=by
 cases l with
 | nil=>simp at h0
 | cons x l =>
  have : x=0:=byteI_zero.1 h;subst this;simp[trimZ]
theorem trimZ_stop{l:List UInt8}(h:l.length=0∨byteI l 0≠0):trimZ l=l:=by
 apply trimZ_of_canon;rcases h with h | h
 · rw[List.length_eq_zero_iff.1 h];exact canon_nil
 · cases l with
   | nil=>exact canon_nil
   | cons x l=>exact canon_cons.2 fun e=>h (byteI_zero.2 e)
theorem BytesAt.conv{P:Program}{w:World}{A:Option Addr}{len cap:Nat}{bs:List UInt8}(h:BytesAt w A len cap bs)(src dst e:TypeId)
 (hs:P.underlying src=some (.slice e)) (he:P.underlying e=some (.int .u8)) (hd:P.underlying dst=some .string) :
 (convert src dst (.slice A len cap)).run P w=.ok (.string (bstr bs)) w:=by
 obtain⟨hl,_,_,hc⟩:=h;rcases Nat.eq_zero_or_pos len with h0 | h0
 · subst h0;have hb:bs=[]:=List.length_eq_zero_iff.1 hl;subst hb
   cases A with
   | none=>rw[run_convert_bytes_nil w src e hs he 0 cap dst hd];rfl
   | some a =>
    rw[run_convert_bytes_string w src dst e _ 0 cap hs he hd,run_bytesToString w a 0 cap [] (by simpa using run_loadCells_list (P:=P) w a [] (by intro j v hj;simp at hj))];rfl
 · obtain⟨b,o,rfl,hcell⟩:=hc h0;have hz:∀ i,i<len→w.cell? ⟨b,o+i,none⟩=some (.int .u8 ((bs.map fun x=>(x.toNat:Int)).getD i 0)):=by
    intro i hi;rw[hcell i hi];have : i<bs.length:=by omega
    simp[byteI,List.getElem?_eq_getElem this]
   rw[run_convert_bytes_arg w src e hs he b o len cap (bs.map fun x=>(x.toNat:Int)) (by simp[hl]) hz dst hd];have e1:strOfNums (bs.map fun x=>(x.toNat:Int))=bstr bs:=by
    unfold strOfNums bstr;rw[List.map_map];congr 2
    conv=>rhs;rw[←List.map_id bs]
    apply List.map_congr_left;intro x _;simp
   rw[e1]
theorem BytesAt.from{w:World}{b o len cap:Nat}{bs:List UInt8}(h:BytesAt w (some ⟨b,o,none⟩) len cap bs)(k:Nat)(hk:k≤len) :
 BytesAt w (if cap=k then some ⟨b,o,none⟩else some ⟨b,o+k,none⟩) (len - k) (cap - k) (bs.drop k):=by
 obtain⟨hl,hc,hm,hcell⟩:=h;refine⟨by simp[hl],by omega,by omega,fun h1=>?_⟩;obtain⟨b',o',e,hcell⟩:=hcell (by omega);simp only[Option.some.injEq,Addr.mk.injEq,and_true]at e;obtain⟨rfl,rfl⟩:=e;rw[if_neg (by omega)];refine⟨b,o+k,rfl,fun j hj=>?_⟩;have:=hcell (k+j) (by omega);rw[show o+k+j=o+(k+j)from by omega,this];simp[byteI]
theorem BytesAt.tail{w:World}{b o len cap:Nat}{bs:List UInt8}(h:BytesAt w (some ⟨b,o,none⟩) len cap bs)(h0:0<len) :
 BytesAt w (if cap=1 then some ⟨b,o,none⟩else some ⟨b,o+1,none⟩) (len - 1) (cap - 1) (bs.drop 1):=h.from 1 h0
theorem cell_kept{B:Nat}{w w':World}(hb:Below B w w')(hB:w.heap.size≤B){a:Addr}{v:Value}(h:w.cell? a=some v):w'.cell? a=some v:=by
 rw[hb.cell (Nat.lt_of_lt_of_le (World.block_lt_of_cell? w a h) hB)];exact h
theorem kc{w w':World}(h:Below w.heap.size w w'){a:Addr}{v:Value}(c:w.cell? a=some v):w'.cell? a=some v:=cell_kept h nlr c
theorem block_lt{w:World}{k:Nat}{o:Obj}(h:w.heap[k]? =some o):k<w.heap.size:=by
 rcases Nat.lt_or_ge k w.heap.size with h' | h'
 · exact h'
 · rw[Array.getElem?_eq_none h']at h;cases h
theorem block_kept{B:Nat}{w w':World}(hb:Below B w w')(hB:w.heap.size≤B){k:Nat}{o:Obj}(h:w.heap[k]? =some o):w'.heap[k]? =some o:=by
 rw[hb.block k (Nat.lt_of_lt_of_le (block_lt h) hB)];exact h
theorem owns_kept{base:Nat}{e:TypeId}{size:Nat}{v:Value}{n:Nat}{xs:List Value}{B:Nat}{w w':World}(h:w.ownsRow base e size v n xs)(hb:Below B w w')(hB:w.heap.size≤B):w'.ownsRow base e size v n xs:=by
 obtain⟨h1,h2⟩:=h;refine⟨h1,?_⟩;rcases h2 with h2 | ⟨g,cap,cur,hv,hbg,hh,r⟩
 · exact .inl h2
 · exact .inr ⟨g,cap,cur,hv,hbg,block_kept hb hB hh,r⟩
theorem owns_setCell{base:Nat}{e:TypeId}{size:Nat}{v:Value}{n:Nat}{xs:List Value}{w:World}(h:w.ownsRow base e size v n xs){a:Addr}(ha:a.block<base)(u:Value):(w.setCell a u).ownsRow base e size v n xs:=
 ownsRow_setCell_below h ha u
theorem block_setCell{w:World}{b j:Nat}{cs:Array Value}{T:TypeId}{fr:Nat×Nat}(h:w.heap[b]? =some (.cells cs T fr))(u:Value):(w.setCell ⟨b,j,none⟩ u).heap[b]? =some (.cells (cs.setIfInBounds j u) T fr):=by
 simp[World.setCell,Array.getElem?_modify,h]
theorem four_cells{w:World}{b:Nat}{a0 a1 a2 a3:Value}{T:TypeId}{fr:Nat×Nat}(h:w.heap[b]? =some (.cells #[a0,a1,a2,a3] T fr)) :
 w.cell? ⟨b,0,none⟩=some a0∧w.cell? ⟨b,1,none⟩=some a1∧w.cell? ⟨b,2,none⟩=some a2∧w.cell? ⟨b,3,none⟩=some a3:=by
 simp[World.cell?,h]
theorem four_free{w:World}{b:Nat}{a0 a1 a2 a3:Value}{T:TypeId}(h:w.heap[b]? =some (.cells #[a0,a1,a2,a3] T (0,0))) :
 w.frozen? ⟨b,0,none⟩=false∧w.frozen? ⟨b,1,none⟩=false∧w.frozen? ⟨b,2,none⟩=false∧w.frozen? ⟨b,3,none⟩=false:=by
 simp[World.frozen?,h]
structure KeepB (B:Nat) (w w':World):Prop where
 below:Below B w w'
 cells:∀ a v,w.cell? a=some v→w'.cell? a=some v
theorem KeepB.refl(B:Nat)(w:World):KeepB B w w:=⟨Below.refl _ _,fun _ _ h=>h⟩
theorem KeepB.of{B C:Nat}{w w':World}(h:Below C w w')(hC:w.heap.size≤C)(hB:B≤C):KeepB B w w':=⟨h.mono hB,fun _ _ hc=>cell_kept h hC hc⟩
theorem KeepB.trans{B:Nat}{a b c:World}(h:KeepB B a b)(k:KeepB B b c):KeepB B a c:=⟨h.below.trans k.below,fun x v hc=>k.cells x v (h.cells x v hc)⟩
theorem KeepB.drew{B:Nat}{a w:World}(h:KeepB B a w):KeepB B a w.drew:=⟨h.below.drew,fun x v hc=>h.cells x v hc⟩
theorem KeepB.alloc{B:Nat}{a w:World}(h:KeepB B a w)(hB:B≤w.heap.size)(o:Obj):KeepB B a (w.alloc o):=
 h.trans (.of ((blr).alloc nlr _) nlr hB)
theorem cell?_freeze(w:World)(a:Addr)(n:Nat)(p:Addr):(w.freeze a n).cell? p=w.cell? p:=by
 unfold World.freeze;split
 · rfl
 · simp only[World.cell?,Array.getElem?_modify];by_cases h:a.block=p.block
   · rw[if_pos h]
     cases w.heap[p.block]? with
     | none=>rfl
     | some o=>cases o<;>rfl
   · rw[if_neg h]
theorem cell?_drew(w:World)(p:Addr):w.drew.cell? p=w.cell? p:=rfl
def set4(w:World)(b:Nat)(v0 v1 v2 v3:Value):World:=(((w.setCell ⟨b,0,none⟩ v0).setCell ⟨b,1,none⟩ v1).setCell ⟨b,2,none⟩ v2).setCell ⟨b,3,none⟩ v3
theorem set4_block{w:World}{b:Nat}{a0 a1 a2 a3:Value}{T:TypeId}{fr:Nat×Nat}(h:w.heap[b]? =some (.cells #[a0,a1,a2,a3] T fr))(v0 v1 v2 v3:Value):(set4 w b v0 v1 v2 v3).heap[b]? =some (.cells #[v0,v1,v2,v3] T fr):=
 block_setCell (block_setCell (block_setCell (block_setCell h v0) v1) v2) v3
theorem set4_other{w:World}{b:Nat}(v0 v1 v2 v3:Value){k:Nat}(h:k≠b):(set4 w b v0 v1 v2 v3).heap[k]? =w.heap[k]?:=by
 unfold set4;rw[Below.heap_setCell _ _ _ _ h,Below.heap_setCell _ _ _ _ h,Below.heap_setCell _ _ _ _ h,Below.heap_setCell _ _ _ _ h]
theorem set4_below{B:Nat}{w0 w:World}(hb:Below B w0 w){b:Nat}(h:B≤b)(v0 v1 v2 v3:Value):Below B w0 (set4 w b v0 v1 v2 v3):=
 (((hb.setCell (p:=⟨b,0,none⟩) h _).setCell (p:=⟨b,1,none⟩) h _).setCell (p:=⟨b,2,none⟩) h _).setCell (p:=⟨b,3,none⟩) h _
def be8(n:Nat):List UInt8:=[UInt8.ofNat (n / 72057594037927936%256),UInt8.ofNat (n / 281474976710656%256),UInt8.ofNat (n / 1099511627776%256),UInt8.ofNat (n / 4294967296%256),
 UInt8.ofNat (n / 16777216%256),UInt8.ofNat (n / 65536%256),UInt8.ofNat (n / 256%256),UInt8.ofNat (n%256)]
theorem be8_trim(n:Nat)(h:n<18446744073709551616):trimZ (be8 n)=encN n:=by
 rw[trimZ_eq];congr 1;simp only[be8,bnat,List.foldl_cons,List.foldl_nil,ofNat_mod_toNat];omega
theorem be8_at(w:World)(n:Nat)(T:TypeId):BytesAt (w.alloc (.cells #[.int .u8 ((n:Int) / 72057594037927936%256),.int .u8 ((n:Int) / 281474976710656%256),.int .u8 ((n:Int) / 1099511627776%256),
 .int .u8 ((n:Int) / 4294967296%256),.int .u8 ((n:Int) / 16777216%256),.int .u8 ((n:Int) / 65536%256),.int .u8 ((n:Int) / 256%256),.int .u8 ((n:Int)%256)] T)) (some ⟨w.heap.size,0,none⟩) 8 8 (be8 n):=by
 refine⟨rfl,by omega,by omega,fun _=>⟨_,_,rfl,fun k hk=>?_⟩⟩;have e:∀ m:Nat,((UInt8.ofNat (m%256)).toNat:Int)=(m:Int)%256:=fun m=>by rw[ofNat_mod_toNat];omega
 rw[Nat.zero_add,World.cell?_alloc_at (hn:=rfl)]
 match k,hk with
 | 0,_=>exact congrArg (fun x=>some (Value.int .u8 x)) (e _).symm
 | 1,_=>exact congrArg (fun x=>some (Value.int .u8 x)) (e _).symm
 | 2,_=>exact congrArg (fun x=>some (Value.int .u8 x)) (e _).symm
 | 3,_=>exact congrArg (fun x=>some (Value.int .u8 x)) (e _).symm
 | 4,_=>exact congrArg (fun x=>some (Value.int .u8 x)) (e _).symm
 | 5,_=>exact congrArg (fun x=>some (Value.int .u8 x)) (e _).symm
 | 6,_=>exact congrArg (fun x=>some (Value.int .u8 x)) (e _).symm
 | 7,_=>exact congrArg (fun x=>some (Value.int .u8 x)) (e _).symm
theorem ret_int{k:IntKind}{a b:Int}(h:a=b):Ending.returned (.int k a)=.returned (.int k b):=by rw[h]
inductive It where
 | mk (kind:Int) (nat text:ByteArray) (list:List It)
def It.kind:It→Int | .mk k _ _ _=>k
def It.nat:It→ByteArray | .mk _ n _ _=>n
def It.text:It→ByteArray | .mk _ _ t _=>t
def It.list:It→List It | .mk _ _ _ l=>l
def lenF:Nat→Nat→List UInt8
 | 0,_=>[]
 | k+1,n=>if n<128 then [UInt8.ofNat n]else UInt8.ofNat (n%128+128)::lenF k (n / 128)
def lenB(n:Nat):List UInt8:=lenF 10 n
mutual
def It.valid:It→Bool
 | .mk k n t l=>if k=0 then nvalid n&&(t.size==0&&l.isEmpty)else if k=1 then n.size==0&&l.isEmpty else if k=2 then Its.valid l&&(n.size==0&&t.size==0)else false
def Its.valid:List It→Bool
 | []=>true
 | x::l=>x.valid&&Its.valid l
end
mutual
def It.depth:It→Nat
 | .mk k _ _ l=>if k=2 then Its.depth l+1 else 0
def Its.depth:List It→Nat
 | []=>0
 | x::l=>max x.depth (Its.depth l)
end
mutual
def It.bytes:It→List UInt8
 | .mk k n t l=>UInt8.ofNat (k%256).toNat::(lenB (n.data.toList++(t.data.toList++Its.bytes l)).length++(n.data.toList++(t.data.toList++Its.bytes l)))
def Its.bytes:List It→List UInt8
 | []=>[]
 | x::l=>x.bytes++Its.bytes l
end
mutual
def It.weight:It→Nat
 | .mk _ n t l=>n.size+t.size+Its.weight l+11
def Its.weight:List It→Nat
 | []=>0
 | x::l=>x.weight+Its.weight l
end
mutual
def It.nodes:It→Nat
 | .mk _ _ _ l=>Its.nodes l+1
def Its.nodes:List It→Nat
 | []=>0
 | x::l=>x.nodes+Its.nodes l
end
theorem Its.valid_append(l m:List It):Its.valid (l++m)=(Its.valid l&&Its.valid m):=by
 induction l with
 | nil=>simp[Its.valid]
 | cons x l ih=>simp[Its.valid,ih,Bool.and_assoc]
theorem Its.depth_append(l m:List It):Its.depth (l++m)=max (Its.depth l) (Its.depth m):=by
 induction l with
 | nil=>simp[Its.depth]
 | cons x l ih=>simp[Its.depth,ih,Nat.max_assoc]
theorem Its.bytes_append(l m:List It):Its.bytes (l++m)=Its.bytes l++Its.bytes m:=by
 induction l with
 | nil=>simp[Its.bytes]
 | cons x l ih=>simp[Its.bytes,ih]
theorem Its.weight_append(l m:List It):Its.weight (l++m)=Its.weight l+Its.weight m:=by
 induction l with
 | nil=>simp[Its.weight]
 | cons x l ih=>simp[Its.weight,ih,Nat.add_assoc]
theorem lenF_length(k n:Nat):(lenF k n).length≤k:=by
 induction k generalizing n with
 | zero=>simp[lenF]
 | succ k ih =>
  unfold lenF;split
  · simp
  · have:=ih (n / 128);simp only[List.length_cons];omega
mutual
theorem It.bytes_le:∀ x:It,x.bytes.length≤x.weight
 | .mk k n t l=>by
  have h:=Its.bytes_le l;have h1:=lenF_length 10 (n.data.toList++(t.data.toList++Its.bytes l)).length;simp only[It.bytes,It.weight,List.length_cons,List.length_append,data_len,lenB]at *;omega
theorem Its.bytes_le:∀ l:List It,(Its.bytes l).length≤Its.weight l
 | []=>by simp[Its.bytes,Its.weight]
 | x::l=>by
  have h1:=It.bytes_le x;have h2:=Its.bytes_le l;simp only[Its.bytes,Its.weight,List.length_append];omega
end
mutual
theorem It.depth_le:∀ x:It,x.depth≤x.nodes
 | .mk k n t l=>by
  have h:=Its.depth_le l;simp only[It.depth,It.nodes];split<;>omega
theorem Its.depth_le:∀ l:List It,Its.depth l≤Its.nodes l
 | []=>by simp[Its.depth,Its.nodes]
 | x::l=>by
  have h1:=It.depth_le x;have h2:=Its.depth_le l;simp only[Its.depth,Its.nodes];omega
end
mutual
theorem It.nodes_le:∀ x:It,x.nodes≤x.weight
 | .mk k n t l=>by
  have h:=Its.nodes_le l;simp only[It.weight,It.nodes];omega
theorem Its.nodes_le:∀ l:List It,Its.nodes l≤Its.weight l
 | []=>by simp[Its.nodes,Its.weight]
 | x::l=>by
  have h1:=It.nodes_le x;have h2:=Its.nodes_le l;simp only[Its.weight,Its.nodes];omega
end
theorem It.nodes_pos(x:It):1≤x.nodes:=by cases x;simp[It.nodes]
theorem Its.length_le_nodes(l:List It):l.length≤Its.nodes l:=by
 induction l with
 | nil=>simp
 | cons x l ih=>have:=x.nodes_pos;simp only[Its.nodes,List.length_cons];omega
theorem Its.mem_nodes{l:List It}{x:It}(h:x∈l):x.nodes≤Its.nodes l:=by
 induction l with
 | nil=>cases h
 | cons y l ih =>
  simp only[Its.nodes];rcases List.mem_cons.1 h with rfl | h
  · omega
  · have:=ih h;omega
theorem Its.mem_weight{l:List It}{x:It}(h:x∈l):x.weight≤Its.weight l:=by
 induction l with
 | nil=>cases h
 | cons y l ih =>
  simp only[Its.weight];rcases List.mem_cons.1 h with rfl | h
  · omega
  · have:=ih h;omega
theorem It.length_lt(x:It):x.list.length+1≤x.nodes:=by
 cases x with
 | mk k n t l=>have:=Its.length_le_nodes l;simp only[It.list,It.nodes];omega
theorem It.child_nodes{x y:It}{k:Nat}(h:x.list[k]? =some y):y.nodes+1≤x.nodes:=by
 cases x with
 | mk k n t l=>have:=Its.mem_nodes (List.mem_of_getElem? h);simp only[It.nodes];simp only[It.list]at this;omega
mutual
def CellsAt(w:World)(ok:Nat→Prop):It→Nat→Nat→Prop
 | .mk k n t l,b,o=>w.cell? ⟨b,o,none⟩=some (.int .i64 k)∧w.cell? ⟨b,o+1,none⟩=some (.string n)∧w.cell? ⟨b,o+2,none⟩=some (.string t) ∧
  ∃ A len cap,w.cell? ⟨b,o+3,none⟩=some (.slice A len cap)∧l.length=len∧len≤cap∧cap≤9223372036854775807∧∃ b' o',(0<len→A=some ⟨b',o',none⟩∧ok b')∧RowAt w ok l b' o'
def RowAt(w:World)(ok:Nat→Prop):List It→Nat→Nat→Prop
 | [],_,_=>True
 | x::l,b,o=>CellsAt w ok x b o∧RowAt w ok l b (o+4)
end
def SlAt(w:World)(ok:Nat→Prop)(A:Option Addr)(len cap:Nat)(l:List It):Prop:=
 l.length=len∧len≤cap∧cap≤9223372036854775807∧∃ b o,(0<len→A=some ⟨b,o,none⟩∧ok b)∧RowAt w ok l b o
def ItAt(w:World)(ok:Nat→Prop)(v:Value)(x:It):Prop:=∃ A len cap,v=.agg #[.int .i64 x.kind,.string x.nat,.string x.text,.slice A len cap]∧SlAt w ok A len cap x.list
def Agree(ok:Nat→Prop)(w w':World):Prop:=∀ k,ok k→k<w.heap.size→w'.heap[k]? =w.heap[k]?
theorem Agree.of_below{B:Nat}{ok:Nat→Prop}{w w':World}(hb:Below B w w')(hB:w.heap.size≤B):Agree ok w w':=fun k _ h=>hb.block k (Nat.lt_of_lt_of_le h hB)
theorem Agree.trans{ok:Nat→Prop}{a b c:World}(h:Agree ok a b)(h':Agree ok b c)(hs:a.heap.size≤b.heap.size):Agree ok a c:=fun k h1 h2=>(h' k h1 (by omega)).trans (h k h1 h2)
theorem Agree.cell{ok:Nat→Prop}{w w':World}(h:Agree ok w w'){a:Addr}{v:Value}(hl:ok a.block)(hc:w.cell? a=some v):w'.cell? a=some v:=by
 rw[World.cell?_of_block (h a.block hl (World.block_lt_of_cell? w a hc))];exact hc
mutual
theorem CellsAt.keep{ok:Nat→Prop}{w w':World}(hb:Agree ok w w'):∀(x:It) (b o:Nat),ok b→CellsAt w ok x b o→CellsAt w' ok x b o
 | .mk k n t l,b,o,hl,⟨h0,h1,h2,A,len,cap,h3,h4,h5,h6,b',o',h7,h8⟩ =>
  ⟨hb.cell hl h0,hb.cell hl h1,hb.cell hl h2,A,len,cap,hb.cell hl h3,h4,h5,h6,b',o',h7,RowAt.keep hb l b' o' (fun h=>(h7 (by rw[←h4];exact List.length_pos_iff.2 h)).2) h8⟩
theorem RowAt.keep{ok:Nat→Prop}{w w':World}(hb:Agree ok w w'):∀(l:List It) (b o:Nat),(l≠[]→ok b)→RowAt w ok l b o→RowAt w' ok l b o
 | [],_,_,_,_=>trivial
 | x::l,b,o,hl,⟨h,h'⟩=>⟨CellsAt.keep hb x b o (hl (by simp)) h,RowAt.keep hb l b (o+4) (fun _=>hl (by simp)) h'⟩
end
mutual
theorem CellsAt.low{ok ok':Nat→Prop}{w:World}(hl:∀ b,ok b→ok' b):∀(x:It) (b o:Nat),CellsAt w ok x b o→CellsAt w ok' x b o
 | .mk k n t l,b,o,⟨h0,h1,h2,A,len,cap,h3,h4,h5,h6,b',o',h7,h8⟩ =>
  ⟨h0,h1,h2,A,len,cap,h3,h4,h5,h6,b',o',fun h=>⟨(h7 h).1,hl _ (h7 h).2⟩,RowAt.low hl l b' o' h8⟩
theorem RowAt.low{ok ok':Nat→Prop}{w:World}(hl:∀ b,ok b→ok' b):∀(l:List It) (b o:Nat),RowAt w ok l b o→RowAt w ok' l b o
 | [],_,_,_=>trivial
 | x::l,b,o,⟨h,h'⟩=>⟨CellsAt.low hl x b o h,RowAt.low hl l b (o+4) h'⟩
end
theorem SlAt.keep{ok:Nat→Prop}{w w':World}{A:Option Addr}{len cap:Nat}{l:List It}(h:SlAt w ok A len cap l)(hb:Agree ok w w'):SlAt w' ok A len cap l:=
 let ⟨h1,h2,h3,b,o,h4,h5⟩:=h
 ⟨h1,h2,h3,b,o,h4,RowAt.keep hb l b o (fun h=>(h4 (by rw[←h1];exact List.length_pos_iff.2 h)).2) h5⟩
theorem SlAt.low{ok ok':Nat→Prop}{w:World}{A:Option Addr}{len cap:Nat}{l:List It}(h:SlAt w ok A len cap l)(hl:∀ b,ok b→ok' b):SlAt w ok' A len cap l:=
 let ⟨h1,h2,h3,b,o,h4,h5⟩:=h
 ⟨h1,h2,h3,b,o,fun h=>⟨(h4 h).1,hl _ (h4 h).2⟩,RowAt.low hl l b o h5⟩
theorem SlAt.below{B:Nat}{ok:Nat→Prop}{w w':World}{A:Option Addr}{len cap:Nat}{l:List It}(h:SlAt w ok A len cap l)(hb:Below B w w')(hB:w.heap.size≤B):SlAt w' ok A len cap l:=h.keep (.of_below hb hB)
theorem ItAt.keep{ok:Nat→Prop}{w w':World}{v:Value}{x:It}(h:ItAt w ok v x)(hb:Agree ok w w'):ItAt w' ok v x:=
 let ⟨A,len,cap,h1,h2⟩:=h
 ⟨A,len,cap,h1,h2.keep hb⟩
theorem ItAt.low{ok ok':Nat→Prop}{w:World}{v:Value}{x:It}(h:ItAt w ok v x)(hl:∀ b,ok b→ok' b):ItAt w ok' v x:=
 let ⟨A,len,cap,h1,h2⟩:=h
 ⟨A,len,cap,h1,h2.low hl⟩
theorem ItAt.below{B:Nat}{ok:Nat→Prop}{w w':World}{v:Value}{x:It}(h:ItAt w ok v x)(hb:Below B w w')(hB:w.heap.size≤B):ItAt w' ok v x:=h.keep (.of_below hb hB)
theorem RowAt.get{w:World}{ok:Nat→Prop}:∀ {l:List It} {b o i:Nat} (h:RowAt w ok l b o) (hi:i<l.length),CellsAt w ok l[i] b (o+4 * i)
 | x::l,b,o,0,h,_=>h.1
 | x::l,b,o,i+1,h,hi=>by
  have:=RowAt.get (i:=i) h.2 (by simpa using hi);rw[show o+4 * (i+1)=o+4+4 * i from by omega];exact this
theorem CellsAt.open{w:World}{ok:Nat→Prop}{x:It}{b o:Nat}(h:CellsAt w ok x b o) :
 ∃ A len cap,w.cell? ⟨b,o,none⟩=some (.int .i64 x.kind)∧w.cell? ⟨b,o+1,none⟩=some (.string x.nat)∧w.cell? ⟨b,o+2,none⟩=some (.string x.text)∧w.cell? ⟨b,o+3,none⟩=some (.slice A len cap)∧SlAt w ok A len cap x.list:=by
 cases x with
 | mk k n t l =>
  obtain⟨h0,h1,h2,A,len,cap,h3,h4,h5,h6,b',o',h7,h8⟩:=h;exact⟨A,len,cap,h0,h1,h2,h3,h4,h5,h6,b',o',h7,h8⟩
theorem CellsAt.mk'{w:World}{ok:Nat→Prop}{x:It}{b o:Nat}{A:Option Addr}{len cap:Nat}(h0:w.cell? ⟨b,o,none⟩=some (.int .i64 x.kind))(h1:w.cell? ⟨b,o+1,none⟩=some (.string x.nat))
 (h2:w.cell? ⟨b,o+2,none⟩=some (.string x.text)) (h3:w.cell? ⟨b,o+3,none⟩=some (.slice A len cap)) (h4:SlAt w ok A len cap x.list):CellsAt w ok x b o:=by
 cases x with
 | mk k n t l =>
  obtain⟨h4,h5,h6,b',o',h7,h8⟩:=h4;exact⟨h0,h1,h2,A,len,cap,h3,h4,h5,h6,b',o',h7,h8⟩
theorem SlAt.get?{w:World}{ok:Nat→Prop}{b o len cap:Nat}{l:List It}{y:It}(h:SlAt w ok (some ⟨b,o,none⟩) len cap l)(i:Nat)(hi:l[i]? =some y):CellsAt w ok y b (o+i * 4):=by
 obtain⟨hj,rfl⟩:=List.getElem?_eq_some_iff.1 hi;obtain⟨h1,h2,h3,b',o',h4,h5⟩:=h;have:=(h4 (by omega)).1;simp only[Option.some.injEq,Addr.mk.injEq,and_true]at this;obtain⟨rfl,rfl⟩:=this;rw[Nat.mul_comm];exact h5.get hj
theorem SlAt.head{w:World}{ok:Nat→Prop}{A:Option Addr}{len cap:Nat}{l:List It}(h:SlAt w ok A len cap l)(h0:0<len):∃ b o,A=some ⟨b,o,none⟩:=by
 obtain⟨_,_,_,b,o,h4,_⟩:=h;exact⟨b,o,(h4 h0).1⟩
mutual
theorem CellsAt.bound{ok:Nat→Prop}{w:World}:∀(x:It) (b o:Nat),CellsAt w ok x b o→CellsAt w (fun c=>ok c∧c<w.heap.size) x b o
 | .mk k n t l,b,o,⟨h0,h1,h2,A,len,cap,h3,h4,h5,h6,b',o',h7,h8⟩ =>
  ⟨h0,h1,h2,A,len,cap,h3,h4,h5,h6,b',o',fun h=>⟨(h7 h).1,(h7 h).2,RowAt.lt l b' o' (List.length_pos_iff.1 (by omega)) h8⟩,RowAt.bound l b' o' h8⟩
theorem RowAt.bound{ok:Nat→Prop}{w:World}:∀(l:List It) (b o:Nat),RowAt w ok l b o→RowAt w (fun c=>ok c∧c<w.heap.size) l b o
 | [],_,_,_=>trivial
 | x::l,b,o,⟨h,h'⟩=>⟨CellsAt.bound x b o h,RowAt.bound l b (o+4) h'⟩
theorem RowAt.lt{ok:Nat→Prop}{w:World}:∀(l:List It) (b o:Nat),l≠[]→RowAt w ok l b o→b<w.heap.size
 | .mk _ _ _ _::_,b,o,_,⟨⟨h0,_⟩,_⟩=>World.block_lt_of_cell? w ⟨b,o,none⟩ h0
end
theorem SlAt.bound{w:World}{ok:Nat→Prop}{A:Option Addr}{len cap:Nat}{l:List It}(h:SlAt w ok A len cap l):SlAt w (fun c=>ok c∧c<w.heap.size) A len cap l:=
 let ⟨h1,h2,h3,b,o,h4,h5⟩:=h
 ⟨h1,h2,h3,b,o,fun h=>⟨(h4 h).1,(h4 h).2,RowAt.lt l b o (List.length_pos_iff.1 (by omega)) h5⟩,RowAt.bound l b o h5⟩
theorem SlAt.nil(w:World)(ok:Nat→Prop):SlAt w ok none 0 0 []:=⟨rfl,Nat.le_refl _,by omega,0,0,fun h=>absurd h (by omega),trivial⟩
def RowV(w:World)(ok:Nat→Prop):List Value→List It→Prop
 | [],[]=>True
 | k::n::t::s::vs,x::l=>k=.int .i64 x.kind∧n=.string x.nat∧t=.string x.text∧(∃ A len cap,s=.slice A len cap∧SlAt w ok A len cap x.list)∧RowV w ok vs l
 | _,_=>False
theorem RowV.keep{ok:Nat→Prop}{w w':World}(hb:Agree ok w w'):∀(vs:List Value) (l:List It),RowV w ok vs l→RowV w' ok vs l
 | [],[],_=>trivial
 | k::n::t::s::vs,x::l,⟨h1,h2,h3,⟨A,len,cap,h4,h5⟩,h6⟩=>⟨h1,h2,h3,⟨A,len,cap,h4,h5.keep hb⟩,RowV.keep hb vs l h6⟩
theorem RowV.low{ok ok':Nat→Prop}{w:World}(hl:∀ b,ok b→ok' b):∀(vs:List Value) (l:List It),RowV w ok vs l→RowV w ok' vs l
 | [],[],_=>trivial
 | k::n::t::s::vs,x::l,⟨h1,h2,h3,⟨A,len,cap,h4,h5⟩,h6⟩=>⟨h1,h2,h3,⟨A,len,cap,h4,h5.low hl⟩,RowV.low hl vs l h6⟩
theorem RowV.bound{ok:Nat→Prop}{w:World}:∀(vs:List Value) (l:List It),RowV w ok vs l→RowV w (fun c=>ok c∧c<w.heap.size) vs l
 | [],[],_=>trivial
 | k::n::t::s::vs,x::l,⟨h1,h2,h3,⟨A,len,cap,h4,h5⟩,h6⟩=>⟨h1,h2,h3,⟨A,len,cap,h4,h5.bound⟩,RowV.bound vs l h6⟩
theorem RowV.snoc{w:World}{ok:Nat→Prop}{x:It}{A:Option Addr}{len cap:Nat}(hs:SlAt w ok A len cap x.list):∀(vs:List Value) (l:List It),RowV w ok vs l →
 RowV w ok (vs++[.int .i64 x.kind,.string x.nat,.string x.text,.slice A len cap]) (l++[x])
 | [],[],_=>⟨rfl,rfl,rfl,⟨A,len,cap,rfl,hs⟩,trivial⟩
 | k::n::t::s::vs,y::l,⟨h1,h2,h3,h4,h6⟩=>⟨h1,h2,h3,h4,RowV.snoc hs vs l h6⟩
theorem RowV.length{w:World}{ok:Nat→Prop}:∀ {vs:List Value} {l:List It},RowV w ok vs l→vs.length=l.length * 4
 | [],[],_=>rfl
 | k::n::t::s::vs,x::l,⟨_,_,_,_,h⟩=>by have:=RowV.length h;simp only[List.length_cons];omega
theorem RowV.row{w:World}{ok:Nat→Prop}{b:Nat}:∀ {vs:List Value} {l:List It} {o:Nat},RowV w ok vs l→(∀ j u,vs[j]? =some u→w.cell? ⟨b,o+j,none⟩=some u)→RowAt w ok l b o
 | [],[],_,_,_=>trivial
 | k::n::t::s::vs,x::l,o,⟨h1,h2,h3,⟨A,len,cap,h4,h5⟩,h6⟩,hc=>by
  refine⟨CellsAt.mk' (A:=A) (len:=len) (cap:=cap) ?_ ?_ ?_ ?_ h5,RowV.row h6 fun j u hj=>?_⟩
  · rw[←h1];exact hc 0 k rfl
  · rw[←h2];exact hc 1 n rfl
  · rw[←h3];exact hc 2 t rfl
  · rw[←h4];exact hc 3 s rfl
  · rw[show o+4+j=o+(j+4)from by omega];exact hc (j+4) u hj
theorem RowV.slice{w:World}{ok:Nat→Prop}{base:Nat}{e:TypeId}{A:Option Addr}{len n cap:Nat}{vs:List Value}{l:List It}(h:RowV w ok vs l)(hown:w.ownsRow base e 4 (.slice A len cap) n vs)(hb:∀ g,(Value.slice A len cap).ownBlock=some g→ok g) :
 len=n∧SlAt w ok A n cap l:=by
 have hlen:=h.length;have h1:=hown.1;rcases hown.2 with⟨hv,h0⟩ | ⟨g,cap,cur,hv,hbg,hg,hn,hm,hs,ht⟩
 · simp only[Value.slice.injEq]at hv;obtain⟨rfl,rfl,rfl⟩:=hv;subst h0;have : l=[]:=List.length_eq_zero_iff.1 (by omega);subst this;exact⟨rfl,SlAt.nil w ok⟩
 · simp only[Value.slice.injEq]at hv;obtain⟨rfl,rfl,rfl⟩:=hv;refine⟨rfl,by omega,hn,hm,g,0,fun _=>⟨rfl,hb g rfl⟩,h.row fun j u hj=>?_⟩;have:=hown.cells (g:=g) rfl j u hj;rw[show (0:Nat)+j=j from by omega];unfold Addr.add at this;split at this
   · subst_vars;exact this
   · simpa using this
theorem take_snoc{α:Type}{l:List α}{k:Nat}{y:α}(h:l[k]? =some y):l.take (k+1)=l.take k++[y]:=by
 obtain⟨h1,rfl⟩:=List.getElem?_eq_some_iff.1 h;exact List.take_succ_eq_append_getElem h1
theorem Its.weight_take_le(l:List It)(k:Nat):Its.weight (l.take k)≤Its.weight l:=by
 have:=Its.weight_append (l.take k) (l.drop k);rw[List.take_append_drop]at this;omega
def RetIt(x:It)(w:World)(e:Ending)(w':World):Prop:=∃ v,e=.returned v∧ItAt w' (fun b=>w.heap.size≤b) v x∧Below w.heap.size w w'
theorem sqA{α:Type _}(l:List α)(i:Nat)(a:α):l.toArray.setIfInBounds i a=(l.set i a).toArray:=List.setIfInBounds_toArray _ _ _
theorem sqB{α:Type _}(a b:α)(l:List α):(a::l).set 0 b=b::l:=rfl
theorem sqC{α:Type _}(a b:α)(l:List α)(n:Nat):(a::l).set (n+1) b=a::l.set n b:=rfl
section
variable {P : Program} {ops : Array Oper} {Q : Exit → Act → World → Prop} {md : Region.Mode} {S : World → Prop} {k : Nat}
def Down(md:Region.Mode)(ops:Array Oper)(listed:Array Bool):Prop:=
 listed.size=ops.size∧∀ j o,ops[j]? =some o→listed.getD j false=true→∀ e∈o.after,Region.binds md e=true→listed.getD e.on false=true
theorem getD_repl_false(n j:Nat):(Array.replicate n false).getD j false=false:=by
 rw[Array.getD_eq_getD_getElem?,Array.getElem?_replicate];split<;>rfl
theorem Down.start:Down md ops (Array.replicate ops.size false):=by
 refine⟨Array.size_replicate,fun j o _ h=>?_⟩;rw[getD_repl_false]at h;cases h
theorem Down.beyond{listed:Array Bool}(h:Down md ops listed){j:Nat}(hj:ops.size≤j):listed.getD j false=false:=by
 rw[Array.getD_eq_getD_getElem?,Array.getElem?_eq_none (by rw[h.1];exact hj)];rfl
theorem getD_agree{listed:Array Bool}{j:Nat}(h:listed.getD j true=false):listed.getD j false=false:=by
 rw[Array.getD_eq_getD_getElem?]at *
 cases e:listed[j]? with
 | none=>rfl
 | some b=>rw[e]at h;exact h
theorem getD_set_self{listed:Array Bool}{i:Nat}(h:listed.getD i true=false):(listed.setIfInBounds i true).getD i false=true:=by
 rw[Array.getD_eq_getD_getElem?]at *;have hi:i<listed.size:=by
  rcases Nat.lt_or_ge i listed.size with h' | h'
  · exact h'
  · rw[Array.getElem?_eq_none h']at h;cases h
 rw[Array.getElem?_setIfInBounds_self];rw[if_pos hi];rfl
theorem Down.set{listed:Array Bool}(h:Down md ops listed){i:Nat}(hi:i∈Region.ready md ops listed):Down md ops (listed.setIfInBounds i true):=by
 refine⟨by rw[Array.size_setIfInBounds];exact h.1,fun j o hj hl e he hb=>?_⟩;by_cases hij:i=j
 · subst hij;obtain⟨_,o',ho',hall⟩:=mem_ready.1 hi;rw[hj]at ho';cases ho';exact getD_set_true (hall e he hb)
 · rw[getD_set_ne false hij]at hl;exact getD_set_true (h.2 j o hj hl e he hb)
def reachB(md:Region.Mode)(ops:Array Oper):Nat→Nat→Nat→Bool
 | 0,_,_=>false
 | n+1,k,i=>match ops[k]? with
  | none=>false
  | some o=>o.after.any fun e=>Region.binds md e&&(e.on==i||reachB md ops n e.on i)
theorem reachB_spec{listed:Array Bool}(h:Down md ops listed):∀(n k i:Nat),reachB md ops n k i=true→listed.getD k false=true→listed.getD i false=true
 | 0,_,_,hr,_=>by cases hr
 | n+1,k,i,hr,hk=>by
  unfold reachB at hr
  cases ho:ops[k]? with
  | none=>rw[ho]at hr;cases hr
  | some o =>
   rw[ho]at hr;simp only[Array.any_eq_true',Bool.and_eq_true,Bool.or_eq_true,beq_iff_eq]at hr;obtain⟨e,he,hb,h1 | h1⟩:=hr
   · rw[←h1];exact h.2 k o ho hk e he hb
   · exact reachB_spec h n e.on i h1 (h.2 k o ho hk e he hb)
def wpAnyK(P:Program)(md:Region.Mode)(ops:Array Oper)(Q:Exit→Act→World→Prop)(k:Nat)(S:World→Prop):Nat→Array Bool→Act→World→Prop
 | 0,listed,a,w=>Region.ready md ops listed=[]∧Q .normal a w
 | fuel+1,listed,a,w =>
  (Region.ready md ops listed=[]→Q .normal a w) ∧
  ∀ i∈Region.ready md ops listed,wpOp P ops Q i (fun a' w'=>((listed.setIfInBounds i true).getD k false=false→S w')∧wpAnyK P md ops Q k S fuel (listed.setIfInBounds i true) a' w') a w
theorem wpAny_of_K:∀(fuel:Nat) (listed:Array Bool) (a:Act) (w:World),wpAnyK P md ops Q k S fuel listed a w→wpAny P md ops Q fuel listed a w
 | 0,_,_,_,h=>h
 | fuel+1,_,_,_,h=>⟨h.1,fun i hi=>wpOp_mono (fun a' w' h'=>wpAny_of_K fuel _ a' w' h'.2) (h.2 i hi)⟩
theorem wpAnyK_first{i:Nat}{oi:Oper}{v:Value}{T:World→Prop}(hi:ops[i]? =some oi)(hsel:∀(j:Nat) (o:Oper) cs b,ops[j]? =some o→o.op≠.select cs b)
 (hT:∀(listed:Array Bool) (w:World),Down md ops listed→listed.getD i true=false→(listed.getD k false=false→S w)→T w) (hki:k≠i)
 (hQ:∀ c a w,Q (.panic c) (a.put oi.dst v) w→Q (.panic c) a w) :
 ∀(fuel:Nat) (listed:Array Bool) (a:Act) (w:World),Down md ops listed →
  (∀ j oj,ops[j]? =some oj→j≠i→listed.getD j true=false→(∀ e∈oj.after,Region.binds md e=true→e.on≠i)→oi.apart ops oj=true) →
  i∈Region.ready md ops listed→YieldsIf P ops T oi v a→(listed.getD k false=false→S w) →
  wpAnyK P md ops Q k S fuel (listed.setIfInBounds i true) (a.put oi.dst v) w→wpAnyK P md ops Q k S (fuel+1) listed a w:=by
 intro fuel
 induction fuel with
 | zero =>
  intro listed a w hD _ hr hy hS H;refine⟨fun h=>(by rw[h]at hr;cases hr),fun j hj=>?_⟩;have hTw:=hT listed w hD (mem_ready.1 hr).1 hS;by_cases hji:j=i
  · subst hji;exact hy.wpOp hi hTw ⟨fun h=>hS (by rw[getD_set_ne false (Ne.symm hki)]at h;exact h),H⟩
  · have:=ready_mono hj hji;rw[H.1]at this;cases this
 | succ fuel ih =>
  intro listed a w hD hfree hr hy hS H;refine⟨fun h=>(by rw[h]at hr;cases hr),fun j hj=>?_⟩;have hTw:=hT listed w hD (mem_ready.1 hr).1 hS;by_cases hji:j=i
  · subst hji;exact hy.wpOp hi hTw ⟨fun h=>hS (by rw[getD_set_ne false (Ne.symm hki)]at h;exact h),H⟩
  · have h1:=H.2 j (ready_mono hj hji);obtain⟨hjun,oj,hoj,hall⟩:=mem_ready.1 hj;have hnot:∀ e∈oj.after,Region.binds md e=true→e.on≠i:=fun e he hb heq=>by
     have h1:=hall e he hb;have h0:=getD_agree (mem_ready.1 hr).1;rw[heq,h0]at h1;cases h1
    have h2:=wpOp_putIf hoj (hfree j oj hoj hji hjun hnot) (fun cs b=>hsel i oi cs b hi) (fun cs b=>hsel j oj cs b hoj) hQ hy h1;have hfree':∀ m om,ops[m]? =some om→m≠i→(listed.setIfInBounds j true).getD m true=false →
     (∀ e∈om.after,Region.binds md e=true→e.on≠i)→oi.apart ops om=true:=fun m om hm hmi hun hno=>by
     refine hfree m om hm hmi ?_ hno;by_cases hjm:j=m
     · subst hjm;exact hjun
     · rw[getD_set_ne true hjm]at hun;exact hun
    refine wpOp_mono (fun a' w' h3=>?_) h2;have hS':(listed.setIfInBounds j true).getD k false=false→S w':=fun h=>h3.2.1 (by
     rw[Array.setIfInBounds_comm _ _ (Ne.symm hji),getD_set_ne false (Ne.symm hki)]
     exact h)
    refine⟨hS',ih (listed.setIfInBounds j true) a' w' (hD.set hj) hfree' (ready_mono hr (Ne.symm hji)) h3.1 hS' ?_⟩;rw[Array.setIfInBounds_comm _ _ hji];exact h3.2.2
def stepB(md:Region.Mode)(ops:Array Oper)(listed:Array Bool)(k i:Nat):Bool:=
 Region.noSelect ops&&Region.free md ops listed i&&(Region.ready md ops listed).contains i && !(k==i)
theorem stepB_spec{listed:Array Bool}{i:Nat}(h:stepB md ops listed k i=true):Region.noSelect ops=true∧Region.free md ops listed i=true∧i∈Region.ready md ops listed∧k≠i:=by
 simp only[stepB,Bool.and_eq_true,Bool.not_eq_true',beq_eq_false_iff_ne,List.contains_iff_mem]at h;exact⟨h.1.1.1,h.1.1.2,h.1.2,h.2⟩
theorem wpAnyK_take{i:Nat}{oi:Oper}{v:Value}{fuel:Nat}{listed:Array Bool}{a:Act}{w:World}(hi:ops[i]? =some oi)(hst:stepB md ops listed k i=true)(hre:reachB md ops ops.size k i=true)
 (hQ:∀ c a w,Q (.panic c) (a.put oi.dst v) w→Q (.panic c) a w) (hD:Down md ops listed) (hS:S w) (hy:YieldsIf P ops S oi v a)
 (h:Down md ops (listed.setIfInBounds i true)→wpAnyK P md ops Q k S fuel (listed.setIfInBounds i true) (a.put oi.dst v) w):wpAnyK P md ops Q k S (fuel+1) listed a w:=by
 obtain⟨hs,hf,hr',hki'⟩:=stepB_spec hst;refine wpAnyK_first (T:=S) hi (Region.noSelect_spec hs) (fun l w' hD' hl hS'=>hS' ?_) hki' hQ fuel listed a w hD (Region.free_spec hi hf) hr' hy (fun _=>hS) (h (hD.set hr'))
 cases hk:l.getD k false with
 | false=>rfl
 | true=>rw[←getD_agree hl];exact(reachB_spec hD' _ k i hre hk).symm
theorem wpAnyK_takeS{i:Nat}{oi:Oper}{v:Value}{fuel:Nat}{listed:Array Bool}{a:Act}{w:World}(hi:ops[i]? =some oi)(hst:stepB md ops listed k i=true)(hre:decide (ops.size≤k)=true)
 (hQ:∀ c a w,Q (.panic c) (a.put oi.dst v) w→Q (.panic c) a w) (hD:Down md ops listed) (hS:S w) (hy:YieldsIf P ops S oi v a)
 (h:Down md ops (listed.setIfInBounds i true)→wpAnyK P md ops Q k S fuel (listed.setIfInBounds i true) (a.put oi.dst v) w):wpAnyK P md ops Q k S (fuel+1) listed a w:=by
 obtain⟨hs,hf,hr',hki'⟩:=stepB_spec hst;exact wpAnyK_first (T:=S) hi (Region.noSelect_spec hs) (fun l w' hD' hl hS'=>hS' (hD'.beyond (of_decide_eq_true hre))) hki' hQ fuel listed a w hD (Region.free_spec hi hf) hr' hy (fun _=>hS) (h (hD.set hr'))
theorem wpAnyK_pure{i:Nat}{oi:Oper}{v:Value}{fuel:Nat}{listed:Array Bool}{a:Act}{w:World}(hi:ops[i]? =some oi)(hst:stepB md ops listed k i=true)
 (hQ:∀ c a w,Q (.panic c) (a.put oi.dst v) w→Q (.panic c) a w) (hD:Down md ops listed) (hS:S w) (hy:YieldsIf P ops (fun _=>True) oi v a)
 (h:Down md ops (listed.setIfInBounds i true)→wpAnyK P md ops Q k S fuel (listed.setIfInBounds i true) (a.put oi.dst v) w):wpAnyK P md ops Q k S (fuel+1) listed a w:=by
 obtain⟨hs,hf,hr',hki'⟩:=stepB_spec hst;exact wpAnyK_first (T:=fun _=>True) hi (Region.noSelect_spec hs) (fun _ _ _ _ _=>trivial) hki' hQ fuel listed a w hD (Region.free_spec hi hf) hr' hy (fun _=>hS) (h (hD.set hr'))
theorem wpAnyK_pureT{i:Nat}{oi:Oper}{v:Value}{fuel:Nat}{listed:Array Bool}{a:Act}{w:World}(hi:ops[i]? =some oi)(hst:stepB md ops listed k i=true)(hk:listed.getD k false=true)
 (hQ:∀ c a w,Q (.panic c) (a.put oi.dst v) w→Q (.panic c) a w) (hD:Down md ops listed) (hy:YieldsIf P ops (fun _=>True) oi v a)
 (h:Down md ops (listed.setIfInBounds i true)→wpAnyK P md ops Q k S fuel (listed.setIfInBounds i true) (a.put oi.dst v) w):wpAnyK P md ops Q k S (fuel+1) listed a w:=by
 obtain⟨hs,hf,hr',hki'⟩:=stepB_spec hst;exact wpAnyK_first (T:=fun _=>True) hi (Region.noSelect_spec hs) (fun _ _ _ _ _=>trivial) hki' hQ fuel listed a w hD (Region.free_spec hi hf) hr' hy (fun h0=>by rw[hk]at h0;cases h0) (h (hD.set hr'))
theorem wp_other_end{o:Oper}{a:Act}{w:World}{K:Act→World→Prop}{Q':Exit→Act→World→Prop}(hQ:∀ c a w,Q' (.panic c) a w→Q (.panic c) a w)(hO:LetsOut Q'→LetsOut Q)
 (h:o.wp P a w K Q'):o.wp P a w K Q:=by
 unfold Oper.wp at *;generalize (execOp a.eval o).run P w=r at *
 cases r with
 | ok n w' =>
  cases n<;>simp only[Oper.upon]at h⊢;case value u=>exact h
  case skip=>exact h
  case defer d=>exact h
  case enter f args =>
   refine Calls.mono h fun e w'' he=>?_
   cases e with
   | returned u=>exact he
   | panicked c=>exact hQ _ _ _ he
   | outgrown=>exact hO he
  case row row args=>exact h
 | halt x w' =>
  cases x<;>simp only[Oper.upon]at h⊢;case panic u=>exact hQ _ _ _ h
def EndK(K:Act→World→Prop)(Q:Exit→Act→World→Prop):Exit→Act→World→Prop
 | .normal,a,w=>K a w
 | e,a,w=>Q e a w
def StepK(P:Program)(md:Region.Mode)(ops:Array Oper)(Q:Exit→Act→World→Prop)(k:Nat)(S:World→Prop)(i:Nat)(oi:Oper)(fuel:Nat)(listed:Array Bool)(a:Act)(w:World):Prop:=
 ∀ K:Act→World→Prop,(∀ a' w',S w'→(S w'→Down md ops (listed.setIfInBounds i true)→wpAnyK P md ops Q k S fuel (listed.setIfInBounds i true) a' w')→K a' w')→wpList P ops (EndK K Q) [oi] a w
theorem step_of{i:Nat}{oi:Oper}{fuel:Nat}{listed:Array Bool}{a:Act}{w:World}(hi':i∈Region.ready md ops listed)(hi:ops[i]? =some oi)(hD:Down md ops listed)(R:World→Prop)(hR:∀ w',R w'→(listed.setIfInBounds i true).getD k false=false→S w')
 (h:∀ K:Act→World→Prop,(∀ a' w',R w'→(R w'→Down md ops (listed.setIfInBounds i true)→wpAnyK P md ops Q k S fuel (listed.setIfInBounds i true) a' w')→K a' w')→wpList P ops (EndK K Q) [oi] a w) :
 wpOp P ops Q i (fun a' w'=>((listed.setIfInBounds i true).getD k false=false→S w')∧wpAnyK P md ops Q k S fuel (listed.setIfInBounds i true) a' w') a w:=by
 have h1:=h (fun a' w'=>((listed.setIfInBounds i true).getD k false=false→S w')∧wpAnyK P md ops Q k S fuel (listed.setIfInBounds i true) a' w') (fun a' w' hS hh=>⟨hR w' hS,hh hS (hD.set hi')⟩);have hO:LetsOut (EndK (fun a' w'=>((listed.setIfInBounds i true).getD k false=false→S w')∧wpAnyK P md ops Q k S fuel (listed.setIfInBounds i true) a' w') Q)→LetsOut Q:=fun⟨a',w',hh⟩=>⟨a',w',hh⟩;unfold wpList at h1;unfold wpOp;simp only[hi];split
 · rename_i hw;rw[if_pos hw]at h1;rcases h1 with h1 | ⟨h2,h3⟩
   · exact .inl (wp_other_end (fun _ _ _ hh=>hh) hO h1)
   · exact .inr ⟨h2,hO h3⟩
 · rename_i hw;rw[if_neg hw]at h1;exact h1
theorem wpAnyK_oneT{i:Nat}{oi:Oper}{fuel:Nat}{listed:Array Bool}{a:Act}{w:World}(hr:Region.ready md ops listed=[i])(hi:ops[i]? =some oi)(hD:Down md ops listed)(hk:(listed.setIfInBounds i true).getD k false=true)
 (h:∀ K:Act→World→Prop,(∀ a' w',(Down md ops (listed.setIfInBounds i true)→wpAnyK P md ops Q k S fuel (listed.setIfInBounds i true) a' w')→K a' w')→wpList P ops (EndK K Q) [oi] a w):wpAnyK P md ops Q k S (fuel+1) listed a w:=by
 refine⟨fun h0=>(by rw[hr]at h0;cases h0),fun j hj=>?_⟩;have hi':i∈Region.ready md ops listed:=by rw[hr];exact List.mem_singleton.2 rfl
 rw[hr]at hj;obtain rfl:=List.mem_singleton.1 hj;exact step_of hi' hi hD (fun _=>True) (fun _ _ h0=>by rw[hk]at h0;cases h0) (fun K hK=>h K fun a' w' hh=>hK a' w' trivial fun _=>hh)
theorem wpAnyK_one{i:Nat}{oi:Oper}{fuel:Nat}{listed:Array Bool}{a:Act}{w:World}(hr:Region.ready md ops listed=[i])(hi:ops[i]? =some oi)(hD:Down md ops listed)
 (h:∀ K:Act→World→Prop,(∀ a' w',S w'→(S w'→Down md ops (listed.setIfInBounds i true)→wpAnyK P md ops Q k S fuel (listed.setIfInBounds i true) a' w')→K a' w')→wpList P ops (EndK K Q) [oi] a w):wpAnyK P md ops Q k S (fuel+1) listed a w:=by
 refine⟨fun h0=>(by rw[hr]at h0;cases h0),fun j hj=>?_⟩;have hi':i∈Region.ready md ops listed:=by rw[hr];exact List.mem_singleton.2 rfl
 rw[hr]at hj;obtain rfl:=List.mem_singleton.1 hj;exact step_of hi' hi hD S (fun _ h _=>h) h
theorem wpAnyK_two{i i':Nat}{oi oi':Oper}{fuel:Nat}{listed:Array Bool}{a:Act}{w:World}(hr:Region.ready md ops listed=[i,i'])(hi:ops[i]? =some oi)(hi':ops[i']? =some oi')(hD:Down md ops listed)
 (h:StepK P md ops Q k S i oi fuel listed a w) (h':StepK P md ops Q k S i' oi' fuel listed a w):wpAnyK P md ops Q k S (fuel+1) listed a w:=by
 refine⟨fun h0=>(by rw[hr]at h0;cases h0),fun j hj=>?_⟩;have hj':=hj;rw[hr]at hj;simp only[List.mem_cons,List.mem_nil_iff,or_false]at hj;rcases hj with rfl | rfl
 · exact step_of hj' hi hD S (fun _ h _=>h) h
 · exact step_of hj' hi' hD S (fun _ h _=>h) h'
theorem wpAnyK_three{i i' i'':Nat}{oi oi' oi'':Oper}{fuel:Nat}{listed:Array Bool}{a:Act}{w:World}(hr:Region.ready md ops listed=[i,i',i''])(hi:ops[i]? =some oi)(hi':ops[i']? =some oi')(hi'':ops[i'']? =some oi'')(hD:Down md ops listed)
 (h:StepK P md ops Q k S i oi fuel listed a w) (h':StepK P md ops Q k S i' oi' fuel listed a w) (h'':StepK P md ops Q k S i'' oi'' fuel listed a w):wpAnyK P md ops Q k S (fuel+1) listed a w:=by
 refine⟨fun h0=>(by rw[hr]at h0;cases h0),fun j hj=>?_⟩;have hj':=hj;rw[hr]at hj;simp only[List.mem_cons,List.mem_nil_iff,or_false]at hj;rcases hj with rfl | rfl | rfl
 · exact step_of hj' hi hD S (fun _ h _=>h) h
 · exact step_of hj' hi' hD S (fun _ h _=>h) h'
 · exact step_of hj' hi'' hD S (fun _ h _=>h) h''
theorem wpAnyK_done{listed:Array Bool}{a:Act}{w:World}(hr:Region.ready md ops listed=[])(h:Q .normal a w) :
 ∀ fuel,wpAnyK P md ops Q k S fuel listed a w
 | 0=>⟨hr,h⟩
 | _+1=>⟨fun _=>h,by rw[hr];simp⟩
theorem wpD{listed:Array Bool}{a:Act}{w:World}(h:Q .normal a w)(hr:Region.ready md ops listed=[]:=by kernel_rfl):wpAnyK P md ops Q k S 0 listed a w:=wpAnyK_done hr h 0
theorem wp_region_K(k:Nat)(S:World→Prop){id:Nat}{a:Act}{w:World}(hm:P.follows .mixedOrders=true)
 (h:Down .any ops (Array.replicate ops.size false)→wpAnyK P .any ops Q k S ops.size (Array.replicate ops.size false) a w.drew):(Code.region id ops true).wp P Q a w:=
 wp_region_any hm (wpAny_of_K _ _ _ _ (h Down.start))
end
section
variable {P : Program} {ops : Array Oper} {Q : Exit → Act → World → Prop} {md : Region.Mode} {S : World → Prop} {k : Nat}
theorem qP{oi:Oper}{v:Value}{listed:Array Bool}{a:Act}{w:World}(i fuel:Nat)(hi:ops[i]? =some oi)(hD:Down md ops listed)(hS:S w)(h:Down md ops (listed.setIfInBounds i true)→wpAnyK P md ops Q k S fuel (listed.setIfInBounds i true) (a.put oi.dst v) w)(hy:∀ w',True→(execOp a.eval oi).run P w'=.ok (.value v) w':=by intro w' _;go_simp;with_reducible rfl)(hst:stepB md ops listed k i=true:=by kernel_rfl)(hg:Region.wanted oi (yielded ops a.tmps)=true:=by kernel_rfl)(hQ:∀ c a w,Q (.panic c) (a.put oi.dst v) w→Q (.panic c) a w:=by exact fun _ _ _ h=>h):wpAnyK P md ops Q k S (fuel+1) listed a w:=wpAnyK_pure hi hst hQ hD hS (.inl ⟨hg,hy⟩) h
theorem qT{oi:Oper}{v:Value}{listed:Array Bool}{a:Act}{w:World}(i fuel:Nat)(hi:ops[i]? =some oi)(hD:Down md ops listed)(hS:S w)(hy:∀ w',S w'→(execOp a.eval oi).run P w'=.ok (.value v) w')(h:Down md ops (listed.setIfInBounds i true)→wpAnyK P md ops Q k S fuel (listed.setIfInBounds i true) (a.put oi.dst v) w)(hst:stepB md ops listed k i=true:=by kernel_rfl)(hre:reachB md ops ops.size k i=true:=by kernel_rfl)(hg:Region.wanted oi (yielded ops a.tmps)=true:=by kernel_rfl)(hQ:∀ c a w,Q (.panic c) (a.put oi.dst v) w→Q (.panic c) a w:=by exact fun _ _ _ h=>h):wpAnyK P md ops Q k S (fuel+1) listed a w:=wpAnyK_take hi hst hre hQ hD hS (.inl ⟨hg,hy⟩) h
theorem qS{oi:Oper}{v:Value}{listed:Array Bool}{a:Act}{w:World}(i fuel:Nat)(hi:ops[i]? =some oi)(hD:Down md ops listed)(hS:S w)(hy:∀ w',S w'→(execOp a.eval oi).run P w'=.ok (.value v) w')(h:Down md ops (listed.setIfInBounds i true)→wpAnyK P md ops Q k S fuel (listed.setIfInBounds i true) (a.put oi.dst v) w)(hst:stepB md ops listed k i=true:=by kernel_rfl)(hre:decide (ops.size≤k)=true:=by kernel_rfl)(hg:Region.wanted oi (yielded ops a.tmps)=true:=by kernel_rfl)(hQ:∀ c a w,Q (.panic c) (a.put oi.dst v) w→Q (.panic c) a w:=by exact fun _ _ _ h=>h):wpAnyK P md ops Q k S (fuel+1) listed a w:=wpAnyK_takeS hi hst hre hQ hD hS (.inl ⟨hg,hy⟩) h
end
end Go.Proofs.YtfbmbledklbfgaaGreatDoor

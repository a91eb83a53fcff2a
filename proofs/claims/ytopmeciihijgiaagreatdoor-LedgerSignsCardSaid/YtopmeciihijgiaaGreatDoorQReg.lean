import Derived.Lib.Hide
import Derived.WalkSpells
import Derived.WalkLawsBesides
import Derived.Test.YtopmeciihijgiaaGreatDoorRows
import Derived.Lib.Strings
import Derived.OrdersHeld
namespace Go.Proofs.YtopmeciihijgiaaGreatDoor
theorem Hq{p:Prop}(h:p):Go.RowKit.Hid p:=h
open Go.RowKit in
theorem blr{B:Nat}{w:World}:Below B w w:=Below.refl B w
theorem nlr{n:Nat}:n≤n:=Nat.le_refl n
def bnat(l:List UInt8):Nat:=l.foldl (fun n b=>n * 256+b.toNat) 0
def encF:Nat→Nat→List UInt8
 | 0,_=>[]
 | k+1,n=>if n=0 then []else encF k (n / 256)++[UInt8.ofNat (n%256)]
def encN(n:Nat):List UInt8:=encF n n
def trimZ(l:List UInt8):List UInt8:=l.dropWhile (· == 0)
def canon(l:List UInt8):Prop:=l.head? ≠ some 0
theorem foldl_bnat(l:List UInt8)(a:Nat):l.foldl (fun n b=>n * 256+b.toNat) a=a * 256 ^ l.length+bnat l:=by
 induction l generalizing a with
 | nil=>simp[bnat]
 | cons x l ih =>
  have h1:=ih (a * 256+x.toNat);have h2:=ih (0 * 256+x.toNat);simp only[List.foldl_cons,bnat,List.length_cons]at *;rw[h1,h2];simp only[Nat.pow_succ];rw[Nat.add_mul,Nat.zero_mul,Nat.zero_add,Nat.mul_assoc,Nat.mul_comm 256,Nat.add_assoc]
theorem bnat_cons(x:UInt8)(l:List UInt8):bnat (x::l)=x.toNat * 256 ^ l.length+bnat l:=by
 have:=foldl_bnat l (0 * 256+x.toNat);simp only[bnat,List.foldl_cons]at *;rw[this];simp
theorem bnat_append(l m:List UInt8):bnat (l++m)=bnat l * 256 ^ m.length+bnat m:=by
 have:=foldl_bnat m (bnat l);rw[←this];simp[bnat,List.foldl_append]
theorem bnat_snoc(l:List UInt8)(x:UInt8):bnat (l++[x])=bnat l * 256+x.toNat:=by
 rw[bnat_append];simp[bnat]
theorem bnat_lt(l:List UInt8):bnat l<256 ^ l.length:=by
 induction l with
 | nil=>simp[bnat]
 | cons x l ih =>
  rw[bnat_cons,List.length_cons,Nat.pow_succ];have hx:=x.toNat_lt;have : x.toNat * 256 ^ l.length+256 ^ l.length≤256 * 256 ^ l.length:=by
   rw[←Nat.succ_mul];exact Nat.mul_le_mul_right _ (by omega)
  rw[Nat.mul_comm (256 ^ l.length)];omega
theorem bnat_ge(x:UInt8)(l:List UInt8)(hx:x≠0):256 ^ l.length≤bnat (x::l):=by
 rw[bnat_cons];have : 1≤x.toNat:=by
  rcases Nat.eq_zero_or_pos x.toNat with h | h
  · exact absurd (UInt8.toNat_inj.1 (by simpa using h)) hx
  · exact h
 have:=Nat.mul_le_mul_right (256 ^ l.length) this;omega
theorem trimZ_canon(l:List UInt8):canon (trimZ l):=by
 induction l with
 | nil=>simp[trimZ,canon]
 | cons x l ih =>
  unfold trimZ at *;rw[List.dropWhile_cons];by_cases h:(x==0)=true
  · rw[if_pos h];exact ih
  · rw[if_neg h];simpa[canon]using h
theorem bnat_trimZ(l:List UInt8):bnat (trimZ l)=bnat l:=by
 induction l with
 | nil=>rfl
 | cons x l ih =>
  unfold trimZ at *;rw[List.dropWhile_cons];by_cases h:(x==0)=true
  · rw[if_pos h,ih,bnat_cons];have : x=0:=by simpa using h
    subst this;simp
  · rw[if_neg h]
theorem trimZ_length_le(l:List UInt8):(trimZ l).length≤l.length:=by
 unfold trimZ;exact(List.dropWhile_suffix _).length_le
theorem trimZ_of_canon{l:List UInt8}(h:canon l):trimZ l=l:=by
 cases l with
 | nil=>rfl
 | cons x l =>
  unfold trimZ canon at *;rw[List.dropWhile_cons,if_neg];simpa using h
theorem canon_nil:canon []:=by simp[canon]
theorem canon_cons{x:UInt8}{l:List UInt8}:canon (x::l)↔x≠0:=by simp[canon]
theorem ofNat_mod_toNat(n:Nat):(UInt8.ofNat (n%256)).toNat=n%256:=by
 simp[UInt8.toNat_ofNat']
theorem encF_bnat(k n:Nat)(h:n≤k):bnat (encF k n)=n:=by
 induction k generalizing n with
 | zero => have : n = 0 := by omega
           subst this;rfl
 | succ k ih =>
  unfold encF;by_cases h0:n=0
  · rw[if_pos h0,h0];rfl
  · rw[if_neg h0,bnat_snoc,ih (n / 256) (by omega),ofNat_mod_toNat];omega
theorem encF_canon(k n:Nat)(h:n≤k):canon (encF k n):=by
 induction k generalizing n with
 | zero=>exact canon_nil
 | succ k ih =>
  unfold encF;by_cases h0:n=0
  · rw[if_pos h0];exact canon_nil
  · rw[if_neg h0];by_cases h1:n / 256=0
    · have : encF k (n / 256)=[]:=by rw[h1];cases k<;>simp[encF]
      rw[this,List.nil_append,canon_cons];intro e;have:=congrArg UInt8.toNat e;rw[ofNat_mod_toNat]at this;simp at this;omega
    · have hc:=ih (n / 256) (by omega);have hb:=encF_bnat k (n / 256) (by omega)
      cases hl:encF k (n / 256)with
      | nil=>rw[hl]at hb;exact absurd hb.symm h1
      | cons x l=>rw[hl]at hc;exact canon_cons.2 (canon_cons.1 hc)
theorem bnat_encN(n:Nat):bnat (encN n)=n:=encF_bnat n n (Nat.le_refl n)
theorem canon_encN(n:Nat):canon (encN n):=encF_canon n n (Nat.le_refl n)
theorem canon_len_lt{a b:List UInt8}(hb:canon b)(h:a.length<b.length):bnat a<bnat b:=by
 cases b with
 | nil=>simp at h
 | cons x l =>
  have h1:=bnat_ge x l (canon_cons.1 hb);have h2:=bnat_lt a;have h3:256 ^ a.length≤256 ^ l.length:=Nat.pow_le_pow_right (by omega) (by simp at h;omega);omega
theorem bnat_inj_len{a b:List UInt8}(hl:a.length=b.length)(h:bnat a=bnat b):a=b:=by
 induction a generalizing b with
 | nil=>cases b with
  | nil=>rfl
  | cons y m=>simp at hl
 | cons x l ih=>cases b with
  | nil=>simp at hl
  | cons y m =>
   have hlm:l.length=m.length:=by simpa using hl
   rw[bnat_cons,bnat_cons,hlm]at h;have h1:=bnat_lt l;have h2:=bnat_lt m;rw[hlm]at h1;have hp:0<256 ^ m.length:=Nat.pow_pos (by omega);have hx:x.toNat=y.toNat:=by
    have e1:(x.toNat * 256 ^ m.length+bnat l) / 256 ^ m.length=x.toNat:=(by rw[Nat.add_comm,Nat.add_mul_div_right _ _ hp,Nat.div_eq_of_lt h1];omega);have e2:(y.toNat * 256 ^ m.length+bnat m) / 256 ^ m.length=y.toNat:=(by rw[Nat.add_comm,Nat.add_mul_div_right _ _ hp,Nat.div_eq_of_lt h2];omega);rw[←e1,h,e2]
   have hxy:x=y:=UInt8.toNat_inj.1 hx;subst hxy;rw[ih hlm (by omega)]
theorem canon_inj{a b:List UInt8}(ha:canon a)(hb:canon b)(h:bnat a=bnat b):a=b:=by
 rcases Nat.lt_trichotomy a.length b.length with hl | hl | hl
 · have:=canon_len_lt hb hl;omega
 · exact bnat_inj_len hl h
 · have:=canon_len_lt ha hl;omega
theorem encN_bnat{l:List UInt8}(h:canon l):encN (bnat l)=l:=canon_inj (canon_encN _) h (bnat_encN _)
theorem trimZ_eq(l:List UInt8):trimZ l=encN (bnat l):=by rw[←bnat_trimZ,encN_bnat (trimZ_canon l)]
theorem encN_eq_nil{n:Nat}:encN n=[]↔n=0:=⟨fun h=>by rw[←bnat_encN n,h];rfl,fun h=>by rw[h];rfl⟩
theorem encN_length_le{n k:Nat}:(encN n).length≤k↔n<256 ^ k:=by
 constructor
 · intro h;have:=bnat_lt (encN n);rw[bnat_encN]at this;exact Nat.lt_of_lt_of_le this (Nat.pow_le_pow_right (by omega) h)
 · intro h
   cases hl:encN n with
   | nil=>simp
   | cons x l =>
    have hc:=canon_encN n;rw[hl]at hc;have h1:=bnat_ge x l (canon_cons.1 hc);rw[←hl,bnat_encN]at h1;rcases Nat.lt_or_ge l.length k with h2 | h2
    · (simp only[List.length_cons];omega)
    · have:=Nat.pow_le_pow_right (show 0<256 by omega) h2;omega
theorem encN_length_mono{m n:Nat}(h:m≤n):(encN m).length≤(encN n).length:=
 encN_length_le.2 (Nat.lt_of_le_of_lt h (encN_length_le.1 nlr))
def cmpI(a b:Nat):Int:=if a<b then -1 else if b<a then 1 else 0
theorem bnat_lt_first{p a b:List UInt8}{x y:UInt8}(hl:a.length=b.length)(h:x.toNat<y.toNat):bnat (p++x::a)<bnat (p++y::b):=by
 rw[bnat_append,bnat_append,bnat_cons,bnat_cons,List.length_cons,List.length_cons,hl];have h1:=bnat_lt a;rw[hl]at h1;have h2:(x.toNat+1) * 256 ^ b.length≤y.toNat * 256 ^ b.length:=Nat.mul_le_mul_right _ h;rw[Nat.succ_mul]at h2;omega
theorem cmpI_lt{a b:Nat}(h:a<b):cmpI a b = -1:=by simp[cmpI,h]
theorem cmpI_gt{a b:Nat}(h:b<a):cmpI a b=1:=by simp[cmpI,h];omega
def ordL(a b:List UInt8):Int:=if a.length<b.length then -1 else if b.length<a.length then 1 else cmpI (bnat a) (bnat b)
theorem ordL_canon{a b:List UInt8}(ha:canon a)(hb:canon b):ordL a b=cmpI (bnat a) (bnat b):=by
 unfold ordL;split
 · rw[cmpI_lt (canon_len_lt hb ‹_›)]
 · split
   · rw[cmpI_gt (canon_len_lt ha ‹_›)]
   · rfl
theorem ordL_first{a b:List UInt8}{k:Nat}(hl:a.length=b.length)(hk:k<a.length)(he:a.take k=b.take k)(h:(a.getD k 0).toNat<(b.getD k 0).toNat) :
 ordL a b = -1∧ordL b a=1:=by
 have ea:a=b.take k++a.getD k 0::a.drop (k+1):=(by rw[←he,List.getD_eq_getElem?_getD,List.getElem?_eq_getElem hk,Option.getD_some,List.getElem_cons_drop,List.take_append_drop]);have eb:b=b.take k++b.getD k 0::b.drop (k+1):=(by rw[List.getD_eq_getElem?_getD,List.getElem?_eq_getElem (by omega),Option.getD_some,List.getElem_cons_drop,List.take_append_drop]);have hlt:bnat a<bnat b:=(by have:=bnat_lt_first (p:=b.take k) (a:=a.drop (k+1)) (b:=b.drop (k+1)) (by simp[hl]) h;rw[←ea,←eb]at this;exact this);constructor
 · unfold ordL;rw[if_neg (by omega),if_neg (by omega),cmpI_lt hlt]
 · unfold ordL;rw[if_neg (by omega),if_neg (by omega),cmpI_gt hlt]
theorem ordL_same{a b:List UInt8}(h:a=b):ordL a b=0:=by subst h;simp[ordL,cmpI]
open Go.RowKit
def Ret(v:Value)(w:World)(e:Ending)(w':World):Prop:=e=.returned v∧Below w.heap.size w w'
def RetQ(v:Value)(w:World)(e:Ending)(w':World):Prop:=e=.returned v∧w=w'
def sliceLen:Value→Nat | .slice _ n _=>n | _=>0
def byteI(l:List UInt8)(k:Nat):Int:=((l.getD k 0).toNat:Int)
def BytesAt(w:World)(A:Option Addr)(len cap:Nat)(bs:List UInt8):Prop:=
 bs.length=len∧len≤cap∧cap≤9223372036854775807∧(0<len→∃ b o,A=some ⟨b,o,none⟩∧∀ k,k<len→w.cell? ⟨b,o+k,none⟩=some (.int .u8 (byteI bs k)))
def bstr(l:List UInt8):ByteArray:=⟨l.toArray⟩
theorem bstr_size(l:List UInt8):(bstr l).size=l.length:=by simp[bstr,ByteArray.size]
theorem bstr_data(l:List UInt8):(bstr l).data.toList=l:=by simp[bstr]
theorem bstr_of(s:ByteArray):bstr s.data.toList=s:=by cases s;simp[bstr]
def nvalid(s:ByteArray):Bool:=decide (s.size≤128) && !(s.data.toList.head? ==some 0)
theorem nvalid_long{a:ByteArray}(h:¬ a.size≤128):nvalid a=false:=by simp[nvalid,h]
theorem data_nil{a:ByteArray}(h:a.size=0):a.data.toList=[]:=by
 rw[←List.length_eq_zero_iff,Array.length_toList];exact h
theorem data_len(a:ByteArray):a.data.toList.length=a.size:=Array.length_toList
theorem data_get(a:ByteArray)(k:Nat)(h:k<a.size):a.data.toList[k]? =some a[k]:=by
 have : k<a.data.toList.length:=by rw[Array.length_toList];exact h
 rw[List.getElem?_eq_getElem this];rfl
theorem data_getD(a:ByteArray)(k:Nat)(h:k<a.size):a.data.toList.getD k 0=a[k]:=by
 rw[List.getD_eq_getElem?_getD,data_get a k h];rfl
theorem sempty_true{a:ByteArray}(h:a.size=0):a.toList.isEmpty=true:=by rw[ByteArray.toList_eq,data_nil h];rfl
theorem sempty_false{a:ByteArray}(h:0<a.size):a.toList.isEmpty=false:=by
 rw[ByteArray.toList_eq]
 cases e:a.data.toList with
 | nil=>rw[←data_len,e]at h;simp at h
 | cons x l=>rfl
theorem byte_zero(a:ByteArray)(h:0<a.size):(a.data.toList.head? ==some 0)=((a[0].toNat:Int)==0):=by
 have e:a.data.toList.head? =some a[0]:=by rw[List.head?_eq_getElem?];exact data_get a 0 h
 rw[e,Bool.eq_iff_iff];simp only[beq_iff_eq,Option.some.injEq];constructor
 · intro h;rw[h];rfl
 · intro h;exact UInt8.toNat_inj.1 (by simpa using h)
theorem nvalid_nil{a:ByteArray}(h:a.size=0):nvalid a=true:=by simp[nvalid,data_nil h,h]
theorem nvalid_some{a:ByteArray}(h:a.size≤128)(h0:0<a.size):nvalid a=((a[0].toNat:Int) != 0):=by
 simp[nvalid,h,byte_zero a h0,bne]
theorem byteI_zero{l:List UInt8}{k:Nat}:byteI l k=0↔l.getD k 0=0:=by
 unfold byteI;constructor
 · intro h;exact UInt8.toNat_inj.1 (by simpa using h)
 · intro h;rw[h];rfl
theorem trimZ_zero{l:List UInt8}(h0:0<l.length)(h:byteI l 0=0):trimZ l=trimZ (l.drop 1):=by
 cases l with
 | nil=>simp at h0
 | cons x l =>
  have : x=0:=byteI_zero.1 h;subst this;simp[trimZ]
theorem trimZ_stop{l:List UInt8}(h:l.length=0∨byteI l 0≠0):trimZ l=l:=by
 apply trimZ_of_canon;rcases h with h | h
 · rw[List.length_eq_zero_iff.1 h];exact canon_nil
 · cases l with
   | nil=>exact canon_nil
   | cons x l=>exact canon_cons.2 fun e=>h (byteI_zero.2 e)
theorem BytesAt.conv{P:Program}{w:World}{A:Option Addr}{len cap:Nat}{bs:List UInt8}(h:BytesAt w A len cap bs)(src dst e:TypeId)
 (hs:P.underlying src=some (.slice e)) (he:P.underlying e=some (.int .u8)) (hd:P.underlying dst=some .string) :
 (convert src dst (.slice A len cap)).run P w=.ok (.string (bstr bs)) w:=by
 obtain⟨hl,_,_,hc⟩:=h;rcases Nat.eq_zero_or_pos len with h0 | h0
 · subst h0;have hb:bs=[]:=List.length_eq_zero_iff.1 hl;subst hb
   cases A with
   | none=>rw[run_convert_bytes_nil w src e hs he 0 cap dst hd];rfl
   | some a =>
    rw[run_convert_bytes_string w src dst e _ 0 cap hs he hd,run_bytesToString w a 0 cap [] (by simpa using run_loadCells_list (P:=P) w a [] (by intro j v hj;simp at hj))];rfl
 · obtain⟨b,o,rfl,hcell⟩:=hc h0;have hz:∀ i,i<len→w.cell? ⟨b,o+i,none⟩=some (.int .u8 ((bs.map fun x=>(x.toNat:Int)).getD i 0)):=by
    intro i hi;rw[hcell i hi];have : i<bs.length:=by omega
    simp[byteI,List.getElem?_eq_getElem this]
   rw[run_convert_bytes_arg w src e hs he b o len cap (bs.map fun x=>(x.toNat:Int)) (by simp[hl]) hz dst hd];have e1:strOfNums (bs.map fun x=>(x.toNat:Int))=bstr bs:=by
    unfold strOfNums bstr;rw[List.map_map];congr 2
    conv=>rhs;rw[←List.map_id bs]
    apply List.map_congr_left;intro x _;simp
   rw[e1]
theorem BytesAt.from{w:World}{b o len cap:Nat}{bs:List UInt8}(h:BytesAt w (some ⟨b,o,none⟩) len cap bs)(k:Nat)(hk:k≤len) :
 BytesAt w (if cap=k then some ⟨b,o,none⟩else some ⟨b,o+k,none⟩) (len - k) (cap - k) (bs.drop k):=by
 obtain⟨hl,hc,hm,hcell⟩:=h;refine⟨by simp[hl],by omega,by omega,fun h1=>?_⟩;obtain⟨b',o',e,hcell⟩:=hcell (by omega);simp only[Option.some.injEq,Addr.mk.injEq,and_true]at e;obtain⟨rfl,rfl⟩:=e;rw[if_neg (by omega)];refine⟨b,o+k,rfl,fun j hj=>?_⟩;have:=hcell (k+j) (by omega);rw[show o+k+j=o+(k+j)from by omega,this];simp[byteI]
theorem BytesAt.tail{w:World}{b o len cap:Nat}{bs:List UInt8}(h:BytesAt w (some ⟨b,o,none⟩) len cap bs)(h0:0<len) :
 BytesAt w (if cap=1 then some ⟨b,o,none⟩else some ⟨b,o+1,none⟩) (len - 1) (cap - 1) (bs.drop 1):=h.from 1 h0
theorem byteI_drop(l:List UInt8)(k j:Nat):byteI (l.drop k) j=byteI l (k+j):=by simp[byteI]
theorem trimZ_drop{l:List UInt8}{k:Nat}(h:k<l.length)(hz:byteI l k=0):trimZ (l.drop k)=trimZ (l.drop (k+1)):=by
 rw[trimZ_zero (by simp;omega) (by rw[byteI_drop];exact hz),List.drop_drop]
theorem cell_kept{B:Nat}{w w':World}(hb:Below B w w')(hB:w.heap.size≤B){a:Addr}{v:Value}(h:w.cell? a=some v):w'.cell? a=some v:=by
 rw[hb.cell (Nat.lt_of_lt_of_le (World.block_lt_of_cell? w a h) hB)];exact h
theorem kc{w w':World}(h:Below w.heap.size w w'){a:Addr}{v:Value}(c:w.cell? a=some v):w'.cell? a=some v:=cell_kept h nlr c
theorem block_lt{w:World}{k:Nat}{o:Obj}(h:w.heap[k]? =some o):k<w.heap.size:=by
 rcases Nat.lt_or_ge k w.heap.size with h' | h'
 · exact h'
 · rw[Array.getElem?_eq_none h']at h;cases h
theorem block_kept{B:Nat}{w w':World}(hb:Below B w w')(hB:w.heap.size≤B){k:Nat}{o:Obj}(h:w.heap[k]? =some o):w'.heap[k]? =some o:=by
 rw[hb.block k (Nat.lt_of_lt_of_le (block_lt h) hB)];exact h
theorem owns_kept{base:Nat}{e:TypeId}{size:Nat}{v:Value}{n:Nat}{xs:List Value}{B:Nat}{w w':World}(h:w.ownsRow base e size v n xs)(hb:Below B w w')(hB:w.heap.size≤B):w'.ownsRow base e size v n xs:=by
 obtain⟨h1,h2⟩:=h;refine⟨h1,?_⟩;rcases h2 with h2 | ⟨g,cap,cur,hv,hbg,hh,r⟩
 · exact .inl h2
 · exact .inr ⟨g,cap,cur,hv,hbg,block_kept hb hB hh,r⟩
theorem owns_setCell{base:Nat}{e:TypeId}{size:Nat}{v:Value}{n:Nat}{xs:List Value}{w:World}(h:w.ownsRow base e size v n xs){a:Addr}(ha:a.block<base)(u:Value):(w.setCell a u).ownsRow base e size v n xs:=
 ownsRow_setCell_below h ha u
theorem block_setCell{w:World}{b j:Nat}{cs:Array Value}{T:TypeId}{fr:Nat×Nat}(h:w.heap[b]? =some (.cells cs T fr))(u:Value):(w.setCell ⟨b,j,none⟩ u).heap[b]? =some (.cells (cs.setIfInBounds j u) T fr):=by
 simp[World.setCell,Array.getElem?_modify,h]
theorem four_cells{w:World}{b:Nat}{a0 a1 a2 a3:Value}{T:TypeId}{fr:Nat×Nat}(h:w.heap[b]? =some (.cells #[a0,a1,a2,a3] T fr)) :
 w.cell? ⟨b,0,none⟩=some a0∧w.cell? ⟨b,1,none⟩=some a1∧w.cell? ⟨b,2,none⟩=some a2∧w.cell? ⟨b,3,none⟩=some a3:=by
 simp[World.cell?,h]
theorem four_free{w:World}{b:Nat}{a0 a1 a2 a3:Value}{T:TypeId}(h:w.heap[b]? =some (.cells #[a0,a1,a2,a3] T (0,0))) :
 w.frozen? ⟨b,0,none⟩=false∧w.frozen? ⟨b,1,none⟩=false∧w.frozen? ⟨b,2,none⟩=false∧w.frozen? ⟨b,3,none⟩=false:=by
 simp[World.frozen?,h]
structure KeepB (B:Nat) (w w':World):Prop where
 below:Below B w w'
 cells:∀ a v,w.cell? a=some v→w'.cell? a=some v
theorem KeepB.refl(B:Nat)(w:World):KeepB B w w:=⟨Below.refl _ _,fun _ _ h=>h⟩
theorem KeepB.of{B C:Nat}{w w':World}(h:Below C w w')(hC:w.heap.size≤C)(hB:B≤C):KeepB B w w':=⟨h.mono hB,fun _ _ hc=>cell_kept h hC hc⟩
theorem KeepB.trans{B:Nat}{a b c:World}(h:KeepB B a b)(k:KeepB B b c):KeepB B a c:=⟨h.below.trans k.below,fun x v hc=>k.cells x v (h.cells x v hc)⟩
theorem KeepB.drew{B:Nat}{a w:World}(h:KeepB B a w):KeepB B a w.drew:=⟨h.below.drew,fun x v hc=>h.cells x v hc⟩
theorem KeepB.alloc{B:Nat}{a w:World}(h:KeepB B a w)(hB:B≤w.heap.size)(o:Obj):KeepB B a (w.alloc o):=
 h.trans (.of ((blr).alloc nlr _) nlr hB)
theorem cell?_freeze(w:World)(a:Addr)(n:Nat)(p:Addr):(w.freeze a n).cell? p=w.cell? p:=by
 unfold World.freeze;split
 · rfl
 · simp only[World.cell?,Array.getElem?_modify];by_cases h:a.block=p.block
   · rw[if_pos h]
     cases w.heap[p.block]? with
     | none=>rfl
     | some o=>cases o<;>rfl
   · rw[if_neg h]
theorem cell?_drew(w:World)(p:Addr):w.drew.cell? p=w.cell? p:=rfl
def set4(w:World)(b:Nat)(v0 v1 v2 v3:Value):World:=(((w.setCell ⟨b,0,none⟩ v0).setCell ⟨b,1,none⟩ v1).setCell ⟨b,2,none⟩ v2).setCell ⟨b,3,none⟩ v3
theorem set4_block{w:World}{b:Nat}{a0 a1 a2 a3:Value}{T:TypeId}{fr:Nat×Nat}(h:w.heap[b]? =some (.cells #[a0,a1,a2,a3] T fr))(v0 v1 v2 v3:Value):(set4 w b v0 v1 v2 v3).heap[b]? =some (.cells #[v0,v1,v2,v3] T fr):=
 block_setCell (block_setCell (block_setCell (block_setCell h v0) v1) v2) v3
theorem set4_other{w:World}{b:Nat}(v0 v1 v2 v3:Value){k:Nat}(h:k≠b):(set4 w b v0 v1 v2 v3).heap[k]? =w.heap[k]?:=by
 unfold set4;rw[Below.heap_setCell _ _ _ _ h,Below.heap_setCell _ _ _ _ h,Below.heap_setCell _ _ _ _ h,Below.heap_setCell _ _ _ _ h]
theorem set4_below{B:Nat}{w0 w:World}(hb:Below B w0 w){b:Nat}(h:B≤b)(v0 v1 v2 v3:Value):Below B w0 (set4 w b v0 v1 v2 v3):=
 (((hb.setCell (p:=⟨b,0,none⟩) h _).setCell (p:=⟨b,1,none⟩) h _).setCell (p:=⟨b,2,none⟩) h _).setCell (p:=⟨b,3,none⟩) h _
def be8(n:Nat):List UInt8:=[UInt8.ofNat (n / 72057594037927936%256),UInt8.ofNat (n / 281474976710656%256),UInt8.ofNat (n / 1099511627776%256),UInt8.ofNat (n / 4294967296%256),
 UInt8.ofNat (n / 16777216%256),UInt8.ofNat (n / 65536%256),UInt8.ofNat (n / 256%256),UInt8.ofNat (n%256)]
theorem be8_trim(n:Nat)(h:n<18446744073709551616):trimZ (be8 n)=encN n:=by
 rw[trimZ_eq];congr 1;simp only[be8,bnat,List.foldl_cons,List.foldl_nil,ofNat_mod_toNat];omega
theorem be8_at(w:World)(n:Nat)(T:TypeId):BytesAt (w.alloc (.cells #[.int .u8 ((n:Int) / 72057594037927936%256),.int .u8 ((n:Int) / 281474976710656%256),.int .u8 ((n:Int) / 1099511627776%256),
 .int .u8 ((n:Int) / 4294967296%256),.int .u8 ((n:Int) / 16777216%256),.int .u8 ((n:Int) / 65536%256),.int .u8 ((n:Int) / 256%256),.int .u8 ((n:Int)%256)] T)) (some ⟨w.heap.size,0,none⟩) 8 8 (be8 n):=by
 refine⟨rfl,by omega,by omega,fun _=>⟨_,_,rfl,fun k hk=>?_⟩⟩;have e:∀ m:Nat,((UInt8.ofNat (m%256)).toNat:Int)=(m:Int)%256:=fun m=>by rw[ofNat_mod_toNat];omega
 rw[Nat.zero_add,World.cell?_alloc_at (hn:=rfl)]
 match k,hk with
 | 0,_=>exact congrArg (fun x=>some (Value.int .u8 x)) (e _).symm
 | 1,_=>exact congrArg (fun x=>some (Value.int .u8 x)) (e _).symm
 | 2,_=>exact congrArg (fun x=>some (Value.int .u8 x)) (e _).symm
 | 3,_=>exact congrArg (fun x=>some (Value.int .u8 x)) (e _).symm
 | 4,_=>exact congrArg (fun x=>some (Value.int .u8 x)) (e _).symm
 | 5,_=>exact congrArg (fun x=>some (Value.int .u8 x)) (e _).symm
 | 6,_=>exact congrArg (fun x=>some (Value.int .u8 x)) (e _).symm
 | 7,_=>exact congrArg (fun x=>some (Value.int .u8 x)) (e _).symm
theorem be8_at2(w:World)(n:Nat)(T:TypeId):BytesAt (w.alloc (.cells #[.int .u8 ((n:Int) / 256 / 256 / 256 / 256 / 256 / 256 / 256%256),.int .u8 ((n:Int) / 256 / 256 / 256 / 256 / 256 / 256%256),.int .u8 ((n:Int) / 256 / 256 / 256 / 256 / 256%256),
 .int .u8 ((n:Int) / 256 / 256 / 256 / 256%256),.int .u8 ((n:Int) / 256 / 256 / 256%256),.int .u8 ((n:Int) / 256 / 256%256),.int .u8 ((n:Int) / 256%256),.int .u8 ((n:Int)%256)] T)) (some ⟨w.heap.size,0,none⟩) 8 8 (be8 n):=by
 have h:=be8_at w n T;rw[show (n:Int) / 256 / 256 / 256 / 256 / 256 / 256 / 256=(n:Int) / 72057594037927936 from by omega,show (n:Int) / 256 / 256 / 256 / 256 / 256 / 256=(n:Int) / 281474976710656 from by omega,
  show (n:Int) / 256 / 256 / 256 / 256 / 256=(n:Int) / 1099511627776 from by omega,show (n:Int) / 256 / 256 / 256 / 256=(n:Int) / 4294967296 from by omega,
  show (n:Int) / 256 / 256 / 256=(n:Int) / 16777216 from by omega,show (n:Int) / 256 / 256=(n:Int) / 65536 from by omega]
 exact h
theorem ret_int{k:IntKind}{a b:Int}(h:a=b):Ending.returned (.int k a)=.returned (.int k b):=by rw[h]
set_option maxRecDepth 100000
set_option maxHeartbeats 2000000
theorem bld_size:(Tryz.prog.info? 167).map (·.size)=some 2:=by kernel_rfl
theorem bld_lies:liesAt Tryz.prog Tryz.prog.depth 167 (2 / Tryz.prog.cellsOf 167) 0 167 1=true:=by kernel_rfl
theorem u8_infoB:(Tryz.prog.info? 5).map (fun i=>(i.zero,i.size,i.bytes))=some (some (.int .u8 0),1,1):=by kernel_rfl
theorem bld_check_used(b:Nat)(w:World)(h0:w.cell? ⟨b,0,none⟩=some (.pointer (some ⟨b,0,none⟩))) :
 Calls Tryz.prog 182 #[.pointer (some ⟨b,0,none⟩)] w fun e w'=>e=.returned (.tuple #[])∧w=w':=by
 obtain⟨j,hj,_⟩:=Option.map_eq_some_iff.1 bld_size;have hne:=Lib.run_neq_ptr_same (P:=Tryz.prog) w ⟨b,0,none⟩ Tryz.underlying165 hj;go_enter Tryz.func182,Tryz.ntmps182;go_wp2;go_end0;exact⟨rfl,rfl⟩
theorem bld_check_fresh(b:Nat)(w:World)(h0:w.cell? ⟨b,0,none⟩=some (.pointer none))(hsh:w.shape? b=some (167,2))(hfz:w.frozen? ⟨b,0,none⟩=false) :
 Calls Tryz.prog 182 #[.pointer (some ⟨b,0,none⟩)] w fun e w'=>e=.returned (.tuple #[])∧w.setCell ⟨b,0,none⟩ (.pointer (some ⟨b,0,none⟩))=w':=by
 obtain⟨j,hj,hjs⟩:=Option.map_eq_some_iff.1 bld_size;go_enter Tryz.func182,Tryz.ntmps182;go_wp2;rw[Lib.run_to_unsafe w ⟨b,0,none⟩ Tryz.underlying165 Tryz.underlying235 hj (by rw[hjs];decide) hsh (Nat.zero_lt_succ 1)];simp only[Result.andThen];rw[Oper.upon_value];go_wp2;rw[run_callFunc_extern Tryz.func213 (by kernel_rfl) (by kernel_rfl) (by kernel_rfl) (e:=Extern.AbiNoEscape.same) (by kernel_rfl)];rw[Lib.run_noEscape];simp only[Result.andThen];rw[Oper.upon_value];go_wp2;rw[Lib.run_from_unsafe w ⟨b,0,none⟩ Tryz.underlying235 Tryz.underlying165 hj hsh bld_lies];simp only[Result.andThen];rw[Oper.upon_value];go_wp2;go_end0;exact⟨rfl,rfl⟩
theorem bld_check(B b:Nat)(bs:List Value)(w:World)(h:Lib.IsBuilder 167 5 B b bs w) :
 Calls Tryz.prog 182 #[.pointer (some ⟨b,0,none⟩)] w fun e w'=>e=.returned (.tuple #[])∧(Lib.BuilderAt 167 5 B b (.pointer (some ⟨b,0,none⟩)) bs w'∧Below B w w'):=by
 rcases h with h | h
 · refine(bld_check_fresh b w h.cell0 h.shape h.frozen0).mono ?_;rintro e w' ⟨rfl,rfl⟩;exact⟨rfl,h.used _,(Below.refl B w).setCell (p:=⟨b,0,none⟩) h.1 _⟩
 · refine(bld_check_used b w h.cell0).mono ?_;rintro e w' ⟨rfl,rfl⟩;exact⟨rfl,h,Below.refl B _⟩
theorem bld_WriteString(B b:Nat)(bs:List Value)(s:ByteArray)(w:World)(h:Lib.IsBuilder 167 5 B b bs w)(hlen:bs.length+s.size≤140737488355328)(hBw:B≤w.heap.size) :
 Calls Tryz.prog 126 #[.pointer (some ⟨b,0,none⟩),.string s] w fun e w'=>e=.returned (.tuple #[.int .i64 s.size,.nilIface]) ∧
  (Lib.IsBuilder 167 5 B b (bs++Lib.strCells s) w'∧Below B w w'):=by
 obtain⟨i0,hi,hz0,hz1,hz2⟩:=info_parts u8_infoB;go_enter Tryz.func126,Tryz.ntmps126;go_wp2_with fail;refine(bld_check B b bs _ h).mono ?_;rintro e w1 ⟨rfl,h1,hb1⟩;obtain⟨hB,v,hbk,hown,hne⟩:=h1;have c0:w1.cell? ⟨b,0,none⟩=some (.pointer (some ⟨b,0,none⟩)):=by rw[Lib.cell_of_heap hbk];rfl
 have c1:w1.cell? ⟨b,1,none⟩=some v:=by rw[Lib.cell_of_heap hbk];rfl
 go_wp2_with (at_builtin;refine Lib.wpList_append_own_string _ rfl _ _ 127 9 rfl B 5 i0 Tryz.underlying127 Tryz.underlying9 hi hz0 hz1 hz2 _ _ _ rfl hown s rfl ?c3 ?c4 ?c5 ?_);case c3=>unfold maxLen;omega
 case c4=>omega
 case c5=>have:=hb1.size;omega
 intro v' w2 hown' hgrow _;have hlt:b<w1.heap.size:=by
  rcases Nat.lt_or_ge b w1.heap.size with h' | h'
  · exact h'
  · rw[Array.getElem?_eq_none h']at hbk;cases hbk
 have hb2:w2.heap[b]? =some (.cells #[.pointer (some ⟨b,0,none⟩),v] 167 (0,0)):=(by rw[hgrow.block b hlt (fun e=>hne e.symm)];exact hbk);have d0:w2.cell? ⟨b,0,none⟩=some (.pointer (some ⟨b,0,none⟩)):=by rw[Lib.cell_of_heap hb2];rfl
 have d1:w2.cell? ⟨b,1,none⟩=some v:=by rw[Lib.cell_of_heap hb2];rfl
 have f1:w2.frozen? ⟨b,1,none⟩=false:=Lib.frozen_of_heap hb2 1;obtain⟨ao,n',cap,rfl⟩:∃ ao n' cap,v'=.slice ao n' cap:=by
  rcases hown'.2 with⟨hv,_⟩ | ⟨g,cap,cur,hv,_⟩
  · exact⟨_,_,_,hv⟩
  · exact⟨_,_,_,hv⟩
 go_wp2;go_ret2;refine⟨rfl,.inr ?_,?_⟩
 · exact Lib.BuilderAt.put hB hb2 (bs':=bs++Lib.strCells s) (by simpa[Lib.strCells_length]using hown') (by decide)
 · exact(hb1.grown hgrow (by have:=hb1.size;omega) (fun k hk=>(hown.lt k hk).1)).setCell (p:=⟨b,1,none⟩) hB _
theorem u8_cells:Tryz.prog.cellsOf 5=1:=by kernel_rfl
theorem bld_kept{B b:Nat}{bs:List Value}{w w':World}(h:Lib.IsBuilder 167 5 B b bs w)(hb:Below w.heap.size w w'):Lib.IsBuilder 167 5 B b bs w':=by
 rcases h with⟨h1,v,h2,h3,h4⟩ | ⟨h1,v,h2,h3,h4⟩
 · exact .inl ⟨h1,v,block_kept hb nlr h2,owns_kept h3 hb nlr,h4⟩
 · exact .inr ⟨h1,v,block_kept hb nlr h2,owns_kept h3 hb nlr,h4⟩
theorem bld_drew{B b:Nat}{bs:List Value}{w:World}(h:Lib.IsBuilder 167 5 B b bs w):Lib.IsBuilder 167 5 B b bs w.drew:=bld_kept h (blr).drew
theorem bld_String(B b:Nat)(l:List UInt8)(w:World)(h:Lib.IsBuilder 167 5 B b (Lib.byteCells l) w)(hBw:B≤w.heap.size) :
 Calls Tryz.prog 129 #[.pointer (some ⟨b,0,none⟩)] w fun e w'=>e=.returned (.string (bstr l))∧KeepB B w w':=by
 obtain⟨p,hB,v,hbk,hown,hne⟩:∃ p,Lib.BuilderAt 167 5 B b p (Lib.byteCells l) w:=by
  rcases h with h | h
  · exact⟨_,h⟩
  · exact⟨_,h⟩
 clear h;have hlt:b<w.heap.size:=block_lt hbk;rw[Lib.byteCells_length]at hown;by_cases h0:l=[]
 · subst h0;have hUS:∀(W:World) (q:Option Addr),(Builtin.unsafeString_ #[215,3] 9 #[.pointer q,.int .i64 0]).run Tryz.prog W=.ok (.string .empty) W:=fun W q=>Lib.run_unsafeString_none W _ _ _ q;rcases hown.2 with⟨rfl,_⟩ | ⟨g,cap,cur,rfl,hbg,hg,_,_,_,_⟩
   · have c1:w.drew.cell? ⟨b,1,none⟩=some (.slice none 0 0):=(by rw[cell?_drew,Lib.cell_of_heap hbk];rfl);have hSD:(Builtin.unsafeSliceData_ #[127] 215 #[.slice none 0 0]).run Tryz.prog w.drew=.ok (.pointer none) w.drew:=rfl;clear hown hne hbk;go_enter Tryz.func129,Tryz.ntmps129;go_wp2;go_region;all_goals (go_wp2;go_ret;exact⟨rfl,(KeepB.refl B w).drew⟩)
   · by_cases hc0:cap=0
     · subst hc0;have c1:w.drew.cell? ⟨b,1,none⟩=some (.slice (some ⟨g,0,none⟩) 0 0):=by
        rw[cell?_drew,Lib.cell_of_heap hbk];rfl
       have hSD:(Builtin.unsafeSliceData_ #[127] 215 #[.slice (some ⟨g,0,none⟩) 0 0]).run Tryz.prog w.drew=.ok (.pointer (some ⟨w.drew.heap.size,0,none⟩)) (w.drew.alloc (.view ⟨g,0,none⟩ 5)):=
        Lib.run_unsafeSliceData_zero w.drew _ _ 5 Tryz.underlying215 ⟨g,0,none⟩ 0 (5,cur.size) (by have hg':w.drew.heap[g]? =some (.cells cur 5 (0,0)):=hg;simp[World.shape?,hg'])
       have c2:(w.drew.alloc (.view ⟨g,0,none⟩ 5)).cell? ⟨b,1,none⟩=some (.slice (some ⟨g,0,none⟩) 0 0):=(by have : (w.drew.alloc (.view ⟨g,0,none⟩ 5)).heap[b]? =_:=(Lib.alloc_old w.drew _ b hlt).trans hbk;rw[Lib.cell_of_heap this];rfl);have c3:(w.alloc (.view ⟨g,0,none⟩ 5)).drew.cell? ⟨b,1,none⟩=some (.slice (some ⟨g,0,none⟩) 0 0):=c2;have c0:w.cell? ⟨b,1,none⟩=some (.slice (some ⟨g,0,none⟩) 0 0):=c1;clear hown hne hbk;go_enter Tryz.func129,Tryz.ntmps129;go_wp2;go_region;all_goals (go_wp2;go_ret;exact⟨rfl,(KeepB.refl B w).drew.alloc hBw _⟩)
     · have c1:w.drew.cell? ⟨b,1,none⟩=some (.slice (some ⟨g,0,none⟩) 0 cap):=(by rw[cell?_drew,Lib.cell_of_heap hbk];rfl);have hSD:(Builtin.unsafeSliceData_ #[127] 215 #[.slice (some ⟨g,0,none⟩) 0 cap]).run Tryz.prog w.drew=.ok (.pointer (some ⟨g,0,none⟩)) w.drew:=
        Lib.run_unsafeSliceData_row _ _ _ _ _ _ hc0
       clear hown hne hbk hc0;go_enter Tryz.func129,Tryz.ntmps129;go_wp2;go_region;all_goals (go_wp2;go_ret;exact⟨rfl,(KeepB.refl B w).drew⟩)
 · have hl0:l.length≠0:=by simpa using h0
   obtain⟨g,cap,cur,rfl,hbg,hg,hnc,hcm,hcs,htake⟩:∃ g cap cur,v=.slice (some ⟨g,0,none⟩) l.length cap∧B≤g∧w.heap[g]? =some (.cells cur 5 (0,0))∧l.length≤cap∧cap≤maxLen∧cur.size=cap * 1∧cur.toList.take (l.length * 1)=Lib.byteCells l:=by
    rcases hown.2 with⟨_,hz⟩ | ⟨g,cap,cur,hv,r⟩
    · exact absurd hz hl0
    · exact⟨g,cap,cur,hv,r⟩
   have c1:w.drew.cell? ⟨b,1,none⟩=some (.slice (some ⟨g,0,none⟩) l.length cap):=(by rw[cell?_drew,Lib.cell_of_heap hbk];rfl);have hSD:(Builtin.unsafeSliceData_ #[127] 215 #[.slice (some ⟨g,0,none⟩) l.length cap]).run Tryz.prog w.drew=.ok (.pointer (some ⟨g,0,none⟩)) w.drew:=
    Lib.run_unsafeSliceData_row _ _ _ _ _ _ (by omega)
   have hUS:(Builtin.unsafeString_ #[215,3] 9 #[.pointer (some ⟨g,0,none⟩),.int .i64 l.length]).run Tryz.prog w.drew=.ok (.string (bstr l)) (w.drew.freeze ⟨g,0,none⟩ l.length):=(by refine Lib.run_unsafeString_row w.drew 215 3 9 5 Tryz.underlying215 u8_cells g cur.size (by have hg':w.drew.heap[g]? =some (.cells cur 5 (0,0)):=hg;simp[World.shape?,hg']) l h0 (by omega) (by unfold maxLen at hcm;omega) ?_;intro j x hx;exact hown.cells (g:=g) rfl j (.int .u8 x.toNat) (by simp[Lib.byteCells,hx]));clear hown hne hbk htake hcs h0;have hk:KeepB B w (w.drew.freeze ⟨g,0,none⟩ l.length):=⟨Lib.below_freeze (Below.drew (Below.refl B w)) (p:=⟨g,0,none⟩) hbg _,fun a v hc=>by rw[cell?_freeze];exact hc⟩;have HK:=Hq hk;clear hk;go_enter Tryz.func129,Tryz.ntmps129;go_wp2;go_region;all_goals (go_wp2;go_ret;exact⟨rfl,HK.out⟩)
theorem sqA{α:Type _}(l:List α)(i:Nat)(a:α):l.toArray.setIfInBounds i a=(l.set i a).toArray:=List.setIfInBounds_toArray _ _ _
theorem sqB{α:Type _}(a b:α)(l:List α):(a::l).set 0 b=b::l:=rfl
theorem sqC{α:Type _}(a b:α)(l:List α)(n:Nat):(a::l).set (n+1) b=a::l.set n b:=rfl
section
variable {P : Program} {ops : Array Oper} {Q : Exit → Act → World → Prop} {md : Region.Mode} {S : World → Prop} {k : Nat}
def Down(md:Region.Mode)(ops:Array Oper)(listed:Array Bool):Prop:=
 listed.size=ops.size∧∀ j o,ops[j]? =some o→listed.getD j false=true→∀ e∈o.after,Region.binds md e=true→listed.getD e.on false=true
theorem getD_repl_false(n j:Nat):(Array.replicate n false).getD j false=false:=by
 rw[Array.getD_eq_getD_getElem?,Array.getElem?_replicate];split<;>rfl
theorem Down.start:Down md ops (Array.replicate ops.size false):=by
 refine⟨Array.size_replicate,fun j o _ h=>?_⟩;rw[getD_repl_false]at h;cases h
theorem Down.beyond{listed:Array Bool}(h:Down md ops listed){j:Nat}(hj:ops.size≤j):listed.getD j false=false:=by
 rw[Array.getD_eq_getD_getElem?,Array.getElem?_eq_none (by rw[h.1];exact hj)];rfl
theorem getD_agree{listed:Array Bool}{j:Nat}(h:listed.getD j true=false):listed.getD j false=false:=by
 rw[Array.getD_eq_getD_getElem?]at *
 cases e:listed[j]? with
 | none=>rfl
 | some b=>rw[e]at h;exact h
theorem getD_set_self{listed:Array Bool}{i:Nat}(h:listed.getD i true=false):(listed.setIfInBounds i true).getD i false=true:=by
 rw[Array.getD_eq_getD_getElem?]at *;have hi:i<listed.size:=by
  rcases Nat.lt_or_ge i listed.size with h' | h'
  · exact h'
  · rw[Array.getElem?_eq_none h']at h;cases h
 rw[Array.getElem?_setIfInBounds_self];rw[if_pos hi];rfl
theorem Down.set{listed:Array Bool}(h:Down md ops listed){i:Nat}(hi:i∈Region.ready md ops listed):Down md ops (listed.setIfInBounds i true):=by
 refine⟨by rw[Array.size_setIfInBounds];exact h.1,fun j o hj hl e he hb=>?_⟩;by_cases hij:i=j
 · subst hij;obtain⟨_,o',ho',hall⟩:=mem_ready.1 hi;rw[hj]at ho';cases ho';exact getD_set_true (hall e he hb)
 · rw[getD_set_ne false hij]at hl;exact getD_set_true (h.2 j o hj hl e he hb)
def reachB(md:Region.Mode)(ops:Array Oper):Nat→Nat→Nat→Bool
 | 0,_,_=>false
 | n+1,k,i=>match ops[k]? with
  | none=>false
  | some o=>o.after.any fun e=>Region.binds md e&&(e.on==i||reachB md ops n e.on i)
theorem reachB_spec{listed:Array Bool}(h:Down md ops listed):∀(n k i:Nat),reachB md ops n k i=true→listed.getD k false=true→listed.getD i false=true
 | 0,_,_,hr,_=>by cases hr
 | n+1,k,i,hr,hk=>by
  unfold reachB at hr
  cases ho:ops[k]? with
  | none=>rw[ho]at hr;cases hr
  | some o =>
   rw[ho]at hr;simp only[Array.any_eq_true',Bool.and_eq_true,Bool.or_eq_true,beq_iff_eq]at hr;obtain⟨e,he,hb,h1 | h1⟩:=hr
   · rw[←h1];exact h.2 k o ho hk e he hb
   · exact reachB_spec h n e.on i h1 (h.2 k o ho hk e he hb)
def wpAnyK(P:Program)(md:Region.Mode)(ops:Array Oper)(Q:Exit→Act→World→Prop)(k:Nat)(S:World→Prop):Nat→Array Bool→Act→World→Prop
 | 0,listed,a,w=>Region.ready md ops listed=[]∧Q .normal a w
 | fuel+1,listed,a,w =>
  (Region.ready md ops listed=[]→Q .normal a w) ∧
  ∀ i∈Region.ready md ops listed,wpOp P ops Q i (fun a' w'=>((listed.setIfInBounds i true).getD k false=false→S w')∧wpAnyK P md ops Q k S fuel (listed.setIfInBounds i true) a' w') a w
theorem wpAny_of_K:∀(fuel:Nat) (listed:Array Bool) (a:Act) (w:World),wpAnyK P md ops Q k S fuel listed a w→wpAny P md ops Q fuel listed a w
 | 0,_,_,_,h=>h
 | fuel+1,_,_,_,h=>⟨h.1,fun i hi=>wpOp_mono (fun a' w' h'=>wpAny_of_K fuel _ a' w' h'.2) (h.2 i hi)⟩
theorem wpAnyK_first{i:Nat}{oi:Oper}{v:Value}{T:World→Prop}(hi:ops[i]? =some oi)(hsel:∀(j:Nat) (o:Oper) cs b,ops[j]? =some o→o.op≠.select cs b)
 (hT:∀(listed:Array Bool) (w:World),Down md ops listed→listed.getD i true=false→(listed.getD k false=false→S w)→T w) (hki:k≠i)
 (hQ:∀ c a w,Q (.panic c) (a.put oi.dst v) w→Q (.panic c) a w) :
 ∀(fuel:Nat) (listed:Array Bool) (a:Act) (w:World),Down md ops listed →
  (∀ j oj,ops[j]? =some oj→j≠i→listed.getD j true=false→(∀ e∈oj.after,Region.binds md e=true→e.on≠i)→oi.apart ops oj=true) →
  i∈Region.ready md ops listed→YieldsIf P ops T oi v a→(listed.getD k false=false→S w) →
  wpAnyK P md ops Q k S fuel (listed.setIfInBounds i true) (a.put oi.dst v) w→wpAnyK P md ops Q k S (fuel+1) listed a w:=by
 intro fuel
 induction fuel with
 | zero =>
  intro listed a w hD _ hr hy hS H;refine⟨fun h=>(by rw[h]at hr;cases hr),fun j hj=>?_⟩;have hTw:=hT listed w hD (mem_ready.1 hr).1 hS;by_cases hji:j=i
  · subst hji;exact hy.wpOp hi hTw ⟨fun h=>hS (by rw[getD_set_ne false (Ne.symm hki)]at h;exact h),H⟩
  · have:=ready_mono hj hji;rw[H.1]at this;cases this
 | succ fuel ih =>
  intro listed a w hD hfree hr hy hS H;refine⟨fun h=>(by rw[h]at hr;cases hr),fun j hj=>?_⟩;have hTw:=hT listed w hD (mem_ready.1 hr).1 hS;by_cases hji:j=i
  · subst hji;exact hy.wpOp hi hTw ⟨fun h=>hS (by rw[getD_set_ne false (Ne.symm hki)]at h;exact h),H⟩
  · have h1:=H.2 j (ready_mono hj hji);obtain⟨hjun,oj,hoj,hall⟩:=mem_ready.1 hj;have hnot:∀ e∈oj.after,Region.binds md e=true→e.on≠i:=fun e he hb heq=>by
     have h1:=hall e he hb;have h0:=getD_agree (mem_ready.1 hr).1;rw[heq,h0]at h1;cases h1
    have h2:=wpOp_putIf hoj (hfree j oj hoj hji hjun hnot) (fun cs b=>hsel i oi cs b hi) (fun cs b=>hsel j oj cs b hoj) hQ hy h1;have hfree':∀ m om,ops[m]? =some om→m≠i→(listed.setIfInBounds j true).getD m true=false →
     (∀ e∈om.after,Region.binds md e=true→e.on≠i)→oi.apart ops om=true:=fun m om hm hmi hun hno=>by
     refine hfree m om hm hmi ?_ hno;by_cases hjm:j=m
     · subst hjm;exact hjun
     · rw[getD_set_ne true hjm]at hun;exact hun
    refine wpOp_mono (fun a' w' h3=>?_) h2;have hS':(listed.setIfInBounds j true).getD k false=false→S w':=fun h=>h3.2.1 (by
     rw[Array.setIfInBounds_comm _ _ (Ne.symm hji),getD_set_ne false (Ne.symm hki)]
     exact h)
    refine⟨hS',ih (listed.setIfInBounds j true) a' w' (hD.set hj) hfree' (ready_mono hr (Ne.symm hji)) h3.1 hS' ?_⟩;rw[Array.setIfInBounds_comm _ _ hji];exact h3.2.2
def stepB(md:Region.Mode)(ops:Array Oper)(listed:Array Bool)(k i:Nat):Bool:=
 Region.noSelect ops&&Region.free md ops listed i&&(Region.ready md ops listed).contains i && !(k==i)
theorem stepB_spec{listed:Array Bool}{i:Nat}(h:stepB md ops listed k i=true):Region.noSelect ops=true∧Region.free md ops listed i=true∧i∈Region.ready md ops listed∧k≠i:=by
 simp only[stepB,Bool.and_eq_true,Bool.not_eq_true',beq_eq_false_iff_ne,List.contains_iff_mem]at h;exact⟨h.1.1.1,h.1.1.2,h.1.2,h.2⟩
theorem wpAnyK_take{i:Nat}{oi:Oper}{v:Value}{fuel:Nat}{listed:Array Bool}{a:Act}{w:World}(hi:ops[i]? =some oi)(hst:stepB md ops listed k i=true)(hre:reachB md ops ops.size k i=true)
 (hQ:∀ c a w,Q (.panic c) (a.put oi.dst v) w→Q (.panic c) a w) (hD:Down md ops listed) (hS:S w) (hy:YieldsIf P ops S oi v a)
 (h:Down md ops (listed.setIfInBounds i true)→wpAnyK P md ops Q k S fuel (listed.setIfInBounds i true) (a.put oi.dst v) w):wpAnyK P md ops Q k S (fuel+1) listed a w:=by
 obtain⟨hs,hf,hr',hki'⟩:=stepB_spec hst;refine wpAnyK_first (T:=S) hi (Region.noSelect_spec hs) (fun l w' hD' hl hS'=>hS' ?_) hki' hQ fuel listed a w hD (Region.free_spec hi hf) hr' hy (fun _=>hS) (h (hD.set hr'))
 cases hk:l.getD k false with
 | false=>rfl
 | true=>rw[←getD_agree hl];exact(reachB_spec hD' _ k i hre hk).symm
theorem wpAnyK_takeS{i:Nat}{oi:Oper}{v:Value}{fuel:Nat}{listed:Array Bool}{a:Act}{w:World}(hi:ops[i]? =some oi)(hst:stepB md ops listed k i=true)(hre:decide (ops.size≤k)=true)
 (hQ:∀ c a w,Q (.panic c) (a.put oi.dst v) w→Q (.panic c) a w) (hD:Down md ops listed) (hS:S w) (hy:YieldsIf P ops S oi v a)
 (h:Down md ops (listed.setIfInBounds i true)→wpAnyK P md ops Q k S fuel (listed.setIfInBounds i true) (a.put oi.dst v) w):wpAnyK P md ops Q k S (fuel+1) listed a w:=by
 obtain⟨hs,hf,hr',hki'⟩:=stepB_spec hst;exact wpAnyK_first (T:=S) hi (Region.noSelect_spec hs) (fun l w' hD' hl hS'=>hS' (hD'.beyond (of_decide_eq_true hre))) hki' hQ fuel listed a w hD (Region.free_spec hi hf) hr' hy (fun _=>hS) (h (hD.set hr'))
theorem wpAnyK_pure{i:Nat}{oi:Oper}{v:Value}{fuel:Nat}{listed:Array Bool}{a:Act}{w:World}(hi:ops[i]? =some oi)(hst:stepB md ops listed k i=true)
 (hQ:∀ c a w,Q (.panic c) (a.put oi.dst v) w→Q (.panic c) a w) (hD:Down md ops listed) (hS:S w) (hy:YieldsIf P ops (fun _=>True) oi v a)
 (h:Down md ops (listed.setIfInBounds i true)→wpAnyK P md ops Q k S fuel (listed.setIfInBounds i true) (a.put oi.dst v) w):wpAnyK P md ops Q k S (fuel+1) listed a w:=by
 obtain⟨hs,hf,hr',hki'⟩:=stepB_spec hst;exact wpAnyK_first (T:=fun _=>True) hi (Region.noSelect_spec hs) (fun _ _ _ _ _=>trivial) hki' hQ fuel listed a w hD (Region.free_spec hi hf) hr' hy (fun _=>hS) (h (hD.set hr'))
theorem wpAnyK_pureT{i:Nat}{oi:Oper}{v:Value}{fuel:Nat}{listed:Array Bool}{a:Act}{w:World}(hi:ops[i]? =some oi)(hst:stepB md ops listed k i=true)(hk:listed.getD k false=true)
 (hQ:∀ c a w,Q (.panic c) (a.put oi.dst v) w→Q (.panic c) a w) (hD:Down md ops listed) (hy:YieldsIf P ops (fun _=>True) oi v a)
 (h:Down md ops (listed.setIfInBounds i true)→wpAnyK P md ops Q k S fuel (listed.setIfInBounds i true) (a.put oi.dst v) w):wpAnyK P md ops Q k S (fuel+1) listed a w:=by
 obtain⟨hs,hf,hr',hki'⟩:=stepB_spec hst;exact wpAnyK_first (T:=fun _=>True) hi (Region.noSelect_spec hs) (fun _ _ _ _ _=>trivial) hki' hQ fuel listed a w hD (Region.free_spec hi hf) hr' hy (fun h0=>by rw[hk]at h0;cases h0) (h (hD.set hr'))
theorem wp_other_end{o:Oper}{a:Act}{w:World}{K:Act→World→Prop}{Q':Exit→Act→World→Prop}(hQ:∀ c a w,Q' (.panic c) a w→Q (.panic c) a w)(hO:LetsOut Q'→LetsOut Q)
 (h:o.wp P a w K Q'):o.wp P a w K Q:=by
 unfold Oper.wp at *;generalize (execOp a.eval o).run P w=r at *
 cases r with
 | ok n w' =>
  cases n<;>simp only[Oper.upon]at h⊢;case value u=>exact h
  case skip=>exact h
  case defer d=>exact h
  case enter f args =>
   refine Calls.mono h fun e w'' he=>?_
   cases e with
   | returned u=>exact he
   | panicked c=>exact hQ _ _ _ he
   | outgrown=>exact hO he
  case row row args=>exact h
 | halt x w' =>
  cases x<;>simp only[Oper.upon]at h⊢;case panic u=>exact hQ _ _ _ h
def EndK(K:Act→World→Prop)(Q:Exit→Act→World→Prop):Exit→Act→World→Prop
 | .normal,a,w=>K a w
 | e,a,w=>Q e a w
def StepK(P:Program)(md:Region.Mode)(ops:Array Oper)(Q:Exit→Act→World→Prop)(k:Nat)(S:World→Prop)(i:Nat)(oi:Oper)(fuel:Nat)(listed:Array Bool)(a:Act)(w:World):Prop:=
 ∀ K:Act→World→Prop,(∀ a' w',S w'→(S w'→Down md ops (listed.setIfInBounds i true)→wpAnyK P md ops Q k S fuel (listed.setIfInBounds i true) a' w')→K a' w')→wpList P ops (EndK K Q) [oi] a w
theorem step_of{i:Nat}{oi:Oper}{fuel:Nat}{listed:Array Bool}{a:Act}{w:World}(hi':i∈Region.ready md ops listed)(hi:ops[i]? =some oi)(hD:Down md ops listed)(R:World→Prop)(hR:∀ w',R w'→(listed.setIfInBounds i true).getD k false=false→S w')
 (h:∀ K:Act→World→Prop,(∀ a' w',R w'→(R w'→Down md ops (listed.setIfInBounds i true)→wpAnyK P md ops Q k S fuel (listed.setIfInBounds i true) a' w')→K a' w')→wpList P ops (EndK K Q) [oi] a w) :
 wpOp P ops Q i (fun a' w'=>((listed.setIfInBounds i true).getD k false=false→S w')∧wpAnyK P md ops Q k S fuel (listed.setIfInBounds i true) a' w') a w:=by
 have h1:=h (fun a' w'=>((listed.setIfInBounds i true).getD k false=false→S w')∧wpAnyK P md ops Q k S fuel (listed.setIfInBounds i true) a' w') (fun a' w' hS hh=>⟨hR w' hS,hh hS (hD.set hi')⟩);have hO:LetsOut (EndK (fun a' w'=>((listed.setIfInBounds i true).getD k false=false→S w')∧wpAnyK P md ops Q k S fuel (listed.setIfInBounds i true) a' w') Q)→LetsOut Q:=fun⟨a',w',hh⟩=>⟨a',w',hh⟩;unfold wpList at h1;unfold wpOp;simp only[hi];split
 · rename_i hw;rw[if_pos hw]at h1;rcases h1 with h1 | ⟨h2,h3⟩
   · exact .inl (wp_other_end (fun _ _ _ hh=>hh) hO h1)
   · exact .inr ⟨h2,hO h3⟩
 · rename_i hw;rw[if_neg hw]at h1;exact h1
theorem wpAnyK_oneT{i:Nat}{oi:Oper}{fuel:Nat}{listed:Array Bool}{a:Act}{w:World}(hr:Region.ready md ops listed=[i])(hi:ops[i]? =some oi)(hD:Down md ops listed)(hk:(listed.setIfInBounds i true).getD k false=true)
 (h:∀ K:Act→World→Prop,(∀ a' w',(Down md ops (listed.setIfInBounds i true)→wpAnyK P md ops Q k S fuel (listed.setIfInBounds i true) a' w')→K a' w')→wpList P ops (EndK K Q) [oi] a w):wpAnyK P md ops Q k S (fuel+1) listed a w:=by
 refine⟨fun h0=>(by rw[hr]at h0;cases h0),fun j hj=>?_⟩;have hi':i∈Region.ready md ops listed:=by rw[hr];exact List.mem_singleton.2 rfl
 rw[hr]at hj;obtain rfl:=List.mem_singleton.1 hj;exact step_of hi' hi hD (fun _=>True) (fun _ _ h0=>by rw[hk]at h0;cases h0) (fun K hK=>h K fun a' w' hh=>hK a' w' trivial fun _=>hh)
theorem wpAnyK_one{i:Nat}{oi:Oper}{fuel:Nat}{listed:Array Bool}{a:Act}{w:World}(hr:Region.ready md ops listed=[i])(hi:ops[i]? =some oi)(hD:Down md ops listed)
 (h:∀ K:Act→World→Prop,(∀ a' w',S w'→(S w'→Down md ops (listed.setIfInBounds i true)→wpAnyK P md ops Q k S fuel (listed.setIfInBounds i true) a' w')→K a' w')→wpList P ops (EndK K Q) [oi] a w):wpAnyK P md ops Q k S (fuel+1) listed a w:=by
 refine⟨fun h0=>(by rw[hr]at h0;cases h0),fun j hj=>?_⟩;have hi':i∈Region.ready md ops listed:=by rw[hr];exact List.mem_singleton.2 rfl
 rw[hr]at hj;obtain rfl:=List.mem_singleton.1 hj;exact step_of hi' hi hD S (fun _ h _=>h) h
theorem wpAnyK_two{i i':Nat}{oi oi':Oper}{fuel:Nat}{listed:Array Bool}{a:Act}{w:World}(hr:Region.ready md ops listed=[i,i'])(hi:ops[i]? =some oi)(hi':ops[i']? =some oi')(hD:Down md ops listed)
 (h:StepK P md ops Q k S i oi fuel listed a w) (h':StepK P md ops Q k S i' oi' fuel listed a w):wpAnyK P md ops Q k S (fuel+1) listed a w:=by
 refine⟨fun h0=>(by rw[hr]at h0;cases h0),fun j hj=>?_⟩;have hj':=hj;rw[hr]at hj;simp only[List.mem_cons,List.mem_nil_iff,or_false]at hj;rcases hj with rfl | rfl
 · exact step_of hj' hi hD S (fun _ h _=>h) h
 · exact step_of hj' hi' hD S (fun _ h _=>h) h'
theorem wpAnyK_three{i i' i'':Nat}{oi oi' oi'':Oper}{fuel:Nat}{listed:Array Bool}{a:Act}{w:World}(hr:Region.ready md ops listed=[i,i',i''])(hi:ops[i]? =some oi)(hi':ops[i']? =some oi')(hi'':ops[i'']? =some oi'')(hD:Down md ops listed)
 (h:StepK P md ops Q k S i oi fuel listed a w) (h':StepK P md ops Q k S i' oi' fuel listed a w) (h'':StepK P md ops Q k S i'' oi'' fuel listed a w):wpAnyK P md ops Q k S (fuel+1) listed a w:=by
 refine⟨fun h0=>(by rw[hr]at h0;cases h0),fun j hj=>?_⟩;have hj':=hj;rw[hr]at hj;simp only[List.mem_cons,List.mem_nil_iff,or_false]at hj;rcases hj with rfl | rfl | rfl
 · exact step_of hj' hi hD S (fun _ h _=>h) h
 · exact step_of hj' hi' hD S (fun _ h _=>h) h'
 · exact step_of hj' hi'' hD S (fun _ h _=>h) h''
theorem wpAnyK_done{listed:Array Bool}{a:Act}{w:World}(hr:Region.ready md ops listed=[])(h:Q .normal a w) :
 ∀ fuel,wpAnyK P md ops Q k S fuel listed a w
 | 0=>⟨hr,h⟩
 | _+1=>⟨fun _=>h,by rw[hr];simp⟩
theorem wpD{listed:Array Bool}{a:Act}{w:World}(h:Q .normal a w)(hr:Region.ready md ops listed=[]:=by kernel_rfl):wpAnyK P md ops Q k S 0 listed a w:=wpAnyK_done hr h 0
theorem wp_region_K(k:Nat)(S:World→Prop){id:Nat}{a:Act}{w:World}(hm:P.follows .mixedOrders=true)
 (h:Down .any ops (Array.replicate ops.size false)→wpAnyK P .any ops Q k S ops.size (Array.replicate ops.size false) a w.drew):(Code.region id ops true).wp P Q a w:=
 wp_region_any hm (wpAny_of_K _ _ _ _ (h Down.start))
end
section
variable {P : Program} {ops : Array Oper} {Q : Exit → Act → World → Prop} {md : Region.Mode} {S : World → Prop} {k : Nat}
theorem qP{oi:Oper}{v:Value}{listed:Array Bool}{a:Act}{w:World}(i fuel:Nat)(hi:ops[i]? =some oi)(hD:Down md ops listed)(hS:S w)(h:Down md ops (listed.setIfInBounds i true)→wpAnyK P md ops Q k S fuel (listed.setIfInBounds i true) (a.put oi.dst v) w)(hy:∀ w',True→(execOp a.eval oi).run P w'=.ok (.value v) w':=by intro w' _;go_simp;with_reducible rfl)(hst:stepB md ops listed k i=true:=by kernel_rfl)(hg:Region.wanted oi (yielded ops a.tmps)=true:=by kernel_rfl)(hQ:∀ c a w,Q (.panic c) (a.put oi.dst v) w→Q (.panic c) a w:=by exact fun _ _ _ h=>h):wpAnyK P md ops Q k S (fuel+1) listed a w:=wpAnyK_pure hi hst hQ hD hS (.inl ⟨hg,hy⟩) h
theorem qT{oi:Oper}{v:Value}{listed:Array Bool}{a:Act}{w:World}(i fuel:Nat)(hi:ops[i]? =some oi)(hD:Down md ops listed)(hS:S w)(hy:∀ w',S w'→(execOp a.eval oi).run P w'=.ok (.value v) w')(h:Down md ops (listed.setIfInBounds i true)→wpAnyK P md ops Q k S fuel (listed.setIfInBounds i true) (a.put oi.dst v) w)(hst:stepB md ops listed k i=true:=by kernel_rfl)(hre:reachB md ops ops.size k i=true:=by kernel_rfl)(hg:Region.wanted oi (yielded ops a.tmps)=true:=by kernel_rfl)(hQ:∀ c a w,Q (.panic c) (a.put oi.dst v) w→Q (.panic c) a w:=by exact fun _ _ _ h=>h):wpAnyK P md ops Q k S (fuel+1) listed a w:=wpAnyK_take hi hst hre hQ hD hS (.inl ⟨hg,hy⟩) h
theorem qS{oi:Oper}{v:Value}{listed:Array Bool}{a:Act}{w:World}(i fuel:Nat)(hi:ops[i]? =some oi)(hD:Down md ops listed)(hS:S w)(hy:∀ w',S w'→(execOp a.eval oi).run P w'=.ok (.value v) w')(h:Down md ops (listed.setIfInBounds i true)→wpAnyK P md ops Q k S fuel (listed.setIfInBounds i true) (a.put oi.dst v) w)(hst:stepB md ops listed k i=true:=by kernel_rfl)(hre:decide (ops.size≤k)=true:=by kernel_rfl)(hg:Region.wanted oi (yielded ops a.tmps)=true:=by kernel_rfl)(hQ:∀ c a w,Q (.panic c) (a.put oi.dst v) w→Q (.panic c) a w:=by exact fun _ _ _ h=>h):wpAnyK P md ops Q k S (fuel+1) listed a w:=wpAnyK_takeS hi hst hre hQ hD hS (.inl ⟨hg,hy⟩) h
end
end Go.Proofs.YtopmeciihijgiaaGreatDoor

import Derived.Lib.Hide
import Derived.WalkSpells
import Derived.WalkLawsBesides
set_option linter.unusedVariables false
set_option linter.unusedSimpArgs false
namespace Go.Proofs.YtdhnkmbjogmmkaaGreatDoor
theorem Hq{p:Prop}(h:p):Go.RowKit.Hid p:=h
open Go.RowKit in
theorem blr{B:Nat}{w:World}:Below B w w:=Below.refl B w
theorem nlr{n:Nat}:n≤n:=Nat.le_refl n
def bnat(l:List UInt8):Nat:=l.foldl (fun n b=>n * 256+b.toNat) 0
def encF:Nat→Nat→List UInt8
 | 0,_=>[]
 | k+1,n=>if n=0 then []else encF k (n / 256)++[UInt8.ofNat (n%256)]
def encN(n:Nat):List UInt8:=encF n n
def trimZ(l:List UInt8):List UInt8:=l.dropWhile (· == 0)
def canon(l:List UInt8):Prop:=l.head? ≠ some 0
theorem bnat_nil:bnat []=0:=rfl
theorem foldl_bnat(l:List UInt8)(a:Nat):l.foldl (fun n b=>n * 256+b.toNat) a=a * 256 ^ l.length+bnat l:=by
 induction l generalizing a with
 | nil=>simp[bnat]
 | cons x l ih =>
  have h1:=ih (a * 256+x.toNat);have h2:=ih (0 * 256+x.toNat);simp only[List.foldl_cons,bnat,List.length_cons]at *;rw[h1,h2];simp only[Nat.pow_succ];rw[Nat.add_mul,Nat.zero_mul,Nat.zero_add,Nat.mul_assoc,Nat.mul_comm 256,Nat.add_assoc]
theorem bnat_cons(x:UInt8)(l:List UInt8):bnat (x::l)=x.toNat * 256 ^ l.length+bnat l:=by
 have:=foldl_bnat l (0 * 256+x.toNat);simp only[bnat,List.foldl_cons]at *;rw[this];simp
theorem bnat_append(l m:List UInt8):bnat (l++m)=bnat l * 256 ^ m.length+bnat m:=by
 have:=foldl_bnat m (bnat l);rw[←this];simp[bnat,List.foldl_append]
theorem bnat_snoc(l:List UInt8)(x:UInt8):bnat (l++[x])=bnat l * 256+x.toNat:=by
 rw[bnat_append];simp[bnat]
theorem bnat_lt(l:List UInt8):bnat l<256 ^ l.length:=by
 induction l with
 | nil=>simp[bnat]
 | cons x l ih =>
  rw[bnat_cons,List.length_cons,Nat.pow_succ];have hx:=x.toNat_lt;have : x.toNat * 256 ^ l.length+256 ^ l.length≤256 * 256 ^ l.length:=by
   rw[←Nat.succ_mul];exact Nat.mul_le_mul_right _ (by omega)
  rw[Nat.mul_comm (256 ^ l.length)];omega
theorem bnat_ge(x:UInt8)(l:List UInt8)(hx:x≠0):256 ^ l.length≤bnat (x::l):=by
 rw[bnat_cons];have : 1≤x.toNat:=by
  rcases Nat.eq_zero_or_pos x.toNat with h | h
  · exact absurd (UInt8.toNat_inj.1 (by simpa using h)) hx
  · exact h
 have:=Nat.mul_le_mul_right (256 ^ l.length) this;omega
theorem trimZ_canon(l:List UInt8):canon (trimZ l):=by
 induction l with
 | nil=>simp[trimZ,canon]
 | cons x l ih =>
  unfold trimZ at *;rw[List.dropWhile_cons];by_cases h:(x==0)=true
  · rw[if_pos h];exact ih
  · rw[if_neg h];simpa[canon]using h
theorem bnat_trimZ(l:List UInt8):bnat (trimZ l)=bnat l:=by
 induction l with
 | nil=>rfl
 | cons x l ih =>
  unfold trimZ at *;rw[List.dropWhile_cons];by_cases h:(x==0)=true
  · rw[if_pos h,ih,bnat_cons];have : x=0:=by simpa using h
    subst this;simp
  · rw[if_neg h]
theorem trimZ_of_canon{l:List UInt8}(h:canon l):trimZ l=l:=by
 cases l with
 | nil=>rfl
 | cons x l =>
  unfold trimZ canon at *;rw[List.dropWhile_cons,if_neg];simpa using h
theorem canon_nil:canon []:=by simp[canon]
theorem canon_cons{x:UInt8}{l:List UInt8}:canon (x::l)↔x≠0:=by simp[canon]
theorem ofNat_mod_toNat(n:Nat):(UInt8.ofNat (n%256)).toNat=n%256:=by
 simp[UInt8.toNat_ofNat']
theorem encF_bnat(k n:Nat)(h:n≤k):bnat (encF k n)=n:=by
 induction k generalizing n with
 | zero => have : n = 0 := by omega
           subst this;rfl
 | succ k ih =>
  unfold encF;by_cases h0:n=0
  · rw[if_pos h0,h0];rfl
  · rw[if_neg h0,bnat_snoc,ih (n / 256) (by omega),ofNat_mod_toNat];omega
theorem encF_canon(k n:Nat)(h:n≤k):canon (encF k n):=by
 induction k generalizing n with
 | zero=>exact canon_nil
 | succ k ih =>
  unfold encF;by_cases h0:n=0
  · rw[if_pos h0];exact canon_nil
  · rw[if_neg h0];by_cases h1:n / 256=0
    · have : encF k (n / 256)=[]:=by rw[h1];cases k<;>simp[encF]
      rw[this,List.nil_append,canon_cons];intro e;have:=congrArg UInt8.toNat e;rw[ofNat_mod_toNat]at this;simp at this;omega
    · have hc:=ih (n / 256) (by omega);have hb:=encF_bnat k (n / 256) (by omega)
      cases hl:encF k (n / 256)with
      | nil=>rw[hl]at hb;exact absurd hb.symm h1
      | cons x l=>rw[hl]at hc;exact canon_cons.2 (canon_cons.1 hc)
theorem bnat_encN(n:Nat):bnat (encN n)=n:=encF_bnat n n (Nat.le_refl n)
theorem canon_encN(n:Nat):canon (encN n):=encF_canon n n (Nat.le_refl n)
theorem canon_len_lt{a b:List UInt8}(hb:canon b)(h:a.length<b.length):bnat a<bnat b:=by
 cases b with
 | nil=>simp at h
 | cons x l =>
  have h1:=bnat_ge x l (canon_cons.1 hb);have h2:=bnat_lt a;have h3:256 ^ a.length≤256 ^ l.length:=Nat.pow_le_pow_right (by omega) (by simp at h;omega);omega
theorem bnat_inj_len{a b:List UInt8}(hl:a.length=b.length)(h:bnat a=bnat b):a=b:=by
 induction a generalizing b with
 | nil=>cases b with
  | nil=>rfl
  | cons y m=>simp at hl
 | cons x l ih=>cases b with
  | nil=>simp at hl
  | cons y m =>
   have hlm:l.length=m.length:=by simpa using hl
   rw[bnat_cons,bnat_cons,hlm]at h;have h1:=bnat_lt l;have h2:=bnat_lt m;rw[hlm]at h1;have hp:0<256 ^ m.length:=Nat.pow_pos (by omega);have hx:x.toNat=y.toNat:=by
    have e1:(x.toNat * 256 ^ m.length+bnat l) / 256 ^ m.length=x.toNat:=(by rw[Nat.add_comm,Nat.add_mul_div_right _ _ hp,Nat.div_eq_of_lt h1];omega);have e2:(y.toNat * 256 ^ m.length+bnat m) / 256 ^ m.length=y.toNat:=(by rw[Nat.add_comm,Nat.add_mul_div_right _ _ hp,Nat.div_eq_of_lt h2];omega);rw[←e1,h,e2]
   have hxy:x=y:=UInt8.toNat_inj.1 hx;subst hxy;rw[ih hlm (by omega)]
theorem canon_inj{a b:List UInt8}(ha:canon a)(hb:canon b)(h:bnat a=bnat b):a=b:=by
 rcases Nat.lt_trichotomy a.length b.length with hl | hl | hl
 · have:=canon_len_lt hb hl;omega
 · exact bnat_inj_len hl h
 · have:=canon_len_lt ha hl;omega
theorem encN_bnat{l:List UInt8}(h:canon l):encN (bnat l)=l:=canon_inj (canon_encN _) h (bnat_encN _)
theorem trimZ_eq(l:List UInt8):trimZ l=encN (bnat l):=by rw[←bnat_trimZ,encN_bnat (trimZ_canon l)]
theorem encN_eq_nil{n:Nat}:encN n=[]↔n=0:=⟨fun h=>by rw[←bnat_encN n,h];rfl,fun h=>by rw[h];rfl⟩
theorem encN_length_le{n k:Nat}:(encN n).length≤k↔n<256 ^ k:=by
 constructor
 · intro h;have:=bnat_lt (encN n);rw[bnat_encN]at this;exact Nat.lt_of_lt_of_le this (Nat.pow_le_pow_right (by omega) h)
 · intro h
   cases hl:encN n with
   | nil=>simp
   | cons x l =>
    have hc:=canon_encN n;rw[hl]at hc;have h1:=bnat_ge x l (canon_cons.1 hc);rw[←hl,bnat_encN]at h1;rcases Nat.lt_or_ge l.length k with h2 | h2
    · (simp only[List.length_cons];omega)
    · have:=Nat.pow_le_pow_right (show 0<256 by omega) h2;omega
theorem encN_length_mono{m n:Nat}(h:m≤n):(encN m).length≤(encN n).length:=
 encN_length_le.2 (Nat.lt_of_le_of_lt h (encN_length_le.1 nlr))
def cmpI(a b:Nat):Int:=if a<b then -1 else if b<a then 1 else 0
theorem bnat_lt_first{p a b:List UInt8}{x y:UInt8}(hl:a.length=b.length)(h:x.toNat<y.toNat):bnat (p++x::a)<bnat (p++y::b):=by
 rw[bnat_append,bnat_append,bnat_cons,bnat_cons,List.length_cons,List.length_cons,hl];have h1:=bnat_lt a;rw[hl]at h1;have h2:(x.toNat+1) * 256 ^ b.length≤y.toNat * 256 ^ b.length:=Nat.mul_le_mul_right _ h;rw[Nat.succ_mul]at h2;omega
theorem cmpI_lt{a b:Nat}(h:a<b):cmpI a b = -1:=by simp[cmpI,h]
theorem cmpI_gt{a b:Nat}(h:b<a):cmpI a b=1:=by simp[cmpI,h];omega
def ordL(a b:List UInt8):Int:=if a.length<b.length then -1 else if b.length<a.length then 1 else cmpI (bnat a) (bnat b)
theorem ordL_canon{a b:List UInt8}(ha:canon a)(hb:canon b):ordL a b=cmpI (bnat a) (bnat b):=by
 unfold ordL;split
 · rw[cmpI_lt (canon_len_lt hb ‹_›)]
 · split
   · rw[cmpI_gt (canon_len_lt ha ‹_›)]
   · rfl
theorem ordL_first{a b:List UInt8}{k:Nat}(hl:a.length=b.length)(hk:k<a.length)(he:a.take k=b.take k)(h:(a.getD k 0).toNat<(b.getD k 0).toNat) :
 ordL a b = -1∧ordL b a=1:=by
 have ea:a=b.take k++a.getD k 0::a.drop (k+1):=(by rw[←he,List.getD_eq_getElem?_getD,List.getElem?_eq_getElem hk,Option.getD_some,List.getElem_cons_drop,List.take_append_drop]);have eb:b=b.take k++b.getD k 0::b.drop (k+1):=(by rw[List.getD_eq_getElem?_getD,List.getElem?_eq_getElem (by omega),Option.getD_some,List.getElem_cons_drop,List.take_append_drop]);have hlt:bnat a<bnat b:=(by have:=bnat_lt_first (p:=b.take k) (a:=a.drop (k+1)) (b:=b.drop (k+1)) (by simp[hl]) h;rw[←ea,←eb]at this;exact this);constructor
 · unfold ordL;rw[if_neg (by omega),if_neg (by omega),cmpI_lt hlt]
 · unfold ordL;rw[if_neg (by omega),if_neg (by omega),cmpI_gt hlt]
theorem ordL_same{a b:List UInt8}(h:a=b):ordL a b=0:=by subst h;simp[ordL,cmpI]
open Go.RowKit
def Ret(v:Value)(w:World)(e:Ending)(w':World):Prop:=e=.returned v∧Below w.heap.size w w'
def RetQ(v:Value)(w:World)(e:Ending)(w':World):Prop:=e=.returned v∧w=w'
def sliceLen:Value→Nat | .slice _ n _=>n | _=>0
def byteI(l:List UInt8)(k:Nat):Int:=((l.getD k 0).toNat:Int)
def BytesAt(w:World)(A:Option Addr)(len cap:Nat)(bs:List UInt8):Prop:=
 bs.length=len∧len≤cap∧cap≤9223372036854775807∧(0<len→∃ b o,A=some ⟨b,o,none⟩∧∀ k,k<len→w.cell? ⟨b,o+k,none⟩=some (.int .u8 (byteI bs k)))
def bstr(l:List UInt8):ByteArray:=⟨l.toArray⟩
theorem bstr_size(l:List UInt8):(bstr l).size=l.length:=by simp[bstr,ByteArray.size]
theorem bstr_data(l:List UInt8):(bstr l).data.toList=l:=by simp[bstr]
theorem bstr_of(s:ByteArray):bstr s.data.toList=s:=by cases s;simp[bstr]
def nvalid(s:ByteArray):Bool:=decide (s.size≤128) && !(s.data.toList.head? ==some 0)
theorem nvalid_long{a:ByteArray}(h:¬ a.size≤128):nvalid a=false:=by simp[nvalid,h]
theorem data_nil{a:ByteArray}(h:a.size=0):a.data.toList=[]:=by
 rw[←List.length_eq_zero_iff,Array.length_toList];exact h
theorem data_len(a:ByteArray):a.data.toList.length=a.size:=Array.length_toList
theorem data_get(a:ByteArray)(k:Nat)(h:k<a.size):a.data.toList[k]? =some a[k]:=by
 have : k<a.data.toList.length:=by rw[Array.length_toList];exact h
 rw[List.getElem?_eq_getElem this];rfl
theorem data_getD(a:ByteArray)(k:Nat)(h:k<a.size):a.data.toList.getD k 0=a[k]:=by
 rw[List.getD_eq_getElem?_getD,data_get a k h];rfl
theorem sempty_true{a:ByteArray}(h:a.size=0):a.toList.isEmpty=true:=by rw[ByteArray.toList_eq,data_nil h];rfl
theorem sempty_false{a:ByteArray}(h:0<a.size):a.toList.isEmpty=false:=by
 rw[ByteArray.toList_eq]
 cases e:a.data.toList with
 | nil=>rw[←data_len,e]at h;simp at h
 | cons x l=>rfl
theorem byte_zero(a:ByteArray)(h:0<a.size):(a.data.toList.head? ==some 0)=((a[0].toNat:Int)==0):=by
 have e:a.data.toList.head? =some a[0]:=by rw[List.head?_eq_getElem?];exact data_get a 0 h
 rw[e,Bool.eq_iff_iff];simp only[beq_iff_eq,Option.some.injEq];constructor
 · intro h;rw[h];rfl
 · intro h;exact UInt8.toNat_inj.1 (by simpa using h)
theorem nvalid_nil{a:ByteArray}(h:a.size=0):nvalid a=true:=by simp[nvalid,data_nil h,h]
theorem nvalid_some{a:ByteArray}(h:a.size≤128)(h0:0<a.size):nvalid a=((a[0].toNat:Int) != 0):=by
 simp[nvalid,h,byte_zero a h0,bne]
theorem byteI_zero{l:List UInt8}{k:Nat}:byteI l k=0↔l.getD k 0=0:=by
 unfold byteI;constructor
 · intro h;exact UInt8.toNat_inj.1 (by simpa using h)
 · intro h;rw[h];rfl
theorem trimZ_zero{l:List UInt8}(h0:0<l.length)(h:byteI l 0=0):trimZ l=trimZ (l.drop 1):=by
 cases l with
 | nil=>simp at h0
 | cons x l =>
  have : x=0:=byteI_zero.1 h;subst this;simp[trimZ]
theorem trimZ_stop{l:List UInt8}(h:l.length=0∨byteI l 0≠0):trimZ l=l:=by
 apply trimZ_of_canon;rcases h with h | h
 · rw[List.length_eq_zero_iff.1 h];exact canon_nil
 · cases l with
   | nil=>exact canon_nil
   | cons x l=>exact canon_cons.2 fun e=>h (byteI_zero.2 e)
theorem BytesAt.conv{P:Program}{w:World}{A:Option Addr}{len cap:Nat}{bs:List UInt8}(h:BytesAt w A len cap bs)(src dst e:TypeId)
 (hs:P.underlying src=some (.slice e)) (he:P.underlying e=some (.int .u8)) (hd:P.underlying dst=some .string) :
 (convert src dst (.slice A len cap)).run P w=.ok (.string (bstr bs)) w:=by
 obtain⟨hl,_,_,hc⟩:=h;rcases Nat.eq_zero_or_pos len with h0 | h0
 · subst h0;have hb:bs=[]:=List.length_eq_zero_iff.1 hl;subst hb
   cases A with
   | none=>rw[run_convert_bytes_nil w src e hs he 0 cap dst hd];rfl
   | some a =>
    rw[run_convert_bytes_string w src dst e _ 0 cap hs he hd,run_bytesToString w a 0 cap [] (by simpa using run_loadCells_list (P:=P) w a [] (by intro j v hj;simp at hj))];rfl
 · obtain⟨b,o,rfl,hcell⟩:=hc h0;have hz:∀ i,i<len→w.cell? ⟨b,o+i,none⟩=some (.int .u8 ((bs.map fun x=>(x.toNat:Int)).getD i 0)):=by
    intro i hi;rw[hcell i hi];have : i<bs.length:=by omega
    simp[byteI,List.getElem?_eq_getElem this]
   rw[run_convert_bytes_arg w src e hs he b o len cap (bs.map fun x=>(x.toNat:Int)) (by simp[hl]) hz dst hd];have e1:strOfNums (bs.map fun x=>(x.toNat:Int))=bstr bs:=by
    unfold strOfNums bstr;rw[List.map_map];congr 2
    conv=>rhs;rw[←List.map_id bs]
    apply List.map_congr_left;intro x _;simp
   rw[e1]
theorem BytesAt.from{w:World}{b o len cap:Nat}{bs:List UInt8}(h:BytesAt w (some ⟨b,o,none⟩) len cap bs)(k:Nat)(hk:k≤len) :
 BytesAt w (if cap=k then some ⟨b,o,none⟩else some ⟨b,o+k,none⟩) (len - k) (cap - k) (bs.drop k):=by
 obtain⟨hl,hc,hm,hcell⟩:=h;refine⟨by simp[hl],by omega,by omega,fun h1=>?_⟩;obtain⟨b',o',e,hcell⟩:=hcell (by omega);simp only[Option.some.injEq,Addr.mk.injEq,and_true]at e;obtain⟨rfl,rfl⟩:=e;rw[if_neg (by omega)];refine⟨b,o+k,rfl,fun j hj=>?_⟩;have:=hcell (k+j) (by omega);rw[show o+k+j=o+(k+j)from by omega,this];simp[byteI]
theorem BytesAt.tail{w:World}{b o len cap:Nat}{bs:List UInt8}(h:BytesAt w (some ⟨b,o,none⟩) len cap bs)(h0:0<len) :
 BytesAt w (if cap=1 then some ⟨b,o,none⟩else some ⟨b,o+1,none⟩) (len - 1) (cap - 1) (bs.drop 1):=h.from 1 h0
theorem byteI_drop(l:List UInt8)(k j:Nat):byteI (l.drop k) j=byteI l (k+j):=by simp[byteI]
theorem trimZ_drop{l:List UInt8}{k:Nat}(h:k<l.length)(hz:byteI l k=0):trimZ (l.drop k)=trimZ (l.drop (k+1)):=by
 rw[trimZ_zero (by simp;omega) (by rw[byteI_drop];exact hz),List.drop_drop]
theorem cell_kept{B:Nat}{w w':World}(hb:Below B w w')(hB:w.heap.size≤B){a:Addr}{v:Value}(h:w.cell? a=some v):w'.cell? a=some v:=by
 rw[hb.cell (Nat.lt_of_lt_of_le (World.block_lt_of_cell? w a h) hB)];exact h
theorem kc{w w':World}(h:Below w.heap.size w w'){a:Addr}{v:Value}(c:w.cell? a=some v):w'.cell? a=some v:=cell_kept h nlr c
theorem block_lt{w:World}{k:Nat}{o:Obj}(h:w.heap[k]? =some o):k<w.heap.size:=by
 rcases Nat.lt_or_ge k w.heap.size with h' | h'
 · exact h'
 · rw[Array.getElem?_eq_none h']at h;cases h
theorem block_kept{B:Nat}{w w':World}(hb:Below B w w')(hB:w.heap.size≤B){k:Nat}{o:Obj}(h:w.heap[k]? =some o):w'.heap[k]? =some o:=by
 rw[hb.block k (Nat.lt_of_lt_of_le (block_lt h) hB)];exact h
theorem owns_kept{base:Nat}{e:TypeId}{size:Nat}{v:Value}{n:Nat}{xs:List Value}{B:Nat}{w w':World}(h:w.ownsRow base e size v n xs)(hb:Below B w w')(hB:w.heap.size≤B):w'.ownsRow base e size v n xs:=by
 obtain⟨h1,h2⟩:=h;refine⟨h1,?_⟩;rcases h2 with h2 | ⟨g,cap,cur,hv,hbg,hh,r⟩
 · exact .inl h2
 · exact .inr ⟨g,cap,cur,hv,hbg,block_kept hb hB hh,r⟩
theorem block_setCell{w:World}{b j:Nat}{cs:Array Value}{T:TypeId}{fr:Nat×Nat}(h:w.heap[b]? =some (.cells cs T fr))(u:Value):(w.setCell ⟨b,j,none⟩ u).heap[b]? =some (.cells (cs.setIfInBounds j u) T fr):=by
 simp[World.setCell,Array.getElem?_modify,h]
def set4(w:World)(b:Nat)(v0 v1 v2 v3:Value):World:=(((w.setCell ⟨b,0,none⟩ v0).setCell ⟨b,1,none⟩ v1).setCell ⟨b,2,none⟩ v2).setCell ⟨b,3,none⟩ v3
def be8(n:Nat):List UInt8:=[UInt8.ofNat (n / 72057594037927936%256),UInt8.ofNat (n / 281474976710656%256),UInt8.ofNat (n / 1099511627776%256),UInt8.ofNat (n / 4294967296%256),
 UInt8.ofNat (n / 16777216%256),UInt8.ofNat (n / 65536%256),UInt8.ofNat (n / 256%256),UInt8.ofNat (n%256)]
theorem be8_trim(n:Nat)(h:n<18446744073709551616):trimZ (be8 n)=encN n:=by
 rw[trimZ_eq];congr 1;simp only[be8,bnat,List.foldl_cons,List.foldl_nil,ofNat_mod_toNat];omega
theorem be8_at(w:World)(n:Nat)(T:TypeId):BytesAt (w.alloc (.cells #[.int .u8 ((n:Int) / 72057594037927936%256),.int .u8 ((n:Int) / 281474976710656%256),.int .u8 ((n:Int) / 1099511627776%256),
 .int .u8 ((n:Int) / 4294967296%256),.int .u8 ((n:Int) / 16777216%256),.int .u8 ((n:Int) / 65536%256),.int .u8 ((n:Int) / 256%256),.int .u8 ((n:Int)%256)] T)) (some ⟨w.heap.size,0,none⟩) 8 8 (be8 n):=by
 refine⟨rfl,by omega,by omega,fun _=>⟨_,_,rfl,fun k hk=>?_⟩⟩;have e:∀ m:Nat,((UInt8.ofNat (m%256)).toNat:Int)=(m:Int)%256:=fun m=>by rw[ofNat_mod_toNat];omega
 rw[Nat.zero_add,World.cell?_alloc_at (hn:=rfl)]
 match k,hk with
 | 0,_=>exact congrArg (fun x=>some (Value.int .u8 x)) (e _).symm
 | 1,_=>exact congrArg (fun x=>some (Value.int .u8 x)) (e _).symm
 | 2,_=>exact congrArg (fun x=>some (Value.int .u8 x)) (e _).symm
 | 3,_=>exact congrArg (fun x=>some (Value.int .u8 x)) (e _).symm
 | 4,_=>exact congrArg (fun x=>some (Value.int .u8 x)) (e _).symm
 | 5,_=>exact congrArg (fun x=>some (Value.int .u8 x)) (e _).symm
 | 6,_=>exact congrArg (fun x=>some (Value.int .u8 x)) (e _).symm
 | 7,_=>exact congrArg (fun x=>some (Value.int .u8 x)) (e _).symm
theorem be8_at2(w:World)(n:Nat)(T:TypeId):BytesAt (w.alloc (.cells #[.int .u8 ((n:Int) / 256 / 256 / 256 / 256 / 256 / 256 / 256%256),.int .u8 ((n:Int) / 256 / 256 / 256 / 256 / 256 / 256%256),.int .u8 ((n:Int) / 256 / 256 / 256 / 256 / 256%256),
 .int .u8 ((n:Int) / 256 / 256 / 256 / 256%256),.int .u8 ((n:Int) / 256 / 256 / 256%256),.int .u8 ((n:Int) / 256 / 256%256),.int .u8 ((n:Int) / 256%256),.int .u8 ((n:Int)%256)] T)) (some ⟨w.heap.size,0,none⟩) 8 8 (be8 n):=by
 have h:=be8_at w n T;rw[show (n:Int) / 256 / 256 / 256 / 256 / 256 / 256 / 256=(n:Int) / 72057594037927936 from by omega,show (n:Int) / 256 / 256 / 256 / 256 / 256 / 256=(n:Int) / 281474976710656 from by omega,
  show (n:Int) / 256 / 256 / 256 / 256 / 256=(n:Int) / 1099511627776 from by omega,show (n:Int) / 256 / 256 / 256 / 256=(n:Int) / 4294967296 from by omega,
  show (n:Int) / 256 / 256 / 256=(n:Int) / 16777216 from by omega,show (n:Int) / 256 / 256=(n:Int) / 65536 from by omega]
 exact h
theorem ret_int{k:IntKind}{a b:Int}(h:a=b):Ending.returned (.int k a)=.returned (.int k b):=by rw[h]
def nS(n:Nat):ByteArray:=bstr (encN n)
def num(s:ByteArray):Nat:=bnat s.data.toList
theorem nS_data(n:Nat):(nS n).data.toList=encN n:=bstr_data _
theorem nS_size(n:Nat):(nS n).size=(encN n).length:=bstr_size _
theorem num_nS(n:Nat):num (nS n)=n:=by unfold num;rw[nS_data,bnat_encN]
theorem nS_size_le{n k:Nat}:(nS n).size≤k↔n<256 ^ k:=by rw[nS_size,encN_length_le]
theorem nvalid_canon{s:ByteArray}(h:nvalid s=true):canon s.data.toList:=by
 unfold nvalid at h;simp only[Bool.and_eq_true,Bool.not_eq_true',beq_eq_false_iff_ne]at h;exact h.2
theorem nvalid_nS{n:Nat}:nvalid (nS n)=true↔n<256 ^ 128:=by
 unfold nvalid;rw[nS_data,Bool.and_eq_true,decide_eq_true_eq,nS_size_le];constructor
 · exact fun h=>h.1
 · intro h;refine⟨h,?_⟩;have:=canon_encN n;unfold canon at this;simpa using this
theorem nS_num{s:ByteArray}(h:nvalid s=true):s=nS (num s):=by
 unfold nS num;rw[encN_bnat (nvalid_canon h),bstr_of]
theorem num_lt{s:ByteArray}(h:s.size≤128):num s<256 ^ 128:=by
 have h1:=bnat_lt s.data.toList;rw[data_len]at h1;exact Nat.lt_of_lt_of_le h1 (Nat.pow_le_pow_right (by omega) h)
theorem num_lt_size(s:ByteArray):num s<256 ^ s.size:=by
 have h1:=bnat_lt s.data.toList;rw[data_len]at h1;exact h1
theorem num_small{s:ByteArray}(h:s.size≤8):num s<18446744073709551616:=by
 have h1:=num_lt_size s;exact Nat.lt_of_lt_of_le h1 (Nat.le_trans (Nat.pow_le_pow_right (by omega) h) (by decide))
theorem nS_zero:nS 0=⟨#[]⟩:=rfl
theorem nS_one:nS 1=⟨#[1]⟩:=rfl
theorem nS_small_size{n:Nat}(h:n<18446744073709551616):(nS n).size≤8:=nS_size_le.2 (by rw[show (256:Nat) ^ 8=18446744073709551616 from by decide];exact h)
theorem nS_size_zero{n:Nat}:(nS n).size=0↔n=0:=by
 rw[nS_size,List.length_eq_zero_iff,encN_eq_nil]
def dig(n i:Nat):Nat:=n / 256 ^ i%256
theorem dig_lt(n i:Nat):dig n i<256:=Nat.mod_lt _ (by omega)
theorem bnat_dig:∀(i:Nat) (l:List UInt8),dig (bnat l) i=if h:i<l.length then(l[l.length - 1 - i]'(by omega)).toNat else 0:=by
 intro i
 induction i with
 | zero =>
  intro l;rcases List.eq_nil_or_concat l with rfl | ⟨l,x,rfl⟩
  · simp[dig,bnat]
  · rw[List.concat_eq_append];unfold dig;rw[bnat_snoc,Nat.pow_zero,Nat.div_one,dif_pos (by simp)];have:=x.toNat_lt;simp only[List.length_append,List.length_singleton,Nat.add_sub_cancel,Nat.sub_zero];rw[List.getElem_append_right (by omega)];simp
 | succ i ih =>
  intro l;rcases List.eq_nil_or_concat l with rfl | ⟨l,x,rfl⟩
  · simp[dig,bnat]
  · rw[List.concat_eq_append];have hi:=ih l;unfold dig at *;have hx:=x.toNat_lt;rw[bnat_snoc,Nat.pow_succ,Nat.mul_comm (256 ^ i),←Nat.div_div_eq_div_mul,show (bnat l * 256+x.toNat) / 256=bnat l from by omega,hi];by_cases h:i<l.length
    · rw[dif_pos h,dif_pos (by simp;omega)];congr 1;simp only[List.length_append,List.length_singleton];rw[List.getElem_append_left (by omega)];congr 1;omega
    · rw[dif_neg h,dif_neg (by simp;omega)]
theorem dig_encN(n i:Nat)(h:i<(encN n).length):((encN n)[(encN n).length - 1 - i]'(by omega)).toNat=dig n i:=by
 have:=bnat_dig i (encN n);rw[bnat_encN,dif_pos h]at this;exact this.symm
theorem dig_beyond{n i:Nat}(h:(encN n).length≤i):dig n i=0:=by
 have:=bnat_dig i (encN n);rw[bnat_encN,dif_neg (by omega)]at this;exact this
theorem div_succ(n i:Nat):n / 256 ^ (i+1)=n / 256 ^ i / 256:=by rw[Nat.pow_succ,Nat.div_div_eq_div_mul]
def beN(n v:Nat):List UInt8:=(List.range n).map fun k=>UInt8.ofNat (v / 256 ^ (n - 1 - k)%256)
theorem beN_length(n v:Nat):(beN n v).length=n:=by simp[beN]
theorem beN_get(n v k:Nat)(h:k<n):(beN n v)[k]? =some (UInt8.ofNat (v / 256 ^ (n - 1 - k)%256)):=by
 unfold beN;rw[List.getElem?_map,List.getElem?_range h];rfl
theorem beN_succ(n v:Nat):beN (n+1) v=beN n (v / 256)++[UInt8.ofNat (v%256)]:=by
 apply List.ext_getElem?;intro k;by_cases h:k<n
 · rw[beN_get _ _ _ (by omega),List.getElem?_append_left (by rw[beN_length];exact h),beN_get _ _ _ h];congr 2;rw[show n+1 - 1 - k=(n - 1 - k)+1 from by omega,Nat.pow_succ,Nat.mul_comm (256 ^ (n - 1 - k)),←Nat.div_div_eq_div_mul]
 · by_cases h2:k=n
   · subst h2;rw[beN_get _ _ _ (by omega),List.getElem?_append_right (by rw[beN_length];exact Nat.le_refl _),beN_length];simp
   · rw[List.getElem?_eq_none (by rw[beN_length];omega),List.getElem?_eq_none (by rw[List.length_append,beN_length];simp;omega)]
theorem bnat_beN:∀(n v:Nat),bnat (beN n v)=v%256 ^ n
 | 0,v=>by simp[beN,bnat,Nat.mod_one]
 | n+1,v=>by
  rw[beN_succ,bnat_snoc,bnat_beN n,ofNat_mod_toNat,Nat.pow_succ,Nat.mul_comm (256 ^ n) 256,Nat.mod_mul,Nat.mul_comm];omega
theorem trim_beN{n v:Nat}(h:v<256 ^ n):trimZ (beN n v)=encN v:=by rw[trimZ_eq,bnat_beN,Nat.mod_eq_of_lt h]
theorem add_step{a b c i:Nat}(h:(a+b) / 256 ^ i=a / 256 ^ i+b / 256 ^ i+c):(a+b) / 256 ^ (i+1)=a / 256 ^ (i+1)+b / 256 ^ (i+1)+(dig a i+dig b i+c) / 256∧dig (a+b) i=(dig a i+dig b i+c)%256:=by
 simp only[div_succ,dig,h];omega
theorem sub_step{a b c i:Nat}(hab:b≤a)(h:a / 256 ^ i=b / 256 ^ i+(a - b) / 256 ^ i+c)(hc:c≤1) :
 (dig b i+c≤dig a i→dig (a - b) i=dig a i - dig b i - c∧a / 256 ^ (i+1)=b / 256 ^ (i+1)+(a - b) / 256 ^ (i+1)+0) ∧
 (dig a i<dig b i+c→dig (a - b) i=dig a i+256 - dig b i - c∧a / 256 ^ (i+1)=b / 256 ^ (i+1)+(a - b) / 256 ^ (i+1)+1):=by
 simp only[div_succ,dig]at *;generalize (a - b) / 256 ^ i=d at *;generalize b / 256 ^ i=y at *;rw[h];constructor<;>intro h1<;>omega
end Go.Proofs.YtdhnkmbjogmmkaaGreatDoor

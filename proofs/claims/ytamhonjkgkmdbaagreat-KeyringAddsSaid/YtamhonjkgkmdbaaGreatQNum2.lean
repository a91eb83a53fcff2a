import Derived.Test.YtamhonjkgkmdbaaGreatQBld
set_option linter.unusedVariables false
set_option linter.unusedSimpArgs false
namespace Go.Proofs.YtamhonjkgkmdbaaGreat
def nS(n:Nat):ByteArray:=bstr (encN n)
def num(s:ByteArray):Nat:=bnat s.data.toList
theorem nS_data(n:Nat):(nS n).data.toList=encN n:=bstr_data _
theorem nS_size(n:Nat):(nS n).size=(encN n).length:=bstr_size _
theorem num_nS(n:Nat):num (nS n)=n:=by unfold num;rw[nS_data,bnat_encN]
theorem nS_size_le{n k:Nat}:(nS n).size≤k↔n<256 ^ k:=by rw[nS_size,encN_length_le]
theorem nvalid_canon{s:ByteArray}(h:nvalid s=true):canon s.data.toList:=by
 unfold nvalid at h;simp only[Bool.and_eq_true,Bool.not_eq_true',beq_eq_false_iff_ne]at h;exact h.2
theorem nvalid_nS{n:Nat}:nvalid (nS n)=true↔n<256 ^ 128:=by
 unfold nvalid;rw[nS_data,Bool.and_eq_true,decide_eq_true_eq,nS_size_le];constructor
 · exact fun h=>h.1
 · intro h;refine⟨h,?_⟩;have:=canon_encN n;unfold canon at this;simpa using this
theorem nS_num{s:ByteArray}(h:nvalid s=true):s=nS (num s):=by
 unfold nS num;rw[encN_bnat (nvalid_canon h),bstr_of]
theorem num_lt{s:ByteArray}(h:s.size≤128):num s<256 ^ 128:=by
 have h1:=bnat_lt s.data.toList;rw[data_len]at h1;exact Nat.lt_of_lt_of_le h1 (Nat.pow_le_pow_right (by omega) h)
theorem num_lt_size(s:ByteArray):num s<256 ^ s.size:=by
 have h1:=bnat_lt s.data.toList;rw[data_len]at h1;exact h1
theorem num_small{s:ByteArray}(h:s.size≤8):num s<18446744073709551616:=by
 have h1:=num_lt_size s;exact Nat.lt_of_lt_of_le h1 (Nat.le_trans (Nat.pow_le_pow_right (by omega) h) (by decide))
theorem nS_zero:nS 0=⟨#[]⟩:=rfl
theorem nS_one:nS 1=⟨#[1]⟩:=rfl
theorem nS_small_size{n:Nat}(h:n<18446744073709551616):(nS n).size≤8:=nS_size_le.2 (by rw[show (256:Nat) ^ 8=18446744073709551616 from by decide];exact h)
theorem nS_size_zero{n:Nat}:(nS n).size=0↔n=0:=by
 rw[nS_size,List.length_eq_zero_iff,encN_eq_nil]
def dig(n i:Nat):Nat:=n / 256 ^ i%256
theorem dig_lt(n i:Nat):dig n i<256:=Nat.mod_lt _ (by omega)
theorem bnat_dig:∀(i:Nat) (l:List UInt8),dig (bnat l) i=if h:i<l.length then(l[l.length - 1 - i]'(by omega)).toNat else 0:=by
 intro i
 induction i with
 | zero =>
  intro l;rcases List.eq_nil_or_concat l with rfl | ⟨l,x,rfl⟩
  · simp[dig,bnat]
  · rw[List.concat_eq_append];unfold dig;rw[bnat_snoc,Nat.pow_zero,Nat.div_one,dif_pos (by simp)];have:=x.toNat_lt;simp only[List.length_append,List.length_singleton,Nat.add_sub_cancel,Nat.sub_zero];rw[List.getElem_append_right (by omega)];simp
 | succ i ih =>
  intro l;rcases List.eq_nil_or_concat l with rfl | ⟨l,x,rfl⟩
  · simp[dig,bnat]
  · rw[List.concat_eq_append];have hi:=ih l;unfold dig at *;have hx:=x.toNat_lt;rw[bnat_snoc,Nat.pow_succ,Nat.mul_comm (256 ^ i),←Nat.div_div_eq_div_mul,show (bnat l * 256+x.toNat) / 256=bnat l from by omega,hi];by_cases h:i<l.length
    · rw[dif_pos h,dif_pos (by simp;omega)];congr 1;simp only[List.length_append,List.length_singleton];rw[List.getElem_append_left (by omega)];congr 1;omega
    · rw[dif_neg h,dif_neg (by simp;omega)]
theorem dig_encN(n i:Nat)(h:i<(encN n).length):((encN n)[(encN n).length - 1 - i]'(by omega)).toNat=dig n i:=by
 have:=bnat_dig i (encN n);rw[bnat_encN,dif_pos h]at this;exact this.symm
theorem dig_beyond{n i:Nat}(h:(encN n).length≤i):dig n i=0:=by
 have:=bnat_dig i (encN n);rw[bnat_encN,dif_neg (by omega)]at this;exact this
theorem div_succ(n i:Nat):n / 256 ^ (i+1)=n / 256 ^ i / 256:=by rw[Nat.pow_succ,Nat.div_div_eq_div_mul]
def beN(n v:Nat):List UInt8:=(List.range n).map fun k=>UInt8.ofNat (v / 256 ^ (n - 1 - k)%256)
theorem beN_length(n v:Nat):(beN n v).length=n:=by simp[beN]
theorem beN_get(n v k:Nat)(h:k<n):(beN n v)[k]? =some (UInt8.ofNat (v / 256 ^ (n - 1 - k)%256)):=by
 unfold beN;rw[List.getElem?_map,List.getElem?_range h];rfl
theorem beN_succ(n v:Nat):beN (n+1) v=beN n (v / 256)++[UInt8.ofNat (v%256)]:=by
 apply List.ext_getElem?;intro k;by_cases h:k<n
 · rw[beN_get _ _ _ (by omega),List.getElem?_append_left (by rw[beN_length];exact h),beN_get _ _ _ h];congr 2;rw[show n+1 - 1 - k=(n - 1 - k)+1 from by omega,Nat.pow_succ,Nat.mul_comm (256 ^ (n - 1 - k)),←Nat.div_div_eq_div_mul]
 · by_cases h2:k=n
   · subst h2;rw[beN_get _ _ _ (by omega),List.getElem?_append_right (by rw[beN_length];exact Nat.le_refl _),beN_length];simp
   · rw[List.getElem?_eq_none (by rw[beN_length];omega),List.getElem?_eq_none (by rw[List.length_append,beN_length];simp;omega)]
theorem bnat_beN:∀(n v:Nat),bnat (beN n v)=v%256 ^ n
 | 0,v=>by simp[beN,bnat,Nat.mod_one]
 | n+1,v=>by
  rw[beN_succ,bnat_snoc,bnat_beN n,ofNat_mod_toNat,Nat.pow_succ,Nat.mul_comm (256 ^ n) 256,Nat.mod_mul,Nat.mul_comm];omega
theorem trim_beN{n v:Nat}(h:v<256 ^ n):trimZ (beN n v)=encN v:=by rw[trimZ_eq,bnat_beN,Nat.mod_eq_of_lt h]
theorem add_step{a b c i:Nat}(h:(a+b) / 256 ^ i=a / 256 ^ i+b / 256 ^ i+c):(a+b) / 256 ^ (i+1)=a / 256 ^ (i+1)+b / 256 ^ (i+1)+(dig a i+dig b i+c) / 256∧dig (a+b) i=(dig a i+dig b i+c)%256:=by
 simp only[div_succ,dig,h];omega
theorem sub_step{a b c i:Nat}(hab:b≤a)(h:a / 256 ^ i=b / 256 ^ i+(a - b) / 256 ^ i+c)(hc:c≤1) :
 (dig b i+c≤dig a i→dig (a - b) i=dig a i - dig b i - c∧a / 256 ^ (i+1)=b / 256 ^ (i+1)+(a - b) / 256 ^ (i+1)+0) ∧
 (dig a i<dig b i+c→dig (a - b) i=dig a i+256 - dig b i - c∧a / 256 ^ (i+1)=b / 256 ^ (i+1)+(a - b) / 256 ^ (i+1)+1):=by
 simp only[div_succ,dig]at *;generalize (a - b) / 256 ^ i=d at *;generalize b / 256 ^ i=y at *;rw[h];constructor<;>intro h1<;>omega
end Go.Proofs.YtamhonjkgkmdbaaGreat

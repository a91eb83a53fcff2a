import Derived.Test.YthcekkeknonefaaGreatQDiv
set_option linter.unusedVariables false
set_option linter.unusedSimpArgs false
namespace Go.Proofs.YthcekkeknonefaaGreat
set_option maxRecDepth 100000
set_option maxHeartbeats 1000000
open Go.RowKit
def blen(n:Nat):Nat:=if n=0 then 0 else n.log2+1
theorem blen_of{n k:Nat}(h1:2 ^ k≤n)(h2:n<2 ^ (k+1)):blen n=k+1:=by
 have h0:n≠0:=by have:=Nat.two_pow_pos k;omega
 unfold blen;rw[if_neg h0];have h3:=(Nat.le_log2 h0).2 h1;have h4:=(Nat.log2_lt h0).2 h2;omega
theorem blen_lt(n:Nat):n<2 ^ blen n:=by
 unfold blen;by_cases h0:n=0
 · rw[if_pos h0,h0];simp
 · rw[if_neg h0];exact Nat.lt_log2_self
theorem blen_le{n:Nat}(h:0<n):2 ^ (blen n - 1)≤n:=by
 unfold blen;rw[if_neg (by omega),Nat.add_sub_cancel];exact Nat.log2_self_le (by omega)
def bitB(n i:Nat):Bool:=n / 2 ^ i%2==1
theorem bit_dig(n i:Nat):dig n (i / 8) / 2 ^ (i%8)%2=n / 2 ^ i%2:=by
 have e:n / 2 ^ i=n / 256 ^ (i / 8) / 2 ^ (i%8):=(by rw[show (256:Nat) ^ (i / 8)=2 ^ (8 * (i / 8))from by rw[Nat.pow_mul],Nat.div_div_eq_div_mul,←Nat.pow_add,show 8 * (i / 8)+i%8=i from by omega]);rw[e];unfold dig;generalize n / 256 ^ (i / 8)=d;have h:i%8<8:=by omega
 generalize i%8=r at *
 match r,h with
 | 0,_=>simp
 | 1,_=>omega
 | 2,_=>omega
 | 3,_=>omega
 | 4,_=>omega
 | 5,_=>omega
 | 6,_=>omega
 | 7,_=>omega
theorem blen_first{n:Nat}(h0:0<n):∃ x l,encN n=x::l∧0<x.toNat∧blen n=8 * l.length+blen x.toNat:=by
 cases hl:encN n with
 | nil=>exact absurd (encN_eq_nil.1 hl) (by omega)
 | cons x l =>
  have hc:=canon_encN n;rw[hl]at hc;have hx:x≠0:=canon_cons.1 hc;have hx0:0<x.toNat:=by
   rcases Nat.eq_zero_or_pos x.toNat with h | h
   · exact absurd (UInt8.toNat_inj.1 (by simpa using h)) hx
   · exact h
  refine⟨x,l,rfl,hx0,?_⟩;have hb:n=x.toNat * 256 ^ l.length+bnat l:=by rw[←bnat_cons,←hl,bnat_encN]
  have hlt:=bnat_lt l;have h1:=blen_lt x.toNat;have h2:=blen_le hx0;have hb1:1≤blen x.toNat:=by unfold blen;rw[if_neg (by omega)];omega
  obtain⟨k,hk⟩:∃ k,blen x.toNat=k+1:=⟨blen x.toNat - 1,by omega⟩;rw[hk]at h1 h2⊢;rw[Nat.add_sub_cancel]at h2;have e256:(256:Nat) ^ l.length=2 ^ (8 * l.length):=by rw[Nat.pow_mul]
  have:=blen_of (n:=n) (k:=8 * l.length+k) (by
   rw[Nat.pow_add,←e256,Nat.mul_comm];have:=Nat.mul_le_mul_right (256 ^ l.length) h2
   omega) (by
   rw[show 8 * l.length+k+1=8 * l.length+(k+1)from by omega,Nat.pow_add,←e256,Nat.mul_comm];have:=Nat.mul_le_mul_right (256 ^ l.length) (show x.toNat+1≤2 ^ (k+1)from h1);rw[Nat.succ_mul]at this
   omega)
  omega
theorem bitLen_blen{x:Nat}(h:x<256):Lib.bitLen x=blen x:=by
 rcases Nat.eq_zero_or_pos x with h0 | h0
 · subst h0;simp[blen,Lib.bitLen,Lib.bitLenAux]
 · obtain⟨L,h1,h2,h3,_⟩:=bitLen_spec 64 x (Nat.lt_of_lt_of_le h (by decide)) h0;unfold Lib.bitLen;rw[h1,blen_of h2 h3]
theorem nS_first{n:Nat}(h0:0<n):∃(h:0<(nS n).size),0<((nS n)[0]).toNat∧((nS n)[0]).toNat<256∧blen n=8 * ((nS n).size - 1)+blen ((nS n)[0]).toNat:=by
 obtain⟨x,l,hl,hx,hb⟩:=blen_first h0;have hs:(nS n).size=l.length+1:=by rw[nS_size,hl];rfl
 refine⟨by omega,?_⟩;have e:(nS n)[0]'(by omega)=x:=by
  have : (nS n)[0]'(by omega)=((nS n).data.toList)[0]'(by rw[data_len];omega):=rfl;rw[this];simp only[nS_data,hl,List.getElem_cons_zero]
 rw[e,hs,Nat.add_sub_cancel];exact⟨hx,by have:=x.toNat_lt;omega,hb⟩
theorem nat_Bits_core(s:ByteArray)(h:0<s.size)(hv:nvalid s=true)(b:Nat)(hb:(s[0]).toNat=b)(hb2:b<256)(w:World):Calls Tryz.prog 89 #[.string s] w (RetQ (.int .i64 ((8 * (s.size - 1)+blen b:Nat):Int)) w):=by
 have hs128:s.size≤128:=by unfold nvalid at hv;simp at hv;exact hv.1
 have hem:=sempty_false h;have HV:=Hq hv;have HB:=Hq hb;have HL:=Hq (bitLen_blen hb2);have hbl:blen b≤8:=by
  have h1:=blen_lt b;unfold blen;split
  · omega
  · have:=(Nat.log2_lt (n:=b) (k:=8) (by assumption)).2 (by omega);omega
 obtain⟨z,hz⟩:∃ z,s.size=z+1:=⟨s.size - 1,by omega⟩;have HZ:=Hq hz;clear hv hb;go_enter Tryz.func89,Tryz.ntmps89;go_wp2_with fail;refine(nat_Valid s (by omega) _).mono ?_;rintro e w1 ⟨rfl,rfl⟩;rw[HV.out];clear hz;go_wp2_with fail;rw[HB.out];refine(Tryz.bits_Len8 (b:Int) _ (by omega) (by omega)).mono ?_;rintro e w1 ⟨rfl,rfl⟩;rw[Int.toNat_natCast,HL.out];go_wp2;go_ret;exact⟨ret_int (by have:=HZ.out;omega),rfl⟩
theorem nat_Bits(n:Nat)(hn:n<256 ^ 128)(w:World):Calls Tryz.prog 89 #[.string (nS n)] w (RetQ (.int .i64 (blen n)) w):=by
 rcases Nat.eq_zero_or_pos n with h0 | h0
 · subst h0;have HV:=Hq (show nvalid ⟨#[]⟩=true from rfl);rw[nS_zero];go_enter Tryz.func89,Tryz.ntmps89;go_wp2_with fail;refine(nat_Valid ⟨#[]⟩ (by decide) _).mono ?_;rintro e w1 ⟨rfl,rfl⟩;rw[HV.out];go_wp2;go_ret;exact⟨rfl,rfl⟩
 · obtain⟨h,h1,h2,h3⟩:=nS_first h0;rw[h3];exact nat_Bits_core (nS n) h (nvalid_nS.2 hn) _ rfl h2 w
theorem band1{x:Nat}(h:x<256):bits .and .i64 (x:Int) 1=((x%2:Nat):Int):=by
 have:=bits_mask .i64 62 (by decide) (fun n h1 h2=>by rw[IntKind.wrap_i64];omega) 1 (by omega) (x:Int) (by omega) (by omega);simpa using this
theorem nat_Bit(n i:Nat)(hn:n<256 ^ 128)(hi:i<100000)(w:World):Calls Tryz.prog 92 #[.string (nS n),.int .i64 i] w (RetQ (.bool (bitB n i)) w):=by
 have hs1:=nS_size_le.2 hn;have HV:=Hq (nvalid_nS.2 hn);have HD:=Hq (nat_digit n (i / 8) (by omega));have hi0:(0:Int)≤(i:Int):=by omega
 by_cases hlt:i / 8<(nS n).size
 · have hlt2:(i:Int) / 8<((nS n).size:Int):=by omega
   have hd:=dig_lt n (i / 8);have HBD:=Hq (bit_dig n i);obtain⟨d,hde⟩:∃ d,dig n (i / 8)=d:=⟨_,rfl⟩;rw[hde]at hd HBD HD;obtain⟨s,hs⟩:∃ s,nS n=s:=⟨_,rfl⟩;rw[hs]at hs1 HV HD hlt2⊢;have HF:=Hq (show bitB n i=(((d / 2 ^ (i%8)%2:Nat):Int)==1)from by
    unfold bitB;rw[←HBD.out,Bool.eq_iff_iff];simp only[beq_iff_eq]
    omega)
   have HA:=Hq (show bits .and .i64 ((d:Int) / 2 ^ (i%8)) 1=((d / 2 ^ (i%8)%2:Nat):Int)from by
    rw[←band1 (x:=d / 2 ^ (i%8)) (Nat.lt_of_le_of_lt (Nat.div_le_self _ _) hd)]
    simp)
   clear hs hde hn hlt;go_enter Tryz.func92,Tryz.ntmps92;go_wp2_with fail;refine(nat_Valid s (by omega) _).mono ?_;rintro e w1 ⟨rfl,rfl⟩;rw[HV.out];go_wp2_with fail;refine(HD.out _).mono ?_;rintro e w1 ⟨rfl,rfl⟩;go_wp2;rw[HA.out];go_ret;exact⟨by rw[HF.out];rfl,rfl⟩
 · have hlt2:¬ ((i:Int) / 8<((nS n).size:Int)):=by omega
   have HZ:=Hq (show bitB n i=false from by
    unfold bitB;rw[←bit_dig,dig_beyond (by rw[←nS_size];omega)]
    simp)
   obtain⟨s,hs⟩:∃ s,nS n=s:=⟨_,rfl⟩;rw[hs]at hs1 HV HD hlt2⊢;clear hs hn hlt;go_enter Tryz.func92,Tryz.ntmps92;go_wp2_with fail;refine(nat_Valid s (by omega) _).mono ?_;rintro e w1 ⟨rfl,rfl⟩;rw[HV.out];go_wp2;go_ret;exact⟨by rw[HZ.out];rfl,rfl⟩
theorem r01_one(n i:Nat)(hs1:(nS n).size≤1000)(hi:i<100000)(w:World):Calls Tryz.prog 218 #[.string (nS n),.int .i64 i] w (RetQ (.bool (bitB n i)) w):=by
 have HD:=Hq (r01_at n (i / 8) hs1);have hi0:(0:Int)≤(i:Int):=by omega
 have hd:=dig_lt n (i / 8);have HBD:=Hq (bit_dig n i);obtain⟨d,hde⟩:∃ d,dig n (i / 8)=d:=⟨_,rfl⟩;rw[hde]at hd HBD HD;obtain⟨s,hs⟩:∃ s,nS n=s:=⟨_,rfl⟩;rw[hs]at HD⊢;clear hs hde hs1;go_enter Tryz.func218,Tryz.ntmps218;go_wp2_with fail;refine(HD.out _).mono ?_;rintro e w1 ⟨rfl,rfl⟩;go_wp2
 go_loop [5,6] (fun x k=>∃ j:Nat,j≤i%8∧k=.int .i64 j∧x=.int .i64 ((d / 2 ^ j:Nat):Int)) (fun _ k=>8 - (intOf k).toNat)
 case atStart=>exact⟨0,Nat.zero_le _,rfl,by simp⟩
 case round =>
  obtain⟨j,hj,rfl,rfl⟩:=hrel;obtain⟨x,hx⟩:∃ x,d / 2 ^ j=x:=⟨_,rfl⟩;have hxl:x≤d:=by rw[←hx];exact Nat.div_le_self _ _
  have HX:=Hq hx;rw[hx];clear hx;by_cases hlt:j<i%8
  · have hlt2:(j:Int)<(i:Int)%8:=by omega
    go_wp2;go_round;case rel=>exact⟨j+1,by omega,by go_num,by rw[Nat.pow_succ,←Nat.div_div_eq_div_mul,HX.out];go_num⟩
    case measure=>simp[intOf];omega
  · obtain rfl:j=i%8:=by omega
    have hlt2:¬ (((i%8:Nat):Int)<(i:Int)%8):=by omega
    have HF:=Hq (show bitB n i=((x:Int)%2==1)from by
     unfold bitB;rw[←HBD.out,HX.out];rw[Bool.eq_iff_iff];simp only[beq_iff_eq]
     omega)
    go_wp2;go_ret;exact⟨by rw[HF.out];rfl,rfl⟩
theorem blen_half{x:Nat}(h:0<x):blen x=blen (x / 2)+1:=by
 have h1:=blen_lt (x / 2);by_cases h0:x / 2=0
 · have : x=1:=by omega
   subst this;decide
 · have h2:=blen_le (n:=x / 2) (by omega);obtain⟨k,hk⟩:∃ k,blen (x / 2)=k+1:=⟨(x / 2).log2,by unfold blen;rw[if_neg h0]⟩;rw[hk]at h1 h2⊢;rw[Nat.add_sub_cancel]at h2;exact blen_of (by rw[Nat.pow_succ];omega) (by rw[Nat.pow_succ];omega)
theorem blen_le8{n k:Nat}(hn:n<256 ^ k):blen n≤8 * k:=by
 rcases Nat.eq_zero_or_pos n with e | e
 · rw[e];exact Nat.zero_le _
 · have h1:=blen_le e;rcases Nat.lt_or_ge (8 * k) (blen n)with h | h
   · have h2:(2:Nat) ^ (8 * k)≤2 ^ (blen n - 1):=Nat.pow_le_pow_right (by decide) (by omega);rw[Nat.pow_mul,show (2:Nat) ^ 8=256 from rfl]at h2;omega
   · exact h
theorem blen_zero:blen 0=0:=rfl
theorem blen_byte{x:Nat}(h:x<256):blen x≤8:=by
 unfold blen;split
 · omega
 · have:=(Nat.log2_lt (n:=x) (k:=8) (by assumption)).2 (by omega);omega
theorem r01_bits_core(s:ByteArray)(h:0<s.size)(hs1:s.size≤1000)(b:Nat)(hb:(s[0]).toNat=b)(hb2:b<256)(w:World):Calls Tryz.prog 216 #[.string s] w (RetQ (.int .i64 ((8 * (s.size - 1)+blen b:Nat):Int)) w):=by
 have hem:=sempty_false h;have HB:=Hq hb;have hbl:=blen_byte hb2;obtain⟨z,hz⟩:∃ z,s.size=z+1:=⟨s.size - 1,by omega⟩;obtain⟨c,hc⟩:∃ c,blen b=c:=⟨_,rfl⟩;rw[hc]at hbl⊢;have HC:=Hq hc;have HZ:=Hq (show 8 * (s.size - 1)+c=8 * z+c by omega);rw[HZ.out];have HW:=Hq (show wrap64 (b:Int)=(b:Int)from by simp[wrap64];omega);clear hb hc;go_enter Tryz.func216,Tryz.ntmps216;go_wp2_with fail;rw[HB.out,HW.out]
 go_loop [3,4] (fun t x=>∃ y k:Nat,y<256∧k≤8∧k+blen y=c∧x=.int .i64 y∧t=.int .i64 ((8 * z+k:Nat):Int)) (fun _ x=>(intOf x).toNat)
 case atStart=>exact⟨b,0,hb2,by omega,by have:=HC.out;omega,by go_num,by go_num⟩
 case round =>
  obtain⟨y,k,hy,hk,hyk,rfl,rfl⟩:=hrel;have HY:=Hq hyk;clear hyk;by_cases hlt:0<y
  · have hlt2:(0:Int)<(y:Int):=by omega
    have HH:=Hq (blen_half hlt);go_wp2;go_round;case rel =>
     have h1:=HY.out;have h2:=HH.out;exact⟨y / 2,k+1,by omega,by omega,by omega,by go_num,by go_num⟩
    case measure=>simp[intOf];omega
  · obtain rfl:y=0:=by omega
    have h1:=HY.out;rw[blen_zero]at h1;obtain rfl:k=c:=by omega
    go_wp2;go_ret;exact⟨rfl,rfl⟩
theorem r01_bits(n:Nat)(hs1:(nS n).size≤1000)(w:World):Calls Tryz.prog 216 #[.string (nS n)] w (RetQ (.int .i64 (blen n)) w):=by
 rcases Nat.eq_zero_or_pos n with h0 | h0
 · subst h0;rw[nS_zero];go_enter Tryz.func216,Tryz.ntmps216;go_wp2;go_ret;exact⟨rfl,rfl⟩
 · obtain⟨h,h1,h2,h3⟩:=nS_first h0;rw[h3];exact r01_bits_core (nS n) h hs1 _ rfl h2 w
end Go.Proofs.YthcekkeknonefaaGreat

import Derived.Test.YtfbmbledklbfgaaGreatDoorQLdB
set_option linter.unusedVariables false
set_option linter.unusedSimpArgs false
namespace Go.Proofs.YtfbmbledklbfgaaGreatDoor
open Go.RowKit
structure LdS (w0 wr:World) (BD BR BQ n L m Y X j:Nat) (f:Nat→Nat):Prop where
 rD:RowI wr BD n (dig Y)
 rR:RowI wr BR L f
 dR:∀ p,p<L→f p<256
 rQ:OutH wr BQ m j X
 hB:Below w0.heap.size w0 wr
 h1:¬ (BD=BR)
 h2:¬ (BQ=BR)
 h3:w0.heap.size≤BR
 h4:¬ (BD=BQ)
 h5:w0.heap.size≤BQ
theorem LdS.drew{w0 wr:World}{BD BR BQ n L m Y X j:Nat}{f:Nat→Nat}(h:LdS w0 wr BD BR BQ n L m Y X j f):LdS w0 wr.drew BD BR BQ n L m Y X j f:=
 ⟨h.rD.heap rfl,h.rR.heap rfl,h.dR,h.rQ.heap rfl,h.hB.drew,h.h1,h.h2,h.h3,h.h4,h.h5⟩
theorem LdS.setR{w0 wr:World}{BD BR BQ n L m Y X j:Nat}{f:Nat→Nat}(h:LdS w0 wr BD BR BQ n L m Y X j f){k v:Nat}(hv:v<256):LdS w0 (wr.setCell ⟨BR,k,none⟩ (.int .i64 v)) BD BR BQ n L m Y X j (upd f k v):=by
 refine⟨h.rD.heap (heap_setCell_other _ _ _ _ h.h1),h.rR.set v,fun p hp=>?_,h.rQ.heap (heap_setCell_other _ _ _ _ h.h2),h.hB.setCell (p:=⟨BR,k,none⟩) h.h3 _,h.h1,h.h2,h.h3,h.h4,h.h5⟩;by_cases e:p=k
 · subst e;rw[upd_at];exact hv
 · rw[upd_off f e];exact h.dR p hp
theorem LdS.setQ{w0 wr:World}{BD BR BQ n L m Y X j:Nat}{f:Nat→Nat}(h:LdS w0 wr BD BR BQ n L m Y X (j+1) f){k:Nat}(hk:k+1+j=m):LdS w0 (wr.setCell ⟨BQ,k,none⟩ (.int .u8 (dig X j))) BD BR BQ n L m Y X j f:=
 ⟨h.rD.heap (heap_setCell_other _ _ _ _ h.h4),h.rR.heap (heap_setCell_other _ _ _ _ (fun e=>h.h2 e.symm)),h.dR,h.rQ.step hk,h.hB.setCell (p:=⟨BQ,k,none⟩) h.h5 _,h.h1,h.h2,h.h3,h.h4,h.h5⟩
structure MsI (n Y g j:Nat) (f f':Nat→Nat) (i c b:Nat):Prop where
 hi:i≤n
 hc:c≤255
 hb:b≤1
 off:∀ p,(p<j∨j+i≤p)→f' p=f p
 eq:vN (fun a=>f' (j+a)) i+g * vN (dig Y) i=vN (fun a=>f (j+a)) i+(c+b) * 256 ^ i
theorem MsI.start{n Y g j:Nat}(f:Nat→Nat):MsI n Y g j f f 0 0 0:=⟨Nat.zero_le _,by decide,by decide,fun _ _=>rfl,by simp[vN]⟩
theorem vN_upd(f:Nat→Nat)(j i x:Nat):vN (fun a=>upd f (j+i) x (j+a)) (i+1)=vN (fun a=>f (j+a)) i+x * 256 ^ i:=by
 show vN (fun a=>upd f (j+i) x (j+a)) i+upd f (j+i) x (j+i) * 256 ^ i=_;rw[upd_at,vN_congr (fun a ha=>upd_off f (show ¬ (j+a=j+i)by omega))]
theorem MsI.next{n Y g j:Nat}{f f':Nat→Nat}{i c b x b2:Nat}(h:MsI n Y g j f f' i c b)(hin:i<n)(hg:g≤255)(hb2:b2≤1)(hx:x+(c+g * dig Y i)%256+b=f (j+i)+256 * b2):MsI n Y g j f (upd f' (j+i) x) (i+1) ((c+g * dig Y i) / 256) b2:=by
 have hd:=dig_lt Y i;have h1:=h.hc;have h2:g * dig Y i≤255 * 255:=Nat.mul_le_mul hg (by omega);refine⟨hin,by omega,hb2,fun p hp=>?_,?_⟩
 · rw[upd_off f' (by omega)];exact h.off p (by omega)
 · have h3:=ms_step hx h.eq;rw[vN_upd,Nat.pow_succ,Nat.mul_comm (256 ^ i) 256];exact h3
structure AbI (n Y j:Nat) (f f':Nat→Nat) (i c:Nat):Prop where
 hi:i≤n
 hc:c≤1
 off:∀ p,(p<j∨j+i≤p)→f' p=f p
 eq:vN (fun a=>f' (j+a)) i+c * 256 ^ i=vN (fun a=>f (j+a)) i+vN (dig Y) i
theorem AbI.start{n Y j:Nat}(f:Nat→Nat):AbI n Y j f f 0 0:=⟨Nat.zero_le _,by decide,fun _ _=>rfl,by simp[vN]⟩
theorem AbI.next{n Y j:Nat}{f f':Nat→Nat}{i c x:Nat}(h:AbI n Y j f f' i c)(hin:i<n)(hf:f (j+i)<256)(hx:x=c+(f (j+i)+dig Y i)):AbI n Y j f (upd f' (j+i) (x%256)) (i+1) (x / 256):=by
 have hd:=dig_lt Y i;have h1:=h.hc;refine⟨hin,by omega,fun p hp=>?_,?_⟩
 · rw[upd_off f' (by omega)];exact h.off p (by omega)
 · have h3:=ab_step hx h.eq;rw[vN_upd,Nat.pow_succ,Nat.mul_comm (256 ^ i) 256];exact h3
structure TpI (n D U j:Nat) (f f':Nat→Nat) (g:Nat) (tp:Int):Prop where
 hg:g≤255
 ge:U / D≤g
 off:∀ p,(p<j∨j+n≤p)→f' p=f p
 eq:tp * ((256 ^ n:Nat):Int)+((vN (fun a=>f' (j+a)) n:Nat):Int)+((g * D:Nat):Int)=(U:Int)
theorem TpI.start{n Y U g j:Nat}{f f':Nat→Nat}{c b:Nat}(h:MsI n Y g j f f' n c b)(hY:Y<256 ^ n)(hg:g≤255)(hge:U / Y≤g)(hU:U=vN (fun a=>f (j+a)) (n+1)):TpI n Y U j f f' g ((f (j+n):Int) - (c:Int) - (b:Int)):=by
 refine⟨hg,hge,h.off,?_⟩;have h1:=h.eq;rw[vN_dig,Nat.mod_eq_of_lt hY]at h1;have h2:U=vN (fun a=>f (j+a)) n+f (j+n) * 256 ^ n:=hU;rw[h2];generalize 256 ^ n=P at *;generalize vN (fun a=>f (j+a)) n=V at *;generalize vN (fun a=>f' (j+a)) n=V' at *;generalize g * Y=G at *;have h3:(V':Int)+(G:Int)=(V:Int)+((c:Int)+(b:Int)) * (P:Int):=by exact_mod_cast h1
 push_cast
 grind
theorem TpI.bounds{n D U j:Nat}{f f':Nat→Nat}{g:Nat}{tp:Int}(h:TpI n D U j f f' g tp)(hf:∀ a,a<n→f' (j+a)<256)(hD:D<256 ^ n)(hU:U<256 * D):-257<tp∧tp<256:=by
 have h1:=h.eq;have h2:=vN_lt (f:=fun a=>f' (j+a)) (n:=n) hf;have h3:g * D≤255 * D:=Nat.mul_le_mul_right _ h.hg;generalize vN (fun a=>f' (j+a)) n=V at *;generalize g * D=G at *;generalize 256 ^ n=P at *;constructor
 · rcases Int.lt_or_le (-257) tp with h4 | h4
   · exact h4
   · exfalso;have:=Int.mul_le_mul_of_nonneg_right h4 (show (0:Int)≤(P:Int)from Int.natCast_nonneg _);omega
 · rcases Int.lt_or_le tp 256 with h4 | h4
   · exact h4
   · exfalso;have:=Int.mul_le_mul_of_nonneg_right h4 (show (0:Int)≤(P:Int)from Int.natCast_nonneg _);omega
theorem TpI.less{n D U j:Nat}{f f':Nat→Nat}{g:Nat}{tp:Int}(h:TpI n D U j f f' g tp)(hf:∀ a,a<n→f' (j+a)<256)(hD:0<D)(ht:tp<0):U / D<g:=by
 have h1:=h.eq;have h2:=vN_lt (f:=fun a=>f' (j+a)) (n:=n) hf;rw[Nat.div_lt_iff_lt_mul hD];generalize vN (fun a=>f' (j+a)) n=V at *;generalize g * D=G at *;generalize 256 ^ n=P at *;have:=Int.mul_le_mul_of_nonneg_right (show tp ≤ -1 by omega) (show (0:Int)≤(P:Int)from Int.natCast_nonneg _);omega
theorem TpI.next{n Y U j:Nat}{f f' f2:Nat→Nat}{g c:Nat}{tp:Int}(h:TpI n Y U j f f' (g+1) tp)(hY:Y<256 ^ n)(hl:U / Y<g+1)(h2:AbI n Y j f' f2 n c):TpI n Y U j f f2 g (tp+(c:Int)):=by
 have h3:=h.hg;refine⟨by omega,by omega,fun p hp=>(h2.off p hp).trans (h.off p hp),?_⟩;have h1:=h.eq;have h4:=h2.eq;rw[vN_dig,Nat.mod_eq_of_lt hY]at h4;generalize vN (fun a=>f' (j+a)) n=V at *;generalize vN (fun a=>f2 (j+a)) n=V2 at *;generalize 256 ^ n=P at *;have h5:(V2:Int)+(c:Int) * (P:Int)=(V:Int)+(Y:Int):=by exact_mod_cast h4
 push_cast at h1⊢
 grind
theorem TpI.done{n D U j:Nat}{f f':Nat→Nat}{g:Nat}{tp:Int}(h:TpI n D U j f f' g tp)(hf:∀ a,a<n→f' (j+a)<256)(hD:0<D)(hDn:D<256 ^ n)(ht:0≤tp):g=U / D∧tp=0∧vN (fun a=>f' (j+a)) n=U%D:=by
 have h1:=h.eq;have h0:=h.ge;have h2:=vN_lt (f:=fun a=>f' (j+a)) (n:=n) hf;have h3:g * D≤U:=(by have:=Int.mul_le_mul_of_nonneg_right ht (show (0:Int)≤((256 ^ n:Nat):Int)from Int.natCast_nonneg _);omega);have h4:g=U / D:=Nat.le_antisymm ((Nat.le_div_iff_mul_le hD).2 h3) h0;have h5:=Nat.div_add_mod U D;have h6:=Nat.mod_lt U hD;rw[←h4,Nat.mul_comm]at h5;generalize vN (fun a=>f' (j+a)) n=V at *;generalize g * D=G at *;generalize 256 ^ n=P at *;have h7:tp=0:=by
  rcases Int.lt_or_le 0 tp with h8 | h8
  · exfalso;have:=Int.mul_le_mul_of_nonneg_right (show 1≤tp by omega) (show (0:Int)≤(P:Int)from Int.natCast_nonneg _);omega
  · omega
 subst h7;exact⟨h4,rfl,by omega⟩
theorem dig_top{Y n:Nat}(h1:256 ^ n≤Y)(h2:Y<256 ^ (n+1)):0<dig Y n:=by
 unfold dig;have hP:0<256 ^ n:=Nat.pow_pos (by decide);rw[Nat.mod_eq_of_lt (by rw[Nat.div_lt_iff_lt_mul hP];rw[Nat.pow_succ]at h2;omega)];exact(Nat.le_div_iff_mul_le hP).2 (by omega)
theorem ld_next{f f':Nat→Nat}{A D n j L:Nat}(hf:∀ i,i<L→f i<256)(hL:j+n<L)(hD:0<D)(hDn:D<256 ^ n)(hV:vN f L=A%(D * 256 ^ (j+1)))(off:∀ p,(p<j∨j+n≤p)→f' p=f p)
 (hw:vN (fun a=>f' (j+a)) n=vN (fun a=>f (j+a)) (n+1)%D):vN (upd f' (j+n) 0) L=A%(D * 256 ^ j):=by
 refine ld_round hf hL hD hDn hV (fun k hk=>?_) (fun k hk=>?_) ?_
 · rw[upd_off f' (by omega)];exact off k (by omega)
 · rw[upd_off f' (by omega)];exact off k (by omega)
 · rw[vN_upd,hw,Nat.zero_mul,Nat.add_zero]
set_option maxRecDepth 100000
def blen(n:Nat):Nat:=if n=0 then 0 else n.log2+1
theorem blen_of{n k:Nat}(h1:2 ^ k≤n)(h2:n<2 ^ (k+1)):blen n=k+1:=by
 have h0:n≠0:=by have:=Nat.two_pow_pos k;omega
 unfold blen;rw[if_neg h0];have h3:=(Nat.le_log2 h0).2 h1;have h4:=(Nat.log2_lt h0).2 h2;omega
theorem blen_lt(n:Nat):n<2 ^ blen n:=by
 unfold blen;by_cases h0:n=0
 · rw[if_pos h0,h0];simp
 · rw[if_neg h0];exact Nat.lt_log2_self
theorem blen_le{n:Nat}(h:0<n):2 ^ (blen n - 1)≤n:=by
 unfold blen;rw[if_neg (by omega),Nat.add_sub_cancel];exact Nat.log2_self_le (by omega)
def bitB(n i:Nat):Bool:=n / 2 ^ i%2==1
theorem bit_dig(n i:Nat):dig n (i / 8) / 2 ^ (i%8)%2=n / 2 ^ i%2:=by
 have e:n / 2 ^ i=n / 256 ^ (i / 8) / 2 ^ (i%8):=(by rw[show (256:Nat) ^ (i / 8)=2 ^ (8 * (i / 8))from by rw[Nat.pow_mul],Nat.div_div_eq_div_mul,←Nat.pow_add,show 8 * (i / 8)+i%8=i from by omega]);rw[e];unfold dig;generalize n / 256 ^ (i / 8)=d;have h:i%8<8:=by omega
 generalize i%8=r at *
 match r,h with
 | 0,_=>simp
 | 1,_=>omega
 | 2,_=>omega
 | 3,_=>omega
 | 4,_=>omega
 | 5,_=>omega
 | 6,_=>omega
 | 7,_=>omega
theorem blen_first{n:Nat}(h0:0<n):∃ x l,encN n=x::l∧0<x.toNat∧blen n=8 * l.length+blen x.toNat:=by
 cases hl:encN n with
 | nil=>exact absurd (encN_eq_nil.1 hl) (by omega)
 | cons x l =>
  have hc:=canon_encN n;rw[hl]at hc;have hx:x≠0:=canon_cons.1 hc;have hx0:0<x.toNat:=by
   rcases Nat.eq_zero_or_pos x.toNat with h | h
   · exact absurd (UInt8.toNat_inj.1 (by simpa using h)) hx
   · exact h
  refine⟨x,l,rfl,hx0,?_⟩;have hb:n=x.toNat * 256 ^ l.length+bnat l:=by rw[←bnat_cons,←hl,bnat_encN]
  have hlt:=bnat_lt l;have h1:=blen_lt x.toNat;have h2:=blen_le hx0;have hb1:1≤blen x.toNat:=by unfold blen;rw[if_neg (by omega)];omega
  obtain⟨k,hk⟩:∃ k,blen x.toNat=k+1:=⟨blen x.toNat - 1,by omega⟩;rw[hk]at h1 h2⊢;rw[Nat.add_sub_cancel]at h2;have e256:(256:Nat) ^ l.length=2 ^ (8 * l.length):=by rw[Nat.pow_mul]
  have:=blen_of (n:=n) (k:=8 * l.length+k) (by
   rw[Nat.pow_add,←e256,Nat.mul_comm];have:=Nat.mul_le_mul_right (256 ^ l.length) h2
   omega) (by
   rw[show 8 * l.length+k+1=8 * l.length+(k+1)from by omega,Nat.pow_add,←e256,Nat.mul_comm];have:=Nat.mul_le_mul_right (256 ^ l.length) (show x.toNat+1≤2 ^ (k+1)from h1);rw[Nat.succ_mul]at this
   omega)
  omega
theorem bitLen_blen{x:Nat}(h:x<256):Lib.bitLen x=blen x:=by
 rcases Nat.eq_zero_or_pos x with h0 | h0
 · subst h0;simp[blen,Lib.bitLen,Lib.bitLenAux]
 · obtain⟨L,h1,h2,h3,_⟩:=bitLen_spec 64 x (Nat.lt_of_lt_of_le h (by decide)) h0;unfold Lib.bitLen;rw[h1,blen_of h2 h3]
theorem nS_first{n:Nat}(h0:0<n):∃(h:0<(nS n).size),0<((nS n)[0]).toNat∧((nS n)[0]).toNat<256∧blen n=8 * ((nS n).size - 1)+blen ((nS n)[0]).toNat:=by
 obtain⟨x,l,hl,hx,hb⟩:=blen_first h0;have hs:(nS n).size=l.length+1:=by rw[nS_size,hl];rfl
 refine⟨by omega,?_⟩;have e:(nS n)[0]'(by omega)=x:=by
  have : (nS n)[0]'(by omega)=((nS n).data.toList)[0]'(by rw[data_len];omega):=rfl;rw[this];simp only[nS_data,hl,List.getElem_cons_zero]
 rw[e,hs,Nat.add_sub_cancel];exact⟨hx,by have:=x.toNat_lt;omega,hb⟩
theorem nat_Bits_core(s:ByteArray)(h:0<s.size)(hv:nvalid s=true)(b:Nat)(hb:(s[0]).toNat=b)(hb2:b<256)(w:World):Calls Tryz.prog 95 #[.string s] w (RetQ (.int .i64 ((8 * (s.size - 1)+blen b:Nat):Int)) w):=by
 have hs128:s.size≤128:=by unfold nvalid at hv;simp at hv;exact hv.1
 have hem:=sempty_false h;have HV:=Hq hv;have HB:=Hq hb;have HL:=Hq (bitLen_blen hb2);have hbl:blen b≤8:=by
  have h1:=blen_lt b;unfold blen;split
  · omega
  · have:=(Nat.log2_lt (n:=b) (k:=8) (by assumption)).2 (by omega);omega
 obtain⟨z,hz⟩:∃ z,s.size=z+1:=⟨s.size - 1,by omega⟩;have HZ:=Hq hz;clear hv hb;go_enter Tryz.func95,Tryz.ntmps95;go_wp2_with fail;refine(nat_Valid s (by omega) _).mono ?_;rintro e w1 ⟨rfl,rfl⟩;rw[HV.out];clear hz;go_wp2_with fail;rw[HB.out];refine(Tryz.bits_Len8 (b:Int) _ (by omega) (by omega)).mono ?_;rintro e w1 ⟨rfl,rfl⟩;rw[Int.toNat_natCast,HL.out];go_wp2;go_ret;exact⟨ret_int (by have:=HZ.out;omega),rfl⟩
theorem nat_Bits(n:Nat)(hn:n<256 ^ 128)(w:World):Calls Tryz.prog 95 #[.string (nS n)] w (RetQ (.int .i64 (blen n)) w):=by
 rcases Nat.eq_zero_or_pos n with h0 | h0
 · subst h0;have HV:=Hq (show nvalid ⟨#[]⟩=true from rfl);rw[nS_zero];go_enter Tryz.func95,Tryz.ntmps95;go_wp2_with fail;refine(nat_Valid ⟨#[]⟩ (by decide) _).mono ?_;rintro e w1 ⟨rfl,rfl⟩;rw[HV.out];go_wp2;go_ret;exact⟨rfl,rfl⟩
 · obtain⟨h,h1,h2,h3⟩:=nS_first h0;rw[h3];exact nat_Bits_core (nS n) h (nvalid_nS.2 hn) _ rfl h2 w
theorem band1{x:Nat}(h:x<256):bits .and .i64 (x:Int) 1=((x%2:Nat):Int):=by
 have:=bits_mask .i64 62 (by decide) (fun n h1 h2=>by rw[IntKind.wrap_i64];omega) 1 (by omega) (x:Int) (by omega) (by omega);simpa using this
theorem nat_Bit(n i:Nat)(hn:n<256 ^ 128)(hi:i<100000)(w:World):Calls Tryz.prog 89 #[.string (nS n),.int .i64 i] w (RetQ (.bool (bitB n i)) w):=by
 have hs1:=nS_size_le.2 hn;have HV:=Hq (nvalid_nS.2 hn);have HD:=Hq (nat_digit n (i / 8) (by omega));have hi0:(0:Int)≤(i:Int):=by omega
 by_cases hlt:i / 8<(nS n).size
 · have hlt2:(i:Int) / 8<((nS n).size:Int):=by omega
   have hd:=dig_lt n (i / 8);have HBD:=Hq (bit_dig n i);obtain⟨d,hde⟩:∃ d,dig n (i / 8)=d:=⟨_,rfl⟩;rw[hde]at hd HBD HD;obtain⟨s,hs⟩:∃ s,nS n=s:=⟨_,rfl⟩;rw[hs]at hs1 HV HD hlt2⊢;have HF:=Hq (show bitB n i=(((d / 2 ^ (i%8)%2:Nat):Int)==1)from by
    unfold bitB;rw[←HBD.out,Bool.eq_iff_iff];simp only[beq_iff_eq]
    omega)
   have HA:=Hq (show bits .and .i64 ((d:Int) / 2 ^ (i%8)) 1=((d / 2 ^ (i%8)%2:Nat):Int)from by
    rw[←band1 (x:=d / 2 ^ (i%8)) (Nat.lt_of_le_of_lt (Nat.div_le_self _ _) hd)]
    simp)
   clear hs hde hn hlt;go_enter Tryz.func89,Tryz.ntmps89;go_wp2_with fail;refine(nat_Valid s (by omega) _).mono ?_;rintro e w1 ⟨rfl,rfl⟩;rw[HV.out];go_wp2_with fail;refine(HD.out _).mono ?_;rintro e w1 ⟨rfl,rfl⟩;go_wp2;rw[HA.out];go_ret;exact⟨by rw[HF.out];rfl,rfl⟩
 · have hlt2:¬ ((i:Int) / 8<((nS n).size:Int)):=by omega
   have HZ:=Hq (show bitB n i=false from by
    unfold bitB;rw[←bit_dig,dig_beyond (by rw[←nS_size];omega)]
    simp)
   obtain⟨s,hs⟩:∃ s,nS n=s:=⟨_,rfl⟩;rw[hs]at hs1 HV HD hlt2⊢;clear hs hn hlt;go_enter Tryz.func89,Tryz.ntmps89;go_wp2_with fail;refine(nat_Valid s (by omega) _).mono ?_;rintro e w1 ⟨rfl,rfl⟩;rw[HV.out];go_wp2;go_ret;exact⟨by rw[HZ.out];rfl,rfl⟩
theorem blen_le8{n k:Nat}(hn:n<256 ^ k):blen n≤8 * k:=by
 rcases Nat.eq_zero_or_pos n with e | e
 · rw[e];exact Nat.zero_le _
 · have h1:=blen_le e;rcases Nat.lt_or_ge (8 * k) (blen n)with h | h
   · have h2:(2:Nat) ^ (8 * k)≤2 ^ (blen n - 1):=Nat.pow_le_pow_right (by decide) (by omega);rw[Nat.pow_mul,show (2:Nat) ^ 8=256 from rfl]at h2;omega
   · exact h
end Go.Proofs.YtfbmbledklbfgaaGreatDoor

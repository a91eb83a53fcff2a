import Derived.Test.YtfbmbledklbfgaaGreatQLdB
set_option linter.unusedVariables false
set_option linter.unusedSimpArgs false
namespace Go.Proofs.YtfbmbledklbfgaaGreat
open Go.RowKit
structure LdS (w0 wr:World) (BD BR BQ n L m Y X j:Nat) (f:Nat→Nat):Prop where
 rD:RowI wr BD n (dig Y)
 rR:RowI wr BR L f
 dR:∀ p,p<L→f p<256
 rQ:OutH wr BQ m j X
 hB:Below w0.heap.size w0 wr
 h1:¬ (BD=BR)
 h2:¬ (BQ=BR)
 h3:w0.heap.size≤BR
 h4:¬ (BD=BQ)
 h5:w0.heap.size≤BQ
theorem LdS.drew{w0 wr:World}{BD BR BQ n L m Y X j:Nat}{f:Nat→Nat}(h:LdS w0 wr BD BR BQ n L m Y X j f):LdS w0 wr.drew BD BR BQ n L m Y X j f:=
 ⟨h.rD.heap rfl,h.rR.heap rfl,h.dR,h.rQ.heap rfl,h.hB.drew,h.h1,h.h2,h.h3,h.h4,h.h5⟩
theorem LdS.setR{w0 wr:World}{BD BR BQ n L m Y X j:Nat}{f:Nat→Nat}(h:LdS w0 wr BD BR BQ n L m Y X j f){k v:Nat}(hv:v<256):LdS w0 (wr.setCell ⟨BR,k,none⟩ (.int .i64 v)) BD BR BQ n L m Y X j (upd f k v):=by
 refine⟨h.rD.heap (heap_setCell_other _ _ _ _ h.h1),h.rR.set v,fun p hp=>?_,h.rQ.heap (heap_setCell_other _ _ _ _ h.h2),h.hB.setCell (p:=⟨BR,k,none⟩) h.h3 _,h.h1,h.h2,h.h3,h.h4,h.h5⟩;by_cases e:p=k
 · subst e;rw[upd_at];exact hv
 · rw[upd_off f e];exact h.dR p hp
theorem LdS.setQ{w0 wr:World}{BD BR BQ n L m Y X j:Nat}{f:Nat→Nat}(h:LdS w0 wr BD BR BQ n L m Y X (j+1) f){k:Nat}(hk:k+1+j=m):LdS w0 (wr.setCell ⟨BQ,k,none⟩ (.int .u8 (dig X j))) BD BR BQ n L m Y X j f:=
 ⟨h.rD.heap (heap_setCell_other _ _ _ _ h.h4),h.rR.heap (heap_setCell_other _ _ _ _ (fun e=>h.h2 e.symm)),h.dR,h.rQ.step hk,h.hB.setCell (p:=⟨BQ,k,none⟩) h.h5 _,h.h1,h.h2,h.h3,h.h4,h.h5⟩
structure MsI (n Y g j:Nat) (f f':Nat→Nat) (i c b:Nat):Prop where
 hi:i≤n
 hc:c≤255
 hb:b≤1
 off:∀ p,(p<j∨j+i≤p)→f' p=f p
 eq:vN (fun a=>f' (j+a)) i+g * vN (dig Y) i=vN (fun a=>f (j+a)) i+(c+b) * 256 ^ i
theorem MsI.start{n Y g j:Nat}(f:Nat→Nat):MsI n Y g j f f 0 0 0:=⟨Nat.zero_le _,by decide,by decide,fun _ _=>rfl,by simp[vN]⟩
theorem vN_upd(f:Nat→Nat)(j i x:Nat):vN (fun a=>upd f (j+i) x (j+a)) (i+1)=vN (fun a=>f (j+a)) i+x * 256 ^ i:=by
 show vN (fun a=>upd f (j+i) x (j+a)) i+upd f (j+i) x (j+i) * 256 ^ i=_;rw[upd_at,vN_congr (fun a ha=>upd_off f (show ¬ (j+a=j+i)by omega))]
theorem MsI.next{n Y g j:Nat}{f f':Nat→Nat}{i c b x b2:Nat}(h:MsI n Y g j f f' i c b)(hin:i<n)(hg:g≤255)(hb2:b2≤1)(hx:x+(c+g * dig Y i)%256+b=f (j+i)+256 * b2):MsI n Y g j f (upd f' (j+i) x) (i+1) ((c+g * dig Y i) / 256) b2:=by
 have hd:=dig_lt Y i;have h1:=h.hc;have h2:g * dig Y i≤255 * 255:=Nat.mul_le_mul hg (by omega);refine⟨hin,by omega,hb2,fun p hp=>?_,?_⟩
 · rw[upd_off f' (by omega)];exact h.off p (by omega)
 · have h3:=ms_step hx h.eq;rw[vN_upd,Nat.pow_succ,Nat.mul_comm (256 ^ i) 256];exact h3
structure AbI (n Y j:Nat) (f f':Nat→Nat) (i c:Nat):Prop where
 hi:i≤n
 hc:c≤1
 off:∀ p,(p<j∨j+i≤p)→f' p=f p
 eq:vN (fun a=>f' (j+a)) i+c * 256 ^ i=vN (fun a=>f (j+a)) i+vN (dig Y) i
theorem AbI.start{n Y j:Nat}(f:Nat→Nat):AbI n Y j f f 0 0:=⟨Nat.zero_le _,by decide,fun _ _=>rfl,by simp[vN]⟩
theorem AbI.next{n Y j:Nat}{f f':Nat→Nat}{i c x:Nat}(h:AbI n Y j f f' i c)(hin:i<n)(hf:f (j+i)<256)(hx:x=c+(f (j+i)+dig Y i)):AbI n Y j f (upd f' (j+i) (x%256)) (i+1) (x / 256):=by
 have hd:=dig_lt Y i;have h1:=h.hc;refine⟨hin,by omega,fun p hp=>?_,?_⟩
 · rw[upd_off f' (by omega)];exact h.off p (by omega)
 · have h3:=ab_step hx h.eq;rw[vN_upd,Nat.pow_succ,Nat.mul_comm (256 ^ i) 256];exact h3
structure TpI (n D U j:Nat) (f f':Nat→Nat) (g:Nat) (tp:Int):Prop where
 hg:g≤255
 ge:U / D≤g
 off:∀ p,(p<j∨j+n≤p)→f' p=f p
 eq:tp * ((256 ^ n:Nat):Int)+((vN (fun a=>f' (j+a)) n:Nat):Int)+((g * D:Nat):Int)=(U:Int)
theorem TpI.start{n Y U g j:Nat}{f f':Nat→Nat}{c b:Nat}(h:MsI n Y g j f f' n c b)(hY:Y<256 ^ n)(hg:g≤255)(hge:U / Y≤g)(hU:U=vN (fun a=>f (j+a)) (n+1)):TpI n Y U j f f' g ((f (j+n):Int) - (c:Int) - (b:Int)):=by
 refine⟨hg,hge,h.off,?_⟩;have h1:=h.eq;rw[vN_dig,Nat.mod_eq_of_lt hY]at h1;have h2:U=vN (fun a=>f (j+a)) n+f (j+n) * 256 ^ n:=hU;rw[h2];generalize 256 ^ n=P at *;generalize vN (fun a=>f (j+a)) n=V at *;generalize vN (fun a=>f' (j+a)) n=V' at *;generalize g * Y=G at *;have h3:(V':Int)+(G:Int)=(V:Int)+((c:Int)+(b:Int)) * (P:Int):=by exact_mod_cast h1
 push_cast
 grind
theorem TpI.bounds{n D U j:Nat}{f f':Nat→Nat}{g:Nat}{tp:Int}(h:TpI n D U j f f' g tp)(hf:∀ a,a<n→f' (j+a)<256)(hD:D<256 ^ n)(hU:U<256 * D):-257<tp∧tp<256:=by
 have h1:=h.eq;have h2:=vN_lt (f:=fun a=>f' (j+a)) (n:=n) hf;have h3:g * D≤255 * D:=Nat.mul_le_mul_right _ h.hg;generalize vN (fun a=>f' (j+a)) n=V at *;generalize g * D=G at *;generalize 256 ^ n=P at *;constructor
 · rcases Int.lt_or_le (-257) tp with h4 | h4
   · exact h4
   · exfalso;have:=Int.mul_le_mul_of_nonneg_right h4 (show (0:Int)≤(P:Int)from Int.natCast_nonneg _);omega
 · rcases Int.lt_or_le tp 256 with h4 | h4
   · exact h4
   · exfalso;have:=Int.mul_le_mul_of_nonneg_right h4 (show (0:Int)≤(P:Int)from Int.natCast_nonneg _);omega
theorem TpI.less{n D U j:Nat}{f f':Nat→Nat}{g:Nat}{tp:Int}(h:TpI n D U j f f' g tp)(hf:∀ a,a<n→f' (j+a)<256)(hD:0<D)(ht:tp<0):U / D<g:=by
 have h1:=h.eq;have h2:=vN_lt (f:=fun a=>f' (j+a)) (n:=n) hf;rw[Nat.div_lt_iff_lt_mul hD];generalize vN (fun a=>f' (j+a)) n=V at *;generalize g * D=G at *;generalize 256 ^ n=P at *;have:=Int.mul_le_mul_of_nonneg_right (show tp ≤ -1 by omega) (show (0:Int)≤(P:Int)from Int.natCast_nonneg _);omega
theorem TpI.next{n Y U j:Nat}{f f' f2:Nat→Nat}{g c:Nat}{tp:Int}(h:TpI n Y U j f f' (g+1) tp)(hY:Y<256 ^ n)(hl:U / Y<g+1)(h2:AbI n Y j f' f2 n c):TpI n Y U j f f2 g (tp+(c:Int)):=by
 have h3:=h.hg;refine⟨by omega,by omega,fun p hp=>(h2.off p hp).trans (h.off p hp),?_⟩;have h1:=h.eq;have h4:=h2.eq;rw[vN_dig,Nat.mod_eq_of_lt hY]at h4;generalize vN (fun a=>f' (j+a)) n=V at *;generalize vN (fun a=>f2 (j+a)) n=V2 at *;generalize 256 ^ n=P at *;have h5:(V2:Int)+(c:Int) * (P:Int)=(V:Int)+(Y:Int):=by exact_mod_cast h4
 push_cast at h1⊢
 grind
theorem TpI.done{n D U j:Nat}{f f':Nat→Nat}{g:Nat}{tp:Int}(h:TpI n D U j f f' g tp)(hf:∀ a,a<n→f' (j+a)<256)(hD:0<D)(hDn:D<256 ^ n)(ht:0≤tp):g=U / D∧tp=0∧vN (fun a=>f' (j+a)) n=U%D:=by
 have h1:=h.eq;have h0:=h.ge;have h2:=vN_lt (f:=fun a=>f' (j+a)) (n:=n) hf;have h3:g * D≤U:=(by have:=Int.mul_le_mul_of_nonneg_right ht (show (0:Int)≤((256 ^ n:Nat):Int)from Int.natCast_nonneg _);omega);have h4:g=U / D:=Nat.le_antisymm ((Nat.le_div_iff_mul_le hD).2 h3) h0;have h5:=Nat.div_add_mod U D;have h6:=Nat.mod_lt U hD;rw[←h4,Nat.mul_comm]at h5;generalize vN (fun a=>f' (j+a)) n=V at *;generalize g * D=G at *;generalize 256 ^ n=P at *;have h7:tp=0:=by
  rcases Int.lt_or_le 0 tp with h8 | h8
  · exfalso;have:=Int.mul_le_mul_of_nonneg_right (show 1≤tp by omega) (show (0:Int)≤(P:Int)from Int.natCast_nonneg _);omega
  · omega
 subst h7;exact⟨h4,rfl,by omega⟩
theorem dig_top{Y n:Nat}(h1:256 ^ n≤Y)(h2:Y<256 ^ (n+1)):0<dig Y n:=by
 unfold dig;have hP:0<256 ^ n:=Nat.pow_pos (by decide);rw[Nat.mod_eq_of_lt (by rw[Nat.div_lt_iff_lt_mul hP];rw[Nat.pow_succ]at h2;omega)];exact(Nat.le_div_iff_mul_le hP).2 (by omega)
theorem ld_next{f f':Nat→Nat}{A D n j L:Nat}(hf:∀ i,i<L→f i<256)(hL:j+n<L)(hD:0<D)(hDn:D<256 ^ n)(hV:vN f L=A%(D * 256 ^ (j+1)))(off:∀ p,(p<j∨j+n≤p)→f' p=f p)
 (hw:vN (fun a=>f' (j+a)) n=vN (fun a=>f (j+a)) (n+1)%D):vN (upd f' (j+n) 0) L=A%(D * 256 ^ j):=by
 refine ld_round hf hL hD hDn hV (fun k hk=>?_) (fun k hk=>?_) ?_
 · rw[upd_off f' (by omega)];exact off k (by omega)
 · rw[upd_off f' (by omega)];exact off k (by omega)
 · rw[vN_upd,hw,Nat.zero_mul,Nat.add_zero]
end Go.Proofs.YtfbmbledklbfgaaGreat

import Derived.Test.YtmahgbhpdfbbjaaGreatDoorQLdA
import Derived.Deep.AppendLies
set_option linter.unusedVariables false
set_option linter.unusedSimpArgs false
namespace Go.Proofs.YtmahgbhpdfbbjaaGreatDoor
open Go.RowKit
theorem zi_get{n j:Nat}(h:j<n):(zi n)[j]? =some (.int .i64 0):=by
 unfold zi;rw[←Array.getElem?_toList,toList_madeCells_one,List.getElem?_replicate,if_pos h]
def RowI(w:World)(B n:Nat)(f:Nat→Nat):Prop:=∃ cur:Array Value,w.heap[B]? =some (.cells cur 3 (0,0))∧cur.size=n∧∀ j,j<n→cur[j]? =some (.int .i64 (f j))
theorem RowI.start{w:World}(n:Nat):RowI (w.alloc (.cells (zi n) 3)) w.heap.size n (fun _=>0):=⟨_,heap_alloc_new _ _,zi_size n,fun j h=>zi_get h⟩
theorem RowI.cell{w:World}{B n:Nat}{f:Nat→Nat}(h:RowI w B n f){k:Nat}(hk:k<n):w.cell? ⟨B,k,none⟩=some (.int .i64 (f k)):=by
 obtain⟨cur,h1,h2,h3⟩:=h;rw[Lib.cell_of_heap h1];exact h3 k hk
theorem RowI.free{w:World}{B n:Nat}{f:Nat→Nat}(h:RowI w B n f)(k:Nat):w.frozen? ⟨B,k,none⟩=false:=by
 obtain⟨cur,h1,h2,h3⟩:=h;exact Lib.frozen_of_heap h1 k
theorem RowI.lt{w:World}{B n:Nat}{f:Nat→Nat}(h:RowI w B n f):B<w.heap.size:=by
 obtain⟨cur,h1,_⟩:=h;exact block_lt h1
def upd(f:Nat→Nat)(k v:Nat):Nat→Nat:=fun j=>if j=k then v else f j
theorem upd_at(f:Nat→Nat)(k v:Nat):upd f k v k=v:=if_pos rfl
theorem upd_off(f:Nat→Nat){k v j:Nat}(h:¬ (j=k)):upd f k v j=f j:=if_neg h
theorem RowI.set{w:World}{B n k:Nat}{f:Nat→Nat}(h:RowI w B n f)(v:Nat):RowI (w.setCell ⟨B,k,none⟩ (.int .i64 v)) B n (upd f k v):=by
 obtain⟨cur,h1,h2,h3⟩:=h;refine⟨_,block_setCell h1 _,by rw[Array.size_setIfInBounds,h2],fun j hj=>?_⟩;rw[Array.getElem?_setIfInBounds];by_cases e:k=j
 · subst e;rw[if_pos rfl,if_pos (by omega),upd_at]
 · rw[if_neg e,upd_off f (by omega)];exact h3 j hj
theorem RowI.congr{w:World}{B n:Nat}{f g:Nat→Nat}(h:RowI w B n f)(e:∀ j,j<n→f j=g j):RowI w B n g:=by
 obtain⟨cur,h1,h2,h3⟩:=h;exact⟨cur,h1,h2,fun j hj=>by rw[←e j hj];exact h3 j hj⟩
theorem RowI.heap{w w':World}{B n:Nat}{f:Nat→Nat}(h:RowI w B n f)(e:w'.heap[B]? =w.heap[B]?):RowI w' B n f:=by
 obtain⟨cur,h1,h2⟩:=h;exact⟨cur,e.trans h1,h2⟩
def OutH(w:World)(B n j v:Nat):Prop:=∃ cur:Array Value,w.heap[B]? =some (.cells cur 5 (0,0))∧cur.size=n∧∀ k,j≤k→k<n→cur[n - 1 - k]? =some (.int .u8 (dig v k))
theorem OutH.start{w:World}(n v:Nat):OutH (w.alloc (.cells (zb n) 5)) w.heap.size n n v:=⟨_,heap_alloc_new _ _,zb_size n,fun j h h2=>by omega⟩
theorem OutH.cell{w:World}{B n j v:Nat}(h:OutH w B n j v){k:Nat}(hk:k<n):∃ u,w.cell? ⟨B,k,none⟩=some u:=by
 obtain⟨cur,h1,h2,h3⟩:=h;exact⟨_,by rw[Lib.cell_of_heap h1];exact Array.getElem?_eq_getElem (by omega)⟩
theorem OutH.free{w:World}{B n j v:Nat}(h:OutH w B n j v)(k:Nat):w.frozen? ⟨B,k,none⟩=false:=by
 obtain⟨cur,h1,h2,h3⟩:=h;exact Lib.frozen_of_heap h1 k
theorem OutH.step{w:World}{B n j v k:Nat}(h:OutH w B n (j+1) v)(hk:k+1+j=n):OutH (w.setCell ⟨B,k,none⟩ (.int .u8 (dig v j))) B n j v:=by
 obtain⟨cur,h1,h2,h3⟩:=h;refine⟨_,block_setCell h1 _,by rw[Array.size_setIfInBounds,h2],fun i hi hin=>?_⟩;rw[Array.getElem?_setIfInBounds];by_cases e:i=j
 · subst e;rw[if_pos (by omega),if_pos (by omega)]
 · rw[if_neg (by omega)];exact h3 i (by omega) hin
theorem OutH.out{w:World}{B n v:Nat}(h:OutH w B n 0 v):OutB w B n n v:=by
 obtain⟨cur,h1,h2,h3⟩:=h;exact⟨cur,h1,h2,fun j hj=>h3 j (Nat.zero_le _) hj⟩
theorem OutH.lt{w:World}{B n j v:Nat}(h:OutH w B n j v):B<w.heap.size:=by
 obtain⟨cur,h1,_⟩:=h;exact block_lt h1
theorem OutH.heap{w w':World}{B n j v:Nat}(h:OutH w B n j v)(e:w'.heap[B]? =w.heap[B]?):OutH w' B n j v:=by
 obtain⟨cur,h1,h2⟩:=h;exact⟨cur,e.trans h1,h2⟩
theorem OutB.heap{w w':World}{B n j v:Nat}(h:OutB w B n j v)(e:w'.heap[B]? =w.heap[B]?):OutB w' B n j v:=by
 obtain⟨cur,h1,h2⟩:=h;exact⟨cur,e.trans h1,h2⟩
structure LdS (w0 wr:World) (BD BR BQ n L m Y X j:Nat) (f:Nat→Nat):Prop where
 rD:RowI wr BD n (dig Y)
 rR:RowI wr BR L f
 dR:∀ p,p<L→f p<256
 rQ:OutH wr BQ m j X
 hB:Below w0.heap.size w0 wr
 h1:¬ (BD=BR)
 h2:¬ (BQ=BR)
 h3:w0.heap.size≤BR
 h4:¬ (BD=BQ)
 h5:w0.heap.size≤BQ
theorem LdS.drew{w0 wr:World}{BD BR BQ n L m Y X j:Nat}{f:Nat→Nat}(h:LdS w0 wr BD BR BQ n L m Y X j f):LdS w0 wr.drew BD BR BQ n L m Y X j f:=
 ⟨h.rD.heap rfl,h.rR.heap rfl,h.dR,h.rQ.heap rfl,h.hB.drew,h.h1,h.h2,h.h3,h.h4,h.h5⟩
theorem LdS.setR{w0 wr:World}{BD BR BQ n L m Y X j:Nat}{f:Nat→Nat}(h:LdS w0 wr BD BR BQ n L m Y X j f){k v:Nat}(hv:v<256):LdS w0 (wr.setCell ⟨BR,k,none⟩ (.int .i64 v)) BD BR BQ n L m Y X j (upd f k v):=by
 refine⟨h.rD.heap (heap_setCell_other _ _ _ _ h.h1),h.rR.set v,fun p hp=>?_,h.rQ.heap (heap_setCell_other _ _ _ _ h.h2),h.hB.setCell (p:=⟨BR,k,none⟩) h.h3 _,h.h1,h.h2,h.h3,h.h4,h.h5⟩;by_cases e:p=k
 · subst e;rw[upd_at];exact hv
 · rw[upd_off f e];exact h.dR p hp
theorem LdS.setQ{w0 wr:World}{BD BR BQ n L m Y X j:Nat}{f:Nat→Nat}(h:LdS w0 wr BD BR BQ n L m Y X (j+1) f){k:Nat}(hk:k+1+j=m):LdS w0 (wr.setCell ⟨BQ,k,none⟩ (.int .u8 (dig X j))) BD BR BQ n L m Y X j f:=
 ⟨h.rD.heap (heap_setCell_other _ _ _ _ h.h4),h.rR.heap (heap_setCell_other _ _ _ _ (fun e=>h.h2 e.symm)),h.dR,h.rQ.step hk,h.hB.setCell (p:=⟨BQ,k,none⟩) h.h5 _,h.h1,h.h2,h.h3,h.h4,h.h5⟩
structure MsI (n Y g j:Nat) (f f':Nat→Nat) (i c b:Nat):Prop where
 hi:i≤n
 hc:c≤255
 hb:b≤1
 off:∀ p,(p<j∨j+i≤p)→f' p=f p
 eq:vN (fun a=>f' (j+a)) i+g * vN (dig Y) i=vN (fun a=>f (j+a)) i+(c+b) * 256 ^ i
theorem MsI.start{n Y g j:Nat}(f:Nat→Nat):MsI n Y g j f f 0 0 0:=⟨Nat.zero_le _,by decide,by decide,fun _ _=>rfl,by simp[vN]⟩
theorem vN_upd(f:Nat→Nat)(j i x:Nat):vN (fun a=>upd f (j+i) x (j+a)) (i+1)=vN (fun a=>f (j+a)) i+x * 256 ^ i:=by
 show vN (fun a=>upd f (j+i) x (j+a)) i+upd f (j+i) x (j+i) * 256 ^ i=_;rw[upd_at,vN_congr (fun a ha=>upd_off f (show ¬ (j+a=j+i)by omega))]
theorem MsI.next{n Y g j:Nat}{f f':Nat→Nat}{i c b x b2:Nat}(h:MsI n Y g j f f' i c b)(hin:i<n)(hg:g≤255)(hb2:b2≤1)(hx:x+(c+g * dig Y i)%256+b=f (j+i)+256 * b2):MsI n Y g j f (upd f' (j+i) x) (i+1) ((c+g * dig Y i) / 256) b2:=by
 have hd:=dig_lt Y i;have h1:=h.hc;have h2:g * dig Y i≤255 * 255:=Nat.mul_le_mul hg (by omega);refine⟨hin,by omega,hb2,fun p hp=>?_,?_⟩
 · rw[upd_off f' (by omega)];exact h.off p (by omega)
 · have h3:=ms_step hx h.eq;rw[vN_upd,Nat.pow_succ,Nat.mul_comm (256 ^ i) 256];exact h3
structure AbI (n Y j:Nat) (f f':Nat→Nat) (i c:Nat):Prop where
 hi:i≤n
 hc:c≤1
 off:∀ p,(p<j∨j+i≤p)→f' p=f p
 eq:vN (fun a=>f' (j+a)) i+c * 256 ^ i=vN (fun a=>f (j+a)) i+vN (dig Y) i
theorem AbI.start{n Y j:Nat}(f:Nat→Nat):AbI n Y j f f 0 0:=⟨Nat.zero_le _,by decide,fun _ _=>rfl,by simp[vN]⟩
theorem AbI.next{n Y j:Nat}{f f':Nat→Nat}{i c x:Nat}(h:AbI n Y j f f' i c)(hin:i<n)(hf:f (j+i)<256)(hx:x=c+(f (j+i)+dig Y i)):AbI n Y j f (upd f' (j+i) (x%256)) (i+1) (x / 256):=by
 have hd:=dig_lt Y i;have h1:=h.hc;refine⟨hin,by omega,fun p hp=>?_,?_⟩
 · rw[upd_off f' (by omega)];exact h.off p (by omega)
 · have h3:=ab_step hx h.eq;rw[vN_upd,Nat.pow_succ,Nat.mul_comm (256 ^ i) 256];exact h3
structure TpI (n D U j:Nat) (f f':Nat→Nat) (g:Nat) (tp:Int):Prop where
 hg:g≤255
 ge:U / D≤g
 off:∀ p,(p<j∨j+n≤p)→f' p=f p
 eq:tp * ((256 ^ n:Nat):Int)+((vN (fun a=>f' (j+a)) n:Nat):Int)+((g * D:Nat):Int)=(U:Int)
theorem TpI.start{n Y U g j:Nat}{f f':Nat→Nat}{c b:Nat}(h:MsI n Y g j f f' n c b)(hY:Y<256 ^ n)(hg:g≤255)(hge:U / Y≤g)(hU:U=vN (fun a=>f (j+a)) (n+1)):TpI n Y U j f f' g ((f (j+n):Int) - (c:Int) - (b:Int)):=by
 refine⟨hg,hge,h.off,?_⟩;have h1:=h.eq;rw[vN_dig,Nat.mod_eq_of_lt hY]at h1;have h2:U=vN (fun a=>f (j+a)) n+f (j+n) * 256 ^ n:=hU;rw[h2];generalize 256 ^ n=P at *;generalize vN (fun a=>f (j+a)) n=V at *;generalize vN (fun a=>f' (j+a)) n=V' at *;generalize g * Y=G at *;have h3:(V':Int)+(G:Int)=(V:Int)+((c:Int)+(b:Int)) * (P:Int):=by exact_mod_cast h1
 push_cast
 grind
theorem TpI.bounds{n D U j:Nat}{f f':Nat→Nat}{g:Nat}{tp:Int}(h:TpI n D U j f f' g tp)(hf:∀ a,a<n→f' (j+a)<256)(hD:D<256 ^ n)(hU:U<256 * D):-257<tp∧tp<256:=by
 have h1:=h.eq;have h2:=vN_lt (f:=fun a=>f' (j+a)) (n:=n) hf;have h3:g * D≤255 * D:=Nat.mul_le_mul_right _ h.hg;generalize vN (fun a=>f' (j+a)) n=V at *;generalize g * D=G at *;generalize 256 ^ n=P at *;constructor
 · rcases Int.lt_or_le (-257) tp with h4 | h4
   · exact h4
   · exfalso;have:=Int.mul_le_mul_of_nonneg_right h4 (show (0:Int)≤(P:Int)from Int.natCast_nonneg _);omega
 · rcases Int.lt_or_le tp 256 with h4 | h4
   · exact h4
   · exfalso;have:=Int.mul_le_mul_of_nonneg_right h4 (show (0:Int)≤(P:Int)from Int.natCast_nonneg _);omega
theorem TpI.less{n D U j:Nat}{f f':Nat→Nat}{g:Nat}{tp:Int}(h:TpI n D U j f f' g tp)(hf:∀ a,a<n→f' (j+a)<256)(hD:0<D)(ht:tp<0):U / D<g:=by
 have h1:=h.eq;have h2:=vN_lt (f:=fun a=>f' (j+a)) (n:=n) hf;rw[Nat.div_lt_iff_lt_mul hD];generalize vN (fun a=>f' (j+a)) n=V at *;generalize g * D=G at *;generalize 256 ^ n=P at *;have:=Int.mul_le_mul_of_nonneg_right (show tp ≤ -1 by omega) (show (0:Int)≤(P:Int)from Int.natCast_nonneg _);omega
theorem TpI.next{n Y U j:Nat}{f f' f2:Nat→Nat}{g c:Nat}{tp:Int}(h:TpI n Y U j f f' (g+1) tp)(hY:Y<256 ^ n)(hl:U / Y<g+1)(h2:AbI n Y j f' f2 n c):TpI n Y U j f f2 g (tp+(c:Int)):=by
 have h3:=h.hg;refine⟨by omega,by omega,fun p hp=>(h2.off p hp).trans (h.off p hp),?_⟩;have h1:=h.eq;have h4:=h2.eq;rw[vN_dig,Nat.mod_eq_of_lt hY]at h4;generalize vN (fun a=>f' (j+a)) n=V at *;generalize vN (fun a=>f2 (j+a)) n=V2 at *;generalize 256 ^ n=P at *;have h5:(V2:Int)+(c:Int) * (P:Int)=(V:Int)+(Y:Int):=by exact_mod_cast h4
 push_cast at h1⊢
 grind
theorem TpI.done{n D U j:Nat}{f f':Nat→Nat}{g:Nat}{tp:Int}(h:TpI n D U j f f' g tp)(hf:∀ a,a<n→f' (j+a)<256)(hD:0<D)(hDn:D<256 ^ n)(ht:0≤tp):g=U / D∧tp=0∧vN (fun a=>f' (j+a)) n=U%D:=by
 have h1:=h.eq;have h0:=h.ge;have h2:=vN_lt (f:=fun a=>f' (j+a)) (n:=n) hf;have h3:g * D≤U:=(by have:=Int.mul_le_mul_of_nonneg_right ht (show (0:Int)≤((256 ^ n:Nat):Int)from Int.natCast_nonneg _);omega);have h4:g=U / D:=Nat.le_antisymm ((Nat.le_div_iff_mul_le hD).2 h3) h0;have h5:=Nat.div_add_mod U D;have h6:=Nat.mod_lt U hD;rw[←h4,Nat.mul_comm]at h5;generalize vN (fun a=>f' (j+a)) n=V at *;generalize g * D=G at *;generalize 256 ^ n=P at *;have h7:tp=0:=by
  rcases Int.lt_or_le 0 tp with h8 | h8
  · exfalso;have:=Int.mul_le_mul_of_nonneg_right (show 1≤tp by omega) (show (0:Int)≤(P:Int)from Int.natCast_nonneg _);omega
  · omega
 subst h7;exact⟨h4,rfl,by omega⟩
theorem dig_top{Y n:Nat}(h1:256 ^ n≤Y)(h2:Y<256 ^ (n+1)):0<dig Y n:=by
 unfold dig;have hP:0<256 ^ n:=Nat.pow_pos (by decide);rw[Nat.mod_eq_of_lt (by rw[Nat.div_lt_iff_lt_mul hP];rw[Nat.pow_succ]at h2;omega)];exact(Nat.le_div_iff_mul_le hP).2 (by omega)
theorem ld_next{f f':Nat→Nat}{A D n j L:Nat}(hf:∀ i,i<L→f i<256)(hL:j+n<L)(hD:0<D)(hDn:D<256 ^ n)(hV:vN f L=A%(D * 256 ^ (j+1)))(off:∀ p,(p<j∨j+n≤p)→f' p=f p)
 (hw:vN (fun a=>f' (j+a)) n=vN (fun a=>f (j+a)) (n+1)%D):vN (upd f' (j+n) 0) L=A%(D * 256 ^ j):=by
 refine ld_round hf hL hD hDn hV (fun k hk=>?_) (fun k hk=>?_) ?_
 · rw[upd_off f' (by omega)];exact off k (by omega)
 · rw[upd_off f' (by omega)];exact off k (by omega)
 · rw[vN_upd,hw,Nat.zero_mul,Nat.add_zero]
structure Est (B u u1 y1 y0 q r:Nat):Prop where
 eq:q * y1+r=u
 ge:(u * B+u1) / (y1 * B+y0)≤q
 le:q≤B+1
theorem est_test{B u u1 y1 y0 q r:Nat}(h:q * y1+r=u):q * y0≤B * r+u1↔q * (y1 * B+y0)≤u * B+u1:=by
 subst h;have e1:q * (y1 * B+y0)=q * y1 * B+q * y0:=by rw[Nat.mul_add,Nat.mul_assoc]
 have e2:(q * y1+r) * B=q * y1 * B+B * r:=by rw[Nat.add_mul,Nat.mul_comm B r]
 rw[e1,e2];omega
theorem est_true{B u u1 y1 y0 q:Nat}(hy:0<y1 * B+y0):q * (y1 * B+y0)≤u * B+u1↔q≤(u * B+u1) / (y1 * B+y0):=(Nat.le_div_iff_mul_le hy).symm
theorem est_digit{B u u1 y1 y0:Nat}(h1:u1<B)(hu:u<y1 * B+y0):(u * B+u1) / (y1 * B+y0)<B:=by
 rw[Nat.div_lt_iff_lt_mul (by omega)];have:=Nat.mul_le_mul_right B (show u+1≤y1 * B+y0 from hu);rw[Nat.succ_mul]at this;rw[Nat.mul_comm B];omega
theorem est_start{B u u1 y1 y0:Nat}(h1:u1<B)(hy1:B≤2 * y1)(hy0:y0<B)(hu:u<y1 * B+y0):Est B u u1 y1 y0 (u / y1) (u%y1):=by
 have hB:0<B:=by omega
 have hp:0<y1:=by omega
 refine⟨by rw[Nat.mul_comm];exact Nat.div_add_mod u y1,?_,?_⟩
 · rw[Nat.le_div_iff_mul_le hp];have h2:=Nat.div_mul_le_self (u * B+u1) (y1 * B+y0);generalize (u * B+u1) / (y1 * B+y0)=d at *;have e1:d * (y1 * B+y0)=d * y1 * B+d * y0:=by rw[Nat.mul_add,Nat.mul_assoc]
   rw[e1]at h2;rcases Nat.lt_or_ge u (d * y1)with h3 | h3
   · have h4:=Nat.mul_le_mul_right B (show u+1≤d * y1 from h3);rw[Nat.succ_mul]at h4;omega
   · exact h3
 · have : u / y1<B+2:=by
    rw[Nat.div_lt_iff_lt_mul hp];have e1:(B+2) * y1=y1 * B+2 * y1:=by rw[Nat.add_mul,Nat.mul_comm B]
    omega
   omega
theorem est_less{B u u1 y1 y0 q r:Nat}(h:Est B u u1 y1 y0 q r)(h1:u1<B)(hu:u<y1 * B+y0)(ht:B≤q∨B * r+u1<q * y0):1≤q∧Est B u u1 y1 y0 (q - 1) (r+y1):=by
 have hd:=est_digit h1 hu;have hlt:(u * B+u1) / (y1 * B+y0)<q:=by
  rcases ht with ht | ht
  · omega
  · rcases Nat.lt_or_ge ((u * B+u1) / (y1 * B+y0)) q with h' | h'
    · exact h'
    · have:=(est_test (B:=B) (u1:=u1) (y0:=y0) h.eq).2 ((est_true (by omega)).2 h');omega
 have h2:=h.eq;have h5:=h.le;have hge:(u * B+u1) / (y1 * B+y0)≤q - 1:=(by generalize (u * B+u1) / (y1 * B+y0)=d at *;omega);have hq1:1≤q:=Nat.lt_of_le_of_lt (Nat.zero_le _) hlt;refine⟨hq1,⟨?_,hge,by omega⟩⟩;obtain⟨k,rfl⟩:∃ k,q=k+1:=⟨q - 1,by omega⟩;rw[Nat.add_sub_cancel];rw[Nat.succ_mul]at h2;omega
theorem est_done{B u u1 y1 y0 q r:Nat}(h:Est B u u1 y1 y0 q r)(hy:0<y1 * B+y0)(ht:q * y0≤B * r+u1):q=(u * B+u1) / (y1 * B+y0):=
 Nat.le_antisymm ((est_true hy).1 ((est_test h.eq).1 ht)) h.ge
theorem est_break{B u u1 y1 y0 q r:Nat}(h:Est B u u1 y1 y0 q r)(hy:0<y1 * B+y0)(hy0:y0<B)(hr:B≤r)(hq:q≤B):q=(u * B+u1) / (y1 * B+y0):=by
 refine est_done h hy ?_;have h1:q * y0≤B * y0:=Nat.mul_le_mul_right _ hq;have h3:B * y0≤B * B:=Nat.mul_le_mul_left _ (by omega);have h2:B * B≤B * r:=Nat.mul_le_mul_left _ hr;omega
theorem two_digits(B N1 n1 n0 Y:Nat):((N1 * B+n1)%Y * B+n0)%Y=((N1 * B+n1) * B+n0)%Y:=by
 rw[Nat.add_mod,Nat.mod_mul_mod,←Nat.add_mod]
theorem scaled_rem(N y s:Nat):(N * 2 ^ s)%(y * 2 ^ s) / 2 ^ s=N%y:=by
 rw[Nat.mul_mod_mul_right,Nat.mul_div_cancel _ (Nat.pow_pos (by omega))]
theorem addr_add(b o j:Nat):(⟨b,o,none⟩:Addr).add j=⟨b,o+j,none⟩:=by unfold Addr.add;split<;>simp_all
def SlN(w:World)(A:Option Addr)(len cap:Nat)(l:List ByteArray):Prop:=
 l.length=len∧len≤cap∧cap≤9223372036854775807∧∃ b o,(0<len→A=some ⟨b,o,none⟩)∧∀ k s,l[k]? =some s→w.cell? ⟨b,o+k,none⟩=some (.string s)
theorem SlN.kept{B:Nat}{w w':World}(hb:Below B w w')(hB:w.heap.size≤B){A:Option Addr}{len cap:Nat}{l:List ByteArray}(h:SlN w A len cap l):SlN w' A len cap l:=
 let ⟨h1,h2,h3,b,o,h4,h5⟩:=h
 ⟨h1,h2,h3,b,o,h4,fun k e hk=>cell_kept hb hB (h5 k e hk)⟩
theorem SlN.head{w:World}{A:Option Addr}{len cap:Nat}{l:List ByteArray}(h:SlN w A len cap l)(h0:0<len):∃ b o,A=some ⟨b,o,none⟩:=
 let ⟨_,_,_,b,o,h4,_⟩:=h
 ⟨b,o,h4 h0⟩
theorem SlN.get?{w:World}{b o len cap:Nat}{l:List ByteArray}(h:SlN w (some ⟨b,o,none⟩) len cap l)(k:Nat){s:ByteArray}(hk:l[k]? =some s):w.cell? ⟨b,o+k,none⟩=some (.string s):=by
 obtain⟨h1,h2,h3,b',o',h4,h5⟩:=h;have hl:=(List.getElem?_eq_some_iff.1 hk).1;have:=h4 (by omega);simp only[Option.some.injEq,Addr.mk.injEq,and_true]at this;obtain⟨rfl,rfl⟩:=this;exact h5 k s hk
theorem SlN.cells{w:World}{ad:Addr}{len cap:Nat}{l:List ByteArray}(h:SlN w (some ad) len cap l):∀ j u,(l.map Value.string)[j]? =some u→w.cell? (ad.add j)=some u:=by
 intro j u hj;rw[List.getElem?_map,Option.map_eq_some_iff]at hj;obtain⟨s,hs,rfl⟩:=hj;have hlt:=(List.getElem?_eq_some_iff.1 hs).1;obtain⟨b,o,e⟩:=h.head (by have:=h.1;omega);cases e;rw[addr_add];exact h.get? j hs
theorem SlN.of_owns{w:World}{base:Nat}{T:TypeId}{v:Value}{n:Nat}{l:List ByteArray}(h:w.ownsRow base T 1 v n (l.map Value.string)):l.length=n∧∃ A cap,v=.slice A n cap∧SlN w A n cap l:=by
 have hl:=h.1;rw[List.length_map]at hl;have hln:l.length=n:=by omega
 refine⟨hln,?_⟩;rcases h.2 with⟨hv,h0⟩ | ⟨g,cap,cur,hv,hb,hh,hc,hm,hs,ht⟩
 · subst h0;have : l=[]:=List.length_eq_zero_iff.1 hln;subst this;exact⟨none,0,hv,rfl,Nat.le_refl _,by omega,0,0,fun h=>by omega,fun k e h=>by simp at h⟩
 · refine⟨_,cap,hv,hln,hc,by unfold maxLen at hm;exact hm,g,0,fun _=>rfl,fun k s hk=>?_⟩;have hcell:=h.cells (g:=g) (by rw[hv];rfl) k (.string s) (by rw[List.getElem?_map,hk];rfl);rw[addr_add]at hcell;exact hcell
theorem SlN.nil(w:World)(cap:Nat)(h:cap≤9223372036854775807)(A:Option Addr):SlN w A 0 cap []:=⟨rfl,Nat.zero_le _,h,0,0,fun h=>by omega,fun k e h=>by simp at h⟩
theorem strs_one(l:List ByteArray):∀ u∈l.map Value.string,u.oneCell'=true:=by
 intro u h;obtain⟨s,_,rfl⟩:=List.mem_map.1 h;rfl
def RetRow(T:TypeId)(size n:Nat)(vs:List Value)(w:World)(e:Ending)(w':World):Prop:=∃ v,e=.returned v∧w'.ownsRow w.heap.size T size v n vs∧Below w.heap.size w w'
theorem nat_info:(Tryz.prog.info? 22).map (fun i=>(i.zero,i.size,i.bytes))=some (some (.string ⟨#[]⟩),1,16):=by kernel_rfl
theorem below_dN{B:Nat}{w0 w:World}(h:Below B w0 w)(q:Nat):Below B w0 (w.drewN q):=h.trans ⟨rfl,rfl,rfl,Nat.le_refl _,fun _ _=>rfl⟩
theorem sln_alloc(w:World)(l:List ByteArray)(T:TypeId)(h:l.length≤9223372036854775807:=by decide):SlN (w.alloc (.cells (l.map Value.string).toArray T)) (some ⟨w.heap.size,0,none⟩) l.length l.length l:=by
 refine⟨rfl,Nat.le_refl _,h,w.heap.size,0,fun _=>rfl,fun k s hk=>?_⟩;rw[World.cell?_alloc_at (hn:=rfl),Nat.zero_add];simp[hk]
theorem own_alloc(w:World)(l:List ByteArray)(T:TypeId)(B:Nat)(hB:B≤w.heap.size)(h:l.length≤maxLen):(w.alloc (.cells (l.map Value.string).toArray T)).ownsRow B T 1 (.slice (some ⟨w.heap.size,0,none⟩) l.length l.length) l.length (l.map Value.string):=
 ⟨by simp,.inr ⟨w.heap.size,l.length,_,rfl,hB,heap_alloc_new w _,Nat.le_refl _,h,by simp,by rw[Nat.mul_one];exact List.take_of_length_le (by simp)⟩⟩
def RetB(B:Nat)(v:Value)(w:World)(e:Ending)(w':World):Prop:=e=.returned v∧Below B w w'
end Go.Proofs.YtmahgbhpdfbbjaaGreatDoor

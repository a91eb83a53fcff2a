import Derived.Test.YtdhnkmbjogmmkaaGreatDoorQOvr
set_option linter.unusedVariables false
set_option linter.unusedSimpArgs false
namespace Go.Proofs.YtdhnkmbjogmmkaaGreatDoor
def vN(f:Nat→Nat):Nat→Nat
 | 0=>0
 | n+1=>vN f n+f n * 256 ^ n
theorem vN_lt{f:Nat→Nat}:∀ {n:Nat},(∀ i,i<n→f i<256)→vN f n<256 ^ n
 | 0,_=>Nat.one_pos
 | n+1,h=>by
  have h1:=vN_lt (n:=n) (fun i hi=>h i (by omega));have h2:f n+1≤256:=h n (by omega);have h3:=Nat.mul_le_mul_right (256 ^ n) h2;unfold vN;rw[Nat.pow_succ];rw[Nat.add_mul]at h3;omega
theorem vN_congr{f g:Nat→Nat}:∀ {n:Nat},(∀ i,i<n→f i=g i)→vN f n=vN g n
 | 0,_=>rfl
 | n+1,h=>by unfold vN;rw[vN_congr (n:=n) (fun i hi=>h i (by omega)),h n (by omega)]
theorem vN_dig(v:Nat):∀ n,vN (dig v) n=v%256 ^ n
 | 0=>by rw[Nat.pow_zero,Nat.mod_one];rfl
 | n+1=>by
  unfold vN;rw[vN_dig v n,Nat.pow_succ,Nat.mod_mul,dig,Nat.mul_comm (256 ^ n)]
theorem vN_split(f:Nat→Nat)(j:Nat):∀ k,vN f (j+k)=vN f j+256 ^ j * vN (fun i=>f (j+i)) k
 | 0=>rfl
 | k+1=>by
  show vN f (j+k)+f (j+k) * 256 ^ (j+k)=_+256 ^ j * (vN (fun i=>f (j+i)) k+f (j+k) * 256 ^ k);rw[vN_split f j k,Nat.pow_add,Nat.mul_add,Nat.add_assoc];congr 1;congr 1;rw[Nat.mul_left_comm]
theorem vN_div{f:Nat→Nat}{j k:Nat}(h:∀ i,i<j→f i<256):vN f (j+k) / 256 ^ j=vN (fun i=>f (j+i)) k:=by
 rw[vN_split,Nat.add_mul_div_left _ _ (Nat.pow_pos (by decide)),Nat.div_eq_of_lt (vN_lt h),Nat.zero_add]
theorem dig_vN{f:Nat→Nat}{n:Nat}(h:∀ i,i<n→f i<256){i:Nat}(hi:i<n):dig (vN f n) i=f i:=by
 obtain⟨k,rfl⟩:∃ k,n=i+(1+k):=⟨n - i - 1,by omega⟩;unfold dig;rw[vN_div (fun j hj=>h j (by omega)),vN_split];show (0+f (i+0) * 256 ^ 0+256 ^ 1 * _)%256=_;rw[Nat.pow_one,Nat.add_mul_mod_self_left,Nat.zero_add,Nat.pow_zero,Nat.mul_one,Nat.add_zero];exact Nat.mod_eq_of_lt (h i (by omega))
theorem dig_scaled{v s i:Nat}(hs:s≤7):dig (v * 2 ^ s) (i+1)=dig v (i+1) * 2 ^ s%256+dig v i / 2 ^ (8 - s):=by
 unfold dig;have e:v * 2 ^ s / 256 ^ (i+1)=v / 256 ^ i / 2 ^ (8 - s):=by
  rw[Nat.pow_succ,show (256:Nat)=2 ^ (8 - s) * 2 ^ s from by rw[←Nat.pow_add,show 8 - s+s=8 from by omega],←Nat.mul_assoc,Nat.mul_div_mul_right _ _ (Nat.pow_pos (by decide)),Nat.div_div_eq_div_mul]
 have e2:v / 256 ^ (i+1)=v / 256 ^ i / 256:=by rw[Nat.pow_succ,Nat.div_div_eq_div_mul]
 rw[e,e2];generalize v / 256 ^ i=z
 match s,hs with
 | 0,_=>simp only[Nat.pow_zero,Nat.mul_one];omega
 | 1,_=>simp only[Nat.reducePow,Nat.reduceSub];omega
 | 2,_=>simp only[Nat.reducePow,Nat.reduceSub];omega
 | 3,_=>simp only[Nat.reducePow,Nat.reduceSub];omega
 | 4,_=>simp only[Nat.reducePow,Nat.reduceSub];omega
 | 5,_=>simp only[Nat.reducePow,Nat.reduceSub];omega
 | 6,_=>simp only[Nat.reducePow,Nat.reduceSub];omega
 | 7,_=>simp only[Nat.reducePow,Nat.reduceSub];omega
theorem dig_scaled0{v s:Nat}:dig (v * 2 ^ s) 0=dig v 0 * 2 ^ s%256:=by
 unfold dig;rw[Nat.pow_zero,Nat.div_one,Nat.div_one,Nat.mod_mul_mod]
theorem dig_back{v s i:Nat}(hs:s≤7):dig (v / 2 ^ s) i=(dig v i+dig v (i+1) * 256) / 2 ^ s%256:=by
 unfold dig;have e2:v / 256 ^ (i+1)=v / 256 ^ i / 256:=by rw[Nat.pow_succ,Nat.div_div_eq_div_mul]
 rw[e2,Nat.div_div_eq_div_mul,Nat.mul_comm,←Nat.div_div_eq_div_mul];generalize v / 256 ^ i=z
 match s,hs with
 | 0,_=>simp only[Nat.pow_zero,Nat.div_one];omega
 | 1,_=>simp only[Nat.reducePow];omega
 | 2,_=>simp only[Nat.reducePow];omega
 | 3,_=>simp only[Nat.reducePow];omega
 | 4,_=>simp only[Nat.reducePow];omega
 | 5,_=>simp only[Nat.reducePow];omega
 | 6,_=>simp only[Nat.reducePow];omega
 | 7,_=>simp only[Nat.reducePow];omega
theorem guess_ge{u d:Nat→Nat}{n:Nat}(hn:0<n)(hu:∀ i,i<n+1→u i<256)(hd:0<d (n - 1))(h:vN u (n+1)<256 * vN d n):vN u (n+1) / vN d n≤min ((u n * 256+u (n - 1)) / d (n - 1)) 255:=by
 obtain⟨m,rfl⟩:∃ m,n=m+1:=⟨n - 1,by omega⟩;rw[Nat.add_sub_cancel]at *;have hD:0<vN d (m+1):=by omega
 have h1:vN u (m+1+1) / vN d (m+1)<256:=by rw[Nat.div_lt_iff_lt_mul hD];omega
 refine Nat.le_min.2 ⟨?_,by omega⟩;rw[Nat.le_div_iff_mul_le hd];have h2:=Nat.div_mul_le_self (vN u (m+1+1)) (vN d (m+1));generalize vN u (m+1+1) / vN d (m+1)=q at *;have h3:vN u m<256 ^ m:=vN_lt (fun i hi=>hu i (by omega));have e1:vN u (m+1+1)=vN u m+(u (m+1) * 256+u m) * 256 ^ m:=by
  show vN u m+u m * 256 ^ m+u (m+1) * 256 ^ (m+1)=_
  rw[Nat.pow_succ];grind
 have e2:vN d (m+1)=vN d m+d m * 256 ^ m:=rfl;rw[e1,e2]at h2;have hP:0<256 ^ m:=Nat.pow_pos (by decide);generalize 256 ^ m=P at *;generalize u (m+1) * 256+u m=U at *;have h4:q * d m * P<(U+1) * P:=by
  have : q * (vN d m+d m * P)=q * vN d m+q * d m * P:=by rw[Nat.mul_add,Nat.mul_assoc]
  rw[Nat.add_mul];omega
 have:=Nat.lt_of_mul_lt_mul_right h4;omega
theorem ms_step{x g d r c b b2 P V1 V2 V3:Nat}(h:x+(c+g * d)%256+b=r+256 * b2)(ih:V1+g * V2=V3+(c+b) * P):(V1+x * P)+g * (V2+d * P)=(V3+r * P)+((c+g * d) / 256+b2) * (256 * P):=by
 have h2:x+g * d+c+b=r+((c+g * d) / 256+b2) * 256:=by omega
 generalize (c+g * d) / 256=c2 at *
 grind
theorem ab_step{x d r c P V1 V2 V3:Nat}(h:x=c+(r+d))(ih:V1+c * P=V3+V2):(V1+x%256 * P)+x / 256 * (256 * P)=(V3+r * P)+(V2+d * P):=by
 have h2:x%256+x / 256 * 256=c+(r+d):=by omega
 generalize x / 256=c2 at *;generalize x%256=c1 at *
 grind
theorem ld_round{f f':Nat→Nat}{A D n j L:Nat}(hf:∀ i,i<L→f i<256)(hL:j+n<L)(hD:0<D)(hDn:D<256 ^ n)(hV:vN f L=A%(D * 256 ^ (j+1)))(hlo:∀ k,k<j→f' k=f k)(hhi:∀ k,j+n<k→f' k=f k)
 (hw:vN (fun i=>f' (j+i)) (n+1)=vN (fun i=>f (j+i)) (n+1)%D):vN f' L=A%(D * 256 ^ j):=by
 obtain⟨k,rfl⟩:∃ k,L=j+((n+1)+k):=⟨L - j - n - 1,by omega⟩;have hPj:0<256 ^ j:=Nat.pow_pos (by decide);have hlt:vN f (j+((n+1)+k))<256 ^ (j+(n+1)):=(by rw[hV];have h1:A%(D * 256 ^ (j+1))<D * 256 ^ (j+1):=Nat.mod_lt _ (Nat.mul_pos hD (Nat.pow_pos (by decide)));have h2:D * 256 ^ (j+1)≤256 ^ n * 256 ^ (j+1):=Nat.mul_le_mul_right _ (Nat.le_of_lt hDn);rw[←Nat.pow_add]at h2;rw[show j+(n+1)=n+(j+1)from by omega];omega);have hup:vN (fun i=>f (j+((n+1)+i))) k=0:=(by have h1:=vN_div (f:=f) (j:=j+(n+1)) (k:=k) (fun i hi=>hf i (by omega));rw[Nat.add_assoc,Nat.div_eq_of_lt hlt]at h1;rw[h1];exact vN_congr (fun i _=>congrArg f (by omega)));have hup':vN (fun i=>f' (j+((n+1)+i))) k=0:=by rw[←hup];exact vN_congr (fun i _=>hhi _ (by omega))
 have e1:vN f' (j+((n+1)+k))=vN f j+256 ^ j * (vN (fun i=>f (j+i)) (n+1)%D):=(by rw[vN_split,vN_split,hup',Nat.mul_zero,Nat.add_zero,hw,vN_congr hlo]);have e2:vN f (j+((n+1)+k))=vN f j+256 ^ j * vN (fun i=>f (j+i)) (n+1):=(by rw[vN_split,vN_split (fun i=>f (j+i)),hup,Nat.mul_zero,Nat.add_zero]);have hl:vN f j<256 ^ j:=vN_lt (fun i hi=>hf i (by omega));rw[e1];have e3:A%(D * 256 ^ j)=(A%(D * 256 ^ (j+1)))%(D * 256 ^ j):=(by rw[Nat.pow_succ,←Nat.mul_assoc,Nat.mod_mul_right_mod]);rw[e3,←hV,e2];generalize vN (fun i=>f (j+i)) (n+1)=U;rw[Nat.mul_comm D,Nat.mod_mul,Nat.add_mul_mod_self_left,Nat.mod_eq_of_lt hl,Nat.add_mul_div_left _ _ hPj,Nat.div_eq_of_lt hl,Nat.zero_add]
theorem ld_digit{f:Nat→Nat}{A D n j L:Nat}(hf:∀ i,i<L→f i<256)(hL:j+n<L)(hD:0<D)(hDn:D<256 ^ n)(hV:vN f L=A%(D * 256 ^ (j+1))):vN (fun i=>f (j+i)) (n+1)=vN f L / 256 ^ j∧vN (fun i=>f (j+i)) (n+1)<256 * D∧vN (fun i=>f (j+i)) (n+1) / D=dig (A / D) j:=by
 obtain⟨k,rfl⟩:∃ k,L=j+((n+1)+k):=⟨L - j - n - 1,by omega⟩;have hPj:0<256 ^ j:=Nat.pow_pos (by decide);have h1:vN f (j+((n+1)+k))<D * 256 ^ (j+1):=by rw[hV];exact Nat.mod_lt _ (Nat.mul_pos hD (Nat.pow_pos (by decide)))
 have hlt:vN f (j+((n+1)+k))<256 ^ (j+(n+1)):=(by have h2:D * 256 ^ (j+1)≤256 ^ n * 256 ^ (j+1):=Nat.mul_le_mul_right _ (Nat.le_of_lt hDn);rw[←Nat.pow_add]at h2;rw[show j+(n+1)=n+(j+1)from by omega];omega);have hup:vN (fun i=>f (j+((n+1)+i))) k=0:=(by have h1:=vN_div (f:=f) (j:=j+(n+1)) (k:=k) (fun i hi=>hf i (by omega));rw[Nat.add_assoc,Nat.div_eq_of_lt hlt]at h1;rw[h1];exact vN_congr (fun i _=>congrArg f (by omega)));have e0:vN f (j+((n+1)+k)) / 256 ^ j=vN (fun i=>f (j+i)) (n+1):=(by rw[vN_div (fun i hi=>hf i (by omega)),vN_split (fun i=>f (j+i)),hup,Nat.mul_zero,Nat.add_zero]);have e1:vN (fun i=>f (j+i)) (n+1)<256 * D:=by
  rw[←e0,Nat.div_lt_iff_lt_mul hPj];rw[Nat.pow_succ]at h1
  grind
 refine⟨e0.symm,e1,?_⟩;rw[←e0,hV,Nat.div_div_eq_div_mul,Nat.pow_succ,←Nat.mul_assoc,Nat.mul_comm (256 ^ j) D,Nat.mod_mul_right_div_self];unfold dig;rw[Nat.div_div_eq_div_mul]
theorem ld_start{A B s n L:Nat}(hnL:n≤L)(hA:A<256 ^ L)(hB:256 ^ (n - 1)≤B)(hn:0<n):A * 2 ^ s=A * 2 ^ s%(B * 2 ^ s * 256 ^ (L - n+1)):=by
 refine(Nat.mod_eq_of_lt ?_).symm;have h1:256 ^ L≤B * 256 ^ (L - n+1):=by
  have:=Nat.mul_le_mul_right (256 ^ (L - n+1)) hB;rw[←Nat.pow_add,show n - 1+(L - n+1)=L from by omega]at this;exact this
 have hP:0<2 ^ s:=Nat.pow_pos (by decide);rw[Nat.mul_right_comm];exact Nat.mul_lt_mul_of_pos_right (by omega) hP
open Go.RowKit
theorem zi_get{n j:Nat}(h:j<n):(zi n)[j]? =some (.int .i64 0):=by
 unfold zi;rw[←Array.getElem?_toList,toList_madeCells_one,List.getElem?_replicate,if_pos h]
def RowI(w:World)(B n:Nat)(f:Nat→Nat):Prop:=∃ cur:Array Value,w.heap[B]? =some (.cells cur 3 (0,0))∧cur.size=n∧∀ j,j<n→cur[j]? =some (.int .i64 (f j))
theorem RowI.start{w:World}(n:Nat):RowI (w.alloc (.cells (zi n) 3)) w.heap.size n (fun _=>0):=⟨_,heap_alloc_new _ _,zi_size n,fun j h=>zi_get h⟩
theorem RowI.cell{w:World}{B n:Nat}{f:Nat→Nat}(h:RowI w B n f){k:Nat}(hk:k<n):w.cell? ⟨B,k,none⟩=some (.int .i64 (f k)):=by
 obtain⟨cur,h1,h2,h3⟩:=h;rw[Lib.cell_of_heap h1];exact h3 k hk
theorem RowI.free{w:World}{B n:Nat}{f:Nat→Nat}(h:RowI w B n f)(k:Nat):w.frozen? ⟨B,k,none⟩=false:=by
 obtain⟨cur,h1,h2,h3⟩:=h;exact Lib.frozen_of_heap h1 k
theorem RowI.lt{w:World}{B n:Nat}{f:Nat→Nat}(h:RowI w B n f):B<w.heap.size:=by
 obtain⟨cur,h1,_⟩:=h;exact block_lt h1
def upd(f:Nat→Nat)(k v:Nat):Nat→Nat:=fun j=>if j=k then v else f j
theorem upd_at(f:Nat→Nat)(k v:Nat):upd f k v k=v:=if_pos rfl
theorem upd_off(f:Nat→Nat){k v j:Nat}(h:¬ (j=k)):upd f k v j=f j:=if_neg h
theorem RowI.set{w:World}{B n k:Nat}{f:Nat→Nat}(h:RowI w B n f)(v:Nat):RowI (w.setCell ⟨B,k,none⟩ (.int .i64 v)) B n (upd f k v):=by
 obtain⟨cur,h1,h2,h3⟩:=h;refine⟨_,block_setCell h1 _,by rw[Array.size_setIfInBounds,h2],fun j hj=>?_⟩;rw[Array.getElem?_setIfInBounds];by_cases e:k=j
 · subst e;rw[if_pos rfl,if_pos (by omega),upd_at]
 · rw[if_neg e,upd_off f (by omega)];exact h3 j hj
theorem RowI.congr{w:World}{B n:Nat}{f g:Nat→Nat}(h:RowI w B n f)(e:∀ j,j<n→f j=g j):RowI w B n g:=by
 obtain⟨cur,h1,h2,h3⟩:=h;exact⟨cur,h1,h2,fun j hj=>by rw[←e j hj];exact h3 j hj⟩
theorem RowI.heap{w w':World}{B n:Nat}{f:Nat→Nat}(h:RowI w B n f)(e:w'.heap[B]? =w.heap[B]?):RowI w' B n f:=by
 obtain⟨cur,h1,h2⟩:=h;exact⟨cur,e.trans h1,h2⟩
def OutH(w:World)(B n j v:Nat):Prop:=∃ cur:Array Value,w.heap[B]? =some (.cells cur 5 (0,0))∧cur.size=n∧∀ k,j≤k→k<n→cur[n - 1 - k]? =some (.int .u8 (dig v k))
theorem OutH.start{w:World}(n v:Nat):OutH (w.alloc (.cells (zb n) 5)) w.heap.size n n v:=⟨_,heap_alloc_new _ _,zb_size n,fun j h h2=>by omega⟩
theorem OutH.cell{w:World}{B n j v:Nat}(h:OutH w B n j v){k:Nat}(hk:k<n):∃ u,w.cell? ⟨B,k,none⟩=some u:=by
 obtain⟨cur,h1,h2,h3⟩:=h;exact⟨_,by rw[Lib.cell_of_heap h1];exact Array.getElem?_eq_getElem (by omega)⟩
theorem OutH.free{w:World}{B n j v:Nat}(h:OutH w B n j v)(k:Nat):w.frozen? ⟨B,k,none⟩=false:=by
 obtain⟨cur,h1,h2,h3⟩:=h;exact Lib.frozen_of_heap h1 k
theorem OutH.step{w:World}{B n j v k:Nat}(h:OutH w B n (j+1) v)(hk:k+1+j=n):OutH (w.setCell ⟨B,k,none⟩ (.int .u8 (dig v j))) B n j v:=by
 obtain⟨cur,h1,h2,h3⟩:=h;refine⟨_,block_setCell h1 _,by rw[Array.size_setIfInBounds,h2],fun i hi hin=>?_⟩;rw[Array.getElem?_setIfInBounds];by_cases e:i=j
 · subst e;rw[if_pos (by omega),if_pos (by omega)]
 · rw[if_neg (by omega)];exact h3 i (by omega) hin
theorem OutH.out{w:World}{B n v:Nat}(h:OutH w B n 0 v):OutB w B n n v:=by
 obtain⟨cur,h1,h2,h3⟩:=h;exact⟨cur,h1,h2,fun j hj=>h3 j (Nat.zero_le _) hj⟩
theorem OutH.lt{w:World}{B n j v:Nat}(h:OutH w B n j v):B<w.heap.size:=by
 obtain⟨cur,h1,_⟩:=h;exact block_lt h1
theorem OutH.heap{w w':World}{B n j v:Nat}(h:OutH w B n j v)(e:w'.heap[B]? =w.heap[B]?):OutH w' B n j v:=by
 obtain⟨cur,h1,h2⟩:=h;exact⟨cur,e.trans h1,h2⟩
theorem OutB.heap{w w':World}{B n j v:Nat}(h:OutB w B n j v)(e:w'.heap[B]? =w.heap[B]?):OutB w' B n j v:=by
 obtain⟨cur,h1,h2⟩:=h;exact⟨cur,e.trans h1,h2⟩
structure LdS (w0 wr:World) (BD BR BQ n L m Y X j:Nat) (f:Nat→Nat):Prop where
 rD:RowI wr BD n (dig Y)
 rR:RowI wr BR L f
 dR:∀ p,p<L→f p<256
 rQ:OutH wr BQ m j X
 hB:Below w0.heap.size w0 wr
 h1:¬ (BD=BR)
 h2:¬ (BQ=BR)
 h3:w0.heap.size≤BR
 h4:¬ (BD=BQ)
 h5:w0.heap.size≤BQ
theorem LdS.drew{w0 wr:World}{BD BR BQ n L m Y X j:Nat}{f:Nat→Nat}(h:LdS w0 wr BD BR BQ n L m Y X j f):LdS w0 wr.drew BD BR BQ n L m Y X j f:=
 ⟨h.rD.heap rfl,h.rR.heap rfl,h.dR,h.rQ.heap rfl,h.hB.drew,h.h1,h.h2,h.h3,h.h4,h.h5⟩
theorem LdS.setR{w0 wr:World}{BD BR BQ n L m Y X j:Nat}{f:Nat→Nat}(h:LdS w0 wr BD BR BQ n L m Y X j f){k v:Nat}(hv:v<256):LdS w0 (wr.setCell ⟨BR,k,none⟩ (.int .i64 v)) BD BR BQ n L m Y X j (upd f k v):=by
 refine⟨h.rD.heap (heap_setCell_other _ _ _ _ h.h1),h.rR.set v,fun p hp=>?_,h.rQ.heap (heap_setCell_other _ _ _ _ h.h2),h.hB.setCell (p:=⟨BR,k,none⟩) h.h3 _,h.h1,h.h2,h.h3,h.h4,h.h5⟩;by_cases e:p=k
 · subst e;rw[upd_at];exact hv
 · rw[upd_off f e];exact h.dR p hp
theorem LdS.setQ{w0 wr:World}{BD BR BQ n L m Y X j:Nat}{f:Nat→Nat}(h:LdS w0 wr BD BR BQ n L m Y X (j+1) f){k:Nat}(hk:k+1+j=m):LdS w0 (wr.setCell ⟨BQ,k,none⟩ (.int .u8 (dig X j))) BD BR BQ n L m Y X j f:=
 ⟨h.rD.heap (heap_setCell_other _ _ _ _ h.h4),h.rR.heap (heap_setCell_other _ _ _ _ (fun e=>h.h2 e.symm)),h.dR,h.rQ.step hk,h.hB.setCell (p:=⟨BQ,k,none⟩) h.h5 _,h.h1,h.h2,h.h3,h.h4,h.h5⟩
structure MsI (n Y g j:Nat) (f f':Nat→Nat) (i c b:Nat):Prop where
 hi:i≤n
 hc:c≤255
 hb:b≤1
 off:∀ p,(p<j∨j+i≤p)→f' p=f p
 eq:vN (fun a=>f' (j+a)) i+g * vN (dig Y) i=vN (fun a=>f (j+a)) i+(c+b) * 256 ^ i
theorem MsI.start{n Y g j:Nat}(f:Nat→Nat):MsI n Y g j f f 0 0 0:=⟨Nat.zero_le _,by decide,by decide,fun _ _=>rfl,by simp[vN]⟩
theorem vN_upd(f:Nat→Nat)(j i x:Nat):vN (fun a=>upd f (j+i) x (j+a)) (i+1)=vN (fun a=>f (j+a)) i+x * 256 ^ i:=by
 show vN (fun a=>upd f (j+i) x (j+a)) i+upd f (j+i) x (j+i) * 256 ^ i=_;rw[upd_at,vN_congr (fun a ha=>upd_off f (show ¬ (j+a=j+i)by omega))]
theorem MsI.next{n Y g j:Nat}{f f':Nat→Nat}{i c b x b2:Nat}(h:MsI n Y g j f f' i c b)(hin:i<n)(hg:g≤255)(hb2:b2≤1)(hx:x+(c+g * dig Y i)%256+b=f (j+i)+256 * b2):MsI n Y g j f (upd f' (j+i) x) (i+1) ((c+g * dig Y i) / 256) b2:=by
 have hd:=dig_lt Y i;have h1:=h.hc;have h2:g * dig Y i≤255 * 255:=Nat.mul_le_mul hg (by omega);refine⟨hin,by omega,hb2,fun p hp=>?_,?_⟩
 · rw[upd_off f' (by omega)];exact h.off p (by omega)
 · have h3:=ms_step hx h.eq;rw[vN_upd,Nat.pow_succ,Nat.mul_comm (256 ^ i) 256];exact h3
structure AbI (n Y j:Nat) (f f':Nat→Nat) (i c:Nat):Prop where
 hi:i≤n
 hc:c≤1
 off:∀ p,(p<j∨j+i≤p)→f' p=f p
 eq:vN (fun a=>f' (j+a)) i+c * 256 ^ i=vN (fun a=>f (j+a)) i+vN (dig Y) i
theorem AbI.start{n Y j:Nat}(f:Nat→Nat):AbI n Y j f f 0 0:=⟨Nat.zero_le _,by decide,fun _ _=>rfl,by simp[vN]⟩
theorem AbI.next{n Y j:Nat}{f f':Nat→Nat}{i c x:Nat}(h:AbI n Y j f f' i c)(hin:i<n)(hf:f (j+i)<256)(hx:x=c+(f (j+i)+dig Y i)):AbI n Y j f (upd f' (j+i) (x%256)) (i+1) (x / 256):=by
 have hd:=dig_lt Y i;have h1:=h.hc;refine⟨hin,by omega,fun p hp=>?_,?_⟩
 · rw[upd_off f' (by omega)];exact h.off p (by omega)
 · have h3:=ab_step hx h.eq;rw[vN_upd,Nat.pow_succ,Nat.mul_comm (256 ^ i) 256];exact h3
structure TpI (n D U j:Nat) (f f':Nat→Nat) (g:Nat) (tp:Int):Prop where
 hg:g≤255
 ge:U / D≤g
 off:∀ p,(p<j∨j+n≤p)→f' p=f p
 eq:tp * ((256 ^ n:Nat):Int)+((vN (fun a=>f' (j+a)) n:Nat):Int)+((g * D:Nat):Int)=(U:Int)
theorem TpI.start{n Y U g j:Nat}{f f':Nat→Nat}{c b:Nat}(h:MsI n Y g j f f' n c b)(hY:Y<256 ^ n)(hg:g≤255)(hge:U / Y≤g)(hU:U=vN (fun a=>f (j+a)) (n+1)):TpI n Y U j f f' g ((f (j+n):Int) - (c:Int) - (b:Int)):=by
 refine⟨hg,hge,h.off,?_⟩;have h1:=h.eq;rw[vN_dig,Nat.mod_eq_of_lt hY]at h1;have h2:U=vN (fun a=>f (j+a)) n+f (j+n) * 256 ^ n:=hU;rw[h2];generalize 256 ^ n=P at *;generalize vN (fun a=>f (j+a)) n=V at *;generalize vN (fun a=>f' (j+a)) n=V' at *;generalize g * Y=G at *;have h3:(V':Int)+(G:Int)=(V:Int)+((c:Int)+(b:Int)) * (P:Int):=by exact_mod_cast h1
 push_cast
 grind
theorem TpI.bounds{n D U j:Nat}{f f':Nat→Nat}{g:Nat}{tp:Int}(h:TpI n D U j f f' g tp)(hf:∀ a,a<n→f' (j+a)<256)(hD:D<256 ^ n)(hU:U<256 * D):-257<tp∧tp<256:=by
 have h1:=h.eq;have h2:=vN_lt (f:=fun a=>f' (j+a)) (n:=n) hf;have h3:g * D≤255 * D:=Nat.mul_le_mul_right _ h.hg;generalize vN (fun a=>f' (j+a)) n=V at *;generalize g * D=G at *;generalize 256 ^ n=P at *;constructor
 · rcases Int.lt_or_le (-257) tp with h4 | h4
   · exact h4
   · exfalso;have:=Int.mul_le_mul_of_nonneg_right h4 (show (0:Int)≤(P:Int)from Int.natCast_nonneg _);omega
 · rcases Int.lt_or_le tp 256 with h4 | h4
   · exact h4
   · exfalso;have:=Int.mul_le_mul_of_nonneg_right h4 (show (0:Int)≤(P:Int)from Int.natCast_nonneg _);omega
theorem TpI.less{n D U j:Nat}{f f':Nat→Nat}{g:Nat}{tp:Int}(h:TpI n D U j f f' g tp)(hf:∀ a,a<n→f' (j+a)<256)(hD:0<D)(ht:tp<0):U / D<g:=by
 have h1:=h.eq;have h2:=vN_lt (f:=fun a=>f' (j+a)) (n:=n) hf;rw[Nat.div_lt_iff_lt_mul hD];generalize vN (fun a=>f' (j+a)) n=V at *;generalize g * D=G at *;generalize 256 ^ n=P at *;have:=Int.mul_le_mul_of_nonneg_right (show tp ≤ -1 by omega) (show (0:Int)≤(P:Int)from Int.natCast_nonneg _);omega
theorem TpI.next{n Y U j:Nat}{f f' f2:Nat→Nat}{g c:Nat}{tp:Int}(h:TpI n Y U j f f' (g+1) tp)(hY:Y<256 ^ n)(hl:U / Y<g+1)(h2:AbI n Y j f' f2 n c):TpI n Y U j f f2 g (tp+(c:Int)):=by
 have h3:=h.hg;refine⟨by omega,by omega,fun p hp=>(h2.off p hp).trans (h.off p hp),?_⟩;have h1:=h.eq;have h4:=h2.eq;rw[vN_dig,Nat.mod_eq_of_lt hY]at h4;generalize vN (fun a=>f' (j+a)) n=V at *;generalize vN (fun a=>f2 (j+a)) n=V2 at *;generalize 256 ^ n=P at *;have h5:(V2:Int)+(c:Int) * (P:Int)=(V:Int)+(Y:Int):=by exact_mod_cast h4
 push_cast at h1⊢
 grind
theorem TpI.done{n D U j:Nat}{f f':Nat→Nat}{g:Nat}{tp:Int}(h:TpI n D U j f f' g tp)(hf:∀ a,a<n→f' (j+a)<256)(hD:0<D)(hDn:D<256 ^ n)(ht:0≤tp):g=U / D∧tp=0∧vN (fun a=>f' (j+a)) n=U%D:=by
 have h1:=h.eq;have h0:=h.ge;have h2:=vN_lt (f:=fun a=>f' (j+a)) (n:=n) hf;have h3:g * D≤U:=(by have:=Int.mul_le_mul_of_nonneg_right ht (show (0:Int)≤((256 ^ n:Nat):Int)from Int.natCast_nonneg _);omega);have h4:g=U / D:=Nat.le_antisymm ((Nat.le_div_iff_mul_le hD).2 h3) h0;have h5:=Nat.div_add_mod U D;have h6:=Nat.mod_lt U hD;rw[←h4,Nat.mul_comm]at h5;generalize vN (fun a=>f' (j+a)) n=V at *;generalize g * D=G at *;generalize 256 ^ n=P at *;have h7:tp=0:=by
  rcases Int.lt_or_le 0 tp with h8 | h8
  · exfalso;have:=Int.mul_le_mul_of_nonneg_right (show 1≤tp by omega) (show (0:Int)≤(P:Int)from Int.natCast_nonneg _);omega
  · omega
 subst h7;exact⟨h4,rfl,by omega⟩
theorem dig_top{Y n:Nat}(h1:256 ^ n≤Y)(h2:Y<256 ^ (n+1)):0<dig Y n:=by
 unfold dig;have hP:0<256 ^ n:=Nat.pow_pos (by decide);rw[Nat.mod_eq_of_lt (by rw[Nat.div_lt_iff_lt_mul hP];rw[Nat.pow_succ]at h2;omega)];exact(Nat.le_div_iff_mul_le hP).2 (by omega)
theorem ld_next{f f':Nat→Nat}{A D n j L:Nat}(hf:∀ i,i<L→f i<256)(hL:j+n<L)(hD:0<D)(hDn:D<256 ^ n)(hV:vN f L=A%(D * 256 ^ (j+1)))(off:∀ p,(p<j∨j+n≤p)→f' p=f p)
 (hw:vN (fun a=>f' (j+a)) n=vN (fun a=>f (j+a)) (n+1)%D):vN (upd f' (j+n) 0) L=A%(D * 256 ^ j):=by
 refine ld_round hf hL hD hDn hV (fun k hk=>?_) (fun k hk=>?_) ?_
 · rw[upd_off f' (by omega)];exact off k (by omega)
 · rw[upd_off f' (by omega)];exact off k (by omega)
 · rw[vN_upd,hw,Nat.zero_mul,Nat.add_zero]
end Go.Proofs.YtdhnkmbjogmmkaaGreatDoor

import Derived.Test.YtdhnkmbjogmmkaaGreatDoorQMrC
set_option linter.unusedVariables false
set_option linter.unusedSimpArgs false
namespace Go.Proofs.YtdhnkmbjogmmkaaGreatDoor
set_option maxRecDepth 100000
open Go.RowKit Go.Lib
theorem mod_reducedA(x m:Nat)(hx8:x<256 ^ 128)(hm:m<256 ^ 128)(h0:0<m)(w:World):Calls Tryz.prog 44 #[.string (nS x),.string (nS m)] w (Ret (.string (nS (x%m))) w):=by
 have HD:=Hq (nat_DivModA x m hx8 hm h0);obtain⟨s,hs⟩:∃ s,nS x=s:=⟨_,rfl⟩;obtain⟨t,ht⟩:∃ t,nS m=t:=⟨_,rfl⟩;rw[hs,ht]at HD;rw[hs,ht];clear hs ht hm hx8;go_enter Tryz.func44,Tryz.ntmps44;go_wp2_with fail;refine(HD.out _).mono ?_;rintro e w1 ⟨rfl,hb⟩;have HB:=Hq hb;clear hb;go_wp2;go_ret;exact⟨rfl,HB.out⟩
abbrev bW:Nat:=4294967296
def vW(f:Nat→Nat):Nat→Nat
 | 0=>0
 | n+1=>vW f n+f n * bW ^ n
def dw(v i:Nat):Nat:=v / bW ^ i%bW
theorem bW_pos(n:Nat):0<bW ^ n:=Nat.pow_pos (by decide)
theorem dw_lt(v i:Nat):dw v i<bW:=Nat.mod_lt _ (by decide)
theorem vW_lt{f:Nat→Nat}:∀ {n:Nat},(∀ i,i<n→f i<bW)→vW f n<bW ^ n
 | 0,_=>Nat.one_pos
 | n+1,h=>by
  have h1:=vW_lt (n:=n) (fun i hi=>h i (by omega));have h2:f n+1≤bW:=h n (by omega);have h3:=Nat.mul_le_mul_right (bW ^ n) h2;unfold vW;rw[Nat.pow_succ,Nat.mul_comm (bW ^ n) bW];rw[Nat.add_mul]at h3;omega
theorem vW_congr{f g:Nat→Nat}:∀ {n:Nat},(∀ i,i<n→f i=g i)→vW f n=vW g n
 | 0,_=>rfl
 | n+1,h=>by unfold vW;rw[vW_congr (n:=n) (fun i hi=>h i (by omega)),h n (by omega)]
theorem vW_dw(v:Nat):∀ n,vW (dw v) n=v%bW ^ n
 | 0=>by rw[Nat.pow_zero,Nat.mod_one];rfl
 | n+1=>by
  unfold vW;rw[vW_dw v n,Nat.pow_succ,Nat.mod_mul,dw,Nat.mul_comm (bW ^ n)]
theorem vW_split(f:Nat→Nat)(j:Nat):∀ k,vW f (j+k)=vW f j+bW ^ j * vW (fun i=>f (j+i)) k
 | 0=>rfl
 | k+1=>by
  show vW f (j+k)+f (j+k) * bW ^ (j+k)=_+bW ^ j * (vW (fun i=>f (j+i)) k+f (j+k) * bW ^ k);rw[vW_split f j k,Nat.pow_add,Nat.mul_add,Nat.add_assoc];congr 1;congr 1;rw[Nat.mul_left_comm]
theorem vW_zero{f:Nat→Nat}:∀ {n:Nat},(∀ i,i<n→f i=0)→vW f n=0
 | 0,_=>rfl
 | n+1,h=>by unfold vW;rw[vW_zero (n:=n) (fun i hi=>h i (by omega)),h n (by omega),Nat.zero_mul]
theorem vW_div{f:Nat→Nat}{j k:Nat}(h:∀ i,i<j→f i<bW):vW f (j+k) / bW ^ j=vW (fun i=>f (j+i)) k:=by
 rw[vW_split,Nat.add_mul_div_left _ _ (bW_pos _),Nat.div_eq_of_lt (vW_lt h),Nat.zero_add]
theorem dw_vW{f:Nat→Nat}{n:Nat}(h:∀ i,i<n→f i<bW){i:Nat}(hi:i<n):dw (vW f n) i=f i:=by
 obtain⟨k,rfl⟩:∃ k,n=i+(1+k):=⟨n - i - 1,by omega⟩;unfold dw;rw[vW_div (fun j hj=>h j (by omega)),vW_split];show (0+f (i+0) * bW ^ 0+bW ^ 1 * _)%bW=_;rw[Nat.pow_one,Nat.add_mul_mod_self_left,Nat.zero_add,Nat.pow_zero,Nat.mul_one,Nat.add_zero];exact Nat.mod_eq_of_lt (h i (by omega))
theorem vW_eq{f:Nat→Nat}{n v:Nat}(hf:∀ i,i<n→f i<bW)(h:vW f n=v):∀ i,i<n→f i=dw v i:=fun i hi=>by rw[←h,dw_vW hf hi]
theorem vW_upd{f:Nat→Nat}{k x:Nat}:∀ {n:Nat},k<n→vW (upd f k x) n+f k * bW ^ k=vW f n+x * bW ^ k
 | n+1,h=>by
  unfold vW;by_cases e:k=n
  · subst e;rw[upd_at,vW_congr (g:=f) (fun i hi=>upd_off f (show ¬ i=k by omega))];omega
  · rw[upd_off f (show ¬ n=k by omega)];have:=vW_upd (f:=f) (k:=k) (x:=x) (n:=n) (by omega);omega
theorem vW_upd_off{f:Nat→Nat}{k x n:Nat}(h:n≤k):vW (upd f k x) n=vW f n:=vW_congr fun i hi=>upd_off f (show ¬ i=k by omega)
theorem vW_top{f:Nat→Nat}{n m:Nat}(h:n≤m)(hz:∀ i,n≤i→i<m→f i=0):vW f m=vW f n:=by
 obtain⟨k,rfl⟩:∃ k,m=n+k:=⟨m - n,by omega⟩;rw[vW_split,show vW (fun i=>f (n+i)) k=0 from vW_zero (fun i hi=>hz _ (by omega) (by omega)),Nat.mul_zero,Nat.add_zero]
theorem pr_step{V W x y o c P:Nat}{t:Nat}(ht:t=x * y+o+c):(V+t%bW * P)+t / bW * (bW * P)=(V+o * P)+x * (y * P)+c * P:=by
 have h:=Nat.div_add_mod t bW;have e:t%bW * P+t / bW * (bW * P)=t * P:=by
  calc t%bW * P+t / bW * (bW * P)=(bW * (t / bW)+t%bW) * P:=by rw[Nat.add_mul,Nat.mul_comm bW (t / bW),Nat.mul_assoc];omega
   _=t * P:=by rw[h]
 rw[Nat.add_assoc,e,ht,Nat.add_mul,Nat.add_mul,Nat.mul_assoc];omega
theorem pr_fit{x y o c:Nat}(hx:x<bW)(hy:y<bW)(ho:o<bW)(hc:c<bW):x * y+o+c<18446744073709551616:=by
 have h:=Nat.mul_le_mul (show x≤4294967295 by unfold bW at *;omega) (show y≤4294967295 by unfold bW at *;omega);unfold bW at *;omega
theorem sh_low{x s:Nat}(hs:s≤31):x * 2 ^ s%bW%2 ^ s=0:=by
 have e:bW=2 ^ (32 - s) * 2 ^ s:=by rw[←Nat.pow_add,show 32 - s+s=32 from by omega]
 rw[e,Nat.mul_mod_mul_right,Nat.mul_mod_left]
theorem sh_high{x s:Nat}(hx:x<bW)(hs:s≤31):x * 2 ^ s / bW<2 ^ s:=by
 rw[Nat.div_lt_iff_lt_mul (by decide),Nat.mul_comm (2 ^ s)];exact Nat.mul_lt_mul_of_pos_right hx (Nat.pow_pos (by decide))
theorem sh_fit{h l s:Nat}(hs:s≤31)(hh:h<2 ^ s)(hl:l<bW)(hd:l%2 ^ s=0):h+l<bW:=by
 have e:bW=2 ^ s * 2 ^ (32 - s):=by rw[←Nat.pow_add,show s+(32 - s)=32 from by omega]
 obtain⟨q,rfl⟩:∃ q,l=2 ^ s * q:=⟨l / 2 ^ s,by have:=Nat.div_add_mod l (2 ^ s);omega⟩;rw[e]at hl⊢;have h1:q<2 ^ (32 - s):=Nat.lt_of_mul_lt_mul_left hl;have h2:2 ^ s * (q+1)≤2 ^ s * 2 ^ (32 - s):=Nat.mul_le_mul_left _ h1;rw[Nat.mul_add,Nat.mul_one]at h2;omega
theorem dw_back{v s i:Nat}(hs:s≤31):dw (v / 2 ^ s) i=dw v i / 2 ^ s+dw v (i+1) * 2 ^ (32 - s)%bW:=by
 unfold dw;have e2:v / bW ^ (i+1)=v / bW ^ i / bW:=by rw[Nat.pow_succ,Nat.div_div_eq_div_mul]
 rw[e2,Nat.div_div_eq_div_mul,Nat.mul_comm,←Nat.div_div_eq_div_mul];generalize v / bW ^ i=z;have e:bW=2 ^ s * 2 ^ (32 - s):=by rw[←Nat.pow_add,show s+(32 - s)=32 from by omega]
 have h0:0<2 ^ s:=Nat.pow_pos (by decide);have h1:0<2 ^ (32 - s):=Nat.pow_pos (by decide);have hz:z=bW * (z / bW)+z%bW:=(Nat.div_add_mod z bW).symm;generalize z / bW=a at *;generalize hb:z%bW=b at *;have hbl:b<bW:=by rw[←hb];exact Nat.mod_lt _ (by decide)
 have e3:z / 2 ^ s=2 ^ (32 - s) * a+b / 2 ^ s:=(by rw[hz,e,Nat.mul_assoc,Nat.mul_add_div h0]);have hbs:b / 2 ^ s<2 ^ (32 - s):=by rw[Nat.div_lt_iff_lt_mul h0,Nat.mul_comm,←e];exact hbl
 rw[e3];generalize b / 2 ^ s=c at *;have h4:a%bW * 2 ^ (32 - s)%bW=a * 2 ^ (32 - s)%bW:=Nat.mod_mul_mod a _ bW;rw[h4];have h5:a * 2 ^ (32 - s)%bW%2 ^ (32 - s)=0:=by rw[e,Nat.mul_mod_mul_right];exact Nat.mul_mod_left _ _
 have h6:c+a * 2 ^ (32 - s)%bW<bW:=(by have hl:a * 2 ^ (32 - s)%bW<bW:=Nat.mod_lt _ (by decide);obtain⟨q,hq⟩:∃ q,a * 2 ^ (32 - s)%bW=2 ^ (32 - s) * q:=⟨_,(Nat.mul_div_cancel' (Nat.dvd_of_mod_eq_zero h5)).symm⟩;rw[hq]at hl⊢;rw[show bW=2 ^ (32 - s) * 2 ^ s from by rw[Nat.mul_comm];exact e]at hl⊢;have h1:q<2 ^ s:=Nat.lt_of_mul_lt_mul_left hl;have h2:2 ^ (32 - s) * (q+1)≤2 ^ (32 - s) * 2 ^ s:=Nat.mul_le_mul_left _ h1;rw[Nat.mul_add,Nat.mul_one]at h2;omega);rw[Nat.mul_comm (2 ^ (32 - s)) a,Nat.add_comm,Nat.add_mod,Nat.mod_eq_of_lt (show c<bW from by omega),Nat.mod_eq_of_lt h6]
set_option maxRecDepth 100000
open Go.RowKit
def RowU(w:World)(B n:Nat)(f:Nat→Nat):Prop:=∃ cur:Array Value,w.heap[B]? =some (.cells cur 130 (0,0))∧cur.size=n∧∀ j,j<n→cur[j]? =some (.int .u32 (f j))
theorem RowU.cell{w:World}{B n:Nat}{f:Nat→Nat}(h:RowU w B n f){k:Nat}(hk:k<n):w.cell? ⟨B,k,none⟩=some (.int .u32 (f k)):=by
 obtain⟨cur,h1,h2,h3⟩:=h;rw[Lib.cell_of_heap h1];exact h3 k hk
theorem RowU.free{w:World}{B n:Nat}{f:Nat→Nat}(h:RowU w B n f)(k:Nat):w.frozen? ⟨B,k,none⟩=false:=by
 obtain⟨cur,h1,h2,h3⟩:=h;exact Lib.frozen_of_heap h1 k
theorem RowU.lt{w:World}{B n:Nat}{f:Nat→Nat}(h:RowU w B n f):B<w.heap.size:=by
 obtain⟨cur,h1,_⟩:=h;exact block_lt h1
theorem RowU.set{w:World}{B n k:Nat}{f:Nat→Nat}(h:RowU w B n f)(v:Nat):RowU (w.setCell ⟨B,k,none⟩ (.int .u32 v)) B n (upd f k v):=by
 obtain⟨cur,h1,h2,h3⟩:=h;refine⟨_,block_setCell h1 _,by rw[Array.size_setIfInBounds,h2],fun j hj=>?_⟩;rw[Array.getElem?_setIfInBounds];by_cases e:k=j
 · subst e;rw[if_pos rfl,if_pos (by omega),upd_at]
 · rw[if_neg e,upd_off f (by omega)];exact h3 j hj
theorem RowU.congr{w:World}{B n:Nat}{f g:Nat→Nat}(h:RowU w B n f)(e:∀ j,j<n→f j=g j):RowU w B n g:=by
 obtain⟨cur,h1,h2,h3⟩:=h;exact⟨cur,h1,h2,fun j hj=>by rw[←e j hj];exact h3 j hj⟩
theorem RowU.heap{w w':World}{B n:Nat}{f:Nat→Nat}(h:RowU w B n f)(e:w'.heap[B]? =w.heap[B]?):RowU w' B n f:=by
 obtain⟨cur,h1,h2⟩:=h;exact⟨cur,e.trans h1,h2⟩
theorem RowU.next{w w':World}{B n:Nat}{f:Nat→Nat}(h:RowU w B n f)(hb:Below w.heap.size w w'):RowU w' B n f:=h.heap (hb.block _ h.lt)
def SlU(w:World)(A:Option Addr)(n c:Nat)(f:Nat→Nat):Prop:=
 n≤c∧c≤9223372036854775807∧(∀ i,i<n→f i<bW)∧∃ b o,(0<n→A=some ⟨b,o,none⟩)∧∀ k,k<n→w.cell? ⟨b,o+k,none⟩=some (.int .u32 (f k))
theorem SlU.kept{B:Nat}{w w':World}{A:Option Addr}{n c:Nat}{f:Nat→Nat}(h:SlU w A n c f)(hb:Below B w w')(hB:w.heap.size≤B):SlU w' A n c f:=
 let ⟨h1,h2,h3,b,o,h4,h5⟩:=h
 ⟨h1,h2,h3,b,o,h4,fun k hk=>cell_kept hb hB (h5 k hk)⟩
theorem SlU.cell{w:World}{A:Option Addr}{n c:Nat}{f:Nat→Nat}(h:SlU w A n c f){k:Nat}(hk:k<n):∃ b o,A=some ⟨b,o,none⟩∧w.cell? ⟨b,o+k,none⟩=some (.int .u32 (f k)):=by
 obtain⟨_,_,_,b,o,h4,h5⟩:=h;exact⟨b,o,h4 (by omega),h5 k hk⟩
theorem SlU.part{w:World}{A:Option Addr}{n c k:Nat}{f:Nat→Nat}(h:SlU w A n c f)(hk:k≤n):SlU w A k c f:=by
 obtain⟨h1,h2,h3,b,o,h4,h5⟩:=h;exact⟨by omega,h2,fun i hi=>h3 i (by omega),b,o,fun h0=>h4 (by omega),fun i hi=>h5 i (by omega)⟩
theorem RowU.sl{w:World}{B n:Nat}{f:Nat→Nat}(h:RowU w B n f)(hf:∀ i,i<n→f i<bW)(hn:n≤9223372036854775807):SlU w (some ⟨B,0,none⟩) n n f:=
 ⟨Nat.le_refl _,hn,hf,B,0,fun _=>rfl,fun k hk=>by rw[Nat.zero_add];exact h.cell hk⟩
def RetTr(A:Option Addr)(n c:Nat)(f:Nat→Nat)(w:World)(e:Ending)(w':World):Prop:=∃ m,m≤n∧e=.returned (.slice A m c)∧w'=w∧(∀ i,m≤i→i<n→f i=0)∧(0<m→0<f (m - 1))
theorem mod_trim(A:Option Addr)(n c:Nat)(f:Nat→Nat)(w:World)(h:SlU w A n c f):Calls Tryz.prog 108 #[.slice A n c] w (RetTr A n c f w):=by
 have H:=Hq h;have hc1:=h.1;have hc2:=h.2.1;clear h;go_enter Tryz.func108,Tryz.ntmps108;go_wp2;go_loopw [0] (fun s wr=>∃ m,m≤n∧s=.slice A m c∧wr=w∧(∀ i,m≤i→i<n→f i=0)) (fun s _=>match s with | .slice _ m _=>m | _=>0);case atStart=>exact⟨n,Nat.le_refl _,rfl,rfl,fun i h1 h2=>by omega⟩
 case round =>
  obtain⟨m,hm,rfl,rfl,hz⟩:=hrel;have HZ:=Hq hz;clear hz;rcases Nat.eq_zero_or_pos m with h0 | h0
  · subst h0;go_wp2;go_ret;exact⟨0,Nat.zero_le _,rfl,rfl,HZ.out,fun h=>absurd h (Nat.lt_irrefl _)⟩
  · obtain⟨k,rfl⟩:∃ k,m=k+1:=⟨m - 1,by omega⟩;obtain⟨b,o,rfl,hcell⟩:=H.out.cell (k:=k) (by omega);have hfk:=H.out.2.2.1 k (by omega);have hw1:IntKind.i64.wrap (k:Int)=k:=by rw[IntKind.wrap_i64];omega
    have hw2:(0:Int)≤(k:Int):=by omega
    have hw3:(k:Int)<(k:Int)+1:=by omega
    by_cases hf:f k=0
    · rw[hf]at hcell;have HF:=Hq hf;clear hf;go_wp2;refine⟨⟨k,by omega,rfl,trivial,fun i h1 h2=>?_⟩,by show k<k+1;omega⟩;rcases Nat.eq_or_lt_of_le h1 with e | e
      · rw[←e];exact HF.out
      · exact HZ.out i (by omega) h2
    · have hf2:((f k:Nat):Int)≠0:=by omega
      have HF:=Hq hf;clear hf;go_wp2;go_ret;exact⟨k+1,hm,rfl,rfl,HZ.out,fun _=>by rw[Nat.add_sub_cancel];exact Nat.pos_of_ne_zero HF.out⟩
end Go.Proofs.YtdhnkmbjogmmkaaGreatDoor

import Derived.Test.YtdhnkmbjogmmkaaGreatDoorQPoB
set_option linter.unusedVariables false
set_option linter.unusedSimpArgs false
namespace Go.Proofs.YtdhnkmbjogmmkaaGreatDoor
open Go.RowKit
def worksN(p b:Nat)(l:List Nat):Bool:=decide (b ^ (p - 1)%p=1)&&l.all fun f=>decide (b ^ ((p - 1) / f)%p≠0)&&decide (Nat.gcd (b ^ ((p - 1) / f)%p - 1) p=1)
def corC(p b:Nat)(l:List Nat):Bool:=(l.all fun f=>decide (f ∣ p - 1))&&(decide (p<(partN (p - 1) l).2 * (partN (p - 1) l).2)&&worksN p b l)
def corR(p b:Nat)(l:List Nat):Bool:=fndN (p - 1) [] (difN l)&&(decide (p<(partN (p - 1) (difN l)).2 * (partN (p - 1) (difN l)).2)&&worksN p b (difN l))
theorem works_dif(p b:Nat)(l:List Nat):worksN p b (difN l)=worksN p b l:=by
 unfold worksN;congr 1;rw[Bool.eq_iff_iff,List.all_eq_true,List.all_eq_true];exact⟨fun h x hx=>h x ((dif_mem l x).2 hx),fun h x hx=>h x ((dif_mem l x).1 hx)⟩
theorem cor_eq{p b:Nat}{l:List Nat}(hp:2≤p)(hl:∀ x∈l,PrN x):corR p b l=corC p b l:=by
 have hm:0<p - 1:=by omega
 unfold corR corC;rw[part_dif hm l hl,works_dif];congr 1;rw[Bool.eq_iff_iff,fnd_all hm hl,List.all_eq_true];exact⟨fun h x hx=>decide_eq_true (h x hx),fun h x hx=>of_decide_eq_true (h x hx)⟩
theorem cor_prn{p b:Nat}{l:List Nat}(hp:2≤p)(hl:∀ x∈l,PrN x)(h:corC p b l=true):PrN p:=by
 have hm:0<p - 1:=by omega
 unfold corC worksN at h;rw[Bool.and_eq_true,Bool.and_eq_true,Bool.and_eq_true,decide_eq_true_eq,decide_eq_true_eq]at h;obtain⟨_,hsq,h1,h2⟩:=h;obtain⟨a,_,_,d⟩:=part_spec hm l hl;refine pock (F:=(partN (p - 1) l).2) hp ⟨(partN (p - 1) l).1,by rw[Nat.mul_comm];exact a.symm⟩ hsq h1 ?_;intro r hr hd;have:=List.all_eq_true.1 h2 r (d r hr hd);rw[Bool.and_eq_true,decide_eq_true_eq,decide_eq_true_eq]at this;exact this
theorem root_cov{p r F:Nat}(h1:r * r≤p)(h2:p<(r+1) * (r+1)):decide (r<F)=decide (p<F * F):=by
 rw[decide_eq_decide];constructor
 · intro h;exact Nat.lt_of_lt_of_le h2 (Nat.mul_le_mul h h)
 · intro h;apply Classical.byContradiction;intro hc;have:=Nat.mul_le_mul (Nat.le_of_not_lt hc) (Nat.le_of_not_lt hc);omega
theorem all_same{n:Nat}{A B:Nat→Bool}(h:∀ i,i<n→(∀ j,j<i→A j=true)→A i=B i):(∀ i,i<n→A i=true)↔∀ i,i<n→B i=true:=by
 constructor
 · intro hA i hi;rw[←h i hi (fun j hj=>hA j (Nat.lt_trans hj hi))];exact hA i hi
 · intro hB i
   induction i using Nat.strongRecOn with
   | _ i ih =>
    intro hi;rw[h i hi (fun j hj=>ih j hj (Nat.lt_trans hj hi))];exact hB i hi
def stepN(C:Nat→Nat→List Nat→Bool)(P Bs:Nat→Nat)(F:Nat→List Nat)(i:Nat):Bool:=if F i=[]then decide (P i<65536)&&isN (P i)else C (P i) (Bs i) ((F i).map P)
theorem steps_prn{P Bs:Nat→Nat}{F:Nat→List Nat}{n:Nat}(h2:∀ i,i<n→2≤P i)(hF:∀ i,i<n→∀ k∈F i,k<i):∀ i,i<n→(∀ j,j<i→stepN corC P Bs F j=true)→∀ j,j<i→PrN (P j):=by
 intro i hi h j
 induction j using Nat.strongRecOn with
 | _ j ih =>
  intro hj;have hs:=h j hj;unfold stepN at hs;by_cases he:F j=[]
  · rw[if_pos he,Bool.and_eq_true,decide_eq_true_eq]at hs;exact prn_of_isN hs.1 hs.2
  · rw[if_neg he]at hs;refine cor_prn (h2 j (Nat.lt_trans hj hi)) ?_ hs;intro x hx;obtain⟨k,hk,e⟩:=List.mem_map.1 hx;have hkj:=hF j (Nat.lt_trans hj hi) k hk;rw[←e];exact ih k hkj (Nat.lt_trans hkj hj)
theorem step_fac{P Bs:Nat→Nat}{F:Nat→List Nat}{n:Nat}(h2:∀ i,i<n→2≤P i)(hF:∀ i,i<n→∀ k∈F i,k<i){i:Nat}(hi:i<n)(h:∀ j,j<i→stepN corC P Bs F j=true):∀ x∈(F i).map P,PrN x:=by
 intro x hx;obtain⟨k,hk,e⟩:=List.mem_map.1 hx;rw[←e];exact steps_prn h2 hF i hi h k (hF i hi k hk)
theorem steps_same{P Bs:Nat→Nat}{F:Nat→List Nat}{n:Nat}(h2:∀ i,i<n→2≤P i)(hF:∀ i,i<n→∀ k∈F i,k<i):(∀ i,i<n→stepN corC P Bs F i=true)↔∀ i,i<n→stepN corR P Bs F i=true:=by
 refine all_same fun i hi h=>?_;unfold stepN;by_cases he:F i=[]
 · rw[if_pos he,if_pos he]
 · rw[if_neg he,if_neg he];exact(cor_eq (h2 i hi) (step_fac h2 hF hi h)).symm
def RtW(a x k:Nat):Prop:=x * x≤a∧a<(x+2 ^ k) * (x+2 ^ k)
theorem RtW.start{a b k:Nat}(h:a<2 ^ b)(hb:b≤2 * k):RtW a 0 k:=by
 refine⟨Nat.zero_le _,?_⟩;rw[Nat.zero_add,←Nat.pow_add];exact Nat.lt_of_lt_of_le h (Nat.pow_le_pow_right (by decide) (by omega))
theorem RtW.yes{a x k:Nat}(h:RtW a x (k+1))(hy:(x+2 ^ k) * (x+2 ^ k)≤a):RtW a (x+2 ^ k) k:=by
 refine⟨hy,?_⟩;have:=h.2;rw[Nat.pow_succ,Nat.mul_two,←Nat.add_assoc]at this;exact this
theorem RtW.no{a x k:Nat}(h:RtW a x (k+1))(hy:¬ (x+2 ^ k) * (x+2 ^ k)≤a):RtW a x k:=⟨h.1,by omega⟩
theorem RtW.last{a x:Nat}(h:RtW a x 0):x * x≤a∧a<(x+1) * (x+1):=h
theorem RtW.cov{a x F:Nat}(h:RtW a x 0):decide (x<F)=decide (a<F * F):=root_cov h.1 h.2
def BxT(W:World)(B:Nat)(cs:Array Value)(T:TypeId):Prop:=W.heap[B]? =some (.cells cs T (0,0))
theorem BxT.new(W:World)(cs:Array Value)(T:TypeId):BxT (W.alloc (.cells cs T)) W.heap.size cs T:=heap_alloc_new _ _
theorem BxT.kept{W W':World}{K B:Nat}{cs:Array Value}{T:TypeId}(h:BxT W B cs T)(hb:Below K W W')(hB:B<K):BxT W' B cs T:=(hb.block B hB).trans h
theorem BxT.lt{W:World}{B:Nat}{cs:Array Value}{T:TypeId}(h:BxT W B cs T):B<W.heap.size:=block_lt h
theorem BxT.next{W W':World}{B:Nat}{cs:Array Value}{T:TypeId}(h:BxT W B cs T)(hb:Below W.heap.size W W'):BxT W' B cs T:=h.kept hb h.lt
theorem BxT.cell{W:World}{B:Nat}{cs:Array Value}{T:TypeId}(h:BxT W B cs T)(k:Nat):W.cell? ⟨B,k,none⟩=cs[k]?:=by
 rw[Lib.cell_of_heap h]
structure Stp where
 p:ByteArray
 b:ByteArray
 f:List Int
def SlI(w:World)(A:Option Addr)(len cap:Nat)(l:List Int):Prop:=
 l.length=len∧len≤cap∧cap≤9223372036854775807∧∃ b o,(0<len→A=some ⟨b,o,none⟩)∧∀(k:Nat) x,l[k]? =some x→w.cell? ⟨b,o+k,none⟩=some (.int .i64 x)
theorem SlI.kept{B:Nat}{w w':World}{A:Option Addr}{len cap:Nat}{l:List Int}(h:SlI w A len cap l)(hb:Below B w w')(hB:w.heap.size≤B):SlI w' A len cap l:=
 let ⟨h1,h2,h3,b,o,h4,h5⟩:=h
 ⟨h1,h2,h3,b,o,h4,fun k e hk=>cell_kept hb hB (h5 k e hk)⟩
theorem SlI.get{w:World}{A:Option Addr}{len cap:Nat}{l:List Int}(h:SlI w A len cap l){k:Nat}{x:Int}(hk:l[k]? =some x):∃ b o,A=some ⟨b,o,none⟩∧∀(j:Nat) y,l[j]? =some y→w.cell? ⟨b,o+j,none⟩=some (.int .i64 y):=by
 obtain⟨h1,_,_,b,o,h4,h5⟩:=h;have:=(List.getElem?_eq_some_iff.1 hk).1;exact⟨b,o,h4 (by omega),h5⟩
def StIn(w:World)(b p:Nat)(s:Stp)(A:Option Addr)(n c:Nat):Prop:=w.cell? ⟨b,p,none⟩=some (.string s.p)∧w.cell? ⟨b,p+1,none⟩=some (.string s.b)∧w.cell? ⟨b,p+2,none⟩=some (.slice A n c)∧SlI w A n c s.f
theorem StIn.kept{B:Nat}{w w':World}{b p n c:Nat}{s:Stp}{A:Option Addr}(h:StIn w b p s A n c)(hb:Below B w w')(hB:w.heap.size≤B):StIn w' b p s A n c:=
 ⟨cell_kept hb hB h.1,cell_kept hb hB h.2.1,cell_kept hb hB h.2.2.1,h.2.2.2.kept hb hB⟩
def SlT(w:World)(A:Option Addr)(len cap:Nat)(l:List Stp):Prop:=
 l.length=len∧len≤cap∧cap≤9223372036854775807∧∃ b o,(0<len→A=some ⟨b,o,none⟩)∧∀(k:Nat) s,l[k]? =some s→∃ A1 n1 c1,StIn w b (o+k * 3) s A1 n1 c1
theorem SlT.kept{B:Nat}{w w':World}{A:Option Addr}{len cap:Nat}{l:List Stp}(h:SlT w A len cap l)(hb:Below B w w')(hB:w.heap.size≤B):SlT w' A len cap l:=
 let ⟨h1,h2,h3,b,o,h4,h5⟩:=h
 ⟨h1,h2,h3,b,o,h4,fun k d hk=>let ⟨A1,n1,c1,h6⟩:=h5 k d hk;⟨A1,n1,c1,h6.kept hb hB⟩⟩
theorem SlT.get{w:World}{A:Option Addr}{len cap:Nat}{l:List Stp}(h:SlT w A len cap l){k:Nat}{s:Stp}(hk:l[k]? =some s):∃ b o,A=some ⟨b,o,none⟩∧∃ A1 n1 c1,StIn w b (o+k * 3) s A1 n1 c1:=by
 obtain⟨h1,_,_,b,o,h4,h5⟩:=h;have:=(List.getElem?_eq_some_iff.1 hk).1;exact⟨b,o,h4 (by omega),h5 k s hk⟩
theorem SlT.nil(w:World)(A:Option Addr)(cap:Nat)(h:cap≤9223372036854775807):SlT w A 0 cap []:=⟨rfl,Nat.zero_le _,h,0,0,fun h=>by omega,fun k e h=>by simp at h⟩
def okF(i:Nat)(l:List Int)(k:Nat):Prop:=∀ x,l[k]? =some x→0≤x∧x<(i:Int)∧∀ y,0<k→l[k - 1]? =some y→y<x
def wfP(s:Stp)(i:Nat):Prop:=nvalid s.p=true∧2≤num s.p∧((s.f=[]∧s.b.size=0)∨(s.f≠[]∧(∀ k,okF i s.f k)∧nvalid s.b=true∧2≤num s.b∧num s.b<num s.p))
noncomputable def wfB(s:Stp)(i:Nat):Bool:=@decide (wfP s i) (Classical.propDecidable _)
theorem wfB_true{s:Stp}{i:Nat}:wfB s i=true↔wfP s i:=by unfold wfB;exact @decide_eq_true_iff _ (Classical.propDecidable _)
theorem wfB_false{s:Stp}{i:Nat}(h:¬ wfP s i):wfB s i=false:=by rw[←Bool.not_eq_true,wfB_true];exact h
structure ShortC (l:List Stp):Prop where
 len:l.length≤20
 p:∀ s∈l,s.p.size≤16
 b:∀ s∈l,s.b.size≤16
 f:∀ s∈l,s.f.length≤20
def allW(l:List Stp):Prop:=∀ i s,l[i]? =some s→wfP s i
def primeN(l:List Stp)(i:Nat):Nat:=match l[i]? with | some s=>num s.p | none=>2
def baseC(l:List Stp)(i:Nat):Nat:=match l[i]? with | some s=>num s.b | none=>2
def facN(l:List Stp)(i:Nat):List Nat:=match l[i]? with | some s=>s.f.map Int.toNat | none=>[]
theorem primeN_at{l:List Stp}{i:Nat}{s:Stp}(h:l[i]? =some s):primeN l i=num s.p:=by unfold primeN;rw[h]
theorem baseC_at{l:List Stp}{i:Nat}{s:Stp}(h:l[i]? =some s):baseC l i=num s.b:=by unfold baseC;rw[h]
theorem facN_at{l:List Stp}{i:Nat}{s:Stp}(h:l[i]? =some s):facN l i=s.f.map Int.toNat:=by unfold facN;rw[h]
theorem allW.two{l:List Stp}(h:allW l)(i:Nat):2≤primeN l i:=by
 unfold primeN
 cases hi:l[i]? with
 | none=>exact Nat.le_refl _
 | some s=>exact(h i s hi).2.1
theorem allW.fac{l:List Stp}(h:allW l){i:Nat}{s:Stp}(hi:l[i]? =some s){k:Nat}{x:Int}(hk:s.f[k]? =some x):0≤x∧x<(i:Int):=by
 rcases(h i s hi).2.2 with⟨h0,_⟩ | ⟨_,h1,_⟩
 · rw[h0]at hk;cases hk
 · have:=h1 k x hk;exact⟨this.1,this.2.1⟩
theorem allW.lt{l:List Stp}(h:allW l)(i:Nat):∀ k∈facN l i,k<i:=by
 intro k hk;unfold facN at hk
 cases hi:l[i]? with
 | none=>rw[hi]at hk;cases hk
 | some s =>
  rw[hi]at hk;obtain⟨x,hx,rfl⟩:=List.mem_map.1 hk;obtain⟨j,hj⟩:=List.getElem?_of_mem hx;have:=h.fac hi hj;omega
theorem prime_lt{l:List Stp}(h:ShortC l)(i:Nat):primeN l i<256 ^ 16:=by
 unfold primeN
 cases hi:l[i]? with
 | none=>decide
 | some s=>exact Nat.lt_of_lt_of_le (num_lt_size s.p) (Nat.pow_le_pow_right (by decide) (h.p s (List.mem_of_getElem? hi)))
def stC(C:Nat→Nat→List Nat→Bool)(l:List Stp)(i:Nat):Bool:=stepN C (primeN l) (baseC l) (facN l) i
noncomputable def chkC(C:Nat→Nat→List Nat→Bool)(l:List Stp):Int:=@ite _ (allW l∧l≠[]) (Classical.propDecidable _) (@ite _ (∀ i,i<l.length→stC C l i=true) (Classical.propDecidable _) 0 12) 3
theorem chkC_form{C:Nat→Nat→List Nat→Bool}{l:List Stp}(h:¬ (allW l∧l≠[])):chkC C l=3:=by unfold chkC;rw[if_neg h]
theorem chkC_bad{C:Nat→Nat→List Nat→Bool}{l:List Stp}(h:allW l)(h0:l≠[])(h2:¬ ∀ i,i<l.length→stC C l i=true):chkC C l=12:=by unfold chkC;rw[if_pos ⟨h,h0⟩,if_neg h2]
theorem chkC_ok{C:Nat→Nat→List Nat→Bool}{l:List Stp}(h:allW l)(h0:l≠[])(h2:∀ i,i<l.length→stC C l i=true):chkC C l=0:=by unfold chkC;rw[if_pos ⟨h,h0⟩,if_pos h2]
theorem chkC_same(l:List Stp):chkC corR l=chkC corC l:=by
 by_cases h:allW l∧l≠[]
 · have hs:=steps_same (Bs:=baseC l) (n:=l.length) (fun i _=>h.1.two i) (fun i _=>h.1.lt i);by_cases h2:∀ i,i<l.length→stC corC l i=true
   · rw[chkC_ok h.1 h.2 h2,chkC_ok h.1 h.2 (hs.1 h2)]
   · rw[chkC_bad h.1 h.2 h2,chkC_bad h.1 h.2 (fun c=>h2 (hs.2 c))]
 · rw[chkC_form h,chkC_form h]
theorem part_mul{m:Nat}(hm:0<m)(l:List Nat):(∀ x∈l,2≤x)→(partN m l).1 * (partN m l).2=m∧0<(partN m l).1:=by
 refine snoc_ind (P:=fun l=>(∀ x∈l,2≤x)→(partN m l).1 * (partN m l).2=m∧0<(partN m l).1) ?_ ?_ l
 · intro _;exact⟨Nat.mul_one m,hm⟩
 · intro l f ih hp;obtain⟨a,b⟩:=ih (fun x hx=>hp x (List.mem_append_left _ hx));have hf:=hp f (List.mem_append_right _ List.mem_cons_self);rw[part_snoc];obtain⟨R,hR⟩:∃ u,(partN m l).1=u:=⟨_,rfl⟩;obtain⟨O,hO⟩:∃ u,(partN m l).2=u:=⟨_,rfl⟩;rw[hR]at a b;rw[hO]at a;unfold ptS;rw[hR,hO];obtain⟨a1,b1,_⟩:=cut_spec hf R R b nlr;refine⟨?_,b1⟩;show (cutN f R R).1 * (O * (cutN f R R).2)=m;rw[Nat.mul_left_comm,a1,Nat.mul_comm];exact a
structure Cut (f R O r o:Nat):Prop where
 pos:0<r
 rest:(cutN f r r).1=(cutN f R R).1
 out:o * (cutN f r r).2=O * (cutN f R R).2
 mul:r * o=R * O
theorem Cut.start{f R O:Nat}(h:0<R):Cut f R O R O:=⟨h,rfl,rfl,rfl⟩
theorem Cut.next{f R O r o:Nat}(h:Cut f R O r o)(hf:2≤f)(hd:r%f=0):Cut f R O (r / f) (o * f)∧r / f<r:=by
 have hlt:r / f<r:=Nat.div_lt_self h.pos hf;have hdv:=Nat.dvd_of_mod_eq_zero hd;have hp:0<r / f:=Nat.div_pos (Nat.le_of_dvd h.pos hdv) (by omega);obtain⟨k,hk⟩:∃ k,r=k+1:=⟨r - 1,by have:=h.pos;omega⟩;have e:cutN f r r=((cutN f (r / f) (r / f)).1,(cutN f (r / f) (r / f)).2 * f):=(by rw[show cutN f r r=cutN f (k+1) r from by rw[←hk],cut_step hd,cut_fuel hf k (r / f) (r / f) hp (by omega) nlr]);refine⟨⟨hp,?_,?_,?_⟩,hlt⟩
 · have:=h.rest;rw[e]at this;exact this
 · have:=h.out;rw[e]at this;rw[←this];show o * f * _=o * (_ * f);rw[Nat.mul_assoc,Nat.mul_comm f]
 · rw[←h.mul,Nat.mul_comm o f,←Nat.mul_assoc,Nat.div_mul_cancel hdv]
theorem Cut.stop{f R O r o:Nat}(h:Cut f R O r o)(hd:¬ r%f=0):r=(cutN f R R).1∧o=O * (cutN f R R).2:=by
 have h1:=h.rest;have h2:=h.out;rw[cut_stop hd]at h1 h2;exact⟨h1,by rw[←h2];exact(Nat.mul_one o).symm⟩
theorem part_take{m:Nat}{l:List Nat}{j f:Nat}(h:l[j]? =some f):partN m (l.take (j+1))=ptS (partN m (l.take j)) f:=by
 rw[List.take_add_one,h];exact part_snoc m _ f
theorem fnd_at{m:Nat}:∀(l d:List Nat),(fndN m d l=true↔∀ j f,l[j]? =some f→f ∣ (partN m (d++l.take j)).1)
 | [],d=>⟨fun _ j f h=>(by cases h),fun _=>rfl⟩
 | f::l,d=>by
  have ih:=fnd_at (m:=m) l (d++[f]);unfold fndN;rw[Bool.and_eq_true,decide_eq_true_eq,ih];constructor
  · rintro⟨h0,h1⟩ j x hx
    cases j with
    | zero =>
     cases hx;rw[List.take_zero,List.append_nil];exact h0
    | succ j =>
     have:=h1 j x (by simpa using hx);rw[List.append_assoc]at this;exact this
  · intro h;refine⟨by have:=h 0 f rfl;rw[List.take_zero,List.append_nil]at this;exact this,fun j x hx=>?_⟩;have:=h (j+1) x (by simpa using hx);rw[List.append_assoc];exact this
end Go.Proofs.YtdhnkmbjogmmkaaGreatDoor

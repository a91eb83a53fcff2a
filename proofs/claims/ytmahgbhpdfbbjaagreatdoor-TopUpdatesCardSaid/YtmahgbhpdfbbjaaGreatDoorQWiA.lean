import Derived.Test.YtmahgbhpdfbbjaaGreatDoorQEpI
set_option linter.unusedVariables false
set_option linter.unusedSimpArgs false
namespace Go.Proofs.YtmahgbhpdfbbjaaGreatDoor
theorem toList_injE{a b:ByteArray}(h:a.toList=b.toList):a=b:=by
 rw[ByteArray.toList_eq,ByteArray.toList_eq]at h;rw[←bstr_of a,←bstr_of b,h]
theorem memB_iff{l:List ByteArray}{x:ByteArray}:memB l x=true↔x∈l:=by
 unfold memB;rw[List.any_eq_true];constructor
 · rintro⟨y,hy,h⟩;rw[toList_injE (beq_iff_eq.1 h)];exact hy
 · intro h;exact⟨x,h,by simp⟩
theorem memB_no{l:List ByteArray}{x:ByteArray}:memB l x=false↔x∉l:=by
 rw[←memB_iff];simp
def mrg(na nb:ByteArray→Bool):List ByteArray→List ByteArray→List ByteArray
 | [],[]=>[]
 | [],y::ys=>if nb y then mrg na nb [] ys else y::mrg na nb [] ys
 | x::xs,[]=>if na x then mrg na nb xs []else x::mrg na nb xs []
 | x::xs,y::ys=>if num x<num y then(if na x then mrg na nb xs (y::ys)else x::mrg na nb xs (y::ys))else(if nb y then mrg na nb (x::xs) ys else y::mrg na nb (x::xs) ys)
termination_by a b=>a.length+b.length
def Asc(l:List ByteArray):Prop:=l.Pairwise (fun a b=>num a<num b)
theorem asc_of{l:List ByteArray}(h:ascB l=true):Asc l:=by
 have h1:=ascB_iff.1 h;have h2:∀(n i:Nat) a b,l[i]? =some a→l[i+n+1]? =some b→num a<num b:=by
  intro n
  induction n with
  | zero=>intro i a b ha hb;exact h1 i a b ha hb
  | succ n ih =>
   intro i a b ha hb;have hlt:=(List.getElem?_eq_some_iff.1 hb).1;obtain⟨c,hc⟩:∃ c,l[i+n+1]? =some c:=⟨_,List.getElem?_eq_getElem (by omega)⟩;have:=ih i a c ha hc;have:=h1 (i+n+1) c b hc hb;omega
 refine List.pairwise_iff_getElem.2 (fun i j hi hj hij=>?_);refine h2 (j - i - 1) i _ _ (List.getElem?_eq_getElem hi) ?_;rw[show i+(j - i - 1)+1=j by omega];exact List.getElem?_eq_getElem hj
theorem asc_sorted{K l:List ByteArray}(h:SortedK K l):Asc l:=by
 refine List.pairwise_iff_getElem.2 (fun i j hi hj hij=>?_);exact h.2.1 i j _ _ hij (List.getElem?_eq_getElem hi) (List.getElem?_eq_getElem hj)
theorem Asc.filter{l:List ByteArray}(h:Asc l)(p:ByteArray→Bool):Asc (l.filter p):=List.Pairwise.filter p h
theorem Asc.nodup{l:List ByteArray}(h:Asc l):l.Nodup:=List.Pairwise.imp (fun {a b} hlt e=>by subst e;exact Nat.lt_irrefl _ hlt) h
theorem Asc.unique{l l':List ByteArray}(h:Asc l)(h':Asc l')(hm:∀ x,x∈l↔x∈l'):l=l':=by
 have hp:l.Perm l':=(List.perm_ext_iff_of_nodup h.nodup h'.nodup).2 hm;exact List.Perm.eq_of_pairwise (le:=fun a b=>num a<num b) (fun a b _ _ h1 h2=>by omega) h h' hp
theorem mem_mrg(na nb:ByteArray→Bool)(a b:List ByteArray)(x:ByteArray):x∈mrg na nb a b↔(x∈a∧na x=false)∨(x∈b∧nb x=false):=by
 fun_induction mrg na nb a b with
 | case1=>simp
 | case2 y ys h ih => rw [ih]; simp only [List.mem_cons, List.not_mem_nil, false_and, false_or]; constructor
                      · rintro⟨h1,h2⟩;exact⟨.inr h1,h2⟩
                      · rintro⟨rfl | h1,h2⟩
                        · rw[h]at h2;cases h2
                        · exact⟨h1,h2⟩
 | case3 y ys h ih => rw [List.mem_cons, ih]; simp only [List.mem_cons, List.not_mem_nil, false_and, false_or]; constructor
                      · rintro(rfl | ⟨h1,h2⟩)
                        · exact⟨.inl rfl,by simpa using h⟩
                        · exact⟨.inr h1,h2⟩
                      · rintro⟨rfl | h1,h2⟩
                        · exact .inl rfl
                        · exact .inr ⟨h1,h2⟩
 | case4 y ys h ih => rw [ih]; simp only [List.mem_cons, List.not_mem_nil, false_and, or_false]; constructor
                      · rintro⟨h1,h2⟩;exact⟨.inr h1,h2⟩
                      · rintro⟨rfl | h1,h2⟩
                        · rw[h]at h2;cases h2
                        · exact⟨h1,h2⟩
 | case5 y ys h ih => rw [List.mem_cons, ih]; simp only [List.mem_cons, List.not_mem_nil, false_and, or_false]; constructor
                      · rintro(rfl | ⟨h1,h2⟩)
                        · exact⟨.inl rfl,by simpa using h⟩
                        · exact⟨.inr h1,h2⟩
                      · rintro⟨rfl | h1,h2⟩
                        · exact .inl rfl
                        · exact .inr ⟨h1,h2⟩
 | case6 z zs y ys hlt h ih => rw [ih]; simp only [List.mem_cons]; constructor
                               · rintro(⟨h1,h2⟩ | h1)
                                 · exact .inl ⟨.inr h1,h2⟩
                                 · exact .inr h1
                               · rintro(⟨rfl | h1,h2⟩ | h1)
                                 · rw[h]at h2;cases h2
                                 · exact .inl ⟨h1,h2⟩
                                 · exact .inr h1
 | case7 z zs y ys hlt h ih => rw [List.mem_cons, ih]; simp only [List.mem_cons]; constructor
                               · rintro(rfl | ⟨h1,h2⟩ | h1)
                                 · exact .inl ⟨.inl rfl,by simpa using h⟩
                                 · exact .inl ⟨.inr h1,h2⟩
                                 · exact .inr h1
                               · rintro(⟨rfl | h1,h2⟩ | h1)
                                 · exact .inl rfl
                                 · exact .inr (.inl ⟨h1,h2⟩)
                                 · exact .inr (.inr h1)
 | case8 z zs y ys hlt h ih => rw [ih]; simp only [List.mem_cons]; constructor
                               · rintro(h1 | ⟨h1,h2⟩)
                                 · exact .inl h1
                                 · exact .inr ⟨.inr h1,h2⟩
                               · rintro(h1 | ⟨rfl | h1,h2⟩)
                                 · exact .inl h1
                                 · rw[h]at h2;cases h2
                                 · exact .inr ⟨h1,h2⟩
 | case9 z zs y ys hlt h ih => rw [List.mem_cons, ih]; simp only [List.mem_cons]; constructor
                               · rintro(rfl | h1 | ⟨h1,h2⟩)
                                 · exact .inr ⟨.inl rfl,by simpa using h⟩
                                 · exact .inl h1
                                 · exact .inr ⟨.inr h1,h2⟩
                               · rintro(h1 | ⟨rfl | h1,h2⟩)
                                 · exact .inr (.inl h1)
                                 · exact .inl rfl
                                 · exact .inr (.inr ⟨h1,h2⟩)
theorem asc_mrg(na nb:ByteArray→Bool)(a b:List ByteArray)(ha:Asc a)(hb:Asc b)(hne:∀ x∈a,∀ y∈b,num x≠num y):Asc (mrg na nb a b):=by
 fun_induction mrg na nb a b with
 | case1=>exact List.Pairwise.nil
 | case2 y ys h ih=>exact ih ha (List.pairwise_cons.1 hb).2 (fun x hx=>by cases hx)
 | case3 y ys h ih =>
  refine List.pairwise_cons.2 ⟨fun z hz=>?_,ih ha (List.pairwise_cons.1 hb).2 (fun x hx=>by cases hx)⟩;rw[mem_mrg]at hz;rcases hz with⟨hz,_⟩ | ⟨hz,_⟩
  · cases hz
  · exact(List.pairwise_cons.1 hb).1 z hz
 | case4 y ys h ih=>exact ih (List.pairwise_cons.1 ha).2 hb (fun x hx y hy=>by cases hy)
 | case5 y ys h ih =>
  refine List.pairwise_cons.2 ⟨fun z hz=>?_,ih (List.pairwise_cons.1 ha).2 hb (fun x hx y hy=>by cases hy)⟩;rw[mem_mrg]at hz;rcases hz with⟨hz,_⟩ | ⟨hz,_⟩
  · exact(List.pairwise_cons.1 ha).1 z hz
  · cases hz
 | case6 x xs y ys hlt h ih=>exact ih (List.pairwise_cons.1 ha).2 hb (fun u hu=>hne u (List.mem_cons_of_mem _ hu))
 | case7 x xs y ys hlt h ih =>
  refine List.pairwise_cons.2 ⟨fun z hz=>?_,ih (List.pairwise_cons.1 ha).2 hb (fun u hu=>hne u (List.mem_cons_of_mem _ hu))⟩;rw[mem_mrg]at hz;rcases hz with⟨hz,_⟩ | ⟨hz,_⟩
  · exact(List.pairwise_cons.1 ha).1 z hz
  · rcases List.mem_cons.1 hz with rfl | hz
    · exact hlt
    · have:=(List.pairwise_cons.1 hb).1 z hz;omega
 | case8 x xs y ys hlt h ih=>exact ih ha (List.pairwise_cons.1 hb).2 (fun u hu v hv=>hne u hu v (List.mem_cons_of_mem _ hv))
 | case9 x xs y ys hlt h ih =>
  refine List.pairwise_cons.2 ⟨fun z hz=>?_,ih ha (List.pairwise_cons.1 hb).2 (fun u hu v hv=>hne u hu v (List.mem_cons_of_mem _ hv))⟩;have hxy:=hne x List.mem_cons_self y List.mem_cons_self;rw[mem_mrg]at hz;rcases hz with⟨hz,_⟩ | ⟨hz,_⟩
  · rcases List.mem_cons.1 hz with rfl | hz
    · omega
    · have:=(List.pairwise_cons.1 ha).1 z hz;omega
  · exact(List.pairwise_cons.1 hb).1 z hz
def ind(l:List ByteArray)(x:ByteArray):Int:=if memB l x=true then 1 else 0
def chg(a b:Dl)(x:ByteArray):Int:=ind a.ad x - ind a.rm x+ind b.ad x - ind b.rm x
def Dl.zero:Dl:=⟨0,0,[],[],⟨#[]⟩,⟨#[]⟩,⟨#[]⟩,⟨#[]⟩⟩
def clash(a b:Dl):Bool:=a.ad.any (memB b.ad)||a.rm.any (memB b.rm)
def jn(a b:Dl):Dl×Int:=
 if a.msg.2≠0 then(Dl.zero,a.msg.2)else if b.msg.2≠0 then(Dl.zero,b.msg.2)else if a.to≠b.fr then(Dl.zero,21)else if a.af≠b.be then(Dl.zero,1)
 else if clash a b=true then(Dl.zero,8)
 else(⟨a.fr,b.to,mrg (memB b.rm) (memB a.rm) a.ad b.ad,mrg (memB b.ad) (memB a.ad) a.rm b.rm,a.be,b.af,⟨#[]⟩,⟨#[]⟩⟩,0)
theorem Dl.msg_ok{d:Dl}(h:d.msg.2=0):d.form=0:=by
 unfold Dl.msg at h;by_cases h0:d.form=0
 · exact h0
 · rw[if_neg h0]at h;exact absurd h h0
structure Dl.Good (d:Dl):Prop where
 vad:∀ y∈d.ad,nvalid y=true
 vrm:∀ y∈d.rm,nvalid y=true
 aad:Asc d.ad
 arm:Asc d.rm
 dis:∀ x∈d.ad,x∉d.rm
theorem Dl.good{d:Dl}(h:d.form=0):d.Good:=by
 obtain⟨hv,_,ht,_⟩:=d.form_ok h;unfold Dl.twice at ht;simp only[Bool.or_eq_false_iff,Bool.not_eq_false']at ht;refine⟨d.okN_ad hv,d.okN_rm hv,asc_of ht.1.1,asc_of ht.1.2,fun x hx hr=>?_⟩;have:=List.any_eq_false.1 ht.2 x hx;rw[memB_iff]at this;exact this hr
theorem ind_in{l:List ByteArray}{x:ByteArray}(h:x∈l):ind l x=1:=if_pos (memB_iff.2 h)
theorem ind_out{l:List ByteArray}{x:ByteArray}(h:x∉l):ind l x=0:=if_neg (fun h'=>h (memB_iff.1 h'))
theorem ind_cases(l:List ByteArray)(x:ByteArray):(x∈l∧ind l x=1)∨(x∉l∧ind l x=0):=by
 by_cases h:x∈l
 · exact .inl ⟨h,ind_in h⟩
 · exact .inr ⟨h,ind_out h⟩
theorem clash_iff{a b:Dl}(ha:a.Good)(hb:b.Good):clash a b=true↔∃ x,x∈a.ad++a.rm++b.ad++b.rm∧(chg a b x=2∨chg a b x = -2):=by
 unfold clash;rw[Bool.or_eq_true,List.any_eq_true,List.any_eq_true];constructor
 · rintro(⟨x,hx,h⟩ | ⟨x,hx,h⟩)<;>rw[memB_iff]at h
   · refine⟨x,by simp[hx],.inl ?_⟩;unfold chg;rw[ind_in hx,ind_out (ha.dis x hx),ind_in h,ind_out (hb.dis x h)];rfl
   · refine⟨x,by simp[hx],.inr ?_⟩;unfold chg;rw[ind_in hx,ind_out (fun h'=>ha.dis x h' hx),ind_in h,ind_out (fun h'=>hb.dis x h' h)];rfl
 · rintro⟨x,_,h⟩;unfold chg at h;rcases ind_cases a.ad x with⟨h1,e1⟩ | ⟨h1,e1⟩<;>rcases ind_cases a.rm x with⟨h2,e2⟩ | ⟨h2,e2⟩<;>rcases ind_cases b.ad x with⟨h3,e3⟩ | ⟨h3,e3⟩<;>rcases ind_cases b.rm x with⟨h4,e4⟩ | ⟨h4,e4⟩<;>rw[e1,e2,e3,e4]at h<;>
    first
    | (exfalso;omega)
    | exact .inl ⟨x,h1,memB_iff.2 h3⟩
    | exact .inr ⟨x,h2,memB_iff.2 h4⟩
theorem jn_lists{a b:Dl}(ha:a.Good)(hb:b.Good)(hc:clash a b=false){K l:List ByteArray}(hK:∀ s,s∈K↔s∈a.ad++a.rm++b.ad++b.rm)(hl:SortedK K l) :
 l.filter (fun x=>decide (chg a b x=1))=mrg (memB b.rm) (memB a.rm) a.ad b.ad∧l.filter (fun x=>decide (chg a b x = -1))=mrg (memB b.ad) (memB a.ad) a.rm b.rm:=by
 unfold clash at hc;rw[Bool.or_eq_false_iff]at hc;have c1:∀ x∈a.ad,x∉b.ad:=fun x hx h=>List.any_eq_false.1 hc.1 x hx (memB_iff.2 h);have c2:∀ x∈a.rm,x∉b.rm:=fun x hx h=>List.any_eq_false.1 hc.2 x hx (memB_iff.2 h);have hmem:∀ x,x∈l↔x∈a.ad++a.rm++b.ad++b.rm:=fun x=>(hl.2.2 x).trans (hK x);constructor
 · refine Asc.unique ((asc_sorted hl).filter _) (asc_mrg _ _ _ _ ha.aad hb.aad (fun x hx y hy e=>?_)) (fun x=>?_)
   · have:=num_inj (ha.vad x hx) (hb.vad y hy) e;subst this;exact c1 x hx hy
   · rw[List.mem_filter,hmem,mem_mrg,memB_no,memB_no,decide_eq_true_eq];simp only[List.mem_append];unfold chg;have d1:=ha.dis x;have d2:=hb.dis x;have d3:=c1 x;have d4:=c2 x;rcases ind_cases a.ad x with⟨h1,e1⟩ | ⟨h1,e1⟩<;>rcases ind_cases a.rm x with⟨h2,e2⟩ | ⟨h2,e2⟩<;>rcases ind_cases b.ad x with⟨h3,e3⟩ | ⟨h3,e3⟩<;>rcases ind_cases b.rm x with⟨h4,e4⟩ | ⟨h4,e4⟩<;>rw[e1,e2,e3,e4]<;>simp_all
 · refine Asc.unique ((asc_sorted hl).filter _) (asc_mrg _ _ _ _ ha.arm hb.arm (fun x hx y hy e=>?_)) (fun x=>?_)
   · have:=num_inj (ha.vrm x hx) (hb.vrm y hy) e;subst this;exact c2 x hx hy
   · rw[List.mem_filter,hmem,mem_mrg,memB_no,memB_no,decide_eq_true_eq];simp only[List.mem_append];unfold chg;have d1:=ha.dis x;have d2:=hb.dis x;have d3:=c1 x;have d4:=c2 x;rcases ind_cases a.ad x with⟨h1,e1⟩ | ⟨h1,e1⟩<;>rcases ind_cases a.rm x with⟨h2,e2⟩ | ⟨h2,e2⟩<;>rcases ind_cases b.ad x with⟨h3,e3⟩ | ⟨h3,e3⟩<;>rcases ind_cases b.rm x with⟨h4,e4⟩ | ⟨h4,e4⟩<;>rw[e1,e2,e3,e4]<;>simp_all
structure EIw (a b r0 r1:Nat) (x0 x1 y0 y1:Int):Prop where
 e0:(a:Int) * x0+b * y0=r0
 e1:(a:Int) * x1+b * y1=r1
 bx:x1.natAbs * r0+x0.natAbs * r1=b
 bY:y1.natAbs * r0+y0.natAbs * r1=a
 sx:(x0≤0∧0≤x1)∨(0≤x0∧x1≤0)
 sy:(y0≤0∧0≤y1)∨(0≤y0∧y1≤0)
 gc:Nat.gcd r0 r1=Nat.gcd a b
 pos:0<r0
 lx:x0.natAbs * r0<b∨r1=b
 lt:x1=0∨r1<r0
theorem EIw.start{a b:Nat}(ha:0<a):EIw a b a b 1 0 0 1:=
 ⟨by simp,by simp,by simp,by simp,.inr ⟨by decide,by decide⟩,.inl ⟨by decide,by decide⟩,rfl,ha,.inr rfl,.inl rfl⟩
theorem EIw.step{a b r0 r1:Nat}{x0 x1 y0 y1:Int}(hb:0<b)(h:EIw a b r0 r1 x0 x1 y0 y1)(h1:0<r1):EIw a b r1 (r0%r1) x1 (x0 - (r0 / r1:Nat) * x1) y1 (y0 - (r0 / r1:Nat) * y1):=by
 have ax:=abs_step (q:=r0 / r1) h.sx;have ay:=abs_step (q:=r0 / r1) h.sy;have em:((r0%r1:Nat):Int)=r0 - (r0 / r1:Nat) * r1:=by
  have:=Nat.div_add_mod r0 r1;have e:((r1 * (r0 / r1)+r0%r1:Nat):Int)=r0:=by rw[this]
  rw[Int.natCast_add,Int.natCast_mul]at e;rw[Int.mul_comm]at e;omega
 refine⟨h.e1,?_,?_,?_,ax.2,ay.2,?_,h1,.inl ?_,.inr (Nat.mod_lt _ h1)⟩
 · rw[em,←h.e0,←h.e1,Int.mul_sub,Int.mul_sub,Int.mul_add];rw[←Int.mul_assoc (a:Int),Int.mul_comm (a:Int) ((r0 / r1:Nat):Int),Int.mul_assoc,←Int.mul_assoc (b:Int),Int.mul_comm (b:Int) ((r0 / r1:Nat):Int),Int.mul_assoc];omega
 · rw[ax.1,bez_step h1];exact h.bx
 · rw[ay.1,bez_step h1];exact h.bY
 · rw[←h.gc,Nat.gcd_comm r1,←Nat.gcd_rec,Nat.gcd_comm]
 · have hb2:=h.bx;rcases h.lt with e | e
   · rw[e];simpa using hb
   · rcases Nat.eq_zero_or_pos x1.natAbs with z | z
     · rw[z];simpa using hb
     · have:=Nat.mul_lt_mul_of_pos_left e z;omega
theorem EIw.small{a b r0 r1:Nat}{x0 x1 y0 y1:Int}(hb0:0<b)(h:EIw a b r0 r1 x0 x1 y0 y1)(h1:0<r1)(N:Nat)(ha:a<N)(hb:b<N) :
 x0.natAbs<N∧x1.natAbs<N∧y0.natAbs<N∧y1.natAbs<N∧((r0 / r1:Nat) * x1).natAbs<N∧((r0 / r1:Nat) * y1).natAbs<N:=by
 have hbx:=h.bx;have hby:=h.bY;have m0:x0.natAbs≤x0.natAbs * r1:=Nat.le_mul_of_pos_right _ h1;have m1:x1.natAbs≤x1.natAbs * r0:=Nat.le_mul_of_pos_right _ h.pos;have n0:y0.natAbs≤y0.natAbs * r1:=Nat.le_mul_of_pos_right _ h1;have n1:y1.natAbs≤y1.natAbs * r0:=Nat.le_mul_of_pos_right _ h.pos;have hs:=h.step hb0 h1;have ax:=(abs_step (q:=r0 / r1) h.sx).1;have ay:=(abs_step (q:=r0 / r1) h.sy).1;have sx:=hs.bx;have sy:=hs.bY;have p0:(x0 - (r0 / r1:Nat) * x1).natAbs≤(x0 - (r0 / r1:Nat) * x1).natAbs * r1:=Nat.le_mul_of_pos_right _ h1;have p1:(y0 - (r0 / r1:Nat) * y1).natAbs≤(y0 - (r0 / r1:Nat) * y1).natAbs * r1:=Nat.le_mul_of_pos_right _ h1;have q0:((r0 / r1:Nat) * x1).natAbs=r0 / r1 * x1.natAbs:=by rw[Int.natAbs_mul,Int.natAbs_natCast]
 have q1:((r0 / r1:Nat) * y1).natAbs=r0 / r1 * y1.natAbs:=by rw[Int.natAbs_mul,Int.natAbs_natCast]
 refine⟨by omega,by omega,by omega,by omega,by omega,by omega⟩
theorem EIw.last{a b r0:Nat}{x0 x1 y0 y1:Int}(hb:0<b)(h:EIw a b r0 0 x0 x1 y0 y1):r0=Nat.gcd a b∧0<r0∧x0.natAbs * r0<b∧(a:Int) * x0+b * y0=r0:=by
 refine⟨by rw[←h.gc,Nat.gcd_zero_right],h.pos,?_,h.e0⟩;rcases h.lx with e | e
 · exact e
 · omega
def Bzt(a b:Nat)(x y:Int):Prop:=0≤x∧x<(b / Nat.gcd a b:Nat)∧(a:Int) * x+b * y=Nat.gcd a b
theorem gcd_pos{a b:Nat}(hb:0<b):0<Nat.gcd a b:=Nat.gcd_pos_of_pos_right a hb
theorem parts_gcd{a b:Nat}(hb:0<b):(a:Int)=(a / Nat.gcd a b:Nat) * (Nat.gcd a b:Nat)∧(b:Int)=(b / Nat.gcd a b:Nat) * (Nat.gcd a b:Nat):=by
 constructor
 · rw[←Int.natCast_mul,Nat.div_mul_cancel (Nat.gcd_dvd_left a b)]
 · rw[←Int.natCast_mul,Nat.div_mul_cancel (Nat.gcd_dvd_right a b)]
theorem Bzt.eq{a b:Nat}{x y x' y':Int}(hb:0<b)(h:Bzt a b x y)(h':Bzt a b x' y'):x=x'∧y=y':=by
 obtain⟨h1,h2,h3⟩:=h;obtain⟨k1,k2,k3⟩:=h';obtain⟨pa,pb⟩:=parts_gcd (a:=a) hb;have hg:=gcd_pos (a:=a) hb;obtain⟨g,hgg⟩:=nm (Nat.gcd a b);have hco:Nat.Coprime (b / g) (a / g):=(by rw[←hgg];exact(Nat.coprime_div_gcd_div_gcd hg).symm);rw[hgg]at h2 h3 k2 k3 pa pb hg;obtain⟨A,hA⟩:=nm (a / g);obtain⟨B,hB⟩:=nm (b / g);rw[hA,hB]at hco;rw[hA]at pa;rw[hB]at pb h2 k2;have e:(g:Int) * (A * (x - x'))=g * (B * (y' - y)):=by
  have e1:(a:Int) * x+b * y=a * x'+b * y':=h3.trans k3.symm;rw[pa,pb]at e1
  grind
 have hg':(g:Int)≠0:=by omega
 have e2:=Int.eq_of_mul_eq_mul_left hg' e;have hd:(B:Int) ∣ A * (x - x'):=⟨y' - y,e2⟩;have hd2:(B:Int) ∣ (x - x'):=(by have:=Int.natAbs_dvd_natAbs.2 hd;rw[Int.natAbs_mul,Int.natAbs_natCast,Int.natAbs_natCast]at this;have:=hco.dvd_of_dvd_mul_left this;exact Int.natAbs_dvd_natAbs.1 (by rw[Int.natAbs_natCast];exact this));have hx:x=x':=by
  obtain⟨q,hq⟩:=hd2;have hB0:0<(B:Int):=by omega
  have : q=0:=by
   rcases Int.lt_trichotomy q 0 with c | c | c
   · have : (B:Int) * q≤B * (-1):=Int.mul_le_mul_of_nonneg_left (by omega) (by omega);omega
   · exact c
   · have : (B:Int) * 1≤B * q:=Int.mul_le_mul_of_nonneg_left (by omega) (by omega);omega
  rw[this,Int.mul_zero]at hq;omega
 refine⟨hx,?_⟩;subst hx;have e3:(b:Int) * y=b * y':=by omega
 exact Int.eq_of_mul_eq_mul_left (by omega) e3
theorem Bzt.neg{a b:Nat}{x y:Int}(hb:0<b)(h:(a:Int) * x+b * y=Nat.gcd a b)(hx:x.natAbs * Nat.gcd a b<b)(hn:x<0):Bzt a b (x+(b / Nat.gcd a b:Nat)) (y - (a / Nat.gcd a b:Nat)):=by
 obtain⟨pa,pb⟩:=parts_gcd (a:=a) hb;have hg:=gcd_pos (a:=a) hb;obtain⟨g,hgg⟩:=nm (Nat.gcd a b);unfold Bzt;rw[hgg]at h hx pa pb hg⊢;have hlt:x.natAbs<b / g:=Nat.lt_of_mul_lt_mul_right (a:=g) (by
  have : b / g * g=b:=by rw[←hgg];exact Nat.div_mul_cancel (Nat.gcd_dvd_right a b)
  omega)
 refine⟨by omega,by omega,?_⟩;obtain⟨A,hA⟩:=nm (a / g);obtain⟨B,hB⟩:=nm (b / g);rw[hA]at pa⊢;rw[hB]at pb⊢;rw[←h,pa,pb]
 grind
theorem Bzt.nonneg{a b:Nat}{x y:Int}(hb:0<b)(h:(a:Int) * x+b * y=Nat.gcd a b)(hx:x.natAbs * Nat.gcd a b<b)(hn:¬ x<0):Bzt a b x y:=by
 have hg:=gcd_pos (a:=a) hb;have hlt:x.natAbs<b / Nat.gcd a b:=Nat.lt_of_mul_lt_mul_right (a:=Nat.gcd a b) (by
  have : b / Nat.gcd a b * Nat.gcd a b=b:=Nat.div_mul_cancel (Nat.gcd_dvd_right a b)
  omega)
 exact⟨by omega,by omega,h⟩
theorem Bzt.red{a b:Nat}{x y:Int}(hb:0<b)(h:(a:Int) * x+b * y=Nat.gcd a b):Bzt a b (x%(b / Nat.gcd a b:Nat)) (y+x / (b / Nat.gcd a b:Nat) * (a / Nat.gcd a b:Nat)):=by
 obtain⟨pa,pb⟩:=parts_gcd (a:=a) hb;have hg:=gcd_pos (a:=a) hb;obtain⟨g,hgg⟩:=nm (Nat.gcd a b);unfold Bzt;rw[hgg]at h pa pb hg⊢;have hB0:0<b / g:=Nat.div_pos (by rw[←hgg];exact Nat.gcd_le_right a hb) hg;obtain⟨A,hA⟩:=nm (a / g);obtain⟨B,hB⟩:=nm (b / g);rw[hA]at pa⊢;rw[hB]at pb hB0⊢;refine⟨Int.emod_nonneg _ (by omega),Int.emod_lt_of_pos _ (by omega),?_⟩;have em:=Int.mul_ediv_add_emod x B;rw[←h,pa,pb];obtain⟨q,hq⟩:=nm (x / (B:Int));obtain⟨r,hr⟩:=nm (x%(B:Int));rw[hq,hr]at em⊢;rw[←em]
 grind
def eegF:Nat→Nat→Nat→Int→Int→Int→Int→Int×Int
 | 0,_,_,x0,_,y0,_=>(x0,y0)
 | n+1,r0,r1,x0,x1,y0,y1=>if r1=0 then(x0,y0)else eegF n r1 (r0%r1) x1 (x0 - (r0 / r1:Nat) * x1) y1 (y0 - (r0 / r1:Nat) * y1)
def bzP(a b:Nat):Int×Int:=
 ((eegF (b+1) a b 1 0 0 1).1%(b / Nat.gcd a b:Nat),(eegF (b+1) a b 1 0 0 1).2+(eegF (b+1) a b 1 0 0 1).1 / (b / Nat.gcd a b:Nat) * (a / Nat.gcd a b:Nat))
theorem eegF_spec{a b:Nat}(hb:0<b):∀(n r0 r1:Nat) (x0 x1 y0 y1:Int),r1<n→EIw a b r0 r1 x0 x1 y0 y1→(a:Int) * (eegF n r0 r1 x0 x1 y0 y1).1+b * (eegF n r0 r1 x0 x1 y0 y1).2=Nat.gcd a b
 | 0,_,_,_,_,_,_,h,_=>absurd h (Nat.not_lt_zero _)
 | n+1,r0,r1,x0,x1,y0,y1,h,he=>by
  unfold eegF;by_cases h0:r1=0
  · rw[if_pos h0];subst h0;obtain⟨hg,_,_,hz⟩:=he.last hb;rw[hz,hg]
  · rw[if_neg h0];exact eegF_spec hb n _ _ _ _ _ _ (Nat.lt_of_lt_of_le (Nat.mod_lt r0 (Nat.pos_of_ne_zero h0)) (Nat.le_of_lt_succ h)) (he.step hb (Nat.pos_of_ne_zero h0))
theorem bzP_spec{a b:Nat}(ha:0<a)(hb:0<b):Bzt a b (bzP a b).1 (bzP a b).2:=
 Bzt.red hb (eegF_spec hb (b+1) a b 1 0 0 1 (Nat.lt_succ_self _) (EIw.start ha))
theorem bzP_eq{a b:Nat}{x y:Int}(ha:0<a)(hb:0<b)(h:Bzt a b x y):bzP a b=(x,y):=by
 obtain⟨h1,h2⟩:=Bzt.eq hb (bzP_spec ha hb) h;exact Prod.ext h1 h2
def prodN:List ByteArray→Nat
 | []=>1
 | x::l=>num x * prodN l
theorem prodN_append:∀(l m:List ByteArray),prodN (l++m)=prodN l * prodN m
 | [],m=>by rw[List.nil_append,prodN,Nat.one_mul]
 | x::l,m=>by rw[List.cons_append,prodN,prodN,prodN_append l m,Nat.mul_assoc]
theorem prodN_snoc{l:List ByteArray}{k:Nat}{x:ByteArray}(h:l[k]? =some x):prodN (l.take (k+1))=prodN (l.take k) * num x:=by
 rw[List.take_add_one,h,Option.toList,prodN_append,prodN,prodN,Nat.mul_one]
theorem prodN_pos:∀ {l:List ByteArray},(∀ x∈l,0<num x)→0<prodN l
 | [],_=>Nat.one_pos
 | x::l,h=>Nat.mul_pos (h x List.mem_cons_self) (prodN_pos (fun y hy=>h y (List.mem_cons_of_mem _ hy)))
theorem prodN_take{l:List ByteArray}(h:∀ x∈l,0<num x)(k:Nat):prodN (l.take k)≤prodN l:=by
 have e:prodN l=prodN (l.take k) * prodN (l.drop k):=by rw[←prodN_append,List.take_append_drop]
 rw[e];exact Nat.le_mul_of_pos_right _ (prodN_pos (fun x hx=>h x (List.mem_of_mem_drop hx)))
def exR(u:ByteArray)(ad rm:List ByteArray):(Int×Int)×Int:=
 if memB rm u=true then((0,0),20)
 else if ¬ (prodN ad<256 ^ 128∧prodN rm<256 ^ 128)then((0,0),5)
 else if Nat.gcd (num u) (prodN rm)≠1 then((0,0),1)
 else if ((bzP (num u) (prodN rm)).2 * prodN ad).natAbs<256 ^ 128 then(((bzP (num u) (prodN rm)).2 * prodN ad,(bzP (num u) (prodN rm)).1),0)else((0,0),5)
def upR(M O w u:ByteArray)(ad rm:List ByteArray)(acc:ByteArray):ByteArray×Int:=
 if rdyR M O [w,acc] (u::(ad++rm))≠0 then(⟨#[]⟩,rdyR M O [w,acc] (u::(ad++rm)))
 else if (exR u ad rm).2≠0 then(⟨#[]⟩,(exR u ad rm).2)
 else(nS (pz (num M) (num w) (exR u ad rm).1.1 * pz (num M) (num acc) (exR u ad rm).1.2%num M),0)
theorem pr_two{M O a b:ByteArray}(va:nvalid a=true)(vb:nvalid b=true)(hc:chkK M O=0)(ha:hasN (num M) (num O) (num a)=true)(hb:hasN (num M) (num O) (num b)=true){x y:Int}(hx:x.natAbs<256 ^ 128)(hy:y.natAbs<256 ^ 128) :
 prR M O [a,b] [(decide (x<0),nS x.natAbs),(decide (y<0),nS y.natAbs)]=.tuple #[.string (nS (pz (num M) (num a) x * pz (num M) (num b) y%num M)),.int .i64 0]:=by
 unfold prR;rw[if_pos (show ckR M O [a,b] [(decide (x<0),nS x.natAbs),(decide (y<0),nS y.natAbs)] (decide ([a,b].length=[(decide (x<0),nS x.natAbs),(decide (y<0),nS y.natAbs)].length))=0 from cka_two va vb (zvalid_all hx) (zvalid_all hy) hc ha hb)];have e:prV (num M) [a,b] [(decide (x<0),nS x.natAbs),(decide (y<0),nS y.natAbs)]=pz (num M) (num a) x * pz (num M) (num b) y%num M:=by
  show baseN (num a) (decide (x<0)) (num M) ^ (num (nS x.natAbs) / 2 ^ 0) * (baseN (num b) (decide (y<0)) (num M) ^ (num (nS y.natAbs) / 2 ^ 0) * 1)%num M=_;rw[num_nS,num_nS,Nat.pow_zero,Nat.div_one,Nat.div_one,Nat.mul_one,pz_two]
 rw[e]
end Go.Proofs.YtmahgbhpdfbbjaaGreatDoor

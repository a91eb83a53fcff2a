import Derived.Test.YtkfgdcgmlobhfaaGreatQEpI
set_option linter.unusedVariables false
set_option linter.unusedSimpArgs false
namespace Go.Proofs.YtkfgdcgmlobhfaaGreat
theorem toList_inj{a b:ByteArray}(h:a.toList=b.toList):a=b:=by
 rw[ByteArray.toList_eq,ByteArray.toList_eq]at h;rw[←za3 a,←za3 b,h]
theorem yy{l:List ByteArray}{x:ByteArray}:memB l x=true↔x∈l:=by
 unfold memB;rw[List.any_eq_true];constructor
 · rintro⟨y,hy,h⟩;rw[toList_inj (beq_iff_eq.1 h)];exact hy
 · intro h;exact⟨x,h,by simp⟩
theorem zbq{l:List ByteArray}{x:ByteArray}:memB l x=false↔x∉l:=by
 rw[←yy];simp
def mrg(na nb:ByteArray→Bool):List ByteArray→List ByteArray→List ByteArray
 | [],[]=>[]
 | [],y::ys=>if nb y then mrg na nb [] ys else y::mrg na nb [] ys
 | x::xs,[]=>if na x then mrg na nb xs []else x::mrg na nb xs []
 | x::xs,y::ys=>if num x<num y then(if na x then mrg na nb xs (y::ys)else x::mrg na nb xs (y::ys))else(if nb y then mrg na nb (x::xs) ys else y::mrg na nb (x::xs) ys)
termination_by a b=>a.length+b.length
def Asc(l:List ByteArray):Prop:=l.Pairwise (fun a b=>num a<num b)
theorem zpv{l:List ByteArray}(h:ascB l=true):Asc l:=by
 have h1:=ascB_iff.1 h;have h2:∀(n i:Nat) a b,l[i]? =some a→l[i+n+1]? =some b→num a<num b:=by
  intro n
  induction n with
  | zero=>intro i a b ha hb;exact h1 i a b ha hb
  | succ n ih =>
   intro i a b ha hb;have hlt:=(List.getElem?_eq_some_iff.1 hb).1;obtain⟨c,hc⟩:∃ c,l[i+n+1]? =some c:=⟨_,List.getElem?_eq_getElem (by omega)⟩;have:=ih i a c ha hc;have:=h1 (i+n+1) c b hc hb;omega
 refine List.pairwise_iff_getElem.2 (fun i j hi hj hij=>?_);refine h2 (j - i - 1) i _ _ (List.getElem?_eq_getElem hi) ?_;rw[show i+(j - i - 1)+1=j by omega];exact List.getElem?_eq_getElem hj
theorem zfm{K l:List ByteArray}(h:zgr K l):Asc l:=by
 refine List.pairwise_iff_getElem.2 (fun i j hi hj hij=>?_);exact h.2.1 i j _ _ hij (List.getElem?_eq_getElem hi) (List.getElem?_eq_getElem hj)
theorem Asc.filter{l:List ByteArray}(h:Asc l)(p:ByteArray→Bool):Asc (l.filter p):=List.Pairwise.filter p h
theorem Asc.nodup{l:List ByteArray}(h:Asc l):l.Nodup:=List.Pairwise.imp (fun {a b} hlt e=>by subst e;exact Nat.lt_irrefl _ hlt) h
theorem Asc.unique{l l':List ByteArray}(h:Asc l)(h':Asc l')(hm:∀ x,x∈l↔x∈l'):l=l':=by
 have hp:l.Perm l':=(List.perm_ext_iff_of_nodup h.nodup h'.nodup).2 hm;exact List.Perm.eq_of_pairwise (le:=fun a b=>num a<num b) (fun a b _ _ h1 h2=>by omega) h h' hp
theorem zaz(na nb:ByteArray→Bool)(a b:List ByteArray)(x:ByteArray):x∈mrg na nb a b↔(x∈a∧na x=false)∨(x∈b∧nb x=false):=by
 fun_induction mrg na nb a b with
 | case1=>simp
 | case2 y ys h ih => rw [ih]; simp only [List.mem_cons, List.not_mem_nil, false_and, false_or]; constructor
                      · rintro⟨h1,h2⟩;exact⟨.inr h1,h2⟩
                      · rintro⟨rfl | h1,h2⟩
                        · rw[h]at h2;cases h2
                        · exact⟨h1,h2⟩
 | case3 y ys h ih => rw [List.mem_cons, ih]; simp only [List.mem_cons, List.not_mem_nil, false_and, false_or]; constructor
                      · rintro(rfl | ⟨h1,h2⟩)
                        · exact⟨.inl rfl,by simpa using h⟩
                        · exact⟨.inr h1,h2⟩
                      · rintro⟨rfl | h1,h2⟩
                        · exact .inl rfl
                        · exact .inr ⟨h1,h2⟩
 | case4 y ys h ih => rw [ih]; simp only [List.mem_cons, List.not_mem_nil, false_and, or_false]; constructor
                      · rintro⟨h1,h2⟩;exact⟨.inr h1,h2⟩
                      · rintro⟨rfl | h1,h2⟩
                        · rw[h]at h2;cases h2
                        · exact⟨h1,h2⟩
 | case5 y ys h ih => rw [List.mem_cons, ih]; simp only [List.mem_cons, List.not_mem_nil, false_and, or_false]; constructor
                      · rintro(rfl | ⟨h1,h2⟩)
                        · exact⟨.inl rfl,by simpa using h⟩
                        · exact⟨.inr h1,h2⟩
                      · rintro⟨rfl | h1,h2⟩
                        · exact .inl rfl
                        · exact .inr ⟨h1,h2⟩
 | case6 z zs y ys hlt h ih => rw [ih]; simp only [List.mem_cons]; constructor
                               · rintro(⟨h1,h2⟩ | h1)
                                 · exact .inl ⟨.inr h1,h2⟩
                                 · exact .inr h1
                               · rintro(⟨rfl | h1,h2⟩ | h1)
                                 · rw[h]at h2;cases h2
                                 · exact .inl ⟨h1,h2⟩
                                 · exact .inr h1
 | case7 z zs y ys hlt h ih => rw [List.mem_cons, ih]; simp only [List.mem_cons]; constructor
                               · rintro(rfl | ⟨h1,h2⟩ | h1)
                                 · exact .inl ⟨.inl rfl,by simpa using h⟩
                                 · exact .inl ⟨.inr h1,h2⟩
                                 · exact .inr h1
                               · rintro(⟨rfl | h1,h2⟩ | h1)
                                 · exact .inl rfl
                                 · exact .inr (.inl ⟨h1,h2⟩)
                                 · exact .inr (.inr h1)
 | case8 z zs y ys hlt h ih => rw [ih]; simp only [List.mem_cons]; constructor
                               · rintro(h1 | ⟨h1,h2⟩)
                                 · exact .inl h1
                                 · exact .inr ⟨.inr h1,h2⟩
                               · rintro(h1 | ⟨rfl | h1,h2⟩)
                                 · exact .inl h1
                                 · rw[h]at h2;cases h2
                                 · exact .inr ⟨h1,h2⟩
 | case9 z zs y ys hlt h ih => rw [List.mem_cons, ih]; simp only [List.mem_cons]; constructor
                               · rintro(rfl | h1 | ⟨h1,h2⟩)
                                 · exact .inr ⟨.inl rfl,by simpa using h⟩
                                 · exact .inl h1
                                 · exact .inr ⟨.inr h1,h2⟩
                               · rintro(h1 | ⟨rfl | h1,h2⟩)
                                 · exact .inr (.inl h1)
                                 · exact .inl rfl
                                 · exact .inr (.inr ⟨h1,h2⟩)
theorem zm7(na nb:ByteArray→Bool)(a b:List ByteArray)(ha:Asc a)(hb:Asc b)(hne:∀ x∈a,∀ y∈b,num x≠num y):Asc (mrg na nb a b):=by
 fun_induction mrg na nb a b with
 | case1=>exact List.Pairwise.nil
 | case2 y ys h ih=>exact ih ha (List.pairwise_cons.1 hb).2 (fun x hx=>by cases hx)
 | case3 y ys h ih =>
  refine List.pairwise_cons.2 ⟨fun z hz=>?_,ih ha (List.pairwise_cons.1 hb).2 (fun x hx=>by cases hx)⟩;rw[zaz]at hz;rcases hz with⟨hz,_⟩ | ⟨hz,_⟩
  · cases hz
  · exact(List.pairwise_cons.1 hb).1 z hz
 | case4 y ys h ih=>exact ih (List.pairwise_cons.1 ha).2 hb (fun x hx y hy=>by cases hy)
 | case5 y ys h ih =>
  refine List.pairwise_cons.2 ⟨fun z hz=>?_,ih (List.pairwise_cons.1 ha).2 hb (fun x hx y hy=>by cases hy)⟩;rw[zaz]at hz;rcases hz with⟨hz,_⟩ | ⟨hz,_⟩
  · exact(List.pairwise_cons.1 ha).1 z hz
  · cases hz
 | case6 x xs y ys hlt h ih=>exact ih (List.pairwise_cons.1 ha).2 hb (fun u hu=>hne u (List.mem_cons_of_mem _ hu))
 | case7 x xs y ys hlt h ih =>
  refine List.pairwise_cons.2 ⟨fun z hz=>?_,ih (List.pairwise_cons.1 ha).2 hb (fun u hu=>hne u (List.mem_cons_of_mem _ hu))⟩;rw[zaz]at hz;rcases hz with⟨hz,_⟩ | ⟨hz,_⟩
  · exact(List.pairwise_cons.1 ha).1 z hz
  · rcases List.mem_cons.1 hz with rfl | hz
    · exact hlt
    · have:=(List.pairwise_cons.1 hb).1 z hz;omega
 | case8 x xs y ys hlt h ih=>exact ih ha (List.pairwise_cons.1 hb).2 (fun u hu v hv=>hne u hu v (List.mem_cons_of_mem _ hv))
 | case9 x xs y ys hlt h ih =>
  refine List.pairwise_cons.2 ⟨fun z hz=>?_,ih ha (List.pairwise_cons.1 hb).2 (fun u hu v hv=>hne u hu v (List.mem_cons_of_mem _ hv))⟩;have hxy:=hne x List.mem_cons_self y List.mem_cons_self;rw[zaz]at hz;rcases hz with⟨hz,_⟩ | ⟨hz,_⟩
  · rcases List.mem_cons.1 hz with rfl | hz
    · omega
    · have:=(List.pairwise_cons.1 ha).1 z hz;omega
  · exact(List.pairwise_cons.1 hb).1 z hz
def ind(l:List ByteArray)(x:ByteArray):Int:=if memB l x=true then 1 else 0
def chg(a b:Dl)(x:ByteArray):Int:=ind a.ad x - ind a.rm x+ind b.ad x - ind b.rm x
def Dl.zero:Dl:=⟨0,0,[],[],⟨#[]⟩,⟨#[]⟩,⟨#[]⟩,⟨#[]⟩⟩
def qt(a b:Dl):Bool:=a.ad.any (memB b.ad)||a.rm.any (memB b.rm)
def jn(a b:Dl):Dl×Int:=
 if a.msg.2≠0 then(Dl.zero,a.msg.2)else if b.msg.2≠0 then(Dl.zero,b.msg.2)else if a.to≠b.fr then(Dl.zero,21)else if a.af≠b.be then(Dl.zero,1)
 else if qt a b=true then(Dl.zero,8)
 else(⟨a.fr,b.to,mrg (memB b.rm) (memB a.rm) a.ad b.ad,mrg (memB b.ad) (memB a.ad) a.rm b.rm,a.be,b.af,⟨#[]⟩,⟨#[]⟩⟩,0)
theorem Dl.msg_ok{d:Dl}(h:d.msg.2=0):d.form=0:=by
 unfold Dl.msg at h;by_cases h0:d.form=0
 · exact h0
 · rw[if_neg h0]at h;exact absurd h h0
structure Dl.Good (d:Dl):Prop where
 vad:∀ y∈d.ad,zd y=true
 vrm:∀ y∈d.rm,zd y=true
 aad:Asc d.ad
 arm:Asc d.rm
 dis:∀ x∈d.ad,x∉d.rm
theorem Dl.good{d:Dl}(h:d.form=0):d.Good:=by
 obtain⟨hv,_,ht,_⟩:=d.form_ok h;unfold Dl.twice at ht;simp only[Bool.or_eq_false_iff,Bool.not_eq_false']at ht;refine⟨d.okN_ad hv,d.okN_rm hv,zpv ht.1.1,zpv ht.1.2,fun x hx hr=>?_⟩;have:=List.any_eq_false.1 ht.2 x hx;rw[yy]at this;exact this hr
theorem zd3{l:List ByteArray}{x:ByteArray}(h:x∈l):ind l x=1:=if_pos (yy.2 h)
theorem zct{l:List ByteArray}{x:ByteArray}(h:x∉l):ind l x=0:=if_neg (fun h'=>h (yy.1 h'))
theorem y9(l:List ByteArray)(x:ByteArray):(x∈l∧ind l x=1)∨(x∉l∧ind l x=0):=by
 by_cases h:x∈l
 · exact .inl ⟨h,zd3 h⟩
 · exact .inr ⟨h,zct h⟩
theorem zhx{a b:Dl}(ha:a.Good)(hb:b.Good):qt a b=true↔∃ x,x∈a.ad++a.rm++b.ad++b.rm∧(chg a b x=2∨chg a b x = -2):=by
 unfold qt;rw[Bool.or_eq_true,List.any_eq_true,List.any_eq_true];constructor
 · rintro(⟨x,hx,h⟩ | ⟨x,hx,h⟩)<;>rw[yy]at h
   · refine⟨x,by simp[hx],.inl ?_⟩;unfold chg;rw[zd3 hx,zct (ha.dis x hx),zd3 h,zct (hb.dis x h)];rfl
   · refine⟨x,by simp[hx],.inr ?_⟩;unfold chg;rw[zd3 hx,zct (fun h'=>ha.dis x h' hx),zd3 h,zct (fun h'=>hb.dis x h' h)];rfl
 · rintro⟨x,_,h⟩;unfold chg at h;rcases y9 a.ad x with⟨h1,e1⟩ | ⟨h1,e1⟩<;>rcases y9 a.rm x with⟨h2,e2⟩ | ⟨h2,e2⟩<;>rcases y9 b.ad x with⟨h3,e3⟩ | ⟨h3,e3⟩<;>rcases y9 b.rm x with⟨h4,e4⟩ | ⟨h4,e4⟩<;>rw[e1,e2,e3,e4]at h<;>
    first
    | (exfalso;omega)
    | exact .inl ⟨x,h1,yy.2 h3⟩
    | exact .inr ⟨x,h2,yy.2 h4⟩
theorem zoe{a b:Dl}(ha:a.Good)(hb:b.Good)(hc:qt a b=false){K l:List ByteArray}(hK:∀ s,s∈K↔s∈a.ad++a.rm++b.ad++b.rm)(hl:zgr K l) :
 l.filter (fun x=>decide (chg a b x=1))=mrg (memB b.rm) (memB a.rm) a.ad b.ad∧l.filter (fun x=>decide (chg a b x = -1))=mrg (memB b.ad) (memB a.ad) a.rm b.rm:=by
 unfold qt at hc;rw[Bool.or_eq_false_iff]at hc;have c1:∀ x∈a.ad,x∉b.ad:=fun x hx h=>List.any_eq_false.1 hc.1 x hx (yy.2 h);have c2:∀ x∈a.rm,x∉b.rm:=fun x hx h=>List.any_eq_false.1 hc.2 x hx (yy.2 h);have hmem:∀ x,x∈l↔x∈a.ad++a.rm++b.ad++b.rm:=fun x=>(hl.2.2 x).trans (hK x);constructor
 · refine Asc.unique ((zfm hl).filter _) (zm7 _ _ _ _ ha.aad hb.aad (fun x hx y hy e=>?_)) (fun x=>?_)
   · have:=num_inj (ha.vad x hx) (hb.vad y hy) e;subst this;exact c1 x hx hy
   · rw[List.mem_filter,hmem,zaz,zbq,zbq,decide_eq_true_eq];simp only[List.mem_append];unfold chg;have d1:=ha.dis x;have d2:=hb.dis x;have d3:=c1 x;have d4:=c2 x;rcases y9 a.ad x with⟨h1,e1⟩ | ⟨h1,e1⟩<;>rcases y9 a.rm x with⟨h2,e2⟩ | ⟨h2,e2⟩<;>rcases y9 b.ad x with⟨h3,e3⟩ | ⟨h3,e3⟩<;>rcases y9 b.rm x with⟨h4,e4⟩ | ⟨h4,e4⟩<;>rw[e1,e2,e3,e4]<;>simp_all
 · refine Asc.unique ((zfm hl).filter _) (zm7 _ _ _ _ ha.arm hb.arm (fun x hx y hy e=>?_)) (fun x=>?_)
   · have:=num_inj (ha.vrm x hx) (hb.vrm y hy) e;subst this;exact c2 x hx hy
   · rw[List.mem_filter,hmem,zaz,zbq,zbq,decide_eq_true_eq];simp only[List.mem_append];unfold chg;have d1:=ha.dis x;have d2:=hb.dis x;have d3:=c1 x;have d4:=c2 x;rcases y9 a.ad x with⟨h1,e1⟩ | ⟨h1,e1⟩<;>rcases y9 a.rm x with⟨h2,e2⟩ | ⟨h2,e2⟩<;>rcases y9 b.ad x with⟨h3,e3⟩ | ⟨h3,e3⟩<;>rcases y9 b.rm x with⟨h4,e4⟩ | ⟨h4,e4⟩<;>rw[e1,e2,e3,e4]<;>simp_all
set_option maxRecDepth 100000
set_option maxHeartbeats 4000000
open Go.RowKit
theorem zcv{l:List ByteArray}{i:Nat}{x:ByteArray}(h:l[i]? =some x):l.drop i=x::l.drop (i+1):=by
 obtain⟨hl,rfl⟩:=List.getElem?_eq_some_iff.1 h;exact List.drop_eq_getElem_cons hl
theorem zmc{na nb:ByteArray→Bool}{a b:List ByteArray}{i k:Nat}{x:ByteArray}(hx:a[i]? =some x)(hk:b.length≤k):mrg na nb (a.drop i) (b.drop k)=(if na x=true then []else [x])++mrg na nb (a.drop (i+1)) (b.drop k):=by
 rw[zcv hx,List.drop_eq_nil_of_le hk,mrg];split<;>rfl
theorem zmb{na nb:ByteArray→Bool}{a b:List ByteArray}{i k:Nat}{y:ByteArray}(hy:b[k]? =some y)(hi:a.length≤i):mrg na nb (a.drop i) (b.drop k)=(if nb y=true then []else [y])++mrg na nb (a.drop i) (b.drop (k+1)):=by
 rw[zcv hy,List.drop_eq_nil_of_le hi,mrg];split<;>rfl
theorem zsw{na nb:ByteArray→Bool}{a b:List ByteArray}{i k:Nat}{x y:ByteArray}(hx:a[i]? =some x)(hy:b[k]? =some y)(h:num x<num y):mrg na nb (a.drop i) (b.drop k)=(if na x=true then []else [x])++mrg na nb (a.drop (i+1)) (b.drop k):=by
 rw[zcv hx,zcv hy,mrg,if_pos h];split<;>rfl
theorem zsv{na nb:ByteArray→Bool}{a b:List ByteArray}{i k:Nat}{x y:ByteArray}(hx:a[i]? =some x)(hy:b[k]? =some y)(h:¬ num x<num y):mrg na nb (a.drop i) (b.drop k)=(if nb y=true then []else [y])++mrg na nb (a.drop i) (b.drop (k+1)):=by
 rw[zcv hx,zcv hy,mrg,if_neg h];split<;>rfl
theorem zez(a na b nb:List ByteArray)(A1 A2 A3 A4:Option Addr)(n1 c1 n2 c2 n3 c3 n4 c4:Nat)(w:World)(h1:SlN w A1 n1 c1 a)(h2:SlN w A2 n2 c2 na)(h3:SlN w A3 n3 c3 b)(h4:SlN w A4 n4 c4 nb)(hn1:n1≤1000000)(hn3:n3≤1000000)(va:∀ s∈a,zd s=true)(vb:∀ s∈b,zd s=true) :
 Calls Tryz.prog 72 #[.slice A1 n1 c1,.slice A2 n2 c2,.slice A3 n3 c3,.slice A4 n4 c4] w (zm9 22 1 (mrg (memB na) (memB nb) a b).length ((mrg (memB na) (memB nb) a b).map Value.string) w):=by
 obtain⟨R,hR⟩:∃ R,mrg (memB na) (memB nb) a b=R:=⟨_,rfl⟩;rw[hR];have HRR:=Hq hR;have H1:=Hq h1;have H2:=Hq h2;have H3:=Hq h3;have H4:=Hq h4;have hc1:=h1.2.1;have hc3:=h3.2.1;have hm1:=h1.2.2.1;have hm3:=h3.2.2.1;have HL1:=Hq h1.1;have HL3:=Hq h3.1;have VA:=Hq va;have VB:=Hq vb;clear h1 h2 h3 h4 va vb hR;go_enter Tryz.func72,Tryz.ntmps72;go_wp2;go_loopw [9,10,11] (fun v i k wr=>∃(I Q:Nat) (o:List ByteArray),I≤n1∧Q≤n3∧i=.int .i64 I∧k=.int .i64 Q∧wr.ownsRow w.heap.size 22 1 v o.length (o.map Value.string)∧o++mrg (memB na) (memB nb) (a.drop I) (b.drop Q)=R∧o.length≤I+Q∧Below w.heap.size w wr) (fun _ i k _=>n1+n3 - ((intOf i).toNat+(intOf k).toNat));case atStart=>exact⟨0,0,[],Nat.zero_le _,Nat.zero_le _,rfl,rfl,World.ownsRow_nil _ _ _ _,by rw[List.drop_zero,List.drop_zero];exact HRR.out,Nat.zero_le _,Below.refl _ _⟩
 case round =>
  obtain⟨I,Q,o,hI,hQ,rfl,rfl,hown,heq,hol,hbb⟩:=hrel;have HOWN:=Hq hown;have HEQ:=Hq heq;have HB:=Hq hbb;clear hown heq hbb;by_cases hi:I<n1
  · obtain⟨x,hx⟩:∃ x,a[I]? =some x:=⟨_,List.getElem?_eq_getElem (by rw[HL1.out];exact hi)⟩;have HX:=Hq hx;by_cases hq:Q<n3
    · obtain⟨y,hy⟩:∃ y,b[Q]? =some y:=⟨_,List.getElem?_eq_getElem (by rw[HL3.out];exact hq)⟩;have HY:=Hq hy;have vx:=VA.out x (List.mem_of_getElem? hx);have vy:=VB.out y (List.mem_of_getElem? hy);obtain⟨p1,o1,rfl,e1⟩:=(H1.out.kept HB.out nlr).cell hx;obtain⟨p3,o3,rfl,e3⟩:=(H3.out.kept HB.out nlr).cell hy;have HC:=Hq (jv x y (by have:=size_valid vx;omega) (by have:=size_valid vy;omega) wr.drew);rw[ordB_num vx vy]at HC;have d1:wr.drew.cell? ⟨p1,o1+I,none⟩=some (.string x):=e1;have d3:wr.drew.cell? ⟨p3,o3+Q,none⟩=some (.string y):=e3;clear hx hy vx vy;have hd:decide ((n3:Int)≤(Q:Int))=false:=decide_eq_false (by omega);have hd':decide (n3≤Q)=false:=decide_eq_false (by omega);go_wp2;refine zg 22 (Below (wr.drew).heap.size (wr.drew)) (by kernel_rfl) ?_;intro hD;refine qPD 0 22 21 rfl hD blr ?_;clear hD;intro hD;simp only[Act.put,sqA,sqB,sqC];refine qPD 1 23 20 rfl hD blr ?_;clear hD;intro hD;simp only[Act.put,sqA,sqB,sqC];refine qPD 2 24 19 rfl hD blr ?_;clear hD;intro hD;simp only[Act.put,sqA,sqB,sqC];refine qPD 3 25 18 rfl hD blr ?_;clear hD;intro hD;simp only[Act.put,sqA,sqB,sqC];refine qPD 4 26 17 rfl hD blr ?_;clear hD;intro hD;simp only[Act.put,sqA,sqB,sqC];refine qPD 5 27 16 rfl hD blr ?_;clear hD;intro hD;simp only[Act.put,sqA,sqB,sqC];refine qPD 6 28 15 rfl hD blr ?_;clear hD;intro hD;simp only[Act.put,sqA,sqB,sqC];refine qPD 7 29 14 rfl hD blr ?_;clear hD;intro hD;simp only[Act.put,sqA,sqB,sqC];refine qPD 8 30 13 rfl hD blr ?_;clear hD;intro hD;simp only[Act.put,sqA,sqB,sqC];refine qPD 9 31 12 rfl hD blr ?_;clear hD;intro hD;simp only[Act.put,sqA,sqB,sqC];refine qPD 10 32 11 rfl hD blr ?_;clear hD;intro hD;simp only[Act.put,sqA,sqB,sqC];refine qPD 11 33 10 rfl hD blr ?_;clear hD;intro hD;simp only[Act.put,sqA,sqB,sqC];refine qPD 12 34 9 rfl hD blr ?_;clear hD;intro hD;simp only[Act.put,sqA,sqB,sqC];refine qSD 13 35 8 rfl hD blr (by intro w' hS';have e0:=kc hS' d1;have e1:=kc hS' d3;go_simp;with_reducible rfl) ?_;clear hD;intro hD;simp only[Act.put,sqA,sqB,sqC];refine qPD 14 36 7 rfl hD blr ?_;clear hD;intro hD;simp only[Act.put,sqA,sqB,sqC];refine qPD 15 37 6 rfl hD blr ?_;clear hD;intro hD;simp only[Act.put,sqA,sqB,sqC];refine qPD 16 38 5 rfl hD blr ?_;clear hD;intro hD;simp only[Act.put,sqA,sqB,sqC];refine qSD 17 39 4 rfl hD blr (by intro w' hS';have e0:=kc hS' d1;have e1:=kc hS' d3;go_simp;with_reducible rfl) ?_;clear hD;intro hD;simp only[Act.put,sqA,sqB,sqC];refine zc (i:=18) (fuel:=3) (by kernel_rfl) rfl hD ?_;clear hD;intro K18 hK18;go_wp2_with fail;refine HC.out.mono ?_;rintro e w1 ⟨rfl,hb⟩;have HL1:=Hq hb;go_wp2;refine hK18 _ _ (by exact hb) ?_;clear hK18;intro hS_4_18 hD;refine qPD 19 41 2 rfl hD hS_4_18 ?_;clear hD;intro hD;simp only[Act.put,sqA,sqB,sqC];refine qPD 20 42 1 rfl hD hS_4_18 ?_;clear hD;intro hD;simp only[Act.put,sqA,sqB,sqC];refine qPD 21 43 0 rfl hD hS_4_18 ?_;clear hD;intro hD;simp only[Act.put,sqA,sqB,sqC];refine ze (by kernel_rfl) ?_ 0;clear hD hd hd';have HW:=Hq (HB.out.trans (((Below.refl wr.heap.size wr).drew.trans HL1.out).mono HB.out.size));have HOO:=Hq (jy HOWN.out ((Below.refl wr.heap.size wr).drew.trans HL1.out) nlr);have E1:=Hq (kc HL1.out d1);have E3:=Hq (kc HL1.out d3);clear d1 d3 e1 e3;by_cases hlt:num x<num y
      · have h0:cmpI (num x) (num y)<0:=cmpI_neg.2 hlt;have HR:=Hq (zsw (na:=memB na) (nb:=memB nb) HX.out HY.out hlt);obtain⟨cc,hcc⟩:∃ cc,cmpI (num x) (num y)=cc:=⟨_,rfl⟩;rw[hcc]at h0⊢;have ex:=E1.out;clear hcc hlt
        -- x is next: HX : elem, HW : Below w.. w1, HOO : row in w1, HR : equation of the rest
        have HCH:=Hq (zbi na A2 n2 c2 x w1 (H2.out.kept HW.out nlr));go_wp2_with fail;refine HCH.out.mono ?_;rintro e wa ⟨rfl,hb⟩;have HWA:=Hq (HW.out.trans (hb.mono HW.out.size));have HOA:=Hq (jy HOO.out hb nlr);have ec:=kc hb ex;clear hb
        cases hh:memB na x with
        | true =>
         have HR2:=Hq (show o++mrg (memB na) (memB nb) (a.drop (I+1)) (b.drop Q)=R from by rw[←HEQ.out,HR.out,if_pos hh];rfl);clear hh;go_wp2;go_roundw;case rel=>exact⟨(I+1),Q,o,by omega,by omega,by go_num,by go_num,HOA.out,HR2.out,by omega,HWA.out⟩
         case measure=>simp[intOf];omega
        | false =>
         have HR2:=Hq (show o++[x]++mrg (memB na) (memB nb) (a.drop (I+1)) (b.drop Q)=R from by rw[←HEQ.out,HR.out,if_neg (by rw[hh];decide),List.append_assoc]);clear hh;go_wp2_with (at_builtin;go_must (refine jk w _ rfl (.tmp 51) (.tmp 56) rfl w.heap.size _ o.length o rfl (HOA.out.alloc (.cells #[.string x] 22)) (some ⟨wa.heap.size,0,none⟩) 1 1 [x] rfl (SlN.new wa [x] 22 (by simp)) (by omega) (HWA.out.alloc HWA.out.size _) (by have:=HWA.out.size;simp;omega) ?_));intro v2 w2 hown hb hsz;have HO2:=Hq (show w2.ownsRow w.heap.size 22 1 v2 (o++[x]).length ((o++[x]).map Value.string)from by rw[List.length_append,List.map_append];exact hown);have HB2:=Hq hb;clear hown hb hsz;go_wp2;go_roundw;case rel=>exact⟨(I+1),Q,o++[x],by omega,by omega,by go_num,by go_num,HO2.out,HR2.out,by simp;omega,HB2.out⟩
         case measure=>simp[intOf];omega
      · have h0:¬ (cmpI (num x) (num y)<0):=fun h=>hlt (cmpI_neg.1 h);have HR:=Hq (zsv (na:=memB na) (nb:=memB nb) HX.out HY.out hlt);obtain⟨cc,hcc⟩:∃ cc,cmpI (num x) (num y)=cc:=⟨_,rfl⟩;rw[hcc]at h0⊢;have ex:=E3.out;clear hcc hlt
        -- y is next: HX : elem, HW : Below w.. w1, HOO : row in w1, HR : equation of the rest
        have HCH:=Hq (zbi nb A4 n4 c4 y w1 (H4.out.kept HW.out nlr));go_wp2_with fail;refine HCH.out.mono ?_;rintro e wa ⟨rfl,hb⟩;have HWA:=Hq (HW.out.trans (hb.mono HW.out.size));have HOA:=Hq (jy HOO.out hb nlr);have ec:=kc hb ex;clear hb
        cases hh:memB nb y with
        | true =>
         have HR2:=Hq (show o++mrg (memB na) (memB nb) (a.drop I) (b.drop (Q+1))=R from by rw[←HEQ.out,HR.out,if_pos hh];rfl);clear hh;go_wp2;go_roundw;case rel=>exact⟨I,(Q+1),o,by omega,by omega,by go_num,by go_num,HOA.out,HR2.out,by omega,HWA.out⟩
         case measure=>simp[intOf];omega
        | false =>
         have HR2:=Hq (show o++[y]++mrg (memB na) (memB nb) (a.drop I) (b.drop (Q+1))=R from by rw[←HEQ.out,HR.out,if_neg (by rw[hh];decide),List.append_assoc]);clear hh;go_wp2_with (at_builtin;go_must (refine jk w _ rfl (.tmp 67) (.tmp 72) rfl w.heap.size _ o.length o rfl (HOA.out.alloc (.cells #[.string y] 22)) (some ⟨wa.heap.size,0,none⟩) 1 1 [y] rfl (SlN.new wa [y] 22 (by simp)) (by omega) (HWA.out.alloc HWA.out.size _) (by have:=HWA.out.size;simp;omega) ?_));intro v2 w2 hown hb hsz;have HO2:=Hq (show w2.ownsRow w.heap.size 22 1 v2 (o++[y]).length ((o++[y]).map Value.string)from by rw[List.length_append,List.map_append];exact hown);have HB2:=Hq hb;clear hown hb hsz;go_wp2;go_roundw;case rel=>exact⟨I,(Q+1),o++[y],by omega,by omega,by go_num,by go_num,HO2.out,HR2.out,by simp;omega,HB2.out⟩
         case measure=>simp[intOf];omega
    · obtain⟨p1,o1,rfl,e1⟩:=(H1.out.kept HB.out nlr).cell hx;obtain rfl:Q=n3:=by omega
      have HR:=Hq (zmc (na:=memB na) (nb:=memB nb) HX.out (Nat.le_of_eq HL3.out));clear hx hq;go_wp2;refine zg 22 (Below (wr.drew).heap.size (wr.drew)) (by kernel_rfl) ?_;intro hD;refine qPD 0 22 21 rfl hD blr ?_;clear hD;intro hD;simp only[Act.put,sqA,sqB,sqC];refine qPD 1 23 20 rfl hD blr ?_;clear hD;intro hD;simp only[Act.put,sqA,sqB,sqC];refine qPD 2 24 19 rfl hD blr ?_;clear hD;intro hD;simp only[Act.put,sqA,sqB,sqC];refine qPD 3 25 18 rfl hD blr ?_;clear hD;intro hD;simp only[Act.put,sqA,sqB,sqC];refine qPD 4 26 17 rfl hD blr ?_;clear hD;intro hD;simp only[Act.put,sqA,sqB,sqC];refine zr (i:=5) (d:=some 27) (v:=undef) (fuel:=16) rfl (by kernel_rfl) (by kernel_rfl) (fun _ _ _ h=>h) hD blr (.inr ⟨by kernel_rfl,rfl⟩) ?_;clear hD;intro hD;simp only[Act.put,sqA,sqB,sqC];refine zr (i:=6) (d:=some 28) (v:=undef) (fuel:=15) rfl (by kernel_rfl) (by kernel_rfl) (fun _ _ _ h=>h) hD blr (.inr ⟨by kernel_rfl,rfl⟩) ?_;clear hD;intro hD;simp only[Act.put,sqA,sqB,sqC];refine zr (i:=7) (d:=some 29) (v:=undef) (fuel:=14) rfl (by kernel_rfl) (by kernel_rfl) (fun _ _ _ h=>h) hD blr (.inr ⟨by kernel_rfl,rfl⟩) ?_;clear hD;intro hD;simp only[Act.put,sqA,sqB,sqC];refine zr (i:=8) (d:=some 30) (v:=undef) (fuel:=13) rfl (by kernel_rfl) (by kernel_rfl) (fun _ _ _ h=>h) hD blr (.inr ⟨by kernel_rfl,rfl⟩) ?_;clear hD;intro hD;simp only[Act.put,sqA,sqB,sqC];refine zr (i:=9) (d:=some 31) (v:=undef) (fuel:=12) rfl (by kernel_rfl) (by kernel_rfl) (fun _ _ _ h=>h) hD blr (.inr ⟨by kernel_rfl,rfl⟩) ?_;clear hD;intro hD;simp only[Act.put,sqA,sqB,sqC];refine zr (i:=10) (d:=some 32) (v:=undef) (fuel:=11) rfl (by kernel_rfl) (by kernel_rfl) (fun _ _ _ h=>h) hD blr (.inr ⟨by kernel_rfl,rfl⟩) ?_;clear hD;intro hD;simp only[Act.put,sqA,sqB,sqC];refine zr (i:=11) (d:=some 33) (v:=undef) (fuel:=10) rfl (by kernel_rfl) (by kernel_rfl) (fun _ _ _ h=>h) hD blr (.inr ⟨by kernel_rfl,rfl⟩) ?_;clear hD;intro hD;simp only[Act.put,sqA,sqB,sqC];refine zr (i:=12) (d:=some 34) (v:=undef) (fuel:=9) rfl (by kernel_rfl) (by kernel_rfl) (fun _ _ _ h=>h) hD blr (.inr ⟨by kernel_rfl,rfl⟩) ?_;clear hD;intro hD;simp only[Act.put,sqA,sqB,sqC];refine zr (i:=13) (d:=some 35) (v:=undef) (fuel:=8) rfl (by kernel_rfl) (by kernel_rfl) (fun _ _ _ h=>h) hD blr (.inr ⟨by kernel_rfl,rfl⟩) ?_;clear hD;intro hD;simp only[Act.put,sqA,sqB,sqC];refine zr (i:=14) (d:=some 36) (v:=undef) (fuel:=7) rfl (by kernel_rfl) (by kernel_rfl) (fun _ _ _ h=>h) hD blr (.inr ⟨by kernel_rfl,rfl⟩) ?_;clear hD;intro hD;simp only[Act.put,sqA,sqB,sqC];refine zr (i:=15) (d:=some 37) (v:=undef) (fuel:=6) rfl (by kernel_rfl) (by kernel_rfl) (fun _ _ _ h=>h) hD blr (.inr ⟨by kernel_rfl,rfl⟩) ?_;clear hD;intro hD;simp only[Act.put,sqA,sqB,sqC];refine zr (i:=16) (d:=some 38) (v:=undef) (fuel:=5) rfl (by kernel_rfl) (by kernel_rfl) (fun _ _ _ h=>h) hD blr (.inr ⟨by kernel_rfl,rfl⟩) ?_;clear hD;intro hD;simp only[Act.put,sqA,sqB,sqC];refine zr (i:=17) (d:=some 39) (v:=undef) (fuel:=4) rfl (by kernel_rfl) (by kernel_rfl) (fun _ _ _ h=>h) hD blr (.inr ⟨by kernel_rfl,rfl⟩) ?_;clear hD;intro hD;simp only[Act.put,sqA,sqB,sqC];refine zr (i:=18) (d:=some 40) (v:=undef) (fuel:=3) rfl (by kernel_rfl) (by kernel_rfl) (fun _ _ _ h=>h) hD blr (.inr ⟨by kernel_rfl,rfl⟩) ?_;clear hD;intro hD;simp only[Act.put,sqA,sqB,sqC];refine zr (i:=19) (d:=some 41) (v:=undef) (fuel:=2) rfl (by kernel_rfl) (by kernel_rfl) (fun _ _ _ h=>h) hD blr (.inr ⟨by kernel_rfl,rfl⟩) ?_;clear hD;intro hD;simp only[Act.put,sqA,sqB,sqC];refine zr (i:=20) (d:=some 42) (v:=undef) (fuel:=1) rfl (by kernel_rfl) (by kernel_rfl) (fun _ _ _ h=>h) hD blr (.inr ⟨by kernel_rfl,rfl⟩) ?_;clear hD;intro hD;simp only[Act.put,sqA,sqB,sqC];refine qPD 21 43 0 rfl hD blr ?_;clear hD;intro hD;simp only[Act.put,sqA,sqB,sqC];refine ze (by kernel_rfl) ?_ 0;clear hD;have HW:=Hq (show Below w.heap.size w wr.drew from HB.out.trans ((Below.refl wr.heap.size wr).drew.mono HB.out.size));have HOO:=Hq (show wr.drew.ownsRow w.heap.size 22 1 u9 o.length (o.map Value.string)from jy HOWN.out ((Below.refl wr.heap.size wr).drew) nlr);have ex:wr.drew.cell? ⟨p1,o1+I,none⟩=some (.string x):=e1;clear e1
      -- x is next: HX : elem, HW : Below w.. wr.drew, HOO : row in wr.drew, HR : equation of the rest
      have HCH:=Hq (zbi na A2 n2 c2 x wr.drew (H2.out.kept HW.out nlr));go_wp2_with fail;refine HCH.out.mono ?_;rintro e wa ⟨rfl,hb⟩;have HWA:=Hq (HW.out.trans (hb.mono HW.out.size));have HOA:=Hq (jy HOO.out hb nlr);have ec:=kc hb ex;clear hb
      cases hh:memB na x with
      | true =>
       have HR2:=Hq (show o++mrg (memB na) (memB nb) (a.drop (I+1)) (b.drop Q)=R from by rw[←HEQ.out,HR.out,if_pos hh];rfl);clear hh;go_wp2;go_roundw;case rel=>exact⟨(I+1),Q,o,by omega,by omega,by go_num,by go_num,HOA.out,HR2.out,by omega,HWA.out⟩
       case measure=>simp[intOf];omega
      | false =>
       have HR2:=Hq (show o++[x]++mrg (memB na) (memB nb) (a.drop (I+1)) (b.drop Q)=R from by rw[←HEQ.out,HR.out,if_neg (by rw[hh];decide),List.append_assoc]);clear hh;go_wp2_with (at_builtin;go_must (refine jk w _ rfl (.tmp 51) (.tmp 56) rfl w.heap.size _ o.length o rfl (HOA.out.alloc (.cells #[.string x] 22)) (some ⟨wa.heap.size,0,none⟩) 1 1 [x] rfl (SlN.new wa [x] 22 (by simp)) (by omega) (HWA.out.alloc HWA.out.size _) (by have:=HWA.out.size;simp;omega) ?_));intro v2 w2 hown hb hsz;have HO2:=Hq (show w2.ownsRow w.heap.size 22 1 v2 (o++[x]).length ((o++[x]).map Value.string)from by rw[List.length_append,List.map_append];exact hown);have HB2:=Hq hb;clear hown hb hsz;go_wp2;go_roundw;case rel=>exact⟨(I+1),Q,o++[x],by omega,by omega,by go_num,by go_num,HO2.out,HR2.out,by simp;omega,HB2.out⟩
       case measure=>simp[intOf];omega
  · obtain rfl:I=n1:=by omega
    by_cases hq:Q<n3
    · obtain⟨y,hy⟩:∃ y,b[Q]? =some y:=⟨_,List.getElem?_eq_getElem (by rw[HL3.out];exact hq)⟩;have HY:=Hq hy;obtain⟨p3,o3,rfl,e3⟩:=(H3.out.kept HB.out nlr).cell hy;have HR:=Hq (zmb (na:=memB na) (nb:=memB nb) HY.out (Nat.le_of_eq HL1.out));have hd:decide ((n3:Int)≤(Q:Int))=false:=decide_eq_false (by omega);have hd':decide (n3≤Q)=false:=decide_eq_false (by omega);clear hy;go_wp2;refine zg 22 (Below (wr.drew).heap.size (wr.drew)) (by kernel_rfl) ?_;intro hD;refine qPD 0 22 21 rfl hD blr ?_;clear hD;intro hD;simp only[Act.put,sqA,sqB,sqC];refine qPD 1 23 20 rfl hD blr ?_;clear hD;intro hD;simp only[Act.put,sqA,sqB,sqC];refine qPD 2 24 19 rfl hD blr ?_;clear hD;intro hD;simp only[Act.put,sqA,sqB,sqC];refine qPD 3 25 18 rfl hD blr ?_;clear hD;intro hD;simp only[Act.put,sqA,sqB,sqC];refine qPD 4 26 17 rfl hD blr ?_;clear hD;intro hD;simp only[Act.put,sqA,sqB,sqC];refine qPD 5 27 16 rfl hD blr ?_;clear hD;intro hD;simp only[Act.put,sqA,sqB,sqC];refine qPD 6 28 15 rfl hD blr ?_;clear hD;intro hD;simp only[Act.put,sqA,sqB,sqC];refine qPD 7 29 14 rfl hD blr ?_;clear hD;intro hD;simp only[Act.put,sqA,sqB,sqC];refine qPD 8 30 13 rfl hD blr ?_;clear hD;intro hD;simp only[Act.put,sqA,sqB,sqC];refine qPD 9 31 12 rfl hD blr ?_;clear hD;intro hD;simp only[Act.put,sqA,sqB,sqC];refine zr (i:=10) (d:=some 32) (v:=undef) (fuel:=11) rfl (by kernel_rfl) (by kernel_rfl) (fun _ _ _ h=>h) hD blr (.inr ⟨by kernel_rfl,rfl⟩) ?_;clear hD;intro hD;simp only[Act.put,sqA,sqB,sqC];refine zr (i:=11) (d:=some 33) (v:=undef) (fuel:=10) rfl (by kernel_rfl) (by kernel_rfl) (fun _ _ _ h=>h) hD blr (.inr ⟨by kernel_rfl,rfl⟩) ?_;clear hD;intro hD;simp only[Act.put,sqA,sqB,sqC];refine zr (i:=12) (d:=some 34) (v:=undef) (fuel:=9) rfl (by kernel_rfl) (by kernel_rfl) (fun _ _ _ h=>h) hD blr (.inr ⟨by kernel_rfl,rfl⟩) ?_;clear hD;intro hD;simp only[Act.put,sqA,sqB,sqC];refine zr (i:=13) (d:=some 35) (v:=undef) (fuel:=8) rfl (by kernel_rfl) (by kernel_rfl) (fun _ _ _ h=>h) hD blr (.inr ⟨by kernel_rfl,rfl⟩) ?_;clear hD;intro hD;simp only[Act.put,sqA,sqB,sqC];refine zr (i:=14) (d:=some 36) (v:=undef) (fuel:=7) rfl (by kernel_rfl) (by kernel_rfl) (fun _ _ _ h=>h) hD blr (.inr ⟨by kernel_rfl,rfl⟩) ?_;clear hD;intro hD;simp only[Act.put,sqA,sqB,sqC];refine zr (i:=15) (d:=some 37) (v:=undef) (fuel:=6) rfl (by kernel_rfl) (by kernel_rfl) (fun _ _ _ h=>h) hD blr (.inr ⟨by kernel_rfl,rfl⟩) ?_;clear hD;intro hD;simp only[Act.put,sqA,sqB,sqC];refine zr (i:=16) (d:=some 38) (v:=undef) (fuel:=5) rfl (by kernel_rfl) (by kernel_rfl) (fun _ _ _ h=>h) hD blr (.inr ⟨by kernel_rfl,rfl⟩) ?_;clear hD;intro hD;simp only[Act.put,sqA,sqB,sqC];refine zr (i:=17) (d:=some 39) (v:=undef) (fuel:=4) rfl (by kernel_rfl) (by kernel_rfl) (fun _ _ _ h=>h) hD blr (.inr ⟨by kernel_rfl,rfl⟩) ?_;clear hD;intro hD;simp only[Act.put,sqA,sqB,sqC];refine zr (i:=18) (d:=some 40) (v:=undef) (fuel:=3) rfl (by kernel_rfl) (by kernel_rfl) (fun _ _ _ h=>h) hD blr (.inr ⟨by kernel_rfl,rfl⟩) ?_;clear hD;intro hD;simp only[Act.put,sqA,sqB,sqC];refine zr (i:=19) (d:=some 41) (v:=undef) (fuel:=2) rfl (by kernel_rfl) (by kernel_rfl) (fun _ _ _ h=>h) hD blr (.inr ⟨by kernel_rfl,rfl⟩) ?_;clear hD;intro hD;simp only[Act.put,sqA,sqB,sqC];refine qPD 20 42 1 rfl hD blr ?_;clear hD;intro hD;simp only[Act.put,sqA,sqB,sqC];refine qPD 21 43 0 rfl hD blr ?_;clear hD;intro hD;simp only[Act.put,sqA,sqB,sqC];refine ze (by kernel_rfl) ?_ 0;clear hD hd hd';have HW:=Hq (show Below w.heap.size w wr.drew from HB.out.trans ((Below.refl wr.heap.size wr).drew.mono HB.out.size));have HOO:=Hq (show wr.drew.ownsRow w.heap.size 22 1 u9 o.length (o.map Value.string)from jy HOWN.out ((Below.refl wr.heap.size wr).drew) nlr);have ex:wr.drew.cell? ⟨p3,o3+Q,none⟩=some (.string y):=e3;clear e3
      -- y is next: HX : elem, HW : Below w.. wr.drew, HOO : row in wr.drew, HR : equation of the rest
      have HCH:=Hq (zbi nb A4 n4 c4 y wr.drew (H4.out.kept HW.out nlr));go_wp2_with fail;refine HCH.out.mono ?_;rintro e wa ⟨rfl,hb⟩;have HWA:=Hq (HW.out.trans (hb.mono HW.out.size));have HOA:=Hq (jy HOO.out hb nlr);have ec:=kc hb ex;clear hb
      cases hh:memB nb y with
      | true =>
       have HR2:=Hq (show o++mrg (memB na) (memB nb) (a.drop I) (b.drop (Q+1))=R from by rw[←HEQ.out,HR.out,if_pos hh];rfl);clear hh;go_wp2;go_roundw;case rel=>exact⟨I,(Q+1),o,by omega,by omega,by go_num,by go_num,HOA.out,HR2.out,by omega,HWA.out⟩
       case measure=>simp[intOf];omega
      | false =>
       have HR2:=Hq (show o++[y]++mrg (memB na) (memB nb) (a.drop I) (b.drop (Q+1))=R from by rw[←HEQ.out,HR.out,if_neg (by rw[hh];decide),List.append_assoc]);clear hh;go_wp2_with (at_builtin;go_must (refine jk w _ rfl (.tmp 67) (.tmp 72) rfl w.heap.size _ o.length o rfl (HOA.out.alloc (.cells #[.string y] 22)) (some ⟨wa.heap.size,0,none⟩) 1 1 [y] rfl (SlN.new wa [y] 22 (by simp)) (by omega) (HWA.out.alloc HWA.out.size _) (by have:=HWA.out.size;simp;omega) ?_));intro v2 w2 hown hb hsz;have HO2:=Hq (show w2.ownsRow w.heap.size 22 1 v2 (o++[y]).length ((o++[y]).map Value.string)from by rw[List.length_append,List.map_append];exact hown);have HB2:=Hq hb;clear hown hb hsz;go_wp2;go_roundw;case rel=>exact⟨I,(Q+1),o++[y],by omega,by omega,by go_num,by go_num,HO2.out,HR2.out,by simp;omega,HB2.out⟩
       case measure=>simp[intOf];omega
    · obtain rfl:Q=n3:=by omega
      have HE:=Hq (show o=R from by
       have:=HEQ.out;rw[List.drop_eq_nil_of_le (Nat.le_of_eq HL1.out),List.drop_eq_nil_of_le (Nat.le_of_eq HL3.out),mrg,List.append_nil]at this
       exact this)
      have HOR:=Hq (show wr.ownsRow w.heap.size 22 1 u9 R.length (R.map Value.string)from by rw[←HE.out];exact HOWN.out);clear hi hq;go_wp2;go_ret;exact⟨_,rfl,HOR.out,HB.out⟩
section
variable {P : Program} {ops : Array Oper} {Q : Exit → Act → World → Prop} {md : Region.Mode} {S : World → Prop} {k : Nat}
def zj9(P:Program)(md:Region.Mode)(ops:Array Oper)(Q:Exit→Act→World→Prop)(k:Nat)(S:World→Prop)(i1 i2:Nat)(d1 d2:Tmp)(fuel:Nat)(listed:Array Bool)(a:Act)(I:Bool→Value→Bool→Value→World→Prop):Prop:=
 (∀ y,qn P md ops Q k S i1 d1 fuel (listed.setIfInBounds i2 true) (a.put (some d2) y) (fun b x w=>I b x true y w))∧qn P md ops Q k S i1 d1 (fuel+1) listed a (fun b x w=>I b x false undef w)
theorem zaw(a:Act)(x v:Value){d e:Tmp}(h:d≠e):(a.put (some d) x).put (some e) v=(a.put (some e) v).put (some d) x:=Act.put_comm a x v (fun d' h1 h2=>by cases h1;cases h2;exact h rfl)
theorem zaj{i1 i2 j:Nat}{o1 o2 oj:Oper}{d1 d2 dj:Tmp}{fuel:Nat}{listed:Array Bool}{a:Act}{I:Bool→Value→Bool→Value→World→Prop}{β:Type}(val:β→Value)(I':β→Bool→Value→Bool→Value→World→Prop)
 (hr0:Region.ready md ops listed=[j,i1,i2]) (hr1:Region.ready md ops (listed.setIfInBounds i1 true)=[j,i2]) (hr2:Region.ready md ops (listed.setIfInBounds i2 true)=[j,i1]) (hr3:Region.ready md ops ((listed.setIfInBounds i2 true).setIfInBounds i1 true)=[j])
 (h1:ops[i1]? =some o1) (h2:ops[i2]? =some o2) (hj:ops[j]? =some oj) (hD:Down md ops listed) (ha1:a.put (some d1) undef=a) (ha2:a.put (some d2) undef=a) (hne:i1≠i2) (hn1:i1≠j) (hn2:i2≠j) (n12:d1≠d2) (n1j:d1≠dj) (n2j:d2≠dj)
 (hS:∀ b x c y w,I b x c y w→S w) (hS':∀ v b x c y w,I' v b x c y w→S w)
 (al1:∀ c y w,I false undef c y w→∀ K:Act→World→Prop,(∀ x w',I true x c y w'→K ((a.put (some d2) y).put (some d1) x) w')→wpList P ops (EndK K Q) [o1] (a.put (some d2) y) w)
 (al2:∀ b x w,I b x false undef w→∀ K:Act→World→Prop,(∀ y w',I b x true y w'→K ((a.put (some d1) x).put (some d2) y) w')→wpList P ops (EndK K Q) [o2] (a.put (some d1) x) w)
 (st:∀ b x c y w,I b x c y w→∀ K:Act→World→Prop,(∀ v w',I' v b x c y w'→K (((a.put (some d2) y).put (some d1) x).put (some dj) (val v)) w')→wpList P ops (EndK K Q) [oj] ((a.put (some d2) y).put (some d1) x) w)
 (hnext:∀ v,Down md ops (listed.setIfInBounds j true)→zj9 P md ops Q k S i1 i2 d1 d2 fuel (listed.setIfInBounds j true) (a.put (some dj) (val v)) (I' v)) :
 zj9 P md ops Q k S i1 i2 d1 d2 (fuel+1) listed a I:=by
 have m1:i1∈Region.ready md ops listed:=by rw[hr0];simp
 have m2:i2∈Region.ready md ops listed:=by rw[hr0];simp
 have mj:j∈Region.ready md ops listed:=by rw[hr0];simp
 have hDj:=hD.set mj;have first:∀ y,qn P md ops Q k S i1 d1 (fuel+1) (listed.setIfInBounds i2 true) (a.put (some d2) y) (fun b x w=>I b x true y w):=fun y=>by
  refine xa val (fun v b x w=>I' v b x true y w) hr2 hr3 h1 hj (hD.set m2) (by rw[zaw _ _ _ n12.symm,ha1]) n1j (fun v b x w h=>hS' _ _ _ _ _ _ h) (fun b x w h=>hS _ _ _ _ _ h) (fun w h K hK=>al1 true y w h K hK) (fun b x w h K hK=>st b x true y w h K hK) (fun v _=>?_);have h:=(hnext v hDj).1 y;rw[zaw _ _ _ n2j,Array.setIfInBounds_comm _ _ hn2];exact h
 have only1:∀ x w,I true x false undef w→jb P md ops Q k S (fuel+2) (listed.setIfInBounds i1 true) (a.put (some d1) x) w:=fun x w h=>by
  refine je hr1 hj h2 (hD.set m1) (fun K hK=>?_) (fun K hK=>?_)
  · have h3:=st true x false undef w h K fun v w' h'=>by
     rw[ha2];refine hK _ w' (hS' _ _ _ _ _ _ h') fun _ _=>?_;rw[zaw _ _ _ n1j,Array.setIfInBounds_comm _ _ hn1];exact(hnext v hDj).2.1 x w' h'
    rw[ha2]at h3;exact h3
  · exact al2 true x w h K fun y w' h'=>hK _ w' (hS _ _ _ _ _ h') fun _ _=>by
     rw[zaw _ _ _ n12,Array.setIfInBounds_comm _ _ hne];exact(first y).1 x w' h'
 refine⟨first,only1,fun w h=>?_⟩;refine zgv hr0 hj h1 h2 hD (fun K hK=>?_) (fun K hK=>?_) (fun K hK=>?_)
 · have h3:=st false undef false undef w h K fun v w' h'=>by
    rw[ha2,ha1];exact hK _ w' (hS' _ _ _ _ _ _ h') fun _ _=>(hnext v hDj).2.2 w' h'
   rw[ha2,ha1]at h3;exact h3
 · have h3:=al1 false undef w h K fun x w' h'=>by
    rw[ha2];exact hK _ w' (hS _ _ _ _ _ h') fun _ _=>only1 x w' h'
   rw[ha2]at h3;exact h3
 · have h3:=al2 false undef w h K fun y w' h'=>by
    rw[ha1];exact hK _ w' (hS _ _ _ _ _ h') fun _ _=>(first y).2 w' h'
   rw[ha1]at h3;exact h3
theorem zkz{i1 i2:Nat}{o1 o2:Oper}{d1 d2:Tmp}{fuel:Nat}{listed:Array Bool}{a:Act}{I:Bool→Value→Bool→Value→World→Prop}
 (hr0:Region.ready md ops listed=[i1,i2]) (hr2:Region.ready md ops (listed.setIfInBounds i2 true)=[i1])
 (h1:ops[i1]? =some o1) (h2:ops[i2]? =some o2) (hD:Down md ops listed) (ha1:a.put (some d1) undef=a) (ha2:a.put (some d2) undef=a) (hne:i1≠i2) (n12:d1≠d2)
 (hS:∀ b x c y w,I b x c y w→S w)
 (al1:∀ c y w,I false undef c y w→∀ K:Act→World→Prop,(∀ x w',I true x c y w'→K ((a.put (some d2) y).put (some d1) x) w')→wpList P ops (EndK K Q) [o1] (a.put (some d2) y) w)
 (al2:∀ b x w,I b x false undef w→∀ K:Act→World→Prop,(∀ y w',I b x true y w'→K ((a.put (some d1) x).put (some d2) y) w')→wpList P ops (EndK K Q) [o2] (a.put (some d1) x) w)
 (hnext:∀ x,Down md ops (listed.setIfInBounds i1 true)→qn P md ops Q k S i2 d2 fuel (listed.setIfInBounds i1 true) (a.put (some d1) x) (fun c y w=>I true x c y w)) :
 zj9 P md ops Q k S i1 i2 d1 d2 fuel listed a I:=by
 have m1:i1∈Region.ready md ops listed:=by rw[hr0];simp
 have m2:i2∈Region.ready md ops listed:=by rw[hr0];simp
 have hD1:=hD.set m1;have both:∀ x y w,I true x true y w→jb P md ops Q k S fuel ((listed.setIfInBounds i2 true).setIfInBounds i1 true) ((a.put (some d2) y).put (some d1) x) w:=fun x y w h=>by
  have h3:=(hnext x hD1).1 y w h;rw[zaw _ _ _ n12,Array.setIfInBounds_comm _ _ hne]at h3;exact h3
 have only2:∀ y w,I false undef true y w→jb P md ops Q k S (fuel+1) (listed.setIfInBounds i2 true) (a.put (some d2) y) w:=fun y w h =>
  zc hr2 h1 (hD.set m2) fun K hK=>al1 true y w h K fun x w' h'=>hK _ w' (hS _ _ _ _ _ h') fun _ _=>both x y w' h'
 refine⟨fun y=>⟨fun x w h=>both x y w h,fun w h=>only2 y w h⟩,fun x w h=>(hnext x hD1).2 w h,fun w h=>?_⟩;refine je hr0 h1 h2 hD (fun K hK=>?_) (fun K hK=>?_)
 · have h3:=al1 false undef w h K fun x w' h'=>by
    rw[ha2];exact hK _ w' (hS _ _ _ _ _ h') fun _ _=>(hnext x hD1).2 w' h'
   rw[ha2]at h3;exact h3
 · have h3:=al2 false undef w h K fun y w' h'=>by
    rw[ha1];exact hK _ w' (hS _ _ _ _ _ h') fun _ _=>only2 y w' h'
   rw[ha1]at h3;exact h3
end
end Go.Proofs.YtkfgdcgmlobhfaaGreat

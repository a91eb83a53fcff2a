import Derived.Test.YtmahgbhpdfbbjaaGreatDoorQTvJ
import Derived.Test.YtmahgbhpdfbbjaaGreatDoorQUpA
set_option linter.unusedVariables false
set_option linter.unusedSimpArgs false
namespace Go.Proofs.YtmahgbhpdfbbjaaGreatDoor
open Go.RowKit
def flt(a b:List ByteArray):List ByteArray:=a.filter (fun x => !memB b x)
def SrtL(l:List ByteArray):Prop:=l.Pairwise (fun a b=>num a≤num b)
def minL(a b:List ByteArray):List ByteArray:=(flt a b).mergeSort (fun x y=>decide (num x≤num y))
theorem minL_eq{a b l:List ByteArray}(hv:∀ x∈a,nvalid x=true)(hs:SrtL l)(hp:l.Perm (flt a b)):l=minL a b:=by
 have hq:l.Perm (minL a b):=hp.trans (List.mergeSort_perm _ _).symm;have hf:∀ x∈l,nvalid x=true:=fun x hx=>hv x (List.mem_filter.1 (hp.mem_iff.1 hx)).1;refine List.Perm.eq_of_pairwise (le:=fun a b=>num a≤num b) (fun x y hx hy h1 h2=>num_inj (hf x hx) (hf y (hq.mem_iff.2 hy)) (Nat.le_antisymm h1 h2)) hs ?_ hq;refine(List.pairwise_mergeSort (le:=fun x y=>decide (num x≤num y)) (fun a b c h1 h2=>?_) (fun a b=>?_) (flt a b)).imp (fun {x y} h=>of_decide_eq_true h)
 · simp only[decide_eq_true_eq]at h1 h2⊢;omega
 · simp only[Bool.or_eq_true,decide_eq_true_eq];omega
theorem flt_step{a b:List ByteArray}{k:Nat}{x:ByteArray}(he:a[k]? =some x):flt (a.take (k+1)) b=flt (a.take k) b++(if memB b x=true then []else [x]):=by
 unfold flt;rw[List.take_add_one,he,Option.toList_some,List.filter_append];congr 1;rw[List.filter_cons];cases memB b x<;>rfl
def Bub(s:List ByteArray)(x:ByteArray)(L:List ByteArray)(k:Nat):Prop:=∃ p q,s=p++q∧L=p++x::q∧p.length=k∧∀ y∈q,num x<num y
theorem bub_start(s:List ByteArray)(x:ByteArray):Bub s x (s++[x]) s.length:=⟨s,[],by simp,rfl,rfl,fun y h=>by cases h⟩
theorem bub_len{s:List ByteArray}{x:ByteArray}{L:List ByteArray}{k:Nat}(h:Bub s x L k):L.length=s.length+1∧k≤s.length∧L[k]? =some x∧L.Perm (s++[x]):=by
 obtain⟨p,q,rfl,rfl,rfl,_⟩:=h;refine⟨by simp;omega,by simp,by simp,?_⟩;rw[List.append_assoc];exact List.Perm.append_left p (List.perm_append_comm (l₁:=[x]) (l₂:=q))
theorem bub_step{s:List ByteArray}{x y:ByteArray}{L:List ByteArray}{k:Nat}(h:Bub s x L (k+1))(hy:L[k]? =some y)(hl:num x<num y):Bub s x ((L.set (k+1) y).set k x) k:=by
 obtain⟨p,q,rfl,rfl,hk,hq⟩:=h;obtain⟨p',z,rfl⟩:∃ p' z,p=p'++[z]:=by
  rcases List.eq_nil_or_concat p with e | ⟨p',z,e⟩
  · rw[e]at hk;cases hk
  · exact⟨p',z,by rw[e,List.concat_eq_append]⟩
 have hk':p'.length=k:=by simpa using hk
 subst hk';have hz:z=y:=by simpa using hy
 subst hz;refine⟨p',z::q,by simp,?_,rfl,fun u hu=>?_⟩
 · rw[List.append_assoc,List.set_append_right _ _ (by omega),List.set_append_right _ _ (by omega)];simp
 · rcases List.mem_cons.1 hu with rfl | hu
   · exact hl
   · exact hq u hu
theorem bub_done{s:List ByteArray}{x:ByteArray}{L:List ByteArray}{k:Nat}(h:Bub s x L k)(hs:SrtL s)(hd:k=0∨∃ y,L[k - 1]? =some y∧num y≤num x):SrtL L:=by
 obtain⟨p,q,rfl,rfl,rfl,hq⟩:=h;have hs:=List.pairwise_append.1 hs;refine List.pairwise_append.2 ⟨hs.1,List.pairwise_cons.2 ⟨fun y hy=>Nat.le_of_lt (hq y hy),hs.2.1⟩,fun u hu v hv=>?_⟩;rcases List.mem_cons.1 hv with rfl | hv
 · rcases hd with h0 | ⟨y,hy,hle⟩
   · rw[List.length_eq_zero_iff.1 h0]at hu;cases hu
   · rcases List.eq_nil_or_concat p with e | ⟨p',z,e⟩
     · rw[e]at hu;cases hu
     · rw[List.concat_eq_append]at e;subst e;have hz:z=y:=by
        have e1:(p'++[z]).length - 1=p'.length:=by simp
        rw[e1]at hy;simpa using hy
       subst hz;rcases List.mem_append.1 hu with h' | h'
       · exact Nat.le_trans ((List.pairwise_append.1 hs.1).2.2 u h' z (by simp)) hle
       · rw[List.mem_singleton]at h';subst h';exact hle
 · exact hs.2.2 u hu v hv
def OwnN(w:World)(B g m c:Nat)(L:List ByteArray):Prop:=w.ownsRow B 22 1 (.slice (some ⟨g,0,none⟩) m c) m (L.map Value.string)
theorem OwnN.parts{w:World}{B g m c:Nat}{L:List ByteArray}(h:OwnN w B g m c L):L.length=m∧B≤g∧m≤c∧c≤9223372036854775807∧g<w.heap.size∧SlN w (some ⟨g,0,none⟩) m c L∧(∀ j x,L[j]? =some x→w.cell? ⟨g,j,none⟩=some (.string x))∧∀ j,w.frozen? ⟨g,j,none⟩=false:=by
 have hl:L.length=m:=by have:=h.1;simpa using this
 rcases h.2 with⟨h1,_⟩ | ⟨g',cap,cur,hv,hg,hh,r1,r2,r3,r4⟩
 · cases h1
 · cases hv;have hlt:g<w.heap.size:=by
    rcases Nat.lt_or_ge g w.heap.size with hlt | hge
    · exact hlt
    · rw[Array.getElem?_eq_none hge]at hh;cases hh
   have hc:∀ j x,L[j]? =some x→w.cell? ⟨g,j,none⟩=some (.string x):=fun j x hx=>by
    have hj:=(List.getElem?_eq_some_iff.1 hx).1;have e:(cur.toList.take (m * 1))[j]? =some (.string x):=by rw[r4,List.getElem?_map,hx];rfl
    rw[List.getElem?_take]at e;split at e
    · rw[Array.getElem?_toList]at e;simp[World.cell?,hh,e]
    · cases e
   refine⟨hl,hg,r1,by unfold maxLen at r2;omega,hlt,⟨hl,r1,by unfold maxLen at r2;omega,g,0,fun _=>rfl,fun k s hk=>by rw[Nat.zero_add];exact hc k s hk⟩,hc,fun j=>Lib.frozen_of_heap hh j⟩
theorem OwnN.set{w:World}{B g m c:Nat}{L:List ByteArray}(h:OwnN w B g m c L)(j:Nat)(y:ByteArray):OwnN (w.setCell ⟨g,j,none⟩ (.string y)) B g m c (L.set j y):=by
 refine⟨by have:=h.1;simpa using this,?_⟩;rcases h.2 with⟨h1,_⟩ | ⟨g',cap,cur,hv,hg,hh,r1,r2,r3,r4⟩
 · cases h1
 · cases hv;refine .inr ⟨g,c,_,rfl,hg,block_setCell hh _,r1,r2,by simpa using r3,?_⟩;rw[Array.toList_setIfInBounds,List.take_set,r4,List.map_set]
theorem OwnN.kept{w w':World}{B D g m c:Nat}{L:List ByteArray}(h:OwnN w B g m c L)(hb:Below D w w')(hD:w.heap.size≤D):OwnN w' B g m c L:=owns_kept h hb hD
theorem OwnN.drew{w:World}{B g m c:Nat}{L:List ByteArray}(h:OwnN w B g m c L):OwnN w.drew B g m c L:=h
theorem own_slnA{w:World}{base:Nat}{v:Value}{n:Nat}{l:List ByteArray}(h:w.ownsRow base 22 1 v n (l.map Value.string)):∃ A c,v=.slice A n c∧SlN w A n c l∧(0<n→∀ a,A=some a→base≤a.block∧a.block<w.heap.size):=by
 obtain⟨_,A,c,rfl,hs⟩:=SlN.of_owns h;refine⟨A,c,rfl,hs,fun h0 a he=>?_⟩;obtain⟨g,cap,hv,h1,h2⟩:=h.form h0;cases hv;cases he;exact⟨h1,h2⟩
theorem str_ne{x y:ByteArray}(h:(x.toList==y.toList)=false):x≠y:=fun e=>by rw[e]at h;simp at h
theorem str_eq{x y:ByteArray}(h:(x.toList==y.toList)=true):x=y:=by
 have h:=eq_of_beq h;rw[ByteArray.toList_eq,ByteArray.toList_eq]at h;exact ByteArray.ext (Array.toList_inj.1 h)
theorem tw_lt{M O:ByteArray}{X:Nat}(hc:chkK M O=0)(hX:hasN (num M) (num O) X=true)(F:Nat):X ^ F%num M<256 ^ 128:=by
 have h1:=has_lt hX;have h2:=nvalid_lt (chkK_parts hc).1;exact Nat.lt_trans (Nat.mod_lt _ (by omega)) h2
theorem tw_has{M O:ByteArray}{X:Nat}(hc:chkK M O=0)(hX:hasN (num M) (num O) X=true)(F:Nat):hasN (num M) (num O) (X ^ F%num M)=true:=by
 have h:=has_pz (chkK_parts hc).2.2 hX (F:Int);rwa[pz_nat]at h
theorem tw_val{M O:ByteArray}{X:Nat}(hc:chkK M O=0)(hX:hasN (num M) (num O) X=true)(F:Nat):nvalid (nS (X ^ F%num M))=true:=nvalid_nS.2 (tw_lt hc hX F)
theorem memB_zero{l:List ByteArray}(h:∀ x∈l,0<num x):memB l ⟨#[]⟩=false:=by
 cases e:memB l ⟨#[]⟩with
 | false=>rfl
 | true =>
  have:=h _ (memB_iff.1 e);exact absurd this (by decide)
theorem rdy_good{M O:ByteArray}{X:Nat}(hc:chkK M O=0)(hX:hasN (num M) (num O) X=true){hs:List ByteArray}(hv:hs.all nvalid=true)(hp:∀ x∈hs,0<num x)(Fs:List Nat) :
 rdyR M O (Fs.map (fun F=>nS (X ^ F%num M))) hs=0:=by
 unfold rdyR;have h1:=(chkK_parts hc).1;have h2:=(chkK_parts hc).2.1;have h3:(Fs.map (fun F=>nS (X ^ F%num M))).all nvalid=true:=by
  rw[List.all_eq_true];intro s hs;obtain⟨F,_,rfl⟩:=List.mem_map.1 hs;exact tw_val hc hX F
 have h4:(Fs.map (fun F=>nS (X ^ F%num M))).all (fun x=>hasN (num M) (num O) (num x))=true:=(by rw[List.all_eq_true];intro s hs;obtain⟨F,_,rfl⟩:=List.mem_map.1 hs;rw[num_nS];exact tw_has hc hX F);rw[h1,h2,h3,hv,if_neg (by decide),if_neg (fun c=>c hc),h4,if_neg (by decide),memB_zero hp,if_neg (by decide)]
theorem bz_two{u d:Nat}(hu:0<u)(hd:0<d)(hg:Nat.gcd u d=1):(u:Int) * (bzP u d).1+d * (bzP u d).2=1∧(bzP u d).2.natAbs≤u∧(bzP u d).1.natAbs<d:=by
 obtain⟨h1,h2,h3⟩:=bzP_spec hu hd;rw[hg]at h2 h3;rw[Nat.div_one]at h2;obtain⟨⟨x,y⟩,hxy⟩:∃ p,bzP u d=p:=⟨_,rfl⟩;rw[hxy]at h1 h2 h3⊢;simp only[]at h1 h2 h3⊢;refine⟨h3,?_,by omega⟩;have hd':(1:Int)≤d:=by omega
 have hu':(1:Int)≤u:=by omega
 have h3:(u:Int) * x+d * y=1:=h3;have e:(d:Int) * y=1 - u * x:=by omega
 have a1:(u:Int) * x≤u * (d - 1):=Int.mul_le_mul_of_nonneg_left (by omega) (by omega);have a2:(0:Int)≤u * x:=Int.mul_nonneg (by omega) h1;have b1:(d:Int) * y≤1:=by omega
 have b2:-((d:Int) * u)≤d * y:=by
  have : (u:Int) * (d - 1)=u * d - u:=by rw[Int.mul_sub,Int.mul_one]
  have : (u:Int) * d=d * u:=Int.mul_comm _ _;omega
 have c1:y≤1:=by
  by_cases h:(1:Int)<y
  · have : (d:Int) * 2≤d * y:=Int.mul_le_mul_of_nonneg_left (by omega) (by omega);omega
  · omega
 have c2:-(u:Int)≤y:=by
  by_cases h:y < -(u:Int)
  · have k:(d:Int) * y≤d * (-(u:Int) - 1):=Int.mul_le_mul_of_nonneg_left (by omega) (by omega);have : (d:Int) * (-(u:Int) - 1) = -(d * u) - d:=by rw[Int.mul_sub,Int.mul_one,Int.mul_neg]
    omega
  · omega
 omega
theorem up_good{M O:ByteArray}{X:Nat}(hc:chkK M O=0)(hX:hasN (num M) (num O) X=true){u:ByteArray}{ad rm:List ByteArray}{F F':Nat}
 (vu:nvalid u=true) (va:ad.all nvalid=true) (vr:rm.all nvalid=true) (hu:u∉rm) (pu:0<num u) (pa:∀ x∈ad,0<num x) (pr:∀ x∈rm,0<num x)
 (hg:Nat.gcd (num u) (prodN rm)=1) (hA:prodN ad<256 ^ 110) (hR:prodN rm<256 ^ 128) (hu8:num u<256 ^ 8) (hF:F' * prodN rm=F * prodN ad) :
 upR M O (nS (X ^ F%num M)) u ad rm (nS (X ^ (num u * F')%num M))=(nS (X ^ F'%num M),0):=by
 have hr:rdyR M O [nS (X ^ F%num M),nS (X ^ (num u * F')%num M)] (u::(ad++rm))=0:=
  rdy_good hc hX (by rw[List.all_cons,List.all_append,vu,va,vr];rfl) (by
   intro x hx;rw[List.mem_cons,List.mem_append]at hx;rcases hx with rfl | hx | hx
   · exact pu
   · exact pa x hx
   · exact pr x hx) [F,num u * F']
 have hd:=prodN_pos pr;obtain⟨b1,b2,b3⟩:=bz_two pu hd hg;obtain⟨i,hun⟩:=has_un (chkK_parts hc).2.2 hX;have hy:((bzP (num u) (prodN rm)).2 * prodN ad).natAbs<256 ^ 128:=(by rw[Int.natAbs_mul,Int.natAbs_natCast];exact Nat.lt_of_le_of_lt (Nat.mul_le_mul (Nat.le_trans b2 (Nat.le_of_lt hu8)) (Nat.le_of_lt hA)) (by rw[←Nat.pow_add];exact Nat.pow_lt_pow_right (by decide) (by decide)));have he:exR u ad rm=(((bzP (num u) (prodN rm)).2 * prodN ad,(bzP (num u) (prodN rm)).1),0):=(by unfold exR;rw[if_neg (by rw[memB_no.2 hu];decide),if_neg (fun c=>c ⟨Nat.lt_trans hA (Nat.pow_lt_pow_right (by decide) (by decide)),hR⟩),if_neg (fun c=>c hg),if_pos hy]);unfold upR;rw[hr,he,if_neg (fun c=>c rfl),if_neg (fun c=>c rfl)];simp only[];rw[num_nS,num_nS];obtain⟨⟨x,y⟩,hxy⟩:∃ p,bzP (num u) (prodN rm)=p:=⟨_,rfl⟩;rw[hxy]at b1⊢;simp only[]at b1⊢;have e1:pz (num M) (X ^ F%num M) (y * prodN ad)=pz (num M) X (F * (y * prodN ad)):=by rw[←pz_nat,pz_pow hun]
 have e2:pz (num M) (X ^ (num u * F')%num M) x=pz (num M) X ((num u * F':Nat) * x):=by rw[←pz_nat,pz_pow hun]
 rw[e1,e2,←pz_add hun];have e3:(F:Int) * (y * prodN ad)+(num u * F':Nat) * x=(F':Int):=by
  have hF':(F':Int) * prodN rm=F * prodN ad:=by exact_mod_cast hF
  have : (F:Int) * (y * prodN ad)=y * (F' * prodN rm):=by rw[hF'];simp only[Int.mul_left_comm,Int.mul_comm]
  rw[this,Int.natCast_mul];have : y * ((F':Int) * prodN rm)+(num u:Int) * F' * x=F' * ((num u:Int) * x+prodN rm * y):=by rw[Int.mul_add];simp only[Int.mul_left_comm,Int.mul_comm];omega
  rw[this,b1,Int.mul_one]
 rw[e3,pz_nat]
def ev(d:Dl)(x:ByteArray):Int:=ind d.ad x - ind d.rm x
theorem ev_ad{d:Dl}(h:d.Good)(x:ByteArray):x∈d.ad↔ev d x=1:=by
 have h1:=h.dis x;unfold ev;rcases ind_cases d.ad x with⟨a,e⟩ | ⟨a,e⟩<;>rcases ind_cases d.rm x with⟨b,f⟩ | ⟨b,f⟩<;>rw[e,f]<;>simp_all
theorem ev_rm{d:Dl}(h:d.Good)(x:ByteArray):x∈d.rm↔ev d x = -1:=by
 have h1:=h.dis x;unfold ev;rcases ind_cases d.ad x with⟨a,e⟩ | ⟨a,e⟩<;>rcases ind_cases d.rm x with⟨b,f⟩ | ⟨b,f⟩<;>rw[e,f]<;>simp_all
theorem ascB_of{l:List ByteArray}(h:Asc l):ascB l=true:=by
 rw[ascB_iff];intro k a b ha hb;obtain⟨h1,rfl⟩:=List.getElem?_eq_some_iff.1 ha;obtain⟨h2,rfl⟩:=List.getElem?_eq_some_iff.1 hb;exact List.pairwise_iff_getElem.1 h k (k+1) h1 h2 (by omega)
theorem jn_form{a b D:Dl}(ha:a.form=0)(hb:b.form=0)(h:jn a b=(D,0)):D.form=0∧∀ x,ev D x=ev a x+ev b x:=by
 obtain⟨hD,_,_,hto,haf,hc⟩:=jn_ok (a:=a) (b:=b) (by rw[h]);rw[h]at hD;simp only at hD;have ga:=Dl.good ha;have gb:=Dl.good hb;have hcl:=hc;unfold clash at hc;rw[Bool.or_eq_false_iff]at hc;have c1:∀ x∈a.ad,x∉b.ad:=fun x hx h=>List.any_eq_false.1 hc.1 x hx (memB_iff.2 h);have c2:∀ x∈a.rm,x∉b.rm:=fun x hx h=>List.any_eq_false.1 hc.2 x hx (memB_iff.2 h);obtain⟨oa,ra,ta,la⟩:=a.form_ok ha;obtain⟨ob,rb,tb,lb⟩:=b.form_ok hb;have had:∀ x,x∈D.ad↔(x∈a.ad∧x∉b.rm)∨(x∈b.ad∧x∉a.rm):=fun x=>by rw[hD];simp only[mem_mrg,memB_no]
 have hrm:∀ x,x∈D.rm↔(x∈a.rm∧x∉b.ad)∨(x∈b.rm∧x∉a.ad):=fun x=>by rw[hD];simp only[mem_mrg,memB_no]
 have hdis:∀ x∈D.ad,x∉D.rm:=by
  intro x h1 h2;rw[had]at h1;rw[hrm]at h2;have d1:=ga.dis x;have d2:=gb.dis x;have d3:=c1 x;have d4:=c2 x;rcases h1 with⟨p,q⟩ | ⟨p,q⟩<;>rcases h2 with⟨r,s⟩ | ⟨r,s⟩
  · exact d1 p r
  · exact s p
  · exact s p
  · exact d2 p r
 constructor
 · refine Dl.form_0 (Dl.okN_all fun i y hy=>?_) ?_ (Dl.twice_no ?_ ?_ ?_) (Dl.low_no fun i y hi hy=>?_)
   · have hm:=List.mem_of_getElem? hy;simp only[List.mem_append,List.mem_cons,List.mem_nil_iff,or_false,had,hrm]at hm;rcases hm with((⟨p,_⟩ | ⟨p,_⟩) | (⟨p,_⟩ | ⟨p,_⟩)) | rfl | rfl
     · exact ga.vad y p
     · exact gb.vad y p
     · exact ga.vrm y p
     · exact gb.vrm y p
     · rw[hD];exact a.okN_mem oa (by simp)
     · rw[hD];exact b.okN_mem ob (by simp)
   · rw[hD];unfold Dl.rng at ra rb⊢;simp only;omega
   · rw[hD];refine ascB_of (asc_mrg _ _ _ _ ga.aad gb.aad (fun x hx y hy e=>?_));have:=num_inj (ga.vad x hx) (gb.vad y hy) e;subst this;exact c1 x hx hy
   · rw[hD];refine ascB_of (asc_mrg _ _ _ _ ga.arm gb.arm (fun x hx y hy e=>?_));have:=num_inj (ga.vrm x hx) (gb.vrm y hy) e;subst this;exact c2 x hx hy
   · rw[List.any_eq_false];intro x hx h;exact hdis x hx (memB_iff.1 h)
   · have hm:y∈D.ad++D.rm:=(by rw[List.getElem?_append_left (by rw[List.length_append];omega)]at hy;exact List.mem_of_getElem? hy);have hla:∀ y∈a.ad++a.rm,¬ num y<3:=fun y hy h=>by
      have:=List.any_eq_false.1 (show (a.ad++a.rm).any (fun x=>decide (num x<3))=false from la) y hy;exact this (decide_eq_true h)
     have hlb:∀ y∈b.ad++b.rm,¬ num y<3:=fun y hy h=>by
      have:=List.any_eq_false.1 (show (b.ad++b.rm).any (fun x=>decide (num x<3))=false from lb) y hy;exact this (decide_eq_true h)
     simp only[List.mem_append,had,hrm]at hm;rcases hm with((⟨p,_⟩ | ⟨p,_⟩) | (⟨p,_⟩ | ⟨p,_⟩))
     · exact hla y (by simp[p])
     · exact hlb y (by simp[p])
     · exact hla y (by simp[p])
     · exact hlb y (by simp[p])
 · intro x;have d1:=ga.dis x;have d2:=gb.dis x;have d3:=c1 x;have d4:=c2 x;have d5:=had x;have d6:=hrm x;clear h hD hcl hc c1 c2 oa ra ta la ob rb tb lb had hrm hdis ga gb ha hb hto haf;unfold ev;rcases ind_cases D.ad x with⟨h5,e5⟩ | ⟨h5,e5⟩<;>rcases ind_cases D.rm x with⟨h6,e6⟩ | ⟨h6,e6⟩<;>rcases ind_cases a.ad x with⟨h1,e1⟩ | ⟨h1,e1⟩<;>rcases ind_cases a.rm x with⟨h2,e2⟩ | ⟨h2,e2⟩<;>rcases ind_cases b.ad x with⟨h3,e3⟩ | ⟨h3,e3⟩<;>rcases ind_cases b.rm x with⟨h4,e4⟩ | ⟨h4,e4⟩<;>rw[e1,e2,e3,e4,e5,e6]<;>
    first
    | rfl
    | (exfalso;simp_all;done)
    | (exfalso;clear e1 e2 e3 e4 e5 e6;grind)
structure Sm (k:Nat) (d:Dl):Prop where
 la:d.ad.length≤k
 lr:d.rm.length≤k
 sz:∀ y∈d.ad++d.rm++[d.be,d.af],y.size≤16
theorem jn_sm{a b D:Dl}{j k:Nat}(ha:Sm j a)(hb:Sm k b)(h:jn a b=(D,0)):Sm (j+k) D:=by
 obtain⟨hD,_⟩:=jn_ok (a:=a) (b:=b) (by rw[h]);have hl:=jn_len (a:=a) (b:=b);rw[h]at hD hl;simp only at hD hl;refine⟨by have:=ha.la;have:=hb.la;omega,by have:=ha.lr;have:=hb.lr;omega,fun y hy=>?_⟩;rw[hD]at hy;simp only[List.mem_append,List.mem_cons,List.mem_nil_iff,or_false,mem_mrg]at hy;rcases hy with((⟨p,_⟩ | ⟨p,_⟩) | (⟨p,_⟩ | ⟨p,_⟩)) | rfl | rfl
 · exact ha.sz y (by simp[p])
 · exact hb.sz y (by simp[p])
 · exact ha.sz y (by simp[p])
 · exact hb.sz y (by simp[p])
 · exact ha.sz _ (by simp)
 · exact hb.sz _ (by simp)
theorem sm_msg{d:Dl}(hf:d.form=0)(hs:Sm 240 d):d.msg.2=0:=by
 obtain⟨hv,hr,_⟩:=d.form_ok hf;have e0:(⟨#[]⟩:ByteArray).size=0:=rfl;have e1:(⟨#[100,101,108,116,97]⟩:ByteArray).size=5:=rfl;have h1:d.fr.toNat≤4096:=by unfold Dl.rng at hr;omega
 have h2:d.to.toNat≤4096:=by unfold Dl.rng at hr;omega
 have n1:(encN d.fr.toNat).length≤8:=encN_length_le.2 (by omega);have n2:(encN d.to.toNat).length≤8:=encN_length_le.2 (by omega);have hw:∀ l:List ByteArray,(∀ s∈l,s.size≤16)→Its.weight (l.map natIt)≤l.length * 27:=by
  intro l
  induction l with
  | nil=>intro _;simp[Its.weight]
  | cons a l ih =>
   intro h;have h1:=ih (fun s hs=>h s (List.mem_cons_of_mem _ hs));have h2:=h a List.mem_cons_self;simp only[List.map_cons,Its.weight,natIt,It.weight,List.length_cons]at h1⊢;omega
 have hvl:∀ l:List ByteArray,(∀ s∈l,nvalid s=true)→Its.valid (l.map natIt)=true:=by
  intro l
  induction l with
  | nil=>intro _;rfl
  | cons a l ih =>
   intro h;have h1:=ih (fun s hs=>h s (List.mem_cons_of_mem _ hs));have h2:=h a List.mem_cons_self;simp[Its.valid,natIt,It.valid,h1,h2,e0]
 have hdl:∀ l:List ByteArray,Its.depth (l.map natIt)=0:=by
  intro l
  induction l with
  | nil=>rfl
  | cons a l ih=>simp[Its.depth,natIt,It.depth];exact ih
 have w1:=hw d.ad (fun s h=>hs.sz s (by simp[h]));have w2:=hw d.rm (fun s h=>hs.sz s (by simp[h]));have w3:=hs.sz d.be (by simp);have w4:=hs.sz d.af (by simp);have v1:=hvl d.ad (d.okN_ad hv);have v2:=hvl d.rm (d.okN_rm hv);have v3:=d.okN_mem hv (y:=d.be) (by simp);have v4:=d.okN_mem hv (y:=d.af) (by simp);have v5:nvalid (bstr (encN d.fr.toNat))=true:=(nvalid_nS (n:=d.fr.toNat)).2 (Nat.lt_of_le_of_lt h1 (by decide));have v6:nvalid (bstr (encN d.to.toNat))=true:=(nvalid_nS (n:=d.to.toNat)).2 (Nat.lt_of_le_of_lt h2 (by decide));have d1:=hdl d.ad;have d2:=hdl d.rm;have l1:=hs.la;have l2:=hs.lr;have hwt:d.it.weight≤65536:=(by generalize hq:List.map natIt d.ad=q at *;generalize hq':List.map natIt d.rm=q' at *;simp only[Dl.it,lstI,txt,hq,hq',It.weight,Its.weight];simp only[natIt,It.weight,Its.weight,bstr_size,e0,e1];omega);have hb:=Nat.le_trans (It.bytes_le d.it) hwt;have hva:d.it.valid=true:=(by generalize hq:List.map natIt d.ad=q at *;generalize hq':List.map natIt d.rm=q' at *;simp[Dl.it,lstI,txt,natIt,hq,hq',It.valid,Its.valid,e0,v1,v2,v3,v4,v5,v6]);have hde:d.it.depth≤32:=(by generalize hq:List.map natIt d.ad=q at *;generalize hq':List.map natIt d.rm=q' at *;simp[Dl.it,lstI,txt,natIt,hq,hq',It.depth,Its.depth,d1,d2]);unfold Dl.msg encS;rw[if_pos hf,hva,if_neg (by decide),if_neg (by omega),if_neg (by omega)]
end Go.Proofs.YtmahgbhpdfbbjaaGreatDoor

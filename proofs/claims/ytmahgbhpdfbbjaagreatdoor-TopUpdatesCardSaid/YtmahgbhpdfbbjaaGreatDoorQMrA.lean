import Derived.Test.YtmahgbhpdfbbjaaGreatDoorQAcF
import Derived.Test.YtmahgbhpdfbbjaaGreatDoorQEpXc
set_option linter.unusedVariables false
set_option linter.unusedSimpArgs false
namespace Go.Proofs.YtmahgbhpdfbbjaaGreatDoor
theorem tw_lt{M O:ByteArray}{X:Nat}(hc:chkK M O=0)(hX:hasN (num M) (num O) X=true)(F:Nat):X ^ F%num M<256 ^ 128:=by
 have h1:=has_lt hX;have h2:=nvalid_lt (chkK_parts hc).1;exact Nat.lt_trans (Nat.mod_lt _ (by omega)) h2
theorem tw_has{M O:ByteArray}{X:Nat}(hc:chkK M O=0)(hX:hasN (num M) (num O) X=true)(F:Nat):hasN (num M) (num O) (X ^ F%num M)=true:=by
 have h:=has_pz (chkK_parts hc).2.2 hX (F:Int);rwa[pz_nat]at h
theorem tw_val{M O:ByteArray}{X:Nat}(hc:chkK M O=0)(hX:hasN (num M) (num O) X=true)(F:Nat):nvalid (nS (X ^ F%num M))=true:=nvalid_nS.2 (tw_lt hc hX F)
theorem memB_zero{l:List ByteArray}(h:∀ x∈l,0<num x):memB l ⟨#[]⟩=false:=by
 cases e:memB l ⟨#[]⟩with
 | false=>rfl
 | true =>
  have:=h _ (memB_iff.1 e);exact absurd this (by decide)
theorem rdy_good{M O:ByteArray}{X:Nat}(hc:chkK M O=0)(hX:hasN (num M) (num O) X=true){hs:List ByteArray}(hv:hs.all nvalid=true)(hp:∀ x∈hs,0<num x)(Fs:List Nat) :
 rdyR M O (Fs.map (fun F=>nS (X ^ F%num M))) hs=0:=by
 unfold rdyR;have h1:=(chkK_parts hc).1;have h2:=(chkK_parts hc).2.1;have h3:(Fs.map (fun F=>nS (X ^ F%num M))).all nvalid=true:=by
  rw[List.all_eq_true];intro s hs;obtain⟨F,_,rfl⟩:=List.mem_map.1 hs;exact tw_val hc hX F
 have h4:(Fs.map (fun F=>nS (X ^ F%num M))).all (fun x=>hasN (num M) (num O) (num x))=true:=(by rw[List.all_eq_true];intro s hs;obtain⟨F,_,rfl⟩:=List.mem_map.1 hs;rw[num_nS];exact tw_has hc hX F);rw[h1,h2,h3,hv,if_neg (by decide),if_neg (fun c=>c hc),h4,if_neg (by decide),memB_zero hp,if_neg (by decide)]
theorem bz_two{u d:Nat}(hu:0<u)(hd:0<d)(hg:Nat.gcd u d=1):(u:Int) * (bzP u d).1+d * (bzP u d).2=1∧(bzP u d).2.natAbs≤u∧(bzP u d).1.natAbs<d:=by
 obtain⟨h1,h2,h3⟩:=bzP_spec hu hd;rw[hg]at h2 h3;rw[Nat.div_one]at h2;obtain⟨⟨x,y⟩,hxy⟩:∃ p,bzP u d=p:=⟨_,rfl⟩;rw[hxy]at h1 h2 h3⊢;simp only[]at h1 h2 h3⊢;refine⟨h3,?_,by omega⟩;have hd':(1:Int)≤d:=by omega
 have hu':(1:Int)≤u:=by omega
 have h3:(u:Int) * x+d * y=1:=h3;have e:(d:Int) * y=1 - u * x:=by omega
 have a1:(u:Int) * x≤u * (d - 1):=Int.mul_le_mul_of_nonneg_left (by omega) (by omega);have a2:(0:Int)≤u * x:=Int.mul_nonneg (by omega) h1;have b1:(d:Int) * y≤1:=by omega
 have b2:-((d:Int) * u)≤d * y:=by
  have : (u:Int) * (d - 1)=u * d - u:=by rw[Int.mul_sub,Int.mul_one]
  have : (u:Int) * d=d * u:=Int.mul_comm _ _;omega
 have c1:y≤1:=by
  by_cases h:(1:Int)<y
  · have : (d:Int) * 2≤d * y:=Int.mul_le_mul_of_nonneg_left (by omega) (by omega);omega
  · omega
 have c2:-(u:Int)≤y:=by
  by_cases h:y < -(u:Int)
  · have k:(d:Int) * y≤d * (-(u:Int) - 1):=Int.mul_le_mul_of_nonneg_left (by omega) (by omega);have : (d:Int) * (-(u:Int) - 1) = -(d * u) - d:=by rw[Int.mul_sub,Int.mul_one,Int.mul_neg]
    omega
  · omega
 omega
theorem up_good{M O:ByteArray}{X:Nat}(hc:chkK M O=0)(hX:hasN (num M) (num O) X=true){u:ByteArray}{ad rm:List ByteArray}{F F':Nat}
 (vu:nvalid u=true) (va:ad.all nvalid=true) (vr:rm.all nvalid=true) (hu:u∉rm) (pu:0<num u) (pa:∀ x∈ad,0<num x) (pr:∀ x∈rm,0<num x)
 (hg:Nat.gcd (num u) (prodN rm)=1) (hA:prodN ad<256 ^ 110) (hR:prodN rm<256 ^ 128) (hu8:num u<256 ^ 8) (hF:F' * prodN rm=F * prodN ad) :
 upR M O (nS (X ^ F%num M)) u ad rm (nS (X ^ (num u * F')%num M))=(nS (X ^ F'%num M),0):=by
 have hr:rdyR M O [nS (X ^ F%num M),nS (X ^ (num u * F')%num M)] (u::(ad++rm))=0:=
  rdy_good hc hX (by rw[List.all_cons,List.all_append,vu,va,vr];rfl) (by
   intro x hx;rw[List.mem_cons,List.mem_append]at hx;rcases hx with rfl | hx | hx
   · exact pu
   · exact pa x hx
   · exact pr x hx) [F,num u * F']
 have hd:=prodN_pos pr;obtain⟨b1,b2,b3⟩:=bz_two pu hd hg;obtain⟨i,hun⟩:=has_un (chkK_parts hc).2.2 hX;have hy:((bzP (num u) (prodN rm)).2 * prodN ad).natAbs<256 ^ 128:=(by rw[Int.natAbs_mul,Int.natAbs_natCast];exact Nat.lt_of_le_of_lt (Nat.mul_le_mul (Nat.le_trans b2 (Nat.le_of_lt hu8)) (Nat.le_of_lt hA)) (by rw[←Nat.pow_add];exact Nat.pow_lt_pow_right (by decide) (by decide)));have he:exR u ad rm=(((bzP (num u) (prodN rm)).2 * prodN ad,(bzP (num u) (prodN rm)).1),0):=(by unfold exR;rw[if_neg (by rw[memB_no.2 hu];decide),if_neg (fun c=>c ⟨Nat.lt_trans hA (Nat.pow_lt_pow_right (by decide) (by decide)),hR⟩),if_neg (fun c=>c hg),if_pos hy]);unfold upR;rw[hr,he,if_neg (fun c=>c rfl),if_neg (fun c=>c rfl)];simp only[];rw[num_nS,num_nS];obtain⟨⟨x,y⟩,hxy⟩:∃ p,bzP (num u) (prodN rm)=p:=⟨_,rfl⟩;rw[hxy]at b1⊢;simp only[]at b1⊢;have e1:pz (num M) (X ^ F%num M) (y * prodN ad)=pz (num M) X (F * (y * prodN ad)):=by rw[←pz_nat,pz_pow hun]
 have e2:pz (num M) (X ^ (num u * F')%num M) x=pz (num M) X ((num u * F':Nat) * x):=by rw[←pz_nat,pz_pow hun]
 rw[e1,e2,←pz_add hun];have e3:(F:Int) * (y * prodN ad)+(num u * F':Nat) * x=(F':Int):=by
  have hF':(F':Int) * prodN rm=F * prodN ad:=by exact_mod_cast hF
  have : (F:Int) * (y * prodN ad)=y * (F' * prodN rm):=by rw[hF'];simp only[Int.mul_left_comm,Int.mul_comm]
  rw[this,Int.natCast_mul];have : y * ((F':Int) * prodN rm)+(num u:Int) * F' * x=F' * ((num u:Int) * x+prodN rm * y):=by rw[Int.mul_add];simp only[Int.mul_left_comm,Int.mul_comm];omega
  rw[this,b1,Int.mul_one]
 rw[e3,pz_nat]
open Go.RowKit
def ev(d:Dl)(x:ByteArray):Int:=ind d.ad x - ind d.rm x
theorem ev_ad{d:Dl}(h:d.Good)(x:ByteArray):x∈d.ad↔ev d x=1:=by
 have h1:=h.dis x;unfold ev;rcases ind_cases d.ad x with⟨a,e⟩ | ⟨a,e⟩<;>rcases ind_cases d.rm x with⟨b,f⟩ | ⟨b,f⟩<;>rw[e,f]<;>simp_all
theorem ev_rm{d:Dl}(h:d.Good)(x:ByteArray):x∈d.rm↔ev d x = -1:=by
 have h1:=h.dis x;unfold ev;rcases ind_cases d.ad x with⟨a,e⟩ | ⟨a,e⟩<;>rcases ind_cases d.rm x with⟨b,f⟩ | ⟨b,f⟩<;>rw[e,f]<;>simp_all
theorem ascB_of{l:List ByteArray}(h:Asc l):ascB l=true:=by
 rw[ascB_iff];intro k a b ha hb;obtain⟨h1,rfl⟩:=List.getElem?_eq_some_iff.1 ha;obtain⟨h2,rfl⟩:=List.getElem?_eq_some_iff.1 hb;exact List.pairwise_iff_getElem.1 h k (k+1) h1 h2 (by omega)
theorem jn_form{a b D:Dl}(ha:a.form=0)(hb:b.form=0)(h:jn a b=(D,0)):D.form=0∧∀ x,ev D x=ev a x+ev b x:=by
 obtain⟨hD,_,_,hto,haf,hc⟩:=jn_ok (a:=a) (b:=b) (by rw[h]);rw[h]at hD;simp only at hD;have ga:=Dl.good ha;have gb:=Dl.good hb;have hcl:=hc;unfold clash at hc;rw[Bool.or_eq_false_iff]at hc;have c1:∀ x∈a.ad,x∉b.ad:=fun x hx h=>List.any_eq_false.1 hc.1 x hx (memB_iff.2 h);have c2:∀ x∈a.rm,x∉b.rm:=fun x hx h=>List.any_eq_false.1 hc.2 x hx (memB_iff.2 h);obtain⟨oa,ra,ta,la⟩:=a.form_ok ha;obtain⟨ob,rb,tb,lb⟩:=b.form_ok hb;have had:∀ x,x∈D.ad↔(x∈a.ad∧x∉b.rm)∨(x∈b.ad∧x∉a.rm):=fun x=>by rw[hD];simp only[mem_mrg,memB_no]
 have hrm:∀ x,x∈D.rm↔(x∈a.rm∧x∉b.ad)∨(x∈b.rm∧x∉a.ad):=fun x=>by rw[hD];simp only[mem_mrg,memB_no]
 have hdis:∀ x∈D.ad,x∉D.rm:=by
  intro x h1 h2;rw[had]at h1;rw[hrm]at h2;have d1:=ga.dis x;have d2:=gb.dis x;have d3:=c1 x;have d4:=c2 x;rcases h1 with⟨p,q⟩ | ⟨p,q⟩<;>rcases h2 with⟨r,s⟩ | ⟨r,s⟩
  · exact d1 p r
  · exact s p
  · exact s p
  · exact d2 p r
 constructor
 · refine Dl.form_0 (Dl.okN_all fun i y hy=>?_) ?_ (Dl.twice_no ?_ ?_ ?_) (Dl.low_no fun i y hi hy=>?_)
   · have hm:=List.mem_of_getElem? hy;simp only[List.mem_append,List.mem_cons,List.mem_nil_iff,or_false,had,hrm]at hm;rcases hm with((⟨p,_⟩ | ⟨p,_⟩) | (⟨p,_⟩ | ⟨p,_⟩)) | rfl | rfl
     · exact ga.vad y p
     · exact gb.vad y p
     · exact ga.vrm y p
     · exact gb.vrm y p
     · rw[hD];exact a.okN_mem oa (by simp)
     · rw[hD];exact b.okN_mem ob (by simp)
   · rw[hD];unfold Dl.rng at ra rb⊢;simp only;omega
   · rw[hD];refine ascB_of (asc_mrg _ _ _ _ ga.aad gb.aad (fun x hx y hy e=>?_));have:=num_inj (ga.vad x hx) (gb.vad y hy) e;subst this;exact c1 x hx hy
   · rw[hD];refine ascB_of (asc_mrg _ _ _ _ ga.arm gb.arm (fun x hx y hy e=>?_));have:=num_inj (ga.vrm x hx) (gb.vrm y hy) e;subst this;exact c2 x hx hy
   · rw[List.any_eq_false];intro x hx h;exact hdis x hx (memB_iff.1 h)
   · have hm:y∈D.ad++D.rm:=(by rw[List.getElem?_append_left (by rw[List.length_append];omega)]at hy;exact List.mem_of_getElem? hy);have hla:∀ y∈a.ad++a.rm,¬ num y<3:=fun y hy h=>by
      have:=List.any_eq_false.1 (show (a.ad++a.rm).any (fun x=>decide (num x<3))=false from la) y hy;exact this (decide_eq_true h)
     have hlb:∀ y∈b.ad++b.rm,¬ num y<3:=fun y hy h=>by
      have:=List.any_eq_false.1 (show (b.ad++b.rm).any (fun x=>decide (num x<3))=false from lb) y hy;exact this (decide_eq_true h)
     simp only[List.mem_append,had,hrm]at hm;rcases hm with((⟨p,_⟩ | ⟨p,_⟩) | (⟨p,_⟩ | ⟨p,_⟩))
     · exact hla y (by simp[p])
     · exact hlb y (by simp[p])
     · exact hla y (by simp[p])
     · exact hlb y (by simp[p])
 · intro x;have d1:=ga.dis x;have d2:=gb.dis x;have d3:=c1 x;have d4:=c2 x;have d5:=had x;have d6:=hrm x;clear h hD hcl hc c1 c2 oa ra ta la ob rb tb lb had hrm hdis ga gb ha hb hto haf;unfold ev;rcases ind_cases D.ad x with⟨h5,e5⟩ | ⟨h5,e5⟩<;>rcases ind_cases D.rm x with⟨h6,e6⟩ | ⟨h6,e6⟩<;>rcases ind_cases a.ad x with⟨h1,e1⟩ | ⟨h1,e1⟩<;>rcases ind_cases a.rm x with⟨h2,e2⟩ | ⟨h2,e2⟩<;>rcases ind_cases b.ad x with⟨h3,e3⟩ | ⟨h3,e3⟩<;>rcases ind_cases b.rm x with⟨h4,e4⟩ | ⟨h4,e4⟩<;>rw[e1,e2,e3,e4,e5,e6]<;>
    first
    | rfl
    | (exfalso;simp_all;done)
    | (exfalso;clear e1 e2 e3 e4 e5 e6;grind)
structure Sm (k:Nat) (d:Dl):Prop where
 la:d.ad.length≤k
 lr:d.rm.length≤k
 sz:∀ y∈d.ad++d.rm++[d.be,d.af],y.size≤16
theorem jn_sm{a b D:Dl}{j k:Nat}(ha:Sm j a)(hb:Sm k b)(h:jn a b=(D,0)):Sm (j+k) D:=by
 obtain⟨hD,_⟩:=jn_ok (a:=a) (b:=b) (by rw[h]);have hl:=jn_len (a:=a) (b:=b);rw[h]at hD hl;simp only at hD hl;refine⟨by have:=ha.la;have:=hb.la;omega,by have:=ha.lr;have:=hb.lr;omega,fun y hy=>?_⟩;rw[hD]at hy;simp only[List.mem_append,List.mem_cons,List.mem_nil_iff,or_false,mem_mrg]at hy;rcases hy with((⟨p,_⟩ | ⟨p,_⟩) | (⟨p,_⟩ | ⟨p,_⟩)) | rfl | rfl
 · exact ha.sz y (by simp[p])
 · exact hb.sz y (by simp[p])
 · exact ha.sz y (by simp[p])
 · exact hb.sz y (by simp[p])
 · exact ha.sz _ (by simp)
 · exact hb.sz _ (by simp)
theorem sm_msg{d:Dl}(hf:d.form=0)(hs:Sm 240 d):d.msg.2=0:=by
 obtain⟨hv,hr,_⟩:=d.form_ok hf;have e0:(⟨#[]⟩:ByteArray).size=0:=rfl;have e1:(⟨#[100,101,108,116,97]⟩:ByteArray).size=5:=rfl;have h1:d.fr.toNat≤4096:=by unfold Dl.rng at hr;omega
 have h2:d.to.toNat≤4096:=by unfold Dl.rng at hr;omega
 have n1:(encN d.fr.toNat).length≤8:=encN_length_le.2 (by omega);have n2:(encN d.to.toNat).length≤8:=encN_length_le.2 (by omega);have hw:∀ l:List ByteArray,(∀ s∈l,s.size≤16)→Its.weight (l.map natIt)≤l.length * 27:=by
  intro l
  induction l with
  | nil=>intro _;simp[Its.weight]
  | cons a l ih =>
   intro h;have h1:=ih (fun s hs=>h s (List.mem_cons_of_mem _ hs));have h2:=h a List.mem_cons_self;simp only[List.map_cons,Its.weight,natIt,It.weight,List.length_cons]at h1⊢;omega
 have hvl:∀ l:List ByteArray,(∀ s∈l,nvalid s=true)→Its.valid (l.map natIt)=true:=by
  intro l
  induction l with
  | nil=>intro _;rfl
  | cons a l ih =>
   intro h;have h1:=ih (fun s hs=>h s (List.mem_cons_of_mem _ hs));have h2:=h a List.mem_cons_self;simp[Its.valid,natIt,It.valid,h1,h2,e0]
 have hdl:∀ l:List ByteArray,Its.depth (l.map natIt)=0:=by
  intro l
  induction l with
  | nil=>rfl
  | cons a l ih=>simp[Its.depth,natIt,It.depth];exact ih
 have w1:=hw d.ad (fun s h=>hs.sz s (by simp[h]));have w2:=hw d.rm (fun s h=>hs.sz s (by simp[h]));have w3:=hs.sz d.be (by simp);have w4:=hs.sz d.af (by simp);have v1:=hvl d.ad (d.okN_ad hv);have v2:=hvl d.rm (d.okN_rm hv);have v3:=d.okN_mem hv (y:=d.be) (by simp);have v4:=d.okN_mem hv (y:=d.af) (by simp);have v5:nvalid (bstr (encN d.fr.toNat))=true:=(nvalid_nS (n:=d.fr.toNat)).2 (Nat.lt_of_le_of_lt h1 (by decide));have v6:nvalid (bstr (encN d.to.toNat))=true:=(nvalid_nS (n:=d.to.toNat)).2 (Nat.lt_of_le_of_lt h2 (by decide));have d1:=hdl d.ad;have d2:=hdl d.rm;have l1:=hs.la;have l2:=hs.lr;have hwt:d.it.weight≤65536:=(by generalize hq:List.map natIt d.ad=q at *;generalize hq':List.map natIt d.rm=q' at *;simp only[Dl.it,lstI,txt,hq,hq',It.weight,Its.weight];simp only[natIt,It.weight,Its.weight,bstr_size,e0,e1];omega);have hb:=Nat.le_trans (It.bytes_le d.it) hwt;have hva:d.it.valid=true:=(by generalize hq:List.map natIt d.ad=q at *;generalize hq':List.map natIt d.rm=q' at *;simp[Dl.it,lstI,txt,natIt,hq,hq',It.valid,Its.valid,e0,v1,v2,v3,v4,v5,v6]);have hde:d.it.depth≤32:=(by generalize hq:List.map natIt d.ad=q at *;generalize hq':List.map natIt d.rm=q' at *;simp[Dl.it,lstI,txt,natIt,hq,hq',It.depth,Its.depth,d1,d2]);unfold Dl.msg encS;rw[if_pos hf,hva,if_neg (by decide),if_neg (by omega),if_neg (by omega)]
def Along(Ms:Nat→List ByteArray)(a:Nat→ByteArray)(log:List Dl):Prop:=
 ∀(i:Nat) d,log[i]? =some d→d.form=0∧d.sc=⟨#[]⟩∧d.sr=⟨#[]⟩∧Sm 8 d∧d.fr=(i:Int)∧d.to=(i:Int)+1∧d.be=a i∧d.af=a (i+1)∧∀ x,ev d x=ind (Ms (i+1)) x - ind (Ms i) x
structure JnAt (Ms:Nat→List ByteArray) (a:Nat→ByteArray) (i:Nat) (D:Dl):Prop where
 form:D.form=0
 «to» : D.to=(i:Int)
 af:D.af=a i
 ev:∀ x,ev D x=ind (Ms i) x - ind (Ms 0) x
 sm:Sm (8 * i) D
theorem sm_more{j k:Nat}{d:Dl}(h:Sm j d)(hk:j≤k):Sm k d:=⟨Nat.le_trans h.la hk,Nat.le_trans h.lr hk,h.sz⟩
theorem jn_along{Ms:Nat→List ByteArray}{a:Nat→ByteArray}{log:List Dl}(hl:Along Ms a log)(hn:log.length≤12){i:Nat}{D d:Dl}(hD:JnAt Ms a i D)(hd:log[i]? =some d):∃ E,jn D d=(E,0)∧JnAt Ms a (i+1) E:=by
 obtain⟨f,_,_,s,fr,t,be,af,e⟩:=hl i d hd;have hi:i<log.length:=(List.getElem?_eq_some_iff.1 hd).1;have m1:=sm_msg hD.form (sm_more hD.sm (by omega));have m2:=sm_msg f (sm_more s (by omega));have hc:clash D d=false:=by
  cases hcl:clash D d with
  | false=>rfl
  | true =>
   obtain⟨x,_,h⟩:=(clash_iff (Dl.good hD.form) (Dl.good f)).1 hcl;have h1:chg D d x=ev D x+ev d x:=by unfold chg ev;omega
   rw[h1,hD.ev,e]at h;rcases ind_cases (Ms 0) x with⟨_,e1⟩ | ⟨_,e1⟩<;>rcases ind_cases (Ms (i+1)) x with⟨_,e2⟩ | ⟨_,e2⟩<;>rw[e1,e2]at h<;>omega
 have he:(jn D d).2=0:=(by unfold jn;rw[m1,m2,if_neg (fun c=>c rfl),if_neg (fun c=>c rfl),if_neg (fun c=>c (by rw[hD.to,fr])),if_neg (fun c=>c (by rw[hD.af,be])),hc,if_neg (by decide)]);obtain⟨E,hE⟩:∃ E,jn D d=(E,0):=⟨(jn D d).1,Prod.ext rfl he⟩;obtain⟨q1,q2⟩:=jn_form hD.form f hE;have q3:=jn_sm hD.sm s hE;obtain⟨hq,_⟩:=jn_ok he;rw[hE]at hq;simp only[]at hq;refine⟨E,hE,q1,by rw[hq];simp only[];rw[t];omega,by rw[hq];exact af,fun x=>by rw[q2,hD.ev,e];omega,sm_more q3 (by omega)⟩
theorem fold_along{Ms:Nat→List ByteArray}{a:Nat→ByteArray}{log:List Dl}(hl:Along Ms a log)(hn:log.length≤12):∀(k i:Nat) (D:Dl),i+k=log.length→JnAt Ms a i D→∃ E,foldJ D (log.drop i)=(E,0)∧JnAt Ms a log.length E
 | 0,i,D,hk,hD=>by
  rw[List.drop_eq_nil_of_le (by omega)];exact⟨D,rfl,by rw[←hk];exact hD⟩
 | k+1,i,D,hk,hD=>by
  have hi:i<log.length:=by omega
  obtain⟨E,hE,hJ⟩:=jn_along hl hn hD (List.getElem?_eq_getElem hi);obtain⟨F,hF,hJF⟩:=fold_along hl hn k (i+1) E (by omega) hJ;rw[List.drop_eq_getElem_cons hi];unfold foldJ;rw[hE,if_pos rfl];exact⟨F,hF,hJF⟩
theorem bt_along{Ms:Nat→List ByteArray}{a:Nat→ByteArray}{log:List Dl}(hl:Along Ms a log)(hn:log.length≤12)(h0:0<log.length):∃ D,bt log 0 (log.length:Int)=(D,0)∧JnAt Ms a log.length D:=by
 obtain⟨d,he⟩:∃ d,log[0]? =some d:=⟨_,List.getElem?_eq_getElem h0⟩;obtain⟨f,sc,sr,s,fr,t,be,af,e⟩:=hl 0 d he;have hs:d.strip=d:=(by obtain⟨q1,q2,q3,q4,q5,q6,q7,q8⟩:=d;simp only[]at sc sr;subst sc sr;rfl);have hJ:JnAt Ms a 1 d:=⟨f,by rw[t];rfl,af,e,s⟩;obtain⟨E,hE,hJE⟩:=fold_along hl hn (log.length - 1) 1 d (by omega) hJ;have hm:=sm_msg f (sm_more s (by omega));have e0:bt log 0 (log.length:Int)=btw log 0 log.length:=(by unfold bt;rw[if_neg (by omega)];rfl);refine⟨E,?_,hJE⟩;rw[e0];unfold btw;rw[he];show (if log.length=0+1∧d.strip.msg.2≠0 then(Dl.zero,d.strip.msg.2)else foldJ d.strip ((log.drop (0+1)).take (log.length - (0+1))))=(E,0);rw[hs,if_neg (fun c=>c.2 hm),List.take_of_length_le (by rw[List.length_drop];omega)];exact hE
set_option maxRecDepth 100000
set_option maxHeartbeats 1000000
theorem mulmod_hi{a b m:Nat}(ha:a<m)(hb:b<m)(hm:m<18446744073709551616):a * b / 18446744073709551616<m:=by
 rw[Nat.div_lt_iff_lt_mul (by decide)];have h1:=Nat.mul_le_mul (Nat.le_of_lt ha) (show b≤18446744073709551615 by omega);omega
theorem prime_mul(a b m:Nat)(ha:a<m)(hb:b<m)(hm8:m<18446744073709551616)(w:World):Calls Tryz.prog 102 #[.int .u64 a,.int .u64 b,.int .u64 m] w (Ret (.int .u64 ((a * b%m:Nat):Int)) w):=by
 have HM:=Hq (Tryz.bits_Mul64 a b (by omega) (by omega));have hlo:a * b%18446744073709551616<18446744073709551616:=Nat.mod_lt _ (by decide);have HD:=Hq (bits_Div64 (a * b / 18446744073709551616) (a * b%18446744073709551616) m hm8 hlo (mulmod_hi ha hb hm8));have HE:=Hq (show (a * b / 18446744073709551616 * 18446744073709551616+a * b%18446744073709551616)%m=a * b%m from by rw[Nat.mul_comm,Nat.div_add_mod]);clear ha hb hm8 hlo;go_enter Tryz.func102,Tryz.ntmps102;go_wp2_with fail;refine(HM.out _).mono ?_;rintro e w1 ⟨rfl,rfl⟩;obtain⟨p,hp⟩:=nm (a * b);rw[hp]at HD HE;try rw[hp]
 have HP:=Hq hp;go_wp2_with fail;refine(HD.out _).mono ?_;rintro e w2 ⟨q,rfl,hb2⟩;have HB:=Hq hb2;rw[HE.out];obtain⟨r,hr⟩:=nm (p%m);rw[hr];have HRR:=Hq hr;clear hb2 hr hp;go_wp2;go_ret;exact⟨by rw[HP.out,HRR.out];rfl,HB.out⟩
theorem pw_odd{X A E m:Nat}(h:E%2=1):(X * A%m) * (A * A%m) ^ (E / 2)%m=X * A ^ E%m:=by
 have e:E=2 * (E / 2)+1:=by omega
 conv=>rhs;rw[e,Nat.pow_succ,Nat.pow_mul,Nat.pow_two]
 rw[Nat.mul_mod,Nat.mod_mod,←Nat.pow_mod,←Nat.mul_mod,Nat.mul_comm ((A * A) ^ (E / 2)),←Nat.mul_assoc]
theorem pw_even{X A E m:Nat}(h:E%2=0):X * (A * A%m) ^ (E / 2)%m=X * A ^ E%m:=by
 have e:E=2 * (E / 2):=by omega
 conv=>rhs;rw[e,Nat.pow_mul,Nat.pow_two]
 rw[Nat.mul_mod,←Nat.pow_mod,←Nat.mul_mod]
theorem prime_pow(a n m:Nat)(ha:a<m)(hn:n<18446744073709551616)(hm8:m<18446744073709551616)(hm:0<m)(w:World):Calls Tryz.prog 101 #[.int .u64 a,.int .u64 n,.int .u64 m] w (Ret (.int .u64 ((a ^ n%m:Nat):Int)) w):=by
 have HMU:=Hq (fun a b (ha:a<m) (hb:b<m)=>prime_mul a b m ha hb hm8);have hm1:1%m<m:=Nat.mod_lt _ hm;obtain⟨o,ho⟩:=nm (1%m);have h1:(1:Int)%(m:Int)=(o:Int):=by rw[←ho];rfl
 have hwo:IntKind.u64.wrap (o:Int)=(o:Int):=u64_wrap o (by omega);have hm0:¬ (m=0):=by omega
 have HS:=Hq (show o * a ^ n%m=a ^ n%m from by rw[←ho,Nat.mul_mod,Nat.mod_mod,←Nat.mul_mod,Nat.one_mul]);rw[ho]at hm1;have HO:=Hq hm1;have HA:=Hq ha;have HN:=Hq hn;have HM8:=Hq hm8;clear ho hm1 ha hn hm8 hm;go_enter Tryz.func101,Tryz.ntmps101;go_wp2;go_loopw [0,1,7] (fun a1 e1 x wr=>∃ X A E:Nat,x=.int .u64 X∧a1=.int .u64 A∧e1=.int .u64 E∧X<m∧A<m∧E<18446744073709551616∧X * A ^ E%m=a ^ n%m∧Below w.heap.size w wr) (fun _ e1 _ _=>(intOf e1).toNat);case atStart=>exact⟨o,a,n,by rw[h1],rfl,rfl,HO.out,HA.out,HN.out,HS.out,Below.refl _ _⟩
 case round =>
  obtain⟨X,A,E,rfl,rfl,rfl,hX,hA,hE,hi,hB⟩:=hrel;clear h1 hwo;have HI:=Hq hi;have HB:=Hq hB;have HX:=Hq hX;have HAA:=Hq hA;have HE:=Hq hE;clear hi hB hX hA;by_cases h0:0<E
  · have he2:((E:Int) / 2)=((E / 2:Nat):Int):=by omega
    obtain⟨H,hH⟩:=nm (E / 2);rw[hH]at he2;have hwH:IntKind.u64.wrap (H:Int)=(H:Int):=u64_wrap H (by omega);have HH:=Hq hH;have HM2:=Hq (HMU.out A A HAA.out HAA.out);by_cases hp:E%2=1
    · have hr:(E:Int)%2=1:=by omega
      have HM1:=Hq (HMU.out X A HX.out HAA.out);have HP:=Hq (pw_odd (X:=X) (A:=A) (m:=m) hp);clear hp hH hE;go_wp2_with fail;refine(HM1.out _).mono ?_;rintro ev w1 ⟨rfl,hb1⟩;have HB1:=bTr HB hb1;clear hb1;obtain⟨X1,hX1⟩:=nm (X * A%m);rw[hX1]at HP⊢;have HX1:=Hq (show X1<m from by rw[←hX1];exact Nat.mod_lt _ (by omega));clear hX1;go_wp2_with fail;refine(HM2.out _).mono ?_;rintro ev w2 ⟨rfl,hb2⟩;have HB2:=bTr HB1 hb2;clear hb2;obtain⟨A1,hA1⟩:=nm (A * A%m);rw[hA1]at HP⊢;have HA1:=Hq (show A1<m from by rw[←hA1];exact Nat.mod_lt _ (by omega));clear hA1;go_wp2;go_roundw;case rel=>exact⟨X1,A1,H,rfl,rfl,rfl,HX1.out,HA1.out,by have:=HH.out;have:=HE.out;omega,by rw[←HI.out,←HP.out,HH.out],HB2.out⟩
      case measure=>have:=HH.out;simp[intOf]<;>omega
    · have hr:(E:Int)%2=0:=by omega
      have HP:=Hq (pw_even (X:=X) (A:=A) (E:=E) (m:=m) (by omega));clear hp hH hE;go_wp2_with fail;refine(HM2.out _).mono ?_;rintro ev w2 ⟨rfl,hb2⟩;have HB2:=bTr HB hb2;clear hb2;obtain⟨A1,hA1⟩:=nm (A * A%m);rw[hA1]at HP⊢;have HA1:=Hq (show A1<m from by rw[←hA1];exact Nat.mod_lt _ (by omega));clear hA1;go_wp2;go_roundw;case rel=>exact⟨X,A1,H,rfl,rfl,rfl,HX.out,HA1.out,by have:=HH.out;have:=HE.out;omega,by rw[←HI.out,←HP.out,HH.out],HB2.out⟩
      case measure=>have:=HH.out;simp[intOf]<;>omega
  · obtain rfl:E=0:=by omega
    have HF:=Hq (show X=a ^ n%m from by rw[←HI.out,Nat.pow_zero,Nat.mul_one,Nat.mod_eq_of_lt HX.out]);clear h0 hE;go_wp2;go_ret;exact⟨by rw[←HF.out];rfl,HB.out⟩
end Go.Proofs.YtmahgbhpdfbbjaaGreatDoor

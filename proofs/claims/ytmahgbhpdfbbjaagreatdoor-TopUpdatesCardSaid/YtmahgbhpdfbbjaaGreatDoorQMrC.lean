import Derived.Test.YtmahgbhpdfbbjaaGreatDoorQTuC
import Derived.Test.YtmahgbhpdfbbjaaGreatDoorQAuE
import Derived.Test.YtmahgbhpdfbbjaaGreatDoorQUpA
set_option linter.unusedVariables false
set_option linter.unusedSimpArgs false
namespace Go.Proofs.YtmahgbhpdfbbjaaGreatDoor
open Go.RowKit
noncomputable def valP(M O U:ByteArray)(l:List ByteArray):ByteArray×Int:=
 if rdyR M O [U] l≠0 then(⟨#[]⟩,rdyR M O [U] l)else if ndB l=false then(⟨#[]⟩,8)else(nS (valF (num M) (num U) l),0)
theorem val_pair(M O U:ByteArray)(l:List ByteArray):valV M O U l=.tuple #[.string (valP M O U l).1,.int .i64 (valP M O U l).2]:=by
 unfold valV valP;split
 · rfl
 · split<;>rfl
def srtN(l:List ByteArray):List ByteArray:=l.mergeSort (fun x y=>decide (num x≤num y))
def hsX(M C:List ByteArray):List ByteArray:=flt M C++flt C M
def hsR(M C:List ByteArray):List ByteArray:=srtN (M.filter (fun x=>memB C x))
def hsA(M C:List ByteArray):List ByteArray:=srtN (flt C M)
def HanP(x:ByteArray):Prop:=nvalid x=true∧3≤num x∧num x<65536∧PrN (num x)
def HanL(l:List ByteArray):Prop:=l.Nodup∧∀ x∈l,HanP x
theorem mem_flt{a b:List ByteArray}{x:ByteArray}:x∈flt a b↔x∈a∧x∉b:=by
 unfold flt;rw[List.mem_filter,Bool.not_eq_true',memB_no]
theorem srtN_perm(l:List ByteArray):(srtN l).Perm l:=List.mergeSort_perm _ _
theorem mem_srtN{l:List ByteArray}{x:ByteArray}:x∈srtN l↔x∈l:=(srtN_perm l).mem_iff
theorem mem_hsR{M C:List ByteArray}{x:ByteArray}:x∈hsR M C↔x∈M∧x∈C:=by
 unfold hsR;rw[mem_srtN,List.mem_filter,memB_iff]
theorem mem_hsA{M C:List ByteArray}{x:ByteArray}:x∈hsA M C↔x∈C∧x∉M:=by
 unfold hsA;rw[mem_srtN,mem_flt]
theorem mem_hsX{M C:List ByteArray}{x:ByteArray}:x∈hsX M C↔(x∈M∧x∉C)∨(x∈C∧x∉M):=by
 unfold hsX;rw[List.mem_append,mem_flt,mem_flt]
theorem HanL.next{M C:List ByteArray}(hM:HanL M)(hC:HanL C):HanL (hsX M C):=by
 refine⟨List.nodup_append.2 ⟨hM.1.filter _,hC.1.filter _,fun x hx y hy e=>?_⟩,fun x hx=>?_⟩
 · subst e;exact(mem_flt.1 hy).2 (mem_flt.1 hx).1
 · rcases mem_hsX.1 hx with h | h
   · exact hM.2 x h.1
   · exact hC.2 x h.1
theorem srtN_asc{l:List ByteArray}(hn:l.Nodup)(hv:∀ x∈l,nvalid x=true):Asc (srtN l):=by
 have h1:(srtN l).Pairwise (fun x y=>decide (num x≤num y)=true):=List.pairwise_mergeSort (fun a b c h1 h2=>by simp only[decide_eq_true_eq]at *;omega) (fun a b=>by simp only[Bool.or_eq_true,decide_eq_true_eq];omega) l;have h2:(srtN l).Nodup:=(srtN_perm l).nodup_iff.2 hn;have h3:∀ x∈srtN l,nvalid x=true:=fun x hx=>hv x (mem_srtN.1 hx);generalize srtN l=m at *;unfold Asc
 induction m with
 | nil=>exact List.Pairwise.nil
 | cons a m ih =>
  rw[List.pairwise_cons]at h1;rw[List.nodup_cons]at h2;refine List.pairwise_cons.2 ⟨fun y hy=>?_,ih h1.2 h2.2 (fun x hx=>h3 x (List.mem_cons_of_mem _ hx))⟩;have:=h1.1 y hy;simp only[decide_eq_true_eq]at this;rcases Nat.lt_or_eq_of_le this with h | h
  · exact h
  · exact absurd (num_inj (h3 a List.mem_cons_self) (h3 y (List.mem_cons_of_mem _ hy)) h▸hy) h2.1
theorem prodN_lt:∀ {l:List ByteArray},(∀ x∈l,num x<65536)→prodN l≤65536 ^ l.length
 | [],_=>Nat.le_refl _
 | x::l,h=>by
  rw[prodN,List.length_cons,Nat.pow_succ,Nat.mul_comm];exact Nat.mul_le_mul (prodN_lt (fun y hy=>h y (List.mem_cons_of_mem _ hy))) (Nat.le_of_lt (h x List.mem_cons_self))
theorem prodN_small{l:List ByteArray}(h:∀ x∈l,num x<65536)(hl:l.length≤48):prodN l<256 ^ 110:=
 Nat.lt_of_le_of_lt (prodN_lt h) (Nat.lt_of_le_of_lt (Nat.pow_le_pow_right (by decide) hl) (by decide +kernel))
theorem han_pos{x:ByteArray}(h:HanP x):0<num x:=by have:=h.2.1;omega
theorem valF_pow{m X:Nat}(hX:X<m):∀(l:List ByteArray) (k:Nat),l.foldl (fun y u=>pz m y (num u)) (X ^ k%m)=X ^ (k * prodN l)%m
 | [],k=>by rw[List.foldl_nil,prodN,Nat.mul_one]
 | u::l,k=>by
  rw[List.foldl_cons,pz_nat,←Nat.pow_mod,←Nat.pow_mul,valF_pow hX l,prodN,Nat.mul_assoc]
theorem val_good{M O U:ByteArray}(hc:chkK M O=0)(vU:nvalid U=true)(hU:hasN (num M) (num O) (num U)=true){l:List ByteArray}(hl:HanL l):valP M O U l=(nS (num U ^ prodN l%num M),0):=by
 have hr:rdyR M O [U] l=0:=(by have h:=rdy_good hc hU (hs:=l) (List.all_eq_true.2 fun x hx=>(hl.2 x hx).1) (fun x hx=>han_pos (hl.2 x hx)) [1];have e:[1].map (fun F=>nS (num U ^ F%num M))=[U]:=(by rw[List.map_cons,List.map_nil,Nat.pow_one,Nat.mod_eq_of_lt (has_lt hU),←nS_num vU]);rwa[e]at h);have e1:valF (num M) (num U) l=num U ^ prodN l%num M:=(by have:=valF_pow (has_lt hU) l 1;rw[Nat.pow_one,Nat.mod_eq_of_lt (has_lt hU),Nat.one_mul]at this;exact this);unfold valP;rw[hr,if_neg (fun c=>c rfl),nd_t hl.1,if_neg (by decide),e1]
theorem up_step{M O:ByteArray}{X:Nat}(hc:chkK M O=0)(hX:hasN (num M) (num O) X=true){u:ByteArray}{A B ad rm:List ByteArray}{F F':Nat}
 (hA:HanL A) (hB:HanL B) (ha:∀ x,x∈ad↔x∈B∧x∉A) (hr:∀ x,x∈rm↔x∈A∧x∉B) (na:ad.Nodup) (nr:rm.Nodup) (la:ad.length≤48) (lr:rm.length≤48)
 (huA:u∈A) (huB:u∈B) (hF:num u * F=prodN A) (hF':num u * F'=prodN B) :
 upR M O (nS (X ^ F%num M)) u ad rm (nS (X ^ prodN B%num M))=(nS (X ^ F'%num M),0):=by
 have hu:=hA.2 u huA;have p1:∀ x∈ad,HanP x:=fun x hx=>hB.2 x ((ha x).1 hx).1;have p2:∀ x∈rm,HanP x:=fun x hx=>hA.2 x ((hr x).1 hx).1;have hur:u∉rm:=fun h=>((hr u).1 h).2 huB;rw[←hF'];refine up_good hc hX hu.1 (List.all_eq_true.2 fun x hx=>(p1 x hx).1) (List.all_eq_true.2 fun x hx=>(p2 x hx).1) hur (han_pos hu) (fun x hx=>han_pos (p1 x hx)) (fun x hx=>han_pos (p2 x hx)) ?_ ?_ ?_ ?_ ?_
 · exact prn_prod hu.2.2.2 (fun x hx=>⟨(p2 x hx).2.2.2,fun e=>hur (num_inj (p2 x hx).1 hu.1 e▸hx)⟩)
 · exact prodN_small (fun x hx=>(p1 x hx).2.2.1) la
 · exact Nat.lt_trans (prodN_small (fun x hx=>(p2 x hx).2.2.1) lr) (Nat.pow_lt_pow_right (by decide) (by decide))
 · exact Nat.lt_of_lt_of_le hu.2.2.1 (by decide)
 · have:=prod_chg hA.1 hB.1 na nr ha hr;rw[←hF,←hF',Nat.mul_assoc,Nat.mul_assoc]at this;exact(Nat.eq_of_mul_eq_mul_left (han_pos hu) this).symm
theorem up_gone{M O:ByteArray}{X:Nat}(hc:chkK M O=0)(hX:hasN (num M) (num O) X=true){u:ByteArray}{ad rm:List ByteArray}{F G:Nat}(hu:HanP u)(p1:∀ x∈ad,HanP x)(p2:∀ x∈rm,HanP x)(hm:u∈rm) :
 upR M O (nS (X ^ F%num M)) u ad rm (nS (X ^ G%num M))=(⟨#[]⟩,20):=by
 have hr:rdyR M O [nS (X ^ F%num M),nS (X ^ G%num M)] (u::(ad++rm))=0:=
  rdy_good hc hX (by rw[List.all_cons,List.all_append,hu.1,List.all_eq_true.2 fun x hx=>(p1 x hx).1,List.all_eq_true.2 fun x hx=>(p2 x hx).1];rfl) (by
   intro x hx;rw[List.mem_cons,List.mem_append]at hx;rcases hx with rfl | hx | hx
   · exact han_pos hu
   · exact han_pos (p1 x hx)
   · exact han_pos (p2 x hx)) [F,G]
 have he:(exR u ad rm).2=20:=by unfold exR;rw[if_pos (memB_iff.2 hm)]
 unfold upR;rw[hr,if_neg (fun c=>c rfl),he,if_pos (by decide)]
def hMs(M0:List ByteArray)(Cs:List (List ByteArray)):Nat→List ByteArray
 | 0=>M0
 | i+1=>hsX (hMs M0 Cs i) (Cs.getD i [])
def hAc(m X:Nat)(M0:List ByteArray)(Cs:List (List ByteArray))(i:Nat):ByteArray:=nS (X ^ prodN (hMs M0 Cs i)%m)
def hDl(m X:Nat)(M0:List ByteArray)(Cs:List (List ByteArray))(i:Nat):Dl:=
 ⟨(i:Int),(i:Int)+1,hsA (hMs M0 Cs i) (Cs.getD i []),hsR (hMs M0 Cs i) (Cs.getD i []),hAc m X M0 Cs i,hAc m X M0 Cs (i+1),⟨#[]⟩,⟨#[]⟩⟩
def hLog(m X:Nat)(M0:List ByteArray)(Cs:List (List ByteArray))(n:Nat):List Dl:=(List.range n).map (hDl m X M0 Cs)
theorem hLog_len(m X:Nat)(M0:List ByteArray)(Cs:List (List ByteArray))(n:Nat):(hLog m X M0 Cs n).length=n:=by unfold hLog;rw[List.length_map,List.length_range]
theorem hLog_snoc(m X:Nat)(M0:List ByteArray)(Cs:List (List ByteArray))(n:Nat):hLog m X M0 Cs (n+1)=hLog m X M0 Cs n++[hDl m X M0 Cs n]:=by unfold hLog;rw[List.range_succ,List.map_append];rfl
theorem hLog_at{m X:Nat}{M0:List ByteArray}{Cs:List (List ByteArray)}{n i:Nat}{d:Dl}(h:(hLog m X M0 Cs n)[i]? =some d):i<n∧d=hDl m X M0 Cs i:=by
 have hi:i<n:=by have:=(List.getElem?_eq_some_iff.1 h).1;rwa[hLog_len]at this
 unfold hLog at h;rw[List.getElem?_map,List.getElem?_range hi]at h;exact⟨hi,(Option.some.inj h).symm⟩
def HanC(l:List ByteArray):Prop:=HanL l∧l.length≤8
theorem hanC_get{Cs:List (List ByteArray)}(h:∀ C∈Cs,HanC C)(i:Nat):HanC (Cs.getD i []):=by
 rw[List.getD_eq_getElem?_getD]
 cases e:Cs[i]? with
 | none=>exact⟨⟨List.nodup_nil,fun x hx=>by cases hx⟩,by simp⟩
 | some C=>exact h C (List.mem_of_getElem? e)
theorem hMs_han{M0:List ByteArray}{Cs:List (List ByteArray)}(h0:HanL M0)(h:∀ C∈Cs,HanC C):∀ i,HanL (hMs M0 Cs i)
 | 0=>h0
 | i+1=>(hMs_han h0 h i).next (hanC_get h i).1
theorem han_size{x:ByteArray}(h:HanP x):x.size≤16:=by
 rw[nS_num h.1];exact nS_size_le.2 (Nat.lt_trans h.2.2.1 (by decide +kernel))
theorem both_le{M C:List ByteArray}(hM:M.Nodup)(hC:C.Nodup):(M.filter (fun x=>memB C x)).length≤C.length:=by
 have hp:(M.filter (fun x=>memB C x)).Perm (C.filter (fun x=>memB M x)):=(List.perm_ext_iff_of_nodup (hM.filter _) (hC.filter _)).2 fun x=>by
  rw[List.mem_filter,List.mem_filter,memB_iff,memB_iff];exact And.comm
 rw[hp.length_eq];exact List.length_filter_le _ _
theorem hAc_val{M O:ByteArray}{X:Nat}(hc:chkK M O=0)(hX:hasN (num M) (num O) X=true)(M0:List ByteArray)(Cs:List (List ByteArray))(i:Nat):nvalid (hAc (num M) X M0 Cs i)=true:=tw_val hc hX _
theorem hAc_size{M O:ByteArray}{X:Nat}(hM:M.size≤8)(hc:chkK M O=0)(hX:hasN (num M) (num O) X=true)(M0:List ByteArray)(Cs:List (List ByteArray))(i:Nat):(hAc (num M) X M0 Cs i).size≤16:=by
 unfold hAc;have h1:=has_lt hX;have h2:=num_small hM;exact nS_size_le.2 (Nat.lt_trans (Nat.mod_lt _ (by omega)) (Nat.lt_trans h2 (by decide +kernel)))
theorem hist_along{M O:ByteArray}{X:Nat}(hM:M.size≤8)(hc:chkK M O=0)(hX:hasN (num M) (num O) X=true){M0:List ByteArray}{Cs:List (List ByteArray)}(h0:HanL M0)(h:∀ C∈Cs,HanC C){n:Nat}(hn:n≤12) :
 Along (hMs M0 Cs) (hAc (num M) X M0 Cs) (hLog (num M) X M0 Cs n):=by
 intro i d hd;obtain⟨hi,rfl⟩:=hLog_at hd;have hA:=hMs_han h0 h i;obtain⟨hC,hCl⟩:=hanC_get h i;obtain⟨A,eA⟩:=nm (hMs M0 Cs i);obtain⟨C,eC⟩:=nm (Cs.getD i []);rw[eA]at hA;rw[eC]at hC hCl;have eN:hMs M0 Cs (i+1)=hsX A C:=by show hsX (hMs M0 Cs i) (Cs.getD i [])=_;rw[eA,eC]
 have pa:∀ x∈hsA A C,HanP x:=fun x hx=>hC.2 x (mem_hsA.1 hx).1;have pr:∀ x∈hsR A C,HanP x:=fun x hx=>hA.2 x (mem_hsR.1 hx).1;have all:∀ y∈hsA A C++hsR A C++[hAc (num M) X M0 Cs i,hAc (num M) X M0 Cs (i+1)],nvalid y=true∧y.size≤16:=by
  intro y hy;simp only[List.mem_append,List.mem_cons,List.mem_nil_iff,or_false]at hy;rcases hy with(hy | hy) | hy | hy
  · exact⟨(pa y hy).1,han_size (pa y hy)⟩
  · exact⟨(pr y hy).1,han_size (pr y hy)⟩
  · rw[hy];exact⟨hAc_val hc hX _ _ _,hAc_size hM hc hX _ _ _⟩
  · rw[hy];exact⟨hAc_val hc hX _ _ _,hAc_size hM hc hX _ _ _⟩
 have dis:∀ x∈hsA A C,x∉hsR A C:=fun x h1 h2=>(mem_hsA.1 h1).2 (mem_hsR.1 h2).1;unfold hDl;rw[eA,eC];refine⟨Dl.form_0 (Dl.okN_all fun j y hy=>(all y (List.mem_of_getElem? hy)).1) ?_ (Dl.twice_no ?_ ?_ ?_) (Dl.low_no fun j y hj hy=>?_),rfl,rfl,⟨?_,?_,fun y hy=>(all y hy).2⟩,rfl,rfl,rfl,rfl,fun x=>?_⟩
 · unfold Dl.rng;simp only;omega
 · exact ascB_of (srtN_asc (hC.1.filter _) (fun x hx=>(hC.2 x (List.mem_filter.1 hx).1).1))
 · exact ascB_of (srtN_asc (hA.1.filter _) (fun x hx=>(hA.2 x (List.mem_filter.1 hx).1).1))
 · rw[List.any_eq_false];intro x hx hb;exact dis x hx (memB_iff.1 hb)
 · simp only at hj hy;have hm:y∈hsA A C++hsR A C:=by
    rw[List.getElem?_append_left (by rw[List.length_append];omega)]at hy;exact List.mem_of_getElem? hy
   have hp:HanP y:=by rcases List.mem_append.1 hm with h | h;exact pa y h;exact pr y h
   have:=hp.2.1;omega
 · show (hsA A C).length≤8;unfold hsA;rw[(srtN_perm _).length_eq];exact Nat.le_trans (List.length_filter_le _ _) hCl
 · show (hsR A C).length≤8;unfold hsR;rw[(srtN_perm _).length_eq];exact Nat.le_trans (both_le hA.1 hC.1) hCl
 · rw[eN];show ind (hsA A C) x - ind (hsR A C) x=ind (hsX A C) x - ind A x;have m1:=@mem_hsA A C x;have m2:=@mem_hsR A C x;have m3:=@mem_hsX A C x;by_cases h1:x∈A<;>by_cases h2:x∈C<;>simp only[h1,h2,not_true,not_false_iff,and_true,and_false,or_true,or_false,true_and,false_and,iff_true,iff_false]at m1 m2 m3
   · rw[ind_out m1,ind_in m2,ind_out m3,ind_in h1];try rfl
   · rw[ind_out m1,ind_out m2,ind_in m3,ind_in h1];try rfl
   · rw[ind_in m1,ind_out m2,ind_in m3,ind_out h1];try rfl
   · rw[ind_out m1,ind_out m2,ind_out m3,ind_out h1];try rfl
theorem hist_final{M O:ByteArray}{X:Nat}(hM:M.size≤8)(hc:chkK M O=0)(hX:hasN (num M) (num O) X=true){M0:List ByteArray}{Cs:List (List ByteArray)}(h0:HanL M0)(h:∀ C∈Cs,HanC C){n:Nat}(hn:n≤6)(hp:0<n)
 {u:ByteArray} (hu:u∈M0) {F:Nat} (hF:num u * F=prodN M0) {hd:Hd} (hw:hd.wi=nS (X ^ F%num M)) (ha:hd.at'[1]? =some u) (he:hd.ep=0) :
 huR M O (hLog (num M) X M0 Cs n) hd (n:Int)=if memB (hMs M0 Cs n) u=true then({ hd with wi:=nS (X ^ (prodN (hMs M0 Cs n) / num u)%num M),ep:=(n:Int) },0)else(Hd.zero,20):=by
 have hal:=hist_along hM hc hX h0 h (n:=n) (by omega);have hlen:=hLog_len (num M) X M0 Cs n;obtain⟨D,hD,J⟩:=bt_along hal (by omega) (by omega);rw[hlen]at hD J;have hB:=hMs_han h0 h n;obtain⟨B,eB⟩:=nm (hMs M0 Cs n);have gD:=Dl.good J.form;have had:∀ x,x∈D.ad↔x∈B∧x∉M0:=fun x=>by
  rw[ev_ad gD,J.ev,eB];show ind B x - ind M0 x=1↔_;rcases ind_cases B x with⟨a1,e1⟩ | ⟨a1,e1⟩<;>rcases ind_cases M0 x with⟨a2,e2⟩ | ⟨a2,e2⟩<;>rw[e1,e2]<;>simp[a1,a2]
 have hrm:∀ x,x∈D.rm↔x∈M0∧x∉B:=fun x=>by
  rw[ev_rm gD,J.ev,eB];show ind B x - ind M0 x = -1↔_;rcases ind_cases B x with⟨a1,e1⟩ | ⟨a1,e1⟩<;>rcases ind_cases M0 x with⟨a2,e2⟩ | ⟨a2,e2⟩<;>rw[e1,e2]<;>simp[a1,a2]
 rw[eB]at hB⊢;have haf:D.af=nS (X ^ prodN B%num M):=by rw[J.af];unfold hAc;rw[eB]
 have vw:nvalid hd.wi=true:=by rw[hw];exact tw_val hc hX F
 have vu:=(h0.2 u hu).1;have e1:huR M O (hLog (num M) X M0 Cs n) hd (n:Int)=huD M O D hd u (n:Int):=(by unfold huR;rw[vw,if_neg (by decide),ha];simp only[];rw[vu,if_neg (by decide)];unfold huU;rw[he,hlen,if_neg (by omega),if_neg (by omega),hD,if_neg (fun c=>c rfl)]);rw[e1];unfold huD;rw[hw,haf]
 cases hb:memB B u with
 | false =>
  have hnb:=memB_no.1 hb;rw[up_gone hc hX (h0.2 u hu) (fun x hx=>hB.2 x ((had x).1 hx).1) (fun x hx=>h0.2 x ((hrm x).1 hx).1) ((hrm u).2 ⟨hu,hnb⟩),if_pos (show (20:Int)≠0 by decide),if_neg (by decide)]
 | true =>
  have hbm:=memB_iff.1 hb;obtain⟨G,hG⟩:=prodN_dvd hbm;have hq:prodN B / num u=G:=by rw[hG];exact Nat.mul_div_cancel_left _ (han_pos (h0.2 u hu))
  have la:=J.sm.la;have lr:=J.sm.lr;rw[up_step hc hX h0 hB had hrm gD.aad.nodup gD.arm.nodup (by omega) (by omega) hu hbm hF hG.symm,if_neg (fun c=>c rfl),if_pos rfl,hq]
set_option maxRecDepth 100000
theorem prime_is_n(n:Nat)(h8:n<18446744073709551616)(w:World)(ht:TabAt w):Calls Tryz.prog 61 #[.int .u64 n] w (Ret (.bool (isN n)) w):=by
 rcases Nat.lt_or_ge n 2 with a | a
 · rw[isN_lt a];have hi:(n:Int)<2:=by omega
   clear ht h8;go_enter Tryz.func61,Tryz.ntmps61;go_wp2;go_step3;go_wp2;go_ret;exact⟨rfl,Below.refl _ _⟩
 · rcases isN_cases a with⟨i,hi,hd,hno,e⟩ | ⟨hno,e⟩
   · rw[e];exact prime_is_small n i a h8 hi hd hno w
   · rw[e];exact prime_is_big n a h8 hno w ht
theorem prime_Is_t(n:Nat)(h8:n<18446744073709551616)(b:Bool)(h:∀ w,TabAt w→Calls Tryz.prog 61 #[.int .u64 n] w (Ret (.bool b) w))(w:World)(ht:TabAt w):Calls Tryz.prog 31 #[.string (nS n)] w (Ret (.tuple #[.bool b,.int .i64 0]) w):=by
 have HS:=Hq (prime_small_n n h8);have HI:=Hq h;have HT:=Hq ht;obtain⟨s,hs⟩:=nm (nS n);rw[hs]at HS⊢;clear hs h8 h ht;go_enter Tryz.func31,Tryz.ntmps31;go_wp2_with fail;refine(HS.out _).mono ?_;rintro e w1 ⟨rfl,rfl⟩;go_wp2_with fail;refine(HI.out _ HT.out).mono ?_;rintro e w1 ⟨rfl,hb1⟩;have HB1:=Hq hb1;clear hb1;go_wp2;go_ret2;exact⟨rfl,HB1.out⟩
end Go.Proofs.YtmahgbhpdfbbjaaGreatDoor

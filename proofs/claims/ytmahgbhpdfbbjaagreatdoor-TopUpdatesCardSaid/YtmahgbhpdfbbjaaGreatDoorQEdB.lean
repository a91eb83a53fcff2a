import Derived.Test.YtmahgbhpdfbbjaaGreatDoorQMrC
import Derived.Test.YtmahgbhpdfbbjaaGreatDoorQTvK
set_option linter.unusedVariables false
set_option linter.unusedSimpArgs false
namespace Go.Proofs.YtmahgbhpdfbbjaaGreatDoor
set_option maxRecDepth 100000
set_option maxHeartbeats 2000000
open Go.RowKit
theorem aw19_val:valV ⟨#[77]⟩ ⟨#[]⟩ ⟨#[4]⟩ [⟨#[7]⟩,⟨#[11]⟩]=.tuple #[.string ⟨#[16]⟩,.int .i64 0]:=by
 rw[val_ok (by decide +kernel) (nd_t (by decide +kernel)),show nS (valF (num ⟨#[77]⟩) (num ⟨#[4]⟩) [⟨#[7]⟩,⟨#[11]⟩])=⟨#[16]⟩from by decide +kernel]
theorem top_awake(w:World):Calls Tryz.prog 5 #[] w (Ret (.bool true) w):=by
 have HV:=Hq (fun(W:World)=>ac_Value ⟨#[]⟩ ⟨#[77]⟩ ⟨#[]⟩ ⟨#[]⟩ ⟨#[]⟩ none 0 0 ⟨#[4]⟩ ⟨#[]⟩ [⟨#[7]⟩,⟨#[11]⟩] (some ⟨W.heap.size,0,none⟩) 2 2 (W.alloc (.cells #[.string ⟨#[7]⟩,.string ⟨#[11]⟩] 22)) (by decide) (by decide) (by decide) (by omega) (SlN.new W [⟨#[7]⟩,⟨#[11]⟩] 22 (by simp)) (by intro s hs;simp only[List.mem_cons,List.mem_nil_iff,or_false]at hs;rcases hs with rfl | rfl<;>decide));rw[aw19_val]at HV;unfold ikC at HV;go_enter Tryz.func5,Tryz.ntmps5;go_wp2_with fail;refine(show Calls _ _ _ _ _ from HV.out _).mono ?_;rintro e w1 ⟨rfl,hb⟩;have HB:=Hq (show Below w.heap.size w w1 from((Below.refl w.heap.size w).alloc nlr _).trans (hb.mono (by simp)));clear hb;go_wp2;go_ret;exact⟨rfl,HB.out⟩
def hWit(m X:Nat)(M0:List ByteArray)(Cs:List (List ByteArray))(u:ByteArray)(i:Nat)(al:Bool)(wt:ByteArray):Prop:=
 wt.size≤16∧(al=true→u∈hMs M0 Cs i∧wt=nS (X ^ (prodN (hMs M0 Cs i) / num u)%m))
theorem prod_flt{u:ByteArray}{l:List ByteArray}(hl:l.Nodup)(hu:u∈l):num u * prodN (flt l [u])=prodN l:=by
 have hp:l.Perm (u::flt l [u]):=(List.perm_ext_iff_of_nodup hl (List.nodup_cons.2 ⟨fun h=>(mem_flt.1 h).2 (List.mem_singleton.2 rfl),hl.filter _⟩)).2 fun x=>by
  rw[List.mem_cons,mem_flt,List.mem_singleton];by_cases e:x=u
  · subst e;simp[hu]
  · simp[e]
 rw[prodN_perm hp,prodN]
theorem prod_div{u:ByteArray}{l:List ByteArray}(hl:HanL l)(hu:u∈l):num u * (prodN l / num u)=prodN l:=Nat.mul_div_cancel' (prodN_dvd hu)
theorem tw_size{M O:ByteArray}{X:Nat}(hM:M.size≤8)(hX:hasN (num M) (num O) X=true)(F:Nat):(nS (X ^ F%num M)).size≤16:=by
 have h1:=has_lt hX;have h2:=num_small hM;exact nS_size_le.2 (Nat.lt_trans (Nat.mod_lt _ (by omega)) (Nat.lt_trans h2 (by decide +kernel)))
theorem wit_start{M O U:ByteArray}(hM:M.size≤8)(hc:chkK M O=0)(hX:hasN (num M) (num O) (num U)=true){M0:List ByteArray}(Cs:List (List ByteArray))(h0:HanL M0){u:ByteArray}(hu:u∈M0) :
 wit M U u M0=nS (num U ^ (prodN M0 / num u)%num M)∧hWit (num M) (num U) M0 Cs u 0 true (wit M U u M0):=by
 have e1:wit M U u M0=nS (num U ^ (prodN M0 / num u)%num M):=by
  unfold wit;have:=valF_pow (has_lt hX) (flt M0 [u]) 1;rw[Nat.pow_one,Nat.mod_eq_of_lt (has_lt hX),Nat.one_mul]at this;have e2:prodN (flt M0 [u])=prodN M0 / num u:=by
   rw[←prod_flt h0.1 hu,Nat.mul_div_cancel_left _ (han_pos (h0.2 u hu))]
  rw[show valF (num M) (num U) (flt M0 [u])=num U ^ prodN (flt M0 [u])%num M from this,e2]
 exact⟨e1,by rw[e1];exact tw_size hM hX _,fun _=>⟨hu,e1⟩⟩
theorem hs_mem{M C:List ByteArray}{u:ByteArray}(hu:u∈M):u∈hsX M C↔u∉hsR M C:=by
 rw[mem_hsX,mem_hsR];by_cases h:u∈C<;>simp[hu,h]
theorem wit_stays{M O U:ByteArray}(hM:M.size≤8)(hc:chkK M O=0)(hX:hasN (num M) (num O) (num U)=true){M0:List ByteArray}{Cs:List (List ByteArray)}(h0:HanL M0)(h:∀ C∈Cs,HanC C){u:ByteArray}{i:Nat}{wt:ByteArray}
 (hw:hWit (num M) (num U) M0 Cs u i true wt) (hr:memB (hsR (hMs M0 Cs i) (Cs.getD i [])) u=false) :
 ∃ x,upR M O wt u (hsA (hMs M0 Cs i) (Cs.getD i [])) (hsR (hMs M0 Cs i) (Cs.getD i [])) (hAc (num M) (num U) M0 Cs (i+1))=(x,0)∧hWit (num M) (num U) M0 Cs u (i+1) true x∧rdyR M O [hAc (num M) (num U) M0 Cs (i+1),x] [u]=0∧nS (pz (num M) (num x) (num u))=hAc (num M) (num U) M0 Cs (i+1):=by
 obtain⟨hu,rfl⟩:=hw.2 rfl;have hA:=hMs_han h0 h i;obtain⟨hC,hCl⟩:=hanC_get h i;have hB:HanL (hMs M0 Cs (i+1)):=hMs_han h0 h (i+1);have huB:u∈hMs M0 Cs (i+1):=(hs_mem hu).2 (memB_no.1 hr);have hB':HanL (hsX (hMs M0 Cs i) (Cs.getD i [])):=hB;have huB':u∈hsX (hMs M0 Cs i) (Cs.getD i []):=huB;have la:(hsA (hMs M0 Cs i) (Cs.getD i [])).length≤48:=(by unfold hsA;rw[(srtN_perm _).length_eq];exact Nat.le_trans (List.length_filter_le _ _) (by omega));have lr:(hsR (hMs M0 Cs i) (Cs.getD i [])).length≤48:=(by unfold hsR;rw[(srtN_perm _).length_eq];exact Nat.le_trans (both_le hA.1 hC.1) (by omega));have hup:=up_step hc hX hA hB' (fun x=>by refine(mem_hsA (M:=hMs M0 Cs i) (C:=Cs.getD i [])).trans ?_;rw[mem_hsX];by_cases h1:x∈hMs M0 Cs i<;>by_cases h2:x∈Cs.getD i []<;>simp[h1,h2]) (fun x=>by refine(mem_hsR (M:=hMs M0 Cs i) (C:=Cs.getD i [])).trans ?_;rw[mem_hsX];by_cases h1:x∈hMs M0 Cs i<;>by_cases h2:x∈Cs.getD i []<;>simp[h1,h2])
  ((srtN_perm _).nodup_iff.2 (hC.1.filter _)) ((srtN_perm _).nodup_iff.2 (hA.1.filter _)) la lr hu huB' (prod_div hA hu) (prod_div hB' huB')
 refine⟨_,hup,⟨tw_size hM hX _,fun _=>⟨huB,rfl⟩⟩,?_,?_⟩
 · have:=rdy_good hc hX (hs:=[u]) (by rw[List.all_cons,(hA.2 u hu).1];rfl) (fun x hx=>by rw[List.mem_singleton.1 hx];exact han_pos (hA.2 u hu)) [prodN (hMs M0 Cs (i+1)),prodN (hMs M0 Cs (i+1)) / num u];exact this
 · rw[num_nS,pz_nat,←Nat.pow_mod,←Nat.pow_mul,Nat.mul_comm,prod_div hB' huB'];rfl
theorem wit_goes{M O U:ByteArray}(hc:chkK M O=0)(hX:hasN (num M) (num O) (num U)=true){M0:List ByteArray}{Cs:List (List ByteArray)}(h0:HanL M0)(h:∀ C∈Cs,HanC C){u:ByteArray}{i:Nat}{wt:ByteArray}
 (hw:hWit (num M) (num U) M0 Cs u i true wt) (hr:memB (hsR (hMs M0 Cs i) (Cs.getD i [])) u=true) :
 upR M O wt u (hsA (hMs M0 Cs i) (Cs.getD i [])) (hsR (hMs M0 Cs i) (Cs.getD i [])) (hAc (num M) (num U) M0 Cs (i+1))=(⟨#[]⟩,20):=by
 obtain⟨hu,rfl⟩:=hw.2 rfl;have hA:=hMs_han h0 h i;obtain⟨hC,hCl⟩:=hanC_get h i;exact up_gone hc hX (hA.2 u hu) (fun x hx=>hC.2 x (mem_hsA.1 hx).1) (fun x hx=>hA.2 x (mem_hsR.1 hx).1) (memB_iff.1 hr)
theorem wit_final{M O U:ByteArray}(hM:M.size≤8)(hc:chkK M O=0)(hX:hasN (num M) (num O) (num U)=true){M0:List ByteArray}{Cs:List (List ByteArray)}(h0:HanL M0)(h:∀ C∈Cs,HanC C){n:Nat}(hn:n≤6)(hp:0<n)
 {u:ByteArray} (hu:u∈M0) {hd:Hd} (hw:hd.wi=nS (num U ^ (prodN M0 / num u)%num M)) (ha:hd.at'[1]? =some u) (he:hd.ep=0) (hb:memB (hMs M0 Cs n) u=true) :
 ∃ x,huR M O (hLog (num M) (num U) M0 Cs n) hd (n:Int)=({ hd with wi:=x,ep:=(n:Int) },0)∧x=nS (num U ^ (prodN (hMs M0 Cs n) / num u)%num M)∧x.size≤16∧rdyR M O [hAc (num M) (num U) M0 Cs n,x] [u]=0∧nS (pz (num M) (num x) (num u))=hAc (num M) (num U) M0 Cs n:=by
 have hf:=hist_final hM hc hX h0 h hn hp hu (prod_div h0 hu) hw ha he;rw[if_pos hb]at hf;have hB:=hMs_han h0 h n;have huB:=memB_iff.1 hb;refine⟨_,hf,rfl,tw_size hM hX _,?_,?_⟩
 · exact rdy_good hc hX (hs:=[u]) (by rw[List.all_cons,(h0.2 u hu).1];rfl) (fun x hx=>by rw[List.mem_singleton.1 hx];exact han_pos (h0.2 u hu)) [prodN (hMs M0 Cs n),prodN (hMs M0 Cs n) / num u]
 · rw[num_nS,pz_nat,←Nat.pow_mod,←Nat.pow_mul,Nat.mul_comm,prod_div hB huB];rfl
theorem wit_gone{M O U:ByteArray}(hM:M.size≤8)(hc:chkK M O=0)(hX:hasN (num M) (num O) (num U)=true){M0:List ByteArray}{Cs:List (List ByteArray)}(h0:HanL M0)(h:∀ C∈Cs,HanC C){n:Nat}(hn:n≤6)(hp:0<n)
 {u:ByteArray} (hu:u∈M0) {hd:Hd} (hw:hd.wi=nS (num U ^ (prodN M0 / num u)%num M)) (ha:hd.at'[1]? =some u) (he:hd.ep=0) (hb:memB (hMs M0 Cs n) u=false) :
 huR M O (hLog (num M) (num U) M0 Cs n) hd (n:Int)=(Hd.zero,20):=by
 have hf:=hist_final hM hc hX h0 h hn hp hu (prod_div h0 hu) hw ha he;rw[if_neg (by rw[hb];decide)]at hf;exact hf
theorem hms_len{M0:List ByteArray}{Cs:List (List ByteArray)}(h0:M0.length≤8)(h:∀ C∈Cs,HanC C):∀ i,(hMs M0 Cs i).length≤8+8 * i
 | 0=>h0
 | i+1=>by
  show (hsX (hMs M0 Cs i) (Cs.getD i [])).length≤_;unfold hsX;rw[List.length_append];have h1:=List.length_filter_le (fun x => !memB (Cs.getD i []) x) (hMs M0 Cs i);have h2:=List.length_filter_le (fun x => !memB (hMs M0 Cs i) x) (Cs.getD i []);have h3:=hms_len h0 h i;have h4:=(hanC_get h i).2;unfold flt;omega
theorem few_hDl{M O:ByteArray}{X:Nat}(hM:M.size≤8)(hc:chkK M O=0)(hX:hasN (num M) (num O) X=true){M0:List ByteArray}{Cs:List (List ByteArray)}(h0:HanL M0)(h:∀ C∈Cs,HanC C)(i:Nat):FewD (hDl (num M) X M0 Cs i):=by
 have hA:=hMs_han h0 h i;obtain⟨hC,hCl⟩:=hanC_get h i;refine⟨⟨?_,fun x hx=>?_⟩,⟨?_,fun x hx=>?_⟩,⟨by simp,fun x hx=>?_⟩⟩
 · show (hsA _ _).length≤20;unfold hsA;rw[(srtN_perm _).length_eq];exact Nat.le_trans (List.length_filter_le _ _) (by omega)
 · exact han_size (hC.2 x (mem_hsA.1 hx).1)
 · show (hsR _ _).length≤20;unfold hsR;rw[(srtN_perm _).length_eq];exact Nat.le_trans (both_le hA.1 hC.1) (by omega)
 · exact han_size (hA.2 x (mem_hsR.1 hx).1)
 · simp only[hDl,List.mem_cons,List.mem_nil_iff,or_false]at hx;rcases hx with rfl | rfl | rfl | rfl
   · exact hAc_size hM hc hX _ _ _
   · exact hAc_size hM hc hX _ _ _
   · decide
   · decide
theorem few_hLog{M O:ByteArray}{X:Nat}(hM:M.size≤8)(hc:chkK M O=0)(hX:hasN (num M) (num O) X=true){M0:List ByteArray}{Cs:List (List ByteArray)}(h0:HanL M0)(h:∀ C∈Cs,HanC C)(n:Nat):∀ d∈hLog (num M) X M0 Cs n,FewD d:=by
 intro d hd;obtain⟨i,hi⟩:=List.getElem?_of_mem hd;obtain⟨_,rfl⟩:=hLog_at hi;exact few_hDl hM hc hX h0 h i
theorem sz_few{d:Dl}(h:FewD d):SzL d.str:=by
 intro s hs;have : s.size≤16:=by
  unfold Dl.str at hs;simp only[List.mem_append]at hs;rcases hs with(hs | hs) | hs
  · exact h.ad.2 s hs
  · exact h.rm.2 s hs
  · exact h.xs.2 s hs
 omega
def SlO(w:World)(row:Option Nat)(A:Option Addr)(n c:Nat)(l:List ByteArray):Prop:=SlN w A n c l∧(0<n→∀ a,A=some a→row≠some a.block)
theorem SlO.kept{B:Nat}{w w':World}{row:Option Nat}(hb:Below B w w')(hB:w.heap.size≤B){A:Option Addr}{n c:Nat}{l:List ByteArray}(h:SlO w row A n c l):SlO w' row A n c l:=⟨h.1.kept hb hB,h.2⟩
theorem SlO.grow{w w':World}{row:Option Nat}{g:Nat}(hg:w.grownBy w' row)(ha:row=some g∨g=w.heap.size){A:Option Addr}{n c:Nat}{l:List ByteArray}(h:SlO w row A n c l):SlO w' (some g) A n c l:=by
 refine⟨h.1.of_blocks fun hn a e=>?_,fun hn a e=>?_⟩
 · subst e;exact hg.block a.block (h.1.lt hn) (fun e=>(h.2 hn a rfl) e.symm)
 · rcases ha with ha | ha
   · rw[←ha];exact h.2 hn a e
   · subst e;have:=h.1.lt hn;simp only[ne_eq,Option.some.injEq];omega
def DRow(w:World)(row:Option Nat):List Value→List Dl→Prop
 | vs,[]=>vs=[]
 | vs,d::l=>∃ A1 n1 c1 A2 n2 c2 rest,vs=d.vals (.slice A1 n1 c1) (.slice A2 n2 c2)++rest∧SlO w row A1 n1 c1 d.ad∧SlO w row A2 n2 c2 d.rm∧DRow w row rest l
theorem DRow.imp{w w':World}{row row':Option Nat}(hi:∀ A n c l,SlO w row A n c l→SlO w' row' A n c l):∀ {vs:List Value} {l:List Dl},DRow w row vs l→DRow w' row' vs l
 | _,[],h=>h
 | _,_::_,⟨A1,n1,c1,A2,n2,c2,rest,h1,h2,h3,h4⟩=>⟨A1,n1,c1,A2,n2,c2,rest,h1,hi _ _ _ _ h2,hi _ _ _ _ h3,h4.imp hi⟩
theorem DRow.kept{B:Nat}{w w':World}{row:Option Nat}(hb:Below B w w')(hB:w.heap.size≤B){vs:List Value}{l:List Dl}(h:DRow w row vs l):DRow w' row vs l:=h.imp fun _ _ _ _ h=>h.kept hb hB
theorem DRow.grow{w w':World}{row:Option Nat}{g:Nat}(hg:w.grownBy w' row)(ha:row=some g∨g=w.heap.size){vs:List Value}{l:List Dl}(h:DRow w row vs l):DRow w' (some g) vs l:=h.imp fun _ _ _ _ h=>h.grow hg ha
theorem Dl.vals_length(d:Dl)(a r:Value):(d.vals a r).length=8:=rfl
theorem DRow.length{w:World}{row:Option Nat}:∀ {vs:List Value} {l:List Dl},DRow w row vs l→vs.length=l.length * 8
 | _,[],h=>by rw[show _=[]from h];rfl
 | _,_::_,⟨_,_,_,_,_,_,rest,h1,_,_,h4⟩=>by rw[h1,List.length_append,h4.length,Dl.vals_length,List.length_cons];omega
theorem DRow.snoc{w:World}{row:Option Nat}{d:Dl}{A1 A2:Option Addr}{n1 c1 n2 c2:Nat}(h1:SlO w row A1 n1 c1 d.ad)(h2:SlO w row A2 n2 c2 d.rm):∀ {vs:List Value} {l:List Dl},DRow w row vs l→DRow w row (vs++d.vals (.slice A1 n1 c1) (.slice A2 n2 c2)) (l++[d])
 | vs,[],h=>⟨A1,n1,c1,A2,n2,c2,[],by rw[show vs=[]from h];simp,h1,h2,rfl⟩
 | _,_::_,⟨B1,m1,e1,B2,m2,e2,rest,g1,g2,g3,g4⟩=>⟨B1,m1,e1,B2,m2,e2,rest++d.vals (.slice A1 n1 c1) (.slice A2 n2 c2),by rw[g1,List.append_assoc],g2,g3,g4.snoc h1 h2⟩
theorem DRow.get{w:World}{row:Option Nat}:∀ {vs:List Value} {l:List Dl} {k:Nat} {d:Dl},DRow w row vs l→l[k]? =some d→∃ A1 n1 c1 A2 n2 c2,SlN w A1 n1 c1 d.ad∧SlN w A2 n2 c2 d.rm∧∀ j u,(d.vals (.slice A1 n1 c1) (.slice A2 n2 c2))[j]? =some u→vs[k * 8+j]? =some u
 | _,[],_,_,_,hk=>by simp at hk
 | _,d'::l,0,d,⟨A1,n1,c1,A2,n2,c2,rest,h1,h2,h3,h4⟩,hk=>by
  simp only[List.getElem?_cons_zero,Option.some.injEq]at hk;subst hk;refine⟨A1,n1,c1,A2,n2,c2,h2.1,h3.1,fun j u hu=>?_⟩;have hj:=(List.getElem?_eq_some_iff.1 hu).1;rw[h1,Nat.zero_mul,Nat.zero_add,List.getElem?_append_left hj];exact hu
 | _,d'::l,k+1,d,⟨A1,n1,c1,A2,n2,c2,rest,h1,h2,h3,h4⟩,hk=>by
  obtain⟨B1,m1,e1,B2,m2,e2,g1,g2,g3⟩:=h4.get (k:=k) (by simpa using hk);refine⟨B1,m1,e1,B2,m2,e2,g1,g2,fun j u hu=>?_⟩;rw[h1,List.getElem?_append_right (by rw[Dl.vals_length];omega),Dl.vals_length,show (k+1) * 8+j - 8=k * 8+j from by omega];exact g3 j u hu
theorem Dl.oneV(d:Dl){A1 A2:Option Addr}{n1 c1 n2 c2:Nat}:∀ u∈d.vals (.slice A1 n1 c1) (.slice A2 n2 c2),u.oneCell'=true:=by
 intro u hu;simp only[Dl.vals,List.mem_cons,List.mem_nil_iff,or_false]at hu;rcases hu with h | h | h | h | h | h | h | h<;>subst h<;>rfl
theorem DRow.one{w:World}{row:Option Nat}:∀ {vs:List Value} {l:List Dl},DRow w row vs l→∀ u∈vs,u.oneCell'=true
 | _,[],h=>by rw[show _=[]from h];intro u hu;cases hu
 | _,d::_,⟨_,_,_,_,_,_,rest,h1,_,_,h4⟩=>by
  intro u hu;rw[h1,List.mem_append]at hu;rcases hu with hu | hu
  · exact d.oneV u hu
  · exact h4.one u hu
theorem SlD.of_owns{w:World}{base:Nat}{T:TypeId}{rv:Value}{n:Nat}{vs:List Value}{l:List Dl}{row:Option Nat}(h:w.ownsRow base T 8 rv n vs)(hr:DRow w row vs l):l.length=n∧∃ A cap,rv=.slice A n cap∧SlD w A n cap l:=by
 have hl:=h.1;rw[hr.length]at hl;have hln:l.length=n:=by omega
 refine⟨hln,?_⟩;rcases h.2 with⟨hv,h0⟩ | ⟨g,cap,cur,hv,hb,hh,hc,hm,hs,ht⟩
 · subst h0;have : l=[]:=List.length_eq_zero_iff.1 hln;subst this;exact⟨none,0,hv,SlD.nil _ _ _ (by omega)⟩
 · refine⟨_,cap,hv,hln,hc,by unfold maxLen at hm;exact hm,g,0,fun _=>rfl,fun k d hk=>?_⟩;obtain⟨A1,m1,c1,A2,m2,c2,h1,h2,h3⟩:=hr.get hk;refine⟨A1,m1,c1,A2,m2,c2,fun j u hu=>?_,h1,h2⟩;have hcell:=h.cells (g:=g) (by rw[hv];rfl) (k * 8+j) u (h3 j u hu);rw[addr_add,Nat.zero_add]at hcell;rw[show 0+k * 8+j=k * 8+j from by omega];exact hcell
theorem drow_of{w:World}{b:Nat}:∀(l:List Dl) (o:Nat),(∀ k d,l[k]? =some d→∃ A1 n1 c1 A2 n2 c2,DIn w b (o+k * 8) d A1 n1 c1 A2 n2 c2)→∃ vs,DRow w none vs l∧∀ j u,vs[j]? =some u→w.cell? ⟨b,o+j,none⟩=some u
 | [],o,_=>⟨[],rfl,fun j u h=>by simp at h⟩
 | d::l,o,h=>by
  obtain⟨vs,h1,h2⟩:=drow_of l (o+8) (fun k x hk=>by
   have:=h (k+1) x (by simpa using hk);rw[show o+(k+1) * 8=o+8+k * 8 from by omega]at this
   exact this)
  obtain⟨A1,n1,c1,A2,n2,c2,h3,h4,h5⟩:=h 0 d rfl;refine⟨d.vals (.slice A1 n1 c1) (.slice A2 n2 c2)++vs,⟨A1,n1,c1,A2,n2,c2,vs,rfl,⟨h4,fun _ _ _ e=>by cases e⟩,⟨h5,fun _ _ _ e=>by cases e⟩,h1⟩,fun j u hu=>?_⟩;rcases Nat.lt_or_ge j 8 with hj | hj
  · rw[List.getElem?_append_left (by rw[Dl.vals_length];exact hj)]at hu;have:=h3 j u hu;rw[show o+0 * 8+j=o+j from by omega]at this;exact this
  · rw[List.getElem?_append_right (by rw[Dl.vals_length];exact hj),Dl.vals_length]at hu;have:=h2 (j - 8) u hu;rw[show o+8+(j - 8)=o+j from by omega]at this;exact this
theorem SlD.row{w:World}{A:Option Addr}{len cap:Nat}{l:List Dl}(h:SlD w A len cap l):∃ vs,DRow w none vs l∧∀ b o,A=some ⟨b,o,none⟩→∀ j u,vs[j]? =some u→w.cell? ⟨b,o+j,none⟩=some u:=by
 obtain⟨h1,_,_,b,o,h4,h5⟩:=h;obtain⟨vs,h6,h7⟩:=drow_of l o h5;refine⟨vs,h6,fun b' o' e j u hj=>?_⟩;have hl:=(List.getElem?_eq_some_iff.1 hj).1;rw[h6.length]at hl;have:=h4 (by omega);rw[e]at this;simp only[Option.some.injEq,Addr.mk.injEq,and_true]at this;obtain⟨rfl,rfl⟩:=this;exact h7 j u hj
theorem dl_info:(Tryz.prog.info? 50).map (fun i=>(i.zero,i.size,i.bytes))=some (some (.agg itD),8,128):=by kernel_rfl
theorem dl_fill(d:Dl)(A1:Option Addr)(n1 c1:Nat)(A2:Option Addr)(n2 c2:Nat):Instr.fill (fun i=>some (i * 8,8)) ((Array.range (1 * 8)).map ((Value.agg itD).cells[· % (Value.agg itD).cells.size]!)) [(0,.agg (d.arr (.slice A1 n1 c1) (.slice A2 n2 c2)))]=some (d.arr (.slice A1 n1 c1) (.slice A2 n2 c2)):=by kernel_rfl
theorem wpList_build_dl{ops:Array Oper}{rest:List Oper}{o:Oper}{a:Act}{w:World}{Q:Exit→Act→World→Prop}(hg:o.guard=none)(x:Operand)(ho:o.op=.buildSlice 46 1 #[(0,x)])(d:Dl)(A1:Option Addr)(n1 c1:Nat)(A2:Option Addr)(n2 c2:Nat)(hx:a.eval x=.agg (d.arr (.slice A1 n1 c1) (.slice A2 n2 c2)))
 (h:wpList Tryz.prog ops Q rest (a.put o.dst (.slice (some ⟨w.heap.size,0,none⟩) 1 1)) (w.alloc (.cells (d.arr (.slice A1 n1 c1) (.slice A2 n2 c2)) 50))):wpList Tryz.prog ops Q (o::rest) a w:=by
 obtain⟨i0,hi,iz0,iz1,iz2⟩:=info_parts dl_info;refine wpList_buildSlice hg _ 50 1 _ ho (d.arr (.slice A1 n1 c1) (.slice A2 n2 c2)) i0 _ Tryz.underlying46 hi iz0 (by rw[iz1];decide) (by rw[iz1];decide) ?_ h;rw[iz1];have e:(Array.map (fun x=>(x.1,a.eval x.2)) #[(0,x)]).toList=[(0,.agg (d.arr (.slice A1 n1 c1) (.slice A2 n2 c2)))]:=by simp[hx]
 show Instr.fill _ _ (Array.map (fun x=>(x.1,a.eval x.2)) #[(0,x)]).toList=_;rw[e];exact dl_fill d A1 n1 c1 A2 n2 c2
end Go.Proofs.YtmahgbhpdfbbjaaGreatDoor

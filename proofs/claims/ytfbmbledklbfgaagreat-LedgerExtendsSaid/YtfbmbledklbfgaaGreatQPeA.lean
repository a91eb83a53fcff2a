import Derived.Test.YtfbmbledklbfgaaGreatQGrp
set_option linter.unusedVariables false
set_option linter.unusedSimpArgs false
namespace Go.Proofs.YtfbmbledklbfgaaGreat
def invN(x M:Nat):Nat:=((List.range M).find? (fun y=>decide (x * y%M=1))).getD 0
theorem inv_uniq{x M y z:Nat}(hy:y<M)(hz:z<M)(h1:x * y%M=1)(h2:x * z%M=1):y=z:=by
 have e1:x * y * z%M=z:=(by rw[Nat.mul_mod,h1,Nat.one_mul,Nat.mod_mod,Nat.mod_eq_of_lt hz]);have e2:x * y * z=x * z * y:=by rw[Nat.mul_assoc,Nat.mul_comm y z,←Nat.mul_assoc]
 rw[e2,Nat.mul_mod,h2,Nat.one_mul,Nat.mod_mod,Nat.mod_eq_of_lt hy]at e1;exact e1
theorem invN_of{x M y:Nat}(hy:y<M)(h:x * y%M=1):invN x M=y:=by
 unfold invN
 cases hf:(List.range M).find? (fun y=>decide (x * y%M=1))with
 | none =>
  rw[List.find?_eq_none]at hf;have:=hf y (List.mem_range.2 hy);simp[h]at this
 | some z =>
  have h1:=List.find?_some hf;have h2:=List.mem_range.1 (List.mem_of_find?_eq_some hf);simp only[decide_eq_true_eq]at h1;exact inv_uniq h2 hy h1 h
def pp:List (Nat×Nat)→Nat→Nat
 | [],_=>1
 | (b,n)::l,k=>b ^ (n / 2 ^ k) * pp l k
def qq:List (Nat×Nat)→Nat→Nat
 | [],_=>1
 | (b,n)::l,k=>(if bitB n k then b else 1) * qq l k
theorem bit_div(n k:Nat):n / 2 ^ k=2 * (n / 2 ^ (k+1))+(if bitB n k then 1 else 0):=by
 unfold bitB;rw[Nat.pow_succ,←Nat.div_div_eq_div_mul];have:=Nat.mod_two_eq_zero_or_one (n / 2 ^ k);rcases this with h | h<;>rw[h]<;>simp<;>omega
theorem pp_step(l:List (Nat×Nat))(k:Nat):pp l k=pp l (k+1) * pp l (k+1) * qq l k:=by
 induction l with
 | nil=>rfl
 | cons a l ih =>
  obtain⟨b,n⟩:=a;have e:b ^ (n / 2 ^ k)=b ^ (n / 2 ^ (k+1)) * b ^ (n / 2 ^ (k+1)) * (if bitB n k then b else 1):=by
   conv=>lhs;rw[bit_div n k]
   rw[Nat.pow_add,Nat.pow_mul,Nat.pow_two,Nat.mul_pow];split<;>simp
  simp only[pp,qq,e,ih];simp only[Nat.mul_assoc,Nat.mul_left_comm,Nat.mul_comm]
theorem qq_snoc(l:List (Nat×Nat))(b n k:Nat):qq (l++[(b,n)]) k=qq l k * (if bitB n k then b else 1):=by
 induction l with
 | nil=>simp[qq]
 | cons a l ih=>obtain⟨c,m⟩:=a;simp only[List.cons_append,qq,ih,Nat.mul_assoc]
theorem qq_take{l:List (Nat×Nat)}{j b n:Nat}(h:l[j]? =some (b,n))(k:Nat):qq (l.take (j+1)) k=qq (l.take j) k * (if bitB n k then b else 1):=by
 rw[show l.take (j+1)=l.take j++[(b,n)]from by
  obtain⟨h1,h2⟩:=List.getElem?_eq_some_iff.1 h
  rw[List.take_succ_eq_append_getElem h1,h2],qq_snoc]
theorem pp_one{l:List (Nat×Nat)}{k:Nat}(h:∀ x∈l,x.2<2 ^ k):pp l k=1:=by
 induction l with
 | nil=>rfl
 | cons a l ih =>
  obtain⟨b,n⟩:=a;have:=h (b,n) List.mem_cons_self;rw[pp,ih (fun x hx=>h x (List.mem_cons_of_mem _ hx)),Nat.div_eq_of_lt this];rfl
theorem lt_of_blen{n k:Nat}(h:blen n≤k):n<2 ^ k:=by
 unfold blen at h;split at h
 · rename_i h0;subst h0;exact Nat.two_pow_pos k
 · rename_i h0;exact Nat.lt_of_lt_of_le ((Nat.log2_lt h0).1 (Nat.lt_succ_self _)) (Nat.pow_le_pow_right (by omega) h)
def baseN(x:Nat)(neg:Bool)(M:Nat):Nat:=if neg then invN x M else x
def onlyN(K:Act→World→Prop):Exit→Act→World→Prop
 | .normal,a,w=>K a w
 | _,_,_=>False
theorem wp_onlyN{P:Program}{c:Code}{K:Act→World→Prop}{Q:Exit→Act→World→Prop}{a:Act}{w:World}(h:c.wp P (onlyN K) a w):c.wp P (Exit.then K Q) a w:=
 wp_mono h (fun e a w hh=>by
  cases e<;>first | exact hh | exact hh.elim)
section
variable {P : Program} {ops : Array Oper} {Q : Exit → Act → World → Prop} {md : Region.Mode} {S : World → Prop} {k : Nat}
theorem wpAnyK_takeD{i:Nat}{oi:Oper}{d:Option Tmp}{v:Value}{fuel:Nat}{listed:Array Bool}{a:Act}{w:World}(hi:ops[i]? =some oi)(hd:oi.dst=d)(hst:stepB md ops listed k i=true)(hre:reachB md ops ops.size k i=true)
 (hQ:∀ c a w,Q (.panic c) (a.put d v) w→Q (.panic c) a w) (hD:Down md ops listed) (hS:S w) (hy:YieldsIf P ops S oi v a)
 (h:Down md ops (listed.setIfInBounds i true)→wpAnyK P md ops Q k S fuel (listed.setIfInBounds i true) (a.put d v) w):wpAnyK P md ops Q k S (fuel+1) listed a w:=by
 subst hd;exact wpAnyK_take hi hst hre hQ hD hS hy h
theorem wpAnyK_takeSD{i:Nat}{oi:Oper}{d:Option Tmp}{v:Value}{fuel:Nat}{listed:Array Bool}{a:Act}{w:World}(hi:ops[i]? =some oi)(hd:oi.dst=d)(hst:stepB md ops listed k i=true)(hre:decide (ops.size≤k)=true)
 (hQ:∀ c a w,Q (.panic c) (a.put d v) w→Q (.panic c) a w) (hD:Down md ops listed) (hS:S w) (hy:YieldsIf P ops S oi v a)
 (h:Down md ops (listed.setIfInBounds i true)→wpAnyK P md ops Q k S fuel (listed.setIfInBounds i true) (a.put d v) w):wpAnyK P md ops Q k S (fuel+1) listed a w:=by
 subst hd;exact wpAnyK_takeS hi hst hre hQ hD hS hy h
theorem wpAnyK_pureD{i:Nat}{oi:Oper}{d:Option Tmp}{v:Value}{fuel:Nat}{listed:Array Bool}{a:Act}{w:World}(hi:ops[i]? =some oi)(hd:oi.dst=d)(hst:stepB md ops listed k i=true)
 (hQ:∀ c a w,Q (.panic c) (a.put d v) w→Q (.panic c) a w) (hD:Down md ops listed) (hS:S w) (hy:YieldsIf P ops (fun _=>True) oi v a)
 (h:Down md ops (listed.setIfInBounds i true)→wpAnyK P md ops Q k S fuel (listed.setIfInBounds i true) (a.put d v) w):wpAnyK P md ops Q k S (fuel+1) listed a w:=by
 subst hd;exact wpAnyK_pure hi hst hQ hD hS hy h
end
section
variable {P : Program} {ops : Array Oper} {Q : Exit → Act → World → Prop} {md : Region.Mode} {S : World → Prop} {k : Nat}
theorem qPD{oi:Oper}{v:Value}{listed:Array Bool}{a:Act}{w:World}(i d fuel:Nat)(hi:ops[i]? =some oi)(hD:Down md ops listed)(hS:S w)(h:Down md ops (listed.setIfInBounds i true)→wpAnyK P md ops Q k S fuel (listed.setIfInBounds i true) (a.put (some d) v) w)(hy:∀ w',True→(execOp a.eval oi).run P w'=.ok (.value v) w':=by intro w' _;go_simp;with_reducible rfl)(hd:oi.dst=some d:=by kernel_rfl)(hst:stepB md ops listed k i=true:=by kernel_rfl)(hg:Region.wanted oi (yielded ops a.tmps)=true:=by kernel_rfl)(hQ:∀ c a w,Q (.panic c) (a.put (some d) v) w→Q (.panic c) a w:=by exact fun _ _ _ h=>h):wpAnyK P md ops Q k S (fuel+1) listed a w:=wpAnyK_pureD hi hd hst hQ hD hS (.inl ⟨hg,hy⟩) h
theorem qTD{oi:Oper}{v:Value}{listed:Array Bool}{a:Act}{w:World}(i d fuel:Nat)(hi:ops[i]? =some oi)(hD:Down md ops listed)(hS:S w)(hy:∀ w',S w'→(execOp a.eval oi).run P w'=.ok (.value v) w')(h:Down md ops (listed.setIfInBounds i true)→wpAnyK P md ops Q k S fuel (listed.setIfInBounds i true) (a.put (some d) v) w)(hd:oi.dst=some d:=by kernel_rfl)(hst:stepB md ops listed k i=true:=by kernel_rfl)(hre:reachB md ops ops.size k i=true:=by kernel_rfl)(hg:Region.wanted oi (yielded ops a.tmps)=true:=by kernel_rfl)(hQ:∀ c a w,Q (.panic c) (a.put (some d) v) w→Q (.panic c) a w:=by exact fun _ _ _ h=>h):wpAnyK P md ops Q k S (fuel+1) listed a w:=wpAnyK_takeD hi hd hst hre hQ hD hS (.inl ⟨hg,hy⟩) h
theorem qSD{oi:Oper}{v:Value}{listed:Array Bool}{a:Act}{w:World}(i d fuel:Nat)(hi:ops[i]? =some oi)(hD:Down md ops listed)(hS:S w)(hy:∀ w',S w'→(execOp a.eval oi).run P w'=.ok (.value v) w')(h:Down md ops (listed.setIfInBounds i true)→wpAnyK P md ops Q k S fuel (listed.setIfInBounds i true) (a.put (some d) v) w)(hd:oi.dst=some d:=by kernel_rfl)(hst:stepB md ops listed k i=true:=by kernel_rfl)(hre:decide (ops.size≤k)=true:=by kernel_rfl)(hg:Region.wanted oi (yielded ops a.tmps)=true:=by kernel_rfl)(hQ:∀ c a w,Q (.panic c) (a.put (some d) v) w→Q (.panic c) a w:=by exact fun _ _ _ h=>h):wpAnyK P md ops Q k S (fuel+1) listed a w:=wpAnyK_takeSD hi hd hst hre hQ hD hS (.inl ⟨hg,hy⟩) h
end
open Go.RowKit
theorem kC{w w':World}(h:Below w.heap.size w w'){a:Addr}{v:Value}(c:w.cell? a=some v):w'.cell? a=some v:=kc h c
section
variable {P : Program} {ops : Array Oper} {Q : Exit → Act → World → Prop} {md : Region.Mode} {S : World → Prop} {k : Nat}
theorem rP{oi:Oper}{v:Value}{listed:Array Bool}{a:Act}{w:World}(i d fuel:Nat)(hi:ops[i]? =some oi)(hD:Down md ops listed)(hS:S w)
 (h:Down md ops (listed.setIfInBounds i true)→wpAnyK P md ops Q k S fuel (listed.setIfInBounds i true) (a.put (some d) v) w)
 (hd:oi.dst=some d:=by kernel_rfl) (hst:stepB md ops listed k i=true:=by kernel_rfl) (hg:Region.wanted oi (yielded ops a.tmps)=true:=by kernel_rfl)
 (hy:∀ w',True→(execOp a.eval oi).run P w'=.ok (.value v) w':=by intro w' _;go_simp;with_reducible rfl)
 (hQ:∀ c a w,Q (.panic c) (a.put (some d) v) w→Q (.panic c) a w:=by exact fun _ _ _ h=>h):wpAnyK P md ops Q k S (fuel+1) listed a w:=
 wpAnyK_pureD hi hd hst hQ hD hS (.inl ⟨hg,hy⟩) h
theorem rU{oi:Oper}{listed:Array Bool}{a:Act}{w:World}(i d fuel:Nat)(hi:ops[i]? =some oi)(hD:Down md ops listed)(hS:S w)
 (h:Down md ops (listed.setIfInBounds i true)→wpAnyK P md ops Q k S fuel (listed.setIfInBounds i true) (a.put (some d) undef) w)
 (hd:oi.dst=some d:=by kernel_rfl) (hst:stepB md ops listed k i=true:=by kernel_rfl) (hg:Region.wanted oi (yielded ops a.tmps)=false:=by kernel_rfl)
 (hQ:∀ c a w,Q (.panic c) (a.put (some d) undef) w→Q (.panic c) a w:=by exact fun _ _ _ h=>h):wpAnyK P md ops Q k S (fuel+1) listed a w:=
 wpAnyK_pureD hi hd hst hQ hD hS (.inr ⟨hg,rfl⟩) h
theorem rT{oi:Oper}{v:Value}{listed:Array Bool}{a:Act}{w:World}(i d fuel:Nat)(hi:ops[i]? =some oi)(hD:Down md ops listed)(hS:S w)
 (hy:∀ w',S w'→(execOp a.eval oi).run P w'=.ok (.value v) w')
 (h:Down md ops (listed.setIfInBounds i true)→wpAnyK P md ops Q k S fuel (listed.setIfInBounds i true) (a.put (some d) v) w)
 (hd:oi.dst=some d:=by kernel_rfl) (hst:stepB md ops listed k i=true:=by kernel_rfl) (hre:decide (ops.size≤k)=true:=by kernel_rfl) (hg:Region.wanted oi (yielded ops a.tmps)=true:=by kernel_rfl)
 (hQ:∀ c a w,Q (.panic c) (a.put (some d) v) w→Q (.panic c) a w:=by exact fun _ _ _ h=>h):wpAnyK P md ops Q k S (fuel+1) listed a w:=
 wpAnyK_takeSD hi hd hst hre hQ hD hS (.inl ⟨hg,hy⟩) h
theorem rO{oi:Oper}{listed:Array Bool}{a:Act}{w:World}(i fuel:Nat)(hi:ops[i]? =some oi)(hD:Down md ops listed)
 (h:∀ K:Act→World→Prop,(∀ a' w',S w'→(S w'→Down md ops (listed.setIfInBounds i true)→wpAnyK P md ops Q k S fuel (listed.setIfInBounds i true) a' w')→K a' w')→wpList P ops (EndK K Q) [oi] a w)
 (hr:Region.ready md ops listed=[i]:=by kernel_rfl):wpAnyK P md ops Q k S (fuel+1) listed a w:=wpAnyK_one hr hi hD h
end
set_option maxRecDepth 100000
set_option maxHeartbeats 1000000
def svN:Value→Nat
 | .string s=>num s
 | _=>0
theorem svN_nS(n:Nat):svN (.string (nS n))=n:=num_nS n
theorem gcd_next{p q G:Nat}(h:Nat.gcd p q=G):Nat.gcd q (p%q)=G:=by rw[←h,Nat.gcd_comm p q,Nat.gcd_rec q p,Nat.gcd_comm]
theorem nat_Gcd(x y:Nat)(hx:x<18446744073709551616)(hy:y<18446744073709551616)(w:World):Calls Tryz.prog 276 #[.string (nS x),.string (nS y)] w (Ret (.tuple #[.string (nS (Nat.gcd x y)),.int .i64 0]) w):=by
 have HV1:=Hq (nat_Valid (nS x) (by have:=nS_small_size hx;omega));have HV2:=Hq (nat_Valid (nS y) (by have:=nS_small_size hy;omega));rw[nvalid_nS.2 (lt128_of_lt8 hx)]at HV1;rw[nvalid_nS.2 (lt128_of_lt8 hy)]at HV2;have HX:=Hq hx;have HY:=Hq hy;have HD:=Hq (fun p q (hp:p<18446744073709551616) (hq:q<18446744073709551616) (h0:0<q)=>nat_divided p q hp (lt128_of_lt8 hq) h0);clear hx hy;go_enter Tryz.func276,Tryz.ntmps276;go_wp2_with fail;refine(HV1.out _).mono ?_;rintro e w1 ⟨rfl,rfl⟩;go_wp2_with fail;refine(HV2.out _).mono ?_;rintro e w1 ⟨rfl,rfl⟩;go_wp2;go_loopw [0,1] (fun a b wr=>∃ p q:Nat,a=.string (nS p)∧b=.string (nS q)∧p<18446744073709551616∧q<18446744073709551616∧Nat.gcd p q=Nat.gcd x y∧Below w.heap.size w wr) (fun _ b _=>svN b);case atStart=>exact⟨x,y,rfl,rfl,HX.out,HY.out,rfl,Below.refl _ _⟩
 case round =>
  obtain⟨p,q,rfl,rfl,hp,hq,hg,hbw⟩:=hrel;have HBW:=Hq hbw;have HG:=Hq hg;have HP:=Hq hp;have HQ:=Hq hq;clear hbw hg hp hq;rcases Nat.eq_zero_or_pos q with h0 | h0
  · have HG0:=Hq (show Nat.gcd x y=p from by rw[←HG.out,h0,Nat.gcd_zero_right]);rw[h0,nS_zero];clear h0;go_wp2;go_ret2;exact⟨by rw[HG0.out];rfl,HBW.out⟩
  · have hem:=empty_nS h0;have HML:=Hq (Nat.mod_lt p h0);have HDD:=Hq (HD.out p q HP.out HQ.out h0);clear h0;go_wp2_with fail;refine(HDD.out _).mono ?_;rintro e w2 ⟨rfl,hb2⟩;have HB2:=Hq (HBW.out.trans (hb2.mono HBW.out.size));clear hb2;go_wp2;go_roundw;case rel=>exact⟨q,p%q,rfl,rfl,HQ.out,Nat.lt_trans HML.out HQ.out,gcd_next HG.out,HB2.out⟩
    case measure=>rw[svN_nS,svN_nS];exact HML.out
theorem r01_Common(x y:Nat)(hx:x<256 ^ 128)(hy:y<256 ^ 128)(w:World):Calls Tryz.prog 237 #[.string (nS x),.string (nS y)] w (Ret (.string (nS (Nat.gcd x y))) w):=by
 have HX:=Hq hx;have HY:=Hq hy;have HD:=Hq (fun p q (hp:p<256 ^ 128) (hq:q<256 ^ 128) (h0:0<q)=>r01_Over p q (Nat.le_trans (nS_size_le.2 hp) (by decide)) (Nat.le_trans (nS_size_le.2 hq) (by decide)) h0);clear hx hy;go_enter Tryz.func237,Tryz.ntmps237;go_wp2;go_loopw [0,1] (fun a b wr=>∃ p q:Nat,a=.string (nS p)∧b=.string (nS q)∧p<256 ^ 128∧q<256 ^ 128∧Nat.gcd p q=Nat.gcd x y∧Below w.heap.size w wr) (fun _ b _=>svN b);case atStart=>exact⟨x,y,rfl,rfl,HX.out,HY.out,rfl,Below.refl _ _⟩
 case round =>
  obtain⟨p,q,rfl,rfl,hp,hq,hg,hbw⟩:=hrel;have HBW:=Hq hbw;have HG:=Hq hg;have HP:=Hq hp;have HQ:=Hq hq;clear hbw hg hp hq;rcases Nat.eq_zero_or_pos q with h0 | h0
  · have HG0:=Hq (show Nat.gcd x y=p from by rw[←HG.out,h0,Nat.gcd_zero_right]);rw[h0,nS_zero];clear h0;go_wp2;go_ret;exact⟨by rw[HG0.out];rfl,HBW.out⟩
  · have hem:=empty_nS h0;have HML:=Hq (Nat.mod_lt p h0);have HDD:=Hq (HD.out p q HP.out HQ.out h0);clear h0;go_wp2_with fail;refine(HDD.out _).mono ?_;rintro e w2 ⟨rfl,hb2⟩;have HB2:=Hq (HBW.out.trans (hb2.mono HBW.out.size));clear hb2;go_wp2;go_roundw;case rel=>exact⟨q,p%q,rfl,rfl,HQ.out,Nat.lt_trans HML.out HQ.out,gcd_next HG.out,HB2.out⟩
    case measure=>rw[svN_nS,svN_nS];exact HML.out
theorem rsa_one(w:World):Calls Tryz.prog 277 #[] w (Ret (.string (nS 1)) w):=by
 go_enter Tryz.func277,Tryz.ntmps277;go_wp2_with fail;refine(nat_Of 1 (by decide) _).mono ?_;rintro e w1 ⟨rfl,hb1⟩;have HB1:=Hq hb1;clear hb1;go_wp2;go_ret;exact⟨rfl,HB1.out⟩
theorem rsa_good(m:Nat)(hm:m<18446744073709551616)(hodd:bitB m 0=true)(h8:8<m)(w:World):Calls Tryz.prog 275 #[gV (nS m) (nS 0)] w (Ret (.bool true) w):=by
 have HV:=Hq (nat_Valid (nS m) (by have:=nS_small_size hm;omega));rw[nvalid_nS.2 (lt128_of_lt8 hm)]at HV;have HBT:=Hq (nat_Bit m 0 (lt128_of_lt8 hm) (by omega));rw[hodd]at HBT;have HCM:=Hq (nat_Cmp (nS m) (nS 8) (by have:=nS_small_size hm;omega) (by decide));rw[ncmp_n (lt128_of_lt8 hm) (by decide),show cmpI m 8=1 from by unfold cmpI;rw[if_neg (by omega),if_pos h8]]at HCM;have HO:=Hq (nat_Of 8 (by decide));rw[nS_zero];obtain⟨s,hs⟩:∃ s,nS m=s:=⟨_,rfl⟩;obtain⟨t,ht⟩:∃ t,nS 8=t:=⟨_,rfl⟩;rw[hs]at HV HBT HCM⊢;rw[ht]at HCM;have HO':=Hq (fun w=>show Calls Tryz.prog 96 #[.int .u64 (8:Nat)] w (Ret (.string t) w)from by have:=HO.out w;rw[show bstr (encN 8)=t from ht]at this;exact this);clear hs ht hm hodd h8 HO;unfold gV;go_enter Tryz.func275,Tryz.ntmps275;have HX0:=Hq (Bx2.new w (.string s) (.string ⟨#[]⟩) 24);have HB0:=Hq ((Below.refl w.heap.size w).alloc nlr (.cells #[.string s,.string ⟨#[]⟩] 24));go_wp2;obtain⟨W0,hW0⟩:∃ W0,w.alloc (.cells #[.string s,.string ⟨#[]⟩] 24)=W0:=⟨_,rfl⟩;rw[hW0]at HX0 HB0;try rw[hW0]
 have c0:W0.drew.cell? ⟨w.heap.size,0,none⟩=some (.string s):=HX0.out.c0;have c1:W0.drew.cell? ⟨w.heap.size,1,none⟩=some (.string ⟨#[]⟩):=HX0.out.c1;clear hW0;rename_i K1 hK1;refine wp_onlyN ?_;refine wp_region_K 21 (Below (W0.drew).heap.size (W0.drew)) (by kernel_rfl) ?_;intro hD;refine rP 0 3 20 rfl hD blr ?_;clear hD;intro hD;refine rT 1 4 19 rfl hD blr (by intro w' hS';have e0:=kC hS' c0;have e1:=kC hS' c1;go_simp;with_reducible rfl) ?_;clear hD;intro hD;simp only[Act.put,sqA,sqB,sqC];refine rO 2 18 rfl hD ?_;clear hD;intro K2 hK2;go_wp2_with fail;refine(HV.out _).mono ?_;rintro e w2 ⟨rfl,rfl⟩;have HB2:=Hq (Below.refl W0.drew.heap.size W0.drew);go_wp2;refine hK2 _ _ (by exact HB2.out) ?_;clear hK2;intro hS_1_2 hD;refine rP 3 6 17 rfl hD hS_1_2 ?_;clear hD;intro hD;refine rP 4 7 16 rfl hD hS_1_2 ?_;clear hD;intro hD;refine rT 5 8 15 rfl hD hS_1_2 (by intro w' hS';have e0:=kC hS' c0;have e1:=kC hS' c1;go_simp;with_reducible rfl) ?_;clear hD;intro hD;refine rP 6 9 14 rfl hD hS_1_2 ?_;clear hD;intro hD;refine rP 7 10 13 rfl hD hS_1_2 ?_;clear hD;intro hD;refine rP 8 11 12 rfl hD hS_1_2 ?_;clear hD;intro hD;refine rP 9 12 11 rfl hD hS_1_2 ?_;clear hD;intro hD;refine rT 10 13 10 rfl hD hS_1_2 (by intro w' hS';have e0:=kC hS' c0;have e1:=kC hS' c1;go_simp;with_reducible rfl) ?_;clear hD;intro hD;simp only[Act.put,sqA,sqB,sqC];refine rO 11 9 rfl hD ?_;clear hD;intro K11 hK11;go_wp2_with fail;refine(HBT.out _).mono ?_;rintro e w2 ⟨rfl,rfl⟩;have HB11:=Hq (Below.refl W0.drew.heap.size W0.drew);go_wp2;refine hK11 _ _ (by exact Below.trans hS_1_2 (Below.mono HB11.out (Below.size hS_1_2))) ?_;clear hK11;intro hS_1_11 hD;refine rP 12 15 8 rfl hD hS_1_11 ?_;clear hD;intro hD;refine rP 13 16 7 rfl hD hS_1_11 ?_;clear hD;intro hD;refine rP 14 17 6 rfl hD hS_1_11 ?_;clear hD;intro hD;refine rT 15 18 5 rfl hD hS_1_11 (by intro w' hS';have e0:=kC hS' c0;have e1:=kC hS' c1;go_simp;with_reducible rfl) ?_;clear hD;intro hD;simp only[Act.put,sqA,sqB,sqC];refine rO 16 4 rfl hD ?_;clear hD;intro K16 hK16;go_wp2_with fail;refine(HO'.out _).mono ?_;rintro e w2 ⟨rfl,hb⟩;have HB16:=Hq hb;clear hb;go_wp2;refine hK16 _ _ (by exact Below.trans hS_1_11 (Below.mono HB16.out (Below.size hS_1_11))) ?_;clear hK16;intro hS_1_16 hD;refine rO 17 3 rfl hD ?_;clear hD;intro K17 hK17;go_wp2_with fail;refine(HCM.out _).mono ?_;rintro e w3 ⟨rfl,rfl⟩;have HB17:=Hq (Below.refl w2.heap.size w2);go_wp2;refine hK17 _ _ (by exact Below.trans hS_1_16 (Below.mono HB17.out (Below.size hS_1_16))) ?_;clear hK17;intro hS_1_17 hD;refine rP 18 21 2 rfl hD hS_1_17 ?_;clear hD;intro hD;refine rP 19 22 1 rfl hD hS_1_17 ?_;clear hD;intro hD;simp only[Act.put,sqA,sqB,sqC];refine rO 20 0 rfl hD ?_;clear hD;intro K20 hK20;go_wp2;refine hK20 _ _ (by exact hS_1_17) ?_;clear hK20;intro hS_1_20 hD;refine wpAnyK_done (by kernel_rfl) ?_ 0;clear hD;have HSX:=Hq hS_1_20;refine hK1 _ _ ?_;go_wp2;go_ret;exact⟨rfl,HB0.out.trans (((blr).drew.trans HSX.out).mono HB0.out.size)⟩
end Go.Proofs.YtfbmbledklbfgaaGreat

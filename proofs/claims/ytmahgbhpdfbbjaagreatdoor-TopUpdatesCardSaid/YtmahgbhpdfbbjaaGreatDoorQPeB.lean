import Derived.Test.YtmahgbhpdfbbjaaGreatDoorQGrp
set_option linter.unusedVariables false
set_option linter.unusedSimpArgs false
namespace Go.Proofs.YtmahgbhpdfbbjaaGreatDoor
def invN(x M:Nat):Nat:=((List.range M).find? (fun y=>decide (x * y%M=1))).getD 0
theorem inv_uniq{x M y z:Nat}(hy:y<M)(hz:z<M)(h1:x * y%M=1)(h2:x * z%M=1):y=z:=by
 have e1:x * y * z%M=z:=(by rw[Nat.mul_mod,h1,Nat.one_mul,Nat.mod_mod,Nat.mod_eq_of_lt hz]);have e2:x * y * z=x * z * y:=by rw[Nat.mul_assoc,Nat.mul_comm y z,←Nat.mul_assoc]
 rw[e2,Nat.mul_mod,h2,Nat.one_mul,Nat.mod_mod,Nat.mod_eq_of_lt hy]at e1;exact e1
theorem invN_of{x M y:Nat}(hy:y<M)(h:x * y%M=1):invN x M=y:=by
 unfold invN
 cases hf:(List.range M).find? (fun y=>decide (x * y%M=1))with
 | none =>
  rw[List.find?_eq_none]at hf;have:=hf y (List.mem_range.2 hy);simp[h]at this
 | some z =>
  have h1:=List.find?_some hf;have h2:=List.mem_range.1 (List.mem_of_find?_eq_some hf);simp only[decide_eq_true_eq]at h1;exact inv_uniq h2 hy h1 h
def pp:List (Nat×Nat)→Nat→Nat
 | [],_=>1
 | (b,n)::l,k=>b ^ (n / 2 ^ k) * pp l k
def qq:List (Nat×Nat)→Nat→Nat
 | [],_=>1
 | (b,n)::l,k=>(if bitB n k then b else 1) * qq l k
theorem bit_div(n k:Nat):n / 2 ^ k=2 * (n / 2 ^ (k+1))+(if bitB n k then 1 else 0):=by
 unfold bitB;rw[Nat.pow_succ,←Nat.div_div_eq_div_mul];have:=Nat.mod_two_eq_zero_or_one (n / 2 ^ k);rcases this with h | h<;>rw[h]<;>simp<;>omega
theorem pp_step(l:List (Nat×Nat))(k:Nat):pp l k=pp l (k+1) * pp l (k+1) * qq l k:=by
 induction l with
 | nil=>rfl
 | cons a l ih =>
  obtain⟨b,n⟩:=a;have e:b ^ (n / 2 ^ k)=b ^ (n / 2 ^ (k+1)) * b ^ (n / 2 ^ (k+1)) * (if bitB n k then b else 1):=by
   conv=>lhs;rw[bit_div n k]
   rw[Nat.pow_add,Nat.pow_mul,Nat.pow_two,Nat.mul_pow];split<;>simp
  simp only[pp,qq,e,ih];simp only[Nat.mul_assoc,Nat.mul_left_comm,Nat.mul_comm]
theorem qq_snoc(l:List (Nat×Nat))(b n k:Nat):qq (l++[(b,n)]) k=qq l k * (if bitB n k then b else 1):=by
 induction l with
 | nil=>simp[qq]
 | cons a l ih=>obtain⟨c,m⟩:=a;simp only[List.cons_append,qq,ih,Nat.mul_assoc]
theorem qq_take{l:List (Nat×Nat)}{j b n:Nat}(h:l[j]? =some (b,n))(k:Nat):qq (l.take (j+1)) k=qq (l.take j) k * (if bitB n k then b else 1):=by
 rw[show l.take (j+1)=l.take j++[(b,n)]from by
  obtain⟨h1,h2⟩:=List.getElem?_eq_some_iff.1 h
  rw[List.take_succ_eq_append_getElem h1,h2],qq_snoc]
theorem pp_one{l:List (Nat×Nat)}{k:Nat}(h:∀ x∈l,x.2<2 ^ k):pp l k=1:=by
 induction l with
 | nil=>rfl
 | cons a l ih =>
  obtain⟨b,n⟩:=a;have:=h (b,n) List.mem_cons_self;rw[pp,ih (fun x hx=>h x (List.mem_cons_of_mem _ hx)),Nat.div_eq_of_lt this];rfl
theorem lt_of_blen{n k:Nat}(h:blen n≤k):n<2 ^ k:=by
 unfold blen at h;split at h
 · rename_i h0;subst h0;exact Nat.two_pow_pos k
 · rename_i h0;exact Nat.lt_of_lt_of_le ((Nat.log2_lt h0).1 (Nat.lt_succ_self _)) (Nat.pow_le_pow_right (by omega) h)
def baseN(x:Nat)(neg:Bool)(M:Nat):Nat:=if neg then invN x M else x
set_option maxRecDepth 100000
set_option maxHeartbeats 1000000
open Go.RowKit
def svN:Value→Nat
 | .string s=>num s
 | _=>0
theorem svN_nS(n:Nat):svN (.string (nS n))=n:=num_nS n
theorem gcd_next{p q G:Nat}(h:Nat.gcd p q=G):Nat.gcd q (p%q)=G:=by rw[←h,Nat.gcd_comm p q,Nat.gcd_rec q p,Nat.gcd_comm]
theorem nat_Gcd(x y:Nat)(hx:x<18446744073709551616)(hy:y<18446744073709551616)(w:World):Calls Tryz.prog 105 #[.string (nS x),.string (nS y)] w (Ret (.tuple #[.string (nS (Nat.gcd x y)),.int .i64 0]) w):=by
 have HV1:=Hq (nat_Valid (nS x) (by have:=nS_small_size hx;omega));have HV2:=Hq (nat_Valid (nS y) (by have:=nS_small_size hy;omega));rw[nvalid_nS.2 (lt128_of_lt8 hx)]at HV1;rw[nvalid_nS.2 (lt128_of_lt8 hy)]at HV2;have HX:=Hq hx;have HY:=Hq hy;have HD:=Hq (fun p q (hp:p<18446744073709551616) (hq:q<18446744073709551616) (h0:0<q)=>nat_divided p q hp (lt128_of_lt8 hq) h0);clear hx hy;go_enter Tryz.func105,Tryz.ntmps105;go_wp2_with fail;refine(HV1.out _).mono ?_;rintro e w1 ⟨rfl,rfl⟩;go_wp2_with fail;refine(HV2.out _).mono ?_;rintro e w1 ⟨rfl,rfl⟩;go_wp2;go_loopw [0,1] (fun a b wr=>∃ p q:Nat,a=.string (nS p)∧b=.string (nS q)∧p<18446744073709551616∧q<18446744073709551616∧Nat.gcd p q=Nat.gcd x y∧Below w.heap.size w wr) (fun _ b _=>svN b);case atStart=>exact⟨x,y,rfl,rfl,HX.out,HY.out,rfl,Below.refl _ _⟩
 case round =>
  obtain⟨p,q,rfl,rfl,hp,hq,hg,hbw⟩:=hrel;have HBW:=Hq hbw;have HG:=Hq hg;have HP:=Hq hp;have HQ:=Hq hq;clear hbw hg hp hq;rcases Nat.eq_zero_or_pos q with h0 | h0
  · have HG0:=Hq (show Nat.gcd x y=p from by rw[←HG.out,h0,Nat.gcd_zero_right]);rw[h0,nS_zero];clear h0;go_wp2;go_ret2;exact⟨by rw[HG0.out];rfl,HBW.out⟩
  · have hem:=empty_nS h0;have HML:=Hq (Nat.mod_lt p h0);have HDD:=Hq (HD.out p q HP.out HQ.out h0);clear h0;go_wp2_with fail;refine(HDD.out _).mono ?_;rintro e w2 ⟨rfl,hb2⟩;have HB2:=bTr HBW hb2;clear hb2;go_wp2;go_roundw;case rel=>exact⟨q,p%q,rfl,rfl,HQ.out,Nat.lt_trans HML.out HQ.out,gcd_next HG.out,HB2.out⟩
    case measure=>rw[svN_nS,svN_nS];exact HML.out
theorem rsa_one(w:World):Calls Tryz.prog 98 #[] w (Ret (.string (nS 1)) w):=by
 go_enter Tryz.func98,Tryz.ntmps98;go_wp2_with fail;refine(nat_Of 1 (by decide) _).mono ?_;rintro e w1 ⟨rfl,hb1⟩;have HB1:=Hq hb1;clear hb1;go_wp2;go_ret;exact⟨rfl,HB1.out⟩
theorem rsa_good(m:Nat)(hm:m<18446744073709551616)(hodd:bitB m 0=true)(h8:8<m)(w:World):Calls Tryz.prog 104 #[gV (nS m) (nS 0)] w (Ret (.bool true) w):=by
 have HV:=Hq (nat_Valid (nS m) (by have:=nS_small_size hm;omega));rw[nvalid_nS.2 (lt128_of_lt8 hm)]at HV;have HBT:=Hq (nat_Bit m 0 (lt128_of_lt8 hm) (by omega));rw[hodd]at HBT;have HCM:=Hq (nat_Cmp (nS m) (nS 8) (by have:=nS_small_size hm;omega) (by decide));rw[ncmp_n (lt128_of_lt8 hm) (by decide),show cmpI m 8=1 from by unfold cmpI;rw[if_neg (by omega),if_pos h8]]at HCM;have HO:=Hq (nat_Of 8 (by decide));rw[nS_zero];obtain⟨s,hs⟩:=nm (nS m);obtain⟨t,ht⟩:=nm (nS 8);rw[hs]at HV HBT HCM⊢;rw[ht]at HCM;have HO':=Hq (fun w=>show Calls Tryz.prog 7 #[.int .u64 (8:Nat)] w (Ret (.string t) w)from by have:=HO.out w;rw[show bstr (encN 8)=t from ht]at this;exact this);clear hs ht hm hodd h8 HO;unfold gV;go_enter Tryz.func104,Tryz.ntmps104;have HX0:=Hq (Bx2.new w (.string s) (.string ⟨#[]⟩) 24);have HB0:=Hq ((Below.refl w.heap.size w).alloc nlr (.cells #[.string s,.string ⟨#[]⟩] 24));go_wp2;obtain⟨W0,hW0⟩:=nm (w.alloc (.cells #[.string s,.string ⟨#[]⟩] 24));rw[hW0]at HX0 HB0;try rw[hW0]
 have c0:W0.drew.cell? ⟨w.heap.size,0,none⟩=some (.string s):=HX0.out.c0;have c1:W0.drew.cell? ⟨w.heap.size,1,none⟩=some (.string ⟨#[]⟩):=HX0.out.c1;clear hW0;rename_i K1 hK1;refine wp_onlyN ?_;refine wp_region_K 21 (Below (W0.drew).heap.size (W0.drew)) (by kernel_rfl) ?_;refine rPs 0 3 20 blr ?_;refine rTs 1 4 19 blr (k2 c0 c1) ?_;refine rO 2 18 ?_;intro K2 hK2;go_wp2_with fail;refine(HV.out _).mono ?_;rintro e w2 ⟨rfl,rfl⟩;have HB2:=Hq (Below.refl W0.drew.heap.size W0.drew);go_wp2;refine hK2 _ _ (by exact HB2.out) ?_;clear hK2;intro hS_1_2;refine rPs 3 6 17 hS_1_2 ?_;refine rPs 4 7 16 hS_1_2 ?_;refine rTs 5 8 15 hS_1_2 (k2 c0 c1) ?_;refine rPs 6 9 14 hS_1_2 ?_;refine rPs 7 10 13 hS_1_2 ?_;refine rPs 8 11 12 hS_1_2 ?_;refine rPs 9 12 11 hS_1_2 ?_;refine rTs 10 13 10 hS_1_2 (k2 c0 c1) ?_;refine rO 11 9 ?_;intro K11 hK11;go_wp2_with fail;refine(HBT.out _).mono ?_;rintro e w2 ⟨rfl,rfl⟩;have HB11:=Hq (Below.refl W0.drew.heap.size W0.drew);go_wp2;refine hK11 _ _ (by exact Below.trans hS_1_2 (Below.mono HB11.out (Below.size hS_1_2))) ?_;clear hK11;intro hS_1_11;refine rPs 12 15 8 hS_1_11 ?_;refine rPs 13 16 7 hS_1_11 ?_;refine rPs 14 17 6 hS_1_11 ?_;refine rTs 15 18 5 hS_1_11 (k2 c0 c1) ?_;refine rO 16 4 ?_;intro K16 hK16;go_wp2_with fail;refine(HO'.out _).mono ?_;rintro e w2 ⟨rfl,hb⟩;have HB16:=Hq hb;clear hb;go_wp2;refine hK16 _ _ (by exact Below.trans hS_1_11 (Below.mono HB16.out (Below.size hS_1_11))) ?_;clear hK16;intro hS_1_16;refine rO 17 3 ?_;intro K17 hK17;go_wp2_with fail;refine(HCM.out _).mono ?_;rintro e w3 ⟨rfl,rfl⟩;have HB17:=Hq (Below.refl w2.heap.size w2);go_wp2;refine hK17 _ _ (by exact Below.trans hS_1_16 (Below.mono HB17.out (Below.size hS_1_16))) ?_;clear hK17;intro hS_1_17;refine rPs 18 21 2 hS_1_17 ?_;refine rPs 19 22 1 hS_1_17 ?_;refine rO 20 0 ?_;intro K20 hK20;go_wp2;refine hK20 _ _ (by exact hS_1_17) ?_;clear hK20;intro hS_1_20;refine wDn ?_;have HSX:=Hq hS_1_20;refine hK1 _ _ ?_;go_wp2;go_ret;exact⟨rfl,HB0.out.trans (((blr).drew.trans HSX.out).mono HB0.out.size)⟩
set_option maxRecDepth 100000
set_option maxHeartbeats 4000000
def chkN(m o:Nat):Int:=if o=0 then(if m%2=0∨m≤8 then 13 else 0)else if m≤1∨o=1∨¬ (m - 1)%o=0 then 13 else 0
def chkK(M O:ByteArray):Int:=if (nvalid M&&nvalid O)=true then chkN (num M) (num O)else 3
theorem bit0(m:Nat):bitB m 0=decide (m%2=1):=by
 unfold bitB;rw[Nat.pow_zero,Nat.div_one,Bool.eq_iff_iff,beq_iff_eq,decide_eq_true_eq]
theorem pw_Check_bad(M O:ByteArray)(hM:M.size≤1000)(hO:O.size≤1000)(hv:(nvalid M&&nvalid O)=false)(w:World):Calls Tryz.prog 36 #[gV M O] w (Ret (.int .i64 3) w):=by
 have HV1:=Hq (nat_Valid M (by omega));have HV2:=Hq (nat_Valid O (by omega));obtain⟨s,hs⟩:=nm (M);obtain⟨t,ht⟩:=nm (O);rw[hs]at HV1 hv⊢;rw[ht]at HV2 hv⊢;clear hs ht hM hO;unfold gV
 cases h1:nvalid s with
 | false =>
  rw[h1]at HV1;clear h1 hv;go_enter Tryz.func36,Tryz.ntmps36;have HX0:=Hq (Bx2.new w (.string s) (.string t) 24);have HB0:=Hq ((Below.refl w.heap.size w).alloc nlr (.cells #[.string s,.string t] 24));obtain⟨W0,hW0⟩:=nm (w.alloc (.cells #[.string s,.string t] 24));rw[hW0]at HX0 HB0;have HW0:=Hq hW0;clear hW0;go_wp2_with fail;rw[HW0.out];refine(HV1.out _).mono ?_;rintro e w1 ⟨rfl,rfl⟩;have c0:=HX0.out.c0;have c1:=HX0.out.c1;go_wp2;go_ret;exact⟨rfl,HB0.out⟩
 | true =>
  rw[h1,Bool.true_and]at hv;rw[h1]at HV1;rw[hv]at HV2;clear h1 hv;go_enter Tryz.func36,Tryz.ntmps36;have HX0:=Hq (Bx2.new w (.string s) (.string t) 24);have HB0:=Hq ((Below.refl w.heap.size w).alloc nlr (.cells #[.string s,.string t] 24));obtain⟨W0,hW0⟩:=nm (w.alloc (.cells #[.string s,.string t] 24));rw[hW0]at HX0 HB0;have HW0:=Hq hW0;clear hW0;go_wp2_with fail;rw[HW0.out];refine(HV1.out _).mono ?_;rintro e w1 ⟨rfl,rfl⟩;have c0:=HX0.out.c0;have c1:=HX0.out.c1;go_wp2_with fail;refine(HV2.out _).mono ?_;rintro e w1 ⟨rfl,rfl⟩;go_wp2;go_ret;exact⟨rfl,HB0.out⟩
theorem pw_Check_none(m:Nat)(hm:m<18446744073709551616)(w:World):Calls Tryz.prog 36 #[gV (nS m) (nS 0)] w (Ret (.int .i64 (if m%2=0∨m≤8 then 13 else 0)) w):=by
 have HV1:=Hq (nat_Valid (nS m) (by have:=nS_small_size hm;omega));have HV2:=Hq (nat_Valid (nS 0) (by decide));rw[nvalid_nS.2 (lt128_of_lt8 hm)]at HV1;rw[nvalid_nS.2 (by decide)]at HV2;have HBT:=Hq (nat_Bit m 0 (lt128_of_lt8 hm) (by omega));have HCM:=Hq (nat_Cmp (nS m) (nS 8) (by have:=nS_small_size hm;omega) (by decide));rw[ncmp_n (lt128_of_lt8 hm) (by decide)]at HCM;have HO:=Hq (nat_Of 8 (by decide));rw[nS_zero]at HV2⊢;obtain⟨s,hs⟩:=nm (nS m);obtain⟨u,hu⟩:=nm (nS 8);rw[hs]at HV1 HBT HCM⊢;rw[hu]at HCM;have HO':=Hq (fun w=>show Calls Tryz.prog 7 #[.int .u64 (8:Nat)] w (Ret (.string u) w)from by have:=HO.out w;rw[show bstr (encN 8)=u from hu]at this;exact this);have HTT:=Hq (show (⟨#[]⟩:ByteArray)=⟨#[]⟩from rfl);obtain⟨t,ht⟩:∃ t:ByteArray,⟨#[]⟩=t:=⟨_,rfl⟩;have het:t.toList.isEmpty=true:=by rw[←ht];exact sempty_true rfl
 rw[ht]at HV2⊢;clear hs hu ht HO HTT;unfold gV;by_cases hodd:m%2=0
 · rw[bit0,decide_eq_false (by omega)]at HBT;rw[if_pos (.inl hodd)];clear hodd hm;go_enter Tryz.func36,Tryz.ntmps36;have HX0:=Hq (Bx2.new w (.string s) (.string t) 24);have HB0:=Hq ((Below.refl w.heap.size w).alloc nlr (.cells #[.string s,.string t] 24));obtain⟨W0,hW0⟩:=nm (w.alloc (.cells #[.string s,.string t] 24));rw[hW0]at HX0 HB0;have HW0:=Hq hW0;clear hW0;go_wp2_with fail;rw[HW0.out];refine(HV1.out _).mono ?_;rintro e w1 ⟨rfl,rfl⟩;have c0:=HX0.out.c0;have c1:=HX0.out.c1;go_wp2_with fail;refine(HV2.out _).mono ?_;rintro e w1 ⟨rfl,rfl⟩;go_wp2;have d0:W0.drew.cell? ⟨w.heap.size,0,none⟩=some (.string s):=c0;have d1:W0.drew.cell? ⟨w.heap.size,1,none⟩=some (.string t):=c1;rename_i K4 hK4;refine wp_onlyN ?_;refine wp_region_K 11 (Below (W0.drew).heap.size (W0.drew)) (by kernel_rfl) ?_;refine rPs 0 21 10 blr ?_;refine rTs 1 22 9 blr (k2 d0 d1) ?_;refine rO 2 8 ?_;intro K2 hK2;go_wp2_with fail;refine(HBT.out _).mono ?_;rintro e w2 ⟨rfl,rfl⟩;have HB2:=Hq (Below.refl W0.drew.heap.size W0.drew);go_wp2;refine hK2 _ _ (by exact HB2.out) ?_;clear hK2;intro hS_4_2;refine rPs 3 24 7 hS_4_2 ?_;refine rPs 4 25 6 hS_4_2 ?_;refine rUs 5 26 5 hS_4_2 ?_;refine rUs 6 27 4 hS_4_2 ?_;refine rUs 7 28 3 hS_4_2 ?_;refine rUs 8 29 2 hS_4_2 ?_;refine rUs 9 30 1 hS_4_2 ?_;refine rPs 10 31 0 hS_4_2 ?_;refine wDn ?_;have HSX:=Hq hS_4_2;refine hK4 _ _ ?_;go_wp2;go_ret;exact⟨rfl,HB0.out.trans (((blr).drew.trans HSX.out).mono HB0.out.size)⟩
 · rw[bit0,decide_eq_true (show m%2=1 by omega)]at HBT;have HE:=Hq (show (if m%2=0∨m≤8 then(13:Int)else 0)=if m≤8 then 13 else 0 from by
    by_cases h:m≤8
    · rw[if_pos (.inr h),if_pos h]
    · rw[if_neg (by omega),if_neg h])
   rw[HE.out];by_cases h8:m≤8
   · have hg : cmpI m 8 ≤ 0 := by unfold cmpI; split; · decide
                                  · rw[if_neg (by omega)];decide
     obtain⟨c,hc⟩:=nm (cmpI m 8);rw[hc]at hg HCM;rw[if_pos h8];clear h8 hc hodd hm HE;go_enter Tryz.func36,Tryz.ntmps36;have HX0:=Hq (Bx2.new w (.string s) (.string t) 24);have HB0:=Hq ((Below.refl w.heap.size w).alloc nlr (.cells #[.string s,.string t] 24));obtain⟨W0,hW0⟩:=nm (w.alloc (.cells #[.string s,.string t] 24));rw[hW0]at HX0 HB0;have HW0:=Hq hW0;clear hW0;go_wp2_with fail;rw[HW0.out];refine(HV1.out _).mono ?_;rintro e w1 ⟨rfl,rfl⟩;have c0:=HX0.out.c0;have c1:=HX0.out.c1;go_wp2_with fail;refine(HV2.out _).mono ?_;rintro e w1 ⟨rfl,rfl⟩;go_wp2;have d0:W0.drew.cell? ⟨w.heap.size,0,none⟩=some (.string s):=c0;have d1:W0.drew.cell? ⟨w.heap.size,1,none⟩=some (.string t):=c1;rename_i K4 hK4;refine wp_onlyN ?_;refine wp_region_K 11 (Below (W0.drew).heap.size (W0.drew)) (by kernel_rfl) ?_;refine rPs 0 21 10 blr ?_;refine rTs 1 22 9 blr (k2 d0 d1) ?_;refine rO 2 8 ?_;intro K2 hK2;go_wp2_with fail;refine(HBT.out _).mono ?_;rintro e w2 ⟨rfl,rfl⟩;have HB2:=Hq (Below.refl W0.drew.heap.size W0.drew);go_wp2;refine hK2 _ _ (by exact HB2.out) ?_;clear hK2;intro hS_4_2;refine rPs 3 24 7 hS_4_2 ?_;refine rPs 4 25 6 hS_4_2 ?_;refine rPs 5 26 5 hS_4_2 ?_;refine rTs 6 27 4 hS_4_2 (k2 d0 d1) ?_;refine rO 7 3 ?_;intro K7 hK7;go_wp2_with fail;refine(HO'.out _).mono ?_;rintro e w7 ⟨rfl,hb⟩;have HB7:=Hq hb;clear hb;go_wp2;refine hK7 _ _ (by exact Below.trans hS_4_2 (Below.mono HB7.out (Below.size hS_4_2))) ?_;clear hK7;intro hS_4_7;refine rO 8 2 ?_;intro K8 hK8;go_wp2_with fail;refine(HCM.out _).mono ?_;rintro e w8 ⟨rfl,rfl⟩;have HB8:=Hq (Below.refl w7.heap.size w7);go_wp2;refine hK8 _ _ (by exact Below.trans hS_4_7 (Below.mono HB8.out (Below.size hS_4_7))) ?_;clear hK8;intro hS_4_8;refine rPs 9 30 1 hS_4_8 ?_;refine rPs 10 31 0 hS_4_8 ?_;refine wDn ?_;have HSX:=Hq hS_4_8;refine hK4 _ _ ?_;go_wp2;go_ret;exact⟨rfl,HB0.out.trans (((blr).drew.trans HSX.out).mono HB0.out.size)⟩
   · rw[show cmpI m 8=1 from by unfold cmpI;rw[if_neg (by omega),if_pos (by omega)]]at HCM;rw[if_neg h8];clear h8 hodd hm HE;go_enter Tryz.func36,Tryz.ntmps36;have HX0:=Hq (Bx2.new w (.string s) (.string t) 24);have HB0:=Hq ((Below.refl w.heap.size w).alloc nlr (.cells #[.string s,.string t] 24));obtain⟨W0,hW0⟩:=nm (w.alloc (.cells #[.string s,.string t] 24));rw[hW0]at HX0 HB0;have HW0:=Hq hW0;clear hW0;go_wp2_with fail;rw[HW0.out];refine(HV1.out _).mono ?_;rintro e w1 ⟨rfl,rfl⟩;have c0:=HX0.out.c0;have c1:=HX0.out.c1;go_wp2_with fail;refine(HV2.out _).mono ?_;rintro e w1 ⟨rfl,rfl⟩;go_wp2;have d0:W0.drew.cell? ⟨w.heap.size,0,none⟩=some (.string s):=c0;have d1:W0.drew.cell? ⟨w.heap.size,1,none⟩=some (.string t):=c1;rename_i K4 hK4;refine wp_onlyN ?_;refine wp_region_K 11 (Below (W0.drew).heap.size (W0.drew)) (by kernel_rfl) ?_;refine rPs 0 21 10 blr ?_;refine rTs 1 22 9 blr (k2 d0 d1) ?_;refine rO 2 8 ?_;intro K2 hK2;go_wp2_with fail;refine(HBT.out _).mono ?_;rintro e w2 ⟨rfl,rfl⟩;have HB2:=Hq (Below.refl W0.drew.heap.size W0.drew);go_wp2;refine hK2 _ _ (by exact HB2.out) ?_;clear hK2;intro hS_4_2;refine rPs 3 24 7 hS_4_2 ?_;refine rPs 4 25 6 hS_4_2 ?_;refine rPs 5 26 5 hS_4_2 ?_;refine rTs 6 27 4 hS_4_2 (k2 d0 d1) ?_;refine rO 7 3 ?_;intro K7 hK7;go_wp2_with fail;refine(HO'.out _).mono ?_;rintro e w7 ⟨rfl,hb⟩;have HB7:=Hq hb;clear hb;go_wp2;refine hK7 _ _ (by exact Below.trans hS_4_2 (Below.mono HB7.out (Below.size hS_4_2))) ?_;clear hK7;intro hS_4_7;refine rO 8 2 ?_;intro K8 hK8;go_wp2_with fail;refine(HCM.out _).mono ?_;rintro e w8 ⟨rfl,rfl⟩;have HB8:=Hq (Below.refl w7.heap.size w7);go_wp2;refine hK8 _ _ (by exact Below.trans hS_4_7 (Below.mono HB8.out (Below.size hS_4_7))) ?_;clear hK8;intro hS_4_8;refine rPs 9 30 1 hS_4_8 ?_;refine rPs 10 31 0 hS_4_8 ?_;refine wDn ?_;have HSX:=Hq hS_4_8;refine hK4 _ _ ?_;go_wp2;go_ret;exact⟨rfl,HB0.out.trans (((blr).drew.trans HSX.out).mono HB0.out.size)⟩
end Go.Proofs.YtmahgbhpdfbbjaaGreatDoor

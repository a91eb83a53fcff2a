import Derived.Test.YtmahgbhpdfbbjaaGreatDoorQMrC
set_option linter.unusedVariables false
set_option linter.unusedSimpArgs false
namespace Go.Proofs.YtmahgbhpdfbbjaaGreatDoor
set_option maxRecDepth 100000
set_option maxHeartbeats 2000000
open Go.RowKit
theorem top_has(l:List ByteArray)(A:Option Addr)(n c:Nat)(u:ByteArray)(w:World)(hs:SlN w A n c l):Calls Tryz.prog 10 #[.slice A n c,.string u] w (Ret (.bool (memB l u)) w):=by
 have HS:=Hq hs;have HLEN:=Hq hs.1;have hc1:=hs.2.1;have hc2:=hs.2.2.1;obtain⟨R,hR⟩:=nm (memB l u);rw[hR];have HR:=Hq hR;clear hs hR;go_enter Tryz.func10,Tryz.ntmps10;go_wp2;go_loopw [5] (fun i wr=>∃ k:Nat,k≤n∧i=.int .i64 k∧(∀(j:Nat) x,j<k→l[j]? =some x→x≠u)∧Below w.heap.size w wr) (fun i _=>n - (intOf i).toNat);case atStart=>exact⟨0,Nat.zero_le _,rfl,fun j x h=>absurd h (Nat.not_lt_zero _),Below.refl _ _⟩
 case round =>
  obtain⟨k,hk,rfl,hall,hbb⟩:=hrel;have HB:=Hq hbb;have HALL:=Hq hall;have hs1:=HS.out.kept hbb nlr;clear hall hbb;by_cases hlt:k<n
  · obtain⟨b,o,rfl⟩:=hs1.head (by omega);obtain⟨x,hx⟩:∃ x,l[k]? =some x:=⟨_,List.getElem?_eq_getElem (by rw[HLEN.out];exact hlt)⟩;have c0:wr.cell? ⟨b,o+k,none⟩=some (.string x):=hs1.get? k hx;have HX:=Hq hx;clear hs1 hx
    cases hq:(x.toList==u.toList)with
    | true =>
     have HRR:=Hq (show R=true from by rw[←HR.out,memB_iff,←str_eq hq];exact List.mem_of_getElem? HX.out);go_wp2;go_ret;exact⟨by rw[HRR.out];rfl,HB.out⟩
    | false =>
     have HNE:=Hq (str_ne hq);go_wp2;go_roundw;case rel =>
      refine⟨k+1,by omega,by go_num,fun j y hj hy=>?_,HB.out⟩;rcases Nat.lt_or_ge j k with h | h
      · exact HALL.out j y h hy
      · obtain rfl:j=k:=by omega
        rw[HX.out]at hy;cases hy;exact HNE.out
     case measure=>simp[intOf];omega
  · obtain rfl:k=n:=by omega
    have HRR:=Hq (show R=false from by
     rw[←HR.out,memB_no];intro h;obtain⟨j,hj⟩:=List.getElem?_of_mem h
     exact HALL.out j u (by have:=(List.getElem?_eq_some_iff.1 hj).1;have:=HLEN.out;omega) hj rfl)
    go_wp2;go_ret;exact⟨by rw[HRR.out];rfl,HB.out⟩
set_option maxRecDepth 100000
set_option maxHeartbeats 4000000
def RetZ(w:World)(e:Ending)(w':World):Prop:=∃ z:Int,e=.returned (.int .i64 z)∧Below w.heap.size w w'
def RetBZ(w:World)(e:Ending)(w':World):Prop:=∃(b:Bool) (z:Int),e=.returned (.tuple #[.bool b,.int .i64 z])∧Below w.heap.size w w'
theorem prime_SafeT(s:ByteArray)(hv:nvalid s=true)(h8:s.size≤8)(w:World)(ht:TabAt w):Calls Tryz.prog 94 #[.string s] w (RetBZ w):=by
 obtain⟨n,hn,hs⟩:∃ n,n<18446744073709551616∧s=nS n:=⟨num s,num_small h8,nS_num hv⟩;have HS:=Hq (prime_small_n n hn);rw[←hs]at HS;have HI:=Hq (fun w ht=>prime_is_n n hn w ht);have HI2:=Hq (fun w ht=>prime_is_n ((n - 1) / 2) (by omega) w ht);have HT:=Hq ht;have HN:=Hq (show isN n=true→2≤n from fun h=>by
  rcases Nat.lt_or_ge n 2 with h' | h'
  · rw[isN_lt h']at h;cases h
  · exact h')
 obtain⟨b,hb⟩:=nm (isN n);rw[hb]at HI HN;have HN8:=Hq hn;clear hs ht hb hn;go_enter Tryz.func94,Tryz.ntmps94;go_wp2_with fail;refine(HS.out _).mono ?_;rintro e w1 ⟨rfl,rfl⟩;go_wp2_with fail;refine(HI.out _ HT.out).mono ?_;rintro e w1 ⟨rfl,hb1⟩;have HB1:=Hq hb1;have HT1:=Hq (HT.out.kept hb1 nlr);clear hb1
 cases b with
 | false =>
  go_wp2;go_ret2;exact⟨false,0,rfl,HB1.out⟩
 | true =>
  obtain⟨X,hX⟩:=nm (n - 1);obtain⟨Y,hY⟩:=nm (X / 2);have h2:=HN.out rfl;have h8:=HN8.out;have e1:(n:Int) - 1=(X:Int):=by omega
  have e2:(X:Int) / 2=(Y:Int):=by omega
  have hwX:IntKind.u64.wrap (X:Int)=(X:Int):=u64_wrap X (by omega);have hwY:IntKind.u64.wrap (Y:Int)=(Y:Int):=u64_wrap Y (by omega);rw[hX,hY]at HI2;clear HN HN8 h2 h8 hX hY;go_wp2_with fail;refine(HI2.out _ HT1.out).mono ?_;rintro e w2 ⟨rfl,hb2⟩;have HB2:=bTr HB1 hb2;clear hb2;go_wp2;go_ret2;exact⟨_,0,rfl,HB2.out⟩
theorem rsa_primes(P Q:ByteArray)(w:World):Calls Tryz.prog 65 #[.agg #[.string P,.string Q]] w (Ret (.agg #[.string P,.string Q]) w):=by
 go_enter Tryz.func65,Tryz.ntmps65;go_wp2;refine bodyPost_ret (v:=.agg #[.string P,.string Q]) ?_ rfl ⟨rfl,((blr).alloc nlr _).alloc (by simp) _⟩;simp[results,Tryz.results65,go_sem]
theorem below_setCell1{B:Nat}{w W:World}(h:Below B w W){C k:Nat}(hC:B≤C)(v:Value):Below B w (W.setCell ⟨C,k,none⟩ v):=Below.setCell h hC v
theorem rsa_safe(P Q:ByteArray)(vP:nvalid P=true)(vQ:nvalid Q=true)(hP:P.size≤8)(hQ:Q.size≤8)(w:World)(ht:TabAt w):Calls Tryz.prog 57 #[.agg #[.string P,.string Q]] w (RetZ w):=by
 have HT:=Hq ht;have HSP:=Hq (fun W ht=>prime_SafeT P vP hP W ht);have HSQ:=Hq (fun W ht=>prime_SafeT Q vQ hQ W ht);have hx0:=Bx2.new w (.string P) (.string Q) 29;have hb0:Below w.heap.size w (w.alloc (.cells #[.string P,.string Q] 29)):=(blr).alloc nlr _;obtain⟨W0,hW0⟩:=nm (w.alloc (.cells #[.string P,.string Q] 29));rw[hW0]at hx0 hb0;have HX0:=Hq hx0;have HB0:=Hq hb0;have c0:=hx0.c0;have c1:=hx0.c1;clear ht hx0 hb0 vP vQ hP hQ;go_enter Tryz.func57,Tryz.ntmps57;go_wp2_with fail;try rw[hW0]
 clear hW0;refine(rsa_primes P Q W0).mono ?_;rintro e w1 ⟨rfl,hb⟩;have HX1:=Hq (HX0.out.next hb);have HB1:=bTr HB0 hb;clear hb c0 c1;go_upto_region 3 with(fail)
 obtain⟨W3,hW3⟩:=nm ((w1.alloc (.cells #[.string P,.string Q] 125)).alloc (.cells #[.bool false,.bool false] 158));have h3:Bx2 W3 w1.heap.size (.string P) (.string Q) 125:=by rw[←hW3];exact(Bx2.new w1 _ _ _).next ((blr).alloc nlr _)
 have h4:Bx2 W3 (w1.heap.size+1) (.bool false) (.bool false) 158:=(by have:=Bx2.new (w1.alloc (.cells #[.string P,.string Q] 125)) (.bool false) (.bool false) 158;rw[World.size_alloc,hW3]at this;exact this);have hb3:Below w1.heap.size w1 W3:=by rw[←hW3];exact((blr).alloc nlr _).alloc (by simp) _
 have HX3:=Hq (HX1.out.next hb3);have HB3:=bTr HB1 hb3;have H3:=Hq h3;have H4:=Hq h4;rw[hW3];clear hW3 h3 h4 hb3;go_wp2;go_loopw [9] (fun i wr=>∃ k:Nat,k≤2∧i=.int .i64 k∧∃ b0 b1:Bool,Bx2 wr w.heap.size (.string P) (.string Q) 29∧Bx2 wr w1.heap.size (.string P) (.string Q) 125∧Bx2 wr (w1.heap.size+1) (.bool b0) (.bool b1) 158∧Below w.heap.size w wr) (fun i _=>2 - (intOf i).toNat);case atStart=>exact⟨0,by omega,rfl,false,false,HX3.out,H3.out,H4.out,HB3.out⟩
 case round =>
  obtain⟨k,hk,rfl,b0,b1,x0,x3,x4,hbb⟩:=hrel;have hlt1:=HB1.out.size;have h3s:=x3.lt;have HTR:=Hq (HT.out.kept hbb nlr);have HY0:=Hq x0;have HY3:=Hq x3;have HY4:=Hq x4;have HBB:=Hq hbb;clear hbb;rcases(show k=0∨k=1∨k=2 from by omega)with rfl | rfl | rfl
  · have e0:=x3.c0;clear x0 x3 x4 h3s;go_wp2_with fail;refine(HSP.out _ HTR.out).mono ?_;rintro e w5 ⟨b,z,rfl,hb⟩;have HZ0:=Hq (HY0.out.next hb);have HZ3:=Hq (HY3.out.next hb);have hz4:=HY4.out.next hb;have HZ4:=Hq hz4;have HB5:=bTr HBB hb;have q0:=hz4.c0;have f0:=hz4.f0;clear hb e0 hz4;by_cases hz:z=0
    · subst hz;go_wp2;go_roundw;case rel=>exact⟨1,by omega,by go_num,b,b1,HZ0.out.other (by omega) _,HZ3.out.other (by omega) _,block_setCell HZ4.out _,below_setCell1 HB5.out (by omega) _⟩
      case measure=>simp[intOf]
    · have hzb:(z != 0)=true:=by rw[bne_iff_ne];exact hz
      clear hz;go_wp2;go_ret;exact⟨z,rfl,below_setCell1 HB5.out (by omega) _⟩
  · have e0:=x3.c1;clear x0 x3 x4 h3s;go_wp2_with fail;refine(HSQ.out _ HTR.out).mono ?_;rintro e w5 ⟨b,z,rfl,hb⟩;have HZ0:=Hq (HY0.out.next hb);have HZ3:=Hq (HY3.out.next hb);have hz4:=HY4.out.next hb;have HZ4:=Hq hz4;have HB5:=bTr HBB hb;have q0:=hz4.c1;have f0:=hz4.f1;clear hb e0 hz4;by_cases hz:z=0
    · subst hz;go_wp2;go_roundw;case rel=>exact⟨2,by omega,by go_num,b0,b,HZ0.out.other (by omega) _,HZ3.out.other (by omega) _,block_setCell HZ4.out _,below_setCell1 HB5.out (by omega) _⟩
      case measure=>simp[intOf]
    · have hzb:(z != 0)=true:=by rw[bne_iff_ne];exact hz
      clear hz;go_wp2;go_ret;exact⟨z,rfl,below_setCell1 HB5.out (by omega) _⟩
  · have q0:=x4.c0;have q1:=x4.c1;have c0:=x0.c0;have c1:=x0.c1;clear x0 x3 x4 h3s
    cases b0 with
    | false =>
     go_wp2;go_ret;exact⟨12,rfl,HBB.out⟩
    | true =>
     cases b1 with
     | false =>
      go_wp2;go_ret;exact⟨12,rfl,HBB.out⟩
     | true =>
      cases hq:(P.toList==Q.toList)with
      | true =>
       go_wp2;go_ret;exact⟨12,rfl,HBB.out⟩
      | false =>
       go_wp2;go_ret;exact⟨0,rfl,HBB.out⟩
set_option maxRecDepth 100000
set_option maxHeartbeats 2000000
def RetKn(w:World)(e:Ending)(w':World):Prop:=∃ k:Nat,k<18446744073709551616∧e=.returned (.string (nS k))∧Below w.heap.size w w'
theorem rsa_half(n:Nat)(hn:n<18446744073709551616)(w:World):Calls Tryz.prog 59 #[.string (nS n)] w (RetKn w):=by
 have HO:=Hq rsa_one;have HO2:=Hq (nat_Of 2 (by decide));rw[show bstr (encN 2)=nS 2 from rfl]at HO2;have HSB:=Hq (show ∃(m:Nat) (z:Int),m<18446744073709551616∧∀ w,Calls Tryz.prog 67 #[.string (nS n),.string (nS 1)] w (Ret (.tuple #[.string (nS m),.int .i64 z]) w)from by
  rcases Nat.lt_or_ge n 1 with h | h
  · exact⟨0,2,by decide,fun w=>(nat_Sub_less n 1 (lt128_of_lt8 hn) (by decide) h w).mono (by rintro e w1 ⟨rfl,rfl⟩;exact⟨by rw[nS_zero],Below.refl _ _⟩)⟩
  · exact⟨n - 1,0,by omega,fun w=>nat_Sub_ge n 1 (lt128_of_lt8 hn) (by decide) h w⟩)
 obtain⟨m,z,hm,hsb⟩:=HSB.out;have HS:=Hq hsb;have HD:=Hq (fun w=>nat_DivMod m 2 hm (by decide) (by decide) w);have HM:=Hq (show m / 2<18446744073709551616 from by omega);obtain⟨s,hs⟩:=nm (nS n);obtain⟨o,ho⟩:=nm (nS 1);obtain⟨t,ht⟩:=nm (nS 2);obtain⟨ms,hms⟩:=nm (nS m);obtain⟨q,hq⟩:=nm (nS (m / 2));obtain⟨r,hr⟩:=nm (nS (m%2));rw[hs,ho,hms]at HS;rw[ho]at HO;rw[ht]at HO2;rw[hms,ht,hq,hr]at HD;have HQ:=Hq hq;rw[hs];clear hs ho ht hms hq hr hn hm hsb HSB;go_enter Tryz.func59,Tryz.ntmps59;go_wp2_with fail;refine(show Calls _ _ _ _ _ from HO.out _).mono ?_;rintro e w1 ⟨rfl,hb⟩;have HB1:=Hq hb;clear hb;go_wp2_with fail;refine(show Calls _ _ _ _ _ from HS.out _).mono ?_;rintro e w2 ⟨rfl,hb⟩;have HB2:=bTr HB1 hb;clear hb;go_wp2_with fail;refine(show Calls _ _ _ _ _ from HO2.out _).mono ?_;rintro e w3 ⟨rfl,hb⟩;have HB3:=bTr HB2 hb;clear hb;go_wp2_with fail;refine(show Calls _ _ _ _ _ from HD.out _).mono ?_;rintro e w4 ⟨rfl,hb⟩;have HB4:=bTr HB3 hb;clear hb;go_wp2;go_ret;exact⟨_,HM.out,by rw[HQ.out];rfl,HB4.out⟩
def RetO(w:World)(e:Ending)(w':World):Prop:=∃(s:ByteArray) (z:Int),(z=0→nvalid s=true)∧e=.returned (.tuple #[.string s,.int .i64 z])∧Below w.heap.size w w'
theorem rsa_Order(P Q:ByteArray)(hP:P.size≤8)(hQ:Q.size≤8)(w:World)(ht:TabAt w):Calls Tryz.prog 29 #[.agg #[.string P,.string Q]] w (RetO w):=by
 have HT:=Hq ht;have HVP:=Hq (nat_Valid P (by omega));have HVQ:=Hq (nat_Valid Q (by omega));have hx0:=Bx2.new w (.string P) (.string Q) 29;have hb0:Below w.heap.size w (w.alloc (.cells #[.string P,.string Q] 29)):=(blr).alloc nlr _;obtain⟨W0,hW0⟩:=nm (w.alloc (.cells #[.string P,.string Q] 29));rw[hW0]at hx0 hb0;have HX0:=Hq hx0;have HB0:=Hq hb0;have c0:=hx0.c0;have c1:=hx0.c1;have HSZ:=Hq (And.intro hP hQ);clear ht hx0 hb0 hP hQ;go_enter Tryz.func29,Tryz.ntmps29;go_wp2_with fail;try rw[hW0]
 clear hW0;refine(show Calls _ _ _ _ _ from HVP.out _).mono ?_;rintro e w1 ⟨rfl,rfl⟩
 cases vP:nvalid P with
 | false =>
  clear vP;go_wp2;go_ret2;exact⟨_,3,(fun h=>by cases h),rfl,HB0.out⟩
 | true =>
  have VP:=Hq vP;clear vP;go_wp2_with fail;refine(show Calls _ _ _ _ _ from HVQ.out _).mono ?_;rintro e w1 ⟨rfl,rfl⟩
  cases vQ:nvalid Q with
  | false =>
   clear vQ;go_wp2;go_ret2;exact⟨_,3,(fun h=>by cases h),rfl,HB0.out⟩
  | true =>
   have VQ:=Hq vQ;clear vQ;go_wp2_with fail;refine(rsa_safe P Q VP.out VQ.out HSZ.out.1 HSZ.out.2 _ (HT.out.kept HB0.out nlr)).mono ?_;rintro e w2 ⟨z,rfl,hb⟩;have HX2:=Hq (HX0.out.next hb);have HB2:=bTr HB0 hb;clear hb c0 c1;by_cases hz:z=0
   · subst hz;go_wp2;obtain⟨wd,hwd⟩:=nm (w2.drew);have hbd:Below w2.heap.size w2 wd:=by rw[←hwd];exact(blr).drew
     have HXD:=Hq (HX2.out.next hbd);have HBD:=bTr HB2 hbd;clear hbd;have HH1:=Hq (fun w=>show Calls Tryz.prog 59 #[.string P] w (RetKn w)from by rw[nS_num VP.out];exact rsa_half (num P) (num_small HSZ.out.1) w);have HH2:=Hq (fun w=>show Calls Tryz.prog 59 #[.string Q] w (RetKn w)from by rw[nS_num VQ.out];exact rsa_half (num Q) (num_small HSZ.out.2) w);have c0:=HXD.out.c0;have c1:=HXD.out.c1;refine wp_region_K 11 (Below (wd).heap.size (wd)) (by kernel_rfl) ?_;rw[hwd];refine rPs 0 20 10 blr ?_;refine rTs 1 21 9 blr (fun _ h=>And.intro (kC h c0) (kC h c1)) ?_;refine rPs 3 23 8 blr ?_;refine rTs 4 24 7 blr (fun _ h=>And.intro (kC h c0) (kC h c1)) ?_;refine rO 2 6 ?_;intro K2 hK2;go_wp2_with fail;refine(show Calls _ _ _ _ _ from HH1.out _).mono ?_;rintro ev w3 ⟨k1,hk1,rfl,hb⟩;have HB2:=Hq hb;have HK1:=Hq hk1;clear hb hk1;go_wp2;refine hK2 _ _ (by exact HB2.out) ?_;clear hK2;intro hS_6_2;refine rO 5 5 ?_;intro K5 hK5;go_wp2_with fail;refine(show Calls _ _ _ _ _ from HH2.out _).mono ?_;rintro ev w4 ⟨k2,hk2,rfl,hb⟩;have HB5:=Hq hb;have HK2:=Hq hk2;clear hb hk2;go_wp2;refine hK5 _ _ (by exact Below.trans hS_6_2 (Below.mono HB5.out (Below.size hS_6_2))) ?_;clear hK5;intro hS_6_5;refine rO 6 4 ?_;intro K6 hK6;have HML:=Hq (fun w=>nat_MulA k1 k2 (lt128_of_lt8 HK1.out) (lt128_of_lt8 HK2.out) w);have hfit:k1 * k2<256 ^ 128:=Nat.lt_of_lt_of_le (Nat.mul_lt_mul'' HK1.out HK2.out) (by decide +kernel);rw[show fitR (k1 * k2)=.tuple #[.string (nS (k1 * k2)),.int .i64 0]from if_pos hfit]at HML;have HVV:=Hq (nvalid_nS.2 hfit);obtain⟨s1,hs1⟩:=nm (nS k1);obtain⟨s2,hs2⟩:=nm (nS k2);obtain⟨s3,hs3⟩:=nm (nS (k1 * k2));rw[hs3]at HVV;rw[hs1,hs2,hs3]at HML;rw[hs1,hs2];clear hfit hs1 hs2 hs3;go_wp2_with fail;refine(show Calls _ _ _ _ _ from HML.out _).mono ?_;rintro ev w5 ⟨rfl,hb⟩;have HB6:=Hq hb;clear hb;go_wp2;refine hK6 _ _ (by exact Below.trans hS_6_5 (Below.mono HB6.out (Below.size hS_6_5))) ?_;clear hK6;intro hS_6_6;refine rPs 7 27 3 hS_6_6 ?_;refine rPs 8 28 2 hS_6_6 ?_;refine rO 9 1 ?_;intro K9 hK9;go_wp2;refine hK9 _ _ (by exact hS_6_6) ?_;clear hK9;intro hS_6_9;refine rO 10 0 ?_;intro K10 hK10;go_wp2;refine hK10 _ _ (by exact hS_6_9) ?_;clear hK10;intro hS_6_10;refine wDn ?_;go_wp2;go_ret2;exact⟨s3,0,(fun _=>HVV.out),rfl,HBD.out.trans ((HB2.out.trans ((HB5.out.trans (HB6.out.mono HB5.out.size)).mono HB2.out.size)).mono HBD.out.size)⟩
   · have hzb:(z != 0)=true:=by rw[bne_iff_ne];exact hz
     have HZ:=Hq hz;clear hz;go_wp2;go_ret2;exact⟨_,z,(fun h=>absurd h HZ.out),rfl,HB2.out⟩
set_option maxRecDepth 100000
def smX(s:ByteArray):Prop:=nvalid s=true∧s.size≤8
theorem prime_small_bad(s:ByteArray)(hs:s.size≤9223372036854775807)(h:¬ smX s)(w:World):Calls Tryz.prog 60 #[.string s] w (fun e w'=>∃ z:Int,z≠0∧e=.returned (.tuple #[.int .u64 0,.int .i64 z])∧w=w'):=by
 have HV:=Hq (nat_Valid s hs);have HS:=Hq (fun hv:nvalid s=true=>nat_Small_no s hs (.inr ⟨hv,Nat.lt_of_not_le fun a=>h ⟨hv,a⟩⟩));clear h hs;go_enter Tryz.func60,Tryz.ntmps60;go_wp2_with fail;refine(show Calls _ _ _ _ _ from HV.out _).mono ?_;rintro e w1 ⟨rfl,rfl⟩
 cases hv:nvalid s with
 | false =>
  clear hv;go_wp2;go_ret2;exact⟨3,by decide,rfl,rfl⟩
 | true =>
  have HS2:=Hq (HS.out hv);clear hv;go_wp2_with fail;refine(show Calls _ _ _ _ _ from HS2.out _).mono ?_;rintro e w1 ⟨rfl,rfl⟩;go_wp2;go_ret2;exact⟨5,by decide,rfl,rfl⟩
theorem prime_Is_bad(s:ByteArray)(hs:s.size≤9223372036854775807)(h:¬ smX s)(w:World):Calls Tryz.prog 31 #[.string s] w (fun e w'=>∃ z:Int,e=.returned (.tuple #[.bool false,.int .i64 z])∧Below w.heap.size w w'):=by
 have HS:=Hq (prime_small_bad s hs h);clear h hs;go_enter Tryz.func31,Tryz.ntmps31;go_wp2_with fail;refine(show Calls _ _ _ _ _ from HS.out _).mono ?_;rintro e w1 ⟨z,hz,rfl,rfl⟩;have hzb:(z==0)=false:=by rw[beq_eq_false_iff_ne];exact hz
 clear hz;go_wp2;go_ret2;exact⟨z,rfl,Below.refl _ _⟩
theorem prime_Is_good(s:ByteArray)(h:smX s)(w:World)(ht:TabAt w):Calls Tryz.prog 31 #[.string s] w (Ret (.tuple #[.bool (isN (num s)),.int .i64 0]) w):=by
 have:=prime_Is_t (num s) (num_small h.2) (isN (num s)) (fun w ht=>prime_is_n (num s) (num_small h.2) w ht) w ht;rwa[←nS_num h.1]at this
theorem small_bad(s:ByteArray)(hs:s.size≤9223372036854775807)(h:¬ smX s)(w:World):Calls Tryz.prog 30 #[.string s] w (RetQ (.tuple #[.int .u64 0,.bool false]) w):=by
 refine nat_Small_no s hs ?_ w
 cases hv:nvalid s with
 | false=>exact .inl rfl
 | true=>exact .inr ⟨rfl,Nat.lt_of_not_le fun a=>h ⟨hv,a⟩⟩
theorem SlN.takeT{w:World}{A:Option Addr}{n c:Nat}{l:List ByteArray}(h:SlN w A n c l)(k:Nat)(hk:k≤n):SlN w A k c (l.take k):=by
 obtain⟨h1,h2,h3,b,o,h4,h5⟩:=h;refine⟨by rw[List.length_take];omega,by omega,h3,b,o,fun h=>h4 (by omega),fun j s hj=>?_⟩;rw[List.getElem?_take]at hj;split at hj
 · exact h5 j s hj
 · cases hj
end Go.Proofs.YtmahgbhpdfbbjaaGreatDoor

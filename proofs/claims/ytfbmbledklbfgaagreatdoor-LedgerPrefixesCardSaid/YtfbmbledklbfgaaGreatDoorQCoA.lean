import Derived.Test.YtfbmbledklbfgaaGreatDoorQPeL
import Derived.Lib.ConvBytes
set_option linter.unusedVariables false
set_option linter.unusedSimpArgs false
namespace Go.Proofs.YtfbmbledklbfgaaGreatDoor
set_option maxRecDepth 100000
set_option maxHeartbeats 1000000
open Go.RowKit
def svN:Value→Nat
 | .string s=>num s
 | _=>0
theorem svN_nS(n:Nat):svN (.string (nS n))=n:=num_nS n
theorem gcd_next{p q G:Nat}(h:Nat.gcd p q=G):Nat.gcd q (p%q)=G:=by rw[←h,Nat.gcd_comm p q,Nat.gcd_rec q p,Nat.gcd_comm]
theorem nat_Gcd(x y:Nat)(hx:x<18446744073709551616)(hy:y<18446744073709551616)(w:World):Calls Tryz.prog 153 #[.string (nS x),.string (nS y)] w (Ret (.tuple #[.string (nS (Nat.gcd x y)),.int .i64 0]) w):=by
 have HV1:=Hq (nat_Valid (nS x) (by have:=nS_small_size hx;omega));have HV2:=Hq (nat_Valid (nS y) (by have:=nS_small_size hy;omega));rw[nvalid_nS.2 (lt128_of_lt8 hx)]at HV1;rw[nvalid_nS.2 (lt128_of_lt8 hy)]at HV2;have HX:=Hq hx;have HY:=Hq hy;have HD:=Hq (fun p q (hp:p<18446744073709551616) (hq:q<18446744073709551616) (h0:0<q)=>nat_divided p q hp (lt128_of_lt8 hq) h0);clear hx hy;go_enter Tryz.func153,Tryz.ntmps153;go_wp2_with fail;refine(HV1.out _).mono ?_;rintro e w1 ⟨rfl,rfl⟩;go_wp2_with fail;refine(HV2.out _).mono ?_;rintro e w1 ⟨rfl,rfl⟩;go_wp2;go_loopw [0,1] (fun a b wr=>∃ p q:Nat,a=.string (nS p)∧b=.string (nS q)∧p<18446744073709551616∧q<18446744073709551616∧Nat.gcd p q=Nat.gcd x y∧Below w.heap.size w wr) (fun _ b _=>svN b);case atStart=>exact⟨x,y,rfl,rfl,HX.out,HY.out,rfl,Below.refl _ _⟩
 case round =>
  obtain⟨p,q,rfl,rfl,hp,hq,hg,hbw⟩:=hrel;have HBW:=Hq hbw;have HG:=Hq hg;have HP:=Hq hp;have HQ:=Hq hq;clear hbw hg hp hq;rcases Nat.eq_zero_or_pos q with h0 | h0
  · have HG0:=Hq (show Nat.gcd x y=p from by rw[←HG.out,h0,Nat.gcd_zero_right]);rw[h0,nS_zero];clear h0;go_wp2;go_ret2;exact⟨by rw[HG0.out];rfl,HBW.out⟩
  · have hem:=empty_nS h0;have HML:=Hq (Nat.mod_lt p h0);have HDD:=Hq (HD.out p q HP.out HQ.out h0);clear h0;go_wp2_with fail;refine(HDD.out _).mono ?_;rintro e w2 ⟨rfl,hb2⟩;have HB2:=Hq (HBW.out.trans (hb2.mono HBW.out.size));clear hb2;go_wp2;go_roundw;case rel=>exact⟨q,p%q,rfl,rfl,HQ.out,Nat.lt_trans HML.out HQ.out,gcd_next HG.out,HB2.out⟩
    case measure=>rw[svN_nS,svN_nS];exact HML.out
theorem rsa_one(w:World):Calls Tryz.prog 154 #[] w (Ret (.string (nS 1)) w):=by
 go_enter Tryz.func154,Tryz.ntmps154;go_wp2_with fail;refine(nat_Of 1 (by decide) _).mono ?_;rintro e w1 ⟨rfl,hb1⟩;have HB1:=Hq hb1;clear hb1;go_wp2;go_ret;exact⟨rfl,HB1.out⟩
theorem rsa_good(m:Nat)(hm:m<18446744073709551616)(hodd:bitB m 0=true)(h8:8<m)(w:World):Calls Tryz.prog 152 #[gV (nS m) (nS 0)] w (Ret (.bool true) w):=by
 have HV:=Hq (nat_Valid (nS m) (by have:=nS_small_size hm;omega));rw[nvalid_nS.2 (lt128_of_lt8 hm)]at HV;have HBT:=Hq (nat_Bit m 0 (lt128_of_lt8 hm) (by omega));rw[hodd]at HBT;have HCM:=Hq (nat_Cmp (nS m) (nS 8) (by have:=nS_small_size hm;omega) (by decide));rw[ncmp_n (lt128_of_lt8 hm) (by decide),show cmpI m 8=1 from by unfold cmpI;rw[if_neg (by omega),if_pos h8]]at HCM;have HO:=Hq (nat_Of 8 (by decide));rw[nS_zero];obtain⟨s,hs⟩:∃ s,nS m=s:=⟨_,rfl⟩;obtain⟨t,ht⟩:∃ t,nS 8=t:=⟨_,rfl⟩;rw[hs]at HV HBT HCM⊢;rw[ht]at HCM;have HO':=Hq (fun w=>show Calls Tryz.prog 23 #[.int .u64 (8:Nat)] w (Ret (.string t) w)from by have:=HO.out w;rw[show bstr (encN 8)=t from ht]at this;exact this);clear hs ht hm hodd h8 HO;unfold gV;go_enter Tryz.func152,Tryz.ntmps152;have HX0:=Hq (Bx2.new w (.string s) (.string ⟨#[]⟩) 24);have HB0:=Hq ((Below.refl w.heap.size w).alloc nlr (.cells #[.string s,.string ⟨#[]⟩] 24));go_wp2;obtain⟨W0,hW0⟩:∃ W0,w.alloc (.cells #[.string s,.string ⟨#[]⟩] 24)=W0:=⟨_,rfl⟩;rw[hW0]at HX0 HB0;try rw[hW0]
 have c0:W0.drew.cell? ⟨w.heap.size,0,none⟩=some (.string s):=HX0.out.c0;have c1:W0.drew.cell? ⟨w.heap.size,1,none⟩=some (.string ⟨#[]⟩):=HX0.out.c1;clear hW0;rename_i K1 hK1;refine wp_onlyN ?_;refine wp_region_K 21 (Below (W0.drew).heap.size (W0.drew)) (by kernel_rfl) ?_;intro hD;refine rP 0 3 20 rfl hD blr ?_;clear hD;intro hD;refine rT 1 4 19 rfl hD blr (by intro w' hS';have e0:=kC hS' c0;have e1:=kC hS' c1;go_simp;with_reducible rfl) ?_;clear hD;intro hD;simp only[Act.put,sqA,sqB,sqC];refine rO 2 18 rfl hD ?_;clear hD;intro K2 hK2;go_wp2_with fail;refine(HV.out _).mono ?_;rintro e w2 ⟨rfl,rfl⟩;have HB2:=Hq (Below.refl W0.drew.heap.size W0.drew);go_wp2;refine hK2 _ _ (by exact HB2.out) ?_;clear hK2;intro hS_1_2 hD;refine rP 3 6 17 rfl hD hS_1_2 ?_;clear hD;intro hD;refine rP 4 7 16 rfl hD hS_1_2 ?_;clear hD;intro hD;refine rT 5 8 15 rfl hD hS_1_2 (by intro w' hS';have e0:=kC hS' c0;have e1:=kC hS' c1;go_simp;with_reducible rfl) ?_;clear hD;intro hD;refine rP 6 9 14 rfl hD hS_1_2 ?_;clear hD;intro hD;refine rP 7 10 13 rfl hD hS_1_2 ?_;clear hD;intro hD;refine rP 8 11 12 rfl hD hS_1_2 ?_;clear hD;intro hD;refine rP 9 12 11 rfl hD hS_1_2 ?_;clear hD;intro hD;refine rT 10 13 10 rfl hD hS_1_2 (by intro w' hS';have e0:=kC hS' c0;have e1:=kC hS' c1;go_simp;with_reducible rfl) ?_;clear hD;intro hD;simp only[Act.put,sqA,sqB,sqC];refine rO 11 9 rfl hD ?_;clear hD;intro K11 hK11;go_wp2_with fail;refine(HBT.out _).mono ?_;rintro e w2 ⟨rfl,rfl⟩;have HB11:=Hq (Below.refl W0.drew.heap.size W0.drew);go_wp2;refine hK11 _ _ (by exact Below.trans hS_1_2 (Below.mono HB11.out (Below.size hS_1_2))) ?_;clear hK11;intro hS_1_11 hD;refine rP 12 15 8 rfl hD hS_1_11 ?_;clear hD;intro hD;refine rP 13 16 7 rfl hD hS_1_11 ?_;clear hD;intro hD;refine rP 14 17 6 rfl hD hS_1_11 ?_;clear hD;intro hD;refine rT 15 18 5 rfl hD hS_1_11 (by intro w' hS';have e0:=kC hS' c0;have e1:=kC hS' c1;go_simp;with_reducible rfl) ?_;clear hD;intro hD;simp only[Act.put,sqA,sqB,sqC];refine rO 16 4 rfl hD ?_;clear hD;intro K16 hK16;go_wp2_with fail;refine(HO'.out _).mono ?_;rintro e w2 ⟨rfl,hb⟩;have HB16:=Hq hb;clear hb;go_wp2;refine hK16 _ _ (by exact Below.trans hS_1_11 (Below.mono HB16.out (Below.size hS_1_11))) ?_;clear hK16;intro hS_1_16 hD;refine rO 17 3 rfl hD ?_;clear hD;intro K17 hK17;go_wp2_with fail;refine(HCM.out _).mono ?_;rintro e w3 ⟨rfl,rfl⟩;have HB17:=Hq (Below.refl w2.heap.size w2);go_wp2;refine hK17 _ _ (by exact Below.trans hS_1_16 (Below.mono HB17.out (Below.size hS_1_16))) ?_;clear hK17;intro hS_1_17 hD;refine rP 18 21 2 rfl hD hS_1_17 ?_;clear hD;intro hD;refine rP 19 22 1 rfl hD hS_1_17 ?_;clear hD;intro hD;simp only[Act.put,sqA,sqB,sqC];refine rO 20 0 rfl hD ?_;clear hD;intro K20 hK20;go_wp2;refine hK20 _ _ (by exact hS_1_17) ?_;clear hK20;intro hS_1_20 hD;refine wpD ?_;clear hD;have HSX:=Hq hS_1_20;refine hK1 _ _ ?_;go_wp2;go_ret;exact⟨rfl,HB0.out.trans (((blr).drew.trans HSX.out).mono HB0.out.size)⟩
set_option maxRecDepth 100000
set_option maxHeartbeats 1000000
theorem plus_ge{a b m:Nat}(ha:a<m)(hb:b<m)(h:m - b≤a):a - (m - b)=(a+b)%m:=by
 have : a+b=(a - (m - b))+m:=by omega
 rw[this,Nat.add_mod_right,Nat.mod_eq_of_lt (by omega)]
theorem plus_lt{a b m:Nat}(hb:b<m)(h:a<m - b):a+b=(a+b)%m:=(Nat.mod_eq_of_lt (by omega)).symm
theorem mod_plus(a b m:Nat)(ha:a<m)(hb:b<m)(hm:m<256 ^ 128)(w:World):Calls Tryz.prog 76 #[.string (nS a),.string (nS b),.string (nS m)] w (Ret (.string (nS ((a+b)%m))) w):=by
 have ha8:=Nat.lt_trans ha hm;have hb8:=Nat.lt_trans hb hm;have hr8:m - b<256 ^ 128:=by omega
 have HS:=Hq (nat_Sub_ge m b hm hb8 (by omega));have HCM:=Hq (nat_Cmp (nS a) (nS (m - b)) (by have:=nS_size_le.2 ha8;omega) (by have:=nS_size_le.2 hr8;omega));rw[ncmp_n ha8 hr8]at HCM;by_cases h:m - b≤a
 · have hge:=cmpI_nonneg h;have HS2:=Hq (nat_Sub_ge a (m - b) ha8 hr8 h);rw[plus_ge ha hb h]at HS2;obtain⟨c,hc⟩:∃ c,cmpI a (m - b)=c:=⟨_,rfl⟩;rw[hc]at HCM hge;obtain⟨s,hs⟩:∃ s,nS a=s:=⟨_,rfl⟩;obtain⟨t,ht⟩:∃ t,nS b=t:=⟨_,rfl⟩;obtain⟨u,hu⟩:∃ u,nS m=u:=⟨_,rfl⟩;obtain⟨r,hr⟩:∃ r,nS (m - b)=r:=⟨_,rfl⟩;rw[hs,hr]at HCM HS2;rw[hu,ht,hr]at HS;rw[hs,ht,hu];clear hs ht hu hr hc ha hb hm ha8 hb8 hr8 h;go_enter Tryz.func76,Tryz.ntmps76;go_wp2_with fail;refine(HS.out _).mono ?_;rintro e w1 ⟨rfl,hb1⟩;have HB1:=Hq hb1;clear hb1;go_wp2_with fail;refine(HCM.out _).mono ?_;rintro e w2 ⟨rfl,rfl⟩;go_wp2_with fail;refine(HS2.out _).mono ?_;rintro e w3 ⟨rfl,hb3⟩;have HB3:=Hq ((HB1.out).trans (hb3.mono (HB1.out.size)));clear hb3;go_wp2;go_ret;exact⟨rfl,HB3.out⟩
 · have hlt:¬ (0≤cmpI a (m - b)):=by unfold cmpI;rw[if_pos (by omega)];decide
   have hf:a+b<256 ^ 128:=by omega
   have HA:=Hq (nat_Add a b ha8 hb8);rw[show fitR (a+b)=.tuple #[.string (nS ((a+b)%m)),.int .i64 0]from by unfold fitR;rw[if_pos hf,←plus_lt hb (by omega)]]at HA;obtain⟨c,hc⟩:∃ c,cmpI a (m - b)=c:=⟨_,rfl⟩;rw[hc]at HCM hlt;obtain⟨s,hs⟩:∃ s,nS a=s:=⟨_,rfl⟩;obtain⟨t,ht⟩:∃ t,nS b=t:=⟨_,rfl⟩;obtain⟨u,hu⟩:∃ u,nS m=u:=⟨_,rfl⟩;obtain⟨r,hr⟩:∃ r,nS (m - b)=r:=⟨_,rfl⟩;rw[hs,hr]at HCM;rw[hs,ht]at HA;rw[hu,ht,hr]at HS;rw[hs,ht,hu];clear hs ht hu hr hc ha hb hm ha8 hb8 hr8 h hf;go_enter Tryz.func76,Tryz.ntmps76;go_wp2_with fail;refine(HS.out _).mono ?_;rintro e w1 ⟨rfl,hb1⟩;have HB1:=Hq hb1;clear hb1;go_wp2_with fail;refine(HCM.out _).mono ?_;rintro e w2 ⟨rfl,rfl⟩;go_wp2_with fail;refine(HA.out _).mono ?_;rintro e w3 ⟨rfl,hb3⟩;have HB3:=Hq ((HB1.out).trans (hb3.mono (HB1.out.size)));clear hb3;go_wp2;go_ret;exact⟨rfl,HB3.out⟩
theorem mod_Add(x y m:Nat)(hx8:x<256 ^ 128)(hy8:y<256 ^ 128)(hm8:m<256 ^ 128)(h0:0<m)(w:World):Calls Tryz.prog 49 #[.string (nS x),.string (nS y),.string (nS m)] w (Ret (.tuple #[.string (nS ((x+y)%m)),.int .i64 0]) w):=by
 have HC:=Hq (fun w=>check_two w (nS x) (nS y) (nS m) _ rfl (nvalid_nS.2 hx8) (nvalid_nS.2 hy8) (nvalid_nS.2 hm8) (empty_nS h0) _ rfl);have HR1:=Hq (mod_reducedA x m hx8 hm8 h0);have HR2:=Hq (mod_reducedA y m hy8 hm8 h0);have HP:=Hq (mod_plus (x%m) (y%m) m (Nat.mod_lt _ h0) (Nat.mod_lt _ h0) hm8);rw[←Nat.add_mod]at HP;obtain⟨s,hs⟩:∃ s,nS x=s:=⟨_,rfl⟩;obtain⟨t,ht⟩:∃ t,nS y=t:=⟨_,rfl⟩;obtain⟨u,hu⟩:∃ u,nS m=u:=⟨_,rfl⟩;rw[hs,ht,hu]at HC;rw[hs,hu]at HR1;rw[ht,hu]at HR2;rw[hu]at HP;rw[hs,ht,hu];clear hs ht hu hx8 hy8 hm8;go_enter Tryz.func49,Tryz.ntmps49;go_wp2_with fail;refine(HC.out w).mono ?_;rintro e w1 ⟨rfl,hb1⟩;have HB1:=Hq ((((Below.refl w.heap.size w).alloc nlr _).alloc (by simp) _).trans hb1);clear hb1;go_wp2_with fail;refine(HR1.out _).mono ?_;rintro e w2 ⟨rfl,hb2⟩;have HB2:=Hq (HB1.out.trans (hb2.mono HB1.out.size));clear hb2;go_wp2_with fail;refine(HR2.out _).mono ?_;rintro e w3 ⟨rfl,hb3⟩;have HB3:=Hq (HB2.out.trans (hb3.mono HB2.out.size));clear hb3;go_wp2_with fail;refine(HP.out _).mono ?_;rintro e w4 ⟨rfl,hb4⟩;have HB4:=Hq (HB3.out.trans (hb4.mono HB3.out.size));clear hb4;go_wp2;go_ret2;exact⟨rfl,HB4.out⟩
set_option maxRecDepth 100000
set_option maxHeartbeats 4000000
open Go.RowKit Go.Lib
theorem bw_below(w:World)(e:TypeId)(s:ByteArray):Below w.heap.size w (bytesWorld w e s):=
 below_freeze ((Below.drew (Below.refl _ w)).alloc nlr _) (p:=⟨w.heap.size,_,none⟩) nlr 1
theorem bstr_take(l:List UInt8)(n:Nat)(h:n≤l.length):(bstr l).extract 0 n=bstr (l.take n):=by
 unfold bstr;rw[ByteArray.extract_mk];simp
theorem horner(l:List UInt8)(q j:Nat)(b:UInt8)(h:l[j]? =some b):(bnat (l.take j)%q * 256%q+b.toNat)%q=bnat (l.take (j+1))%q:=by
 rw[take_snocT h,bnat_snoc,Nat.mod_add_mod,Nat.add_mod,Nat.mul_mod,Nat.mod_mod,←Nat.mul_mod,←Nat.add_mod]
theorem tr_Challenge(st O:ByteArray)(hst:st.size≤1000000)(vO:nvalid O=true)(h0:0<num O)(h8:O.size≤8)(w:World) :
 Calls Tryz.prog 72 #[.string st,.string O] w (Ret (.tuple #[.string (nS (chL st.data.toList O.size (num O))),.int .i64 0]) w):=by
 have lO:=num_small h8;have HVA:=Hq (nat_Valid O (by omega));rw[vO]at HVA;have hne:O.toList.isEmpty=false:=by rw[nS_num vO];exact empty_nS h0
 obtain⟨n,hn⟩:∃ n,O.size=n:=⟨_,rfl⟩;obtain⟨q,hq⟩:∃ q,num O=q:=⟨_,rfl⟩;have HOQ:=Hq (show nS q=O from by rw[←hq];exact(nS_num vO).symm);obtain⟨H,hH⟩:∃ H,trH 67 [st.data.toList,shE8 0]=H:=⟨_,rfl⟩;have HHL:=Hq (show H.length=32 from by rw[←hH];exact trH_length _ _);have HHD:=Hq (show bstr (trH 67 (dt [st,bstr (shE8 0)]))=bstr H from by rw[←hH];simp[dt,bstr_data]);have HR:=Hq (show chL st.data.toList O.size (num O)=bnat (H.take (n+8))%q from by unfold chL;rw[hH,hn,hq]);have hni:(n:Int)≤8:=by omega
 have h08:(0:Int)<(n:Int)+8:=by omega
 have h32:¬ (32:Int)<(n:Int)+8:=by omega
 have HST:=Hq hst;have HQ:=Hq (⟨by omega,by omega⟩:0<q∧q<18446744073709551616);have HN8:=Hq (show n≤8 from by omega);rw[HR.out];have hib:=Lib.fresh_isBuilder 141 5 w;have hb0:Below w.heap.size w (w.alloc (.cells #[.pointer none,.slice none 0 0] 141)):=(blr).alloc nlr _;obtain⟨W0,hW0⟩:∃ W,w.alloc (.cells #[.pointer none,.slice none 0 0] 141)=W:=⟨_,rfl⟩;have hzw:w.heap.size≤W0.heap.size:=by rw[←hW0];simp
 rw[hW0]at hib hb0;have HIB0:=Hq hib;have HB0:=Hq hb0;have HZ0:=Hq hzw;clear hib hb0 hzw hH hq hst vO h0 h8 lO HR;go_enter Tryz.func72,Tryz.ntmps72;go_wp2_with fail;refine(HVA.out _).mono ?_;rintro e w1 ⟨rfl,rfl⟩;go_wp2;try rw[hW0]
 clear hW0;go_loopw [7] (fun i wr=>∃ k:Nat,k≤1∧i=.int .i64 k∧IsBuilder 141 5 w.heap.size w.heap.size (Lib.byteCells (if k=0 then []else H)) wr∧Below w.heap.size w wr∧w.heap.size≤wr.heap.size) (fun i _=>1 - (RowKit.intOf i).toNat);case atStart=>exact⟨0,Nat.zero_le _,rfl,HIB0.out,HB0.out,HZ0.out⟩
 case round =>
  obtain⟨k,hk,rfl,hib,hb,hz⟩:=hrel;have HB:=Hq hb;have HZ:=Hq hz;clear hb hz;by_cases hk0:k=0
  · subst hk0;rw[if_pos rfl]at hib;have HIB:=Hq hib;clear hib hk;go_wp2_with fail;refine(bld_Len _ _ _ _ HIB.out).mono ?_;rintro e w2 ⟨rfl,rfl⟩;rw[show ((Lib.byteCells ([]:List UInt8)).length:Int)=0 from rfl];have hif:=Lib.fresh_isBuilder 169 5 wr;have hbf:Below wr.heap.size wr (wr.alloc (.cells #[.pointer none,.slice none 0 0] 169)):=(blr).alloc nlr _;obtain⟨W1,hW1⟩:∃ W,wr.alloc (.cells #[.pointer none,.slice none 0 0] 169)=W:=⟨_,rfl⟩;have hz1:wr.heap.size≤W1.heap.size:=by rw[←hW1];simp
    rw[hW1]at hif hbf;have HIF:=Hq hif;have HBF:=Hq hbf;have HZF:=Hq hz1;clear hif hbf hz1;have H8:=Hq (fr_eight wr.heap.size wr.heap.size [] 0 (by omega) W1 HIF.out (by simp) HZF.out);go_wp2_with fail;try rw[hW1]
    clear hW1;refine H8.out.mono ?_;rintro e w2 ⟨rfl,hi2,hb2,_⟩;have HI2:=Hq (show IsBuilder 169 5 wr.heap.size wr.heap.size (Lib.byteCells (shE8 0)) w2 from hi2);have HB2:=Hq (HBF.out.trans hb2);have HZ2:=Hq (Nat.le_trans HZF.out hb2.size);clear hi2 hb2;go_wp2_with fail;refine(frb_String _ _ (shE8 0) _ HI2.out HZ2.out).mono ?_;rintro e w3 ⟨rfl,hk3⟩;have HB3:=Hq (HB2.out.trans hk3.1);have HZ3:=Hq (Nat.le_trans HZ2.out hk3.1.size);clear hk3;have hb4:Below wr.heap.size wr (w3.alloc (.cells #[.string st,.string (bstr (shE8 0))] 9)):=HB3.out.alloc HZ3.out _;have HPL:=Hq (tr_plain 67 _ 2 2 [st,bstr (shE8 0)] (by omega) (by simp;exact⟨HST.out,by rw[bstr_size];simp[shE8]⟩) _ (sln_alloc w3 [st,bstr (shE8 0)] 9 (by simp)));rw[HHD.out]at HPL;have HB4:=Hq hb4;clear hb4;obtain⟨sh0,hsh0⟩:∃ s,bstr (shE8 0)=s:=⟨_,rfl⟩;rw[hsh0]at HPL HB4⊢;clear hsh0;go_wp2_with fail;refine HPL.out.mono ?_;rintro e w5 ⟨rfl,hb5⟩;have HB5:=Hq (HB4.out.trans (hb5.mono HB4.out.size));clear hb5;have hi5:IsBuilder 141 5 w.heap.size w.heap.size (Lib.byteCells []) w5:=bld_kept HIB.out HB5.out;have HZ5:=Hq (Nat.le_trans HZ.out HB5.out.size);go_wp2_with fail;refine(bld_WriteString _ _ _ (bstr H) _ hi5 (by rw[bstr_size,HHL.out];decide) HZ5.out).mono ?_;rintro e w6 ⟨rfl,hi6,hb6⟩;rw[Lib.strCells_eq,←byteCells_append,bstr_data,List.nil_append]at hi6;have HI6:=Hq hi6;have HB6:=Hq ((HB.out.trans (HB5.out.mono HZ.out)).trans hb6);have HZ6:=Hq (Nat.le_trans HZ5.out hb6.size);clear hi5 hi6 hb6;go_wp2;go_roundw;case rel=>exact⟨1,Nat.le_refl _,rfl,HI6.out,HB6.out,HZ6.out⟩
    case measure=>simp[RowKit.intOf]
  · have hk1:k=1:=by omega
    subst hk1;rw[if_neg (by decide)]at hib;have HIB:=Hq hib;clear hib hk hk0;go_wp2_with fail;refine(bld_Len _ _ _ _ HIB.out).mono ?_;rintro e w2 ⟨rfl,rfl⟩;rw[byteCells_length,HHL.out];go_wp2_with fail;refine(bld_String _ _ H _ HIB.out HZ.out).mono ?_;rintro e w3 ⟨rfl,hk3⟩;have HB3:=Hq (HB.out.trans hk3.1);have HZ3:=Hq (Nat.le_trans HZ.out hk3.1.size);clear hk3;have hsl:(bstr H).extract 0 (n+8)=bstr (H.take (n+8)):=bstr_take H (n+8) (by rw[HHL.out];have:=HN8.out;omega);have hs32:(bstr H).size=32:=by rw[bstr_size];exact HHL.out
    have hle:(n:Int)+8≤32:=by omega
    obtain⟨L,hL⟩:∃ L,H.take (n+8)=L:=⟨_,rfl⟩;have HLL:=Hq (show L.length=n+8 from by rw[←hL,List.length_take,HHL.out];have:=HN8.out;omega);have HLE:=Hq hL;rw[hL]at hsl;obtain⟨bH,hbH⟩:∃ b,bstr H=b:=⟨_,rfl⟩;rw[hbH]at hsl hs32⊢;clear hL hbH;have hlen:(bstr L).size=n+8:=by rw[bstr_size];exact HLL.out
    obtain⟨bL,hbL⟩:∃ b,bstr L=b:=⟨_,rfl⟩;have HBL:=Hq (show bL.data.toList=L from by rw[←hbL,bstr_data]);rw[hbL]at hsl hlen;clear hbL;have hcv:=Lib.run_convert_string_bytes (P:=Tryz.prog) w3 9 108 5 bL Tryz.underlying9 Tryz.underlying108 Tryz.underlying5;go_wp2;have hbw:=bw_below w3 5 bL;have hcl:∀ p,p<n+8→(bytesWorld w3 5 bL).cell? ⟨w3.heap.size,p,none⟩=some (.int .u8 ((L.getD p 0).toNat:Int)):=fun p hp=>by
     have:=bytesWorld_cell w3 5 bL p (by rw[hlen];exact hp);rwa[HBL.out]at this
    obtain⟨W4,hW4⟩:∃ W,bytesWorld w3 5 bL=W:=⟨_,rfl⟩;obtain⟨C4,hC4⟩:∃ C,grownCap w3 (n+8) 0 5=C:=⟨_,rfl⟩;obtain⟨P,hP⟩:∃ P,w3.heap.size=P:=⟨_,rfl⟩;have HCC:=Hq (show n+8≤C4 from by rw[←hC4];exact grownCap_ge _ _ _ _);rw[hW4]at hbw hcl⊢;rw[hC4];rw[hP]at hcl⊢;have HB4:=Hq (HB3.out.trans (hbw.mono HZ3.out));have HZ4:=Hq (Nat.le_trans HZ3.out hbw.size);have HCL:=Hq hcl;clear hbw hcl hW4 hC4 hP hcv;obtain⟨bx,hbx⟩:∃ b,bH.extract 0 (n+8)=b:=⟨_,rfl⟩;rw[hbx];clear hbx hsl hs32 hlen hle;clear h32;go_loopw [9,39] (fun v i wr=>∃ j:Nat,j≤n+8∧v=.string (nS (bnat (L.take j)%q))∧i=.int .i64 j∧(∀ p,p<n+8→wr.cell? ⟨P,p,none⟩=some (.int .u8 ((L.getD p 0).toNat:Int)))∧Below w.heap.size w wr∧w.heap.size≤wr.heap.size) (fun _ i _=>n+8 - (RowKit.intOf i).toNat);case atStart=>exact⟨0,Nat.zero_le _,by rw[show bnat (L.take 0)%q=0 from by simp[bnat]];rfl,rfl,HCL.out,HB4.out,HZ4.out⟩
    case round =>
     obtain⟨j,hj,rfl,rfl,hcl,hb,hz⟩:=hrel;have HCL:=Hq hcl;have HB:=Hq hb;have HZ:=Hq hz;clear hcl hb hz;by_cases hlt:j<n+8
     · have d0:=HCL.out j hlt;obtain⟨b,hb⟩:∃ b,L[j]? =some b:=⟨_,List.getElem?_eq_getElem (by rw[HLL.out];exact hlt)⟩;have hbd:L.getD j 0=b:=by rw[List.getD_eq_getElem?_getD,hb];rfl
       rw[hbd]at d0;have HHN:=Hq (horner L q j b hb);have hb255:(b.toNat:Int)≤255:=by have:=b.toNat_lt;omega
       have hji:(j:Int)<(n:Int)+8:=by omega
       have hj16:(j:Int)<16:=by have:=HN8.out;omega
       have HJ:=Hq hlt;obtain⟨x,hx⟩:∃ x,bnat (L.take j)%q=x:=⟨_,rfl⟩;have hxq:x<q:=by rw[←hx];exact Nat.mod_lt _ HQ.out.1
       rw[hx]at HHN⊢;have HQ2:=HQ.out.2;have HOF:=Hq (nat_Of 256 (by decide));have HML:=Hq (mod_Mul x 256 q (by omega) (by decide) HQ.out.2 HQ.out.1);have HOB:=Hq (nat_Of b.toNat (by have:=b.toNat_lt;omega));have HAD:=Hq (mod_Add (x * 256%q) b.toNat q (lt128_of_lt8 (by have:=Nat.mod_lt (x * 256) HQ.out.1;omega)) (lt128_of_lt8 (by have:=b.toNat_lt;omega)) (lt128_of_lt8 HQ.out.2) HQ.out.1);rw[HHN.out]at HAD;rw[HOQ.out]at HML HAD;rw[show bstr (encN 256)=nS 256 from rfl]at HOF;rw[show bstr (encN b.toNat)=nS b.toNat from rfl]at HOB;obtain⟨z1,hz1⟩:∃ z,nS 256=z:=⟨_,rfl⟩;obtain⟨z2,hz2⟩:∃ z,nS b.toNat=z:=⟨_,rfl⟩;obtain⟨z3,hz3⟩:∃ z,nS x=z:=⟨_,rfl⟩;obtain⟨z4,hz4⟩:∃ z,nS (x * 256%q)=z:=⟨_,rfl⟩;obtain⟨z5,hz5⟩:∃ z,nS (bnat (L.take (j+1))%q)=z:=⟨_,rfl⟩;have HZ5:=Hq hz5;rw[hz1]at HOF HML;rw[hz2]at HOB HAD;rw[hz3]at HML⊢;rw[hz4]at HML HAD;rw[hz5]at HAD;obtain⟨bi,hbi⟩:∃ k:Nat,b.toNat=k:=⟨_,rfl⟩;rw[hbi]at HOB d0 hb255;clear hz1 hz2 hz3 hz4 hz5 hx hxq hb hbd HHN hbi hlt hj HQ2;go_wp2_with fail;refine(HOF.out _).mono ?_;rintro e w5 ⟨rfl,hb5⟩;have HB5:=Hq hb5;clear hb5 d0;go_wp2_with fail;refine(HML.out _).mono ?_;rintro e w6 ⟨rfl,hb6⟩;have HB6:=Hq (HB5.out.trans (hb6.mono HB5.out.size));clear hb6;go_wp2_with fail;refine(HOB.out _).mono ?_;rintro e w7 ⟨rfl,hb7⟩;have HB7:=Hq (HB6.out.trans (hb7.mono HB6.out.size));clear hb7;go_wp2_with fail;refine(HAD.out _).mono ?_;rintro e w8 ⟨rfl,hb8⟩;have HB8:=Hq (HB7.out.trans (hb8.mono HB7.out.size));clear hb8;go_wp2;go_roundw;case rel=>exact⟨j+1,HJ.out,by rw[HZ5.out],by go_num,fun p hp=>cell_kept HB8.out nlr (HCL.out p hp),HB.out.trans (HB8.out.mono HZ.out),Nat.le_trans HZ.out HB8.out.size⟩
       case measure=>have:=HJ.out;simp[RowKit.intOf];omega
     · have hjn:j=n+8:=by omega
       have hjf:¬ (j:Int)<(n:Int)+8:=by omega
       have HTK:=Hq (show L.take j=L from List.take_of_length_le (by rw[HLL.out];omega));rw[HTK.out];obtain⟨z,hz⟩:∃ z,nS (bnat L%q)=z:=⟨_,rfl⟩;have HZZ:=Hq hz;rw[hz];clear hz hjn hlt hj;go_wp2;go_ret2;exact⟨by rw[HLE.out,HZZ.out];rfl,HB.out⟩
def tpG(l:List ByteArray)(at_:Int):Bool:=decide (0≤at_)&&decide (at_≤2147483647)&&l.all nvalid
def nmL(at_ a b:Nat):List UInt8:=Lib.decDigits at_++[46]++Lib.decDigits a++[46]++Lib.decDigits b
def attN(s:List UInt8)(at_ a bits:Nat):Nat:=bnat ((macL s (nmL at_ a 0)).take ((bits+7) / 8))%2 ^ bits
def drwF(f:Nat→Nat)(n:Nat):Option Nat:=((List.range 256).find? (fun a=>decide (f a<n))).map f
theorem find_range{p:Nat→Bool}{k N:Nat}(hk:k<N)(h:∀ j,j<k→p j=false)(hp:p k=true):(List.range N).find? p=some k:=by
 rw[List.find?_eq_some_iff_append];refine⟨hp,List.range k,(List.range' (k+1) (N - k - 1)),?_,fun j hj=>by simp[h j (List.mem_range.1 hj)]⟩;rw[List.range_eq_range',List.range_eq_range',show k::List.range' (k+1) (N - k - 1)=List.range' k (N - k)from by rw[show N - k=(N - k - 1)+1 from by omega,List.range'_succ];simp];have:=@List.range'_append 0 k (N - k) 1;simp only[Nat.one_mul,Nat.zero_add]at this;rw[this,show k+(N - k)=N from by omega]
theorem drwF_at{f:Nat→Nat}{n k:Nat}(hk:k<256)(h:∀ j,j<k→¬ f j<n)(hp:f k<n):drwF f n=some (f k):=by
 unfold drwF;rw[find_range hk (fun j hj=>decide_eq_false (h j hj)) (decide_eq_true hp)];rfl
theorem drwF_none{f:Nat→Nat}{n:Nat}(h:∀ j,j<256→¬ f j<n):drwF f n=none:=by
 unfold drwF;rw[List.find?_eq_none.2 (fun j hj=>by simpa using h j (List.mem_range.1 hj))];rfl
theorem drwF_lt{f:Nat→Nat}{n x:Nat}(h:drwF f n=some x):x<n:=by
 unfold drwF at h;rw[Option.map_eq_some_iff]at h;obtain⟨a,ha,rfl⟩:=h;exact of_decide_eq_true (List.find?_some (p:=fun a=>decide (f a<n)) ha)
def dwN(l:List ByteArray)(s:ByteArray)(at_:Int)(n:Nat):Nat×Int:=
 if at_<l.length then(if num (l.getD at_.toNat ⟨#[]⟩)<n then(num (l.getD at_.toNat ⟨#[]⟩),0)else(0,2))
 else if s.toList.isEmpty=true∨at_=2147483647 then(0,14)
 else match drwF (fun a=>attN s.data.toList at_.toNat a (blen n)) n with
  | some x=>(x,0)
  | none=>(0,14)
def coN(l:List ByteArray)(s:ByteArray)(at_:Int)(B:ByteArray):Nat×Int:=
 if (tpG l at_&&nvalid B)=true then(if B.toList.isEmpty=true then(0,11)else dwN l s at_ (num B))else(0,3)
theorem dwN_ok{l:List ByteArray}{s:ByteArray}{at_:Int}{n:Nat}(h:(dwN l s at_ n).2=0):(dwN l s at_ n).1<n:=by
 unfold dwN at *;split
 · rename_i h1;rw[if_pos h1]at h;split
   · rename_i h2;exact h2
   · rename_i h2;rw[if_neg h2]at h;cases h
 · rename_i h1;rw[if_neg h1]at h;split
   · rename_i h2;rw[if_pos h2]at h;cases h
   · rename_i h2;rw[if_neg h2]at h
     cases hd:drwF (fun a=>attN s.data.toList at_.toNat a (blen n)) n with
     | none=>rw[hd]at h;cases h
     | some x=>exact drwF_lt hd
def tpN(e:Int)(l:List ByteArray)(s:ByteArray)(at_:Int):List ByteArray×ByteArray×Int:=if e=0 then(l,s,at_+1)else([],⟨#[]⟩,0)
def RetC(r:Nat×Int)(t:List ByteArray×ByteArray×Int)(w:World)(e:Ending)(w':World):Prop:=
 ∃ A c,e=.returned (.tuple #[.string (nS r.1),.agg #[.slice A t.1.length c,.string t.2.1,.int .i64 t.2.2],.int .i64 r.2])∧SlN w' A t.1.length c t.1∧(∀ b o,A=some ⟨b,o,none⟩→w.heap.size≤b)∧Below w.heap.size w w'
end Go.Proofs.YtfbmbledklbfgaaGreatDoor

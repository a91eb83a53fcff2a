import Derived.Test.YtmahgbhpdfbbjaaGreatDoorQPeC
set_option linter.unusedVariables false
set_option linter.unusedSimpArgs false
namespace Go.Proofs.YtmahgbhpdfbbjaaGreatDoor
open Go.RowKit
theorem pw_CheckW(M O:ByteArray)(hM:M.size≤8)(hO:O.size≤100)(w:World):Calls Tryz.prog 36 #[gV M O] w (Ret (.int .i64 (chkK M O)) w):=by
 unfold chkK
 cases hv:(nvalid M&&nvalid O)with
 | false=>exact pw_Check_bad M O (by omega) (by omega) hv w
 | true =>
  rw[if_pos rfl];simp only[Bool.and_eq_true]at hv;have e1:=nS_num hv.1;have e2:=nS_num hv.2;have hm:=num_small hM;have ho:=num_lt (s:=O) (by omega);rcases Nat.eq_zero_or_pos (num O)with h0 | h0
  · have:=pw_Check_none (num M) hm w;rw[show nS 0=O from by rw[←h0,←e2],←e1]at this;unfold chkN;rw[if_pos h0];exact this
  · have:=pw_Check_some (num M) (num O) hm ho h0 w;rw[←e1,←e2]at this;exact this
theorem pw_Check(M O:ByteArray)(hM:M.size≤8)(hO:O.size≤8)(w:World):Calls Tryz.prog 36 #[gV M O] w (Ret (.int .i64 (chkK M O)) w):=pw_CheckW M O hM (by omega) w
set_option maxRecDepth 100000
set_option maxHeartbeats 2000000
def hasN(m o x:Nat):Bool:=decide (0<x∧x<m∧(if o=0 then Nat.gcd x m=1 else x ^ o%m=1))
theorem hasG_nS{m o x:Nat}(hm:m<256 ^ 128)(ho8:o<256 ^ 128)(hx:x<256 ^ 128)(ho:0<o):hasG (nS m) (nS o) (nS x)=hasN m o x:=by
 have e:hasP (nS m) (nS o) (nS x)↔(0<x∧x<m∧(if o=0 then Nat.gcd x m=1 else x ^ o%m=1)):=(by unfold hasP;rw[num_nS,num_nS,num_nS,if_neg (by omega)];exact⟨fun h=>h.2.2.2.2,fun h=>⟨nvalid_nS.2 hm,nvalid_nS.2 ho8,nvalid_nS.2 hx,ho,h⟩⟩);exact decide_eq_decide.2 e
theorem rsa_Has(m x:Nat)(hm:m<18446744073709551616)(hodd:bitB m 0=true)(h8:8<m)(hx:x<256 ^ 128)(w:World):Calls Tryz.prog 64 #[gV (nS m) (nS 0),.string (nS x)] w (Ret (.bool (hasN m 0 x)) w):=by
 have HGD:=Hq (rsa_good m hm hodd h8);have HV:=Hq (nat_Valid (nS x) (by have:=nS_size_le.2 hx;omega));rw[nvalid_nS.2 hx]at HV;have HCM:=Hq (nat_Cmp (nS x) (nS m) (by have:=nS_size_le.2 hx;omega) (by have:=nS_small_size hm;omega));rw[ncmp_n hx (lt128_of_lt8 hm)]at HCM;have HGC:=Hq (fun(h:x<m)=>nat_Gcd x m (by omega) hm);have HB1:=Hq (fun n=>nS_beq n 1);have HON:=Hq rsa_one;unfold gV at *;by_cases h0:x=0
 · have hr:hasN m 0 x=false:=decide_eq_false (fun h=>by have:=h.1;omega);rw[hr];have hem:(nS x).toList.isEmpty=true:=by rw[h0];exact sempty_true rfl
   obtain⟨s,hs⟩:=nm (nS m);obtain⟨t,ht⟩:=nm (nS 0);obtain⟨u,hu⟩:=nm (nS x);rw[hs,ht]at HGD;rw[hu]at HV hem;rw[hs,ht,hu];clear hs ht hu hm hodd h8 hx HCM HGC h0 hr;go_enter Tryz.func64,Tryz.ntmps64;have HX0:=Hq (Bx2.new w (.string s) (.string t) 24);have HB0:=Hq ((Below.refl w.heap.size w).alloc nlr (.cells #[.string s,.string t] 24));obtain⟨W0,hW0⟩:=nm (w.alloc (.cells #[.string s,.string t] 24));rw[hW0]at HX0 HB0;have HW0:=Hq hW0;clear hW0;go_wp2_with fail;rw[HW0.out];refine(HGD.out _).mono ?_;rintro e w1 ⟨rfl,hb⟩;have HB1:=bTr HB0 hb;clear hb;go_wp2_with fail;refine(HV.out _).mono ?_;rintro e w2 ⟨rfl,rfl⟩;go_wp2;go_ret;exact⟨rfl,HB1.out⟩
 · have hem:=empty_nS (n:=x) (by omega);by_cases hxm:m≤x
   · have hr:hasN m 0 x=false:=decide_eq_false (fun h=>by have:=h.2.1;omega);rw[hr];have hg:=cmpI_nonneg hxm;obtain⟨c,hc⟩:=nm (cmpI x m);rw[hc]at hg HCM;obtain⟨s,hs⟩:=nm (nS m);obtain⟨t,ht⟩:=nm (nS 0);obtain⟨u,hu⟩:=nm (nS x);rw[hs,ht]at HGD;rw[hu]at HV hem;rw[hs,hu]at HCM;rw[hs,ht,hu];clear hs ht hu hm hodd h8 hx HGC h0 hr hxm hc;go_enter Tryz.func64,Tryz.ntmps64;have HX0:=Hq (Bx2.new w (.string s) (.string t) 24);have HB0:=Hq ((Below.refl w.heap.size w).alloc nlr (.cells #[.string s,.string t] 24));obtain⟨W0,hW0⟩:=nm (w.alloc (.cells #[.string s,.string t] 24));rw[hW0]at HX0 HB0;have HW0:=Hq hW0;clear hW0;go_wp2_with fail;rw[HW0.out];refine(HGD.out _).mono ?_;rintro e w1 ⟨rfl,hb⟩;have HB1:=bTr HB0 hb;have HX1:=HX0.out.next hb;have c0:=HX1.c0;have c1:=HX1.c1;clear hb HX1;go_wp2_with fail;refine(HV.out _).mono ?_;rintro e w2 ⟨rfl,rfl⟩;go_wp2_with fail;refine(HCM.out _).mono ?_;rintro e w2 ⟨rfl,rfl⟩;go_wp2;go_ret;exact⟨rfl,HB1.out⟩
   · have hr:hasN m 0 x=decide (Nat.gcd x m=1):=decide_eq_decide.2 ⟨fun h=>by have:=h.2.2;rwa[if_pos rfl]at this,fun h=>⟨by omega,by omega,by rw[if_pos rfl];exact h⟩⟩;rw[hr,←HB1.out];have hg:cmpI x m<0:=by unfold cmpI;rw[if_pos (by omega)];decide
     obtain⟨c,hc⟩:=nm (cmpI x m);rw[hc]at hg HCM;have HGC:=Hq (HGC.out (by omega));obtain⟨s,hs⟩:=nm (nS m);obtain⟨t,ht⟩:=nm (nS 0);obtain⟨u,hu⟩:=nm (nS x);obtain⟨d,hd⟩:=nm (nS (Nat.gcd x m));obtain⟨one,hone⟩:=nm (nS 1);rw[hs,ht]at HGD;rw[hu]at HV hem;rw[hs,hu]at HCM;rw[hs,hu,hd]at HGC;rw[hone]at HON;rw[hs,ht,hu,hd,hone];clear hs ht hu hd hone hm hodd h8 hx h0 hr hxm hc HB1;go_enter Tryz.func64,Tryz.ntmps64;have HX0:=Hq (Bx2.new w (.string s) (.string t) 24);have HB0:=Hq ((Below.refl w.heap.size w).alloc nlr (.cells #[.string s,.string t] 24));obtain⟨W0,hW0⟩:=nm (w.alloc (.cells #[.string s,.string t] 24));rw[hW0]at HX0 HB0;have HW0:=Hq hW0;clear hW0;go_wp2_with fail;rw[HW0.out];refine(HGD.out _).mono ?_;rintro e w1 ⟨rfl,hb⟩;have HB1:=bTr HB0 hb;have HX1:=HX0.out.next hb;have c0:=HX1.c0;have c1:=HX1.c1;clear hb HX1;go_wp2_with fail;refine(HV.out _).mono ?_;rintro e w2 ⟨rfl,rfl⟩;go_wp2_with fail;refine(HCM.out _).mono ?_;rintro e w2 ⟨rfl,rfl⟩;go_wp2_with fail;refine(HGC.out _).mono ?_;rintro e w3 ⟨rfl,hb⟩;have HB3:=bTr HB1 hb;clear hb c0 c1;go_wp2_with fail;refine(HON.out _).mono ?_;rintro e w4 ⟨rfl,hb⟩;have HB4:=bTr HB3 hb;clear hb;go_wp2;go_ret;exact⟨rfl,HB4.out⟩
theorem chkN_none{m:Nat}(h:chkN m 0=0):bitB m 0=true∧8<m:=by
 unfold chkN at h;rw[if_pos rfl]at h;rw[bit0];by_cases hh:m%2=0∨m≤8
 · rw[if_pos hh]at h;cases h
 · exact⟨decide_eq_true (by omega),by omega⟩
theorem pw_has(m o x:Nat)(hm:m<18446744073709551616)(ho8:o<18446744073709551616)(hc:chkN m o=0)(hx:x<256 ^ 128)(w:World):Calls Tryz.prog 68 #[gV (nS m) (nS o),.string (nS x)] w (Ret (.bool (hasN m o x)) w):=by
 have hsm:=nS_small_size hm;have hso:=nS_small_size ho8;have hsx:=nS_size_le.2 hx;rcases Nat.eq_zero_or_pos o with h0 | h0
 · subst h0;obtain⟨g1,g2⟩:=chkN_none hc;have HH:=Hq (rsa_Has m x hm g1 g2 hx);have he:(nS 0).toList.isEmpty=true:=sempty_true rfl;obtain⟨r,hr⟩:=nm (hasN m 0 x);obtain⟨s,hs⟩:=nm (nS m);obtain⟨t,ht⟩:=nm (nS 0);obtain⟨u,hu⟩:=nm (nS x);rw[hs,ht,hu,hr]at HH;rw[ht]at he;rw[hs,ht,hu,hr];clear hs ht hu hr hm ho8 hc hx hsm hso hsx g1 g2;unfold gV at *;go_enter Tryz.func68,Tryz.ntmps68;have HX0:=Hq (Bx2.new w (.string s) (.string t) 24);have HB0:=Hq ((Below.refl w.heap.size w).alloc nlr (.cells #[.string s,.string t] 24));obtain⟨W0,hW0⟩:=nm (w.alloc (.cells #[.string s,.string t] 24));rw[hW0]at HX0 HB0;have HW0:=Hq hW0;clear hW0;go_wp2_with fail;rw[HW0.out];refine(HH.out _).mono ?_;rintro e w1 ⟨rfl,hb⟩;have HB1:=bTr HB0 hb;clear hb;go_wp2;go_ret;exact⟨rfl,HB1.out⟩
 · have HH:=Hq (pg_Has (nS m) (nS o) (nS x) hsm (by omega) (by omega));rw[hasG_nS (lt128_of_lt8 hm) (lt128_of_lt8 ho8) hx h0]at HH;have he:=empty_nS h0;obtain⟨r,hr⟩:=nm (hasN m o x);obtain⟨s,hs⟩:=nm (nS m);obtain⟨t,ht⟩:=nm (nS o);obtain⟨u,hu⟩:=nm (nS x);rw[hs,ht,hu,hr]at HH;rw[ht]at he;rw[hs,ht,hu,hr];clear hs ht hu hr hm ho8 hc hx hsm hso hsx h0;unfold gV at *;go_enter Tryz.func68,Tryz.ntmps68;have HX0:=Hq (Bx2.new w (.string s) (.string t) 24);have HB0:=Hq ((Below.refl w.heap.size w).alloc nlr (.cells #[.string s,.string t] 24));obtain⟨W0,hW0⟩:=nm (w.alloc (.cells #[.string s,.string t] 24));rw[hW0]at HX0 HB0;have HW0:=Hq hW0;clear hW0;go_wp2_with fail;rw[HW0.out];refine(HH.out _).mono ?_;rintro e w1 ⟨rfl,hb⟩;have HB1:=bTr HB0 hb;clear hb;go_wp2;go_ret;exact⟨rfl,HB1.out⟩
def hasK(M O x:ByteArray):Bool:=decide (chkK M O=0)&&nvalid x&&hasN (num M) (num O) (num x)
theorem chkK_parts{M O:ByteArray}(h:chkK M O=0):nvalid M=true∧nvalid O=true∧chkN (num M) (num O)=0:=by
 unfold chkK at h;split at h
 · rename_i hv;simp only[Bool.and_eq_true]at hv;exact⟨hv.1,hv.2,h⟩
 · cases h
theorem pw_Has(M O x:ByteArray)(hM:M.size≤8)(hO:O.size≤8)(hx:nvalid x=true)(w:World):Calls Tryz.prog 37 #[gV M O,.string x] w (Ret (.bool (hasK M O x)) w):=by
 have HCK:=Hq (pw_Check M O hM hO);by_cases hc:chkK M O=0
 · obtain⟨v1,v2,hcn⟩:=chkK_parts hc;have HH:=Hq (pw_has (num M) (num O) (num x) (num_small hM) (num_small hO) hcn (num_lt (by unfold nvalid at hx;simp at hx;exact hx.1)));rw[←nS_num v1,←nS_num v2,←nS_num hx]at HH;have hr:hasK M O x=hasN (num M) (num O) (num x):=by unfold hasK;rw[decide_eq_true hc,hx,Bool.true_and,Bool.true_and]
   rw[hr];obtain⟨r,hr⟩:=nm (hasN (num M) (num O) (num x));rw[hr]at HH⊢;rw[hc]at HCK;obtain⟨s,hs⟩:=nm (M);obtain⟨t,ht⟩:=nm (O);rw[hs,ht]at HCK HH⊢;clear hc v1 v2 hcn hr hM hO hx hs ht;unfold gV at *;go_enter Tryz.func37,Tryz.ntmps37;have HX0:=Hq (Bx2.new w (.string s) (.string t) 24);have HB0:=Hq ((Below.refl w.heap.size w).alloc nlr (.cells #[.string s,.string t] 24));obtain⟨W0,hW0⟩:=nm (w.alloc (.cells #[.string s,.string t] 24));rw[hW0]at HX0 HB0;have HW0:=Hq hW0;clear hW0;go_wp2_with fail;rw[HW0.out];refine(HCK.out _).mono ?_;rintro e w1 ⟨rfl,hb⟩;have HB1:=bTr HB0 hb;have HX1:=HX0.out.next hb;have c0:=HX1.c0;have c1:=HX1.c1;clear hb HX1;go_wp2_with fail;refine(HH.out _).mono ?_;rintro e w2 ⟨rfl,hb⟩;have HB2:=bTr HB1 hb;clear hb;go_wp2;go_ret;exact⟨rfl,HB2.out⟩
 · have hr:hasK M O x=false:=by unfold hasK;rw[decide_eq_false hc];rfl
   rw[hr];obtain⟨c,hcc⟩:=nm (chkK M O);rw[hcc]at HCK hc;obtain⟨s,hs⟩:=nm (M);obtain⟨t,ht⟩:=nm (O);rw[hs,ht]at HCK⊢;have hcb:(c==0)=false:=by rw[beq_eq_false_iff_ne];exact hc
   clear hc hcc hr hM hO hx hs ht;unfold gV at *;go_enter Tryz.func37,Tryz.ntmps37;have HX0:=Hq (Bx2.new w (.string s) (.string t) 24);have HB0:=Hq ((Below.refl w.heap.size w).alloc nlr (.cells #[.string s,.string t] 24));obtain⟨W0,hW0⟩:=nm (w.alloc (.cells #[.string s,.string t] 24));rw[hW0]at HX0 HB0;have HW0:=Hq hW0;clear hW0;go_wp2_with fail;rw[HW0.out];refine(HCK.out _).mono ?_;rintro e w1 ⟨rfl,hb⟩;have HB1:=bTr HB0 hb;clear hb;go_wp2;go_ret;exact⟨rfl,HB1.out⟩
set_option maxRecDepth 100000
set_option maxHeartbeats 4000000
def SlZ(w:World)(A:Option Addr)(len cap:Nat)(l:List (Bool×ByteArray)):Prop:=
 l.length=len∧len≤cap∧cap≤9223372036854775807∧∃ b o,(0<len→A=some ⟨b,o,none⟩)∧∀ k z,l[k]? =some z→w.cell? ⟨b,o+k * 2,none⟩=some (.bool z.1)∧w.cell? ⟨b,o+k * 2+1,none⟩=some (.string z.2)
theorem SlZ.kept{B:Nat}{w w':World}(hb:Below B w w')(hB:w.heap.size≤B){A:Option Addr}{len cap:Nat}{l:List (Bool×ByteArray)}(h:SlZ w A len cap l):SlZ w' A len cap l:=
 let ⟨h1,h2,h3,b,o,h4,h5⟩:=h
 ⟨h1,h2,h3,b,o,h4,fun k e hk=>⟨cell_kept hb hB (h5 k e hk).1,cell_kept hb hB (h5 k e hk).2⟩⟩
theorem SlZ.head{w:World}{A:Option Addr}{len cap:Nat}{l:List (Bool×ByteArray)}(h:SlZ w A len cap l)(h0:0<len):∃ b o,A=some ⟨b,o,none⟩:=
 let ⟨_,_,_,b,o,h4,_⟩:=h
 ⟨b,o,h4 h0⟩
theorem SlZ.get?{w:World}{b o len cap:Nat}{l:List (Bool×ByteArray)}(h:SlZ w (some ⟨b,o,none⟩) len cap l)(k:Nat){z:Bool×ByteArray}(hk:l[k]? =some z):w.cell? ⟨b,o+k * 2,none⟩=some (.bool z.1)∧w.cell? ⟨b,o+k * 2+1,none⟩=some (.string z.2):=by
 obtain⟨h1,h2,h3,b',o',h4,h5⟩:=h;have hl:=(List.getElem?_eq_some_iff.1 hk).1;have:=h4 (by omega);simp only[Option.some.injEq,Addr.mk.injEq,and_true]at this;obtain⟨rfl,rfl⟩:=this;exact h5 k z hk
def ckR(M O:ByteArray)(l:List ByteArray)(zs:List (Bool×ByteArray))(same:Bool):Int:=
 if l.all nvalid=false then 3 else if zs.all (fun z=>zvalid z.1 z.2)=false then 3 else if chkK M O=0 then(if same=false then 6 else if l.all (fun s=>hasN (num M) (num O) (num s))=false then 13 else 0)else chkK M O
theorem all_take{α:Type}{p:α→Bool}{l:List α}{k:Nat}{x:α}(h:(l.take k).all p=true)(hk:l[k]? =some x)(hx:p x=true):(l.take (k+1)).all p=true:=by
 obtain⟨h1,rfl⟩:=List.getElem?_eq_some_iff.1 hk;rw[List.take_succ_eq_append_getElem h1,List.all_append,h];simp[hx]
theorem all_false{α:Type}{p:α→Bool}{l:List α}{k:Nat}{x:α}(hk:l[k]? =some x)(hx:p x=false):l.all p=false:=by
 rw[List.all_eq_false];exact⟨x,List.mem_of_getElem? hk,by rw[hx];decide⟩
theorem all_len{α:Type}{p:α→Bool}{l:List α}{n:Nat}(h:(l.take n).all p=true)(hn:l.length=n):l.all p=true:=by rwa[←hn,List.take_length]at h
theorem all_get{α:Type}{p:α→Bool}{l:List α}{k:Nat}{x:α}(h:l.all p=true)(hk:l[k]? =some x):p x=true:=(List.all_eq_true.1 h) x (List.mem_of_getElem? hk)
theorem pw_checked(M O:ByteArray)(l:List ByteArray)(zs:List (Bool×ByteArray))(same:Bool)(A B:Option Addr)(n c m d:Nat)(hM:M.size≤8)(hO:O.size≤8)(hls:∀ s∈l,s.size≤1000)(hzs:∀ z∈zs,z.2.size≤1000)(hn:n≤1000)(hm:m≤1000)(w:World)(hl:SlN w A n c l)(hz:SlZ w B m d zs) :
 Calls Tryz.prog 47 #[gV M O,.slice A n c,.slice B m d,.bool same] w (Ret (.int .i64 (ckR M O l zs same)) w):=by
 have HLS:=Hq hls;have HZS:=Hq hzs;have HCK:=Hq (pw_Check M O hM hO);have HSN:=Hq hl;have HSZ:=Hq hz;have HNL:=Hq hl.1;have HML:=Hq hz.1;have HHS:=Hq (fun(x:ByteArray) (hc:chkK M O=0) (hv:nvalid x=true)=>show ∀ w,Calls Tryz.prog 68 #[gV M O,.string x] w (Ret (.bool (hasN (num M) (num O) (num x))) w)from by
  obtain⟨v1,v2,hcn⟩:=chkK_parts hc;have:=pw_has (num M) (num O) (num x) (num_small hM) (num_small hO) hcn (num_lt (by unfold nvalid at hv;simp at hv;exact hv.1))
  rwa[←nS_num v1,←nS_num v2,←nS_num hv]at this)
 have HR:=Hq (show ∃ R,ckR M O l zs same=R from⟨_,rfl⟩);obtain⟨R,hR⟩:=HR.out;rw[hR];have HRR:=Hq hR;have HB0:=Hq ((Below.refl w.heap.size w).alloc nlr (.cells #[.string M,.string O] 24));have HX0:=Hq (Bx2.new w (.string M) (.string O) 24);obtain⟨W0,hW0⟩:=nm (w.alloc (.cells #[.string M,.string O] 24));rw[hW0]at HB0 HX0;have HW0:=Hq hW0;clear hl hz hls hzs hR hW0 hM hO HR;unfold gV at *;go_enter Tryz.func47,Tryz.ntmps47;go_wp2;try rw[HW0.out]
 go_loopw [18] (fun i wr=>∃ k:Nat,k≤n∧i=.int .i64 k∧(l.take k).all nvalid=true∧wr=W0) (fun i _=>n - (intOf i).toNat);case atStart=>exact⟨0,Nat.zero_le _,rfl,by simp,rfl⟩
 case round =>
  obtain⟨k,hk,rfl,hall,hwr⟩:=hrel;have hwr:=hwr.symm;subst hwr;have HALL:=Hq hall;clear hall;by_cases hlt:k<n
  · obtain⟨s,he⟩:∃ s,l[k]? =some s:=⟨_,List.getElem?_eq_getElem (by rw[HNL.out];exact hlt)⟩;obtain⟨b,o,rfl⟩:=HSN.out.head (by omega);have c0:=(HSN.out.kept HB0.out nlr).get? k he;have hsz:=HLS.out s (List.mem_of_getElem? he);have HV:=Hq (nat_Valid s (by omega));have HE:=Hq he;clear he
    cases hv:nvalid s with
    | true =>
     have HVS:=Hq hv;rw[hv]at HV;clear hv;go_wp2_with fail;refine(HV.out _).mono ?_;rintro e w1 ⟨rfl,rfl⟩;go_wp2;go_roundw;case rel=>exact⟨k+1,by omega,by go_num,all_take HALL.out HE.out HVS.out,(by first | rfl | trivial)⟩
     case measure=>simp[intOf];omega
    | false =>
     have HVS:=Hq hv;rw[hv]at HV;clear hv;go_wp2_with fail;refine(HV.out _).mono ?_;rintro e w1 ⟨rfl,rfl⟩;go_wp2;go_ret;exact⟨by rw[←HRR.out];unfold ckR;rw[if_pos (all_false HE.out HVS.out)];rfl,HB0.out⟩
  · obtain rfl:k=n:=by omega
    have HLV:=Hq (all_len HALL.out HNL.out);clear HALL;go_wp2;go_loopw [28] (fun i wr=>∃ k:Nat,k≤m∧i=.int .i64 k∧(zs.take k).all (fun z=>zvalid z.1 z.2)=true∧Below W0.heap.size W0 wr) (fun i _=>m - (intOf i).toNat);case atStart=>exact⟨0,Nat.zero_le _,rfl,by simp,Below.refl _ _⟩
    case round =>
     obtain⟨j,hj,rfl,hall,hbw⟩:=hrel;have HALL:=Hq hall;have HBW:=Hq hbw;clear hall hbw;by_cases hlt2:j<m
     · obtain⟨z,he⟩:∃ z,zs[j]? =some z:=⟨_,List.getElem?_eq_getElem (by rw[HML.out];exact hlt2)⟩;obtain⟨b,o,rfl⟩:=HSZ.out.head (by omega);obtain⟨c0,c1⟩:=((HSZ.out.kept HB0.out nlr).kept HBW.out nlr).get? j he;have hsz:=HZS.out z (List.mem_of_getElem? he);obtain⟨zb,zt⟩:=z;dsimp only at c0 c1 hsz;have HV:=Hq (int_Valid zb zt (by omega));have HE:=Hq he;have HBA:=Hq (HBW.out.alloc HBW.out.size (.cells #[.bool zb,.string zt] 74));unfold zV at HV;clear he
       cases hv:zvalid zb zt with
       | true =>
        have HVS:=Hq hv;rw[hv]at HV;clear hv;go_wp2_with fail;refine(HV.out _).mono ?_;rintro e w1 ⟨rfl,hb⟩;have HB1:=bTr HBA hb;clear hb;go_wp2;go_roundw;case rel=>exact⟨j+1,by omega,by go_num,all_take HALL.out HE.out HVS.out,HB1.out⟩
        case measure=>simp[intOf];omega
       | false =>
        have HVS:=Hq hv;rw[hv]at HV;clear hv;go_wp2_with fail;refine(HV.out _).mono ?_;rintro e w1 ⟨rfl,hb⟩;have HB1:=bTr HBA hb;clear hb;go_wp2;go_ret;exact⟨by rw[←HRR.out];unfold ckR;rw[if_neg (by rw[HLV.out];decide),if_pos (all_false HE.out HVS.out)];rfl,HB0.out.trans (HB1.out.mono HB0.out.size)⟩
     · obtain rfl:j=m:=by omega
       have HZV:=Hq (all_len HALL.out HML.out);have HX1:=Hq (HX0.out.next HBW.out);have HBB:=bTr HB0 HBW.out;have c0:=HX1.out.c0;have c1:=HX1.out.c1;clear HALL;by_cases hck:chkK M O=0
       · have HCC:=Hq hck;rw[hck]at HCK;clear hck
         cases same with
         | false =>
          go_wp2_with fail;refine(HCK.out _).mono ?_;rintro e w2 ⟨rfl,hb⟩;have HB2:=bTr HBB hb;clear hb c0 c1;go_wp2;go_ret;exact⟨by rw[←HRR.out];unfold ckR;rw[if_neg (by rw[HLV.out];decide),if_neg (by rw[HZV.out];decide),if_pos HCC.out,if_pos rfl];rfl,HB2.out⟩
         | true =>
          go_wp2_with fail;refine(HCK.out _).mono ?_;rintro e w2 ⟨rfl,hb⟩;have HB2:=bTr HBB hb;have HX2:=Hq (HX1.out.next hb);clear hb c0 c1;go_wp2;go_loopw [45] (fun i wr=>∃ q:Nat,q≤k∧i=.int .i64 q∧(l.take q).all (fun s=>hasN (num M) (num O) (num s))=true∧Below w2.heap.size w2 wr) (fun i _=>k - (intOf i).toNat);case atStart=>exact⟨0,Nat.zero_le _,rfl,by simp,Below.refl _ _⟩
          case round =>
           obtain⟨q,hq,rfl,hall,hbw⟩:=hrel;have HALL:=Hq hall;have HBW3:=Hq hbw;have HX3:=Hq (HX2.out.next hbw);have HB3:=bTr HB2 hbw;have c0:=HX3.out.c0;have c1:=HX3.out.c1;clear hall hbw;by_cases hlt3:q<k
           · obtain⟨s,he⟩:∃ s,l[q]? =some s:=⟨_,List.getElem?_eq_getElem (by rw[HNL.out];exact hlt3)⟩;obtain⟨b,o,rfl⟩:=HSN.out.head (by omega);have c2:=(HSN.out.kept HB3.out nlr).get? q he;have HH:=Hq (HHS.out s HCC.out (all_get HLV.out he));have HE:=Hq he;clear he
             cases hv:hasN (num M) (num O) (num s)with
             | true =>
                    have HVS:=Hq hv;rw[hv]at HH;clear hv;go_wp2_with fail;refine(HH.out _).mono ?_;rintro e w4 ⟨rfl,hb⟩;have HB4:=bTr HBW3 hb;clear hb;go_wp2;go_roundw;case rel=>exact⟨q+1,by omega,by go_num,all_take HALL.out HE.out HVS.out,HB4.out⟩
                    case measure=>simp[intOf];omega
             | false =>
                    have HVS:=Hq hv;rw[hv]at HH;clear hv;go_wp2_with fail;refine(HH.out _).mono ?_;rintro e w4 ⟨rfl,hb⟩;have HB4:=bTr HB3 hb;clear hb;go_wp2;go_ret;exact⟨by rw[←HRR.out];unfold ckR;rw[if_neg (by rw[HLV.out];decide),if_neg (by rw[HZV.out];decide),if_pos HCC.out,if_neg (by decide),if_pos (all_false (p:=fun s=>hasN (num M) (num O) (num s)) HE.out HVS.out)];rfl,HB4.out⟩
           · obtain rfl:q=k:=by omega
             have HHV:=Hq (all_len HALL.out HNL.out);go_wp2;go_ret;exact⟨by rw[←HRR.out];unfold ckR;rw[if_neg (by rw[HLV.out];decide),if_neg (by rw[HZV.out];decide),if_pos HCC.out,if_neg (by decide),if_neg (by rw[HHV.out];decide)];rfl,HB3.out⟩
       · have HCC:=Hq hck;obtain⟨cc,hcc⟩:=nm (chkK M O);have HCE:=Hq hcc;rw[hcc]at HCK hck;have hcb:(cc==0)=false:=by rw[beq_eq_false_iff_ne];exact hck
         have hcb2:(cc != 0)=true:=by rw[bne,hcb];rfl
         clear hck hcc;go_wp2_with fail;refine(HCK.out _).mono ?_;rintro e w2 ⟨rfl,hb⟩;have HB2:=bTr HBB hb;clear hb c0 c1;go_wp2;go_ret;exact⟨by rw[←HRR.out];unfold ckR;rw[if_neg (by rw[HLV.out];decide),if_neg (by rw[HZV.out];decide),if_neg HCC.out,HCE.out];rfl,HB2.out⟩
set_option maxRecDepth 100000
set_option maxHeartbeats 1000000
def bL(m:Nat)(l:List ByteArray)(zs:List (Bool×ByteArray)):List (Nat×Nat):=List.zipWith (fun s z=>(baseN (num s) z.1 m,num z.2)) l zs
theorem bL_get{m k:Nat}{l:List ByteArray}{zs:List (Bool×ByteArray)}{s:ByteArray}{z:Bool×ByteArray}(h1:l[k]? =some s)(h2:zs[k]? =some z):(bL m l zs)[k]? =some (baseN (num s) z.1 m,num z.2):=by
 unfold bL;rw[List.getElem?_zipWith,h1,h2]
def prV(m:Nat)(l:List ByteArray)(zs:List (Bool×ByteArray)):Nat:=pp (bL m l zs) 0%m
theorem hasN_unit{m o x:Nat}(h:hasN m o x=true)(hc:chkN m o=0):x<m∧1<m∧Nat.gcd x m=1:=by
 have h:=of_decide_eq_true h;rcases Nat.eq_zero_or_pos o with h0 | h0
 · subst h0;have:=(chkN_none hc).2;obtain⟨h1,h2,h3⟩:=h;rw[if_pos rfl]at h3;exact⟨h2,by omega,h3⟩
 · rw[chkN_some h0]at hc;obtain⟨h1,h2,h3⟩:=h;rw[if_neg (by omega)]at h3;refine⟨h2,?_,gcd_of_pw h3 h0⟩;by_cases hm:m≤1
   · rw[if_pos (.inl hm)]at hc;cases hc
   · omega
theorem chkN_one{m o:Nat}(hc:chkN m o=0):1<m:=by
 rcases Nat.eq_zero_or_pos o with h0 | h0
 · subst h0;have:=(chkN_none hc).2;omega
 · rw[chkN_some h0]at hc;by_cases hm:m≤1
   · rw[if_pos (.inl hm)]at hc;cases hc
   · omega
def mxL:List (Nat×Nat)→Nat
 | []=>0
 | x::l=>max (blen x.2) (mxL l)
theorem mxL_snoc(l:List (Nat×Nat))(x:Nat×Nat):mxL (l++[x])=max (mxL l) (blen x.2):=by
 induction l with
 | nil=>simp[mxL]
 | cons a l ih=>simp only[List.cons_append,mxL,ih];omega
theorem mxL_take{l:List (Nat×Nat)}{k:Nat}{x:Nat×Nat}(h:l[k]? =some x):mxL (l.take (k+1))=max (mxL (l.take k)) (blen x.2):=by
 obtain⟨h1,h2⟩:=List.getElem?_eq_some_iff.1 h;rw[List.take_succ_eq_append_getElem h1,h2,mxL_snoc]
theorem mxL_le{l:List (Nat×Nat)}{x:Nat×Nat}(h:x∈l):blen x.2≤mxL l:=by
 induction l with
 | nil=>cases h
 | cons a l ih =>
  simp only[mxL];rcases List.mem_cons.1 h with h | h
  · subst h;omega
  · have:=ih h;omega
theorem pp_top(l:List (Nat×Nat)):pp l (mxL l)=1:=pp_one (fun x hx=>lt_of_blen (mxL_le hx))
def zs_(n:Nat):Array Value:=madeCells #[.string ⟨#[]⟩] n
theorem make_strs(n:Nat)(hn:n≤1000)(w:World):(Instr.makeSlice 25 (.int .i64 n) (.int .i64 n)).run Tryz.prog w=.ok (.slice (some ⟨w.heap.size,0,none⟩) n n) (w.alloc (.cells (zs_ n) 22)):=by
 obtain⟨i0,hi,hz0,hz1,hz2⟩:=info_parts nat_info;have h:=run_make (P:=Tryz.prog) w 25 22 i0 (.string ⟨#[]⟩) Tryz.underlying25 hi hz0 .i64 .i64 (n:Int) (n:Int) (by omega) (Int.le_refl _) (by rw[hz2];omega) (by omega);rw[h,hz1,Int.toNat_natCast,Nat.mul_one];rfl
def OutS(w:World)(B n k:Nat)(f:Nat→ByteArray):Prop:=∃ cur:Array Value,w.heap[B]? =some (.cells cur 22 (0,0))∧cur.size=n∧∀ j,j<k→cur[j]? =some (.string (f j))
theorem OutS.start{w:World}(n:Nat)(f:Nat→ByteArray):OutS (w.alloc (.cells (zs_ n) 22)) w.heap.size n 0 f:=⟨_,heap_alloc_new _ _,size_madeCells _ _,fun j h=>by omega⟩
theorem OutS.has_{w:World}{B n k:Nat}{f:Nat→ByteArray}(h:OutS w B n k f){j:Nat}(hj:j<n):∃ u,w.cell? ⟨B,j,none⟩=some u:=by
 obtain⟨cur,h1,h2,h3⟩:=h;exact⟨_,by rw[Lib.cell_of_heap h1];exact Array.getElem?_eq_getElem (by omega)⟩
theorem OutS.cell{w:World}{B n k:Nat}{f:Nat→ByteArray}(h:OutS w B n k f){j:Nat}(hj:j<k):w.cell? ⟨B,j,none⟩=some (.string (f j)):=by
 obtain⟨cur,h1,h2,h3⟩:=h;rw[Lib.cell_of_heap h1];exact h3 j hj
theorem OutS.free{w:World}{B n k:Nat}{f:Nat→ByteArray}(h:OutS w B n k f)(j:Nat):w.frozen? ⟨B,j,none⟩=false:=by
 obtain⟨cur,h1,h2,h3⟩:=h;exact Lib.frozen_of_heap h1 j
theorem OutS.lt{w:World}{B n k:Nat}{f:Nat→ByteArray}(h:OutS w B n k f):B<w.heap.size:=by
 obtain⟨cur,h1,_⟩:=h;exact block_lt h1
theorem OutS.keep{w w':World}{B n k:Nat}{f:Nat→ByteArray}(h:OutS w B n k f)(hb:w'.heap[B]? =w.heap[B]?):OutS w' B n k f:=by
 obtain⟨cur,h1,h2⟩:=h;exact⟨cur,by rw[hb];exact h1,h2⟩
theorem OutS.next{w w':World}{B n k:Nat}{f:Nat→ByteArray}(h:OutS w B n k f)(hb:Below w.heap.size w w'):OutS w' B n k f:=h.keep (hb.block _ h.lt)
theorem OutS.put{w:World}{B n k:Nat}{f:Nat→ByteArray}(h:OutS w B n k f)(u:Value):OutS (w.setCell ⟨B,k,none⟩ u) B n k f:=by
 obtain⟨cur,h1,h2,h3⟩:=h;refine⟨_,block_setCell h1 _,by rw[Array.size_setIfInBounds,h2],fun j hj=>?_⟩;rw[Array.getElem?_setIfInBounds,if_neg (by omega)];exact h3 j hj
theorem OutS.step{w:World}{B n k:Nat}{f:Nat→ByteArray}(h:OutS w B n k f)(hk:k<n):OutS (w.setCell ⟨B,k,none⟩ (.string (f k))) B n (k+1) f:=by
 obtain⟨cur,h1,h2,h3⟩:=h;refine⟨_,block_setCell h1 _,by rw[Array.size_setIfInBounds,h2],fun j hj=>?_⟩;rw[Array.getElem?_setIfInBounds];by_cases e:j=k
 · subst e;rw[if_pos rfl,if_pos (by omega)]
 · rw[if_neg (by omega)];exact h3 j (by omega)
def RetT(B:Nat)(v:Value)(w:World)(e:Ending)(w':World):Prop:=e=.returned (.tuple #[])∧∃ w1,Below w.heap.size w w1∧w'=w1.setCell ⟨B,0,none⟩ v
theorem pw_times(g B a x m:Nat)(O:ByteArray)(w:World)(hg:Bx2 w g (.string (nS m)) (.string O) 24)(ho:BoxS w B (nS a))(ha:a<18446744073709551616)(hx:x<18446744073709551616)(hm:m<18446744073709551616)(h0:0<m) :
 Calls Tryz.prog 50 #[.string (nS x),.pointer (some ⟨B,0,none⟩),.pointer (some ⟨g,0,none⟩)] w (RetT B (.string (nS (a * x%m))) w):=by
 have HM:=Hq (mod_Mul a x m ha hx hm h0);have c0:=hg.c0;have HO:=Hq ho;have c1:w.cell? ⟨B,0,none⟩=some (.string (nS a)):=by rw[Lib.cell_of_heap ho];rfl
 obtain⟨s,hs⟩:=nm (nS a);obtain⟨t,ht⟩:=nm (nS x);obtain⟨u,hu⟩:=nm (nS m);obtain⟨r,hr⟩:=nm (nS (a * x%m));rw[hs,ht,hu,hr]at HM;rw[hs]at c1 HO;rw[hu]at c0;rw[ht,hr];clear hs ht hu hr hg ho ha hx hm h0;go_enter Tryz.func50,Tryz.ntmps50;go_wp2_with fail;refine(HM.out _).mono ?_;rintro e w1 ⟨rfl,hb⟩;have hx1:BoxS w1 B s:=(hb.block _ (block_lt HO.out)).trans HO.out;have c2:w1.cell? ⟨B,0,none⟩=some (.string s):=by rw[Lib.cell_of_heap hx1];rfl
 have f2:w1.frozen? ⟨B,0,none⟩=false:=Lib.frozen_of_heap hx1 0;have HB:=Hq hb;clear hb c0 c1 hx1;go_wp2;first | go_ret | go_end0 | skip
 exact⟨rfl,w1,HB.out,rfl⟩
end Go.Proofs.YtmahgbhpdfbbjaaGreatDoor

import Derived.Test.YtmahgbhpdfbbjaaGreatDoorQEpC
set_option linter.unusedVariables false
set_option linter.unusedSimpArgs false
namespace Go.Proofs.YtmahgbhpdfbbjaaGreatDoor
set_option maxRecDepth 100000
set_option maxHeartbeats 1000000
open Go.RowKit
def memB(l:List ByteArray)(x:ByteArray):Bool:=l.any (fun y=>x.toList==y.toList)
theorem any_take{l:List ByteArray}{p:ByteArray→Bool}(h:∀(i:Nat) y,l[i]? =some y→p y=false):l.any p=false:=by
 rw[List.any_eq_false];intro y hy;obtain⟨i,hi⟩:=List.getElem?_of_mem hy;simp[h i y hi]
theorem any_at{l:List ByteArray}{p:ByteArray→Bool}{i:Nat}{y:ByteArray}(hi:l[i]? =some y)(h:p y=true):l.any p=true:=by
 rw[List.any_eq_true];exact⟨y,List.mem_of_getElem? hi,h⟩
def RetK(b:Bool)(w:World)(e:Ending)(w':World):Prop:=∃ k:Int,e=.returned (.int .i64 k)∧decide (0≤k)=b∧Below w.heap.size w w'
theorem sl_Index(l:List ByteArray)(A:Option Addr)(len cap:Nat)(x:ByteArray)(w:World)(hs:SlN w A len cap l):Calls Tryz.prog 72 #[.slice A len cap,.string x] w (RetK (memB l x) w):=by
 have HS:=Hq hs;have HLEN:=Hq hs.1;have hcap:=hs.2.1;have hcap2:=hs.2.2.1;clear hs;go_enter Tryz.func72,Tryz.ntmps72;go_wp2
 go_loop [8] (fun k=>∃ j:Nat,j≤len∧k=.int .i64 j∧(∀(i:Nat) y,i<j→l[i]? =some y→(x.toList==y.toList)=false)) (fun k=>len - (intOf k).toNat)
 case atStart=>exact⟨0,Nat.zero_le _,rfl,fun i u h=>absurd h (Nat.not_lt_zero _)⟩
 case round =>
  obtain⟨j,hj,rfl,hall⟩:=hrel;have HALL:=Hq hall;clear hall;by_cases hlt:j<len
  · obtain⟨y,he⟩:∃ y,l[j]? =some y:=⟨_,List.getElem?_eq_getElem (by rw[HLEN.out];exact hlt)⟩;obtain⟨b,o,rfl,e1⟩:=HS.out.cell he;have HE:=Hq he;clear he
    cases hh:(x.toList==y.toList)with
    | true =>
     have HM:=Hq (any_at (p:=fun y=>x.toList==y.toList) HE.out hh);go_wp2;go_ret;exact⟨j,rfl,by unfold memB;rw[HM.out];exact decide_eq_true (by omega),Below.refl _ _⟩
    | false =>
     have HA2:=Hq (show ∀(i:Nat) y,i<j+1→l[i]? =some y→(fun y=>x.toList==y.toList) y=false from fun i u hi hu=>by
      rcases Nat.lt_or_ge i j with a | a
      · exact HALL.out i u a hu
      · obtain rfl:i=j:=by omega
        rw[HE.out]at hu;cases hu
        exact hh)
     go_wp2;go_round;case rel=>exact⟨j+1,by omega,by go_num,HA2.out⟩
     case measure=>simp[intOf];omega
  · obtain rfl:j=len:=by omega
    have HM:=Hq (show memB l x=false from any_take (fun i y h=>HALL.out i y (by have:=(List.getElem?_eq_some_iff.1 h).1;have:=HLEN.out;omega) h));clear hlt hj;go_wp2;go_ret;exact⟨-1,rfl,by rw[HM.out];rfl,Below.refl _ _⟩
theorem sl_Contains(l:List ByteArray)(A:Option Addr)(len cap:Nat)(x:ByteArray)(w:World)(hs:SlN w A len cap l):Calls Tryz.prog 43 #[.slice A len cap,.string x] w (Ret (.bool (memB l x)) w):=by
 have HC:=Hq (sl_Index l A len cap x w hs);clear hs;go_enter Tryz.func43,Tryz.ntmps43;go_wp2_with fail;refine HC.out.mono ?_;rintro e w1 ⟨k,rfl,hk,hb⟩;have HK:=Hq hk;have HB:=Hq hb;clear hk hb;go_wp2;go_ret;exact⟨by rw[←HK.out];rfl,HB.out⟩
theorem sl_IndexFunc1(l:List ByteArray)(A:Option Addr)(len cap B:Nat)(p:ByteArray→Bool)(w:World)(hs:SlN w A len cap l)(hp:∀ x∈l,∀ W,Below w.heap.size w W→Calls Tryz.prog 125 #[.string x,.pointer (some ⟨B,0,none⟩)] W (Ret (.bool (p x)) W)) :
 Calls Tryz.prog 143 #[.slice A len cap,.func (.func 125) #[] #[.pointer (some ⟨B,0,none⟩)]] w (RetK (l.any p) w):=by
 have HS:=Hq hs;have HP:=Hq hp;have HLEN:=Hq hs.1;have hcap:=hs.2.1;have hcap2:=hs.2.2.1;clear hs hp;go_enter Tryz.func143,Tryz.ntmps143;go_wp2;go_loopw [8] (fun k wr=>∃ j:Nat,j≤len∧k=.int .i64 j∧(∀(i:Nat) y,i<j→l[i]? =some y→p y=false)∧Below w.heap.size w wr) (fun k _=>len - (intOf k).toNat);case atStart=>exact⟨0,Nat.zero_le _,rfl,fun i u h=>absurd h (Nat.not_lt_zero _),Below.refl _ _⟩
 case round =>
  obtain⟨j,hj,rfl,hall,hB⟩:=hrel;have HALL:=Hq hall;have HB:=Hq hB;clear hall hB;by_cases hlt:j<len
  · obtain⟨y,he⟩:∃ y,l[j]? =some y:=⟨_,List.getElem?_eq_getElem (by rw[HLEN.out];exact hlt)⟩;obtain⟨b,o,rfl,e0⟩:=HS.out.cell he;have e1:=kc HB.out e0;have HC:=Hq (HP.out y (List.mem_of_getElem? he) wr HB.out);have HE:=Hq he;clear he e0;go_wp2_with fail;refine HC.out.mono ?_;rintro e w1 ⟨rfl,hb1⟩;have HB1:=bTr HB hb1;clear hb1
    cases hh:p y with
    | true =>
     have HM:=Hq (any_at HE.out hh);clear hh;go_wp2;go_ret;exact⟨j,rfl,by rw[HM.out];exact decide_eq_true (by omega),HB1.out⟩
    | false =>
     have HA2:=Hq (show ∀(i:Nat) y,i<j+1→l[i]? =some y→p y=false from fun i u hi hu=>by
      rcases Nat.lt_or_ge i j with a | a
      · exact HALL.out i u a hu
      · obtain rfl:i=j:=by omega
        rw[HE.out]at hu;cases hu
        exact hh)
     clear hh;go_wp2;go_roundw;case rel=>exact⟨j+1,by omega,by go_num,HA2.out,HB1.out⟩
     case measure=>simp[intOf];omega
  · obtain rfl:j=len:=by omega
    have HM:=Hq (show l.any p=false from any_take (fun i y h=>HALL.out i y (by have:=(List.getElem?_eq_some_iff.1 h).1;have:=HLEN.out;omega) h));clear hlt hj;go_wp2;go_ret;exact⟨-1,rfl,by rw[HM.out];rfl,HB.out⟩
theorem sl_ContainsFunc1(l:List ByteArray)(A:Option Addr)(len cap B:Nat)(p:ByteArray→Bool)(w:World)(hs:SlN w A len cap l)(hp:∀ x∈l,∀ W,Below w.heap.size w W→Calls Tryz.prog 125 #[.string x,.pointer (some ⟨B,0,none⟩)] W (Ret (.bool (p x)) W)) :
 Calls Tryz.prog 124 #[.slice A len cap,.func (.func 125) #[] #[.pointer (some ⟨B,0,none⟩)]] w (Ret (.bool (l.any p)) w):=by
 have HC:=Hq (sl_IndexFunc1 l A len cap B p w hs hp);clear hs hp;go_enter Tryz.func124,Tryz.ntmps124;go_wp2_with fail;refine HC.out.mono ?_;rintro e w1 ⟨k,rfl,hk,hb⟩;have HK:=Hq hk;have HB:=Hq hb;clear hk hb;go_wp2;go_ret;exact⟨by rw[←HK.out];rfl,HB.out⟩
theorem sl_IndexFunc2(l:List ByteArray)(A:Option Addr)(len cap B:Nat)(p:ByteArray→Bool)(w:World)(hs:SlN w A len cap l)(hp:∀ x∈l,∀ W,Below w.heap.size w W→Calls Tryz.prog 126 #[.string x,.pointer (some ⟨B,0,none⟩)] W (Ret (.bool (p x)) W)) :
 Calls Tryz.prog 143 #[.slice A len cap,.func (.func 126) #[] #[.pointer (some ⟨B,0,none⟩)]] w (RetK (l.any p) w):=by
 have HS:=Hq hs;have HP:=Hq hp;have HLEN:=Hq hs.1;have hcap:=hs.2.1;have hcap2:=hs.2.2.1;clear hs hp;go_enter Tryz.func143,Tryz.ntmps143;go_wp2;go_loopw [8] (fun k wr=>∃ j:Nat,j≤len∧k=.int .i64 j∧(∀(i:Nat) y,i<j→l[i]? =some y→p y=false)∧Below w.heap.size w wr) (fun k _=>len - (intOf k).toNat);case atStart=>exact⟨0,Nat.zero_le _,rfl,fun i u h=>absurd h (Nat.not_lt_zero _),Below.refl _ _⟩
 case round =>
  obtain⟨j,hj,rfl,hall,hB⟩:=hrel;have HALL:=Hq hall;have HB:=Hq hB;clear hall hB;by_cases hlt:j<len
  · obtain⟨y,he⟩:∃ y,l[j]? =some y:=⟨_,List.getElem?_eq_getElem (by rw[HLEN.out];exact hlt)⟩;obtain⟨b,o,rfl,e0⟩:=HS.out.cell he;have e1:=kc HB.out e0;have HC:=Hq (HP.out y (List.mem_of_getElem? he) wr HB.out);have HE:=Hq he;clear he e0;go_wp2_with fail;refine HC.out.mono ?_;rintro e w1 ⟨rfl,hb1⟩;have HB1:=bTr HB hb1;clear hb1
    cases hh:p y with
    | true =>
     have HM:=Hq (any_at HE.out hh);clear hh;go_wp2;go_ret;exact⟨j,rfl,by rw[HM.out];exact decide_eq_true (by omega),HB1.out⟩
    | false =>
     have HA2:=Hq (show ∀(i:Nat) y,i<j+1→l[i]? =some y→p y=false from fun i u hi hu=>by
      rcases Nat.lt_or_ge i j with a | a
      · exact HALL.out i u a hu
      · obtain rfl:i=j:=by omega
        rw[HE.out]at hu;cases hu
        exact hh)
     clear hh;go_wp2;go_roundw;case rel=>exact⟨j+1,by omega,by go_num,HA2.out,HB1.out⟩
     case measure=>simp[intOf];omega
  · obtain rfl:j=len:=by omega
    have HM:=Hq (show l.any p=false from any_take (fun i y h=>HALL.out i y (by have:=(List.getElem?_eq_some_iff.1 h).1;have:=HLEN.out;omega) h));clear hlt hj;go_wp2;go_ret;exact⟨-1,rfl,by rw[HM.out];rfl,HB.out⟩
theorem sl_ContainsFunc2(l:List ByteArray)(A:Option Addr)(len cap B:Nat)(p:ByteArray→Bool)(w:World)(hs:SlN w A len cap l)(hp:∀ x∈l,∀ W,Below w.heap.size w W→Calls Tryz.prog 126 #[.string x,.pointer (some ⟨B,0,none⟩)] W (Ret (.bool (p x)) W)) :
 Calls Tryz.prog 124 #[.slice A len cap,.func (.func 126) #[] #[.pointer (some ⟨B,0,none⟩)]] w (Ret (.bool (l.any p)) w):=by
 have HC:=Hq (sl_IndexFunc2 l A len cap B p w hs hp);clear hs hp;go_enter Tryz.func124,Tryz.ntmps124;go_wp2_with fail;refine HC.out.mono ?_;rintro e w1 ⟨k,rfl,hk,hb⟩;have HK:=Hq hk;have HB:=Hq hb;clear hk hb;go_wp2;go_ret;exact⟨by rw[←HK.out];rfl,HB.out⟩
theorem ep_form1(x:ByteArray)(B:Nat)(l:List ByteArray)(A:Option Addr)(n c:Nat)(w:World)(hB:w.cell? ⟨B,3,none⟩=some (.slice A n c))(hs:SlN w A n c l):Calls Tryz.prog 125 #[.string x,.pointer (some ⟨B,0,none⟩)] w (Ret (.bool (memB l x)) w):=by
 have HC:=Hq (sl_Contains l A n c x w hs);clear hs;go_enter Tryz.func125,Tryz.ntmps125;go_wp2_with fail;refine HC.out.mono ?_;rintro e w1 ⟨rfl,hb⟩;have HB:=Hq hb;clear hb hB;go_wp2;go_ret;exact⟨rfl,HB.out⟩
theorem ep_form2(x:ByteArray)(B:Nat)(t:ByteArray)(w:World)(hB:w.cell? ⟨B,0,none⟩=some (.string t))(hx:nvalid x=true)(ht:nvalid t=true):Calls Tryz.prog 126 #[.string x,.pointer (some ⟨B,0,none⟩)] w (Ret (.bool (decide (num x<num t))) w):=by
 have HC:=Hq (nat_Cmp x t (by have:=size_valid hx;omega) (by have:=size_valid ht;omega) w);rw[ncmp_num hx ht]at HC;have HD:=Hq (show decide (cmpI (num x) (num t)<0)=decide (num x<num t)from decide_eq_decide.2 cmpI_neg);obtain⟨cc,hcc⟩:=nm (cmpI (num x) (num t));rw[hcc]at HC HD;clear hcc hx ht;go_enter Tryz.func126,Tryz.ntmps126;go_wp2_with fail;refine HC.out.mono ?_;rintro e w1 ⟨rfl,rfl⟩;go_wp2;go_ret;exact⟨by rw[←HD.out];rfl,Below.refl _ _⟩
theorem num_posV{x:ByteArray}(hv:nvalid x=true)(h:x≠⟨#[]⟩):0<num x:=by
 rcases Nat.eq_zero_or_pos (num x)with e | e
 · exact absurd ((nS_num hv).trans (by rw[e];rfl)) h
 · exact e
def rdyR(M O:ByteArray)(els hs:List ByteArray):Int:=
 if (nvalid M&&nvalid O&&els.all nvalid&&hs.all nvalid)=false then 3 else if chkK M O≠0 then chkK M O else if els.all (fun x=>hasN (num M) (num O) (num x))=false then 13 else if memB hs ⟨#[]⟩=true then 11 else 0
theorem rdy_zero{M O:ByteArray}{els hs:List ByteArray}(h:rdyR M O els hs=0):nvalid M=true∧nvalid O=true∧els.all nvalid=true∧hs.all nvalid=true∧chkK M O=0∧els.all (fun x=>hasN (num M) (num O) (num x))=true∧memB hs ⟨#[]⟩=false:=by
 unfold rdyR at h;by_cases h1:(nvalid M&&nvalid O&&els.all nvalid&&hs.all nvalid)=false
 · rw[if_pos h1]at h;cases h
 · rw[if_neg h1]at h;rw[Bool.not_eq_false,Bool.and_eq_true,Bool.and_eq_true,Bool.and_eq_true]at h1;by_cases h2:chkK M O=0
   · rw[if_neg (fun c=>c h2)]at h
     cases h3:els.all (fun x=>hasN (num M) (num O) (num x))with
     | false=>rw[h3]at h;cases h
     | true =>
      rw[h3,if_neg (by decide)]at h
      cases h4:memB hs ⟨#[]⟩with
      | true=>rw[h4]at h;cases h
      | false=>exact⟨h1.1.1.1,h1.1.1.2,h1.1.2,h1.2,h2,rfl,rfl⟩
   · rw[if_pos h2]at h;exact absurd h h2
def nzB(s:ByteArray):Bool:=!s.toList.isEmpty
theorem nzB_t{s:ByteArray}(h:nzB s=true):s.toList.isEmpty=false:=by unfold nzB at h;cases e:s.toList.isEmpty<;>simp_all
theorem nzB_f{s:ByteArray}(h:nzB s=false):s.toList.isEmpty=true:=by unfold nzB at h;cases e:s.toList.isEmpty<;>simp_all
theorem memB_nz(l:List ByteArray):memB l ⟨#[]⟩ = !(l.all nzB):=by
 induction l with
 | nil=>rfl
 | cons a l ih =>
  unfold memB at ih⊢;rw[List.any_cons,List.all_cons,ih,Bool.not_and];congr 1;unfold nzB;rw[Bool.not_not];have e:(⟨#[]⟩:ByteArray).toList=[]:=by rw[ByteArray.toList_eq]
  rw[e];cases a.toList<;>rfl
theorem rdy_form{M O:ByteArray}{els hs:List ByteArray}(h:(nvalid M&&nvalid O&&els.all nvalid&&hs.all nvalid)=false):rdyR M O els hs=3:=by unfold rdyR;rw[if_pos h]
theorem rdy_chk{M O:ByteArray}{els hs:List ByteArray}(h:(nvalid M&&nvalid O&&els.all nvalid&&hs.all nvalid)=true)(h2:chkK M O≠0):rdyR M O els hs=chkK M O:=by unfold rdyR;rw[h,if_neg (by decide),if_pos h2]
theorem rdy_has{M O:ByteArray}{els hs:List ByteArray}(h:(nvalid M&&nvalid O&&els.all nvalid&&hs.all nvalid)=true)(h2:chkK M O=0)(h3:els.all (fun x=>hasN (num M) (num O) (num x))=false):rdyR M O els hs=13:=by unfold rdyR;rw[h,if_neg (by decide),if_neg (fun c=>c h2),h3,if_pos rfl]
theorem rdy_nz{M O:ByteArray}{els hs:List ByteArray}(h:(nvalid M&&nvalid O&&els.all nvalid&&hs.all nvalid)=true)(h2:chkK M O=0)(h3:els.all (fun x=>hasN (num M) (num O) (num x))=true):rdyR M O els hs=if hs.all nzB=true then 0 else 11:=by
 unfold rdyR;rw[h,if_neg (by decide),if_neg (fun c=>c h2),h3,if_neg (by decide),memB_nz];cases hs.all nzB<;>rfl
theorem pr_one{M O a:ByteArray}(va:nvalid a=true)(hc:chkK M O=0)(ha:hasN (num M) (num O) (num a)=true){x:Int}(hx:x.natAbs<256 ^ 128) :
 prR M O [a] [(decide (x<0),nS x.natAbs)]=.tuple #[.string (nS (pz (num M) (num a) x)),.int .i64 0]:=by
 unfold prR;rw[if_pos (show ckR M O [a] [(decide (x<0),nS x.natAbs)] (decide ([a].length=[(decide (x<0),nS x.natAbs)].length))=0 from cka_one va (zvalid_all hx) hc ha)];have e:prV (num M) [a] [(decide (x<0),nS x.natAbs)]=pz (num M) (num a) x:=by
  show baseN (num a) (decide (x<0)) (num M) ^ (num (nS x.natAbs) / 2 ^ 0) * 1%num M=_;rw[num_nS,Nat.pow_zero,Nat.div_one,Nat.mul_one];rfl
 rw[e]
def ikC(N M O Z S:ByteArray)(A:Option Addr)(n c:Nat)(U H:ByteArray):Array Value:=#[.string N,.string M,.string O,.string Z,.string S,.slice A n c,.string U,.string H]
def BxC(W:World)(B:Nat)(cs:Array Value)(T:TypeId):Prop:=W.heap[B]? =some (.cells cs T (0,0))
theorem BxC.new(W:World)(cs:Array Value)(T:TypeId):BxC (W.alloc (.cells cs T)) W.heap.size cs T:=heap_alloc_new _ _
theorem BxC.kept{W W':World}{K B:Nat}{cs:Array Value}{T:TypeId}(h:BxC W B cs T)(hb:Below K W W')(hB:B<K):BxC W' B cs T:=(hb.block B hB).trans h
theorem BxC.lt{W:World}{B:Nat}{cs:Array Value}{T:TypeId}(h:BxC W B cs T):B<W.heap.size:=block_lt h
theorem BxC.next{W W':World}{B:Nat}{cs:Array Value}{T:TypeId}(h:BxC W B cs T)(hb:Below W.heap.size W W'):BxC W' B cs T:=h.kept hb h.lt
theorem BxC.cell{W:World}{B:Nat}{cs:Array Value}{T:TypeId}(h:BxC W B cs T)(k:Nat):W.cell? ⟨B,k,none⟩=cs[k]?:=by
 rw[Lib.cell_of_heap h]
theorem BxC.free{W:World}{B:Nat}{cs:Array Value}{T:TypeId}(h:BxC W B cs T)(k:Nat):W.frozen? ⟨B,k,none⟩=false:=Lib.frozen_of_heap h k
theorem BxC.set{W:World}{B k:Nat}{cs:Array Value}{T:TypeId}(h:BxC W B cs T)(u:Value):BxC (W.setCell ⟨B,k,none⟩ u) B (cs.setIfInBounds k u) T:=block_setCell h u
theorem BxC.other{W:World}{B C k:Nat}{cs:Array Value}{T:TypeId}(h:BxC W B cs T)(hne:B≠C)(u:Value):BxC (W.setCell ⟨C,k,none⟩ u) B cs T:=(heap_setCell_other _ _ _ _ hne).trans h
theorem BxC.alloc{W:World}{B:Nat}{cs:Array Value}{T:TypeId}(h:BxC W B cs T)(o:Obj):BxC (W.alloc o) B cs T:=h.kept ((blr).alloc nlr o) h.lt
theorem BxC.new1(W:World)(cs:Array Value)(T:TypeId)(o:Obj):BxC ((W.alloc o).alloc (.cells cs T)) (W.heap.size+1) cs T:=by
 have:=BxC.new (W.alloc o) cs T;rwa[World.size_alloc]at this
structure Dl where
 fr:Int
 «to» : Int
 ad:List ByteArray
 rm:List ByteArray
 be:ByteArray
 af:ByteArray
 sc:ByteArray
 sr:ByteArray
def Dl.arr(d:Dl)(a r:Value):Array Value:=#[.int .i64 d.fr,.int .i64 d.to,a,r,.string d.be,.string d.af,.string d.sc,.string d.sr]
def Dl.okN(d:Dl):Bool:=(d.ad++d.rm++[d.be,d.af]).all nvalid
def Dl.rng(d:Dl):Prop:=d.fr<0∨d.to≤d.fr∨4096<d.to
instance (d:Dl):Decidable d.rng:=by unfold Dl.rng;exact inferInstance
def Dl.twice(d:Dl):Bool:=!ascB d.ad || !ascB d.rm||d.ad.any (memB d.rm)
def Dl.low(d:Dl):Bool:=(d.ad++d.rm).any (fun x=>decide (num x<3))
def Dl.form(d:Dl):Int:=if d.okN=false then 3 else if d.rng then 2 else if d.twice=true then 8 else if d.low=true then 2 else 0
def SzL(l:List ByteArray):Prop:=∀ s∈l,s.size≤9223372036854775807
def Dl.str(d:Dl):List ByteArray:=d.ad++d.rm++[d.be,d.af,d.sc,d.sr]
theorem three_num:num ⟨#[3]⟩=3:=by decide
theorem three_ok:nvalid ⟨#[3]⟩=true:=by decide
theorem Dl.form_N{d:Dl}(h:d.okN=false):d.form=3:=by unfold Dl.form;rw[if_pos h]
theorem Dl.form_R{d:Dl}(h:d.okN=true)(h1:d.rng):d.form=2:=by unfold Dl.form;rw[if_neg (by rw[h];decide),if_pos h1]
theorem Dl.form_T{d:Dl}(h:d.okN=true)(h1:¬ d.rng)(h2:d.twice=true):d.form=8:=by unfold Dl.form;rw[if_neg (by rw[h];decide),if_neg h1,if_pos h2]
theorem Dl.form_L{d:Dl}(h:d.okN=true)(h1:¬ d.rng)(h2:d.twice=false)(h3:d.low=true):d.form=2:=by unfold Dl.form;rw[if_neg (by rw[h];decide),if_neg h1,if_neg (by rw[h2];decide),if_pos h3]
theorem Dl.form_0{d:Dl}(h:d.okN=true)(h1:¬ d.rng)(h2:d.twice=false)(h3:d.low=false):d.form=0:=by unfold Dl.form;rw[if_neg (by rw[h];decide),if_neg h1,if_neg (by rw[h2];decide),if_neg (by rw[h3];decide)]
theorem Dl.okN_no{d:Dl}{j:Nat}{y:ByteArray}(h:(d.ad++d.rm++[d.be,d.af])[j]? =some y)(hv:nvalid y=false):d.okN=false:=by
 cases h1:d.okN with
 | false=>rfl
 | true =>
  have:=List.all_eq_true.1 h1 y (List.mem_of_getElem? h);rw[hv]at this;cases this
theorem Dl.okN_all{d:Dl}(h:∀(i:Nat) y,(d.ad++d.rm++[d.be,d.af])[i]? =some y→nvalid y=true):d.okN=true:=by
 refine List.all_eq_true.2 (fun y hy=>?_);obtain⟨i,hi⟩:=List.getElem?_of_mem hy;exact h i y hi
theorem Dl.okN_mem{d:Dl}(h:d.okN=true){y:ByteArray}(hy:y∈d.ad++d.rm++[d.be,d.af]):nvalid y=true:=List.all_eq_true.1 h y hy
theorem Dl.okN_ad{d:Dl}(h:d.okN=true):∀ y∈d.ad,nvalid y=true:=fun y hy=>d.okN_mem h (by simp[hy])
theorem Dl.okN_rm{d:Dl}(h:d.okN=true):∀ y∈d.rm,nvalid y=true:=fun y hy=>d.okN_mem h (by simp[hy])
theorem Dl.twice_ad{d:Dl}(h:ascB d.ad=false):d.twice=true:=by unfold Dl.twice;rw[h];rfl
theorem Dl.twice_rm{d:Dl}(h:ascB d.rm=false):d.twice=true:=by unfold Dl.twice;rw[h];simp
theorem Dl.twice_any{d:Dl}(h:d.ad.any (memB d.rm)=true):d.twice=true:=by unfold Dl.twice;rw[h];simp
theorem Dl.twice_no{d:Dl}(h:ascB d.ad=true)(h1:ascB d.rm=true)(h2:d.ad.any (memB d.rm)=false):d.twice=false:=by unfold Dl.twice;rw[h,h1,h2];rfl
theorem Dl.low_no{d:Dl}(h:∀(i:Nat) y,i<d.ad.length+d.rm.length→(d.ad++d.rm++[d.be,d.af])[i]? =some y→¬ num y<3):d.low=false:=by
 refine any_take (fun i y hi=>decide_eq_false (h i y ?_ ?_))
 · have:=(List.getElem?_eq_some_iff.1 hi).1;simp at this;omega
 · have:=(List.getElem?_eq_some_iff.1 hi).1;rw[List.getElem?_append_left this];exact hi
set_option maxRecDepth 100000
set_option maxHeartbeats 4000000
theorem ep_form(d:Dl)(A A':Option Addr)(n c n' c':Nat)(w:World)(hs:SlN w A n c d.ad)(hs':SlN w A' n' c' d.rm)(hn:n≤400000)(hn':n'≤400000)(hz:SzL d.str):Calls Tryz.prog 87 #[.agg (d.arr (.slice A n c) (.slice A' n' c'))] w (Ret (.int .i64 d.form) w):=by
 obtain⟨W0,hW0⟩:=nm (w.alloc (.cells (d.arr (.slice A n c) (.slice A' n' c')) 50));have HX0:=Hq (show BxC W0 w.heap.size (d.arr (.slice A n c) (.slice A' n' c')) 50 from by rw[←hW0];exact BxC.new w _ _);have HB0:=Hq (show Below w.heap.size w W0 from by rw[←hW0];exact(blr).alloc nlr _);have HW0:=Hq (show w.heap.size+1=W0.heap.size from by rw[←hW0];simp);have HS:=Hq (hs.kept HB0.out nlr);have HS':=Hq (hs'.kept HB0.out nlr);have HZ:=Hq hz;have hc:=hs.2.1;have hc2:=hs.2.2.1;have hc':=hs'.2.1;have hc2':=hs'.2.2.1;have HN:=Hq hs.1;have HN':=Hq hs'.1;have x2:W0.cell? ⟨w.heap.size,2,none⟩=some (.slice A n c):=HX0.out.cell 2;have x3:W0.cell? ⟨w.heap.size,3,none⟩=some (.slice A' n' c'):=HX0.out.cell 3;clear hs hs' hz;unfold Dl.arr at hW0⊢;go_enter Tryz.func87,Tryz.ntmps87;go_wp2_with fail;have HCC:=Hq (sl_Concat d.ad d.rm A A' n c n' c' W0.heap.size (W0.alloc (.cells #[.slice A n c,.slice A' n' c'] 25)) (HS.out.kept ((blr).alloc nlr _) nlr) (HS'.out.kept ((blr).alloc nlr _) nlr) (by omega) (by omega) ((BxC.new W0 _ _).cell 0) ((BxC.new W0 _ _).cell 1));refine HCC.out.mono ?_;rintro e w1 ⟨v1,rfl,hown,hb⟩;obtain⟨hl1,A1,c1,rfl,hs1⟩:=SlN.of_owns hown;have HB1:=Hq (((Below.refl W0.heap.size W0).alloc nlr _).trans (hb.mono (by simp)));have HS1:=Hq hs1;have HX1:=Hq (HX0.out.kept HB1.out HX0.out.lt);have x4:w1.cell? ⟨w.heap.size,4,none⟩=some (.string d.be):=HX1.out.cell 4;have x5:w1.cell? ⟨w.heap.size,5,none⟩=some (.string d.af):=HX1.out.cell 5;have hc1:=hs1.2.1;have hc12:=hs1.2.2.1;clear hown hb hs1 hl1 HCC x2 x3;go_wp2_with fail;have HCC:=Hq (sl_Concat (d.ad++d.rm) [d.be,d.af] A1 (some ⟨w1.heap.size,0,none⟩) (n+n') c1 2 2 (w1.heap.size+1) ((w1.alloc (.cells #[.string d.be,.string d.af] 22)).alloc (.cells #[.slice A1 (n+n') c1,.slice (some ⟨w1.heap.size,0,none⟩) 2 2] 25))
  (HS1.out.kept (((blr).alloc nlr _).alloc (by simp) _) nlr) ((SlN.new w1 [d.be,d.af] 22 (by simp)).kept ((blr).alloc nlr _) nlr) (by omega) (by omega) ((BxC.new1 w1 _ _ _).cell 0) ((BxC.new1 w1 _ _ _).cell 1))
 refine HCC.out.mono ?_;rintro e w3 ⟨v3,rfl,hown,hb⟩;obtain⟨hl3,A3,c3,rfl,hs3⟩:=SlN.of_owns hown;have HL3:=Hq hl3;have HS3:=Hq hs3;have HB13:=Hq (show Below w1.heap.size w1 w3 from(((Below.refl w1.heap.size w1).alloc nlr _).alloc (by simp) _).trans (hb.mono (by simp;omega)));have HB3:=bTr HB1 HB13.out;have HX3:=Hq (HX0.out.kept HB3.out HX0.out.lt);have HS13:=Hq (HS1.out.kept HB13.out nlr);have HBT:=bTr HB0 HB3.out;have HSA:=Hq (HS.out.kept HB3.out nlr);have HSR:=Hq (HS'.out.kept HB3.out nlr);have hc3:=hs3.2.1;have hc32:=hs3.2.2.1;have q0:w3.cell? ⟨w.heap.size,0,none⟩=some (.int .i64 d.fr):=HX3.out.cell 0;have q1:w3.cell? ⟨w.heap.size,1,none⟩=some (.int .i64 d.to):=HX3.out.cell 1;have q2:w3.cell? ⟨w.heap.size,2,none⟩=some (.slice A n c):=HX3.out.cell 2;have q3:w3.cell? ⟨w.heap.size,3,none⟩=some (.slice A' n' c'):=HX3.out.cell 3;clear hown hb hs3 hl3 x4 x5 hW0 HCC;obtain⟨L,hL⟩:=nm (d.ad++d.rm++[d.be,d.af]);rw[hL]at HL3 HS3;have HLE:=Hq hL;have HZL:=Hq (show SzL L from fun s hs=>HZ.out s (by rw[←hL]at hs;unfold Dl.str;simp only[List.mem_append,List.mem_cons,List.mem_nil_iff,or_false]at hs⊢;rcases hs with(h | h) | h | h<;>simp[h]));clear hL;go_wp2
 go_loop [22] (fun k=>∃ j:Nat,j≤n+n'+2∧k=.int .i64 j∧(∀(i:Nat) y,i<j→L[i]? =some y→nvalid y=true)) (fun k=>n+n'+2 - (intOf k).toNat)
 case atStart=>exact⟨0,Nat.zero_le _,rfl,fun i u h=>absurd h (Nat.not_lt_zero _)⟩
 case round =>
  obtain⟨j,hj,rfl,hall⟩:=hrel;have HALL:=Hq hall;clear hall;by_cases hlt:j<n+n'+2
  · obtain⟨y,he⟩:∃ y,L[j]? =some y:=⟨_,List.getElem?_eq_getElem (by rw[HL3.out];exact hlt)⟩;obtain⟨b,o,rfl,e1⟩:=HS3.out.cell he;have hy:=HZL.out y (List.mem_of_getElem? he);have HC:=Hq (nat_Valid y hy w3);have HE:=Hq he;clear he hy;go_wp2_with fail;refine HC.out.mono ?_;rintro e w4 ⟨rfl,rfl⟩
    cases hh:nvalid y with
    | false =>
     have HF:=Hq (Dl.form_N (Dl.okN_no (by rw[HLE.out];exact HE.out) hh));clear hh;go_wp2;go_ret;exact⟨by rw[HF.out];rfl,HBT.out⟩
    | true =>
     have HA2:=Hq (show ∀(i:Nat) u,i<j+1→L[i]? =some u→nvalid u=true from fun i u hi hu=>by
      rcases Nat.lt_or_ge i j with h | h
      · exact HALL.out i u h hu
      · obtain rfl:i=j:=by omega
        rw[HE.out]at hu;cases hu;exact hh)
     clear hh;go_wp2;go_round;case rel=>exact⟨j+1,by omega,by go_num,HA2.out⟩
     case measure=>simp[intOf];omega
  · obtain rfl:j=n+n'+2:=by omega
    have HOK:=Hq (show d.okN=true from Dl.okN_all (fun i y h=>HALL.out i y (by rw[HLE.out]at h;have:=(List.getElem?_eq_some_iff.1 h).1;have:=HL3.out;omega) (by rw[←HLE.out];exact h)));clear hlt hj;by_cases h1:d.fr<0
    · have HF:=Hq (Dl.form_R HOK.out (.inl h1));have g1:decide (d.fr<0)=true:=decide_eq_true h1;go_wp2;go_ret;exact⟨by rw[HF.out];rfl,HBT.out⟩
    · have g1:decide (d.fr<0)=false:=decide_eq_false h1;by_cases h2:d.to≤d.fr
      · have HF:=Hq (Dl.form_R HOK.out (.inr (.inl h2)));have g2:decide (d.to≤d.fr)=true:=decide_eq_true h2;go_wp2;go_ret;exact⟨by rw[HF.out];rfl,HBT.out⟩
      · have g2:decide (d.to≤d.fr)=false:=decide_eq_false h2;by_cases h3:4096<d.to
        · have HF:=Hq (Dl.form_R HOK.out (.inr (.inr h3)));have g3:decide (4096<d.to)=true:=decide_eq_true h3;go_wp2;go_ret;exact⟨by rw[HF.out];rfl,HBT.out⟩
        · have g3:decide (4096<d.to)=false:=decide_eq_false h3;have HNR:=Hq (show ¬ d.rng from fun h=>by rcases h with h | h | h<;>contradiction);go_wp2_with fail;refine(ep_ascends d.ad A n c w3 HSA.out (Dl.okN_ad HOK.out)).mono ?_;rintro e w4 ⟨rfl,hb⟩;have HB4:=Hq hb;have HBU:=bTr HBT hb;have r3:w4.cell? ⟨w.heap.size,3,none⟩=some (.slice A' n' c'):=kc hb q3;have r2:w4.cell? ⟨w.heap.size,2,none⟩=some (.slice A n c):=kc hb q2;clear hb
          cases ha:ascB d.ad with
          | false =>
           have HF:=Hq (Dl.form_T HOK.out HNR.out (Dl.twice_ad ha));clear ha;go_wp2;go_ret;exact⟨by rw[HF.out];rfl,HBU.out⟩
          | true =>
           have HA:=Hq ha;clear ha;go_wp2_with fail;refine(ep_ascends d.rm A' n' c' w4 (HSR.out.kept HB4.out nlr) (Dl.okN_rm HOK.out)).mono ?_;rintro e w5 ⟨rfl,hb⟩;have HB5:=bTr HB4 hb;have HBV:=bTr HBT HB5.out;clear hb r3 r2
           cases ha:ascB d.rm with
           | false =>
            have HF:=Hq (Dl.form_T HOK.out HNR.out (Dl.twice_rm ha));clear ha;go_wp2;go_ret;exact⟨by rw[HF.out];rfl,HBV.out⟩
           | true =>
            have HR:=Hq ha;have r2:w5.cell? ⟨w.heap.size,2,none⟩=some (.slice A n c):=kc HB5.out q2;clear ha h1 h2 h3 g1 g2 g3;go_wp2_with fail;refine(sl_ContainsFunc1 d.ad A n c w.heap.size (memB d.rm) w5 (HSA.out.kept HB5.out nlr) (fun x hx W hW=>ep_form1 x w.heap.size d.rm A' n' c' W (cell_kept (HB5.out.trans (hW.mono HB5.out.size)) nlr q3) (HSR.out.kept (HB5.out.trans (hW.mono HB5.out.size)) nlr))).mono ?_;rintro e w6 ⟨rfl,hb⟩;have HB6:=bTr HB5 hb;have HBX:=bTr HBT HB6.out;clear hb r2
            cases ha:d.ad.any (memB d.rm)with
            | true =>
             have HF:=Hq (Dl.form_T HOK.out HNR.out (Dl.twice_any ha));clear ha;go_wp2;go_ret;exact⟨by rw[HF.out];rfl,HBX.out⟩
            | false =>
             have HT:=Hq (show d.twice=false from Dl.twice_no HA.out HR.out ha);clear ha;go_wp2_with fail;refine(nat_Of 3 (by decide) w6).mono ?_;rintro e w7 ⟨rfl,hb⟩;rw[show bstr (encN 3)=⟨#[3]⟩from by decide];have HB7:=bTr HB6 hb;clear hb;go_wp2_with fail;have HP:=Hq (sl_ContainsFunc2 (d.ad++d.rm) A1 (n+n') c1 w7.heap.size (fun x=>decide (num x<3)) (w7.alloc (.cells #[.string ⟨#[3]⟩] 22)) (HS13.out.kept (HB7.out.alloc HB7.out.size _) nlr) (fun x hx W hW=>by
              have h:=ep_form2 x w7.heap.size ⟨#[3]⟩ W (((BxC.new w7 #[.string ⟨#[3]⟩] 22).kept hW (by simp)).cell 0) (Dl.okN_mem HOK.out (by simp only[List.mem_append]at hx⊢;exact .inl hx)) three_ok
              rwa[three_num]at h))
             refine HP.out.mono ?_;rintro e w8 ⟨rfl,hb⟩;have HBY:=Hq (HBT.out.trans (((HB7.out.alloc HB7.out.size _).trans (hb.mono (by have:=HB7.out.size;simp;omega))).mono HBT.out.size));clear hb;have HLO:=Hq (show (d.ad++d.rm).any (fun x=>decide (num x<3))=d.low from rfl);rw[HLO.out]
             cases ha:d.low with
             | true =>
              have HF:=Hq (Dl.form_L HOK.out HNR.out HT.out ha);clear ha;go_wp2;go_ret;exact⟨by rw[HF.out];rfl,HBY.out⟩
             | false =>
              have HF:=Hq (Dl.form_0 HOK.out HNR.out HT.out ha);clear ha;go_wp2;go_ret;exact⟨by rw[HF.out];rfl,HBY.out⟩
end Go.Proofs.YtmahgbhpdfbbjaaGreatDoor

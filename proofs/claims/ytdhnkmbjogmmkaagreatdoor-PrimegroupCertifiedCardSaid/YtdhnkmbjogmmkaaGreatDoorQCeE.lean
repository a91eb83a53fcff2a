import Derived.Test.YtdhnkmbjogmmkaaGreatDoorQPeA
import Derived.Test.YtdhnkmbjogmmkaaGreatDoorQCeD
set_option linter.unusedVariables false
set_option linter.unusedSimpArgs false
namespace Go.Proofs.YtdhnkmbjogmmkaaGreatDoor
set_option maxRecDepth 100000
set_option maxHeartbeats 1000000
open Go.RowKit
theorem nat_GcdA(x y:Nat)(hx:x<256 ^ 128)(hy:y<256 ^ 128)(w:World):Calls Tryz.prog 94 #[.string (nS x),.string (nS y)] w (Ret (.tuple #[.string (nS (Nat.gcd x y)),.int .i64 0]) w):=by
 have HV1:=Hq (nat_Valid (nS x) (by have:=nS_size_le.2 hx;omega));have HV2:=Hq (nat_Valid (nS y) (by have:=nS_size_le.2 hy;omega));rw[nvalid_nS.2 hx]at HV1;rw[nvalid_nS.2 hy]at HV2;have HX:=Hq hx;have HY:=Hq hy;have HD:=Hq (fun p q (hp:p<256 ^ 128) (hq:q<256 ^ 128) (h0:0<q)=>nat_dividedA p q hp hq h0);clear hx hy;go_enter Tryz.func94,Tryz.ntmps94;go_wp2_with fail;refine(HV1.out _).mono ?_;rintro e w1 ⟨rfl,rfl⟩;go_wp2_with fail;refine(HV2.out _).mono ?_;rintro e w1 ⟨rfl,rfl⟩;go_wp2;go_loopw [0,1] (fun a b wr=>∃ p q:Nat,a=.string (nS p)∧b=.string (nS q)∧p<256 ^ 128∧q<256 ^ 128∧Nat.gcd p q=Nat.gcd x y∧Below w.heap.size w wr) (fun _ b _=>svN b);case atStart=>exact⟨x,y,rfl,rfl,HX.out,HY.out,rfl,Below.refl _ _⟩
 case round =>
  obtain⟨p,q,rfl,rfl,hp,hq,hg,hbw⟩:=hrel;have HBW:=Hq hbw;have HG:=Hq hg;have HP:=Hq hp;have HQ:=Hq hq;clear hbw hg hp hq;rcases Nat.eq_zero_or_pos q with h0 | h0
  · have HG0:=Hq (show Nat.gcd x y=p from by rw[←HG.out,h0,Nat.gcd_zero_right]);rw[h0,nS_zero];clear h0;go_wp2;go_ret2;exact⟨by rw[HG0.out];rfl,HBW.out⟩
  · have hem:=empty_nS h0;have HML:=Hq (Nat.mod_lt p h0);have HDD:=Hq (HD.out p q HP.out HQ.out h0);clear h0;go_wp2_with fail;refine(HDD.out _).mono ?_;rintro e w2 ⟨rfl,hb2⟩;have HB2:=Hq (HBW.out.trans (hb2.mono HBW.out.size));clear hb2;go_wp2;go_roundw;case rel=>exact⟨q,p%q,rfl,rfl,HQ.out,Nat.lt_trans HML.out HQ.out,gcd_next HG.out,HB2.out⟩
    case measure=>rw[svN_nS,svN_nS];exact HML.out
section
variable {P : Program} {ops : Array Oper} {Q : Exit → Act → World → Prop} {md : Region.Mode} {S : World → Prop} {k : Nat}
def Ghost2(P:Program)(md:Region.Mode)(ops:Array Oper)(Q:Exit→Act→World→Prop)(k:Nat)(S:World→Prop)(i1 i2:Nat)(d1 d2:Tmp)(fuel:Nat)(listed:Array Bool)(a:Act)(I:Bool→Value→Bool→Value→World→Prop):Prop:=
 (∀ y,GhostK P md ops Q k S i1 d1 fuel (listed.setIfInBounds i2 true) (a.put (some d2) y) (fun b x w=>I b x true y w))∧GhostK P md ops Q k S i1 d1 (fuel+1) listed a (fun b x w=>I b x false undef w)
theorem put_comm2(a:Act)(x v:Value){d e:Tmp}(h:d≠e):(a.put (some d) x).put (some e) v=(a.put (some e) v).put (some d) x:=Act.put_comm a x v (fun d' h1 h2=>by cases h1;cases h2;exact h rfl)
theorem ghost2_step{i1 i2 j:Nat}{o1 o2 oj:Oper}{d1 d2 dj:Tmp}{fuel:Nat}{listed:Array Bool}{a:Act}{I:Bool→Value→Bool→Value→World→Prop}{β:Type}(val:β→Value)(I':β→Bool→Value→Bool→Value→World→Prop)
 (hr0:Region.ready md ops listed=[j,i1,i2]) (hr1:Region.ready md ops (listed.setIfInBounds i1 true)=[j,i2]) (hr2:Region.ready md ops (listed.setIfInBounds i2 true)=[j,i1]) (hr3:Region.ready md ops ((listed.setIfInBounds i2 true).setIfInBounds i1 true)=[j])
 (h1:ops[i1]? =some o1) (h2:ops[i2]? =some o2) (hj:ops[j]? =some oj) (hD:Down md ops listed) (ha1:a.put (some d1) undef=a) (ha2:a.put (some d2) undef=a) (hne:i1≠i2) (hn1:i1≠j) (hn2:i2≠j) (n12:d1≠d2) (n1j:d1≠dj) (n2j:d2≠dj)
 (hS:∀ b x c y w,I b x c y w→S w) (hS':∀ v b x c y w,I' v b x c y w→S w)
 (al1:∀ c y w,I false undef c y w→∀ K:Act→World→Prop,(∀ x w',I true x c y w'→K ((a.put (some d2) y).put (some d1) x) w')→wpList P ops (EndK K Q) [o1] (a.put (some d2) y) w)
 (al2:∀ b x w,I b x false undef w→∀ K:Act→World→Prop,(∀ y w',I b x true y w'→K ((a.put (some d1) x).put (some d2) y) w')→wpList P ops (EndK K Q) [o2] (a.put (some d1) x) w)
 (st:∀ b x c y w,I b x c y w→∀ K:Act→World→Prop,(∀ v w',I' v b x c y w'→K (((a.put (some d2) y).put (some d1) x).put (some dj) (val v)) w')→wpList P ops (EndK K Q) [oj] ((a.put (some d2) y).put (some d1) x) w)
 (hnext:∀ v,Down md ops (listed.setIfInBounds j true)→Ghost2 P md ops Q k S i1 i2 d1 d2 fuel (listed.setIfInBounds j true) (a.put (some dj) (val v)) (I' v)) :
 Ghost2 P md ops Q k S i1 i2 d1 d2 (fuel+1) listed a I:=by
 have m1:i1∈Region.ready md ops listed:=by rw[hr0];simp
 have m2:i2∈Region.ready md ops listed:=by rw[hr0];simp
 have mj:j∈Region.ready md ops listed:=by rw[hr0];simp
 have hDj:=hD.set mj;have first:∀ y,GhostK P md ops Q k S i1 d1 (fuel+1) (listed.setIfInBounds i2 true) (a.put (some d2) y) (fun b x w=>I b x true y w):=fun y=>by
  refine ghost_step val (fun v b x w=>I' v b x true y w) hr2 hr3 h1 hj (hD.set m2) (by rw[put_comm2 _ _ _ n12.symm,ha1]) n1j (fun v b x w h=>hS' _ _ _ _ _ _ h) (fun b x w h=>hS _ _ _ _ _ h) (fun w h K hK=>al1 true y w h K hK) (fun b x w h K hK=>st b x true y w h K hK) (fun v _=>?_);have h:=(hnext v hDj).1 y;rw[put_comm2 _ _ _ n2j,Array.setIfInBounds_comm _ _ hn2];exact h
 have only1:∀ x w,I true x false undef w→wpAnyK P md ops Q k S (fuel+2) (listed.setIfInBounds i1 true) (a.put (some d1) x) w:=fun x w h=>by
  refine wpAnyK_two hr1 hj h2 (hD.set m1) (fun K hK=>?_) (fun K hK=>?_)
  · have h3:=st true x false undef w h K fun v w' h'=>by
     rw[ha2];refine hK _ w' (hS' _ _ _ _ _ _ h') fun _ _=>?_;rw[put_comm2 _ _ _ n1j,Array.setIfInBounds_comm _ _ hn1];exact(hnext v hDj).2.1 x w' h'
    rw[ha2]at h3;exact h3
  · exact al2 true x w h K fun y w' h'=>hK _ w' (hS _ _ _ _ _ h') fun _ _=>by
     rw[put_comm2 _ _ _ n12,Array.setIfInBounds_comm _ _ hne];exact(first y).1 x w' h'
 refine⟨first,only1,fun w h=>?_⟩;refine wpAnyK_three hr0 hj h1 h2 hD (fun K hK=>?_) (fun K hK=>?_) (fun K hK=>?_)
 · have h3:=st false undef false undef w h K fun v w' h'=>by
    rw[ha2,ha1];exact hK _ w' (hS' _ _ _ _ _ _ h') fun _ _=>(hnext v hDj).2.2 w' h'
   rw[ha2,ha1]at h3;exact h3
 · have h3:=al1 false undef w h K fun x w' h'=>by
    rw[ha2];exact hK _ w' (hS _ _ _ _ _ h') fun _ _=>only1 x w' h'
   rw[ha2]at h3;exact h3
 · have h3:=al2 false undef w h K fun y w' h'=>by
    rw[ha1];exact hK _ w' (hS _ _ _ _ _ h') fun _ _=>(first y).2 w' h'
   rw[ha1]at h3;exact h3
theorem ghost2_end{i1 i2:Nat}{o1 o2:Oper}{d1 d2:Tmp}{fuel:Nat}{listed:Array Bool}{a:Act}{I:Bool→Value→Bool→Value→World→Prop}
 (hr0:Region.ready md ops listed=[i1,i2]) (hr2:Region.ready md ops (listed.setIfInBounds i2 true)=[i1])
 (h1:ops[i1]? =some o1) (h2:ops[i2]? =some o2) (hD:Down md ops listed) (ha1:a.put (some d1) undef=a) (ha2:a.put (some d2) undef=a) (hne:i1≠i2) (n12:d1≠d2)
 (hS:∀ b x c y w,I b x c y w→S w)
 (al1:∀ c y w,I false undef c y w→∀ K:Act→World→Prop,(∀ x w',I true x c y w'→K ((a.put (some d2) y).put (some d1) x) w')→wpList P ops (EndK K Q) [o1] (a.put (some d2) y) w)
 (al2:∀ b x w,I b x false undef w→∀ K:Act→World→Prop,(∀ y w',I b x true y w'→K ((a.put (some d1) x).put (some d2) y) w')→wpList P ops (EndK K Q) [o2] (a.put (some d1) x) w)
 (hnext:∀ x,Down md ops (listed.setIfInBounds i1 true)→GhostK P md ops Q k S i2 d2 fuel (listed.setIfInBounds i1 true) (a.put (some d1) x) (fun c y w=>I true x c y w)) :
 Ghost2 P md ops Q k S i1 i2 d1 d2 fuel listed a I:=by
 have m1:i1∈Region.ready md ops listed:=by rw[hr0];simp
 have m2:i2∈Region.ready md ops listed:=by rw[hr0];simp
 have hD1:=hD.set m1;have both:∀ x y w,I true x true y w→wpAnyK P md ops Q k S fuel ((listed.setIfInBounds i2 true).setIfInBounds i1 true) ((a.put (some d2) y).put (some d1) x) w:=fun x y w h=>by
  have h3:=(hnext x hD1).1 y w h;rw[put_comm2 _ _ _ n12,Array.setIfInBounds_comm _ _ hne]at h3;exact h3
 have only2:∀ y w,I false undef true y w→wpAnyK P md ops Q k S (fuel+1) (listed.setIfInBounds i2 true) (a.put (some d2) y) w:=fun y w h =>
  wpAnyK_one hr2 h1 (hD.set m2) fun K hK=>al1 true y w h K fun x w' h'=>hK _ w' (hS _ _ _ _ _ h') fun _ _=>both x y w' h'
 refine⟨fun y=>⟨fun x w h=>both x y w h,fun w h=>only2 y w h⟩,fun x w h=>(hnext x hD1).2 w h,fun w h=>?_⟩;refine wpAnyK_two hr0 h1 h2 hD (fun K hK=>?_) (fun K hK=>?_)
 · have h3:=al1 false undef w h K fun x w' h'=>by
    rw[ha2];exact hK _ w' (hS _ _ _ _ _ h') fun _ _=>(hnext x hD1).2 w' h'
   rw[ha2]at h3;exact h3
 · have h3:=al2 false undef w h K fun y w' h'=>by
    rw[ha1];exact hK _ w' (hS _ _ _ _ _ h') fun _ _=>only2 y w' h'
   rw[ha1]at h3;exact h3
end
set_option maxRecDepth 100000
set_option maxHeartbeats 4000000
theorem any_takeP{l:List ByteArray}{p:ByteArray→Bool}(h:∀(i:Nat) y,l[i]? =some y→p y=false):l.any p=false:=by
 rw[List.any_eq_false];intro x hx;obtain⟨i,hi⟩:=List.getElem?_of_mem hx;rw[h i x hi];decide
theorem any_atP{l:List ByteArray}{p:ByteArray→Bool}{i:Nat}{y:ByteArray}(hi:l[i]? =some y)(h:p y=true):l.any p=true:=by
 rw[List.any_eq_true];exact⟨y,List.mem_of_getElem? hi,h⟩
def RetKP(b:Bool)(w:World)(e:Ending)(w':World):Prop:=∃ k:Int,e=.returned (.int .i64 k)∧decide (0≤k)=b∧Below w.heap.size w w'
theorem sl_IndexFuncP(l:List ByteArray)(A:Option Addr)(len cap B1 B2 B3 B4:Nat)(p:ByteArray→Bool)(w:World)(hs:SlN w A len cap l)(hp:∀ x∈l,∀ W,Below w.heap.size w W→Calls Tryz.prog 93 #[.string x,.pointer (some ⟨B1,0,none⟩),.pointer (some ⟨B2,0,none⟩),.pointer (some ⟨B3,0,none⟩),.pointer (some ⟨B4,0,none⟩)] W (Ret (.bool (p x)) W)) :
 Calls Tryz.prog 122 #[.slice A len cap,.func (.func 93) #[] #[.pointer (some ⟨B1,0,none⟩),.pointer (some ⟨B2,0,none⟩),.pointer (some ⟨B3,0,none⟩),.pointer (some ⟨B4,0,none⟩)]] w (RetKP (l.any p) w):=by
 have HS:=Hq hs;have HP:=Hq hp;have HLEN:=Hq hs.1;have hcap:=hs.2.1;have hcap2:=hs.2.2.1;clear hs hp;go_enter Tryz.func122,Tryz.ntmps122;go_wp2;go_loopw [8] (fun k wr=>∃ j:Nat,j≤len∧k=.int .i64 j∧(∀(i:Nat) y,i<j→l[i]? =some y→p y=false)∧Below w.heap.size w wr) (fun k _=>len - (intOf k).toNat);case atStart=>exact⟨0,Nat.zero_le _,rfl,fun i u h=>absurd h (Nat.not_lt_zero _),Below.refl _ _⟩
 case round =>
  obtain⟨j,hj,rfl,hall,hB⟩:=hrel;have HALL:=Hq hall;have HB:=Hq hB;clear hall hB;by_cases hlt:j<len
  · obtain⟨y,he⟩:∃ y,l[j]? =some y:=⟨_,List.getElem?_eq_getElem (by rw[HLEN.out];exact hlt)⟩;obtain⟨b,o,rfl,e0⟩:=HS.out.cellP he;have e1:=kc HB.out e0;have HC:=Hq (HP.out y (List.mem_of_getElem? he) wr HB.out);have HE:=Hq he;clear he e0;go_wp2_with fail;refine HC.out.mono ?_;rintro e w1 ⟨rfl,hb1⟩;have HB1:=Hq (HB.out.trans (hb1.mono HB.out.size));clear hb1
    cases hh:p y with
    | true =>
     have HM:=Hq (any_atP HE.out hh);clear hh;go_wp2;go_ret;exact⟨j,rfl,by rw[HM.out];exact decide_eq_true (by omega),HB1.out⟩
    | false =>
     have HA2:=Hq (show ∀(i:Nat) y,i<j+1→l[i]? =some y→p y=false from fun i u hi hu=>by
      rcases Nat.lt_or_ge i j with a | a
      · exact HALL.out i u a hu
      · obtain rfl:i=j:=by omega
        rw[HE.out]at hu;cases hu
        exact hh)
     clear hh;go_wp2;go_roundw;case rel=>exact⟨j+1,by omega,by go_num,HA2.out,HB1.out⟩
     case measure=>simp[intOf];omega
  · obtain rfl:j=len:=by omega
    have HM:=Hq (show l.any p=false from any_takeP (fun i y h=>HALL.out i y (by have:=(List.getElem?_eq_some_iff.1 h).1;have:=HLEN.out;omega) h));clear hlt hj;go_wp2;go_ret;exact⟨-1,rfl,by rw[HM.out];rfl,HB.out⟩
theorem sl_ContainsFuncP(l:List ByteArray)(A:Option Addr)(len cap B1 B2 B3 B4:Nat)(p:ByteArray→Bool)(w:World)(hs:SlN w A len cap l)(hp:∀ x∈l,∀ W,Below w.heap.size w W→Calls Tryz.prog 93 #[.string x,.pointer (some ⟨B1,0,none⟩),.pointer (some ⟨B2,0,none⟩),.pointer (some ⟨B3,0,none⟩),.pointer (some ⟨B4,0,none⟩)] W (Ret (.bool (p x)) W)) :
 Calls Tryz.prog 92 #[.slice A len cap,.func (.func 93) #[] #[.pointer (some ⟨B1,0,none⟩),.pointer (some ⟨B2,0,none⟩),.pointer (some ⟨B3,0,none⟩),.pointer (some ⟨B4,0,none⟩)]] w (Ret (.bool (l.any p)) w):=by
 have HC:=Hq (sl_IndexFuncP l A len cap B1 B2 B3 B4 p w hs hp);clear hs hp;go_enter Tryz.func92,Tryz.ntmps92;go_wp2_with fail;refine HC.out.mono ?_;rintro e w1 ⟨k,rfl,hk,hb⟩;have HK:=Hq hk;have HB:=Hq hb;clear hk hb;go_wp2;go_ret;exact⟨by rw[←HK.out];rfl,HB.out⟩
def badN(n b f:Nat):Bool:=decide (b ^ ((n - 1) / f)%n=0)||decide (¬ Nat.gcd (b ^ ((n - 1) / f)%n - 1) n=1)
structure PrB (W:World) (B1 B2 B3 B4 n b:Nat):Prop where
 m:W.cell? ⟨B1,0,none⟩=some (.string (nS (n - 1)))
 b:W.cell? ⟨B2,0,none⟩=some (.string (nS b))
 n:W.cell? ⟨B3,0,none⟩=some (.string (nS n))
 o:W.cell? ⟨B4,0,none⟩=some (.string (nS 1))
theorem PrB.kept{W W':World}{B1 B2 B3 B4 n b:Nat}(h:PrB W B1 B2 B3 B4 n b)(hb:Below W.heap.size W W'):PrB W' B1 B2 B3 B4 n b:=
 ⟨kc hb h.m,kc hb h.b,kc hb h.n,kc hb h.o⟩
theorem ce_proves1(n b f B1 B2 B3 B4:Nat)(h2:2≤n)(hn:n<256 ^ 128)(hb:b<256 ^ 128)(hf:2≤f)(hf2:f<256 ^ 128)(w:World)(hx:PrB w B1 B2 B3 B4 n b):Calls Tryz.prog 93 #[.string (nS f),.pointer (some ⟨B1,0,none⟩),.pointer (some ⟨B2,0,none⟩),.pointer (some ⟨B3,0,none⟩),.pointer (some ⟨B4,0,none⟩)] w (Ret (.bool (badN n b f)) w):=by
 have HD:=Hq (ce_divide (n - 1) f (by omega) hf2 (by omega));have he:(n - 1) / f<256 ^ 128:=Nat.lt_of_le_of_lt (Nat.div_le_self _ _) (by omega);have HE:=Hq (mod_ExpA b ((n - 1) / f) n hb he hn (by omega));have HX:=Hq hx;have HML:=Hq (Nat.mod_lt (b ^ ((n - 1) / f)) (show 0<n by omega));obtain⟨y,hy⟩:∃ y,b ^ ((n - 1) / f)%n=y:=⟨_,rfl⟩;rw[hy]at HE HML;have HBN:=Hq (show badN n b f=(decide (y=0)||decide (¬ Nat.gcd (y - 1) n=1))from by unfold badN;rw[hy]);have HZE:=Hq (nS_empty_dec y);have HN:=Hq hn;obtain⟨E,hE⟩:∃ E,(n - 1) / f=E:=⟨_,rfl⟩;obtain⟨Q,hQ⟩:∃ Q,decide ((n - 1)%f=0)=Q:=⟨_,rfl⟩;rw[hE,hQ]at HD;rw[hE]at HE;have b1:=hx.m;have b2:=hx.b;have b3:=hx.n;clear hx he hn hb hf hf2 h2 hy hE hQ;go_enter Tryz.func93,Tryz.ntmps93;go_wp2_with fail;refine(HD.out _).mono ?_;rintro e w1 ⟨rfl,hb1⟩;have HB1:=Hq hb1;have HX1:=Hq (HX.out.kept hb1);clear hb1 b1 b2 b3;have b2:=HX1.out.b;have b3:=HX1.out.n;go_wp2_with fail;refine(HE.out _).mono ?_;rintro e w2 ⟨rfl,hb2⟩;have HB2:=Hq (HB1.out.trans (hb2.mono HB1.out.size));have HX2:=Hq (HX1.out.kept hb2);clear hb2 b2 b3;by_cases h0:y=0
 · have hz:(nS y).toList.isEmpty=true:=by rw[HZE.out,decide_eq_true h0]
   have HR:=Hq (show badN n b f=true from by rw[HBN.out,decide_eq_true h0,Bool.true_or]);clear h0;go_wp2;go_ret;exact⟨by show Ending.returned (.bool true)=_;rw[HR.out],HB2.out⟩
 · have hz:(nS y).toList.isEmpty=false:=by rw[HZE.out,decide_eq_false h0]
   have HR:=Hq (show badN n b f=decide (¬ Nat.gcd (y - 1) n=1)from by rw[HBN.out,decide_eq_false h0,Bool.false_or]);have HL:=Hq (ce_less y (by omega) (Nat.lt_trans HML.out HN.out));have HG:=Hq (nat_GcdA (y - 1) n (by have:=HML.out;have:=HN.out;omega) HN.out);clear h0;go_wp2;obtain⟨wd,hwd⟩:∃ wd,w2.drew=wd:=⟨_,rfl⟩;have hbd:Below w2.heap.size w2 wd:=by rw[←hwd];exact(blr).drew
   have HXD:=Hq (HX2.out.kept hbd);have HBD:=Hq (HB2.out.trans (hbd.mono HB2.out.size));clear hbd;have b3:=HXD.out.n;refine wp_region_K 9 (Below (wd).heap.size (wd)) (by kernel_rfl) ?_;intro hD;rw[hwd];refine rP 0 29 8 rfl hD blr ?_;clear hD;intro hD;refine rT 2 31 7 rfl hD blr (by intro w' hS';have e0:=kC hS' b3;go_simp;with_reducible rfl) ?_;clear hD;intro hD;simp only[Act.put,sqA,sqB,sqC];refine rO 1 6 rfl hD ?_;clear hD;intro K1 hK1;go_wp2_with fail;refine(HL.out _).mono ?_;rintro ev w3 ⟨rfl,hb⟩;have HB1:=Hq hb;clear hb;go_wp2;refine hK1 _ _ (by exact HB1.out) ?_;clear hK1;intro hS_5_1 hD;refine rO 3 5 rfl hD ?_;clear hD;intro K3 hK3;go_wp2_with fail;refine(HG.out _).mono ?_;rintro ev w4 ⟨rfl,hb⟩;have HB3:=Hq hb;clear hb;go_wp2;refine hK3 _ _ (by exact Below.trans hS_5_1 (Below.mono HB3.out (Below.size hS_5_1))) ?_;clear hK3;intro hS_5_3 hD;refine rP 4 28 4 rfl hD hS_5_3 ?_;clear hD;intro hD;refine rP 5 33 3 rfl hD hS_5_3 ?_;clear hD;intro hD;refine rP 6 34 2 rfl hD hS_5_3 ?_;clear hD;intro hD;simp only[Act.put,sqA,sqB,sqC];refine rO 7 1 rfl hD ?_;clear hD;intro K7 hK7;go_wp2;refine hK7 _ _ (by exact hS_5_3) ?_;clear hK7;intro hS_5_7 hD;refine rO 8 0 rfl hD ?_;clear hD;intro K8 hK8;go_wp2;refine hK8 _ _ (by exact hS_5_7) ?_;clear hK8;intro hS_5_8 hD;refine wpAnyK_done (by kernel_rfl) ?_ 0;clear hD b3;have HX4:=Hq (HXD.out.kept hS_5_8);have HB4:=Hq (HBD.out.trans (Below.mono hS_5_8 HBD.out.size));clear hS_5_1 hS_5_3 hS_5_7 hS_5_8;have b4:=HX4.out.o;go_wp2;go_ret;exact⟨by show Ending.returned (.bool ((nS (Nat.gcd (y - 1) n)).toList != (nS 1).toList))=_;rw[HR.out,bne,nS_beq,decide_not],HB4.out⟩
def G2P(W0:World)(T:TypeId)(cs1 cs2:Array Value)(b:Bool)(x:Value)(c:Bool)(y:Value)(w:World):Prop:=
 Below W0.heap.size W0 w∧(b=true→∃ B,x=.pointer (some ⟨B,0,none⟩)∧W0.heap.size≤B∧BxT w B cs1 T)∧(c=true→∃ B,y=.pointer (some ⟨B,0,none⟩)∧W0.heap.size≤B∧BxT w B cs2 T)∧(b=true→c=true→x≠y)
section
variable {W0 w w' : World} {T : TypeId} {cs1 cs2 : Array Value} {b c : Bool} {x y : Value}
theorem G2P.step(h:G2P W0 T cs1 cs2 b x c y w)(hb:Below w.heap.size w w'):G2P W0 T cs1 cs2 b x c y w':=
 ⟨h.1.trans (hb.mono h.1.size),fun e=>let ⟨B,h1,h2,h3⟩:=h.2.1 e;⟨B,h1,h2,h3.next hb⟩,fun e=>let ⟨B,h1,h2,h3⟩:=h.2.2.1 e;⟨B,h1,h2,h3.next hb⟩,h.2.2.2⟩
theorem G2P.all(h:G2P W0 T cs1 cs2 true x true y w):Below W0.heap.size W0 w∧(∃ B,x=.pointer (some ⟨B,0,none⟩)∧W0.heap.size≤B∧BxT w B cs1 T)∧(∃ B,y=.pointer (some ⟨B,0,none⟩)∧W0.heap.size≤B∧BxT w B cs2 T)∧x≠y:=
 ⟨h.1,h.2.1 rfl,h.2.2.1 rfl,h.2.2.2 rfl rfl⟩
theorem g2p_al1{ops:Array Oper}{o:Oper}{a:Act}{Q:Exit→Act→World→Prop}{d1 d2:Tmp}(hg:o.guard=none)(hd:o.dst=some d1)(hop:∀(w:World) (ρ:Operand→Value),(execOp ρ o).run Tryz.prog w=.ok (.value (.pointer (some ⟨w.heap.size,0,none⟩))) (w.alloc (.cells cs1 T))) :
 ∀ c y w,G2P W0 T cs1 cs2 false undef c y w→∀ K:Act→World→Prop,(∀ x w',G2P W0 T cs1 cs2 true x c y w'→K ((a.put (some d2) y).put (some d1) x) w')→wpList Tryz.prog ops (EndK K Q) [o] (a.put (some d2) y) w:=fun c y w h K hK =>
 Great.wpList_allocTo hg (some d1) hd _ _ (hop w _) (hK _ _ ⟨h.1.alloc h.1.size _,fun _=>⟨_,rfl,h.1.size,BxT.new _ _ _⟩,(h.step ((blr).alloc nlr _)).2.2.1,fun _ e he=>by
  obtain⟨B',h1,_,h3⟩:=h.2.2.1 e;rw[h1]at he;cases he
  exact Nat.lt_irrefl _ h3.lt⟩)
theorem g2p_al2{ops:Array Oper}{o:Oper}{a:Act}{Q:Exit→Act→World→Prop}{d1 d2:Tmp}(hg:o.guard=none)(hd:o.dst=some d2)(hop:∀(w:World) (ρ:Operand→Value),(execOp ρ o).run Tryz.prog w=.ok (.value (.pointer (some ⟨w.heap.size,0,none⟩))) (w.alloc (.cells cs2 T))) :
 ∀ b x w,G2P W0 T cs1 cs2 b x false undef w→∀ K:Act→World→Prop,(∀ y w',G2P W0 T cs1 cs2 b x true y w'→K ((a.put (some d1) x).put (some d2) y) w')→wpList Tryz.prog ops (EndK K Q) [o] (a.put (some d1) x) w:=fun b x w h K hK =>
 Great.wpList_allocTo hg (some d2) hd _ _ (hop w _) (hK _ _ ⟨h.1.alloc h.1.size _,(h.step ((blr).alloc nlr _)).2.1,fun _=>⟨_,rfl,h.1.size,BxT.new _ _ _⟩,fun e _ he=>by
  obtain⟨B',h1,_,h3⟩:=h.2.1 e;rw[h1]at he;cases he
  exact Nat.lt_irrefl _ h3.lt⟩)
theorem BxT.set{W:World}{B k:Nat}{cs:Array Value}{T:TypeId}(h:BxT W B cs T)(u:Value):BxT (W.setCell ⟨B,k,none⟩ u) B (cs.setIfInBounds k u) T:=block_setCell h u
theorem BxT.other{W:World}{B C k:Nat}{cs:Array Value}{T:TypeId}(h:BxT W B cs T)(hne:B≠C)(u:Value):BxT (W.setCell ⟨C,k,none⟩ u) B cs T:=(heap_setCell_other _ _ _ _ hne).trans h
theorem BxT.free{W:World}{B:Nat}{cs:Array Value}{T:TypeId}(h:BxT W B cs T)(k:Nat):W.frozen? ⟨B,k,none⟩=false:=Lib.frozen_of_heap h k
theorem G2P.set1{B:Nat}{v u:Value}(h:G2P W0 T #[v] cs2 true (.pointer (some ⟨B,0,none⟩)) c y w):G2P W0 T #[u] cs2 true (.pointer (some ⟨B,0,none⟩)) c y (w.setCell ⟨B,0,none⟩ u):=by
 obtain⟨B',h1,h2,h3⟩:=h.2.1 rfl;cases h1;refine⟨h.1.setCell (p:=⟨B,0,none⟩) h2 _,fun _=>⟨B,rfl,h2,h3.set u⟩,fun e=>?_,h.2.2.2⟩;obtain⟨B2,g1,g2,g3⟩:=h.2.2.1 e;exact⟨B2,g1,g2,g3.other (fun he=>h.2.2.2 rfl e (by rw[g1,he])) u⟩
theorem G2P.set2{B:Nat}{v u:Value}(h:G2P W0 T cs1 #[v] b x true (.pointer (some ⟨B,0,none⟩)) w):G2P W0 T cs1 #[u] b x true (.pointer (some ⟨B,0,none⟩)) (w.setCell ⟨B,0,none⟩ u):=by
 obtain⟨B',h1,h2,h3⟩:=h.2.2.1 rfl;cases h1;refine⟨h.1.setCell (p:=⟨B,0,none⟩) h2 _,fun e=>?_,fun _=>⟨B,rfl,h2,h3.set u⟩,h.2.2.2⟩;obtain⟨B2,g1,g2,g3⟩:=h.2.1 e;exact⟨B2,g1,g2,g3.other (fun he=>h.2.2.2 e rfl (by rw[g1,he])) u⟩
end
theorem bad_all{n b:Nat}{fs:List Nat}{l:List ByteArray}(h:FacL l fs):(!l.any (fun x=>badN n b (num x)))=fs.all fun f=>decide (b ^ ((n - 1) / f)%n≠0)&&decide (Nat.gcd (b ^ ((n - 1) / f)%n - 1) n=1):=by
 rw[h.eq,List.any_map,List.not_any_eq_all_not];congr 1
 funext f
 show (!badN n b (num (nS f)))=_;rw[num_nS];unfold badN;rw[Bool.not_or,decide_not,Bool.not_not];by_cases h0:b ^ ((n - 1) / f)%n=0
 · rw[decide_eq_true h0,show decide (b ^ ((n - 1) / f)%n≠0)=false from decide_eq_false (fun c=>c h0)];rfl
 · rw[decide_eq_false h0,show decide (b ^ ((n - 1) / f)%n≠0)=true from decide_eq_true h0];rfl
theorem ce_proves(n b:Nat)(fs:List Nat)(l:List ByteArray)(A:Option Addr)(len cap:Nat)(h2:2≤n)(hn:n<256 ^ 128)(hb:b<256 ^ 128)(hl:FacL l fs)(w:World)(hs:SlN w A len cap l):Calls Tryz.prog 55 #[.string (nS n),.string (nS b),.slice A len cap] w (Ret (.bool (worksN n b fs)) w):=by
 have HL:=Hq (ce_less n (by omega) hn);have HE:=Hq (mod_ExpA b (n - 1) n hb (by omega) hn (by omega));have HP1:=Hq (fun f hf hf2 B1 B2 B3 B4 W hx=>ce_proves1 n b f B1 B2 B3 B4 h2 hn hb hf hf2 W hx);have HFL:=Hq hl;have HS:=Hq hs;have HWK:=Hq (show worksN n b fs=(decide (b ^ (n - 1)%n=1) && !l.any (fun x=>badN n b (num x)))from by rw[bad_all hl];rfl);obtain⟨y,hy⟩:∃ y,b ^ (n - 1)%n=y:=⟨_,rfl⟩;rw[hy]at HE HWK;obtain⟨W0,hW0⟩:∃ W,(w.alloc (.cells #[.string (nS n)] 22)).alloc (.cells #[.string (nS b)] 22)=W:=⟨_,rfl⟩;have hbx:Below w.heap.size w W0:=by rw[←hW0];exact((blr).alloc nlr _).alloc (by simp) _
 have HX1:=Hq (show BxT W0 w.heap.size #[.string (nS n)] 22 from by rw[←hW0];exact(BxT.new _ _ _).next ((blr).alloc nlr _));have HX2:=Hq (show BxT W0 (w.heap.size+1) #[.string (nS b)] 22 from by
  have:=BxT.new (w.alloc (.cells #[.string (nS n)] 22)) #[.string (nS b)] 22;rw[World.size_alloc]at this;rw[←hW0]
  exact this)
 have HB0:=Hq hbx;clear hs hl hn hb hbx hy h2;go_enter Tryz.func55,Tryz.ntmps55;go_wp2;try rw[hW0]
 clear hW0;obtain⟨wd,hwd⟩:∃ wd,W0.drew=wd:=⟨_,rfl⟩;have hbd:Below W0.heap.size W0 wd:=by rw[←hwd];exact(blr).drew
 have HX1D:=Hq (HX1.out.next hbd);have HX2D:=Hq (HX2.out.next hbd);have HBD:=Hq (HB0.out.trans (hbd.mono HB0.out.size));clear hbd HX1 HX2 HB0;have b3:wd.cell? ⟨w.heap.size,0,none⟩=some (.string (nS n)):=HX1D.out.cell 0;refine wp_region_K 7 (Below (wd).heap.size (wd)) (by kernel_rfl) ?_;intro hD;rw[hwd];refine rT 1 12 6 rfl hD blr (by intro w' hS';have e0:=kC hS' b3;go_simp;with_reducible rfl) ?_;clear hD;intro hD;simp only[Act.put,sqA,sqB,sqC];refine(show Ghost2 _ _ _ _ _ _ 3 4 7 8 4 _ _ (G2P wd 22 #[.string ⟨#[]⟩] #[.string ⟨#[]⟩])from ?_).2.2 _ ⟨Below.refl _ _,(fun h=>by cases h),(fun h=>by cases h),fun h=>by cases h⟩;refine ghost2_step (i1:=3) (i2:=4) (j:=0) (d1:=7) (d2:=8) (dj:=11) (fuel:=3) (fun(_:Unit)=>.string (bstr (encN 1))) (fun _=>G2P wd 22 #[.string ⟨#[]⟩] #[.string ⟨#[]⟩]) (by kernel_rfl) (by kernel_rfl) (by kernel_rfl) (by kernel_rfl) rfl rfl rfl hD (by kernel_rfl) (by kernel_rfl) (by decide) (by decide) (by decide) (by decide) (by decide) (by decide) (fun _ _ _ _ _ h=>h.1) (fun _ _ _ _ _ _ h=>h.1) (g2p_al1 rfl rfl (fun _ _=>by kernel_rfl)) (g2p_al2 rfl rfl (fun _ _=>by kernel_rfl)) ?_ ?_
 · intro b' x c y' wv hI K hK;simp only[Act.put,sqA,sqB,sqC]at hK⊢;have HK:=Hq hK;have HGI:=Hq hI;clear hK hI hD;go_wp2_with fail;refine(nat_Of 1 (by decide) _).mono ?_;rintro e wu ⟨rfl,hb⟩;have HG2:=Hq (HGI.out.step hb);clear hb;go_wp2;exact HK.out () _ HG2.out
 clear hD;intro _ hD;simp only[Act.put,sqA,sqB,sqC];refine ghost2_step (i1:=3) (i2:=4) (j:=2) (d1:=7) (d2:=8) (dj:=13) (fuel:=2) (fun(_:Unit)=>.string (nS (n - 1))) (fun _=>G2P wd 22 #[.string ⟨#[]⟩] #[.string ⟨#[]⟩]) (by kernel_rfl) (by kernel_rfl) (by kernel_rfl) (by kernel_rfl) rfl rfl rfl hD (by kernel_rfl) (by kernel_rfl) (by decide) (by decide) (by decide) (by decide) (by decide) (by decide) (fun _ _ _ _ _ h=>h.1) (fun _ _ _ _ _ _ h=>h.1) (g2p_al1 rfl rfl (fun _ _=>by kernel_rfl)) (g2p_al2 rfl rfl (fun _ _=>by kernel_rfl)) ?_ ?_
 · intro b' x c y' wv hI K hK;simp only[Act.put,sqA,sqB,sqC]at hK⊢;have HK:=Hq hK;have HGI:=Hq hI;clear hK hI hD;go_wp2_with fail;refine(HL.out _).mono ?_;rintro e wu ⟨rfl,hb⟩;have HG2:=Hq (HGI.out.step hb);clear hb;go_wp2;exact HK.out () _ HG2.out
 clear hD;intro _ hD;simp only[Act.put,sqA,sqB,sqC];refine ghost2_end (i1:=3) (i2:=4) (d1:=7) (d2:=8) (fuel:=2) (by kernel_rfl) (by kernel_rfl) rfl rfl hD (by kernel_rfl) (by kernel_rfl) (by decide) (by decide) (fun _ _ _ _ _ h=>h.1) (g2p_al1 rfl rfl (fun _ _=>by kernel_rfl)) (g2p_al2 rfl rfl (fun _ _=>by kernel_rfl)) ?_;clear hD;intro x hD;refine ghost_end (i:=4) (d:=8) (fuel:=2) (by kernel_rfl) rfl hD (fun _ _ _ h=>h.1) (fun wv h K hK=>g2p_al2 rfl rfl (fun _ _=>by kernel_rfl) true x wv h K hK) ?_;clear hD;intro y' wv hI hD;obtain⟨B8,rfl,hge8,hbx8⟩:=hI.2.2.1 rfl;obtain⟨B7,rfl,hge7,hbx7⟩:=hI.2.1 rfl;have HG0:=Hq hI;have c7:wv.cell? ⟨B7,0,none⟩=some (.string ⟨#[]⟩):=hbx7.cell 0;have f7:=hbx7.free 0;clear hI hge8 hge7 hbx8 hbx7;simp only[Act.put,sqA,sqB,sqC];refine rO 5 1 rfl hD ?_;clear hD;intro K5 hK5;go_wp2;have HG1:=Hq (HG0.out.set1 (u:=.string (nS 1)));refine hK5 _ _ (by exact HG1.out.1) ?_;clear hK5;intro hS5 hD;clear c7 f7 hS5;obtain⟨wu,hwu⟩:∃ V,wv.setCell ⟨B7,0,none⟩ (.string (bstr (encN 1)))=V:=⟨_,rfl⟩;have HG1':=Hq (show G2P wd 22 #[.string (nS 1)] #[.string ⟨#[]⟩] true (.pointer (some ⟨B7,0,none⟩)) true (.pointer (some ⟨B8,0,none⟩)) wu from by rw[←hwu];exact HG1.out);rw[hwu];clear hwu HG1 HG0;obtain⟨B8',e8,_,hbx8⟩:=HG1'.out.2.2.1 rfl;cases e8;have c8:wu.cell? ⟨B8,0,none⟩=some (.string ⟨#[]⟩):=hbx8.cell 0;have f8:=hbx8.free 0;clear hbx8;refine rO 6 0 rfl hD ?_;clear hD;intro K6 hK6;go_wp2;have HG2:=Hq (HG1'.out.set2 (u:=.string (nS (n - 1))));refine hK6 _ _ (by exact HG2.out.1) ?_;clear hK6;intro hS6 hD;refine wpAnyK_done (by kernel_rfl) ?_ 0;clear hD c8 f8;obtain⟨wz,hwz⟩:∃ V,wu.setCell ⟨B8,0,none⟩ (.string (nS (n - 1)))=V:=⟨_,rfl⟩;have HG3:=Hq (show G2P wd 22 #[.string (nS 1)] #[.string (nS (n - 1))] true (.pointer (some ⟨B7,0,none⟩)) true (.pointer (some ⟨B8,0,none⟩)) wz from by rw[←hwz];exact HG2.out);rw[hwz]at hS6⊢;clear hwz HG2 HG1';have HBZ:=Hq (HBD.out.trans (Below.mono hS6 HBD.out.size));have HPB:=Hq (show PrB wz B8 (w.heap.size+1) w.heap.size B7 n b from by
  obtain⟨_,⟨_,e1,_,h1⟩,⟨_,e2,_,h2⟩,_⟩:=HG3.out.all;cases e1;cases e2
  exact⟨h2.cell 0,(HX2D.out.next hS6).cell 0,(HX1D.out.next hS6).cell 0,h1.cell 0⟩)
 have HSZ:=Hq (HS.out.kept HBZ.out nlr);clear hS6 HG3 HX1D HX2D HBD;have b2:=HPB.out.b;have b1:=HPB.out.m;have b3:=HPB.out.n;go_wp2_with fail;refine(HE.out _).mono ?_;rintro e w2 ⟨rfl,hb2⟩;have HB2:=Hq (HBZ.out.trans (hb2.mono HBZ.out.size));have HX2:=Hq (HPB.out.kept hb2);have HS2:=Hq (HSZ.out.kept hb2 nlr);clear hb2 b2 b1 b3;have b4:=HX2.out.o;have HCF:=Hq (sl_ContainsFuncP l A len cap B8 (w.heap.size+1) w.heap.size B7 (fun x=>badN n b (num x)) w2 HS2.out (fun x hx W hW=>by
  rw[HFL.out.eq]at hx;obtain⟨f,hf,rfl⟩:=List.mem_map.1 hx;rw[num_nS]
  exact HP1.out f (HFL.out.two f hf) (HFL.out.lt f hf) _ _ _ _ W (HX2.out.kept hW)))
 cases hy1:((nS y).toList==(nS 1).toList)with
 | false =>
  have hy2:((nS y).toList != (nS 1).toList)=true:=by rw[bne,hy1];rfl
  have HR:=Hq (show worksN n b fs=false from by rw[HWK.out,←nS_beq,hy1,Bool.false_and]);go_wp2;go_ret;exact⟨by show Ending.returned (.bool false)=_;rw[HR.out],HB2.out⟩
 | true =>
  have hy2:((nS y).toList != (nS 1).toList)=false:=by rw[bne,hy1];rfl
  have HR:=Hq (show worksN n b fs = !l.any (fun x=>badN n b (num x))from by rw[HWK.out,←nS_beq,hy1,Bool.true_and]);go_wp2_with fail;refine HCF.out.mono ?_;rintro e w3 ⟨rfl,hb⟩;have HB3:=Hq (HB2.out.trans (hb.mono HB2.out.size));clear hb;go_wp2;go_ret;exact⟨by show Ending.returned (.bool (!l.any (fun x=>badN n b (num x))))=_;rw[HR.out],HB3.out⟩
end Go.Proofs.YtdhnkmbjogmmkaaGreatDoor

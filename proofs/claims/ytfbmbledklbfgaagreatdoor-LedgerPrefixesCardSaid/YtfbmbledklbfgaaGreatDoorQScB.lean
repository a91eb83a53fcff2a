import Derived.Test.YtfbmbledklbfgaaGreatDoorQPeEA
set_option linter.unusedVariables false
set_option linter.unusedSimpArgs false
namespace Go.Proofs.YtfbmbledklbfgaaGreatDoor
open Go.RowKit Go.Lib
theorem nall_false{l:List ByteArray}{k:Nat}{s:ByteArray}(h:l[k]? =some s)(hv:nvalid s=false):¬ (l.all nvalid=true):=fun hall=>by
 have:=List.all_eq_true.1 hall s (List.mem_of_getElem? h);rw[hv]at this;cases this
theorem nall_true{l:List ByteArray}(h:∀ k,k<l.length→∃ s,l[k]? =some s∧nvalid s=true):l.all nvalid=true:=by
 rw[List.all_eq_true];intro s hs;obtain⟨k,hk⟩:=List.mem_iff_getElem?.1 hs;obtain⟨s',h1,h2⟩:=h k (List.getElem?_eq_some_iff.1 hk).1;rw[hk]at h1;cases h1;exact h2
theorem hasK_parts{M O x:ByteArray}(h:hasK M O x=true):chkK M O=0∧nvalid x=true∧hasN (num M) (num O) (num x)=true:=by
 unfold hasK at h;simp only[Bool.and_eq_true,decide_eq_true_eq]at h;exact⟨h.1.1,h.1.2,h.2⟩
set_option maxRecDepth 100000
set_option maxHeartbeats 1000000
theorem sc_formed(l:List ByteArray)(A:Option Addr)(n cap:Nat)(hn:n≤1000)(hlz:∀ x∈l,x.size≤9223372036854775807)(w:World)(hsl:SlN w A n cap l):Calls Tryz.prog 42 #[.slice A n cap] w (RetQ (.bool (l.all nvalid)) w):=by
 have HS:=Hq hsl;have HLEN:=Hq hsl.1;have HLZ:=Hq hlz;have hcap:=hsl.2.1;have hcap2:=hsl.2.2.1;have hni:(n:Int)≤1000:=by omega
 obtain⟨R,hR⟩:∃ R,l.all nvalid=R:=⟨_,rfl⟩;have HR:=Hq hR;rw[hR];clear hR hsl hlz;go_enter Tryz.func42,Tryz.ntmps42;go_wp2;go_loopw [7] (fun i wr=>∃ k:Nat,k≤n∧i=.int .i64 k∧(∀ j,j<k→∃ s,l[j]? =some s∧nvalid s=true)∧wr=w) (fun i _=>n - (RowKit.intOf i).toNat);case atStart=>exact⟨0,Nat.zero_le _,rfl,fun j h=>by omega,rfl⟩
 case round =>
  obtain⟨k,hk,rfl,hall,rfl⟩:=hrel;have HALL:=Hq hall;clear hall;by_cases hlt:k<n
  · obtain⟨b,o,rfl⟩:=HS.out.head (by omega);obtain⟨x,he⟩:∃ s,l[k]? =some s:=⟨_,List.getElem?_eq_getElem (by rw[HLEN.out];exact hlt)⟩;have d0:=HS.out.get? k he;have HE:=Hq he;have HV:=Hq (nat_Valid x (HLZ.out x (List.mem_of_getElem? he)));have hki:(k:Int)<(n:Int):=by omega
    have HKN:=Hq hlt;clear he hk hlt
    cases hv:nvalid x with
    | false =>
     rw[hv]at HV;have HR3:=Hq (show R=false from by rw[←HR.out];exact Bool.eq_false_iff.2 (nall_false HE.out hv));clear hv;go_wp2_with fail;refine(HV.out _).mono ?_;rintro ev w2 ⟨rfl,rfl⟩;go_wp2;go_ret;exact⟨by rw[HR3.out];rfl,rfl⟩
    | true =>
     rw[hv]at HV;have HA2:=Hq (show ∀ j,j<k+1→∃ s,l[j]? =some s∧nvalid s=true from fun j hj=>by
      by_cases e:j=k
      · subst e;exact⟨x,HE.out,hv⟩
      · exact HALL.out j (by omega))
     clear hv;go_wp2_with fail;refine(HV.out _).mono ?_;rintro ev w2 ⟨rfl,rfl⟩;go_wp2;refine⟨⟨k+1,by have:=HKN.out;omega,by go_num,HA2.out,trivial⟩,?_⟩;have:=HKN.out;simp[RowKit.intOf];omega
  · have HAV:=Hq (show R=true from by rw[←HR.out];exact nall_true fun j hj=>HALL.out j (by rw[HLEN.out]at hj;omega));have hge:¬ ((k:Int)<(n:Int)):=by omega
    clear hk hlt HALL HS;go_wp2;go_ret;exact⟨by rw[HAV.out];rfl,rfl⟩
def genK(M O x:ByteArray):Bool:=hasK M O x && !(x.toList==[1])
theorem sc_generator(M O x:ByteArray)(hM:M.size≤8)(hO:O.size≤8)(hx:nvalid x=true)(w:World):Calls Tryz.prog 66 #[gV M O,.string x] w (Ret (.bool (genK M O x)) w):=by
 have HH:=Hq (pw_Has M O x hM hO hx);have HX0:=Hq (Bx2.new w (.string M) (.string O) 24);have HB0:=Hq ((Below.refl w.heap.size w).alloc nlr (.cells #[.string M,.string O] 24));have c0:=HX0.out.c0;have c1:=HX0.out.c1
 cases hh:hasK M O x with
 | false =>
  have HR:=Hq (show genK M O x=false from by unfold genK;rw[hh];rfl);rw[hh]at HH;rw[HR.out];unfold gV at *;clear hh hM hO hx;go_enter Tryz.func66,Tryz.ntmps66;go_wp2_with fail;refine(HH.out _).mono ?_;rintro ev w1 ⟨rfl,hb⟩;have HB1:=Hq (HB0.out.trans (hb.mono HB0.out.size));clear hb c0 c1;go_wp2;go_ret;exact⟨rfl,HB1.out⟩
 | true =>
  have HR:=Hq (show genK M O x = !(x.toList==[1])from by unfold genK;rw[hh];rfl);rw[hh]at HH;rw[HR.out];unfold gV at *;clear hh hM hO hx;go_enter Tryz.func66,Tryz.ntmps66;go_wp2_with fail;refine(HH.out _).mono ?_;rintro ev w1 ⟨rfl,hb⟩;have HB1:=Hq (HB0.out.trans (hb.mono HB0.out.size));clear hb c0 c1;go_wp2;go_ret;exact⟨rfl,HB1.out⟩
def scK(M O G Y:ByteArray):Int:=
 if [M,O,G,Y].all nvalid=true then
  if chkK M O=0 then(if (O.toList.isEmpty || !genK M O G || !genK M O Y)=true then 13 else 0)else chkK M O
 else 3
open Go.RowKit
theorem chkK_long{M O G H:ByteArray}(hf:kF M O G H=true)(hM:M.size≤8)(h8:¬ O.size≤8):chkK M O=13:=by
 unfold kF at hf;simp only[Bool.and_eq_true]at hf;have v1:=hf.1.1.1;have v2:=hf.1.1.2;have hm:=num_small hM;have ho:18446744073709551616≤num O:=by
  rcases Nat.lt_or_ge (num O) 18446744073709551616 with h | h
  · rw[nS_num v2]at h8;exact absurd (nS_small_size h) h8
  · exact h
 unfold chkK;rw[if_pos (by rw[v1,v2];rfl)];unfold chkN;rw[if_neg (by omega)];by_cases h1:num M≤1
 · rw[if_pos (.inl h1)]
 · rw[if_pos (.inr (.inr (by rw[Nat.mod_eq_of_lt (by omega)];omega)))]
set_option maxRecDepth 100000
set_option maxHeartbeats 4000000
def SB(w W:World)(M O G H:ByteArray):Prop:=Bx4 W w.heap.size (.string M) (.string O) (.string G) (.string H) 26∧Below w.heap.size w W
theorem SB.new(w:World)(M O G H:ByteArray):SB w (w.alloc (.cells #[.string M,.string O,.string G,.string H] 26)) M O G H:=⟨Bx4.new _ _ _ _ _ _,(blr).alloc nlr _⟩
theorem SB.next{w W W':World}{M O G H:ByteArray}(h:SB w W M O G H)(hb:Below W.heap.size W W'):SB w W' M O G H:=⟨h.1.next hb,h.2.trans (hb.mono h.2.size)⟩
theorem all_four{M O G Y:ByteArray}(h:[M,O,G,Y].all nvalid=true):nvalid M=true∧nvalid O=true∧nvalid G=true∧nvalid Y=true:=by
 simp only[List.all_cons,List.all_nil,Bool.and_true,Bool.and_eq_true]at h;exact⟨h.1,h.2.1,h.2.2.1,h.2.2.2⟩
theorem chk_small{M O G Y:ByteArray}(h:[M,O,G,Y].all nvalid=true)(hM:M.size≤8)(hc:chkK M O=0):O.size≤8:=by
 by_cases h8:O.size≤8
 · exact h8
 · obtain⟨a,b,c,d⟩:=all_four h;have:=chkK_long (M:=M) (O:=O) (G:=G) (H:=Y) (by unfold kF;rw[a,b,c,d];rfl) hM h8;rw[hc]at this;cases this
theorem sc_Check(M O G Y:ByteArray)(hM:M.size≤8)(hO:O.size≤100)(hG:G.size≤1000)(hY:Y.size≤1000)(w:World):Calls Tryz.prog 41 #[kV M O G Y] w (Ret (.int .i64 (scK M O G Y)) w):=by
 have hk0:=SB.new w M O G Y;obtain⟨W0,hW0⟩:∃ W,w.alloc (.cells #[.string M,.string O,.string G,.string Y] 26)=W:=⟨_,rfl⟩;rw[hW0]at hk0;have HK0:=Hq hk0;have hsl:=sln_alloc W0 [M,O,G,Y] 22 (by simp);have hbb:=(Below.refl W0.heap.size W0).alloc nlr (.cells #[.string M,.string O,.string G,.string Y] 22);have HK1:=Hq (hk0.next hbb);have hlz:∀ z∈[M,O,G,Y],z.size≤9223372036854775807:=fun z hz=>by
  simp at hz;rcases hz with h | h | h | h<;>subst h<;>omega
 obtain⟨W1,hW1⟩:∃ W,W0.alloc (.cells #[.string M,.string O,.string G,.string Y] 22)=W:=⟨_,rfl⟩;have HSL:=Hq (show SlN W1 (some ⟨W0.heap.size,0,none⟩) 4 4 [M,O,G,Y]from hW1▸hsl);rw[hW1]at HK1;obtain⟨c0,c1,c2,c3⟩:=hk0.1.cells;clear hk0 hsl hbb;have HFM:=Hq (sc_formed [M,O,G,Y] _ 4 4 (by omega) hlz W1 HSL.out);have HCK:=Hq (pw_CheckW M O hM hO);have HG:=Hq (fun(h:O.size≤8) x (hx:nvalid x=true)=>sc_generator M O x hM h hx);have HMS:=Hq hM;clear hM hO hG hY hlz;unfold kV
 cases hv:[M,O,G,Y].all nvalid with
 | false =>
  have HR:=Hq (show scK M O G Y=3 from by unfold scK;rw[if_neg (by rw[hv];decide)]);rw[hv]at HFM;rw[HR.out];clear hv;unfold gV at *;go_enter Tryz.func41,Tryz.ntmps41;go_wp2_with fail;try rw[hW1]
  clear hW0 hW1;refine HFM.out.mono ?_;rintro ev w2 ⟨rfl,rfl⟩;clear c0 c1 c2 c3;obtain⟨c0,c1,c2,c3⟩:=HK1.out.1.cells;go_wp2;go_ret;exact⟨rfl,HK1.out.2⟩
 | true =>
  rw[hv]at HFM;by_cases hc:chkK M O=0
  · have h8:=chk_small hv HMS.out hc;obtain⟨v1,v2,v3,v4⟩:=all_four hv;have HGG:=Hq (HG.out h8 G v3);have HGY:=Hq (HG.out h8 Y v4);have HR:=Hq (show scK M O G Y=if (O.toList.isEmpty || !genK M O G || !genK M O Y)=true then 13 else 0 from by unfold scK;rw[if_pos hv,if_pos hc]);rw[hc]at HCK;rw[HR.out];clear hv hc h8 v1 v2 v3 v4
    cases ho:O.toList.isEmpty with
    | true =>
     simp only[Bool.true_or,if_true];unfold gV at *;go_enter Tryz.func41,Tryz.ntmps41;go_wp2_with fail;try rw[hW1]
     clear hW0 hW1;refine HFM.out.mono ?_;rintro ev w2 ⟨rfl,rfl⟩;clear c0 c1 c2 c3;obtain⟨c0,c1,c2,c3⟩:=HK1.out.1.cells;go_wp2_with fail;refine(HCK.out _).mono ?_;rintro ev w3 ⟨rfl,hb⟩;have hk:=HK1.out.next hb;have HK3:=Hq hk;clear hb c0 c1 c2 c3;obtain⟨c0,c1,c2,c3⟩:=hk.1.cells;clear hk;go_wp2;go_ret;exact⟨rfl,HK3.out.2⟩
    | false =>
     cases hg:genK M O G with
     | false =>
      rw[hg]at HGG;simp only[Bool.not_false,Bool.or_true,Bool.true_or,if_true];clear hg;unfold gV at *;go_enter Tryz.func41,Tryz.ntmps41;go_wp2_with fail;try rw[hW1]
      clear hW0 hW1;refine HFM.out.mono ?_;rintro ev w2 ⟨rfl,rfl⟩;clear c0 c1 c2 c3;obtain⟨c0,c1,c2,c3⟩:=HK1.out.1.cells;go_wp2_with fail;refine(HCK.out _).mono ?_;rintro ev w3 ⟨rfl,hb⟩;have hk:=HK1.out.next hb;have HK3:=Hq hk;clear hb c0 c1 c2 c3;obtain⟨c0,c1,c2,c3⟩:=hk.1.cells;clear hk;go_wp2_with fail;refine(HGG.out _).mono ?_;rintro ev w4 ⟨rfl,hb⟩;have hk:=HK3.out.next hb;have HK4:=Hq hk;clear hb c0 c1 c2 c3;obtain⟨c0,c1,c2,c3⟩:=hk.1.cells;clear hk;go_wp2;go_ret;exact⟨rfl,HK4.out.2⟩
     | true =>
      rw[hg]at HGG;obtain⟨gy,hgy⟩:∃ z,genK M O Y=z:=⟨_,rfl⟩;rw[hgy]at HGY⊢;clear hg hgy
      cases gy with
      | false =>
       simp only[Bool.not_false,Bool.not_true,Bool.or_true,Bool.false_or,Bool.or_false,if_true];unfold gV at *;go_enter Tryz.func41,Tryz.ntmps41;go_wp2_with fail;try rw[hW1]
       clear hW0 hW1;refine HFM.out.mono ?_;rintro ev w2 ⟨rfl,rfl⟩;clear c0 c1 c2 c3;obtain⟨c0,c1,c2,c3⟩:=HK1.out.1.cells;go_wp2_with fail;refine(HCK.out _).mono ?_;rintro ev w3 ⟨rfl,hb⟩;have hk:=HK1.out.next hb;have HK3:=Hq hk;clear hb c0 c1 c2 c3;obtain⟨c0,c1,c2,c3⟩:=hk.1.cells;clear hk;go_wp2_with fail;refine(HGG.out _).mono ?_;rintro ev w4 ⟨rfl,hb⟩;have hk:=HK3.out.next hb;have HK4:=Hq hk;clear hb c0 c1 c2 c3;obtain⟨c0,c1,c2,c3⟩:=hk.1.cells;clear hk;go_wp2_with fail;refine(HGY.out _).mono ?_;rintro ev w5 ⟨rfl,hb⟩;have hk:=HK4.out.next hb;have HK5:=Hq hk;clear hb c0 c1 c2 c3;obtain⟨c0,c1,c2,c3⟩:=hk.1.cells;clear hk;go_wp2;go_ret;exact⟨rfl,HK5.out.2⟩
      | true =>
       simp only[Bool.not_true,Bool.or_false,Bool.false_eq_true,if_false];unfold gV at *;go_enter Tryz.func41,Tryz.ntmps41;go_wp2_with fail;try rw[hW1]
       clear hW0 hW1;refine HFM.out.mono ?_;rintro ev w2 ⟨rfl,rfl⟩;clear c0 c1 c2 c3;obtain⟨c0,c1,c2,c3⟩:=HK1.out.1.cells;go_wp2_with fail;refine(HCK.out _).mono ?_;rintro ev w3 ⟨rfl,hb⟩;have hk:=HK1.out.next hb;have HK3:=Hq hk;clear hb c0 c1 c2 c3;obtain⟨c0,c1,c2,c3⟩:=hk.1.cells;clear hk;go_wp2_with fail;refine(HGG.out _).mono ?_;rintro ev w4 ⟨rfl,hb⟩;have hk:=HK3.out.next hb;have HK4:=Hq hk;clear hb c0 c1 c2 c3;obtain⟨c0,c1,c2,c3⟩:=hk.1.cells;clear hk;go_wp2_with fail;refine(HGY.out _).mono ?_;rintro ev w5 ⟨rfl,hb⟩;have hk:=HK4.out.next hb;have HK5:=Hq hk;clear hb c0 c1 c2 c3;obtain⟨c0,c1,c2,c3⟩:=hk.1.cells;clear hk;go_wp2;go_ret;exact⟨rfl,HK5.out.2⟩
  · have HR:=Hq (show scK M O G Y=chkK M O from by unfold scK;rw[if_pos hv,if_neg hc]);obtain⟨e,he⟩:∃ e,chkK M O=e:=⟨_,rfl⟩;rw[HR.out];rw[he]at HCK hc⊢;clear hv he;unfold gV at *;go_enter Tryz.func41,Tryz.ntmps41;go_wp2_with fail;try rw[hW1]
    clear hW0 hW1;refine HFM.out.mono ?_;rintro ev w2 ⟨rfl,rfl⟩;clear c0 c1 c2 c3;obtain⟨c0,c1,c2,c3⟩:=HK1.out.1.cells;go_wp2_with fail;refine(HCK.out _).mono ?_;rintro ev w3 ⟨rfl,hb⟩;have hk:=HK1.out.next hb;have HK3:=Hq hk;clear hb c0 c1 c2 c3;obtain⟨c0,c1,c2,c3⟩:=hk.1.cells;clear hk;go_wp2;go_ret;exact⟨rfl,HK3.out.2⟩
end Go.Proofs.YtfbmbledklbfgaaGreatDoor

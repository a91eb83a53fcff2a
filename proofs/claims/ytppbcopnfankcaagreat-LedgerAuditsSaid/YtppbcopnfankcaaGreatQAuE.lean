import Derived.Test.YtppbcopnfankcaaGreatQAuD
set_option linter.unusedVariables false
set_option linter.unusedSimpArgs false
namespace Go.Proofs.YtppbcopnfankcaaGreat
set_option maxRecDepth 100000
set_option maxHeartbeats 2000000
open Go.RowKit
theorem zdn{x y:ByteArray}(h:(x.toList==y.toList)=false):x≠y:=fun e=>by rw[e]at h;simp at h
theorem zdo{x y:ByteArray}(h:(x.toList==y.toList)=true):x=y:=by
 have h:=eq_of_beq h;rw[ByteArray.toList_eq,ByteArray.toList_eq]at h;exact ByteArray.ext (Array.toList_inj.1 h)
theorem zsm{l l':List ByteArray}(hl:l.length=l'.length)(h:∀(i:Nat) x y,l[i]? =some x→l'[i]? =some y→x=y):l=l':=by
 apply List.ext_getElem? ;intro i;rcases Nat.lt_or_ge i l.length with hi | hi
 · obtain⟨x,hx⟩:∃ x,l[i]? =some x:=⟨_,List.getElem?_eq_getElem hi⟩;obtain⟨y,hy⟩:∃ y,l'[i]? =some y:=⟨_,List.getElem?_eq_getElem (by omega)⟩;rw[hx,hy,h i x y hx hy]
 · rw[List.getElem?_eq_none hi,List.getElem?_eq_none (by omega)]
theorem zes(l l':List ByteArray)(A B:Option Addr)(n c n' c':Nat)(w:World)(hs:SlN w A n c l)(hs':SlN w B n' c' l'):Calls Tryz.prog 15 #[.slice A n c,.slice B n' c'] w (Ret (.bool (decide (l=l'))) w):=by
 obtain⟨R,hR⟩:=nm (decide (l=l'));rw[hR];have HR:=Hq hR;have HS:=Hq hs;have HS':=Hq hs';have HLEN:=Hq hs.1;have HLEN':=Hq hs'.1;have hcap:=hs.2.1;have hcap2:=hs.2.2.1;have hcap':=hs'.2.1;have hcap2':=hs'.2.2.1;clear hs hs' hR;go_enter Tryz.func15,Tryz.ntmps15;by_cases hn:n=n'
 · subst hn;go_wp2;go_loopw [13] (fun k wr=>∃ j:Nat,j≤n∧k=.int .i64 j∧(∀(i:Nat) x y,i<j→l[i]? =some x→l'[i]? =some y→x=y)∧Below w.heap.size w wr) (fun k _=>n - (intOf k).toNat);case atStart=>exact⟨0,Nat.zero_le _,rfl,fun i x y h=>absurd h (Nat.not_lt_zero _),Below.refl _ _⟩
   case round =>
    obtain⟨j,hj,rfl,hall,hbb⟩:=hrel;have HB:=Hq hbb;have HALL:=Hq hall;clear hbb hall;by_cases hlt:j<n
    · obtain⟨x,he⟩:∃ x,l[j]? =some x:=⟨_,List.getElem?_eq_getElem (by rw[HLEN.out];exact hlt)⟩;obtain⟨y,he'⟩:∃ y,l'[j]? =some y:=⟨_,List.getElem?_eq_getElem (by rw[HLEN'.out];exact hlt)⟩;obtain⟨b,o,rfl,e1⟩:=(HS.out.kept HB.out nlr).cell he;obtain⟨b2,o2,rfl,e2⟩:=(HS'.out.kept HB.out nlr).cell he';have e1:wr.drew.cell? ⟨b,o+j,none⟩=some (.string x):=e1;have e2:wr.drew.cell? ⟨b2,o2+j,none⟩=some (.string y):=e2;have HE:=Hq he;have HE':=Hq he';clear he he'
      cases hq:(x.toList==y.toList)with
      | true =>
       have hq2:(x.toList != y.toList)=false:=by rw[bne,hq];rfl
       have HQ:=Hq (zdo hq);go_wp2;refine za 9 (Below (wr.drew).heap.size (wr.drew)) (by kernel_rfl) ?_;refine rPs 0 16 8 blr ?_;refine rPs 1 17 7 blr ?_;refine rPs 2 18 6 blr ?_;refine rTs 3 19 5 blr (k2 e1 e2) ?_;refine rPs 4 20 4 blr ?_;refine rPs 5 21 3 blr ?_;refine rPs 6 22 2 blr ?_;refine rTs 7 23 1 blr (k2 e1 e2) ?_;refine rPs 8 24 0 blr ?_;refine wDn ?_;have HB2:=Hq (show Below w.heap.size w wr.drew from HB.out.trans ((Below.refl wr.heap.size wr).drew.mono HB.out.size));go_wp2;go_roundw;case rel =>
        refine⟨j+1,by omega,by go_num,fun i u v hi hu hv=>?_,HB2.out⟩;rcases Nat.lt_or_ge i j with h | h
        · exact HALL.out i u v h hu hv
        · obtain rfl:i=j:=by omega
          rw[HE.out]at hu;rw[HE'.out]at hv;cases hu;cases hv;exact HQ.out
       case measure=>simp[intOf];omega
      | false =>
       have hq2:(x.toList != y.toList)=true:=by rw[bne,hq];rfl
       have HRR:=Hq (show R=false from by rw[←HR.out];exact decide_eq_false (fun e=>zdn hq (by have h:=HE.out;rw[e,HE'.out]at h;injection h with h;exact h.symm)));go_wp2;refine za 9 (Below (wr.drew).heap.size (wr.drew)) (by kernel_rfl) ?_;refine rPs 0 16 8 blr ?_;refine rPs 1 17 7 blr ?_;refine rPs 2 18 6 blr ?_;refine rTs 3 19 5 blr (k2 e1 e2) ?_;refine rPs 4 20 4 blr ?_;refine rPs 5 21 3 blr ?_;refine rPs 6 22 2 blr ?_;refine rTs 7 23 1 blr (k2 e1 e2) ?_;refine rPs 8 24 0 blr ?_;refine wDn ?_;have HB2:=Hq (show Below w.heap.size w wr.drew from HB.out.trans ((Below.refl wr.heap.size wr).drew.mono HB.out.size));go_wp2;go_ret;exact⟨by rw[HRR.out];rfl,HB2.out⟩
    · obtain rfl:j=n:=by omega
      have HRR:=Hq (show R=true from by rw[←HR.out];exact decide_eq_true (zsm (by rw[HLEN.out,HLEN'.out]) (fun i x y hx hy=>HALL.out i x y (by have:=(List.getElem?_eq_some_iff.1 hx).1;have:=HLEN.out;omega) hx hy)));clear hlt hj;go_wp2;go_ret;exact⟨by rw[HRR.out];rfl,HB.out⟩
 · have hni:¬ ((n:Int)=(n':Int)):=by omega
   have hnb:((n:Int) != (n':Int))=true:=by rw[bne_iff_ne];exact hni
   have HRR:=Hq (show R=false from by rw[←HR.out];exact decide_eq_false (fun e=>hn (by rw[←HLEN.out,←HLEN'.out,e])));go_wp2;go_ret;exact⟨by rw[HRR.out];rfl,Below.refl _ _⟩
theorem zex(l l':List ByteArray)(A B:Option Addr)(n c n' c':Nat)(w:World)(hs:SlN w A n c l)(hs':SlN w B n' c' l'):Calls Tryz.prog 34 #[.slice A n c,.slice B n' c'] w (Ret (.bool (decide (l=l'))) w):=by
 obtain⟨R,hR⟩:=nm (decide (l=l'));rw[hR];have HR:=Hq hR;have HS:=Hq hs;have HS':=Hq hs';have HLEN:=Hq hs.1;have HLEN':=Hq hs'.1;have hcap:=hs.2.1;have hcap2:=hs.2.2.1;have hcap':=hs'.2.1;have hcap2':=hs'.2.2.1;clear hs hs' hR;go_enter Tryz.func34,Tryz.ntmps34;by_cases hn:n=n'
 · subst hn;go_wp2;go_loopw [5] (fun k wr=>∃ j:Nat,j≤n∧k=.int .i64 j∧(∀(i:Nat) x y,i<j→l[i]? =some x→l'[i]? =some y→x=y)∧Below w.heap.size w wr) (fun k _=>n - (intOf k).toNat);case atStart=>exact⟨0,Nat.zero_le _,rfl,fun i x y h=>absurd h (Nat.not_lt_zero _),Below.refl _ _⟩
   case round =>
    obtain⟨j,hj,rfl,hall,hbb⟩:=hrel;have HB:=Hq hbb;have HALL:=Hq hall;clear hbb hall;by_cases hlt:j<n
    · obtain⟨x,he⟩:∃ x,l[j]? =some x:=⟨_,List.getElem?_eq_getElem (by rw[HLEN.out];exact hlt)⟩;obtain⟨y,he'⟩:∃ y,l'[j]? =some y:=⟨_,List.getElem?_eq_getElem (by rw[HLEN'.out];exact hlt)⟩;obtain⟨b,o,rfl,e1⟩:=(HS.out.kept HB.out nlr).cell he;obtain⟨b2,o2,rfl,e2⟩:=(HS'.out.kept HB.out nlr).cell he';have e1:wr.drew.cell? ⟨b,o+j,none⟩=some (.string x):=e1;have e2:wr.drew.cell? ⟨b2,o2+j,none⟩=some (.string y):=e2;have HE:=Hq he;have HE':=Hq he';clear he he'
      cases hq:(x.toList==y.toList)with
      | true =>
       have hq2:(x.toList != y.toList)=false:=by rw[bne,hq];rfl
       have HQ:=Hq (zdo hq);go_wp2;refine za 9 (Below (wr.drew).heap.size (wr.drew)) (by kernel_rfl) ?_;refine rPs 0 17 8 blr ?_;refine rPs 1 18 7 blr ?_;refine rPs 2 19 6 blr ?_;refine rTs 3 20 5 blr (k2 e1 e2) ?_;refine rPs 4 21 4 blr ?_;refine rPs 5 22 3 blr ?_;refine rPs 6 23 2 blr ?_;refine rTs 7 24 1 blr (k2 e1 e2) ?_;refine rPs 8 25 0 blr ?_;refine wDn ?_;have HB2:=Hq (show Below w.heap.size w wr.drew from HB.out.trans ((Below.refl wr.heap.size wr).drew.mono HB.out.size));go_wp2;go_roundw;case rel =>
        refine⟨j+1,by omega,by go_num,fun i u v hi hu hv=>?_,HB2.out⟩;rcases Nat.lt_or_ge i j with h | h
        · exact HALL.out i u v h hu hv
        · obtain rfl:i=j:=by omega
          rw[HE.out]at hu;rw[HE'.out]at hv;cases hu;cases hv;exact HQ.out
       case measure=>simp[intOf];omega
      | false =>
       have hq2:(x.toList != y.toList)=true:=by rw[bne,hq];rfl
       have HRR:=Hq (show R=false from by rw[←HR.out];exact decide_eq_false (fun e=>zdn hq (by have h:=HE.out;rw[e,HE'.out]at h;injection h with h;exact h.symm)));go_wp2;refine za 9 (Below (wr.drew).heap.size (wr.drew)) (by kernel_rfl) ?_;refine rPs 0 17 8 blr ?_;refine rPs 1 18 7 blr ?_;refine rPs 2 19 6 blr ?_;refine rTs 3 20 5 blr (k2 e1 e2) ?_;refine rPs 4 21 4 blr ?_;refine rPs 5 22 3 blr ?_;refine rPs 6 23 2 blr ?_;refine rTs 7 24 1 blr (k2 e1 e2) ?_;refine rPs 8 25 0 blr ?_;refine wDn ?_;have HB2:=Hq (show Below w.heap.size w wr.drew from HB.out.trans ((Below.refl wr.heap.size wr).drew.mono HB.out.size));go_wp2;go_ret;exact⟨by rw[HRR.out];rfl,HB2.out⟩
    · obtain rfl:j=n:=by omega
      have HRR:=Hq (show R=true from by rw[←HR.out];exact decide_eq_true (zsm (by rw[HLEN.out,HLEN'.out]) (fun i x y hx hy=>HALL.out i x y (by have:=(List.getElem?_eq_some_iff.1 hx).1;have:=HLEN.out;omega) hx hy)));clear hlt hj;go_wp2;go_ret;exact⟨by rw[HRR.out];rfl,HB.out⟩
 · have hni:¬ ((n:Int)=(n':Int)):=by omega
   have hnb:((n:Int) != (n':Int))=true:=by rw[bne_iff_ne];exact hni
   have HRR:=Hq (show R=false from by rw[←HR.out];exact decide_eq_false (fun e=>hn (by rw[←HLEN.out,←HLEN'.out,e])));go_wp2;go_ret;exact⟨by rw[HRR.out];rfl,Below.refl _ _⟩
end Go.Proofs.YtppbcopnfankcaaGreat

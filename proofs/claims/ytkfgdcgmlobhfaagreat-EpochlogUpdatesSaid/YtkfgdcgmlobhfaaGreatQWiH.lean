import Derived.Test.YtkfgdcgmlobhfaaGreatQWiF
set_option linter.unusedVariables false
set_option linter.unusedSimpArgs false
namespace Go.Proofs.YtkfgdcgmlobhfaaGreat
open Go.RowKit
theorem ze2(x y:Nat)(hs1:(nS x).size≤5000)(hs2:(nS y).size≤5000)(w:World):Calls Tryz.prog 80 #[.string (nS x),.string (nS y)] w (Ret (.string (nS (x * y))) w):=by
 by_cases h:(nS x).size+(nS y).size≤8
 · exact zau x y h w
 · exact zbd x y hs1 hs2 (by omega) w
set_option maxRecDepth 100000
set_option maxHeartbeats 2000000
theorem zdo(l:List ByteArray)(A:Option Addr)(n c:Nat)(w:World)(hs:SlN w A n c l)(hv:∀ x∈l,zd x=true)(hz:∀ x∈l,x.size≤16)(hn:n≤300):Calls Tryz.prog 77 #[.slice A n c] w (Ret (.string (nS (prodN l))) w):=by
 have HSN:=Hq hs;have HNL:=Hq hs.1;have hc1:=hs.2.1;have hc2:=hs.2.2.1;have HVV:=Hq hv;have HZZ:=Hq hz;have HPZ:=Hq (fun k=>zcp hz (by rw[hs.1];exact hn) k);obtain⟨R,hR⟩:∃ R,nS (prodN l)=R:=⟨_,rfl⟩;rw[hR];have HR:=Hq hR;clear hs hv hz hR;go_enter Tryz.func77,Tryz.ntmps77;go_wp2;go_loopw [3,4] (fun o i wr=>∃ k:Nat,k≤n∧i=.int .i64 k∧o=.string (nS (prodN (l.take k)))∧Below w.heap.size w wr) (fun _ i _=>n - (intOf i).toNat);case atStart=>exact⟨0,Nat.zero_le _,rfl,rfl,Below.refl _ _⟩
 case round =>
  obtain⟨k,hk,rfl,rfl,hbb⟩:=hrel;have HB:=Hq hbb;clear hbb;by_cases hlt:k<n
  · obtain⟨x,he⟩:∃ x,l[k]? =some x:=⟨_,List.getElem?_eq_getElem (by rw[HNL.out];exact hlt)⟩;obtain⟨b,o,rfl⟩:=HSN.out.head (by omega);have c0:=(HSN.out.kept HB.out nlr).get? k he;have hxv:=HVV.out x (List.mem_of_getElem? he);have HMU:=Hq (ze2 (prodN (l.take k)) (num x) (by have:=HPZ.out k;omega) (by rw[←jm hxv];have:=HZZ.out x (List.mem_of_getElem? he);omega));rw[←ze4 he,←jm hxv]at HMU;obtain⟨p,hp⟩:∃ p,nS (prodN (l.take k))=p:=⟨_,rfl⟩;rw[hp]at HMU⊢;obtain⟨p2,hp2⟩:∃ p,nS (prodN (l.take (k+1)))=p:=⟨_,rfl⟩;rw[hp2]at HMU;have HP2:=Hq hp2;clear he hp hxv hp2;go_wp2_with fail;refine(HMU.out _).mono ?_;rintro e w2 ⟨rfl,hb⟩;have HB2:=Hq (HB.out.trans (hb.mono HB.out.size));clear hb c0;go_wp2;go_roundw;case rel=>exact⟨k+1,by omega,by go_num,by rw[HP2.out],HB2.out⟩
    case measure=>simp[intOf];omega
  · obtain rfl:k=n:=by omega
    have HRR:=Hq (show nS (prodN (l.take k))=R from by rw[←HR.out,←HNL.out,List.take_length]);rw[HRR.out];go_wp2;go_ret;exact⟨rfl,HB.out⟩
theorem ze0(l:List ByteArray)(A:Option Addr)(n c:Nat)(w:World)(hs:SlN w A n c l)(hz:SzL l):Calls Tryz.prog 73 #[.slice A n c] w (Ret (.bool (l.all zd)) w):=by
 have HSN:=Hq hs;have HNL:=Hq hs.1;have hc1:=hs.2.1;have hc2:=hs.2.2.1;have HZZ:=Hq hz;obtain⟨R,hR⟩:∃ R,(l.all zd)=R:=⟨_,rfl⟩;rw[hR];have HR:=Hq hR;clear hs hz hR;go_enter Tryz.func73,Tryz.ntmps73;go_wp2;go_loopw [3] (fun i wr=>∃ k:Nat,k≤n∧i=.int .i64 k∧(l.take k).all zd=true∧Below w.heap.size w wr) (fun i _=>n - (intOf i).toNat);case atStart=>exact⟨0,Nat.zero_le _,rfl,by simp,Below.refl _ _⟩
 case round =>
  obtain⟨k,hk,rfl,hall,hbb⟩:=hrel;have HB:=Hq hbb;have HALL:=Hq hall;clear hbb hall;by_cases hlt:k<n
  · obtain⟨x,he⟩:∃ x,l[k]? =some x:=⟨_,List.getElem?_eq_getElem (by rw[HNL.out];exact hlt)⟩;obtain⟨b,o,rfl⟩:=HSN.out.head (by omega);have c0:=(HSN.out.kept HB.out nlr).get? k he;have HXS:=Hq (HZZ.out x (List.mem_of_getElem? he));have HE:=Hq he;clear he
    cases hv:zd x with
    | true =>
     have HV:=Hq hv;skip;clear hv;go_wp2_with fail;refine(zu x HXS.out _).mono ?_;rintro e w2 ⟨rfl,rfl⟩;rw[HV.out];go_wp2;go_roundw;case rel=>exact⟨k+1,by omega,by go_num,zao HALL.out HE.out HV.out,HB.out⟩
     case measure=>simp[intOf];omega
    | false =>
     have HV:=Hq hv;have HRR:=Hq (show R=false from by rw[←HR.out,qh HE.out hv]);skip;clear hv;go_wp2_with fail;refine(zu x HXS.out _).mono ?_;rintro e w2 ⟨rfl,rfl⟩;rw[HV.out];go_wp2;go_ret;exact⟨by rw[HRR.out];rfl,HB.out⟩
  · obtain rfl:k=n:=by omega
    have HRR:=Hq (show R=true from by rw[←HR.out,zbw HALL.out HNL.out]);go_wp2;go_ret;exact⟨by rw[HRR.out];rfl,HB.out⟩
theorem znu(l:List ByteArray)(A:Option Addr)(n c:Nat)(w:World)(hs:SlN w A n c l)(hz:SzL l):Calls Tryz.prog 76 #[.slice A n c] w (Ret (.bool (!(l.all nzB))) w):=by
 have HSN:=Hq hs;have HNL:=Hq hs.1;have hc1:=hs.2.1;have hc2:=hs.2.2.1;have HZZ:=Hq hz;obtain⟨R,hR⟩:∃ R,(!(l.all nzB))=R:=⟨_,rfl⟩;rw[hR];have HR:=Hq hR;clear hs hz hR;go_enter Tryz.func76,Tryz.ntmps76;go_wp2;go_loopw [3] (fun i wr=>∃ k:Nat,k≤n∧i=.int .i64 k∧(l.take k).all nzB=true∧Below w.heap.size w wr) (fun i _=>n - (intOf i).toNat);case atStart=>exact⟨0,Nat.zero_le _,rfl,by simp,Below.refl _ _⟩
 case round =>
  obtain⟨k,hk,rfl,hall,hbb⟩:=hrel;have HB:=Hq hbb;have HALL:=Hq hall;clear hbb hall;by_cases hlt:k<n
  · obtain⟨x,he⟩:∃ x,l[k]? =some x:=⟨_,List.getElem?_eq_getElem (by rw[HNL.out];exact hlt)⟩;obtain⟨b,o,rfl⟩:=HSN.out.head (by omega);have c0:=(HSN.out.kept HB.out nlr).get? k he;have HXS:=Hq (HZZ.out x (List.mem_of_getElem? he));have HE:=Hq he;clear he
    cases hv:nzB x with
    | true =>
     have HV:=Hq hv;have he:=zqq hv;clear hv;skip;go_wp2;go_roundw;case rel=>exact⟨k+1,by omega,by go_num,zao HALL.out HE.out HV.out,HB.out⟩
     case measure=>simp[intOf];omega
    | false =>
     have HV:=Hq hv;have HRR:=Hq (show R=true from by rw[←HR.out,qh HE.out hv];rfl);have he:=zr1 hv;clear hv;skip;go_wp2;go_ret;exact⟨by rw[HRR.out];rfl,HB.out⟩
  · obtain rfl:k=n:=by omega
    have HRR:=Hq (show R=false from by rw[←HR.out,zbw HALL.out HNL.out];rfl);go_wp2;go_ret;exact⟨by rw[HRR.out];rfl,HB.out⟩
end Go.Proofs.YtkfgdcgmlobhfaaGreat

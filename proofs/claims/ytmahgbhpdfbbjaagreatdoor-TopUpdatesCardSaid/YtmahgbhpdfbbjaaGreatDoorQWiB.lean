import Derived.Test.YtmahgbhpdfbbjaaGreatDoorQEpXc
set_option linter.unusedVariables false
set_option linter.unusedSimpArgs false
namespace Go.Proofs.YtmahgbhpdfbbjaaGreatDoor
set_option maxRecDepth 100000
set_option maxHeartbeats 4000000
open Go.RowKit Go.Shelf
attribute [local go_sem] Oper.semAt_some
def SlR(w:World)(A:Option Addr)(len cap:Nat)(L:List (List ByteArray)):Prop:=
 L.length=len∧len≤cap∧cap≤9223372036854775807∧∀ k l,L[k]? =some l→∃ b o,A=some ⟨b,o,none⟩∧∃ A' n' c',w.cell? ⟨b,o+k,none⟩=some (.slice A' n' c')∧SlN w A' n' c' l
theorem SlR.kept{B:Nat}{w w':World}{A:Option Addr}{len cap:Nat}{L:List (List ByteArray)}(h:SlR w A len cap L)(hb:Below B w w')(hB:w.heap.size≤B):SlR w' A len cap L:=
 ⟨h.1,h.2.1,h.2.2.1,fun k l hk =>
  let ⟨b,o,e,A',n',c',hc,hs⟩:=h.2.2.2 k l hk
  ⟨b,o,e,A',n',c',cell_kept hb hB hc,hs.kept hb hB⟩⟩
abbrev SzH:={ s:ByteArray // s.size≤9223372036854775807 }
theorem flat_at{α:Type}:∀ {L:List (List α)} {j:Nat} {l:List α},L[j]? =some l→L.flatten=(L.take j).flatten++(l++(L.drop (j+1)).flatten)
 | [],_,_,h=>by cases h
 | x::L,0,l,h=>by
  cases h;simp
 | x::L,j+1,l,h=>by
  have ih:=flat_at (L:=L) (j:=j) (l:=l) (by simpa using h);rw[List.flatten_cons,ih];simp
theorem flat_snoc{α:Type}{L:List (List α)}{j:Nat}{l:List α}(h:L[j]? =some l):(L.take (j+1)).flatten=(L.take j).flatten++l:=by
 rw[List.take_add_one,h];simp
theorem wi_handles(A:Option Addr)(n c:Nat)(w:World):Calls Tryz.prog 71 #[.slice A n c] w fun e w'=>e=.returned (.func (.func 111) #[] #[.pointer (some ⟨w.heap.size,0,none⟩)])∧w'=w.alloc (.cells #[.slice A n c] 30):=by
 go_enter Tryz.func71,Tryz.ntmps71;go_wp2;go_ret;exact⟨rfl,rfl⟩
theorem handles_stops(k:Nat)(hk:1≤k)(w0:World)(L:List (List ByteArray))(A:Option Addr)(n c:Nat)(hs:SlR w0 A n c L)(hz:∀ l∈L,SzL l)(w:World)(hw:Below w0.heap.size w0 w)(B1:Nat)(h1:BxC w B1 #[.slice A n c] 30) :
 SeqStopsK Fence.wide k Tryz.prog 111 #[.pointer (some ⟨B1,0,none⟩)] (fun x:SzH=>#[Value.string x.val]) (KpB w0.heap.size) (fun xs=>xs.map (·.val)=L.flatten) (fun pre=>pre.map (·.val) <+: L.flatten) L.flatten.length w:=fun lp J Jx W hW hJ hJx hY h0=>by
 have HS:=Hq hs;have HLEN:=Hq hs.1;have hcap:=hs.2.1;have hcap2:=hs.2.2.1;have HZ:=Hq hz;have HW0:=Hq (show KpB w0.heap.size w0 W from(KpB.of_below hw).trans (KpB.of_below (hW.mono hw.size)));have x1:W.cell? ⟨B1,0,none⟩=some (.slice A n c):=(h1.next hW).cell 0;have HY:=Hq hY;have HJ:=Hq hJ;have HJ0:=Hq h0;clear hY hJ hJx h0 hW hw h1 hs hz;refine callsIn_of_wp Tryz.func111 rfl trivial ?_ rfl;simp only[Tryz.ntmps111,List.size_toArray,List.length_cons,List.length_nil,Nat.reduceAdd,Nat.reduceSub,Array.replicate_succ,Array.replicate_zero,List.push_toArray,List.append_toArray,List.nil_append,List.cons_append];gi_wp2;clear x1;gi_loopw [9] (fun i wr=>∃(j:Nat) (pre:List SzH),j≤n∧i=.int .i64 j∧pre.map (·.val)=(L.take j).flatten∧KpB w0.heap.size w0 wr∧J pre wr) (fun i _=>n - (intOf i).toNat);case atStart=>exact⟨0,[],by omega,rfl,rfl,HW0.out,HJ0.out⟩
 case round =>
  obtain⟨j,pre,hj,rfl,hpre,hkp,hJr⟩:=hrel;have HPRE:=Hq hpre;have HKP:=Hq hkp;have HJR:=Hq hJr;clear hpre hkp hJr;by_cases hlt:j<n
  · obtain⟨l,he⟩:∃ l,L[j]? =some l:=⟨_,List.getElem?_eq_getElem (by rw[HLEN.out];exact hlt)⟩;obtain⟨b,o,rfl,A2,n2,c2,hc,hsl⟩:=HS.out.2.2.2 j l he;have x0:wr.cell? ⟨b,o+j,none⟩=some (.slice A2 n2 c2):=HKP.out.cell hc;have HSL:=Hq hsl;have HLL:=Hq hsl.1;have hca:=hsl.2.1;have hcb:=hsl.2.2.1;have HSZ:=Hq (HZ.out l (List.mem_of_getElem? he));have HE:=Hq he;clear he hc hsl;obtain⟨V,hV⟩:∃ V,V=wr:=⟨_,rfl⟩;subst hV;gi_wp2;clear x0;gi_loopw [15] (fun i wr=>∃(q:Nat) (pre:List SzH),q≤n2∧i=.int .i64 q∧pre.map (·.val)=(L.take j).flatten++l.take q∧KpB w0.heap.size w0 wr∧J pre wr) (fun i _=>n2 - (intOf i).toNat);case atStart=>exact⟨0,pre,Nat.zero_le _,rfl,by rw[HPRE.out];simp,HKP.out,HJR.out⟩
    case round =>
     clear HPRE HKP HJR pre;obtain⟨q,pre,hq,rfl,hpre,hkp,hJr⟩:=hrel;have HPRE:=Hq hpre;have HKP:=Hq hkp;have HJR:=Hq hJr;clear hpre hkp hJr;by_cases hlt2:q<n2
     · obtain⟨s,he⟩:∃ s,l[q]? =some s:=⟨_,List.getElem?_eq_getElem (by rw[HLL.out];exact hlt2)⟩;obtain⟨b2,o2,rfl,e1⟩:=HSL.out.cell he;have x0:=HKP.out.cell e1;have HSS:=Hq (HSZ.out s (List.mem_of_getElem? he));have HPN:=Hq (show (pre++[(⟨s,HSS.out⟩:SzH)]).map (·.val)=(L.take j).flatten++l.take (q+1)from by rw[List.map_append,HPRE.out,List.take_add_one,he,List.append_assoc];rfl);have HPX:=Hq (show (pre++[(⟨s,HSS.out⟩:SzH)]).map (·.val) <+: L.flatten from by
        rw[HPN.out,flat_at HE.out]
        exact(List.prefix_append_right_inj _).2 ((List.take_prefix _ _).trans (List.prefix_append _ _)))
       have HPL:=Hq (show pre.length<L.flatten.length from by
        have:=HPX.out.length_le;rw[List.length_map,List.length_append,List.length_singleton]at this
        omega)
       clear he e1;obtain⟨fn,tmps,assign,body,hy,hR⟩:=HY.out pre ⟨s,HSS.out⟩ wr HJR.out HPL.out;have HR:=Hq hR;clear hR;gi_wp2;refine HR.out.mono ?_;rintro ev W' (⟨rfl,hJ',hk'⟩ | ⟨rfl,hJx'⟩)
       · have HJ':=Hq hJ';have HK':=Hq (HKP.out.trans hk');clear hJ' hk';gi_wp2;go_roundw;case rel=>exact⟨q+1,pre++[⟨s,HSS.out⟩],by omega,by go_num,HPN.out,HK'.out,HJ'.out⟩
         case measure=>simp[intOf]<;>omega
       · have HX:=Hq hJx';clear hJx';gi_wp2;refine bodyPost_ret (results_none rfl _ _ _) rfl ?_;exact⟨⟨_,rfl⟩,.inr ⟨pre++[⟨s,HSS.out⟩],HPX.out,HX.out⟩⟩
     · obtain rfl:q=n2:=by omega
       have HPR:=Hq (show pre.map (·.val)=(L.take (j+1)).flatten from by rw[flat_snoc HE.out,HPRE.out,←HLL.out,List.take_length]);clear hlt2 hq;gi_wp2;go_roundw;case rel=>exact⟨j+1,pre,by omega,by go_num,HPR.out,HKP.out,HJR.out⟩
       case measure=>simp[intOf]<;>omega
  · obtain rfl:j=n:=by omega
    have HPR:=Hq (show pre.map (·.val)=L.flatten from by
     have:=HPRE.out;rw[←HLEN.out,List.take_length]at this
     exact this)
    clear hlt hj;gi_wp2;go_end0;exact⟨⟨_,rfl⟩,.inl ⟨pre,HPR.out,HJR.out⟩⟩
end Go.Proofs.YtmahgbhpdfbbjaaGreatDoor

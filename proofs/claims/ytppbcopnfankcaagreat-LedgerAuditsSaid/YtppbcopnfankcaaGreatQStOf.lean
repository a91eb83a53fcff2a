import Derived.Test.YtppbcopnfankcaaGreatQSet
set_option linter.unusedVariables false
set_option linter.unusedSimpArgs false
namespace Go.Proofs.YtppbcopnfankcaaGreat
set_option maxRecDepth 100000
set_option maxHeartbeats 2000000
open Go.RowKit
open Go.Maps Go.WideMaps
def zz6(l:List En)(w:World)(e:Ending)(w':World):Prop:=
 ∃ sb bi br,e=.returned (.pointer (some ⟨sb,0,none⟩))∧StAt w' sb l.length (epochN l) bi br (hasB l 0) (hasB l 1)∧w.heap.size≤sb∧w.heap.size≤bi∧w.heap.size≤br∧Below w.heap.size w w'
theorem qy(l:List En)(A:Option Addr)(len cap:Nat)(w:World)(hs:SlE w A len cap l)(hlen2:len≤4611686018427387903)(hsz:∀(k:Nat) (e:En),l[k]? =some e→e.handle.size≤maxLen):Calls Tryz.prog 17 #[.slice A len cap] w (zz6 l w):=by
 have hlen:=hs.1;have hlc:=hs.2.1;have hcap:=hs.2.2.1;have HS:=Hq hs;have HLEN:=Hq hlen;have HSZ:=Hq hsz;clear hs hlen hsz;have hmm:=@run_makeMap Tryz.prog;go_enter Tryz.func17,Tryz.ntmps17;go_wp2;obtain⟨W0,hW0⟩:=nm ((((w.alloc (.map #[] 0)).alloc (.map #[] 0)).alloc (.cells #[.int .i64 0,.int .i64 0,.map (some w.heap.size),.map (some (w.heap.size+1))] 70)));rw[hW0];have hb0:Below w.heap.size w W0:=by rw[←hW0];exact(((blr).alloc nlr _).alloc (by simp) _).alloc (by simp;omega) _
 have hst0:StAt W0 (w.heap.size+1+1) 0 0 w.heap.size (w.heap.size+1) (fun _=>false) (fun _=>false):=by
  rw[←hW0];refine⟨?_,?_,?_,by omega,by omega,by omega⟩
  · unfold kf;rw[show w.heap.size+1+1=((w.alloc (.map #[] 0)).alloc (.map #[] 0)).heap.size from by simp];exact heap_alloc_new _ _
  · refine((SetM.made w).of_block ?_);rw[Below.heap_alloc _ _ _ (by simp;omega),Below.heap_alloc _ _ _ (by simp)]
  · have h1:=SetM.made (w.alloc (.map #[] 0));rw[show (w.alloc (.map #[] 0)).heap.size=w.heap.size+1 from by simp]at h1;refine(h1.of_block ?_);rw[Below.heap_alloc _ _ _ (by simp)]
 have hz0:w.heap.size+1+1<W0.heap.size:=zn hst0.1;have HB0:=Hq hb0;have HST0:=Hq hst0;clear hb0 hst0 hW0 hmm;go_loopw [12] (fun i wr=>∃ k:Nat,k≤len∧i=.int .i64 k∧StAt wr (w.heap.size+1+1) k (epochN (l.take k)) w.heap.size (w.heap.size+1) (hasB (l.take k) 0) (hasB (l.take k) 1)∧Below w.heap.size w wr) (fun i _=>len - (intOf i).toNat);case atStart=>exact⟨0,Nat.zero_le _,rfl,HST0.out,HB0.out⟩
 case round =>
  clear HST0 HB0;obtain⟨k,hk,rfl,hst,hB⟩:=hrel;have hs1:=HS.out.kept hB nlr;have HST:=Hq hst;have HB:=Hq hB;clear hst hB;by_cases hlt:k<len
  · obtain⟨b,o,rfl⟩:=hs1.head (by omega);obtain⟨e,he⟩:∃ e,l[k]? =some e:=⟨_,List.getElem?_eq_getElem (by rw[HLEN.out];exact hlt)⟩;obtain⟨c0,c1,c2,c3⟩:=hs1.get? k he;have HE:=Hq he;clear hs1 he;go_wp2_with fail;refine(zvn w.heap.size (w.heap.size+1+1) k (epochN (l.take k)) w.heap.size (w.heap.size+1) (hasB (l.take k) 0) (hasB (l.take k) 1) e _ (HST.out.alloc _) (by omega) (by omega) (by omega) (by have:=HB.out.size;simp;omega) (by omega) (by have:=zau (l.take k);rw[List.length_take]at this;omega) (HSZ.out k e HE.out)).mono ?_;rintro e3 w3 ⟨rfl,hst3,hb3⟩;have HST3:=Hq hst3;have HB3:=Hq hb3;clear hst3 hb3;go_wp2;go_roundw;case rel =>
     refine⟨k+1,by omega,by go_num,?_,(HB.out.alloc HB.out.size _).trans HB3.out⟩;obtain⟨h1,h2,h3,h4⟩:=HST3.out;rw[xv HE.out];exact⟨h1,h2.congr fun u=>(zbn HE.out).symm,h3.congr fun u=>(zbn HE.out).symm,h4⟩
    case measure=>simp[intOf];omega
  · obtain rfl:k=len:=by omega
    have hst:=HST.out;rw[List.take_of_length_le (by have:=HLEN.out;omega)]at hst;rw[←HLEN.out]at hst;have HST2:=Hq hst;clear hst hs1;go_wp2;go_ret;exact⟨_,_,_,rfl,HST2.out,by omega,by omega,by omega,HB.out⟩
end Go.Proofs.YtppbcopnfankcaaGreat

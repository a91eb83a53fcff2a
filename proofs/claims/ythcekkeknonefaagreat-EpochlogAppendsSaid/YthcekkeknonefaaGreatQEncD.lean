import Derived.Test.YthcekkeknonefaaGreatQNatB
import Derived.Test.YthcekkeknonefaaGreatQEncB
import Derived.Test.YthcekkeknonefaaGreatQShelf
import Derived.Deep.QuietTactic
import Derived.BigQuiet
set_option linter.unusedVariables false
set_option linter.unusedSimpArgs false
namespace Go.Proofs.YthcekkeknonefaaGreat
set_option maxHeartbeats 400000
open Go.RowKit
theorem r08_canonical(a:ByteArray)(h:a.size≤9223372036854775807)(w:World) :
 Calls Tryz.prog 195 #[.string a] w (RetQ (.bool (nvalid a)) w):=by
 by_cases h1:a.size≤128
 · by_cases h2:a.size=0
   · rw[nvalid_nil h2];go_enter Tryz.func195,Tryz.ntmps195;go_wp2;go_ret;exact⟨rfl,rfl⟩
   · have h3:0<a.size:=by omega
     have h4:((a.size:Int)==0)=false:=beq_eq_false_iff_ne.2 (by omega);rw[nvalid_some h1 h3];go_enter Tryz.func195,Tryz.ntmps195;go_wp2;go_ret;exact⟨rfl,rfl⟩
 · rw[nvalid_long h1];go_enter Tryz.func195,Tryz.ntmps195;go_wp2;go_ret;exact⟨rfl,rfl⟩
set_option maxRecDepth 100000
set_option maxHeartbeats 2000000
theorem valid_take_step{l:List It}{k:Nat}{y:It}(h:l[k]? =some y)(hv:Its.valid (l.take k)=true):Its.valid (l.take (k+1))=y.valid:=by
 rw[take_snoc h,Its.valid_append,hv];simp[Its.valid]
theorem valid_take_false{l:List It}{k:Nat}(h:Its.valid (l.take (k+1))=false):Its.valid l=false:=by
 have:=Its.valid_append (l.take (k+1)) (l.drop (k+1));rw[List.take_append_drop,h]at this;exact this
theorem isEmpty_size(t:ByteArray):t.toList.isEmpty=(t.size==0):=by
 by_cases h:t.size=0
 · rw[sempty_true h];simp[h]
 · rw[sempty_false (by omega)];simp[h]
theorem enc_valid(N:Nat):∀(x:It) (v:Value) (w:World) (ok:Nat→Prop),x.nodes≤N→x.weight≤1000000000000→ItAt w ok v x→Calls Tryz.prog 113 #[v] w (Ret (.bool x.valid) w):=by
 induction N with
 | zero=>intro x v w ok h;have:=x.nodes_pos;omega
 | succ N ih =>
  intro x v w ok hN hM ⟨A,len,cap,hv,hs⟩;subst hv;have IH:=Hq ih;clear ih
  cases x with
  | mk q n t l =>
   simp only[It.kind,It.nat,It.text,It.list]at *;have hlen:=hs.1;have hcap:=hs.2.2.1;have hlc:=hs.2.1;have hnz:n.size≤9223372036854775807:=by simp only[It.weight]at hM;omega
   have hlle:((len:Int)==0)=l.isEmpty:=(by rw[←hlen];cases l<;>simp;omega);have hte:=isEmpty_size t;have hne:=isEmpty_size n;by_cases hq0:q=0
   · subst hq0;have hsp:It.valid (.mk 0 n t l)=(nvalid n&&((t.size==0)&&l.isEmpty)):=by simp[It.valid]
     rw[hsp];have HLEN:=Hq hlen;have HS:=Hq hs;clear hsp hlen hs hne hN hM
     cases hv:nvalid n<;>cases ht:(t.size==0)<;>cases hl:l.isEmpty<;>
     · rw[ht]at hte;rw[hl]at hlle;have HV:=Hq hv;clear hv ht hl;go_enter Tryz.func113,Tryz.ntmps113;go_wp2_with fail;refine(nat_Valid _ hnz _).mono ?_;rintro e w1 ⟨rfl,rfl⟩;rw[HV.out];go_wp2;go_ret;exact⟨rfl,(Below.refl _ _).alloc (Nat.le_refl _) _⟩
   · by_cases hq1:q=1
     · subst hq1;have hsp:It.valid (.mk 1 n t l)=((n.size==0)&&l.isEmpty):=by simp[It.valid]
       rw[hsp];have HLEN:=Hq hlen;have HS:=Hq hs;clear hsp hlen hs hte hN hM hq0
       cases ht:(n.size==0)<;>cases hl:l.isEmpty<;>
       · rw[ht]at hne;rw[hl]at hlle;clear ht hl;go_enter Tryz.func113,Tryz.ntmps113;go_wp2;go_ret;exact⟨rfl,(Below.refl _ _).alloc (Nat.le_refl _) _⟩
     · have e0:(q==0)=false:=beq_eq_false_iff_ne.2 hq0;have e1:(q==1)=false:=beq_eq_false_iff_ne.2 hq1;by_cases hq2:q=2
       · subst hq2;have hsp:It.valid (.mk 2 n t l)=(Its.valid l&&((n.size==0)&&(t.size==0))):=by simp[It.valid]
         rw[hsp];simp only[It.nodes,It.weight]at hN hM;have hs0:=hs.bound;have HN:=Hq hN;have HM:=Hq hM;clear hsp e0 e1 hq0 hq1 hN hM hlle hs;go_enter Tryz.func113,Tryz.ntmps113;go_wp2;go_loopw [39] (fun i wr=>∃ k:Nat,k≤len∧i=.int .i64 k∧Its.valid (l.take k)=true∧Below (w.heap.size+1) (w.alloc (.cells #[.int .i64 2,.string n,.string t,.slice A len cap] 111)) wr) (fun i _=>len - (intOf i).toNat);case atStart=>exact⟨0,Nat.zero_le _,rfl,rfl,Below.refl _ _⟩
         case round =>
          obtain⟨k,hk,rfl,hva,hB⟩:=hrel;have hbb:wr.heap[w.heap.size]? =some (.cells #[.int .i64 2,.string n,.string t,.slice A len cap] 111 (0,0)):=(by rw[hB.block _ (by omega)];exact heap_alloc_new _ _);obtain⟨b0,b1,b2,b3⟩:=four_cells hbb;have hBw:Below w.heap.size w wr:=((Below.refl w.heap.size w).alloc (Nat.le_refl _) _).trans (hB.mono (by omega));have hs1:=hs0.keep (fun b hb _=>hBw.block b hb.2);have hsz:w.heap.size+1≤wr.heap.size:=block_lt hbb;have HB:=Hq hB;have HBW:=Hq hBw;have HVA:=Hq hva;have HLEN:=Hq hlen;clear hbb hB hBw hva hlen;by_cases hlt:k<len
          · obtain⟨b,o,rfl⟩:=hs1.head (by omega);obtain⟨y,hy⟩:∃ y,l[k]? =some y:=⟨_,List.getElem?_eq_getElem (by rw[HLEN.out];exact hlt)⟩;obtain⟨A1,len1,cap1,c0,c1,c2,c3,hs2⟩:=(hs1.get? k hy).open;have hyN:y.nodes≤N:=by have:=Its.mem_nodes (List.mem_of_getElem? hy);have:=HN.out;omega
            have hyM:y.weight≤1000000000000:=by have:=Its.mem_weight (List.mem_of_getElem? hy);have:=HM.out;omega
            have HS2:=Hq hs2;have HY:=Hq hy;clear hs1 hs2 hs0 hy;go_wp2_with fail;refine(IH.out y _ _ _ hyN hyM ⟨A1,len1,cap1,rfl,HS2.out.below ((Below.refl wr.heap.size wr).alloc (Nat.le_refl _) _) (Nat.le_refl _)⟩).mono ?_;rintro e w2 ⟨rfl,hb2⟩;have HB2:=Hq hb2;clear hb2
            cases hyv:y.valid with
            | true =>
             have HYV:=Hq hyv;clear hyv;go_wp2;go_roundw;case rel=>exact⟨k+1,by omega,by go_num,by rw[valid_take_step HY.out HVA.out];exact HYV.out,HB.out.trans (((Below.refl (w.heap.size+1) wr).alloc (by omega) _).trans (HB2.out.mono (by simp;omega)))⟩
             case measure=>simp[intOf];omega
            | false =>
             have hvl:Its.valid l=false:=valid_take_false (k:=k) (by rw[valid_take_step HY.out HVA.out];exact hyv);have HVL:=Hq hvl;clear hyv hvl;go_wp2;go_ret;exact⟨by rw[HVL.out];rfl,HBW.out.trans (((Below.refl w.heap.size wr).alloc (by omega) _).trans (HB2.out.mono (by simp;omega)))⟩
          · obtain rfl:k=len:=by omega
            have hvl:Its.valid l=true:=(by have:=HVA.out;rw[List.take_of_length_le (by have:=HLEN.out;omega)]at this;exact this);have HVL:=Hq hvl;clear hvl hs1 hs0
            cases ht:(t.size==0)<;>cases hn:(n.size==0)<;>
            · rw[ht]at hte;rw[hn]at hne;have HT:=Hq ht;have HN0:=Hq hn;clear ht hn;go_wp2;go_ret;exact⟨by rw[HVL.out,HT.out,HN0.out];rfl,HBW.out⟩
       · have hsp:It.valid (.mk q n t l)=false:=by simp[It.valid,hq0,hq1,hq2]
         rw[hsp];have e2:(q==2)=false:=beq_eq_false_iff_ne.2 hq2;clear hsp hq0 hq1 hq2 hlen hs hlle hte hne hN hM;go_enter Tryz.func113,Tryz.ntmps113;go_wp2;go_ret;exact⟨rfl,(Below.refl _ _).alloc (Nat.le_refl _) _⟩
theorem r08_Valid(N:Nat):∀(x:It) (v:Value) (w:World) (ok:Nat→Prop),x.nodes≤N→x.weight≤1000000000000→ItAt w ok v x→Calls Tryz.prog 129 #[v] w (Ret (.bool x.valid) w):=by
 induction N with
 | zero=>intro x v w ok h;have:=x.nodes_pos;omega
 | succ N ih =>
  intro x v w ok hN hM ⟨A,len,cap,hv,hs⟩;subst hv;have IH:=Hq ih;clear ih
  cases x with
  | mk q n t l =>
   simp only[It.kind,It.nat,It.text,It.list]at *;have hlen:=hs.1;have hcap:=hs.2.2.1;have hlc:=hs.2.1;have hnz:n.size≤9223372036854775807:=by simp only[It.weight]at hM;omega
   have hlle:((len:Int)==0)=l.isEmpty:=(by rw[←hlen];cases l<;>simp;omega);have hte:=isEmpty_size t;have hne:=isEmpty_size n;by_cases hq0:q=0
   · subst hq0;have hsp:It.valid (.mk 0 n t l)=(nvalid n&&((t.size==0)&&l.isEmpty)):=by simp[It.valid]
     rw[hsp];have HLEN:=Hq hlen;have HS:=Hq hs;clear hsp hlen hs hne hN hM
     cases hv:nvalid n<;>cases ht:(t.size==0)<;>cases hl:l.isEmpty<;>
     · rw[ht]at hte;rw[hl]at hlle;have HV:=Hq hv;clear hv ht hl;go_enter Tryz.func129,Tryz.ntmps129;go_wp2_with fail;refine(r08_canonical _ hnz _).mono ?_;rintro e w1 ⟨rfl,rfl⟩;rw[HV.out];go_wp2;go_ret;exact⟨rfl,(Below.refl _ _).alloc (Nat.le_refl _) _⟩
   · by_cases hq1:q=1
     · subst hq1;have hsp:It.valid (.mk 1 n t l)=((n.size==0)&&l.isEmpty):=by simp[It.valid]
       rw[hsp];have HLEN:=Hq hlen;have HS:=Hq hs;clear hsp hlen hs hte hN hM hq0
       cases ht:(n.size==0)<;>cases hl:l.isEmpty<;>
       · rw[ht]at hne;rw[hl]at hlle;clear ht hl;go_enter Tryz.func129,Tryz.ntmps129;go_wp2;go_ret;exact⟨rfl,(Below.refl _ _).alloc (Nat.le_refl _) _⟩
     · have e0:(q==0)=false:=beq_eq_false_iff_ne.2 hq0;have e1:(q==1)=false:=beq_eq_false_iff_ne.2 hq1;by_cases hq2:q=2
       · subst hq2;have hsp:It.valid (.mk 2 n t l)=(Its.valid l&&((n.size==0)&&(t.size==0))):=by simp[It.valid]
         rw[hsp];simp only[It.nodes,It.weight]at hN hM;have hs0:=hs.bound;have HN:=Hq hN;have HM:=Hq hM;clear hsp e0 e1 hq0 hq1 hN hM hlle hs;go_enter Tryz.func129,Tryz.ntmps129;go_wp2;go_loopw [3] (fun i wr=>∃ k:Nat,k≤len∧i=.int .i64 k∧Its.valid (l.take k)=true∧Below (w.heap.size+1) (w.alloc (.cells #[.int .i64 2,.string n,.string t,.slice A len cap] 111)) wr) (fun i _=>len - (intOf i).toNat);case atStart=>exact⟨0,Nat.zero_le _,rfl,rfl,Below.refl _ _⟩
         case round =>
          obtain⟨k,hk,rfl,hva,hB⟩:=hrel;have hbb:wr.heap[w.heap.size]? =some (.cells #[.int .i64 2,.string n,.string t,.slice A len cap] 111 (0,0)):=(by rw[hB.block _ (by omega)];exact heap_alloc_new _ _);obtain⟨b0,b1,b2,b3⟩:=four_cells hbb;have hBw:Below w.heap.size w wr:=((Below.refl w.heap.size w).alloc (Nat.le_refl _) _).trans (hB.mono (by omega));have hs1:=hs0.keep (fun b hb _=>hBw.block b hb.2);have hsz:w.heap.size+1≤wr.heap.size:=block_lt hbb;have HB:=Hq hB;have HBW:=Hq hBw;have HVA:=Hq hva;have HLEN:=Hq hlen;clear hbb hB hBw hva hlen;by_cases hlt:k<len
          · obtain⟨b,o,rfl⟩:=hs1.head (by omega);obtain⟨y,hy⟩:∃ y,l[k]? =some y:=⟨_,List.getElem?_eq_getElem (by rw[HLEN.out];exact hlt)⟩;obtain⟨A1,len1,cap1,c0,c1,c2,c3,hs2⟩:=(hs1.get? k hy).open;have hyN:y.nodes≤N:=by have:=Its.mem_nodes (List.mem_of_getElem? hy);have:=HN.out;omega
            have hyM:y.weight≤1000000000000:=by have:=Its.mem_weight (List.mem_of_getElem? hy);have:=HM.out;omega
            have HS2:=Hq hs2;have HY:=Hq hy;clear hs1 hs2 hs0 hy;go_wp2_with fail;refine(IH.out y _ _ _ hyN hyM ⟨A1,len1,cap1,rfl,HS2.out⟩).mono ?_;rintro e w2 ⟨rfl,hb2⟩;have HB2:=Hq hb2;clear hb2
            cases hyv:y.valid with
            | true =>
             have HYV:=Hq hyv;clear hyv;go_wp2;go_roundw;case rel=>exact⟨k+1,by omega,by go_num,by rw[valid_take_step HY.out HVA.out];exact HYV.out,HB.out.trans (HB2.out.mono (by omega))⟩
             case measure=>simp[intOf];omega
            | false =>
             have hvl:Its.valid l=false:=valid_take_false (k:=k) (by rw[valid_take_step HY.out HVA.out];exact hyv);have HVL:=Hq hvl;clear hyv hvl;go_wp2;go_ret;exact⟨by rw[HVL.out];rfl,HBW.out.trans (HB2.out.mono (by omega))⟩
          · obtain rfl:k=len:=by omega
            have hvl:Its.valid l=true:=(by have:=HVA.out;rw[List.take_of_length_le (by have:=HLEN.out;omega)]at this;exact this);have HVL:=Hq hvl;clear hvl hs1 hs0
            cases ht:(t.size==0)<;>cases hn:(n.size==0)<;>
            · rw[ht]at hte;rw[hn]at hne;have HT:=Hq ht;have HN0:=Hq hn;clear ht hn;go_wp2;go_ret;exact⟨by rw[HVL.out,HT.out,HN0.out];rfl,HBW.out⟩
       · have hsp:It.valid (.mk q n t l)=false:=by simp[It.valid,hq0,hq1,hq2]
         rw[hsp];have e2:(q==2)=false:=beq_eq_false_iff_ne.2 hq2;clear hsp hq0 hq1 hq2 hlen hs hlle hte hne hN hM;go_enter Tryz.func129,Tryz.ntmps129;go_wp2;go_ret;exact⟨rfl,(Below.refl _ _).alloc (Nat.le_refl _) _⟩
theorem depth_take_step{l:List It}{k:Nat}{y:It}(h:l[k]? =some y):Its.depth (l.take (k+1))=max (Its.depth (l.take k)) y.depth:=by
 rw[take_snoc h,Its.depth_append];simp[Its.depth]
theorem depth_take_le(l:List It)(k:Nat):Its.depth (l.take k)≤Its.depth l:=by
 have:=Its.depth_append (l.take k) (l.drop k);rw[List.take_append_drop]at this;omega
theorem enc_depth(N:Nat):∀(x:It) (v:Value) (w:World) (ok:Nat→Prop),x.nodes≤N→x.weight≤1000000000000→ItAt w ok v x→Calls Tryz.prog 114 #[v] w (Ret (.int .i64 x.depth) w):=by
 induction N with
 | zero=>intro x v w ok h;have:=x.nodes_pos;omega
 | succ N ih =>
  intro x v w ok hN hM ⟨A,len,cap,hv,hs⟩;subst hv;have IH:=Hq ih;clear ih
  cases x with
  | mk q n t l =>
   simp only[It.kind,It.nat,It.text,It.list]at *;have hlen:=hs.1;have hcap:=hs.2.2.1;have hlc:=hs.2.1;by_cases hq2:q=2
   · subst hq2;have hsp:It.depth (.mk 2 n t l)=Its.depth l+1:=by simp[It.depth]
     rw[hsp];simp only[It.nodes,It.weight]at hN hM;have hs0:=hs.bound;have hd0:=Its.depth_le l;have hd1:=Its.nodes_le l;have hdb:Its.depth l≤1000000000000:=by omega
     have HN:=Hq hN;have HM:=Hq hM;clear hsp hN hM hs hd0 hd1;go_enter Tryz.func114,Tryz.ntmps114;go_wp2;go_loopw [3,12] (fun m i wr=>∃ k:Nat,k≤len∧i=.int .i64 k∧m=.int .i64 ((Its.depth (l.take k):Nat):Int)∧Below (w.heap.size+1) (w.alloc (.cells #[.int .i64 2,.string n,.string t,.slice A len cap] 111)) wr) (fun _ i _=>len - (intOf i).toNat);case atStart=>exact⟨0,Nat.zero_le _,rfl,rfl,Below.refl _ _⟩
     case round =>
      obtain⟨k,hk,rfl,rfl,hB⟩:=hrel;have hbb:wr.heap[w.heap.size]? =some (.cells #[.int .i64 2,.string n,.string t,.slice A len cap] 111 (0,0)):=(by rw[hB.block _ (by omega)];exact heap_alloc_new _ _);obtain⟨b0,b1,b2,b3⟩:=four_cells hbb;have hBw:Below w.heap.size w wr:=((Below.refl w.heap.size w).alloc (Nat.le_refl _) _).trans (hB.mono (by omega));have hs1:=hs0.keep (fun b hb _=>hBw.block b hb.2);have hsz:w.heap.size+1≤wr.heap.size:=block_lt hbb;have hdk:=depth_take_le l k;have HB:=Hq hB;have HBW:=Hq hBw;have HLEN:=Hq hlen;clear hbb hB hBw hlen;obtain⟨D,hD⟩:∃ D,D=Its.depth (l.take k):=⟨_,rfl⟩;rw[←hD]at hdk⊢;have HD:=Hq hD;clear hD;by_cases hlt:k<len
      · obtain⟨b,o,rfl⟩:=hs1.head (by omega);obtain⟨y,hy⟩:∃ y,l[k]? =some y:=⟨_,List.getElem?_eq_getElem (by rw[HLEN.out];exact hlt)⟩;obtain⟨A1,len1,cap1,c0,c1,c2,c3,hs2⟩:=(hs1.get? k hy).open;have hyN:y.nodes≤N:=by have:=Its.mem_nodes (List.mem_of_getElem? hy);have:=HN.out;omega
        have hyM:y.weight≤1000000000000:=by have:=Its.mem_weight (List.mem_of_getElem? hy);have:=HM.out;omega
        have HS2:=Hq hs2;have HY:=Hq hy;clear hs1 hs2 hs0 hy;go_wp2_with fail;refine(IH.out y _ _ _ hyN hyM ⟨A1,len1,cap1,rfl,HS2.out.below ((Below.refl wr.heap.size wr).alloc (Nat.le_refl _) _) (Nat.le_refl _)⟩).mono ?_;rintro e w2 ⟨rfl,hb2⟩;have HB2:=Hq hb2;clear hb2;go_wp2;exact⟨⟨k+1,by omega,by go_num,by rw[depth_take_step HY.out,←HD.out];exact congrArg (Value.int .i64) (by omega),HB.out.trans (((Below.refl (w.heap.size+1) wr).alloc (by omega) _).trans (HB2.out.mono (by simp;omega)))⟩,by simp[intOf];omega⟩
      · obtain rfl:k=len:=by omega
        have hvl:D=Its.depth l:=(by have:=HD.out;rw[List.take_of_length_le (by have:=HLEN.out;omega)]at this;exact this);have HVL:=Hq hvl;clear hvl hs1 hs0;go_wp2;go_ret;exact⟨by rw[←HVL.out];rfl,HBW.out⟩
   · have hsp:It.depth (.mk q n t l)=0:=by simp[It.depth,hq2]
     rw[hsp];have e2:(q != 2)=true:=by rw[bne_iff_ne];exact hq2
     clear hsp hq2 hlen hs hN hM;go_enter Tryz.func114,Tryz.ntmps114;go_wp2;go_ret;exact⟨rfl,(Below.refl _ _).alloc (Nat.le_refl _) _⟩
theorem r08_Depth(N:Nat):∀(x:It) (v:Value) (w:World) (ok:Nat→Prop),x.nodes≤N→x.weight≤1000000000000→ItAt w ok v x→Calls Tryz.prog 130 #[v] w (Ret (.int .i64 x.depth) w):=by
 induction N with
 | zero=>intro x v w ok h;have:=x.nodes_pos;omega
 | succ N ih =>
  intro x v w ok hN hM ⟨A,len,cap,hv,hs⟩;subst hv;have IH:=Hq ih;clear ih
  cases x with
  | mk q n t l =>
   simp only[It.kind,It.nat,It.text,It.list]at *;have hlen:=hs.1;have hcap:=hs.2.2.1;have hlc:=hs.2.1;by_cases hq2:q=2
   · subst hq2;have hsp:It.depth (.mk 2 n t l)=Its.depth l+1:=by simp[It.depth]
     rw[hsp];simp only[It.nodes,It.weight]at hN hM;have hs0:=hs.bound;have hd0:=Its.depth_le l;have hd1:=Its.nodes_le l;have hdb:Its.depth l≤1000000000000:=by omega
     have HN:=Hq hN;have HM:=Hq hM;clear hsp hN hM hs hd0 hd1;go_enter Tryz.func130,Tryz.ntmps130;go_wp2;go_loopw [3,4] (fun m i wr=>∃ k:Nat,k≤len∧i=.int .i64 k∧m=.int .i64 ((Its.depth (l.take k):Nat):Int)∧Below (w.heap.size+1) (w.alloc (.cells #[.int .i64 2,.string n,.string t,.slice A len cap] 111)) wr) (fun _ i _=>len - (intOf i).toNat);case atStart=>exact⟨0,Nat.zero_le _,rfl,rfl,Below.refl _ _⟩
     case round =>
      obtain⟨k,hk,rfl,rfl,hB⟩:=hrel;have hbb:wr.heap[w.heap.size]? =some (.cells #[.int .i64 2,.string n,.string t,.slice A len cap] 111 (0,0)):=(by rw[hB.block _ (by omega)];exact heap_alloc_new _ _);obtain⟨b0,b1,b2,b3⟩:=four_cells hbb;have hBw:Below w.heap.size w wr:=((Below.refl w.heap.size w).alloc (Nat.le_refl _) _).trans (hB.mono (by omega));have hs1:=hs0.keep (fun b hb _=>hBw.block b hb.2);have hsz:w.heap.size+1≤wr.heap.size:=block_lt hbb;have hdk:=depth_take_le l k;have HB:=Hq hB;have HBW:=Hq hBw;have HLEN:=Hq hlen;clear hbb hB hBw hlen;obtain⟨D,hD⟩:∃ D,D=Its.depth (l.take k):=⟨_,rfl⟩;rw[←hD]at hdk⊢;have HD:=Hq hD;clear hD;by_cases hlt:k<len
      · obtain⟨b,o,rfl⟩:=hs1.head (by omega);obtain⟨y,hy⟩:∃ y,l[k]? =some y:=⟨_,List.getElem?_eq_getElem (by rw[HLEN.out];exact hlt)⟩;obtain⟨A1,len1,cap1,c0,c1,c2,c3,hs2⟩:=(hs1.get? k hy).open;have hyN:y.nodes≤N:=by have:=Its.mem_nodes (List.mem_of_getElem? hy);have:=HN.out;omega
        have hyM:y.weight≤1000000000000:=by have:=Its.mem_weight (List.mem_of_getElem? hy);have:=HM.out;omega
        have HS2:=Hq hs2;have HY:=Hq hy;clear hs1 hs2 hs0 hy;go_wp2_with fail;refine(IH.out y _ _ _ hyN hyM ⟨A1,len1,cap1,rfl,HS2.out⟩).mono ?_;rintro e w2 ⟨rfl,hb2⟩;have HB2:=Hq hb2;clear hb2;go_wp2;exact⟨⟨k+1,by omega,by go_num,by rw[depth_take_step HY.out,←HD.out];exact congrArg (Value.int .i64) (by omega),HB.out.trans (HB2.out.mono (by omega))⟩,by simp[intOf];omega⟩
      · obtain rfl:k=len:=by omega
        have hvl:D=Its.depth l:=(by have:=HD.out;rw[List.take_of_length_le (by have:=HLEN.out;omega)]at this;exact this);have HVL:=Hq hvl;clear hvl hs1 hs0;go_wp2;go_ret;exact⟨by rw[←HVL.out];rfl,HBW.out⟩
   · have hsp:It.depth (.mk q n t l)=0:=by simp[It.depth,hq2]
     rw[hsp];have e2:(q != 2)=true:=by rw[bne_iff_ne];exact hq2
     clear hsp hq2 hlen hs hN hM;go_enter Tryz.func130,Tryz.ntmps130;go_wp2;go_ret;exact⟨rfl,(Below.refl _ _).alloc (Nat.le_refl _) _⟩
set_option maxRecDepth 100000
set_option maxHeartbeats 2000000
theorem or128(c:Nat)(h:c<256):bits BinOp.or IntKind.u8 (c:Int) 128=((c%128+128:Nat):Int):=by
 have : ∀ c:Fin 256,bits BinOp.or IntKind.u8 ((c.1:Nat):Int) 128=((c.1%128+128:Nat):Int):=by decide +kernel
 exact this ⟨c,h⟩
theorem or128'(m:Nat):bits BinOp.or IntKind.u8 ((m:Int)%256) 128=((m%128+128:Nat):Int):=by
 rw[show ((m:Int)%256)=((m%256:Nat):Int)from by omega,or128 _ (by omega)];omega
theorem toNat_small{m:Nat}(h:m<256):(UInt8.ofNat m).toNat=m:=by
 rw[UInt8.toNat_ofNat'];omega
theorem bytesAt_alloc(w:World)(cs:Array Value)(T:TypeId)(bs:List UInt8)(len cap:Nat)(hl:bs.length=len)(hc:len≤cap)(hm:cap≤9223372036854775807)
 (h:∀ k,k<len→cs[k]? =some (.int .u8 (byteI bs k))):BytesAt (w.alloc (.cells cs T)) (some ⟨w.heap.size,0,none⟩) len cap bs:=
 ⟨hl,hc,hm,fun _=>⟨_,_,rfl,fun k hk=>by rw[Nat.zero_add,World.cell?_alloc_at (hn:=rfl)];exact h k hk⟩⟩
theorem lenB_0(n:Nat)(h:n<128):lenB n=[UInt8.ofNat (n)]:=by
 unfold lenB;rw[lenF,if_pos (by omega)]
theorem lenB_at0(w:World)(n:Nat)(h:n<128)(T:TypeId):BytesAt (w.alloc (.cells #[.int .u8 ((n:Int)),.int .u8 0,.int .u8 0,.int .u8 0,.int .u8 0,.int .u8 0,.int .u8 0,.int .u8 0,.int .u8 0,.int .u8 0] T)) (some ⟨w.heap.size,0,none⟩) 1 10 (lenB n):=by
 rw[lenB_0 n h];refine bytesAt_alloc w _ T _ _ _ rfl (by omega) (by omega) fun k hk=>?_
 match k,hk with
 | 0,_=>exact congrArg (fun x=>some (Value.int .u8 x)) (show ((n:Nat):Int)=_ from congrArg Int.ofNat (toNat_small (by omega)).symm)
theorem lenB_1(n:Nat)(hl:128≤n)(h:n<16384):lenB n=[UInt8.ofNat (n%128+128),UInt8.ofNat (n / 128)]:=by
 unfold lenB;rw[lenF,if_neg (by omega)];rw[lenF,if_pos (by omega)]
theorem lenB_at1(w:World)(n:Nat)(hl:128≤n)(h:n<16384)(T:TypeId):BytesAt (w.alloc (.cells #[.int .u8 (bits BinOp.or IntKind.u8 ((n:Int)%256) 128),.int .u8 ((n:Int) / 128),.int .u8 0,.int .u8 0,.int .u8 0,.int .u8 0,.int .u8 0,.int .u8 0,.int .u8 0,.int .u8 0] T)) (some ⟨w.heap.size,0,none⟩) 2 10 (lenB n):=by
 rw[lenB_1 n hl h];refine bytesAt_alloc w _ T _ _ _ rfl (by omega) (by omega) fun k hk=>?_
 match k,hk with
 | 0,_=>exact congrArg (fun x=>some (Value.int .u8 x)) ((or128' (n)).trans (congrArg Int.ofNat (toNat_small (by omega)).symm))
 | 1,_=>exact congrArg (fun x=>some (Value.int .u8 x)) (show ((n / 128:Nat):Int)=_ from congrArg Int.ofNat (toNat_small (by omega)).symm)
theorem lenB_2(n:Nat)(hl:16384≤n)(h:n<2097152):lenB n=[UInt8.ofNat (n%128+128),UInt8.ofNat (n / 128%128+128),UInt8.ofNat (n / 128 / 128)]:=by
 unfold lenB;rw[lenF,if_neg (by omega)];rw[lenF,if_neg (by omega)];rw[lenF,if_pos (by omega)]
theorem lenB_at2(w:World)(n:Nat)(hl:16384≤n)(h:n<2097152)(T:TypeId):BytesAt (w.alloc (.cells #[.int .u8 (bits BinOp.or IntKind.u8 ((n:Int)%256) 128),.int .u8 (bits BinOp.or IntKind.u8 ((n:Int) / 128%256) 128),.int .u8 ((n:Int) / 128 / 128),.int .u8 0,.int .u8 0,.int .u8 0,.int .u8 0,.int .u8 0,.int .u8 0,.int .u8 0] T)) (some ⟨w.heap.size,0,none⟩) 3 10 (lenB n):=by
 rw[lenB_2 n hl h];refine bytesAt_alloc w _ T _ _ _ rfl (by omega) (by omega) fun k hk=>?_
 match k,hk with
 | 0,_=>exact congrArg (fun x=>some (Value.int .u8 x)) ((or128' (n)).trans (congrArg Int.ofNat (toNat_small (by omega)).symm))
 | 1,_=>exact congrArg (fun x=>some (Value.int .u8 x)) ((or128' (n / 128)).trans (congrArg Int.ofNat (toNat_small (by omega)).symm))
 | 2,_=>exact congrArg (fun x=>some (Value.int .u8 x)) (show ((n / 128 / 128:Nat):Int)=_ from congrArg Int.ofNat (toNat_small (by omega)).symm)
theorem lenB_3(n:Nat)(hl:2097152≤n)(h:n<268435456):lenB n=[UInt8.ofNat (n%128+128),UInt8.ofNat (n / 128%128+128),UInt8.ofNat (n / 128 / 128%128+128),UInt8.ofNat (n / 128 / 128 / 128)]:=by
 unfold lenB;rw[lenF,if_neg (by omega)];rw[lenF,if_neg (by omega)];rw[lenF,if_neg (by omega)];rw[lenF,if_pos (by omega)]
theorem lenB_at3(w:World)(n:Nat)(hl:2097152≤n)(h:n<268435456)(T:TypeId):BytesAt (w.alloc (.cells #[.int .u8 (bits BinOp.or IntKind.u8 ((n:Int)%256) 128),.int .u8 (bits BinOp.or IntKind.u8 ((n:Int) / 128%256) 128),.int .u8 (bits BinOp.or IntKind.u8 ((n:Int) / 128 / 128%256) 128),.int .u8 ((n:Int) / 128 / 128 / 128),.int .u8 0,.int .u8 0,.int .u8 0,.int .u8 0,.int .u8 0,.int .u8 0] T)) (some ⟨w.heap.size,0,none⟩) 4 10 (lenB n):=by
 rw[lenB_3 n hl h];refine bytesAt_alloc w _ T _ _ _ rfl (by omega) (by omega) fun k hk=>?_
 match k,hk with
 | 0,_=>exact congrArg (fun x=>some (Value.int .u8 x)) ((or128' (n)).trans (congrArg Int.ofNat (toNat_small (by omega)).symm))
 | 1,_=>exact congrArg (fun x=>some (Value.int .u8 x)) ((or128' (n / 128)).trans (congrArg Int.ofNat (toNat_small (by omega)).symm))
 | 2,_=>exact congrArg (fun x=>some (Value.int .u8 x)) ((or128' (n / 128 / 128)).trans (congrArg Int.ofNat (toNat_small (by omega)).symm))
 | 3,_=>exact congrArg (fun x=>some (Value.int .u8 x)) (show ((n / 128 / 128 / 128:Nat):Int)=_ from congrArg Int.ofNat (toNat_small (by omega)).symm)
theorem lenB_4(n:Nat)(hl:268435456≤n)(h:n<34359738368):lenB n=[UInt8.ofNat (n%128+128),UInt8.ofNat (n / 128%128+128),UInt8.ofNat (n / 128 / 128%128+128),UInt8.ofNat (n / 128 / 128 / 128%128+128),UInt8.ofNat (n / 128 / 128 / 128 / 128)]:=by
 unfold lenB;rw[lenF,if_neg (by omega)];rw[lenF,if_neg (by omega)];rw[lenF,if_neg (by omega)];rw[lenF,if_neg (by omega)];rw[lenF,if_pos (by omega)]
theorem lenB_at4(w:World)(n:Nat)(hl:268435456≤n)(h:n<34359738368)(T:TypeId):BytesAt (w.alloc (.cells #[.int .u8 (bits BinOp.or IntKind.u8 ((n:Int)%256) 128),.int .u8 (bits BinOp.or IntKind.u8 ((n:Int) / 128%256) 128),.int .u8 (bits BinOp.or IntKind.u8 ((n:Int) / 128 / 128%256) 128),.int .u8 (bits BinOp.or IntKind.u8 ((n:Int) / 128 / 128 / 128%256) 128),.int .u8 ((n:Int) / 128 / 128 / 128 / 128),.int .u8 0,.int .u8 0,.int .u8 0,.int .u8 0,.int .u8 0] T)) (some ⟨w.heap.size,0,none⟩) 5 10 (lenB n):=by
 rw[lenB_4 n hl h];refine bytesAt_alloc w _ T _ _ _ rfl (by omega) (by omega) fun k hk=>?_
 match k,hk with
 | 0,_=>exact congrArg (fun x=>some (Value.int .u8 x)) ((or128' (n)).trans (congrArg Int.ofNat (toNat_small (by omega)).symm))
 | 1,_=>exact congrArg (fun x=>some (Value.int .u8 x)) ((or128' (n / 128)).trans (congrArg Int.ofNat (toNat_small (by omega)).symm))
 | 2,_=>exact congrArg (fun x=>some (Value.int .u8 x)) ((or128' (n / 128 / 128)).trans (congrArg Int.ofNat (toNat_small (by omega)).symm))
 | 3,_=>exact congrArg (fun x=>some (Value.int .u8 x)) ((or128' (n / 128 / 128 / 128)).trans (congrArg Int.ofNat (toNat_small (by omega)).symm))
 | 4,_=>exact congrArg (fun x=>some (Value.int .u8 x)) (show ((n / 128 / 128 / 128 / 128:Nat):Int)=_ from congrArg Int.ofNat (toNat_small (by omega)).symm)
theorem enc_length(n:Nat)(w:World)(h:n<34359738368):Calls Tryz.prog 175 #[.int .i64 n] w (Ret (.string (bstr (lenB n))) w):=by
 by_cases h0:n<128
 · have hconv:=BytesAt.conv (lenB_at0 w n h0 259) 166 9 5 Tryz.underlying166 Tryz.underlying5 Tryz.underlying9;go_enter Tryz.func175,Tryz.ntmps175;go_wp2;refine wp_loop_rounds 1 ?_;iterate 1 (rw[rounds_succ];go_wp2_with fail)
   go_ret;exact⟨rfl,(Below.refl _ _).alloc (Nat.le_refl _) _⟩
 · skip;by_cases h1:n<16384
   · have hconv:=BytesAt.conv (lenB_at1 w n (by omega) h1 259) 166 9 5 Tryz.underlying166 Tryz.underlying5 Tryz.underlying9;go_enter Tryz.func175,Tryz.ntmps175;go_wp2;refine wp_loop_rounds 2 ?_;iterate 2 (rw[rounds_succ];go_wp2_with fail)
     go_ret;exact⟨rfl,(Below.refl _ _).alloc (Nat.le_refl _) _⟩
   · skip;by_cases h2:n<2097152
     · have hconv:=BytesAt.conv (lenB_at2 w n (by omega) h2 259) 166 9 5 Tryz.underlying166 Tryz.underlying5 Tryz.underlying9;go_enter Tryz.func175,Tryz.ntmps175;go_wp2;refine wp_loop_rounds 3 ?_;iterate 3 (rw[rounds_succ];go_wp2_with fail)
       go_ret;exact⟨rfl,(Below.refl _ _).alloc (Nat.le_refl _) _⟩
     · skip;by_cases h3:n<268435456
       · have hconv:=BytesAt.conv (lenB_at3 w n (by omega) h3 259) 166 9 5 Tryz.underlying166 Tryz.underlying5 Tryz.underlying9;go_enter Tryz.func175,Tryz.ntmps175;go_wp2;refine wp_loop_rounds 4 ?_;iterate 4 (rw[rounds_succ];go_wp2_with fail)
         go_ret;exact⟨rfl,(Below.refl _ _).alloc (Nat.le_refl _) _⟩
       · skip;have hconv:=BytesAt.conv (lenB_at4 w n (by omega) h 259) 166 9 5 Tryz.underlying166 Tryz.underlying5 Tryz.underlying9;go_enter Tryz.func175,Tryz.ntmps175;go_wp2;refine wp_loop_rounds 5 ?_;iterate 5 (rw[rounds_succ];go_wp2_with fail)
         go_ret;exact⟨rfl,(Below.refl _ _).alloc (Nat.le_refl _) _⟩
end Go.Proofs.YthcekkeknonefaaGreat

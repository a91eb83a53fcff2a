import Derived.Test.YtfbmbledklbfgaaGreatQNat8
set_option linter.unusedVariables false
set_option linter.unusedSimpArgs false
namespace Go.Proofs.YtfbmbledklbfgaaGreat
set_option maxRecDepth 100000
set_option maxHeartbeats 2000000
open Go.RowKit
theorem valid_take_step{l:List It}{k:Nat}{y:It}(h:l[k]? =some y)(hv:Its.valid (l.take k)=true):Its.valid (l.take (k+1))=y.valid:=by
 rw[take_snoc h,Its.valid_append,hv];simp[Its.valid]
theorem valid_take_false{l:List It}{k:Nat}(h:Its.valid (l.take (k+1))=false):Its.valid l=false:=by
 have:=Its.valid_append (l.take (k+1)) (l.drop (k+1));rw[List.take_append_drop,h]at this;exact this
theorem isEmpty_size(t:ByteArray):t.toList.isEmpty=(t.size==0):=by
 by_cases h:t.size=0
 · rw[sempty_true h];simp[h]
 · rw[sempty_false (by omega)];simp[h]
theorem enc_valid(N:Nat):∀(x:It) (v:Value) (w:World) (ok:Nat→Prop),x.nodes≤N→x.weight≤1000000000000→ItAt w ok v x→Calls Tryz.prog 91 #[v] w (Ret (.bool x.valid) w):=by
 induction N with
 | zero=>intro x v w ok h;have:=x.nodes_pos;omega
 | succ N ih =>
  intro x v w ok hN hM ⟨A,len,cap,hv,hs⟩;subst hv;have IH:=Hq ih;clear ih
  cases x with
  | mk q n t l =>
   simp only[It.kind,It.nat,It.text,It.list]at *;have hlen:=hs.1;have hcap:=hs.2.2.1;have hlc:=hs.2.1;have hnz:n.size≤9223372036854775807:=by simp only[It.weight]at hM;omega
   have hlle:((len:Int)==0)=l.isEmpty:=(by rw[←hlen];cases l<;>simp;omega);have hte:=isEmpty_size t;have hne:=isEmpty_size n;by_cases hq0:q=0
   · subst hq0;have hsp:It.valid (.mk 0 n t l)=(nvalid n&&((t.size==0)&&l.isEmpty)):=by simp[It.valid]
     rw[hsp];have HLEN:=Hq hlen;have HS:=Hq hs;clear hsp hlen hs hne hN hM
     cases hv:nvalid n<;>cases ht:(t.size==0)<;>cases hl:l.isEmpty<;>
     · rw[ht]at hte;rw[hl]at hlle;have HV:=Hq hv;clear hv ht hl;go_enter Tryz.func91,Tryz.ntmps91;go_wp2_with fail;refine(nat_Valid _ hnz _).mono ?_;rintro e w1 ⟨rfl,rfl⟩;rw[HV.out];go_wp2;go_ret;exact⟨rfl,(blr).alloc nlr _⟩
   · by_cases hq1:q=1
     · subst hq1;have hsp:It.valid (.mk 1 n t l)=((n.size==0)&&l.isEmpty):=by simp[It.valid]
       rw[hsp];have HLEN:=Hq hlen;have HS:=Hq hs;clear hsp hlen hs hte hN hM hq0
       cases ht:(n.size==0)<;>cases hl:l.isEmpty<;>
       · rw[ht]at hne;rw[hl]at hlle;clear ht hl;go_enter Tryz.func91,Tryz.ntmps91;go_wp2;go_ret;exact⟨rfl,(blr).alloc nlr _⟩
     · have e0:(q==0)=false:=beq_eq_false_iff_ne.2 hq0;have e1:(q==1)=false:=beq_eq_false_iff_ne.2 hq1;by_cases hq2:q=2
       · subst hq2;have hsp:It.valid (.mk 2 n t l)=(Its.valid l&&((n.size==0)&&(t.size==0))):=by simp[It.valid]
         rw[hsp];simp only[It.nodes,It.weight]at hN hM;have hs0:=hs.bound;have HN:=Hq hN;have HM:=Hq hM;clear hsp e0 e1 hq0 hq1 hN hM hlle hs;go_enter Tryz.func91,Tryz.ntmps91;go_wp2;go_loopw [39] (fun i wr=>∃ k:Nat,k≤len∧i=.int .i64 k∧Its.valid (l.take k)=true∧Below (w.heap.size+1) (w.alloc (.cells #[.int .i64 2,.string n,.string t,.slice A len cap] 106)) wr) (fun i _=>len - (intOf i).toNat);case atStart=>exact⟨0,Nat.zero_le _,rfl,rfl,Below.refl _ _⟩
         case round =>
          obtain⟨k,hk,rfl,hva,hB⟩:=hrel;have hbb:wr.heap[w.heap.size]? =some (.cells #[.int .i64 2,.string n,.string t,.slice A len cap] 106 (0,0)):=(by rw[hB.block _ (by omega)];exact heap_alloc_new _ _);obtain⟨b0,b1,b2,b3⟩:=four_cells hbb;have hBw:Below w.heap.size w wr:=((Below.refl w.heap.size w).alloc nlr _).trans (hB.mono (by omega));have hs1:=hs0.keep (fun b hb _=>hBw.block b hb.2);have hsz:w.heap.size+1≤wr.heap.size:=block_lt hbb;have HB:=Hq hB;have HBW:=Hq hBw;have HVA:=Hq hva;have HLEN:=Hq hlen;clear hbb hB hBw hva hlen;by_cases hlt:k<len
          · obtain⟨b,o,rfl⟩:=hs1.head (by omega);obtain⟨y,hy⟩:∃ y,l[k]? =some y:=⟨_,List.getElem?_eq_getElem (by rw[HLEN.out];exact hlt)⟩;obtain⟨A1,len1,cap1,c0,c1,c2,c3,hs2⟩:=(hs1.get? k hy).open;have hyN:y.nodes≤N:=by have:=Its.mem_nodes (List.mem_of_getElem? hy);have:=HN.out;omega
            have hyM:y.weight≤1000000000000:=by have:=Its.mem_weight (List.mem_of_getElem? hy);have:=HM.out;omega
            have HS2:=Hq hs2;have HY:=Hq hy;clear hs1 hs2 hs0 hy;go_wp2_with fail;refine(IH.out y _ _ _ hyN hyM ⟨A1,len1,cap1,rfl,HS2.out.below ((Below.refl wr.heap.size wr).alloc nlr _) nlr⟩).mono ?_;rintro e w2 ⟨rfl,hb2⟩;have HB2:=Hq hb2;clear hb2
            cases hyv:y.valid with
            | true =>
             have HYV:=Hq hyv;clear hyv;go_wp2;go_roundw;case rel=>exact⟨k+1,by omega,by go_num,by rw[valid_take_step HY.out HVA.out];exact HYV.out,HB.out.trans (((Below.refl (w.heap.size+1) wr).alloc (by omega) _).trans (HB2.out.mono (by simp;omega)))⟩
             case measure=>simp[intOf];omega
            | false =>
             have hvl:Its.valid l=false:=valid_take_false (k:=k) (by rw[valid_take_step HY.out HVA.out];exact hyv);have HVL:=Hq hvl;clear hyv hvl;go_wp2;go_ret;exact⟨by rw[HVL.out];rfl,HBW.out.trans (((Below.refl w.heap.size wr).alloc (by omega) _).trans (HB2.out.mono (by simp;omega)))⟩
          · obtain rfl:k=len:=by omega
            have hvl:Its.valid l=true:=(by have:=HVA.out;rw[List.take_of_length_le (by have:=HLEN.out;omega)]at this;exact this);have HVL:=Hq hvl;clear hvl hs1 hs0
            cases ht:(t.size==0)<;>cases hn:(n.size==0)<;>
            · rw[ht]at hte;rw[hn]at hne;have HT:=Hq ht;have HN0:=Hq hn;clear ht hn;go_wp2;go_ret;exact⟨by rw[HVL.out,HT.out,HN0.out];rfl,HBW.out⟩
       · have hsp:It.valid (.mk q n t l)=false:=by simp[It.valid,hq0,hq1,hq2]
         rw[hsp];have e2:(q==2)=false:=beq_eq_false_iff_ne.2 hq2;clear hsp hq0 hq1 hq2 hlen hs hlle hte hne hN hM;go_enter Tryz.func91,Tryz.ntmps91;go_wp2;go_ret;exact⟨rfl,(blr).alloc nlr _⟩
theorem r08_Valid(N:Nat):∀(x:It) (v:Value) (w:World) (ok:Nat→Prop),x.nodes≤N→x.weight≤1000000000000→ItAt w ok v x→Calls Tryz.prog 115 #[v] w (Ret (.bool x.valid) w):=by
 induction N with
 | zero=>intro x v w ok h;have:=x.nodes_pos;omega
 | succ N ih =>
  intro x v w ok hN hM ⟨A,len,cap,hv,hs⟩;subst hv;have IH:=Hq ih;clear ih
  cases x with
  | mk q n t l =>
   simp only[It.kind,It.nat,It.text,It.list]at *;have hlen:=hs.1;have hcap:=hs.2.2.1;have hlc:=hs.2.1;have hnz:n.size≤9223372036854775807:=by simp only[It.weight]at hM;omega
   have hlle:((len:Int)==0)=l.isEmpty:=(by rw[←hlen];cases l<;>simp;omega);have hte:=isEmpty_size t;have hne:=isEmpty_size n;by_cases hq0:q=0
   · subst hq0;have hsp:It.valid (.mk 0 n t l)=(nvalid n&&((t.size==0)&&l.isEmpty)):=by simp[It.valid]
     rw[hsp];have HLEN:=Hq hlen;have HS:=Hq hs;clear hsp hlen hs hne hN hM
     cases hv:nvalid n<;>cases ht:(t.size==0)<;>cases hl:l.isEmpty<;>
     · rw[ht]at hte;rw[hl]at hlle;have HV:=Hq hv;clear hv ht hl;go_enter Tryz.func115,Tryz.ntmps115;go_wp2_with fail;refine(r08_canonical _ hnz _).mono ?_;rintro e w1 ⟨rfl,rfl⟩;rw[HV.out];go_wp2;go_ret;exact⟨rfl,(blr).alloc nlr _⟩
   · by_cases hq1:q=1
     · subst hq1;have hsp:It.valid (.mk 1 n t l)=((n.size==0)&&l.isEmpty):=by simp[It.valid]
       rw[hsp];have HLEN:=Hq hlen;have HS:=Hq hs;clear hsp hlen hs hte hN hM hq0
       cases ht:(n.size==0)<;>cases hl:l.isEmpty<;>
       · rw[ht]at hne;rw[hl]at hlle;clear ht hl;go_enter Tryz.func115,Tryz.ntmps115;go_wp2;go_ret;exact⟨rfl,(blr).alloc nlr _⟩
     · have e0:(q==0)=false:=beq_eq_false_iff_ne.2 hq0;have e1:(q==1)=false:=beq_eq_false_iff_ne.2 hq1;by_cases hq2:q=2
       · subst hq2;have hsp:It.valid (.mk 2 n t l)=(Its.valid l&&((n.size==0)&&(t.size==0))):=by simp[It.valid]
         rw[hsp];simp only[It.nodes,It.weight]at hN hM;have hs0:=hs.bound;have HN:=Hq hN;have HM:=Hq hM;clear hsp e0 e1 hq0 hq1 hN hM hlle hs;go_enter Tryz.func115,Tryz.ntmps115;go_wp2;go_loopw [3] (fun i wr=>∃ k:Nat,k≤len∧i=.int .i64 k∧Its.valid (l.take k)=true∧Below (w.heap.size+1) (w.alloc (.cells #[.int .i64 2,.string n,.string t,.slice A len cap] 106)) wr) (fun i _=>len - (intOf i).toNat);case atStart=>exact⟨0,Nat.zero_le _,rfl,rfl,Below.refl _ _⟩
         case round =>
          obtain⟨k,hk,rfl,hva,hB⟩:=hrel;have hbb:wr.heap[w.heap.size]? =some (.cells #[.int .i64 2,.string n,.string t,.slice A len cap] 106 (0,0)):=(by rw[hB.block _ (by omega)];exact heap_alloc_new _ _);obtain⟨b0,b1,b2,b3⟩:=four_cells hbb;have hBw:Below w.heap.size w wr:=((Below.refl w.heap.size w).alloc nlr _).trans (hB.mono (by omega));have hs1:=hs0.keep (fun b hb _=>hBw.block b hb.2);have hsz:w.heap.size+1≤wr.heap.size:=block_lt hbb;have HB:=Hq hB;have HBW:=Hq hBw;have HVA:=Hq hva;have HLEN:=Hq hlen;clear hbb hB hBw hva hlen;by_cases hlt:k<len
          · obtain⟨b,o,rfl⟩:=hs1.head (by omega);obtain⟨y,hy⟩:∃ y,l[k]? =some y:=⟨_,List.getElem?_eq_getElem (by rw[HLEN.out];exact hlt)⟩;obtain⟨A1,len1,cap1,c0,c1,c2,c3,hs2⟩:=(hs1.get? k hy).open;have hyN:y.nodes≤N:=by have:=Its.mem_nodes (List.mem_of_getElem? hy);have:=HN.out;omega
            have hyM:y.weight≤1000000000000:=by have:=Its.mem_weight (List.mem_of_getElem? hy);have:=HM.out;omega
            have HS2:=Hq hs2;have HY:=Hq hy;clear hs1 hs2 hs0 hy;go_wp2_with fail;refine(IH.out y _ _ _ hyN hyM ⟨A1,len1,cap1,rfl,HS2.out⟩).mono ?_;rintro e w2 ⟨rfl,hb2⟩;have HB2:=Hq hb2;clear hb2
            cases hyv:y.valid with
            | true =>
             have HYV:=Hq hyv;clear hyv;go_wp2;go_roundw;case rel=>exact⟨k+1,by omega,by go_num,by rw[valid_take_step HY.out HVA.out];exact HYV.out,HB.out.trans (HB2.out.mono (by omega))⟩
             case measure=>simp[intOf];omega
            | false =>
             have hvl:Its.valid l=false:=valid_take_false (k:=k) (by rw[valid_take_step HY.out HVA.out];exact hyv);have HVL:=Hq hvl;clear hyv hvl;go_wp2;go_ret;exact⟨by rw[HVL.out];rfl,HBW.out.trans (HB2.out.mono (by omega))⟩
          · obtain rfl:k=len:=by omega
            have hvl:Its.valid l=true:=(by have:=HVA.out;rw[List.take_of_length_le (by have:=HLEN.out;omega)]at this;exact this);have HVL:=Hq hvl;clear hvl hs1 hs0
            cases ht:(t.size==0)<;>cases hn:(n.size==0)<;>
            · rw[ht]at hte;rw[hn]at hne;have HT:=Hq ht;have HN0:=Hq hn;clear ht hn;go_wp2;go_ret;exact⟨by rw[HVL.out,HT.out,HN0.out];rfl,HBW.out⟩
       · have hsp:It.valid (.mk q n t l)=false:=by simp[It.valid,hq0,hq1,hq2]
         rw[hsp];have e2:(q==2)=false:=beq_eq_false_iff_ne.2 hq2;clear hsp hq0 hq1 hq2 hlen hs hlle hte hne hN hM;go_enter Tryz.func115,Tryz.ntmps115;go_wp2;go_ret;exact⟨rfl,(blr).alloc nlr _⟩
theorem depth_take_step{l:List It}{k:Nat}{y:It}(h:l[k]? =some y):Its.depth (l.take (k+1))=max (Its.depth (l.take k)) y.depth:=by
 rw[take_snoc h,Its.depth_append];simp[Its.depth]
theorem depth_take_le(l:List It)(k:Nat):Its.depth (l.take k)≤Its.depth l:=by
 have:=Its.depth_append (l.take k) (l.drop k);rw[List.take_append_drop]at this;omega
theorem enc_depth(N:Nat):∀(x:It) (v:Value) (w:World) (ok:Nat→Prop),x.nodes≤N→x.weight≤1000000000000→ItAt w ok v x→Calls Tryz.prog 92 #[v] w (Ret (.int .i64 x.depth) w):=by
 induction N with
 | zero=>intro x v w ok h;have:=x.nodes_pos;omega
 | succ N ih =>
  intro x v w ok hN hM ⟨A,len,cap,hv,hs⟩;subst hv;have IH:=Hq ih;clear ih
  cases x with
  | mk q n t l =>
   simp only[It.kind,It.nat,It.text,It.list]at *;have hlen:=hs.1;have hcap:=hs.2.2.1;have hlc:=hs.2.1;by_cases hq2:q=2
   · subst hq2;have hsp:It.depth (.mk 2 n t l)=Its.depth l+1:=by simp[It.depth]
     rw[hsp];simp only[It.nodes,It.weight]at hN hM;have hs0:=hs.bound;have hd0:=Its.depth_le l;have hd1:=Its.nodes_le l;have hdb:Its.depth l≤1000000000000:=by omega
     have HN:=Hq hN;have HM:=Hq hM;clear hsp hN hM hs hd0 hd1;go_enter Tryz.func92,Tryz.ntmps92;go_wp2;go_loopw [3,12] (fun m i wr=>∃ k:Nat,k≤len∧i=.int .i64 k∧m=.int .i64 ((Its.depth (l.take k):Nat):Int)∧Below (w.heap.size+1) (w.alloc (.cells #[.int .i64 2,.string n,.string t,.slice A len cap] 106)) wr) (fun _ i _=>len - (intOf i).toNat);case atStart=>exact⟨0,Nat.zero_le _,rfl,rfl,Below.refl _ _⟩
     case round =>
      obtain⟨k,hk,rfl,rfl,hB⟩:=hrel;have hbb:wr.heap[w.heap.size]? =some (.cells #[.int .i64 2,.string n,.string t,.slice A len cap] 106 (0,0)):=(by rw[hB.block _ (by omega)];exact heap_alloc_new _ _);obtain⟨b0,b1,b2,b3⟩:=four_cells hbb;have hBw:Below w.heap.size w wr:=((Below.refl w.heap.size w).alloc nlr _).trans (hB.mono (by omega));have hs1:=hs0.keep (fun b hb _=>hBw.block b hb.2);have hsz:w.heap.size+1≤wr.heap.size:=block_lt hbb;have hdk:=depth_take_le l k;have HB:=Hq hB;have HBW:=Hq hBw;have HLEN:=Hq hlen;clear hbb hB hBw hlen;obtain⟨D,hD⟩:∃ D,D=Its.depth (l.take k):=⟨_,rfl⟩;rw[←hD]at hdk⊢;have HD:=Hq hD;clear hD;by_cases hlt:k<len
      · obtain⟨b,o,rfl⟩:=hs1.head (by omega);obtain⟨y,hy⟩:∃ y,l[k]? =some y:=⟨_,List.getElem?_eq_getElem (by rw[HLEN.out];exact hlt)⟩;obtain⟨A1,len1,cap1,c0,c1,c2,c3,hs2⟩:=(hs1.get? k hy).open;have hyN:y.nodes≤N:=by have:=Its.mem_nodes (List.mem_of_getElem? hy);have:=HN.out;omega
        have hyM:y.weight≤1000000000000:=by have:=Its.mem_weight (List.mem_of_getElem? hy);have:=HM.out;omega
        have HS2:=Hq hs2;have HY:=Hq hy;clear hs1 hs2 hs0 hy;go_wp2_with fail;refine(IH.out y _ _ _ hyN hyM ⟨A1,len1,cap1,rfl,HS2.out.below ((Below.refl wr.heap.size wr).alloc nlr _) nlr⟩).mono ?_;rintro e w2 ⟨rfl,hb2⟩;have HB2:=Hq hb2;clear hb2;go_wp2;exact⟨⟨k+1,by omega,by go_num,by rw[depth_take_step HY.out,←HD.out];exact congrArg (Value.int .i64) (by omega),HB.out.trans (((Below.refl (w.heap.size+1) wr).alloc (by omega) _).trans (HB2.out.mono (by simp;omega)))⟩,by simp[intOf];omega⟩
      · obtain rfl:k=len:=by omega
        have hvl:D=Its.depth l:=(by have:=HD.out;rw[List.take_of_length_le (by have:=HLEN.out;omega)]at this;exact this);have HVL:=Hq hvl;clear hvl hs1 hs0;go_wp2;go_ret;exact⟨by rw[←HVL.out];rfl,HBW.out⟩
   · have hsp:It.depth (.mk q n t l)=0:=by simp[It.depth,hq2]
     rw[hsp];have e2:(q != 2)=true:=by rw[bne_iff_ne];exact hq2
     clear hsp hq2 hlen hs hN hM;go_enter Tryz.func92,Tryz.ntmps92;go_wp2;go_ret;exact⟨rfl,(blr).alloc nlr _⟩
theorem r08_Depth(N:Nat):∀(x:It) (v:Value) (w:World) (ok:Nat→Prop),x.nodes≤N→x.weight≤1000000000000→ItAt w ok v x→Calls Tryz.prog 116 #[v] w (Ret (.int .i64 x.depth) w):=by
 induction N with
 | zero=>intro x v w ok h;have:=x.nodes_pos;omega
 | succ N ih =>
  intro x v w ok hN hM ⟨A,len,cap,hv,hs⟩;subst hv;have IH:=Hq ih;clear ih
  cases x with
  | mk q n t l =>
   simp only[It.kind,It.nat,It.text,It.list]at *;have hlen:=hs.1;have hcap:=hs.2.2.1;have hlc:=hs.2.1;by_cases hq2:q=2
   · subst hq2;have hsp:It.depth (.mk 2 n t l)=Its.depth l+1:=by simp[It.depth]
     rw[hsp];simp only[It.nodes,It.weight]at hN hM;have hs0:=hs.bound;have hd0:=Its.depth_le l;have hd1:=Its.nodes_le l;have hdb:Its.depth l≤1000000000000:=by omega
     have HN:=Hq hN;have HM:=Hq hM;clear hsp hN hM hs hd0 hd1;go_enter Tryz.func116,Tryz.ntmps116;go_wp2;go_loopw [3,4] (fun m i wr=>∃ k:Nat,k≤len∧i=.int .i64 k∧m=.int .i64 ((Its.depth (l.take k):Nat):Int)∧Below (w.heap.size+1) (w.alloc (.cells #[.int .i64 2,.string n,.string t,.slice A len cap] 106)) wr) (fun _ i _=>len - (intOf i).toNat);case atStart=>exact⟨0,Nat.zero_le _,rfl,rfl,Below.refl _ _⟩
     case round =>
      obtain⟨k,hk,rfl,rfl,hB⟩:=hrel;have hbb:wr.heap[w.heap.size]? =some (.cells #[.int .i64 2,.string n,.string t,.slice A len cap] 106 (0,0)):=(by rw[hB.block _ (by omega)];exact heap_alloc_new _ _);obtain⟨b0,b1,b2,b3⟩:=four_cells hbb;have hBw:Below w.heap.size w wr:=((Below.refl w.heap.size w).alloc nlr _).trans (hB.mono (by omega));have hs1:=hs0.keep (fun b hb _=>hBw.block b hb.2);have hsz:w.heap.size+1≤wr.heap.size:=block_lt hbb;have hdk:=depth_take_le l k;have HB:=Hq hB;have HBW:=Hq hBw;have HLEN:=Hq hlen;clear hbb hB hBw hlen;obtain⟨D,hD⟩:∃ D,D=Its.depth (l.take k):=⟨_,rfl⟩;rw[←hD]at hdk⊢;have HD:=Hq hD;clear hD;by_cases hlt:k<len
      · obtain⟨b,o,rfl⟩:=hs1.head (by omega);obtain⟨y,hy⟩:∃ y,l[k]? =some y:=⟨_,List.getElem?_eq_getElem (by rw[HLEN.out];exact hlt)⟩;obtain⟨A1,len1,cap1,c0,c1,c2,c3,hs2⟩:=(hs1.get? k hy).open;have hyN:y.nodes≤N:=by have:=Its.mem_nodes (List.mem_of_getElem? hy);have:=HN.out;omega
        have hyM:y.weight≤1000000000000:=by have:=Its.mem_weight (List.mem_of_getElem? hy);have:=HM.out;omega
        have HS2:=Hq hs2;have HY:=Hq hy;clear hs1 hs2 hs0 hy;go_wp2_with fail;refine(IH.out y _ _ _ hyN hyM ⟨A1,len1,cap1,rfl,HS2.out⟩).mono ?_;rintro e w2 ⟨rfl,hb2⟩;have HB2:=Hq hb2;clear hb2;go_wp2;exact⟨⟨k+1,by omega,by go_num,by rw[depth_take_step HY.out,←HD.out];exact congrArg (Value.int .i64) (by omega),HB.out.trans (HB2.out.mono (by omega))⟩,by simp[intOf];omega⟩
      · obtain rfl:k=len:=by omega
        have hvl:D=Its.depth l:=(by have:=HD.out;rw[List.take_of_length_le (by have:=HLEN.out;omega)]at this;exact this);have HVL:=Hq hvl;clear hvl hs1 hs0;go_wp2;go_ret;exact⟨by rw[←HVL.out];rfl,HBW.out⟩
   · have hsp:It.depth (.mk q n t l)=0:=by simp[It.depth,hq2]
     rw[hsp];have e2:(q != 2)=true:=by rw[bne_iff_ne];exact hq2
     clear hsp hq2 hlen hs hN hM;go_enter Tryz.func116,Tryz.ntmps116;go_wp2;go_ret;exact⟨rfl,(blr).alloc nlr _⟩
set_option maxRecDepth 100000
set_option maxHeartbeats 2000000
theorem or128(c:Nat)(h:c<256):bits BinOp.or IntKind.u8 (c:Int) 128=((c%128+128:Nat):Int):=by
 have : ∀ c:Fin 256,bits BinOp.or IntKind.u8 ((c.1:Nat):Int) 128=((c.1%128+128:Nat):Int):=by decide +kernel
 exact this ⟨c,h⟩
theorem or128'(m:Nat):bits BinOp.or IntKind.u8 ((m:Int)%256) 128=((m%128+128:Nat):Int):=by
 rw[show ((m:Int)%256)=((m%256:Nat):Int)from by omega,or128 _ (by omega)];omega
theorem toNat_small{m:Nat}(h:m<256):(UInt8.ofNat m).toNat=m:=by
 rw[UInt8.toNat_ofNat'];omega
theorem bytesAt_alloc(w:World)(cs:Array Value)(T:TypeId)(bs:List UInt8)(len cap:Nat)(hl:bs.length=len)(hc:len≤cap)(hm:cap≤9223372036854775807)
 (h:∀ k,k<len→cs[k]? =some (.int .u8 (byteI bs k))):BytesAt (w.alloc (.cells cs T)) (some ⟨w.heap.size,0,none⟩) len cap bs:=
 ⟨hl,hc,hm,fun _=>⟨_,_,rfl,fun k hk=>by rw[Nat.zero_add,World.cell?_alloc_at (hn:=rfl)];exact h k hk⟩⟩
theorem lenB_0(n:Nat)(h:n<128):lenB n=[UInt8.ofNat (n)]:=by
 unfold lenB;rw[lenF,if_pos (by omega)]
theorem lenB_at0(w:World)(n:Nat)(h:n<128)(T:TypeId):BytesAt (w.alloc (.cells #[.int .u8 ((n:Int)),.int .u8 0,.int .u8 0,.int .u8 0,.int .u8 0,.int .u8 0,.int .u8 0,.int .u8 0,.int .u8 0,.int .u8 0] T)) (some ⟨w.heap.size,0,none⟩) 1 10 (lenB n):=by
 rw[lenB_0 n h];refine bytesAt_alloc w _ T _ _ _ rfl (by omega) (by omega) fun k hk=>?_
 match k,hk with
 | 0,_=>exact congrArg (fun x=>some (Value.int .u8 x)) (show ((n:Nat):Int)=_ from congrArg Int.ofNat (toNat_small (by omega)).symm)
theorem lenB_1(n:Nat)(hl:128≤n)(h:n<16384):lenB n=[UInt8.ofNat (n%128+128),UInt8.ofNat (n / 128)]:=by
 unfold lenB;rw[lenF,if_neg (by omega)];rw[lenF,if_pos (by omega)]
theorem lenB_at1(w:World)(n:Nat)(hl:128≤n)(h:n<16384)(T:TypeId):BytesAt (w.alloc (.cells #[.int .u8 (bits BinOp.or IntKind.u8 ((n:Int)%256) 128),.int .u8 ((n:Int) / 128),.int .u8 0,.int .u8 0,.int .u8 0,.int .u8 0,.int .u8 0,.int .u8 0,.int .u8 0,.int .u8 0] T)) (some ⟨w.heap.size,0,none⟩) 2 10 (lenB n):=by
 rw[lenB_1 n hl h];refine bytesAt_alloc w _ T _ _ _ rfl (by omega) (by omega) fun k hk=>?_
 match k,hk with
 | 0,_=>exact congrArg (fun x=>some (Value.int .u8 x)) ((or128' (n)).trans (congrArg Int.ofNat (toNat_small (by omega)).symm))
 | 1,_=>exact congrArg (fun x=>some (Value.int .u8 x)) (show ((n / 128:Nat):Int)=_ from congrArg Int.ofNat (toNat_small (by omega)).symm)
theorem lenB_2(n:Nat)(hl:16384≤n)(h:n<2097152):lenB n=[UInt8.ofNat (n%128+128),UInt8.ofNat (n / 128%128+128),UInt8.ofNat (n / 128 / 128)]:=by
 unfold lenB;rw[lenF,if_neg (by omega)];rw[lenF,if_neg (by omega)];rw[lenF,if_pos (by omega)]
theorem lenB_at2(w:World)(n:Nat)(hl:16384≤n)(h:n<2097152)(T:TypeId):BytesAt (w.alloc (.cells #[.int .u8 (bits BinOp.or IntKind.u8 ((n:Int)%256) 128),.int .u8 (bits BinOp.or IntKind.u8 ((n:Int) / 128%256) 128),.int .u8 ((n:Int) / 128 / 128),.int .u8 0,.int .u8 0,.int .u8 0,.int .u8 0,.int .u8 0,.int .u8 0,.int .u8 0] T)) (some ⟨w.heap.size,0,none⟩) 3 10 (lenB n):=by
 rw[lenB_2 n hl h];refine bytesAt_alloc w _ T _ _ _ rfl (by omega) (by omega) fun k hk=>?_
 match k,hk with
 | 0,_=>exact congrArg (fun x=>some (Value.int .u8 x)) ((or128' (n)).trans (congrArg Int.ofNat (toNat_small (by omega)).symm))
 | 1,_=>exact congrArg (fun x=>some (Value.int .u8 x)) ((or128' (n / 128)).trans (congrArg Int.ofNat (toNat_small (by omega)).symm))
 | 2,_=>exact congrArg (fun x=>some (Value.int .u8 x)) (show ((n / 128 / 128:Nat):Int)=_ from congrArg Int.ofNat (toNat_small (by omega)).symm)
theorem lenB_3(n:Nat)(hl:2097152≤n)(h:n<268435456):lenB n=[UInt8.ofNat (n%128+128),UInt8.ofNat (n / 128%128+128),UInt8.ofNat (n / 128 / 128%128+128),UInt8.ofNat (n / 128 / 128 / 128)]:=by
 unfold lenB;rw[lenF,if_neg (by omega)];rw[lenF,if_neg (by omega)];rw[lenF,if_neg (by omega)];rw[lenF,if_pos (by omega)]
theorem lenB_at3(w:World)(n:Nat)(hl:2097152≤n)(h:n<268435456)(T:TypeId):BytesAt (w.alloc (.cells #[.int .u8 (bits BinOp.or IntKind.u8 ((n:Int)%256) 128),.int .u8 (bits BinOp.or IntKind.u8 ((n:Int) / 128%256) 128),.int .u8 (bits BinOp.or IntKind.u8 ((n:Int) / 128 / 128%256) 128),.int .u8 ((n:Int) / 128 / 128 / 128),.int .u8 0,.int .u8 0,.int .u8 0,.int .u8 0,.int .u8 0,.int .u8 0] T)) (some ⟨w.heap.size,0,none⟩) 4 10 (lenB n):=by
 rw[lenB_3 n hl h];refine bytesAt_alloc w _ T _ _ _ rfl (by omega) (by omega) fun k hk=>?_
 match k,hk with
 | 0,_=>exact congrArg (fun x=>some (Value.int .u8 x)) ((or128' (n)).trans (congrArg Int.ofNat (toNat_small (by omega)).symm))
 | 1,_=>exact congrArg (fun x=>some (Value.int .u8 x)) ((or128' (n / 128)).trans (congrArg Int.ofNat (toNat_small (by omega)).symm))
 | 2,_=>exact congrArg (fun x=>some (Value.int .u8 x)) ((or128' (n / 128 / 128)).trans (congrArg Int.ofNat (toNat_small (by omega)).symm))
 | 3,_=>exact congrArg (fun x=>some (Value.int .u8 x)) (show ((n / 128 / 128 / 128:Nat):Int)=_ from congrArg Int.ofNat (toNat_small (by omega)).symm)
theorem lenB_4(n:Nat)(hl:268435456≤n)(h:n<34359738368):lenB n=[UInt8.ofNat (n%128+128),UInt8.ofNat (n / 128%128+128),UInt8.ofNat (n / 128 / 128%128+128),UInt8.ofNat (n / 128 / 128 / 128%128+128),UInt8.ofNat (n / 128 / 128 / 128 / 128)]:=by
 unfold lenB;rw[lenF,if_neg (by omega)];rw[lenF,if_neg (by omega)];rw[lenF,if_neg (by omega)];rw[lenF,if_neg (by omega)];rw[lenF,if_pos (by omega)]
theorem lenB_at4(w:World)(n:Nat)(hl:268435456≤n)(h:n<34359738368)(T:TypeId):BytesAt (w.alloc (.cells #[.int .u8 (bits BinOp.or IntKind.u8 ((n:Int)%256) 128),.int .u8 (bits BinOp.or IntKind.u8 ((n:Int) / 128%256) 128),.int .u8 (bits BinOp.or IntKind.u8 ((n:Int) / 128 / 128%256) 128),.int .u8 (bits BinOp.or IntKind.u8 ((n:Int) / 128 / 128 / 128%256) 128),.int .u8 ((n:Int) / 128 / 128 / 128 / 128),.int .u8 0,.int .u8 0,.int .u8 0,.int .u8 0,.int .u8 0] T)) (some ⟨w.heap.size,0,none⟩) 5 10 (lenB n):=by
 rw[lenB_4 n hl h];refine bytesAt_alloc w _ T _ _ _ rfl (by omega) (by omega) fun k hk=>?_
 match k,hk with
 | 0,_=>exact congrArg (fun x=>some (Value.int .u8 x)) ((or128' (n)).trans (congrArg Int.ofNat (toNat_small (by omega)).symm))
 | 1,_=>exact congrArg (fun x=>some (Value.int .u8 x)) ((or128' (n / 128)).trans (congrArg Int.ofNat (toNat_small (by omega)).symm))
 | 2,_=>exact congrArg (fun x=>some (Value.int .u8 x)) ((or128' (n / 128 / 128)).trans (congrArg Int.ofNat (toNat_small (by omega)).symm))
 | 3,_=>exact congrArg (fun x=>some (Value.int .u8 x)) ((or128' (n / 128 / 128 / 128)).trans (congrArg Int.ofNat (toNat_small (by omega)).symm))
 | 4,_=>exact congrArg (fun x=>some (Value.int .u8 x)) (show ((n / 128 / 128 / 128 / 128:Nat):Int)=_ from congrArg Int.ofNat (toNat_small (by omega)).symm)
theorem enc_length(n:Nat)(w:World)(h:n<34359738368):Calls Tryz.prog 139 #[.int .i64 n] w (Ret (.string (bstr (lenB n))) w):=by
 by_cases h0:n<128
 · have hconv:=BytesAt.conv (lenB_at0 w n h0 232) 167 9 5 Tryz.underlying167 Tryz.underlying5 Tryz.underlying9;go_enter Tryz.func139,Tryz.ntmps139;go_wp2;refine wp_loop_rounds 1 ?_;iterate 1 (rw[rounds_succ];go_wp2_with fail)
   go_ret;exact⟨rfl,(blr).alloc nlr _⟩
 · skip;by_cases h1:n<16384
   · have hconv:=BytesAt.conv (lenB_at1 w n (by omega) h1 232) 167 9 5 Tryz.underlying167 Tryz.underlying5 Tryz.underlying9;go_enter Tryz.func139,Tryz.ntmps139;go_wp2;refine wp_loop_rounds 2 ?_;iterate 2 (rw[rounds_succ];go_wp2_with fail)
     go_ret;exact⟨rfl,(blr).alloc nlr _⟩
   · skip;by_cases h2:n<2097152
     · have hconv:=BytesAt.conv (lenB_at2 w n (by omega) h2 232) 167 9 5 Tryz.underlying167 Tryz.underlying5 Tryz.underlying9;go_enter Tryz.func139,Tryz.ntmps139;go_wp2;refine wp_loop_rounds 3 ?_;iterate 3 (rw[rounds_succ];go_wp2_with fail)
       go_ret;exact⟨rfl,(blr).alloc nlr _⟩
     · skip;by_cases h3:n<268435456
       · have hconv:=BytesAt.conv (lenB_at3 w n (by omega) h3 232) 167 9 5 Tryz.underlying167 Tryz.underlying5 Tryz.underlying9;go_enter Tryz.func139,Tryz.ntmps139;go_wp2;refine wp_loop_rounds 4 ?_;iterate 4 (rw[rounds_succ];go_wp2_with fail)
         go_ret;exact⟨rfl,(blr).alloc nlr _⟩
       · skip;have hconv:=BytesAt.conv (lenB_at4 w n (by omega) h 232) 167 9 5 Tryz.underlying167 Tryz.underlying5 Tryz.underlying9;go_enter Tryz.func139,Tryz.ntmps139;go_wp2;refine wp_loop_rounds 5 ?_;iterate 5 (rw[rounds_succ];go_wp2_with fail)
         go_ret;exact⟨rfl,(blr).alloc nlr _⟩
set_option maxRecDepth 100000
set_option maxHeartbeats 2000000
theorem conv_one(w:World)(c:Nat)(h:c<256)(b:Nat)(hb:b=w.heap.size)(T:TypeId):(convert 167 9 (.slice (some ⟨b,0,none⟩) 1 1)).run Tryz.prog (w.alloc (.cells #[.int .u8 (c:Int)] T)) =
 .ok (.string (bstr [UInt8.ofNat c])) (w.alloc (.cells #[.int .u8 (c:Int)] T)):=by
 subst hb;refine BytesAt.conv (bytesAt_alloc w _ T [UInt8.ofNat c] 1 1 rfl (by omega) (by omega) fun k hk=>?_) _ _ 5 Tryz.underlying167 Tryz.underlying5 Tryz.underlying9
 match k,hk with
 | 0,_=>exact congrArg (fun x=>some (Value.int .u8 x)) (congrArg Int.ofNat (toNat_small h).symm)
theorem bstr_append(l m:List UInt8):bstr l++bstr m=bstr (l++m):=by
 unfold bstr;rw[ByteArray.mk_append_mk]
theorem r08_Length(n:Nat)(w:World)(h:n<34359738368):Calls Tryz.prog 167 #[.int .i64 n] w (Ret (.string (bstr (lenB n))) w):=by
 have hn:(n:Int)≤34359738368:=by omega
 have h0:n<128 ^ 10:=by omega
 have H0:=Hq h0;clear h h0;go_enter Tryz.func167,Tryz.ntmps167;go_wp2;go_loopw [0,3] (fun m s wr=>∃(q f:Nat) (p:List UInt8),m=.int .i64 q∧s=.string (bstr p)∧lenB n=p++lenF (f+1) q∧p.length+f=9∧q<128 ^ (f+1)∧q≤n∧Below w.heap.size w wr) (fun m _ _=>(intOf m).toNat);case atStart=>exact⟨n,9,[],rfl,rfl,rfl,rfl,H0.out,Nat.le_refl _,Below.refl _ _⟩
 case round =>
  obtain⟨q,f,p,rfl,rfl,hl,hp,hq,hqn,hB⟩:=hrel;have hps:(bstr p).size≤10:=by rw[bstr_size];omega
  have hsz:=hB.size;have HL:=Hq hl;have HP:=Hq hp;have HQ:=Hq hq;have HB:=Hq hB;clear hl hp hq hB;by_cases h1:q<128
  · have hc:=conv_one wr q (by omega) _ rfl 5;have hs:=bstr_size [UInt8.ofNat q];have hadd:=run_string_add_sum (P:=Tryz.prog) (wr.alloc (.cells #[.int .u8 (q:Int)] 5)) (bstr p) (bstr [UInt8.ofNat q]) (by rw[hs];simp;omega);rw[bstr_append]at hadd;clear hs;go_wp2;go_ret;refine⟨?_,HB.out.alloc hsz _⟩;have e:=HL.out;rw[lenF,if_pos h1]at e;rw[e];rfl
  · obtain⟨f',hf⟩:∃ f',f=f'+1:=by
     cases f with
     | zero=>have:=HQ.out;omega
     | succ f'=>exact⟨f',rfl⟩
    subst hf;have hc:=conv_one wr (q%128+128) (by omega) _ rfl 5;rw[show (((q%128+128:Nat):Int))=(q:Int)%128+128 from by omega]at hc;have hs:=bstr_size [UInt8.ofNat (q%128+128)];have hadd:=run_string_add_sum (P:=Tryz.prog) (wr.alloc (.cells #[.int .u8 ((q:Int)%128+128)] 5)) (bstr p) (bstr [UInt8.ofNat (q%128+128)]) (by rw[hs];simp;omega);rw[bstr_append]at hadd;clear hs;obtain⟨c,hcc⟩:∃ c:UInt8,UInt8.ofNat (q%128+128)=c:=⟨_,rfl⟩;rw[hcc]at hc hadd;have HCC:=Hq hcc;clear hcc;go_wp2;refine⟨⟨q / 128,f',_,by go_num,rfl,?_,?_,?_,by omega,HB.out.alloc hsz _⟩,by simp[intOf];omega⟩
    · rw[HL.out,lenF,if_neg h1,HCC.out];simp
    · have:=HP.out;simp;omega
    · have:=HQ.out;rw[Nat.pow_succ]at this;exact Nat.div_lt_of_lt_mul (by omega)
theorem r08_List(l:List It)(A:Option Addr)(len cap:Nat)(w:World)(ok:Nat→Prop)(hM:l.length≤1000000000000)(hs:SlAt w ok A len cap l):Calls Tryz.prog 64 #[.slice A len cap] w (RetIt0 (.mk 2 ⟨#[]⟩ ⟨#[]⟩ l) w):=by
 have hlen:=hs.1;by_cases h0:len=0
 · subst h0;have hl:l=[]:=List.length_eq_zero_iff.1 hlen;subst hl;clear hlen hs hM
   cases A with
   | none =>
    go_enter Tryz.func64,Tryz.ntmps64;go_wp2;exact bodyPost_ret (v:=.agg #[.int .i64 2,.string ⟨#[]⟩,.string ⟨#[]⟩,.slice none 0 0]) (by simp[results,Tryz.results64,go_sem]) rfl ⟨_,rfl,⟨none,0,0,rfl,SlAt.nil _ _⟩,(blr).alloc nlr _⟩
   | some ad =>
    have hlc:=fun(w:World)=>(run_loadCells_list (P:=Tryz.prog) w ad [] (by intro j v hj;simp at hj));go_enter Tryz.func64,Tryz.ntmps64;go_wp2;exact bodyPost_ret (v:=.agg #[.int .i64 2,.string ⟨#[]⟩,.string ⟨#[]⟩,.slice none 0 0]) (by simp[results,Tryz.results64,go_sem]) rfl ⟨_,rfl,⟨none,0,0,rfl,SlAt.nil _ _⟩,(blr).alloc nlr _⟩
 · obtain⟨b,o,rfl⟩:=hs.head (by omega);obtain⟨vs,hrow,hc,ho⟩:∃ vs,RowV w ok vs l∧(∀ j u,vs[j]? =some u→w.cell? ⟨b,o+j,none⟩=some u)∧∀ u∈vs,u.oneCell'=true:=(by obtain⟨h1,h2,h3,b',o',h4,h5⟩:=hs;have:=(h4 (by omega)).1;simp only[Option.some.injEq,Addr.mk.injEq,and_true]at this;obtain⟨rfl,rfl⟩:=this;exact RowAt.vals l b o h5);obtain⟨i0,hi,hz0,hz1,hz2⟩:=info_parts item_info;have hvl:=hrow.length;have hlb:len≤1000000000000:=by omega
   have HLEN:=Hq hlen;have HS:=Hq hs;have HROW:=Hq hrow;have HC:=Hq hc;have HO:=Hq ho;have HVL:=Hq hvl;clear hlen hs hrow hc ho hvl;have hpos:0<len:=by omega
   clear h0;have hnews:∀ w':World,Below w.heap.size w w'→∀ j u,vs[j]? =some u→w'.cell? ((⟨b,o,none⟩:Addr).add j)=some u:=fun w' hb j u hj=>by
    have e:(⟨b,o,none⟩:Addr).add j=⟨b,o+j,none⟩:=by unfold Addr.add;split<;>simp_all
    rw[e];exact cell_kept hb nlr (HC.out j u hj)
   have HNEWS:=Hq hnews;clear hnews;go_enter Tryz.func64,Tryz.ntmps64;go_wp2_with (at_builtin;refine wpList_append_lies _ rfl (.tmp 4) (.tmp 5) 104 rfl (w.heap.size+1) 106 i0 _ 4 64 Tryz.underlying104 hi hz0 hz1 hz2 rfl (by decide) _ 0 [] rfl (World.ownsRow_nil _ _ _ _) ⟨b,o,none⟩ len cap vs rfl ?h1 ?h2 HO.out hpos ?h4 ?h5 ?h6 _ rfl ?_);case h1=>have:=HVL.out;have:=HLEN.out;omega
   case h2=>exact HNEWS.out _ ((blr).alloc nlr _)
   case h4=>unfold maxLen;omega
   case h5=>omega
   case h6=>simp
   intro g cap7 w7 hown7 hgrow7 hat7 hlt7;have hb7:Below w.heap.size w w7:=((blr).alloc nlr _).grown hgrow7 (by simp) (fun k e=>by cases e);have hres:w7.heap[w.heap.size]? =some (.cells #[.int .i64 0,.string ⟨#[]⟩,.string ⟨#[]⟩,.slice none 0 0] 106 (0,0)):=by
    rw[hgrow7.block _ (by simp) (fun e=>by cases e)];exact heap_alloc_new _ _
   have hfin:SlAt w7 (fun b=>b≠w.heap.size) (some ⟨g,0,none⟩) len cap7 l:=by
    refine(RowV.slice (vs:=vs) (RowV.low (ok':=fun b=>b≠w.heap.size) (fun b h=>by omega) _ _ (RowV.keep (fun b h _=>?_) _ _ (RowV.bound _ _ HROW.out))) hown7 (fun g' e=>?_)).2
    · exact hb7.block b h.2
    · have:=(hown7.lt _ e).1;omega
   obtain⟨rc0,rc1,rc2,rc3⟩:=four_cells hres;obtain⟨rf0,rf1,rf2,rf3⟩:=four_free hres;have HB7:=Hq hb7;have HRES:=Hq hres;have HFIN:=Hq hfin;clear hb7 hres hfin hown7 hgrow7 hat7 hlt7;go_wp2;have HE:=Hq (four_cells (set4_block HRES.out (.int .i64 2) (.string ⟨#[]⟩) (.string ⟨#[]⟩) (.slice (some ⟨g,0,none⟩) len cap7)));have HK:=Hq (HFIN.out.keep (w':=set4 w7 w.heap.size (.int .i64 2) (.string ⟨#[]⟩) (.string ⟨#[]⟩) (.slice (some ⟨g,0,none⟩) len cap7)) (fun b hb _=>set4_other _ _ _ _ hb));have HBE:=Hq (set4_below (B:=w.heap.size) HB7.out (b:=w.heap.size) nlr (.int .i64 2) (.string ⟨#[]⟩) (.string ⟨#[]⟩) (.slice (some ⟨g,0,none⟩) len cap7));unfold set4 at HE HK HBE;obtain⟨wf,hwf⟩:∃ wf,(((w7.setCell ⟨w.heap.size,0,none⟩ (.int .i64 2)).setCell ⟨w.heap.size,1,none⟩ (.string ⟨#[]⟩)).setCell ⟨w.heap.size,2,none⟩ (.string ⟨#[]⟩)).setCell ⟨w.heap.size,3,none⟩ (.slice (some ⟨g,0,none⟩) len cap7)=wf:=⟨_,rfl⟩;rw[hwf]at HE HK HBE⊢;obtain⟨q0,q1,q2,q3⟩:=HE.out;exact bodyPost_ret (v:=.agg #[.int .i64 2,.string ⟨#[]⟩,.string ⟨#[]⟩,.slice (some ⟨g,0,none⟩) len cap7]) (by simp[results,Tryz.results64,go_sem,q0,q1,q2,q3]) rfl ⟨_,rfl,⟨_,_,_,rfl,HK.out.low (fun b hb=>trivial)⟩,HBE.out⟩
set_option maxRecDepth 100000
set_option maxHeartbeats 4000000
theorem bytes_take_step{l:List It}{k:Nat}{y:It}(h:l[k]? =some y):Its.bytes (l.take (k+1))=Its.bytes (l.take k)++y.bytes:=by
 rw[take_snoc h,Its.bytes_append];simp[Its.bytes]
theorem bytes_take_le(l:List It)(k:Nat):(Its.bytes (l.take k)).length≤Its.weight l:=
 Nat.le_trans (Its.bytes_le _) (Its.weight_take_le l k)
theorem keep_new{B:Nat}{a W:World}{cs:Array Value}{T:TypeId}(h:KeepB B a (W.alloc (.cells cs T))):(W.alloc (.cells cs T)).cell? ⟨W.heap.size,0,none⟩=cs[0]?:=World.cell?_alloc_at (w:=W) cs T W.heap.size 0 rfl
theorem keep_bld{B b:Nat}{bs:List Value}{a W:World}{C:Obj}(h:KeepB B a (W.alloc C))(hi:Lib.IsBuilder 189 5 B b bs W):Lib.IsBuilder 189 5 B b bs (W.alloc C):=bld_kept hi ((blr).alloc nlr _)
theorem conv_cell{w:World}{g:Nat}{c:Int}{cb:UInt8}(h:w.cell? ⟨g,0,none⟩=some (.int .u8 c))(hc:c=(cb.toNat:Int)):(convert 167 9 (.slice (some ⟨g,0,none⟩) 1 1)).run Tryz.prog w=.ok (.string (bstr [cb])) w:=by
 refine BytesAt.conv (bs:=[cb]) (len:=1) (cap:=1) ⟨rfl,Nat.le_refl _,by omega,fun _=>⟨g,0,rfl,fun k hk=>?_⟩⟩ _ _ 5 Tryz.underlying167 Tryz.underlying5 Tryz.underlying9
 match k,hk with
 | 0,_=>rw[h,hc];rfl
theorem enc_write(N:Nat):∀(x:It) (v:Value) (w:World) (ok:Nat→Prop),x.nodes≤N→x.weight≤1000000000→ItAt w ok v x→Calls Tryz.prog 93 #[v] w (Ret (.string (bstr x.bytes)) w):=by
 induction N with
 | zero=>intro x v w ok h;have:=x.nodes_pos;omega
 | succ N ih =>
  intro x v w ok hN hM ⟨A,len,cap,hv,hs⟩;subst hv;have IH:=Hq ih;clear ih
  cases x with
  | mk q n t l =>
   simp only[It.kind,It.nat,It.text,It.list]at *;simp only[It.nodes,It.weight]at hN hM;have hlen:=hs.1;have hcap:=hs.2.2.1;have hlc:=hs.2.1;have hs0:=hs.bound;have HS0:=Hq hs0;have HLEN:=Hq hlen;have HN:=Hq hN;have HM:=Hq hM;have hM1:n.size≤1000000000:=by omega
   have hM2:n.size+t.size≤1000000000:=by omega
   clear hs hs0 hlen hN hM;go_enter Tryz.func93,Tryz.ntmps93;go_wp2_with fail;have hib:=Lib.fresh_isBuilder 189 5 (w.alloc (.cells #[.int .i64 q,.string n,.string t,.slice A len cap] 106));have hb0:(w.alloc (.cells #[.int .i64 q,.string n,.string t,.slice A len cap] 106)).heap.size=w.heap.size+1:=by simp
   rw[hb0]at hib;have hbox:((w.alloc (.cells #[.int .i64 q,.string n,.string t,.slice A len cap] 106)).alloc (.cells #[.pointer none,.slice none 0 0] 189)).heap[w.heap.size]? =some (.cells #[.int .i64 q,.string n,.string t,.slice A len cap] 106 (0,0)):=by
    rw[Lib.alloc_old _ _ _ (by simp)];exact heap_alloc_new _ _
   have hbl:Below w.heap.size w ((w.alloc (.cells #[.int .i64 q,.string n,.string t,.slice A len cap] 106)).alloc (.cells #[.pointer none,.slice none 0 0] 189)):=((blr).alloc nlr _).alloc (by simp) _;have hsz:w.heap.size+1≤((w.alloc (.cells #[.int .i64 q,.string n,.string t,.slice A len cap] 106)).alloc (.cells #[.pointer none,.slice none 0 0] 189)).heap.size:=by simp
   obtain⟨W0,hW0⟩:∃ W0,(w.alloc (.cells #[.int .i64 q,.string n,.string t,.slice A len cap] 106)).alloc (.cells #[.pointer none,.slice none 0 0] 189)=W0:=⟨_,rfl⟩;rw[hW0]at hib hbox hbl hsz⊢;clear hW0 hb0;have HBOX:=Hq hbox;have HBL:=Hq hbl;clear hbox hbl;refine(bld_WriteString _ _ [] n _ hib (by simp;omega) hsz).mono ?_;rintro e w1 ⟨rfl,hi1,hb1⟩;rw[List.nil_append,Lib.strCells_eq]at hi1;have hbox1:w1.heap[w.heap.size]? =_:=(hb1.block _ (by omega)).trans HBOX.out;obtain⟨b0,b1,b2,b3⟩:=four_cells hbox1;have HB1:=Hq hb1;have HI1:=Hq hi1;have hz1:w.heap.size+1≤w1.heap.size:=block_lt hbox1;clear hb1 hi1 hib hbox1;go_wp2_with fail;refine(bld_WriteString _ _ _ t _ HI1.out (by rw[Lib.byteCells_length,data_len];omega) hz1).mono ?_;rintro e w2 ⟨rfl,hi2,hb2⟩;rw[Lib.strCells_eq,←Lib.byteCells_append]at hi2;clear b0 b1 b2 b3;have HBOX2:=Hq ((hb2.block _ (by omega)).trans ((HB1.out.block _ (by omega)).trans HBOX.out));have HB2:=Hq (HB1.out.trans hb2);have HI2:=Hq hi2;obtain⟨b0,b1,b2,b3⟩:=four_cells HBOX2.out;clear hb2 hi2;obtain⟨pre,hpre⟩:∃ pre,n.data.toList++t.data.toList=pre:=⟨_,rfl⟩;rw[hpre]at HI2;have hpl:pre.length=n.size+t.size:=by rw[←hpre,List.length_append,data_len,data_len]
   have HPRE:=Hq hpre;have HPL:=Hq hpl;clear hpre hpl;go_wp2;clear b0 b1 b2 b3;go_loopw [15] (fun i wr=>∃ k:Nat,k≤len∧i=.int .i64 k∧Lib.IsBuilder 189 5 (w.heap.size+1) (w.heap.size+1) (Lib.byteCells (pre++Its.bytes (l.take k))) wr∧Below (w.heap.size+1) W0 wr) (fun i _=>len - (intOf i).toNat);case atStart=>exact⟨0,Nat.zero_le _,rfl,by simpa[Its.bytes]using HI2.out,HB2.out⟩
   case round =>
    obtain⟨k,hk,rfl,hib,hB⟩:=hrel;have hbox1:wr.heap[w.heap.size]? =_:=(hB.block _ (by omega)).trans HBOX.out;obtain⟨b0,b1,b2,b3⟩:=four_cells hbox1;have hz1:w.heap.size+1≤wr.heap.size:=block_lt hbox1;have hs1:=HS0.out.keep (fun b hb _=>(hB.block b (by omega)).trans (HBL.out.block b hb.2));have HIB:=Hq hib;have HB:=Hq hB;clear hib hB hbox1;by_cases hlt:k<len
    · obtain⟨b,o,rfl⟩:=hs1.head (by omega);obtain⟨y,hy⟩:∃ y,l[k]? =some y:=⟨_,List.getElem?_eq_getElem (by rw[HLEN.out];exact hlt)⟩;obtain⟨A1,len1,cap1,c0,c1,c2,c3,hs2⟩:=(hs1.get? k hy).open;have hyN:y.nodes≤N:=by have:=Its.mem_nodes (List.mem_of_getElem? hy);have:=HN.out;omega
      have hyM:y.weight≤1000000000:=by have:=Its.mem_weight (List.mem_of_getElem? hy);have:=HM.out;omega
      have HS2:=Hq hs2;have HY:=Hq hy;clear hs1 hs2 hy;go_wp2_with fail;refine(IH.out y _ _ _ hyN hyM ⟨A1,len1,cap1,rfl,HS2.out.below ((Below.refl wr.heap.size wr).alloc nlr _) nlr⟩).mono ?_;rintro e w3 ⟨rfl,hb3⟩;have hb3':Below wr.heap.size wr w3:=((Below.refl wr.heap.size wr).alloc nlr _).trans (hb3.mono (by simp));have hz3:=hb3'.size;have HB3:=Hq hb3';clear hb3 hb3';go_wp2_with fail;refine(bld_WriteString _ _ _ (bstr y.bytes) _ (bld_kept HIB.out HB3.out) (by
       rw[Lib.byteCells_length,bstr_size,List.length_append];have h1:=bytes_take_le l (k+1);rw[bytes_take_step HY.out,List.length_append]at h1;have h2:=HPL.out;have h3:=HM.out
       omega) (by omega)).mono ?_
      rintro e w4 ⟨rfl,hi4,hb4⟩;rw[Lib.strCells_eq,←Lib.byteCells_append,bstr_data,List.append_assoc,←bytes_take_step HY.out]at hi4;have HI4:=Hq hi4;have HB4:=Hq hb4;clear hi4 hb4;go_wp2;go_roundw;case rel=>exact⟨k+1,by omega,by go_num,HI4.out,(HB.out.trans (HB3.out.mono (by omega))).trans HB4.out⟩
      case measure=>simp[intOf];omega
    · obtain rfl:k=len:=by omega
      rw[List.take_of_length_le (by have:=HLEN.out;omega)]at HIB;obtain⟨body,hbody⟩:∃ body,pre++Its.bytes l=body:=⟨_,rfl⟩;rw[hbody]at HIB;have hbl:body.length≤1000000000:=by
       rw[←hbody,List.length_append];have h1:=Its.bytes_le l;have h2:=HPL.out;have h3:=HM.out;omega
      have HBODY:=Hq hbody;clear hs1 hbody;go_wp2;obtain⟨wd,hwd⟩:∃ wd,wr.drew=wd:=⟨_,rfl⟩;have d0:wd.cell? ⟨w.heap.size,0,none⟩=some (.int .i64 q):=by rw[←hwd];exact b0
      have HIBC:=Hq (show Lib.IsBuilder 189 5 (w.heap.size+1) (w.heap.size+1) (Lib.byteCells body) wd from by rw[←hwd];exact bld_drew HIB.out);have HBD:=Hq (show Below w.heap.size w wd from by rw[←hwd];exact((HBL.out.trans (HB.out.mono (by omega))).drew));have hzd:w.heap.size+1≤wd.heap.size:=by rw[←hwd];exact hz1
      obtain⟨cb,hcb⟩:∃ cb:UInt8,UInt8.ofNat (q%256).toNat=cb:=⟨_,rfl⟩;have hq:q%256=(cb.toNat:Int):=by rw[←hcb,toNat_small (by omega)];omega
      have hlb:=lenF_length 10 body.length;have hadd1:∀ w,(Op.stringOp .add (bstr [cb]) (bstr (lenB body.length))).run Tryz.prog w=.ok (.string (bstr (cb::lenB body.length))) w:=fun w=>by
       rw[run_string_add_sum w _ _ (by rw[bstr_size,bstr_size];unfold lenB;simp;omega),bstr_append];rfl
      have hadd2:∀ w,(Op.stringOp .add (bstr (cb::lenB body.length)) (bstr body)).run Tryz.prog w=.ok (.string (bstr (cb::(lenB body.length++body)))) w:=fun w=>by
       rw[run_string_add_sum w _ _ (by rw[bstr_size,bstr_size];unfold lenB;simp;omega),bstr_append];rfl
      have hfin:=Hq (show (It.mk q n t l).bytes=cb::(lenB body.length++body)from by
       simp only[It.bytes];have e:n.data.toList++(t.data.toList++Its.bytes l)=body:=by rw[←List.append_assoc,HPRE.out,HBODY.out]
       rw[e,hcb])
      have HQ:=Hq hq;have HCB:=Hq hcb;have HWD:=Hq hwd;clear hq hcb hlb b0 b1 b2 b3;refine wp_region_K 11 (KeepB (w.heap.size+1) wd) (by kernel_rfl) ?_;intro hD;rw[hwd];refine qP 0 10 rfl hD (KeepB.refl (w.heap.size+1) wd) ?_;clear hD;intro hD;refine qS 1 9 rfl hD (KeepB.refl (w.heap.size+1) wd) (by intro w' hS';have e0:=hS'.cells _ _ d0;go_simp;with_reducible rfl) ?_;clear hD;intro hD;refine qP 2 8 rfl hD (KeepB.refl (w.heap.size+1) wd) ?_;clear hD;intro hD;simp only[Act.put,sqA,sqB,sqC];refine wpAnyK_two (i:=3) (i':=5) (fuel:=7) (by kernel_rfl) rfl rfl hD ?_ ?_ 
      · unfold StepK;clear hD;intro K3 hK3;go_wp2;refine hK3 _ _ (by exact KeepB.alloc (KeepB.refl (w.heap.size+1) wd) (Nat.le_trans hzd ((KeepB.refl (w.heap.size+1) wd)).below.size) _) ?_;clear hK3;intro hS_9_3 hD;have hG:=keep_new hS_9_3;try (have HIBC:=Hq (keep_bld hS_9_3 HIBC.out))
        refine wpAnyK_two (i:=4) (i':=5) (fuel:=6) (by kernel_rfl) rfl rfl hD ?_ ?_ 
        · unfold StepK;clear hD;intro K4 hK4;have hcv:=conv_cell hG HQ.out;go_wp2;refine hK4 _ _ (by exact hS_9_3) ?_;clear hK4;intro hS_9_4_3 hD;refine rO 5 5 rfl hD ?_;clear hD;intro K5 hK5;go_wp2_with fail;refine(Tryz.Builder_Len _ _ _ _ HIBC.out).mono ?_;rintro e w5 ⟨rfl,hw5⟩;subst w5;rw[Lib.byteCells_length];go_wp2;refine hK5 _ _ (by exact hS_9_4_3) ?_;clear hK5;intro hS_9_5_3_4 hD;refine rO 6 4 rfl hD ?_;clear hD;intro K6 hK6;go_wp2_with fail;refine(enc_length body.length _ (by omega)).mono ?_;rintro e w6 ⟨rfl,hb6⟩;have HB6:=Hq hb6;clear hb6;have HIBC:=Hq (bld_kept HIBC.out HB6.out);try (replace hG:=kc HB6.out hG)
          go_wp2;refine hK6 _ _ (by exact(hS_9_5_3_4).trans (KeepB.of HB6.out nlr (Nat.le_trans hzd (hS_9_5_3_4).below.size))) ?_;clear hK6;intro hS_9_6_3_4 hD;refine qP 7 3 rfl hD hS_9_6_3_4 ?_;clear hD;intro hD;simp only[Act.put,sqA,sqB,sqC];refine rO 8 2 rfl hD ?_;clear hD;intro K8 hK8;go_wp2_with fail;refine(bld_String _ _ _ _ HIBC.out (Nat.le_trans hzd (hS_9_6_3_4).below.size)).mono ?_;rintro e w8 ⟨rfl,hb8⟩;have HB8:=Hq hb8;clear hb8;try (replace hG:=HB8.out.cells _ _ hG)
          go_wp2;refine hK8 _ _ (by exact(hS_9_6_3_4).trans HB8.out) ?_;clear hK8;intro hS_9_8_3_4 hD;refine qP 9 1 rfl hD hS_9_8_3_4 ?_;clear hD;intro hD;simp only[Act.put,sqA,sqB,sqC];refine rO 10 0 rfl hD ?_;clear hD;intro K10 hK10;go_wp2;refine hK10 _ _ (by exact hS_9_8_3_4) ?_;clear hK10;intro hS_9_10_3_4 hD;refine wpAnyK_done (by kernel_rfl) ?_ 0;go_wp2;go_ret;exact⟨by rw[hfin.out];rfl,HBD.out.trans ((hS_9_10_3_4).below.mono (by omega))⟩
        · unfold StepK;clear hD;intro K5 hK5;go_wp2_with fail;refine(Tryz.Builder_Len _ _ _ _ HIBC.out).mono ?_;rintro e w5 ⟨rfl,hw5⟩;subst w5;rw[Lib.byteCells_length];go_wp2;refine hK5 _ _ (by exact hS_9_3) ?_;clear hK5;intro hS_9_5_3 hD;refine wpAnyK_two (i:=4) (i':=6) (fuel:=5) (by kernel_rfl) rfl rfl hD ?_ ?_ 
          · unfold StepK;clear hD;intro K4 hK4;have hcv:=conv_cell hG HQ.out;go_wp2;refine hK4 _ _ (by exact hS_9_5_3) ?_;clear hK4;intro hS_9_4_3_5 hD;refine rO 6 4 rfl hD ?_;clear hD;intro K6 hK6;go_wp2_with fail;refine(enc_length body.length _ (by omega)).mono ?_;rintro e w6 ⟨rfl,hb6⟩;have HB6:=Hq hb6;clear hb6;have HIBC:=Hq (bld_kept HIBC.out HB6.out);try (replace hG:=kc HB6.out hG)
            go_wp2;refine hK6 _ _ (by exact(hS_9_4_3_5).trans (KeepB.of HB6.out nlr (Nat.le_trans hzd (hS_9_4_3_5).below.size))) ?_;clear hK6;intro hS_9_6_3_5_4 hD;refine qP 7 3 rfl hD hS_9_6_3_5_4 ?_;clear hD;intro hD;simp only[Act.put,sqA,sqB,sqC];refine rO 8 2 rfl hD ?_;clear hD;intro K8 hK8;go_wp2_with fail;refine(bld_String _ _ _ _ HIBC.out (Nat.le_trans hzd (hS_9_6_3_5_4).below.size)).mono ?_;rintro e w8 ⟨rfl,hb8⟩;have HB8:=Hq hb8;clear hb8;try (replace hG:=HB8.out.cells _ _ hG)
            go_wp2;refine hK8 _ _ (by exact(hS_9_6_3_5_4).trans HB8.out) ?_;clear hK8;intro hS_9_8_3_5_4 hD;refine qP 9 1 rfl hD hS_9_8_3_5_4 ?_;clear hD;intro hD;simp only[Act.put,sqA,sqB,sqC];refine rO 10 0 rfl hD ?_;clear hD;intro K10 hK10;go_wp2;refine hK10 _ _ (by exact hS_9_8_3_5_4) ?_;clear hK10;intro hS_9_10_3_5_4 hD;refine wpAnyK_done (by kernel_rfl) ?_ 0;go_wp2;go_ret;exact⟨by rw[hfin.out];rfl,HBD.out.trans ((hS_9_10_3_5_4).below.mono (by omega))⟩
          · unfold StepK;clear hD;intro K6 hK6;go_wp2_with fail;refine(enc_length body.length _ (by omega)).mono ?_;rintro e w6 ⟨rfl,hb6⟩;have HB6:=Hq hb6;clear hb6;have HIBC:=Hq (bld_kept HIBC.out HB6.out);try (replace hG:=kc HB6.out hG)
            go_wp2;refine hK6 _ _ (by exact(hS_9_5_3).trans (KeepB.of HB6.out nlr (Nat.le_trans hzd (hS_9_5_3).below.size))) ?_;clear hK6;intro hS_9_6_3_5 hD;refine wpAnyK_two (i:=4) (i':=8) (fuel:=4) (by kernel_rfl) rfl rfl hD ?_ ?_ 
            · unfold StepK;clear hD;intro K4 hK4;have hcv:=conv_cell hG HQ.out;go_wp2;refine hK4 _ _ (by exact hS_9_6_3_5) ?_;clear hK4;intro hS_9_4_3_5_6 hD;refine qP 7 3 rfl hD hS_9_4_3_5_6 ?_;clear hD;intro hD;simp only[Act.put,sqA,sqB,sqC];refine rO 8 2 rfl hD ?_;clear hD;intro K8 hK8;go_wp2_with fail;refine(bld_String _ _ _ _ HIBC.out (Nat.le_trans hzd (hS_9_4_3_5_6).below.size)).mono ?_;rintro e w8 ⟨rfl,hb8⟩;have HB8:=Hq hb8;clear hb8;try (replace hG:=HB8.out.cells _ _ hG)
              go_wp2;refine hK8 _ _ (by exact(hS_9_4_3_5_6).trans HB8.out) ?_;clear hK8;intro hS_9_8_3_5_6_4 hD;refine qP 9 1 rfl hD hS_9_8_3_5_6_4 ?_;clear hD;intro hD;simp only[Act.put,sqA,sqB,sqC];refine rO 10 0 rfl hD ?_;clear hD;intro K10 hK10;go_wp2;refine hK10 _ _ (by exact hS_9_8_3_5_6_4) ?_;clear hK10;intro hS_9_10_3_5_6_4 hD;refine wpAnyK_done (by kernel_rfl) ?_ 0;go_wp2;go_ret;exact⟨by rw[hfin.out];rfl,HBD.out.trans ((hS_9_10_3_5_6_4).below.mono (by omega))⟩
            · unfold StepK;clear hD;intro K8 hK8;go_wp2_with fail;refine(bld_String _ _ _ _ HIBC.out (Nat.le_trans hzd (hS_9_6_3_5).below.size)).mono ?_;rintro e w8 ⟨rfl,hb8⟩;have HB8:=Hq hb8;clear hb8;try (replace hG:=HB8.out.cells _ _ hG)
              go_wp2;refine hK8 _ _ (by exact(hS_9_6_3_5).trans HB8.out) ?_;clear hK8;intro hS_9_8_3_5_6 hD;refine rO 4 3 rfl hD ?_;clear hD;intro K4 hK4;have hcv:=conv_cell hG HQ.out;go_wp2;refine hK4 _ _ (by exact hS_9_8_3_5_6) ?_;clear hK4;intro hS_9_4_3_5_6_8 hD;refine qP 7 2 rfl hD hS_9_4_3_5_6_8 ?_;clear hD;intro hD;refine qP 9 1 rfl hD hS_9_4_3_5_6_8 ?_;clear hD;intro hD;simp only[Act.put,sqA,sqB,sqC];refine rO 10 0 rfl hD ?_;clear hD;intro K10 hK10;go_wp2;refine hK10 _ _ (by exact hS_9_4_3_5_6_8) ?_;clear hK10;intro hS_9_10_3_5_6_8 hD;refine wpAnyK_done (by kernel_rfl) ?_ 0;go_wp2;go_ret;exact⟨by rw[hfin.out];rfl,HBD.out.trans ((hS_9_10_3_5_6_8).below.mono (by omega))⟩
      · unfold StepK;clear hD;intro K5 hK5;go_wp2_with fail;refine(Tryz.Builder_Len _ _ _ _ HIBC.out).mono ?_;rintro e w5 ⟨rfl,hw5⟩;subst w5;rw[Lib.byteCells_length];go_wp2;refine hK5 _ _ (by exact(KeepB.refl (w.heap.size+1) wd)) ?_;clear hK5;intro hS_9_5 hD;refine wpAnyK_two (i:=3) (i':=6) (fuel:=6) (by kernel_rfl) rfl rfl hD ?_ ?_ 
        · unfold StepK;clear hD;intro K3 hK3;go_wp2;refine hK3 _ _ (by exact KeepB.alloc hS_9_5 (Nat.le_trans hzd (hS_9_5).below.size) _) ?_;clear hK3;intro hS_9_3_5 hD;have hG:=keep_new hS_9_3_5;try (have HIBC:=Hq (keep_bld hS_9_3_5 HIBC.out))
          refine wpAnyK_two (i:=4) (i':=6) (fuel:=5) (by kernel_rfl) rfl rfl hD ?_ ?_ 
          · unfold StepK;clear hD;intro K4 hK4;have hcv:=conv_cell hG HQ.out;go_wp2;refine hK4 _ _ (by exact hS_9_3_5) ?_;clear hK4;intro hS_9_4_5_3 hD;refine rO 6 4 rfl hD ?_;clear hD;intro K6 hK6;go_wp2_with fail;refine(enc_length body.length _ (by omega)).mono ?_;rintro e w6 ⟨rfl,hb6⟩;have HB6:=Hq hb6;clear hb6;have HIBC:=Hq (bld_kept HIBC.out HB6.out);try (replace hG:=kc HB6.out hG)
            go_wp2;refine hK6 _ _ (by exact(hS_9_4_5_3).trans (KeepB.of HB6.out nlr (Nat.le_trans hzd (hS_9_4_5_3).below.size))) ?_;clear hK6;intro hS_9_6_5_3_4 hD;refine qP 7 3 rfl hD hS_9_6_5_3_4 ?_;clear hD;intro hD;simp only[Act.put,sqA,sqB,sqC];refine rO 8 2 rfl hD ?_;clear hD;intro K8 hK8;go_wp2_with fail;refine(bld_String _ _ _ _ HIBC.out (Nat.le_trans hzd (hS_9_6_5_3_4).below.size)).mono ?_;rintro e w8 ⟨rfl,hb8⟩;have HB8:=Hq hb8;clear hb8;try (replace hG:=HB8.out.cells _ _ hG)
            go_wp2;refine hK8 _ _ (by exact(hS_9_6_5_3_4).trans HB8.out) ?_;clear hK8;intro hS_9_8_5_3_4 hD;refine qP 9 1 rfl hD hS_9_8_5_3_4 ?_;clear hD;intro hD;simp only[Act.put,sqA,sqB,sqC];refine rO 10 0 rfl hD ?_;clear hD;intro K10 hK10;go_wp2;refine hK10 _ _ (by exact hS_9_8_5_3_4) ?_;clear hK10;intro hS_9_10_5_3_4 hD;refine wpAnyK_done (by kernel_rfl) ?_ 0;go_wp2;go_ret;exact⟨by rw[hfin.out];rfl,HBD.out.trans ((hS_9_10_5_3_4).below.mono (by omega))⟩
          · unfold StepK;clear hD;intro K6 hK6;go_wp2_with fail;refine(enc_length body.length _ (by omega)).mono ?_;rintro e w6 ⟨rfl,hb6⟩;have HB6:=Hq hb6;clear hb6;have HIBC:=Hq (bld_kept HIBC.out HB6.out);try (replace hG:=kc HB6.out hG)
            go_wp2;refine hK6 _ _ (by exact(hS_9_3_5).trans (KeepB.of HB6.out nlr (Nat.le_trans hzd (hS_9_3_5).below.size))) ?_;clear hK6;intro hS_9_6_5_3 hD;refine wpAnyK_two (i:=4) (i':=8) (fuel:=4) (by kernel_rfl) rfl rfl hD ?_ ?_ 
            · unfold StepK;clear hD;intro K4 hK4;have hcv:=conv_cell hG HQ.out;go_wp2;refine hK4 _ _ (by exact hS_9_6_5_3) ?_;clear hK4;intro hS_9_4_5_3_6 hD;refine qP 7 3 rfl hD hS_9_4_5_3_6 ?_;clear hD;intro hD;simp only[Act.put,sqA,sqB,sqC];refine rO 8 2 rfl hD ?_;clear hD;intro K8 hK8;go_wp2_with fail;refine(bld_String _ _ _ _ HIBC.out (Nat.le_trans hzd (hS_9_4_5_3_6).below.size)).mono ?_;rintro e w8 ⟨rfl,hb8⟩;have HB8:=Hq hb8;clear hb8;try (replace hG:=HB8.out.cells _ _ hG)
              go_wp2;refine hK8 _ _ (by exact(hS_9_4_5_3_6).trans HB8.out) ?_;clear hK8;intro hS_9_8_5_3_6_4 hD;refine qP 9 1 rfl hD hS_9_8_5_3_6_4 ?_;clear hD;intro hD;simp only[Act.put,sqA,sqB,sqC];refine rO 10 0 rfl hD ?_;clear hD;intro K10 hK10;go_wp2;refine hK10 _ _ (by exact hS_9_8_5_3_6_4) ?_;clear hK10;intro hS_9_10_5_3_6_4 hD;refine wpAnyK_done (by kernel_rfl) ?_ 0;go_wp2;go_ret;exact⟨by rw[hfin.out];rfl,HBD.out.trans ((hS_9_10_5_3_6_4).below.mono (by omega))⟩
            · unfold StepK;clear hD;intro K8 hK8;go_wp2_with fail;refine(bld_String _ _ _ _ HIBC.out (Nat.le_trans hzd (hS_9_6_5_3).below.size)).mono ?_;rintro e w8 ⟨rfl,hb8⟩;have HB8:=Hq hb8;clear hb8;try (replace hG:=HB8.out.cells _ _ hG)
              go_wp2;refine hK8 _ _ (by exact(hS_9_6_5_3).trans HB8.out) ?_;clear hK8;intro hS_9_8_5_3_6 hD;refine rO 4 3 rfl hD ?_;clear hD;intro K4 hK4;have hcv:=conv_cell hG HQ.out;go_wp2;refine hK4 _ _ (by exact hS_9_8_5_3_6) ?_;clear hK4;intro hS_9_4_5_3_6_8 hD;refine qP 7 2 rfl hD hS_9_4_5_3_6_8 ?_;clear hD;intro hD;refine qP 9 1 rfl hD hS_9_4_5_3_6_8 ?_;clear hD;intro hD;simp only[Act.put,sqA,sqB,sqC];refine rO 10 0 rfl hD ?_;clear hD;intro K10 hK10;go_wp2;refine hK10 _ _ (by exact hS_9_4_5_3_6_8) ?_;clear hK10;intro hS_9_10_5_3_6_8 hD;refine wpAnyK_done (by kernel_rfl) ?_ 0;go_wp2;go_ret;exact⟨by rw[hfin.out];rfl,HBD.out.trans ((hS_9_10_5_3_6_8).below.mono (by omega))⟩
        · unfold StepK;clear hD;intro K6 hK6;go_wp2_with fail;refine(enc_length body.length _ (by omega)).mono ?_;rintro e w6 ⟨rfl,hb6⟩;have HB6:=Hq hb6;clear hb6;have HIBC:=Hq (bld_kept HIBC.out HB6.out);try (replace hG:=kc HB6.out hG)
          go_wp2;refine hK6 _ _ (by exact(hS_9_5).trans (KeepB.of HB6.out nlr (Nat.le_trans hzd (hS_9_5).below.size))) ?_;clear hK6;intro hS_9_6_5 hD;refine wpAnyK_two (i:=3) (i':=8) (fuel:=5) (by kernel_rfl) rfl rfl hD ?_ ?_ 
          · unfold StepK;clear hD;intro K3 hK3;go_wp2;refine hK3 _ _ (by exact KeepB.alloc hS_9_6_5 (Nat.le_trans hzd (hS_9_6_5).below.size) _) ?_;clear hK3;intro hS_9_3_5_6 hD;have hG:=keep_new hS_9_3_5_6;try (have HIBC:=Hq (keep_bld hS_9_3_5_6 HIBC.out))
            refine wpAnyK_two (i:=4) (i':=8) (fuel:=4) (by kernel_rfl) rfl rfl hD ?_ ?_ 
            · unfold StepK;clear hD;intro K4 hK4;have hcv:=conv_cell hG HQ.out;go_wp2;refine hK4 _ _ (by exact hS_9_3_5_6) ?_;clear hK4;intro hS_9_4_5_6_3 hD;refine qP 7 3 rfl hD hS_9_4_5_6_3 ?_;clear hD;intro hD;simp only[Act.put,sqA,sqB,sqC];refine rO 8 2 rfl hD ?_;clear hD;intro K8 hK8;go_wp2_with fail;refine(bld_String _ _ _ _ HIBC.out (Nat.le_trans hzd (hS_9_4_5_6_3).below.size)).mono ?_;rintro e w8 ⟨rfl,hb8⟩;have HB8:=Hq hb8;clear hb8;try (replace hG:=HB8.out.cells _ _ hG)
              go_wp2;refine hK8 _ _ (by exact(hS_9_4_5_6_3).trans HB8.out) ?_;clear hK8;intro hS_9_8_5_6_3_4 hD;refine qP 9 1 rfl hD hS_9_8_5_6_3_4 ?_;clear hD;intro hD;simp only[Act.put,sqA,sqB,sqC];refine rO 10 0 rfl hD ?_;clear hD;intro K10 hK10;go_wp2;refine hK10 _ _ (by exact hS_9_8_5_6_3_4) ?_;clear hK10;intro hS_9_10_5_6_3_4 hD;refine wpAnyK_done (by kernel_rfl) ?_ 0;go_wp2;go_ret;exact⟨by rw[hfin.out];rfl,HBD.out.trans ((hS_9_10_5_6_3_4).below.mono (by omega))⟩
            · unfold StepK;clear hD;intro K8 hK8;go_wp2_with fail;refine(bld_String _ _ _ _ HIBC.out (Nat.le_trans hzd (hS_9_3_5_6).below.size)).mono ?_;rintro e w8 ⟨rfl,hb8⟩;have HB8:=Hq hb8;clear hb8;try (replace hG:=HB8.out.cells _ _ hG)
              go_wp2;refine hK8 _ _ (by exact(hS_9_3_5_6).trans HB8.out) ?_;clear hK8;intro hS_9_8_5_6_3 hD;refine rO 4 3 rfl hD ?_;clear hD;intro K4 hK4;have hcv:=conv_cell hG HQ.out;go_wp2;refine hK4 _ _ (by exact hS_9_8_5_6_3) ?_;clear hK4;intro hS_9_4_5_6_3_8 hD;refine qP 7 2 rfl hD hS_9_4_5_6_3_8 ?_;clear hD;intro hD;refine qP 9 1 rfl hD hS_9_4_5_6_3_8 ?_;clear hD;intro hD;simp only[Act.put,sqA,sqB,sqC];refine rO 10 0 rfl hD ?_;clear hD;intro K10 hK10;go_wp2;refine hK10 _ _ (by exact hS_9_4_5_6_3_8) ?_;clear hK10;intro hS_9_10_5_6_3_8 hD;refine wpAnyK_done (by kernel_rfl) ?_ 0;go_wp2;go_ret;exact⟨by rw[hfin.out];rfl,HBD.out.trans ((hS_9_10_5_6_3_8).below.mono (by omega))⟩
          · unfold StepK;clear hD;intro K8 hK8;go_wp2_with fail;refine(bld_String _ _ _ _ HIBC.out (Nat.le_trans hzd (hS_9_6_5).below.size)).mono ?_;rintro e w8 ⟨rfl,hb8⟩;have HB8:=Hq hb8;clear hb8;try (replace hG:=HB8.out.cells _ _ hG)
            go_wp2;refine hK8 _ _ (by exact(hS_9_6_5).trans HB8.out) ?_;clear hK8;intro hS_9_8_5_6 hD;refine rO 3 4 rfl hD ?_;clear hD;intro K3 hK3;go_wp2;refine hK3 _ _ (by exact KeepB.alloc hS_9_8_5_6 (Nat.le_trans hzd (hS_9_8_5_6).below.size) _) ?_;clear hK3;intro hS_9_3_5_6_8 hD;have hG:=keep_new hS_9_3_5_6_8;try (have HIBC:=Hq (keep_bld hS_9_3_5_6_8 HIBC.out))
            refine rO 4 3 rfl hD ?_;clear hD;intro K4 hK4;have hcv:=conv_cell hG HQ.out;go_wp2;refine hK4 _ _ (by exact hS_9_3_5_6_8) ?_;clear hK4;intro hS_9_4_5_6_8 hD;refine qP 7 2 rfl hD hS_9_4_5_6_8 ?_;clear hD;intro hD;refine qP 9 1 rfl hD hS_9_4_5_6_8 ?_;clear hD;intro hD;simp only[Act.put,sqA,sqB,sqC];refine rO 10 0 rfl hD ?_;clear hD;intro K10 hK10;go_wp2;refine hK10 _ _ (by exact hS_9_4_5_6_8) ?_;clear hK10;intro hS_9_10_5_6_8 hD;refine wpAnyK_done (by kernel_rfl) ?_ 0;go_wp2;go_ret;exact⟨by rw[hfin.out];rfl,HBD.out.trans ((hS_9_10_5_6_8).below.mono (by omega))⟩
end Go.Proofs.YtfbmbledklbfgaaGreat

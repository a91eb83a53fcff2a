import Derived.Test.YtopmeciihijgiaaGreatDoorQReg
set_option linter.unusedVariables false
namespace Go.Proofs.YtopmeciihijgiaaGreatDoor
def onlyN(K:Act→World→Prop):Exit→Act→World→Prop
 | .normal,a,w=>K a w
 | _,_,_=>False
theorem wp_onlyN{P:Program}{c:Code}{K:Act→World→Prop}{Q:Exit→Act→World→Prop}{a:Act}{w:World}(h:c.wp P (onlyN K) a w):c.wp P (Exit.then K Q) a w:=
 wp_mono h (fun e a w hh=>by
  cases e<;>first | exact hh | exact hh.elim)
section
variable {P : Program} {ops : Array Oper} {Q : Exit → Act → World → Prop} {md : Region.Mode} {S : World → Prop} {k : Nat}
def GhostK(P:Program)(md:Region.Mode)(ops:Array Oper)(Q:Exit→Act→World→Prop)(k:Nat)(S:World→Prop)(i:Nat)(d:Tmp)(fuel:Nat)(listed:Array Bool)(a:Act)(I:Bool→Value→World→Prop):Prop:=
 (∀ x w,I true x w→wpAnyK P md ops Q k S fuel (listed.setIfInBounds i true) (a.put (some d) x) w)∧(∀ w,I false undef w→wpAnyK P md ops Q k S (fuel+1) listed a w)
theorem ghost_step{i j:Nat}{oi oj:Oper}{d dj:Tmp}{fuel:Nat}{listed:Array Bool}{a:Act}{I:Bool→Value→World→Prop}{β:Type}(val:β→Value)(I':β→Bool→Value→World→Prop)
 (hr:Region.ready md ops listed=[j,i]) (hr':Region.ready md ops (listed.setIfInBounds i true)=[j]) (hi:ops[i]? =some oi) (hj:ops[j]? =some oj) (hD:Down md ops listed)
 (ha:a.put (some d) undef=a) (hdd:d≠dj) (hS':∀ v b x w,I' v b x w→S w) (hS:∀ b x w,I b x w→S w)
 (halloc:∀ w,I false undef w→∀ K:Act→World→Prop,(∀ x w',I true x w'→K (a.put (some d) x) w')→wpList P ops (EndK K Q) [oi] a w)
 (hstep:∀ b x w,I b x w→∀ K:Act→World→Prop,(∀ v w',I' v b x w'→K ((a.put (some d) x).put (some dj) (val v)) w')→wpList P ops (EndK K Q) [oj] (a.put (some d) x) w)
 (hnext:∀ v,Down md ops (listed.setIfInBounds j true)→GhostK P md ops Q k S i d fuel (listed.setIfInBounds j true) (a.put (some dj) (val v)) (I' v)) :
 GhostK P md ops Q k S i d (fuel+1) listed a I:=by
 have hmi:i∈Region.ready md ops listed:=by rw[hr];simp
 have hmj:j∈Region.ready md ops listed:=by rw[hr];simp
 have hDj:=hD.set hmj;have hji:i≠j:=fun e=>by
  have:=(mem_ready.1 (show j∈Region.ready md ops (listed.setIfInBounds i true)by rw[hr'];simp)).1;subst e;have h2:=(mem_ready.1 hmi).1;have h3:=getD_set_self h2;rw[Array.getD_eq_getD_getElem?]at this h3
  cases e:(listed.setIfInBounds i true)[i]? with
  | none=>rw[e]at h3;cases h3
  | some b=>rw[e]at this h3;cases b<;>cases this<;>cases h3
 have hcomm:∀ x v,(a.put (some d) x).put (some dj) v=(a.put (some dj) v).put (some d) x:=fun x v=>Act.put_comm a x v (fun d' h h'=>by cases h;cases h';exact hdd rfl);have htrue:∀ x w,I true x w→wpAnyK P md ops Q k S (fuel+1) (listed.setIfInBounds i true) (a.put (some d) x) w:=fun x w h=>by
  refine wpAnyK_one hr' hj (hD.set hmi) (fun K hK=>hstep true x w h K fun v w' h'=>hK _ w' (hS' _ _ _ _ h') fun _ _=>?_);rw[hcomm,Array.setIfInBounds_comm _ _ hji];exact(hnext v hDj).1 x w' h'
 refine⟨htrue,fun w h=>?_⟩;refine wpAnyK_two hr hj hi hD (fun K hK=>?_) (fun K hK=>?_)
 · have h1:=hstep false undef w h K fun v w' h'=>by
    rw[hcomm];have e:(a.put (some dj) (val v)).put (some d) undef=a.put (some dj) (val v):=by rw[←hcomm,ha]
    rw[e];exact hK _ w' (hS' _ _ _ _ h') fun _ _=>(hnext v hDj).2 w' h'
   rw[ha]at h1;exact h1
 · exact halloc w h K fun x w' h'=>hK _ w' (hS _ _ _ h') fun _ _=>htrue x w' h'
theorem ghost_end{i:Nat}{oi:Oper}{d:Tmp}{fuel:Nat}{listed:Array Bool}{a:Act}{I:Bool→Value→World→Prop}
 (hr:Region.ready md ops listed=[i]) (hi:ops[i]? =some oi) (hD:Down md ops listed) (hS:∀ b x w,I b x w→S w)
 (halloc:∀ w,I false undef w→∀ K:Act→World→Prop,(∀ x w',I true x w'→K (a.put (some d) x) w')→wpList P ops (EndK K Q) [oi] a w)
 (hnext:∀ x w,I true x w→Down md ops (listed.setIfInBounds i true)→wpAnyK P md ops Q k S fuel (listed.setIfInBounds i true) (a.put (some d) x) w) :
 GhostK P md ops Q k S i d fuel listed a I:=by
 have hmi:i∈Region.ready md ops listed:=by rw[hr];simp
 refine⟨fun x w h=>hnext x w h (hD.set hmi),fun w h=>?_⟩;exact wpAnyK_one hr hi hD fun K hK=>halloc w h K fun x w' h'=>hK _ w' (hS _ _ _ h') fun _ _=>hnext x w' h' (hD.set hmi)
theorem wpAnyK_takeD{i:Nat}{oi:Oper}{d:Option Tmp}{v:Value}{fuel:Nat}{listed:Array Bool}{a:Act}{w:World}(hi:ops[i]? =some oi)(hd:oi.dst=d)(hst:stepB md ops listed k i=true)(hre:reachB md ops ops.size k i=true)
 (hQ:∀ c a w,Q (.panic c) (a.put d v) w→Q (.panic c) a w) (hD:Down md ops listed) (hS:S w) (hy:YieldsIf P ops S oi v a)
 (h:Down md ops (listed.setIfInBounds i true)→wpAnyK P md ops Q k S fuel (listed.setIfInBounds i true) (a.put d v) w):wpAnyK P md ops Q k S (fuel+1) listed a w:=by
 subst hd;exact wpAnyK_take hi hst hre hQ hD hS hy h
theorem wpAnyK_takeSD{i:Nat}{oi:Oper}{d:Option Tmp}{v:Value}{fuel:Nat}{listed:Array Bool}{a:Act}{w:World}(hi:ops[i]? =some oi)(hd:oi.dst=d)(hst:stepB md ops listed k i=true)(hre:decide (ops.size≤k)=true)
 (hQ:∀ c a w,Q (.panic c) (a.put d v) w→Q (.panic c) a w) (hD:Down md ops listed) (hS:S w) (hy:YieldsIf P ops S oi v a)
 (h:Down md ops (listed.setIfInBounds i true)→wpAnyK P md ops Q k S fuel (listed.setIfInBounds i true) (a.put d v) w):wpAnyK P md ops Q k S (fuel+1) listed a w:=by
 subst hd;exact wpAnyK_takeS hi hst hre hQ hD hS hy h
theorem wpAnyK_pureD{i:Nat}{oi:Oper}{d:Option Tmp}{v:Value}{fuel:Nat}{listed:Array Bool}{a:Act}{w:World}(hi:ops[i]? =some oi)(hd:oi.dst=d)(hst:stepB md ops listed k i=true)
 (hQ:∀ c a w,Q (.panic c) (a.put d v) w→Q (.panic c) a w) (hD:Down md ops listed) (hS:S w) (hy:YieldsIf P ops (fun _=>True) oi v a)
 (h:Down md ops (listed.setIfInBounds i true)→wpAnyK P md ops Q k S fuel (listed.setIfInBounds i true) (a.put d v) w):wpAnyK P md ops Q k S (fuel+1) listed a w:=by
 subst hd;exact wpAnyK_pure hi hst hQ hD hS hy h
theorem ghost_pure{i j:Nat}{oj:Oper}{d dj:Tmp}{v:Value}{fuel:Nat}{listed:Array Bool}{a:Act}{I:Bool→Value→World→Prop}(hj:ops[j]? =some oj)(hdj:oj.dst=some dj)(hmi:(Region.ready md ops listed).contains i=true)(hst:stepB md ops listed k j=true)(hst':stepB md ops (listed.setIfInBounds i true) k j=true)
 (hQ:∀ c a w,Q (.panic c) (a.put (some dj) v) w→Q (.panic c) a w) (hD:Down md ops listed) (ha:a.put (some d) undef=a) (hdd:d≠dj) (hij:i≠j) (hS:∀ b x w,I b x w→S w) (hy:∀ x,YieldsIf P ops (fun _=>True) oj v (a.put (some d) x))
 (h:Down md ops (listed.setIfInBounds j true)→GhostK P md ops Q k S i d fuel (listed.setIfInBounds j true) (a.put (some dj) v) I):GhostK P md ops Q k S i d (fuel+1) listed a I:=by
 have hmi':i∈Region.ready md ops listed:=by rwa[List.contains_iff_mem]at hmi
 have hD':=hD.set hmi';have hDj:=hD.set (stepB_spec hst).2.2.1;subst_vars;refine⟨fun x w hI=>?_,fun w hI=>?_⟩
 · refine wpAnyK_pureD hj hdj hst' hQ hD' (hS _ _ _ hI) (hy x) fun _=>?_;rw[Act.put_comm a x v (fun d' h h'=>by cases h;cases h';exact hdd rfl),Array.setIfInBounds_comm _ _ hij];exact(h hDj).1 x w hI
 · exact wpAnyK_pureD hj hdj hst hQ hD (hS _ _ _ hI) (by have:=hy undef;rwa[ha]at this) fun _=>(h hDj).2 w hI
end
section
variable {P : Program} {ops : Array Oper} {Q : Exit → Act → World → Prop} {md : Region.Mode} {S : World → Prop} {k : Nat}
theorem qPD{oi:Oper}{v:Value}{listed:Array Bool}{a:Act}{w:World}(i d fuel:Nat)(hi:ops[i]? =some oi)(hD:Down md ops listed)(hS:S w)(h:Down md ops (listed.setIfInBounds i true)→wpAnyK P md ops Q k S fuel (listed.setIfInBounds i true) (a.put (some d) v) w)(hy:∀ w',True→(execOp a.eval oi).run P w'=.ok (.value v) w':=by intro w' _;go_simp;with_reducible rfl)(hd:oi.dst=some d:=by kernel_rfl)(hst:stepB md ops listed k i=true:=by kernel_rfl)(hg:Region.wanted oi (yielded ops a.tmps)=true:=by kernel_rfl)(hQ:∀ c a w,Q (.panic c) (a.put (some d) v) w→Q (.panic c) a w:=by exact fun _ _ _ h=>h):wpAnyK P md ops Q k S (fuel+1) listed a w:=wpAnyK_pureD hi hd hst hQ hD hS (.inl ⟨hg,hy⟩) h
theorem qTD{oi:Oper}{v:Value}{listed:Array Bool}{a:Act}{w:World}(i d fuel:Nat)(hi:ops[i]? =some oi)(hD:Down md ops listed)(hS:S w)(hy:∀ w',S w'→(execOp a.eval oi).run P w'=.ok (.value v) w')(h:Down md ops (listed.setIfInBounds i true)→wpAnyK P md ops Q k S fuel (listed.setIfInBounds i true) (a.put (some d) v) w)(hd:oi.dst=some d:=by kernel_rfl)(hst:stepB md ops listed k i=true:=by kernel_rfl)(hre:reachB md ops ops.size k i=true:=by kernel_rfl)(hg:Region.wanted oi (yielded ops a.tmps)=true:=by kernel_rfl)(hQ:∀ c a w,Q (.panic c) (a.put (some d) v) w→Q (.panic c) a w:=by exact fun _ _ _ h=>h):wpAnyK P md ops Q k S (fuel+1) listed a w:=wpAnyK_takeD hi hd hst hre hQ hD hS (.inl ⟨hg,hy⟩) h
theorem qSD{oi:Oper}{v:Value}{listed:Array Bool}{a:Act}{w:World}(i d fuel:Nat)(hi:ops[i]? =some oi)(hD:Down md ops listed)(hS:S w)(hy:∀ w',S w'→(execOp a.eval oi).run P w'=.ok (.value v) w')(h:Down md ops (listed.setIfInBounds i true)→wpAnyK P md ops Q k S fuel (listed.setIfInBounds i true) (a.put (some d) v) w)(hd:oi.dst=some d:=by kernel_rfl)(hst:stepB md ops listed k i=true:=by kernel_rfl)(hre:decide (ops.size≤k)=true:=by kernel_rfl)(hg:Region.wanted oi (yielded ops a.tmps)=true:=by kernel_rfl)(hQ:∀ c a w,Q (.panic c) (a.put (some d) v) w→Q (.panic c) a w:=by exact fun _ _ _ h=>h):wpAnyK P md ops Q k S (fuel+1) listed a w:=wpAnyK_takeSD hi hd hst hre hQ hD hS (.inl ⟨hg,hy⟩) h
end
open Go.RowKit
theorem kC{w w':World}(h:Below w.heap.size w w'){a:Addr}{v:Value}(c:w.cell? a=some v):w'.cell? a=some v:=kc h c
section
variable {P : Program} {ops : Array Oper} {Q : Exit → Act → World → Prop} {md : Region.Mode} {S : World → Prop} {k : Nat}
theorem rP{oi:Oper}{v:Value}{listed:Array Bool}{a:Act}{w:World}(i d fuel:Nat)(hi:ops[i]? =some oi)(hD:Down md ops listed)(hS:S w)
 (h:Down md ops (listed.setIfInBounds i true)→wpAnyK P md ops Q k S fuel (listed.setIfInBounds i true) (a.put (some d) v) w)
 (hd:oi.dst=some d:=by kernel_rfl) (hst:stepB md ops listed k i=true:=by kernel_rfl) (hg:Region.wanted oi (yielded ops a.tmps)=true:=by kernel_rfl)
 (hy:∀ w',True→(execOp a.eval oi).run P w'=.ok (.value v) w':=by intro w' _;go_simp;with_reducible rfl)
 (hQ:∀ c a w,Q (.panic c) (a.put (some d) v) w→Q (.panic c) a w:=by exact fun _ _ _ h=>h):wpAnyK P md ops Q k S (fuel+1) listed a w:=
 wpAnyK_pureD hi hd hst hQ hD hS (.inl ⟨hg,hy⟩) h
theorem rU{oi:Oper}{listed:Array Bool}{a:Act}{w:World}(i d fuel:Nat)(hi:ops[i]? =some oi)(hD:Down md ops listed)(hS:S w)
 (h:Down md ops (listed.setIfInBounds i true)→wpAnyK P md ops Q k S fuel (listed.setIfInBounds i true) (a.put (some d) undef) w)
 (hd:oi.dst=some d:=by kernel_rfl) (hst:stepB md ops listed k i=true:=by kernel_rfl) (hg:Region.wanted oi (yielded ops a.tmps)=false:=by kernel_rfl)
 (hQ:∀ c a w,Q (.panic c) (a.put (some d) undef) w→Q (.panic c) a w:=by exact fun _ _ _ h=>h):wpAnyK P md ops Q k S (fuel+1) listed a w:=
 wpAnyK_pureD hi hd hst hQ hD hS (.inr ⟨hg,rfl⟩) h
theorem rT{oi:Oper}{v:Value}{listed:Array Bool}{a:Act}{w:World}(i d fuel:Nat)(hi:ops[i]? =some oi)(hD:Down md ops listed)(hS:S w)
 (hy:∀ w',S w'→(execOp a.eval oi).run P w'=.ok (.value v) w')
 (h:Down md ops (listed.setIfInBounds i true)→wpAnyK P md ops Q k S fuel (listed.setIfInBounds i true) (a.put (some d) v) w)
 (hd:oi.dst=some d:=by kernel_rfl) (hst:stepB md ops listed k i=true:=by kernel_rfl) (hre:decide (ops.size≤k)=true:=by kernel_rfl) (hg:Region.wanted oi (yielded ops a.tmps)=true:=by kernel_rfl)
 (hQ:∀ c a w,Q (.panic c) (a.put (some d) v) w→Q (.panic c) a w:=by exact fun _ _ _ h=>h):wpAnyK P md ops Q k S (fuel+1) listed a w:=
 wpAnyK_takeSD hi hd hst hre hQ hD hS (.inl ⟨hg,hy⟩) h
theorem rO{oi:Oper}{listed:Array Bool}{a:Act}{w:World}(i fuel:Nat)(hi:ops[i]? =some oi)(hD:Down md ops listed)
 (h:∀ K:Act→World→Prop,(∀ a' w',S w'→(S w'→Down md ops (listed.setIfInBounds i true)→wpAnyK P md ops Q k S fuel (listed.setIfInBounds i true) a' w')→K a' w')→wpList P ops (EndK K Q) [oi] a w)
 (hr:Region.ready md ops listed=[i]:=by kernel_rfl):wpAnyK P md ops Q k S (fuel+1) listed a w:=wpAnyK_one hr hi hD h
end
set_option maxRecDepth 100000
set_option maxHeartbeats 400000
theorem nat_Valid(a:ByteArray)(h:a.size≤9223372036854775807)(w:World) :
 Calls Tryz.prog 28 #[.string a] w (RetQ (.bool (nvalid a)) w):=by
 by_cases h1:a.size≤128
 · by_cases h2:a.size=0
   · rw[nvalid_nil h2];go_enter Tryz.func28,Tryz.ntmps28;go_wp2;go_ret;exact⟨rfl,rfl⟩
   · have h3:0<a.size:=by omega
     have h4:((a.size:Int)==0)=false:=beq_eq_false_iff_ne.2 (by omega);rw[nvalid_some h1 h3];go_enter Tryz.func28,Tryz.ntmps28;go_wp2;go_ret;exact⟨rfl,rfl⟩
 · rw[nvalid_long h1];go_enter Tryz.func28,Tryz.ntmps28;go_wp2;go_ret;exact⟨rfl,rfl⟩
theorem r01_Valid(a:ByteArray)(h:a.size≤9223372036854775807)(w:World) :
 Calls Tryz.prog 63 #[.string a] w (RetQ (.bool (nvalid a)) w):=by
 by_cases h1:a.size≤128
 · by_cases h2:a.size=0
   · rw[nvalid_nil h2];have h3:=sempty_true h2;go_enter Tryz.func63,Tryz.ntmps63;go_wp2;go_ret;exact⟨rfl,rfl⟩
   · have h3:0<a.size:=by omega
     have h4:=sempty_false h3;rw[nvalid_some h1 h3];go_enter Tryz.func63,Tryz.ntmps63;go_wp2;go_ret;exact⟨rfl,rfl⟩
 · rw[nvalid_long h1];go_enter Tryz.func63,Tryz.ntmps63;go_wp2;go_ret;exact⟨rfl,rfl⟩
def TrRel(w:World)(bs:List UInt8)(v:Value):Prop:=∃ A len cap bs',v=.slice A len cap∧BytesAt w A len cap bs'∧trimZ bs'=trimZ bs
theorem nat_trimmed(A:Option Addr)(len cap:Nat)(bs:List UInt8)(w:World)(h:BytesAt w A len cap bs) :
 Calls Tryz.prog 76 #[.slice A len cap] w (RetQ (.string (bstr (trimZ bs))) w):=by
 go_enter Tryz.func76,Tryz.ntmps76;go_wp2
 go_loop [0] (fun v=>TrRel w bs v) (fun v=>sliceLen v)
 case atStart=>exact⟨A,len,cap,bs,rfl,h,rfl⟩
 case round =>
  clear h;obtain⟨A',len',cap',bs',rfl,hB,hd⟩:=hrel;have HD:=Hq hd;clear hd;have hconv:=BytesAt.conv hB 127 22 5 Tryz.underlying127 Tryz.underlying5 Tryz.underlying22;by_cases h0:0<len'
  · obtain⟨b,o,rfl,hcel⟩:=hB.2.2.2 h0;have hl:=hB.1;have hcap:len'≤cap':=hB.2.1;have hm:cap'≤9223372036854775807:=hB.2.2.1;have hT:=hB.tail h0;have HB:=Hq hT;have hc0:=hcel 0 h0;simp only[Nat.add_zero]at hc0;clear hcel hT hB;by_cases hz:byteI bs' 0=0
    · have hr:trimZ (bs'.drop 1)=trimZ bs:=by rw[←HD.out,trimZ_zero (by omega) hz]
      have HL:=Hq hl;have HR:=Hq hr;have hz2:(byteI bs' 0==0)=true:=beq_iff_eq.2 hz;clear hl hr hconv hz;go_wp2;exact⟨⟨_,_,_,_,rfl,HB.out,HR.out⟩,by show len' - 1<len';omega⟩
    · have hz2:(byteI bs' 0==0)=false:=beq_eq_false_iff_ne.2 hz;have hr:trimZ bs=bs':=by rw[←HD.out];exact trimZ_stop (.inr hz)
      have HL:=Hq hl;have HR:=Hq hr;clear hl hr hz;go_wp2;go_ret;rw[HR.out];exact⟨rfl,rfl⟩
  · have h00:len'=0:=by omega
    subst h00;have hl:=hB.1;have hr:trimZ bs=bs':=by rw[←HD.out];exact trimZ_stop (.inl hl)
    have HR:=Hq hr;clear hr hl hB h0;go_wp2;go_ret;rw[HR.out];exact⟨rfl,rfl⟩
set_option maxRecDepth 100000
set_option maxHeartbeats 400000
theorem r01_trim(A:Option Addr)(len cap:Nat)(bs:List UInt8)(w:World)(h:BytesAt w A len cap bs) :
 Calls Tryz.prog 179 #[.slice A len cap] w (RetQ (.string (bstr (trimZ bs))) w):=by
 have hl:=h.1;have hcap:len≤cap:=h.2.1;have hm:cap≤9223372036854775807:=h.2.2.1;by_cases h0:0<len
 · obtain⟨b,o,rfl,hcel⟩:=h.2.2.2 h0;have HL:=Hq hl;have HB:=Hq h;have HC:=Hq hcel;clear hcel hl h;go_enter Tryz.func179,Tryz.ntmps179;go_wp2
   go_loop [3] (fun v=>∃ k:Nat,k≤len∧v=.int .i64 k∧trimZ (bs.drop k)=trimZ bs) (fun v=>len - (intOf v).toNat)
   case atStart=>exact⟨0,Nat.zero_le _,rfl,rfl⟩
   case round =>
    obtain⟨k,hk,rfl,hd⟩:=hrel;have HD:=Hq hd;clear hd;by_cases hlt:k<len
    · have hc0:=HC.out k hlt;by_cases hz:byteI bs k=0
      · have hz2:(byteI bs k==0)=true:=beq_iff_eq.2 hz;have HZ:=Hq hz;clear hz;go_wp2;go_round;case rel=>exact⟨k+1,by omega,by go_num,by rw[←HD.out];exact(trimZ_drop (by rw[HL.out];exact hlt) HZ.out).symm⟩
        case measure=>simp[intOf];omega
      · have hz2:(byteI bs k==0)=false:=beq_eq_false_iff_ne.2 hz;have hr:bs.drop k=trimZ bs:=by rw[←HD.out];exact(trimZ_stop (.inr (by rw[byteI_drop];exact hz))).symm
        have hconv:=BytesAt.conv (HB.out.from k hk) 127 22 5 Tryz.underlying127 Tryz.underlying5 Tryz.underlying22;rw[hr]at hconv;have HR:=Hq hr;have hne:¬ cap=k:=by omega
        rw[if_neg hne]at hconv;clear hz hr;go_wp2;go_ret;exact⟨rfl,rfl⟩
    · obtain rfl:k=len:=by omega
      have hr:bs.drop k=trimZ bs:=by rw[←HD.out];exact(trimZ_stop (.inl (by simp[HL.out]))).symm
      have hconv:=BytesAt.conv (HB.out.from k hk) 127 22 5 Tryz.underlying127 Tryz.underlying5 Tryz.underlying22;rw[hr]at hconv;clear hr;rw[Nat.sub_self]at hconv;by_cases hck:cap=k
      · rw[if_pos hck]at hconv;subst hck;rw[Nat.sub_self]at hconv;go_wp2;go_ret;exact⟨rfl,rfl⟩
      · rw[if_neg hck]at hconv;go_wp2;go_ret;exact⟨rfl,rfl⟩
 · have h00:len=0:=by omega
   subst h00;have hb:trimZ bs=bs:=trimZ_stop (.inl hl);rw[hb];have hconv:=BytesAt.conv h 127 22 5 Tryz.underlying127 Tryz.underlying5 Tryz.underlying22;clear hb h hl h0;go_enter Tryz.func179,Tryz.ntmps179;go_wp2;refine wp_loop_rounds 1 ?_;rw[rounds_succ];go_wp2;go_ret;exact⟨rfl,rfl⟩
theorem nat_Of(n:Nat)(hn:n<18446744073709551616)(w:World) :
 Calls Tryz.prog 30 #[.int .u64 n] w (Ret (.string (bstr (encN n))) w):=by
 have HN:=Hq hn;clear hn;go_enter Tryz.func30,Tryz.ntmps30;go_wp2;refine wp_loop_rounds 9 ?_;iterate 9 (rw[rounds_succ];go_wp2_with fail)
 refine(nat_trimmed (some ⟨w.heap.size,0,none⟩) 8 8 (be8 n) _ (be8_at w n _)).mono ?_;rintro e w1 ⟨rfl,rfl⟩;rw[be8_trim n HN.out];go_wp2;go_ret;exact⟨rfl,(blr).alloc nlr _⟩
theorem r01_Of(n:Nat)(hn:n<18446744073709551616)(w:World) :
 Calls Tryz.prog 123 #[.int .u64 n] w (Ret (.string (bstr (encN n))) w):=by
 have HN:=Hq hn;have hn2:(n:Int)≤18446744073709551615:=by omega
 clear hn;have hmk:∀ w,(Instr.makeSlice 127 (.int .i64 8) (.int .i64 8)).run Tryz.prog w=.ok (.slice (some ⟨w.heap.size,0,none⟩) 8 8) (w.alloc (.cells #[.int .u8 0,.int .u8 0,.int .u8 0,.int .u8 0,.int .u8 0,.int .u8 0,.int .u8 0,.int .u8 0] 5)):=fun _=>by kernel_rfl
 go_enter Tryz.func123,Tryz.ntmps123;go_wp2;refine wp_loop_rounds 9 ?_;iterate 9 (rw[rounds_succ];go_wp2_with fail)
 refine(r01_trim (some ⟨w.heap.size,0,none⟩) 8 8 (be8 n) _ (be8_at2 w n _)).mono ?_;rintro e w1 ⟨rfl,rfl⟩;rw[be8_trim n HN.out];go_wp2;go_ret;exact⟨rfl,(blr).alloc nlr _⟩
end Go.Proofs.YtopmeciihijgiaaGreatDoor

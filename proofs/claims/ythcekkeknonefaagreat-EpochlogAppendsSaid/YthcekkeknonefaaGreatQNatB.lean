import Derived.Test.YthcekkeknonefaaGreatQGst
import Derived.Test.YthcekkeknonefaaGreatQNum2
import Derived.KernelRfl
import Derived.Test.YthcekkeknonefaaGreatRows
set_option linter.unusedVariables false
namespace Go.Proofs.YthcekkeknonefaaGreat
open Go.RowKit
theorem kC{w w':World}(h:Below w.heap.size w w'){a:Addr}{v:Value}(c:w.cell? a=some v):w'.cell? a=some v:=cell_kept h (Nat.le_refl _) c
section
variable {P : Program} {ops : Array Oper} {Q : Exit → Act → World → Prop} {md : Region.Mode} {S : World → Prop} {k : Nat}
theorem rP{oi:Oper}{v:Value}{listed:Array Bool}{a:Act}{w:World}(i d fuel:Nat)(hi:ops[i]? =some oi)(hD:Down md ops listed)(hS:S w)
 (h:Down md ops (listed.setIfInBounds i true)→wpAnyK P md ops Q k S fuel (listed.setIfInBounds i true) (a.put (some d) v) w)
 (hd:oi.dst=some d:=by kernel_rfl) (hst:stepB md ops listed k i=true:=by kernel_rfl) (hg:Region.wanted oi (yielded ops a.tmps)=true:=by kernel_rfl)
 (hy:∀ w',True→(execOp a.eval oi).run P w'=.ok (.value v) w':=by intro w' _;go_simp;with_reducible rfl)
 (hQ:∀ c a w,Q (.panic c) (a.put (some d) v) w→Q (.panic c) a w:=by exact fun _ _ _ h=>h):wpAnyK P md ops Q k S (fuel+1) listed a w:=
 wpAnyK_pureD hi hd hst hQ hD hS (.inl ⟨hg,hy⟩) h
theorem rU{oi:Oper}{listed:Array Bool}{a:Act}{w:World}(i d fuel:Nat)(hi:ops[i]? =some oi)(hD:Down md ops listed)(hS:S w)
 (h:Down md ops (listed.setIfInBounds i true)→wpAnyK P md ops Q k S fuel (listed.setIfInBounds i true) (a.put (some d) undef) w)
 (hd:oi.dst=some d:=by kernel_rfl) (hst:stepB md ops listed k i=true:=by kernel_rfl) (hg:Region.wanted oi (yielded ops a.tmps)=false:=by kernel_rfl)
 (hQ:∀ c a w,Q (.panic c) (a.put (some d) undef) w→Q (.panic c) a w:=by exact fun _ _ _ h=>h):wpAnyK P md ops Q k S (fuel+1) listed a w:=
 wpAnyK_pureD hi hd hst hQ hD hS (.inr ⟨hg,rfl⟩) h
theorem rT{oi:Oper}{v:Value}{listed:Array Bool}{a:Act}{w:World}(i d fuel:Nat)(hi:ops[i]? =some oi)(hD:Down md ops listed)(hS:S w)
 (hy:∀ w',S w'→(execOp a.eval oi).run P w'=.ok (.value v) w')
 (h:Down md ops (listed.setIfInBounds i true)→wpAnyK P md ops Q k S fuel (listed.setIfInBounds i true) (a.put (some d) v) w)
 (hd:oi.dst=some d:=by kernel_rfl) (hst:stepB md ops listed k i=true:=by kernel_rfl) (hre:decide (ops.size≤k)=true:=by kernel_rfl) (hg:Region.wanted oi (yielded ops a.tmps)=true:=by kernel_rfl)
 (hQ:∀ c a w,Q (.panic c) (a.put (some d) v) w→Q (.panic c) a w:=by exact fun _ _ _ h=>h):wpAnyK P md ops Q k S (fuel+1) listed a w:=
 wpAnyK_takeSD hi hd hst hre hQ hD hS (.inl ⟨hg,hy⟩) h
theorem rO{oi:Oper}{listed:Array Bool}{a:Act}{w:World}(i fuel:Nat)(hi:ops[i]? =some oi)(hD:Down md ops listed)
 (h:∀ K:Act→World→Prop,(∀ a' w',S w'→(S w'→Down md ops (listed.setIfInBounds i true)→wpAnyK P md ops Q k S fuel (listed.setIfInBounds i true) a' w')→K a' w')→wpList P ops (EndK K Q) [oi] a w)
 (hr:Region.ready md ops listed=[i]:=by kernel_rfl):wpAnyK P md ops Q k S (fuel+1) listed a w:=wpAnyK_one hr hi hD h
end
set_option maxRecDepth 100000
set_option maxHeartbeats 400000
theorem nat_Valid(a:ByteArray)(h:a.size≤9223372036854775807)(w:World) :
 Calls Tryz.prog 25 #[.string a] w (RetQ (.bool (nvalid a)) w):=by
 by_cases h1:a.size≤128
 · by_cases h2:a.size=0
   · rw[nvalid_nil h2];go_enter Tryz.func25,Tryz.ntmps25;go_wp2;go_ret;exact⟨rfl,rfl⟩
   · have h3:0<a.size:=by omega
     have h4:((a.size:Int)==0)=false:=beq_eq_false_iff_ne.2 (by omega);rw[nvalid_some h1 h3];go_enter Tryz.func25,Tryz.ntmps25;go_wp2;go_ret;exact⟨rfl,rfl⟩
 · rw[nvalid_long h1];go_enter Tryz.func25,Tryz.ntmps25;go_wp2;go_ret;exact⟨rfl,rfl⟩
theorem r01_Valid(a:ByteArray)(h:a.size≤9223372036854775807)(w:World) :
 Calls Tryz.prog 29 #[.string a] w (RetQ (.bool (nvalid a)) w):=by
 by_cases h1:a.size≤128
 · by_cases h2:a.size=0
   · rw[nvalid_nil h2];have h3:=sempty_true h2;go_enter Tryz.func29,Tryz.ntmps29;go_wp2;go_ret;exact⟨rfl,rfl⟩
   · have h3:0<a.size:=by omega
     have h4:=sempty_false h3;rw[nvalid_some h1 h3];go_enter Tryz.func29,Tryz.ntmps29;go_wp2;go_ret;exact⟨rfl,rfl⟩
 · rw[nvalid_long h1];go_enter Tryz.func29,Tryz.ntmps29;go_wp2;go_ret;exact⟨rfl,rfl⟩
def TrRel(w:World)(bs:List UInt8)(v:Value):Prop:=∃ A len cap bs',v=.slice A len cap∧BytesAt w A len cap bs'∧trimZ bs'=trimZ bs
theorem nat_trimmed(A:Option Addr)(len cap:Nat)(bs:List UInt8)(w:World)(h:BytesAt w A len cap bs) :
 Calls Tryz.prog 112 #[.slice A len cap] w (RetQ (.string (bstr (trimZ bs))) w):=by
 go_enter Tryz.func112,Tryz.ntmps112;go_wp2
 go_loop [0] (fun v=>TrRel w bs v) (fun v=>sliceLen v)
 case atStart=>exact⟨A,len,cap,bs,rfl,h,rfl⟩
 case round =>
  clear h;obtain⟨A',len',cap',bs',rfl,hB,hd⟩:=hrel;have HD:=Hq hd;clear hd;have hconv:=BytesAt.conv hB 166 22 5 Tryz.underlying166 Tryz.underlying5 Tryz.underlying22;by_cases h0:0<len'
  · obtain⟨b,o,rfl,hcel⟩:=hB.2.2.2 h0;have hl:=hB.1;have hcap:len'≤cap':=hB.2.1;have hm:cap'≤9223372036854775807:=hB.2.2.1;have hT:=hB.tail h0;have HB:=Hq hT;have hc0:=hcel 0 h0;simp only[Nat.add_zero]at hc0;clear hcel hT hB;by_cases hz:byteI bs' 0=0
    · have hr:trimZ (bs'.drop 1)=trimZ bs:=by rw[←HD.out,trimZ_zero (by omega) hz]
      have HL:=Hq hl;have HR:=Hq hr;have hz2:(byteI bs' 0==0)=true:=beq_iff_eq.2 hz;clear hl hr hconv hz;go_wp2;exact⟨⟨_,_,_,_,rfl,HB.out,HR.out⟩,by show len' - 1<len';omega⟩
    · have hz2:(byteI bs' 0==0)=false:=beq_eq_false_iff_ne.2 hz;have hr:trimZ bs=bs':=by rw[←HD.out];exact trimZ_stop (.inr hz)
      have HL:=Hq hl;have HR:=Hq hr;clear hl hr hz;go_wp2;go_ret;rw[HR.out];exact⟨rfl,rfl⟩
  · have h00:len'=0:=by omega
    subst h00;have hl:=hB.1;have hr:trimZ bs=bs':=by rw[←HD.out];exact trimZ_stop (.inl hl)
    have HR:=Hq hr;clear hr hl hB h0;go_wp2;go_ret;rw[HR.out];exact⟨rfl,rfl⟩
set_option maxRecDepth 100000
set_option maxHeartbeats 400000
theorem r01_trim(A:Option Addr)(len cap:Nat)(bs:List UInt8)(w:World)(h:BytesAt w A len cap bs) :
 Calls Tryz.prog 128 #[.slice A len cap] w (RetQ (.string (bstr (trimZ bs))) w):=by
 have hl:=h.1;have hcap:len≤cap:=h.2.1;have hm:cap≤9223372036854775807:=h.2.2.1;by_cases h0:0<len
 · obtain⟨b,o,rfl,hcel⟩:=h.2.2.2 h0;have HL:=Hq hl;have HB:=Hq h;have HC:=Hq hcel;clear hcel hl h;go_enter Tryz.func128,Tryz.ntmps128;go_wp2
   go_loop [3] (fun v=>∃ k:Nat,k≤len∧v=.int .i64 k∧trimZ (bs.drop k)=trimZ bs) (fun v=>len - (intOf v).toNat)
   case atStart=>exact⟨0,Nat.zero_le _,rfl,rfl⟩
   case round =>
    obtain⟨k,hk,rfl,hd⟩:=hrel;have HD:=Hq hd;clear hd;by_cases hlt:k<len
    · have hc0:=HC.out k hlt;by_cases hz:byteI bs k=0
      · have hz2:(byteI bs k==0)=true:=beq_iff_eq.2 hz;have HZ:=Hq hz;clear hz;go_wp2;go_round;case rel=>exact⟨k+1,by omega,by go_num,by rw[←HD.out];exact(trimZ_drop (by rw[HL.out];exact hlt) HZ.out).symm⟩
        case measure=>simp[intOf];omega
      · have hz2:(byteI bs k==0)=false:=beq_eq_false_iff_ne.2 hz;have hr:bs.drop k=trimZ bs:=by rw[←HD.out];exact(trimZ_stop (.inr (by rw[byteI_drop];exact hz))).symm
        have hconv:=BytesAt.conv (HB.out.from k hk) 166 22 5 Tryz.underlying166 Tryz.underlying5 Tryz.underlying22;rw[hr]at hconv;have HR:=Hq hr;have hne:¬ cap=k:=by omega
        rw[if_neg hne]at hconv;clear hz hr;go_wp2;go_ret;exact⟨rfl,rfl⟩
    · obtain rfl:k=len:=by omega
      have hr:bs.drop k=trimZ bs:=by rw[←HD.out];exact(trimZ_stop (.inl (by simp[HL.out]))).symm
      have hconv:=BytesAt.conv (HB.out.from k hk) 166 22 5 Tryz.underlying166 Tryz.underlying5 Tryz.underlying22;rw[hr]at hconv;clear hr;rw[Nat.sub_self]at hconv;by_cases hck:cap=k
      · rw[if_pos hck]at hconv;subst hck;rw[Nat.sub_self]at hconv;go_wp2;go_ret;exact⟨rfl,rfl⟩
      · rw[if_neg hck]at hconv;go_wp2;go_ret;exact⟨rfl,rfl⟩
 · have h00:len=0:=by omega
   subst h00;have hb:trimZ bs=bs:=trimZ_stop (.inl hl);rw[hb];have hconv:=BytesAt.conv h 166 22 5 Tryz.underlying166 Tryz.underlying5 Tryz.underlying22;clear hb h hl h0;go_enter Tryz.func128,Tryz.ntmps128;go_wp2;refine wp_loop_rounds 1 ?_;rw[rounds_succ];go_wp2;go_ret;exact⟨rfl,rfl⟩
theorem nat_Of(n:Nat)(hn:n<18446744073709551616)(w:World) :
 Calls Tryz.prog 52 #[.int .u64 n] w (Ret (.string (bstr (encN n))) w):=by
 have HN:=Hq hn;clear hn;go_enter Tryz.func52,Tryz.ntmps52;go_wp2;refine wp_loop_rounds 9 ?_;iterate 9 (rw[rounds_succ];go_wp2_with fail)
 refine(nat_trimmed (some ⟨w.heap.size,0,none⟩) 8 8 (be8 n) _ (be8_at w n _)).mono ?_;rintro e w1 ⟨rfl,rfl⟩;rw[be8_trim n HN.out];go_wp2;go_ret;exact⟨rfl,(Below.refl _ _).alloc (Nat.le_refl _) _⟩
theorem r01_Of(n:Nat)(hn:n<18446744073709551616)(w:World) :
 Calls Tryz.prog 68 #[.int .u64 n] w (Ret (.string (bstr (encN n))) w):=by
 have HN:=Hq hn;have hn2:(n:Int)≤18446744073709551615:=by omega
 clear hn;have hmk:∀ w,(Instr.makeSlice 166 (.int .i64 8) (.int .i64 8)).run Tryz.prog w=.ok (.slice (some ⟨w.heap.size,0,none⟩) 8 8) (w.alloc (.cells #[.int .u8 0,.int .u8 0,.int .u8 0,.int .u8 0,.int .u8 0,.int .u8 0,.int .u8 0,.int .u8 0] 5)):=fun _=>by kernel_rfl
 go_enter Tryz.func68,Tryz.ntmps68;go_wp2;refine wp_loop_rounds 9 ?_;iterate 9 (rw[rounds_succ];go_wp2_with fail)
 refine(r01_trim (some ⟨w.heap.size,0,none⟩) 8 8 (be8 n) _ (be8_at2 w n _)).mono ?_;rintro e w1 ⟨rfl,rfl⟩;rw[be8_trim n HN.out];go_wp2;go_ret;exact⟨rfl,(Below.refl _ _).alloc (Nat.le_refl _) _⟩
end Go.Proofs.YthcekkeknonefaaGreat

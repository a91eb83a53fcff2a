import Derived.Test.YtamhonjkgkmdbaaGreatRows
import Derived.Test.YtamhonjkgkmdbaaGreatQBld
import Derived.Deep.AppendLies
set_option linter.unusedVariables false
set_option linter.unusedSimpArgs false
namespace Go.Proofs.YtamhonjkgkmdbaaGreat
set_option maxRecDepth 100000
set_option maxHeartbeats 400000
open Go.RowKit
theorem nat_Valid(a:ByteArray)(h:a.size≤9223372036854775807)(w:World) :
 Calls Tryz.prog 35 #[.string a] w (RetQ (.bool (nvalid a)) w):=by
 by_cases h1:a.size≤128
 · by_cases h2:a.size=0
   · rw[nvalid_nil h2];go_enter Tryz.func35,Tryz.ntmps35;go_wp2;go_ret;exact⟨rfl,rfl⟩
   · have h3:0<a.size:=by omega
     have h4:((a.size:Int)==0)=false:=beq_eq_false_iff_ne.2 (by omega);rw[nvalid_some h1 h3];go_enter Tryz.func35,Tryz.ntmps35;go_wp2;go_ret;exact⟨rfl,rfl⟩
 · rw[nvalid_long h1];go_enter Tryz.func35,Tryz.ntmps35;go_wp2;go_ret;exact⟨rfl,rfl⟩
theorem r01_Valid(a:ByteArray)(h:a.size≤9223372036854775807)(w:World) :
 Calls Tryz.prog 48 #[.string a] w (RetQ (.bool (nvalid a)) w):=by
 by_cases h1:a.size≤128
 · by_cases h2:a.size=0
   · rw[nvalid_nil h2];have h3:=sempty_true h2;go_enter Tryz.func48,Tryz.ntmps48;go_wp2;go_ret;exact⟨rfl,rfl⟩
   · have h3:0<a.size:=by omega
     have h4:=sempty_false h3;rw[nvalid_some h1 h3];go_enter Tryz.func48,Tryz.ntmps48;go_wp2;go_ret;exact⟨rfl,rfl⟩
 · rw[nvalid_long h1];go_enter Tryz.func48,Tryz.ntmps48;go_wp2;go_ret;exact⟨rfl,rfl⟩
def TrRel(w:World)(bs:List UInt8)(v:Value):Prop:=∃ A len cap bs',v=.slice A len cap∧BytesAt w A len cap bs'∧trimZ bs'=trimZ bs
theorem nat_trimmed(A:Option Addr)(len cap:Nat)(bs:List UInt8)(w:World)(h:BytesAt w A len cap bs) :
 Calls Tryz.prog 91 #[.slice A len cap] w (RetQ (.string (bstr (trimZ bs))) w):=by
 go_enter Tryz.func91,Tryz.ntmps91;go_wp2
 go_loop [0] (fun v=>TrRel w bs v) (fun v=>sliceLen v)
 case atStart=>exact⟨A,len,cap,bs,rfl,h,rfl⟩
 case round =>
  clear h;obtain⟨A',len',cap',bs',rfl,hB,hd⟩:=hrel;have HD:=Hq hd;clear hd;have hconv:=BytesAt.conv hB 129 22 5 Tryz.underlying129 Tryz.underlying5 Tryz.underlying22;by_cases h0:0<len'
  · obtain⟨b,o,rfl,hcel⟩:=hB.2.2.2 h0;have hl:=hB.1;have hcap:len'≤cap':=hB.2.1;have hm:cap'≤9223372036854775807:=hB.2.2.1;have hT:=hB.tail h0;have HB:=Hq hT;have hc0:=hcel 0 h0;simp only[Nat.add_zero]at hc0;clear hcel hT hB;by_cases hz:byteI bs' 0=0
    · have hr:trimZ (bs'.drop 1)=trimZ bs:=by rw[←HD.out,trimZ_zero (by omega) hz]
      have HL:=Hq hl;have HR:=Hq hr;have hz2:(byteI bs' 0==0)=true:=beq_iff_eq.2 hz;clear hl hr hconv hz;go_wp2;exact⟨⟨_,_,_,_,rfl,HB.out,HR.out⟩,by show len' - 1<len';omega⟩
    · have hz2:(byteI bs' 0==0)=false:=beq_eq_false_iff_ne.2 hz;have hr:trimZ bs=bs':=by rw[←HD.out];exact trimZ_stop (.inr hz)
      have HL:=Hq hl;have HR:=Hq hr;clear hl hr hz;go_wp2;go_ret;rw[HR.out];exact⟨rfl,rfl⟩
  · have h00:len'=0:=by omega
    subst h00;have hl:=hB.1;have hr:trimZ bs=bs':=by rw[←HD.out];exact trimZ_stop (.inl hl)
    have HR:=Hq hr;clear hr hl hB h0;go_wp2;go_ret;rw[HR.out];exact⟨rfl,rfl⟩
set_option maxRecDepth 100000
set_option maxHeartbeats 400000
theorem r01_trim(A:Option Addr)(len cap:Nat)(bs:List UInt8)(w:World)(h:BytesAt w A len cap bs) :
 Calls Tryz.prog 109 #[.slice A len cap] w (RetQ (.string (bstr (trimZ bs))) w):=by
 have hl:=h.1;have hcap:len≤cap:=h.2.1;have hm:cap≤9223372036854775807:=h.2.2.1;by_cases h0:0<len
 · obtain⟨b,o,rfl,hcel⟩:=h.2.2.2 h0;have HL:=Hq hl;have HB:=Hq h;have HC:=Hq hcel;clear hcel hl h;go_enter Tryz.func109,Tryz.ntmps109;go_wp2
   go_loop [3] (fun v=>∃ k:Nat,k≤len∧v=.int .i64 k∧trimZ (bs.drop k)=trimZ bs) (fun v=>len - (intOf v).toNat)
   case atStart=>exact⟨0,Nat.zero_le _,rfl,rfl⟩
   case round =>
    obtain⟨k,hk,rfl,hd⟩:=hrel;have HD:=Hq hd;clear hd;by_cases hlt:k<len
    · have hc0:=HC.out k hlt;by_cases hz:byteI bs k=0
      · have hz2:(byteI bs k==0)=true:=beq_iff_eq.2 hz;have HZ:=Hq hz;clear hz;go_wp2;go_round;case rel=>exact⟨k+1,by omega,by go_num,by rw[←HD.out];exact(trimZ_drop (by rw[HL.out];exact hlt) HZ.out).symm⟩
        case measure=>simp[intOf];omega
      · have hz2:(byteI bs k==0)=false:=beq_eq_false_iff_ne.2 hz;have hr:bs.drop k=trimZ bs:=by rw[←HD.out];exact(trimZ_stop (.inr (by rw[byteI_drop];exact hz))).symm
        have hconv:=BytesAt.conv (HB.out.from k hk) 129 22 5 Tryz.underlying129 Tryz.underlying5 Tryz.underlying22;rw[hr]at hconv;have HR:=Hq hr;have hne:¬ cap=k:=by omega
        rw[if_neg hne]at hconv;clear hz hr;go_wp2;go_ret;exact⟨rfl,rfl⟩
    · obtain rfl:k=len:=by omega
      have hr:bs.drop k=trimZ bs:=by rw[←HD.out];exact(trimZ_stop (.inl (by simp[HL.out]))).symm
      have hconv:=BytesAt.conv (HB.out.from k hk) 129 22 5 Tryz.underlying129 Tryz.underlying5 Tryz.underlying22;rw[hr]at hconv;clear hr;rw[Nat.sub_self]at hconv;by_cases hck:cap=k
      · rw[if_pos hck]at hconv;subst hck;rw[Nat.sub_self]at hconv;go_wp2;go_ret;exact⟨rfl,rfl⟩
      · rw[if_neg hck]at hconv;go_wp2;go_ret;exact⟨rfl,rfl⟩
 · have h00:len=0:=by omega
   subst h00;have hb:trimZ bs=bs:=trimZ_stop (.inl hl);rw[hb];have hconv:=BytesAt.conv h 129 22 5 Tryz.underlying129 Tryz.underlying5 Tryz.underlying22;clear hb h hl h0;go_enter Tryz.func109,Tryz.ntmps109;go_wp2;refine wp_loop_rounds 1 ?_;rw[rounds_succ];go_wp2;go_ret;exact⟨rfl,rfl⟩
theorem nat_Of(n:Nat)(hn:n<18446744073709551616)(w:World) :
 Calls Tryz.prog 65 #[.int .u64 n] w (Ret (.string (bstr (encN n))) w):=by
 have HN:=Hq hn;clear hn;go_enter Tryz.func65,Tryz.ntmps65;go_wp2;refine wp_loop_rounds 9 ?_;iterate 9 (rw[rounds_succ];go_wp2_with fail)
 refine(nat_trimmed (some ⟨w.heap.size,0,none⟩) 8 8 (be8 n) _ (be8_at w n _)).mono ?_;rintro e w1 ⟨rfl,rfl⟩;rw[be8_trim n HN.out];go_wp2;go_ret;exact⟨rfl,(Below.refl _ _).alloc (Nat.le_refl _) _⟩
theorem r01_Of(n:Nat)(hn:n<18446744073709551616)(w:World) :
 Calls Tryz.prog 77 #[.int .u64 n] w (Ret (.string (bstr (encN n))) w):=by
 have HN:=Hq hn;have hn2:(n:Int)≤18446744073709551615:=by omega
 clear hn;have hmk:∀ w,(Instr.makeSlice 129 (.int .i64 8) (.int .i64 8)).run Tryz.prog w=.ok (.slice (some ⟨w.heap.size,0,none⟩) 8 8) (w.alloc (.cells #[.int .u8 0,.int .u8 0,.int .u8 0,.int .u8 0,.int .u8 0,.int .u8 0,.int .u8 0,.int .u8 0] 5)):=fun _=>by kernel_rfl
 go_enter Tryz.func77,Tryz.ntmps77;go_wp2;refine wp_loop_rounds 9 ?_;iterate 9 (rw[rounds_succ];go_wp2_with fail)
 refine(r01_trim (some ⟨w.heap.size,0,none⟩) 8 8 (be8 n) _ (be8_at2 w n _)).mono ?_;rintro e w1 ⟨rfl,rfl⟩;rw[be8_trim n HN.out];go_wp2;go_ret;exact⟨rfl,(Below.refl _ _).alloc (Nat.le_refl _) _⟩
theorem addr_add(b o j:Nat):(⟨b,o,none⟩:Addr).add j=⟨b,o+j,none⟩:=by unfold Addr.add;split<;>simp_all
def SlN(w:World)(A:Option Addr)(len cap:Nat)(l:List ByteArray):Prop:=
 l.length=len∧len≤cap∧cap≤9223372036854775807∧∃ b o,(0<len→A=some ⟨b,o,none⟩)∧∀ k s,l[k]? =some s→w.cell? ⟨b,o+k,none⟩=some (.string s)
theorem SlN.kept{B:Nat}{w w':World}(hb:Below B w w')(hB:w.heap.size≤B){A:Option Addr}{len cap:Nat}{l:List ByteArray}(h:SlN w A len cap l):SlN w' A len cap l:=
 let ⟨h1,h2,h3,b,o,h4,h5⟩:=h
 ⟨h1,h2,h3,b,o,h4,fun k e hk=>cell_kept hb hB (h5 k e hk)⟩
theorem SlN.head{w:World}{A:Option Addr}{len cap:Nat}{l:List ByteArray}(h:SlN w A len cap l)(h0:0<len):∃ b o,A=some ⟨b,o,none⟩:=
 let ⟨_,_,_,b,o,h4,_⟩:=h
 ⟨b,o,h4 h0⟩
theorem SlN.get?{w:World}{b o len cap:Nat}{l:List ByteArray}(h:SlN w (some ⟨b,o,none⟩) len cap l)(k:Nat){s:ByteArray}(hk:l[k]? =some s):w.cell? ⟨b,o+k,none⟩=some (.string s):=by
 obtain⟨h1,h2,h3,b',o',h4,h5⟩:=h;have hl:=(List.getElem?_eq_some_iff.1 hk).1;have:=h4 (by omega);simp only[Option.some.injEq,Addr.mk.injEq,and_true]at this;obtain⟨rfl,rfl⟩:=this;exact h5 k s hk
theorem SlN.cells{w:World}{ad:Addr}{len cap:Nat}{l:List ByteArray}(h:SlN w (some ad) len cap l):∀ j u,(l.map Value.string)[j]? =some u→w.cell? (ad.add j)=some u:=by
 intro j u hj;rw[List.getElem?_map,Option.map_eq_some_iff]at hj;obtain⟨s,hs,rfl⟩:=hj;have hlt:=(List.getElem?_eq_some_iff.1 hs).1;obtain⟨b,o,e⟩:=h.head (by have:=h.1;omega);cases e;rw[addr_add];exact h.get? j hs
theorem SlN.of_owns{w:World}{base:Nat}{T:TypeId}{v:Value}{n:Nat}{l:List ByteArray}(h:w.ownsRow base T 1 v n (l.map Value.string)):l.length=n∧∃ A cap,v=.slice A n cap∧SlN w A n cap l:=by
 have hl:=h.1;rw[List.length_map]at hl;have hln:l.length=n:=by omega
 refine⟨hln,?_⟩;rcases h.2 with⟨hv,h0⟩ | ⟨g,cap,cur,hv,hb,hh,hc,hm,hs,ht⟩
 · subst h0;have : l=[]:=List.length_eq_zero_iff.1 hln;subst this;exact⟨none,0,hv,rfl,Nat.le_refl _,by omega,0,0,fun h=>by omega,fun k e h=>by simp at h⟩
 · refine⟨_,cap,hv,hln,hc,by unfold maxLen at hm;exact hm,g,0,fun _=>rfl,fun k s hk=>?_⟩;have hcell:=h.cells (g:=g) (by rw[hv];rfl) k (.string s) (by rw[List.getElem?_map,hk];rfl);rw[addr_add]at hcell;exact hcell
theorem SlN.nil(w:World)(cap:Nat)(h:cap≤9223372036854775807)(A:Option Addr):SlN w A 0 cap []:=⟨rfl,Nat.zero_le _,h,0,0,fun h=>by omega,fun k e h=>by simp at h⟩
theorem strs_one(l:List ByteArray):∀ u∈l.map Value.string,u.oneCell'=true:=by
 intro u h;obtain⟨s,_,rfl⟩:=List.mem_map.1 h;rfl
def RetRow(T:TypeId)(size n:Nat)(vs:List Value)(w:World)(e:Ending)(w':World):Prop:=∃ v,e=.returned v∧w'.ownsRow w.heap.size T size v n vs∧Below w.heap.size w w'
theorem nat_info:(Tryz.prog.info? 22).map (fun i=>(i.zero,i.size,i.bytes))=some (some (.string ⟨#[]⟩),1,16):=by kernel_rfl
theorem below_dN{B:Nat}{w0 w:World}(h:Below B w0 w)(q:Nat):Below B w0 (w.drewN q):=h.trans ⟨rfl,rfl,rfl,Nat.le_refl _,fun _ _=>rfl⟩
theorem sln_alloc(w:World)(l:List ByteArray)(T:TypeId)(h:l.length≤9223372036854775807:=by decide):SlN (w.alloc (.cells (l.map Value.string).toArray T)) (some ⟨w.heap.size,0,none⟩) l.length l.length l:=by
 refine⟨rfl,Nat.le_refl _,h,w.heap.size,0,fun _=>rfl,fun k s hk=>?_⟩;rw[World.cell?_alloc_at (hn:=rfl),Nat.zero_add];simp[hk]
theorem own_alloc(w:World)(l:List ByteArray)(T:TypeId)(B:Nat)(hB:B≤w.heap.size)(h:l.length≤maxLen):(w.alloc (.cells (l.map Value.string).toArray T)).ownsRow B T 1 (.slice (some ⟨w.heap.size,0,none⟩) l.length l.length) l.length (l.map Value.string):=
 ⟨by simp,.inr ⟨w.heap.size,l.length,_,rfl,hB,heap_alloc_new w _,Nat.le_refl _,h,by simp,by rw[Nat.mul_one];exact List.take_of_length_le (by simp)⟩⟩
def RetB(B:Nat)(v:Value)(w:World)(e:Ending)(w':World):Prop:=e=.returned v∧Below B w w'
end Go.Proofs.YtamhonjkgkmdbaaGreat

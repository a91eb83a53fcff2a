import Derived.Test.YtdhnkmbjogmmkaaGreatDoorRows
import Derived.Test.YtdhnkmbjogmmkaaGreatDoorQNum2
import Derived.Test.YtdhnkmbjogmmkaaGreatDoorQShelf
import Derived.BigQuiet
set_option linter.unusedVariables false
namespace Go.Proofs.YtdhnkmbjogmmkaaGreatDoor
set_option maxRecDepth 100000
set_option maxHeartbeats 400000
open Go.RowKit
theorem nat_Valid(a:ByteArray)(h:a.size≤9223372036854775807)(w:World) :
 Calls Tryz.prog 24 #[.string a] w (RetQ (.bool (nvalid a)) w):=by
 by_cases h1:a.size≤128
 · by_cases h2:a.size=0
   · rw[nvalid_nil h2];go_enter Tryz.func24,Tryz.ntmps24;go_wp2;go_ret;exact⟨rfl,rfl⟩
   · have h3:0<a.size:=by omega
     have h4:((a.size:Int)==0)=false:=beq_eq_false_iff_ne.2 (by omega);rw[nvalid_some h1 h3];go_enter Tryz.func24,Tryz.ntmps24;go_wp2;go_ret;exact⟨rfl,rfl⟩
 · rw[nvalid_long h1];go_enter Tryz.func24,Tryz.ntmps24;go_wp2;go_ret;exact⟨rfl,rfl⟩
theorem r01_Valid(a:ByteArray)(h:a.size≤9223372036854775807)(w:World) :
 Calls Tryz.prog 36 #[.string a] w (RetQ (.bool (nvalid a)) w):=by
 by_cases h1:a.size≤128
 · by_cases h2:a.size=0
   · rw[nvalid_nil h2];have h3:=sempty_true h2;go_enter Tryz.func36,Tryz.ntmps36;go_wp2;go_ret;exact⟨rfl,rfl⟩
   · have h3:0<a.size:=by omega
     have h4:=sempty_false h3;rw[nvalid_some h1 h3];go_enter Tryz.func36,Tryz.ntmps36;go_wp2;go_ret;exact⟨rfl,rfl⟩
 · rw[nvalid_long h1];go_enter Tryz.func36,Tryz.ntmps36;go_wp2;go_ret;exact⟨rfl,rfl⟩
def TrRel(w:World)(bs:List UInt8)(v:Value):Prop:=∃ A len cap bs',v=.slice A len cap∧BytesAt w A len cap bs'∧trimZ bs'=trimZ bs
theorem nat_trimmed(A:Option Addr)(len cap:Nat)(bs:List UInt8)(w:World)(h:BytesAt w A len cap bs) :
 Calls Tryz.prog 90 #[.slice A len cap] w (RetQ (.string (bstr (trimZ bs))) w):=by
 go_enter Tryz.func90,Tryz.ntmps90;go_wp2
 go_loop [0] (fun v=>TrRel w bs v) (fun v=>sliceLen v)
 case atStart=>exact⟨A,len,cap,bs,rfl,h,rfl⟩
 case round =>
  clear h;obtain⟨A',len',cap',bs',rfl,hB,hd⟩:=hrel;have HD:=Hq hd;clear hd;have hconv:=BytesAt.conv hB 97 22 5 Tryz.underlying97 Tryz.underlying5 Tryz.underlying22;by_cases h0:0<len'
  · obtain⟨b,o,rfl,hcel⟩:=hB.2.2.2 h0;have hl:=hB.1;have hcap:len'≤cap':=hB.2.1;have hm:cap'≤9223372036854775807:=hB.2.2.1;have hT:=hB.tail h0;have HB:=Hq hT;have hc0:=hcel 0 h0;simp only[Nat.add_zero]at hc0;clear hcel hT hB;by_cases hz:byteI bs' 0=0
    · have hr:trimZ (bs'.drop 1)=trimZ bs:=by rw[←HD.out,trimZ_zero (by omega) hz]
      have HL:=Hq hl;have HR:=Hq hr;have hz2:(byteI bs' 0==0)=true:=beq_iff_eq.2 hz;clear hl hr hconv hz;go_wp2;exact⟨⟨_,_,_,_,rfl,HB.out,HR.out⟩,by show len' - 1<len';omega⟩
    · have hz2:(byteI bs' 0==0)=false:=beq_eq_false_iff_ne.2 hz;have hr:trimZ bs=bs':=by rw[←HD.out];exact trimZ_stop (.inr hz)
      have HL:=Hq hl;have HR:=Hq hr;clear hl hr hz;go_wp2;go_ret;rw[HR.out];exact⟨rfl,rfl⟩
  · have h00:len'=0:=by omega
    subst h00;have hl:=hB.1;have hr:trimZ bs=bs':=by rw[←HD.out];exact trimZ_stop (.inl hl)
    have HR:=Hq hr;clear hr hl hB h0;go_wp2;go_ret;rw[HR.out];exact⟨rfl,rfl⟩
set_option maxRecDepth 100000
set_option maxHeartbeats 400000
theorem r01_trim(A:Option Addr)(len cap:Nat)(bs:List UInt8)(w:World)(h:BytesAt w A len cap bs) :
 Calls Tryz.prog 71 #[.slice A len cap] w (RetQ (.string (bstr (trimZ bs))) w):=by
 have hl:=h.1;have hcap:len≤cap:=h.2.1;have hm:cap≤9223372036854775807:=h.2.2.1;by_cases h0:0<len
 · obtain⟨b,o,rfl,hcel⟩:=h.2.2.2 h0;have HL:=Hq hl;have HB:=Hq h;have HC:=Hq hcel;clear hcel hl h;go_enter Tryz.func71,Tryz.ntmps71;go_wp2
   go_loop [3] (fun v=>∃ k:Nat,k≤len∧v=.int .i64 k∧trimZ (bs.drop k)=trimZ bs) (fun v=>len - (intOf v).toNat)
   case atStart=>exact⟨0,Nat.zero_le _,rfl,rfl⟩
   case round =>
    obtain⟨k,hk,rfl,hd⟩:=hrel;have HD:=Hq hd;clear hd;by_cases hlt:k<len
    · have hc0:=HC.out k hlt;by_cases hz:byteI bs k=0
      · have hz2:(byteI bs k==0)=true:=beq_iff_eq.2 hz;have HZ:=Hq hz;clear hz;go_wp2;go_round;case rel=>exact⟨k+1,by omega,by go_num,by rw[←HD.out];exact(trimZ_drop (by rw[HL.out];exact hlt) HZ.out).symm⟩
        case measure=>simp[intOf];omega
      · have hz2:(byteI bs k==0)=false:=beq_eq_false_iff_ne.2 hz;have hr:bs.drop k=trimZ bs:=by rw[←HD.out];exact(trimZ_stop (.inr (by rw[byteI_drop];exact hz))).symm
        have hconv:=BytesAt.conv (HB.out.from k hk) 97 22 5 Tryz.underlying97 Tryz.underlying5 Tryz.underlying22;rw[hr]at hconv;have HR:=Hq hr;have hne:¬ cap=k:=by omega
        rw[if_neg hne]at hconv;clear hz hr;go_wp2;go_ret;exact⟨rfl,rfl⟩
    · obtain rfl:k=len:=by omega
      have hr:bs.drop k=trimZ bs:=by rw[←HD.out];exact(trimZ_stop (.inl (by simp[HL.out]))).symm
      have hconv:=BytesAt.conv (HB.out.from k hk) 97 22 5 Tryz.underlying97 Tryz.underlying5 Tryz.underlying22;rw[hr]at hconv;clear hr;rw[Nat.sub_self]at hconv;by_cases hck:cap=k
      · rw[if_pos hck]at hconv;subst hck;rw[Nat.sub_self]at hconv;go_wp2;go_ret;exact⟨rfl,rfl⟩
      · rw[if_neg hck]at hconv;go_wp2;go_ret;exact⟨rfl,rfl⟩
 · have h00:len=0:=by omega
   subst h00;have hb:trimZ bs=bs:=trimZ_stop (.inl hl);rw[hb];have hconv:=BytesAt.conv h 97 22 5 Tryz.underlying97 Tryz.underlying5 Tryz.underlying22;clear hb h hl h0;go_enter Tryz.func71,Tryz.ntmps71;go_wp2;refine wp_loop_rounds 1 ?_;rw[rounds_succ];go_wp2;go_ret;exact⟨rfl,rfl⟩
theorem nat_Of(n:Nat)(hn:n<18446744073709551616)(w:World) :
 Calls Tryz.prog 49 #[.int .u64 n] w (Ret (.string (bstr (encN n))) w):=by
 have HN:=Hq hn;clear hn;go_enter Tryz.func49,Tryz.ntmps49;go_wp2;refine wp_loop_rounds 9 ?_;iterate 9 (rw[rounds_succ];go_wp2_with fail)
 refine(nat_trimmed (some ⟨w.heap.size,0,none⟩) 8 8 (be8 n) _ (be8_at w n _)).mono ?_;rintro e w1 ⟨rfl,rfl⟩;rw[be8_trim n HN.out];go_wp2;go_ret;exact⟨rfl,(blr).alloc nlr _⟩
theorem r01_Of(n:Nat)(hn:n<18446744073709551616)(w:World) :
 Calls Tryz.prog 59 #[.int .u64 n] w (Ret (.string (bstr (encN n))) w):=by
 have HN:=Hq hn;have hn2:(n:Int)≤18446744073709551615:=by omega
 clear hn;have hmk:∀ w,(Instr.makeSlice 97 (.int .i64 8) (.int .i64 8)).run Tryz.prog w=.ok (.slice (some ⟨w.heap.size,0,none⟩) 8 8) (w.alloc (.cells #[.int .u8 0,.int .u8 0,.int .u8 0,.int .u8 0,.int .u8 0,.int .u8 0,.int .u8 0,.int .u8 0] 5)):=fun _=>by kernel_rfl
 go_enter Tryz.func59,Tryz.ntmps59;go_wp2;refine wp_loop_rounds 9 ?_;iterate 9 (rw[rounds_succ];go_wp2_with fail)
 refine(r01_trim (some ⟨w.heap.size,0,none⟩) 8 8 (be8 n) _ (be8_at2 w n _)).mono ?_;rintro e w1 ⟨rfl,rfl⟩;rw[be8_trim n HN.out];go_wp2;go_ret;exact⟨rfl,(blr).alloc nlr _⟩
set_option maxRecDepth 100000
set_option maxHeartbeats 400000
theorem compareBytes_ord{l m:List UInt8}(h:l.length=m.length):Lib.compareBytes l m=cmpI (bnat l) (bnat m):=by
 induction l generalizing m with
 | nil=>cases m with
  | nil=>rfl
  | cons y m=>simp at h
 | cons x l ih=>cases m with
  | nil=>simp at h
  | cons y m =>
   have hl:l.length=m.length:=by simpa using h
   unfold Lib.compareBytes;by_cases h1:x<y
   · have:=bnat_lt_first (p:=[]) (a:=l) (b:=m) hl (UInt8.lt_iff_toNat_lt.1 h1);rw[List.nil_append,List.nil_append]at this;rw[if_pos h1,cmpI_lt this]
   · rw[if_neg h1];by_cases h2:y<x
     · have:=bnat_lt_first (p:=[]) (a:=m) (b:=l) hl.symm (UInt8.lt_iff_toNat_lt.1 h2);rw[List.nil_append,List.nil_append]at this;rw[if_pos h2,cmpI_gt this]
     · rw[if_neg h2,ih hl];have : x=y:=by
        apply UInt8.toNat_inj.1;rw[UInt8.lt_iff_toNat_lt]at h1 h2;omega
       subst this;rw[bnat_cons,bnat_cons,hl];unfold cmpI;simp
def ordB(a b:ByteArray):Int:=ordL a.data.toList b.data.toList
theorem ordB_ne{a b:ByteArray}(h:a.size≠b.size):ordB a b=Lib.compareInt a.size b.size:=by
 unfold ordB ordL Lib.compareInt;rw[data_len,data_len];by_cases h1:a.size<b.size
 · rw[if_pos h1,if_pos (by omega)]
 · rw[if_neg h1,if_pos (by omega),if_neg (by omega),if_pos (by omega)]
theorem ordB_eq{a b:ByteArray}(h:a.size=b.size):ordB a b=Lib.compareBytes a.data.toList b.data.toList:=by
 unfold ordB ordL;rw[data_len,data_len,if_neg (by omega),if_neg (by omega),compareBytes_ord (by rw[data_len,data_len,h])]
theorem compareInt_ne{x y:Int}(h:x≠y):(Lib.compareInt x y != 0)=true:=by
 unfold Lib.compareInt;split
 · rfl
 · rw[if_pos (by omega)];rfl
theorem nat_compare(a b:ByteArray)(ha:a.size≤9223372036854775807)(hb:b.size≤9223372036854775807)(w:World) :
 Calls Tryz.prog 48 #[.string a,.string b] w (RetQ (.int .i64 (ordB a b)) w):=by
 by_cases h:a.size=b.size
 · have H:=Hq h;rw[ordB_eq h];have hc:Lib.compareInt a.size b.size=0:=by unfold Lib.compareInt;rw[h];simp
   have HC:=Hq hc;clear h hc;go_enter Tryz.func48,Tryz.ntmps48;go_wp2_with fail;refine(Tryz.cmp_Compare_int _ _ _).mono ?_;rintro e w1 ⟨rfl,rfl⟩;rw[HC.out];go_wp2_with fail;refine(Tryz.strings_Compare _ _ _).mono ?_;rintro e w1 ⟨rfl,rfl⟩;go_wp2;go_ret;exact⟨rfl,rfl⟩
 · rw[ordB_ne h];have hc:=compareInt_ne (x:=a.size) (y:=b.size) (by omega);clear h;go_enter Tryz.func48,Tryz.ntmps48;go_wp2_with fail;refine(Tryz.cmp_Compare_int _ _ _).mono ?_;rintro e w1 ⟨rfl,rfl⟩;go_wp2;go_ret;exact⟨rfl,rfl⟩
def ncmp(a b:ByteArray):Int:=if nvalid a&&nvalid b then ordB a b else 0
theorem nat_Cmp(a b:ByteArray)(ha:a.size≤9223372036854775807)(hb:b.size≤9223372036854775807)(w:World) :
 Calls Tryz.prog 31 #[.string a,.string b] w (RetQ (.int .i64 (ncmp a b)) w):=by
 cases h1:nvalid a with
 | false =>
  have hn:ncmp a b=0:=by simp[ncmp,h1]
  rw[hn];have H1:=Hq h1;clear h1 hn;go_enter Tryz.func31,Tryz.ntmps31;go_wp2_with fail;refine(nat_Valid _ ha _).mono ?_;rintro e w1 ⟨rfl,rfl⟩;rw[H1.out];go_wp2;go_ret;exact⟨rfl,rfl⟩
 | true=>cases h2:nvalid b with
  | false =>
   have hn:ncmp a b=0:=by simp[ncmp,h2]
   rw[hn];have H1:=Hq h1;have H2:=Hq h2;clear h1 h2 hn;go_enter Tryz.func31,Tryz.ntmps31;go_wp2_with fail;refine(nat_Valid _ ha _).mono ?_;rintro e w1 ⟨rfl,rfl⟩;rw[H1.out];go_wp2_with fail;refine(nat_Valid _ hb _).mono ?_;rintro e w1 ⟨rfl,rfl⟩;rw[H2.out];go_wp2;go_ret;exact⟨rfl,rfl⟩
  | true =>
   have hn:ncmp a b=ordB a b:=by simp[ncmp,h1,h2]
   rw[hn];have H1:=Hq h1;have H2:=Hq h2;clear h1 h2 hn;go_enter Tryz.func31,Tryz.ntmps31;go_wp2_with fail;refine(nat_Valid _ ha _).mono ?_;rintro e w1 ⟨rfl,rfl⟩;rw[H1.out];go_wp2_with fail;refine(nat_Valid _ hb _).mono ?_;rintro e w1 ⟨rfl,rfl⟩;rw[H2.out];go_wp2_with fail;refine(nat_compare _ _ ha hb _).mono ?_;rintro e w1 ⟨rfl,rfl⟩;go_wp2;go_ret;exact⟨rfl,rfl⟩
theorem take_step{l m:List UInt8}{k:Nat}(hl:l.length=m.length)(h:l.take k=m.take k)(hk:k<l.length)(he:l.getD k 0=m.getD k 0):l.take (k+1)=m.take (k+1):=by
 rw[List.take_succ_eq_append_getElem hk,List.take_succ_eq_append_getElem (by omega),h];have e:l[k]=m[k]:=by
  rw[List.getD_eq_getElem?_getD,List.getD_eq_getElem?_getD,List.getElem?_eq_getElem hk,List.getElem?_eq_getElem (by omega)]at he;exact he
 rw[e]
theorem r01_Order(a b:ByteArray)(ha:a.size≤9223372036854775807)(hb:b.size≤9223372036854775807)(w:World) :
 Calls Tryz.prog 70 #[.string a,.string b] w (Ret (.int .i64 (ordB a b)) w):=by
 by_cases h:a.size=b.size
 · have hl:a.data.toList.length=b.data.toList.length:=by rw[data_len,data_len,h]
   have HL:=Hq hl;have H:=Hq h;have hne:((a.size:Int) != (b.size:Int))=false:=by rw[h];simp
   have h1:a.size≤b.size:=by omega
   have h2:b.size≤a.size:=by omega
   clear h hl;go_enter Tryz.func70,Tryz.ntmps70;go_wp2;go_loopw [5] (fun i wr=>∃ k:Nat,k≤a.size∧i=.int .i64 k∧a.data.toList.take k=b.data.toList.take k∧Below w.heap.size w wr) (fun i _=>a.size - (intOf i).toNat);case atStart=>exact⟨0,Nat.zero_le _,rfl,rfl,Below.refl _ _⟩
   case round =>
    obtain⟨k,hk,rfl,he,hB⟩:=hrel;have HE:=Hq he;have HB:=Hq hB;clear he hB;by_cases hlt:k<a.size
    · have hlt2:k<b.size:=by omega
      by_cases hx:(a[k].toNat:Int)=b[k].toNat
      · have hx2:((a[k].toNat:Int) != b[k].toNat)=false:=by rw[hx];simp
        have HX:=Hq hx;clear hx;go_wp2
        go_quiet (fail)
        go_wp2;go_roundw;case rel=>exact⟨k+1,by omega,by go_num,take_step HL.out HE.out (by rw[data_len];exact hlt) (by rw[data_getD _ _ hlt,data_getD _ _ hlt2];exact UInt8.toNat_inj.1 (by have:=HX.out;omega)),below_drewN HB.out _⟩
        case measure=>simp[intOf];omega
      · have hx2:((a[k].toNat:Int) != b[k].toNat)=true:=by rw[bne_iff_ne];exact hx
        by_cases hy:(a[k].toNat:Int)<b[k].toNat
        · have hr:=(ordL_first (k:=k) HL.out (by rw[data_len];exact hlt) HE.out (by rw[data_getD _ _ hlt,data_getD _ _ hlt2];omega)).1;have hn:ordB a b = -1:=hr;rw[hn];clear hr hn hx;go_wp2
          go_quiet (fail)
          go_wp2
          go_quiet (fail)
          go_wp2;go_ret;exact⟨rfl,below_drewN (below_drewN HB.out _) _⟩
        · have hr:=(ordL_first (k:=k) HL.out.symm (by rw[data_len];exact hlt2) HE.out.symm (by rw[data_getD _ _ hlt,data_getD _ _ hlt2];omega)).2;have hn:ordB a b=1:=hr;rw[hn];clear hr hn hx;go_wp2
          go_quiet (fail)
          go_wp2
          go_quiet (fail)
          go_wp2;go_ret;exact⟨rfl,below_drewN (below_drewN HB.out _) _⟩
    · obtain rfl:k=a.size:=by omega
      have hr:ordB a b=0:=ordL_same (by
       have:=HE.out;rw[List.take_of_length_le (by rw[data_len];omega),List.take_of_length_le (by rw[data_len];omega)]at this
       exact this)
      have HR:=Hq hr;clear hr;go_wp2;go_ret;exact⟨by rw[HR.out];rfl,HB.out⟩
 · by_cases h2:a.size<b.size
   · have hn:ordB a b = -1:=by rw[ordB_ne h];unfold Lib.compareInt;rw[if_pos (by omega)]
     rw[hn];have hne:((a.size:Int) != (b.size:Int))=true:=by rw[bne_iff_ne];omega
     clear hn h;go_enter Tryz.func70,Tryz.ntmps70;go_wp2;go_ret;exact⟨rfl,Below.refl _ _⟩
   · have hn:ordB a b=1:=by rw[ordB_ne h];unfold Lib.compareInt;rw[if_neg (by omega),if_pos (by omega)]
     rw[hn];have hne:((a.size:Int) != (b.size:Int))=true:=by rw[bne_iff_ne];omega
     clear hn h;go_enter Tryz.func70,Tryz.ntmps70;go_wp2;go_ret;exact⟨rfl,Below.refl _ _⟩
end Go.Proofs.YtdhnkmbjogmmkaaGreatDoor

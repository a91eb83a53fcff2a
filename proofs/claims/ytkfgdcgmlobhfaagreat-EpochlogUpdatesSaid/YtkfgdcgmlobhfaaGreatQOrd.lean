import Derived.Test.YtkfgdcgmlobhfaaGreatQLib
import Derived.Test.YtkfgdcgmlobhfaaGreatRows
import Derived.Test.YtkfgdcgmlobhfaaGreatQShelf
import Derived.BigQuiet
set_option linter.unusedVariables false
set_option linter.unusedSimpArgs false
namespace Go.Proofs.YtkfgdcgmlobhfaaGreat
def nS(n:Nat):ByteArray:=bstr (encN n)
def num(s:ByteArray):Nat:=bnat s.data.toList
theorem zah(n:Nat):(nS n).data.toList=encN n:=zae _
theorem kr(n:Nat):(nS n).size=(encN n).length:=jo _
theorem qc(n:Nat):num (nS n)=n:=by unfold num;rw[zah,xi]
theorem zf{n k:Nat}:(nS n).size≤k↔n<256 ^ k:=by rw[kr,xw]
theorem zhb{s:ByteArray}(h:zd s=true):zad s.data.toList:=by
 unfold zd at h;simp only[Bool.and_eq_true,Bool.not_eq_true',beq_eq_false_iff_ne]at h;exact h.2
theorem zj{n:Nat}:zd (nS n)=true↔n<256 ^ 128:=by
 unfold zd;rw[zah,Bool.and_eq_true,decide_eq_true_eq,zf];constructor
 · exact fun h=>h.1
 · intro h;refine⟨h,?_⟩;have:=kz n;unfold zad at this;simpa using this
theorem jm{s:ByteArray}(h:zd s=true):s=nS (num s):=by
 unfold nS num;rw[zch (zhb h),za3]
theorem ze7{s:ByteArray}(h:s.size≤128):num s<256 ^ 128:=by
 have h1:=zan s.data.toList;rw[ji]at h1;exact Nat.lt_of_lt_of_le h1 (Nat.pow_le_pow_right (by omega) h)
theorem qd(s:ByteArray):num s<256 ^ s.size:=by
 have h1:=zan s.data.toList;rw[ji]at h1;exact h1
theorem jr{s:ByteArray}(h:s.size≤8):num s<18446744073709551616:=by
 have h1:=qd s;exact Nat.lt_of_lt_of_le h1 (Nat.le_trans (Nat.pow_le_pow_right (by omega) h) (by decide))
theorem xo:nS 0=⟨#[]⟩:=rfl
theorem zhh:nS 1=⟨#[1]⟩:=rfl
theorem zo{n:Nat}(h:n<18446744073709551616):(nS n).size≤8:=zf.2 (by rw[show (256:Nat) ^ 8=18446744073709551616 from by decide];exact h)
theorem zay{n:Nat}:(nS n).size=0↔n=0:=by
 rw[kr,List.length_eq_zero_iff,zea]
def dig(n i:Nat):Nat:=n / 256 ^ i%256
theorem xk(n i:Nat):dig n i<256:=Nat.mod_lt _ (by omega)
theorem zj2:∀(i:Nat) (l:List UInt8),dig (bnat l) i=if h:i<l.length then(l[l.length - 1 - i]'(by omega)).toNat else 0:=by
 intro i
 induction i with
 | zero =>
  intro l;rcases List.eq_nil_or_concat l with rfl | ⟨l,x,rfl⟩
  · simp[dig,bnat]
  · rw[List.concat_eq_append];unfold dig;rw[za4,Nat.pow_zero,Nat.div_one,dif_pos (by simp)];have:=x.toNat_lt;simp only[List.length_append,List.length_singleton,Nat.add_sub_cancel,Nat.sub_zero];rw[List.getElem_append_right (by omega)];simp
 | succ i ih =>
  intro l;rcases List.eq_nil_or_concat l with rfl | ⟨l,x,rfl⟩
  · simp[dig,bnat]
  · rw[List.concat_eq_append];have hi:=ih l;unfold dig at *;have hx:=x.toNat_lt;rw[za4,Nat.pow_succ,Nat.mul_comm (256 ^ i),←Nat.div_div_eq_div_mul,show (bnat l * 256+x.toNat) / 256=bnat l from by omega,hi];by_cases h:i<l.length
    · rw[dif_pos h,dif_pos (by simp;omega)];congr 1;simp only[List.length_append,List.length_singleton];rw[List.getElem_append_left (by omega)];congr 1;omega
    · rw[dif_neg h,dif_neg (by simp;omega)]
theorem zoq(n i:Nat)(h:i<(encN n).length):((encN n)[(encN n).length - 1 - i]'(by omega)).toNat=dig n i:=by
 have:=zj2 i (encN n);rw[xi,dif_pos h]at this;exact this.symm
theorem za9{n i:Nat}(h:(encN n).length≤i):dig n i=0:=by
 have:=zj2 i (encN n);rw[xi,dif_neg (by omega)]at this;exact this
theorem zjr(n i:Nat):n / 256 ^ (i+1)=n / 256 ^ i / 256:=by rw[Nat.pow_succ,Nat.div_div_eq_div_mul]
def beN(n v:Nat):List UInt8:=(List.range n).map fun k=>UInt8.ofNat (v / 256 ^ (n - 1 - k)%256)
theorem k9(n v:Nat):(beN n v).length=n:=by simp[beN]
theorem zgq(n v k:Nat)(h:k<n):(beN n v)[k]? =some (UInt8.ofNat (v / 256 ^ (n - 1 - k)%256)):=by
 unfold beN;rw[List.getElem?_map,List.getElem?_range h];rfl
theorem zow(n v:Nat):beN (n+1) v=beN n (v / 256)++[UInt8.ofNat (v%256)]:=by
 apply List.ext_getElem?;intro k;by_cases h:k<n
 · rw[zgq _ _ _ (by omega),List.getElem?_append_left (by rw[k9];exact h),zgq _ _ _ h];congr 2;rw[show n+1 - 1 - k=(n - 1 - k)+1 from by omega,Nat.pow_succ,Nat.mul_comm (256 ^ (n - 1 - k)),←Nat.div_div_eq_div_mul]
 · by_cases h2:k=n
   · subst h2;rw[zgq _ _ _ (by omega),List.getElem?_append_right (by rw[k9];exact Nat.le_refl _),k9];simp
   · rw[List.getElem?_eq_none (by rw[k9];omega),List.getElem?_eq_none (by rw[List.length_append,k9];simp;omega)]
theorem zj3:∀(n v:Nat),bnat (beN n v)=v%256 ^ n
 | 0,v=>by simp[beN,bnat,Nat.mod_one]
 | n+1,v=>by
  rw[zow,za4,zj3 n,yz,Nat.pow_succ,Nat.mul_comm (256 ^ n) 256,Nat.mod_mul,Nat.mul_comm];omega
theorem ko{n v:Nat}(h:v<256 ^ n):kd (beN n v)=encN v:=by rw[ziz,zj3,Nat.mod_eq_of_lt h]
theorem zj8{a b c i:Nat}(h:(a+b) / 256 ^ i=a / 256 ^ i+b / 256 ^ i+c):(a+b) / 256 ^ (i+1)=a / 256 ^ (i+1)+b / 256 ^ (i+1)+(dig a i+dig b i+c) / 256∧dig (a+b) i=(dig a i+dig b i+c)%256:=by
 simp only[zjr,dig,h];omega
theorem zi3{a b c i:Nat}(hab:b≤a)(h:a / 256 ^ i=b / 256 ^ i+(a - b) / 256 ^ i+c)(hc:c≤1) :
 (dig b i+c≤dig a i→dig (a - b) i=dig a i - dig b i - c∧a / 256 ^ (i+1)=b / 256 ^ (i+1)+(a - b) / 256 ^ (i+1)+0) ∧
 (dig a i<dig b i+c→dig (a - b) i=dig a i+256 - dig b i - c∧a / 256 ^ (i+1)=b / 256 ^ (i+1)+(a - b) / 256 ^ (i+1)+1):=by
 simp only[zjr,dig]at *;generalize (a - b) / 256 ^ i=d at *;generalize b / 256 ^ i=y at *;rw[h];constructor<;>intro h1<;>omega
set_option maxRecDepth 100000
set_option maxHeartbeats 400000
open Go.RowKit
theorem zn(a:ByteArray)(h:a.size≤9223372036854775807)(w:World) :
 Calls Tryz.prog 13 #[.string a] w (RetQ (.bool (zd a)) w):=by
 by_cases h1:a.size≤128
 · by_cases h2:a.size=0
   · rw[zcq h2];go_enter Tryz.func13,Tryz.ntmps13;go_wp2;go_ret;exact⟨rfl,rfl⟩
   · have h3:0<a.size:=by omega
     have h4:((a.size:Int)==0)=false:=beq_eq_false_iff_ne.2 (by omega);rw[zbm h1 h3];go_enter Tryz.func13,Tryz.ntmps13;go_wp2;go_ret;exact⟨rfl,rfl⟩
 · rw[zbn h1];go_enter Tryz.func13,Tryz.ntmps13;go_wp2;go_ret;exact⟨rfl,rfl⟩
theorem zu(a:ByteArray)(h:a.size≤9223372036854775807)(w:World) :
 Calls Tryz.prog 17 #[.string a] w (RetQ (.bool (zd a)) w):=by
 by_cases h1:a.size≤128
 · by_cases h2:a.size=0
   · rw[zcq h2];have h3:=jf h2;go_enter Tryz.func17,Tryz.ntmps17;go_wp2;go_ret;exact⟨rfl,rfl⟩
   · have h3:0<a.size:=by omega
     have h4:=xz h3;rw[zbm h1 h3];go_enter Tryz.func17,Tryz.ntmps17;go_wp2;go_ret;exact⟨rfl,rfl⟩
 · rw[zbn h1];go_enter Tryz.func17,Tryz.ntmps17;go_wp2;go_ret;exact⟨rfl,rfl⟩
def zs7(w:World)(bs:List UInt8)(v:Value):Prop:=∃ A len cap bs',v=.slice A len cap∧BytesAt w A len cap bs'∧kd bs'=kd bs
theorem ki(A:Option Addr)(len cap:Nat)(bs:List UInt8)(w:World)(h:BytesAt w A len cap bs) :
 Calls Tryz.prog 90 #[.slice A len cap] w (RetQ (.string (bstr (kd bs))) w):=by
 go_enter Tryz.func90,Tryz.ntmps90;go_wp2
 go_loop [0] (fun v=>zs7 w bs v) (fun v=>znk v)
 case atStart=>exact⟨A,len,cap,bs,rfl,h,rfl⟩
 case round =>
  clear h;obtain⟨A',len',cap',bs',rfl,hB,hd⟩:=hrel;have HD:=Hq hd;clear hd;have hconv:=BytesAt.conv hB 140 22 5 Tryz.underlying140 Tryz.underlying5 Tryz.underlying22;by_cases h0:0<len'
  · obtain⟨b,o,rfl,hcel⟩:=hB.2.2.2 h0;have hl:=hB.1;have hcap:len'≤cap':=hB.2.1;have hm:cap'≤9223372036854775807:=hB.2.2.1;have hT:=hB.tail h0;have HB:=Hq hT;have hc0:=hcel 0 h0;simp only[Nat.add_zero]at hc0;clear hcel hT hB;by_cases hz:zal bs' 0=0
    · have hr:kd (bs'.drop 1)=kd bs:=by rw[←HD.out,zex (by omega) hz]
      have HL:=Hq hl;have HR:=Hq hr;have hz2:(zal bs' 0==0)=true:=beq_iff_eq.2 hz;clear hl hr hconv hz;go_wp2;exact⟨⟨_,_,_,_,rfl,HB.out,HR.out⟩,by show len' - 1<len';omega⟩
    · have hz2:(zal bs' 0==0)=false:=beq_eq_false_iff_ne.2 hz;have hr:kd bs=bs':=by rw[←HD.out];exact qv (.inr hz)
      have HL:=Hq hl;have HR:=Hq hr;clear hl hr hz;go_wp2;go_ret;rw[HR.out];exact⟨rfl,rfl⟩
  · have h00:len'=0:=by omega
    subst h00;have hl:=hB.1;have hr:kd bs=bs':=by rw[←HD.out];exact qv (.inl hl)
    have HR:=Hq hr;clear hr hl hB h0;go_wp2;go_ret;rw[HR.out];exact⟨rfl,rfl⟩
set_option maxRecDepth 100000
set_option maxHeartbeats 400000
theorem za5(A:Option Addr)(len cap:Nat)(bs:List UInt8)(w:World)(h:BytesAt w A len cap bs) :
 Calls Tryz.prog 120 #[.slice A len cap] w (RetQ (.string (bstr (kd bs))) w):=by
 have hl:=h.1;have hcap:len≤cap:=h.2.1;have hm:cap≤9223372036854775807:=h.2.2.1;by_cases h0:0<len
 · obtain⟨b,o,rfl,hcel⟩:=h.2.2.2 h0;have HL:=Hq hl;have HB:=Hq h;have HC:=Hq hcel;clear hcel hl h;go_enter Tryz.func120,Tryz.ntmps120;go_wp2
   go_loop [3] (fun v=>∃ k:Nat,k≤len∧v=.int .i64 k∧kd (bs.drop k)=kd bs) (fun v=>len - (intOf v).toNat)
   case atStart=>exact⟨0,Nat.zero_le _,rfl,rfl⟩
   case round =>
    obtain⟨k,hk,rfl,hd⟩:=hrel;have HD:=Hq hd;clear hd;by_cases hlt:k<len
    · have hc0:=HC.out k hlt;by_cases hz:zal bs k=0
      · have hz2:(zal bs k==0)=true:=beq_iff_eq.2 hz;have HZ:=Hq hz;clear hz;go_wp2;go_round;case rel=>exact⟨k+1,by omega,by go_num,by rw[←HD.out];exact(zkd (by rw[HL.out];exact hlt) HZ.out).symm⟩
        case measure=>simp[intOf];omega
      · have hz2:(zal bs k==0)=false:=beq_eq_false_iff_ne.2 hz;have hr:bs.drop k=kd bs:=by rw[←HD.out];exact(qv (.inr (by rw[zfk];exact hz))).symm
        have hconv:=BytesAt.conv (HB.out.from k hk) 140 22 5 Tryz.underlying140 Tryz.underlying5 Tryz.underlying22;rw[hr]at hconv;have HR:=Hq hr;have hne:¬ cap=k:=by omega
        rw[if_neg hne]at hconv;clear hz hr;go_wp2;go_ret;exact⟨rfl,rfl⟩
    · obtain rfl:k=len:=by omega
      have hr:bs.drop k=kd bs:=by rw[←HD.out];exact(qv (.inl (by simp[HL.out]))).symm
      have hconv:=BytesAt.conv (HB.out.from k hk) 140 22 5 Tryz.underlying140 Tryz.underlying5 Tryz.underlying22;rw[hr]at hconv;clear hr;rw[Nat.sub_self]at hconv;by_cases hck:cap=k
      · rw[if_pos hck]at hconv;subst hck;rw[Nat.sub_self]at hconv;go_wp2;go_ret;exact⟨rfl,rfl⟩
      · rw[if_neg hck]at hconv;go_wp2;go_ret;exact⟨rfl,rfl⟩
 · have h00:len=0:=by omega
   subst h00;have hb:kd bs=bs:=qv (.inl hl);rw[hb];have hconv:=BytesAt.conv h 140 22 5 Tryz.underlying140 Tryz.underlying5 Tryz.underlying22;clear hb h hl h0;go_enter Tryz.func120,Tryz.ntmps120;go_wp2;refine wp_loop_rounds 1 ?_;rw[rounds_succ];go_wp2;go_ret;exact⟨rfl,rfl⟩
theorem qe(n:Nat)(hn:n<18446744073709551616)(w:World) :
 Calls Tryz.prog 39 #[.int .u64 n] w (Ret (.string (bstr (encN n))) w):=by
 have HN:=Hq hn;clear hn;go_enter Tryz.func39,Tryz.ntmps39;go_wp2;refine wp_loop_rounds 9 ?_;iterate 9 (rw[rounds_succ];go_wp2_with fail)
 refine(ki (some ⟨w.heap.size,0,none⟩) 8 8 (be8 n) _ (zpu w n _)).mono ?_;rintro e w1 ⟨rfl,rfl⟩;rw[zj7 n HN.out];go_wp2;go_ret;exact⟨rfl,(blr).alloc nlr _⟩
theorem zav(n:Nat)(hn:n<18446744073709551616)(w:World) :
 Calls Tryz.prog 66 #[.int .u64 n] w (Ret (.string (bstr (encN n))) w):=by
 have HN:=Hq hn;have hn2:(n:Int)≤18446744073709551615:=by omega
 clear hn;have hmk:∀ w,(Instr.makeSlice 140 (.int .i64 8) (.int .i64 8)).run Tryz.prog w=.ok (.slice (some ⟨w.heap.size,0,none⟩) 8 8) (w.alloc (.cells #[.int .u8 0,.int .u8 0,.int .u8 0,.int .u8 0,.int .u8 0,.int .u8 0,.int .u8 0,.int .u8 0] 5)):=fun _=>by kernel_rfl
 go_enter Tryz.func66,Tryz.ntmps66;go_wp2;refine wp_loop_rounds 9 ?_;iterate 9 (rw[rounds_succ];go_wp2_with fail)
 refine(za5 (some ⟨w.heap.size,0,none⟩) 8 8 (be8 n) _ (zrf w n _)).mono ?_;rintro e w1 ⟨rfl,rfl⟩;rw[zj7 n HN.out];go_wp2;go_ret;exact⟨rfl,(blr).alloc nlr _⟩
set_option maxRecDepth 100000
set_option maxHeartbeats 400000
theorem zc6{l m:List UInt8}(h:l.length=m.length):Lib.compareBytes l m=cmpI (bnat l) (bnat m):=by
 induction l generalizing m with
 | nil=>cases m with
  | nil=>rfl
  | cons y m=>simp at h
 | cons x l ih=>cases m with
  | nil=>simp at h
  | cons y m =>
   have hl:l.length=m.length:=by simpa using h
   unfold Lib.compareBytes;by_cases h1:x<y
   · have:=zam (p:=[]) (a:=l) (b:=m) hl (UInt8.lt_iff_toNat_lt.1 h1);rw[List.nil_append,List.nil_append]at this;rw[if_pos h1,ks this]
   · rw[if_neg h1];by_cases h2:y<x
     · have:=zam (p:=[]) (a:=m) (b:=l) hl.symm (UInt8.lt_iff_toNat_lt.1 h2);rw[List.nil_append,List.nil_append]at this;rw[if_pos h2,zit this]
     · rw[if_neg h2,ih hl];have : x=y:=by
        apply UInt8.toNat_inj.1;rw[UInt8.lt_iff_toNat_lt]at h1 h2;omega
       subst this;rw[xy,xy,hl];unfold cmpI;simp
def ordB(a b:ByteArray):Int:=ordL a.data.toList b.data.toList
theorem zif{a b:ByteArray}(h:a.size≠b.size):ordB a b=Lib.compareInt a.size b.size:=by
 unfold ordB ordL Lib.compareInt;rw[ji,ji];by_cases h1:a.size<b.size
 · rw[if_pos h1,if_pos (by omega)]
 · rw[if_neg h1,if_pos (by omega),if_neg (by omega),if_pos (by omega)]
theorem zqm{a b:ByteArray}(h:a.size=b.size):ordB a b=Lib.compareBytes a.data.toList b.data.toList:=by
 unfold ordB ordL;rw[ji,ji,if_neg (by omega),if_neg (by omega),zc6 (by rw[ji,ji,h])]
theorem zgo{x y:Int}(h:x≠y):(Lib.compareInt x y != 0)=true:=by
 unfold Lib.compareInt;split
 · rfl
 · rw[if_pos (by omega)];rfl
theorem kj(a b:ByteArray)(ha:a.size≤9223372036854775807)(hb:b.size≤9223372036854775807)(w:World) :
 Calls Tryz.prog 47 #[.string a,.string b] w (RetQ (.int .i64 (ordB a b)) w):=by
 by_cases h:a.size=b.size
 · have H:=Hq h;rw[zqm h];have hc:Lib.compareInt a.size b.size=0:=by unfold Lib.compareInt;rw[h];simp
   have HC:=Hq hc;clear h hc;go_enter Tryz.func47,Tryz.ntmps47;go_wp2_with fail;refine(Tryz.cmp_Compare_int _ _ _).mono ?_;rintro e w1 ⟨rfl,rfl⟩;rw[HC.out];go_wp2_with fail;refine(Tryz.strings_Compare _ _ _).mono ?_;rintro e w1 ⟨rfl,rfl⟩;go_wp2;go_ret;exact⟨rfl,rfl⟩
 · rw[zif h];have hc:=zgo (x:=a.size) (y:=b.size) (by omega);clear h;go_enter Tryz.func47,Tryz.ntmps47;go_wp2_with fail;refine(Tryz.cmp_Compare_int _ _ _).mono ?_;rintro e w1 ⟨rfl,rfl⟩;go_wp2;go_ret;exact⟨rfl,rfl⟩
def ncmp(a b:ByteArray):Int:=if zd a&&zd b then ordB a b else 0
theorem qp(a b:ByteArray)(ha:a.size≤9223372036854775807)(hb:b.size≤9223372036854775807)(w:World) :
 Calls Tryz.prog 24 #[.string a,.string b] w (RetQ (.int .i64 (ncmp a b)) w):=by
 cases h1:zd a with
 | false =>
  have hn:ncmp a b=0:=by simp[ncmp,h1]
  rw[hn];have H1:=Hq h1;clear h1 hn;go_enter Tryz.func24,Tryz.ntmps24;go_wp2_with fail;refine(zn _ ha _).mono ?_;rintro e w1 ⟨rfl,rfl⟩;rw[H1.out];go_wp2;go_ret;exact⟨rfl,rfl⟩
 | true=>cases h2:zd b with
  | false =>
   have hn:ncmp a b=0:=by simp[ncmp,h2]
   rw[hn];have H1:=Hq h1;have H2:=Hq h2;clear h1 h2 hn;go_enter Tryz.func24,Tryz.ntmps24;go_wp2_with fail;refine(zn _ ha _).mono ?_;rintro e w1 ⟨rfl,rfl⟩;rw[H1.out];go_wp2_with fail;refine(zn _ hb _).mono ?_;rintro e w1 ⟨rfl,rfl⟩;rw[H2.out];go_wp2;go_ret;exact⟨rfl,rfl⟩
  | true =>
   have hn:ncmp a b=ordB a b:=by simp[ncmp,h1,h2]
   rw[hn];have H1:=Hq h1;have H2:=Hq h2;clear h1 h2 hn;go_enter Tryz.func24,Tryz.ntmps24;go_wp2_with fail;refine(zn _ ha _).mono ?_;rintro e w1 ⟨rfl,rfl⟩;rw[H1.out];go_wp2_with fail;refine(zn _ hb _).mono ?_;rintro e w1 ⟨rfl,rfl⟩;rw[H2.out];go_wp2_with fail;refine(kj _ _ ha hb _).mono ?_;rintro e w1 ⟨rfl,rfl⟩;go_wp2;go_ret;exact⟨rfl,rfl⟩
theorem zlj{l m:List UInt8}{k:Nat}(hl:l.length=m.length)(h:l.take k=m.take k)(hk:k<l.length)(he:l.getD k 0=m.getD k 0):l.take (k+1)=m.take (k+1):=by
 rw[List.take_succ_eq_append_getElem hk,List.take_succ_eq_append_getElem (by omega),h];have e:l[k]=m[k]:=by
  rw[List.getD_eq_getElem?_getD,List.getD_eq_getElem?_getD,List.getElem?_eq_getElem hk,List.getElem?_eq_getElem (by omega)]at he;exact he
 rw[e]
theorem jv(a b:ByteArray)(ha:a.size≤9223372036854775807)(hb:b.size≤9223372036854775807)(w:World) :
 Calls Tryz.prog 119 #[.string a,.string b] w (Ret (.int .i64 (ordB a b)) w):=by
 by_cases h:a.size=b.size
 · have hl:a.data.toList.length=b.data.toList.length:=by rw[ji,ji,h]
   have HL:=Hq hl;have H:=Hq h;have hne:((a.size:Int) != (b.size:Int))=false:=by rw[h];simp
   have h1:a.size≤b.size:=by omega
   have h2:b.size≤a.size:=by omega
   clear h hl;go_enter Tryz.func119,Tryz.ntmps119;go_wp2;go_loopw [5] (fun i wr=>∃ k:Nat,k≤a.size∧i=.int .i64 k∧a.data.toList.take k=b.data.toList.take k∧Below w.heap.size w wr) (fun i _=>a.size - (intOf i).toNat);case atStart=>exact⟨0,Nat.zero_le _,rfl,rfl,Below.refl _ _⟩
   case round =>
    obtain⟨k,hk,rfl,he,hB⟩:=hrel;have HE:=Hq he;have HB:=Hq hB;clear he hB;by_cases hlt:k<a.size
    · have hlt2:k<b.size:=by omega
      by_cases hx:(a[k].toNat:Int)=b[k].toNat
      · have hx2:((a[k].toNat:Int) != b[k].toNat)=false:=by rw[hx];simp
        have HX:=Hq hx;clear hx;go_wp2
        go_quiet (fail)
        go_wp2;go_roundw;case rel=>exact⟨k+1,by omega,by go_num,zlj HL.out HE.out (by rw[ji];exact hlt) (by rw[zac _ _ hlt,zac _ _ hlt2];exact UInt8.toNat_inj.1 (by have:=HX.out;omega)),below_drewN HB.out _⟩
        case measure=>simp[intOf];omega
      · have hx2:((a[k].toNat:Int) != b[k].toNat)=true:=by rw[bne_iff_ne];exact hx
        by_cases hy:(a[k].toNat:Int)<b[k].toNat
        · have hr:=(ze5 (k:=k) HL.out (by rw[ji];exact hlt) HE.out (by rw[zac _ _ hlt,zac _ _ hlt2];omega)).1;have hn:ordB a b = -1:=hr;rw[hn];clear hr hn hx;go_wp2
          go_quiet (fail)
          go_wp2
          go_quiet (fail)
          go_wp2;go_ret;exact⟨rfl,below_drewN (below_drewN HB.out _) _⟩
        · have hr:=(ze5 (k:=k) HL.out.symm (by rw[ji];exact hlt2) HE.out.symm (by rw[zac _ _ hlt,zac _ _ hlt2];omega)).2;have hn:ordB a b=1:=hr;rw[hn];clear hr hn hx;go_wp2
          go_quiet (fail)
          go_wp2
          go_quiet (fail)
          go_wp2;go_ret;exact⟨rfl,below_drewN (below_drewN HB.out _) _⟩
    · obtain rfl:k=a.size:=by omega
      have hr:ordB a b=0:=zl5 (by
       have:=HE.out;rw[List.take_of_length_le (by rw[ji];omega),List.take_of_length_le (by rw[ji];omega)]at this
       exact this)
      have HR:=Hq hr;clear hr;go_wp2;go_ret;exact⟨by rw[HR.out];rfl,HB.out⟩
 · by_cases h2:a.size<b.size
   · have hn:ordB a b = -1:=by rw[zif h];unfold Lib.compareInt;rw[if_pos (by omega)]
     rw[hn];have hne:((a.size:Int) != (b.size:Int))=true:=by rw[bne_iff_ne];omega
     clear hn h;go_enter Tryz.func119,Tryz.ntmps119;go_wp2;go_ret;exact⟨rfl,Below.refl _ _⟩
   · have hn:ordB a b=1:=by rw[zif h];unfold Lib.compareInt;rw[if_neg (by omega),if_pos (by omega)]
     rw[hn];have hne:((a.size:Int) != (b.size:Int))=true:=by rw[bne_iff_ne];omega
     clear hn h;go_enter Tryz.func119,Tryz.ntmps119;go_wp2;go_ret;exact⟨rfl,Below.refl _ _⟩
end Go.Proofs.YtkfgdcgmlobhfaaGreat

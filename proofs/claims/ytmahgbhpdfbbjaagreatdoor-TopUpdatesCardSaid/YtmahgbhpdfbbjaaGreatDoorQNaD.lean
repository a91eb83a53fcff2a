import Derived.Test.YtmahgbhpdfbbjaaGreatDoorQNatA
import Derived.Test.YtmahgbhpdfbbjaaGreatDoorQShelf
import Derived.BigQuiet
set_option linter.unusedVariables false
set_option linter.unusedSimpArgs false
namespace Go.Proofs.YtmahgbhpdfbbjaaGreatDoor
set_option maxRecDepth 100000
set_option maxHeartbeats 400000
open Go.RowKit
theorem nat_Of(n:Nat)(hn:n<18446744073709551616)(w:World) :
 Calls Tryz.prog 7 #[.int .u64 n] w (Ret (.string (bstr (encN n))) w):=by
 have HN:=Hq hn;clear hn;go_enter Tryz.func7,Tryz.ntmps7;go_wp2;refine wp_loop_rounds 9 ?_;iterate 9 (rw[rounds_succ];go_wp2_with fail)
 refine(nat_trimmed (some ⟨w.heap.size,0,none⟩) 8 8 (be8 n) _ (be8_at w n _)).mono ?_;rintro e w1 ⟨rfl,rfl⟩;rw[be8_trim n HN.out];go_wp2;go_ret;exact⟨rfl,(blr).alloc nlr _⟩
set_option maxHeartbeats 400000
theorem compareBytes_ord{l m:List UInt8}(h:l.length=m.length):Lib.compareBytes l m=cmpI (bnat l) (bnat m):=by
 induction l generalizing m with
 | nil=>cases m with
  | nil=>rfl
  | cons y m=>simp at h
 | cons x l ih=>cases m with
  | nil=>simp at h
  | cons y m =>
   have hl:l.length=m.length:=by simpa using h
   unfold Lib.compareBytes;by_cases h1:x<y
   · have:=bnat_lt_first (p:=[]) (a:=l) (b:=m) hl (UInt8.lt_iff_toNat_lt.1 h1);rw[List.nil_append,List.nil_append]at this;rw[if_pos h1,cmpI_lt this]
   · rw[if_neg h1];by_cases h2:y<x
     · have:=bnat_lt_first (p:=[]) (a:=m) (b:=l) hl.symm (UInt8.lt_iff_toNat_lt.1 h2);rw[List.nil_append,List.nil_append]at this;rw[if_pos h2,cmpI_gt this]
     · rw[if_neg h2,ih hl];have : x=y:=by
        apply UInt8.toNat_inj.1;rw[UInt8.lt_iff_toNat_lt]at h1 h2;omega
       subst this;rw[bnat_cons,bnat_cons,hl];unfold cmpI;simp
def ordB(a b:ByteArray):Int:=ordL a.data.toList b.data.toList
theorem ordB_ne{a b:ByteArray}(h:a.size≠b.size):ordB a b=Lib.compareInt a.size b.size:=by
 unfold ordB ordL Lib.compareInt;rw[data_len,data_len];by_cases h1:a.size<b.size
 · rw[if_pos h1,if_pos (by omega)]
 · rw[if_neg h1,if_pos (by omega),if_neg (by omega),if_pos (by omega)]
theorem ordB_eq{a b:ByteArray}(h:a.size=b.size):ordB a b=Lib.compareBytes a.data.toList b.data.toList:=by
 unfold ordB ordL;rw[data_len,data_len,if_neg (by omega),if_neg (by omega),compareBytes_ord (by rw[data_len,data_len,h])]
theorem compareInt_ne{x y:Int}(h:x≠y):(Lib.compareInt x y != 0)=true:=by
 unfold Lib.compareInt;split
 · rfl
 · rw[if_pos (by omega)];rfl
theorem nat_compare(a b:ByteArray)(ha:a.size≤9223372036854775807)(hb:b.size≤9223372036854775807)(w:World) :
 Calls Tryz.prog 70 #[.string a,.string b] w (RetQ (.int .i64 (ordB a b)) w):=by
 by_cases h:a.size=b.size
 · have H:=Hq h;rw[ordB_eq h];have hc:Lib.compareInt a.size b.size=0:=by unfold Lib.compareInt;rw[h];simp
   have HC:=Hq hc;clear h hc;go_enter Tryz.func70,Tryz.ntmps70;go_wp2_with fail;refine(Tryz.cmp_Compare_int _ _ _).mono ?_;rintro e w1 ⟨rfl,rfl⟩;rw[HC.out];go_wp2_with fail;refine(Tryz.strings_Compare _ _ _).mono ?_;rintro e w1 ⟨rfl,rfl⟩;go_wp2;go_ret;exact⟨rfl,rfl⟩
 · rw[ordB_ne h];have hc:=compareInt_ne (x:=a.size) (y:=b.size) (by omega);clear h;go_enter Tryz.func70,Tryz.ntmps70;go_wp2_with fail;refine(Tryz.cmp_Compare_int _ _ _).mono ?_;rintro e w1 ⟨rfl,rfl⟩;go_wp2;go_ret;exact⟨rfl,rfl⟩
def ncmp(a b:ByteArray):Int:=if nvalid a&&nvalid b then ordB a b else 0
theorem nat_Cmp(a b:ByteArray)(ha:a.size≤9223372036854775807)(hb:b.size≤9223372036854775807)(w:World) :
 Calls Tryz.prog 40 #[.string a,.string b] w (RetQ (.int .i64 (ncmp a b)) w):=by
 cases h1:nvalid a with
 | false =>
  have hn:ncmp a b=0:=by simp[ncmp,h1]
  rw[hn];have H1:=Hq h1;clear h1 hn;go_enter Tryz.func40,Tryz.ntmps40;go_wp2_with fail;refine(nat_Valid _ ha _).mono ?_;rintro e w1 ⟨rfl,rfl⟩;rw[H1.out];go_wp2;go_ret;exact⟨rfl,rfl⟩
 | true=>cases h2:nvalid b with
  | false =>
   have hn:ncmp a b=0:=by simp[ncmp,h2]
   rw[hn];have H1:=Hq h1;have H2:=Hq h2;clear h1 h2 hn;go_enter Tryz.func40,Tryz.ntmps40;go_wp2_with fail;refine(nat_Valid _ ha _).mono ?_;rintro e w1 ⟨rfl,rfl⟩;rw[H1.out];go_wp2_with fail;refine(nat_Valid _ hb _).mono ?_;rintro e w1 ⟨rfl,rfl⟩;rw[H2.out];go_wp2;go_ret;exact⟨rfl,rfl⟩
  | true =>
   have hn:ncmp a b=ordB a b:=by simp[ncmp,h1,h2]
   rw[hn];have H1:=Hq h1;have H2:=Hq h2;clear h1 h2 hn;go_enter Tryz.func40,Tryz.ntmps40;go_wp2_with fail;refine(nat_Valid _ ha _).mono ?_;rintro e w1 ⟨rfl,rfl⟩;rw[H1.out];go_wp2_with fail;refine(nat_Valid _ hb _).mono ?_;rintro e w1 ⟨rfl,rfl⟩;rw[H2.out];go_wp2_with fail;refine(nat_compare _ _ ha hb _).mono ?_;rintro e w1 ⟨rfl,rfl⟩;go_wp2;go_ret;exact⟨rfl,rfl⟩
set_option maxRecDepth 100000
set_option maxHeartbeats 1000000
theorem nS_byte(n i k:Nat)(hk:k+1+i=(nS n).size)(h:k<(nS n).size):((nS n)[k]).toNat=dig n i:=by
 have hl:(nS n).size=(encN n).length:=nS_size n;have h1:=dig_encN n i (by omega);rw[←h1];congr 1;have : (nS n)[k]=((nS n).data.toList)[k]'(by rw[data_len];exact h):=rfl;rw[this];simp only[nS_data];congr 1;omega
theorem w64_byte(b:UInt8):wrap64 (b.toNat:Int)=(b.toNat:Int):=by have:=b.toNat_lt;simp[wrap64];omega
theorem u64_wrap(n:Nat)(h:n<18446744073709551616):IntKind.u64.wrap (n:Int)=(n:Int):=by
 simp[IntKind.wrap,IntKind.bits,IntKind.signed];omega
theorem nat_digit_core(s:ByteArray)(i k d:Nat)(hk:k+1+i=s.size)(h:k<s.size)(hb:(s[k]).toNat=d)(hsz:s.size≤9223372036854775807)(w:World):Calls Tryz.prog 83 #[.string s,.int .i64 i] w (RetQ (.int .i64 d) w):=by
 have hix:((s.size:Int) - 1 - (i:Int))=(k:Int):=by omega
 have hlt:¬ ((s.size:Int)≤(i:Int)):=by omega
 have HB:=Hq hb;have HK:=Hq hk;clear hb hk;go_enter Tryz.func83,Tryz.ntmps83;go_wp2;go_ret;exact⟨by rw[←HB.out];exact ret_int (w64_byte _),rfl⟩
theorem nat_digit_beyond(s:ByteArray)(i:Nat)(h:(s.size:Int)≤(i:Int))(w:World):Calls Tryz.prog 83 #[.string s,.int .i64 i] w (RetQ (.int .i64 0) w):=by
 go_enter Tryz.func83,Tryz.ntmps83;go_wp2;go_ret;exact⟨rfl,rfl⟩
theorem nat_digit(n i:Nat)(hn:(nS n).size≤1000)(w:World):Calls Tryz.prog 83 #[.string (nS n),.int .i64 i] w (RetQ (.int .i64 (dig n i)) w):=by
 by_cases hi:i<(nS n).size
 · have hks:(nS n).size - 1 - i<(nS n).size:=by omega
   exact nat_digit_core (nS n) i ((nS n).size - 1 - i) _ (by omega) hks (nS_byte n i _ (by omega) hks) (by omega) w
 · rw[dig_beyond (by rw[←nS_size];omega)];exact nat_digit_beyond (nS n) i (by omega) w
def fitR(n:Nat):Value:=if n<256 ^ 128 then .tuple #[.string (nS n),.int .i64 0]else .tuple #[.string ⟨#[]⟩,.int .i64 5]
theorem fitR_form(n:Nat):∃ r1 r2,fitR n=.tuple #[r1,r2]:=by
 unfold fitR;split
 · exact⟨_,_,rfl⟩
 · exact⟨_,_,rfl⟩
theorem nat_fitting(n:Nat)(hs:(nS n).size≤9223372036854775807)(w:World):Calls Tryz.prog 96 #[.string (nS n)] w (RetQ (fitR n) w):=by
 unfold fitR;by_cases h:n<256 ^ 128
 · rw[if_pos h];have h1:=nS_size_le.2 h;have h2:¬ (128<((nS n).size:Int)):=by omega
   obtain⟨s,hs'⟩:∃ s,nS n=s:=⟨_,rfl⟩;rw[hs']at h2⊢;clear hs' h1 h hs;go_enter Tryz.func96,Tryz.ntmps96;go_wp2;go_ret2;exact⟨rfl,rfl⟩
 · rw[if_neg h];have h2:128<((nS n).size:Int):=by
    rcases Nat.lt_or_ge 128 (nS n).size with h' | h'
    · omega
    · exact absurd (nS_size_le.1 h') h
   obtain⟨s,hs'⟩:∃ s,nS n=s:=⟨_,rfl⟩;rw[hs']at h2⊢;clear hs' h hs;go_enter Tryz.func96,Tryz.ntmps96;go_wp2;go_ret2;exact⟨rfl,rfl⟩
def pre(s:ByteArray)(k:Nat):Nat:=bnat (s.data.toList.take k)
theorem pre_succ(s:ByteArray)(k:Nat)(h:k<s.size):pre s (k+1)=pre s k * 256+(s[k]).toNat:=by
 unfold pre;have : s.data.toList.take (k+1)=s.data.toList.take k++[s[k]]:=by
  rw[List.take_succ_eq_append_getElem (by rw[data_len];exact h)];rfl
 rw[this,bnat_snoc]
theorem pre_all(s:ByteArray):pre s s.size=num s:=by
 unfold pre num;rw[List.take_of_length_le (by rw[data_len];exact Nat.le_refl _)]
theorem pre_lt(s:ByteArray)(k:Nat):pre s k<256 ^ k:=by
 have h:=bnat_lt (s.data.toList.take k);have h2:(s.data.toList.take k).length≤k:=List.length_take_le _ _;exact Nat.lt_of_lt_of_le h (Nat.pow_le_pow_right (by omega) h2)
theorem pre_le{s:ByteArray}{k:Nat}(h:k<8):pre s k<72057594037927936:=
 Nat.lt_of_lt_of_le (pre_lt s k) (Nat.le_trans (Nat.pow_le_pow_right (by omega) (show k≤7 by omega)) (by decide))
theorem u64_join(n b:Nat)(hn:n<72057594037927936)(hb:b<256):bits .or .u64 ((n:Int) * 256) (IntKind.u64.wrap (b:Int))=((n * 256+b:Nat):Int):=by
 rw[u64_wrap b (by omega),show (n:Int) * 256=((n * 256:Nat):Int)from by omega,u64_or_nat _ _ (by omega) (by omega),nat_join 8 (n * 256) b (by simp) (by omega)]
theorem nat_Small_yes(s:ByteArray)(hv:nvalid s=true)(h8:s.size≤8)(w:World):Calls Tryz.prog 30 #[.string s] w (RetQ (.tuple #[.int .u64 (num s),.bool true]) w):=by
 have hne:¬ (8<(s.size:Int)):=by omega
 have HV:=Hq hv;clear hv;go_enter Tryz.func30,Tryz.ntmps30;go_wp2_with fail;refine(nat_Valid s (by omega) _).mono ?_;rintro e w1 ⟨rfl,rfl⟩;rw[HV.out];go_wp2
 go_loop [4,16] (fun n i=>∃ k:Nat,k≤s.size∧i=.int .i64 k∧n=.int .u64 (pre s k)) (fun _ i=>s.size - (intOf i).toNat)
 case atStart=>exact⟨0,Nat.zero_le _,rfl,rfl⟩
 case round =>
  obtain⟨k,hk,rfl,rfl⟩:=hrel;by_cases hlt:k<s.size
  · have hp:=pre_le (s:=s) (k:=k) (by omega);have HP:=Hq (pre_succ s k hlt);obtain⟨p,hpp⟩:=nm (pre s k);rw[hpp]at hp HP⊢;have hb:=(s[k]).toNat_lt;have hj:=u64_join p (s[k]).toNat hp (by omega);have hp0:(p:Int)<72057594037927936:=by omega
    clear hpp hb;go_wp2;go_round;case rel=>exact⟨k+1,by omega,by go_num,by rw[HP.out];go_num⟩
    case measure=>simp[intOf];omega
  · obtain rfl:k=s.size:=by omega
    have HA:=Hq (pre_all s);go_wp2;go_ret2;exact⟨by rw[←HA.out];rfl,rfl⟩
theorem nat_Small_no(s:ByteArray)(hs:s.size≤9223372036854775807)(h:nvalid s=false∨nvalid s=true∧8<s.size)(w:World):Calls Tryz.prog 30 #[.string s] w (RetQ (.tuple #[.int .u64 0,.bool false]) w):=by
 rcases h with hv | ⟨hv,h8⟩
 · have HV:=Hq hv;clear hv;go_enter Tryz.func30,Tryz.ntmps30;go_wp2_with fail;refine(nat_Valid s (by omega) _).mono ?_;rintro e w1 ⟨rfl,rfl⟩;rw[HV.out];go_wp2;go_ret2;exact⟨rfl,rfl⟩
 · have hne:8<(s.size:Int):=by omega
   have HV:=Hq hv;clear hv h8;go_enter Tryz.func30,Tryz.ntmps30;go_wp2_with fail;refine(nat_Valid s (by omega) _).mono ?_;rintro e w1 ⟨rfl,rfl⟩;rw[HV.out];go_wp2;go_ret2;exact⟨rfl,rfl⟩
theorem nS_valid_small{n:Nat}(h:n<18446744073709551616):nvalid (nS n)=true:=nvalid_nS.2 (Nat.lt_of_lt_of_le h (Nat.le_trans (by decide) (Nat.pow_le_pow_right (n:=256) (by omega) (show 8≤128 by omega))))
theorem nat_Small_n(n:Nat)(h:n<18446744073709551616)(w:World):Calls Tryz.prog 30 #[.string (nS n)] w (RetQ (.tuple #[.int .u64 n,.bool true]) w):=by
 have:=nat_Small_yes (nS n) (nS_valid_small h) (nS_small_size h) w;rw[num_nS]at this;exact this
theorem ordB_nS(x y:Nat):ordB (nS x) (nS y)=cmpI x y:=by
 unfold ordB;rw[nS_data,nS_data,ordL_canon (canon_encN _) (canon_encN _),bnat_encN,bnat_encN]
theorem lt128_of_lt8{n:Nat}(h:n<18446744073709551616):n<256 ^ 128:=nvalid_nS.1 (nS_valid_small h)
theorem nS_size63{n:Nat}(h:n<256 ^ 128):(nS n).size≤9223372036854775807:=by have:=nS_size_le.2 h;omega
set_option maxRecDepth 100000
set_option maxHeartbeats 4000000
def zb(n:Nat):Array Value:=madeCells #[.int .u8 0] n
theorem zb_size(n:Nat):(zb n).size=n:=size_madeCells _ _
theorem u8_info:(Tryz.prog.info? 5).map (fun i=>(i.zero,i.size,i.bytes))=some (some (.int .u8 0),1,1):=by kernel_rfl
theorem make_bytes(n:Nat)(hn:n≤281474976710656)(w:World):(Instr.makeSlice 70 (.int .i64 n) (.int .i64 n)).run Tryz.prog w=.ok (.slice (some ⟨w.heap.size,0,none⟩) n n) (w.alloc (.cells (zb n) 5)):=by
 obtain⟨i0,hi,hz0,hz1,hz2⟩:=info_parts u8_info;have h:=run_make (P:=Tryz.prog) w 70 5 i0 (.int .u8 0) Tryz.underlying70 hi hz0 .i64 .i64 (n:Int) (n:Int) (by omega) (Int.le_refl _) (by rw[hz2];omega) (by omega);rw[h,hz1,Int.toNat_natCast,Nat.mul_one];rfl
def OutB(w:World)(B n i v:Nat):Prop:=∃ cur:Array Value,w.heap[B]? =some (.cells cur 5 (0,0))∧cur.size=n∧∀ j,j<i→cur[n - 1 - j]? =some (.int .u8 (dig v j))
theorem OutB.start{w:World}(n v:Nat):OutB (w.alloc (.cells (zb n) 5)) w.heap.size n 0 v:=⟨_,heap_alloc_new _ _,zb_size n,fun j h=>by omega⟩
theorem OutB.cell{w:World}{B n i v:Nat}(h:OutB w B n i v){k:Nat}(hk:k<n):∃ u,w.cell? ⟨B,k,none⟩=some u:=by
 obtain⟨cur,h1,h2,h3⟩:=h;exact⟨_,by rw[Lib.cell_of_heap h1];exact Array.getElem?_eq_getElem (by omega)⟩
theorem OutB.free{w:World}{B n i v:Nat}(h:OutB w B n i v)(k:Nat):w.frozen? ⟨B,k,none⟩=false:=by
 obtain⟨cur,h1,h2,h3⟩:=h;exact Lib.frozen_of_heap h1 k
theorem OutB.step{w:World}{B n i v k:Nat}(h:OutB w B n i v)(hk:k+1+i=n):OutB (w.setCell ⟨B,k,none⟩ (.int .u8 (dig v i))) B n (i+1) v:=by
 obtain⟨cur,h1,h2,h3⟩:=h;refine⟨_,block_setCell h1 _,by rw[Array.size_setIfInBounds,h2],fun j hj=>?_⟩;rw[Array.getElem?_setIfInBounds];by_cases e:j=i
 · subst e;rw[if_pos (by omega),if_pos (by omega)]
 · rw[if_neg (by omega)];exact h3 j (by omega)
theorem OutB.bytes{w:World}{B n v:Nat}(h:OutB w B n n v)(hn:n≤9223372036854775807):BytesAt w (some ⟨B,0,none⟩) n n (beN n v):=by
 obtain⟨cur,h1,h2,h3⟩:=h;refine⟨beN_length n v,Nat.le_refl _,hn,fun _=>⟨B,0,rfl,fun k hk=>?_⟩⟩;rw[Nat.zero_add,Lib.cell_of_heap h1];have:=h3 (n - 1 - k) (by omega);rw[show n - 1 - (n - 1 - k)=k from by omega]at this;show cur[k]? =_;rw[this];unfold byteI;rw[List.getD_eq_getElem?_getD,beN_get n v k hk,Option.getD_some,ofNat_mod_toNat];rfl
theorem OutB.lt{w:World}{B n i v:Nat}(h:OutB w B n i v):B<w.heap.size:=by
 obtain⟨cur,h1,_⟩:=h;exact block_lt h1
theorem nS_size63'(n:Nat)(h:(nS n).size≤1000):(nS n).size≤9223372036854775807:=by omega
theorem nat_Add(x y:Nat)(hx:x<256 ^ 128)(hy:y<256 ^ 128)(w:World):Calls Tryz.prog 113 #[.string (nS x),.string (nS y)] w (Ret (fitR (x+y)) w):=by
 have hv1:=nvalid_nS.2 hx;have hv2:=nvalid_nS.2 hy;have hs1:=nS_size_le.2 hx;have hs2:=nS_size_le.2 hy;have HV1:=Hq hv1;have HV2:=Hq hv2;obtain⟨s,hs⟩:=nm (nS x);obtain⟨t,ht⟩:=nm (nS y);rw[hs]at hs1 HV1⊢;rw[ht]at hs2 HV2⊢;have HS:=Hq hs;have HT:=Hq ht;have HX:=Hq (show (nS x).size≤1000 from by rw[hs];omega);have HY:=Hq (show (nS y).size≤1000 from by rw[ht];omega);clear hv1 hv2 hs ht hx hy;obtain⟨m,hm⟩:∃ m:Nat,max (s.size:Int) (t.size:Int)=(m:Int):=⟨max s.size t.size,by omega⟩;have hm1:m≤128:=by omega
 have hmx:x<256 ^ m:=nS_size_le.1 (by rw[HS.out];omega);have hmy:y<256 ^ m:=nS_size_le.1 (by rw[HT.out];omega);have hxy:x+y<256 ^ (m+1):=by rw[Nat.pow_succ];omega
 have HXY:=Hq hxy;clear hmx hmy hxy;have hmk:=fun(w:World)=>make_bytes (m+1) (by omega) w;simp only[Int.natCast_add,Int.natCast_one]at hmk;go_enter Tryz.func113,Tryz.ntmps113;go_wp2_with fail;refine(nat_Valid s (by omega) _).mono ?_;rintro e w1 ⟨rfl,rfl⟩;rw[HV1.out];go_wp2_with fail;refine(nat_Valid t (by omega) _).mono ?_;rintro e w1 ⟨rfl,rfl⟩;rw[HV2.out];go_wp2;clear hmk hm;go_loopw [8,27] (fun c i wr=>∃(k q:Nat),k≤m+1∧i=.int .i64 k∧c=.int .i64 q∧q≤1∧(x+y) / 256 ^ k=x / 256 ^ k+y / 256 ^ k+q∧OutB wr w.heap.size (m+1) k (x+y)∧Below w.heap.size w wr) (fun _ i _=>m+1 - (intOf i).toNat);case atStart=>exact⟨0,0,Nat.zero_le _,rfl,rfl,by omega,by simp,OutB.start _ _,(blr).alloc nlr _⟩
 case round =>
  obtain⟨k,q,hk,rfl,rfl,hq,hc,hO,hB⟩:=hrel;have HO:=Hq hO;have HB:=Hq hB;have HC:=Hq hc;clear hO hB hc;by_cases hlt:k<m+1
  · obtain⟨j,hj⟩:∃ j,j+k=m:=⟨m - k,by omega⟩;have hix:(m:Int) - (k:Int)=(j:Int):=by omega
    have hjm:j<m+1:=by omega
    obtain⟨u,hu⟩:=HO.out.cell hjm;have hf:=HO.out.free j;have hs3:=add_step HC.out;have hd1:=dig_lt x k;have hd2:=dig_lt y k;obtain⟨d1,hd1e⟩:=nm (dig x k);obtain⟨d2,hd2e⟩:=nm (dig y k);rw[hd1e]at hs3 hd1;rw[hd2e]at hs3 hd2;have HD1:=Hq hd1e;have HD2:=Hq hd2e;have HS3:=Hq hs3;have HJ:=Hq hj;clear hs3 hd1e hd2e hj;go_wp2_with fail;rw[←HS.out];refine(nat_digit x k HX.out _).mono ?_;rintro e w1 ⟨rfl,rfl⟩;rw[HD1.out,HS.out];go_wp2_with fail;rw[←HT.out];refine(nat_digit y k HY.out _).mono ?_;rintro e w1 ⟨rfl,rfl⟩;rw[HD2.out,HT.out];go_wp2;refine⟨⟨k+1,(d1+d2+q) / 256,by omega,by go_num,by go_num,by omega,HS3.out.1,?_,HB.out.setCell (p:=⟨w.heap.size,j,none⟩) nlr _⟩,by simp[intOf];omega⟩;have h1:=HO.out.step (k:=j) (by have:=HJ.out;omega);rw[HS3.out.2]at h1;rw[show ((q:Int)+((d1:Int)+(d2:Int)))%256=(((d1+d2+q)%256:Nat):Int)from by omega];exact h1
  · obtain rfl:k=m+1:=by omega
    have hby:=HO.out.bytes (by omega)
    have HBY:=Hq hby
    clear hby
    go_wp2_with fail;refine(nat_trimmed _ _ _ _ _ HBY.out).mono ?_;rintro e w1 ⟨rfl,rfl⟩;rw[trim_beN HXY.out];go_wp2_with fail;refine(nat_fitting (x+y) (nS_size63' (x+y) (by have:=nS_size_le.2 HXY.out;omega)) _).mono ?_;rintro e w1 ⟨rfl,rfl⟩;obtain⟨r1,r2,hr⟩:=fitR_form (x+y);rw[hr];have HR:=Hq hr;clear hr;go_wp2;go_ret2;exact⟨by rw[HR.out];rfl,HB.out⟩
theorem nat_less(x y:Nat)(hs1:(nS x).size≤500)(hxy:y≤x)(w:World):Calls Tryz.prog 107 #[.string (nS x),.string (nS y)] w (Ret (.string (nS (x - y))) w):=by
 have hle:(nS y).size≤(nS x).size:=by rw[nS_size,nS_size];exact encN_length_mono hxy
 obtain⟨s,hs⟩:=nm (nS x);obtain⟨t,ht⟩:=nm (nS y);rw[hs]at hs1 hle⊢;rw[ht]at hle⊢;have HS:=Hq hs;have HT:=Hq ht;have HX:=Hq (show (nS x).size≤1000 from by rw[hs];omega);have HY:=Hq (show (nS y).size≤1000 from by rw[ht];omega);clear hs ht;obtain⟨m,hm⟩:∃ m:Nat,s.size=m:=⟨_,rfl⟩;rw[hm]at hs1 hle;have hmx:x<256 ^ m:=nS_size_le.1 (by rw[HS.out,hm];exact Nat.le_refl _);have hxy2:x - y<256 ^ m:=by omega
 have HXY:=Hq hxy2;have HLE:=Hq hxy;clear hmx hxy2 hxy;have hmk:=fun(w:World)=>make_bytes m (by omega) w;go_enter Tryz.func107,Tryz.ntmps107;go_wp2;have HM:=Hq hm;clear hmk hm;go_loopw [7,15] (fun c i wr=>∃(k q:Nat),k≤m∧i=.int .i64 k∧c=.int .i64 q∧q≤1∧x / 256 ^ k=y / 256 ^ k+(x - y) / 256 ^ k+q∧OutB wr w.heap.size m k (x - y)∧Below w.heap.size w wr) (fun _ i _=>m - (intOf i).toNat);case atStart=>exact⟨0,0,Nat.zero_le _,rfl,rfl,by omega,by have:=HLE.out;simp;omega,OutB.start _ _,(blr).alloc nlr _⟩
 case round =>
  obtain⟨k,q,hk,rfl,rfl,hq,hc,hO,hB⟩:=hrel;have HO:=Hq hO;have HB:=Hq hB;have HC:=Hq hc;clear hO hB hc;by_cases hlt:k<m
  · obtain⟨j,hj⟩:∃ j,j+k+1=m:=⟨m - k - 1,by omega⟩;have hix:(m:Int) - 1 - (k:Int)=(j:Int):=by omega
    have hjm:j<m:=by omega
    obtain⟨u,hu⟩:=HO.out.cell hjm;have hf:=HO.out.free j;have hs3:=sub_step HLE.out HC.out hq;have hd1:=dig_lt x k;have hd2:=dig_lt y k;obtain⟨d1,hd1e⟩:=nm (dig x k);obtain⟨d2,hd2e⟩:=nm (dig y k);rw[hd1e]at hs3 hd1;rw[hd2e]at hs3 hd2;have HD1:=Hq hd1e;have HD2:=Hq hd2e;have HS3:=Hq hs3;have HJ:=Hq hj;clear hs3 hd1e hd2e hj;by_cases hneg:d2+q≤d1;all_goals
     go_wp2_with fail;rw[←HS.out];refine(nat_digit x k HX.out _).mono ?_;rintro e w1 ⟨rfl,rfl⟩;rw[HD1.out,HS.out];go_wp2_with fail;rw[←HT.out];refine(nat_digit y k HY.out _).mono ?_;rintro e w1 ⟨rfl,rfl⟩;rw[HD2.out,HT.out];go_wp2
    · refine⟨⟨k+1,0,by omega,by go_num,by go_num,by omega,(HS3.out.1 hneg).2,?_,HB.out.setCell (p:=⟨w.heap.size,j,none⟩) nlr _⟩,by simp[intOf];omega⟩;have h1:=HO.out.step (k:=j) (by have:=HJ.out;omega);rw[(HS3.out.1 hneg).1]at h1;have e1:((d1:Int) - (d2:Int) - (q:Int))=((d1 - d2 - q:Nat):Int):=by omega
      first | rw[e1] | (rw[show ((d1:Int) - (d2:Int) - (q:Int))%256=((d1 - d2 - q:Nat):Int)from by omega])
      exact h1
    · refine⟨⟨k+1,1,by omega,by go_num,by go_num,by omega,(HS3.out.2 (by omega)).2,?_,HB.out.setCell (p:=⟨w.heap.size,j,none⟩) nlr _⟩,by simp[intOf];omega⟩;have h1:=HO.out.step (k:=j) (by have:=HJ.out;omega);rw[(HS3.out.2 (by omega)).1]at h1;have e1:((d1:Int) - (d2:Int) - (q:Int)+256)=((d1+256 - d2 - q:Nat):Int):=by omega
      first | rw[e1] | (rw[show ((d1:Int) - (d2:Int) - (q:Int)+256)%256=((d1+256 - d2 - q:Nat):Int)from by omega])
      exact h1
  · obtain rfl:k=m:=by omega
    have hby:=HO.out.bytes (by omega)
    have HBY:=Hq hby
    clear hby
    go_wp2_with fail;refine(nat_trimmed _ _ _ _ _ HBY.out).mono ?_;rintro e w1 ⟨rfl,rfl⟩;rw[trim_beN HXY.out];go_wp2;go_ret;exact⟨rfl,HB.out⟩
end Go.Proofs.YtmahgbhpdfbbjaaGreatDoor

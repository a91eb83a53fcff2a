import Derived.Test.YtdhnkmbjogmmkaaGreatDoorQOrd
import Derived.OrdersHeld
set_option linter.unusedVariables false
set_option linter.unusedSimpArgs false
namespace Go.Proofs.YtdhnkmbjogmmkaaGreatDoor
set_option maxRecDepth 100000
set_option maxHeartbeats 1000000
open Go.RowKit
theorem nS_byte(n i k:Nat)(hk:k+1+i=(nS n).size)(h:k<(nS n).size):((nS n)[k]).toNat=dig n i:=by
 have hl:(nS n).size=(encN n).length:=nS_size n;have h1:=dig_encN n i (by omega);rw[←h1];congr 1;have : (nS n)[k]=((nS n).data.toList)[k]'(by rw[data_len];exact h):=rfl;rw[this];simp only[nS_data];congr 1;omega
theorem w64_byte(b:UInt8):wrap64 (b.toNat:Int)=(b.toNat:Int):=by have:=b.toNat_lt;simp[wrap64];omega
theorem u64_wrap(n:Nat)(h:n<18446744073709551616):IntKind.u64.wrap (n:Int)=(n:Int):=by
 simp[IntKind.wrap,IntKind.bits,IntKind.signed];omega
theorem nat_digit_core(s:ByteArray)(i k d:Nat)(hk:k+1+i=s.size)(h:k<s.size)(hb:(s[k]).toNat=d)(hsz:s.size≤9223372036854775807)(w:World):Calls Tryz.prog 95 #[.string s,.int .i64 i] w (RetQ (.int .i64 d) w):=by
 have hix:((s.size:Int) - 1 - (i:Int))=(k:Int):=by omega
 have hlt:¬ ((s.size:Int)≤(i:Int)):=by omega
 have HB:=Hq hb;have HK:=Hq hk;clear hb hk;go_enter Tryz.func95,Tryz.ntmps95;go_wp2;go_ret;exact⟨by rw[←HB.out];exact ret_int (w64_byte _),rfl⟩
theorem nat_digit_beyond(s:ByteArray)(i:Nat)(h:(s.size:Int)≤(i:Int))(w:World):Calls Tryz.prog 95 #[.string s,.int .i64 i] w (RetQ (.int .i64 0) w):=by
 go_enter Tryz.func95,Tryz.ntmps95;go_wp2;go_ret;exact⟨rfl,rfl⟩
theorem nat_digit(n i:Nat)(hn:(nS n).size≤1000)(w:World):Calls Tryz.prog 95 #[.string (nS n),.int .i64 i] w (RetQ (.int .i64 (dig n i)) w):=by
 by_cases hi:i<(nS n).size
 · have hks:(nS n).size - 1 - i<(nS n).size:=by omega
   exact nat_digit_core (nS n) i ((nS n).size - 1 - i) _ (by omega) hks (nS_byte n i _ (by omega) hks) (by omega) w
 · rw[dig_beyond (by rw[←nS_size];omega)];exact nat_digit_beyond (nS n) i (by omega) w
theorem r01_at_core(s:ByteArray)(i k d:Nat)(hk:k+1+i=s.size)(h:k<s.size)(hb:(s[k]).toNat=d)(hsz:s.size≤9223372036854775807)(w:World):Calls Tryz.prog 72 #[.string s,.int .i64 i] w (RetQ (.int .i64 d) w):=by
 have hix:((s.size:Int) - 1 - (i:Int))=(k:Int):=by omega
 have hlt:¬ ((s.size:Int)≤(i:Int)):=by omega
 have HB:=Hq hb;have HK:=Hq hk;clear hb hk;go_enter Tryz.func72,Tryz.ntmps72;go_wp2;go_ret;exact⟨by rw[←HB.out];exact ret_int (w64_byte _),rfl⟩
theorem r01_at_beyond(s:ByteArray)(i:Nat)(h:(s.size:Int)≤(i:Int))(w:World):Calls Tryz.prog 72 #[.string s,.int .i64 i] w (RetQ (.int .i64 0) w):=by
 go_enter Tryz.func72,Tryz.ntmps72;go_wp2;go_ret;exact⟨rfl,rfl⟩
theorem r01_at(n i:Nat)(hn:(nS n).size≤1000)(w:World):Calls Tryz.prog 72 #[.string (nS n),.int .i64 i] w (RetQ (.int .i64 (dig n i)) w):=by
 by_cases hi:i<(nS n).size
 · have hks:(nS n).size - 1 - i<(nS n).size:=by omega
   exact r01_at_core (nS n) i ((nS n).size - 1 - i) _ (by omega) hks (nS_byte n i _ (by omega) hks) (by omega) w
 · rw[dig_beyond (by rw[←nS_size];omega)];exact r01_at_beyond (nS n) i (by omega) w
def fitR(n:Nat):Value:=if n<256 ^ 128 then .tuple #[.string (nS n),.int .i64 0]else .tuple #[.string ⟨#[]⟩,.int .i64 5]
theorem fitR_form(n:Nat):∃ r1 r2,fitR n=.tuple #[r1,r2]:=by
 unfold fitR;split
 · exact⟨_,_,rfl⟩
 · exact⟨_,_,rfl⟩
theorem nat_fitting(n:Nat)(hs:(nS n).size≤9223372036854775807)(w:World):Calls Tryz.prog 120 #[.string (nS n)] w (RetQ (fitR n) w):=by
 unfold fitR;by_cases h:n<256 ^ 128
 · rw[if_pos h];have h1:=nS_size_le.2 h;have h2:¬ (128<((nS n).size:Int)):=by omega
   obtain⟨s,hs'⟩:∃ s,nS n=s:=⟨_,rfl⟩;rw[hs']at h2⊢;clear hs' h1 h hs;go_enter Tryz.func120,Tryz.ntmps120;go_wp2;go_ret2;exact⟨rfl,rfl⟩
 · rw[if_neg h];have h2:128<((nS n).size:Int):=by
    rcases Nat.lt_or_ge 128 (nS n).size with h' | h'
    · omega
    · exact absurd (nS_size_le.1 h') h
   obtain⟨s,hs'⟩:∃ s,nS n=s:=⟨_,rfl⟩;rw[hs']at h2⊢;clear hs' h hs;go_enter Tryz.func120,Tryz.ntmps120;go_wp2;go_ret2;exact⟨rfl,rfl⟩
theorem r01_fit(n:Nat)(hs:(nS n).size≤9223372036854775807)(w:World):Calls Tryz.prog 124 #[.string (nS n)] w (RetQ (fitR n) w):=by
 unfold fitR;by_cases h:n<256 ^ 128
 · rw[if_pos h];have h1:=nS_size_le.2 h;have h2:¬ (128<((nS n).size:Int)):=by omega
   obtain⟨s,hs'⟩:∃ s,nS n=s:=⟨_,rfl⟩;rw[hs']at h2⊢;clear hs' h1 h hs;go_enter Tryz.func124,Tryz.ntmps124;go_wp2;go_ret2;exact⟨rfl,rfl⟩
 · rw[if_neg h];have h2:128<((nS n).size:Int):=by
    rcases Nat.lt_or_ge 128 (nS n).size with h' | h'
    · omega
    · exact absurd (nS_size_le.1 h') h
   obtain⟨s,hs'⟩:∃ s,nS n=s:=⟨_,rfl⟩;rw[hs']at h2⊢;clear hs' h hs;go_enter Tryz.func124,Tryz.ntmps124;go_wp2;go_ret2;exact⟨rfl,rfl⟩
def pre(s:ByteArray)(k:Nat):Nat:=bnat (s.data.toList.take k)
theorem pre_succ(s:ByteArray)(k:Nat)(h:k<s.size):pre s (k+1)=pre s k * 256+(s[k]).toNat:=by
 unfold pre;have : s.data.toList.take (k+1)=s.data.toList.take k++[s[k]]:=by
  rw[List.take_succ_eq_append_getElem (by rw[data_len];exact h)];rfl
 rw[this,bnat_snoc]
theorem pre_all(s:ByteArray):pre s s.size=num s:=by
 unfold pre num;rw[List.take_of_length_le (by rw[data_len];exact Nat.le_refl _)]
theorem pre_lt(s:ByteArray)(k:Nat):pre s k<256 ^ k:=by
 have h:=bnat_lt (s.data.toList.take k);have h2:(s.data.toList.take k).length≤k:=List.length_take_le _ _;exact Nat.lt_of_lt_of_le h (Nat.pow_le_pow_right (by omega) h2)
theorem pre_le{s:ByteArray}{k:Nat}(h:k<8):pre s k<72057594037927936:=
 Nat.lt_of_lt_of_le (pre_lt s k) (Nat.le_trans (Nat.pow_le_pow_right (by omega) (show k≤7 by omega)) (by decide))
theorem u64_join(n b:Nat)(hn:n<72057594037927936)(hb:b<256):bits .or .u64 ((n:Int) * 256) (IntKind.u64.wrap (b:Int))=((n * 256+b:Nat):Int):=by
 rw[u64_wrap b (by omega),show (n:Int) * 256=((n * 256:Nat):Int)from by omega,u64_or_nat _ _ (by omega) (by omega),nat_join 8 (n * 256) b (by simp) (by omega)]
theorem nat_Small_yes(s:ByteArray)(hv:nvalid s=true)(h8:s.size≤8)(w:World):Calls Tryz.prog 73 #[.string s] w (RetQ (.tuple #[.int .u64 (num s),.bool true]) w):=by
 have hne:¬ (8<(s.size:Int)):=by omega
 have HV:=Hq hv;clear hv;go_enter Tryz.func73,Tryz.ntmps73;go_wp2_with fail;refine(nat_Valid s (by omega) _).mono ?_;rintro e w1 ⟨rfl,rfl⟩;rw[HV.out];go_wp2
 go_loop [4,16] (fun n i=>∃ k:Nat,k≤s.size∧i=.int .i64 k∧n=.int .u64 (pre s k)) (fun _ i=>s.size - (intOf i).toNat)
 case atStart=>exact⟨0,Nat.zero_le _,rfl,rfl⟩
 case round =>
  obtain⟨k,hk,rfl,rfl⟩:=hrel;by_cases hlt:k<s.size
  · have hp:=pre_le (s:=s) (k:=k) (by omega);have HP:=Hq (pre_succ s k hlt);obtain⟨p,hpp⟩:∃ p,pre s k=p:=⟨_,rfl⟩;rw[hpp]at hp HP⊢;have hb:=(s[k]).toNat_lt;have hj:=u64_join p (s[k]).toNat hp (by omega);have hp0:(p:Int)<72057594037927936:=by omega
    clear hpp hb;go_wp2;go_round;case rel=>exact⟨k+1,by omega,by go_num,by rw[HP.out];go_num⟩
    case measure=>simp[intOf];omega
  · obtain rfl:k=s.size:=by omega
    have HA:=Hq (pre_all s);go_wp2;go_ret2;exact⟨by rw[←HA.out];rfl,rfl⟩
theorem r01_U64(s:ByteArray)(h8:s.size≤8)(w:World):Calls Tryz.prog 66 #[.string s] w (RetQ (.int .u64 (num s)) w):=by
 go_enter Tryz.func66,Tryz.ntmps66;go_wp2
 go_loop [3,4] (fun n i=>∃ k:Nat,k≤s.size∧i=.int .i64 k∧n=.int .u64 (pre s k)) (fun _ i=>s.size - (intOf i).toNat)
 case atStart=>exact⟨0,Nat.zero_le _,rfl,rfl⟩
 case round =>
  obtain⟨k,hk,rfl,rfl⟩:=hrel;by_cases hlt:k<s.size
  · have hp:=pre_le (s:=s) (k:=k) (by omega);have HP:=Hq (pre_succ s k hlt);obtain⟨p,hpp⟩:∃ p,pre s k=p:=⟨_,rfl⟩;rw[hpp]at hp HP⊢;have hb:=(s[k]).toNat_lt;have hw:=u64_wrap (s[k]).toNat (by omega);have hp0:(p:Int)<72057594037927936:=by omega
    have hb0:((s[k]).toNat:Int)<256:=by omega
    clear hpp hb;go_wp2;go_round;case rel=>exact⟨k+1,by omega,by go_num,by rw[HP.out];go_num⟩
    case measure=>simp[intOf];omega
  · obtain rfl:k=s.size:=by omega
    have HA:=Hq (pre_all s);go_wp2;go_ret;exact⟨by rw[←HA.out];rfl,rfl⟩
theorem nat_Small_no(s:ByteArray)(hs:s.size≤9223372036854775807)(h:nvalid s=false∨nvalid s=true∧8<s.size)(w:World):Calls Tryz.prog 73 #[.string s] w (RetQ (.tuple #[.int .u64 0,.bool false]) w):=by
 rcases h with hv | ⟨hv,h8⟩
 · have HV:=Hq hv;clear hv;go_enter Tryz.func73,Tryz.ntmps73;go_wp2_with fail;refine(nat_Valid s (by omega) _).mono ?_;rintro e w1 ⟨rfl,rfl⟩;rw[HV.out];go_wp2;go_ret2;exact⟨rfl,rfl⟩
 · have hne:8<(s.size:Int):=by omega
   have HV:=Hq hv;clear hv h8;go_enter Tryz.func73,Tryz.ntmps73;go_wp2_with fail;refine(nat_Valid s (by omega) _).mono ?_;rintro e w1 ⟨rfl,rfl⟩;rw[HV.out];go_wp2;go_ret2;exact⟨rfl,rfl⟩
theorem r01_Small_no(s:ByteArray)(hs:s.size≤9223372036854775807)(h:nvalid s=false∨nvalid s=true∧8<s.size)(w:World):Calls Tryz.prog 145 #[.string s] w (RetQ (.tuple #[.int .u64 0,.bool false]) w):=by
 rcases h with hv | ⟨hv,h8⟩
 · have HV:=Hq hv;clear hv;go_enter Tryz.func145,Tryz.ntmps145;go_wp2_with fail;refine(r01_Valid s (by omega) _).mono ?_;rintro e w1 ⟨rfl,rfl⟩;rw[HV.out];go_wp2;go_ret2;exact⟨rfl,rfl⟩
 · have hne:8<(s.size:Int):=by omega
   have HV:=Hq hv;clear hv h8;go_enter Tryz.func145,Tryz.ntmps145;go_wp2_with fail;refine(r01_Valid s (by omega) _).mono ?_;rintro e w1 ⟨rfl,rfl⟩;rw[HV.out];go_wp2;go_ret2;exact⟨rfl,rfl⟩
theorem r01_Small_yes(s:ByteArray)(hv:nvalid s=true)(h8:s.size≤8)(w:World):Calls Tryz.prog 145 #[.string s] w (RetQ (.tuple #[.int .u64 (num s),.bool true]) w):=by
 have hne:¬ (8<(s.size:Int)):=by omega
 have HV:=Hq hv;clear hv;go_enter Tryz.func145,Tryz.ntmps145;go_wp2_with fail;refine(r01_Valid s (by omega) _).mono ?_;rintro e w1 ⟨rfl,rfl⟩;rw[HV.out];go_wp2_with fail;refine(r01_U64 s h8 _).mono ?_;rintro e w1 ⟨rfl,rfl⟩;go_wp2;go_ret2;exact⟨rfl,rfl⟩
theorem nS_valid_small{n:Nat}(h:n<18446744073709551616):nvalid (nS n)=true:=nvalid_nS.2 (Nat.lt_of_lt_of_le h (Nat.le_trans (by decide) (Nat.pow_le_pow_right (n:=256) (by omega) (show 8≤128 by omega))))
theorem nat_Small_n(n:Nat)(h:n<18446744073709551616)(w:World):Calls Tryz.prog 73 #[.string (nS n)] w (RetQ (.tuple #[.int .u64 n,.bool true]) w):=by
 have:=nat_Small_yes (nS n) (nS_valid_small h) (nS_small_size h) w;rw[num_nS]at this;exact this
theorem r01_Small_n(n:Nat)(h:n<18446744073709551616)(w:World):Calls Tryz.prog 145 #[.string (nS n)] w (RetQ (.tuple #[.int .u64 n,.bool true]) w):=by
 have:=r01_Small_yes (nS n) (nS_valid_small h) (nS_small_size h) w;rw[num_nS]at this;exact this
theorem r01_U64_n(n:Nat)(h:n<18446744073709551616)(w:World):Calls Tryz.prog 66 #[.string (nS n)] w (RetQ (.int .u64 n) w):=by
 have:=r01_U64 (nS n) (nS_small_size h) w;rw[num_nS]at this;exact this
theorem ordB_nS(x y:Nat):ordB (nS x) (nS y)=cmpI x y:=by
 unfold ordB;rw[nS_data,nS_data,ordL_canon (canon_encN _) (canon_encN _),bnat_encN,bnat_encN]
theorem lt128_of_lt8{n:Nat}(h:n<18446744073709551616):n<256 ^ 128:=nvalid_nS.1 (nS_valid_small h)
theorem nS_size63{n:Nat}(h:n<256 ^ 128):(nS n).size≤9223372036854775807:=by have:=nS_size_le.2 h;omega
set_option maxRecDepth 100000
set_option maxHeartbeats 4000000
def zb(n:Nat):Array Value:=madeCells #[.int .u8 0] n
theorem zb_size(n:Nat):(zb n).size=n:=size_madeCells _ _
theorem u8_info:(Tryz.prog.info? 5).map (fun i=>(i.zero,i.size,i.bytes))=some (some (.int .u8 0),1,1):=by kernel_rfl
theorem make_bytes(n:Nat)(hn:n≤281474976710656)(w:World):(Instr.makeSlice 97 (.int .i64 n) (.int .i64 n)).run Tryz.prog w=.ok (.slice (some ⟨w.heap.size,0,none⟩) n n) (w.alloc (.cells (zb n) 5)):=by
 obtain⟨i0,hi,hz0,hz1,hz2⟩:=info_parts u8_info;have h:=run_make (P:=Tryz.prog) w 97 5 i0 (.int .u8 0) Tryz.underlying97 hi hz0 .i64 .i64 (n:Int) (n:Int) (by omega) (Int.le_refl _) (by rw[hz2];omega) (by omega);rw[h,hz1,Int.toNat_natCast,Nat.mul_one];rfl
def OutB(w:World)(B n i v:Nat):Prop:=∃ cur:Array Value,w.heap[B]? =some (.cells cur 5 (0,0))∧cur.size=n∧∀ j,j<i→cur[n - 1 - j]? =some (.int .u8 (dig v j))
theorem OutB.start{w:World}(n v:Nat):OutB (w.alloc (.cells (zb n) 5)) w.heap.size n 0 v:=⟨_,heap_alloc_new _ _,zb_size n,fun j h=>by omega⟩
theorem OutB.cell{w:World}{B n i v:Nat}(h:OutB w B n i v){k:Nat}(hk:k<n):∃ u,w.cell? ⟨B,k,none⟩=some u:=by
 obtain⟨cur,h1,h2,h3⟩:=h;exact⟨_,by rw[Lib.cell_of_heap h1];exact Array.getElem?_eq_getElem (by omega)⟩
theorem OutB.free{w:World}{B n i v:Nat}(h:OutB w B n i v)(k:Nat):w.frozen? ⟨B,k,none⟩=false:=by
 obtain⟨cur,h1,h2,h3⟩:=h;exact Lib.frozen_of_heap h1 k
theorem OutB.step{w:World}{B n i v k:Nat}(h:OutB w B n i v)(hk:k+1+i=n):OutB (w.setCell ⟨B,k,none⟩ (.int .u8 (dig v i))) B n (i+1) v:=by
 obtain⟨cur,h1,h2,h3⟩:=h;refine⟨_,block_setCell h1 _,by rw[Array.size_setIfInBounds,h2],fun j hj=>?_⟩;rw[Array.getElem?_setIfInBounds];by_cases e:j=i
 · subst e;rw[if_pos (by omega),if_pos (by omega)]
 · rw[if_neg (by omega)];exact h3 j (by omega)
theorem OutB.bytes{w:World}{B n v:Nat}(h:OutB w B n n v)(hn:n≤9223372036854775807):BytesAt w (some ⟨B,0,none⟩) n n (beN n v):=by
 obtain⟨cur,h1,h2,h3⟩:=h;refine⟨beN_length n v,Nat.le_refl _,hn,fun _=>⟨B,0,rfl,fun k hk=>?_⟩⟩;rw[Nat.zero_add,Lib.cell_of_heap h1];have:=h3 (n - 1 - k) (by omega);rw[show n - 1 - (n - 1 - k)=k from by omega]at this;show cur[k]? =_;rw[this];unfold byteI;rw[List.getD_eq_getElem?_getD,beN_get n v k hk,Option.getD_some,ofNat_mod_toNat];rfl
theorem OutB.lt{w:World}{B n i v:Nat}(h:OutB w B n i v):B<w.heap.size:=by
 obtain⟨cur,h1,_⟩:=h;exact block_lt h1
theorem nS_size63'(n:Nat)(h:(nS n).size≤1000):(nS n).size≤9223372036854775807:=by omega
theorem nat_Add(x y:Nat)(hx:x<256 ^ 128)(hy:y<256 ^ 128)(w:World):Calls Tryz.prog 135 #[.string (nS x),.string (nS y)] w (Ret (fitR (x+y)) w):=by
 have hv1:=nvalid_nS.2 hx;have hv2:=nvalid_nS.2 hy;have hs1:=nS_size_le.2 hx;have hs2:=nS_size_le.2 hy;have HV1:=Hq hv1;have HV2:=Hq hv2;obtain⟨s,hs⟩:∃ s,nS x=s:=⟨_,rfl⟩;obtain⟨t,ht⟩:∃ t,nS y=t:=⟨_,rfl⟩;rw[hs]at hs1 HV1⊢;rw[ht]at hs2 HV2⊢;have HS:=Hq hs;have HT:=Hq ht;have HX:=Hq (show (nS x).size≤1000 from by rw[hs];omega);have HY:=Hq (show (nS y).size≤1000 from by rw[ht];omega);clear hv1 hv2 hs ht hx hy;obtain⟨m,hm⟩:∃ m:Nat,max (s.size:Int) (t.size:Int)=(m:Int):=⟨max s.size t.size,by omega⟩;have hm1:m≤128:=by omega
 have hmx:x<256 ^ m:=nS_size_le.1 (by rw[HS.out];omega);have hmy:y<256 ^ m:=nS_size_le.1 (by rw[HT.out];omega);have hxy:x+y<256 ^ (m+1):=by rw[Nat.pow_succ];omega
 have HXY:=Hq hxy;clear hmx hmy hxy;have hmk:=fun(w:World)=>make_bytes (m+1) (by omega) w;simp only[Int.natCast_add,Int.natCast_one]at hmk;go_enter Tryz.func135,Tryz.ntmps135;go_wp2_with fail;refine(nat_Valid s (by omega) _).mono ?_;rintro e w1 ⟨rfl,rfl⟩;rw[HV1.out];go_wp2_with fail;refine(nat_Valid t (by omega) _).mono ?_;rintro e w1 ⟨rfl,rfl⟩;rw[HV2.out];go_wp2;clear hmk hm;go_loopw [8,27] (fun c i wr=>∃(k q:Nat),k≤m+1∧i=.int .i64 k∧c=.int .i64 q∧q≤1∧(x+y) / 256 ^ k=x / 256 ^ k+y / 256 ^ k+q∧OutB wr w.heap.size (m+1) k (x+y)∧Below w.heap.size w wr) (fun _ i _=>m+1 - (intOf i).toNat);case atStart=>exact⟨0,0,Nat.zero_le _,rfl,rfl,by omega,by simp,OutB.start _ _,(blr).alloc nlr _⟩
 case round =>
  obtain⟨k,q,hk,rfl,rfl,hq,hc,hO,hB⟩:=hrel;have HO:=Hq hO;have HB:=Hq hB;have HC:=Hq hc;clear hO hB hc;by_cases hlt:k<m+1
  · obtain⟨j,hj⟩:∃ j,j+k=m:=⟨m - k,by omega⟩;have hix:(m:Int) - (k:Int)=(j:Int):=by omega
    have hjm:j<m+1:=by omega
    obtain⟨u,hu⟩:=HO.out.cell hjm;have hf:=HO.out.free j;have hs3:=add_step HC.out;have hd1:=dig_lt x k;have hd2:=dig_lt y k;obtain⟨d1,hd1e⟩:∃ d,dig x k=d:=⟨_,rfl⟩;obtain⟨d2,hd2e⟩:∃ d,dig y k=d:=⟨_,rfl⟩;rw[hd1e]at hs3 hd1;rw[hd2e]at hs3 hd2;have HD1:=Hq hd1e;have HD2:=Hq hd2e;have HS3:=Hq hs3;have HJ:=Hq hj;clear hs3 hd1e hd2e hj;go_wp2_with fail;rw[←HS.out];refine(nat_digit x k HX.out _).mono ?_;rintro e w1 ⟨rfl,rfl⟩;rw[HD1.out,HS.out];go_wp2_with fail;rw[←HT.out];refine(nat_digit y k HY.out _).mono ?_;rintro e w1 ⟨rfl,rfl⟩;rw[HD2.out,HT.out];go_wp2;refine⟨⟨k+1,(d1+d2+q) / 256,by omega,by go_num,by go_num,by omega,HS3.out.1,?_,HB.out.setCell (p:=⟨w.heap.size,j,none⟩) nlr _⟩,by simp[intOf];omega⟩;have h1:=HO.out.step (k:=j) (by have:=HJ.out;omega);rw[HS3.out.2]at h1;rw[show ((q:Int)+((d1:Int)+(d2:Int)))%256=(((d1+d2+q)%256:Nat):Int)from by omega];exact h1
  · obtain rfl:k=m+1:=by omega
    have hby:=HO.out.bytes (by omega)
    have HBY:=Hq hby
    clear hby
    go_wp2_with fail;refine(nat_trimmed _ _ _ _ _ HBY.out).mono ?_;rintro e w1 ⟨rfl,rfl⟩;rw[trim_beN HXY.out];go_wp2_with fail;refine(nat_fitting (x+y) (nS_size63' (x+y) (by have:=nS_size_le.2 HXY.out;omega)) _).mono ?_;rintro e w1 ⟨rfl,rfl⟩;obtain⟨r1,r2,hr⟩:=fitR_form (x+y);rw[hr];have HR:=Hq hr;clear hr;go_wp2;go_ret2;exact⟨by rw[HR.out];rfl,HB.out⟩
theorem r01_Plus(x y:Nat)(hs1:(nS x).size≤500)(hs2:(nS y).size≤500)(w:World):Calls Tryz.prog 68 #[.string (nS x),.string (nS y)] w (Ret (.string (nS (x+y))) w):=by
 obtain⟨s,hs⟩:∃ s,nS x=s:=⟨_,rfl⟩;obtain⟨t,ht⟩:∃ t,nS y=t:=⟨_,rfl⟩;rw[hs]at hs1⊢;rw[ht]at hs2⊢;have HS:=Hq hs;have HT:=Hq ht;have HX:=Hq (show (nS x).size≤1000 from by rw[hs];omega);have HY:=Hq (show (nS y).size≤1000 from by rw[ht];omega);clear hs ht;obtain⟨m,hm⟩:∃ m:Nat,max (s.size:Int) (t.size:Int)=(m:Int):=⟨max s.size t.size,by omega⟩;have hm1:m≤500:=by omega
 have hmx:x<256 ^ m:=nS_size_le.1 (by rw[HS.out];omega);have hmy:y<256 ^ m:=nS_size_le.1 (by rw[HT.out];omega);have hxy:x+y<256 ^ (m+1):=by rw[Nat.pow_succ];omega
 have HXY:=Hq hxy;clear hmx hmy hxy;have hmk:=fun(w:World)=>make_bytes (m+1) (by omega) w;simp only[Int.natCast_add,Int.natCast_one]at hmk;go_enter Tryz.func68,Tryz.ntmps68;go_wp2;clear hmk hm;go_loopw [7,8] (fun c i wr=>∃(k q:Nat),k≤m+1∧i=.int .i64 k∧c=.int .i64 q∧q≤1∧(x+y) / 256 ^ k=x / 256 ^ k+y / 256 ^ k+q∧OutB wr w.heap.size (m+1) k (x+y)∧Below w.heap.size w wr) (fun _ i _=>m+1 - (intOf i).toNat);case atStart=>exact⟨0,0,Nat.zero_le _,rfl,rfl,by omega,by simp,OutB.start _ _,(blr).alloc nlr _⟩
 case round =>
  obtain⟨k,q,hk,rfl,rfl,hq,hc,hO,hB⟩:=hrel;have HO:=Hq hO;have HB:=Hq hB;have HC:=Hq hc;clear hO hB hc;by_cases hlt:k<m+1
  · obtain⟨j,hj⟩:∃ j,j+k=m:=⟨m - k,by omega⟩;have hix:(m:Int) - (k:Int)=(j:Int):=by omega
    have hjm:j<m+1:=by omega
    obtain⟨u,hu⟩:=HO.out.cell hjm;have hf:=HO.out.free j;have hs3:=add_step HC.out;have hd1:=dig_lt x k;have hd2:=dig_lt y k;obtain⟨d1,hd1e⟩:∃ d,dig x k=d:=⟨_,rfl⟩;obtain⟨d2,hd2e⟩:∃ d,dig y k=d:=⟨_,rfl⟩;rw[hd1e]at hs3 hd1;rw[hd2e]at hs3 hd2;have HD1:=Hq hd1e;have HD2:=Hq hd2e;have HS3:=Hq hs3;have HJ:=Hq hj;clear hs3 hd1e hd2e hj;go_wp2_with fail;rw[←HS.out];refine(r01_at x k HX.out _).mono ?_;rintro e w1 ⟨rfl,rfl⟩;rw[HD1.out,HS.out];go_wp2_with fail;rw[←HT.out];refine(r01_at y k HY.out _).mono ?_;rintro e w1 ⟨rfl,rfl⟩;rw[HD2.out,HT.out];go_wp2;refine⟨⟨k+1,(d1+d2+q) / 256,by omega,by go_num,by go_num,by omega,HS3.out.1,?_,HB.out.setCell (p:=⟨w.heap.size,j,none⟩) nlr _⟩,by simp[intOf];omega⟩;have h1:=HO.out.step (k:=j) (by have:=HJ.out;omega);rw[HS3.out.2]at h1;exact h1
  · obtain rfl:k=m+1:=by omega
    have hby:=HO.out.bytes (by omega)
    have HBY:=Hq hby
    clear hby
    go_wp2_with fail;refine(r01_trim _ _ _ _ _ HBY.out).mono ?_;rintro e w1 ⟨rfl,rfl⟩;rw[trim_beN HXY.out];go_wp2;go_ret;exact⟨rfl,HB.out⟩
theorem nat_less(x y:Nat)(hs1:(nS x).size≤500)(hxy:y≤x)(w:World):Calls Tryz.prog 56 #[.string (nS x),.string (nS y)] w (Ret (.string (nS (x - y))) w):=by
 have hle:(nS y).size≤(nS x).size:=by rw[nS_size,nS_size];exact encN_length_mono hxy
 obtain⟨s,hs⟩:∃ s,nS x=s:=⟨_,rfl⟩;obtain⟨t,ht⟩:∃ t,nS y=t:=⟨_,rfl⟩;rw[hs]at hs1 hle⊢;rw[ht]at hle⊢;have HS:=Hq hs;have HT:=Hq ht;have HX:=Hq (show (nS x).size≤1000 from by rw[hs];omega);have HY:=Hq (show (nS y).size≤1000 from by rw[ht];omega);clear hs ht;obtain⟨m,hm⟩:∃ m:Nat,s.size=m:=⟨_,rfl⟩;rw[hm]at hs1 hle;have hmx:x<256 ^ m:=nS_size_le.1 (by rw[HS.out,hm];exact Nat.le_refl _);have hxy2:x - y<256 ^ m:=by omega
 have HXY:=Hq hxy2;have HLE:=Hq hxy;clear hmx hxy2 hxy;have hmk:=fun(w:World)=>make_bytes m (by omega) w;go_enter Tryz.func56,Tryz.ntmps56;go_wp2;have HM:=Hq hm;clear hmk hm;go_loopw [7,15] (fun c i wr=>∃(k q:Nat),k≤m∧i=.int .i64 k∧c=.int .i64 q∧q≤1∧x / 256 ^ k=y / 256 ^ k+(x - y) / 256 ^ k+q∧OutB wr w.heap.size m k (x - y)∧Below w.heap.size w wr) (fun _ i _=>m - (intOf i).toNat);case atStart=>exact⟨0,0,Nat.zero_le _,rfl,rfl,by omega,by have:=HLE.out;simp;omega,OutB.start _ _,(blr).alloc nlr _⟩
 case round =>
  obtain⟨k,q,hk,rfl,rfl,hq,hc,hO,hB⟩:=hrel;have HO:=Hq hO;have HB:=Hq hB;have HC:=Hq hc;clear hO hB hc;by_cases hlt:k<m
  · obtain⟨j,hj⟩:∃ j,j+k+1=m:=⟨m - k - 1,by omega⟩;have hix:(m:Int) - 1 - (k:Int)=(j:Int):=by omega
    have hjm:j<m:=by omega
    obtain⟨u,hu⟩:=HO.out.cell hjm;have hf:=HO.out.free j;have hs3:=sub_step HLE.out HC.out hq;have hd1:=dig_lt x k;have hd2:=dig_lt y k;obtain⟨d1,hd1e⟩:∃ d,dig x k=d:=⟨_,rfl⟩;obtain⟨d2,hd2e⟩:∃ d,dig y k=d:=⟨_,rfl⟩;rw[hd1e]at hs3 hd1;rw[hd2e]at hs3 hd2;have HD1:=Hq hd1e;have HD2:=Hq hd2e;have HS3:=Hq hs3;have HJ:=Hq hj;clear hs3 hd1e hd2e hj;by_cases hneg:d2+q≤d1;all_goals
     go_wp2_with fail;rw[←HS.out];refine(nat_digit x k HX.out _).mono ?_;rintro e w1 ⟨rfl,rfl⟩;rw[HD1.out,HS.out];go_wp2_with fail;rw[←HT.out];refine(nat_digit y k HY.out _).mono ?_;rintro e w1 ⟨rfl,rfl⟩;rw[HD2.out,HT.out];go_wp2
    · refine⟨⟨k+1,0,by omega,by go_num,by go_num,by omega,(HS3.out.1 hneg).2,?_,HB.out.setCell (p:=⟨w.heap.size,j,none⟩) nlr _⟩,by simp[intOf];omega⟩;have h1:=HO.out.step (k:=j) (by have:=HJ.out;omega);rw[(HS3.out.1 hneg).1]at h1;have e1:((d1:Int) - (d2:Int) - (q:Int))=((d1 - d2 - q:Nat):Int):=by omega
      first | rw[e1] | (rw[show ((d1:Int) - (d2:Int) - (q:Int))%256=((d1 - d2 - q:Nat):Int)from by omega])
      exact h1
    · refine⟨⟨k+1,1,by omega,by go_num,by go_num,by omega,(HS3.out.2 (by omega)).2,?_,HB.out.setCell (p:=⟨w.heap.size,j,none⟩) nlr _⟩,by simp[intOf];omega⟩;have h1:=HO.out.step (k:=j) (by have:=HJ.out;omega);rw[(HS3.out.2 (by omega)).1]at h1;have e1:((d1:Int) - (d2:Int) - (q:Int)+256)=((d1+256 - d2 - q:Nat):Int):=by omega
      first | rw[e1] | (rw[show ((d1:Int) - (d2:Int) - (q:Int)+256)%256=((d1+256 - d2 - q:Nat):Int)from by omega])
      exact h1
  · obtain rfl:k=m:=by omega
    have hby:=HO.out.bytes (by omega)
    have HBY:=Hq hby
    clear hby
    go_wp2_with fail;refine(nat_trimmed _ _ _ _ _ HBY.out).mono ?_;rintro e w1 ⟨rfl,rfl⟩;rw[trim_beN HXY.out];go_wp2;go_ret;exact⟨rfl,HB.out⟩
theorem r01_Minus(x y:Nat)(hs1:(nS x).size≤500)(hxy:y≤x)(w:World):Calls Tryz.prog 40 #[.string (nS x),.string (nS y)] w (Ret (.string (nS (x - y))) w):=by
 have hle:(nS y).size≤(nS x).size:=by rw[nS_size,nS_size];exact encN_length_mono hxy
 obtain⟨s,hs⟩:∃ s,nS x=s:=⟨_,rfl⟩;obtain⟨t,ht⟩:∃ t,nS y=t:=⟨_,rfl⟩;rw[hs]at hs1 hle⊢;rw[ht]at hle⊢;have HS:=Hq hs;have HT:=Hq ht;have HX:=Hq (show (nS x).size≤1000 from by rw[hs];omega);have HY:=Hq (show (nS y).size≤1000 from by rw[ht];omega);clear hs ht;obtain⟨m,hm⟩:∃ m:Nat,s.size=m:=⟨_,rfl⟩;rw[hm]at hs1 hle;have hmx:x<256 ^ m:=nS_size_le.1 (by rw[HS.out,hm];exact Nat.le_refl _);have hxy2:x - y<256 ^ m:=by omega
 have HXY:=Hq hxy2;have HLE:=Hq hxy;clear hmx hxy2 hxy;have hmk:=fun(w:World)=>make_bytes m (by omega) w;go_enter Tryz.func40,Tryz.ntmps40;go_wp2;have HM:=Hq hm;clear hmk hm;go_loopw [7,8] (fun c i wr=>∃(k q:Nat),k≤m∧i=.int .i64 k∧c=.int .i64 q∧q≤1∧x / 256 ^ k=y / 256 ^ k+(x - y) / 256 ^ k+q∧OutB wr w.heap.size m k (x - y)∧Below w.heap.size w wr) (fun _ i _=>m - (intOf i).toNat);case atStart=>exact⟨0,0,Nat.zero_le _,rfl,rfl,by omega,by have:=HLE.out;simp;omega,OutB.start _ _,(blr).alloc nlr _⟩
 case round =>
  obtain⟨k,q,hk,rfl,rfl,hq,hc,hO,hB⟩:=hrel;have HO:=Hq hO;have HB:=Hq hB;have HC:=Hq hc;clear hO hB hc;by_cases hlt:k<m
  · obtain⟨j,hj⟩:∃ j,j+k+1=m:=⟨m - k - 1,by omega⟩;have hix:(m:Int) - 1 - (k:Int)=(j:Int):=by omega
    have hjm:j<m:=by omega
    obtain⟨u,hu⟩:=HO.out.cell hjm;have hf:=HO.out.free j;have hs3:=sub_step HLE.out HC.out hq;have hd1:=dig_lt x k;have hd2:=dig_lt y k;obtain⟨d1,hd1e⟩:∃ d,dig x k=d:=⟨_,rfl⟩;obtain⟨d2,hd2e⟩:∃ d,dig y k=d:=⟨_,rfl⟩;rw[hd1e]at hs3 hd1;rw[hd2e]at hs3 hd2;have HD1:=Hq hd1e;have HD2:=Hq hd2e;have HS3:=Hq hs3;have HJ:=Hq hj;clear hs3 hd1e hd2e hj;by_cases hneg:d2+q≤d1;all_goals
     go_wp2_with fail;rw[←HS.out];refine(r01_at x k HX.out _).mono ?_;rintro e w1 ⟨rfl,rfl⟩;rw[HD1.out,HS.out];go_wp2_with fail;rw[←HT.out];refine(r01_at y k HY.out _).mono ?_;rintro e w1 ⟨rfl,rfl⟩;rw[HD2.out,HT.out];go_wp2
    · refine⟨⟨k+1,0,by omega,by go_num,by go_num,by omega,(HS3.out.1 hneg).2,?_,HB.out.setCell (p:=⟨w.heap.size,j,none⟩) nlr _⟩,by simp[intOf];omega⟩;have h1:=HO.out.step (k:=j) (by have:=HJ.out;omega);rw[(HS3.out.1 hneg).1]at h1;have e1:((d1:Int) - (d2:Int) - (q:Int))=((d1 - d2 - q:Nat):Int):=by omega
      first | rw[e1] | (rw[show ((d1:Int) - (d2:Int) - (q:Int))%256=((d1 - d2 - q:Nat):Int)from by omega])
      exact h1
    · refine⟨⟨k+1,1,by omega,by go_num,by go_num,by omega,(HS3.out.2 (by omega)).2,?_,HB.out.setCell (p:=⟨w.heap.size,j,none⟩) nlr _⟩,by simp[intOf];omega⟩;have h1:=HO.out.step (k:=j) (by have:=HJ.out;omega);rw[(HS3.out.2 (by omega)).1]at h1;have e1:((d1:Int) - (d2:Int) - (q:Int)+256)=((d1+256 - d2 - q:Nat):Int):=by omega
      first | rw[e1] | (rw[show ((d1:Int) - (d2:Int) - (q:Int)+256)%256=((d1+256 - d2 - q:Nat):Int)from by omega])
      exact h1
  · obtain rfl:k=m:=by omega
    have hby:=HO.out.bytes (by omega)
    have HBY:=Hq hby
    clear hby
    go_wp2_with fail;refine(r01_trim _ _ _ _ _ HBY.out).mono ?_;rintro e w1 ⟨rfl,rfl⟩;rw[trim_beN HXY.out];go_wp2;go_ret;exact⟨rfl,HB.out⟩
theorem sqA{α:Type _}(l:List α)(i:Nat)(a:α):l.toArray.setIfInBounds i a=(l.set i a).toArray:=List.setIfInBounds_toArray _ _ _
theorem sqB{α:Type _}(a b:α)(l:List α):(a::l).set 0 b=b::l:=rfl
theorem sqC{α:Type _}(a b:α)(l:List α)(n:Nat):(a::l).set (n+1) b=a::l.set n b:=rfl
section
variable {P : Program} {ops : Array Oper} {Q : Exit → Act → World → Prop} {md : Region.Mode} {S : World → Prop} {k : Nat}
def Down(md:Region.Mode)(ops:Array Oper)(listed:Array Bool):Prop:=
 listed.size=ops.size∧∀ j o,ops[j]? =some o→listed.getD j false=true→∀ e∈o.after,Region.binds md e=true→listed.getD e.on false=true
theorem getD_repl_false(n j:Nat):(Array.replicate n false).getD j false=false:=by
 rw[Array.getD_eq_getD_getElem?,Array.getElem?_replicate];split<;>rfl
theorem Down.start:Down md ops (Array.replicate ops.size false):=by
 refine⟨Array.size_replicate,fun j o _ h=>?_⟩;rw[getD_repl_false]at h;cases h
theorem Down.beyond{listed:Array Bool}(h:Down md ops listed){j:Nat}(hj:ops.size≤j):listed.getD j false=false:=by
 rw[Array.getD_eq_getD_getElem?,Array.getElem?_eq_none (by rw[h.1];exact hj)];rfl
theorem getD_agree{listed:Array Bool}{j:Nat}(h:listed.getD j true=false):listed.getD j false=false:=by
 rw[Array.getD_eq_getD_getElem?]at *
 cases e:listed[j]? with
 | none=>rfl
 | some b=>rw[e]at h;exact h
theorem getD_set_self{listed:Array Bool}{i:Nat}(h:listed.getD i true=false):(listed.setIfInBounds i true).getD i false=true:=by
 rw[Array.getD_eq_getD_getElem?]at *;have hi:i<listed.size:=by
  rcases Nat.lt_or_ge i listed.size with h' | h'
  · exact h'
  · rw[Array.getElem?_eq_none h']at h;cases h
 rw[Array.getElem?_setIfInBounds_self];rw[if_pos hi];rfl
theorem Down.set{listed:Array Bool}(h:Down md ops listed){i:Nat}(hi:i∈Region.ready md ops listed):Down md ops (listed.setIfInBounds i true):=by
 refine⟨by rw[Array.size_setIfInBounds];exact h.1,fun j o hj hl e he hb=>?_⟩;by_cases hij:i=j
 · subst hij;obtain⟨_,o',ho',hall⟩:=mem_ready.1 hi;rw[hj]at ho';cases ho';exact getD_set_true (hall e he hb)
 · rw[getD_set_ne false hij]at hl;exact getD_set_true (h.2 j o hj hl e he hb)
def reachB(md:Region.Mode)(ops:Array Oper):Nat→Nat→Nat→Bool
 | 0,_,_=>false
 | n+1,k,i=>match ops[k]? with
  | none=>false
  | some o=>o.after.any fun e=>Region.binds md e&&(e.on==i||reachB md ops n e.on i)
theorem reachB_spec{listed:Array Bool}(h:Down md ops listed):∀(n k i:Nat),reachB md ops n k i=true→listed.getD k false=true→listed.getD i false=true
 | 0,_,_,hr,_=>by cases hr
 | n+1,k,i,hr,hk=>by
  unfold reachB at hr
  cases ho:ops[k]? with
  | none=>rw[ho]at hr;cases hr
  | some o =>
   rw[ho]at hr;simp only[Array.any_eq_true',Bool.and_eq_true,Bool.or_eq_true,beq_iff_eq]at hr;obtain⟨e,he,hb,h1 | h1⟩:=hr
   · rw[←h1];exact h.2 k o ho hk e he hb
   · exact reachB_spec h n e.on i h1 (h.2 k o ho hk e he hb)
def wpAnyK(P:Program)(md:Region.Mode)(ops:Array Oper)(Q:Exit→Act→World→Prop)(k:Nat)(S:World→Prop):Nat→Array Bool→Act→World→Prop
 | 0,listed,a,w=>Region.ready md ops listed=[]∧Q .normal a w
 | fuel+1,listed,a,w =>
  (Region.ready md ops listed=[]→Q .normal a w) ∧
  ∀ i∈Region.ready md ops listed,wpOp P ops Q i (fun a' w'=>((listed.setIfInBounds i true).getD k false=false→S w')∧wpAnyK P md ops Q k S fuel (listed.setIfInBounds i true) a' w') a w
theorem wpAny_of_K:∀(fuel:Nat) (listed:Array Bool) (a:Act) (w:World),wpAnyK P md ops Q k S fuel listed a w→wpAny P md ops Q fuel listed a w
 | 0,_,_,_,h=>h
 | fuel+1,_,_,_,h=>⟨h.1,fun i hi=>wpOp_mono (fun a' w' h'=>wpAny_of_K fuel _ a' w' h'.2) (h.2 i hi)⟩
theorem wpAnyK_first{i:Nat}{oi:Oper}{v:Value}{T:World→Prop}(hi:ops[i]? =some oi)(hsel:∀(j:Nat) (o:Oper) cs b,ops[j]? =some o→o.op≠.select cs b)
 (hT:∀(listed:Array Bool) (w:World),Down md ops listed→listed.getD i true=false→(listed.getD k false=false→S w)→T w) (hki:k≠i)
 (hQ:∀ c a w,Q (.panic c) (a.put oi.dst v) w→Q (.panic c) a w) :
 ∀(fuel:Nat) (listed:Array Bool) (a:Act) (w:World),Down md ops listed →
  (∀ j oj,ops[j]? =some oj→j≠i→listed.getD j true=false→(∀ e∈oj.after,Region.binds md e=true→e.on≠i)→oi.apart ops oj=true) →
  i∈Region.ready md ops listed→YieldsIf P ops T oi v a→(listed.getD k false=false→S w) →
  wpAnyK P md ops Q k S fuel (listed.setIfInBounds i true) (a.put oi.dst v) w→wpAnyK P md ops Q k S (fuel+1) listed a w:=by
 intro fuel
 induction fuel with
 | zero =>
  intro listed a w hD _ hr hy hS H;refine⟨fun h=>(by rw[h]at hr;cases hr),fun j hj=>?_⟩;have hTw:=hT listed w hD (mem_ready.1 hr).1 hS;by_cases hji:j=i
  · subst hji;exact hy.wpOp hi hTw ⟨fun h=>hS (by rw[getD_set_ne false (Ne.symm hki)]at h;exact h),H⟩
  · have:=ready_mono hj hji;rw[H.1]at this;cases this
 | succ fuel ih =>
  intro listed a w hD hfree hr hy hS H;refine⟨fun h=>(by rw[h]at hr;cases hr),fun j hj=>?_⟩;have hTw:=hT listed w hD (mem_ready.1 hr).1 hS;by_cases hji:j=i
  · subst hji;exact hy.wpOp hi hTw ⟨fun h=>hS (by rw[getD_set_ne false (Ne.symm hki)]at h;exact h),H⟩
  · have h1:=H.2 j (ready_mono hj hji);obtain⟨hjun,oj,hoj,hall⟩:=mem_ready.1 hj;have hnot:∀ e∈oj.after,Region.binds md e=true→e.on≠i:=fun e he hb heq=>by
     have h1:=hall e he hb;have h0:=getD_agree (mem_ready.1 hr).1;rw[heq,h0]at h1;cases h1
    have h2:=wpOp_putIf hoj (hfree j oj hoj hji hjun hnot) (fun cs b=>hsel i oi cs b hi) (fun cs b=>hsel j oj cs b hoj) hQ hy h1;have hfree':∀ m om,ops[m]? =some om→m≠i→(listed.setIfInBounds j true).getD m true=false →
     (∀ e∈om.after,Region.binds md e=true→e.on≠i)→oi.apart ops om=true:=fun m om hm hmi hun hno=>by
     refine hfree m om hm hmi ?_ hno;by_cases hjm:j=m
     · subst hjm;exact hjun
     · rw[getD_set_ne true hjm]at hun;exact hun
    refine wpOp_mono (fun a' w' h3=>?_) h2;have hS':(listed.setIfInBounds j true).getD k false=false→S w':=fun h=>h3.2.1 (by
     rw[Array.setIfInBounds_comm _ _ (Ne.symm hji),getD_set_ne false (Ne.symm hki)]
     exact h)
    refine⟨hS',ih (listed.setIfInBounds j true) a' w' (hD.set hj) hfree' (ready_mono hr (Ne.symm hji)) h3.1 hS' ?_⟩;rw[Array.setIfInBounds_comm _ _ hji];exact h3.2.2
def stepB(md:Region.Mode)(ops:Array Oper)(listed:Array Bool)(k i:Nat):Bool:=
 Region.noSelect ops&&Region.free md ops listed i&&(Region.ready md ops listed).contains i && !(k==i)
theorem stepB_spec{listed:Array Bool}{i:Nat}(h:stepB md ops listed k i=true):Region.noSelect ops=true∧Region.free md ops listed i=true∧i∈Region.ready md ops listed∧k≠i:=by
 simp only[stepB,Bool.and_eq_true,Bool.not_eq_true',beq_eq_false_iff_ne,List.contains_iff_mem]at h;exact⟨h.1.1.1,h.1.1.2,h.1.2,h.2⟩
theorem wpAnyK_take{i:Nat}{oi:Oper}{v:Value}{fuel:Nat}{listed:Array Bool}{a:Act}{w:World}(hi:ops[i]? =some oi)(hst:stepB md ops listed k i=true)(hre:reachB md ops ops.size k i=true)
 (hQ:∀ c a w,Q (.panic c) (a.put oi.dst v) w→Q (.panic c) a w) (hD:Down md ops listed) (hS:S w) (hy:YieldsIf P ops S oi v a)
 (h:Down md ops (listed.setIfInBounds i true)→wpAnyK P md ops Q k S fuel (listed.setIfInBounds i true) (a.put oi.dst v) w):wpAnyK P md ops Q k S (fuel+1) listed a w:=by
 obtain⟨hs,hf,hr',hki'⟩:=stepB_spec hst;refine wpAnyK_first (T:=S) hi (Region.noSelect_spec hs) (fun l w' hD' hl hS'=>hS' ?_) hki' hQ fuel listed a w hD (Region.free_spec hi hf) hr' hy (fun _=>hS) (h (hD.set hr'))
 cases hk:l.getD k false with
 | false=>rfl
 | true=>rw[←getD_agree hl];exact(reachB_spec hD' _ k i hre hk).symm
theorem wpAnyK_takeS{i:Nat}{oi:Oper}{v:Value}{fuel:Nat}{listed:Array Bool}{a:Act}{w:World}(hi:ops[i]? =some oi)(hst:stepB md ops listed k i=true)(hre:decide (ops.size≤k)=true)
 (hQ:∀ c a w,Q (.panic c) (a.put oi.dst v) w→Q (.panic c) a w) (hD:Down md ops listed) (hS:S w) (hy:YieldsIf P ops S oi v a)
 (h:Down md ops (listed.setIfInBounds i true)→wpAnyK P md ops Q k S fuel (listed.setIfInBounds i true) (a.put oi.dst v) w):wpAnyK P md ops Q k S (fuel+1) listed a w:=by
 obtain⟨hs,hf,hr',hki'⟩:=stepB_spec hst;exact wpAnyK_first (T:=S) hi (Region.noSelect_spec hs) (fun l w' hD' hl hS'=>hS' (hD'.beyond (of_decide_eq_true hre))) hki' hQ fuel listed a w hD (Region.free_spec hi hf) hr' hy (fun _=>hS) (h (hD.set hr'))
theorem wpAnyK_pure{i:Nat}{oi:Oper}{v:Value}{fuel:Nat}{listed:Array Bool}{a:Act}{w:World}(hi:ops[i]? =some oi)(hst:stepB md ops listed k i=true)
 (hQ:∀ c a w,Q (.panic c) (a.put oi.dst v) w→Q (.panic c) a w) (hD:Down md ops listed) (hS:S w) (hy:YieldsIf P ops (fun _=>True) oi v a)
 (h:Down md ops (listed.setIfInBounds i true)→wpAnyK P md ops Q k S fuel (listed.setIfInBounds i true) (a.put oi.dst v) w):wpAnyK P md ops Q k S (fuel+1) listed a w:=by
 obtain⟨hs,hf,hr',hki'⟩:=stepB_spec hst;exact wpAnyK_first (T:=fun _=>True) hi (Region.noSelect_spec hs) (fun _ _ _ _ _=>trivial) hki' hQ fuel listed a w hD (Region.free_spec hi hf) hr' hy (fun _=>hS) (h (hD.set hr'))
theorem wpAnyK_pureT{i:Nat}{oi:Oper}{v:Value}{fuel:Nat}{listed:Array Bool}{a:Act}{w:World}(hi:ops[i]? =some oi)(hst:stepB md ops listed k i=true)(hk:listed.getD k false=true)
 (hQ:∀ c a w,Q (.panic c) (a.put oi.dst v) w→Q (.panic c) a w) (hD:Down md ops listed) (hy:YieldsIf P ops (fun _=>True) oi v a)
 (h:Down md ops (listed.setIfInBounds i true)→wpAnyK P md ops Q k S fuel (listed.setIfInBounds i true) (a.put oi.dst v) w):wpAnyK P md ops Q k S (fuel+1) listed a w:=by
 obtain⟨hs,hf,hr',hki'⟩:=stepB_spec hst;exact wpAnyK_first (T:=fun _=>True) hi (Region.noSelect_spec hs) (fun _ _ _ _ _=>trivial) hki' hQ fuel listed a w hD (Region.free_spec hi hf) hr' hy (fun h0=>by rw[hk]at h0;cases h0) (h (hD.set hr'))
theorem wp_other_end{o:Oper}{a:Act}{w:World}{K:Act→World→Prop}{Q':Exit→Act→World→Prop}(hQ:∀ c a w,Q' (.panic c) a w→Q (.panic c) a w)(hO:LetsOut Q'→LetsOut Q)
 (h:o.wp P a w K Q'):o.wp P a w K Q:=by
 unfold Oper.wp at *;generalize (execOp a.eval o).run P w=r at *
 cases r with
 | ok n w' =>
  cases n<;>simp only[Oper.upon]at h⊢;case value u=>exact h
  case skip=>exact h
  case defer d=>exact h
  case enter f args =>
   refine Calls.mono h fun e w'' he=>?_
   cases e with
   | returned u=>exact he
   | panicked c=>exact hQ _ _ _ he
   | outgrown=>exact hO he
  case row row args=>exact h
 | halt x w' =>
  cases x<;>simp only[Oper.upon]at h⊢;case panic u=>exact hQ _ _ _ h
def EndK(K:Act→World→Prop)(Q:Exit→Act→World→Prop):Exit→Act→World→Prop
 | .normal,a,w=>K a w
 | e,a,w=>Q e a w
def StepK(P:Program)(md:Region.Mode)(ops:Array Oper)(Q:Exit→Act→World→Prop)(k:Nat)(S:World→Prop)(i:Nat)(oi:Oper)(fuel:Nat)(listed:Array Bool)(a:Act)(w:World):Prop:=
 ∀ K:Act→World→Prop,(∀ a' w',S w'→(S w'→Down md ops (listed.setIfInBounds i true)→wpAnyK P md ops Q k S fuel (listed.setIfInBounds i true) a' w')→K a' w')→wpList P ops (EndK K Q) [oi] a w
theorem step_of{i:Nat}{oi:Oper}{fuel:Nat}{listed:Array Bool}{a:Act}{w:World}(hi':i∈Region.ready md ops listed)(hi:ops[i]? =some oi)(hD:Down md ops listed)(R:World→Prop)(hR:∀ w',R w'→(listed.setIfInBounds i true).getD k false=false→S w')
 (h:∀ K:Act→World→Prop,(∀ a' w',R w'→(R w'→Down md ops (listed.setIfInBounds i true)→wpAnyK P md ops Q k S fuel (listed.setIfInBounds i true) a' w')→K a' w')→wpList P ops (EndK K Q) [oi] a w) :
 wpOp P ops Q i (fun a' w'=>((listed.setIfInBounds i true).getD k false=false→S w')∧wpAnyK P md ops Q k S fuel (listed.setIfInBounds i true) a' w') a w:=by
 have h1:=h (fun a' w'=>((listed.setIfInBounds i true).getD k false=false→S w')∧wpAnyK P md ops Q k S fuel (listed.setIfInBounds i true) a' w') (fun a' w' hS hh=>⟨hR w' hS,hh hS (hD.set hi')⟩);have hO:LetsOut (EndK (fun a' w'=>((listed.setIfInBounds i true).getD k false=false→S w')∧wpAnyK P md ops Q k S fuel (listed.setIfInBounds i true) a' w') Q)→LetsOut Q:=fun⟨a',w',hh⟩=>⟨a',w',hh⟩;unfold wpList at h1;unfold wpOp;simp only[hi];split
 · rename_i hw;rw[if_pos hw]at h1;rcases h1 with h1 | ⟨h2,h3⟩
   · exact .inl (wp_other_end (fun _ _ _ hh=>hh) hO h1)
   · exact .inr ⟨h2,hO h3⟩
 · rename_i hw;rw[if_neg hw]at h1;exact h1
theorem wpAnyK_oneT{i:Nat}{oi:Oper}{fuel:Nat}{listed:Array Bool}{a:Act}{w:World}(hr:Region.ready md ops listed=[i])(hi:ops[i]? =some oi)(hD:Down md ops listed)(hk:(listed.setIfInBounds i true).getD k false=true)
 (h:∀ K:Act→World→Prop,(∀ a' w',(Down md ops (listed.setIfInBounds i true)→wpAnyK P md ops Q k S fuel (listed.setIfInBounds i true) a' w')→K a' w')→wpList P ops (EndK K Q) [oi] a w):wpAnyK P md ops Q k S (fuel+1) listed a w:=by
 refine⟨fun h0=>(by rw[hr]at h0;cases h0),fun j hj=>?_⟩;have hi':i∈Region.ready md ops listed:=by rw[hr];exact List.mem_singleton.2 rfl
 rw[hr]at hj;obtain rfl:=List.mem_singleton.1 hj;exact step_of hi' hi hD (fun _=>True) (fun _ _ h0=>by rw[hk]at h0;cases h0) (fun K hK=>h K fun a' w' hh=>hK a' w' trivial fun _=>hh)
theorem wpAnyK_one{i:Nat}{oi:Oper}{fuel:Nat}{listed:Array Bool}{a:Act}{w:World}(hr:Region.ready md ops listed=[i])(hi:ops[i]? =some oi)(hD:Down md ops listed)
 (h:∀ K:Act→World→Prop,(∀ a' w',S w'→(S w'→Down md ops (listed.setIfInBounds i true)→wpAnyK P md ops Q k S fuel (listed.setIfInBounds i true) a' w')→K a' w')→wpList P ops (EndK K Q) [oi] a w):wpAnyK P md ops Q k S (fuel+1) listed a w:=by
 refine⟨fun h0=>(by rw[hr]at h0;cases h0),fun j hj=>?_⟩;have hi':i∈Region.ready md ops listed:=by rw[hr];exact List.mem_singleton.2 rfl
 rw[hr]at hj;obtain rfl:=List.mem_singleton.1 hj;exact step_of hi' hi hD S (fun _ h _=>h) h
theorem wpAnyK_two{i i':Nat}{oi oi':Oper}{fuel:Nat}{listed:Array Bool}{a:Act}{w:World}(hr:Region.ready md ops listed=[i,i'])(hi:ops[i]? =some oi)(hi':ops[i']? =some oi')(hD:Down md ops listed)
 (h:StepK P md ops Q k S i oi fuel listed a w) (h':StepK P md ops Q k S i' oi' fuel listed a w):wpAnyK P md ops Q k S (fuel+1) listed a w:=by
 refine⟨fun h0=>(by rw[hr]at h0;cases h0),fun j hj=>?_⟩;have hj':=hj;rw[hr]at hj;simp only[List.mem_cons,List.mem_nil_iff,or_false]at hj;rcases hj with rfl | rfl
 · exact step_of hj' hi hD S (fun _ h _=>h) h
 · exact step_of hj' hi' hD S (fun _ h _=>h) h'
theorem wpAnyK_three{i i' i'':Nat}{oi oi' oi'':Oper}{fuel:Nat}{listed:Array Bool}{a:Act}{w:World}(hr:Region.ready md ops listed=[i,i',i''])(hi:ops[i]? =some oi)(hi':ops[i']? =some oi')(hi'':ops[i'']? =some oi'')(hD:Down md ops listed)
 (h:StepK P md ops Q k S i oi fuel listed a w) (h':StepK P md ops Q k S i' oi' fuel listed a w) (h'':StepK P md ops Q k S i'' oi'' fuel listed a w):wpAnyK P md ops Q k S (fuel+1) listed a w:=by
 refine⟨fun h0=>(by rw[hr]at h0;cases h0),fun j hj=>?_⟩;have hj':=hj;rw[hr]at hj;simp only[List.mem_cons,List.mem_nil_iff,or_false]at hj;rcases hj with rfl | rfl | rfl
 · exact step_of hj' hi hD S (fun _ h _=>h) h
 · exact step_of hj' hi' hD S (fun _ h _=>h) h'
 · exact step_of hj' hi'' hD S (fun _ h _=>h) h''
theorem wpAnyK_done{listed:Array Bool}{a:Act}{w:World}(hr:Region.ready md ops listed=[])(h:Q .normal a w) :
 ∀ fuel,wpAnyK P md ops Q k S fuel listed a w
 | 0=>⟨hr,h⟩
 | _+1=>⟨fun _=>h,by rw[hr];simp⟩
theorem wp_region_K(k:Nat)(S:World→Prop){id:Nat}{a:Act}{w:World}(hm:P.follows .mixedOrders=true)
 (h:Down .any ops (Array.replicate ops.size false)→wpAnyK P .any ops Q k S ops.size (Array.replicate ops.size false) a w.drew):(Code.region id ops true).wp P Q a w:=
 wp_region_any hm (wpAny_of_K _ _ _ _ (h Down.start))
end
section
variable {P : Program} {ops : Array Oper} {Q : Exit → Act → World → Prop} {md : Region.Mode} {S : World → Prop} {k : Nat}
theorem qP{oi:Oper}{v:Value}{listed:Array Bool}{a:Act}{w:World}(i fuel:Nat)(hi:ops[i]? =some oi)(hD:Down md ops listed)(hS:S w)(h:Down md ops (listed.setIfInBounds i true)→wpAnyK P md ops Q k S fuel (listed.setIfInBounds i true) (a.put oi.dst v) w)(hy:∀ w',True→(execOp a.eval oi).run P w'=.ok (.value v) w':=by intro w' _;go_simp;with_reducible rfl)(hst:stepB md ops listed k i=true:=by kernel_rfl)(hg:Region.wanted oi (yielded ops a.tmps)=true:=by kernel_rfl)(hQ:∀ c a w,Q (.panic c) (a.put oi.dst v) w→Q (.panic c) a w:=by exact fun _ _ _ h=>h):wpAnyK P md ops Q k S (fuel+1) listed a w:=wpAnyK_pure hi hst hQ hD hS (.inl ⟨hg,hy⟩) h
theorem qT{oi:Oper}{v:Value}{listed:Array Bool}{a:Act}{w:World}(i fuel:Nat)(hi:ops[i]? =some oi)(hD:Down md ops listed)(hS:S w)(hy:∀ w',S w'→(execOp a.eval oi).run P w'=.ok (.value v) w')(h:Down md ops (listed.setIfInBounds i true)→wpAnyK P md ops Q k S fuel (listed.setIfInBounds i true) (a.put oi.dst v) w)(hst:stepB md ops listed k i=true:=by kernel_rfl)(hre:reachB md ops ops.size k i=true:=by kernel_rfl)(hg:Region.wanted oi (yielded ops a.tmps)=true:=by kernel_rfl)(hQ:∀ c a w,Q (.panic c) (a.put oi.dst v) w→Q (.panic c) a w:=by exact fun _ _ _ h=>h):wpAnyK P md ops Q k S (fuel+1) listed a w:=wpAnyK_take hi hst hre hQ hD hS (.inl ⟨hg,hy⟩) h
theorem qS{oi:Oper}{v:Value}{listed:Array Bool}{a:Act}{w:World}(i fuel:Nat)(hi:ops[i]? =some oi)(hD:Down md ops listed)(hS:S w)(hy:∀ w',S w'→(execOp a.eval oi).run P w'=.ok (.value v) w')(h:Down md ops (listed.setIfInBounds i true)→wpAnyK P md ops Q k S fuel (listed.setIfInBounds i true) (a.put oi.dst v) w)(hst:stepB md ops listed k i=true:=by kernel_rfl)(hre:decide (ops.size≤k)=true:=by kernel_rfl)(hg:Region.wanted oi (yielded ops a.tmps)=true:=by kernel_rfl)(hQ:∀ c a w,Q (.panic c) (a.put oi.dst v) w→Q (.panic c) a w:=by exact fun _ _ _ h=>h):wpAnyK P md ops Q k S (fuel+1) listed a w:=wpAnyK_takeS hi hst hre hQ hD hS (.inl ⟨hg,hy⟩) h
end
end Go.Proofs.YtdhnkmbjogmmkaaGreatDoor

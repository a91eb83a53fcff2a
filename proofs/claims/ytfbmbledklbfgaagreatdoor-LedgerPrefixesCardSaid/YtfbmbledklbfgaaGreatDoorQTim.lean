import Derived.Test.YtfbmbledklbfgaaGreatDoorQNum2
import Derived.Test.YtfbmbledklbfgaaGreatDoorQLedA
set_option linter.unusedVariables false
set_option linter.unusedSimpArgs false
namespace Go.Proofs.YtfbmbledklbfgaaGreatDoor
set_option maxRecDepth 100000
set_option maxHeartbeats 1000000
open Go.RowKit
theorem nS_byte(n i k:Nat)(hk:k+1+i=(nS n).size)(h:k<(nS n).size):((nS n)[k]).toNat=dig n i:=by
 have hl:(nS n).size=(encN n).length:=nS_size n;have h1:=dig_encN n i (by omega);rw[←h1];congr 1;have : (nS n)[k]=((nS n).data.toList)[k]'(by rw[data_len];exact h):=rfl;rw[this];simp only[nS_data];congr 1;omega
theorem w64_byte(b:UInt8):wrap64 (b.toNat:Int)=(b.toNat:Int):=by have:=b.toNat_lt;simp[wrap64];omega
theorem u64_wrap(n:Nat)(h:n<18446744073709551616):IntKind.u64.wrap (n:Int)=(n:Int):=by
 simp[IntKind.wrap,IntKind.bits,IntKind.signed];omega
theorem nat_digit_core(s:ByteArray)(i k d:Nat)(hk:k+1+i=s.size)(h:k<s.size)(hb:(s[k]).toNat=d)(hsz:s.size≤9223372036854775807)(w:World):Calls Tryz.prog 115 #[.string s,.int .i64 i] w (RetQ (.int .i64 d) w):=by
 have hix:((s.size:Int) - 1 - (i:Int))=(k:Int):=by omega
 have hlt:¬ ((s.size:Int)≤(i:Int)):=by omega
 have HB:=Hq hb;have HK:=Hq hk;clear hb hk;go_enter Tryz.func115,Tryz.ntmps115;go_wp2;go_ret;exact⟨by rw[←HB.out];exact ret_int (w64_byte _),rfl⟩
theorem nat_digit_beyond(s:ByteArray)(i:Nat)(h:(s.size:Int)≤(i:Int))(w:World):Calls Tryz.prog 115 #[.string s,.int .i64 i] w (RetQ (.int .i64 0) w):=by
 go_enter Tryz.func115,Tryz.ntmps115;go_wp2;go_ret;exact⟨rfl,rfl⟩
theorem nat_digit(n i:Nat)(hn:(nS n).size≤1000)(w:World):Calls Tryz.prog 115 #[.string (nS n),.int .i64 i] w (RetQ (.int .i64 (dig n i)) w):=by
 by_cases hi:i<(nS n).size
 · have hks:(nS n).size - 1 - i<(nS n).size:=by omega
   exact nat_digit_core (nS n) i ((nS n).size - 1 - i) _ (by omega) hks (nS_byte n i _ (by omega) hks) (by omega) w
 · rw[dig_beyond (by rw[←nS_size];omega)];exact nat_digit_beyond (nS n) i (by omega) w
def fitR(n:Nat):Value:=if n<256 ^ 128 then .tuple #[.string (nS n),.int .i64 0]else .tuple #[.string ⟨#[]⟩,.int .i64 5]
theorem fitR_form(n:Nat):∃ r1 r2,fitR n=.tuple #[r1,r2]:=by
 unfold fitR;split
 · exact⟨_,_,rfl⟩
 · exact⟨_,_,rfl⟩
theorem nat_fitting(n:Nat)(hs:(nS n).size≤9223372036854775807)(w:World):Calls Tryz.prog 132 #[.string (nS n)] w (RetQ (fitR n) w):=by
 unfold fitR;by_cases h:n<256 ^ 128
 · rw[if_pos h];have h1:=nS_size_le.2 h;have h2:¬ (128<((nS n).size:Int)):=by omega
   obtain⟨s,hs'⟩:∃ s,nS n=s:=⟨_,rfl⟩;rw[hs']at h2⊢;clear hs' h1 h hs;go_enter Tryz.func132,Tryz.ntmps132;go_wp2;go_ret2;exact⟨rfl,rfl⟩
 · rw[if_neg h];have h2:128<((nS n).size:Int):=by
    rcases Nat.lt_or_ge 128 (nS n).size with h' | h'
    · omega
    · exact absurd (nS_size_le.1 h') h
   obtain⟨s,hs'⟩:∃ s,nS n=s:=⟨_,rfl⟩;rw[hs']at h2⊢;clear hs' h hs;go_enter Tryz.func132,Tryz.ntmps132;go_wp2;go_ret2;exact⟨rfl,rfl⟩
def pre(s:ByteArray)(k:Nat):Nat:=bnat (s.data.toList.take k)
theorem pre_succ(s:ByteArray)(k:Nat)(h:k<s.size):pre s (k+1)=pre s k * 256+(s[k]).toNat:=by
 unfold pre;have : s.data.toList.take (k+1)=s.data.toList.take k++[s[k]]:=by
  rw[List.take_succ_eq_append_getElem (by rw[data_len];exact h)];rfl
 rw[this,bnat_snoc]
theorem pre_all(s:ByteArray):pre s s.size=num s:=by
 unfold pre num;rw[List.take_of_length_le (by rw[data_len];exact Nat.le_refl _)]
theorem pre_lt(s:ByteArray)(k:Nat):pre s k<256 ^ k:=by
 have h:=bnat_lt (s.data.toList.take k);have h2:(s.data.toList.take k).length≤k:=List.length_take_le _ _;exact Nat.lt_of_lt_of_le h (Nat.pow_le_pow_right (by omega) h2)
theorem pre_le{s:ByteArray}{k:Nat}(h:k<8):pre s k<72057594037927936:=
 Nat.lt_of_lt_of_le (pre_lt s k) (Nat.le_trans (Nat.pow_le_pow_right (by omega) (show k≤7 by omega)) (by decide))
theorem u64_join(n b:Nat)(hn:n<72057594037927936)(hb:b<256):bits .or .u64 ((n:Int) * 256) (IntKind.u64.wrap (b:Int))=((n * 256+b:Nat):Int):=by
 rw[u64_wrap b (by omega),show (n:Int) * 256=((n * 256:Nat):Int)from by omega,u64_or_nat _ _ (by omega) (by omega),nat_join 8 (n * 256) b (by simp) (by omega)]
theorem nat_Small_yes(s:ByteArray)(hv:nvalid s=true)(h8:s.size≤8)(w:World):Calls Tryz.prog 103 #[.string s] w (RetQ (.tuple #[.int .u64 (num s),.bool true]) w):=by
 have hne:¬ (8<(s.size:Int)):=by omega
 have HV:=Hq hv;clear hv;go_enter Tryz.func103,Tryz.ntmps103;go_wp2_with fail;refine(nat_Valid s (by omega) _).mono ?_;rintro e w1 ⟨rfl,rfl⟩;rw[HV.out];go_wp2
 go_loop [4,16] (fun n i=>∃ k:Nat,k≤s.size∧i=.int .i64 k∧n=.int .u64 (pre s k)) (fun _ i=>s.size - (intOf i).toNat)
 case atStart=>exact⟨0,Nat.zero_le _,rfl,rfl⟩
 case round =>
  obtain⟨k,hk,rfl,rfl⟩:=hrel;by_cases hlt:k<s.size
  · have hp:=pre_le (s:=s) (k:=k) (by omega);have HP:=Hq (pre_succ s k hlt);obtain⟨p,hpp⟩:∃ p,pre s k=p:=⟨_,rfl⟩;rw[hpp]at hp HP⊢;have hb:=(s[k]).toNat_lt;have hj:=u64_join p (s[k]).toNat hp (by omega);have hp0:(p:Int)<72057594037927936:=by omega
    clear hpp hb;go_wp2;go_round;case rel=>exact⟨k+1,by omega,by go_num,by rw[HP.out];go_num⟩
    case measure=>simp[intOf];omega
  · obtain rfl:k=s.size:=by omega
    have HA:=Hq (pre_all s);go_wp2;go_ret2;exact⟨by rw[←HA.out];rfl,rfl⟩
theorem nS_valid_small{n:Nat}(h:n<18446744073709551616):nvalid (nS n)=true:=nvalid_nS.2 (Nat.lt_of_lt_of_le h (Nat.le_trans (by decide) (Nat.pow_le_pow_right (n:=256) (by omega) (show 8≤128 by omega))))
theorem nat_Small_n(n:Nat)(h:n<18446744073709551616)(w:World):Calls Tryz.prog 103 #[.string (nS n)] w (RetQ (.tuple #[.int .u64 n,.bool true]) w):=by
 have:=nat_Small_yes (nS n) (nS_valid_small h) (nS_small_size h) w;rw[num_nS]at this;exact this
theorem ordB_nS(x y:Nat):ordB (nS x) (nS y)=cmpI x y:=by
 unfold ordB;rw[nS_data,nS_data,ordL_canon (canon_encN _) (canon_encN _),bnat_encN,bnat_encN]
theorem lt128_of_lt8{n:Nat}(h:n<18446744073709551616):n<256 ^ 128:=nvalid_nS.1 (nS_valid_small h)
set_option maxRecDepth 100000
set_option maxHeartbeats 4000000
def zb(n:Nat):Array Value:=madeCells #[.int .u8 0] n
theorem zb_size(n:Nat):(zb n).size=n:=size_madeCells _ _
theorem u8_info:(Tryz.prog.info? 5).map (fun i=>(i.zero,i.size,i.bytes))=some (some (.int .u8 0),1,1):=by kernel_rfl
theorem make_bytes(n:Nat)(hn:n≤281474976710656)(w:World):(Instr.makeSlice 108 (.int .i64 n) (.int .i64 n)).run Tryz.prog w=.ok (.slice (some ⟨w.heap.size,0,none⟩) n n) (w.alloc (.cells (zb n) 5)):=by
 obtain⟨i0,hi,hz0,hz1,hz2⟩:=info_parts u8_info;have h:=run_make (P:=Tryz.prog) w 108 5 i0 (.int .u8 0) Tryz.underlying108 hi hz0 .i64 .i64 (n:Int) (n:Int) (by omega) (Int.le_refl _) (by rw[hz2];omega) (by omega);rw[h,hz1,Int.toNat_natCast,Nat.mul_one];rfl
def OutB(w:World)(B n i v:Nat):Prop:=∃ cur:Array Value,w.heap[B]? =some (.cells cur 5 (0,0))∧cur.size=n∧∀ j,j<i→cur[n - 1 - j]? =some (.int .u8 (dig v j))
theorem OutB.start{w:World}(n v:Nat):OutB (w.alloc (.cells (zb n) 5)) w.heap.size n 0 v:=⟨_,heap_alloc_new _ _,zb_size n,fun j h=>by omega⟩
theorem OutB.cell{w:World}{B n i v:Nat}(h:OutB w B n i v){k:Nat}(hk:k<n):∃ u,w.cell? ⟨B,k,none⟩=some u:=by
 obtain⟨cur,h1,h2,h3⟩:=h;exact⟨_,by rw[Lib.cell_of_heap h1];exact Array.getElem?_eq_getElem (by omega)⟩
theorem OutB.free{w:World}{B n i v:Nat}(h:OutB w B n i v)(k:Nat):w.frozen? ⟨B,k,none⟩=false:=by
 obtain⟨cur,h1,h2,h3⟩:=h;exact Lib.frozen_of_heap h1 k
theorem OutB.step{w:World}{B n i v k:Nat}(h:OutB w B n i v)(hk:k+1+i=n):OutB (w.setCell ⟨B,k,none⟩ (.int .u8 (dig v i))) B n (i+1) v:=by
 obtain⟨cur,h1,h2,h3⟩:=h;refine⟨_,block_setCell h1 _,by rw[Array.size_setIfInBounds,h2],fun j hj=>?_⟩;rw[Array.getElem?_setIfInBounds];by_cases e:j=i
 · subst e;rw[if_pos (by omega),if_pos (by omega)]
 · rw[if_neg (by omega)];exact h3 j (by omega)
theorem OutB.bytes{w:World}{B n v:Nat}(h:OutB w B n n v)(hn:n≤9223372036854775807):BytesAt w (some ⟨B,0,none⟩) n n (beN n v):=by
 obtain⟨cur,h1,h2,h3⟩:=h;refine⟨beN_length n v,Nat.le_refl _,hn,fun _=>⟨B,0,rfl,fun k hk=>?_⟩⟩;rw[Nat.zero_add,Lib.cell_of_heap h1];have:=h3 (n - 1 - k) (by omega);rw[show n - 1 - (n - 1 - k)=k from by omega]at this;show cur[k]? =_;rw[this];unfold byteI;rw[List.getD_eq_getElem?_getD,beN_get n v k hk,Option.getD_some,ofNat_mod_toNat];rfl
theorem OutB.lt{w:World}{B n i v:Nat}(h:OutB w B n i v):B<w.heap.size:=by
 obtain⟨cur,h1,_⟩:=h;exact block_lt h1
theorem nS_size63'(n:Nat)(h:(nS n).size≤1000):(nS n).size≤9223372036854775807:=by omega
theorem nat_Add(x y:Nat)(hx:x<256 ^ 128)(hy:y<256 ^ 128)(w:World):Calls Tryz.prog 110 #[.string (nS x),.string (nS y)] w (Ret (fitR (x+y)) w):=by
 have hv1:=nvalid_nS.2 hx;have hv2:=nvalid_nS.2 hy;have hs1:=nS_size_le.2 hx;have hs2:=nS_size_le.2 hy;have HV1:=Hq hv1;have HV2:=Hq hv2;obtain⟨s,hs⟩:∃ s,nS x=s:=⟨_,rfl⟩;obtain⟨t,ht⟩:∃ t,nS y=t:=⟨_,rfl⟩;rw[hs]at hs1 HV1⊢;rw[ht]at hs2 HV2⊢;have HS:=Hq hs;have HT:=Hq ht;have HX:=Hq (show (nS x).size≤1000 from by rw[hs];omega);have HY:=Hq (show (nS y).size≤1000 from by rw[ht];omega);clear hv1 hv2 hs ht hx hy;obtain⟨m,hm⟩:∃ m:Nat,max (s.size:Int) (t.size:Int)=(m:Int):=⟨max s.size t.size,by omega⟩;have hm1:m≤128:=by omega
 have hmx:x<256 ^ m:=nS_size_le.1 (by rw[HS.out];omega);have hmy:y<256 ^ m:=nS_size_le.1 (by rw[HT.out];omega);have hxy:x+y<256 ^ (m+1):=by rw[Nat.pow_succ];omega
 have HXY:=Hq hxy;clear hmx hmy hxy;have hmk:=fun(w:World)=>make_bytes (m+1) (by omega) w;simp only[Int.natCast_add,Int.natCast_one]at hmk;go_enter Tryz.func110,Tryz.ntmps110;go_wp2_with fail;refine(nat_Valid s (by omega) _).mono ?_;rintro e w1 ⟨rfl,rfl⟩;rw[HV1.out];go_wp2_with fail;refine(nat_Valid t (by omega) _).mono ?_;rintro e w1 ⟨rfl,rfl⟩;rw[HV2.out];go_wp2;clear hmk hm;go_loopw [8,27] (fun c i wr=>∃(k q:Nat),k≤m+1∧i=.int .i64 k∧c=.int .i64 q∧q≤1∧(x+y) / 256 ^ k=x / 256 ^ k+y / 256 ^ k+q∧OutB wr w.heap.size (m+1) k (x+y)∧Below w.heap.size w wr) (fun _ i _=>m+1 - (intOf i).toNat);case atStart=>exact⟨0,0,Nat.zero_le _,rfl,rfl,by omega,by simp,OutB.start _ _,(blr).alloc nlr _⟩
 case round =>
  obtain⟨k,q,hk,rfl,rfl,hq,hc,hO,hB⟩:=hrel;have HO:=Hq hO;have HB:=Hq hB;have HC:=Hq hc;clear hO hB hc;by_cases hlt:k<m+1
  · obtain⟨j,hj⟩:∃ j,j+k=m:=⟨m - k,by omega⟩;have hix:(m:Int) - (k:Int)=(j:Int):=by omega
    have hjm:j<m+1:=by omega
    obtain⟨u,hu⟩:=HO.out.cell hjm;have hf:=HO.out.free j;have hs3:=add_step HC.out;have hd1:=dig_lt x k;have hd2:=dig_lt y k;obtain⟨d1,hd1e⟩:∃ d,dig x k=d:=⟨_,rfl⟩;obtain⟨d2,hd2e⟩:∃ d,dig y k=d:=⟨_,rfl⟩;rw[hd1e]at hs3 hd1;rw[hd2e]at hs3 hd2;have HD1:=Hq hd1e;have HD2:=Hq hd2e;have HS3:=Hq hs3;have HJ:=Hq hj;clear hs3 hd1e hd2e hj;go_wp2_with fail;rw[←HS.out];refine(nat_digit x k HX.out _).mono ?_;rintro e w1 ⟨rfl,rfl⟩;rw[HD1.out,HS.out];go_wp2_with fail;rw[←HT.out];refine(nat_digit y k HY.out _).mono ?_;rintro e w1 ⟨rfl,rfl⟩;rw[HD2.out,HT.out];go_wp2;refine⟨⟨k+1,(d1+d2+q) / 256,by omega,by go_num,by go_num,by omega,HS3.out.1,?_,HB.out.setCell (p:=⟨w.heap.size,j,none⟩) nlr _⟩,by simp[intOf];omega⟩;have h1:=HO.out.step (k:=j) (by have:=HJ.out;omega);rw[HS3.out.2]at h1;rw[show ((q:Int)+((d1:Int)+(d2:Int)))%256=(((d1+d2+q)%256:Nat):Int)from by omega];exact h1
  · obtain rfl:k=m+1:=by omega
    have hby:=HO.out.bytes (by omega)
    have HBY:=Hq hby
    clear hby
    go_wp2_with fail;refine(nat_trimmed _ _ _ _ _ HBY.out).mono ?_;rintro e w1 ⟨rfl,rfl⟩;rw[trim_beN HXY.out];go_wp2_with fail;refine(nat_fitting (x+y) (nS_size63' (x+y) (by have:=nS_size_le.2 HXY.out;omega)) _).mono ?_;rintro e w1 ⟨rfl,rfl⟩;obtain⟨r1,r2,hr⟩:=fitR_form (x+y);rw[hr];have HR:=Hq hr;clear hr;go_wp2;go_ret2;exact⟨by rw[HR.out];rfl,HB.out⟩
theorem nat_less(x y:Nat)(hs1:(nS x).size≤500)(hxy:y≤x)(w:World):Calls Tryz.prog 116 #[.string (nS x),.string (nS y)] w (Ret (.string (nS (x - y))) w):=by
 have hle:(nS y).size≤(nS x).size:=by rw[nS_size,nS_size];exact encN_length_mono hxy
 obtain⟨s,hs⟩:∃ s,nS x=s:=⟨_,rfl⟩;obtain⟨t,ht⟩:∃ t,nS y=t:=⟨_,rfl⟩;rw[hs]at hs1 hle⊢;rw[ht]at hle⊢;have HS:=Hq hs;have HT:=Hq ht;have HX:=Hq (show (nS x).size≤1000 from by rw[hs];omega);have HY:=Hq (show (nS y).size≤1000 from by rw[ht];omega);clear hs ht;obtain⟨m,hm⟩:∃ m:Nat,s.size=m:=⟨_,rfl⟩;rw[hm]at hs1 hle;have hmx:x<256 ^ m:=nS_size_le.1 (by rw[HS.out,hm];exact Nat.le_refl _);have hxy2:x - y<256 ^ m:=by omega
 have HXY:=Hq hxy2;have HLE:=Hq hxy;clear hmx hxy2 hxy;have hmk:=fun(w:World)=>make_bytes m (by omega) w;go_enter Tryz.func116,Tryz.ntmps116;go_wp2;have HM:=Hq hm;clear hmk hm;go_loopw [7,15] (fun c i wr=>∃(k q:Nat),k≤m∧i=.int .i64 k∧c=.int .i64 q∧q≤1∧x / 256 ^ k=y / 256 ^ k+(x - y) / 256 ^ k+q∧OutB wr w.heap.size m k (x - y)∧Below w.heap.size w wr) (fun _ i _=>m - (intOf i).toNat);case atStart=>exact⟨0,0,Nat.zero_le _,rfl,rfl,by omega,by have:=HLE.out;simp;omega,OutB.start _ _,(blr).alloc nlr _⟩
 case round =>
  obtain⟨k,q,hk,rfl,rfl,hq,hc,hO,hB⟩:=hrel;have HO:=Hq hO;have HB:=Hq hB;have HC:=Hq hc;clear hO hB hc;by_cases hlt:k<m
  · obtain⟨j,hj⟩:∃ j,j+k+1=m:=⟨m - k - 1,by omega⟩;have hix:(m:Int) - 1 - (k:Int)=(j:Int):=by omega
    have hjm:j<m:=by omega
    obtain⟨u,hu⟩:=HO.out.cell hjm;have hf:=HO.out.free j;have hs3:=sub_step HLE.out HC.out hq;have hd1:=dig_lt x k;have hd2:=dig_lt y k;obtain⟨d1,hd1e⟩:∃ d,dig x k=d:=⟨_,rfl⟩;obtain⟨d2,hd2e⟩:∃ d,dig y k=d:=⟨_,rfl⟩;rw[hd1e]at hs3 hd1;rw[hd2e]at hs3 hd2;have HD1:=Hq hd1e;have HD2:=Hq hd2e;have HS3:=Hq hs3;have HJ:=Hq hj;clear hs3 hd1e hd2e hj;by_cases hneg:d2+q≤d1;all_goals
     go_wp2_with fail;rw[←HS.out];refine(nat_digit x k HX.out _).mono ?_;rintro e w1 ⟨rfl,rfl⟩;rw[HD1.out,HS.out];go_wp2_with fail;rw[←HT.out];refine(nat_digit y k HY.out _).mono ?_;rintro e w1 ⟨rfl,rfl⟩;rw[HD2.out,HT.out];go_wp2
    · refine⟨⟨k+1,0,by omega,by go_num,by go_num,by omega,(HS3.out.1 hneg).2,?_,HB.out.setCell (p:=⟨w.heap.size,j,none⟩) nlr _⟩,by simp[intOf];omega⟩;have h1:=HO.out.step (k:=j) (by have:=HJ.out;omega);rw[(HS3.out.1 hneg).1]at h1;have e1:((d1:Int) - (d2:Int) - (q:Int))=((d1 - d2 - q:Nat):Int):=by omega
      first | rw[e1] | (rw[show ((d1:Int) - (d2:Int) - (q:Int))%256=((d1 - d2 - q:Nat):Int)from by omega])
      exact h1
    · refine⟨⟨k+1,1,by omega,by go_num,by go_num,by omega,(HS3.out.2 (by omega)).2,?_,HB.out.setCell (p:=⟨w.heap.size,j,none⟩) nlr _⟩,by simp[intOf];omega⟩;have h1:=HO.out.step (k:=j) (by have:=HJ.out;omega);rw[(HS3.out.2 (by omega)).1]at h1;have e1:((d1:Int) - (d2:Int) - (q:Int)+256)=((d1+256 - d2 - q:Nat):Int):=by omega
      first | rw[e1] | (rw[show ((d1:Int) - (d2:Int) - (q:Int)+256)%256=((d1+256 - d2 - q:Nat):Int)from by omega])
      exact h1
  · obtain rfl:k=m:=by omega
    have hby:=HO.out.bytes (by omega)
    have HBY:=Hq hby
    clear hby
    go_wp2_with fail;refine(nat_trimmed _ _ _ _ _ HBY.out).mono ?_;rintro e w1 ⟨rfl,rfl⟩;rw[trim_beN HXY.out];go_wp2;go_ret;exact⟨rfl,HB.out⟩
set_option maxRecDepth 100000
set_option maxHeartbeats 1000000
theorem cmpI_nonneg{x y:Nat}(h:y≤x):0≤cmpI x y:=by
 unfold cmpI;rw[if_neg (by omega)];split<;>omega
theorem nat_Sub_less(x y:Nat)(hx:x<256 ^ 128)(hy:y<256 ^ 128)(h:x<y)(w:World):Calls Tryz.prog 90 #[.string (nS x),.string (nS y)] w (RetQ (.tuple #[.string ⟨#[]⟩,.int .i64 2]) w):=by
 have hs1:=nS_size_le.2 hx;have hs2:=nS_size_le.2 hy;have HV1:=Hq (nvalid_nS.2 hx);have HV2:=Hq (nvalid_nS.2 hy);have HO:=Hq (ordB_nS x y);obtain⟨s,hs⟩:∃ s,nS x=s:=⟨_,rfl⟩;obtain⟨t,ht⟩:∃ t,nS y=t:=⟨_,rfl⟩;rw[hs]at hs1 HV1 HO⊢;rw[ht]at hs2 HV2 HO⊢;have HS:=Hq hs;have HT:=Hq ht;have HX:=Hq hx;have HY:=Hq hy;clear hs ht hx hy;go_enter Tryz.func90,Tryz.ntmps90;go_wp2_with fail;refine(nat_Valid s (by omega) _).mono ?_;rintro e w1 ⟨rfl,rfl⟩;rw[HV1.out];go_wp2_with fail;refine(nat_Valid t (by omega) _).mono ?_;rintro e w1 ⟨rfl,rfl⟩;rw[HV2.out];go_wp2_with fail;refine(nat_compare s t (by omega) (by omega) _).mono ?_;rintro e w1 ⟨rfl,rfl⟩;rw[HO.out,cmpI_lt h];go_wp2;go_ret2;exact⟨rfl,rfl⟩
theorem nat_Sub_ge(x y:Nat)(hx:x<256 ^ 128)(hy:y<256 ^ 128)(h:y≤x)(w:World):Calls Tryz.prog 90 #[.string (nS x),.string (nS y)] w (Ret (.tuple #[.string (nS (x - y)),.int .i64 0]) w):=by
 have HG:=Hq (cmpI_nonneg h);have hs1:=nS_size_le.2 hx;have hs2:=nS_size_le.2 hy;have HV1:=Hq (nvalid_nS.2 hx);have HV2:=Hq (nvalid_nS.2 hy);have HO:=Hq (ordB_nS x y);obtain⟨s,hs⟩:∃ s,nS x=s:=⟨_,rfl⟩;obtain⟨t,ht⟩:∃ t,nS y=t:=⟨_,rfl⟩;rw[hs]at hs1 HV1 HO⊢;rw[ht]at hs2 HV2 HO⊢;have HS:=Hq hs;have HT:=Hq ht;have HX:=Hq hx;have HY:=Hq hy;clear hs ht hx hy;go_enter Tryz.func90,Tryz.ntmps90;go_wp2_with fail;refine(nat_Valid s (by omega) _).mono ?_;rintro e w1 ⟨rfl,rfl⟩;rw[HV1.out];go_wp2_with fail;refine(nat_Valid t (by omega) _).mono ?_;rintro e w1 ⟨rfl,rfl⟩;rw[HV2.out];go_wp2_with fail;refine(nat_compare s t (by omega) (by omega) _).mono ?_;rintro e w1 ⟨rfl,rfl⟩;rw[HO.out];have hg:=HG.out;obtain⟨c,hc⟩:∃ c,cmpI x y=c:=⟨_,rfl⟩;rw[hc]at hg⊢;clear hc HG;go_wp2_with fail;rw[←HS.out,←HT.out];refine(nat_less x y (by rw[HS.out];omega) h _).mono ?_;rintro e w1 ⟨rfl,hb⟩;have HB:=Hq hb;clear hb;go_wp2;go_ret2;exact⟨rfl,HB.out⟩
/-! Division at numbers below 2^64. -/
theorem nat_divided_lt(x y:Nat)(hx:x<256 ^ 128)(hy:y<256 ^ 128)(h:x<y)(w:World):Calls Tryz.prog 117 #[.string (nS x),.string (nS y)] w (RetQ (.tuple #[.string (nS (x / y)),.string (nS (x%y))]) w):=by
 rw[Nat.div_eq_of_lt h,Nat.mod_eq_of_lt h,nS_zero];have hs1:=nS_size_le.2 hx;have hs2:=nS_size_le.2 hy;have HV1:=Hq (nvalid_nS.2 hx);have HV2:=Hq (nvalid_nS.2 hy);have HO:=Hq (ordB_nS x y);obtain⟨s,hs⟩:∃ s,nS x=s:=⟨_,rfl⟩;obtain⟨t,ht⟩:∃ t,nS y=t:=⟨_,rfl⟩;rw[hs]at hs1 HV1 HO⊢;rw[ht]at hs2 HV2 HO⊢;have HS:=Hq hs;have HT:=Hq ht;have HX:=Hq hx;have HY:=Hq hy;clear hs ht hx hy;go_enter Tryz.func117,Tryz.ntmps117;go_wp2_with fail;refine(nat_compare s t (by omega) (by omega) _).mono ?_;rintro e w1 ⟨rfl,rfl⟩;rw[HO.out,cmpI_lt h];go_wp2;go_ret2;exact⟨rfl,rfl⟩
theorem nat_divided_ge(x y:Nat)(hx8:x<18446744073709551616)(h:y≤x)(h0:0<y)(w:World):Calls Tryz.prog 117 #[.string (nS x),.string (nS y)] w (Ret (.tuple #[.string (nS (x / y)),.string (nS (x%y))]) w):=by
 have hy8:y<18446744073709551616:=by omega
 have HX8:=Hq hx8;have HY8:=Hq hy8;have hz1:=nS_small_size hx8;have hz2:=nS_small_size hy8;have hq8:x / y<18446744073709551616:=Nat.lt_of_le_of_lt (Nat.div_le_self x y) hx8;have hr8:x%y<18446744073709551616:=Nat.lt_trans (Nat.mod_lt x h0) hy8;have HQ8:=Hq hq8;have HR8:=Hq hr8;have HG:=Hq (cmpI_nonneg h);have HO:=Hq (ordB_nS x y);have HN1:=Hq (nat_Small_n x hx8);have HN2:=Hq (nat_Small_n y hy8);obtain⟨s,hs⟩:∃ s,nS x=s:=⟨_,rfl⟩;obtain⟨t,ht⟩:∃ t,nS y=t:=⟨_,rfl⟩;rw[hs]at hz1 HO HN1⊢;rw[ht]at hz2 HO HN2⊢;clear hs ht hq8 hr8 hx8 hy8;have hy1:((y:Int)==0)=false:=beq_eq_false_iff_ne.2 (by omega);have hy2:(0:Int)<(y:Int):=by omega
 have hy3:¬ (y=0):=by omega
 have hwq:IntKind.u64.wrap ((x:Int) / (y:Int))=(x:Int) / (y:Int):=u64_wrap (x / y) HQ8.out;have hwr:IntKind.u64.wrap ((x:Int)%(y:Int))=(x:Int)%(y:Int):=u64_wrap (x%y) HR8.out;have hsz:¬ (8<(s.size:Int)):=by omega
 go_enter Tryz.func117,Tryz.ntmps117;go_wp2_with fail;refine(nat_compare s t (by omega) (by omega) _).mono ?_;rintro e w1 ⟨rfl,rfl⟩;rw[HO.out];have hg:=HG.out;obtain⟨c,hc⟩:∃ c,cmpI x y=c:=⟨_,rfl⟩;rw[hc]at hg⊢;clear hc HG;go_wp2_with fail;refine(HN1.out _).mono ?_;rintro e w1 ⟨rfl,rfl⟩;go_wp2_with fail;refine(HN2.out _).mono ?_;rintro e w1 ⟨rfl,rfl⟩;go_wp2;refine wp_region_K 10 (Below (w.drew).heap.size (w.drew)) (by kernel_rfl) ?_;intro hD;refine qP 0 9 rfl hD blr ?_;clear hD;intro hD;refine qP 1 8 rfl hD blr ?_;clear hD;intro hD;refine qP 2 7 rfl hD blr ?_;clear hD;intro hD;refine qP 4 6 rfl hD blr ?_;clear hD;intro hD;refine qP 5 5 rfl hD blr ?_;clear hD;intro hD;refine qP 6 4 rfl hD blr ?_;clear hD;intro hD;simp only[Act.put,sqA,sqB,sqC];refine wpAnyK_one (i:=3) (fuel:=3) (by kernel_rfl) rfl hD ?_;clear hD;intro K3 hK3;go_wp2_with fail;refine(nat_Of (x / y) HQ8.out _).mono ?_;rintro e w3 ⟨rfl,hb3⟩;have HB3:=Hq hb3;clear hb3;go_wp2;refine hK3 _ _ (by exact HB3.out) ?_;clear hK3;intro hS_6_3 hD;refine wpAnyK_one (i:=7) (fuel:=2) (by kernel_rfl) rfl hD ?_;clear hD;intro K7 hK7;go_wp2_with fail;refine(nat_Of (x%y) HR8.out _).mono ?_;rintro e w7 ⟨rfl,hb7⟩;have HB7:=Hq hb7;clear hb7;go_wp2;refine hK7 _ _ (by exact Below.trans hS_6_3 (Below.mono HB7.out (Below.size hS_6_3))) ?_;clear hK7;intro hS_6_7 hD;refine wpAnyK_one (i:=8) (fuel:=1) (by kernel_rfl) rfl hD ?_;clear hD;intro K8 hK8;go_wp2;refine hK8 _ _ (by exact hS_6_7) ?_;clear hK8;intro hS_6_8 hD;refine wpAnyK_one (i:=9) (fuel:=0) (by kernel_rfl) rfl hD ?_;clear hD;intro K9 hK9;go_wp2;refine hK9 _ _ (by exact hS_6_8) ?_;clear hK9;intro hS_6_9 hD;refine wpD ?_;clear hD;have HX:=Hq hS_6_9;go_wp2;go_ret2;exact⟨rfl,(blr).drew.trans HX.out⟩
theorem nat_divided(x y:Nat)(hx:x<18446744073709551616)(hy:y<256 ^ 128)(h0:0<y)(w:World):Calls Tryz.prog 117 #[.string (nS x),.string (nS y)] w (Ret (.tuple #[.string (nS (x / y)),.string (nS (x%y))]) w):=by
 rcases Nat.lt_or_ge x y with h | h
 · exact(nat_divided_lt x y (lt128_of_lt8 hx) hy h w).mono fun e w' ⟨h1,h2⟩=>⟨h1,by rw[←h2];exact Below.refl _ _⟩
 · exact nat_divided_ge x y hx h h0 w
theorem empty_nS{n:Nat}(h:0<n):(nS n).toList.isEmpty=false:=sempty_false (by have:=nS_size_zero (n:=n);omega)
theorem nat_DivMod(x y:Nat)(hx8:x<18446744073709551616)(hy:y<256 ^ 128)(h0:0<y)(w:World):Calls Tryz.prog 91 #[.string (nS x),.string (nS y)] w (Ret (.tuple #[.string (nS (x / y)),.string (nS (x%y)),.int .i64 0]) w):=by
 have hx:=lt128_of_lt8 hx8;have HD:=Hq (nat_divided x y hx8 hy h0);have hem:=empty_nS h0;have hs1:=nS_size_le.2 hx;have hs2:=nS_size_le.2 hy;have HV1:=Hq (nvalid_nS.2 hx);have HV2:=Hq (nvalid_nS.2 hy);obtain⟨s,hs⟩:∃ s,nS x=s:=⟨_,rfl⟩;obtain⟨t,ht⟩:∃ t,nS y=t:=⟨_,rfl⟩;rw[hs]at hs1 HV1 HD⊢;rw[ht]at hs2 HV2 hem HD⊢;clear hs ht hx hy hx8;go_enter Tryz.func91,Tryz.ntmps91;go_wp2_with fail;refine(nat_Valid s (by omega) _).mono ?_;rintro e w1 ⟨rfl,rfl⟩;rw[HV1.out];go_wp2_with fail;refine(nat_Valid t (by omega) _).mono ?_;rintro e w1 ⟨rfl,rfl⟩;rw[HV2.out];go_wp2_with fail;refine(HD.out _).mono ?_;rintro e w1 ⟨rfl,hb⟩;have HB:=Hq hb;clear hb;go_wp2;go_ret3;exact⟨rfl,HB.out⟩
/-! The reference: numbers of any length, bit by bit; those below 2^64 at once. -/
def zi(n:Nat):Array Value:=madeCells #[.int .i64 0] n
theorem zi_size(n:Nat):(zi n).size=n:=size_madeCells _ _
theorem int_info:(Tryz.prog.info? 3).map (fun i=>(i.zero,i.size,i.bytes))=some (some (.int .i64 0),1,8):=by kernel_rfl
theorem make_ints(n:Nat)(hn:n≤1000000)(w:World):(Instr.makeSlice 203 (.int .i64 n) (.int .i64 n)).run Tryz.prog w=.ok (.slice (some ⟨w.heap.size,0,none⟩) n n) (w.alloc (.cells (zi n) 3)):=by
 obtain⟨i0,hi,hz0,hz1,hz2⟩:=info_parts int_info;have h:=run_make (P:=Tryz.prog) w 203 3 i0 (.int .i64 0) Tryz.underlying203 hi hz0 .i64 .i64 (n:Int) (n:Int) (by omega) (Int.le_refl _) (by rw[hz2];omega) (by omega);rw[h,hz1,Int.toNat_natCast,Nat.mul_one];rfl
def cs(f:Nat→Nat):Nat→Nat→Nat
 | 0,_=>0
 | n+1,i=>f i+256 * cs f n (i+1)
end Go.Proofs.YtfbmbledklbfgaaGreatDoor

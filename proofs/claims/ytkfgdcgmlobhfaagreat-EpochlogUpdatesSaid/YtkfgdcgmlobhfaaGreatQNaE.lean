import Derived.Test.YtkfgdcgmlobhfaaGreatQOrd
import Derived.OrdersHeld
set_option linter.unusedVariables false
set_option linter.unusedSimpArgs false
namespace Go.Proofs.YtkfgdcgmlobhfaaGreat
set_option maxRecDepth 100000
set_option maxHeartbeats 1000000
open Go.RowKit
theorem zgf(n i k:Nat)(hk:k+1+i=(nS n).size)(h:k<(nS n).size):((nS n)[k]).toNat=dig n i:=by
 have hl:(nS n).size=(encN n).length:=kr n;have h1:=zoq n i (by omega);rw[←h1];congr 1;have : (nS n)[k]=((nS n).data.toList)[k]'(by rw[ji];exact h):=rfl;rw[this];simp only[zah];congr 1;omega
theorem zix(b:UInt8):wrap64 (b.toNat:Int)=(b.toNat:Int):=by have:=b.toNat_lt;simp[wrap64];omega
theorem jw(n:Nat)(h:n<18446744073709551616):IntKind.u64.wrap (n:Int)=(n:Int):=by
 simp[IntKind.wrap,IntKind.bits,IntKind.signed];omega
theorem zer(s:ByteArray)(i k d:Nat)(hk:k+1+i=s.size)(h:k<s.size)(hb:(s[k]).toNat=d)(hsz:s.size≤9223372036854775807)(w:World):Calls Tryz.prog 117 #[.string s,.int .i64 i] w (RetQ (.int .i64 d) w):=by
 have hix:((s.size:Int) - 1 - (i:Int))=(k:Int):=by omega
 have hlt:¬ ((s.size:Int)≤(i:Int)):=by omega
 have HB:=Hq hb;have HK:=Hq hk;clear hb hk;go_enter Tryz.func117,Tryz.ntmps117;go_wp2;go_ret;exact⟨by rw[←HB.out];exact zh7 (zix _),rfl⟩
theorem zc5(s:ByteArray)(i:Nat)(h:(s.size:Int)≤(i:Int))(w:World):Calls Tryz.prog 117 #[.string s,.int .i64 i] w (RetQ (.int .i64 0) w):=by
 go_enter Tryz.func117,Tryz.ntmps117;go_wp2;go_ret;exact⟨rfl,rfl⟩
theorem xm(n i:Nat)(hn:(nS n).size≤1000)(w:World):Calls Tryz.prog 117 #[.string (nS n),.int .i64 i] w (RetQ (.int .i64 (dig n i)) w):=by
 by_cases hi:i<(nS n).size
 · have hks:(nS n).size - 1 - i<(nS n).size:=by omega
   exact zer (nS n) i ((nS n).size - 1 - i) _ (by omega) hks (zgf n i _ (by omega) hks) (by omega) w
 · rw[za9 (by rw[←kr];omega)];exact zc5 (nS n) i (by omega) w
theorem zdt(s:ByteArray)(i k d:Nat)(hk:k+1+i=s.size)(h:k<s.size)(hb:(s[k]).toNat=d)(hsz:s.size≤9223372036854775807)(w:World):Calls Tryz.prog 134 #[.string s,.int .i64 i] w (RetQ (.int .i64 d) w):=by
 have hix:((s.size:Int) - 1 - (i:Int))=(k:Int):=by omega
 have hlt:¬ ((s.size:Int)≤(i:Int)):=by omega
 have HB:=Hq hb;have HK:=Hq hk;clear hb hk;go_enter Tryz.func134,Tryz.ntmps134;go_wp2;go_ret;exact⟨by rw[←HB.out];exact zh7 (zix _),rfl⟩
theorem zb6(s:ByteArray)(i:Nat)(h:(s.size:Int)≤(i:Int))(w:World):Calls Tryz.prog 134 #[.string s,.int .i64 i] w (RetQ (.int .i64 0) w):=by
 go_enter Tryz.func134,Tryz.ntmps134;go_wp2;go_ret;exact⟨rfl,rfl⟩
theorem zg8(n i:Nat)(hn:(nS n).size≤1000)(w:World):Calls Tryz.prog 134 #[.string (nS n),.int .i64 i] w (RetQ (.int .i64 (dig n i)) w):=by
 by_cases hi:i<(nS n).size
 · have hks:(nS n).size - 1 - i<(nS n).size:=by omega
   exact zdt (nS n) i ((nS n).size - 1 - i) _ (by omega) hks (zgf n i _ (by omega) hks) (by omega) w
 · rw[za9 (by rw[←kr];omega)];exact zb6 (nS n) i (by omega) w
def fitR(n:Nat):Value:=if n<256 ^ 128 then .tuple #[.string (nS n),.int .i64 0]else .tuple #[.string ⟨#[]⟩,.int .i64 5]
theorem zd7(n:Nat):∃ r1 r2,fitR n=.tuple #[r1,r2]:=by
 unfold fitR;split
 · exact⟨_,_,rfl⟩
 · exact⟨_,_,rfl⟩
theorem zdx(n:Nat)(hs:(nS n).size≤9223372036854775807)(w:World):Calls Tryz.prog 165 #[.string (nS n)] w (RetQ (fitR n) w):=by
 unfold fitR;by_cases h:n<256 ^ 128
 · rw[if_pos h];have h1:=zf.2 h;have h2:¬ (128<((nS n).size:Int)):=by omega
   obtain⟨s,hs'⟩:∃ s,nS n=s:=⟨_,rfl⟩;rw[hs']at h2⊢;clear hs' h1 h hs;go_enter Tryz.func165,Tryz.ntmps165;go_wp2;go_ret2;exact⟨rfl,rfl⟩
 · rw[if_neg h];have h2:128<((nS n).size:Int):=by
    rcases Nat.lt_or_ge 128 (nS n).size with h' | h'
    · omega
    · exact absurd (zf.1 h') h
   obtain⟨s,hs'⟩:∃ s,nS n=s:=⟨_,rfl⟩;rw[hs']at h2⊢;clear hs' h hs;go_enter Tryz.func165,Tryz.ntmps165;go_wp2;go_ret2;exact⟨rfl,rfl⟩
theorem zlv(n:Nat)(hs:(nS n).size≤9223372036854775807)(w:World):Calls Tryz.prog 208 #[.string (nS n)] w (RetQ (fitR n) w):=by
 unfold fitR;by_cases h:n<256 ^ 128
 · rw[if_pos h];have h1:=zf.2 h;have h2:¬ (128<((nS n).size:Int)):=by omega
   obtain⟨s,hs'⟩:∃ s,nS n=s:=⟨_,rfl⟩;rw[hs']at h2⊢;clear hs' h1 h hs;go_enter Tryz.func208,Tryz.ntmps208;go_wp2;go_ret2;exact⟨rfl,rfl⟩
 · rw[if_neg h];have h2:128<((nS n).size:Int):=by
    rcases Nat.lt_or_ge 128 (nS n).size with h' | h'
    · omega
    · exact absurd (zf.1 h') h
   obtain⟨s,hs'⟩:∃ s,nS n=s:=⟨_,rfl⟩;rw[hs']at h2⊢;clear hs' h hs;go_enter Tryz.func208,Tryz.ntmps208;go_wp2;go_ret2;exact⟨rfl,rfl⟩
def pre(s:ByteArray)(k:Nat):Nat:=bnat (s.data.toList.take k)
theorem zi6(s:ByteArray)(k:Nat)(h:k<s.size):pre s (k+1)=pre s k * 256+(s[k]).toNat:=by
 unfold pre;have : s.data.toList.take (k+1)=s.data.toList.take k++[s[k]]:=by
  rw[List.take_succ_eq_append_getElem (by rw[ji];exact h)];rfl
 rw[this,za4]
theorem zl3(s:ByteArray):pre s s.size=num s:=by
 unfold pre num;rw[List.take_of_length_le (by rw[ji];exact Nat.le_refl _)]
theorem zrv(s:ByteArray)(k:Nat):pre s k<256 ^ k:=by
 have h:=zan (s.data.toList.take k);have h2:(s.data.toList.take k).length≤k:=List.length_take_le _ _;exact Nat.lt_of_lt_of_le h (Nat.pow_le_pow_right (by omega) h2)
theorem zpa{s:ByteArray}{k:Nat}(h:k<8):pre s k<72057594037927936:=
 Nat.lt_of_lt_of_le (zrv s k) (Nat.le_trans (Nat.pow_le_pow_right (by omega) (show k≤7 by omega)) (by decide))
theorem zng(n b:Nat)(hn:n<72057594037927936)(hb:b<256):bits .or .u64 ((n:Int) * 256) (IntKind.u64.wrap (b:Int))=((n * 256+b:Nat):Int):=by
 rw[jw b (by omega),show (n:Int) * 256=((n * 256:Nat):Int)from by omega,u64_or_nat _ _ (by omega) (by omega),nat_join 8 (n * 256) b (by simp) (by omega)]
theorem zga(s:ByteArray)(hv:zd s=true)(h8:s.size≤8)(w:World):Calls Tryz.prog 163 #[.string s] w (RetQ (.tuple #[.int .u64 (num s),.bool true]) w):=by
 have hne:¬ (8<(s.size:Int)):=by omega
 have HV:=Hq hv;clear hv;go_enter Tryz.func163,Tryz.ntmps163;go_wp2_with fail;refine(zn s (by omega) _).mono ?_;rintro e w1 ⟨rfl,rfl⟩;rw[HV.out];go_wp2
 go_loop [4,16] (fun n i=>∃ k:Nat,k≤s.size∧i=.int .i64 k∧n=.int .u64 (pre s k)) (fun _ i=>s.size - (intOf i).toNat)
 case atStart=>exact⟨0,Nat.zero_le _,rfl,rfl⟩
 case round =>
  obtain⟨k,hk,rfl,rfl⟩:=hrel;by_cases hlt:k<s.size
  · have hp:=zpa (s:=s) (k:=k) (by omega);have HP:=Hq (zi6 s k hlt);obtain⟨p,hpp⟩:∃ p,pre s k=p:=⟨_,rfl⟩;rw[hpp]at hp HP⊢;have hb:=(s[k]).toNat_lt;have hj:=zng p (s[k]).toNat hp (by omega);have hp0:(p:Int)<72057594037927936:=by omega
    clear hpp hb;go_wp2;go_round;case rel=>exact⟨k+1,by omega,by go_num,by rw[HP.out];go_num⟩
    case measure=>simp[intOf];omega
  · obtain rfl:k=s.size:=by omega
    have HA:=Hq (zl3 s);go_wp2;go_ret2;exact⟨by rw[←HA.out];rfl,rfl⟩
theorem zlx(s:ByteArray)(h8:s.size≤8)(w:World):Calls Tryz.prog 133 #[.string s] w (RetQ (.int .u64 (num s)) w):=by
 go_enter Tryz.func133,Tryz.ntmps133;go_wp2
 go_loop [3,4] (fun n i=>∃ k:Nat,k≤s.size∧i=.int .i64 k∧n=.int .u64 (pre s k)) (fun _ i=>s.size - (intOf i).toNat)
 case atStart=>exact⟨0,Nat.zero_le _,rfl,rfl⟩
 case round =>
  obtain⟨k,hk,rfl,rfl⟩:=hrel;by_cases hlt:k<s.size
  · have hp:=zpa (s:=s) (k:=k) (by omega);have HP:=Hq (zi6 s k hlt);obtain⟨p,hpp⟩:∃ p,pre s k=p:=⟨_,rfl⟩;rw[hpp]at hp HP⊢;have hb:=(s[k]).toNat_lt;have hw:=jw (s[k]).toNat (by omega);have hp0:(p:Int)<72057594037927936:=by omega
    have hb0:((s[k]).toNat:Int)<256:=by omega
    clear hpp hb;go_wp2;go_round;case rel=>exact⟨k+1,by omega,by go_num,by rw[HP.out];go_num⟩
    case measure=>simp[intOf];omega
  · obtain rfl:k=s.size:=by omega
    have HA:=Hq (zl3 s);go_wp2;go_ret;exact⟨by rw[←HA.out];rfl,rfl⟩
theorem zhf(s:ByteArray)(hs:s.size≤9223372036854775807)(h:zd s=false∨zd s=true∧8<s.size)(w:World):Calls Tryz.prog 163 #[.string s] w (RetQ (.tuple #[.int .u64 0,.bool false]) w):=by
 rcases h with hv | ⟨hv,h8⟩
 · have HV:=Hq hv;clear hv;go_enter Tryz.func163,Tryz.ntmps163;go_wp2_with fail;refine(zn s (by omega) _).mono ?_;rintro e w1 ⟨rfl,rfl⟩;rw[HV.out];go_wp2;go_ret2;exact⟨rfl,rfl⟩
 · have hne:8<(s.size:Int):=by omega
   have HV:=Hq hv;clear hv h8;go_enter Tryz.func163,Tryz.ntmps163;go_wp2_with fail;refine(zn s (by omega) _).mono ?_;rintro e w1 ⟨rfl,rfl⟩;rw[HV.out];go_wp2;go_ret2;exact⟨rfl,rfl⟩
theorem zfy(s:ByteArray)(hv:zd s=true)(h8:s.size≤8)(w:World):Calls Tryz.prog 188 #[.string s] w (RetQ (.tuple #[.int .u64 (num s),.bool true]) w):=by
 have hne:¬ (8<(s.size:Int)):=by omega
 have HV:=Hq hv;clear hv;go_enter Tryz.func188,Tryz.ntmps188;go_wp2_with fail;refine(zu s (by omega) _).mono ?_;rintro e w1 ⟨rfl,rfl⟩;rw[HV.out];go_wp2_with fail;refine(zlx s h8 _).mono ?_;rintro e w1 ⟨rfl,rfl⟩;go_wp2;go_ret2;exact⟨rfl,rfl⟩
theorem zz{n:Nat}(h:n<18446744073709551616):zd (nS n)=true:=zj.2 (Nat.lt_of_lt_of_le h (Nat.le_trans (by decide) (Nat.pow_le_pow_right (n:=256) (by omega) (show 8≤128 by omega))))
theorem xn(n:Nat)(h:n<18446744073709551616)(w:World):Calls Tryz.prog 163 #[.string (nS n)] w (RetQ (.tuple #[.int .u64 n,.bool true]) w):=by
 have:=zga (nS n) (zz h) (zo h) w;rw[qc]at this;exact this
theorem zbk(n:Nat)(h:n<18446744073709551616)(w:World):Calls Tryz.prog 188 #[.string (nS n)] w (RetQ (.tuple #[.int .u64 n,.bool true]) w):=by
 have:=zfy (nS n) (zz h) (zo h) w;rw[qc]at this;exact this
theorem zb7(n:Nat)(h:n<18446744073709551616)(w:World):Calls Tryz.prog 133 #[.string (nS n)] w (RetQ (.int .u64 n) w):=by
 have:=zlx (nS n) (zo h) w;rw[qc]at this;exact this
theorem xl(x y:Nat):ordB (nS x) (nS y)=cmpI x y:=by
 unfold ordB;rw[zah,zah,ze6 (kz _) (kz _),xi,xi]
theorem zm{n:Nat}(h:n<18446744073709551616):n<256 ^ 128:=zj.1 (zz h)
theorem zma{n:Nat}(h:n<256 ^ 128):(nS n).size≤9223372036854775807:=by have:=zf.2 h;omega
set_option maxRecDepth 100000
set_option maxHeartbeats 4000000
def zb(n:Nat):Array Value:=madeCells #[.int .u8 0] n
theorem zh3(n:Nat):(zb n).size=n:=size_madeCells _ _
theorem zpx:(Tryz.prog.info? 5).map (fun i=>(i.zero,i.size,i.bytes))=some (some (.int .u8 0),1,1):=by kernel_rfl
theorem xr(n:Nat)(hn:n≤281474976710656)(w:World):(Instr.makeSlice 140 (.int .i64 n) (.int .i64 n)).run Tryz.prog w=.ok (.slice (some ⟨w.heap.size,0,none⟩) n n) (w.alloc (.cells (zb n) 5)):=by
 obtain⟨i0,hi,hz0,hz1,hz2⟩:=info_parts zpx;have h:=run_make (P:=Tryz.prog) w 140 5 i0 (.int .u8 0) Tryz.underlying140 hi hz0 .i64 .i64 (n:Int) (n:Int) (by omega) (Int.le_refl _) (by rw[hz2];omega) (by omega);rw[h,hz1,Int.toNat_natCast,Nat.mul_one];rfl
def OutB(w:World)(B n i v:Nat):Prop:=∃ cur:Array Value,w.heap[B]? =some (.cells cur 5 (0,0))∧cur.size=n∧∀ j,j<i→cur[n - 1 - j]? =some (.int .u8 (dig v j))
theorem OutB.start{w:World}(n v:Nat):OutB (w.alloc (.cells (zb n) 5)) w.heap.size n 0 v:=⟨_,heap_alloc_new _ _,zh3 n,fun j h=>by omega⟩
theorem OutB.cell{w:World}{B n i v:Nat}(h:OutB w B n i v){k:Nat}(hk:k<n):∃ u,w.cell? ⟨B,k,none⟩=some u:=by
 obtain⟨cur,h1,h2,h3⟩:=h;exact⟨_,by rw[Lib.cell_of_heap h1];exact Array.getElem?_eq_getElem (by omega)⟩
theorem OutB.free{w:World}{B n i v:Nat}(h:OutB w B n i v)(k:Nat):w.frozen? ⟨B,k,none⟩=false:=by
 obtain⟨cur,h1,h2,h3⟩:=h;exact Lib.frozen_of_heap h1 k
theorem OutB.step{w:World}{B n i v k:Nat}(h:OutB w B n i v)(hk:k+1+i=n):OutB (w.setCell ⟨B,k,none⟩ (.int .u8 (dig v i))) B n (i+1) v:=by
 obtain⟨cur,h1,h2,h3⟩:=h;refine⟨_,zv h1 _,by rw[Array.size_setIfInBounds,h2],fun j hj=>?_⟩;rw[Array.getElem?_setIfInBounds];by_cases e:j=i
 · subst e;rw[if_pos (by omega),if_pos (by omega)]
 · rw[if_neg (by omega)];exact h3 j (by omega)
theorem OutB.bytes{w:World}{B n v:Nat}(h:OutB w B n n v)(hn:n≤9223372036854775807):BytesAt w (some ⟨B,0,none⟩) n n (beN n v):=by
 obtain⟨cur,h1,h2,h3⟩:=h;refine⟨k9 n v,Nat.le_refl _,hn,fun _=>⟨B,0,rfl,fun k hk=>?_⟩⟩;rw[Nat.zero_add,Lib.cell_of_heap h1];have:=h3 (n - 1 - k) (by omega);rw[show n - 1 - (n - 1 - k)=k from by omega]at this;show cur[k]? =_;rw[this];unfold zal;rw[List.getD_eq_getElem?_getD,zgq n v k hk,Option.getD_some,yz];rfl
theorem OutB.lt{w:World}{B n i v:Nat}(h:OutB w B n i v):B<w.heap.size:=by
 obtain⟨cur,h1,_⟩:=h;exact zw h1
theorem zku(n:Nat)(h:(nS n).size≤1000):(nS n).size≤9223372036854775807:=by omega
theorem zqs(x y:Nat)(hx:x<256 ^ 128)(hy:y<256 ^ 128)(w:World):Calls Tryz.prog 168 #[.string (nS x),.string (nS y)] w (Ret (fitR (x+y)) w):=by
 have hv1:=zj.2 hx;have hv2:=zj.2 hy;have hs1:=zf.2 hx;have hs2:=zf.2 hy;have HV1:=Hq hv1;have HV2:=Hq hv2;obtain⟨s,hs⟩:∃ s,nS x=s:=⟨_,rfl⟩;obtain⟨t,ht⟩:∃ t,nS y=t:=⟨_,rfl⟩;rw[hs]at hs1 HV1⊢;rw[ht]at hs2 HV2⊢;have HS:=Hq hs;have HT:=Hq ht;have HX:=Hq (show (nS x).size≤1000 from by rw[hs];omega);have HY:=Hq (show (nS y).size≤1000 from by rw[ht];omega);clear hv1 hv2 hs ht hx hy;obtain⟨m,hm⟩:∃ m:Nat,max (s.size:Int) (t.size:Int)=(m:Int):=⟨max s.size t.size,by omega⟩;have hm1:m≤128:=by omega
 have hmx:x<256 ^ m:=zf.1 (by rw[HS.out];omega);have hmy:y<256 ^ m:=zf.1 (by rw[HT.out];omega);have hxy:x+y<256 ^ (m+1):=by rw[Nat.pow_succ];omega
 have HXY:=Hq hxy;clear hmx hmy hxy;have hmk:=fun(w:World)=>xr (m+1) (by omega) w;simp only[Int.natCast_add,Int.natCast_one]at hmk;go_enter Tryz.func168,Tryz.ntmps168;go_wp2_with fail;refine(zn s (by omega) _).mono ?_;rintro e w1 ⟨rfl,rfl⟩;rw[HV1.out];go_wp2_with fail;refine(zn t (by omega) _).mono ?_;rintro e w1 ⟨rfl,rfl⟩;rw[HV2.out];go_wp2;clear hmk hm;go_loopw [8,27] (fun c i wr=>∃(k q:Nat),k≤m+1∧i=.int .i64 k∧c=.int .i64 q∧q≤1∧(x+y) / 256 ^ k=x / 256 ^ k+y / 256 ^ k+q∧OutB wr w.heap.size (m+1) k (x+y)∧Below w.heap.size w wr) (fun _ i _=>m+1 - (intOf i).toNat);case atStart=>exact⟨0,0,Nat.zero_le _,rfl,rfl,by omega,by simp,OutB.start _ _,(blr).alloc nlr _⟩
 case round =>
  obtain⟨k,q,hk,rfl,rfl,hq,hc,hO,hB⟩:=hrel;have HO:=Hq hO;have HB:=Hq hB;have HC:=Hq hc;clear hO hB hc;by_cases hlt:k<m+1
  · obtain⟨j,hj⟩:∃ j,j+k=m:=⟨m - k,by omega⟩;have hix:(m:Int) - (k:Int)=(j:Int):=by omega
    have hjm:j<m+1:=by omega
    obtain⟨u,hu⟩:=HO.out.cell hjm;have hf:=HO.out.free j;have hs3:=zj8 HC.out;have hd1:=xk x k;have hd2:=xk y k;obtain⟨d1,hd1e⟩:∃ d,dig x k=d:=⟨_,rfl⟩;obtain⟨d2,hd2e⟩:∃ d,dig y k=d:=⟨_,rfl⟩;rw[hd1e]at hs3 hd1;rw[hd2e]at hs3 hd2;have HD1:=Hq hd1e;have HD2:=Hq hd2e;have HS3:=Hq hs3;have HJ:=Hq hj;clear hs3 hd1e hd2e hj;go_wp2_with fail;rw[←HS.out];refine(xm x k HX.out _).mono ?_;rintro e w1 ⟨rfl,rfl⟩;rw[HD1.out,HS.out];go_wp2_with fail;rw[←HT.out];refine(xm y k HY.out _).mono ?_;rintro e w1 ⟨rfl,rfl⟩;rw[HD2.out,HT.out];go_wp2;refine⟨⟨k+1,(d1+d2+q) / 256,by omega,by go_num,by go_num,by omega,HS3.out.1,?_,HB.out.setCell (p:=⟨w.heap.size,j,none⟩) nlr _⟩,by simp[intOf];omega⟩;have h1:=HO.out.step (k:=j) (by have:=HJ.out;omega);rw[HS3.out.2]at h1;rw[show ((q:Int)+((d1:Int)+(d2:Int)))%256=(((d1+d2+q)%256:Nat):Int)from by omega];exact h1
  · obtain rfl:k=m+1:=by omega
    have hby:=HO.out.bytes (by omega)
    have HBY:=Hq hby
    clear hby
    go_wp2_with fail;refine(ki _ _ _ _ _ HBY.out).mono ?_;rintro e w1 ⟨rfl,rfl⟩;rw[ko HXY.out];go_wp2_with fail;refine(zdx (x+y) (zku (x+y) (by have:=zf.2 HXY.out;omega)) _).mono ?_;rintro e w1 ⟨rfl,rfl⟩;obtain⟨r1,r2,hr⟩:=zd7 (x+y);rw[hr];have HR:=Hq hr;clear hr;go_wp2;go_ret2;exact⟨by rw[HR.out];rfl,HB.out⟩
theorem zb8(x y:Nat)(hs1:(nS x).size≤500)(hs2:(nS y).size≤500)(w:World):Calls Tryz.prog 177 #[.string (nS x),.string (nS y)] w (Ret (.string (nS (x+y))) w):=by
 obtain⟨s,hs⟩:∃ s,nS x=s:=⟨_,rfl⟩;obtain⟨t,ht⟩:∃ t,nS y=t:=⟨_,rfl⟩;rw[hs]at hs1⊢;rw[ht]at hs2⊢;have HS:=Hq hs;have HT:=Hq ht;have HX:=Hq (show (nS x).size≤1000 from by rw[hs];omega);have HY:=Hq (show (nS y).size≤1000 from by rw[ht];omega);clear hs ht;obtain⟨m,hm⟩:∃ m:Nat,max (s.size:Int) (t.size:Int)=(m:Int):=⟨max s.size t.size,by omega⟩;have hm1:m≤500:=by omega
 have hmx:x<256 ^ m:=zf.1 (by rw[HS.out];omega);have hmy:y<256 ^ m:=zf.1 (by rw[HT.out];omega);have hxy:x+y<256 ^ (m+1):=by rw[Nat.pow_succ];omega
 have HXY:=Hq hxy;clear hmx hmy hxy;have hmk:=fun(w:World)=>xr (m+1) (by omega) w;simp only[Int.natCast_add,Int.natCast_one]at hmk;go_enter Tryz.func177,Tryz.ntmps177;go_wp2;clear hmk hm;go_loopw [7,8] (fun c i wr=>∃(k q:Nat),k≤m+1∧i=.int .i64 k∧c=.int .i64 q∧q≤1∧(x+y) / 256 ^ k=x / 256 ^ k+y / 256 ^ k+q∧OutB wr w.heap.size (m+1) k (x+y)∧Below w.heap.size w wr) (fun _ i _=>m+1 - (intOf i).toNat);case atStart=>exact⟨0,0,Nat.zero_le _,rfl,rfl,by omega,by simp,OutB.start _ _,(blr).alloc nlr _⟩
 case round =>
  obtain⟨k,q,hk,rfl,rfl,hq,hc,hO,hB⟩:=hrel;have HO:=Hq hO;have HB:=Hq hB;have HC:=Hq hc;clear hO hB hc;by_cases hlt:k<m+1
  · obtain⟨j,hj⟩:∃ j,j+k=m:=⟨m - k,by omega⟩;have hix:(m:Int) - (k:Int)=(j:Int):=by omega
    have hjm:j<m+1:=by omega
    obtain⟨u,hu⟩:=HO.out.cell hjm;have hf:=HO.out.free j;have hs3:=zj8 HC.out;have hd1:=xk x k;have hd2:=xk y k;obtain⟨d1,hd1e⟩:∃ d,dig x k=d:=⟨_,rfl⟩;obtain⟨d2,hd2e⟩:∃ d,dig y k=d:=⟨_,rfl⟩;rw[hd1e]at hs3 hd1;rw[hd2e]at hs3 hd2;have HD1:=Hq hd1e;have HD2:=Hq hd2e;have HS3:=Hq hs3;have HJ:=Hq hj;clear hs3 hd1e hd2e hj;go_wp2_with fail;rw[←HS.out];refine(zg8 x k HX.out _).mono ?_;rintro e w1 ⟨rfl,rfl⟩;rw[HD1.out,HS.out];go_wp2_with fail;rw[←HT.out];refine(zg8 y k HY.out _).mono ?_;rintro e w1 ⟨rfl,rfl⟩;rw[HD2.out,HT.out];go_wp2;refine⟨⟨k+1,(d1+d2+q) / 256,by omega,by go_num,by go_num,by omega,HS3.out.1,?_,HB.out.setCell (p:=⟨w.heap.size,j,none⟩) nlr _⟩,by simp[intOf];omega⟩;have h1:=HO.out.step (k:=j) (by have:=HJ.out;omega);rw[HS3.out.2]at h1;exact h1
  · obtain rfl:k=m+1:=by omega
    have hby:=HO.out.bytes (by omega)
    have HBY:=Hq hby
    clear hby
    go_wp2_with fail;refine(za5 _ _ _ _ _ HBY.out).mono ?_;rintro e w1 ⟨rfl,rfl⟩;rw[ko HXY.out];go_wp2;go_ret;exact⟨rfl,HB.out⟩
theorem zn1(x y:Nat)(hs1:(nS x).size≤500)(hxy:y≤x)(w:World):Calls Tryz.prog 159 #[.string (nS x),.string (nS y)] w (Ret (.string (nS (x - y))) w):=by
 have hle:(nS y).size≤(nS x).size:=by rw[kr,kr];exact zar hxy
 obtain⟨s,hs⟩:∃ s,nS x=s:=⟨_,rfl⟩;obtain⟨t,ht⟩:∃ t,nS y=t:=⟨_,rfl⟩;rw[hs]at hs1 hle⊢;rw[ht]at hle⊢;have HS:=Hq hs;have HT:=Hq ht;have HX:=Hq (show (nS x).size≤1000 from by rw[hs];omega);have HY:=Hq (show (nS y).size≤1000 from by rw[ht];omega);clear hs ht;obtain⟨m,hm⟩:∃ m:Nat,s.size=m:=⟨_,rfl⟩;rw[hm]at hs1 hle;have hmx:x<256 ^ m:=zf.1 (by rw[HS.out,hm];exact Nat.le_refl _);have hxy2:x - y<256 ^ m:=by omega
 have HXY:=Hq hxy2;have HLE:=Hq hxy;clear hmx hxy2 hxy;have hmk:=fun(w:World)=>xr m (by omega) w;go_enter Tryz.func159,Tryz.ntmps159;go_wp2;have HM:=Hq hm;clear hmk hm;go_loopw [7,15] (fun c i wr=>∃(k q:Nat),k≤m∧i=.int .i64 k∧c=.int .i64 q∧q≤1∧x / 256 ^ k=y / 256 ^ k+(x - y) / 256 ^ k+q∧OutB wr w.heap.size m k (x - y)∧Below w.heap.size w wr) (fun _ i _=>m - (intOf i).toNat);case atStart=>exact⟨0,0,Nat.zero_le _,rfl,rfl,by omega,by have:=HLE.out;simp;omega,OutB.start _ _,(blr).alloc nlr _⟩
 case round =>
  obtain⟨k,q,hk,rfl,rfl,hq,hc,hO,hB⟩:=hrel;have HO:=Hq hO;have HB:=Hq hB;have HC:=Hq hc;clear hO hB hc;by_cases hlt:k<m
  · obtain⟨j,hj⟩:∃ j,j+k+1=m:=⟨m - k - 1,by omega⟩;have hix:(m:Int) - 1 - (k:Int)=(j:Int):=by omega
    have hjm:j<m:=by omega
    obtain⟨u,hu⟩:=HO.out.cell hjm;have hf:=HO.out.free j;have hs3:=zi3 HLE.out HC.out hq;have hd1:=xk x k;have hd2:=xk y k;obtain⟨d1,hd1e⟩:∃ d,dig x k=d:=⟨_,rfl⟩;obtain⟨d2,hd2e⟩:∃ d,dig y k=d:=⟨_,rfl⟩;rw[hd1e]at hs3 hd1;rw[hd2e]at hs3 hd2;have HD1:=Hq hd1e;have HD2:=Hq hd2e;have HS3:=Hq hs3;have HJ:=Hq hj;clear hs3 hd1e hd2e hj;by_cases hneg:d2+q≤d1;all_goals
     go_wp2_with fail;rw[←HS.out];refine(xm x k HX.out _).mono ?_;rintro e w1 ⟨rfl,rfl⟩;rw[HD1.out,HS.out];go_wp2_with fail;rw[←HT.out];refine(xm y k HY.out _).mono ?_;rintro e w1 ⟨rfl,rfl⟩;rw[HD2.out,HT.out];go_wp2
    · refine⟨⟨k+1,0,by omega,by go_num,by go_num,by omega,(HS3.out.1 hneg).2,?_,HB.out.setCell (p:=⟨w.heap.size,j,none⟩) nlr _⟩,by simp[intOf];omega⟩;have h1:=HO.out.step (k:=j) (by have:=HJ.out;omega);rw[(HS3.out.1 hneg).1]at h1;have e1:((d1:Int) - (d2:Int) - (q:Int))=((d1 - d2 - q:Nat):Int):=by omega
      first | rw[e1] | (rw[show ((d1:Int) - (d2:Int) - (q:Int))%256=((d1 - d2 - q:Nat):Int)from by omega])
      exact h1
    · refine⟨⟨k+1,1,by omega,by go_num,by go_num,by omega,(HS3.out.2 (by omega)).2,?_,HB.out.setCell (p:=⟨w.heap.size,j,none⟩) nlr _⟩,by simp[intOf];omega⟩;have h1:=HO.out.step (k:=j) (by have:=HJ.out;omega);rw[(HS3.out.2 (by omega)).1]at h1;have e1:((d1:Int) - (d2:Int) - (q:Int)+256)=((d1+256 - d2 - q:Nat):Int):=by omega
      first | rw[e1] | (rw[show ((d1:Int) - (d2:Int) - (q:Int)+256)%256=((d1+256 - d2 - q:Nat):Int)from by omega])
      exact h1
  · obtain rfl:k=m:=by omega
    have hby:=HO.out.bytes (by omega)
    have HBY:=Hq hby
    clear hby
    go_wp2_with fail;refine(ki _ _ _ _ _ HBY.out).mono ?_;rintro e w1 ⟨rfl,rfl⟩;rw[ko HXY.out];go_wp2;go_ret;exact⟨rfl,HB.out⟩
theorem qy(x y:Nat)(hs1:(nS x).size≤500)(hxy:y≤x)(w:World):Calls Tryz.prog 125 #[.string (nS x),.string (nS y)] w (Ret (.string (nS (x - y))) w):=by
 have hle:(nS y).size≤(nS x).size:=by rw[kr,kr];exact zar hxy
 obtain⟨s,hs⟩:∃ s,nS x=s:=⟨_,rfl⟩;obtain⟨t,ht⟩:∃ t,nS y=t:=⟨_,rfl⟩;rw[hs]at hs1 hle⊢;rw[ht]at hle⊢;have HS:=Hq hs;have HT:=Hq ht;have HX:=Hq (show (nS x).size≤1000 from by rw[hs];omega);have HY:=Hq (show (nS y).size≤1000 from by rw[ht];omega);clear hs ht;obtain⟨m,hm⟩:∃ m:Nat,s.size=m:=⟨_,rfl⟩;rw[hm]at hs1 hle;have hmx:x<256 ^ m:=zf.1 (by rw[HS.out,hm];exact Nat.le_refl _);have hxy2:x - y<256 ^ m:=by omega
 have HXY:=Hq hxy2;have HLE:=Hq hxy;clear hmx hxy2 hxy;have hmk:=fun(w:World)=>xr m (by omega) w;go_enter Tryz.func125,Tryz.ntmps125;go_wp2;have HM:=Hq hm;clear hmk hm;go_loopw [7,8] (fun c i wr=>∃(k q:Nat),k≤m∧i=.int .i64 k∧c=.int .i64 q∧q≤1∧x / 256 ^ k=y / 256 ^ k+(x - y) / 256 ^ k+q∧OutB wr w.heap.size m k (x - y)∧Below w.heap.size w wr) (fun _ i _=>m - (intOf i).toNat);case atStart=>exact⟨0,0,Nat.zero_le _,rfl,rfl,by omega,by have:=HLE.out;simp;omega,OutB.start _ _,(blr).alloc nlr _⟩
 case round =>
  obtain⟨k,q,hk,rfl,rfl,hq,hc,hO,hB⟩:=hrel;have HO:=Hq hO;have HB:=Hq hB;have HC:=Hq hc;clear hO hB hc;by_cases hlt:k<m
  · obtain⟨j,hj⟩:∃ j,j+k+1=m:=⟨m - k - 1,by omega⟩;have hix:(m:Int) - 1 - (k:Int)=(j:Int):=by omega
    have hjm:j<m:=by omega
    obtain⟨u,hu⟩:=HO.out.cell hjm;have hf:=HO.out.free j;have hs3:=zi3 HLE.out HC.out hq;have hd1:=xk x k;have hd2:=xk y k;obtain⟨d1,hd1e⟩:∃ d,dig x k=d:=⟨_,rfl⟩;obtain⟨d2,hd2e⟩:∃ d,dig y k=d:=⟨_,rfl⟩;rw[hd1e]at hs3 hd1;rw[hd2e]at hs3 hd2;have HD1:=Hq hd1e;have HD2:=Hq hd2e;have HS3:=Hq hs3;have HJ:=Hq hj;clear hs3 hd1e hd2e hj;by_cases hneg:d2+q≤d1;all_goals
     go_wp2_with fail;rw[←HS.out];refine(zg8 x k HX.out _).mono ?_;rintro e w1 ⟨rfl,rfl⟩;rw[HD1.out,HS.out];go_wp2_with fail;rw[←HT.out];refine(zg8 y k HY.out _).mono ?_;rintro e w1 ⟨rfl,rfl⟩;rw[HD2.out,HT.out];go_wp2
    · refine⟨⟨k+1,0,by omega,by go_num,by go_num,by omega,(HS3.out.1 hneg).2,?_,HB.out.setCell (p:=⟨w.heap.size,j,none⟩) nlr _⟩,by simp[intOf];omega⟩;have h1:=HO.out.step (k:=j) (by have:=HJ.out;omega);rw[(HS3.out.1 hneg).1]at h1;have e1:((d1:Int) - (d2:Int) - (q:Int))=((d1 - d2 - q:Nat):Int):=by omega
      first | rw[e1] | (rw[show ((d1:Int) - (d2:Int) - (q:Int))%256=((d1 - d2 - q:Nat):Int)from by omega])
      exact h1
    · refine⟨⟨k+1,1,by omega,by go_num,by go_num,by omega,(HS3.out.2 (by omega)).2,?_,HB.out.setCell (p:=⟨w.heap.size,j,none⟩) nlr _⟩,by simp[intOf];omega⟩;have h1:=HO.out.step (k:=j) (by have:=HJ.out;omega);rw[(HS3.out.2 (by omega)).1]at h1;have e1:((d1:Int) - (d2:Int) - (q:Int)+256)=((d1+256 - d2 - q:Nat):Int):=by omega
      first | rw[e1] | (rw[show ((d1:Int) - (d2:Int) - (q:Int)+256)%256=((d1+256 - d2 - q:Nat):Int)from by omega])
      exact h1
  · obtain rfl:k=m:=by omega
    have hby:=HO.out.bytes (by omega)
    have HBY:=Hq hby
    clear hby
    go_wp2_with fail;refine(za5 _ _ _ _ _ HBY.out).mono ?_;rintro e w1 ⟨rfl,rfl⟩;rw[ko HXY.out];go_wp2;go_ret;exact⟨rfl,HB.out⟩
theorem sqA{α:Type _}(l:List α)(i:Nat)(a:α):l.toArray.setIfInBounds i a=(l.set i a).toArray:=List.setIfInBounds_toArray _ _ _
theorem sqB{α:Type _}(a b:α)(l:List α):(a::l).set 0 b=b::l:=rfl
theorem sqC{α:Type _}(a b:α)(l:List α)(n:Nat):(a::l).set (n+1) b=a::l.set n b:=rfl
section
variable {P : Program} {ops : Array Oper} {Q : Exit → Act → World → Prop} {md : Region.Mode} {S : World → Prop} {k : Nat}
def Down(md:Region.Mode)(ops:Array Oper)(listed:Array Bool):Prop:=
 listed.size=ops.size∧∀ j o,ops[j]? =some o→listed.getD j false=true→∀ e∈o.after,Region.binds md e=true→listed.getD e.on false=true
theorem zd5(n j:Nat):(Array.replicate n false).getD j false=false:=by
 rw[Array.getD_eq_getD_getElem?,Array.getElem?_replicate];split<;>rfl
theorem Down.start:Down md ops (Array.replicate ops.size false):=by
 refine⟨Array.size_replicate,fun j o _ h=>?_⟩;rw[zd5]at h;cases h
theorem Down.beyond{listed:Array Bool}(h:Down md ops listed){j:Nat}(hj:ops.size≤j):listed.getD j false=false:=by
 rw[Array.getD_eq_getD_getElem?,Array.getElem?_eq_none (by rw[h.1];exact hj)];rfl
theorem zfc{listed:Array Bool}{j:Nat}(h:listed.getD j true=false):listed.getD j false=false:=by
 rw[Array.getD_eq_getD_getElem?]at *
 cases e:listed[j]? with
 | none=>rfl
 | some b=>rw[e]at h;exact h
theorem zgj{listed:Array Bool}{i:Nat}(h:listed.getD i true=false):(listed.setIfInBounds i true).getD i false=true:=by
 rw[Array.getD_eq_getD_getElem?]at *;have hi:i<listed.size:=by
  rcases Nat.lt_or_ge i listed.size with h' | h'
  · exact h'
  · rw[Array.getElem?_eq_none h']at h;cases h
 rw[Array.getElem?_setIfInBounds_self];rw[if_pos hi];rfl
theorem Down.set{listed:Array Bool}(h:Down md ops listed){i:Nat}(hi:i∈Region.ready md ops listed):Down md ops (listed.setIfInBounds i true):=by
 refine⟨by rw[Array.size_setIfInBounds];exact h.1,fun j o hj hl e he hb=>?_⟩;by_cases hij:i=j
 · subst hij;obtain⟨_,o',ho',hall⟩:=mem_ready.1 hi;rw[hj]at ho';cases ho';exact getD_set_true (hall e he hb)
 · rw[getD_set_ne false hij]at hl;exact getD_set_true (h.2 j o hj hl e he hb)
def zdn(md:Region.Mode)(ops:Array Oper):Nat→Nat→Nat→Bool
 | 0,_,_=>false
 | n+1,k,i=>match ops[k]? with
  | none=>false
  | some o=>o.after.any fun e=>Region.binds md e&&(e.on==i||zdn md ops n e.on i)
theorem zdm{listed:Array Bool}(h:Down md ops listed):∀(n k i:Nat),zdn md ops n k i=true→listed.getD k false=true→listed.getD i false=true
 | 0,_,_,hr,_=>by cases hr
 | n+1,k,i,hr,hk=>by
  unfold zdn at hr
  cases ho:ops[k]? with
  | none=>rw[ho]at hr;cases hr
  | some o =>
   rw[ho]at hr;simp only[Array.any_eq_true',Bool.and_eq_true,Bool.or_eq_true,beq_iff_eq]at hr;obtain⟨e,he,hb,h1 | h1⟩:=hr
   · rw[←h1];exact h.2 k o ho hk e he hb
   · exact zdm h n e.on i h1 (h.2 k o ho hk e he hb)
def jb(P:Program)(md:Region.Mode)(ops:Array Oper)(Q:Exit→Act→World→Prop)(k:Nat)(S:World→Prop):Nat→Array Bool→Act→World→Prop
 | 0,listed,a,w=>Region.ready md ops listed=[]∧Q .normal a w
 | fuel+1,listed,a,w =>
  (Region.ready md ops listed=[]→Q .normal a w) ∧
  ∀ i∈Region.ready md ops listed,wpOp P ops Q i (fun a' w'=>((listed.setIfInBounds i true).getD k false=false→S w')∧jb P md ops Q k S fuel (listed.setIfInBounds i true) a' w') a w
theorem zeu:∀(fuel:Nat) (listed:Array Bool) (a:Act) (w:World),jb P md ops Q k S fuel listed a w→wpAny P md ops Q fuel listed a w
 | 0,_,_,_,h=>h
 | fuel+1,_,_,_,h=>⟨h.1,fun i hi=>wpOp_mono (fun a' w' h'=>zeu fuel _ a' w' h'.2) (h.2 i hi)⟩
theorem qi{i:Nat}{oi:Oper}{v:Value}{T:World→Prop}(hi:ops[i]? =some oi)(hsel:∀(j:Nat) (o:Oper) cs b,ops[j]? =some o→o.op≠.select cs b)
 (hT:∀(listed:Array Bool) (w:World),Down md ops listed→listed.getD i true=false→(listed.getD k false=false→S w)→T w) (hki:k≠i)
 (hQ:∀ c a w,Q (.panic c) (a.put oi.dst v) w→Q (.panic c) a w) :
 ∀(fuel:Nat) (listed:Array Bool) (a:Act) (w:World),Down md ops listed →
  (∀ j oj,ops[j]? =some oj→j≠i→listed.getD j true=false→(∀ e∈oj.after,Region.binds md e=true→e.on≠i)→oi.apart ops oj=true) →
  i∈Region.ready md ops listed→YieldsIf P ops T oi v a→(listed.getD k false=false→S w) →
  jb P md ops Q k S fuel (listed.setIfInBounds i true) (a.put oi.dst v) w→jb P md ops Q k S (fuel+1) listed a w:=by
 intro fuel
 induction fuel with
 | zero =>
  intro listed a w hD _ hr hy hS H;refine⟨fun h=>(by rw[h]at hr;cases hr),fun j hj=>?_⟩;have hTw:=hT listed w hD (mem_ready.1 hr).1 hS;by_cases hji:j=i
  · subst hji;exact hy.wpOp hi hTw ⟨fun h=>hS (by rw[getD_set_ne false (Ne.symm hki)]at h;exact h),H⟩
  · have:=ready_mono hj hji;rw[H.1]at this;cases this
 | succ fuel ih =>
  intro listed a w hD hfree hr hy hS H;refine⟨fun h=>(by rw[h]at hr;cases hr),fun j hj=>?_⟩;have hTw:=hT listed w hD (mem_ready.1 hr).1 hS;by_cases hji:j=i
  · subst hji;exact hy.wpOp hi hTw ⟨fun h=>hS (by rw[getD_set_ne false (Ne.symm hki)]at h;exact h),H⟩
  · have h1:=H.2 j (ready_mono hj hji);obtain⟨hjun,oj,hoj,hall⟩:=mem_ready.1 hj;have hnot:∀ e∈oj.after,Region.binds md e=true→e.on≠i:=fun e he hb heq=>by
     have h1:=hall e he hb;have h0:=zfc (mem_ready.1 hr).1;rw[heq,h0]at h1;cases h1
    have h2:=wpOp_putIf hoj (hfree j oj hoj hji hjun hnot) (fun cs b=>hsel i oi cs b hi) (fun cs b=>hsel j oj cs b hoj) hQ hy h1;have hfree':∀ m om,ops[m]? =some om→m≠i→(listed.setIfInBounds j true).getD m true=false →
     (∀ e∈om.after,Region.binds md e=true→e.on≠i)→oi.apart ops om=true:=fun m om hm hmi hun hno=>by
     refine hfree m om hm hmi ?_ hno;by_cases hjm:j=m
     · subst hjm;exact hjun
     · rw[getD_set_ne true hjm]at hun;exact hun
    refine wpOp_mono (fun a' w' h3=>?_) h2;have hS':(listed.setIfInBounds j true).getD k false=false→S w':=fun h=>h3.2.1 (by
     rw[Array.setIfInBounds_comm _ _ (Ne.symm hji),getD_set_ne false (Ne.symm hki)]
     exact h)
    refine⟨hS',ih (listed.setIfInBounds j true) a' w' (hD.set hj) hfree' (ready_mono hr (Ne.symm hji)) h3.1 hS' ?_⟩;rw[Array.setIfInBounds_comm _ _ hji];exact h3.2.2
def qo(md:Region.Mode)(ops:Array Oper)(listed:Array Bool)(k i:Nat):Bool:=
 Region.noSelect ops&&Region.free md ops listed i&&(Region.ready md ops listed).contains i && !(k==i)
theorem qw{listed:Array Bool}{i:Nat}(h:qo md ops listed k i=true):Region.noSelect ops=true∧Region.free md ops listed i=true∧i∈Region.ready md ops listed∧k≠i:=by
 simp only[qo,Bool.and_eq_true,Bool.not_eq_true',beq_eq_false_iff_ne,List.contains_iff_mem]at h;exact⟨h.1.1.1,h.1.1.2,h.1.2,h.2⟩
theorem zdj{i:Nat}{oi:Oper}{v:Value}{fuel:Nat}{listed:Array Bool}{a:Act}{w:World}(hi:ops[i]? =some oi)(hst:qo md ops listed k i=true)(hre:zdn md ops ops.size k i=true)
 (hQ:∀ c a w,Q (.panic c) (a.put oi.dst v) w→Q (.panic c) a w) (hD:Down md ops listed) (hS:S w) (hy:YieldsIf P ops S oi v a)
 (h:Down md ops (listed.setIfInBounds i true)→jb P md ops Q k S fuel (listed.setIfInBounds i true) (a.put oi.dst v) w):jb P md ops Q k S (fuel+1) listed a w:=by
 obtain⟨hs,hf,hr',hki'⟩:=qw hst;refine qi (T:=S) hi (Region.noSelect_spec hs) (fun l w' hD' hl hS'=>hS' ?_) hki' hQ fuel listed a w hD (Region.free_spec hi hf) hr' hy (fun _=>hS) (h (hD.set hr'))
 cases hk:l.getD k false with
 | false=>rfl
 | true=>rw[←zfc hl];exact(zdm hD' _ k i hre hk).symm
theorem zcw{i:Nat}{oi:Oper}{v:Value}{fuel:Nat}{listed:Array Bool}{a:Act}{w:World}(hi:ops[i]? =some oi)(hst:qo md ops listed k i=true)(hre:decide (ops.size≤k)=true)
 (hQ:∀ c a w,Q (.panic c) (a.put oi.dst v) w→Q (.panic c) a w) (hD:Down md ops listed) (hS:S w) (hy:YieldsIf P ops S oi v a)
 (h:Down md ops (listed.setIfInBounds i true)→jb P md ops Q k S fuel (listed.setIfInBounds i true) (a.put oi.dst v) w):jb P md ops Q k S (fuel+1) listed a w:=by
 obtain⟨hs,hf,hr',hki'⟩:=qw hst;exact qi (T:=S) hi (Region.noSelect_spec hs) (fun l w' hD' hl hS'=>hS' (hD'.beyond (of_decide_eq_true hre))) hki' hQ fuel listed a w hD (Region.free_spec hi hf) hr' hy (fun _=>hS) (h (hD.set hr'))
theorem zdk{i:Nat}{oi:Oper}{v:Value}{fuel:Nat}{listed:Array Bool}{a:Act}{w:World}(hi:ops[i]? =some oi)(hst:qo md ops listed k i=true)
 (hQ:∀ c a w,Q (.panic c) (a.put oi.dst v) w→Q (.panic c) a w) (hD:Down md ops listed) (hS:S w) (hy:YieldsIf P ops (fun _=>True) oi v a)
 (h:Down md ops (listed.setIfInBounds i true)→jb P md ops Q k S fuel (listed.setIfInBounds i true) (a.put oi.dst v) w):jb P md ops Q k S (fuel+1) listed a w:=by
 obtain⟨hs,hf,hr',hki'⟩:=qw hst;exact qi (T:=fun _=>True) hi (Region.noSelect_spec hs) (fun _ _ _ _ _=>trivial) hki' hQ fuel listed a w hD (Region.free_spec hi hf) hr' hy (fun _=>hS) (h (hD.set hr'))
theorem zat{i:Nat}{oi:Oper}{v:Value}{fuel:Nat}{listed:Array Bool}{a:Act}{w:World}(hi:ops[i]? =some oi)(hst:qo md ops listed k i=true)(hk:listed.getD k false=true)
 (hQ:∀ c a w,Q (.panic c) (a.put oi.dst v) w→Q (.panic c) a w) (hD:Down md ops listed) (hy:YieldsIf P ops (fun _=>True) oi v a)
 (h:Down md ops (listed.setIfInBounds i true)→jb P md ops Q k S fuel (listed.setIfInBounds i true) (a.put oi.dst v) w):jb P md ops Q k S (fuel+1) listed a w:=by
 obtain⟨hs,hf,hr',hki'⟩:=qw hst;exact qi (T:=fun _=>True) hi (Region.noSelect_spec hs) (fun _ _ _ _ _=>trivial) hki' hQ fuel listed a w hD (Region.free_spec hi hf) hr' hy (fun h0=>by rw[hk]at h0;cases h0) (h (hD.set hr'))
theorem zgu{o:Oper}{a:Act}{w:World}{K:Act→World→Prop}{Q':Exit→Act→World→Prop}(hQ:∀ c a w,Q' (.panic c) a w→Q (.panic c) a w)(hO:LetsOut Q'→LetsOut Q)
 (h:o.wp P a w K Q'):o.wp P a w K Q:=by
 unfold Oper.wp at *;generalize (execOp a.eval o).run P w=r at *
 cases r with
 | ok n w' =>
  cases n<;>simp only[Oper.upon]at h⊢;case value u=>exact h
  case skip=>exact h
  case defer d=>exact h
  case enter f args =>
   refine Calls.mono h fun e w'' he=>?_
   cases e with
   | returned u=>exact he
   | panicked c=>exact hQ _ _ _ he
   | outgrown=>exact hO he
  case row row args=>exact h
 | halt x w' =>
  cases x<;>simp only[Oper.upon]at h⊢;case panic u=>exact hQ _ _ _ h
def EndK(K:Act→World→Prop)(Q:Exit→Act→World→Prop):Exit→Act→World→Prop
 | .normal,a,w=>K a w
 | e,a,w=>Q e a w
def xh(P:Program)(md:Region.Mode)(ops:Array Oper)(Q:Exit→Act→World→Prop)(k:Nat)(S:World→Prop)(i:Nat)(oi:Oper)(fuel:Nat)(listed:Array Bool)(a:Act)(w:World):Prop:=
 ∀ K:Act→World→Prop,(∀ a' w',S w'→(S w'→Down md ops (listed.setIfInBounds i true)→jb P md ops Q k S fuel (listed.setIfInBounds i true) a' w')→K a' w')→wpList P ops (EndK K Q) [oi] a w
theorem zbh{i:Nat}{oi:Oper}{fuel:Nat}{listed:Array Bool}{a:Act}{w:World}(hi':i∈Region.ready md ops listed)(hi:ops[i]? =some oi)(hD:Down md ops listed)(R:World→Prop)(hR:∀ w',R w'→(listed.setIfInBounds i true).getD k false=false→S w')
 (h:∀ K:Act→World→Prop,(∀ a' w',R w'→(R w'→Down md ops (listed.setIfInBounds i true)→jb P md ops Q k S fuel (listed.setIfInBounds i true) a' w')→K a' w')→wpList P ops (EndK K Q) [oi] a w) :
 wpOp P ops Q i (fun a' w'=>((listed.setIfInBounds i true).getD k false=false→S w')∧jb P md ops Q k S fuel (listed.setIfInBounds i true) a' w') a w:=by
 have h1:=h (fun a' w'=>((listed.setIfInBounds i true).getD k false=false→S w')∧jb P md ops Q k S fuel (listed.setIfInBounds i true) a' w') (fun a' w' hS hh=>⟨hR w' hS,hh hS (hD.set hi')⟩);have hO:LetsOut (EndK (fun a' w'=>((listed.setIfInBounds i true).getD k false=false→S w')∧jb P md ops Q k S fuel (listed.setIfInBounds i true) a' w') Q)→LetsOut Q:=fun⟨a',w',hh⟩=>⟨a',w',hh⟩;unfold wpList at h1;unfold wpOp;simp only[hi];split
 · rename_i hw;rw[if_pos hw]at h1;rcases h1 with h1 | ⟨h2,h3⟩
   · exact .inl (zgu (fun _ _ _ hh=>hh) hO h1)
   · exact .inr ⟨h2,hO h3⟩
 · rename_i hw;rw[if_neg hw]at h1;exact h1
theorem ja{i:Nat}{oi:Oper}{fuel:Nat}{listed:Array Bool}{a:Act}{w:World}(hr:Region.ready md ops listed=[i])(hi:ops[i]? =some oi)(hD:Down md ops listed)(hk:(listed.setIfInBounds i true).getD k false=true)
 (h:∀ K:Act→World→Prop,(∀ a' w',(Down md ops (listed.setIfInBounds i true)→jb P md ops Q k S fuel (listed.setIfInBounds i true) a' w')→K a' w')→wpList P ops (EndK K Q) [oi] a w):jb P md ops Q k S (fuel+1) listed a w:=by
 refine⟨fun h0=>(by rw[hr]at h0;cases h0),fun j hj=>?_⟩;have hi':i∈Region.ready md ops listed:=by rw[hr];exact List.mem_singleton.2 rfl
 rw[hr]at hj;obtain rfl:=List.mem_singleton.1 hj;exact zbh hi' hi hD (fun _=>True) (fun _ _ h0=>by rw[hk]at h0;cases h0) (fun K hK=>h K fun a' w' hh=>hK a' w' trivial fun _=>hh)
theorem zc{i:Nat}{oi:Oper}{fuel:Nat}{listed:Array Bool}{a:Act}{w:World}(hr:Region.ready md ops listed=[i])(hi:ops[i]? =some oi)(hD:Down md ops listed)
 (h:∀ K:Act→World→Prop,(∀ a' w',S w'→(S w'→Down md ops (listed.setIfInBounds i true)→jb P md ops Q k S fuel (listed.setIfInBounds i true) a' w')→K a' w')→wpList P ops (EndK K Q) [oi] a w):jb P md ops Q k S (fuel+1) listed a w:=by
 refine⟨fun h0=>(by rw[hr]at h0;cases h0),fun j hj=>?_⟩;have hi':i∈Region.ready md ops listed:=by rw[hr];exact List.mem_singleton.2 rfl
 rw[hr]at hj;obtain rfl:=List.mem_singleton.1 hj;exact zbh hi' hi hD S (fun _ h _=>h) h
theorem je{i i':Nat}{oi oi':Oper}{fuel:Nat}{listed:Array Bool}{a:Act}{w:World}(hr:Region.ready md ops listed=[i,i'])(hi:ops[i]? =some oi)(hi':ops[i']? =some oi')(hD:Down md ops listed)
 (h:xh P md ops Q k S i oi fuel listed a w) (h':xh P md ops Q k S i' oi' fuel listed a w):jb P md ops Q k S (fuel+1) listed a w:=by
 refine⟨fun h0=>(by rw[hr]at h0;cases h0),fun j hj=>?_⟩;have hj':=hj;rw[hr]at hj;simp only[List.mem_cons,List.mem_nil_iff,or_false]at hj;rcases hj with rfl | rfl
 · exact zbh hj' hi hD S (fun _ h _=>h) h
 · exact zbh hj' hi' hD S (fun _ h _=>h) h'
theorem zgv{i i' i'':Nat}{oi oi' oi'':Oper}{fuel:Nat}{listed:Array Bool}{a:Act}{w:World}(hr:Region.ready md ops listed=[i,i',i''])(hi:ops[i]? =some oi)(hi':ops[i']? =some oi')(hi'':ops[i'']? =some oi'')(hD:Down md ops listed)
 (h:xh P md ops Q k S i oi fuel listed a w) (h':xh P md ops Q k S i' oi' fuel listed a w) (h'':xh P md ops Q k S i'' oi'' fuel listed a w):jb P md ops Q k S (fuel+1) listed a w:=by
 refine⟨fun h0=>(by rw[hr]at h0;cases h0),fun j hj=>?_⟩;have hj':=hj;rw[hr]at hj;simp only[List.mem_cons,List.mem_nil_iff,or_false]at hj;rcases hj with rfl | rfl | rfl
 · exact zbh hj' hi hD S (fun _ h _=>h) h
 · exact zbh hj' hi' hD S (fun _ h _=>h) h'
 · exact zbh hj' hi'' hD S (fun _ h _=>h) h''
theorem ze{listed:Array Bool}{a:Act}{w:World}(hr:Region.ready md ops listed=[])(h:Q .normal a w) :
 ∀ fuel,jb P md ops Q k S fuel listed a w
 | 0=>⟨hr,h⟩
 | _+1=>⟨fun _=>h,by rw[hr];simp⟩
theorem zg(k:Nat)(S:World→Prop){id:Nat}{a:Act}{w:World}(hm:P.follows .mixedOrders=true)
 (h:Down .any ops (Array.replicate ops.size false)→jb P .any ops Q k S ops.size (Array.replicate ops.size false) a w.drew):(Code.region id ops true).wp P Q a w:=
 wp_region_any hm (zeu _ _ _ _ (h Down.start))
end
section
variable {P : Program} {ops : Array Oper} {Q : Exit → Act → World → Prop} {md : Region.Mode} {S : World → Prop} {k : Nat}
theorem qP{oi:Oper}{v:Value}{listed:Array Bool}{a:Act}{w:World}(i fuel:Nat)(hi:ops[i]? =some oi)(hD:Down md ops listed)(hS:S w)(h:Down md ops (listed.setIfInBounds i true)→jb P md ops Q k S fuel (listed.setIfInBounds i true) (a.put oi.dst v) w)(hy:∀ w',True→(execOp a.eval oi).run P w'=.ok (.value v) w':=by intro w' _;go_simp;with_reducible rfl)(hst:qo md ops listed k i=true:=by kernel_rfl)(hg:Region.wanted oi (yielded ops a.tmps)=true:=by kernel_rfl)(hQ:∀ c a w,Q (.panic c) (a.put oi.dst v) w→Q (.panic c) a w:=by exact fun _ _ _ h=>h):jb P md ops Q k S (fuel+1) listed a w:=zdk hi hst hQ hD hS (.inl ⟨hg,hy⟩) h
theorem qT{oi:Oper}{v:Value}{listed:Array Bool}{a:Act}{w:World}(i fuel:Nat)(hi:ops[i]? =some oi)(hD:Down md ops listed)(hS:S w)(hy:∀ w',S w'→(execOp a.eval oi).run P w'=.ok (.value v) w')(h:Down md ops (listed.setIfInBounds i true)→jb P md ops Q k S fuel (listed.setIfInBounds i true) (a.put oi.dst v) w)(hst:qo md ops listed k i=true:=by kernel_rfl)(hre:zdn md ops ops.size k i=true:=by kernel_rfl)(hg:Region.wanted oi (yielded ops a.tmps)=true:=by kernel_rfl)(hQ:∀ c a w,Q (.panic c) (a.put oi.dst v) w→Q (.panic c) a w:=by exact fun _ _ _ h=>h):jb P md ops Q k S (fuel+1) listed a w:=zdj hi hst hre hQ hD hS (.inl ⟨hg,hy⟩) h
theorem qS{oi:Oper}{v:Value}{listed:Array Bool}{a:Act}{w:World}(i fuel:Nat)(hi:ops[i]? =some oi)(hD:Down md ops listed)(hS:S w)(hy:∀ w',S w'→(execOp a.eval oi).run P w'=.ok (.value v) w')(h:Down md ops (listed.setIfInBounds i true)→jb P md ops Q k S fuel (listed.setIfInBounds i true) (a.put oi.dst v) w)(hst:qo md ops listed k i=true:=by kernel_rfl)(hre:decide (ops.size≤k)=true:=by kernel_rfl)(hg:Region.wanted oi (yielded ops a.tmps)=true:=by kernel_rfl)(hQ:∀ c a w,Q (.panic c) (a.put oi.dst v) w→Q (.panic c) a w:=by exact fun _ _ _ h=>h):jb P md ops Q k S (fuel+1) listed a w:=zcw hi hst hre hQ hD hS (.inl ⟨hg,hy⟩) h
end
set_option maxRecDepth 100000
set_option maxHeartbeats 1000000
theorem jl{x y:Nat}(h:y≤x):0≤cmpI x y:=by
 unfold cmpI;rw[if_neg (by omega)];split<;>omega
theorem zhe(x y:Nat)(hx:x<256 ^ 128)(hy:y<256 ^ 128)(h:x<y)(w:World):Calls Tryz.prog 101 #[.string (nS x),.string (nS y)] w (RetQ (.tuple #[.string ⟨#[]⟩,.int .i64 2]) w):=by
 have hs1:=zf.2 hx;have hs2:=zf.2 hy;have HV1:=Hq (zj.2 hx);have HV2:=Hq (zj.2 hy);have HO:=Hq (xl x y);obtain⟨s,hs⟩:∃ s,nS x=s:=⟨_,rfl⟩;obtain⟨t,ht⟩:∃ t,nS y=t:=⟨_,rfl⟩;rw[hs]at hs1 HV1 HO⊢;rw[ht]at hs2 HV2 HO⊢;have HS:=Hq hs;have HT:=Hq ht;have HX:=Hq hx;have HY:=Hq hy;clear hs ht hx hy;go_enter Tryz.func101,Tryz.ntmps101;go_wp2_with fail;refine(zn s (by omega) _).mono ?_;rintro e w1 ⟨rfl,rfl⟩;rw[HV1.out];go_wp2_with fail;refine(zn t (by omega) _).mono ?_;rintro e w1 ⟨rfl,rfl⟩;rw[HV2.out];go_wp2_with fail;refine(kj s t (by omega) (by omega) _).mono ?_;rintro e w1 ⟨rfl,rfl⟩;rw[HO.out,ks h];go_wp2;go_ret2;exact⟨rfl,rfl⟩
theorem zcr(x y:Nat)(hx:x<256 ^ 128)(hy:y<256 ^ 128)(h:y≤x)(w:World):Calls Tryz.prog 101 #[.string (nS x),.string (nS y)] w (Ret (.tuple #[.string (nS (x - y)),.int .i64 0]) w):=by
 have HG:=Hq (jl h);have hs1:=zf.2 hx;have hs2:=zf.2 hy;have HV1:=Hq (zj.2 hx);have HV2:=Hq (zj.2 hy);have HO:=Hq (xl x y);obtain⟨s,hs⟩:∃ s,nS x=s:=⟨_,rfl⟩;obtain⟨t,ht⟩:∃ t,nS y=t:=⟨_,rfl⟩;rw[hs]at hs1 HV1 HO⊢;rw[ht]at hs2 HV2 HO⊢;have HS:=Hq hs;have HT:=Hq ht;have HX:=Hq hx;have HY:=Hq hy;clear hs ht hx hy;go_enter Tryz.func101,Tryz.ntmps101;go_wp2_with fail;refine(zn s (by omega) _).mono ?_;rintro e w1 ⟨rfl,rfl⟩;rw[HV1.out];go_wp2_with fail;refine(zn t (by omega) _).mono ?_;rintro e w1 ⟨rfl,rfl⟩;rw[HV2.out];go_wp2_with fail;refine(kj s t (by omega) (by omega) _).mono ?_;rintro e w1 ⟨rfl,rfl⟩;rw[HO.out];have hg:=HG.out;obtain⟨c,hc⟩:∃ c,cmpI x y=c:=⟨_,rfl⟩;rw[hc]at hg⊢;clear hc HG;go_wp2_with fail;rw[←HS.out,←HT.out];refine(zn1 x y (by rw[HS.out];omega) h _).mono ?_;rintro e w1 ⟨rfl,hb⟩;have HB:=Hq hb;clear hb;go_wp2;go_ret2;exact⟨rfl,HB.out⟩
theorem za6(x y:Nat)(hx:x<256 ^ 128)(hy:y<256 ^ 128)(h:y≤x)(w:World):Calls Tryz.prog 181 #[.string (nS x),.string (nS y)] w (Ret (.tuple #[.string (nS (x - y)),.int .i64 0]) w):=by
 have HG:=Hq (jl h);have hs1:=zf.2 hx;have hs2:=zf.2 hy;have HV1:=Hq (zj.2 hx);have HV2:=Hq (zj.2 hy);have HO:=Hq (xl x y);obtain⟨s,hs⟩:∃ s,nS x=s:=⟨_,rfl⟩;obtain⟨t,ht⟩:∃ t,nS y=t:=⟨_,rfl⟩;rw[hs]at hs1 HV1 HO⊢;rw[ht]at hs2 HV2 HO⊢;have HS:=Hq hs;have HT:=Hq ht;have HX:=Hq hx;have HY:=Hq hy;clear hs ht hx hy;go_enter Tryz.func181,Tryz.ntmps181;go_wp2_with fail;refine(zu s (by omega) _).mono ?_;rintro e w1 ⟨rfl,rfl⟩;rw[HV1.out];go_wp2_with fail;refine(zu t (by omega) _).mono ?_;rintro e w1 ⟨rfl,rfl⟩;rw[HV2.out];go_wp2_with fail;refine(jv s t (by omega) (by omega) _).mono ?_;rintro e w1 ⟨rfl,hb1⟩;have HB1:=Hq hb1;clear hb1;rw[HO.out];have hg:=HG.out;obtain⟨c,hc⟩:∃ c,cmpI x y=c:=⟨_,rfl⟩;rw[hc]at hg⊢;clear hc HG;go_wp2_with fail;rw[←HS.out,←HT.out];refine(qy x y (by rw[HS.out];omega) h _).mono ?_;rintro e w2 ⟨rfl,hb⟩;have HB:=Hq (HB1.out.trans (hb.mono HB1.out.size));clear hb;go_wp2;go_ret2;exact⟨rfl,HB.out⟩
theorem zid(x y:Nat)(hx:x<256 ^ 128)(hy:y<256 ^ 128)(w:World):Calls Tryz.prog 180 #[.string (nS x),.string (nS y)] w (Ret (fitR (x+y)) w):=by
 have hs1:=zf.2 hx;have hs2:=zf.2 hy;have HV1:=Hq (zj.2 hx);have HV2:=Hq (zj.2 hy);have HO:=Hq (xl x y);obtain⟨s,hs⟩:∃ s,nS x=s:=⟨_,rfl⟩;obtain⟨t,ht⟩:∃ t,nS y=t:=⟨_,rfl⟩;rw[hs]at hs1 HV1 HO⊢;rw[ht]at hs2 HV2 HO⊢;have HS:=Hq hs;have HT:=Hq ht;have HX:=Hq hx;have HY:=Hq hy;clear hs ht hx hy;have hxy:(nS (x+y)).size≤1000:=by
  have h1:x+y<256 ^ 129:=by have:=HX.out;have:=HY.out;rw[show 129=128+1 from rfl,Nat.pow_succ];omega
  have:=zf.2 h1;omega
 have HXY:=Hq hxy;clear hxy;go_enter Tryz.func180,Tryz.ntmps180;go_wp2_with fail;refine(zu s (by omega) _).mono ?_;rintro e w1 ⟨rfl,rfl⟩;rw[HV1.out];go_wp2_with fail;refine(zu t (by omega) _).mono ?_;rintro e w1 ⟨rfl,rfl⟩;rw[HV2.out];go_wp2_with fail;rw[←HS.out,←HT.out];refine(zb8 x y (by rw[HS.out];omega) (by rw[HT.out];omega) _).mono ?_;rintro e w1 ⟨rfl,hb⟩;have HB:=Hq hb;clear hb;go_wp2_with fail;refine(zlv (x+y) (by have:=HXY.out;omega) _).mono ?_;rintro e w1 ⟨rfl,rfl⟩;obtain⟨r1,r2,hr⟩:=zd7 (x+y);rw[hr];have HR:=Hq hr;clear hr;go_wp2;go_ret2;exact⟨by rw[HR.out];rfl,HB.out⟩
/-! Division at numbers below 2^64. -/
theorem zbf(x y:Nat)(hx:x<256 ^ 128)(hy:y<256 ^ 128)(h:x<y)(w:World):Calls Tryz.prog 160 #[.string (nS x),.string (nS y)] w (RetQ (.tuple #[.string (nS (x / y)),.string (nS (x%y))]) w):=by
 rw[Nat.div_eq_of_lt h,Nat.mod_eq_of_lt h,xo];have hs1:=zf.2 hx;have hs2:=zf.2 hy;have HV1:=Hq (zj.2 hx);have HV2:=Hq (zj.2 hy);have HO:=Hq (xl x y);obtain⟨s,hs⟩:∃ s,nS x=s:=⟨_,rfl⟩;obtain⟨t,ht⟩:∃ t,nS y=t:=⟨_,rfl⟩;rw[hs]at hs1 HV1 HO⊢;rw[ht]at hs2 HV2 HO⊢;have HS:=Hq hs;have HT:=Hq ht;have HX:=Hq hx;have HY:=Hq hy;clear hs ht hx hy;go_enter Tryz.func160,Tryz.ntmps160;go_wp2_with fail;refine(kj s t (by omega) (by omega) _).mono ?_;rintro e w1 ⟨rfl,rfl⟩;rw[HO.out,ks h];go_wp2;go_ret2;exact⟨rfl,rfl⟩
theorem zeq(x y:Nat)(hx8:x<18446744073709551616)(h:y≤x)(h0:0<y)(w:World):Calls Tryz.prog 160 #[.string (nS x),.string (nS y)] w (Ret (.tuple #[.string (nS (x / y)),.string (nS (x%y))]) w):=by
 have hy8:y<18446744073709551616:=by omega
 have HX8:=Hq hx8;have HY8:=Hq hy8;have hz1:=zo hx8;have hz2:=zo hy8;have hq8:x / y<18446744073709551616:=Nat.lt_of_le_of_lt (Nat.div_le_self x y) hx8;have hr8:x%y<18446744073709551616:=Nat.lt_trans (Nat.mod_lt x h0) hy8;have HQ8:=Hq hq8;have HR8:=Hq hr8;have HG:=Hq (jl h);have HO:=Hq (xl x y);have HN1:=Hq (xn x hx8);have HN2:=Hq (xn y hy8);obtain⟨s,hs⟩:∃ s,nS x=s:=⟨_,rfl⟩;obtain⟨t,ht⟩:∃ t,nS y=t:=⟨_,rfl⟩;rw[hs]at hz1 HO HN1⊢;rw[ht]at hz2 HO HN2⊢;clear hs ht hq8 hr8 hx8 hy8;have hy1:((y:Int)==0)=false:=beq_eq_false_iff_ne.2 (by omega);have hy2:(0:Int)<(y:Int):=by omega
 have hy3:¬ (y=0):=by omega
 have hwq:IntKind.u64.wrap ((x:Int) / (y:Int))=(x:Int) / (y:Int):=jw (x / y) HQ8.out;have hwr:IntKind.u64.wrap ((x:Int)%(y:Int))=(x:Int)%(y:Int):=jw (x%y) HR8.out;have hsz:¬ (8<(s.size:Int)):=by omega
 go_enter Tryz.func160,Tryz.ntmps160;go_wp2_with fail;refine(kj s t (by omega) (by omega) _).mono ?_;rintro e w1 ⟨rfl,rfl⟩;rw[HO.out];have hg:=HG.out;obtain⟨c,hc⟩:∃ c,cmpI x y=c:=⟨_,rfl⟩;rw[hc]at hg⊢;clear hc HG;go_wp2_with fail;refine(HN1.out _).mono ?_;rintro e w1 ⟨rfl,rfl⟩;go_wp2_with fail;refine(HN2.out _).mono ?_;rintro e w1 ⟨rfl,rfl⟩;go_wp2;refine zg 10 (Below (w.drew).heap.size (w.drew)) (by kernel_rfl) ?_;intro hD;refine qP 0 9 rfl hD blr ?_;clear hD;intro hD;refine qP 1 8 rfl hD blr ?_;clear hD;intro hD;refine qP 2 7 rfl hD blr ?_;clear hD;intro hD;refine qP 4 6 rfl hD blr ?_;clear hD;intro hD;refine qP 5 5 rfl hD blr ?_;clear hD;intro hD;refine qP 6 4 rfl hD blr ?_;clear hD;intro hD;simp only[Act.put,sqA,sqB,sqC];refine zc (i:=3) (fuel:=3) (by kernel_rfl) rfl hD ?_;clear hD;intro K3 hK3;go_wp2_with fail;refine(qe (x / y) HQ8.out _).mono ?_;rintro e w3 ⟨rfl,hb3⟩;have HB3:=Hq hb3;clear hb3;go_wp2;refine hK3 _ _ (by exact HB3.out) ?_;clear hK3;intro hS_6_3 hD;refine zc (i:=7) (fuel:=2) (by kernel_rfl) rfl hD ?_;clear hD;intro K7 hK7;go_wp2_with fail;refine(qe (x%y) HR8.out _).mono ?_;rintro e w7 ⟨rfl,hb7⟩;have HB7:=Hq hb7;clear hb7;go_wp2;refine hK7 _ _ (by exact Below.trans hS_6_3 (Below.mono HB7.out (Below.size hS_6_3))) ?_;clear hK7;intro hS_6_7 hD;refine zc (i:=8) (fuel:=1) (by kernel_rfl) rfl hD ?_;clear hD;intro K8 hK8;go_wp2;refine hK8 _ _ (by exact hS_6_7) ?_;clear hK8;intro hS_6_8 hD;refine zc (i:=9) (fuel:=0) (by kernel_rfl) rfl hD ?_;clear hD;intro K9 hK9;go_wp2;refine hK9 _ _ (by exact hS_6_8) ?_;clear hK9;intro hS_6_9 hD;refine ze (by kernel_rfl) ?_ 0;clear hD;have HX:=Hq hS_6_9;go_wp2;go_ret2;exact⟨rfl,(blr).drew.trans HX.out⟩
theorem zbo(x y:Nat)(hx:x<18446744073709551616)(hy:y<256 ^ 128)(h0:0<y)(w:World):Calls Tryz.prog 160 #[.string (nS x),.string (nS y)] w (Ret (.tuple #[.string (nS (x / y)),.string (nS (x%y))]) w):=by
 rcases Nat.lt_or_ge x y with h | h
 · exact(zbf x y (zm hx) hy h w).mono fun e w' ⟨h1,h2⟩=>⟨h1,by rw[←h2];exact Below.refl _ _⟩
 · exact zeq x y hx h h0 w
theorem zy{n:Nat}(h:0<n):(nS n).toList.isEmpty=false:=xz (by have:=zay (n:=n);omega)
theorem ze9(x y:Nat)(hx8:x<18446744073709551616)(hy:y<256 ^ 128)(h0:0<y)(w:World):Calls Tryz.prog 102 #[.string (nS x),.string (nS y)] w (Ret (.tuple #[.string (nS (x / y)),.string (nS (x%y)),.int .i64 0]) w):=by
 have hx:=zm hx8;have HD:=Hq (zbo x y hx8 hy h0);have hem:=zy h0;have hs1:=zf.2 hx;have hs2:=zf.2 hy;have HV1:=Hq (zj.2 hx);have HV2:=Hq (zj.2 hy);obtain⟨s,hs⟩:∃ s,nS x=s:=⟨_,rfl⟩;obtain⟨t,ht⟩:∃ t,nS y=t:=⟨_,rfl⟩;rw[hs]at hs1 HV1 HD⊢;rw[ht]at hs2 HV2 hem HD⊢;clear hs ht hx hy hx8;go_enter Tryz.func102,Tryz.ntmps102;go_wp2_with fail;refine(zn s (by omega) _).mono ?_;rintro e w1 ⟨rfl,rfl⟩;rw[HV1.out];go_wp2_with fail;refine(zn t (by omega) _).mono ?_;rintro e w1 ⟨rfl,rfl⟩;rw[HV2.out];go_wp2_with fail;refine(HD.out _).mono ?_;rintro e w1 ⟨rfl,hb⟩;have HB:=Hq hb;clear hb;go_wp2;go_ret3;exact⟨rfl,HB.out⟩
/-! The reference: numbers of any length, bit by bit; those below 2^64 at once. -/
theorem zeo(x y:Nat)(hx8:x<18446744073709551616)(hy8:y<18446744073709551616)(h0:0<y)(w:World):Calls Tryz.prog 124 #[.string (nS x),.string (nS y)] w (Ret (.tuple #[.string (nS (x / y)),.string (nS (x%y))]) w):=by
 have HX8:=Hq hx8;have HY8:=Hq hy8;have hz1:=zo hx8;have hz2:=zo hy8;have hq8:x / y<18446744073709551616:=Nat.lt_of_le_of_lt (Nat.div_le_self x y) hx8;have hr8:x%y<18446744073709551616:=Nat.lt_trans (Nat.mod_lt x h0) hy8;have HQ8:=Hq hq8;have HR8:=Hq hr8;have HN1:=Hq (zb7 x hx8);have HN2:=Hq (zb7 y hy8);obtain⟨s,hs⟩:∃ s,nS x=s:=⟨_,rfl⟩;obtain⟨t,ht⟩:∃ t,nS y=t:=⟨_,rfl⟩;rw[hs]at hz1 HN1⊢;rw[ht]at hz2 HN2⊢;clear hs ht hq8 hr8 hx8 hy8;have hy1:((y:Int)==0)=false:=beq_eq_false_iff_ne.2 (by omega);have hy2:(0:Int)<(y:Int):=by omega
 have hy3:¬ (y=0):=by omega
 have hwq:IntKind.u64.wrap ((x:Int) / (y:Int))=(x:Int) / (y:Int):=jw (x / y) HQ8.out;have hwr:IntKind.u64.wrap ((x:Int)%(y:Int))=(x:Int)%(y:Int):=jw (x%y) HR8.out;have hsz1:(s.size:Int)≤8:=by omega
 have hsz2:(t.size:Int)≤8:=by omega
 go_enter Tryz.func124,Tryz.ntmps124;go_wp2_with fail;refine(HN1.out _).mono ?_;rintro e w1 ⟨rfl,rfl⟩;go_wp2_with fail;refine(HN2.out _).mono ?_;rintro e w1 ⟨rfl,rfl⟩;go_wp2;refine zg 10 (Below (w.drew).heap.size (w.drew)) (by kernel_rfl) ?_;intro hD;refine qP 0 9 rfl hD blr ?_;clear hD;intro hD;refine qP 1 8 rfl hD blr ?_;clear hD;intro hD;refine qP 2 7 rfl hD blr ?_;clear hD;intro hD;refine qP 4 6 rfl hD blr ?_;clear hD;intro hD;refine qP 5 5 rfl hD blr ?_;clear hD;intro hD;refine qP 6 4 rfl hD blr ?_;clear hD;intro hD;simp only[Act.put,sqA,sqB,sqC];refine zc (i:=3) (fuel:=3) (by kernel_rfl) rfl hD ?_;clear hD;intro K3 hK3;go_wp2_with fail;refine(zav (x / y) HQ8.out _).mono ?_;rintro e w3 ⟨rfl,hb3⟩;have HB3:=Hq hb3;clear hb3;go_wp2;refine hK3 _ _ (by exact HB3.out) ?_;clear hK3;intro hS_3_3 hD;refine zc (i:=7) (fuel:=2) (by kernel_rfl) rfl hD ?_;clear hD;intro K7 hK7;go_wp2_with fail;refine(zav (x%y) HR8.out _).mono ?_;rintro e w7 ⟨rfl,hb7⟩;have HB7:=Hq hb7;clear hb7;go_wp2;refine hK7 _ _ (by exact Below.trans hS_3_3 (Below.mono HB7.out (Below.size hS_3_3))) ?_;clear hK7;intro hS_3_7 hD;refine zc (i:=8) (fuel:=1) (by kernel_rfl) rfl hD ?_;clear hD;intro K8 hK8;go_wp2;refine hK8 _ _ (by exact hS_3_7) ?_;clear hK8;intro hS_3_8 hD;refine zc (i:=9) (fuel:=0) (by kernel_rfl) rfl hD ?_;clear hD;intro K9 hK9;go_wp2;refine hK9 _ _ (by exact hS_3_8) ?_;clear hK9;intro hS_3_9 hD;refine ze (by kernel_rfl) ?_ 0;clear hD;have HX:=Hq hS_3_9;go_wp2;go_ret2;exact⟨rfl,(blr).drew.trans HX.out⟩
end Go.Proofs.YtkfgdcgmlobhfaaGreat

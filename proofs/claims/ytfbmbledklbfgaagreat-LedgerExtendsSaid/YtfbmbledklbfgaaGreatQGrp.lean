import Derived.Test.YtfbmbledklbfgaaGreatQOvr
import Derived.Test.YtfbmbledklbfgaaGreatQExW
set_option linter.unusedVariables false
set_option linter.unusedSimpArgs false
namespace Go.Proofs.YtfbmbledklbfgaaGreat
set_option maxRecDepth 100000
set_option maxHeartbeats 2000000
open Go.RowKit
theorem lt128_8{n:Nat}(h:n<18446744073709551616):n<256 ^ 128:=lt128_of_lt8 h
theorem r03_Mod(x m:Nat)(hx:x<256 ^ 128)(hm:m<256 ^ 128)(h0:0<m)(w:World):Calls Tryz.prog 216 #[.string (nS x),.string (nS m)] w (Ret (.string (nS (x%m))) w):=by
 have HD:=Hq (r01_DivMod x m hx hm h0);obtain⟨s,hs⟩:∃ s,nS x=s:=⟨_,rfl⟩;obtain⟨t,ht⟩:∃ t,nS m=t:=⟨_,rfl⟩;rw[hs,ht]at HD;rw[hs,ht];clear hs ht hm hx;go_enter Tryz.func216,Tryz.ntmps216;go_wp2_with fail;refine(HD.out _).mono ?_;rintro e w1 ⟨rfl,hb⟩;have HB:=Hq hb;clear hb;go_wp2;go_ret;exact⟨rfl,HB.out⟩
theorem r03_check(xs:List ByteArray)(A:Option Addr)(n c:Nat)(w:World)(hs:SlN w A n c xs)(hlb:n≤1000)(h0:0<n)
 (hv:∀(k:Nat) (s:ByteArray),xs[k]? =some s→nvalid s=true) (hm:∀ s:ByteArray,xs[n - 1]? =some s→s.toList.isEmpty=false) :
 Calls Tryz.prog 164 #[.slice A n c] w (RetQ (.int .i64 0) w):=by
 have hl:=hs.1;have hlc:=hs.2.1;have hmx:=hs.2.2.1;obtain⟨b,o,rfl⟩:=hs.head h0;have HS:=Hq hs;have HV:=Hq hv;have HM:=Hq hm;have HL:=Hq hl;clear hs hv hm hl;go_enter Tryz.func164,Tryz.ntmps164;go_wp2
 go_loop [3] (fun i=>∃ k:Nat,k≤n∧i=.int .i64 k) (fun i=>n - (intOf i).toNat)
 case atStart=>exact⟨0,Nat.zero_le _,rfl⟩
 case round =>
  obtain⟨k,hk,rfl⟩:=hrel;by_cases hlt:k<n
  · obtain⟨s,he⟩:∃ s,xs[k]? =some s:=⟨_,List.getElem?_eq_getElem (by rw[HL.out];exact hlt)⟩;have c0:=HS.out.get? k he;have hvs:=HV.out k s he;have hsz:s.size≤128:=by unfold nvalid at hvs;simp at hvs;exact hvs.1
    have HVS:=Hq hvs;clear he hvs;go_wp2_with fail;refine(r01_Valid s (by omega) _).mono ?_;rintro e w1 ⟨rfl,rfl⟩;rw[HVS.out];go_wp2;go_round;case rel=>exact⟨k+1,by omega,by go_num⟩
    case measure=>simp[intOf];omega
  · obtain rfl:k=n:=by omega
    obtain⟨s,he⟩:∃ s,xs[k - 1]? =some s:=⟨_,List.getElem?_eq_getElem (by rw[HL.out];omega)⟩;have c0:=HS.out.get? (k - 1) he;have hem:=HM.out s he;obtain⟨j,rfl⟩:∃ j,k=j+1:=⟨k - 1,by omega⟩;rw[Nat.add_sub_cancel]at c0;have hix:((j+1:Nat):Int) - 1=(j:Int):=by omega
    clear he;go_wp2;go_ret;exact⟨rfl,rfl⟩
theorem r03_check3(w:World)(a b m:ByteArray)(n:Nat)(hn:n=w.heap.size)(ha:nvalid a=true)(hb:nvalid b=true)(hm:nvalid m=true)(h0:m.toList.isEmpty=false) :
 Calls Tryz.prog 164 #[.slice (some ⟨n,0,none⟩) 3 3] (w.alloc (.cells #[.string a,.string b,.string m] 22)) (RetQ (.int .i64 0) (w.alloc (.cells #[.string a,.string b,.string m] 22))):=by
 subst hn;have h2:=sln_alloc w [a,b,m] 22 (by simp);refine r03_check [a,b,m] _ 3 3 _ h2 (by omega) (by omega) ?_ ?_
 · intro k s hk;have:=List.mem_of_getElem? hk;simp only[List.mem_cons,List.mem_nil_iff,or_false]at this;rcases this with rfl | rfl | rfl
   · exact ha
   · exact hb
   · exact hm
 · intro s hk;simp only[List.getElem?_cons_succ,List.getElem?_cons_zero,Option.some.injEq]at hk;rw[←hk];exact h0
theorem fitR_small{n:Nat}(h:n<256 ^ 128):fitR n=.tuple #[.string (nS n),.int .i64 0]:=by unfold fitR;rw[if_pos h]
theorem r03_times(x y m:Nat)(hx:x<256 ^ 128)(hy:y<256 ^ 128)(hm8:m<18446744073709551616)(h0:0<m)(w:World):Calls Tryz.prog 165 #[.string (nS x),.string (nS y),.string (nS m)] w (Ret (.string (nS (x * y%m))) w):=by
 have hm:=lt128_8 hm8;have hx2:x%m<18446744073709551616:=Nat.lt_trans (Nat.mod_lt x h0) hm8;have hy2:y%m<18446744073709551616:=Nat.lt_trans (Nat.mod_lt y h0) hm8;have HSM:=Hq (r01_Small_n m hm8);have HMX:=Hq (r03_Mod x m hx hm h0);have HMY:=Hq (r03_Mod y m hy hm h0);have hmx2:x%m<m:=Nat.mod_lt x h0;have hmy2:y%m<m:=Nat.mod_lt y h0;have HEQ:=Hq (Nat.mul_mod x y m).symm;have HX2:=Hq hx2;have HY2:=Hq hy2;obtain⟨X,hX⟩:∃ X,x%m=X:=⟨_,rfl⟩;obtain⟨Y,hY⟩:∃ Y,y%m=Y:=⟨_,rfl⟩;rw[hX]at HMX HEQ HX2 hmx2;rw[hY]at HMY HEQ HY2 hmy2;have hp:=show X * Y<256 ^ 128 from Nat.lt_of_lt_of_le (Nat.mul_lt_mul'' HX2.out HY2.out) (by decide);have HP:=Hq hp;have HMM:=Hq (r01_Mul X Y (lt128_8 HX2.out) (lt128_8 HY2.out));rw[fitR_small hp]at HMM;have HSX:=Hq (r01_Small_n X HX2.out);have HSY:=Hq (r01_Small_n Y HY2.out);have HMZ:=Hq (r03_Mod (X * Y) m hp hm h0);rw[HEQ.out]at HMZ;have hz8:x * y%m<18446744073709551616:=Nat.lt_trans (Nat.mod_lt _ h0) hm8;have HOF:=Hq (r01_Of (x * y%m) hz8);have hm3:¬ (m=0):=by omega
 have hm2:(0:Int)<(m:Int):=by omega
 have hwm:m<2147483648→IntKind.u64.wrap ((X:Int) * (Y:Int))=((X * Y:Nat):Int):=fun h=>by
  rw[←Int.natCast_mul];exact u64_wrap (X * Y) (Nat.lt_of_lt_of_le (Nat.mul_lt_mul'' (Nat.lt_trans hmx2 h) (Nat.lt_trans hmy2 h)) (by decide))
 have HWM:=Hq hwm;have HWR:=Hq (show ((X * Y:Nat):Int)%(m:Int)=((x * y%m:Nat):Int)from by rw[←Int.natCast_emod,HEQ.out]);obtain⟨s,hs⟩:∃ s,nS x=s:=⟨_,rfl⟩;obtain⟨t,ht⟩:∃ t,nS y=t:=⟨_,rfl⟩;obtain⟨u,hu⟩:∃ u,nS m=u:=⟨_,rfl⟩;rw[hs]at HMX⊢;rw[ht]at HMY⊢;rw[hu]at HSM HMX HMY HMZ⊢;obtain⟨z,hz⟩:∃ z,x * y%m=z:=⟨_,rfl⟩;rw[hz]at HMZ HOF HWR⊢;obtain⟨p,hpp⟩:∃ p,X * Y=p:=⟨_,rfl⟩;rw[hpp]at HMM HMZ HWM HWR;clear hs ht hu hz hpp hp hm hx hy hx2 hy2 hz8 hX hY hwm hmx2 hmy2;by_cases hs31:m<2147483648
 · have hs31':(m:Int)<2147483648:=by omega
   have hwm:=HWM.out hs31;clear HWM;go_enter Tryz.func165,Tryz.ntmps165;go_wp2_with fail;refine(HSM.out _).mono ?_;rintro e w1 ⟨rfl,rfl⟩;go_wp2_with fail;refine(HMX.out _).mono ?_;rintro e w1 ⟨rfl,hb1⟩;have HB1:=Hq hb1;clear hb1;go_wp2_with fail;refine(HSX.out _).mono ?_;rintro e w2 ⟨rfl,rfl⟩;go_wp2_with fail;refine(HMY.out _).mono ?_;rintro e w3 ⟨rfl,hb3⟩;have HB3:=Hq (HB1.out.trans (hb3.mono HB1.out.size));clear hb3;go_wp2_with fail;refine(HSY.out _).mono ?_;rintro e w2 ⟨rfl,rfl⟩;go_wp2_with fail;rw[HWR.out];refine(HOF.out _).mono ?_;rintro e w5 ⟨rfl,hb5⟩;have HB5:=Hq (HB3.out.trans (hb5.mono HB3.out.size));clear hb5;go_wp2;go_ret;exact⟨rfl,HB5.out⟩
 · have hs31':decide ((m:Int)<2147483648)=false:=decide_eq_false (by omega);clear HWM HWR hs31 hm8;go_enter Tryz.func165,Tryz.ntmps165;go_wp2_with fail;refine(HSM.out _).mono ?_;rintro e w1 ⟨rfl,rfl⟩;go_wp2_with fail;refine(HMX.out _).mono ?_;rintro e w1 ⟨rfl,hb1⟩;have HB1:=Hq hb1;clear hb1;go_wp2_with fail;refine(HMY.out _).mono ?_;rintro e w3 ⟨rfl,hb3⟩;have HB3:=Hq (HB1.out.trans (hb3.mono HB1.out.size));clear hb3;go_wp2_with fail;refine(HMM.out _).mono ?_;rintro e w4 ⟨rfl,hb4⟩;have HB4:=Hq (HB3.out.trans (hb4.mono HB3.out.size));clear hb4;go_wp2_with fail;refine(HMZ.out _).mono ?_;rintro e w5 ⟨rfl,hb5⟩;have HB5:=Hq (HB4.out.trans (hb5.mono HB4.out.size));clear hb5;go_wp2;go_ret;exact⟨rfl,HB5.out⟩
theorem r03_Mul(x y m:Nat)(hx8:x<256 ^ 128)(hy8:y<256 ^ 128)(hm8:m<18446744073709551616)(h0:0<m)(w:World):Calls Tryz.prog 114 #[.string (nS x),.string (nS y),.string (nS m)] w (Ret (.tuple #[.string (nS (x * y%m)),.int .i64 0]) w):=by
 have HC:=Hq (fun w=>r03_check3 w (nS x) (nS y) (nS m) _ rfl (nvalid_nS.2 hx8) (nvalid_nS.2 hy8) (nS_valid_small hm8) (empty_nS h0));have HT:=Hq (r03_times x y m hx8 hy8 hm8 h0);obtain⟨s,hs⟩:∃ s,nS x=s:=⟨_,rfl⟩;obtain⟨t,ht⟩:∃ t,nS y=t:=⟨_,rfl⟩;obtain⟨u,hu⟩:∃ u,nS m=u:=⟨_,rfl⟩;rw[hs,ht,hu]at HC HT;rw[hs,ht,hu];clear hs ht hu hx8 hy8 hm8;go_enter Tryz.func114,Tryz.ntmps114;go_wp2_with fail;refine(HC.out w).mono ?_;rintro e w1 ⟨rfl,rfl⟩;go_wp2_with fail;refine(HT.out _).mono ?_;rintro e w2 ⟨rfl,hb2⟩;have HB2:=Hq (((Below.refl w.heap.size w).alloc nlr _).trans (hb2.mono (by simp)));clear hb2;go_wp2;go_ret2;exact⟨rfl,HB2.out⟩
theorem r01_Bits(n:Nat)(hn:n<256 ^ 128)(w:World):Calls Tryz.prog 258 #[.string (nS n)] w (RetQ (.int .i64 (blen n)) w):=by
 have hs:=nS_size_le.2 hn;have HV:=Hq (nvalid_nS.2 hn);have HB:=Hq (r01_bits n (by omega));obtain⟨s,hs'⟩:∃ s,nS n=s:=⟨_,rfl⟩;rw[hs']at hs HV HB⊢;clear hs' hn;go_enter Tryz.func258,Tryz.ntmps258;go_wp2_with fail;refine(r01_Valid s (by omega) _).mono ?_;rintro e w1 ⟨rfl,rfl⟩;rw[HV.out];go_wp2_with fail;refine(HB.out _).mono ?_;rintro e w1 ⟨rfl,rfl⟩;go_wp2;go_ret;exact⟨rfl,rfl⟩
theorem blen_1024{n:Nat}(hn:n<256 ^ 128):blen n≤1024:=blen_le8 hn
theorem r01_Bit(n i:Nat)(hn:n<256 ^ 128)(hi:i<blen n)(w:World):Calls Tryz.prog 259 #[.string (nS n),.int .i64 i] w (RetQ (.bool (bitB n i)) w):=by
 have hs:=nS_size_le.2 hn;have hb:=blen_1024 hn;have HV:=Hq (nvalid_nS.2 hn);have HB:=Hq (r01_bits n (by omega));have HO:=Hq (r01_one n i (by omega) (by omega));obtain⟨s,hs'⟩:∃ s,nS n=s:=⟨_,rfl⟩;rw[hs']at hs HV HB HO⊢;obtain⟨m,hm⟩:∃ m,blen n=m:=⟨_,rfl⟩;rw[hm]at HB hi hb;have hi2:(i:Int)<(m:Int):=by omega
 have hi0:(0:Int)≤(i:Int):=by omega
 obtain⟨r,hr⟩:∃ r,bitB n i=r:=⟨_,rfl⟩;rw[hr]at HO⊢;clear hs' hn hm hr;go_enter Tryz.func259,Tryz.ntmps259;go_wp2_with fail;refine(r01_Valid s (by omega) _).mono ?_;rintro e w1 ⟨rfl,rfl⟩;rw[HV.out];go_wp2_with fail;refine(HB.out _).mono ?_;rintro e w1 ⟨rfl,rfl⟩;go_wp2_with fail;refine(HO.out _).mono ?_;rintro e w1 ⟨rfl,rfl⟩;go_wp2;go_ret;exact⟨rfl,rfl⟩
theorem pw_two(a E m:Nat):a ^ E%m * (a ^ E%m)%m=a ^ (2 * E)%m:=by
 rw[←Nat.mul_mod,←Nat.pow_add,Nat.two_mul]
theorem pw_one(a E m:Nat):a ^ E%m * a%m=a ^ (E+1)%m:=by
 rw[Nat.mod_mul_mod,Nat.pow_succ]
theorem pw_one'(a E m:Nat):a ^ E%m * (a%m)%m=a ^ (E+1)%m:=by
 rw[←Nat.mul_mod,Nat.pow_succ]
theorem r03_raise(a n m:Nat)(ha:a<256 ^ 128)(hn:n<256 ^ 128)(hm8:m<18446744073709551616)(h0:0<m)(w:World):Calls Tryz.prog 214 #[.string (nS a),.string (nS n),.string (nS m)] w (Ret (.string (nS (a ^ n%m))) w):=by
 have hm:=lt128_8 hm8;have HM1:=Hq (r03_Mod 1 m (by decide) hm h0);have HBS:=Hq (r01_Bits n hn);have HBT:=Hq (fun i (hi:i<blen n)=>r01_Bit n i hn hi);have HTT:=Hq (fun E=>r03_times (a ^ E%m) (a ^ E%m) m (Nat.lt_trans (Nat.mod_lt _ h0) hm) (Nat.lt_trans (Nat.mod_lt _ h0) hm) hm8 h0);have HTA:=Hq (fun E=>r03_times (a ^ E%m) a m (Nat.lt_trans (Nat.mod_lt _ h0) hm) ha hm8 h0);have hb:=blen_1024 hn;have HE0:=Hq (show n / 2 ^ blen n=0 from Nat.div_eq_of_lt (blen_lt n));obtain⟨s,hs⟩:∃ s,nS a=s:=⟨_,rfl⟩;obtain⟨t,ht⟩:∃ t,nS n=t:=⟨_,rfl⟩;obtain⟨u,hu⟩:∃ u,nS m=u:=⟨_,rfl⟩;rw[hs]at HTA⊢;rw[ht]at HBS HBT⊢;rw[hu]at HM1 HTT HTA⊢;obtain⟨B,hB⟩:∃ B,blen n=B:=⟨_,rfl⟩;rw[hB]at HBS HBT hb HE0;clear hs ht hu hB ha hn hm;go_enter Tryz.func214,Tryz.ntmps214;go_wp2_with fail;refine(r01_Of 1 (by decide) _).mono ?_;rintro e w1 ⟨rfl,hb1⟩;have HB1:=Hq hb1;clear hb1;go_wp2_with fail;refine(HM1.out _).mono ?_;rintro e w2 ⟨rfl,hb2⟩;have HB2:=Hq (HB1.out.trans (hb2.mono HB1.out.size));clear hb2;go_wp2_with fail;refine(HBS.out _).mono ?_;rintro e w3 ⟨rfl,rfl⟩;go_wp2;go_loopw [7,8] (fun r i wr=>∃ K:Nat,K≤B∧r=.string (nS (a ^ (n / 2 ^ K)%m))∧i=.int .i64 ((K:Int) - 1)∧Below w.heap.size w wr) (fun _ i _=>(intOf i+1).toNat);case atStart=>exact⟨B,Nat.le_refl _,by rw[HE0.out,Nat.pow_zero],by go_num,HB2.out⟩
 case round =>
  obtain⟨K,hK,rfl,rfl,hBW⟩:=hrel;have HBW:=Hq hBW;clear hBW;by_cases hlt:0<K
  · obtain⟨e,rfl⟩:∃ e,K=e+1:=⟨K - 1,by omega⟩;rw[show ((e+1:Nat):Int) - 1=(e:Int)from by omega];have he0:(0:Int)≤(e:Int):=by omega
    obtain⟨β,hβ,hβ1,hβ0,hup⟩:=half_up n e;have HUP:=Hq hup;have HB1':=Hq hβ1;have HB0':=Hq hβ0;clear hup hβ1 hβ0;obtain⟨E,hE⟩:∃ E,n / 2 ^ (e+1)=E:=⟨_,rfl⟩;rw[hE]at HUP⊢;clear hE;have HTE:=Hq (HTT.out E);rw[pw_two]at HTE;have HTF:=Hq (HTA.out (2 * E));rw[pw_one]at HTF;go_wp2_with fail;refine(HTE.out _).mono ?_;rintro ev w4 ⟨rfl,hb4⟩;have HB4:=Hq (HBW.out.trans (hb4.mono HBW.out.size));clear hb4;go_wp2_with fail;refine(HBT.out e (by omega) _).mono ?_;rintro ev w5 ⟨rfl,rfl⟩;by_cases hbit:bitB n e=true
    · have HBE:=Hq (HB1'.out hbit);rw[hbit];clear hbit;go_wp2_with fail;refine(HTF.out _).mono ?_;rintro ev w6 ⟨rfl,hb6⟩;have HB6:=Hq (HB4.out.trans (hb6.mono HB4.out.size));clear hb6;go_wp2;go_roundw;case rel=>exact⟨e,by omega,by rw[HUP.out,HBE.out],by go_num,HB6.out⟩
      case measure=>simp[intOf]<;>omega
    · rw[Bool.not_eq_true]at hbit;have HBE:=Hq (HB0'.out hbit);rw[hbit];clear hbit;go_wp2;go_roundw;case rel=>exact⟨e,by omega,by rw[HUP.out,HBE.out,Nat.add_zero],by go_num,HB4.out⟩
      case measure=>simp[intOf]<;>omega
  · obtain rfl:K=0:=by omega
    have hneg:((0:Nat):Int) - 1 = -1:=rfl;rw[hneg,Nat.pow_zero,Nat.div_one];go_wp2;go_ret;exact⟨rfl,HBW.out⟩
theorem r03_Exp(x n m:Nat)(hx8:x<256 ^ 128)(hy8:n<256 ^ 128)(hm8:m<18446744073709551616)(h0:0<m)(w:World):Calls Tryz.prog 161 #[.string (nS x),.string (nS n),.string (nS m)] w (Ret (.tuple #[.string (nS (x ^ n%m)),.int .i64 0]) w):=by
 have HC:=Hq (fun w=>r03_check3 w (nS x) (nS n) (nS m) _ rfl (nvalid_nS.2 hx8) (nvalid_nS.2 hy8) (nS_valid_small hm8) (empty_nS h0));have HT:=Hq (r03_raise x n m hx8 hy8 hm8 h0);obtain⟨s,hs⟩:∃ s,nS x=s:=⟨_,rfl⟩;obtain⟨t,ht⟩:∃ t,nS n=t:=⟨_,rfl⟩;obtain⟨u,hu⟩:∃ u,nS m=u:=⟨_,rfl⟩;rw[hs,ht,hu]at HC HT;rw[hs,ht,hu];clear hs ht hu hx8 hy8 hm8;go_enter Tryz.func161,Tryz.ntmps161;go_wp2_with fail;refine(HC.out w).mono ?_;rintro e w1 ⟨rfl,rfl⟩;go_wp2_with fail;refine(HT.out _).mono ?_;rintro e w2 ⟨rfl,hb2⟩;have HB2:=Hq (((Below.refl w.heap.size w).alloc nlr _).trans (hb2.mono (by simp)));clear hb2;go_wp2;go_ret2;exact⟨rfl,HB2.out⟩
set_option maxRecDepth 100000
set_option maxHeartbeats 2000000
open Go.RowKit Go.Shelf
attribute [local go_sem] Oper.semAt_some
def BoxS(W:World)(B:Nat)(s:ByteArray):Prop:=W.heap[B]? =some (.cells #[.string s] 22 (0,0))
theorem BoxS.cell{W:World}{B:Nat}{s:ByteArray}(h:BoxS W B s):W.cell? ⟨B,0,none⟩=some (.string s):=by rw[Lib.cell_of_heap h];rfl
theorem BoxS.free{W:World}{B:Nat}{s:ByteArray}(h:BoxS W B s):W.frozen? ⟨B,0,none⟩=false:=Lib.frozen_of_heap h 0
theorem BoxS.kept{W W':World}{K B:Nat}{s:ByteArray}(h:BoxS W B s)(hb:Below K W W')(hB:B<K):BoxS W' B s:=(hb.block B hB).trans h
theorem BoxS.lt{W:World}{B:Nat}{s:ByteArray}(h:BoxS W B s):B<W.heap.size:=block_lt h
theorem BoxS.set{W:World}{B:Nat}{s t:ByteArray}(h:BoxS W B s):BoxS (W.setCell ⟨B,0,none⟩ (.string t)) B t:=block_setCell h _
theorem BoxS.alloc{W:World}{B:Nat}{s:ByteArray}(h:BoxS W B s)(o:Obj):BoxS (W.alloc o) B s:=h.kept ((blr).alloc nlr o) h.lt
theorem BoxS.new(W:World)(s:ByteArray):BoxS (W.alloc (.cells #[.string s] 22)) W.heap.size s:=heap_alloc_new _ _
theorem BoxS.other{W:World}{B C:Nat}{s:ByteArray}{v:Value}(h:BoxS W B s)(hne:B≠C):BoxS (W.setCell ⟨C,0,none⟩ v) B s:=by
 unfold BoxS;rw[←h];exact heap_setCell_other _ _ _ _ hne
theorem KeepsOthers.of_below{W W':World}(h:Below W.heap.size W W'):KeepsOthers W W':=⟨h.size,fun k o hk _=>(h.block k (block_lt hk)).trans hk⟩
theorem mod_digits(s:ByteArray)(w:World):Calls Tryz.prog 290 #[.string s] w fun e w'=>e=.returned (.func (.func 298) #[] #[.pointer (some ⟨w.heap.size,0,none⟩)])∧w'=w.alloc (.cells #[.string s] 22):=by
 go_enter Tryz.func290,Tryz.ntmps290;go_wp2;go_ret;exact⟨rfl,rfl⟩
theorem mod_Exp_of(a n m:Nat)(ha:nvalid (nS a)=true)(hra:∀ w,Calls Tryz.prog 206 #[.string (nS a),.string (nS m)] w (Ret (.string (nS (a%m))) w))(hn:n<256 ^ 128)(hm8:m<18446744073709551616)(h0:0<m)(w:World):Calls Tryz.prog 274 #[.string (nS a),.string (nS n),.string (nS m)] w (Ret (.tuple #[.string (nS (a ^ n%m)),.int .i64 0]) w):=by
 have hm:=lt128_of_lt8 hm8;have ham:a%m<18446744073709551616:=Nat.lt_trans (Nat.mod_lt _ h0) hm8;have HC:=Hq (fun w=>check_two w (nS a) (nS n) (nS m) _ rfl ha (nvalid_nS.2 hn) (nS_valid_small hm8) (empty_nS h0) _ rfl);have HRA:=Hq hra;clear hra;have HR1:=Hq (mod_reduced 1 m (by decide) hm h0);have HTT:=Hq (fun E=>mod_times (a ^ E%m) (a ^ E%m) m (Nat.lt_trans (Nat.mod_lt _ h0) hm8) (Nat.lt_trans (Nat.mod_lt _ h0) hm8) hm8 h0);have HTA:=Hq (fun E=>mod_times (a ^ E%m) (a%m) m (Nat.lt_trans (Nat.mod_lt _ h0) hm8) ham hm8 h0);have HDS:=Hq (fun k (hk:1≤k) D w hD=>digits_stops k n hn hk D w hD);rw[num_one]at HR1;obtain⟨s,hs⟩:∃ s,nS a=s:=⟨_,rfl⟩;obtain⟨t,ht⟩:∃ t,nS n=t:=⟨_,rfl⟩;obtain⟨u,hu⟩:∃ u,nS m=u:=⟨_,rfl⟩;rw[hs,ht,hu]at HC;rw[hs,hu]at HRA;rw[hu]at HR1 HTT HTA;rw[ht]at HDS;rw[hs,ht,hu];clear hs ht hu ha hn hm8 hm ham;refine(callsIn_wide (n:=3)).1 ?_;refine callsIn_of_wp_marks Tryz.func274 rfl trivial ?_ rfl;simp only[Tryz.ntmps274,List.size_toArray,List.length_cons,List.length_nil,Nat.reduceAdd,Nat.reduceSub,Array.replicate_succ,Array.replicate_zero,List.push_toArray,List.append_toArray,List.nil_append,List.cons_append];gi_wp2;have hck:=HC.out ((w.alloc (.cells #[.string s] 22)).alloc (.cells #[.string u] 22));simp only[World.size_alloc]at hck;refine⟨trivial,callsIn_wide.2 (hck.mono ?_)⟩;rintro e w2 ⟨rfl,hb2⟩;have h1M:BoxS ((w.alloc (.cells #[.string s] 22)).alloc (.cells #[.string u] 22)) (w.heap.size+1) u:=(by have:=BoxS.new (w.alloc (.cells #[.string s] 22)) u;rwa[World.size_alloc]at this);have hA2:BoxS w2 w.heap.size s:=BoxS.kept ((((BoxS.new w s).alloc _).alloc _).alloc _) hb2 (by omega);have hM2:BoxS w2 (w.heap.size+1) u:=BoxS.kept ((h1M.alloc _).alloc _) hb2 (by omega);have HB2:Below w.heap.size w w2:=(((((Below.refl w.heap.size w).alloc nlr _).alloc (by simp) _).alloc (by simp;omega) _).alloc (by simp;omega) _).trans (hb2.mono (by omega));have HA2:=Hq hA2;have HM2:=Hq hM2;have HBB2:=Hq HB2;have cA:=hA2.cell;have cM:=hM2.cell;have fA:=hA2.free;clear hck hb2 hA2 hM2 HB2 h1M;gi_wp2;refine⟨trivial,callsIn_wide.2 ((HRA.out _).mono ?_)⟩;rintro e w3 ⟨rfl,hb3⟩;have HA3:=Hq (HA2.out.kept hb3 HA2.out.lt);have HM3:=Hq (HM2.out.kept hb3 HM2.out.lt);have HB3:=Hq (HBB2.out.trans (hb3.mono HBB2.out.size));clear hb3 cA cM fA;have cA:=HA3.out.cell;have cM:=HM3.out.cell;have fA:=HA3.out.free;gi_wp2;refine⟨trivial,callsIn_wide.2 ((HR1.out _).mono ?_)⟩;rintro e w4 ⟨rfl,hb4⟩;have hA3':BoxS (w3.setCell ⟨w.heap.size,0,none⟩ (.string (nS (a%m)))) w.heap.size (nS (a%m)):=HA3.out.set;have hM3':BoxS (w3.setCell ⟨w.heap.size,0,none⟩ (.string (nS (a%m)))) (w.heap.size+1) u:=HM3.out.other (by omega);have HA4:=Hq (hA3'.kept hb4 hA3'.lt);have HM4:=Hq (hM3'.kept hb4 hM3'.lt);have HB3':=HB3.out.setCell (p:=⟨w.heap.size,0,none⟩) nlr (.string (nS (a%m)));have HB4:=Hq (HB3'.trans (hb4.mono HB3'.size));have hlt4:=HM4.out.lt;clear hb4 cA cM fA hA3' hM3' HB3';have cA:=HA4.out.cell;have cM:=HM4.out.cell;have fA:=HA4.out.free;gi_wp2;refine⟨trivial,callsIn_wide.2 ((mod_digits t _).mono ?_)⟩;rintro e w5 ⟨rfl,rfl⟩;gi_wp2;have HR5:=Hq ((BoxS.new w4 (nS (1%m))).alloc (.cells #[.string t] 22));have hD5:BoxS ((w4.alloc (.cells #[.string (nS (1%m))] 22)).alloc (.cells #[.string t] 22)) (w4.heap.size+1) t:=(by have:=BoxS.new (w4.alloc (.cells #[.string (nS (1%m))] 22)) t;rwa[World.size_alloc]at this);have HD5:=Hq hD5;have HA5:=Hq ((HA4.out.alloc (.cells #[.string (nS (1%m))] 22)).alloc (.cells #[.string t] 22));have HM5:=Hq ((HM4.out.alloc (.cells #[.string (nS (1%m))] 22)).alloc (.cells #[.string t] 22));have HB5:=Hq ((HB4.out.alloc HB4.out.size (.cells #[.string (nS (1%m))] 22)).alloc (by simp;omega) (.cells #[.string t] 22));have hz5:w4.heap.size+1<((w4.alloc (.cells #[.string (nS (1%m))] 22)).alloc (.cells #[.string t] 22)).heap.size:=hD5.lt;obtain⟨W0,hW0⟩:∃ W0,(w4.alloc (.cells #[.string (nS (1%m))] 22)).alloc (.cells #[.string t] 22)=W0:=⟨_,rfl⟩;obtain⟨R,hR⟩:∃ R,w4.heap.size=R:=⟨_,rfl⟩;rw[hW0,hR]at HR5 HD5 hz5;rw[hW0]at HA5 HM5 HB5;rw[hR]at hlt4;rw[hW0,hR];clear hD5 hW0 hR HA4 HM4 HB4 HA3 HM3 HB3 HA2 HM2 HBB2 cA cM fA;obtain⟨A,hA⟩:∃ A,w.heap.size=A:=⟨_,rfl⟩;rw[hA]at HA5 HM5 HB5 hlt4⊢;refine wpIn_rangeFunc_ownF rfl (by omega) (gf:=298) (lb:=#[.pointer (some ⟨R+1,0,none⟩)]) rfl trivial (enters_of Tryz.func298 (by kernel_rfl) rfl)
  (HDS.out 2 (by omega) (R+1) W0 HD5.out) (fun h k=>(show _=_ from k).trans h) (fun W l o o' hl _ _ _=>World.putObj_heap_other (by omega)) blr (fun _=>rfl)
  (fun pre W=>(BoxS W A (nS (a%m))∧BoxS W (A+1) u∧BoxS W R (nS (a ^ dv pre%m))∧BoxS W (R+1) t)∧Below A w W)
  (fun _ _ _=>False)
  (OwnFrom.and (Own.from (fun s X Y row hs hg hr=>⟨boxed_own A 22 (fun _:List Bool=>.string (nS (a%m))) s X Y row hs.1 hg hr,boxed_own (A+1) 22 (fun _:List Bool=>.string u) s X Y row hs.2.1 hg hr,boxed_own R 22 (fun pre:List Bool=>.string (nS (a ^ dv pre%m))) s X Y row hs.2.2.1 hg hr,boxed_own (R+1) 22 (fun _:List Bool=>.string t) s X Y row hs.2.2.2 hg hr⟩) _) (ownFrom_below (by omega) (by omega)))
  (fun _ _ _ _ _ hs _ _=>hs)
  ⟨⟨HA5.out,HM5.out,by rw[show dv []=0 from rfl,Nat.pow_zero];exact HR5.out,HD5.out⟩,HB5.out⟩
  (fun x => { tmps:=#[.string s,.string t,.string u,.pointer (some ⟨A,0,none⟩),undef,.pointer (some ⟨A+1,0,none⟩),.string ⟨#[]⟩,.int .i64 0,.int .i64 0,.pointer (some ⟨R,0,none⟩),.bool x,.string s,.string t,.slice (some ⟨A+1+1,0,none⟩) 2 2,.string u,.slice (some ⟨A+1+1+1,0,none⟩) 1 1,.int .i64 0,.int .i64 0,.bool false,undef,.string s,.string u,.string (nS (a%m)),.string u,.string (nS (1%m)),.string t,.func (.func 298) #[] #[.pointer (some ⟨R+1,0,none⟩)],.bool x,undef,undef,undef,undef,undef,undef,undef,undef,undef,undef],defers:=[] }) ?assign ?body ?done ?stop
 case assign =>
  intro l x W K hK;gi_wp2;exact hK
 case body =>
  rintro l pre x W ⟨⟨hA',hM',hR',hD'⟩,hB'⟩ _;have HA':=Hq hA';have HM':=Hq hM';have HR':=Hq hR';have HD':=Hq hD';have HB':=Hq hB';have cA:=hA'.cell;have cM:=hM'.cell;have cR:=hR'.cell;have fR:=hR'.free;obtain⟨E,hE⟩:∃ E,dv pre=E:=⟨_,rfl⟩;rw[hE]at HR' cR;have HTE:=Hq (HTT.out E);rw[pw_two]at HTE;have HTF:=Hq (HTA.out (2 * E));rw[pw_one']at HTF;have HDV:=Hq (dv_snoc pre x);rw[hE]at HDV;clear hA' hM' hR' hD' hB' hE;gi_wp2;refine⟨trivial,CallsIn.inRound l (callsIn_wide.2 ((HTE.out _).mono ?_))⟩;rintro ev w6 ⟨rfl,hb6⟩;have HK7:=Hq ((KeepsOthers.of_below hb6).trans (KeepsOthers.setCell w6 ⟨R,0,none⟩ (.string (nS (a ^ (2 * E)%m)))));have HA7:=Hq ((HA'.out.kept hb6 HA'.out.lt).other (C:=R) (v:=.string (nS (a ^ (2 * E)%m))) (by omega));have HM7:=Hq ((HM'.out.kept hb6 HM'.out.lt).other (C:=R) (v:=.string (nS (a ^ (2 * E)%m))) (by omega));have HR7:=Hq ((HR'.out.kept hb6 HR'.out.lt).set (t:=(nS (a ^ (2 * E)%m))));have HD7:=Hq ((HD'.out.kept hb6 HD'.out.lt).other (C:=R) (v:=.string (nS (a ^ (2 * E)%m))) (by omega));have HKP7:=Hq (show KpD (R+1) W (w6.setCell ⟨R,0,none⟩ (.string (nS (a ^ (2 * E)%m))))from HD7.out.trans HD'.out.symm);have HB7:=Hq ((HB'.out.trans (hb6.mono (Nat.le_trans (by omega) HB'.out.size))).setCell (p:=⟨R,0,none⟩) (show A≤R by omega) (.string (nS (a ^ (2 * E)%m))));have cR7:=(HR'.out.kept hb6 HR'.out.lt).cell;have fR7:=(HR'.out.kept hb6 HR'.out.lt).free;clear hb6;have cA7:=HA7.out.cell;have cM7:=HM7.out.cell;have cS7:=HR7.out.cell;have fS7:=HR7.out.free
  cases x with
  | false =>
   gi_wp2;exact⟨HK7.out,HKP7.out,⟨⟨HA7.out,HM7.out,by rw[HDV.out,if_neg (by decide),Nat.add_zero];exact HR7.out,HD7.out⟩,HB7.out⟩⟩
  | true =>
   gi_wp2;refine⟨trivial,CallsIn.inRound l (callsIn_wide.2 ((HTF.out _).mono ?_))⟩;rintro ev w8 ⟨rfl,hb8⟩;have HK9:=Hq ((KeepsOthers.of_below hb8).trans (KeepsOthers.setCell w8 ⟨R,0,none⟩ (.string (nS (a ^ (2 * E+1)%m)))));have HA9:=Hq ((HA7.out.kept hb8 HA7.out.lt).other (C:=R) (v:=.string (nS (a ^ (2 * E+1)%m))) (by omega));have HM9:=Hq ((HM7.out.kept hb8 HM7.out.lt).other (C:=R) (v:=.string (nS (a ^ (2 * E+1)%m))) (by omega));have HR9:=Hq ((HR7.out.kept hb8 HR7.out.lt).set (t:=(nS (a ^ (2 * E+1)%m))));have HD9:=Hq ((HD7.out.kept hb8 HD7.out.lt).other (C:=R) (v:=.string (nS (a ^ (2 * E+1)%m))) (by omega));have HKP9:=Hq (show KpD (R+1) (w6.setCell ⟨R,0,none⟩ (.string (nS (a ^ (2 * E)%m)))) (w8.setCell ⟨R,0,none⟩ (.string (nS (a ^ (2 * E+1)%m))))from HD9.out.trans HD7.out.symm);have HB9:=Hq ((HB7.out.trans (hb8.mono (Nat.le_trans (by omega) HB7.out.size))).setCell (p:=⟨R,0,none⟩) (show A≤R by omega) (.string (nS (a ^ (2 * E+1)%m))));have cR9:=(HR7.out.kept hb8 HR7.out.lt).cell;have fR9:=(HR7.out.kept hb8 HR7.out.lt).free;clear hb8;have cA9:=HA9.out.cell;have cM9:=HM9.out.cell;have cS9:=HR9.out.cell;have fS9:=HR9.out.free;gi_wp2;exact⟨HK7.out.trans HK9.out,(show _=_ from HKP9.out).trans HKP7.out,⟨⟨HA9.out,HM9.out,by rw[HDV.out,if_pos trivial];exact HR9.out,HD9.out⟩,HB9.out⟩⟩
 case done =>
  rintro D' ys W hD' hys ⟨⟨hA',hM',hR',hD''⟩,hB'⟩ hK;have cR:=hR'.cell;gi_wp2;refine⟨by simp,.inl ⟨_,_,rfl,run_takeDeferred hK,?_⟩⟩;subst hA;exact⟨_,results_tmp2 rfl _ _ _,rfl,hB'.trans (belowK_b (w:=w) nlr W D' _ _ (by omega) hK rfl rfl)⟩
 case stop =>
  rintro D' c pre W _ _ h _;exact h.elim
theorem mod_Exp(a n m:Nat)(ha:a<18446744073709551616)(hn:n<256 ^ 128)(hm8:m<18446744073709551616)(h0:0<m)(w:World):Calls Tryz.prog 274 #[.string (nS a),.string (nS n),.string (nS m)] w (Ret (.tuple #[.string (nS (a ^ n%m)),.int .i64 0]) w):=by
 exact mod_Exp_of a n m (nS_valid_small ha) (mod_reduced a m ha (lt128_of_lt8 hm8) h0) hn hm8 h0 w
set_option maxRecDepth 100000
set_option maxHeartbeats 1000000
def RetI(a m:Nat)(w:World)(e:Ending)(w':World):Prop:=∃ x:Nat,e=.returned (.tuple #[.string (nS x),.int .i64 0])∧Below w.heap.size w w'∧x<m∧a * x%m=1
theorem mod_Inverse(a m:Nat)(ham:a<m)(hm8:m<18446744073709551616)(h1:1<m)(hg:Nat.gcd a m=1)(w:World):Calls Tryz.prog 155 #[.string (nS a),.string (nS m)] w (RetI a m w):=by
 have ha8:a<18446744073709551616:=by omega
 have HC:=Hq (fun w=>check_one w (nS a) (nS m) _ rfl (nS_valid_small ha8) (nS_valid_small hm8) (empty_nS (by omega)) _ rfl);have HR:=Hq (mod_reduced a m ha8 (lt128_of_lt8 hm8) (by omega));rw[Nat.mod_eq_of_lt ham]at HR;have HE:=Hq (int_Extended a m ham hm8);have HRX:=Hq (fun x (hx:x<18446744073709551616)=>mod_reduced x m hx (lt128_of_lt8 hm8) (by omega));have HG:=Hq hg;have HM1:=Hq h1;obtain⟨s,hs⟩:∃ s,nS a=s:=⟨_,rfl⟩;obtain⟨t,ht⟩:∃ t,nS m=t:=⟨_,rfl⟩;rw[hs,ht]at HC HR HE;rw[ht]at HRX;rw[hs,ht];clear hs ht ham hm8 h1 hg ha8;go_enter Tryz.func155,Tryz.ntmps155;go_wp2_with fail;refine(HC.out w).mono ?_;rintro e w1 ⟨rfl,hb1⟩;have HB1:=Hq ((((Below.refl w.heap.size w).alloc nlr _).alloc (by simp) _).trans hb1);clear hb1;go_wp2_with fail;refine(HR.out _).mono ?_;rintro e w2 ⟨rfl,hb2⟩;have HB2:=Hq (HB1.out.trans (hb2.mono HB1.out.size));clear hb2;go_wp2_with fail;refine(HE.out _).mono ?_;rintro e w3 ⟨x,y,rfl,hb3,hx0,hx8,hbz⟩;have HB3:=Hq (HB2.out.trans (hb3.mono HB2.out.size));rw[HG.out]at hbz;have HI:=Hq (inv_red (inv_of_bez hx0 hbz HM1.out));have HRR:=Hq (HRX.out x.natAbs hx8);rw[HG.out,nS_one];unfold intV zV;have HML:=Hq (show x.natAbs%m<m from Nat.mod_lt _ (by have:=HM1.out;omega));obtain⟨X,hX⟩:∃ X,x.natAbs=X:=⟨_,rfl⟩;obtain⟨u,hu⟩:∃ u,nS X=u:=⟨_,rfl⟩;rw[hX]at HI HRR HML⊢;rw[hu]at HRR⊢;obtain⟨dx,hdx⟩:∃ dx,decide (x<0)=dx:=⟨_,rfl⟩;obtain⟨dy,hdy⟩:∃ dy,decide (y<0)=dy:=⟨_,rfl⟩;obtain⟨v,hv⟩:∃ v,nS y.natAbs=v:=⟨_,rfl⟩;rw[hdx,hdy,hv];clear hb3 hbz hx0 hx8 hX hu hdx hdy hv;go_wp2_with fail;refine(HRR.out _).mono ?_;rintro e w4 ⟨rfl,hb4⟩;have HB4:=Hq (((HB3.out.alloc HB3.out.size (.cells #[.bool dx,.string u] 158)).alloc (by have:=HB3.out.size;simp;omega) (.cells #[.bool dy,.string v] 158)).trans (hb4.mono (by have:=HB3.out.size;simp;omega)));clear hb4;go_wp2;go_ret2;exact⟨X%m,rfl,HB4.out,HML.out,HI.out⟩
set_option maxRecDepth 100000
set_option maxHeartbeats 2000000
theorem nS_beq(a b:Nat):((nS a).toList==(nS b).toList)=decide (a=b):=by
 rw[ByteArray.toList_eq,ByteArray.toList_eq,nS_data,nS_data,Bool.eq_iff_iff,beq_iff_eq,decide_eq_true_eq];exact⟨fun h=>by rw[←bnat_encN a,h,bnat_encN],fun h=>by rw[h]⟩
theorem nS_is1(a:Nat):((nS a).toList==[1])=decide (a=1):=by
 rw[←nS_beq a 1,show (nS 1).toList=[1]from by rw[ByteArray.toList_eq,nS_data];rfl]
def gV(M O:ByteArray):Value:=.agg #[.string M,.string O]
theorem pg_formed(M O:ByteArray)(hM:M.size≤9223372036854775807)(hO:O.size≤9223372036854775807)(w:World):Calls Tryz.prog 273 #[gV M O] w (Ret (.bool (nvalid M&&nvalid O)) w):=by
 have HV1:=Hq (nat_Valid M hM);have HV2:=Hq (nat_Valid O hO);unfold gV;go_enter Tryz.func273,Tryz.ntmps273;go_wp2_with fail;refine(HV1.out _).mono ?_;rintro e w1 ⟨rfl,rfl⟩
 cases hv:nvalid M with
 | false =>
  have HVE:=Hq hv;clear hv;go_wp2;go_ret;exact⟨by rw[HVE.out];rfl,(blr).alloc nlr _⟩
 | true =>
  have HVE:=Hq hv;clear hv;go_wp2_with fail;refine(HV2.out _).mono ?_;rintro e w1 ⟨rfl,rfl⟩;go_wp2;go_ret;exact⟨by rw[HVE.out,Bool.true_and];rfl,(blr).alloc nlr _⟩
theorem r09_form(M O:ByteArray)(hM:M.size≤9223372036854775807)(hO:O.size≤9223372036854775807)(w:World):Calls Tryz.prog 271 #[gV M O] w (Ret (.bool (nvalid M&&nvalid O)) w):=by
 have HV1:=Hq (r01_Valid M hM);have HV2:=Hq (r01_Valid O hO);unfold gV;go_enter Tryz.func271,Tryz.ntmps271;go_wp2_with fail;refine(HV1.out _).mono ?_;rintro e w1 ⟨rfl,rfl⟩
 cases hv:nvalid M with
 | false =>
  have HVE:=Hq hv;clear hv;go_wp2;go_ret;exact⟨by rw[HVE.out];rfl,(blr).alloc nlr _⟩
 | true =>
  have HVE:=Hq hv;clear hv;go_wp2_with fail;refine(HV2.out _).mono ?_;rintro e w1 ⟨rfl,rfl⟩;go_wp2;go_ret;exact⟨by rw[HVE.out,Bool.true_and];rfl,(blr).alloc nlr _⟩
def hasP(M O e:ByteArray):Prop:=nvalid M=true∧nvalid O=true∧nvalid e=true∧0<num O∧0<num e∧num e<num M∧num e ^ num O%num M=1
instance (M O e:ByteArray):Decidable (hasP M O e):=by unfold hasP;exact inferInstance
def hasG(M O e:ByteArray):Bool:=decide (hasP M O e)
theorem pg_Has(M O e:ByteArray)(hM:M.size≤8)(hO:O.size≤1000)(he:e.size≤1000)(w:World):Calls Tryz.prog 242 #[gV M O,.string e] w (Ret (.bool (hasG M O e)) w):=by
 have HF:=Hq (pg_formed M O (by omega) (by omega));have HV:=Hq (nat_Valid e (by omega));have HB0:Below w.heap.size w (w.alloc (.cells #[.string M,.string O] 24)):=(blr).alloc nlr _
 cases hf:(nvalid M&&nvalid O)with
 | false =>
  have HR:=Hq (show hasG M O e=false from decide_eq_false (fun h=>by rw[h.1,h.2.1]at hf;cases hf));rw[hf]at HF;clear hf;rw[HR.out];unfold gV at *;go_enter Tryz.func242,Tryz.ntmps242;go_wp2_with fail;refine(HF.out _).mono ?_;rintro ev w1 ⟨rfl,hb1⟩;have HB1:=Hq (HB0.trans (hb1.mono HB0.size));have hbx:(w1.heap[w.heap.size]?)=some (.cells #[.string M,.string O] 24):=(hb1.block _ (by simp)).trans (heap_alloc_new _ _);have c0:w1.cell? ⟨w.heap.size,0,none⟩=some (.string M):=by rw[Lib.cell_of_heap hbx];rfl
  have c1:w1.cell? ⟨w.heap.size,1,none⟩=some (.string O):=by rw[Lib.cell_of_heap hbx];rfl
  have HBX:=Hq hbx;clear hb1 hbx;go_wp2;go_ret;exact⟨rfl,HB1.out⟩
 | true =>
  rw[hf]at HF;rw[Bool.and_eq_true]at hf
  cases hv:nvalid e with
  | false =>
   have HR:=Hq (show hasG M O e=false from decide_eq_false (fun h=>by rw[h.2.2.1]at hv;cases hv));rw[hv]at HV;clear hv hf;rw[HR.out];unfold gV at *;go_enter Tryz.func242,Tryz.ntmps242;go_wp2_with fail;refine(HF.out _).mono ?_;rintro ev w1 ⟨rfl,hb1⟩;have HB1:=Hq (HB0.trans (hb1.mono HB0.size));have hbx:(w1.heap[w.heap.size]?)=some (.cells #[.string M,.string O] 24):=(hb1.block _ (by simp)).trans (heap_alloc_new _ _);have c0:w1.cell? ⟨w.heap.size,0,none⟩=some (.string M):=by rw[Lib.cell_of_heap hbx];rfl
   have c1:w1.cell? ⟨w.heap.size,1,none⟩=some (.string O):=by rw[Lib.cell_of_heap hbx];rfl
   have HBX:=Hq hbx;clear hb1 hbx;go_wp2_with fail;refine(HV.out _).mono ?_;rintro ev w2 ⟨rfl,rfl⟩;go_wp2;go_ret;exact⟨rfl,HB1.out⟩
  | true =>
   have hm8:=num_small hM;have hMe:=nS_num hf.1;have hOe:=nS_num hf.2;have hee:=nS_num hv;have ho8:num O<256 ^ 128:=(by have:=hf.2;rw[hOe]at this;exact nvalid_nS.1 this);have hx8:num e<256 ^ 128:=(by have:=hv;rw[hee]at this;exact nvalid_nS.1 this);rw[hv]at HV;have HCM:=Hq (show ncmp e M=cmpI (num e) (num M)from by
    unfold ncmp
    rw[hv,hf.1,Bool.and_true,if_pos rfl,←ordB_nS,←hee,←hMe])
   have HCC:=Hq (nat_Cmp e M (by omega) (by omega));rw[HCM.out]at HCC;by_cases ho0:num O=0
   · have HR:=Hq (show hasG M O e=false from decide_eq_false (fun h=>by have:=h.2.2.2.1;omega));have hOz:O=⟨#[]⟩:=by rw[hOe,ho0];rfl
     clear hv hf hMe hOe hee ho8 hx8 hm8 ho0;subst hOz;rw[HR.out];unfold gV at *;go_enter Tryz.func242,Tryz.ntmps242;go_wp2_with fail;refine(HF.out _).mono ?_;rintro ev w1 ⟨rfl,hb1⟩;have HB1:=Hq (HB0.trans (hb1.mono HB0.size));have hbx:(w1.heap[w.heap.size]?)=some (.cells #[.string M,.string (⟨#[]⟩:ByteArray)] 24):=(hb1.block _ (by simp)).trans (heap_alloc_new _ _);have c0:w1.cell? ⟨w.heap.size,0,none⟩=some (.string M):=by rw[Lib.cell_of_heap hbx];rfl
     have c1:w1.cell? ⟨w.heap.size,1,none⟩=some (.string (⟨#[]⟩:ByteArray)):=by rw[Lib.cell_of_heap hbx];rfl
     have HBX:=Hq hbx;clear hb1 hbx;go_wp2_with fail;refine(HV.out _).mono ?_;rintro ev w2 ⟨rfl,rfl⟩;go_wp2;go_ret;exact⟨rfl,HB1.out⟩
   · by_cases hx0:num e=0
     · have HR:=Hq (show hasG M O e=false from decide_eq_false (fun h=>by have:=h.2.2.2.2.1;omega));have hez:e=⟨#[]⟩:=by rw[hee,hx0];rfl
       have hOn:O.toList.isEmpty=false:=by rw[hOe];exact empty_nS (by omega)
       clear hv hf hMe hOe hee ho8 hx8 hm8 ho0;subst hez;rw[HR.out];unfold gV at *;go_enter Tryz.func242,Tryz.ntmps242;go_wp2_with fail;refine(HF.out _).mono ?_;rintro ev w1 ⟨rfl,hb1⟩;have HB1:=Hq (HB0.trans (hb1.mono HB0.size));have hbx:(w1.heap[w.heap.size]?)=some (.cells #[.string M,.string O] 24):=(hb1.block _ (by simp)).trans (heap_alloc_new _ _);have c0:w1.cell? ⟨w.heap.size,0,none⟩=some (.string M):=by rw[Lib.cell_of_heap hbx];rfl
       have c1:w1.cell? ⟨w.heap.size,1,none⟩=some (.string O):=by rw[Lib.cell_of_heap hbx];rfl
       have HBX:=Hq hbx;clear hb1 hbx;go_wp2_with fail;refine(HV.out _).mono ?_;rintro ev w2 ⟨rfl,rfl⟩;go_wp2;go_ret;exact⟨rfl,HB1.out⟩
     · have hOn:O.toList.isEmpty=false:=by rw[hOe];exact empty_nS (by omega)
       have hen:e.toList.isEmpty=false:=by rw[hee];exact empty_nS (by omega)
       by_cases hxm:num M≤num e
       · have HR:=Hq (show hasG M O e=false from decide_eq_false (fun h=>by have:=h.2.2.2.2.2.1;omega));have hg:=cmpI_nonneg hxm;obtain⟨c,hc⟩:∃ c,cmpI (num e) (num M)=c:=⟨_,rfl⟩;rw[hc]at hg HCC;clear hv hf hMe hOe hee ho8 hx8 hm8 ho0 hx0 hxm hc;rw[HR.out];unfold gV at *;go_enter Tryz.func242,Tryz.ntmps242;go_wp2_with fail;refine(HF.out _).mono ?_;rintro ev w1 ⟨rfl,hb1⟩;have HB1:=Hq (HB0.trans (hb1.mono HB0.size));have hbx:(w1.heap[w.heap.size]?)=some (.cells #[.string M,.string O] 24):=(hb1.block _ (by simp)).trans (heap_alloc_new _ _);have c0:w1.cell? ⟨w.heap.size,0,none⟩=some (.string M):=by rw[Lib.cell_of_heap hbx];rfl
         have c1:w1.cell? ⟨w.heap.size,1,none⟩=some (.string O):=by rw[Lib.cell_of_heap hbx];rfl
         have HBX:=Hq hbx;clear hb1 hbx;go_wp2_with fail;refine(HV.out _).mono ?_;rintro ev w2 ⟨rfl,rfl⟩;go_wp2_with fail;refine(HCC.out _).mono ?_;rintro ev w2 ⟨rfl,rfl⟩;go_wp2;go_ret;exact⟨rfl,HB1.out⟩
       · rw[cmpI_lt (by omega)]at HCC;have HE1:=Hq (mod_Exp (num e) (num O) (num M) (by omega) ho8 hm8 (by omega));have HE2:=Hq (mod_Exp (num e) 0 (num M) (by omega) (by decide) hm8 (by omega));rw[←hee,←hOe,←hMe]at HE1;rw[←hee,←hMe,nS_zero,Nat.pow_zero,Nat.mod_eq_of_lt (by omega)]at HE2;obtain⟨A,hA⟩:∃ A,num e ^ num O%num M=A:=⟨_,rfl⟩;rw[hA]at HE1;have HR:=Hq (show hasG M O e=decide (A=1)from decide_eq_decide.2 ⟨fun h=>by rw[←hA];exact h.2.2.2.2.2.2,fun h=>⟨hf.1,hf.2,hv,by omega,by omega,by omega,by rw[hA];exact h⟩⟩);clear hv hf hMe hOe hee ho8 hx8 hm8 ho0 hx0 hxm hA;rw[HR.out];unfold gV at *;go_enter Tryz.func242,Tryz.ntmps242;go_wp2_with fail;refine(HF.out _).mono ?_;rintro ev w1 ⟨rfl,hb1⟩;have HB1:=Hq (HB0.trans (hb1.mono HB0.size));have hbx:(w1.heap[w.heap.size]?)=some (.cells #[.string M,.string O] 24):=(hb1.block _ (by simp)).trans (heap_alloc_new _ _);have c0:w1.cell? ⟨w.heap.size,0,none⟩=some (.string M):=by rw[Lib.cell_of_heap hbx];rfl
         have c1:w1.cell? ⟨w.heap.size,1,none⟩=some (.string O):=by rw[Lib.cell_of_heap hbx];rfl
         have HBX:=Hq hbx;clear hb1 hbx;go_wp2_with fail;refine(HV.out _).mono ?_;rintro ev w2 ⟨rfl,rfl⟩;go_wp2_with fail;refine(HCC.out _).mono ?_;rintro ev w2 ⟨rfl,rfl⟩;go_wp2_with fail;refine(HE1.out _).mono ?_;rintro ev w3 ⟨rfl,hb3⟩;have hbx3:=(hb3.block _ (block_lt HBX.out)).trans HBX.out;have HB3:=Hq (HB1.out.trans (hb3.mono HB1.out.size));clear hb3 c0 c1;have c0:w3.cell? ⟨w.heap.size,0,none⟩=some (.string M):=by rw[Lib.cell_of_heap hbx3];rfl
         clear hbx3;go_wp2_with fail;refine(HE2.out _).mono ?_;rintro ev w4 ⟨rfl,hb4⟩;have HB4:=Hq (HB3.out.trans (hb4.mono HB3.out.size));clear hb4;go_wp2;go_ret;exact⟨by rw[←nS_beq];rfl,HB4.out⟩
theorem r09_Has(M O e:ByteArray)(hM:M.size≤8)(hO:O.size≤1000)(he:e.size≤1000)(w:World):Calls Tryz.prog 236 #[gV M O,.string e] w (Ret (.bool (hasG M O e)) w):=by
 have HF:=Hq (r09_form M O (by omega) (by omega));have HV:=Hq (r01_Valid e (by omega));have HB0:Below w.heap.size w (w.alloc (.cells #[.string M,.string O] 24)):=(blr).alloc nlr _
 cases hf:(nvalid M&&nvalid O)with
 | false =>
  have HR:=Hq (show hasG M O e=false from decide_eq_false (fun h=>by rw[h.1,h.2.1]at hf;cases hf));rw[hf]at HF;clear hf;rw[HR.out];unfold gV at *;go_enter Tryz.func236,Tryz.ntmps236;go_wp2_with fail;refine(HF.out _).mono ?_;rintro ev w1 ⟨rfl,hb1⟩;have HB1:=Hq (HB0.trans (hb1.mono HB0.size));have hbx:(w1.heap[w.heap.size]?)=some (.cells #[.string M,.string O] 24):=(hb1.block _ (by simp)).trans (heap_alloc_new _ _);have c0:w1.cell? ⟨w.heap.size,0,none⟩=some (.string M):=by rw[Lib.cell_of_heap hbx];rfl
  have c1:w1.cell? ⟨w.heap.size,1,none⟩=some (.string O):=by rw[Lib.cell_of_heap hbx];rfl
  have HBX:=Hq hbx;clear hb1 hbx;go_wp2;go_ret;exact⟨rfl,HB1.out⟩
 | true =>
  rw[hf]at HF;rw[Bool.and_eq_true]at hf
  cases hv:nvalid e with
  | false =>
   have HR:=Hq (show hasG M O e=false from decide_eq_false (fun h=>by rw[h.2.2.1]at hv;cases hv));rw[hv]at HV;clear hv hf;rw[HR.out];unfold gV at *;go_enter Tryz.func236,Tryz.ntmps236;go_wp2_with fail;refine(HF.out _).mono ?_;rintro ev w1 ⟨rfl,hb1⟩;have HB1:=Hq (HB0.trans (hb1.mono HB0.size));have hbx:(w1.heap[w.heap.size]?)=some (.cells #[.string M,.string O] 24):=(hb1.block _ (by simp)).trans (heap_alloc_new _ _);have c0:w1.cell? ⟨w.heap.size,0,none⟩=some (.string M):=by rw[Lib.cell_of_heap hbx];rfl
   have c1:w1.cell? ⟨w.heap.size,1,none⟩=some (.string O):=by rw[Lib.cell_of_heap hbx];rfl
   have HBX:=Hq hbx;clear hb1 hbx;go_wp2_with fail;refine(HV.out _).mono ?_;rintro ev w2 ⟨rfl,rfl⟩;go_wp2;go_ret;exact⟨rfl,HB1.out⟩
  | true =>
   have hm8:=num_small hM;have hMe:=nS_num hf.1;have hOe:=nS_num hf.2;have hee:=nS_num hv;have ho8:num O<256 ^ 128:=(by have:=hf.2;rw[hOe]at this;exact nvalid_nS.1 this);have hx8:num e<256 ^ 128:=(by have:=hv;rw[hee]at this;exact nvalid_nS.1 this);rw[hv]at HV;have HCM:=Hq (show ordB e M=cmpI (num e) (num M)from by rw[←ordB_nS,←hee,←hMe]);have HCC:=Hq (r01_Order e M (by omega) (by omega));rw[HCM.out]at HCC;by_cases ho0:num O=0
   · have HR:=Hq (show hasG M O e=false from decide_eq_false (fun h=>by have:=h.2.2.2.1;omega));have hOz:O=⟨#[]⟩:=by rw[hOe,ho0];rfl
     clear hv hf hMe hOe hee ho8 hx8 hm8 ho0;subst hOz;rw[HR.out];unfold gV at *;go_enter Tryz.func236,Tryz.ntmps236;go_wp2_with fail;refine(HF.out _).mono ?_;rintro ev w1 ⟨rfl,hb1⟩;have HB1:=Hq (HB0.trans (hb1.mono HB0.size));have hbx:(w1.heap[w.heap.size]?)=some (.cells #[.string M,.string (⟨#[]⟩:ByteArray)] 24):=(hb1.block _ (by simp)).trans (heap_alloc_new _ _);have c0:w1.cell? ⟨w.heap.size,0,none⟩=some (.string M):=by rw[Lib.cell_of_heap hbx];rfl
     have c1:w1.cell? ⟨w.heap.size,1,none⟩=some (.string (⟨#[]⟩:ByteArray)):=by rw[Lib.cell_of_heap hbx];rfl
     have HBX:=Hq hbx;clear hb1 hbx;go_wp2_with fail;refine(HV.out _).mono ?_;rintro ev w2 ⟨rfl,rfl⟩;go_wp2;go_ret;exact⟨rfl,HB1.out⟩
   · by_cases hx0:num e=0
     · have HR:=Hq (show hasG M O e=false from decide_eq_false (fun h=>by have:=h.2.2.2.2.1;omega));have hez:e=⟨#[]⟩:=by rw[hee,hx0];rfl
       have hOn:O.toList.isEmpty=false:=by rw[hOe];exact empty_nS (by omega)
       clear hv hf hMe hOe hee ho8 hx8 hm8 ho0;subst hez;rw[HR.out];unfold gV at *;go_enter Tryz.func236,Tryz.ntmps236;go_wp2_with fail;refine(HF.out _).mono ?_;rintro ev w1 ⟨rfl,hb1⟩;have HB1:=Hq (HB0.trans (hb1.mono HB0.size));have hbx:(w1.heap[w.heap.size]?)=some (.cells #[.string M,.string O] 24):=(hb1.block _ (by simp)).trans (heap_alloc_new _ _);have c0:w1.cell? ⟨w.heap.size,0,none⟩=some (.string M):=by rw[Lib.cell_of_heap hbx];rfl
       have c1:w1.cell? ⟨w.heap.size,1,none⟩=some (.string O):=by rw[Lib.cell_of_heap hbx];rfl
       have HBX:=Hq hbx;clear hb1 hbx;go_wp2_with fail;refine(HV.out _).mono ?_;rintro ev w2 ⟨rfl,rfl⟩;go_wp2;go_ret;exact⟨rfl,HB1.out⟩
     · have hOn:O.toList.isEmpty=false:=by rw[hOe];exact empty_nS (by omega)
       have hen:e.toList.isEmpty=false:=by rw[hee];exact empty_nS (by omega)
       by_cases hxm:num M≤num e
       · have HR:=Hq (show hasG M O e=false from decide_eq_false (fun h=>by have:=h.2.2.2.2.2.1;omega));have hg:=cmpI_nonneg hxm;obtain⟨c,hc⟩:∃ c,cmpI (num e) (num M)=c:=⟨_,rfl⟩;rw[hc]at hg HCC;clear hv hf hMe hOe hee ho8 hx8 hm8 ho0 hx0 hxm hc;rw[HR.out];unfold gV at *;go_enter Tryz.func236,Tryz.ntmps236;go_wp2_with fail;refine(HF.out _).mono ?_;rintro ev w1 ⟨rfl,hb1⟩;have HB1:=Hq (HB0.trans (hb1.mono HB0.size));have hbx:(w1.heap[w.heap.size]?)=some (.cells #[.string M,.string O] 24):=(hb1.block _ (by simp)).trans (heap_alloc_new _ _);have c0:w1.cell? ⟨w.heap.size,0,none⟩=some (.string M):=by rw[Lib.cell_of_heap hbx];rfl
         have c1:w1.cell? ⟨w.heap.size,1,none⟩=some (.string O):=by rw[Lib.cell_of_heap hbx];rfl
         have HBX:=Hq hbx;clear hb1 hbx;go_wp2_with fail;refine(HV.out _).mono ?_;rintro ev w2 ⟨rfl,rfl⟩;go_wp2_with fail;refine(HCC.out _).mono ?_;rintro ev w2 ⟨rfl,hb2⟩;have HB2:=Hq (HB1.out.trans (hb2.mono HB1.out.size));clear hb2;go_wp2;go_ret;exact⟨rfl,HB2.out⟩
       · rw[cmpI_lt (by omega)]at HCC;have HE1:=Hq (r03_Exp (num e) (num O) (num M) hx8 ho8 hm8 (by omega));rw[←hee,←hOe,←hMe]at HE1;obtain⟨A,hA⟩:∃ A,num e ^ num O%num M=A:=⟨_,rfl⟩;rw[hA]at HE1;have HR:=Hq (show hasG M O e=decide (A=1)from decide_eq_decide.2 ⟨fun h=>by rw[←hA];exact h.2.2.2.2.2.2,fun h=>⟨hf.1,hf.2,hv,by omega,by omega,by omega,by rw[hA];exact h⟩⟩);clear hv hf hMe hOe hee ho8 hx8 hm8 ho0 hx0 hxm hA;rw[HR.out];unfold gV at *;go_enter Tryz.func236,Tryz.ntmps236;go_wp2_with fail;refine(HF.out _).mono ?_;rintro ev w1 ⟨rfl,hb1⟩;have HB1:=Hq (HB0.trans (hb1.mono HB0.size));have hbx:(w1.heap[w.heap.size]?)=some (.cells #[.string M,.string O] 24):=(hb1.block _ (by simp)).trans (heap_alloc_new _ _);have c0:w1.cell? ⟨w.heap.size,0,none⟩=some (.string M):=by rw[Lib.cell_of_heap hbx];rfl
         have c1:w1.cell? ⟨w.heap.size,1,none⟩=some (.string O):=by rw[Lib.cell_of_heap hbx];rfl
         have HBX:=Hq hbx;clear hb1 hbx;go_wp2_with fail;refine(HV.out _).mono ?_;rintro ev w2 ⟨rfl,rfl⟩;go_wp2_with fail;refine(HCC.out _).mono ?_;rintro ev w2 ⟨rfl,hb2⟩;have hbx2:=(hb2.block _ (block_lt HBX.out)).trans HBX.out;have HB2:=Hq (HB1.out.trans (hb2.mono HB1.out.size));clear hb2 c0 c1;have c0:w2.cell? ⟨w.heap.size,0,none⟩=some (.string M):=by rw[Lib.cell_of_heap hbx2];rfl
         have c1:w2.cell? ⟨w.heap.size,1,none⟩=some (.string O):=by rw[Lib.cell_of_heap hbx2];rfl
         clear hbx2;go_wp2_with fail;refine(HE1.out _).mono ?_;rintro ev w3 ⟨rfl,hb3⟩;have HB3:=Hq (HB2.out.trans (hb3.mono HB2.out.size));clear hb3;go_wp2;go_ret;exact⟨by rw[←nS_is1];rfl,HB3.out⟩
end Go.Proofs.YtfbmbledklbfgaaGreat

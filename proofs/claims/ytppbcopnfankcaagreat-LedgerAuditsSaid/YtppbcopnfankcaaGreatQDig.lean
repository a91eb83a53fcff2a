import Derived.Test.YtppbcopnfankcaaGreatQLdC
import Derived.RangeFuncNested
import Derived.RangeFuncBound
import Derived.Shelf.RegionOpen
import Derived.OwnWalkIn
import Derived.LoopNIn
import Derived.LoopIn
set_option linter.unusedVariables false
set_option linter.unusedSimpArgs false
namespace Go.Proofs.YtppbcopnfankcaaGreat
set_option maxRecDepth 100000
set_option maxHeartbeats 2000000
open Go.RowKit
theorem zlb(xs ms:List ByteArray)(g c1 n1 B:Nat)(ad:Addr)(n2 c2:Nat)(w:World)(hown:w.ownsRow B 22 1 (.slice (some ⟨g,0,none⟩) n1 c1) n1 (xs.map Value.string))(hs:SlN w (some ad) n2 c2 ms)(hg:ad.block≠g)(hlb1:n1≤1000)(hlb2:n2≤1000)(h0:0<n2)(hB:B≤w.heap.size)
 (hv:∀(k:Nat) (s:ByteArray),(xs++ms)[k]? =some s→zc s=true) (hm:∀(k:Nat) (s:ByteArray),ms[k]? =some s→s.toList.isEmpty=false) :
 Calls Tryz.prog 220 #[.slice (some ⟨g,0,none⟩) n1 c1,.slice (some ad) n2 c2] w (RetB B (.int .i64 0) w):=by
 have hl2:=hs.1;have hlc2:=hs.2.1;have hmx2:=hs.2.2.1;have hcells:=hs.cells;have hgB:B≤g:=(hown.lt g rfl).1;have HC:=Hq hcells;have HOWN:=Hq hown;have HS:=Hq hs;have HV:=Hq hv;have HM:=Hq hm;have HL:=Hq (show (ms.map Value.string).length=n2 * 1 from by rw[List.length_map,hl2,Nat.mul_one]);obtain⟨i0,hi,iz0,iz1,iz2⟩:=info_parts ky;clear hcells hown hs hv hm hl2;go_enter Tryz.func220,Tryz.ntmps220;go_wp2_with (at_builtin;refine wpList_append_lies _ rfl (.tmp 9) (.tmp 10) 25 rfl B 22 i0 _ 1 16 Tryz.underlying25 hi iz0 iz1 iz2 rfl (by decide) _ n1 (xs.map Value.string) rfl HOWN.out ad n2 c2 (ms.map Value.string) rfl HL.out HC.out (zd4 ms) h0 ?n3 ?n4 hB _ rfl ?_);case n3=>unfold maxLen;omega
 case n4=>omega
 intro g2 cap2 w2 hown2 hgrow2 hat2 hlt2;have hb2:Below B w w2:=(blr).grown hgrow2 hB (fun k e=>by simp only[Value.ownBlock,Option.some.injEq]at e;omega);obtain⟨hl3,A3,c3,hv3,hs3⟩:=SlN.of_owns (l:=xs++ms) (by rw[List.map_append];exact hown2);simp only[Value.slice.injEq,true_and]at hv3;obtain⟨rfl,rfl⟩:=hv3;have hms2:SlN w2 (some ad) n2 c2 ms:=by
  refine⟨HS.out.1,HS.out.2.1,HS.out.2.2.1,?_⟩;obtain⟨b',o',h4,h5⟩:=HS.out.2.2.2;have e:=h4 h0;simp only[Option.some.injEq]at e;subst e;refine⟨b',o',fun _=>rfl,fun k s hk=>?_⟩;have hc:=h5 k s hk;rw[hgrow2.cell_far ⟨b',o'+k,none⟩ (World.block_lt_of_cell? _ _ hc) (by simp only[Value.ownBlock,ne_eq,Option.some.injEq];exact hg)];exact hc
 have HS3:=Hq hs3;have HL3:=Hq hl3;have HMS:=Hq hms2;have HB2:=Hq hb2;have hcap3:=hs3.2.1;have hcm3:=hs3.2.2.1;clear hown2 hgrow2 hat2 hlt2 hb2 hl3 hs3 hms2;go_wp2
 go_loop [13] (fun i=>∃ k:Nat,k≤n1+n2∧i=.int .i64 k) (fun i=>n1+n2 - (intOf i).toNat)
 case atStart=>exact⟨0,Nat.zero_le _,rfl⟩
 case round =>
  obtain⟨k,hk,rfl⟩:=hrel;by_cases hlt:k<n1+n2
  · obtain⟨s,he⟩:∃ s,(xs++ms)[k]? =some s:=⟨_,List.getElem?_eq_getElem (by rw[HL3.out];exact hlt)⟩;have c0:=HS3.out.get? k he;rw[Nat.zero_add]at c0;have hvs:=HV.out k s he;have hsz:s.size≤128:=by unfold zc at hvs;simp at hvs;exact hvs.1
    have HVS:=Hq hvs;clear he hvs;go_wp2_with fail;refine(zh s (by omega) _).mono ?_;rintro e w1 ⟨rfl,rfl⟩;rw[HVS.out];go_wp2;go_round;case rel=>exact⟨k+1,by omega,by go_num⟩
    case measure=>simp[intOf];omega
  · obtain rfl:k=n1+n2:=by omega
    go_wp2
    go_loop [23] (fun i=>∃ k:Nat,k≤n2∧i=.int .i64 k) (fun i=>n2 - (intOf i).toNat)
    case atStart=>exact⟨0,Nat.zero_le _,rfl⟩
    case round =>
     obtain⟨k,hk,rfl⟩:=hrel;by_cases hlt:k<n2
     · obtain⟨s,he⟩:∃ s,ms[k]? =some s:=⟨_,List.getElem?_eq_getElem (by rw[HMS.out.1];exact hlt)⟩;obtain⟨b',o',rfl'⟩:=HMS.out.head h0;have c0:w2.cell? (ad.add k)=some (.string s):=HMS.out.cells k _ (by rw[List.getElem?_map,he];rfl);have hem:=HM.out k s he;simp only[Option.some.injEq]at rfl';subst rfl';rw[zaf]at c0;clear he;go_wp2;go_round;case rel=>exact⟨k+1,by omega,by go_num⟩
       case measure=>simp[intOf];omega
     · obtain rfl:k=n2:=by omega
       go_wp2;go_ret;exact⟨rfl,HB2.out⟩
theorem za5(x m:Nat)(hx8:x<18446744073709551616)(hm:m<256 ^ 128)(h0:0<m)(w:World):Calls Tryz.prog 223 #[.string (nS x),.string (nS m)] w (Ret (.string (nS (x%m))) w):=by
 have HD:=Hq (zap x m hx8 hm h0);obtain⟨s,hs⟩:=nm (nS x);obtain⟨t,ht⟩:=nm (nS m);rw[hs,ht]at HD;rw[hs,ht];clear hs ht hm hx8;go_enter Tryz.func223,Tryz.ntmps223;go_wp2_with fail;refine(HD.out _).mono ?_;rintro e w1 ⟨rfl,hb⟩;have HB:=Hq hb;clear hb;go_wp2;go_ret;exact⟨rfl,HB.out⟩
theorem zfm(x y m:Nat)(hx8:x<18446744073709551616)(hy8:y<18446744073709551616)(hm8:m<18446744073709551616)(h0:0<m)(w:World):Calls Tryz.prog 221 #[.string (nS x),.string (nS y),.string (nS m)] w (Ret (.string (nS (x * y%m))) w):=by
 have hz1:=zk hx8;have hz2:=zk hy8;have hz3:=zk hm8;have HN1:=Hq (xu x hx8);have HN2:=Hq (xu y hy8);have HN3:=Hq (xu m hm8);have hx2:x%m<18446744073709551616:=Nat.lt_trans (Nat.mod_lt x h0) hm8;have hy2:y%m<18446744073709551616:=Nat.lt_trans (Nat.mod_lt y h0) hm8;have HX2:=Hq hx2;have HY2:=Hq hy2;obtain⟨p,hp⟩:∃ p,p=x%m * (y%m):=⟨_,rfl⟩;have hph:p / 18446744073709551616<18446744073709551616:=(by rw[Nat.div_lt_iff_lt_mul (by decide),hp];have h1:=Nat.mul_le_mul (Nat.le_of_lt hx2) (show y%m≤18446744073709551615 by omega);omega);have hpl:p%18446744073709551616<18446744073709551616:=Nat.mod_lt _ (by decide);have HR:=Hq (zqe (p / 18446744073709551616) (p%18446744073709551616) m hph hm8 hpl h0);have HE:=Hq (show (p / 18446744073709551616 * 18446744073709551616+p%18446744073709551616)%m=x * y%m from by rw[Nat.mul_comm,Nat.div_add_mod,hp,←Nat.mul_mod]);have HO:=Hq (yz (x * y%m) (Nat.lt_trans (Nat.mod_lt _ h0) hm8));have HP:=Hq hp;have hm3:¬ (m=0):=by omega
 have hm2:(0:Int)<(m:Int):=by omega
 have hwx:IntKind.u64.wrap ((x:Int)%(m:Int))=(x:Int)%(m:Int):=js (x%m) hx2;have hwy:IntKind.u64.wrap ((y:Int)%(m:Int))=(y:Int)%(m:Int):=js (y%m) hy2;obtain⟨s,hs⟩:=nm (nS x);obtain⟨t,ht⟩:=nm (nS y);obtain⟨u,hu⟩:=nm (nS m);rw[hs]at hz1 HN1⊢;rw[ht]at hz2 HN2⊢;rw[hu]at hz3 HN3⊢;have i1:(s.size:Int)≤8:=by omega
 have i2:(t.size:Int)≤8:=by omega
 have i3:(u.size:Int)≤8:=by omega
 clear hs ht hu hx8 hy8 hm8 hx2 hy2 hp hph hpl hz1 hz2 hz3;go_enter Tryz.func221,Tryz.ntmps221;go_wp2_with fail;refine(HN1.out _).mono ?_;rintro e w1 ⟨rfl,rfl⟩;go_wp2_with fail;refine(HN2.out _).mono ?_;rintro e w1 ⟨rfl,rfl⟩;go_wp2_with fail;refine(HN3.out _).mono ?_;rintro e w1 ⟨rfl,rfl⟩;go_wp2;refine za 12 (Below (w.drew).heap.size (w.drew)) (by kernel_rfl) ?_;refine qPs 0 11 blr ?_;refine qPs 1 10 blr ?_;refine qPs 2 9 blr ?_;refine qPs 3 8 blr ?_;refine qPs 4 7 blr ?_;refine qPs 5 6 blr ?_;refine oO 6 5 ?_;intro K6 hK6;go_wp2_with fail;refine(Tryz.bits_Mul64 (x%m) (y%m) HX2.out HY2.out _).mono ?_;rintro e w6 ⟨rfl,rfl⟩;rw[←HP.out];go_wp2;refine hK6 _ _ (by exact Below.refl _ _) ?_;clear hK6;intro hS_5_6;refine qPs 7 4 hS_5_6 ?_;refine qPs 8 3 hS_5_6 ?_;refine qPs 9 2 hS_5_6 ?_;refine oO 10 1 ?_;intro K10 hK10;go_wp2;refine hK10 _ _ (by exact hS_5_6) ?_;clear hK10;intro hS_5_10;refine oO 11 0 ?_;intro K11 hK11;go_wp2;refine hK11 _ _ (by exact hS_5_10) ?_;clear hK11;intro hS_5_11;refine wDn ?_;go_wp2_with fail;refine(HR.out _).mono ?_;rintro e w2 ⟨rfl,hb2⟩;rw[HE.out];have HB2:=Hq ((blr).drew.trans hb2);clear hb2;go_wp2_with fail;refine(HO.out _).mono ?_;rintro e w3 ⟨rfl,hb3⟩;have HB3:=bt HB2 hb3;clear hb3;go_wp2;go_ret;exact⟨rfl,HB3.out⟩
theorem zgf(w:World)(a b m:ByteArray)(n:Nat)(hn:n=w.heap.size)(ha:zc a=true)(hb:zc b=true)(hm:zc m=true)(h0:m.toList.isEmpty=false)(n2:Nat)(hn2:n2=w.heap.size+1) :
 Calls Tryz.prog 220 #[.slice (some ⟨n,0,none⟩) 2 2,.slice (some ⟨n2,0,none⟩) 1 1] ((w.alloc (.cells #[.string a,.string b] 22)).alloc (.cells #[.string m] 22)) (RetB w.heap.size (.int .i64 0) ((w.alloc (.cells #[.string a,.string b] 22)).alloc (.cells #[.string m] 22))):=by
 subst hn hn2;have h1:=(zky w [a,b] 22 w.heap.size nlr (by simp[maxLen])).alloc (.cells #[.string m] 22);have h2:=jc (w.alloc (.cells #[.string a,.string b] 22)) [m] 22 (by simp);rw[show (w.alloc (.cells #[.string a,.string b] 22)).heap.size=w.heap.size+1 from by simp]at h2;refine zlb [a,b] [m] _ 2 2 w.heap.size _ 1 1 _ h1 h2 (by simp) (by omega) (by omega) (by omega) (by simp;omega) ?_ ?_
 · intro k s hk;have:=List.mem_of_getElem? hk;simp only[List.cons_append,List.nil_append,List.mem_cons,List.mem_nil_iff,or_false]at this;rcases this with rfl | rfl | rfl
   · exact ha
   · exact hb
   · exact hm
 · intro k s hk;have:=List.mem_of_getElem? hk;simp only[List.mem_cons,List.mem_nil_iff,or_false]at this;rw[this];exact h0
theorem zsv(w:World)(a m:ByteArray)(n:Nat)(hn:n=w.heap.size)(ha:zc a=true)(hm:zc m=true)(h0:m.toList.isEmpty=false)(n2:Nat)(hn2:n2=w.heap.size+1) :
 Calls Tryz.prog 220 #[.slice (some ⟨n,0,none⟩) 1 1,.slice (some ⟨n2,0,none⟩) 1 1] ((w.alloc (.cells #[.string a] 22)).alloc (.cells #[.string m] 22)) (RetB w.heap.size (.int .i64 0) ((w.alloc (.cells #[.string a] 22)).alloc (.cells #[.string m] 22))):=by
 subst hn hn2;have h1:=(zky w [a] 22 w.heap.size nlr (by simp[maxLen])).alloc (.cells #[.string m] 22);have h2:=jc (w.alloc (.cells #[.string a] 22)) [m] 22 (by simp);rw[show (w.alloc (.cells #[.string a] 22)).heap.size=w.heap.size+1 from by simp]at h2;refine zlb [a] [m] _ 1 1 w.heap.size _ 1 1 _ h1 h2 (by simp) (by omega) (by omega) (by omega) (by simp;omega) ?_ ?_
 · intro k s hk;have:=List.mem_of_getElem? hk;simp only[List.cons_append,List.nil_append,List.mem_cons,List.mem_nil_iff,or_false]at this;rcases this with rfl | rfl
   · exact ha
   · exact hm
 · intro k s hk;have:=List.mem_of_getElem? hk;simp only[List.mem_cons,List.mem_nil_iff,or_false]at this;rw[this];exact h0
theorem zrt(x y m:Nat)(hx8:x<18446744073709551616)(hy8:y<18446744073709551616)(hm8:m<18446744073709551616)(h0:0<m)(w:World):Calls Tryz.prog 171 #[.string (nS x),.string (nS y),.string (nS m)] w (Ret (.tuple #[.string (nS (x * y%m)),.int .i64 0]) w):=by
 have HC:=Hq (fun w=>zgf w (nS x) (nS y) (nS m) _ rfl (zw hx8) (zw hy8) (zw hm8) (zx h0) _ rfl);have HT:=Hq (zfm x y m hx8 hy8 hm8 h0);obtain⟨s,hs⟩:=nm (nS x);obtain⟨t,ht⟩:=nm (nS y);obtain⟨u,hu⟩:=nm (nS m);rw[hs,ht,hu]at HC HT;rw[hs,ht,hu];clear hs ht hu hx8 hy8 hm8;go_enter Tryz.func171,Tryz.ntmps171;go_wp2_with fail;refine(HC.out w).mono ?_;rintro e w1 ⟨rfl,hb1⟩;have HB1:=Hq ((((Below.refl w.heap.size w).alloc nlr _).alloc (by simp) _).trans hb1);clear hb1;go_wp2_with fail;refine(HT.out _).mono ?_;rintro e w2 ⟨rfl,hb2⟩;have HB2:=bt HB1 hb2;clear hb2;go_wp2;go_ret2;exact⟨rfl,HB2.out⟩
set_option maxRecDepth 100000
def zV(b:Bool)(s:ByteArray):Value:=.agg #[.bool b,.string s]
def intV(z:Int):Value:=zV (decide (z<0)) (nS z.natAbs)
def jz(b:Bool)(s:ByteArray):Bool:=zc s && !(b&&s.toList.isEmpty)
theorem zli(b:Bool)(s:ByteArray)(hs:s.size≤9223372036854775807)(w:World):Calls Tryz.prog 224 #[zV b s] w (Ret (.bool (jz b s)) w):=by
 have HV:=Hq (zh s hs);have HB:=Hq ((Below.refl w.heap.size w).alloc nlr (.cells #[.bool b,.string s] 156));unfold zV
 cases hv:zc s with
 | false =>
  have HR:=Hq (show jz b s=false from by unfold jz;rw[hv];rfl);rw[hv]at HV;clear hv;rw[HR.out];go_enter Tryz.func224,Tryz.ntmps224;go_wp2_with fail;refine(HV.out _).mono ?_;rintro e w1 ⟨rfl,rfl⟩;go_wp2;go_ret;exact⟨rfl,HB.out⟩
 | true =>
  have HR:=Hq (show jz b s = !(b&&s.toList.isEmpty)from by unfold jz;rw[hv,Bool.true_and]);rw[hv]at HV;clear hv;rw[HR.out]
  cases b with
  | false =>
   go_enter Tryz.func224,Tryz.ntmps224;go_wp2_with fail;refine(HV.out _).mono ?_;rintro e w1 ⟨rfl,rfl⟩;go_wp2;go_ret;exact⟨rfl,HB.out⟩
  | true =>
   go_enter Tryz.func224,Tryz.ntmps224;go_wp2_with fail;refine(HV.out _).mono ?_;rintro e w1 ⟨rfl,rfl⟩;go_wp2;go_ret;exact⟨rfl,HB.out⟩
theorem zkr(b:Bool)(s:ByteArray)(hs:s.size≤9223372036854775807)(w:World):Calls Tryz.prog 155 #[zV b s] w (Ret (.bool (jz b s)) w):=by
 have HV:=Hq (zo s hs);have HB:=Hq ((Below.refl w.heap.size w).alloc nlr (.cells #[.bool b,.string s] 156));unfold zV
 cases hv:zc s with
 | false =>
  have HR:=Hq (show jz b s=false from by unfold jz;rw[hv];rfl);rw[hv]at HV;clear hv;rw[HR.out];go_enter Tryz.func155,Tryz.ntmps155;go_wp2_with fail;refine(HV.out _).mono ?_;rintro e w1 ⟨rfl,rfl⟩;go_wp2;go_ret;exact⟨rfl,HB.out⟩
 | true =>
  have HR:=Hq (show jz b s = !(b&&s.toList.isEmpty)from by unfold jz;rw[hv,Bool.true_and]);rw[hv]at HV;clear hv;rw[HR.out]
  cases b with
  | false =>
   go_enter Tryz.func155,Tryz.ntmps155;go_wp2_with fail;refine(HV.out _).mono ?_;rintro e w1 ⟨rfl,rfl⟩;go_wp2;go_ret;exact⟨rfl,HB.out⟩
  | true =>
   go_enter Tryz.func155,Tryz.ntmps155;go_wp2_with fail;refine(HV.out _).mono ?_;rintro e w1 ⟨rfl,rfl⟩;go_wp2;go_ret;exact⟨rfl,HB.out⟩
theorem zol(w:World)(x y:Value)(T:TypeId):(w.alloc (.cells #[x,y] T)).cell? ⟨w.heap.size,0,none⟩=some x∧(w.alloc (.cells #[x,y] T)).cell? ⟨w.heap.size,1,none⟩=some y:=⟨by rw[Lib.cell_of_heap (heap_alloc_new _ _)];rfl,by rw[Lib.cell_of_heap (heap_alloc_new _ _)];rfl⟩
theorem zus(b:Bool)(s:ByteArray)(w:World):Calls Tryz.prog 195 #[.bool b,.string s] w (Ret (zV (b && !s.toList.isEmpty) s) w):=by
 unfold zV
 cases b with
 | false =>
  go_enter Tryz.func195,Tryz.ntmps195;go_wp2;obtain⟨q0,q1⟩:=zol w (.bool false) (.string s) 156;exact bodyPost_ret (v:=.agg #[.bool (false && !s.toList.isEmpty),.string s]) (by simp[results,Tryz.results195,go_sem,q0,q1]) rfl ⟨rfl,(blr).alloc nlr _⟩
 | true =>
  go_enter Tryz.func195,Tryz.ntmps195;go_wp2;obtain⟨q0,q1⟩:=zol w (.bool !s.toList.isEmpty) (.string s) 156;exact bodyPost_ret (v:=.agg #[.bool (true && !s.toList.isEmpty),.string s]) (by simp[results,Tryz.results195,go_sem,q0,q1]) rfl ⟨rfl,(blr).alloc nlr _⟩
theorem zt7(b:Bool)(s:ByteArray)(w:World):Calls Tryz.prog 157 #[.bool b,.string s] w (Ret (zV (b && !s.toList.isEmpty) s) w):=by
 unfold zV
 cases b with
 | false =>
  go_enter Tryz.func157,Tryz.ntmps157;go_wp2;obtain⟨q0,q1⟩:=zol w (.bool false) (.string s) 156;exact bodyPost_ret (v:=.agg #[.bool (false && !s.toList.isEmpty),.string s]) (by simp[results,Tryz.results157,go_sem,q0,q1]) rfl ⟨rfl,(blr).alloc nlr _⟩
 | true =>
  go_enter Tryz.func157,Tryz.ntmps157;go_wp2;obtain⟨q0,q1⟩:=zol w (.bool !s.toList.isEmpty) (.string s) 156;exact bodyPost_ret (v:=.agg #[.bool (true && !s.toList.isEmpty),.string s]) (by simp[results,Tryz.results157,go_sem,q0,q1]) rfl ⟨rfl,(blr).alloc nlr _⟩
def sg(b:Bool)(n:Nat):Int:=if b then -(n:Int)else n
theorem zf4(b:Bool)(n:Nat):zV (b && !(nS n).toList.isEmpty) (nS n)=intV (sg b n):=by
 unfold intV sg
 cases b with
 | false =>
  rw[if_neg (by decide),decide_eq_false (by omega)];rfl
 | true =>
  rw[if_pos rfl];rcases Nat.eq_zero_or_pos n with h | h
  · subst h;rw[zz (a:=nS 0) rfl];rfl
  · rw[zx h,decide_eq_true (by omega),Int.natAbs_neg];rfl
theorem ku(b:Bool)(n:Nat)(w:World):Calls Tryz.prog 195 #[.bool b,.string (nS n)] w (Ret (intV (sg b n)) w):=by
 rw[←zf4];exact zus b (nS n) w
theorem zpe(b:Bool)(n:Nat)(w:World):Calls Tryz.prog 157 #[.bool b,.string (nS n)] w (Ret (intV (sg b n)) w):=by
 rw[←zf4];exact zt7 b (nS n) w
theorem zjk(z:Int):intV z=zV (decide (z<0)) (nS z.natAbs):=rfl
theorem zoy{z:Int}(h:z.natAbs<256 ^ 128):jz (decide (z<0)) (nS z.natAbs)=true:=by
 unfold jz;rw[zj.2 h,Bool.true_and];by_cases hz:z<0
 · rw[zx (by omega),Bool.and_false];rfl
 · rw[decide_eq_false hz];rfl
def Bx2(W:World)(B:Nat)(x y:Value)(T:TypeId):Prop:=W.heap[B]? =some (.cells #[x,y] T (0,0))
theorem Bx2.new(W:World)(x y:Value)(T:TypeId):Bx2 (W.alloc (.cells #[x,y] T)) W.heap.size x y T:=heap_alloc_new _ _
theorem Bx2.kept{W W':World}{K B:Nat}{x y:Value}{T:TypeId}(h:Bx2 W B x y T)(hb:Below K W W')(hB:B<K):Bx2 W' B x y T:=(hb.block B hB).trans h
theorem Bx2.lt{W:World}{B:Nat}{x y:Value}{T:TypeId}(h:Bx2 W B x y T):B<W.heap.size:=zn h
theorem Bx2.next{W W':World}{B:Nat}{x y:Value}{T:TypeId}(h:Bx2 W B x y T)(hb:Below W.heap.size W W'):Bx2 W' B x y T:=h.kept hb h.lt
theorem Bx2.c0{W:World}{B:Nat}{x y:Value}{T:TypeId}(h:Bx2 W B x y T):W.cell? ⟨B,0,none⟩=some x:=by rw[Lib.cell_of_heap h];rfl
theorem Bx2.c1{W:World}{B:Nat}{x y:Value}{T:TypeId}(h:Bx2 W B x y T):W.cell? ⟨B,1,none⟩=some y:=by rw[Lib.cell_of_heap h];rfl
theorem Bx2.f0{W:World}{B:Nat}{x y:Value}{T:TypeId}(h:Bx2 W B x y T):W.frozen? ⟨B,0,none⟩=false:=Lib.frozen_of_heap h 0
theorem Bx2.f1{W:World}{B:Nat}{x y:Value}{T:TypeId}(h:Bx2 W B x y T):W.frozen? ⟨B,1,none⟩=false:=Lib.frozen_of_heap h 1
theorem Bx2.set2{W:World}{B:Nat}{x y u v:Value}{T:TypeId}(h:Bx2 W B x y T):Bx2 ((W.setCell ⟨B,0,none⟩ u).setCell ⟨B,1,none⟩ v) B u v T:=zl (zl h u) v
theorem zeg(n:Nat)(hn:n<256 ^ 128)(w:World):Calls Tryz.prog 132 #[.string (nS n)] w (Ret (intV n) w):=by
 have HV:=Hq (zh (nS n) (by have:=ze.2 hn;omega));rw[zj.2 hn]at HV;have HM:=Hq (ku false n);obtain⟨s,hs⟩:=nm (nS n);have HI:=Hq (show intV (sg false n)=.agg #[.bool false,.string s]from by rw[←zf4,←hs];rfl);rw[HI.out]at HM;have HG:=Hq (show intV (n:Int)=.agg #[.bool false,.string s]from HI.out);rw[hs]at HV HM;rw[hs,HG.out];clear hs hn;go_enter Tryz.func132,Tryz.ntmps132;go_wp2_with fail;refine(HV.out _).mono ?_;rintro e w1 ⟨rfl,rfl⟩;go_wp2_with fail;refine(HM.out _).mono ?_;rintro e w1 ⟨rfl,hb1⟩;have hX:=(Bx2.new w (.bool false) (.string ⟨#[]⟩) 156).next hb1;have HB:=Hq (((Below.refl w.heap.size w).alloc nlr (.cells #[.bool false,.string ⟨#[]⟩] 156)).trans (hb1.mono (by simp)));have HX:=Hq hX;have c0:=hX.c0;have c1:=hX.c1;have f0:=hX.f0;have f1:=hX.f1;clear hX hb1;go_wp2;have hY:=HX.out.set2 (u:=.bool false) (v:=.string s);have q0:=hY.c0;have q1:=hY.c1;exact bodyPost_ret (v:=.agg #[.bool false,.string s]) (by simp[results,Tryz.results132,go_sem,q0,q1]) rfl ⟨rfl,(HB.out.setCell (p:=⟨w.heap.size,0,none⟩) nlr _).setCell (p:=⟨w.heap.size,1,none⟩) nlr _⟩
theorem zt8(n:Nat)(hn:n<256 ^ 128)(w:World):Calls Tryz.prog 105 #[.string (nS n)] w (Ret (intV n) w):=by
 have HV:=Hq (zo (nS n) (by have:=ze.2 hn;omega));rw[zj.2 hn]at HV;have HM:=Hq (zpe false n);obtain⟨s,hs⟩:=nm (nS n);have HI:=Hq (show intV (sg false n)=.agg #[.bool false,.string s]from by rw[←zf4,←hs];rfl);rw[HI.out]at HM;have HG:=Hq (show intV (n:Int)=.agg #[.bool false,.string s]from HI.out);rw[hs]at HV HM;rw[hs,HG.out];clear hs hn;go_enter Tryz.func105,Tryz.ntmps105;go_wp2_with fail;refine(HV.out _).mono ?_;rintro e w1 ⟨rfl,rfl⟩;go_wp2_with fail;refine(HM.out _).mono ?_;rintro e w1 ⟨rfl,hb1⟩;have hX:=(Bx2.new w (.bool false) (.string ⟨#[]⟩) 156).next hb1;have HB:=Hq (((Below.refl w.heap.size w).alloc nlr (.cells #[.bool false,.string ⟨#[]⟩] 156)).trans (hb1.mono (by simp)));have HX:=Hq hX;have c0:=hX.c0;have c1:=hX.c1;have f0:=hX.f0;have f1:=hX.f1;clear hX hb1;go_wp2;have hY:=HX.out.set2 (u:=.bool false) (v:=.string s);have q0:=hY.c0;have q1:=hY.c1;exact bodyPost_ret (v:=.agg #[.bool false,.string s]) (by simp[results,Tryz.results105,go_sem,q0,q1]) rfl ⟨rfl,(HB.out.setCell (p:=⟨w.heap.size,0,none⟩) nlr _).setCell (p:=⟨w.heap.size,1,none⟩) nlr _⟩
theorem zvx(n:Nat)(hn:n<1000)(w:World):Calls Tryz.prog 254 #[.int .i64 n] w (Ret (intV n) w):=by
 have HM:=Hq (ku false n);have HO:=Hq (yz n (by omega));obtain⟨s,hs⟩:=nm (nS n);have HI:=Hq (show intV (sg false n)=.agg #[.bool false,.string s]from by rw[←zf4,←hs];rfl);rw[HI.out]at HM;have HG:=Hq (show intV (n:Int)=.agg #[.bool false,.string s]from HI.out);rw[show bstr (encN n)=s from hs]at HO;rw[hs]at HM;rw[HG.out];clear hs;have h0:(0:Int)≤(n:Int):=by omega
 have hw:IntKind.u64.wrap (n:Int)=(n:Int):=js n (by omega);go_enter Tryz.func254,Tryz.ntmps254;go_wp2_with fail;refine(HO.out _).mono ?_;rintro e w1 ⟨rfl,hb1⟩;have HX1:=Hq ((Bx2.new w (.bool false) (.string ⟨#[]⟩) 156).next hb1);have HB1:=Hq (((Below.refl w.heap.size w).alloc nlr (.cells #[.bool false,.string ⟨#[]⟩] 156)).trans (hb1.mono (by simp)));clear hb1;go_wp2_with fail;refine(HM.out _).mono ?_;rintro e w2 ⟨rfl,hb2⟩;have hX:=HX1.out.next hb2;have HB:=bt HB1 hb2;have HX:=Hq hX;have c0:=hX.c0;have c1:=hX.c1;have f0:=hX.f0;have f1:=hX.f1;clear hX hb2;go_wp2;have hY:=HX.out.set2 (u:=.bool false) (v:=.string s);have q0:=hY.c0;have q1:=hY.c1;exact bodyPost_ret (v:=.agg #[.bool false,.string s]) (by simp[results,Tryz.results254,go_sem,q0,q1]) rfl ⟨rfl,(HB.out.setCell (p:=⟨w.heap.size,0,none⟩) nlr _).setCell (p:=⟨w.heap.size,1,none⟩) nlr _⟩
theorem zci(z:Int)(h:z.natAbs<256 ^ 128)(w:World):Calls Tryz.prog 224 #[intV z] w (Ret (.bool true) w):=by
 have:=zli (decide (z<0)) (nS z.natAbs) (by have:=ze.2 h;omega) w;rwa[zoy h]at this
theorem zcz(x y:Int)(hx:x.natAbs<256 ^ 128)(hy:y.natAbs<256 ^ 128)(w:World):Calls Tryz.prog 277 #[intV x,intV y] w (Ret (.bool true) w):=by
 have HV1:=Hq (zci x hx);have HV2:=Hq (zci y hy);unfold intV zV at *;obtain⟨a,ha⟩:=nm (decide (x<0));obtain⟨b,hb⟩:=nm (decide (y<0));obtain⟨s,hs⟩:=nm (nS x.natAbs);obtain⟨t,ht⟩:=nm (nS y.natAbs);rw[ha,hs]at HV1;rw[hb,ht]at HV2;rw[ha,hs,hb,ht];clear ha hs hb ht hx hy;go_enter Tryz.func277,Tryz.ntmps277;go_wp2_with fail;refine(HV1.out _).mono ?_;rintro e w1 ⟨rfl,hb1⟩;have hY0:Bx2 ((w.alloc (.cells #[.bool a,.string s] 156)).alloc (.cells #[.bool b,.string t] 156)) (w.heap.size+1) (.bool b) (.string t) 156:=(by have:=Bx2.new (w.alloc (.cells #[.bool a,.string s] 156)) (.bool b) (.string t) 156;rwa[World.size_alloc]at this);have HB0:=Hq (((Below.refl w.heap.size w).alloc nlr (.cells #[.bool a,.string s] 156)).alloc (by simp) (.cells #[.bool b,.string t] 156));have hY1:=hY0.next hb1;have HB1:=bt HB0 hb1;have c0:=hY1.c0;have c1:=hY1.c1;clear hb1 hY0 hY1;go_wp2_with fail;refine(HV2.out _).mono ?_;rintro e w2 ⟨rfl,hb2⟩;have HB2:=bt HB1 hb2;clear hb2;go_wp2;go_ret;exact⟨rfl,HB2.out⟩
theorem zxd(z:Int)(hz:z.natAbs<256 ^ 128)(w:World):Calls Tryz.prog 279 #[intV z] w (Ret (intV (-z)) w):=by
 have HV:=Hq (zci z hz);have HM:=Hq (ku (!decide (z<0)) z.natAbs);have HE:=Hq (show sg (!decide (z<0)) z.natAbs = -z from by
  unfold sg;by_cases h:z<0
  · rw[decide_eq_true h];simp;omega
  · rw[decide_eq_false h];simp;omega)
 rw[HE.out]at HM;unfold intV zV at *;obtain⟨a,ha⟩:=nm (decide (z<0));obtain⟨s,hs⟩:=nm (nS z.natAbs);obtain⟨b,hb⟩:=nm (decide (-z<0));obtain⟨t,ht⟩:=nm (nS (-z).natAbs);rw[ha,hs]at HV;rw[ha,hs,hb,ht]at HM;rw[ha,hs,hb,ht];clear ha hs hb ht hz HE;go_enter Tryz.func279,Tryz.ntmps279;go_wp2_with fail;refine(HV.out _).mono ?_;rintro e w1 ⟨rfl,hb1⟩;have HB0:=Hq (((Below.refl w.heap.size w).alloc nlr (.cells #[.bool a,.string s] 156)).alloc (by simp) (.cells #[.bool false,.string ⟨#[]⟩] 156));have hX1:=((Bx2.new w (.bool a) (.string s) 156).kept ((blr).alloc nlr (.cells #[.bool false,.string ⟨#[]⟩] 156)) (by simp)).next hb1;have hY0:Bx2 ((w.alloc (.cells #[.bool a,.string s] 156)).alloc (.cells #[.bool false,.string ⟨#[]⟩] 156)) (w.heap.size+1) (.bool false) (.string ⟨#[]⟩) 156:=by
  have:=Bx2.new (w.alloc (.cells #[.bool a,.string s] 156)) (.bool false) (.string ⟨#[]⟩) 156;rwa[World.size_alloc]at this
 have HY1:=Hq (hY0.next hb1);have HB1:=bt HB0 hb1;have c0:=hX1.c0;have c1:=hX1.c1;clear hb1 hY0 hX1;go_wp2_with fail;refine(HM.out _).mono ?_;rintro e w2 ⟨rfl,hb2⟩;have hY2:=HY1.out.next hb2;have HY2:=Hq hY2;have HB2:=bt HB1 hb2;have d0:=hY2.c0;have d1:=hY2.c1;have f0:=hY2.f0;have f1:=hY2.f1;clear hb2 hY2;go_wp2;have hY:=HY2.out.set2 (u:=.bool b) (v:=.string t);have q0:=hY.c0;have q1:=hY.c1;exact bodyPost_ret (v:=.agg #[.bool b,.string t]) (by simp[results,Tryz.results279,go_sem,q0,q1]) rfl ⟨rfl,(HB2.out.setCell (p:=⟨w.heap.size+1,0,none⟩) (by simp) _).setCell (p:=⟨w.heap.size+1,1,none⟩) (by simp) _⟩
set_option maxRecDepth 100000
set_option maxHeartbeats 1000000
theorem zi6(x y:Nat)(hx:x<18446744073709551616)(hy:y<18446744073709551616)(hp:x * y<18446744073709551616)(w:World):Calls Tryz.prog 278 #[.string (nS x),.string (nS y)] w (Ret (.tuple #[.string (nS (x * y)),.int .i64 0]) w):=by
 have hz1:=zk hx;have hz2:=zk hy;have HV1:=Hq (zw hx);have HV2:=Hq (zw hy);have HN1:=Hq (xu x hx);have HN2:=Hq (xu y hy);have HQ:=Hq (Tryz.bits_Mul64 x y hx hy);have HO:=Hq (yz (x * y) hp);have hh:x * y / 18446744073709551616=0:=Nat.div_eq_of_lt hp;have hl:x * y%18446744073709551616=x * y:=Nat.mod_eq_of_lt hp;obtain⟨p,hpe⟩:=nm (x * y);rw[hpe]at hh hl HO HQ;rw[hh,hl]at HQ;rw[hpe];have HH:=Hq hh;have HL:=Hq hl;have HPE:=Hq hpe;obtain⟨s,hs⟩:=nm (nS x);obtain⟨t,ht⟩:=nm (nS y);rw[hs]at hz1 HV1 HN1⊢;rw[ht]at hz2 HV2 HN2⊢;have i1:(s.size:Int)≤8:=by omega
 have i2:(t.size:Int)≤8:=by omega
 clear hs ht hx hy hp hpe hh hl;go_enter Tryz.func278,Tryz.ntmps278;go_wp2_with fail;refine(zh s (by omega) _).mono ?_;rintro e w1 ⟨rfl,rfl⟩;rw[HV1.out];go_wp2_with fail;refine(zh t (by omega) _).mono ?_;rintro e w1 ⟨rfl,rfl⟩;rw[HV2.out];go_wp2_with fail;refine(HN1.out _).mono ?_;rintro e w1 ⟨rfl,rfl⟩;go_wp2_with fail;refine(HN2.out _).mono ?_;rintro e w1 ⟨rfl,rfl⟩;go_wp2_with fail;refine(HQ.out _).mono ?_;rintro e w1 ⟨rfl,rfl⟩;go_wp2_with fail;refine(HO.out _).mono ?_;rintro e w3 ⟨rfl,hb3⟩;have HB3:=Hq hb3;clear hb3;go_wp2;go_ret2;exact⟨rfl,HB3.out⟩
theorem zcy{x y:Nat}(hx:x<256 ^ 128)(hy:y<256 ^ 128):ncmp (nS x) (nS y)=cmpI x y:=by
 unfold ncmp;rw[zj.2 hx,zj.2 hy,Bool.and_true,if_pos rfl,xl]
theorem Bx2.other{W:World}{B C k:Nat}{x y:Value}{T:TypeId}(h:Bx2 W B x y T)(hne:B≠C)(v:Value):Bx2 (W.setCell ⟨C,k,none⟩ v) B x y T:=(heap_setCell_other _ _ _ _ hne).trans h
theorem zxe(x y:Int)(hx:x.natAbs<18446744073709551616)(hy:y.natAbs<18446744073709551616)(hp:(x * y).natAbs<18446744073709551616)(w:World):Calls Tryz.prog 256 #[intV x,intV y] w (Ret (.tuple #[intV (x * y),.int .i64 0]) w):=by
 have HBO:=Hq (zcz x y (zg hx) (zg hy));have hab:x.natAbs * y.natAbs=(x * y).natAbs:=Int.natAbs_mul x y▸rfl;have HMM:=Hq (zi6 x.natAbs y.natAbs hx hy (by rw[hab];exact hp));rw[hab]at HMM;have HMD:=Hq (ku (decide (x<0) != decide (y<0)) (x * y).natAbs);have HE:=Hq (show intV (sg (decide (x<0) != decide (y<0)) (x * y).natAbs)=intV (x * y)from by
  congr 1;unfold sg;by_cases h1:x<0
  · by_cases h2:y<0
    · have:=Int.mul_pos_of_neg_of_neg h1 h2;rw[decide_eq_true h1,decide_eq_true h2];simp;omega
    · have:=Int.mul_nonpos_of_nonpos_of_nonneg (Int.le_of_lt h1) (show 0≤y by omega);rw[decide_eq_true h1,decide_eq_false h2];simp;omega
  · by_cases h2:y<0
    · have:=Int.mul_nonpos_of_nonneg_of_nonpos (show 0≤x by omega) (Int.le_of_lt h2);rw[decide_eq_false h1,decide_eq_true h2];simp;omega
    · have:=Int.mul_nonneg (show 0≤x by omega) (show 0≤y by omega);rw[decide_eq_false h1,decide_eq_false h2];simp
      omega)
 rw[HE.out]at HMD;clear HE;unfold intV zV at *;obtain⟨a,ha⟩:=nm (decide (x<0));obtain⟨b,hb⟩:=nm (decide (y<0));obtain⟨s,hs⟩:=nm (nS x.natAbs);obtain⟨t,ht⟩:=nm (nS y.natAbs);obtain⟨c,hc⟩:=nm (decide (x * y<0));obtain⟨r,hr⟩:=nm (nS (x * y).natAbs);rw[ha,hs,hb,ht]at HBO;rw[hs,ht,hr]at HMM;rw[ha,hb,hr,hc]at HMD;rw[ha,hs,hb,ht,hc,hr];clear ha hs hb ht hc hr hab hx hy hp;go_enter Tryz.func256,Tryz.ntmps256;go_wp2_with fail;obtain⟨W0,hW0⟩:=nm (((w.alloc (.cells #[.bool a,.string s] 156)).alloc (.cells #[.bool b,.string t] 156)).alloc (.cells #[.bool false,.string ⟨#[]⟩] 156));have HX0:=Hq (show Bx2 W0 w.heap.size (.bool a) (.string s) 156 from by
  rw[←hW0]
  exact((Bx2.new w (.bool a) (.string s) 156).kept ((blr).alloc nlr _) (by simp)).kept ((blr).alloc nlr _) (by simp;omega))
 have HY0:=Hq (show Bx2 W0 (w.heap.size+1) (.bool b) (.string t) 156 from by
  rw[←hW0];have:=Bx2.new (w.alloc (.cells #[.bool a,.string s] 156)) (.bool b) (.string t) 156;rw[World.size_alloc]at this
  exact this.kept ((blr).alloc nlr _) (by simp))
 have HZ0:=Hq (show Bx2 W0 (w.heap.size+1+1) (.bool false) (.string ⟨#[]⟩) 156 from by
  rw[←hW0];have:=Bx2.new ((w.alloc (.cells #[.bool a,.string s] 156)).alloc (.cells #[.bool b,.string t] 156)) (.bool false) (.string ⟨#[]⟩) 156;rw[World.size_alloc,World.size_alloc]at this
  exact this)
 have HB0:=Hq (show Below w.heap.size w W0 from by
  rw[←hW0]
  exact(((Below.refl w.heap.size w).alloc nlr _).alloc (by simp) _).alloc (by simp;omega) _)
 rw[hW0];clear hW0;refine(HBO.out _).mono ?_;rintro e w1 ⟨rfl,hb1⟩;have hX1:=HX0.out.next hb1;have hY1:=HY0.out.next hb1;have hZ1:=HZ0.out.next hb1;have HX1:=Hq hX1;have HY1:=Hq hY1;have HZ1:=Hq hZ1;have HB1:=bt HB0 hb1;have x0:=hX1.c0;have x1:=hX1.c1;have y0:=hY1.c0;have y1:=hY1.c1;have xf0:=hX1.f0;have xf1:=hX1.f1;have yf0:=hY1.f0;have yf1:=hY1.f1;have z0:=hZ1.c0;have z1:=hZ1.c1;have zf0:=hZ1.f0;have zf1:=hZ1.f1;clear hb1 hX1 hY1 hZ1;go_wp2_with fail;refine(HMM.out _).mono ?_;rintro e w2 ⟨rfl,hb2⟩;clear x0 x1 y0 y1 xf0 xf1 yf0 yf1 z0 z1 zf0 zf1;have hX2:=HX1.out.next hb2;have hY2:=HY1.out.next hb2;have hZ2:=HZ1.out.next hb2;have HX2:=Hq hX2;have HY2:=Hq hY2;have HZ2:=Hq hZ2;have HB2:=bt HB1 hb2;have x0:=hX2.c0;have x1:=hX2.c1;have y0:=hY2.c0;have y1:=hY2.c1;have xf0:=hX2.f0;have xf1:=hX2.f1;have yf0:=hY2.f0;have yf1:=hY2.f1;have z0:=hZ2.c0;have z1:=hZ2.c1;have zf0:=hZ2.f0;have zf1:=hZ2.f1;clear hb2 hX2 hY2 hZ2;go_wp2_with fail;refine(HMD.out _).mono ?_;rintro e w3 ⟨rfl,hb3⟩;clear x0 x1 y0 y1 xf0 xf1 yf0 yf1 z0 z1 zf0 zf1;have hX3:=HX2.out.next hb3;have hY3:=HY2.out.next hb3;have hZ3:=HZ2.out.next hb3;have HX3:=Hq hX3;have HY3:=Hq hY3;have HZ3:=Hq hZ3;have HB3:=bt HB2 hb3;have x0:=hX3.c0;have x1:=hX3.c1;have y0:=hY3.c0;have y1:=hY3.c1;have xf0:=hX3.f0;have xf1:=hX3.f1;have yf0:=hY3.f0;have yf1:=hY3.f1;have z0:=hZ3.c0;have z1:=hZ3.c1;have zf0:=hZ3.f0;have zf1:=hZ3.f1;clear hb3 hX3 hY3 hZ3;go_wp2;have hZz:=HZ3.out.set2 (u:=.bool c) (v:=.string r);have q0:=hZz.c0;have q1:=hZz.c1;exact bodyPost_ret (v:=.tuple #[.agg #[.bool c,.string r],.int .i64 0]) (by simp[results,Tryz.results256,go_sem,q0,q1]) rfl ⟨rfl,(HB3.out.setCell (p:=⟨w.heap.size+1+1,0,none⟩) (by simp;omega) _).setCell (p:=⟨w.heap.size+1+1,1,none⟩) (by simp;omega) _⟩
theorem zwg{x y:Int}(h:(decide (x<0)==decide (y<0))=true):intV (sg (decide (x<0)) (x.natAbs+y.natAbs))=intV (x+y):=by
 congr 1;unfold sg;by_cases h1:x<0
 · by_cases h2:y<0
   · rw[decide_eq_true h1];simp;omega
   · rw[decide_eq_true h1,decide_eq_false h2]at h;cases h
 · by_cases h2:y<0
   · rw[decide_eq_false h1,decide_eq_true h2]at h;cases h
   · rw[decide_eq_false h1];simp;omega
theorem zqx{x y:Int}(h:(decide (x<0)==decide (y<0))=false)(hge:y.natAbs≤x.natAbs):intV (sg (decide (x<0)) (x.natAbs - y.natAbs))=intV (x+y):=by
 congr 1;unfold sg;by_cases h1:x<0
 · by_cases h2:y<0
   · rw[decide_eq_true h1,decide_eq_true h2]at h;cases h
   · rw[decide_eq_true h1];simp;omega
 · by_cases h2:y<0
   · rw[decide_eq_false h1];simp;omega
   · rw[decide_eq_false h1,decide_eq_false h2]at h;cases h
theorem xm{n:Nat}(h:n<256 ^ 100):n<256 ^ 128:=Nat.lt_of_lt_of_le h (Nat.pow_le_pow_right (by omega) (by omega))
theorem zyx{n:Nat}(h:n<18446744073709551616):n<256 ^ 100:=Nat.lt_of_lt_of_le (show n<256 ^ 8 from h) (Nat.pow_le_pow_right (by omega) (by omega))
theorem zzs{m n:Nat}(h:m<256 ^ 100)(k:n<256 ^ 100):m+n<256 ^ 128:=by
 have h2:(256:Nat) ^ 100 * 2≤256 ^ 128:=by decide +kernel
 omega
theorem zjj(x y:Int)(hx:x.natAbs<256 ^ 100)(hy:y.natAbs<256 ^ 100)(hsg:(decide (x<0)==decide (y<0))=true)(w:World):Calls Tryz.prog 258 #[intV x,intV y] w (Ret (.tuple #[intV (x+y),.int .i64 0]) w):=by
 have HBO:=Hq (zcz x y (xm hx) (xm hy));have hz:x.natAbs+y.natAbs<256 ^ 128:=zzs hx hy;have HMM:=Hq (zrq x.natAbs y.natAbs (xm hx) (xm hy));unfold fitR at HMM;rw[if_pos hz]at HMM;have HMD:=Hq (ku (decide (x<0)) (x.natAbs+y.natAbs));have HE:=zwg hsg;rw[HE]at HMD;have HS:=Hq hsg;clear HE hsg hz;unfold intV zV at *;obtain⟨a,ha⟩:=nm (decide (x<0));obtain⟨b,hb⟩:=nm (decide (y<0));obtain⟨s,hs⟩:=nm (nS x.natAbs);obtain⟨t,ht⟩:=nm (nS y.natAbs);obtain⟨c,hc⟩:=nm (decide (x+y<0));obtain⟨r,hr⟩:=nm (nS (x+y).natAbs);obtain⟨q,hq⟩:=nm (nS (x.natAbs+y.natAbs));rw[ha,hs,hb,ht]at HBO;rw[hs,ht,hq]at HMM;rw[ha,hq,hr,hc]at HMD;rw[ha,hb]at HS;rw[ha,hs,hb,ht,hc,hr];have hsg:=HS.out;clear ha hs hb ht hc hr hq hx hy;go_enter Tryz.func258,Tryz.ntmps258;go_wp2_with fail;obtain⟨W0,hW0⟩:=nm (((w.alloc (.cells #[.bool a,.string s] 156)).alloc (.cells #[.bool b,.string t] 156)).alloc (.cells #[.bool false,.string ⟨#[]⟩] 156));have HX0:=Hq (show Bx2 W0 w.heap.size (.bool a) (.string s) 156 from by
  rw[←hW0]
  exact((Bx2.new w (.bool a) (.string s) 156).kept ((blr).alloc nlr _) (by simp)).kept ((blr).alloc nlr _) (by simp;omega))
 have HY0:=Hq (show Bx2 W0 (w.heap.size+1) (.bool b) (.string t) 156 from by
  rw[←hW0];have:=Bx2.new (w.alloc (.cells #[.bool a,.string s] 156)) (.bool b) (.string t) 156;rw[World.size_alloc]at this
  exact this.kept ((blr).alloc nlr _) (by simp))
 have HZ0:=Hq (show Bx2 W0 (w.heap.size+1+1) (.bool false) (.string ⟨#[]⟩) 156 from by
  rw[←hW0];have:=Bx2.new ((w.alloc (.cells #[.bool a,.string s] 156)).alloc (.cells #[.bool b,.string t] 156)) (.bool false) (.string ⟨#[]⟩) 156;rw[World.size_alloc,World.size_alloc]at this
  exact this)
 have HB0:=Hq (show Below w.heap.size w W0 from by
  rw[←hW0]
  exact(((Below.refl w.heap.size w).alloc nlr _).alloc (by simp) _).alloc (by simp;omega) _)
 rw[hW0];clear hW0;refine(HBO.out _).mono ?_;rintro e w1 ⟨rfl,hb1⟩;have hX1:=HX0.out.next hb1;have hY1:=HY0.out.next hb1;have hZ1:=HZ0.out.next hb1;have HX1:=Hq hX1;have HY1:=Hq hY1;have HZ1:=Hq hZ1;have HB1:=bt HB0 hb1;have x0:=hX1.c0;have x1:=hX1.c1;have y0:=hY1.c0;have y1:=hY1.c1;have xf0:=hX1.f0;have xf1:=hX1.f1;have yf0:=hY1.f0;have yf1:=hY1.f1;have z0:=hZ1.c0;have z1:=hZ1.c1;have zf0:=hZ1.f0;have zf1:=hZ1.f1;clear hb1 hX1 hY1 hZ1;go_wp2_with fail;refine(HMM.out _).mono ?_;rintro e w2 ⟨rfl,hb2⟩;clear x0 x1 y0 y1 xf0 xf1 yf0 yf1 z0 z1 zf0 zf1;have hX2:=HX1.out.next hb2;have hY2:=HY1.out.next hb2;have hZ2:=HZ1.out.next hb2;have HX2:=Hq hX2;have HY2:=Hq hY2;have HZ2:=Hq hZ2;have HB2:=bt HB1 hb2;have x0:=hX2.c0;have x1:=hX2.c1;have y0:=hY2.c0;have y1:=hY2.c1;have xf0:=hX2.f0;have xf1:=hX2.f1;have yf0:=hY2.f0;have yf1:=hY2.f1;have z0:=hZ2.c0;have z1:=hZ2.c1;have zf0:=hZ2.f0;have zf1:=hZ2.f1;clear hb2 hX2 hY2 hZ2;go_wp2_with fail;refine(HMD.out _).mono ?_;rintro e w3 ⟨rfl,hb3⟩;clear x0 x1 y0 y1 xf0 xf1 yf0 yf1 z0 z1 zf0 zf1;have hX3:=HX2.out.next hb3;have hY3:=HY2.out.next hb3;have hZ3:=HZ2.out.next hb3;have HX3:=Hq hX3;have HY3:=Hq hY3;have HZ3:=Hq hZ3;have HB3:=bt HB2 hb3;have x0:=hX3.c0;have x1:=hX3.c1;have y0:=hY3.c0;have y1:=hY3.c1;have xf0:=hX3.f0;have xf1:=hX3.f1;have yf0:=hY3.f0;have yf1:=hY3.f1;have z0:=hZ3.c0;have z1:=hZ3.c1;have zf0:=hZ3.f0;have zf1:=hZ3.f1;clear hb3 hX3 hY3 hZ3;go_wp2;have hZz:=HZ3.out.set2 (u:=.bool c) (v:=.string r);have q0:=hZz.c0;have q1:=hZz.c1;exact bodyPost_ret (v:=.tuple #[.agg #[.bool c,.string r],.int .i64 0]) (by simp[results,Tryz.results258,go_sem,q0,q1]) rfl ⟨rfl,(HB3.out.setCell (p:=⟨w.heap.size+1+1,0,none⟩) (by simp;omega) _).setCell (p:=⟨w.heap.size+1+1,1,none⟩) (by simp;omega) _⟩
theorem zmq(x y:Int)(hx:x.natAbs<256 ^ 100)(hy:y.natAbs<256 ^ 100)(hsg:(decide (x<0)==decide (y<0))=false)(hge:y.natAbs≤x.natAbs)(w:World):Calls Tryz.prog 258 #[intV x,intV y] w (Ret (.tuple #[intV (x+y),.int .i64 0]) w):=by
 have HBO:=Hq (zcz x y (xm hx) (xm hy));have HCM:=Hq (jw (nS x.natAbs) (nS y.natAbs) (by have:=ze.2 hx;omega) (by have:=ze.2 hy;omega));rw[zcy (xm hx) (xm hy)]at HCM;have HMM:=Hq (zao x.natAbs y.natAbs (xm hx) (xm hy) hge);have HMD:=Hq (ku (decide (x<0)) (x.natAbs - y.natAbs));have HE:=zqx hsg hge;rw[HE]at HMD;have HS:=Hq hsg;have hcg:=jl hge;obtain⟨k,hk⟩:=nm (cmpI x.natAbs y.natAbs);rw[hk]at HCM hcg;clear HE hsg hge hk;unfold intV zV at *;obtain⟨a,ha⟩:=nm (decide (x<0));obtain⟨b,hb⟩:=nm (decide (y<0));obtain⟨s,hs⟩:=nm (nS x.natAbs);obtain⟨t,ht⟩:=nm (nS y.natAbs);obtain⟨c,hc⟩:=nm (decide (x+y<0));obtain⟨r,hr⟩:=nm (nS (x+y).natAbs);obtain⟨q,hq⟩:=nm (nS (x.natAbs - y.natAbs));rw[ha,hs,hb,ht]at HBO;rw[hs,ht]at HCM;rw[hs,ht,hq]at HMM;rw[ha,hq,hr,hc]at HMD;rw[ha,hb]at HS;rw[ha,hs,hb,ht,hc,hr];have hsg:=HS.out;clear ha hs hb ht hc hr hq hx hy;go_enter Tryz.func258,Tryz.ntmps258;go_wp2_with fail;obtain⟨W0,hW0⟩:=nm (((w.alloc (.cells #[.bool a,.string s] 156)).alloc (.cells #[.bool b,.string t] 156)).alloc (.cells #[.bool false,.string ⟨#[]⟩] 156));have HX0:=Hq (show Bx2 W0 w.heap.size (.bool a) (.string s) 156 from by
  rw[←hW0]
  exact((Bx2.new w (.bool a) (.string s) 156).kept ((blr).alloc nlr _) (by simp)).kept ((blr).alloc nlr _) (by simp;omega))
 have HY0:=Hq (show Bx2 W0 (w.heap.size+1) (.bool b) (.string t) 156 from by
  rw[←hW0];have:=Bx2.new (w.alloc (.cells #[.bool a,.string s] 156)) (.bool b) (.string t) 156;rw[World.size_alloc]at this
  exact this.kept ((blr).alloc nlr _) (by simp))
 have HZ0:=Hq (show Bx2 W0 (w.heap.size+1+1) (.bool false) (.string ⟨#[]⟩) 156 from by
  rw[←hW0];have:=Bx2.new ((w.alloc (.cells #[.bool a,.string s] 156)).alloc (.cells #[.bool b,.string t] 156)) (.bool false) (.string ⟨#[]⟩) 156;rw[World.size_alloc,World.size_alloc]at this
  exact this)
 have HB0:=Hq (show Below w.heap.size w W0 from by
  rw[←hW0]
  exact(((Below.refl w.heap.size w).alloc nlr _).alloc (by simp) _).alloc (by simp;omega) _)
 rw[hW0];clear hW0;refine(HBO.out _).mono ?_;rintro e w1 ⟨rfl,hb1⟩;have hX1:=HX0.out.next hb1;have hY1:=HY0.out.next hb1;have hZ1:=HZ0.out.next hb1;have HX1:=Hq hX1;have HY1:=Hq hY1;have HZ1:=Hq hZ1;have HB1:=bt HB0 hb1;have x0:=hX1.c0;have x1:=hX1.c1;have y0:=hY1.c0;have y1:=hY1.c1;have xf0:=hX1.f0;have xf1:=hX1.f1;have yf0:=hY1.f0;have yf1:=hY1.f1;have z0:=hZ1.c0;have z1:=hZ1.c1;have zf0:=hZ1.f0;have zf1:=hZ1.f1;clear hb1 hX1 hY1 hZ1;go_wp2_with fail;refine(HCM.out _).mono ?_;rintro e w2 ⟨rfl,rfl⟩;go_wp2_with fail;refine(HMM.out _).mono ?_;rintro e w2 ⟨rfl,hb2⟩;clear x0 x1 y0 y1 xf0 xf1 yf0 yf1 z0 z1 zf0 zf1;have hX2:=HX1.out.next hb2;have hY2:=HY1.out.next hb2;have hZ2:=HZ1.out.next hb2;have HX2:=Hq hX2;have HY2:=Hq hY2;have HZ2:=Hq hZ2;have HB2:=bt HB1 hb2;have x0:=hX2.c0;have x1:=hX2.c1;have y0:=hY2.c0;have y1:=hY2.c1;have xf0:=hX2.f0;have xf1:=hX2.f1;have yf0:=hY2.f0;have yf1:=hY2.f1;have z0:=hZ2.c0;have z1:=hZ2.c1;have zf0:=hZ2.f0;have zf1:=hZ2.f1;clear hb2 hX2 hY2 hZ2;go_wp2_with fail;refine(HMD.out _).mono ?_;rintro e w3 ⟨rfl,hb3⟩;clear x0 x1 y0 y1 xf0 xf1 yf0 yf1 z0 z1 zf0 zf1;have hX3:=HX2.out.next hb3;have hY3:=HY2.out.next hb3;have hZ3:=HZ2.out.next hb3;have HX3:=Hq hX3;have HY3:=Hq hY3;have HZ3:=Hq hZ3;have HB3:=bt HB2 hb3;have x0:=hX3.c0;have x1:=hX3.c1;have y0:=hY3.c0;have y1:=hY3.c1;have xf0:=hX3.f0;have xf1:=hX3.f1;have yf0:=hY3.f0;have yf1:=hY3.f1;have z0:=hZ3.c0;have z1:=hZ3.c1;have zf0:=hZ3.f0;have zf1:=hZ3.f1;clear hb3 hX3 hY3 hZ3;go_wp2;have hZz:=HZ3.out.set2 (u:=.bool c) (v:=.string r);have q0:=hZz.c0;have q1:=hZz.c1;exact bodyPost_ret (v:=.tuple #[.agg #[.bool c,.string r],.int .i64 0]) (by simp[results,Tryz.results258,go_sem,q0,q1]) rfl ⟨rfl,(HB3.out.setCell (p:=⟨w.heap.size+1+1,0,none⟩) (by simp;omega) _).setCell (p:=⟨w.heap.size+1+1,1,none⟩) (by simp;omega) _⟩
theorem zmp(x y:Int)(hx:x.natAbs<256 ^ 100)(hy:y.natAbs<256 ^ 100)(hsg:(decide (x<0)==decide (y<0))=false)(hlt:x.natAbs<y.natAbs)(w:World):Calls Tryz.prog 258 #[intV x,intV y] w (Ret (.tuple #[intV (x+y),.int .i64 0]) w):=by
 have HBO:=Hq (zcz x y (xm hx) (xm hy));have HCM:=Hq (jw (nS x.natAbs) (nS y.natAbs) (by have:=ze.2 hx;omega) (by have:=ze.2 hy;omega));rw[zcy (xm hx) (xm hy),qh hlt]at HCM;have HMM:=Hq (zao y.natAbs x.natAbs (xm hy) (xm hx) (Nat.le_of_lt hlt));have HMD:=Hq (ku (decide (y<0)) (y.natAbs - x.natAbs));have HE:=zqx (x:=y) (y:=x) (by rw[Bool.beq_comm];exact hsg) (Nat.le_of_lt hlt);rw[HE,Int.add_comm]at HMD;have HS:=Hq hsg;clear HE hsg hlt;unfold intV zV at *;obtain⟨a,ha⟩:=nm (decide (x<0));obtain⟨b,hb⟩:=nm (decide (y<0));obtain⟨s,hs⟩:=nm (nS x.natAbs);obtain⟨t,ht⟩:=nm (nS y.natAbs);obtain⟨c,hc⟩:=nm (decide (x+y<0));obtain⟨r,hr⟩:=nm (nS (x+y).natAbs);obtain⟨q,hq⟩:=nm (nS (y.natAbs - x.natAbs));rw[ha,hs,hb,ht]at HBO;rw[hs,ht]at HCM;rw[hs,ht,hq]at HMM;rw[hb,hq,hr,hc]at HMD;rw[ha,hb]at HS;rw[ha,hs,hb,ht,hc,hr];have hsg:=HS.out;clear ha hs hb ht hc hr hq hx hy;go_enter Tryz.func258,Tryz.ntmps258;go_wp2_with fail;obtain⟨W0,hW0⟩:=nm (((w.alloc (.cells #[.bool a,.string s] 156)).alloc (.cells #[.bool b,.string t] 156)).alloc (.cells #[.bool false,.string ⟨#[]⟩] 156));have HX0:=Hq (show Bx2 W0 w.heap.size (.bool a) (.string s) 156 from by
  rw[←hW0]
  exact((Bx2.new w (.bool a) (.string s) 156).kept ((blr).alloc nlr _) (by simp)).kept ((blr).alloc nlr _) (by simp;omega))
 have HY0:=Hq (show Bx2 W0 (w.heap.size+1) (.bool b) (.string t) 156 from by
  rw[←hW0];have:=Bx2.new (w.alloc (.cells #[.bool a,.string s] 156)) (.bool b) (.string t) 156;rw[World.size_alloc]at this
  exact this.kept ((blr).alloc nlr _) (by simp))
 have HZ0:=Hq (show Bx2 W0 (w.heap.size+1+1) (.bool false) (.string ⟨#[]⟩) 156 from by
  rw[←hW0];have:=Bx2.new ((w.alloc (.cells #[.bool a,.string s] 156)).alloc (.cells #[.bool b,.string t] 156)) (.bool false) (.string ⟨#[]⟩) 156;rw[World.size_alloc,World.size_alloc]at this
  exact this)
 have HB0:=Hq (show Below w.heap.size w W0 from by
  rw[←hW0]
  exact(((Below.refl w.heap.size w).alloc nlr _).alloc (by simp) _).alloc (by simp;omega) _)
 rw[hW0];clear hW0;refine(HBO.out _).mono ?_;rintro e w1 ⟨rfl,hb1⟩;have hX1:=HX0.out.next hb1;have hY1:=HY0.out.next hb1;have hZ1:=HZ0.out.next hb1;have HX1:=Hq hX1;have HY1:=Hq hY1;have HZ1:=Hq hZ1;have HB1:=bt HB0 hb1;have x0:=hX1.c0;have x1:=hX1.c1;have y0:=hY1.c0;have y1:=hY1.c1;have xf0:=hX1.f0;have xf1:=hX1.f1;have yf0:=hY1.f0;have yf1:=hY1.f1;have z0:=hZ1.c0;have z1:=hZ1.c1;have zf0:=hZ1.f0;have zf1:=hZ1.f1;clear hb1 hX1 hY1 hZ1;go_wp2_with fail;refine(HCM.out _).mono ?_;rintro e w2 ⟨rfl,rfl⟩;go_wp2_with fail;clear x0 x1 y0 y1 xf0 xf1 yf0 yf1 z0 z1 zf0 zf1;obtain⟨wS,hwS⟩:=nm (((((w1.setCell ⟨w.heap.size,0,none⟩ (.bool b)).setCell ⟨w.heap.size,1,none⟩ (.string t)).setCell ⟨w.heap.size+1,0,none⟩ (.bool a)).setCell ⟨w.heap.size+1,1,none⟩ (.string s)));have HX2:=Hq (show Bx2 wS w.heap.size (.bool b) (.string t) 156 from by rw[←hwS];exact(HX1.out.set2.other (by omega) _).other (by omega) _);have HY2:=Hq (show Bx2 wS (w.heap.size+1) (.bool a) (.string s) 156 from by rw[←hwS];exact((HY1.out.other (by omega) _).other (by omega) _).set2);have HZ2:=Hq (show Bx2 wS (w.heap.size+1+1) (.bool false) (.string ⟨#[]⟩) 156 from by rw[←hwS];exact(((HZ1.out.other (by omega) _).other (by omega) _).other (by omega) _).other (by omega) _);have HB2:=Hq (show Below w.heap.size w wS from by rw[←hwS];exact(((HB1.out.setCell (p:=⟨w.heap.size,0,none⟩) nlr _).setCell (p:=⟨w.heap.size,1,none⟩) nlr _).setCell (p:=⟨w.heap.size+1,0,none⟩) (by simp) _).setCell (p:=⟨w.heap.size+1,1,none⟩) (by simp) _);rw[hwS];clear hwS;refine(HMM.out _).mono ?_;rintro e w3 ⟨rfl,hb3⟩;have hX3:=HX2.out.next hb3;have hY3:=HY2.out.next hb3;have hZ3:=HZ2.out.next hb3;have HX3:=Hq hX3;have HY3:=Hq hY3;have HZ3:=Hq hZ3;have HB3:=bt HB2 hb3;have x0:=hX3.c0;have x1:=hX3.c1;have y0:=hY3.c0;have y1:=hY3.c1;have xf0:=hX3.f0;have xf1:=hX3.f1;have yf0:=hY3.f0;have yf1:=hY3.f1;have z0:=hZ3.c0;have z1:=hZ3.c1;have zf0:=hZ3.f0;have zf1:=hZ3.f1;clear hb3 hX3 hY3 hZ3;go_wp2_with fail;refine(HMD.out _).mono ?_;rintro e w4 ⟨rfl,hb4⟩;clear x0 x1 y0 y1 xf0 xf1 yf0 yf1 z0 z1 zf0 zf1;have hX4:=HX3.out.next hb4;have hY4:=HY3.out.next hb4;have hZ4:=HZ3.out.next hb4;have HX4:=Hq hX4;have HY4:=Hq hY4;have HZ4:=Hq hZ4;have HB4:=bt HB3 hb4;have x0:=hX4.c0;have x1:=hX4.c1;have y0:=hY4.c0;have y1:=hY4.c1;have xf0:=hX4.f0;have xf1:=hX4.f1;have yf0:=hY4.f0;have yf1:=hY4.f1;have z0:=hZ4.c0;have z1:=hZ4.c1;have zf0:=hZ4.f0;have zf1:=hZ4.f1;clear hb4 hX4 hY4 hZ4;go_wp2;have hZz:=HZ4.out.set2 (u:=.bool c) (v:=.string r);have q0:=hZz.c0;have q1:=hZz.c1;exact bodyPost_ret (v:=.tuple #[.agg #[.bool c,.string r],.int .i64 0]) (by simp[results,Tryz.results258,go_sem,q0,q1]) rfl ⟨rfl,(HB4.out.setCell (p:=⟨w.heap.size+1+1,0,none⟩) (by simp;omega) _).setCell (p:=⟨w.heap.size+1+1,1,none⟩) (by simp;omega) _⟩
theorem zuu(x y:Int)(hx:x.natAbs<256 ^ 100)(hy:y.natAbs<256 ^ 100)(w:World):Calls Tryz.prog 258 #[intV x,intV y] w (Ret (.tuple #[intV (x+y),.int .i64 0]) w):=by
 cases h:(decide (x<0)==decide (y<0))with
 | true=>exact zjj x y hx hy h w
 | false =>
  by_cases hge:y.natAbs≤x.natAbs
  · exact zmq x y hx hy h hge w
  · exact zmp x y hx hy h (by omega) w
theorem zr9(x y:Int)(hx:x.natAbs<18446744073709551616)(hy:y.natAbs<18446744073709551616)(w:World):Calls Tryz.prog 258 #[intV x,intV y] w (Ret (.tuple #[intV (x+y),.int .i64 0]) w):=zuu x y (zyx hx) (zyx hy) w
theorem zr8(x y:Int)(hx:x.natAbs<18446744073709551616)(hy:y.natAbs<18446744073709551616)(w:World):Calls Tryz.prog 257 #[intV x,intV y] w (Ret (.tuple #[intV (x - y),.int .i64 0]) w):=by
 have HBO:=Hq (zcz x y (zg hx) (zg hy));have HNG:=Hq (zxd y (zg hy));have HAD:=Hq (zr9 x (-y) hx (by rw[Int.natAbs_neg];exact hy));rw[←Int.sub_eq_add_neg]at HAD;unfold intV zV at *;obtain⟨a,ha⟩:=nm (decide (x<0));obtain⟨b,hb⟩:=nm (decide (y<0));obtain⟨s,hs⟩:=nm (nS x.natAbs);obtain⟨t,ht⟩:=nm (nS y.natAbs);obtain⟨c,hc⟩:=nm (decide (x - y<0));obtain⟨r,hr⟩:=nm (nS (x - y).natAbs);obtain⟨d,hd⟩:=nm (decide (-y<0));obtain⟨q,hq⟩:=nm (nS (-y).natAbs);rw[ha,hs,hb,ht]at HBO;rw[hb,ht,hd,hq]at HNG;rw[ha,hs,hd,hq,hc,hr]at HAD;rw[ha,hs,hb,ht,hc,hr];clear ha hs hb ht hc hr hq hd hx hy;go_enter Tryz.func257,Tryz.ntmps257;go_wp2_with fail;obtain⟨W0,hW0⟩:=nm (((w.alloc (.cells #[.bool a,.string s] 156)).alloc (.cells #[.bool b,.string t] 156)).alloc (.cells #[.bool false,.string ⟨#[]⟩] 156));have HX0:=Hq (show Bx2 W0 w.heap.size (.bool a) (.string s) 156 from by
  rw[←hW0]
  exact((Bx2.new w (.bool a) (.string s) 156).kept ((blr).alloc nlr _) (by simp)).kept ((blr).alloc nlr _) (by simp;omega))
 have HY0:=Hq (show Bx2 W0 (w.heap.size+1) (.bool b) (.string t) 156 from by
  rw[←hW0];have:=Bx2.new (w.alloc (.cells #[.bool a,.string s] 156)) (.bool b) (.string t) 156;rw[World.size_alloc]at this
  exact this.kept ((blr).alloc nlr _) (by simp))
 have HZ0:=Hq (show Bx2 W0 (w.heap.size+1+1) (.bool false) (.string ⟨#[]⟩) 156 from by
  rw[←hW0];have:=Bx2.new ((w.alloc (.cells #[.bool a,.string s] 156)).alloc (.cells #[.bool b,.string t] 156)) (.bool false) (.string ⟨#[]⟩) 156;rw[World.size_alloc,World.size_alloc]at this
  exact this)
 have HB0:=Hq (show Below w.heap.size w W0 from by
  rw[←hW0]
  exact(((Below.refl w.heap.size w).alloc nlr _).alloc (by simp) _).alloc (by simp;omega) _)
 rw[hW0];clear hW0;refine(HBO.out _).mono ?_;rintro e w1 ⟨rfl,hb1⟩;have hX1:=HX0.out.next hb1;have hY1:=HY0.out.next hb1;have hZ1:=HZ0.out.next hb1;have HX1:=Hq hX1;have HY1:=Hq hY1;have HZ1:=Hq hZ1;have HB1:=bt HB0 hb1;have x0:=hX1.c0;have x1:=hX1.c1;have y0:=hY1.c0;have y1:=hY1.c1;have xf0:=hX1.f0;have xf1:=hX1.f1;have yf0:=hY1.f0;have yf1:=hY1.f1;have z0:=hZ1.c0;have z1:=hZ1.c1;have zf0:=hZ1.f0;have zf1:=hZ1.f1;clear hb1 hX1 hY1 hZ1;go_wp2;have hX1d:Bx2 w1.drew w.heap.size (.bool a) (.string s) 156:=HX1.out;have hY1d:Bx2 w1.drew (w.heap.size+1) (.bool b) (.string t) 156:=HY1.out;have hZ1d:Bx2 w1.drew (w.heap.size+1+1) (.bool false) (.string ⟨#[]⟩) 156:=HZ1.out;clear x0 x1 y0 y1 xf0 xf1 yf0 yf1 z0 z1 zf0 zf1;have x0:=hX1d.c0;have x1:=hX1d.c1;have y0:=hY1d.c0;have y1:=hY1d.c1;have HZD:=Hq hZ1d;clear hX1d hY1d hZ1d;refine za 6 (Below (w1.drew).heap.size (w1.drew)) (by kernel_rfl) ?_;refine qTs 0 7 blr (fun w' hS'=>(And.intro (kc hS' x0) (And.intro (kc hS' x1) (And.intro (kc hS' y0) (kc hS' y1))))) ?_;refine qTs 1 6 blr (fun w' hS'=>(And.intro (kc hS' x0) (And.intro (kc hS' x1) (And.intro (kc hS' y0) (kc hS' y1))))) ?_;refine oO 2 5 ?_;intro K2 hK2;go_wp2_with fail;refine(HNG.out _).mono ?_;rintro e w2 ⟨rfl,hb2⟩;have HB2:=Hq hb2;clear hb2;go_wp2;refine hK2 _ _ (by exact HB2.out) ?_;clear hK2;intro hS_3_2;refine oO 3 4 ?_;intro K3 hK3;go_wp2_with fail;refine(HAD.out _).mono ?_;rintro e w3 ⟨rfl,hb3⟩;have HB3:=Hq hb3;have hZ3:=(HZD.out.next HB2.out).next hb3;have z0:=hZ3.c0;have z1:=hZ3.c1;have zf0:=hZ3.f0;have zf1:=hZ3.f1;have HZ3:=Hq hZ3;clear hb3 hZ3;go_wp2;refine hK3 _ _ (by exact Below.trans hS_3_2 (Below.mono HB3.out (Below.size hS_3_2))) ?_;clear hK3;intro hS_3_3;refine qPs 4 3 hS_3_3 ?_;refine qPs 5 2 hS_3_3 ?_;refine oT 6 1 ?_;intro K6 hK6;go_wp2;refine hK6 _ _ ?_;clear hK6;refine oT 7 0 ?_;intro K7 hK7;go_wp2;refine hK7 _ _ ?_;clear hK7;refine wDn ?_;have HB4:=Hq ((HB1.out.drew.trans (HB2.out.mono (by exact HB1.out.size))).trans (HB3.out.mono (Nat.le_trans (show w.heap.size≤w1.drew.heap.size from HB1.out.size) HB2.out.size)));go_wp2;have HZ4:=HZ3;have hZz:=HZ4.out.set2 (u:=.bool c) (v:=.string r);have q0:=hZz.c0;have q1:=hZz.c1;exact bodyPost_ret (v:=.tuple #[.agg #[.bool c,.string r],.int .i64 0]) (by simp[results,Tryz.results257,go_sem,q0,q1]) rfl ⟨rfl,(HB4.out.setCell (p:=⟨w.heap.size+1+1,0,none⟩) (by simp;omega) _).setCell (p:=⟨w.heap.size+1+1,1,none⟩) (by simp;omega) _⟩
theorem zmk(x y:Nat)(hx:x<256 ^ 128)(hy:y<256 ^ 128)(h0:0<y)(w:World):Calls Tryz.prog 166 #[.string (nS x),.string (nS y)] w (Ret (.tuple #[.string (nS (x / y)),.string (nS (x%y)),.int .i64 0]) w):=by
 have HD:=Hq (zk1 x y hx hy h0);have hem:=zx h0;have hs1:=ze.2 hx;have hs2:=ze.2 hy;have HV1:=Hq (zj.2 hx);have HV2:=Hq (zj.2 hy);obtain⟨s,hs⟩:=nm (nS x);obtain⟨t,ht⟩:=nm (nS y);rw[hs]at hs1 HV1 HD⊢;rw[ht]at hs2 HV2 hem HD⊢;clear hs ht hx hy;go_enter Tryz.func166,Tryz.ntmps166;go_wp2_with fail;refine(zh s (by omega) _).mono ?_;rintro e w1 ⟨rfl,rfl⟩;rw[HV1.out];go_wp2_with fail;refine(zh t (by omega) _).mono ?_;rintro e w1 ⟨rfl,rfl⟩;rw[HV2.out];go_wp2_with fail;refine(HD.out _).mono ?_;rintro e w1 ⟨rfl,hb⟩;have HB:=Hq hb;clear hb;go_wp2;go_ret3;exact⟨rfl,HB.out⟩
set_option maxRecDepth 100000
set_option maxHeartbeats 2000000
open Go.RowKit Go.Shelf
attribute [local go_sem] Oper.semAt_some
def dv(l:List Bool):Nat:=l.foldl (fun v b=>2 * v+(if b then 1 else 0)) 0
theorem zsr(l:List Bool)(b:Bool):dv (l++[b])=2 * dv l+(if b then 1 else 0):=by simp[dv]
theorem zxo{n e:Nat}{pre:List Bool}(h:dv pre=n / 2 ^ (e+1)):dv (pre++[bitB n e])=n / 2 ^ e:=by
 rw[zsr,h];unfold bitB;rw[Nat.pow_succ,←Nat.div_div_eq_div_mul];simp only[beq_iff_eq];split<;>omega
def KpD(D:Nat)(W W':World):Prop:=W'.heap[D]? =W.heap[D]?
theorem zlu(k n:Nat)(hn:n<256 ^ 128)(hk:1≤k)(D:Nat)(w:World)(hD:w.heap[D]? =some (.cells #[.string (nS n)] 22 (0,0))) :
 SeqStopsK Fence.wide k Tryz.prog 288 #[.pointer (some ⟨D,0,none⟩)] (fun b:Bool=>#[Value.bool b]) (KpD D) (fun xs=>dv xs=n) (fun _=>True) (blen n) w:=fun l J Jx W hW hJ hJx hY h0=>by
 have HBS:=Hq (znp n hn);have hb:=hW;have HBT:=Hq (fun i hi=>zi8 n i hn hi);have hDW:W.heap[D]? =some (.cells #[.string (nS n)] 22 (0,0)):=by rw[hW.block D (zn hD)];exact hD
 have hcl:∀ W':World,W'.heap[D]? =some (.cells #[.string (nS n)] 22 (0,0))→W'.cell? ⟨D,0,none⟩=some (.string (nS n)):=fun W' h=>by rw[Lib.cell_of_heap h];rfl
 have HCL:=Hq hcl;have c0:=hcl W hDW;have HE0:=Hq (show n / 2 ^ blen n=0 from Nat.div_eq_of_lt (zck n));have hbn:blen n≤1024:=zop (k:=128) hn;obtain⟨s,hs⟩:=nm (nS n);rw[hs]at HBS HBT HCL c0 hDW;obtain⟨B,hB⟩:=nm (blen n);rw[hB]at HBS HE0 hbn hY;have HY:=Hq hY;clear hY hcl hs hB hD hn hW hb;refine callsIn_of_wp Tryz.func288 rfl trivial ?_ rfl;simp only[Tryz.ntmps288,List.size_toArray,List.length_cons,List.length_nil,Nat.reduceAdd,Nat.reduceSub,Array.replicate_succ,Array.replicate_zero,List.push_toArray,List.append_toArray,List.nil_append,List.cons_append];gi_wp2;refine⟨trivial,callsIn_wide.2 ((HBS.out _).mono ?_)⟩;rintro e w' ⟨rfl,rfl⟩;gi_wp2;gi_loopw [3] (fun i wr=>∃(K:Nat) (pre:List Bool),K≤B∧i=.int .i64 ((K:Int) - 1)∧pre.length+K=B∧dv pre=n / 2 ^ K∧wr.heap[D]? =some (.cells #[.string s] 22 (0,0))∧J pre wr) (fun i _=>(intOf i+1).toNat);case atStart=>exact⟨B,[],Nat.le_refl _,by go_num,by simp,by rw[HE0.out];rfl,hDW,h0⟩
 case round =>
  obtain⟨K,pre,hK,rfl,hlen,hdv,hDr,hJr⟩:=hrel;have HDV:=Hq hdv;have HLEN:=Hq hlen;have HDR:=Hq hDr;have c1:=HCL.out _ hDr;clear hdv hlen hDr;by_cases hlt:0<K
  · obtain⟨e,rfl⟩:∃ e,K=e+1:=⟨K - 1,by omega⟩;rw[show ((e+1:Nat):Int) - 1=(e:Int)from by omega];have he0:(0:Int)≤(e:Int):=by omega
    have HST:=Hq (zxo HDV.out);obtain⟨b,hbb⟩:=nm (bitB n e);have HBE:=Hq (HBT.out e (by omega));rw[hbb]at HST HBE;clear hbb;obtain⟨fn,tmps,assign,body,hy,hR⟩:=HY.out pre b wr hJr (by have:=HLEN.out;omega);have HR:=Hq hR;clear hR;gi_wp2;refine⟨trivial,callsIn_wide.2 ((HBE.out _).mono ?_)⟩;rintro ev w' ⟨rfl,rfl⟩;gi_wp2;refine HR.out.mono ?_;rintro ev W' (⟨rfl,hJ',hk'⟩ | ⟨rfl,hJx'⟩)
    · have HJ':=Hq hJ';have HK':=Hq hk';clear hJ' hk';gi_wp2;go_roundw;case rel=>exact⟨e,pre++[b],by omega,by go_num,by have:=HLEN.out;simp;omega,HST.out,by rw[HK'.out];exact HDR.out,HJ'.out⟩
      case measure=>simp[intOf]<;>omega
    · gi_wp2;refine bodyPost_ret (results_none rfl _ _ _) rfl ?_;exact⟨⟨_,rfl⟩,.inr ⟨pre++[b],trivial,hJx'⟩⟩
  · obtain rfl:K=0:=by omega
    have hneg:((0:Nat):Int) - 1 = -1:=rfl;rw[hneg];gi_wp2;go_end0;exact⟨⟨_,rfl⟩,.inl ⟨pre,by rw[HDV.out,Nat.pow_zero,Nat.div_one],hJr⟩⟩
end Go.Proofs.YtppbcopnfankcaaGreat

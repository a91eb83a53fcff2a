import Derived.Test.YtopmeciihijgiaaGreatDoorQCoG
set_option linter.unusedVariables false
set_option linter.unusedSimpArgs false
namespace Go.Proofs.YtopmeciihijgiaaGreatDoor
set_option maxRecDepth 100000
set_option maxHeartbeats 2000000
open Go.RowKit Go.Lib
def RowU(w:World)(B:Nat)(f:Nat→UInt8):Prop:=w.heap[B]? =some (.cells (yc f) 5 (0,0))
theorem RowU.cell{w:World}{B:Nat}{f:Nat→UInt8}(h:RowU w B f){k:Nat}(hk:k<64):w.cell? ⟨B,k,none⟩=some (.int .u8 ((f k).toNat:Int)):=by
 rw[Lib.cell_of_heap h,yc_get f hk]
theorem RowU.free{w:World}{B:Nat}{f:Nat→UInt8}(h:RowU w B f)(k:Nat):w.frozen? ⟨B,k,none⟩=false:=Lib.frozen_of_heap h k
theorem RowU.set{w:World}{B:Nat}{f:Nat→UInt8}(h:RowU w B f)(k:Nat)(x:UInt8):RowU (w.setCell ⟨B,k,none⟩ (.int .u8 (x.toNat:Int))) B (fun j=>if j=k then x else f j):=by
 unfold RowU;rw[block_setCell h,yc_set]
theorem RowU.bytes{w:World}{B:Nat}{f:Nat→UInt8}(h:RowU w B f):BytesAt w (some ⟨B,0,none⟩) 64 64 ((List.range 64).map f):=by
 refine⟨by simp,Nat.le_refl _,by omega,fun _=>⟨B,0,rfl,fun k hk=>?_⟩⟩;rw[Nat.zero_add,h.cell hk];simp[byteI,hk]
def xu(l:List UInt8)(x:UInt8)(k:Nat)(j:Nat):UInt8:=if j<k then l.getD j 0 ^^^ x else 0
theorem xu_zero(l:List UInt8)(x:UInt8):xu l x 0=fun _=>0:=by funext j;simp[xu]
theorem xu_step(l:List UInt8)(x:UInt8)(k:Nat):(fun j=>if j=k then l.getD k 0 ^^^ x else xu l x k j)=xu l x (k+1):=by
 funext j
 unfold xu;by_cases e:j=k
 · subst e;simp
 · rw[if_neg e];by_cases h:j<k
   · rw[if_pos h,if_pos (by omega)]
   · rw[if_neg h,if_neg (by omega)]
theorem xu_all(l:List UInt8)(x:UInt8):(List.range 64).map (xu l x 64)=xorL l x:=by
 unfold xorL;apply List.map_congr_left;intro i hi;have : i<64:=by simpa using hi
 simp[xu,this]
theorem xu_twice(l:List UInt8)(x y:UInt8)(k:Nat):(fun j=>if j=k then l.getD k 0 ^^^ x else if j=k then y else xu l x k j)=xu l x (k+1):=by
 rw[←xu_step]
 funext j
 by_cases e:j=k
 · rw[if_pos e,if_pos e]
 · rw[if_neg e,if_neg e,if_neg e]
theorem r05_xored54(key:ByteArray)(hk:key.size≤64)(w:World):Calls Tryz.prog 231 #[.string key,.int .u8 54] w (Ret (.string (bstr (xorL key.data.toList 54))) w):=by
 have hmk:(Instr.makeSlice 127 (.int .i64 64) (.int .i64 64)).run Tryz.prog w=.ok (.slice (some ⟨w.heap.size,0,none⟩) 64 64) (w.alloc (.cells z64b 5)):=make_room 64 64 (by omega) (by omega) w;obtain⟨zb,hzb⟩:∃ z,z64b=z:=⟨_,rfl⟩;have HR0:=Hq (show RowU (w.alloc (.cells z64b 5)) w.heap.size (xu key.data.toList 54 0)from by rw[xu_zero];unfold RowU;rw[yc_zero];exact heap_alloc_new _ _);have HB0:=Hq ((Below.refl w.heap.size w).alloc nlr (.cells z64b 5));rw[hzb]at hmk HR0 HB0;obtain⟨l,hl⟩:∃ l,key.data.toList=l:=⟨_,rfl⟩;have HLL:=Hq (show l.length=key.size from by rw[←hl];exact Array.length_toList);have HGD:=Hq (show ∀ k (h:k<key.size),l.getD k 0=key[k]from fun k h=>by rw[←hl];exact data_getD key k h);rw[hl]at HR0⊢;clear hl hzb;go_enter Tryz.func231,Tryz.ntmps231;go_wp2;obtain⟨w1,hw1⟩:∃ W,w.alloc (.cells zb 5)=W:=⟨_,rfl⟩;obtain⟨P,hP⟩:∃ P,w.heap.size=P:=⟨_,rfl⟩;have HP:=Hq hP;rw[hw1,hP]at HR0 HB0;try rw[hw1]
 rw[hP];clear hw1 hP hmk;go_loopw [6] (fun v wr=>∃ k:Nat,k≤64∧v=.int .i64 k∧RowU wr P (xu l 54 k)∧Below P w wr) (fun v _=>64 - (RowKit.intOf v).toNat);case atStart=>exact⟨0,by omega,rfl,HR0.out,HB0.out⟩
 case round =>
  obtain⟨k,hk,rfl,hy,hb⟩:=hrel;have HY:=Hq hy;have HB:=Hq hb;clear hy hb HR0 HB0;by_cases hlt:k<64
  · have hki:(k:Int)<64:=by omega
    have HK:=Hq hlt;have d0:=HY.out.cell hlt;have f0:=HY.out.free k;obtain⟨x0,hx0⟩:∃ x,((xu l 54 k k).toNat:Int)=x:=⟨_,rfl⟩;rw[hx0]at d0;clear hx0 hlt hk;by_cases hks:k<key.size
    · have hksi:(k:Int)<(key.size:Int):=by omega
      have HG:=Hq (HGD.out k hks);go_wp2;have h1:=(HY.out.set k 54).set k (key[k] ^^^ 54);rw[show ((54:UInt8).toNat:Int)=54 from rfl]at h1;rw[xor_54 key[k]];refine⟨⟨k+1,by have:=HK.out;omega,by go_num,?_,(HB.out.setCell (p:=⟨P,k,none⟩) (Nat.le_refl P) _).setCell (p:=⟨P,k,none⟩) (Nat.le_refl P) _⟩,?_⟩
      · rw[←xu_twice l 54 54 k,HG.out];exact h1
      · have:=HK.out;simp[RowKit.intOf];omega
    · have hksi:¬ ((k:Int)<(key.size:Int)):=by omega
      have HG:=Hq (show l.getD k 0=0 from by rw[List.getD_eq_getElem?_getD,List.getElem?_eq_none (by have:=HLL.out;omega)];rfl);go_wp2;have h1:=HY.out.set k 54;rw[show ((54:UInt8).toNat:Int)=54 from rfl]at h1;refine⟨⟨k+1,by have:=HK.out;omega,by go_num,?_,HB.out.setCell (p:=⟨P,k,none⟩) (Nat.le_refl P) _⟩,?_⟩
      · rw[←xu_step l 54 k,HG.out];exact h1
      · have:=HK.out;simp[RowKit.intOf];omega
  · obtain rfl:k=64:=by omega
    have hki:¬ (((64:Nat):Int)<64):=by omega
    have hbt:BytesAt wr (some ⟨P,0,none⟩) 64 64 (xorL l 54):=by rw[←xu_all];exact HY.out.bytes
    have hconv:=hbt.conv 127 9 5 Tryz.underlying127 Tryz.underlying5 Tryz.underlying9;clear hk hlt hbt;go_wp2;go_ret;exact⟨rfl,by rw[HP.out];exact HB.out⟩
theorem r05_xored92(key:ByteArray)(hk:key.size≤64)(w:World):Calls Tryz.prog 231 #[.string key,.int .u8 92] w (Ret (.string (bstr (xorL key.data.toList 92))) w):=by
 have hmk:(Instr.makeSlice 127 (.int .i64 64) (.int .i64 64)).run Tryz.prog w=.ok (.slice (some ⟨w.heap.size,0,none⟩) 64 64) (w.alloc (.cells z64b 5)):=make_room 64 64 (by omega) (by omega) w;obtain⟨zb,hzb⟩:∃ z,z64b=z:=⟨_,rfl⟩;have HR0:=Hq (show RowU (w.alloc (.cells z64b 5)) w.heap.size (xu key.data.toList 92 0)from by rw[xu_zero];unfold RowU;rw[yc_zero];exact heap_alloc_new _ _);have HB0:=Hq ((Below.refl w.heap.size w).alloc nlr (.cells z64b 5));rw[hzb]at hmk HR0 HB0;obtain⟨l,hl⟩:∃ l,key.data.toList=l:=⟨_,rfl⟩;have HLL:=Hq (show l.length=key.size from by rw[←hl];exact Array.length_toList);have HGD:=Hq (show ∀ k (h:k<key.size),l.getD k 0=key[k]from fun k h=>by rw[←hl];exact data_getD key k h);rw[hl]at HR0⊢;clear hl hzb;go_enter Tryz.func231,Tryz.ntmps231;go_wp2;obtain⟨w1,hw1⟩:∃ W,w.alloc (.cells zb 5)=W:=⟨_,rfl⟩;obtain⟨P,hP⟩:∃ P,w.heap.size=P:=⟨_,rfl⟩;have HP:=Hq hP;rw[hw1,hP]at HR0 HB0;try rw[hw1]
 rw[hP];clear hw1 hP hmk;go_loopw [6] (fun v wr=>∃ k:Nat,k≤64∧v=.int .i64 k∧RowU wr P (xu l 92 k)∧Below P w wr) (fun v _=>64 - (RowKit.intOf v).toNat);case atStart=>exact⟨0,by omega,rfl,HR0.out,HB0.out⟩
 case round =>
  obtain⟨k,hk,rfl,hy,hb⟩:=hrel;have HY:=Hq hy;have HB:=Hq hb;clear hy hb HR0 HB0;by_cases hlt:k<64
  · have hki:(k:Int)<64:=by omega
    have HK:=Hq hlt;have d0:=HY.out.cell hlt;have f0:=HY.out.free k;obtain⟨x0,hx0⟩:∃ x,((xu l 92 k k).toNat:Int)=x:=⟨_,rfl⟩;rw[hx0]at d0;clear hx0 hlt hk;by_cases hks:k<key.size
    · have hksi:(k:Int)<(key.size:Int):=by omega
      have HG:=Hq (HGD.out k hks);go_wp2;have h1:=(HY.out.set k 92).set k (key[k] ^^^ 92);rw[show ((92:UInt8).toNat:Int)=92 from rfl]at h1;rw[xor_92 key[k]];refine⟨⟨k+1,by have:=HK.out;omega,by go_num,?_,(HB.out.setCell (p:=⟨P,k,none⟩) (Nat.le_refl P) _).setCell (p:=⟨P,k,none⟩) (Nat.le_refl P) _⟩,?_⟩
      · rw[←xu_twice l 92 92 k,HG.out];exact h1
      · have:=HK.out;simp[RowKit.intOf];omega
    · have hksi:¬ ((k:Int)<(key.size:Int)):=by omega
      have HG:=Hq (show l.getD k 0=0 from by rw[List.getD_eq_getElem?_getD,List.getElem?_eq_none (by have:=HLL.out;omega)];rfl);go_wp2;have h1:=HY.out.set k 92;rw[show ((92:UInt8).toNat:Int)=92 from rfl]at h1;refine⟨⟨k+1,by have:=HK.out;omega,by go_num,?_,HB.out.setCell (p:=⟨P,k,none⟩) (Nat.le_refl P) _⟩,?_⟩
      · rw[←xu_step l 92 k,HG.out];exact h1
      · have:=HK.out;simp[RowKit.intOf];omega
  · obtain rfl:k=64:=by omega
    have hki:¬ (((64:Nat):Int)<64):=by omega
    have hbt:BytesAt wr (some ⟨P,0,none⟩) 64 64 (xorL l 92):=by rw[←xu_all];exact HY.out.bytes
    have hconv:=hbt.conv 127 9 5 Tryz.underlying127 Tryz.underlying5 Tryz.underlying9;clear hk hlt hbt;go_wp2;go_ret;exact⟨rfl,by rw[HP.out];exact HB.out⟩
theorem r05_Mac64(key s:ByteArray)(hk:key.size≤64)(hs:s.size≤100000000)(w:World):Calls Tryz.prog 207 #[.string key,.string s] w (Ret (.string (bstr (macL key.data.toList s.data.toList))) w):=by
 have HX9:=Hq (r05_xored92 key hk);have HX5:=Hq (r05_xored54 key hk);obtain⟨l,hl⟩:∃ l,key.data.toList=l:=⟨_,rfl⟩;have hll:l.length=key.size:=by rw[←hl];exact Array.length_toList
 have HR:=Hq (show macL l s.data.toList=shaL (xorL l 92++shaL (xorL l 54++s.data.toList))from by unfold macL;rw[if_neg (by omega)]);rw[hl]at HX9 HX5⊢;rw[HR.out];have HS1:=Hq (r05_Sum (bstr (xorL l 54)++s) (by rw[ByteArray.size_append,bstr_size];simp[xorL];omega));have HS2:=Hq (r05_Sum (bstr (xorL l 92)++bstr (shaL (xorL l 54++s.data.toList))) (by rw[ByteArray.size_append,bstr_size,bstr_size,shaL_length];simp[xorL]));have hlei:decide ((64:Int)<(key.size:Int))=false:=decide_eq_false (by omega);rw[app_data,bstr_data]at HS1;rw[app_data,bstr_data,bstr_data]at HS2;obtain⟨a1,ha1⟩:∃ z,bstr (xorL l 54)=z:=⟨_,rfl⟩;obtain⟨a2,ha2⟩:∃ z,bstr (xorL l 92)=z:=⟨_,rfl⟩;obtain⟨m1,hm1⟩:∃ z,bstr (shaL (xorL l 54++s.data.toList))=z:=⟨_,rfl⟩;obtain⟨m2,hm2⟩:∃ z,bstr (shaL (xorL l 92++shaL (xorL l 54++s.data.toList)))=z:=⟨_,rfl⟩;rw[hm2];rw[ha1,hm1]at HS1;rw[ha2,hm1,hm2]at HS2;rw[ha1]at HX5;rw[ha2]at HX9;have hz1:¬ (9223372036854775807<a1.size+s.size):=by rw[←ha1,bstr_size];simp[xorL];omega
 have hz2:¬ (9223372036854775807<a2.size+m1.size):=by rw[←ha2,←hm1,bstr_size,bstr_size,shaL_length];simp[xorL]
 clear hl hll hk hs HR ha1 ha2 hm1 hm2;go_enter Tryz.func207,Tryz.ntmps207;go_wp2_with fail;refine(HX9.out _).mono ?_;rintro ev w1 ⟨rfl,hb⟩;have HB1:=Hq hb;clear hb;go_wp2_with fail;refine(HX5.out _).mono ?_;rintro ev w2 ⟨rfl,hb⟩;have HB2:=Hq (HB1.out.trans (hb.mono HB1.out.size));clear hb;go_wp2_with fail;refine(HS1.out _).mono ?_;rintro ev w3 ⟨rfl,hb⟩;have HB3:=Hq (HB2.out.trans (hb.mono HB2.out.size));clear hb;go_wp2_with fail;refine(HS2.out _).mono ?_;rintro ev w4 ⟨rfl,hb⟩;have HB4:=Hq (HB3.out.trans (hb.mono HB3.out.size));clear hb;go_wp2;go_ret;exact⟨rfl,HB4.out⟩
theorem r05_Mac(key s:ByteArray)(hkk:key.size≤1000000)(hs:s.size≤100000000)(w:World):Calls Tryz.prog 207 #[.string key,.string s] w (Ret (.string (bstr (macL key.data.toList s.data.toList))) w):=by
 by_cases h64:key.size≤64
 · exact r05_Mac64 key s h64 hs w
 obtain⟨k2,hk2⟩:∃ k,bstr (shaL key.data.toList)=k:=⟨_,rfl⟩;obtain⟨l,hl⟩:∃ l,k2.data.toList=l:=⟨_,rfl⟩;have hll:key.data.toList.length=key.size:=Array.length_toList;have hk:k2.size≤64:=by rw[←hk2,bstr_size,shaL_length];decide
 have hl2:shaL key.data.toList=l:=by rw[←hl,←hk2,bstr_data]
 have HX9:=Hq (r05_xored92 k2 hk);have HX5:=Hq (r05_xored54 k2 hk);have HSK:=Hq (r05_Sum key (by omega));rw[hk2]at HSK;have HR:=Hq (show macL key.data.toList s.data.toList=shaL (xorL l 92++shaL (xorL l 54++s.data.toList))from by unfold macL;rw[if_pos (by omega),hl2]);rw[hl]at HX9 HX5;rw[HR.out];have HS1:=Hq (r05_Sum (bstr (xorL l 54)++s) (by rw[ByteArray.size_append,bstr_size];simp[xorL];omega));have HS2:=Hq (r05_Sum (bstr (xorL l 92)++bstr (shaL (xorL l 54++s.data.toList))) (by rw[ByteArray.size_append,bstr_size,bstr_size,shaL_length];simp[xorL]));have hlei:decide ((64:Int)<(key.size:Int))=true:=decide_eq_true (by omega);rw[app_data,bstr_data]at HS1;rw[app_data,bstr_data,bstr_data]at HS2;obtain⟨a1,ha1⟩:∃ z,bstr (xorL l 54)=z:=⟨_,rfl⟩;obtain⟨a2,ha2⟩:∃ z,bstr (xorL l 92)=z:=⟨_,rfl⟩;obtain⟨m1,hm1⟩:∃ z,bstr (shaL (xorL l 54++s.data.toList))=z:=⟨_,rfl⟩;obtain⟨m2,hm2⟩:∃ z,bstr (shaL (xorL l 92++shaL (xorL l 54++s.data.toList)))=z:=⟨_,rfl⟩;rw[hm2];rw[ha1,hm1]at HS1;rw[ha2,hm1,hm2]at HS2;rw[ha1]at HX5;rw[ha2]at HX9;have hz1:¬ (9223372036854775807<a1.size+s.size):=by rw[←ha1,bstr_size];simp[xorL];omega
 have hz2:¬ (9223372036854775807<a2.size+m1.size):=by rw[←ha2,←hm1,bstr_size,bstr_size,shaL_length];simp[xorL]
 clear hl hll hk hs HR ha1 ha2 hm1 hm2 hl2 hk2 h64 hkk;go_enter Tryz.func207,Tryz.ntmps207;go_wp2_with fail;refine(HSK.out _).mono ?_;rintro ev w0 ⟨rfl,hb⟩;have HB0:=Hq hb;clear hb;go_wp2_with fail;refine(HX9.out _).mono ?_;rintro ev w1 ⟨rfl,hb⟩;have HB1:=Hq (HB0.out.trans (hb.mono HB0.out.size));clear hb;go_wp2_with fail;refine(HX5.out _).mono ?_;rintro ev w2 ⟨rfl,hb⟩;have HB2:=Hq (HB1.out.trans (hb.mono HB1.out.size));clear hb;go_wp2_with fail;refine(HS1.out _).mono ?_;rintro ev w3 ⟨rfl,hb⟩;have HB3:=Hq (HB2.out.trans (hb.mono HB2.out.size));clear hb;go_wp2_with fail;refine(HS2.out _).mono ?_;rintro ev w4 ⟨rfl,hb⟩;have HB4:=Hq (HB3.out.trans (hb.mono HB3.out.size));clear hb;go_wp2;go_ret;exact⟨rfl,HB4.out⟩
theorem digit_text(d:Nat)(h:d<10):(ByteArray.mk #[48,49,50,51,52,53,54,55,56,57]).extract d (d+1)=bstr [UInt8.ofNat (48+d)]:=by
 have:=ByteArray.extract_mk [48,49,50,51,52,53,54,55,56,57] d (d+1);have e:(ByteArray.mk #[48,49,50,51,52,53,54,55,56,57])=ByteArray.mk (([48,49,50,51,52,53,54,55,56,57]:List UInt8).toArray):=rfl;rw[e,this]
 match d,h with
 | 0,_=>rfl
 | 1,_=>rfl
 | 2,_=>rfl
 | 3,_=>rfl
 | 4,_=>rfl
 | 5,_=>rfl
 | 6,_=>rfl
 | 7,_=>rfl
 | 8,_=>rfl
 | 9,_=>rfl
theorem decDigits_len:∀(k y:Nat),y<10 ^ (k+1)→(Lib.decDigits y).length≤k+1
 | 0,y,h=>by rw[Lib.decDigits_one (by omega)];simp
 | k+1,y,h=>by
  rw[Lib.decDigits.eq_1 y];split
  · simp
  · have:=decDigits_len k (y / 10) (by rw[Nat.pow_succ]at h;omega);simp;omega
set_option maxRecDepth 100000
set_option maxHeartbeats 2000000
theorem r06_Decimal_step(n:Nat)(hn:n<9223372036854775808)(ih:∀ w,Calls Tryz.prog 208 #[.int .i64 ((n / 10:Nat):Int)] w (Ret (.string (bstr (Lib.decDigits (n / 10)))) w))(h10:¬ n<10)(w:World):Calls Tryz.prog 208 #[.int .i64 n] w (Ret (.string (bstr (Lib.decDigits n))) w):=by
 have HR:=Hq (show bstr (Lib.decDigits n)=bstr (Lib.decDigits (n / 10)++[UInt8.ofNat (48+n%10)])from by rw[Lib.decDigits.eq_1 n,dif_neg h10]);have HDT:=Hq (digit_text (n%10) (by omega));have hq:((n:Int) / 10)=((n / 10:Nat):Int):=by simp
 have hm:((n:Int)%10)=((n%10:Nat):Int):=by simp
 have hlen:=decDigits_len 18 (n / 10) (by omega);have HIH:=Hq ih;obtain⟨q,hqe⟩:∃ q,n / 10=q:=⟨_,rfl⟩;obtain⟨d,hde⟩:∃ q,n%10=q:=⟨_,rfl⟩;rw[hqe]at HR HIH hq hlen;rw[hde]at HR HDT hm;have hd10:(d:Int)<10:=by omega
 have hd11:(d:Int)+1≤10:=by omega
 have hmt:(n:Int).tmod 10=(d:Int):=by rw[Int.tmod_eq_emod_of_nonneg (by omega)];exact hm
 have hqt:(n:Int).tdiv 10=(q:Int):=by rw[Int.tdiv_eq_ediv_of_nonneg (by omega)];exact hq
 have hwd1:IntKind.i64.wrap ((d:Int)+1)=(d:Int)+1:=by rw[IntKind.wrap_i64];omega
 have htn:((d:Int)+1).toNat=d+1:=by omega
 have hd12:(0:Int)≤(d:Int)+1:=by omega
 have hd13:(d:Int)≤(d:Int)+1:=by omega
 have hwq:IntKind.i64.wrap (q:Int)=(q:Int):=by rw[IntKind.wrap_i64];omega
 have hwd2:IntKind.i64.wrap (d:Int)=(d:Int):=by rw[IntKind.wrap_i64];omega
 have hn10:¬ ((n:Int)<10):=by omega
 have hn0:¬ ((n:Int)<0):=by omega
 obtain⟨t,ht⟩:∃ t,bstr (Lib.decDigits q)=t:=⟨_,rfl⟩;obtain⟨u,hu⟩:∃ t,bstr [UInt8.ofNat (48+d)]=t:=⟨_,rfl⟩;obtain⟨r,hr⟩:∃ t,bstr (Lib.decDigits n)=t:=⟨_,rfl⟩;have hadd:∀ w,(Op.stringOp .add t u).run Tryz.prog w=.ok (.string r) w:=fun w=>by
  rw[←ht,←hu,run_string_add_sum w _ _ (by rw[bstr_size,bstr_size];simp;omega),←hr,HR.out];exact congrArg (fun x=>Result.ok (Value.string x) w) (bstr_snoc _ [UInt8.ofNat (48+d)])
 rw[ht]at HIH;rw[hu]at HDT;rw[hr];clear HR ih hlen hqe hde h10 hn ht hu hr;have hdt:=HDT.out;go_enter Tryz.func208,Tryz.ntmps208;go_wp2;obtain⟨wd,hwd⟩:∃ wd,w.drew=wd:=⟨_,rfl⟩;have HWD:=Hq (show Below w.heap.size w wd from by rw[←hwd];exact(blr).drew);refine wp_region_K 11 (Below (wd).heap.size (wd)) (by kernel_rfl) ?_;intro hD;rw[hwd];refine rP 0 29 10 rfl hD blr ?_;clear hD;intro hD;refine rP 1 30 9 rfl hD blr ?_;clear hD;intro hD;refine rP 3 32 8 rfl hD blr ?_;clear hD;intro hD;refine rP 4 33 7 rfl hD blr ?_;clear hD;intro hD;refine rP 5 34 6 rfl hD blr ?_;clear hD;intro hD;refine rP 6 35 5 rfl hD blr ?_;clear hD;intro hD;refine rP 7 36 4 rfl hD blr ?_;clear hD;intro hD;refine rP 8 37 3 rfl hD blr ?_;clear hD;intro hD;simp only[Act.put,sqA,sqB,sqC];refine rO 2 2 rfl hD ?_;clear hD;intro K2 hK2;go_wp2_with fail;refine(HIH.out _).mono ?_;rintro ev w3 ⟨rfl,hb3⟩;have HB2:=Hq hb3;clear hb3;go_wp2;refine hK2 _ _ (by exact HB2.out) ?_;clear hK2;intro hS_8_2 hD;refine rP 9 38 1 rfl hD hS_8_2 ?_;clear hD;intro hD;simp only[Act.put,sqA,sqB,sqC];refine rO 10 0 rfl hD ?_;clear hD;intro K10 hK10;go_wp2;refine hK10 _ _ (by exact hS_8_2) ?_;clear hK10;intro hS_8_10 hD;have HL:=Hq hS_8_10;refine wpD ?_;clear hD;go_wp2;go_ret;exact⟨rfl,below_up HWD.out HWD.out.size HL.out⟩
theorem r06_Decimal_one(n:Nat)(h10:n<10)(w:World):Calls Tryz.prog 208 #[.int .i64 n] w (Ret (.string (bstr (Lib.decDigits n))) w):=by
 have HDT:=Hq (digit_text n h10);rw[Lib.decDigits_one h10];have hd10:(n:Int)<10:=by omega
 have hd11:(n:Int)+1≤10:=by omega
 have hn0:¬ ((n:Int)<0):=by omega
 obtain⟨u,hu⟩:∃ t,bstr [UInt8.ofNat (48+n)]=t:=⟨_,rfl⟩;rw[hu]at HDT⊢;clear hu h10;have hdt:=HDT.out;go_enter Tryz.func208,Tryz.ntmps208;go_wp2;go_ret;exact⟨rfl,Below.refl _ _⟩
theorem r06_Decimal(n:Nat)(hn:n<9223372036854775808):∀(w:World),Calls Tryz.prog 208 #[.int .i64 n] w (Ret (.string (bstr (Lib.decDigits n))) w):=by
 induction n using Nat.strongRecOn with
 | _ n ih =>
  by_cases h:n<10
  · exact r06_Decimal_one n h
  · exact r06_Decimal_step n hn (ih (n / 10) (by omega) (by omega)) h
set_option maxRecDepth 100000
set_option maxHeartbeats 4000000
theorem wrap_subN{y p:Nat}(h:p≤y)(hy:y<256):wrap64 ((y:Int) - (p:Int))=((y - p:Nat):Int):=by simp only[wrap64];omega
theorem wrap_pow{q p:Nat}(hp:2 ^ q=p)(h:p≤128):wrap64 ((2:Int) ^ q)=(p:Int):=by
 rw[show ((2:Int) ^ q)=((2 ^ q:Nat):Int)from by simp,hp];clear hp;simp only[wrap64];omega
theorem bstr_cut(l:List UInt8)(z:Nat)(h:z≤l.length):(bstr l).extract 1 z=bstr ((l.take z).drop 1):=by
 unfold bstr;rw[ByteArray.extract_mk];congr 2;rw[List.drop_take]
theorem one_byte(w:World)(y:Nat)(h:y<256):BytesAt (w.alloc (.cells #[.int .u8 (y:Int)] 5)) (some ⟨w.heap.size,0,none⟩) 1 1 [UInt8.ofNat y]:=by
 refine⟨rfl,Nat.le_refl _,by omega,fun _=>⟨w.heap.size,0,rfl,fun k hk=>?_⟩⟩;obtain rfl:k=0:=by omega
 rw[Nat.add_zero,Lib.cell_of_heap (heap_alloc_new w _)];have : (UInt8.ofNat y).toNat=y:=by simp[UInt8.toNat_ofNat'];omega
 simp[byteI,this]
theorem mod_half(x q:Nat):x%2 ^ q=if 2 ^ q≤x%2 ^ (q+1)then x%2 ^ (q+1) - 2 ^ q else x%2 ^ (q+1):=by
 have h2:x%2 ^ q=(x%2 ^ (q+1))%2 ^ q:=by rw[Nat.pow_succ,Nat.mod_mul_right_mod]
 have h1:x%2 ^ (q+1)<2 ^ q * 2:=Nat.lt_of_lt_of_eq (Nat.mod_lt x (Nat.two_pow_pos (q+1))) (Nat.pow_succ 2 q);rw[h2];obtain⟨y,hy⟩:∃ y,x%2 ^ (q+1)=y:=⟨_,rfl⟩;rw[hy]at h1⊢;obtain⟨p,hp⟩:∃ p,2 ^ q=p:=⟨_,rfl⟩;rw[hp]at h1⊢;clear h2 hy hp;split
 · rename_i h3;rw[Nat.mod_eq_sub_mod h3,Nat.mod_eq_of_lt (by omega)]
 · rename_i h3;exact Nat.mod_eq_of_lt (by omega)
theorem r06_attempt(s:ByteArray)(k a b:Nat)(hs:s.size≤1000000)(hk:k<2147483648)(ha:a<256)(hb0:0<b)(hb:b≤256)(w:World) :
 Calls Tryz.prog 167 #[.string s,.int .i64 k,.int .i64 a,.int .i64 b] w (Ret (.string (nS (attN s.data.toList k a b))) w):=by
 have HI1:=Hq (r06_Decimal k (by omega));have HI2:=Hq (r06_Decimal a (by omega));have HI3:=Hq (show ∀ w,Calls Tryz.prog 208 #[.int .i64 0] w (Ret (.string (bstr (Lib.decDigits 0))) w)from r06_Decimal 0 (by omega));have l1:=dec_short k hk;have l2:=dec_short a (by omega);have l3:=dec_short 0 (by omega);have a1:=add_bstr (Lib.decDigits k) [46] (by simp;omega) Tryz.prog;have a2:=add_bstr (Lib.decDigits k++[46]) (Lib.decDigits a) (by simp;omega) Tryz.prog;have a3:=add_bstr (Lib.decDigits k++[46]++Lib.decDigits a) [46] (by simp;omega) Tryz.prog;have a4:=add_bstr (Lib.decDigits k++[46]++Lib.decDigits a++[46]) (Lib.decDigits 0) (by simp;omega) Tryz.prog;have HM:=Hq (r05_Mac s (bstr (nmL k a 0)) hs (by rw[bstr_size];unfold nmL;simp;omega));rw[bstr_data]at HM;rw[show Lib.decDigits k++[46]++Lib.decDigits a++[46]++Lib.decDigits 0=nmL k a 0 from rfl]at a4;rw[show bstr [46]=⟨#[46]⟩from rfl]at a1 a3;obtain⟨ml,hml⟩:∃ l,macL s.data.toList (nmL k a 0)=l:=⟨_,rfl⟩;have hll:ml.length=32:=by rw[←hml];exact macL_length _ _
 have HRES:=Hq (show attN s.data.toList k a b=bnat (ml.take ((b+7) / 8))%2 ^ b from by unfold attN;rw[hml]);have a5:=add_bstr [] ml (by simp;omega) Tryz.prog;rw[show bstr []=⟨#[]⟩from rfl,List.nil_append]at a5;rw[hml]at HM;rw[HRES.out];obtain⟨d1,hd1⟩:∃ z,bstr (Lib.decDigits k)=z:=⟨_,rfl⟩;obtain⟨d2,hd2⟩:∃ z,bstr (Lib.decDigits a)=z:=⟨_,rfl⟩;obtain⟨d3,hd3⟩:∃ z,bstr (Lib.decDigits 0)=z:=⟨_,rfl⟩;obtain⟨e1,he1⟩:∃ z,bstr (Lib.decDigits k++[46])=z:=⟨_,rfl⟩;obtain⟨e2,he2⟩:∃ z,bstr (Lib.decDigits k++[46]++Lib.decDigits a)=z:=⟨_,rfl⟩;obtain⟨e3,he3⟩:∃ z,bstr (Lib.decDigits k++[46]++Lib.decDigits a++[46])=z:=⟨_,rfl⟩;obtain⟨e4,he4⟩:∃ z,bstr (nmL k a 0)=z:=⟨_,rfl⟩;obtain⟨mb,hmb⟩:∃ z,bstr ml=z:=⟨_,rfl⟩;rw[hd1]at HI1 a1;rw[hd2]at HI2 a2;rw[hd3]at HI3 a4;rw[he1]at a1 a2;rw[he2]at a2 a3;rw[he3]at a3 a4;rw[he4]at a4 HM;rw[hmb]at HM a5;have HLL:=Hq hll;have HMB:=Hq hmb;have hbi:(b:Int)≤256:=by omega
 have hms:mb.size=32:=by rw[←hmb,bstr_size,hll]
 obtain⟨z,hz⟩:∃ z,(b+7) / 8=z:=⟨_,rfl⟩;have hzi:((b:Int)+7) / 8=(z:Int):=by omega
 have hz1:0<z:=by omega
 have hz32:z≤32:=by omega
 have HZ:=Hq hz;clear l1 l2 l3 hd1 hd2 hd3 he1 he2 he3 he4 hmb hml hll hz hs ha;go_enter Tryz.func167,Tryz.ntmps167;go_wp2;try rw[hzi]
 clear hzi;have HHZ:=Hq (show 0<z∧z≤32 from⟨hz1,hz32⟩);have HA:=Hq (And.intro a1 (And.intro a2 (And.intro a3 (And.intro a4 a5))));clear a1 a2 a3 a4 a5;go_loopw [10,11] (fun v u wr=>((v=.string ⟨#[]⟩∧u=.int .i64 0)∨(v=.string mb∧u=.int .i64 1))∧Below w.heap.size w wr) (fun v _ _=>match v with | .string x=>40 - x.size | _=>0);case atStart=>exact⟨.inl ⟨rfl,rfl⟩,Below.refl _ _⟩
 case round =>
  obtain⟨hv,hb⟩:=hrel;have HB:=Hq hb;clear hb;rcases hv with⟨rfl,rfl⟩ | ⟨rfl,rfl⟩
  · have hzz:(0:Int)<(z:Int):=by omega
    obtain⟨a1,a2,a3,a4,a5⟩:=HA.out;go_wp2_with fail;refine(HI1.out _).mono ?_;rintro ev w1 ⟨rfl,hb⟩;have HB1:=Hq (HB.out.trans (hb.mono HB.out.size));clear hb;go_wp2_with fail;refine(HI2.out _).mono ?_;rintro ev w2 ⟨rfl,hb⟩;have HB2:=Hq (HB1.out.trans (hb.mono HB1.out.size));clear hb;go_wp2_with fail;refine(HI3.out _).mono ?_;rintro ev w3 ⟨rfl,hb⟩;have HB3:=Hq (HB2.out.trans (hb.mono HB2.out.size));clear hb;go_wp2_with fail;refine(HM.out _).mono ?_;rintro ev w4 ⟨rfl,hb⟩;have HB4:=Hq (HB3.out.trans (hb.mono HB3.out.size));clear hb;go_wp2;refine⟨⟨.inr ⟨rfl,rfl⟩,HB4.out⟩,?_⟩;show 40 - mb.size<40 - 0;omega
  · have hzz:¬ ((32:Int)<(z:Int)):=by omega
    have hzn:¬ (32<z):=by omega
    have h0m:0<mb.size:=by omega
    obtain⟨x,hx⟩:∃ x:Nat,(ml.getD 0 0).toNat=x:=⟨_,rfl⟩;have hx0:(mb[0]'h0m).toNat=x:=by rw[←hx,←data_getD mb 0 h0m,←HMB.out,bstr_data]
    have hx255:x<256:=by rw[←hx];exact(ml.getD 0 0).toNat_lt
    have HXX:=Hq hx;obtain⟨sh,hsh⟩:∃ sh,8 * z - b=sh:=⟨_,rfl⟩;have hshi:8 - (8 * (z:Int) - (b:Int))=((8 - sh:Nat):Int):=by have:=HZ.out;omega
    have hsh8:sh<8:=by have:=HZ.out;omega
    obtain⟨t,ht⟩:∃ t,8 - sh=t:=⟨_,rfl⟩;rw[ht]at hshi;have HSH:=Hq (show 8 * z - b=sh∧8 - sh=t∧x<256 from⟨hsh,ht,hx255⟩);have ht1:1≤t:=by omega
    have ht8:t≤8:=by omega
    clear hx hsh hsh8 ht;go_wp2;clear hx0;go_loopw [12,13] (fun v u wr=>∃ K:Nat,t≤K∧K≤8∧u=.int .i64 ((K:Int) - 1)∧v=.int .i64 ((x%2 ^ K:Nat):Int)∧Below w.heap.size w wr) (fun _ u _=>(RowKit.intOf u+1).toNat);case atStart=>exact⟨8,ht8,by omega,rfl,by rw[Nat.mod_eq_of_lt (show x<2 ^ 8 from HSH.out.2.2)],HB.out⟩
    case round =>
     obtain⟨K,hK1,hK2,rfl,rfl,hb2⟩:=hrel;have HB2:=Hq hb2;clear hb2;obtain⟨y,hy⟩:∃ y,x%2 ^ K=y:=⟨_,rfl⟩;rw[hy];by_cases hlt:t<K
     · obtain⟨q,rfl⟩:∃ q,K=q+1:=⟨K - 1,by omega⟩;rw[show (((q+1:Nat):Int) - 1)=(q:Int)from by omega];have hq0:(0:Int)≤(q:Int):=by omega
       have hq7:(q:Int)<8:=by omega
       have hqt:(t:Int)≤(q:Int):=by omega
       obtain⟨p,hp⟩:∃ p,2 ^ q=p:=⟨_,rfl⟩;have hp128:p≤128:=(by rw[←hp];exact Nat.le_trans (Nat.pow_le_pow_right (by omega) (show q≤7 by omega)) (by decide));have hw1:wrap64 ((2:Int) ^ q)=(p:Int):=wrap_pow hp hp128;have hy2:x%2 ^ q=if p≤y then y - p else y:=by rw[←hy,←hp];exact mod_half x q
       have HY2:=Hq hy2;have HQ:=Hq (show t≤q∧q+1≤8 from⟨by omega,hK2⟩);have hy256:y<256:=by rw[←hy];exact Nat.lt_of_le_of_lt (Nat.mod_le _ _) HSH.out.2.2
       by_cases hpy:p≤y
       · have hpyi:(p:Int)≤(y:Int):=Int.ofNat_le.2 hpy;have hw2:wrap64 ((y:Int) - (p:Int))=((y - p:Nat):Int):=wrap_subN hpy hy256;rw[if_pos hpy]at HY2;have HCA:=Hq (Int.ofNat_sub hpy);clear hy2 hp hy hK1 hK2 hlt hpy;go_wp2;refine⟨⟨q,HQ.out.1,Nat.le_trans (Nat.le_succ q) HQ.out.2,rfl,by rw[HY2.out,HCA.out],HB2.out⟩,?_⟩;simp[RowKit.intOf]
       · have hpyi:¬ ((p:Int)≤(y:Int)):=fun h=>hpy (Int.ofNat_le.1 h);rw[if_neg hpy]at HY2;clear hy2 hp hy hK1 hK2 hlt hpy;go_wp2;refine⟨⟨q,HQ.out.1,Nat.le_trans (Nat.le_succ q) HQ.out.2,rfl,by rw[HY2.out],HB2.out⟩,?_⟩;simp[RowKit.intOf]
     · obtain rfl:K=t:=by omega
       have hlti:¬ ((K:Int)≤(K:Int) - 1):=by omega
       have HVAL:=Hq (attempt_val HLL.out HZ.out hb0 hb HXX.out HSH.out.1 (show x%2 ^ (8 - sh)=y from by rw[HSH.out.2.1];exact hy));have hy256:y<256:=by rw[←hy];exact Nat.lt_of_le_of_lt (Nat.mod_le _ _) HSH.out.2.2
       have hyw:(y:Int)%256=(y:Int):=Int.emod_eq_of_lt (Int.natCast_nonneg y) (by exact_mod_cast hy256);have hex:mb.extract 1 z=bstr ((ml.take z).drop 1):=by rw[←HMB.out];exact bstr_cut ml z (by rw[HLL.out];exact HHZ.out.2)
       have a6:=add_bstr [UInt8.ofNat y] ((ml.take z).drop 1) (by rw[List.length_drop,List.length_take,HLL.out];simp;exact Nat.le_trans (Nat.add_le_add_left (Nat.le_trans (Nat.sub_le _ _) (Nat.min_le_right _ _)) 1) (by decide)) Tryz.prog;rw[List.singleton_append]at a6;have HCN:=Hq (r06_canonical (UInt8.ofNat y::(ml.take z).drop 1) (by rw[List.length_cons,List.length_drop,List.length_take,HLL.out];exact Nat.le_trans (Nat.succ_le_succ (Nat.le_trans (Nat.sub_le _ _) (Nat.min_le_right _ _))) (by decide)));have HFIN:=Hq (show bstr (trimZ (UInt8.ofNat y::(ml.take z).drop 1))=nS (bnat (ml.take ((b+7) / 8))%2 ^ b)from by rw[trimZ_eq,HVAL.out];rfl);obtain⟨L,hL⟩:∃ L,UInt8.ofNat y::(ml.take z).drop 1=L:=⟨_,rfl⟩;rw[hL]at a6 HCN HFIN;obtain⟨m2,hm2⟩:∃ m,bstr ((ml.take z).drop 1)=m:=⟨_,rfl⟩;rw[hm2]at hex a6;obtain⟨r,hr⟩:∃ r,bstr (trimZ L)=r:=⟨_,rfl⟩;rw[hr]at HCN HFIN;obtain⟨lb,hlb⟩:∃ m,bstr L=m:=⟨_,rfl⟩;rw[hlb]at a6 HCN;obtain⟨yb,hyb⟩:∃ m,bstr [UInt8.ofNat y]=m:=⟨_,rfl⟩;rw[hyb]at a6;have HYB:=Hq hyb;have HY6:=Hq hy256;have hz1i:(1:Int)≤(z:Int):=Int.ofNat_le.2 HHZ.out.1;clear hy hL hm2 hr hlb hyb HVAL hlt hy256;have hlti:¬ ((K:Int)≤(K:Int) - 1):=fun h=>by have:=Int.sub_one_lt_iff.2 (Int.le_refl (K:Int));exact absurd (Int.lt_of_lt_of_le this (Int.le_refl _)) (Int.not_lt.2 h)
       go_wp2;obtain⟨wd,hwd⟩:∃ wd,wr.drew=wd:=⟨_,rfl⟩;have HBD:=Hq (show Below w.heap.size w wd from hwd▸HB2.out.drew);refine wp_region_K 10 (Below (wd).heap.size (wd)) (by kernel_rfl) ?_;intro hD;rw[hwd];refine rP 0 59 9 rfl hD blr ?_;clear hD;intro hD;refine rP 1 60 8 rfl hD blr ?_;clear hD;intro hD;refine rP 4 63 7 rfl hD blr ?_;clear hD;intro hD;refine rP 5 64 6 rfl hD blr ?_;clear hD;intro hD;refine rP 6 65 5 rfl hD blr ?_;clear hD;intro hD;simp only[Act.put,sqA,sqB,sqC];refine rO 2 4 rfl hD ?_;clear hD;intro K2 hK2;go_wp2;refine hK2 _ _ (by exact(blr).alloc nlr _) ?_;clear hK2;intro hS_13_2 hD;refine rO 3 3 rfl hD ?_;clear hD;intro K3 hK3;have hby:=one_byte wd y HY6.out;have hconv:=hby.conv 127 9 5 Tryz.underlying127 Tryz.underlying5 Tryz.underlying9;rw[HYB.out]at hconv
       clear hby
       go_wp2;refine hK3 _ _ (by exact hS_13_2) ?_;clear hK3;intro hS_13_3 hD;refine rP 7 66 2 rfl hD hS_13_3 ?_;clear hD;intro hD;simp only[Act.put,sqA,sqB,sqC];refine rO 8 1 rfl hD ?_;clear hD;intro K8 hK8;go_wp2_with fail;refine(HCN.out _).mono ?_;rintro ev w5 ⟨rfl,rfl⟩;go_wp2;refine hK8 _ _ (by exact hS_13_3) ?_;clear hK8;intro hS_13_8 hD;refine rO 9 0 rfl hD ?_;clear hD;intro K9 hK9;go_wp2;refine hK9 _ _ (by exact hS_13_8) ?_;clear hK9;intro hS_13_9 hD;have HL:=Hq hS_13_9;refine wpD ?_;clear hD;go_wp2;go_ret;exact⟨by show Ending.returned (.string r)=_;rw[HFIN.out],HBD.out.trans (HL.out.mono HBD.out.size)⟩
end Go.Proofs.YtopmeciihijgiaaGreatDoor

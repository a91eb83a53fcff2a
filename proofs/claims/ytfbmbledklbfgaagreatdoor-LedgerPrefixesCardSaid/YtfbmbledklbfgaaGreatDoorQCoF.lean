import Derived.Test.YtfbmbledklbfgaaGreatDoorQCoD
set_option linter.unusedVariables false
set_option linter.unusedSimpArgs false
namespace Go.Proofs.YtfbmbledklbfgaaGreatDoor
open Go.RowKit Go.Lib
theorem bx2_off3{W:World}{B C:Nat}{x y a b c:Value}{T:TypeId}(h:Bx2 W B x y T)(hne:B≠C):Bx2 (((W.setCell ⟨C,0,none⟩ a).setCell ⟨C,1,none⟩ b).setCell ⟨C,2,none⟩ c) B x y T:=
 (heap_setCell_other _ _ _ _ hne).trans ((heap_setCell_other _ _ _ _ hne).trans ((heap_setCell_other _ _ _ _ hne).trans h))
theorem coN_lt{l:List ByteArray}{s:ByteArray}{k:Int}{B:ByteArray}(h:(coN l s k B).2=0):(coN l s k B).1<num B:=by
 unfold coN at *;split
 · rename_i h1;rw[if_pos h1]at h;split
   · rename_i h2;rw[if_pos h2]at h;cases h
   · rename_i h2;rw[if_neg h2]at h;exact dwN_ok h
 · rename_i h1;rw[if_neg h1]at h;cases h
set_option maxRecDepth 100000
set_option maxHeartbeats 2000000
def yc(f:Nat→UInt8):Array Value:=(Lib.byteCells ((List.range 64).map f)).toArray
theorem yc_size(f:Nat→UInt8):(yc f).size=64:=by simp[yc,Lib.byteCells]
theorem yc_get(f:Nat→UInt8){i:Nat}(h:i<64):(yc f)[i]? =some (.int .u8 ((f i).toNat:Int)):=by simp[yc,Lib.byteCells,h]
theorem yc_set(f:Nat→UInt8)(i:Nat)(x:UInt8):(yc f).setIfInBounds i (.int .u8 (x.toNat:Int))=yc (fun j=>if j=i then x else f j):=by
 apply Array.ext_getElem?;intro j;rw[Array.getElem?_setIfInBounds];rcases Nat.lt_or_ge j 64 with h | h
 · rw[yc_get _ h,yc_get _ h,yc_size];by_cases e:i=j
   · subst e;simp[h]
   · rw[if_neg e,if_neg (Ne.symm e)]
 · rw[Array.getElem?_eq_none (by rw[yc_size];exact h),Array.getElem?_eq_none (by rw[yc_size];exact h)];by_cases e:i=j
   · subst e;simp[yc_size];omega
   · rw[if_neg e]
def z64b:Array Value:=madeCells #[.int .u8 0] 64
theorem yc_zero:yc (fun _=>0)=z64b:=by kernel_rfl
def gd(l:List UInt8):Nat→UInt8:=fun i=>l.getD i 0
theorem yc_copy(l:List UInt8)(h:l.length≤64):(z64b.toList.take 0++Lib.byteCells l++z64b.toList.drop (0+l.length)).toArray=yc (gd l):=by
 unfold gd;rw[←yc_zero];apply Array.ext_getElem?;intro j;rw[List.take_zero,List.nil_append,Nat.zero_add,List.getElem?_toArray];rcases Nat.lt_or_ge j 64 with hj | hj
 · rw[yc_get _ hj];rcases Nat.lt_or_ge j l.length with hl | hl
   · rw[List.getElem?_append_left (by simpa[Lib.byteCells]using hl)];simp[Lib.byteCells,List.getD_eq_getElem?_getD,hl]
   · rw[List.getElem?_append_right (by simpa[Lib.byteCells]using hl)];have e:l.getD j 0=0:=by simp[List.getD_eq_getElem?_getD,List.getElem?_eq_none hl]
     rw[e,List.getElem?_drop,byteCells_length,Nat.add_sub_cancel' hl,Array.getElem?_toList,yc_get _ hj]
 · rw[Array.getElem?_eq_none (by rw[yc_size];exact hj),List.getElem?_eq_none];simp[Lib.byteCells,yc_size];omega
def RowY(w:World)(B:Nat)(f:Nat→UInt8):Prop:=w.heap[B]? =some (.cells (yc f) 215 (0,0))
theorem RowY.cell{w:World}{B:Nat}{f:Nat→UInt8}(h:RowY w B f){k:Nat}(hk:k<64):w.cell? ⟨B,k,none⟩=some (.int .u8 ((f k).toNat:Int)):=by
 rw[Lib.cell_of_heap h,yc_get f hk]
theorem RowY.free{w:World}{B:Nat}{f:Nat→UInt8}(h:RowY w B f)(k:Nat):w.frozen? ⟨B,k,none⟩=false:=Lib.frozen_of_heap h k
theorem RowY.set{w:World}{B:Nat}{f:Nat→UInt8}(h:RowY w B f)(k:Nat)(x:UInt8):RowY (w.setCell ⟨B,k,none⟩ (.int .u8 (x.toNat:Int))) B (fun j=>if j=k then x else f j):=by
 unfold RowY;rw[block_setCell h,yc_set]
theorem RowY.other{w:World}{B C k:Nat}{f:Nat→UInt8}{v:Value}(h:RowY w B f)(hne:B≠C):RowY (w.setCell ⟨C,k,none⟩ v) B f:=(heap_setCell_other _ _ _ _ hne).trans h
theorem RowY.lt{w:World}{B:Nat}{f:Nat→UInt8}(h:RowY w B f):B<w.heap.size:=block_lt h
theorem RowY.bytes{w:World}{B:Nat}{f:Nat→UInt8}(h:RowY w B f):BytesAt w (some ⟨B,0,none⟩) 64 64 ((List.range 64).map f):=by
 refine⟨by simp,Nat.le_refl _,by omega,fun _=>⟨B,0,rfl,fun k hk=>?_⟩⟩;rw[Nat.zero_add,h.cell hk];simp[byteI,hk]
theorem xor_54_all:∀ n,n<256→bits .xor .u8 ((n:Nat):Int) 54=((UInt8.ofNat n ^^^ 54).toNat:Int):=by decide +kernel
theorem xor_92_all:∀ n,n<256→bits .xor .u8 ((n:Nat):Int) 92=((UInt8.ofNat n ^^^ 92).toNat:Int):=by decide +kernel
theorem xor_54(x:UInt8):bits .xor .u8 (x.toNat:Int) 54=((x ^^^ 54).toNat:Int):=by
 have:=xor_54_all x.toNat x.toNat_lt;rwa[UInt8.ofNat_toNat]at this
theorem xor_92(x:UInt8):bits .xor .u8 (x.toNat:Int) 92=((x ^^^ 92).toNat:Int):=by
 have:=xor_92_all x.toNat x.toNat_lt;rwa[UInt8.ofNat_toNat]at this
theorem app_data(a b:ByteArray):(a++b).data.toList=a.data.toList++b.data.toList:=by simp
theorem RowY.set_off{w:World}{B C k j:Nat}{f:Nat→UInt8}{v u:Value}{g:Nat→UInt8}(h:RowY (w.setCell ⟨B,k,none⟩ v) B g)(h0:RowY w B f)(hne:B≠C):RowY ((w.setCell ⟨C,j,none⟩ u).setCell ⟨B,k,none⟩ v) B g:=by
 have h1:(w.setCell ⟨C,j,none⟩ u).heap[B]? =w.heap[B]?:=heap_setCell_other _ _ _ _ hne;unfold RowY at h h0⊢;rw[block_setCell (h1.trans h0)];rw[block_setCell h0]at h;exact h
def xk(l:List UInt8)(x:UInt8)(k:Nat)(j:Nat):UInt8:=if j<k then l.getD j 0 ^^^ x else l.getD j 0
theorem xk_zero(l:List UInt8)(x:UInt8):xk l x 0=gd l:=by funext j;simp[xk,gd]
theorem xk_step(l:List UInt8)(x:UInt8)(k:Nat):(fun j=>if j=k then xk l x k k ^^^ x else xk l x k j)=xk l x (k+1):=by
 funext j
 unfold xk;by_cases e:j=k
 · subst e;simp
 · rw[if_neg e];by_cases h:j<k
   · rw[if_pos h,if_pos (by omega)]
   · rw[if_neg h,if_neg (by omega)]
theorem xk_all(l:List UInt8)(x:UInt8):(List.range 64).map (xk l x 64)=xorL l x:=by
 unfold xorL;apply List.map_congr_left;intro i hi;have : i<64:=by simpa using hi
 simp[xk,this]
theorem copy_run64(w:World)(g:Nat)(hg:w.heap[g]? =some (.cells z64b 215 (0,0)))(s:ByteArray)(hs:s.size≤64)(ty:TypeId) :
 (Builtin.copy_ #[108,9] ty #[.slice (some ⟨g,0,none⟩) 64 64,.string s]).run Tryz.prog w=.ok (goInt s.size) (w.setRow g (yc (gd s.data.toList))):=by
 rw[←yc_copy s.data.toList (by rw[Array.length_toList];exact hs)];have hl:s.data.toList.length=s.size:=Array.length_toList;rw[hl];exact run_copy_row_string _ _ _ _ 5 _ _ _ _ _ _ _ Tryz.underlying108 (by kernel_rfl) hg hs (by unfold z64b;rw[size_madeCells];show 0+s.size≤64 * 1;omega)
theorem h_Mac64(key s:ByteArray)(hk:key.size≤64)(hs:s.size≤100000000)(w:World):Calls Tryz.prog 141 #[.string key,.string s] w (Ret (.string (bstr (macL key.data.toList s.data.toList))) w):=by
 obtain⟨l,hl⟩:∃ l,key.data.toList=l:=⟨_,rfl⟩;have hll:l.length=key.size:=by rw[←hl];exact Array.length_toList
 have HR:=Hq (show macL l s.data.toList=shaL (xorL l 92++shaL (xorL l 54++s.data.toList))from by unfold macL;rw[if_neg (by omega)]);have HCR:=Hq (fun W g hg ty=>copy_run64 W g hg key hk ty);rw[hl]at HCR;have HS1:=Hq (h_Sum (bstr (xorL l 54)++s) (by rw[ByteArray.size_append,bstr_size];simp[xorL];omega));have HS2:=Hq (h_Sum (bstr (xorL l 92)++bstr (shaL (xorL l 54++s.data.toList))) (by rw[ByteArray.size_append,bstr_size,bstr_size,shaL_length];simp[xorL]));have HSS:=Hq hs;rw[hl,HR.out];have hlei:decide ((64:Int)<(key.size:Int))=false:=decide_eq_false (by omega);clear hl hll hk hs HR;go_enter Tryz.func141,Tryz.ntmps141;go_upto_region 3 with(fail)
 clear hlei;obtain⟨P,hP⟩:∃ P,w.heap.size=P:=⟨_,rfl⟩;obtain⟨w1,hw1⟩:∃ W,w.alloc (.cells z64b 215)=W:=⟨_,rfl⟩;have hs1:w1.heap.size=P+1:=by rw[←hw1,←hP];simp
 have hz1:w1.heap[P]? =some (.cells z64b 215 (0,0)):=by rw[←hw1,←hP];exact heap_alloc_new _ _
 have hb1:Below P w w1:=by rw[←hw1,←hP];exact(blr).alloc nlr _
 obtain⟨w2,hw2⟩:∃ W,w1.alloc (.cells z64b 215)=W:=⟨_,rfl⟩;have hz2:w2.heap[P+1]? =some (.cells z64b 215 (0,0)):=by rw[←hw2,←hs1];exact heap_alloc_new _ _
 have hb2:Below w1.heap.size w1 w2:=by rw[←hw2];exact(blr).alloc nlr _
 have HZ1:=Hq ((hb2.block P (by omega)).trans hz1);have HZ2:=Hq hz2;have HB2:=Hq (hb1.trans (hb2.mono (by omega)));go_step;refine Great.wpList_allocTo rfl _ rfl (.pointer (some ⟨P,0,none⟩)) (.cells z64b 215) (by rw[←hP];kernel_rfl) ?_;rw[hw1];refine Great.wpList_allocTo rfl _ rfl (.pointer (some ⟨P+1,0,none⟩)) (.cells z64b 215) (by rw[←hs1];kernel_rfl) ?_;rw[hw2];have HP:=Hq hP;clear hw1 hw2 hz1 hz2 hb1 hb2 hs1 hP;simp only[Act.put,sqA,sqB,sqC];go_upto_region 5 with(refine wpList_copy_ran _ rfl (.tmp 13) (.tmp 14) 108 9 rfl _ _ rfl rfl (HCR.out _ P HZ1.out _) ?_)
 go_upto_region 6 with(refine wpList_copy_ran _ rfl (.tmp 16) (.tmp 17) 108 9 rfl _ _ rfl rfl (HCR.out _ (P+1) ((setRow_other _ _ _ _ (by omega)).trans HZ2.out) _) ?_)
 have hr1:RowY ((w2.setRow P (yc (gd l))).setRow (P+1) (yc (gd l))) P (xk l 54 0):=(by rw[xk_zero];exact(setRow_other _ _ _ _ (by omega)).trans (setRow_heap _ _ _ _ _ _ HZ1.out));have hr2:RowY ((w2.setRow P (yc (gd l))).setRow (P+1) (yc (gd l))) (P+1) (xk l 92 0):=(by rw[xk_zero];exact setRow_heap _ _ _ _ _ _ ((setRow_other _ _ _ _ (by omega)).trans HZ2.out));have hb3:Below P w ((w2.setRow P (yc (gd l))).setRow (P+1) (yc (gd l))):=below_setRow (below_setRow HB2.out nlr _) (by omega) _;obtain⟨w3,hw3⟩:∃ W,(w2.setRow P (yc (gd l))).setRow (P+1) (yc (gd l))=W:=⟨_,rfl⟩;rw[hw3]at hr1 hr2 hb3⊢;have HR1:=Hq hr1;have HR2:=Hq hr2;have HB3:=Hq hb3;clear hw3 hr1 hr2 hb3 HCR HZ1 HZ2 HB2;simp only[Act.put,sqA,sqB,sqC];go_wp2;go_loopw [19] (fun v wr=>∃ k:Nat,k≤64∧v=.int .i64 k∧RowY wr P (xk l 54 k)∧RowY wr (P+1) (xk l 92 k)∧Below P w wr) (fun v _=>64 - (RowKit.intOf v).toNat);case atStart=>exact⟨0,by omega,rfl,HR1.out,HR2.out,HB3.out⟩
 case round =>
  obtain⟨k,hk,rfl,hy1,hy2,hb⟩:=hrel;have HY1:=Hq hy1;have HY2:=Hq hy2;have HB:=Hq hb;clear hy1 hy2 hb HR1 HR2 HB3;by_cases hlt:k<64
  · have hki:(k:Int)<64:=by omega
    have HK:=Hq hlt;have d0:=HY1.out.cell hlt;have d1:=HY2.out.cell hlt;have f0:=HY1.out.free k;have f1:=HY2.out.free k;obtain⟨x1,hx1⟩:∃ x,xk l 54 k k=x:=⟨_,rfl⟩;obtain⟨x2,hx2⟩:∃ x,xk l 92 k k=x:=⟨_,rfl⟩;have HX1:=Hq hx1;have HX2:=Hq hx2;rw[hx1]at d0;rw[hx2]at d1;clear hx1 hx2 hlt hk;go_wp2;rw[xor_54 x1,xor_92 x2];have h1:=HY1.out.set k (x1 ^^^ 54);have h2:=HY2.out.set k (x2 ^^^ 92);rw[←HX1.out,xk_step]at h1;rw[←HX2.out,xk_step]at h2;refine⟨⟨k+1,by have:=HK.out;omega,by go_num,?_,?_,?_⟩,?_⟩
    · rw[←HX1.out];exact h1.other (by omega)
    · rw[←HX2.out];exact RowY.set_off h2 HY2.out (by omega)
    · exact(HB.out.setCell (p:=⟨P,k,none⟩) (Nat.le_refl P) _).setCell (p:=⟨P+1,k,none⟩) (show P≤P+1 by omega) _
    · have:=HK.out;simp[RowKit.intOf];omega
  · obtain rfl:k=64:=by omega
    have hki:¬ (((64:Nat):Int)<64):=by omega
    have HC1:=Hq (show BytesAt wr (some ⟨P,0,none⟩) 64 64 (xorL l 54)from by rw[←xk_all];exact HY1.out.bytes);have HC2:=Hq (show BytesAt wr (some ⟨P+1,0,none⟩) 64 64 (xorL l 92)from by rw[←xk_all];exact HY2.out.bytes);rw[app_data,bstr_data]at HS1;rw[app_data,bstr_data,bstr_data]at HS2;obtain⟨a1,ha1⟩:∃ z,bstr (xorL l 54)=z:=⟨_,rfl⟩;obtain⟨a2,ha2⟩:∃ z,bstr (xorL l 92)=z:=⟨_,rfl⟩;obtain⟨m1,hm1⟩:∃ z,bstr (shaL (xorL l 54++s.data.toList))=z:=⟨_,rfl⟩;obtain⟨m2,hm2⟩:∃ z,bstr (shaL (xorL l 92++shaL (xorL l 54++s.data.toList)))=z:=⟨_,rfl⟩;have HA1:=Hq ha1;have HA2:=Hq ha2;have HM2:=Hq hm2;rw[ha1,hm1]at HS1;rw[ha2,hm1,hm2]at HS2;have hz1:¬ (9223372036854775807<a1.size+s.size):=by rw[←ha1,bstr_size];have:=HSS.out;simp[xorL];omega
    have hz2:¬ (9223372036854775807<a2.size+m1.size):=by rw[←ha2,←hm1,bstr_size,bstr_size,shaL_length];simp[xorL]
    have HLT:=Hq HY2.out.lt;clear ha1 ha2 hm1 hm2 hk hlt;go_wp2;obtain⟨wd,hwd⟩:∃ wd,wr.drew=wd:=⟨_,rfl⟩;have HD1:=Hq (show BytesAt wd (some ⟨P,0,none⟩) 64 64 (xorL l 54)from hwd▸HC1.out);have HD2:=Hq (show BytesAt wd (some ⟨P+1,0,none⟩) 64 64 (xorL l 92)from hwd▸HC2.out);have HBD:=Hq (show Below P w wd from hwd▸HB.out.drew);have HPD:=Hq (show P+1<wd.heap.size from hwd▸HLT.out);clear HC1 HC2;refine wp_region_K 10 (Below (wd).heap.size (wd)) (by kernel_rfl) ?_;intro hD;rw[hwd];refine rP 0 33 9 rfl hD blr ?_;clear hD;intro hD;refine wpAnyK_takeSD (i:=1) (d:=some 34) (v:=(.string a2)) (fuel:=8) rfl (by kernel_rfl) (by kernel_rfl) (by kernel_rfl) (fun _ _ _ h=>h) hD blr (.inl ⟨by kernel_rfl,?y12_1b1⟩) ?n12_1b1;case y12_1b1 =>
     intro w' hS';have hcv:=((HD2.out.keptB hS' HPD.out).conv 108 9 5 Tryz.underlying108 Tryz.underlying5 Tryz.underlying9);rw[HA2.out]at hcv;go_simp
    clear hD;intro hD;refine rP 2 35 7 rfl hD blr ?_;clear hD;intro hD;refine wpAnyK_takeSD (i:=3) (d:=some 36) (v:=(.string a1)) (fuel:=6) rfl (by kernel_rfl) (by kernel_rfl) (by kernel_rfl) (fun _ _ _ h=>h) hD blr (.inl ⟨by kernel_rfl,?y12_3b1⟩) ?n12_3b1;case y12_3b1 =>
     intro w' hS';have hcv:=((HD1.out.keptB hS' (by have:=HPD.out;omega)).conv 108 9 5 Tryz.underlying108 Tryz.underlying5 Tryz.underlying9);rw[HA1.out]at hcv;go_simp
    clear hD;intro hD;refine rP 4 37 5 rfl hD blr ?_;clear hD;intro hD;refine rP 5 38 4 rfl hD blr ?_;clear hD;intro hD;simp only[Act.put,sqA,sqB,sqC];refine rO 6 3 rfl hD ?_;clear hD;intro K6 hK6;go_wp2_with fail;refine(HS1.out _).mono ?_;rintro ev w4 ⟨rfl,hb⟩;have HB6:=Hq hb;clear hb;go_wp2;refine hK6 _ _ (by exact HB6.out) ?_;clear hK6;intro hS_12_6 hD;refine rP 7 40 2 rfl hD hS_12_6 ?_;clear hD;intro hD;simp only[Act.put,sqA,sqB,sqC];refine rO 8 1 rfl hD ?_;clear hD;intro K8 hK8;go_wp2_with fail;refine(HS2.out _).mono ?_;rintro ev w5 ⟨rfl,hb⟩;have HB8:=Hq hb;clear hb;go_wp2;refine hK8 _ _ (by exact Below.trans hS_12_6 (Below.mono HB8.out (Below.size hS_12_6))) ?_;clear hK8;intro hS_12_8 hD;refine rO 9 0 rfl hD ?_;clear hD;intro K9 hK9;go_wp2;refine hK9 _ _ (by exact hS_12_8) ?_;clear hK9;intro hS_12_9 hD;have HL:=Hq hS_12_9;refine wpD ?_;clear hD;go_wp2;go_ret;exact⟨by show Ending.returned (.string m2)=_;rw[HM2.out],by rw[HP.out];exact HBD.out.trans (HL.out.mono (by have:=HPD.out;omega))⟩
theorem h_Mac(key s:ByteArray)(hkk:key.size≤1000000)(hs:s.size≤100000000)(w:World):Calls Tryz.prog 141 #[.string key,.string s] w (Ret (.string (bstr (macL key.data.toList s.data.toList))) w):=by
 by_cases h64:key.size≤64
 · exact h_Mac64 key s h64 hs w
 obtain⟨k2,hk2⟩:∃ k,bstr (shaL key.data.toList)=k:=⟨_,rfl⟩;obtain⟨l,hl⟩:∃ l,k2.data.toList=l:=⟨_,rfl⟩;have hll:key.data.toList.length=key.size:=Array.length_toList;have hk:k2.size≤64:=by rw[←hk2,bstr_size,shaL_length];decide
 have hl2:shaL key.data.toList=l:=by rw[←hl,←hk2,bstr_data]
 have HR:=Hq (show macL key.data.toList s.data.toList=shaL (xorL l 92++shaL (xorL l 54++s.data.toList))from by unfold macL;rw[if_pos (by omega),hl2]);have HSK:=Hq (h_Sum key (by omega));rw[hk2]at HSK;have HCR:=Hq (fun W g hg ty=>copy_run64 W g hg k2 hk ty);rw[hl]at HCR;have HS1:=Hq (h_Sum (bstr (xorL l 54)++s) (by rw[ByteArray.size_append,bstr_size];simp[xorL];omega));have HS2:=Hq (h_Sum (bstr (xorL l 92)++bstr (shaL (xorL l 54++s.data.toList))) (by rw[ByteArray.size_append,bstr_size,bstr_size,shaL_length];simp[xorL]));have HSS:=Hq hs;rw[HR.out];have hlei:decide ((64:Int)<(key.size:Int))=true:=decide_eq_true (by omega);clear hl hll hk hs HR hl2 hk2 h64 hkk;go_enter Tryz.func141,Tryz.ntmps141;go_wp2_with fail;refine(HSK.out _).mono ?_;rintro ev w0 ⟨rfl,hb⟩;have HW0:=Hq hb;clear hb;go_upto_region 3 with(fail)
 clear hlei;obtain⟨P,hP⟩:∃ P,w0.heap.size=P:=⟨_,rfl⟩;obtain⟨w1,hw1⟩:∃ W,w0.alloc (.cells z64b 215)=W:=⟨_,rfl⟩;have hs1:w1.heap.size=P+1:=by rw[←hw1,←hP];simp
 have hz1:w1.heap[P]? =some (.cells z64b 215 (0,0)):=by rw[←hw1,←hP];exact heap_alloc_new _ _
 have hb1:Below P w0 w1:=by rw[←hw1,←hP];exact(blr).alloc nlr _
 obtain⟨w2,hw2⟩:∃ W,w1.alloc (.cells z64b 215)=W:=⟨_,rfl⟩;have hz2:w2.heap[P+1]? =some (.cells z64b 215 (0,0)):=by rw[←hw2,←hs1];exact heap_alloc_new _ _
 have hb2:Below w1.heap.size w1 w2:=by rw[←hw2];exact(blr).alloc nlr _
 have HZ1:=Hq ((hb2.block P (by omega)).trans hz1);have HZ2:=Hq hz2;have HB2:=Hq (hb1.trans (hb2.mono (by omega)));go_step;refine Great.wpList_allocTo rfl _ rfl (.pointer (some ⟨P,0,none⟩)) (.cells z64b 215) (by rw[←hP];kernel_rfl) ?_;rw[hw1];refine Great.wpList_allocTo rfl _ rfl (.pointer (some ⟨P+1,0,none⟩)) (.cells z64b 215) (by rw[←hs1];kernel_rfl) ?_;rw[hw2];have HP:=Hq hP;clear hw1 hw2 hz1 hz2 hb1 hb2 hs1 hP;simp only[Act.put,sqA,sqB,sqC];go_upto_region 5 with(refine wpList_copy_ran _ rfl (.tmp 13) (.tmp 14) 108 9 rfl _ _ rfl rfl (HCR.out _ P HZ1.out _) ?_)
 go_upto_region 6 with(refine wpList_copy_ran _ rfl (.tmp 16) (.tmp 17) 108 9 rfl _ _ rfl rfl (HCR.out _ (P+1) ((setRow_other _ _ _ _ (by omega)).trans HZ2.out) _) ?_)
 have hr1:RowY ((w2.setRow P (yc (gd l))).setRow (P+1) (yc (gd l))) P (xk l 54 0):=(by rw[xk_zero];exact(setRow_other _ _ _ _ (by omega)).trans (setRow_heap _ _ _ _ _ _ HZ1.out));have hr2:RowY ((w2.setRow P (yc (gd l))).setRow (P+1) (yc (gd l))) (P+1) (xk l 92 0):=(by rw[xk_zero];exact setRow_heap _ _ _ _ _ _ ((setRow_other _ _ _ _ (by omega)).trans HZ2.out));have hb3:Below P w0 ((w2.setRow P (yc (gd l))).setRow (P+1) (yc (gd l))):=below_setRow (below_setRow HB2.out nlr _) (by omega) _;obtain⟨w3,hw3⟩:∃ W,(w2.setRow P (yc (gd l))).setRow (P+1) (yc (gd l))=W:=⟨_,rfl⟩;rw[hw3]at hr1 hr2 hb3⊢;have HR1:=Hq hr1;have HR2:=Hq hr2;have HB3:=Hq hb3;clear hw3 hr1 hr2 hb3 HCR HZ1 HZ2 HB2;simp only[Act.put,sqA,sqB,sqC];go_wp2;go_loopw [19] (fun v wr=>∃ k:Nat,k≤64∧v=.int .i64 k∧RowY wr P (xk l 54 k)∧RowY wr (P+1) (xk l 92 k)∧Below P w0 wr) (fun v _=>64 - (RowKit.intOf v).toNat);case atStart=>exact⟨0,by omega,rfl,HR1.out,HR2.out,HB3.out⟩
 case round =>
  obtain⟨k,hk,rfl,hy1,hy2,hb⟩:=hrel;have HY1:=Hq hy1;have HY2:=Hq hy2;have HB:=Hq hb;clear hy1 hy2 hb HR1 HR2 HB3;by_cases hlt:k<64
  · have hki:(k:Int)<64:=by omega
    have HK:=Hq hlt;have d0:=HY1.out.cell hlt;have d1:=HY2.out.cell hlt;have f0:=HY1.out.free k;have f1:=HY2.out.free k;obtain⟨x1,hx1⟩:∃ x,xk l 54 k k=x:=⟨_,rfl⟩;obtain⟨x2,hx2⟩:∃ x,xk l 92 k k=x:=⟨_,rfl⟩;have HX1:=Hq hx1;have HX2:=Hq hx2;rw[hx1]at d0;rw[hx2]at d1;clear hx1 hx2 hlt hk;go_wp2;rw[xor_54 x1,xor_92 x2];have h1:=HY1.out.set k (x1 ^^^ 54);have h2:=HY2.out.set k (x2 ^^^ 92);rw[←HX1.out,xk_step]at h1;rw[←HX2.out,xk_step]at h2;refine⟨⟨k+1,by have:=HK.out;omega,by go_num,?_,?_,?_⟩,?_⟩
    · rw[←HX1.out];exact h1.other (by omega)
    · rw[←HX2.out];exact RowY.set_off h2 HY2.out (by omega)
    · exact(HB.out.setCell (p:=⟨P,k,none⟩) (Nat.le_refl P) _).setCell (p:=⟨P+1,k,none⟩) (show P≤P+1 by omega) _
    · have:=HK.out;simp[RowKit.intOf];omega
  · obtain rfl:k=64:=by omega
    have hki:¬ (((64:Nat):Int)<64):=by omega
    have HC1:=Hq (show BytesAt wr (some ⟨P,0,none⟩) 64 64 (xorL l 54)from by rw[←xk_all];exact HY1.out.bytes);have HC2:=Hq (show BytesAt wr (some ⟨P+1,0,none⟩) 64 64 (xorL l 92)from by rw[←xk_all];exact HY2.out.bytes);rw[app_data,bstr_data]at HS1;rw[app_data,bstr_data,bstr_data]at HS2;obtain⟨a1,ha1⟩:∃ z,bstr (xorL l 54)=z:=⟨_,rfl⟩;obtain⟨a2,ha2⟩:∃ z,bstr (xorL l 92)=z:=⟨_,rfl⟩;obtain⟨m1,hm1⟩:∃ z,bstr (shaL (xorL l 54++s.data.toList))=z:=⟨_,rfl⟩;obtain⟨m2,hm2⟩:∃ z,bstr (shaL (xorL l 92++shaL (xorL l 54++s.data.toList)))=z:=⟨_,rfl⟩;have HA1:=Hq ha1;have HA2:=Hq ha2;have HM2:=Hq hm2;rw[ha1,hm1]at HS1;rw[ha2,hm1,hm2]at HS2;have hz1:¬ (9223372036854775807<a1.size+s.size):=by rw[←ha1,bstr_size];have:=HSS.out;simp[xorL];omega
    have hz2:¬ (9223372036854775807<a2.size+m1.size):=by rw[←ha2,←hm1,bstr_size,bstr_size,shaL_length];simp[xorL]
    have HLT:=Hq HY2.out.lt;clear ha1 ha2 hm1 hm2 hk hlt;go_wp2;obtain⟨wd,hwd⟩:∃ wd,wr.drew=wd:=⟨_,rfl⟩;have HD1:=Hq (show BytesAt wd (some ⟨P,0,none⟩) 64 64 (xorL l 54)from hwd▸HC1.out);have HD2:=Hq (show BytesAt wd (some ⟨P+1,0,none⟩) 64 64 (xorL l 92)from hwd▸HC2.out);have HBD:=Hq (show Below P w0 wd from hwd▸HB.out.drew);have HPD:=Hq (show P+1<wd.heap.size from hwd▸HLT.out);clear HC1 HC2;refine wp_region_K 10 (Below (wd).heap.size (wd)) (by kernel_rfl) ?_;intro hD;rw[hwd];refine rP 0 33 9 rfl hD blr ?_;clear hD;intro hD;refine wpAnyK_takeSD (i:=1) (d:=some 34) (v:=(.string a2)) (fuel:=8) rfl (by kernel_rfl) (by kernel_rfl) (by kernel_rfl) (fun _ _ _ h=>h) hD blr (.inl ⟨by kernel_rfl,?y12_1b2⟩) ?n12_1b2;case y12_1b2 =>
     intro w' hS';have hcv:=((HD2.out.keptB hS' HPD.out).conv 108 9 5 Tryz.underlying108 Tryz.underlying5 Tryz.underlying9);rw[HA2.out]at hcv;go_simp
    clear hD;intro hD;refine rP 2 35 7 rfl hD blr ?_;clear hD;intro hD;refine wpAnyK_takeSD (i:=3) (d:=some 36) (v:=(.string a1)) (fuel:=6) rfl (by kernel_rfl) (by kernel_rfl) (by kernel_rfl) (fun _ _ _ h=>h) hD blr (.inl ⟨by kernel_rfl,?y12_3b2⟩) ?n12_3b2;case y12_3b2 =>
     intro w' hS';have hcv:=((HD1.out.keptB hS' (by have:=HPD.out;omega)).conv 108 9 5 Tryz.underlying108 Tryz.underlying5 Tryz.underlying9);rw[HA1.out]at hcv;go_simp
    clear hD;intro hD;refine rP 4 37 5 rfl hD blr ?_;clear hD;intro hD;refine rP 5 38 4 rfl hD blr ?_;clear hD;intro hD;simp only[Act.put,sqA,sqB,sqC];refine rO 6 3 rfl hD ?_;clear hD;intro K6 hK6;go_wp2_with fail;refine(HS1.out _).mono ?_;rintro ev w4 ⟨rfl,hb⟩;have HB6:=Hq hb;clear hb;go_wp2;refine hK6 _ _ (by exact HB6.out) ?_;clear hK6;intro hS_12_6 hD;refine rP 7 40 2 rfl hD hS_12_6 ?_;clear hD;intro hD;simp only[Act.put,sqA,sqB,sqC];refine rO 8 1 rfl hD ?_;clear hD;intro K8 hK8;go_wp2_with fail;refine(HS2.out _).mono ?_;rintro ev w5 ⟨rfl,hb⟩;have HB8:=Hq hb;clear hb;go_wp2;refine hK8 _ _ (by exact Below.trans hS_12_6 (Below.mono HB8.out (Below.size hS_12_6))) ?_;clear hK8;intro hS_12_8 hD;refine rO 9 0 rfl hD ?_;clear hD;intro K9 hK9;go_wp2;refine hK9 _ _ (by exact hS_12_8) ?_;clear hK9;intro hS_12_9 hD;have HL:=Hq hS_12_9;refine wpD ?_;clear hD;go_wp2;go_ret;exact⟨by show Ending.returned (.string m2)=_;rw[HM2.out],by exact HW0.out.trans (by have h:=HBD.out.trans (HL.out.mono (by have:=HPD.out;omega));rw[←HP.out]at h;exact h.mono HW0.out.size)⟩
def T10 (w : World) : Prop := Lib.TabIs Tryz.prog w "internal/strconv.uint64pow10" .u64 Lib.pow10Tab
theorem T10.kept{B:Nat}{w w':World}(h:T10 w)(hb:Below B w w')(hB:w.heap.size≤B):T10 w':=by
 unfold T10 Lib.TabIs World.var? at *
 cases hg : Tryz.prog.globalNamed "internal/strconv.uint64pow10" with
 | none=>rw[hg]at h;cases h
 | some g =>
  rw[hg]at h;simp only[Option.bind_some]at h⊢;have hlt:g<w.heap.size:=by
   rcases Nat.lt_or_ge g w.heap.size with a | a
   · exact a
   · rw[Array.getElem?_eq_none a]at h;cases h
  rw[hb.block g (Nat.lt_of_lt_of_le hlt hB)];exact h
theorem T10.next{w w':World}(h:T10 w)(hb:Below w.heap.size w w'):T10 w':=h.kept hb nlr
theorem below_grown(w:World)(k:Nat)(os:Array Obj):Below w.heap.size w (Go.Sort.grow (w.drewN k) os):=
 ⟨rfl,rfl,rfl,by show w.heap.size≤(w.heap++os).size;rw[Array.size_append];omega,fun j hj=>by show (w.heap++os)[j]? =w.heap[j]?;rw[Array.getElem?_append_left hj]⟩
theorem itoa_digits(n:Nat):Lib.itoa (n:Int)=Lib.decDigits n:=by
 unfold Lib.itoa;rw[if_neg (by omega),Int.toNat_natCast]
theorem sc_Itoa(n:Nat)(hn:n<9223372036854775808)(w:World)(ht:T10 w):Calls Tryz.prog 140 #[.int .i64 n] w (Ret (.string (bstr (Lib.decDigits n))) w):=by
 refine(Tryz.strconv_Itoa (n:Int) (by omega) (by omega) w ht).mono ?_;rintro e w' ⟨rfl,k,os,rfl⟩;rw[itoa_digits];exact⟨rfl,below_grown w k os⟩
set_option maxRecDepth 100000
set_option maxHeartbeats 2000000
open Go.RowKit Go.Shelf Go.Lib
attribute [local go_sem] Oper.semAt_some
def SeqFirst(F:Fence)(n:Nat)(P:Program)(g:Nat)(lb:Array Value)(args:Array Value)(w:World):Prop:=
 ∀(l:Nat) (J Jx:Unit→World→Prop) (W:World),Below w.heap.size w W→AbidesFrom W.heap.size J→AbidesFrom W.heap.size Jx →
  (∀ W1,J () W1→YieldAt F (n - 1) P l args W1 fun e W'=>e=.returned (.bool false)∧Jx () W')→J () W →
  CallsIn F n P g (#[.func (.yield l) #[] #[]]++lb) W fun e W'=>(∃ v,e=.returned v)∧Jx () W'
theorem rangeFunc_first{F:Fence}{n:Nat}{P:Program}{g:Operand}{ps:Array Tmp}{assign body:Code}{Q:Exit→Act→World→Prop}{a:Act}{w:World}
 (hro:F.round=none) (h1:1≤n) {gf:Nat} {lb:Array Value} (hg:a.eval g=.func (.func gf) #[] lb) (hFg:F.fn gf) (eg:∀ args w,(callFunc gf args).run P w=.ok (.enter gf args) w)
 {args:Array Value} {w0:World} (hseq:SeqFirst F (n - 1) P gf lb args w0) (hb0:Below w0.heap.size w0 w) (hps:args.size=ps.size)
 (I:Unit→World→Prop) (Ix:Code→Unit→World→Prop) (hI:OwnFrom w.heap.size I) (hIx:∀ c,OwnFrom w.heap.size (Ix c)) (h0:I () w) (Fr:Array Value→Array Value)
 (hassign:∀(l:Nat) (W:World) (K:Act→World→Prop),K { tmps:=Fr a.tmps,defers:=[] } W→assign.wpIn (F.inRound l) (n - 1 - 1) P (Exit.then K (fun _ _ _=>False)) { tmps:=(ps.zip args).foldl (fun t (p,v)=>t.setIfInBounds p v) a.tmps,defers:=[] } W)
 (hbody:∀(l:Nat) (W:World),I () W→body.wpIn (F.inRound l) (n - 1 - 1) P (ownPostK (fun _ _=>False) (fun(_:List Unit) _=>True) (fun c (_:List Unit) W=>Ix c () W) [] W) { tmps:=Fr a.tmps,defers:=[] } W)
 (hstop:∀(D:Nat) (c:Code) (W:World),w.heap.size≤D→Ix c () W→W.heap[D]? =some (.deferred (some []))→c.wpIn F n P Q { a with defers:={ target:=.collected D,args:=#[] }::a.defers } W) :
 (Code.rangeFunc g ps assign body).wpIn F n P Q a w:=by
 refine wpIn_rangeFunc fun fn hfn=>?_;rw[hro];obtain⟨R,hR⟩:∃ R:LoopState→Option Code→Loop,R=fun st pe => { state:=st,pending:=pe,fn,tmps:=a.tmps,params:=ps,assign,body,defers:=w.heap.size }:=⟨_,rfl⟩;obtain⟨V,hV⟩:∃ V,(w.alloc (.deferred (some []))).alloc (.loop (R .ready none))=V:=⟨_,rfl⟩;obtain⟨L,hL⟩:∃ L,L=w.heap.size+1:=⟨_,rfl⟩;have rowL:V.heap[L]? =some (.loop (R .ready none)):=by
  have:=World.alloc_heap_new (w.alloc (.deferred (some []))) (.loop (R .ready none));rw[World.size_alloc]at this;rw[←hV,hL];exact this
 have rowD:V.heap[w.heap.size]? =some (.deferred (some [])):=(by rw[←hV];exact(Below.heap_alloc _ _ _ (by simp)).trans (World.alloc_heap_new w _));have iV:I () V:=by rw[←hV];exact hI.alloc _ (hI.alloc _ h0)
 have bV:Below w0.heap.size w0 V:=(by rw[←hV];exact hb0.trans ((((Below.refl _ w).alloc nlr _).alloc (by simp) _).mono hb0.size));have sV:w.heap.size≤V.heap.size:=by rw[←hV];simp;omega
 refine⟨L,[{ target:=.collected w.heap.size,args:=#[] }],V,{ target:=.fn (.func gf) lb,args:=#[.func (.yield L) #[] #[]] },V,gf,#[.func (.yield L) #[] #[]]++lb,V,?_,?_,?_,?_,fun _=>h1,?_⟩
 · rw[←hV,hR,hL];exact run_enterLoop_outer _ _ _ _ _
 · simp only[resolve,hg];simp[go_sem]
 · intro f' hf';simp[Target.leads]at hf';subst hf';exact hFg
 · simp[invoke,go_sem,eg]
 · have rows:∀ {A:World} {row:Option Nat},(∀ r,row=some r→V.heap.size≤r∧∃ o:Obj,A.heap[r]? =some o∧o.isWalk=true)→(∀ r,row=some r→w.heap.size≤r∧∃ o:Obj,A.heap[r]? =some o∧o.isCells=false):=
    fun hr r e=>by obtain⟨hB,o,ho,hw⟩:=hr r e;exact⟨Nat.le_trans sV hB,o,ho,Obj.not_cells_of_walk hw⟩
   refine(hseq L (fun u W=>I u W∧W.heap[L]? =some (.loop (R .ready none))∧W.heap[w.heap.size]? =some (.deferred (some [])))
    (fun u W=>∃ c,Ix c u W∧W.heap[L]? =some (.loop (R .done (some c)))∧W.heap[w.heap.size]? =some (.deferred (some []))) V bV
    (fun s A B row hs hg' hr=>⟨hI s A B row hs.1 hg' (rows hr),(grownBy_keeps hg' (fun r e=>(hr r e).2) hs.2.1 rfl).trans hs.2.1,(grownBy_keeps hg' (fun r e=>(hr r e).2) hs.2.2 rfl).trans hs.2.2⟩)
    (fun s A B row ⟨c,hc,hl,hk⟩ hg' hr=>⟨c,hIx c s A B row hc hg' (rows hr),(grownBy_keeps hg' (fun r e=>(hr r e).2) hl rfl).trans hl,(grownBy_keeps hg' (fun r e=>(hr r e).2) hk rfl).trans hk⟩)
    ?_ ⟨iV,rowL,rowD⟩).mono ?_
   · rintro W ⟨hi,hl,hk⟩;have hlt:L<W.heap.size:=(Array.getElem?_eq_some_iff.1 hl).1;have hy:=run_yield (P:=P) (args:=args) hl (by rw[hR];exact hps);rw[hR]at hy;refine⟨fn,_,assign,body,hy,roundIn_of_wpIn hfn (hassign _ W _ ⟨_,run_beginRound hl (by rw[hR]),?_⟩)⟩;have hl2:(W.putObj L (.loop { R .ready none with state:=.busy })).heap[L]? =some (.loop { R .ready none with state:=.busy }):=World.putObj_heap_same hlt;have hk2:(W.putObj L (.loop { R .ready none with state:=.busy })).heap[w.heap.size]? =some (.deferred (some [])):=(World.putObj_heap_other (by omega)).trans hk;refine wpIn_mono (hbody _ _ (hI.putObj _ hi (by omega) hl rfl)) ?_;have fin:∀(jump:Option Code) (W3:World),KeepsOthers (W.putObj L (.loop { R .ready none with state:=.busy })) W3 →
      (Instr.endRound L jump).run P W3=.ok (.bool jump.isNone) (W3.putObj L (.loop (R (if jump.isNone then .ready else .done) jump))) ∧
      W3.heap[L]? =some (.loop { R .ready none with state:=.busy }) ∧
      (W3.putObj L (.loop (R (if jump.isNone then .ready else .done) jump))).heap[L]? =some (.loop (R (if jump.isNone then .ready else .done) jump)) ∧
      (W3.putObj L (.loop (R (if jump.isNone then .ready else .done) jump))).heap[w.heap.size]? =some (.deferred (some [])):=fun jump W3 hk3=>by
      have hl3:=hk3.same _ _ hl2 rfl;have:=run_endRound (P:=P) jump hl3;rw[hR]at this⊢;exact⟨this,by rw[hR]at hl3;exact hl3,World.putObj_heap_same (Array.getElem?_eq_some_iff.1 hl3).1,(World.putObj_heap_other (by omega)).trans (hk3.same _ _ hk2 rfl)⟩
     rintro e a3 W3 hp
     cases e with
     | normal=>exact hp.2.1.elim
     | ret =>
      obtain⟨hk3,hi3⟩:=hp;obtain⟨hr,hl3,hl4,hk4⟩:=fin (some .ret) W3 hk3;exact⟨_,_,hr,⟨rfl,.ret,(hIx _).putObj _ hi3 (by omega) hl3 rfl,hl4,hk4⟩⟩
     | exit id =>
      obtain⟨hk3,hi3⟩:=hp;obtain⟨hr,hl3,hl4,hk4⟩:=fin (some (.exit id)) W3 hk3;exact⟨_,_,hr,⟨rfl,.exit id,(hIx _).putObj _ hi3 (by omega) hl3 rfl,hl4,hk4⟩⟩
     | goto t =>
      obtain⟨hk3,hi3⟩:=hp;obtain⟨hr,hl3,hl4,hk4⟩:=fin (some (.goto t)) W3 hk3;exact⟨_,_,hr,⟨rfl,.goto t,(hIx _).putObj _ hi3 (by omega) hl3 rfl,hl4,hk4⟩⟩
     | panic ch=>exact hp.elim
     | outgrown=>exact hp.elim
   · rintro e W2 ⟨⟨v,rfl⟩,⟨c,hi,hl,hk⟩⟩;exact⟨some c,_,by have:=run_endLoop (P:=P) hl (by rw[hR];simp);rw[hR]at this;exact this,hstop _ c _ nlr ((hIx c).putObj _ hi (by omega) hl rfl) ((World.putObj_heap_other (by omega)).trans hk)⟩
theorem abides_belowC{β:Type}{B:Nat}{J:β→World→Prop}(hJ:AbidesFrom B J){s:β}{W W':World}(h:J s W)(hb:Below W.heap.size W W'):J s W':=hJ s W W' none h ⟨hb.os,hb.tape,hb.output,hb.size,fun k hk _=>hb.block k hk⟩ (fun r e=>by cases e)
theorem add_bstr(l m:List UInt8)(h:l.length+m.length≤1000000)(P:Program)(w:World):(Op.stringOp .add (bstr l) (bstr m)).run P w=.ok (.string (bstr (l++m))) w:=by
 rw[run_string_add_sum w _ _ (by rw[bstr_size,bstr_size];omega)];refine congrArg (fun x=>Result.ok (Value.string x) w) ?_;rw[←bstr_of (bstr l++bstr m),app_data,bstr_data,bstr_data]
theorem dec_short(k:Nat)(h:k<2147483648):(Lib.decDigits k).length≤10:=by
 have : ∀(q y:Nat),y<10 ^ (q+1)→(Lib.decDigits y).length≤q+1:=by
  intro q
  induction q with
  | zero=>intro y hy;rw[Lib.decDigits_one (by omega)];simp
  | succ q ih =>
   intro y hy;rw[Lib.decDigits.eq_1 y];split
   · simp
   · have:=ih (y / 10) (by rw[Nat.pow_succ]at hy;omega);simp;omega
 exact this 9 k (by omega)
theorem co_blocks(A:Option Addr)(n cap:Nat)(s:ByteArray)(k a:Int)(w:World):Calls Tryz.prog 121 #[tpV A n cap s k,.int .i64 a] w fun e w'=>e=.returned (.func (.func 139) #[] #[.pointer (some ⟨w.heap.size,0,none⟩),.pointer (some ⟨w.heap.size+1,0,none⟩)])∧w'=(w.alloc (.cells #[.slice A n cap,.string s,.int .i64 k] 30)).alloc (.cells #[.int .i64 a] 3):=by
 unfold tpV;go_enter Tryz.func121,Tryz.ntmps121;go_wp2;go_ret;exact⟨rfl,rfl⟩
theorem blocks_first(q:Nat)(hq:1≤q)(A:Option Addr)(n cap:Nat)(s:ByteArray)(k a:Nat)(hs:s.size≤1000000)(hk:k<2147483648)(ha:a<256)(D E:Nat)(w:World)(hD:TB w D A n cap s k)(hE:w.heap[E]? =some (.cells #[.int .i64 a] 3 (0,0)))(ht:T10 w) :
 SeqFirst Fence.wide q Tryz.prog 139 #[.pointer (some ⟨D,0,none⟩),.pointer (some ⟨E,0,none⟩)] #[.string (bstr (macL s.data.toList (nmL k a 0)))] w:=fun lp J Jx W hW hJ hJx hY h0=>by
 have HT:=Hq (ht.next hW);have HTB:=Hq (hD.nextT hW);have HE:=Hq ((hW.block E (block_lt hE)).trans hE);have HI1:=Hq (fun w ht=>sc_Itoa k (by omega) w ht);have HI2:=Hq (fun w ht=>sc_Itoa a (by omega) w ht);have HI3:=Hq (show ∀ w,T10 w→Calls Tryz.prog 140 #[.int .i64 0] w (Ret (.string (bstr (Lib.decDigits 0))) w)from fun w ht=>sc_Itoa 0 (by omega) w ht);have l1:=dec_short k hk;have l2:=dec_short a (by omega);have l3:=dec_short 0 (by omega);have a1:=add_bstr (Lib.decDigits k) [46] (by simp;omega) Tryz.prog;have a2:=add_bstr (Lib.decDigits k++[46]) (Lib.decDigits a) (by simp;omega) Tryz.prog;have a3:=add_bstr (Lib.decDigits k++[46]++Lib.decDigits a) [46] (by simp;omega) Tryz.prog;have a4:=add_bstr (Lib.decDigits k++[46]++Lib.decDigits a++[46]) (Lib.decDigits 0) (by simp;omega) Tryz.prog;have HM:=Hq (h_Mac s (bstr (nmL k a 0)) hs (by rw[bstr_size];unfold nmL;simp;omega));rw[bstr_data]at HM;rw[show Lib.decDigits k++[46]++Lib.decDigits a++[46]++Lib.decDigits 0=nmL k a 0 from rfl]at a4;rw[show bstr [46]=⟨#[46]⟩from rfl]at a1 a3;obtain⟨d1,hd1⟩:∃ z,bstr (Lib.decDigits k)=z:=⟨_,rfl⟩;obtain⟨d2,hd2⟩:∃ z,bstr (Lib.decDigits a)=z:=⟨_,rfl⟩;obtain⟨d3,hd3⟩:∃ z,bstr (Lib.decDigits 0)=z:=⟨_,rfl⟩;obtain⟨e1,he1⟩:∃ z,bstr (Lib.decDigits k++[46])=z:=⟨_,rfl⟩;obtain⟨e2,he2⟩:∃ z,bstr (Lib.decDigits k++[46]++Lib.decDigits a)=z:=⟨_,rfl⟩;obtain⟨e3,he3⟩:∃ z,bstr (Lib.decDigits k++[46]++Lib.decDigits a++[46])=z:=⟨_,rfl⟩;obtain⟨e4,he4⟩:∃ z,bstr (nmL k a 0)=z:=⟨_,rfl⟩;obtain⟨b0,hb0⟩:∃ z,bstr (macL s.data.toList (nmL k a 0))=z:=⟨_,rfl⟩;rw[hd1]at HI1 a1;rw[hd2]at HI2 a2;rw[hd3]at HI3 a4;rw[he1]at a1 a2;rw[he2]at a2 a3;rw[he3]at a3 a4;rw[he4]at a4 HM;rw[hb0]at HM hY;have HY:=Hq hY;have HJ:=Hq hJ;have HJ0:=Hq h0;clear hY hJ hJx h0 hW hD hE ht l1 l2 l3 hd1 hd2 hd3 he1 he2 he3 he4 hb0 hs ha;refine callsIn_of_wp Tryz.func139 rfl trivial ?_ rfl;simp only[Tryz.ntmps139,List.size_toArray,List.length_cons,List.length_nil,Nat.reduceAdd,Nat.reduceSub,Array.replicate_succ,Array.replicate_zero,List.push_toArray,List.append_toArray,List.nil_append,List.cons_append];gi_wp2;gi_loopw [4] (fun i wr=>i=.int .i64 0∧wr=W) (fun i _=>0);case atStart=>exact⟨rfl,rfl⟩
 case round =>
  obtain⟨rfl,rfl⟩:=hrel;gi_wp2;rename_i KR hKR;refine wpIn_wide.2 ?_;refine wp_onlyN ?_;obtain⟨wd,hwd⟩:∃ wd,wr.drew=wd:=⟨_,rfl⟩;have hbd:Below wr.heap.size wr wd:=by rw[←hwd];exact(blr).drew
  have HTd:=Hq (HT.out.next hbd);obtain⟨c0,c1,c2⟩:=(HTB.out.nextT hbd).c;have x0:wd.cell? ⟨E,0,none⟩=some (.int .i64 a):=by rw[Lib.cell_of_heap ((hbd.block E (block_lt HE.out)).trans HE.out)];rfl
  have HBD:=Hq hbd;clear hbd;refine wp_region_K 12 (Below (wd).heap.size (wd)) (by kernel_rfl) ?_;intro hD;rw[hwd];have KK1:=Hq (fun w' (hS':(Below (wd).heap.size (wd)) w')=>And.intro (kC hS' c0) (And.intro (kC hS' c1) (And.intro (kC hS' c2) (kC hS' x0))));refine rP 0 8 11 rfl hD blr ?_;clear hD;intro hD;refine rT 1 9 10 rfl hD blr (by intro w' hS';obtain⟨e0,e1,e2,e3⟩:=KK1.out w' hS';go_simp;with_reducible rfl) ?_;clear hD;intro hD;refine rT 4 12 9 rfl hD blr (by intro w' hS';obtain⟨e0,e1,e2,e3⟩:=KK1.out w' hS';go_simp;with_reducible rfl) ?_;clear hD;intro hD;refine rP 8 16 8 rfl hD blr ?_;clear hD;intro hD;simp only[Act.put,sqA,sqB,sqC];refine rO 2 7 rfl hD ?_;clear hD;intro K2 hK2;go_wp2_with fail;refine(HI1.out _ HTd.out).mono ?_;rintro ev w2 ⟨rfl,hb⟩;have HB2:=Hq hb;clear hb;go_wp2;refine hK2 _ _ (by exact HB2.out) ?_;clear hK2;intro hS_2_2 hD;refine rP 3 11 6 rfl hD hS_2_2 ?_;clear hD;intro hD;simp only[Act.put,sqA,sqB,sqC];refine rO 5 5 rfl hD ?_;clear hD;intro K5 hK5;go_wp2_with fail;refine(HI2.out _ (HTd.out.next HB2.out)).mono ?_;rintro ev w3 ⟨rfl,hb⟩;have HB5:=Hq hb;clear hb;go_wp2;refine hK5 _ _ (by exact Below.trans hS_2_2 (Below.mono HB5.out (Below.size hS_2_2))) ?_;clear hK5;intro hS_2_5 hD;refine rP 6 14 4 rfl hD hS_2_5 ?_;clear hD;intro hD;refine rP 7 15 3 rfl hD hS_2_5 ?_;clear hD;intro hD;simp only[Act.put,sqA,sqB,sqC];refine rO 9 2 rfl hD ?_;clear hD;intro K9 hK9;go_wp2_with fail;refine(HI3.out _ ((HTd.out.next HB2.out).next HB5.out)).mono ?_;rintro ev w4 ⟨rfl,hb⟩;have HB9:=Hq hb;clear hb;go_wp2;refine hK9 _ _ (by exact Below.trans hS_2_5 (Below.mono HB9.out (Below.size hS_2_5))) ?_;clear hK9;intro hS_2_9 hD;refine rP 10 18 1 rfl hD hS_2_9 ?_;clear hD;intro hD;simp only[Act.put,sqA,sqB,sqC];refine rO 11 0 rfl hD ?_;clear hD;intro K11 hK11;go_wp2;refine hK11 _ _ (by exact hS_2_9) ?_;clear hK11;intro hS_2_11 hD;have HL:=Hq hS_2_11;refine wpD ?_;clear hD;show KR _ _;refine hKR _ _ ?_;clear hKR c0 c1 c2 x0 a1 a2 a3 a4;have hbw:Below wr.heap.size wr w4:=HBD.out.trans (HL.out.mono HBD.out.size);have HJ4:=Hq (abides_belowC HJ.out HJ0.out hbw);obtain⟨c0,c1,c2⟩:=(HTB.out.nextT hbw).c;clear hbw;gi_wp2;refine⟨trivial,callsIn_wide.2 ((HM.out _).mono ?_)⟩;rintro e w5 ⟨rfl,hb⟩;have HJ5:=Hq (abides_belowC HJ.out HJ4.out hb);clear hb c0 c1 c2;obtain⟨fn,tmps,assign,body,hy,hR⟩:=HY.out w5 HJ5.out;have HR:=Hq hR;clear hR;gi_wp2;refine HR.out.mono ?_;rintro ev W' ⟨rfl,hJx'⟩;have HX:=Hq hJx';clear hJx';gi_wp2;refine bodyPost_ret (results_none rfl _ _ _) rfl ?_;exact⟨⟨_,rfl⟩,HX.out⟩
end Go.Proofs.YtfbmbledklbfgaaGreatDoor

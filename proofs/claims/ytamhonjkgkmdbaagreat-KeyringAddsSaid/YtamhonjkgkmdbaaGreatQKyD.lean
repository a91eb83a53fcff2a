import Derived.Test.YtamhonjkgkmdbaaGreatQKyA
set_option linter.unusedVariables false
set_option linter.unusedSimpArgs false
namespace Go.Proofs.YtamhonjkgkmdbaaGreat
set_option maxRecDepth 100000
set_option maxHeartbeats 2000000
open Go.RowKit
def hitV(name:ByteArray)(num:Int)(v:Ver):Bool:=(v.name.toList==name.toList)&&(v.num==num)
theorem ky_find1(cs:Array Value)(nm:ByteArray)(k:Int)(h0:cs[0]? =some (.string nm))(h1:cs[1]? =some (.int .i64 k))(name:ByteArray)(num:Int)(N F:Nat)(w:World)(hN:w.cell? ⟨N,0,none⟩=some (.string name))(hF:w.cell? ⟨F,0,none⟩=some (.int .i64 num)):Calls Tryz.prog 27 #[.agg cs,.pointer (some ⟨N,0,none⟩),.pointer (some ⟨F,0,none⟩)] w (Ret (.bool ((nm.toList==name.toList)&&(k==num))) w):=by
 have kN:=cell_kept ((Below.refl w.heap.size w).alloc (Nat.le_refl _) (.cells cs 36)) (Nat.le_refl _) hN;have kF:=cell_kept ((Below.refl w.heap.size w).alloc (Nat.le_refl _) (.cells cs 36)) (Nat.le_refl _) hF;clear hN hF
 cases hq:(nm.toList==name.toList)with
 | true =>
  go_enter Tryz.func27,Tryz.ntmps27;go_wp2;go_ret;exact⟨rfl,(Below.refl _ _).alloc (Nat.le_refl _) _⟩
 | false =>
  go_enter Tryz.func27,Tryz.ntmps27;go_wp2;go_ret;exact⟨rfl,(Below.refl _ _).alloc (Nat.le_refl _) _⟩
def findV(l:List Ver)(name:ByteArray)(num:Int):Option Nat:=(List.range l.length).find? (fun i=>(l[i]?).any (hitV name num))
def idxV(l:List Ver)(name:ByteArray)(num:Int):Int:=match findV l name num with
 | some k=>k
 | none => -1
theorem findV_some{l:List Ver}{name:ByteArray}{num:Int}{k:Nat}{v:Ver}(hk:l[k]? =some v)(hv:hitV name num v=true)(hb:∀(i:Nat) u,i<k→l[i]? =some u→hitV name num u=false):findV l name num=some k:=by
 unfold findV;rw[List.find?_range_eq_some];have hl:=(List.getElem?_eq_some_iff.1 hk).1;refine⟨by simp[hk,hv],by simp[hl],fun j hj=>?_⟩;have : l[j]? =some l[j]:=List.getElem?_eq_getElem (by omega);rw[this];simp[hb j _ hj this]
theorem findV_none{l:List Ver}{name:ByteArray}{num:Int}(hb:∀(i:Nat) u,l[i]? =some u→hitV name num u=false):findV l name num=none:=by
 unfold findV;rw[List.find?_eq_none];intro j hj;have hl:=List.mem_range.1 hj;have e:l[j]? =some l[j]:=List.getElem?_eq_getElem hl;rw[e];have:=hb j _ e;simp[this]
theorem sl_IndexFunc(l:List Ver)(A:Option Addr)(len cap:Nat)(name:ByteArray)(num:Int)(N F:Nat)(w:World)(hs:SlV w A len cap l)(hlen:len≤4096)(hN:w.cell? ⟨N,0,none⟩=some (.string name))(hF:w.cell? ⟨F,0,none⟩=some (.int .i64 num)) :
 Calls Tryz.prog 26 #[.slice A len cap,.func (.func 27) #[] #[.pointer (some ⟨N,0,none⟩),.pointer (some ⟨F,0,none⟩)]] w (Ret (.int .i64 (idxV l name num)) w):=by
 have HS:=Hq hs;have HN:=Hq hN;have HF:=Hq hF;have HLEN:=Hq hs.1;have hcap:=hs.2.1;have hcap2:=hs.2.2.1;clear hs hN hF;go_enter Tryz.func26,Tryz.ntmps26;go_wp2;go_loopw [8] (fun k wr=>∃ j:Nat,j≤len∧k=.int .i64 j∧(∀(i:Nat) u,i<j→l[i]? =some u→hitV name num u=false)∧Below w.heap.size w wr) (fun k _=>len - (intOf k).toNat);case atStart=>exact⟨0,Nat.zero_le _,rfl,fun i u h=>absurd h (Nat.not_lt_zero _),Below.refl _ _⟩
 case round =>
  obtain⟨j,hj,rfl,hall,hB⟩:=hrel;have HALL:=Hq hall;have HB:=Hq hB;clear hall hB;by_cases hlt:j<len
  · obtain⟨b,o,rfl⟩:=HS.out.head (by omega);obtain⟨v,he⟩:∃ v,l[j]? =some v:=⟨_,List.getElem?_eq_getElem (by rw[HLEN.out];exact hlt)⟩;obtain⟨A1,n1,c1,hvc,_⟩:=(HS.out.kept HB.out (Nat.le_refl _)).get? j he;have HE:=Hq he;have hra:wr.rangeAt b (o+j * 18) (v.vals (.slice A1 n1 c1)):=hvc;have hsz:(Tryz.prog.info? 36).map (·.size)=some (v.vals (.slice A1 n1 c1)).length:=by kernel_rfl
    have HC:=Hq (ky_find1 (v.vals (.slice A1 n1 c1)).toArray v.name v.num rfl rfl name num N F wr (cell_kept HB.out (Nat.le_refl _) HN.out) (cell_kept HB.out (Nat.le_refl _) HF.out));obtain⟨cs,hcs⟩:∃ cs,v.vals (.slice A1 n1 c1)=cs:=⟨_,rfl⟩;rw[hcs]at hra hsz HC;have HRA:=Hq hra;have HSZ:=Hq hsz;clear hvc he hcs hra hsz;go_upto_region 4 with fail
    refine wp_region_lit ?_;iterate 13 go_step
    refine wp_load_mid 36 _ rfl b (o+j * 18) rfl cs _ HRA.out Tryz.underlying36 rfl HSZ.out ?_;go_wp2_with fail;refine HC.out.mono ?_;rintro e w1 ⟨rfl,hb1⟩;have HB1:=Hq (HB.out.trans (hb1.mono HB.out.size));clear hb1
    cases hh:((v.name.toList==name.toList)&&(v.num==num))with
    | true =>
     have HI:=Hq (show idxV l name num=(j:Int)from by unfold idxV;rw[findV_some HE.out hh HALL.out]);clear hh;go_wp2;go_ret;exact⟨by rw[HI.out];rfl,HB1.out⟩
    | false =>
     have HA2:=Hq (show ∀(i:Nat) u,i<j+1→l[i]? =some u→hitV name num u=false from fun i u hi hu=>by
      rcases Nat.lt_or_ge i j with a | a
      · exact HALL.out i u a hu
      · obtain rfl:i=j:=by omega
        rw[HE.out]at hu;cases hu
        exact hh)
     clear hh;go_wp2;go_roundw;case rel=>exact⟨j+1,by omega,by go_num,HA2.out,HB1.out⟩
     case measure=>simp[intOf];omega
  · obtain rfl:j=len:=by omega
    have HI:=Hq (show idxV l name num = -1 from by unfold idxV;rw[findV_none (fun i u hu=>HALL.out i u (by have:=(List.getElem?_eq_some_iff.1 hu).1;have:=HLEN.out;omega) hu)]);clear hlt hj;go_wp2;go_ret;exact⟨by rw[HI.out];rfl,HB.out⟩
set_option maxRecDepth 100000
set_option maxHeartbeats 2000000
theorem results_row_tmp{P:Program}{fn:Func}{p q:Tmp}{ty:TypeId}(h:fn.results=#[.cell p ty,.tmp q])(tmps:Array Value)(w:World)(g:Nat)(t:TypeId)(cs:Array Value)(fr:Nat×Nat)(d:TypeDesc)
 (hp:tmps.getD p undef=.pointer (some ⟨g,0,none⟩)) (hg:w.heap[g]? =some (.cells cs t fr))
 (hu:P.underlying ty=some d) (hd:(match d with | .struct _ | .array _ _=>true | _=>false)=true) (hi:(P.info? ty).map (·.size)=some cs.size) :
 (results fn tmps).run P w=.ok (.tuple #[.agg cs,tmps.getD q undef]) w:=by
 have hp':tmps[p]?.getD undef=.pointer (some ⟨g,0,none⟩):=by simpa using hp
 simp[results,h,hp',asAddr,run_loadVar_row w g t ty cs fr d hg hu hd hi]
theorem ky_Find_none(l:List Ver)(A:Option Addr)(len cap:Nat)(name:ByteArray)(num e:Int)(w:World)(hs:SlV w A len cap l)(hlen:len≤4096)(hf:findV l name num=none):Calls Tryz.prog 13 #[.slice A len cap,.string name,.int .i64 num,.int .i64 e] w (RetV ver0 9 w):=by
 have hi:idxV l name num = -1:=by unfold idxV;rw[hf]
 obtain⟨W0,hW0⟩:∃ W0,((w.alloc (.cells #[.string name] 9)).alloc (.cells #[.int .i64 num] 3)).alloc (.cells (ver0.arr (.slice none 0 0)) 36)=W0:=⟨_,rfl⟩;have HB0:=Hq (show Below w.heap.size w W0 from by
  rw[←hW0]
  exact(((Below.refl w.heap.size w).alloc (Nat.le_refl _) _).alloc (by simp) _).alloc (by simp;omega) _)
 have hN0:W0.heap[w.heap.size]? =some (.cells #[.string name] 9 (0,0)):=(by rw[←hW0];have h1:=heap_alloc_new w (.cells #[.string name] 9);exact(((Below.refl _ _).alloc (Nat.le_refl _) _).alloc (by simp) _).block _ (by simp) |>.trans h1);have hF0:W0.heap[w.heap.size+1]? =some (.cells #[.int .i64 num] 3 (0,0)):=(by rw[←hW0];have h1:=heap_alloc_new (w.alloc (.cells #[.string name] 9)) (.cells #[.int .i64 num] 3);rw[World.size_alloc]at h1;exact((Below.refl _ _).alloc (Nat.le_refl _) _).block _ (by simp) |>.trans h1);have HY0:=Hq (show BxC W0 (w.heap.size+1+1) (ver0.arr (.slice none 0 0)) 36 from by
  rw[←hW0];have:=BxC.new ((w.alloc (.cells #[.string name] 9)).alloc (.cells #[.int .i64 num] 3)) (ver0.arr (.slice none 0 0)) 36;rw[World.size_alloc,World.size_alloc]at this
  exact this)
 have HCL:=Hq (sl_IndexFunc l A len cap name num w.heap.size (w.heap.size+1) W0 (hs.kept HB0.out (Nat.le_refl _)) hlen (by rw[Lib.cell_of_heap hN0];rfl) (by rw[Lib.cell_of_heap hF0];rfl));have HW0:=Hq hW0;clear hs hW0 hN0 hF0;rw[hi]at HCL;clear hi hf;go_enter Tryz.func13,Tryz.ntmps13;go_wp2_with fail;have hcl:=HCL.out;rw[←HW0.out]at hcl;refine hcl.mono ?_;rintro ev w1 ⟨rfl,hb1⟩;rw[HW0.out]at hb1;have HY1:=Hq (HY0.out.next hb1);have HB1:=Hq (HB0.out.trans (hb1.mono HB0.out.size));clear hb1 hcl;go_upto_region 3 with fail
 refine wp_region_lit ?_;iterate 4 go_step
 refine wp_store_row 36 _ _ rfl (w.heap.size+1+1) (ver0.arr (.slice none 0 0)) rfl rfl 36 (ver0.arr (.slice none 0 0)) HY1.out (by kernel_rfl) rfl ver0.arr_one ?_;have HY2:=Hq (setRow_heap w1 (w.heap.size+1+1) _ (ver0.arr (.slice none 0 0)) _ _ HY1.out);have HB2:=Hq (below_setRow HB1.out (g:=w.heap.size+1+1) (by omega) (ver0.arr (.slice none 0 0)));obtain⟨w2,hw2⟩:∃ w2,w1.setRow (w.heap.size+1+1) (ver0.arr (.slice none 0 0))=w2:=⟨_,rfl⟩;rw[hw2]at HY2 HB2⊢;clear hw2;go_wp2;refine bodyPost_ret (v:=.tuple #[.agg (ver0.arr (.slice none 0 0)),.int .i64 9]) (Eq.trans (results_row_tmp rfl _ _ (w.heap.size+1+1) 36 (ver0.arr (.slice none 0 0)) (0,0) _ rfl HY2.out Tryz.underlying36 rfl (by kernel_rfl)) (by rfl)) rfl ⟨none,0,0,rfl,⟨rfl,Nat.le_refl _,Nat.zero_le _,0,0,fun h=>absurd h (Nat.lt_irrefl _),fun k s h=>by simp[ver0]at h⟩,HB2.out⟩
theorem ky_Find_far(l:List Ver)(A:Option Addr)(len cap:Nat)(name:ByteArray)(num e:Int)(w:World)(hs:SlV w A len cap l)(hlen:len≤4096)(k:Nat)(v:Ver)(hf:findV l name num=some k)(hk:l[k]? =some v)(hv:vvalid v e=false):Calls Tryz.prog 13 #[.slice A len cap,.string name,.int .i64 num,.int .i64 e] w (RetV ver0 22 w):=by
 have hi:idxV l name num=(k:Int):=by unfold idxV;rw[hf]
 have HSS:=Hq hs;have HE:=Hq hk;have HKL:=Hq (show k<len from by rw[←hs.1];exact(List.getElem?_eq_some_iff.1 hk).1);have hkl:=HKL.out;have hcap:=hs.2.1;have hcap2:=hs.2.2.1;have HVV:=Hq hv;obtain⟨W0,hW0⟩:∃ W0,((w.alloc (.cells #[.string name] 9)).alloc (.cells #[.int .i64 num] 3)).alloc (.cells (ver0.arr (.slice none 0 0)) 36)=W0:=⟨_,rfl⟩;have HB0:=Hq (show Below w.heap.size w W0 from by
  rw[←hW0]
  exact(((Below.refl w.heap.size w).alloc (Nat.le_refl _) _).alloc (by simp) _).alloc (by simp;omega) _)
 have hN0:W0.heap[w.heap.size]? =some (.cells #[.string name] 9 (0,0)):=(by rw[←hW0];have h1:=heap_alloc_new w (.cells #[.string name] 9);exact(((Below.refl _ _).alloc (Nat.le_refl _) _).alloc (by simp) _).block _ (by simp) |>.trans h1);have hF0:W0.heap[w.heap.size+1]? =some (.cells #[.int .i64 num] 3 (0,0)):=(by rw[←hW0];have h1:=heap_alloc_new (w.alloc (.cells #[.string name] 9)) (.cells #[.int .i64 num] 3);rw[World.size_alloc]at h1;exact((Below.refl _ _).alloc (Nat.le_refl _) _).block _ (by simp) |>.trans h1);have HY0:=Hq (show BxC W0 (w.heap.size+1+1) (ver0.arr (.slice none 0 0)) 36 from by
  rw[←hW0];have:=BxC.new ((w.alloc (.cells #[.string name] 9)).alloc (.cells #[.int .i64 num] 3)) (ver0.arr (.slice none 0 0)) 36;rw[World.size_alloc,World.size_alloc]at this
  exact this)
 have HCL:=Hq (sl_IndexFunc l A len cap name num w.heap.size (w.heap.size+1) W0 (hs.kept HB0.out (Nat.le_refl _)) hlen (by rw[Lib.cell_of_heap hN0];rfl) (by rw[Lib.cell_of_heap hF0];rfl));have HW0:=Hq hW0;clear hs hW0 hN0 hF0;rw[hi]at HCL;clear hi hf hk hv;go_enter Tryz.func13,Tryz.ntmps13;go_wp2_with fail;have hcl:=HCL.out;rw[←HW0.out]at hcl;refine hcl.mono ?_;rintro ev w1 ⟨rfl,hb1⟩;rw[HW0.out]at hb1;have HY1:=Hq (HY0.out.next hb1);have HB1:=Hq (HB0.out.trans (hb1.mono HB0.out.size));clear hb1 hcl;obtain⟨b,o,rfl⟩:=HSS.out.head (by have:=HKL.out;omega);obtain⟨A1,n1,c1,hvc1,_⟩:=(HSS.out.kept HB1.out (Nat.le_refl _)).get? k HE.out;have HRA1:=Hq (show w1.rangeAt b (o+k * 18) (v.vals (.slice A1 n1 c1))from hvc1);have HSZ1:=Hq (show (Tryz.prog.info? 36).map (·.size)=some (v.vals (.slice A1 n1 c1)).length from by kernel_rfl);have HVA:=Hq (show ∀ w,Calls Tryz.prog 25 #[.agg (v.vals (.slice A1 n1 c1)).toArray,.int .i64 e] w (Ret (.bool (vvalid v e)) w)from fun w=>ky_valid v (.slice A1 n1 c1) e w);clear hvc1;go_upto_region 4 with fail
 refine wp_region_lit ?_;iterate 10 go_step
 refine wp_load_mid 36 _ rfl b (o+k * 18) rfl _ _ HRA1.out Tryz.underlying36 rfl HSZ1.out ?_;obtain⟨cs,hcs⟩:∃ cs,v.vals (.slice A1 n1 c1)=cs:=⟨_,rfl⟩;rw[hcs]at HVA⊢;clear hcs;go_wp2_with fail;refine(HVA.out _).mono ?_;rintro ev w2 ⟨rfl,hb2⟩;have HY2:=Hq (HY1.out.next hb2);have HB2:=Hq (HB1.out.trans (hb2.mono HB1.out.size));clear hb2;rw[HVV.out];go_upto_region 5 with fail
 refine wp_region_lit ?_;iterate 4 go_step
 refine wp_store_row 36 _ _ rfl (w.heap.size+1+1) (ver0.arr (.slice none 0 0)) rfl rfl 36 (ver0.arr (.slice none 0 0)) HY2.out (by kernel_rfl) rfl ver0.arr_one ?_;have HY3:=Hq (setRow_heap w2 (w.heap.size+1+1) _ (ver0.arr (.slice none 0 0)) _ _ HY2.out);have HB3:=Hq (below_setRow HB2.out (g:=w.heap.size+1+1) (by omega) (ver0.arr (.slice none 0 0)));obtain⟨w3,hw3⟩:∃ w3,w2.setRow (w.heap.size+1+1) (ver0.arr (.slice none 0 0))=w3:=⟨_,rfl⟩;rw[hw3]at HY3 HB3⊢;clear hw3;go_wp2;refine bodyPost_ret (v:=.tuple #[.agg (ver0.arr (.slice none 0 0)),.int .i64 22]) (Eq.trans (results_row_tmp rfl _ _ (w.heap.size+1+1) 36 (ver0.arr (.slice none 0 0)) (0,0) _ rfl HY3.out Tryz.underlying36 rfl (by kernel_rfl)) (by rfl)) rfl ⟨none,0,0,rfl,⟨rfl,Nat.le_refl _,Nat.zero_le _,0,0,fun h=>absurd h (Nat.lt_irrefl _),fun k s h=>by simp[ver0]at h⟩,HB3.out⟩
theorem ky_Find_in(l:List Ver)(A:Option Addr)(len cap:Nat)(name:ByteArray)(num e:Int)(w:World)(hs:SlV w A len cap l)(hlen:len≤4096)(k:Nat)(v:Ver)(hf:findV l name num=some k)(hk:l[k]? =some v)(hv:vvalid v e=true)(hr:v.kr.length≤1000000):Calls Tryz.prog 13 #[.slice A len cap,.string name,.int .i64 num,.int .i64 e] w (RetV v 0 w):=by
 have hi:idxV l name num=(k:Int):=by unfold idxV;rw[hf]
 have HSS:=Hq hs;have HE:=Hq hk;have HKL:=Hq (show k<len from by rw[←hs.1];exact(List.getElem?_eq_some_iff.1 hk).1);have hkl:=HKL.out;have hcap:=hs.2.1;have hcap2:=hs.2.2.1;have HVV:=Hq hv;have HKR:=Hq hr;obtain⟨W0,hW0⟩:∃ W0,((w.alloc (.cells #[.string name] 9)).alloc (.cells #[.int .i64 num] 3)).alloc (.cells (ver0.arr (.slice none 0 0)) 36)=W0:=⟨_,rfl⟩;have HB0:=Hq (show Below w.heap.size w W0 from by
  rw[←hW0]
  exact(((Below.refl w.heap.size w).alloc (Nat.le_refl _) _).alloc (by simp) _).alloc (by simp;omega) _)
 have hN0:W0.heap[w.heap.size]? =some (.cells #[.string name] 9 (0,0)):=(by rw[←hW0];have h1:=heap_alloc_new w (.cells #[.string name] 9);exact(((Below.refl _ _).alloc (Nat.le_refl _) _).alloc (by simp) _).block _ (by simp) |>.trans h1);have hF0:W0.heap[w.heap.size+1]? =some (.cells #[.int .i64 num] 3 (0,0)):=(by rw[←hW0];have h1:=heap_alloc_new (w.alloc (.cells #[.string name] 9)) (.cells #[.int .i64 num] 3);rw[World.size_alloc]at h1;exact((Below.refl _ _).alloc (Nat.le_refl _) _).block _ (by simp) |>.trans h1);have HY0:=Hq (show BxC W0 (w.heap.size+1+1) (ver0.arr (.slice none 0 0)) 36 from by
  rw[←hW0];have:=BxC.new ((w.alloc (.cells #[.string name] 9)).alloc (.cells #[.int .i64 num] 3)) (ver0.arr (.slice none 0 0)) 36;rw[World.size_alloc,World.size_alloc]at this
  exact this)
 have HCL:=Hq (sl_IndexFunc l A len cap name num w.heap.size (w.heap.size+1) W0 (hs.kept HB0.out (Nat.le_refl _)) hlen (by rw[Lib.cell_of_heap hN0];rfl) (by rw[Lib.cell_of_heap hF0];rfl));have HW0:=Hq hW0;clear hs hW0 hN0 hF0;rw[hi]at HCL;clear hi hf hk hv hr;go_enter Tryz.func13,Tryz.ntmps13;go_wp2_with fail;have hcl:=HCL.out;rw[←HW0.out]at hcl;refine hcl.mono ?_;rintro ev w1 ⟨rfl,hb1⟩;rw[HW0.out]at hb1;have HY1:=Hq (HY0.out.next hb1);have HB1:=Hq (HB0.out.trans (hb1.mono HB0.out.size));clear hb1 hcl;obtain⟨b,o,rfl⟩:=HSS.out.head (by have:=HKL.out;omega);obtain⟨A1,n1,c1,hvc1,_⟩:=(HSS.out.kept HB1.out (Nat.le_refl _)).get? k HE.out;have HRA1:=Hq (show w1.rangeAt b (o+k * 18) (v.vals (.slice A1 n1 c1))from hvc1);have HSZ1:=Hq (show (Tryz.prog.info? 36).map (·.size)=some (v.vals (.slice A1 n1 c1)).length from by kernel_rfl);have HVA:=Hq (show ∀ w,Calls Tryz.prog 25 #[.agg (v.vals (.slice A1 n1 c1)).toArray,.int .i64 e] w (Ret (.bool (vvalid v e)) w)from fun w=>ky_valid v (.slice A1 n1 c1) e w);clear hvc1;go_upto_region 4 with fail
 refine wp_region_lit ?_;iterate 10 go_step
 refine wp_load_mid 36 _ rfl b (o+k * 18) rfl _ _ HRA1.out Tryz.underlying36 rfl HSZ1.out ?_;obtain⟨cs,hcs⟩:∃ cs,v.vals (.slice A1 n1 c1)=cs:=⟨_,rfl⟩;rw[hcs]at HVA⊢;clear hcs;go_wp2_with fail;refine(HVA.out _).mono ?_;rintro ev w2 ⟨rfl,hb2⟩;have HY2:=Hq (HY1.out.next hb2);have HB2:=Hq (HB1.out.trans (hb2.mono HB1.out.size));clear hb2;rw[HVV.out];go_upto_region 6 with fail
 obtain⟨A2,n2,c2,hvc2,hsl2⟩:=(HSS.out.kept HB2.out (Nat.le_refl _)).get? k HE.out;have HRA2:=Hq (show w2.rangeAt b (o+k * 18) (v.vals (.slice A2 n2 c2))from hvc2);have HSZ2:=Hq (show (Tryz.prog.info? 36).map (·.size)=some (v.vals (.slice A2 n2 c2)).length from by kernel_rfl);have HCO:=Hq (show Calls Tryz.prog 20 #[.agg (v.vals (.slice A2 n2 c2)).toArray] w2 (RetVV v w2)from ky_copied v A2 n2 c2 w2 hsl2 (by rw[←hsl2.1];exact HKR.out));clear hvc2 hsl2;refine wp_region_lit ?_;iterate 10 go_step
 refine wp_load_mid 36 _ rfl b (o+k * 18) rfl _ _ HRA2.out Tryz.underlying36 rfl HSZ2.out ?_;obtain⟨ds,hds⟩:∃ ds,v.vals (.slice A2 n2 c2)=ds:=⟨_,rfl⟩;rw[hds]at HCO⊢;clear hds;go_wp2_with fail;refine HCO.out.mono ?_;rintro ev w3 ⟨A3,n3,c3,rfl,⟨B3,hB3,hown⟩,hb3⟩;have hsz2:w.heap.size+1+1<w2.heap.size:=HY2.out.lt;have HO3:=Hq (ownsRow_below_row hown (g:=w.heap.size+1+1) (by omega) (v.arr (.slice A3 n3 c3)));have HY3:=Hq (HY2.out.next hb3);have HB3:=Hq (HB2.out.trans (hb3.mono HB2.out.size));clear hb3 hown hB3 hsz2;rw[show v.val (.slice A3 n3 c3)=.agg (v.arr (.slice A3 n3 c3))from rfl];have HY4:=Hq (setRow_heap w3 (w.heap.size+1+1) _ (v.arr (.slice A3 n3 c3)) _ _ HY3.out);have HB4:=Hq (below_setRow HB3.out (g:=w.heap.size+1+1) (by omega) (v.arr (.slice A3 n3 c3)));have HON:=Hq (v.arr_one (A:=A3) (n:=n3) (c:=c3));obtain⟨rr,hrr⟩:∃ rr,v.arr (.slice A3 n3 c3)=rr:=⟨_,rfl⟩;have hrs:rr.size=18:=by rw[←hrr];rfl
 rw[hrr]at HO3 HY4 HB4 HON⊢;have HRR:=Hq hrr;have HRS:=Hq hrs;clear hrr hrs;dsimp only;iterate 2 go_step
 refine wp_store_row 36 _ _ rfl (w.heap.size+1+1) rr rfl rfl 36 (ver0.arr (.slice none 0 0)) HY3.out (by rw[HRS.out];kernel_rfl) (by rw[HRS.out];rfl) HON.out ?_;obtain⟨w4,hw4⟩:∃ w4,w3.setRow (w.heap.size+1+1) rr=w4:=⟨_,rfl⟩;rw[hw4]at HY4 HB4 HO3⊢;clear hw4;go_wp2;obtain⟨hl4,A4,c4,e4,hs4⟩:=SlN.of_owns HO3.out;cases e4;refine bodyPost_ret (v:=.tuple #[.agg rr,.int .i64 0]) (Eq.trans (results_row_tmp rfl _ _ (w.heap.size+1+1) 36 rr (0,0) _ rfl HY4.out Tryz.underlying36 rfl (by rw[HRS.out];kernel_rfl)) (by rfl)) rfl ⟨A3,n3,c3,by rw[←HRR.out];rfl,hs4,HB4.out⟩
def RetF(v:Ver)(e:Int)(w:World)(x:Ending)(w':World):Prop:=(vvalid v e=true∧RetV v 0 w x w')∨(vvalid v e=false∧RetV ver0 22 w x w')
theorem RetF_far{v:Ver}{e:Int}{w w':World}{x:Ending}(h:vvalid v e=false)(hr:RetV ver0 22 w x w'):RetF v e w x w':=.inr ⟨h,hr⟩
theorem RetF_in{v:Ver}{e:Int}{w w':World}{x:Ending}(h:vvalid v e=true)(hr:RetV v 0 w x w'):RetF v e w x w':=.inl ⟨h,hr⟩
theorem ky_Find_hit(l:List Ver)(A:Option Addr)(len cap:Nat)(name:ByteArray)(num e:Int)(w:World)(hs:SlV w A len cap l)(hlen:len≤4096)(k:Nat)(v:Ver)(hk:l[k]? =some v)(hv:hitV name num v=true)(hall:∀(i:Nat) u,i<k→l[i]? =some u→hitV name num u=false)(hr:v.kr.length≤1000000):Calls Tryz.prog 13 #[.slice A len cap,.string name,.int .i64 num,.int .i64 e] w (RetF v e w):=by
 cases hvv:vvalid v e with
 | false=>exact(ky_Find_far l A len cap name num e w hs hlen k v (findV_some hk hv hall) hk hvv).mono fun _ _ h=>RetF_far hvv h
 | true=>exact(ky_Find_in l A len cap name num e w hs hlen k v (findV_some hk hv hall) hk hvv hr).mono fun _ _ h=>RetF_in hvv h
end Go.Proofs.YtamhonjkgkmdbaaGreat

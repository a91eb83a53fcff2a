import Derived.Test.YtamhonjkgkmdbaaGreatDoorQKyB
import Derived.Maps.OwnSet
import Derived.Maps.OwnOps
import Derived.Maps.Views
import Derived.StringKeys
set_option linter.unusedVariables false
set_option linter.unusedSimpArgs false
namespace Go.Proofs.YtamhonjkgkmdbaaGreatDoor
set_option maxRecDepth 100000
set_option maxHeartbeats 2000000
open Go.RowKit
theorem results_row_tmp{P:Program}{fn:Func}{p q:Tmp}{ty:TypeId}(h:fn.results=#[.cell p ty,.tmp q])(tmps:Array Value)(w:World)(g:Nat)(t:TypeId)(cs:Array Value)(fr:Nat×Nat)(d:TypeDesc)
 (hp:tmps.getD p undef=.pointer (some ⟨g,0,none⟩)) (hg:w.heap[g]? =some (.cells cs t fr))
 (hu:P.underlying ty=some d) (hd:(match d with | .struct _ | .array _ _=>true | _=>false)=true) (hi:(P.info? ty).map (·.size)=some cs.size) :
 (results fn tmps).run P w=.ok (.tuple #[.agg cs,tmps.getD q undef]) w:=by
 have hp':tmps[p]?.getD undef=.pointer (some ⟨g,0,none⟩):=by simpa using hp
 simp[results,h,hp',asAddr,run_loadVar_row w g t ty cs fr d hg hu hd hi]
theorem ky_Find_none(l:List Ver)(A:Option Addr)(len cap:Nat)(name:ByteArray)(num e:Int)(w:World)(hs:SlV w A len cap l)(hlen:len≤4096)(hf:findV l name num=none):Calls Tryz.prog 11 #[.slice A len cap,.string name,.int .i64 num,.int .i64 e] w (RetV ver0 9 w):=by
 have hi:idxV l name num = -1:=by unfold idxV;rw[hf]
 obtain⟨W0,hW0⟩:∃ W0,((w.alloc (.cells #[.string name] 9)).alloc (.cells #[.int .i64 num] 3)).alloc (.cells (ver0.arr (.slice none 0 0)) 35)=W0:=⟨_,rfl⟩;have HB0:=Hq (show Below w.heap.size w W0 from by
  rw[←hW0]
  exact(((Below.refl w.heap.size w).alloc (Nat.le_refl _) _).alloc (by simp) _).alloc (by simp;omega) _)
 have hN0:W0.heap[w.heap.size]? =some (.cells #[.string name] 9 (0,0)):=(by rw[←hW0];have h1:=heap_alloc_new w (.cells #[.string name] 9);exact(((Below.refl _ _).alloc (Nat.le_refl _) _).alloc (by simp) _).block _ (by simp) |>.trans h1);have hF0:W0.heap[w.heap.size+1]? =some (.cells #[.int .i64 num] 3 (0,0)):=(by rw[←hW0];have h1:=heap_alloc_new (w.alloc (.cells #[.string name] 9)) (.cells #[.int .i64 num] 3);rw[World.size_alloc]at h1;exact((Below.refl _ _).alloc (Nat.le_refl _) _).block _ (by simp) |>.trans h1);have HY0:=Hq (show BxC W0 (w.heap.size+1+1) (ver0.arr (.slice none 0 0)) 35 from by
  rw[←hW0];have:=BxC.new ((w.alloc (.cells #[.string name] 9)).alloc (.cells #[.int .i64 num] 3)) (ver0.arr (.slice none 0 0)) 35;rw[World.size_alloc,World.size_alloc]at this
  exact this)
 have HCL:=Hq (sl_IndexFunc l A len cap name num w.heap.size (w.heap.size+1) W0 (hs.kept HB0.out (Nat.le_refl _)) hlen (by rw[Lib.cell_of_heap hN0];rfl) (by rw[Lib.cell_of_heap hF0];rfl));have HW0:=Hq hW0;clear hs hW0 hN0 hF0;rw[hi]at HCL;clear hi hf;go_enter Tryz.func11,Tryz.ntmps11;go_wp2_with fail;have hcl:=HCL.out;rw[←HW0.out]at hcl;refine hcl.mono ?_;rintro ev w1 ⟨rfl,hb1⟩;rw[HW0.out]at hb1;have HY1:=Hq (HY0.out.next hb1);have HB1:=Hq (HB0.out.trans (hb1.mono HB0.out.size));clear hb1 hcl;go_upto_region 3 with fail
 refine wp_region_lit ?_;iterate 4 go_step
 refine wp_store_row 35 _ _ rfl (w.heap.size+1+1) (ver0.arr (.slice none 0 0)) rfl rfl 35 (ver0.arr (.slice none 0 0)) HY1.out (by kernel_rfl) rfl ver0.arr_one ?_;have HY2:=Hq (setRow_heap w1 (w.heap.size+1+1) _ (ver0.arr (.slice none 0 0)) _ _ HY1.out);have HB2:=Hq (below_setRow HB1.out (g:=w.heap.size+1+1) (by omega) (ver0.arr (.slice none 0 0)));obtain⟨w2,hw2⟩:∃ w2,w1.setRow (w.heap.size+1+1) (ver0.arr (.slice none 0 0))=w2:=⟨_,rfl⟩;rw[hw2]at HY2 HB2⊢;clear hw2;go_wp2;refine bodyPost_ret (v:=.tuple #[.agg (ver0.arr (.slice none 0 0)),.int .i64 9]) (Eq.trans (results_row_tmp rfl _ _ (w.heap.size+1+1) 35 (ver0.arr (.slice none 0 0)) (0,0) _ rfl HY2.out Tryz.underlying35 rfl (by kernel_rfl)) (by rfl)) rfl ⟨none,0,0,rfl,⟨rfl,Nat.le_refl _,Nat.zero_le _,0,0,fun h=>absurd h (Nat.lt_irrefl _),fun k s h=>by simp[ver0]at h⟩,HB2.out⟩
theorem findV_at{l:List Ver}{name:ByteArray}{num:Int}{k:Nat}(h:findV l name num=some k):∃ v,l[k]? =some v:=by
 unfold findV at h;rw[List.find?_range_eq_some]at h;have:=h.2.1;rw[List.mem_range]at this;exact⟨_,List.getElem?_eq_getElem this⟩
theorem ky_Find_far(l:List Ver)(A:Option Addr)(len cap:Nat)(name:ByteArray)(num e:Int)(w:World)(hs:SlV w A len cap l)(hlen:len≤4096)(k:Nat)(v:Ver)(hf:findV l name num=some k)(hk:l[k]? =some v)(hv:vvalid v e=false):Calls Tryz.prog 11 #[.slice A len cap,.string name,.int .i64 num,.int .i64 e] w (RetV ver0 22 w):=by
 have hi:idxV l name num=(k:Int):=by unfold idxV;rw[hf]
 have HSS:=Hq hs;have HE:=Hq hk;have HKL:=Hq (show k<len from by rw[←hs.1];exact(List.getElem?_eq_some_iff.1 hk).1);have hkl:=HKL.out;have hcap:=hs.2.1;have hcap2:=hs.2.2.1;have HVV:=Hq hv;obtain⟨W0,hW0⟩:∃ W0,((w.alloc (.cells #[.string name] 9)).alloc (.cells #[.int .i64 num] 3)).alloc (.cells (ver0.arr (.slice none 0 0)) 35)=W0:=⟨_,rfl⟩;have HB0:=Hq (show Below w.heap.size w W0 from by
  rw[←hW0]
  exact(((Below.refl w.heap.size w).alloc (Nat.le_refl _) _).alloc (by simp) _).alloc (by simp;omega) _)
 have hN0:W0.heap[w.heap.size]? =some (.cells #[.string name] 9 (0,0)):=(by rw[←hW0];have h1:=heap_alloc_new w (.cells #[.string name] 9);exact(((Below.refl _ _).alloc (Nat.le_refl _) _).alloc (by simp) _).block _ (by simp) |>.trans h1);have hF0:W0.heap[w.heap.size+1]? =some (.cells #[.int .i64 num] 3 (0,0)):=(by rw[←hW0];have h1:=heap_alloc_new (w.alloc (.cells #[.string name] 9)) (.cells #[.int .i64 num] 3);rw[World.size_alloc]at h1;exact((Below.refl _ _).alloc (Nat.le_refl _) _).block _ (by simp) |>.trans h1);have HY0:=Hq (show BxC W0 (w.heap.size+1+1) (ver0.arr (.slice none 0 0)) 35 from by
  rw[←hW0];have:=BxC.new ((w.alloc (.cells #[.string name] 9)).alloc (.cells #[.int .i64 num] 3)) (ver0.arr (.slice none 0 0)) 35;rw[World.size_alloc,World.size_alloc]at this
  exact this)
 have HCL:=Hq (sl_IndexFunc l A len cap name num w.heap.size (w.heap.size+1) W0 (hs.kept HB0.out (Nat.le_refl _)) hlen (by rw[Lib.cell_of_heap hN0];rfl) (by rw[Lib.cell_of_heap hF0];rfl));have HW0:=Hq hW0;clear hs hW0 hN0 hF0;rw[hi]at HCL;clear hi hf hk hv;go_enter Tryz.func11,Tryz.ntmps11;go_wp2_with fail;have hcl:=HCL.out;rw[←HW0.out]at hcl;refine hcl.mono ?_;rintro ev w1 ⟨rfl,hb1⟩;rw[HW0.out]at hb1;have HY1:=Hq (HY0.out.next hb1);have HB1:=Hq (HB0.out.trans (hb1.mono HB0.out.size));clear hb1 hcl;obtain⟨b,o,rfl⟩:=HSS.out.head (by have:=HKL.out;omega);obtain⟨A1,n1,c1,hvc1,_⟩:=(HSS.out.kept HB1.out (Nat.le_refl _)).get? k HE.out;have HRA1:=Hq (show w1.rangeAt b (o+k * 18) (v.vals (.slice A1 n1 c1))from hvc1);have HSZ1:=Hq (show (Tryz.prog.info? 35).map (·.size)=some (v.vals (.slice A1 n1 c1)).length from by kernel_rfl);have HVA:=Hq (show ∀ w,Calls Tryz.prog 26 #[.agg (v.vals (.slice A1 n1 c1)).toArray,.int .i64 e] w (Ret (.bool (vvalid v e)) w)from fun w=>ky_valid v (.slice A1 n1 c1) e w);clear hvc1;go_upto_region 4 with fail
 refine wp_region_lit ?_;iterate 10 go_step
 refine wp_load_mid 35 _ rfl b (o+k * 18) rfl _ _ HRA1.out Tryz.underlying35 rfl HSZ1.out ?_;obtain⟨cs,hcs⟩:∃ cs,v.vals (.slice A1 n1 c1)=cs:=⟨_,rfl⟩;rw[hcs]at HVA⊢;clear hcs;go_wp2_with fail;refine(HVA.out _).mono ?_;rintro ev w2 ⟨rfl,hb2⟩;have HY2:=Hq (HY1.out.next hb2);have HB2:=Hq (HB1.out.trans (hb2.mono HB1.out.size));clear hb2;rw[HVV.out];go_upto_region 5 with fail
 refine wp_region_lit ?_;iterate 4 go_step
 refine wp_store_row 35 _ _ rfl (w.heap.size+1+1) (ver0.arr (.slice none 0 0)) rfl rfl 35 (ver0.arr (.slice none 0 0)) HY2.out (by kernel_rfl) rfl ver0.arr_one ?_;have HY3:=Hq (setRow_heap w2 (w.heap.size+1+1) _ (ver0.arr (.slice none 0 0)) _ _ HY2.out);have HB3:=Hq (below_setRow HB2.out (g:=w.heap.size+1+1) (by omega) (ver0.arr (.slice none 0 0)));obtain⟨w3,hw3⟩:∃ w3,w2.setRow (w.heap.size+1+1) (ver0.arr (.slice none 0 0))=w3:=⟨_,rfl⟩;rw[hw3]at HY3 HB3⊢;clear hw3;go_wp2;refine bodyPost_ret (v:=.tuple #[.agg (ver0.arr (.slice none 0 0)),.int .i64 22]) (Eq.trans (results_row_tmp rfl _ _ (w.heap.size+1+1) 35 (ver0.arr (.slice none 0 0)) (0,0) _ rfl HY3.out Tryz.underlying35 rfl (by kernel_rfl)) (by rfl)) rfl ⟨none,0,0,rfl,⟨rfl,Nat.le_refl _,Nat.zero_le _,0,0,fun h=>absurd h (Nat.lt_irrefl _),fun k s h=>by simp[ver0]at h⟩,HB3.out⟩
theorem ky_Find_in(l:List Ver)(A:Option Addr)(len cap:Nat)(name:ByteArray)(num e:Int)(w:World)(hs:SlV w A len cap l)(hlen:len≤4096)(k:Nat)(v:Ver)(hf:findV l name num=some k)(hk:l[k]? =some v)(hv:vvalid v e=true)(hr:v.kr.length≤1000000):Calls Tryz.prog 11 #[.slice A len cap,.string name,.int .i64 num,.int .i64 e] w (RetV v 0 w):=by
 have hi:idxV l name num=(k:Int):=by unfold idxV;rw[hf]
 have HSS:=Hq hs;have HE:=Hq hk;have HKL:=Hq (show k<len from by rw[←hs.1];exact(List.getElem?_eq_some_iff.1 hk).1);have hkl:=HKL.out;have hcap:=hs.2.1;have hcap2:=hs.2.2.1;have HVV:=Hq hv;have HKR:=Hq hr;obtain⟨W0,hW0⟩:∃ W0,((w.alloc (.cells #[.string name] 9)).alloc (.cells #[.int .i64 num] 3)).alloc (.cells (ver0.arr (.slice none 0 0)) 35)=W0:=⟨_,rfl⟩;have HB0:=Hq (show Below w.heap.size w W0 from by
  rw[←hW0]
  exact(((Below.refl w.heap.size w).alloc (Nat.le_refl _) _).alloc (by simp) _).alloc (by simp;omega) _)
 have hN0:W0.heap[w.heap.size]? =some (.cells #[.string name] 9 (0,0)):=(by rw[←hW0];have h1:=heap_alloc_new w (.cells #[.string name] 9);exact(((Below.refl _ _).alloc (Nat.le_refl _) _).alloc (by simp) _).block _ (by simp) |>.trans h1);have hF0:W0.heap[w.heap.size+1]? =some (.cells #[.int .i64 num] 3 (0,0)):=(by rw[←hW0];have h1:=heap_alloc_new (w.alloc (.cells #[.string name] 9)) (.cells #[.int .i64 num] 3);rw[World.size_alloc]at h1;exact((Below.refl _ _).alloc (Nat.le_refl _) _).block _ (by simp) |>.trans h1);have HY0:=Hq (show BxC W0 (w.heap.size+1+1) (ver0.arr (.slice none 0 0)) 35 from by
  rw[←hW0];have:=BxC.new ((w.alloc (.cells #[.string name] 9)).alloc (.cells #[.int .i64 num] 3)) (ver0.arr (.slice none 0 0)) 35;rw[World.size_alloc,World.size_alloc]at this
  exact this)
 have HCL:=Hq (sl_IndexFunc l A len cap name num w.heap.size (w.heap.size+1) W0 (hs.kept HB0.out (Nat.le_refl _)) hlen (by rw[Lib.cell_of_heap hN0];rfl) (by rw[Lib.cell_of_heap hF0];rfl));have HW0:=Hq hW0;clear hs hW0 hN0 hF0;rw[hi]at HCL;clear hi hf hk hv hr;go_enter Tryz.func11,Tryz.ntmps11;go_wp2_with fail;have hcl:=HCL.out;rw[←HW0.out]at hcl;refine hcl.mono ?_;rintro ev w1 ⟨rfl,hb1⟩;rw[HW0.out]at hb1;have HY1:=Hq (HY0.out.next hb1);have HB1:=Hq (HB0.out.trans (hb1.mono HB0.out.size));clear hb1 hcl;obtain⟨b,o,rfl⟩:=HSS.out.head (by have:=HKL.out;omega);obtain⟨A1,n1,c1,hvc1,_⟩:=(HSS.out.kept HB1.out (Nat.le_refl _)).get? k HE.out;have HRA1:=Hq (show w1.rangeAt b (o+k * 18) (v.vals (.slice A1 n1 c1))from hvc1);have HSZ1:=Hq (show (Tryz.prog.info? 35).map (·.size)=some (v.vals (.slice A1 n1 c1)).length from by kernel_rfl);have HVA:=Hq (show ∀ w,Calls Tryz.prog 26 #[.agg (v.vals (.slice A1 n1 c1)).toArray,.int .i64 e] w (Ret (.bool (vvalid v e)) w)from fun w=>ky_valid v (.slice A1 n1 c1) e w);clear hvc1;go_upto_region 4 with fail
 refine wp_region_lit ?_;iterate 10 go_step
 refine wp_load_mid 35 _ rfl b (o+k * 18) rfl _ _ HRA1.out Tryz.underlying35 rfl HSZ1.out ?_;obtain⟨cs,hcs⟩:∃ cs,v.vals (.slice A1 n1 c1)=cs:=⟨_,rfl⟩;rw[hcs]at HVA⊢;clear hcs;go_wp2_with fail;refine(HVA.out _).mono ?_;rintro ev w2 ⟨rfl,hb2⟩;have HY2:=Hq (HY1.out.next hb2);have HB2:=Hq (HB1.out.trans (hb2.mono HB1.out.size));clear hb2;rw[HVV.out];go_upto_region 6 with fail
 obtain⟨A2,n2,c2,hvc2,hsl2⟩:=(HSS.out.kept HB2.out (Nat.le_refl _)).get? k HE.out;have HRA2:=Hq (show w2.rangeAt b (o+k * 18) (v.vals (.slice A2 n2 c2))from hvc2);have HSZ2:=Hq (show (Tryz.prog.info? 35).map (·.size)=some (v.vals (.slice A2 n2 c2)).length from by kernel_rfl);have HCO:=Hq (show Calls Tryz.prog 25 #[.agg (v.vals (.slice A2 n2 c2)).toArray] w2 (RetVV v w2)from ky_copied v A2 n2 c2 w2 hsl2 (by rw[←hsl2.1];exact HKR.out));clear hvc2 hsl2;refine wp_region_lit ?_;iterate 10 go_step
 refine wp_load_mid 35 _ rfl b (o+k * 18) rfl _ _ HRA2.out Tryz.underlying35 rfl HSZ2.out ?_;obtain⟨ds,hds⟩:∃ ds,v.vals (.slice A2 n2 c2)=ds:=⟨_,rfl⟩;rw[hds]at HCO⊢;clear hds;go_wp2_with fail;refine HCO.out.mono ?_;rintro ev w3 ⟨A3,n3,c3,rfl,⟨B3,hB3,hown⟩,hb3⟩;have hsz2:w.heap.size+1+1<w2.heap.size:=HY2.out.lt;have HO3:=Hq (ownsRow_below_row hown (g:=w.heap.size+1+1) (by omega) (v.arr (.slice A3 n3 c3)));have HY3:=Hq (HY2.out.next hb3);have HB3:=Hq (HB2.out.trans (hb3.mono HB2.out.size));clear hb3 hown hB3 hsz2;rw[show v.val (.slice A3 n3 c3)=.agg (v.arr (.slice A3 n3 c3))from rfl];have HY4:=Hq (setRow_heap w3 (w.heap.size+1+1) _ (v.arr (.slice A3 n3 c3)) _ _ HY3.out);have HB4:=Hq (below_setRow HB3.out (g:=w.heap.size+1+1) (by omega) (v.arr (.slice A3 n3 c3)));have HON:=Hq (v.arr_one (A:=A3) (n:=n3) (c:=c3));obtain⟨rr,hrr⟩:∃ rr,v.arr (.slice A3 n3 c3)=rr:=⟨_,rfl⟩;have hrs:rr.size=18:=by rw[←hrr];rfl
 rw[hrr]at HO3 HY4 HB4 HON⊢;have HRR:=Hq hrr;have HRS:=Hq hrs;clear hrr hrs;dsimp only;iterate 2 go_step
 refine wp_store_row 35 _ _ rfl (w.heap.size+1+1) rr rfl rfl 35 (ver0.arr (.slice none 0 0)) HY3.out (by rw[HRS.out];kernel_rfl) (by rw[HRS.out];rfl) HON.out ?_;obtain⟨w4,hw4⟩:∃ w4,w3.setRow (w.heap.size+1+1) rr=w4:=⟨_,rfl⟩;rw[hw4]at HY4 HB4 HO3⊢;clear hw4;go_wp2;obtain⟨hl4,A4,c4,e4,hs4⟩:=SlN.of_owns HO3.out;cases e4;refine bodyPost_ret (v:=.tuple #[.agg rr,.int .i64 0]) (Eq.trans (results_row_tmp rfl _ _ (w.heap.size+1+1) 35 rr (0,0) _ rfl HY4.out Tryz.underlying35 rfl (by rw[HRS.out];kernel_rfl)) (by rfl)) rfl ⟨A3,n3,c3,by rw[←HRR.out];rfl,hs4,HB4.out⟩
def RetF(v:Ver)(e:Int)(w:World)(x:Ending)(w':World):Prop:=(vvalid v e=true∧RetV v 0 w x w')∨(vvalid v e=false∧RetV ver0 22 w x w')
theorem RetF_far{v:Ver}{e:Int}{w w':World}{x:Ending}(h:vvalid v e=false)(hr:RetV ver0 22 w x w'):RetF v e w x w':=.inr ⟨h,hr⟩
theorem RetF_in{v:Ver}{e:Int}{w w':World}{x:Ending}(h:vvalid v e=true)(hr:RetV v 0 w x w'):RetF v e w x w':=.inl ⟨h,hr⟩
theorem ky_Find_hit(l:List Ver)(A:Option Addr)(len cap:Nat)(name:ByteArray)(num e:Int)(w:World)(hs:SlV w A len cap l)(hlen:len≤4096)(k:Nat)(v:Ver)(hk:l[k]? =some v)(hv:hitV name num v=true)(hall:∀(i:Nat) u,i<k→l[i]? =some u→hitV name num u=false)(hr:v.kr.length≤1000000):Calls Tryz.prog 11 #[.slice A len cap,.string name,.int .i64 num,.int .i64 e] w (RetF v e w):=by
 cases hvv:vvalid v e with
 | false=>exact(ky_Find_far l A len cap name num e w hs hlen k v (findV_some hk hv hall) hk hvv).mono fun _ _ h=>RetF_far hvv h
 | true=>exact(ky_Find_in l A len cap name num e w hs hlen k v (findV_some hk hv hall) hk hvv hr).mono fun _ _ h=>RetF_in hvv h
def stepV(p:Ver→Bool)(acc:Option Ver)(v:Ver):Option Ver:=if p v=true then(match acc with | none=>some v | some u=>if u.num<v.num then some v else some u)else acc
def bestV(p:Ver→Bool)(l:List Ver):Option Ver:=l.foldl (stepV p) none
theorem bestV_snoc(p:Ver→Bool)(l:List Ver)(v:Ver):bestV p (l++[v])=stepV p (bestV p l) v:=by
 unfold bestV;rw[List.foldl_append];rfl
theorem bestV_take{p:Ver→Bool}{l:List Ver}{k:Nat}{v:Ver}(h:l[k]? =some v):bestV p (l.take (k+1))=stepV p (bestV p (l.take k)) v:=by
 rw[List.take_add_one,h,Option.toList_some,bestV_snoc]
theorem bestV_filter(n q:Ver→Bool)(l:List Ver):bestV n (l.filter q)=bestV (fun x=>n x&&q x) l:=by
 unfold bestV;rw[List.foldl_filter];congr 1
 funext acc x
 unfold stepV;cases hq:q x<;>cases hn:n x<;>simp[hn,hq]
open Go.Maps Go.WideMaps
def bestI(p:Ver→Bool)(l:List Ver):Nat→Option Nat
 | 0=>none
 | k+1=>match l[k]? with
  | none=>bestI p l k
  | some v=>if p v=true then(match bestI p l k with
   | none=>some k
   | some i=>match l[i]? with
    | some u=>if u.num<v.num then some k else some i
    | none=>some i)else bestI p l k
theorem bestI_skip{p:Ver→Bool}{l:List Ver}{j:Nat}{v:Ver}(hv:l[j]? =some v)(hp:p v=false):bestI p l (j+1)=bestI p l j:=by
 rw[bestI,hv];simp[hp]
theorem bestI_first{p:Ver→Bool}{l:List Ver}{j:Nat}{v:Ver}(h:bestI p l j=none)(hv:l[j]? =some v)(hp:p v=true):bestI p l (j+1)=some j:=by
 rw[bestI,hv];simp[hp,h]
theorem bestI_more{p:Ver→Bool}{l:List Ver}{j a:Nat}{u v:Ver}(h:bestI p l j=some a)(hu:l[a]? =some u)(hv:l[j]? =some v)(hp:p v=true)(hn:u.num<v.num):bestI p l (j+1)=some j:=by
 rw[bestI,hv];simp[hp,h,hu,hn]
theorem bestI_less{p:Ver→Bool}{l:List Ver}{j a:Nat}{u v:Ver}(h:bestI p l j=some a)(hu:l[a]? =some u)(hv:l[j]? =some v)(hp:p v=true)(hn:¬ u.num<v.num):bestI p l (j+1)=some a:=by
 rw[bestI,hv];simp[hp,h,hu,hn]
theorem bestI_lt{p:Ver→Bool}{l:List Ver}:∀ {k i:Nat},bestI p l k=some i→i<k∧∃ u,l[i]? =some u∧p u=true
 | 0,i,h=>by cases h
 | k+1,i,h=>by
  rw[bestI]at h
  cases hk:l[k]? with
  | none=>rw[hk]at h;obtain⟨h1,h2⟩:=bestI_lt h;exact⟨by omega,h2⟩
  | some v =>
   rw[hk]at h;simp only at h;by_cases hp:p v=true
   · rw[if_pos hp]at h
     cases hl:bestI p l k with
     | none=>rw[hl]at h;cases h;exact⟨by omega,v,hk,hp⟩
     | some j =>
      rw[hl]at h;obtain⟨h1,u,h2,h3⟩:=bestI_lt hl;simp only[h2]at h;split at h
      · cases h;exact⟨by omega,v,hk,hp⟩
      · cases h;exact⟨by omega,u,h2,h3⟩
   · rw[if_neg hp]at h;obtain⟨h1,h2⟩:=bestI_lt h;exact⟨by omega,h2⟩
theorem bestV_I(p:Ver→Bool)(l:List Ver):∀ k,k≤l.length→bestV p (l.take k)=(bestI p l k).bind (fun i=>l[i]?)
 | 0,_=>rfl
 | k+1,hk=>by
  obtain⟨v,hv⟩:∃ v,l[k]? =some v:=⟨_,List.getElem?_eq_getElem (by omega)⟩;have ih:=bestV_I p l k (by omega);rw[bestV_take hv,ih];unfold stepV;by_cases hp:p v=true
  · rw[if_pos hp]
    cases hl:bestI p l k with
    | none=>rw[bestI_first hl hv hp];simp[hv]
    | some a =>
     obtain⟨_,u,hu,_⟩:=bestI_lt hl;by_cases hn:u.num<v.num
     · rw[bestI_more hl hu hv hp hn];simp[hu,hn,hv]
     · rw[bestI_less hl hu hv hp hn];simp[hu,hn]
  · rw[if_neg hp,bestI_skip hv (by simpa using hp)]
theorem bestV_all(p:Ver→Bool)(l:List Ver):bestV p l=(bestI p l l.length).bind (fun i=>l[i]?):=by
 rw[←bestV_I p l l.length (Nat.le_refl _),List.take_length]
theorem lawS:Keyed Tryz.prog 9:=string_keyed Tryz.underlying9
theorem zeroI(w:World):(zeroValue 3).run Tryz.prog w=.ok (.int .i64 0) w:=by kernel_rfl
theorem keyS{s:ByteArray}(h:s.size≤maxLen):keyOf Tryz.prog 9 (.string s)=some (.string s.data.toList):=keyOf_string_mk Tryz.underlying9 h
def MapI(w:World)(b n:Nat)(f:ByteArray→Option Nat):Prop:=∃ D:DataW Unit,w.ownsMap Tryz.prog 9 (plainElem (H:=Unit) Tryz.prog 3) b n D ∧
 ∀ s:ByteArray,Maps.has D (.string s.data.toList)=(f s).isSome∧∀ k,f s=some k→D.atKey (.string s.data.toList) (.lit (.int .i64 0))=.lit (.int .i64 (k:Int))
theorem MapI.made(w:World):MapI (w.alloc (.map #[] 0)) w.heap.size 0 (fun _=>none):=⟨_,World.ownsMap_made _ _ _ _,fun _=>⟨rfl,fun _ h=>by cases h⟩⟩
theorem MapI.lt{w:World}{b n:Nat}{f:ByteArray→Option Nat}(h:MapI w b n f):b<w.heap.size:=let ⟨_,h1,_⟩:=h;h1.lt
theorem MapI.of_block{w w':World}{b n:Nat}{f:ByteArray→Option Nat}(h:MapI w b n f)(e:w'.heap[b]? =w.heap[b]?):MapI w' b n f:=by
 obtain⟨D,⟨es,clock,h1,h2⟩,h3⟩:=h;exact⟨D,⟨es,clock,e.trans h1,h2⟩,h3⟩
theorem MapI.kept{B:Nat}{w w':World}{b n:Nat}{f:ByteArray→Option Nat}(h:MapI w b n f)(hb:Below B w w')(hB:w.heap.size≤B):MapI w' b n f:=
 h.of_block (hb.block b (Nat.lt_of_lt_of_le h.lt hB))
theorem MapI.mono{w:World}{b n n':Nat}{f:ByteArray→Option Nat}(h:MapI w b n f)(hn:n≤n'):MapI w b n' f:=by
 obtain⟨D,h1,h2⟩:=h;exact⟨D,h1.mono hn,h2⟩
theorem MapI.congr{w:World}{b n:Nat}{f g:ByteArray→Option Nat}(h:MapI w b n f)(he:∀ s,f s=g s):MapI w b n g:=by
 obtain⟨D,h1,h2⟩:=h;exact⟨D,h1,fun s=>by rw[←he s];exact h2 s⟩
theorem mapI_put{w':World}{b n:Nat}{f:ByteArray→Option Nat}{h:ByteArray}{k:Nat}{D:DataW Unit}(hf:∀ s:ByteArray,Maps.has D (.string s.data.toList)=(f s).isSome∧∀ k,f s=some k→D.atKey (.string s.data.toList) (.lit (.int .i64 0))=.lit (.int .i64 (k:Int)))(hm:IsMap D)
 (hown:w'.ownsMap Tryz.prog 9 (plainElem (H:=Unit) Tryz.prog 3) b (n+1) (D.put (.string h.data.toList) (.lit (.int .i64 (k:Int))))):MapI w' b (n+1) (fun u=>if h=u then some k else f u):=by
 have hk:WideAt.IsKeyLit (.string h.data.toList):=trivial;refine⟨_,hown,fun s=>?_⟩;dsimp only;by_cases e:h=s
 · subst e;rw[has_put_same hm hk,if_pos rfl];refine⟨rfl,fun j hj=>?_⟩;cases hj;exact atKey_put_same hm hk _ _
 · have hne:(Lit.string s.data.toList)≠(Lit.string h.data.toList):=fun hh=>e (by simp only[Lit.string.injEq]at hh;rw[←bstr_of h,←bstr_of s,hh]);rw[has_put_other hne,if_neg e];refine⟨(hf s).1,fun j hj=>?_⟩;rw[atKey_put_other hne];exact(hf s).2 j hj
def nameP(name:ByteArray)(v:Ver):Bool:=v.name.toList==name.toList
end Go.Proofs.YtamhonjkgkmdbaaGreatDoor

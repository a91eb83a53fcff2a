import Derived.Test.YthknbdddhlihdaaGreatQIt
import Derived.Test.YthknbdddhlihdaaGreatRows
import Derived.Deep.RegionLaw
import Derived.Deep.AppendLies
set_option linter.unusedVariables false
set_option linter.unusedSimpArgs false
namespace Go.Proofs.YthknbdddhlihdaaGreat
set_option maxRecDepth 100000
set_option maxHeartbeats 4000000
open Go.RowKit
open Go.Maps Go.WideMaps
theorem ver_info:(Tryz.prog.info? 35).map (fun i=>(i.zero,i.size,i.bytes))=some (some (.agg (ver0.arr (.slice none 0 0))),18,272):=by kernel_rfl
theorem ver_fill(v:Ver)(A:Option Addr)(n c:Nat):Instr.fill (fun i=>some (i * 18,18)) ((Array.range (1 * 18)).map ((Value.agg (ver0.arr (.slice none 0 0))).cells[· % (Value.agg (ver0.arr (.slice none 0 0))).cells.size]!)) [(0,.agg (v.arr (.slice A n c)))]=some (v.arr (.slice A n c)):=by kernel_rfl
theorem wpList_build_ver{ops:Array Oper}{rest:List Oper}{o:Oper}{a:Act}{w:World}{Q:Exit→Act→World→Prop}(hg:o.guard=none)(x:Operand)(ho:o.op=.buildSlice 47 1 #[(0,x)])(v:Ver)(A:Option Addr)(n c:Nat)(hx:a.eval x=.agg (v.arr (.slice A n c)))
 (h:wpList Tryz.prog ops Q rest (a.put o.dst (.slice (some ⟨w.heap.size,0,none⟩) 1 1)) (w.alloc (.cells (v.arr (.slice A n c)) 35))):wpList Tryz.prog ops Q (o::rest) a w:=by
 obtain⟨i0,hi,iz0,iz1,iz2⟩:=info_parts ver_info;refine wpList_buildSlice hg _ 35 1 _ ho (v.arr (.slice A n c)) i0 _ Tryz.underlying47 hi iz0 (by rw[iz1];decide) (by rw[iz1];decide) ?_ h;rw[iz1];have e:(Array.map (fun x=>(x.1,a.eval x.2)) #[(0,x)]).toList=[(0,.agg (v.arr (.slice A n c)))]:=by simp[hx]
 show Instr.fill _ _ (Array.map (fun x=>(x.1,a.eval x.2)) #[(0,x)]).toList=_;rw[e];exact ver_fill v A n c
theorem filter_take{l:List Ver}{j:Nat}{v:Ver}(q:Ver→Bool)(h:l[j]? =some v):(l.take (j+1)).filter q=(l.take j).filter q++(if q v=true then [v]else []):=by
 rw[List.take_add_one,h,Option.toList_some,List.filter_append];congr 1;simp only[List.filter_cons,List.filter_nil]
theorem filter_le{l:List Ver}{j:Nat}(q:Ver→Bool):((l.take j).filter q).length≤j:=Nat.le_trans (List.length_filter_le _ _) (by rw[List.length_take];exact Nat.min_le_left _ _)
theorem VRow.len{w w':World}{base m:Nat}{T:TypeId}{s:Value}{vs:List Value}{l:List Ver}(hr:VRow w vs l)(h:w'.ownsRow base T 18 s m vs):m=l.length:=by
 have:=h.1;rw[hr.length]at this;omega
theorem SzV.filter{l:List Ver}(h:SzV l)(q:Ver→Bool):SzV (l.filter q):=by
 intro k v hk;have hm:v∈l.filter q:=List.mem_of_getElem? hk;obtain⟨i,hi⟩:=List.getElem?_of_mem (List.mem_filter.1 hm).1;exact h i v hi
def FwV(l:List Ver):Prop:=∀(k:Nat) (v:Ver),l[k]? =some v→v.kr.length≤1000000
theorem FwV.filter{l:List Ver}(h:FwV l)(q:Ver→Bool):FwV (l.filter q):=by
 intro k v hk;have hm:v∈l.filter q:=List.mem_of_getElem? hk;obtain⟨i,hi⟩:=List.getElem?_of_mem (List.mem_filter.1 hm).1;exact h i v hi
theorem curP_filter(name:ByteArray)(e:Int)(l:List Ver):bestV (nameP name) (l.filter (fun x=>vvalid x e))=bestV (curP name e) l:=by
 rw[bestV_filter];rfl
theorem val_arr(v:Ver)(rv:Value):v.val rv=.agg (v.arr rv):=rfl
theorem ky_Current(l:List Ver)(A:Option Addr)(len cap:Nat)(name:ByteArray)(e:Int)(w:World)(hs:SlV w A len cap l)(hlen:len≤4096)(hz:SzV l)(hfw:FwV l)(hnm:name.size≤maxLen):Calls Tryz.prog 13 #[.slice A len cap,.string name,.int .i64 e] w (RetCv (bestV (curP name e) l) w):=by
 obtain⟨W0,hW0⟩:∃ W0,w.alloc (.cells (ver0.arr (.slice none 0 0)) 35)=W0:=⟨_,rfl⟩;have HY0:=Hq (show BxC W0 w.heap.size (ver0.arr (.slice none 0 0)) 35 from by rw[←hW0];exact BxC.new _ _ _);have HB0:=Hq (show Below w.heap.size w W0 from by rw[←hW0];exact(Below.refl _ _).alloc (Nat.le_refl _) _);have HSO:=Hq hs;have HS:=Hq (hs.kept HB0.out (Nat.le_refl _));have HLEN:=Hq hs.1;have HZ:=Hq hz;have HFW:=Hq hfw;have HNM:=Hq hnm;have hcap:=hs.2.1;have hcap2:=hs.2.2.1;unfold ver0 Ver.arr at hW0;clear hs hz hfw hnm;go_enter Tryz.func13,Tryz.ntmps13;go_wp2;try rw[hW0]
 clear hW0;go_loopw [8,15] (fun s i wr=>∃(j m:Nat) (vs:List Value),j≤len∧i=.int .i64 j∧wr.ownsRow W0.heap.size 35 18 s m vs∧VRow w vs ((l.take j).filter (fun x=>vvalid x e))∧Below W0.heap.size W0 wr) (fun _ i _=>len - (intOf i).toNat);case atStart=>exact⟨0,0,[],Nat.zero_le _,rfl,World.ownsRow_nil _ _ _ _,rfl,Below.refl _ _⟩
 case round =>
  obtain⟨j,m,vs,hj,rfl,hown,hvr,hbb⟩:=hrel;have HB:=Hq hbb;have HOWN:=Hq hown;have HVR:=Hq hvr;have hml:=hvr.len hown;have hmj:=filter_le (l:=l) (j:=j) (fun x=>vvalid x e);rw[←hml]at hmj;clear hbb hown hvr;by_cases hlt:j<len
  · clear hml;obtain⟨b,o,rfl⟩:=HS.out.head (by omega);obtain⟨v,he⟩:∃ v,l[j]? =some v:=⟨_,List.getElem?_eq_getElem (by rw[HLEN.out];exact hlt)⟩;obtain⟨A1,n1,c1,hvc0,hsl0⟩:=HSO.out.get? j he;have hvc:=hvc0.kept (HB0.out.trans (HB.out.mono HB0.out.size)) (Nat.le_refl _);have HSL:=Hq hsl0;have HE:=Hq he;have HRA:=Hq (show wr.rangeAt b (o+j * 18) (v.vals (.slice A1 n1 c1))from hvc);have HSZ:=Hq (show (Tryz.prog.info? 35).map (·.size)=some (v.vals (.slice A1 n1 c1)).length from by kernel_rfl);have HON:=Hq (v.arr_one (A:=A1) (n:=n1) (c:=c1));obtain⟨cs,hcs⟩:∃ cs,v.arr (.slice A1 n1 c1)=cs:=⟨_,rfl⟩;have HCS:=Hq (show cs.size=18 from by rw[←hcs];rfl);have hva:(v.vals (.slice A1 n1 c1)).toArray=cs:=hcs;rw[hcs]at HON;have HVA:=Hq hcs;clear hvc he hcs hvc0 hsl0;go_upto_region 4 with fail
    refine wp_region_lit ?_;iterate 3 go_step
    refine wpList_load_mid rfl 35 _ rfl b (o+j * 18) rfl _ _ HRA.out Tryz.underlying35 rfl HSZ.out ?_;rw[hva];clear hva;refine Great.wpList_allocTo rfl _ rfl (.pointer (some ⟨wr.heap.size,0,none⟩)) (.cells (ver0.arr (.slice none 0 0)) 35) (by kernel_rfl) ?_;refine wpList_store_rowTo rfl 35 _ _ rfl rfl wr.heap.size cs rfl rfl 35 (ver0.arr (.slice none 0 0)) (BxC.new wr _ _) (by rw[HCS.out];kernel_rfl) (by rw[HCS.out];rfl) HON.out ?_;have HX:=Hq (box_row wr (ver0.arr (.slice none 0 0)) cs 35);have HW:=Hq (box_below wr (ver0.arr (.slice none 0 0)) cs 35);obtain⟨w2,hw2⟩:∃ w2,(wr.alloc (.cells (ver0.arr (.slice none 0 0)) 35)).setRow wr.heap.size cs=w2:=⟨_,rfl⟩;rw[hw2]at HX HW⊢;clear hw2;have HVC:=Hq (show ∀ W,Calls Tryz.prog 36 #[.agg cs,.int .i64 e] W (Ret (.bool (vvalid v e)) W)from fun W=>by rw[←HVA.out];exact ky_valid v (.slice A1 n1 c1) e W);go_upto_region 5 with fail
    refine wp_region_lit ?_;refine wpList_load_row rfl 35 _ rfl wr.heap.size rfl 35 cs (0,0) _ HX.out Tryz.underlying35 rfl (by rw[HCS.out];kernel_rfl) ?_;go_wp2_with fail;refine(HVC.out _).mono ?_;rintro ev w3 ⟨rfl,hb3⟩;have HX3:=Hq (HX.out.next hb3);have HB3:=Hq (HW.out.trans (hb3.mono HW.out.size));have HBB3:=Hq (HB.out.trans (HB3.out.mono HB.out.size));clear hb3
    cases hv:vvalid v e with
    | false =>
     have HVR2:=Hq (show VRow w vs ((l.take (j+1)).filter (fun x=>vvalid x e))from by
      rw[filter_take _ HE.out,if_neg (by rw[hv];decide),List.append_nil]
      exact HVR.out)
     have HO3:=Hq (owns_kept HOWN.out HB3.out (Nat.le_refl _));clear hv;go_wp2;go_roundw;case rel=>exact⟨j+1,m,vs,by omega,by go_num,HO3.out,HVR2.out,HBB3.out⟩
     case measure=>simp[intOf];omega
    | true =>
     have HVR2:=Hq (show VRow w (vs++v.vals (.slice A1 n1 c1)) ((l.take (j+1)).filter (fun x=>vvalid x e))from by
      rw[filter_take _ HE.out,if_pos hv]
      exact HVR.out.snoc HSL.out)
     have HO3:=Hq ((owns_kept HOWN.out HB3.out (Nat.le_refl _)).alloc (.cells (v.arr (.slice A1 n1 c1)) 35));clear hv;go_upto_region 6 with fail
     refine wp_region_lit ?_;iterate 3 go_step
     refine wpList_load_row rfl 35 _ rfl wr.heap.size rfl 35 cs (0,0) _ HX3.out Tryz.underlying35 rfl (by rw[HCS.out];kernel_rfl) ?_;refine wpList_build_ver rfl _ rfl v A1 n1 c1 (by rw[HVA.out];rfl) ?_;obtain⟨i0,hi,iz0,iz1,iz2⟩:=info_parts ver_info;refine wpList_append_lies _ rfl (.tmp 22) (.tmp 24) 47 rfl W0.heap.size 35 i0 _ 18 272 Tryz.underlying47 hi iz0 iz1 iz2 rfl (by decide) u8 m vs rfl HO3.out ⟨w3.heap.size,0,none⟩ 1 1 (v.vals (.slice A1 n1 c1)) rfl rfl (World.news_of_block (heap_alloc_new w3 (.cells (v.arr (.slice A1 n1 c1)) 35))) v.one (by decide) (by unfold maxLen;omega) (by omega) (by have:=HBB3.out.size;simp;omega) _ rfl ?_;intro g cap7 w7 hown7 hgrow7 hat7 hlt7;have HO7:=Hq hown7;have HB7:=Hq ((HBB3.out.alloc HBB3.out.size _).grown hgrow7 (by have:=HBB3.out.size;simp;omega) (fun k hk=>(HO3.out.lt k hk).1));clear hown7 hgrow7 hat7 hlt7 hi iz0 iz1 iz2;go_wp2;go_roundw;case rel=>exact⟨j+1,m+1,_,by omega,by go_num,HO7.out,HVR2.out,HB7.out⟩
     case measure=>simp[intOf];omega
  · obtain rfl:j=len:=by omega
    have hlf:(l.take j).filter (fun x=>vvalid x e)=l.filter (fun x=>vvalid x e):=by rw[←HLEN.out,List.take_length]
    obtain⟨ll,hll⟩:∃ ll,l.filter (fun x=>vvalid x e)=ll:=⟨_,rfl⟩;rw[hlf,hll]at hml HVR;have HBW:=Hq (HB0.out.trans (HB.out.mono HB0.out.size));obtain⟨_,A2,cap2,rfl,hs2⟩:=SlV.of_owns HOWN.out (HVR.out.kept HBW.out (Nat.le_refl _));have HS2:=Hq hs2;have HP:=Hq (show bestV (curP name e) l=(bestI (nameP name) ll ll.length).bind (fun i=>ll[i]?)from by rw[←curP_filter,hll,bestV_all]);have HYR:=Hq (HY0.out.next HB.out);have HZ2:=Hq (show SzV ll from by rw[←hll];exact HZ.out.filter _);have HFW2:=Hq (show FwV ll from by rw[←hll];exact HFW.out.filter _);have hk2:=hs2.2.1;have hk3:=hs2.2.2.1;have HML:=Hq hml;have HMJ:=Hq hmj;clear hlt hj hlf hll hs2 HVR hml hmj;go_wp2_with fail;refine(ky_last ll A2 m cap2 wr HS2.out (Nat.le_trans HMJ.out hlen) HZ2.out).mono ?_;rintro ev w3 ⟨mb,rfl,hmb,⟨D,hD,hF⟩,hb3⟩;have HOWN3:=Hq hD;have HF:=Hq hF;have HYR3:=Hq (HYR.out.next hb3);have HB3:=Hq (HBW.out.trans (hb3.mono HBW.out.size));have HS3:=Hq (HS2.out.kept hb3 (Nat.le_refl _));clear hD hF hb3 hmb;dsimp only;iterate 4 go_step
    refine wpList_lookup_own_ok_int _ rfl _ _ 77 rfl 9 3 .i64 lawS Tryz.underlying77 Tryz.underlying3 (zeroI _) mb ll.length D rfl HOWN3.out (.string name) (.string name.data.toList) rfl (keyS HNM.out) ?_;intro c hat hwc
    cases hi:bestI (nameP name) ll ll.length with
    | none =>
     have HN:=Hq (show bestV (curP name e) l=none from by rw[HP.out,hi];rfl);rw[show Maps.has D (.string name.data.toList)=false from by rw[(HF.out name).1];show (bestI (nameP name) ll ll.length).isSome=_;rw[hi];rfl];clear hi hat hwc;go_upto_region 10 with fail
     refine wp_region_lit ?_;iterate 4 go_step
     refine wp_store_row 35 _ _ rfl (w.heap.size) (ver0.arr (.slice none 0 0)) rfl rfl 35 (ver0.arr (.slice none 0 0)) HYR3.out (by kernel_rfl) rfl ver0.arr_one ?_;have HY4:=Hq (setRow_heap w3 (w.heap.size) _ (ver0.arr (.slice none 0 0)) _ _ HYR3.out);have HB4:=Hq (below_setRow HB3.out (g:=w.heap.size) (by omega) (ver0.arr (.slice none 0 0)));obtain⟨w4,hw4⟩:∃ w4,w3.setRow (w.heap.size) (ver0.arr (.slice none 0 0))=w4:=⟨_,rfl⟩;rw[hw4]at HY4 HB4⊢;clear hw4;go_wp2;refine bodyPost_ret (v:=.tuple #[.agg (ver0.arr (.slice none 0 0)),.int .i64 22]) (Eq.trans (results_row_tmp rfl _ _ (w.heap.size) 35 (ver0.arr (.slice none 0 0)) (0,0) _ rfl HY4.out Tryz.underlying35 rfl (by kernel_rfl)) (by rfl)) rfl (.inr ⟨HN.out,⟨none,0,0,rfl,⟨rfl,Nat.le_refl _,Nat.zero_le _,0,0,fun h=>absurd h (Nat.lt_irrefl _),fun k s h=>by simp[ver0]at h⟩,HB4.out⟩⟩)
    | some a =>
     obtain⟨ha,v,hv,_⟩:=bestI_lt hi;have HN:=Hq (show bestV (curP name e) l=some v from by rw[HP.out,hi];exact hv);obtain rfl:c=(a:Int):=by
      rw[(HF.out name).2 a hi]at hat;injection hat with h1
      injection h1 with _ h2
      exact h2.symm
     rw[show Maps.has D (.string name.data.toList)=true from by rw[(HF.out name).1];show (bestI (nameP name) ll ll.length).isSome=_;rw[hi];rfl];have ham:a<m:=by rw[HML.out];exact ha
     have hm4:m≤4096:=Nat.le_trans HMJ.out hlen;obtain⟨b2,o2,rfl⟩:=HS2.out.head (by omega);obtain⟨A3,n3,c3,hvc3,hsl3⟩:=HS3.out.get? a hv;have HRA3:=Hq (show w3.rangeAt b2 (o2+a * 18) (v.vals (.slice A3 n3 c3))from hvc3);have HSZ3:=Hq (show (Tryz.prog.info? 35).map (·.size)=some (v.vals (.slice A3 n3 c3)).length from by kernel_rfl);have HCO:=Hq (show Calls Tryz.prog 38 #[.agg (v.vals (.slice A3 n3 c3)).toArray] w3 (RetVV v w3)from ky_copied v A3 n3 c3 w3 hsl3 (by rw[←hsl3.1];exact HFW2.out a v hv));clear hi hat hwc hv hvc3 hsl3;go_upto_region 11 with fail
     refine wp_region_lit ?_;iterate 10 go_step
     refine wp_load_mid 35 _ rfl b2 (o2+a * 18) rfl _ _ HRA3.out Tryz.underlying35 rfl HSZ3.out ?_;obtain⟨ds,hds⟩:∃ ds,v.vals (.slice A3 n3 c3)=ds:=⟨_,rfl⟩;rw[hds]at HCO⊢;clear hds;go_wp2_with fail;refine HCO.out.mono ?_;rintro ev w4 ⟨A4,n4,c4,rfl,⟨B4,hB4,hown⟩,hb4⟩;have hsz3:w.heap.size<w3.heap.size:=HYR3.out.lt;have HO4:=Hq (ownsRow_below_row hown (g:=w.heap.size) (by omega) (v.arr (.slice A4 n4 c4)));have HY4:=Hq (HYR3.out.next hb4);have HB4:=Hq (HB3.out.trans (hb4.mono HB3.out.size));clear hb4 hown hB4 hsz3;rw[show v.val (.slice A4 n4 c4)=.agg (v.arr (.slice A4 n4 c4))from rfl];have HY5:=Hq (setRow_heap w4 (w.heap.size) _ (v.arr (.slice A4 n4 c4)) _ _ HY4.out);have HB5:=Hq (below_setRow HB4.out (g:=w.heap.size) (by omega) (v.arr (.slice A4 n4 c4)));have HON:=Hq (v.arr_one (A:=A4) (n:=n4) (c:=c4));obtain⟨rr,hrr⟩:∃ rr,v.arr (.slice A4 n4 c4)=rr:=⟨_,rfl⟩;have hrs:rr.size=18:=by rw[←hrr];rfl
     rw[hrr]at HO4 HY5 HB5 HON⊢;have HRR:=Hq hrr;have HRS:=Hq hrs;clear hrr hrs;dsimp only;iterate 2 go_step
     refine wp_store_row 35 _ _ rfl (w.heap.size) rr rfl rfl 35 (ver0.arr (.slice none 0 0)) HY4.out (by rw[HRS.out];kernel_rfl) (by rw[HRS.out];rfl) HON.out ?_;obtain⟨w5,hw5⟩:∃ w5,w4.setRow (w.heap.size) rr=w5:=⟨_,rfl⟩;rw[hw5]at HY5 HB5 HO4⊢;clear hw5;go_wp2;obtain⟨hl4,A5,c5,e5,hs5⟩:=SlN.of_owns HO4.out;cases e5;refine bodyPost_ret (v:=.tuple #[.agg rr,.int .i64 0]) (Eq.trans (results_row_tmp rfl _ _ (w.heap.size) 35 rr (0,0) _ rfl HY5.out Tryz.underlying35 rfl (by rw[HRS.out];kernel_rfl)) (by rfl)) rfl (.inl ⟨v,HN.out,⟨A4,n4,c4,by rw[←HRR.out];rfl,hs5,HB5.out⟩⟩)
def Ver.key(v:Ver)(rv:Value):Array Value:=#[.string v.kn,.string v.km,.string v.ko,.string v.kz,.string v.ks,rv,.string v.ku,.string v.kh]
theorem SlN.cell{w:World}{A:Option Addr}{n c:Nat}{l:List ByteArray}(h:SlN w A n c l){j:Nat}{s:ByteArray}(hj:l[j]? =some s):∃ b o,A=some ⟨b,o,none⟩∧w.cell? ⟨b,o+j,none⟩=some (.string s):=by
 have hl:=(List.getElem?_eq_some_iff.1 hj).1;obtain⟨b,o,rfl⟩:=h.head (by have:=h.1;omega);exact⟨b,o,rfl,h.get? j hj⟩
set_option maxRecDepth 100000
set_option maxHeartbeats 4000000
def shortB(most:Nat)(l:List ByteArray):Bool:=l.all (fun s=>decide (s.size≤most))
def SzL(l:List ByteArray):Prop:=∀ s∈l,s.size≤9223372036854775807
theorem SlN.new(w:World)(l:List ByteArray)(T:TypeId)(hl:l.length≤1000000):SlN (w.alloc (.cells (l.map Value.string).toArray T)) (some ⟨w.heap.size,0,none⟩) l.length l.length l:=by
 refine⟨rfl,Nat.le_refl _,by omega,w.heap.size,0,fun _=>rfl,fun k s hk=>?_⟩;rw[Lib.cell_of_heap (heap_alloc_new w _)];rw[List.getElem?_toArray,List.getElem?_map,Nat.zero_add,hk];rfl
theorem law_short(most:Nat)(l:List ByteArray)(A:Option Addr)(len cap:Nat)(w:World)(hs:SlN w A len cap l)(hz:SzL l)(hm:most≤100):Calls Tryz.prog 35 #[.int .i64 most,.slice A len cap] w (Ret (.bool (shortB most l)) w):=by
 have HS:=Hq hs;have HZ:=Hq hz;have HLEN:=Hq hs.1;have hcap:=hs.2.1;have hcap2:=hs.2.2.1;clear hs hz;go_enter Tryz.func35,Tryz.ntmps35;go_wp2
 go_loop [5] (fun i=>∃(j:Nat),j≤len∧i=.int .i64 j∧∀ s∈l.take j,s.size≤most) (fun i=>len - (intOf i).toNat)
 case atStart=>exact⟨0,Nat.zero_le _,rfl,by simp⟩
 case round =>
  obtain⟨j,hj,rfl,hall⟩:=hrel;have HALL:=Hq hall;clear hall;by_cases hlt:j<len
  · obtain⟨s,he⟩:∃ s,l[j]? =some s:=⟨_,List.getElem?_eq_getElem (by rw[HLEN.out];exact hlt)⟩;obtain⟨b,o,rfl,e1⟩:=HS.out.cell he;have hsz:=HZ.out s (List.mem_of_getElem? he);have HE:=Hq he;clear he;by_cases hss:s.size≤most
    · have HA2:=Hq (show ∀ u∈l.take (j+1),u.size≤most from fun u hu=>by
       rw[List.take_add_one,HE.out,Option.toList_some,List.mem_append,List.mem_singleton]at hu;rcases hu with hu | rfl
       · exact HALL.out u hu
       · exact hss)
      go_wp2;go_round;case rel=>exact⟨j+1,by omega,by go_num,HA2.out⟩
      case measure=>simp[intOf];omega
    · have HF:=Hq (show shortB most l=false from by
       unfold shortB;rw[List.all_eq_false]
       exact⟨s,List.mem_of_getElem? HE.out,by simpa using hss⟩)
      go_wp2;go_ret;exact⟨by rw[HF.out];rfl,Below.refl _ _⟩
  · obtain rfl:j=len:=by omega
    have HF:=Hq (show shortB most l=true from by
     unfold shortB;rw[List.all_eq_true];intro s hs;rw[←HLEN.out,List.take_length]at HALL
     exact decide_eq_true (HALL.out s hs))
    clear hlt hj;go_wp2;go_ret;exact⟨by rw[HF.out];rfl,Below.refl _ _⟩
def fewKeyB(v:Ver):Bool:=shortB 8 [v.km,v.ko]&&(shortB 9 [v.kz,v.ks,v.ku,v.kh]&&(decide (v.kr.length≤6)&&(shortB 9 v.kr&&decide (v.kn.size≤60))))
def Ver.keyStr(v:Ver):List ByteArray:=[v.km,v.ko,v.kz,v.ks,v.ku,v.kh,v.kn]++v.kr
theorem law_FewKey(v:Ver)(A:Option Addr)(n c:Nat)(w:World)(h:SlN w A n c v.kr)(hz:SzL v.keyStr):Calls Tryz.prog 11 #[.agg (v.key (.slice A n c))] w (Ret (.bool (fewKeyB v)) w):=by
 obtain⟨W0,hW0⟩:∃ W0,w.alloc (.cells (v.key (.slice A n c)) 31)=W0:=⟨_,rfl⟩;have HB0:=Hq (show Below w.heap.size w W0 from by rw[←hW0];exact(Below.refl _ _).alloc (Nat.le_refl _) _);have HX:=Hq (show BxC W0 w.heap.size (v.key (.slice A n c)) 31 from by rw[←hW0];exact BxC.new w _ _);have HS:=Hq h;have HZ:=Hq hz;have hlen:=h.1;have hcap:=h.2.1;have hcap2:=h.2.2.1;have hzn:v.kn.size≤9223372036854775807:=hz _ (by simp[Ver.keyStr]);have x1:W0.cell? ⟨w.heap.size,1,none⟩=some (.string v.km):=HX.out.cell 1;have x2:W0.cell? ⟨w.heap.size,2,none⟩=some (.string v.ko):=HX.out.cell 2;have HW0:=Hq hW0;have HC:=Hq (fun(W:World) (hb:Below w.heap.size w W)=>law_short 9 v.kr A n c W (h.kept hb (Nat.le_refl _)) (fun s hs=>hz s (by simp[Ver.keyStr,hs])) (by omega));obtain⟨kl,hkl⟩:∃ kl,v.kr.length=kl:=⟨_,rfl⟩;rw[hkl]at hlen;have HKL:=Hq hkl;have HLN:=Hq hlen;unfold Ver.key at hW0⊢;clear h hz hkl hlen;go_enter Tryz.func11,Tryz.ntmps11;go_wp2_with fail;try rw[hW0]
 clear hW0;refine(law_short 8 [v.km,v.ko] _ 2 2 _ (SlN.new W0 [v.km,v.ko] 22 (by simp)) (fun s hs=>HZ.out s (by simp[Ver.keyStr]at hs⊢;rcases hs with rfl | rfl<;>simp)) (by omega)).mono ?_;rintro e w1 ⟨rfl,hb1⟩;have hb1':=((Below.refl W0.heap.size W0).alloc (Nat.le_refl _) (.cells #[.string v.km,.string v.ko] 22)).trans (hb1.mono (by simp));have HX1:=Hq (HX.out.next hb1');have HB1:=Hq (HB0.out.trans (hb1'.mono HB0.out.size));clear hb1 hb1' x1 x2
 cases r1:shortB 8 [v.km,v.ko]with
 | false =>
  have HR:=Hq (show fewKeyB v=false from by unfold fewKeyB;rw[r1];rfl);clear r1;go_wp2;go_ret;exact⟨by rw[HR.out];rfl,HB1.out⟩
 | true =>
  have y2:w1.cell? ⟨w.heap.size,3,none⟩=some (.string v.kz):=HX1.out.cell 3;have y3:w1.cell? ⟨w.heap.size,4,none⟩=some (.string v.ks):=HX1.out.cell 4;have y5:w1.cell? ⟨w.heap.size,6,none⟩=some (.string v.ku):=HX1.out.cell 6;have y6:w1.cell? ⟨w.heap.size,7,none⟩=some (.string v.kh):=HX1.out.cell 7;have R1:=Hq r1;clear r1;go_wp2_with fail;refine(law_short 9 [v.kz,v.ks,v.ku,v.kh] _ 4 4 _ (SlN.new w1 [v.kz,v.ks,v.ku,v.kh] 22 (by simp)) (fun s hs=>HZ.out s (by simp[Ver.keyStr]at hs⊢;rcases hs with rfl | rfl | rfl | rfl<;>simp)) (by omega)).mono ?_;rintro e w2 ⟨rfl,hb2⟩;have hb2':=((Below.refl w1.heap.size w1).alloc (Nat.le_refl _) (.cells #[.string v.kz,.string v.ks,.string v.ku,.string v.kh] 22)).trans (hb2.mono (by simp));have HX2:=Hq (HX1.out.next hb2');have HB2:=Hq (HB1.out.trans (hb2'.mono HB1.out.size));clear hb2 hb2' y2 y3 y5 y6;have z4:w2.cell? ⟨w.heap.size,5,none⟩=some (.slice A n c):=HX2.out.cell 5;have z0:w2.cell? ⟨w.heap.size,0,none⟩=some (.string v.kn):=HX2.out.cell 0
  cases r2:shortB 9 [v.kz,v.ks,v.ku,v.kh]with
  | false =>
   have HR:=Hq (show fewKeyB v=false from by unfold fewKeyB;rw[R1.out,r2];rfl);clear r2;go_wp2;go_ret;exact⟨by rw[HR.out];rfl,HB2.out⟩
  | true =>
   have R2:=Hq r2;clear r2;by_cases h3:n≤6
   · have R3:=Hq (show decide (v.kr.length≤6)=true from decide_eq_true (by rw[HKL.out,HLN.out];exact h3));go_wp2_with fail;refine(HC.out w2 HB2.out).mono ?_;rintro e w3 ⟨rfl,hb3⟩;have HX3:=Hq (HX2.out.next hb3);have HB3:=Hq (HB2.out.trans (hb3.mono HB2.out.size));clear hb3 z4 z0;have z0:w3.cell? ⟨w.heap.size,0,none⟩=some (.string v.kn):=HX3.out.cell 0
     cases r4:shortB 9 v.kr with
     | false =>
      have HR:=Hq (show fewKeyB v=false from by unfold fewKeyB;rw[R1.out,R2.out,R3.out,r4];rfl);clear r4;go_wp2;go_ret;exact⟨by rw[HR.out];rfl,HB3.out⟩
     | true =>
      have R4:=Hq r4;clear r4;by_cases h5:v.kn.size≤60
      · have HR:=Hq (show fewKeyB v=true from by unfold fewKeyB;rw[R1.out,R2.out,R3.out,R4.out,decide_eq_true h5];rfl);have hd5:decide ((v.kn.size:Int)≤60)=true:=decide_eq_true (by omega);go_wp2;go_ret;exact⟨by rw[HR.out];rfl,HB3.out⟩
      · have HR:=Hq (show fewKeyB v=false from by unfold fewKeyB;rw[R1.out,R2.out,R3.out,R4.out,decide_eq_false h5];rfl);have hd5:decide ((v.kn.size:Int)≤60)=false:=decide_eq_false (by omega);go_wp2;go_ret;exact⟨by rw[HR.out];rfl,HB3.out⟩
   · have HR:=Hq (show fewKeyB v=false from by unfold fewKeyB;rw[R1.out,R2.out,decide_eq_false (show ¬ v.kr.length≤6 by rw[HKL.out,HLN.out];exact h3)];rfl);go_wp2;go_ret;exact⟨by rw[HR.out];rfl,HB2.out⟩
end Go.Proofs.YthknbdddhlihdaaGreat

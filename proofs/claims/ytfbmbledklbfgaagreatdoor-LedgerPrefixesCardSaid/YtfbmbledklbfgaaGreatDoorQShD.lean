import Derived.Test.YtfbmbledklbfgaaGreatDoorQLedC
import Derived.Test.YtfbmbledklbfgaaGreatDoorQTim
import Derived.Great.Walk
import Derived.Laws.CopyOwn
set_option linter.unusedVariables false
set_option linter.unusedSimpArgs false
namespace Go.Proofs.YtfbmbledklbfgaaGreatDoor
set_option maxRecDepth 100000
open Go.RowKit
theorem run_shl{P:Program}(x:BitVec 32)(k:IntKind)(m:Nat)(hm:m≤32)(w:World):(Op.shift .shl .u32 (wi x) k (m:Int)).run P w=.ok (.int .u32 (wi (x <<< m))) w:=by
 have e:min m 32=m:=by omega
 simp only[Op.shift,if_neg (show ¬ ((m:Int)<0)by omega),Int.toNat_natCast,IntKind.bits,e,wi_shl];rfl
theorem rot_all:∀ n:Fin 32,n.val=0∨bits .and .u64 (IntKind.u64.wrap (-(n.val:Int))) 31=((32 - n.val:Nat):Int):=by decide +kernel
theorem rot_and(n:Nat)(h0:0<n)(h1:n<32):bits .and .u64 (IntKind.u64.wrap (-(n:Int))) 31=((32 - n:Nat):Int):=(rot_all ⟨n,h1⟩).resolve_left (by simp;omega)
theorem wi_div(x:BitVec 32)(n:Nat):wi x / 2 ^ n=wi (x >>> n):=by rw[←wi_shr,Int.fdiv_eq_ediv_of_nonneg _ (Int.pow_nonneg (by decide))]
theorem rot_sub(n:Nat)(h0:0<n)(h1:n<32):IntKind.u64.wrap (32 - ((32 - n:Nat):Int))=n:=by
 rw[IntKind.wrap_u64];omega
theorem bits_rot(x:BitVec 32)(n:Nat)(h0:0<n)(h1:n<32)(w:World):Calls Tryz.prog 114 #[.int .u32 (wi x),.int .i64 (-(n:Int))] w (RetQ (.int .u32 (wi (rr x n))) w):=by
 have H1:∀ w,(Op.shift .shl .u32 (wi x) .u64 (bits .and .u64 (IntKind.u64.wrap (-(n:Int))) 31)).run Tryz.prog w=.ok (.int .u32 (wi (x <<< (32 - n)))) w:=(by intro w;rw[rot_and n h0 h1];exact run_shl _ _ _ (by omega) _);have H2:wi x / 2 ^ min (IntKind.u64.wrap (32 - bits .and .u64 (IntKind.u64.wrap (-(n:Int))) 31)).toNat 32=wi (x >>> n):=(by rw[rot_and n h0 h1,rot_sub n h0 h1,Int.toNat_natCast,Nat.min_eq_left (by omega)];exact wi_div _ _);have H3:bits .or .u32 (wi (x <<< (32 - n))) (wi (x >>> n))=wi (rr x n):=by rw[wi_or,BitVec.or_comm];rfl
 clear h0 h1;go_enter Tryz.func114,Tryz.ntmps114;go_wp2;go_ret;exact⟨rfl,rfl⟩
theorem h_turn(x:BitVec 32)(n:Nat)(h0:0<n)(h1:n<32)(w:World):Calls Tryz.prog 88 #[.int .u32 (wi x),.int .i64 n] w (RetQ (.int .u32 (wi (rr x n))) w):=by
 go_enter Tryz.func88,Tryz.ntmps88;go_wp2_with fail;refine(bits_rot x n h0 h1 _).mono ?_;rintro e w1 ⟨rfl,rfl⟩;go_wp2;go_ret;exact⟨rfl,rfl⟩
set_option maxRecDepth 100000
def W8.arr(s:W8):Array Value:=#[.int .u32 (wi s.a),.int .u32 (wi s.b),.int .u32 (wi s.c),.int .u32 (wi s.d),.int .u32 (wi s.e),.int .u32 (wi s.f),.int .u32 (wi s.g),.int .u32 (wi s.h)]
def wa(n:Nat)(f:Nat→BitVec 32):Array Value:=((List.range n).map fun i=>Value.int .u32 (wi (f i))).toArray
theorem wa_size(n:Nat)(f:Nat→BitVec 32):(wa n f).size=n:=by simp[wa]
theorem wa_get{n:Nat}(f:Nat→BitVec 32){i:Nat}(h:i<n):(wa n f)[i]? =some (.int .u32 (wi (f i))):=by simp[wa,h]
theorem wa_set{n:Nat}(f:Nat→BitVec 32)(i:Nat)(x:BitVec 32):(wa n f).setIfInBounds i (.int .u32 (wi x))=wa n (fun j=>if j=i then x else f j):=by
 apply Array.ext_getElem?;intro j;rw[Array.getElem?_setIfInBounds];rcases Nat.lt_or_ge j n with h | h
 · rw[wa_get _ h,wa_get _ h,wa_size];by_cases e:i=j
   · subst e;simp[h]
   · rw[if_neg e,if_neg (Ne.symm e)]
 · rw[Array.getElem?_eq_none (by rw[wa_size];exact h),Array.getElem?_eq_none (by rw[wa_size];exact h)];by_cases e:i=j
   · subst e;simp[wa_size];omega
   · rw[if_neg e]
theorem wa_congr{n:Nat}{f g:Nat→BitVec 32}(h:∀ i,i<n→f i=g i):wa n f=wa n g:=by
 unfold wa;congr 1;apply List.map_congr_left;intro i hi;rw[h i (by simpa using hi)]
theorem wa_one(n:Nat)(f:Nat→BitVec 32):(wa n f).all (·.oneCell')=true:=by
 rw[Array.all_eq_true'];intro v hv;simp only[wa,List.mem_toArray,List.mem_map]at hv;obtain⟨i,_,rfl⟩:=hv;rfl
theorem wa_zero(n:Nat):wa n (fun _=>0)=madeCells #[.int .u32 0] n:=by
 apply Array.ext_getElem?;intro j;rcases Nat.lt_or_ge j n with h | h
 · rw[wa_get _ h];unfold madeCells;simp[wi,h];rw[Nat.mod_one];rfl
 · rw[Array.getElem?_eq_none (by rw[wa_size];exact h),Array.getElem?_eq_none (by rw[size_madeCells];exact h)]
def RowW(w:World)(B n:Nat)(T:TypeId)(f:Nat→BitVec 32):Prop:=w.heap[B]? =some (.cells (wa n f) T (0,0))
theorem RowW.cell{w:World}{B n:Nat}{T:TypeId}{f:Nat→BitVec 32}(h:RowW w B n T f){k:Nat}(hk:k<n):w.cell? ⟨B,k,none⟩=some (.int .u32 (wi (f k))):=by
 rw[Lib.cell_of_heap h,wa_get f hk]
theorem RowW.free{w:World}{B n:Nat}{T:TypeId}{f:Nat→BitVec 32}(h:RowW w B n T f)(k:Nat):w.frozen? ⟨B,k,none⟩=false:=Lib.frozen_of_heap h k
theorem RowW.set{w:World}{B n:Nat}{T:TypeId}{f:Nat→BitVec 32}(h:RowW w B n T f)(k:Nat)(x:BitVec 32):RowW (w.setCell ⟨B,k,none⟩ (.int .u32 (wi x))) B n T (fun j=>if j=k then x else f j):=by
 unfold RowW;rw[block_setCell h,wa_set]
theorem RowW.kept{w w':World}{K B n:Nat}{T:TypeId}{f:Nat→BitVec 32}(h:RowW w B n T f)(hb:Below K w w')(hB:B<K):RowW w' B n T f:=(hb.block B hB).trans h
theorem RowW.lt{w:World}{B n:Nat}{T:TypeId}{f:Nat→BitVec 32}(h:RowW w B n T f):B<w.heap.size:=block_lt h
theorem RowW.drew{w:World}{B n:Nat}{T:TypeId}{f:Nat→BitVec 32}(h:RowW w B n T f):RowW w.drew B n T f:=h
theorem RowW.congr{w:World}{B n:Nat}{T:TypeId}{f g:Nat→BitVec 32}(h:RowW w B n T f)(hfg:∀ i,i<n→f i=g i):RowW w B n T g:=by
 unfold RowW;rw[←wa_congr hfg];exact h
theorem h_first(w:World):Calls Tryz.prog 63 #[] w (Ret (.agg st0.arr) w):=by
 go_enter Tryz.func63,Tryz.ntmps63;go_wp2;refine bodyPost_ret (v:=.agg st0.arr) (results_cell_row rfl _ _ w.heap.size 122 st0.arr (0,0) _ rfl (heap_alloc_new _ _) Tryz.underlying122 rfl (by kernel_rfl)) rfl ⟨rfl,(blr).alloc nlr _⟩
theorem h_constants(w:World):Calls Tryz.prog 86 #[] w (Ret (.agg (wa 64 kv)) w):=by
 go_enter Tryz.func86,Tryz.ntmps86;iterate 2 go_step
 refine Great.wpList_allocTo rfl _ rfl (.pointer (some ⟨w.heap.size,0,none⟩)) (.cells (madeCells #[.int .u32 0] 64) 152) (by kernel_rfl) ?_;obtain⟨W,hW⟩:∃ W,w.alloc (.cells (madeCells #[.int .u32 0] 64) 152)=W:=⟨_,rfl⟩;have HB:Below w.heap.size w W:=hW▸(blr).alloc nlr _;have HC:W.heap[w.heap.size]? =some (.cells (madeCells #[.int .u32 0] 64) 152 (0,0)):=hW▸heap_alloc_new _ _;rw[hW];clear hW;iterate 5 go_step
 refine wpList_buildFlatArrTo rfl 152 120 64 _ rfl .u32 (kL.map fun n:Nat=>(n:Int)) (some 1) rfl (Tryz.underlying152) (by kernel_rfl) (by kernel_rfl) (by kernel_rfl) ?_;refine wpList_store_rowTo rfl 152 _ _ rfl rfl w.heap.size (wa 64 kv) (by kernel_rfl) (by kernel_rfl) 152 _ HC (by kernel_rfl) (by kernel_rfl) (wa_one _ _) ?_;obtain⟨X,hX⟩:∃ X,W.setRow w.heap.size (wa 64 kv)=X:=⟨_,rfl⟩;have HB2:Below w.heap.size w X:=hX▸below_setRow HB nlr _;have HC2:X.heap[w.heap.size]? =some (.cells (wa 64 kv) 152 (0,0)):=hX▸setRow_heap _ _ _ _ _ _ HC;rw[hX];clear hX HB HC;go_wp2;refine bodyPost_ret (v:=.agg (wa 64 kv)) (results_cell_row rfl _ _ w.heap.size 152 (wa 64 kv) (0,0) _ rfl HC2 Tryz.underlying152 rfl (by rw[wa_size];kernel_rfl)) rfl ⟨rfl,HB2⟩
set_option maxRecDepth 100000
set_option maxHeartbeats 2000000
def wz(m:List UInt8)(k:Nat)(j:Nat):BitVec 32:=if j<k then wv m j else 0
theorem byteN(l:List UInt8)(k:Nat):∃ n:Nat,n≤255∧byteI l k=(n:Int)∧(l.getD k 0).toNat=n:=⟨(l.getD k 0).toNat,by have:=(l.getD k 0).toNat_lt;omega,rfl,rfl⟩
theorem sched_val(X16 X15 X7 X2:BitVec 32):(wi X16+bits .xor .u32 (bits .xor .u32 (wi (rr X15 7)) (wi (rr X15 18))) (wi X15 / 8)+wi X7+bits .xor .u32 (bits .xor .u32 (wi (rr X2 17)) (wi (rr X2 19))) (wi X2 / 1024))%4294967296=wi (X16+sg0 X15+X7+sg1 X2):=by
 rw[show (8:Int)=2 ^ 3 from rfl,show (1024:Int)=2 ^ 10 from rfl,wi_div,wi_div,wi_xor,wi_xor,wi_xor,wi_xor,←wi_add,←wi_add,←wi_add];simp only[IntKind.wrap_u32'];unfold sg0 sg1;omega
theorem or_sh(A n B:Nat)(h:B<2 ^ n)(hA:A * 2 ^ n<4294967296)(hB:B<4294967296):bits .or .u32 ((A * 2 ^ n:Nat):Int) (B:Int)=((A * 2 ^ n+B:Nat):Int):=by
 rw[u32_or_nat _ _ hA hB,←Nat.shiftLeft_eq,Nat.shiftLeft_add_eq_or_of_lt h]
theorem word4{x0 x1 x2 x3:Nat}(h0:x0≤255)(h1:x1≤255)(h2:x2≤255)(h3:x3≤255) :
 bits .or .u32 (bits .or .u32 (bits .or .u32 ((x0:Int) * 16777216) ((x1:Int) * 65536)) ((x2:Int) * 256)) (x3:Int)=wi (BitVec.ofNat 32 (((x0 * 256+x1) * 256+x2) * 256+x3)):=by
 rw[show (x0:Int) * 16777216=((x0 * 2 ^ 24:Nat):Int)by omega,show (x1:Int) * 65536=((x1 * 65536:Nat):Int)by omega,or_sh x0 24 (x1 * 65536) (by omega) (by omega) (by omega)];rw[show (x0 * 2 ^ 24+x1 * 65536)=(x0 * 256+x1) * 2 ^ 16 by omega,show (x2:Int) * 256=((x2 * 256:Nat):Int)by omega,or_sh _ 16 (x2 * 256) (by omega) (by omega) (by omega)];rw[show ((x0 * 256+x1) * 2 ^ 16+x2 * 256)=((x0 * 256+x1) * 256+x2) * 2 ^ 8 by omega,or_sh _ 8 x3 (by omega) (by omega) (by omega)];unfold wi;rw[BitVec.toNat_ofNat,Nat.mod_eq_of_lt (by omega)]
theorem h_schedule(m:List UInt8)(b o cap:Nat)(w:World)(hm:BytesAt w (some ⟨b,o,none⟩) 64 cap m):Calls Tryz.prog 87 #[.slice (some ⟨b,o,none⟩) 64 cap] w (Ret (.agg (wa 64 (wv m))) w):=by
 obtain⟨hml,hmc,hmx,hcell⟩:=hm;have HCELL:=Hq (show ∀ k,k<64→w.cell? ⟨b,o+k,none⟩=some (.int .u8 (byteI m k))from fun k hk=>by
  obtain⟨b',o',e,h⟩:=hcell (by omega)
  cases e;exact h k hk)
 clear hcell;go_enter Tryz.func87,Tryz.ntmps87;iterate 2 go_step
 refine Great.wpList_allocTo rfl _ rfl (.pointer (some ⟨w.heap.size,0,none⟩)) (.cells (madeCells #[.int .u32 0] 64) 152) (by kernel_rfl) ?_;obtain⟨W,hW⟩:∃ W,w.alloc (.cells (madeCells #[.int .u32 0] 64) 152)=W:=⟨_,rfl⟩;have HB:=Hq (show Below w.heap.size w W from hW▸(blr).alloc nlr _);have HC:=Hq (show W.heap[w.heap.size]? =some (.cells (madeCells #[.int .u32 0] 64) 152 (0,0))from hW▸heap_alloc_new _ _);have hz:W.heap.size=w.heap.size+1:=hW▸World.size_alloc _ _;rw[hW];clear hW;iterate 5 go_step
 refine Great.wpList_allocTo rfl _ rfl (.pointer (some ⟨w.heap.size+1,0,none⟩)) (.cells (madeCells #[.int .u32 0] 64) 152) (by rw[←hz];kernel_rfl) ?_;obtain⟨X,hX⟩:∃ X,W.alloc (.cells (madeCells #[.int .u32 0] 64) 152)=X:=⟨_,rfl⟩;have HBX:=Hq (show Below (w.heap.size+1) W X from hX▸hz▸(blr).alloc nlr _);have HX:=Hq (show RowW X (w.heap.size+1) 64 152 (wz m 0)from by
  rw[show wz m 0=fun _=>0 from funext fun j=>rfl];unfold RowW;rw[wa_zero,←hX,←hz];exact heap_alloc_new _ _)
 rw[hX];clear hX;obtain⟨H,hH⟩:∃ H,w.heap.size=H:=⟨_,rfl⟩;rw[hH]at HB HC hz HBX HX⊢;clear hz hml;go_wp2;go_loopw [9] (fun i wr=>∃ k:Nat,k≤16∧i=.int .i64 k∧RowW wr (H+1) 64 152 (wz m k)∧Below (H+1) W wr) (fun i _=>16 - (intOf i).toNat);case atStart=>exact⟨0,Nat.zero_le _,rfl,HX.out,HBX.out⟩
 case round =>
  obtain⟨k,hk,rfl,hR,hBR⟩:=hrel;have HR:=Hq hR;have HBR:=Hq hBR;clear hR hBR;by_cases hlt:k<16
  · obtain⟨p,hp⟩:∃ p,4 * k=p:=⟨_,rfl⟩;have hpi:4 * (k:Int)=(p:Int):=by omega
    have hp60:p≤60:=by omega
    have hp4:p+4 - p=4:=by omega
    have hk64:(k:Int)<64:=by omega
    obtain⟨x0,hx0,e0,g0⟩:=byteN m p;obtain⟨x1,hx1,e1,g1⟩:=byteN m (p+1);obtain⟨x2,hx2,e2,g2⟩:=byteN m (p+2);obtain⟨x3,hx3,e3,g3⟩:=byteN m (p+3);have HBY:=Hq (show wd m k=BitVec.ofNat 32 (((x0 * 256+x1) * 256+x2) * 256+x3)from by unfold wd;rw[hp,g0,g1,g2,g3]);have hor:=word4 hx0 hx1 hx2 hx3;rw[←HBY.out]at hor;obtain⟨V,hV⟩:∃ V,Go.Proofs.YtfbmbledklbfgaaGreatDoor.wd m k=V:=⟨_,rfl⟩;have HVV:=Hq hV;rw[hV]at hor;clear hV HBY;have hcl:∀ i,p+i<64→wr.drew.cell? ⟨b,o+(p+i),none⟩=some (.int .u8 (byteI m (p+i))):=fun i hi=>by
     have h:=HCELL.out (p+i) hi;have hb:=World.block_lt_of_cell? _ _ h;rw[hH]at hb;exact(HBR.out.cell (p:=⟨b,o+(p+i),none⟩) (Nat.lt_succ_of_lt hb)).trans ((HB.out.cell (p:=⟨b,o+(p+i),none⟩) hb).trans h)
    have c0:=hcl 0 (by omega);have c1:=hcl 1 (by omega);have c2:=hcl 2 (by omega);have c3:=hcl 3 (by omega);rw[Nat.add_zero,e0]at c0;rw[e1,←Nat.add_assoc]at c1;rw[e2,←Nat.add_assoc]at c2;rw[e3,←Nat.add_assoc]at c3;have hf:=HR.out.drew.free k;have hcw:=HR.out.drew.cell (show k<64 by omega);clear hp hcl g0 g1 g2 g3 e0 e1 e2 e3;obtain⟨wd,hwd⟩:∃ wd,wr.drew=wd:=⟨_,rfl⟩;rw[hwd]at c0 c1 c2 c3 hf hcw;go_wp2;refine wp_region_K 24 (Eq wd) (by kernel_rfl) ?_;intro hD;rw[hwd];refine qPD 0 19 24 rfl hD rfl ?_;clear hD;intro hD;simp only[Act.put,sqA,sqB,sqC];refine qPD 1 20 23 rfl hD rfl ?_;clear hD;intro hD;simp only[Act.put,sqA,sqB,sqC];refine qPD 2 21 22 rfl hD rfl ?_;clear hD;intro hD;simp only[Act.put,sqA,sqB,sqC];refine qTD 3 22 21 rfl hD rfl (by intro w' hS';have e0:=(hS'▸c0);have e1:=(hS'▸c1);have e2:=(hS'▸c2);have e3:=(hS'▸c3);go_simp;with_reducible rfl) ?_;clear hD;intro hD;simp only[Act.put,sqA,sqB,sqC];refine qPD 4 23 20 rfl hD rfl ?_;clear hD;intro hD;simp only[Act.put,sqA,sqB,sqC];refine qPD 5 24 19 rfl hD rfl ?_;clear hD;intro hD;simp only[Act.put,sqA,sqB,sqC];refine qPD 6 25 18 rfl hD rfl ?_;clear hD;intro hD;simp only[Act.put,sqA,sqB,sqC];refine qPD 7 26 17 rfl hD rfl ?_;clear hD;intro hD;simp only[Act.put,sqA,sqB,sqC];refine qTD 8 27 16 rfl hD rfl (by intro w' hS';have e0:=(hS'▸c0);have e1:=(hS'▸c1);have e2:=(hS'▸c2);have e3:=(hS'▸c3);go_simp;with_reducible rfl) ?_;clear hD;intro hD;simp only[Act.put,sqA,sqB,sqC];refine qPD 9 28 15 rfl hD rfl ?_;clear hD;intro hD;simp only[Act.put,sqA,sqB,sqC];refine qPD 10 29 14 rfl hD rfl ?_;clear hD;intro hD;simp only[Act.put,sqA,sqB,sqC];refine qPD 11 30 13 rfl hD rfl ?_;clear hD;intro hD;simp only[Act.put,sqA,sqB,sqC];refine qPD 12 31 12 rfl hD rfl ?_;clear hD;intro hD;simp only[Act.put,sqA,sqB,sqC];refine qPD 13 32 11 rfl hD rfl ?_;clear hD;intro hD;simp only[Act.put,sqA,sqB,sqC];refine qTD 14 33 10 rfl hD rfl (by intro w' hS';have e0:=(hS'▸c0);have e1:=(hS'▸c1);have e2:=(hS'▸c2);have e3:=(hS'▸c3);go_simp;with_reducible rfl) ?_;clear hD;intro hD;simp only[Act.put,sqA,sqB,sqC];refine qPD 15 34 9 rfl hD rfl ?_;clear hD;intro hD;simp only[Act.put,sqA,sqB,sqC];refine qPD 16 35 8 rfl hD rfl ?_;clear hD;intro hD;simp only[Act.put,sqA,sqB,sqC];refine qPD 17 36 7 rfl hD rfl ?_;clear hD;intro hD;simp only[Act.put,sqA,sqB,sqC];refine qPD 18 37 6 rfl hD rfl ?_;clear hD;intro hD;simp only[Act.put,sqA,sqB,sqC];refine qPD 19 38 5 rfl hD rfl ?_;clear hD;intro hD;simp only[Act.put,sqA,sqB,sqC];refine qTD 20 39 4 rfl hD rfl (by intro w' hS';have e0:=(hS'▸c0);have e1:=(hS'▸c1);have e2:=(hS'▸c2);have e3:=(hS'▸c3);go_simp;with_reducible rfl) ?_;clear hD;intro hD;simp only[Act.put,sqA,sqB,sqC];refine qPD 21 40 3 rfl hD rfl ?_;clear hD;intro hD;simp only[Act.put,sqA,sqB,sqC];refine qPD 22 41 2 rfl hD rfl ?_;clear hD;intro hD;simp only[Act.put,sqA,sqB,sqC];refine qPD 23 42 1 rfl hD rfl ?_;clear hD;intro hD;simp only[Act.put,sqA,sqB,sqC];refine wpAnyK_oneT (i:=24) (fuel:=0) (by kernel_rfl) rfl hD (by kernel_rfl) ?_;clear hD;intro K24 hK24;go_wp2;refine hK24 _ _ ?_;clear hK24;intro hD;refine wpD ?_;clear hD;go_wp2;go_roundw;case rel =>
     refine⟨k+1,by omega,by go_num,?_,?_⟩
     · rw[←hwd];refine(HR.out.drew.set k V).congr fun i hi=>?_;unfold wz;by_cases e:i=k
       · rw[if_pos e,if_pos (by omega),e,wv_low m hlt,HVV.out]
       · rw[if_neg e];by_cases h:i<k
         · rw[if_pos h,if_pos (by omega)]
         · rw[if_neg h,if_neg (by omega)]
     · rw[←hwd];exact HBR.out.drew.setCell nlr _
    case measure=>simp[intOf];omega
  · have HK:=Hq (show k=16 from by omega);have HR16:=Hq (show RowW wr (H+1) 64 152 (wz m 16)from by rw[←HK.out];exact HR.out);have hge:¬ ((k:Int)<16):=by omega
    clear hk hlt HK HR;go_wp2;go_loopw [6] (fun i wr=>∃ k:Nat,16≤k∧k≤64∧i=.int .i64 k∧RowW wr (H+1) 64 152 (wz m k)∧Below (H+1) W wr) (fun i _=>64 - (intOf i).toNat);case atStart=>exact⟨16,Nat.le_refl _,by omega,rfl,HR16.out,HBR.out⟩
    case round =>
     obtain⟨k,hk0,hk,rfl,hR,hBR⟩:=hrel;have HR:=Hq hR;have HBR:=Hq hBR;clear hR hBR;by_cases hlt:k<64
     · have hlti:(k:Int)<64:=by omega
       obtain⟨q15,hq15⟩:∃ q,k - 15=q:=⟨_,rfl⟩;obtain⟨q2,hq2⟩:∃ q,k - 2=q:=⟨_,rfl⟩;obtain⟨q16,hq16⟩:∃ q,k - 16=q:=⟨_,rfl⟩;obtain⟨q7,hq7⟩:∃ q,k - 7=q:=⟨_,rfl⟩;have i15:(k:Int) - 15=(q15:Int):=by omega
       have i2:(k:Int) - 2=(q2:Int):=by omega
       have i16:(k:Int) - 16=(q16:Int):=by omega
       have i7:(k:Int) - 7=(q7:Int):=by omega
       have l15:(q15:Int)<64:=by omega
       have l2:(q2:Int)<64:=by omega
       have l16:(q16:Int)<64:=by omega
       have l7:(q7:Int)<64:=by omega
       have v15:IntKind.i64.wrap (q15:Int)=(q15:Int):=by rw[IntKind.wrap_i64];omega
       have v2:IntKind.i64.wrap (q2:Int)=(q2:Int):=by rw[IntKind.wrap_i64];omega
       have v16:IntKind.i64.wrap (q16:Int)=(q16:Int):=by rw[IntKind.wrap_i64];omega
       have v7:IntKind.i64.wrap (q7:Int)=(q7:Int):=by rw[IntKind.wrap_i64];omega
       have HV:=Hq (show wv m k=wz m k q16+sg0 (wz m k q15)+wz m k q7+sg1 (wz m k q2)from by
        unfold wz;rw[if_pos (by omega),if_pos (by omega),if_pos (by omega),if_pos (by omega),wv_high m hk0,hq15,hq2,hq16,hq7])
       have c15:=HR.out.drew.cell (show q15<64 by omega);have c2:=HR.out.drew.cell (show q2<64 by omega);have c16:=HR.out.drew.drew.cell (show q16<64 by omega);have c7:=HR.out.drew.drew.cell (show q7<64 by omega);have hf:=HR.out.drew.drew.free k;have hcw:=HR.out.drew.drew.cell (show k<64 by omega);obtain⟨X15,hX15⟩:∃ X,wz m k q15=X:=⟨_,rfl⟩;obtain⟨X2,hX2⟩:∃ X,wz m k q2=X:=⟨_,rfl⟩;obtain⟨X16,hX16⟩:∃ X,wz m k q16=X:=⟨_,rfl⟩;obtain⟨X7,hX7⟩:∃ X,wz m k q7=X:=⟨_,rfl⟩;rw[hX15,hX2,hX16,hX7]at HV;rw[hX15]at c15;rw[hX2]at c2;rw[hX16]at c16;rw[hX7]at c7;clear hX15 hX2 hX16 hX7 hq15 hq2 hq16 hq7;obtain⟨wd,hwd⟩:∃ wd,wr.drew=wd:=⟨_,rfl⟩;obtain⟨we,hwe⟩:∃ we,wd.drew=we:=⟨_,rfl⟩;rw[hwd]at c15 c2 c16 c7 hf hcw;rw[hwe]at c16 c7 hf hcw;go_wp2;refine wp_region_K 10 (Eq wd) (by kernel_rfl) ?_;intro hD;rw[hwd];refine rP 0 48 9 rfl hD rfl ?_;clear hD;intro hD;refine rP 1 49 8 rfl hD rfl ?_;clear hD;intro hD;refine rP 2 50 7 rfl hD rfl ?_;clear hD;intro hD;refine rT 3 51 6 rfl hD rfl (by intro w' hS';have e0:=(hS'▸c15);have e1:=(hS'▸c2);go_simp;with_reducible rfl) ?_;clear hD;intro hD;refine rP 4 52 5 rfl hD rfl ?_;clear hD;intro hD;refine rP 5 53 4 rfl hD rfl ?_;clear hD;intro hD;refine rP 6 54 3 rfl hD rfl ?_;clear hD;intro hD;refine rT 7 55 2 rfl hD rfl (by intro w' hS';have e0:=(hS'▸c15);have e1:=(hS'▸c2);go_simp;with_reducible rfl) ?_;clear hD;intro hD;simp only[Act.put,sqA,sqB,sqC];refine rO 8 1 rfl hD ?_;clear hD;intro K8 hK8;go_wp2;refine hK8 _ _ (by rfl) ?_;clear hK8;intro hS_11_8 hD;refine rO 9 0 rfl hD ?_;clear hD;intro K9 hK9;go_wp2;refine hK9 _ _ (by rfl) ?_;clear hK9;intro hS_11_9 hD;refine wpD ?_;clear hD;go_wp2;refine wp_region_K 29 (Eq we) (by kernel_rfl) ?_;intro hD;rw[hwe];refine qPD 0 56 29 rfl hD rfl ?_;clear hD;intro hD;simp only[Act.put,sqA,sqB,sqC];refine qPD 1 57 28 rfl hD rfl ?_;clear hD;intro hD;simp only[Act.put,sqA,sqB,sqC];refine qPD 2 58 27 rfl hD rfl ?_;clear hD;intro hD;simp only[Act.put,sqA,sqB,sqC];refine qPD 3 59 26 rfl hD rfl ?_;clear hD;intro hD;simp only[Act.put,sqA,sqB,sqC];refine qTD 4 60 25 rfl hD rfl (by intro w' hS';have e0:=(hS'▸c16);have e1:=(hS'▸c7);go_simp;with_reducible rfl) ?_;clear hD;intro hD;simp only[Act.put,sqA,sqB,sqC];refine qPD 5 61 24 rfl hD rfl ?_;clear hD;intro hD;simp only[Act.put,sqA,sqB,sqC];refine qPD 7 63 23 rfl hD rfl ?_;clear hD;intro hD;simp only[Act.put,sqA,sqB,sqC];refine qPD 10 66 22 rfl hD rfl ?_;clear hD;intro hD;simp only[Act.put,sqA,sqB,sqC];refine qPD 11 67 21 rfl hD rfl ?_;clear hD;intro hD;simp only[Act.put,sqA,sqB,sqC];refine qPD 14 70 20 rfl hD rfl ?_;clear hD;intro hD;simp only[Act.put,sqA,sqB,sqC];refine qPD 15 71 19 rfl hD rfl ?_;clear hD;intro hD;simp only[Act.put,sqA,sqB,sqC];refine qPD 16 72 18 rfl hD rfl ?_;clear hD;intro hD;simp only[Act.put,sqA,sqB,sqC];refine qTD 17 73 17 rfl hD rfl (by intro w' hS';have e0:=(hS'▸c16);have e1:=(hS'▸c7);go_simp;with_reducible rfl) ?_;clear hD;intro hD;simp only[Act.put,sqA,sqB,sqC];refine qPD 19 75 16 rfl hD rfl ?_;clear hD;intro hD;simp only[Act.put,sqA,sqB,sqC];refine qPD 21 77 15 rfl hD rfl ?_;clear hD;intro hD;simp only[Act.put,sqA,sqB,sqC];refine qPD 24 80 14 rfl hD rfl ?_;clear hD;intro hD;simp only[Act.put,sqA,sqB,sqC];refine qPD 25 81 13 rfl hD rfl ?_;clear hD;intro hD;simp only[Act.put,sqA,sqB,sqC];refine rO 6 12 rfl hD ?_;clear hD;intro K6 hK6;go_wp2_with fail;refine(h_turn X15 7 (by decide) (by decide) _).mono ?_;rintro e w1 ⟨rfl,rfl⟩;go_wp2;refine hK6 _ _ (by rfl) ?_;clear hK6;intro hS_12_6 hD;refine rO 8 11 rfl hD ?_;clear hD;intro K8 hK8;go_wp2_with fail;refine(h_turn X15 18 (by decide) (by decide) _).mono ?_;rintro e w1 ⟨rfl,rfl⟩;go_wp2;refine hK8 _ _ (by rfl) ?_;clear hK8;intro hS_12_8 hD;refine qPD 9 65 10 rfl hD hS_12_8 ?_;clear hD;intro hD;simp only[Act.put,sqA,sqB,sqC];refine qPD 12 68 9 rfl hD hS_12_8 ?_;clear hD;intro hD;simp only[Act.put,sqA,sqB,sqC];refine qPD 13 69 8 rfl hD hS_12_8 ?_;clear hD;intro hD;simp only[Act.put,sqA,sqB,sqC];refine qPD 18 74 7 rfl hD hS_12_8 ?_;clear hD;intro hD;simp only[Act.put,sqA,sqB,sqC];refine rO 20 6 rfl hD ?_;clear hD;intro K20 hK20;go_wp2_with fail;refine(h_turn X2 17 (by decide) (by decide) _).mono ?_;rintro e w1 ⟨rfl,rfl⟩;go_wp2;refine hK20 _ _ (by rfl) ?_;clear hK20;intro hS_12_20 hD;refine rO 22 5 rfl hD ?_;clear hD;intro K22 hK22;go_wp2_with fail;refine(h_turn X2 19 (by decide) (by decide) _).mono ?_;rintro e w1 ⟨rfl,rfl⟩;go_wp2;refine hK22 _ _ (by rfl) ?_;clear hK22;intro hS_12_22 hD;refine qPD 23 79 4 rfl hD hS_12_22 ?_;clear hD;intro hD;simp only[Act.put,sqA,sqB,sqC];refine qPD 26 82 3 rfl hD hS_12_22 ?_;clear hD;intro hD;simp only[Act.put,sqA,sqB,sqC];refine qPD 27 83 2 rfl hD hS_12_22 ?_;clear hD;intro hD;simp only[Act.put,sqA,sqB,sqC];refine qPD 28 84 1 rfl hD hS_12_22 ?_;clear hD;intro hD;simp only[Act.put,sqA,sqB,sqC];refine wpAnyK_oneT (i:=29) (fuel:=0) (by kernel_rfl) rfl hD (by kernel_rfl) ?_;clear hD;intro K29 hK29;go_wp2;refine hK29 _ _ ?_;clear hK29;intro hD;refine wpD ?_;clear hD;rw[sched_val,←HV.out];clear i15 i2 i16 i7 l15 l2 l16 l7 v15 v2 v16 v7 c16 c7 c15 c2 hf hcw HV;obtain⟨V,hV⟩:∃ V,wv m k=V:=⟨_,rfl⟩;rw[hV];have HVV:=Hq hV;clear hV;go_wp2;go_roundw;case rel =>
        refine⟨k+1,by omega,by omega,by go_num,?_,?_⟩
        · rw[←hwe,←hwd];refine(HR.out.drew.drew.set k V).congr fun i hi=>?_;unfold wz;by_cases e:i=k
          · rw[if_pos e,if_pos (by omega),e,HVV.out]
          · rw[if_neg e];by_cases h:i<k
            · rw[if_pos h,if_pos (by omega)]
            · rw[if_neg h,if_neg (by omega)]
        · rw[←hwe,←hwd];exact HBR.out.drew.drew.setCell nlr _
       case measure=>simp[intOf];omega
     · obtain rfl:k=64:=by omega
       have HR2:=Hq (show RowW wr (H+1) 64 152 (wv m)from HR.out.congr fun i hi=>by unfold wz;rw[if_pos hi]);clear HR hk0 hk hlt;have HC2:=Hq (show wr.heap[H]? =some (.cells (madeCells #[.int .u32 0] 64) 152 (0,0))from(HBR.out.block H (by omega)).trans HC.out);go_wp2_with (first
        | refine wpList_load_row rfl 152 _ rfl (H+1) rfl 152 (wa 64 (wv m)) (0,0) _ HR2.out Tryz.underlying152 rfl (by rw[wa_size];kernel_rfl) ?_
        | refine wpList_store_rowTo rfl 152 _ _ rfl rfl H (wa 64 (wv m)) rfl rfl 152 _ HC2.out (by rw[wa_size];kernel_rfl) (by rw[wa_size];kernel_rfl) (wa_one _ _) ?_)
       refine bodyPost_ret (v:=.agg (wa 64 (wv m))) (results_cell_row rfl _ _ H 152 (wa 64 (wv m)) (0,0) _ rfl (setRow_heap _ _ _ _ _ _ HC2.out) Tryz.underlying152 rfl (by rw[wa_size];kernel_rfl)) rfl ⟨rfl,?_⟩;rw[hH];exact below_setRow (HB.out.trans (HBR.out.mono (by omega))) nlr _
end Go.Proofs.YtfbmbledklbfgaaGreatDoor

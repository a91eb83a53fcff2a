import Derived.Test.YtppbcopnfankcaaGreatQShC
set_option linter.unusedVariables false
set_option linter.unusedSimpArgs false
namespace Go.Proofs.YtppbcopnfankcaaGreat
set_option maxRecDepth 100000
set_option maxHeartbeats 2000000
open Go.RowKit
def wz(m:List UInt8)(k:Nat)(j:Nat):BitVec 32:=if j<k then wv m j else 0
theorem zvb(l:List UInt8)(k:Nat):∃ n:Nat,n≤255∧jv l k=(n:Int)∧(l.getD k 0).toNat=n:=⟨(l.getD k 0).toNat,by have:=(l.getD k 0).toNat_lt;omega,rfl,rfl⟩
theorem zqy(X16 X15 X7 X2:BitVec 32):(wi X16+bits .xor .u32 (bits .xor .u32 (wi (rr X15 7)) (wi (rr X15 18))) (wi X15 / 8)+wi X7+bits .xor .u32 (bits .xor .u32 (wi (rr X2 17)) (wi (rr X2 19))) (wi X2 / 1024))%4294967296=wi (X16+sg0 X15+X7+sg1 X2):=by
 rw[show (8:Int)=2 ^ 3 from rfl,show (1024:Int)=2 ^ 10 from rfl,zhe,zhe,xz,xz,xz,xz,←zcn,←zcn,←zcn];simp only[IntKind.wrap_u32'];unfold sg0 sg1;omega
theorem zw1(A n B:Nat)(h:B<2 ^ n)(hA:A * 2 ^ n<4294967296)(hB:B<4294967296):bits .or .u32 ((A * 2 ^ n:Nat):Int) (B:Int)=((A * 2 ^ n+B:Nat):Int):=by
 rw[u32_or_nat _ _ hA hB,←Nat.shiftLeft_eq,Nat.shiftLeft_add_eq_or_of_lt h]
theorem zzq{x0 x1 x2 x3:Nat}(h0:x0≤255)(h1:x1≤255)(h2:x2≤255)(h3:x3≤255) :
 bits .or .u32 (bits .or .u32 (bits .or .u32 ((x0:Int) * 16777216) ((x1:Int) * 65536)) ((x2:Int) * 256)) (x3:Int)=wi (BitVec.ofNat 32 (((x0 * 256+x1) * 256+x2) * 256+x3)):=by
 rw[show (x0:Int) * 16777216=((x0 * 2 ^ 24:Nat):Int)by omega,show (x1:Int) * 65536=((x1 * 65536:Nat):Int)by omega,zw1 x0 24 (x1 * 65536) (by omega) (by omega) (by omega)];rw[show (x0 * 2 ^ 24+x1 * 65536)=(x0 * 256+x1) * 2 ^ 16 by omega,show (x2:Int) * 256=((x2 * 256:Nat):Int)by omega,zw1 _ 16 (x2 * 256) (by omega) (by omega) (by omega)];rw[show ((x0 * 256+x1) * 2 ^ 16+x2 * 256)=((x0 * 256+x1) * 256+x2) * 2 ^ 8 by omega,zw1 _ 8 x3 (by omega) (by omega) (by omega)];unfold wi;rw[BitVec.toNat_ofNat,Nat.mod_eq_of_lt (by omega)]
theorem zpz(m:List UInt8)(b o cap:Nat)(w:World)(hm:BytesAt w (some ⟨b,o,none⟩) 64 cap m):Calls Tryz.prog 122 #[.slice (some ⟨b,o,none⟩) 64 cap] w (Ret (.agg (wa 64 (wv m))) w):=by
 obtain⟨hml,hmc,hmx,hcell⟩:=hm;have HCELL:=Hq (show ∀ k,k<64→w.cell? ⟨b,o+k,none⟩=some (.int .u8 (jv m k))from fun k hk=>by
  obtain⟨b',o',e,h⟩:=hcell (by omega)
  cases e;exact h k hk)
 clear hcell;go_enter Tryz.func122,Tryz.ntmps122;iterate 2 go_step
 refine Great.wpList_allocTo rfl _ rfl (.pointer (some ⟨w.heap.size,0,none⟩)) (.cells (madeCells #[.int .u32 0] 64) 171) (by kernel_rfl) ?_;obtain⟨W,hW⟩:=nm (w.alloc (.cells (madeCells #[.int .u32 0] 64) 171));have HB:=Hq (show Below w.heap.size w W from hW▸(blr).alloc nlr _);have HC:=Hq (show W.heap[w.heap.size]? =some (.cells (madeCells #[.int .u32 0] 64) 171 (0,0))from hW▸heap_alloc_new _ _);have hz:W.heap.size=w.heap.size+1:=hW▸World.size_alloc _ _;rw[hW];clear hW;iterate 5 go_step
 refine Great.wpList_allocTo rfl _ rfl (.pointer (some ⟨w.heap.size+1,0,none⟩)) (.cells (madeCells #[.int .u32 0] 64) 171) (by rw[←hz];kernel_rfl) ?_;obtain⟨X,hX⟩:=nm (W.alloc (.cells (madeCells #[.int .u32 0] 64) 171));have HBX:=Hq (show Below (w.heap.size+1) W X from hX▸hz▸(blr).alloc nlr _);have HX:=Hq (show RowW X (w.heap.size+1) 64 171 (wz m 0)from by
  rw[show wz m 0=fun _=>0 from funext fun j=>rfl];unfold RowW;rw[zql,←hX,←hz];exact heap_alloc_new _ _)
 rw[hX];clear hX;obtain⟨H,hH⟩:=nm (w.heap.size);rw[hH]at HB HC hz HBX HX⊢;clear hz hml;go_wp2;go_loopw [9] (fun i wr=>∃ k:Nat,k≤16∧i=.int .i64 k∧RowW wr (H+1) 64 171 (wz m k)∧Below (H+1) W wr) (fun i _=>16 - (intOf i).toNat);case atStart=>exact⟨0,Nat.zero_le _,rfl,HX.out,HBX.out⟩
 case round =>
  obtain⟨k,hk,rfl,hR,hBR⟩:=hrel;have HR:=Hq hR;have HBR:=Hq hBR;clear hR hBR;by_cases hlt:k<16
  · obtain⟨p,hp⟩:=nm (4 * k);have hpi:4 * (k:Int)=(p:Int):=by omega
    have hp60:p≤60:=by omega
    have hp4:p+4 - p=4:=by omega
    have hk64:(k:Int)<64:=by omega
    obtain⟨x0,hx0,e0,g0⟩:=zvb m p;obtain⟨x1,hx1,e1,g1⟩:=zvb m (p+1);obtain⟨x2,hx2,e2,g2⟩:=zvb m (p+2);obtain⟨x3,hx3,e3,g3⟩:=zvb m (p+3);have HBY:=Hq (show wd m k=BitVec.ofNat 32 (((x0 * 256+x1) * 256+x2) * 256+x3)from by unfold wd;rw[hp,g0,g1,g2,g3]);have hor:=zzq hx0 hx1 hx2 hx3;rw[←HBY.out]at hor;obtain⟨V,hV⟩:=nm (Go.Proofs.YtppbcopnfankcaaGreat.wd m k);have HVV:=Hq hV;rw[hV]at hor;clear hV HBY;have hcl:∀ i,p+i<64→wr.drew.cell? ⟨b,o+(p+i),none⟩=some (.int .u8 (jv m (p+i))):=fun i hi=>by
     have h:=HCELL.out (p+i) hi;have hb:=World.block_lt_of_cell? _ _ h;rw[hH]at hb;exact(HBR.out.cell (p:=⟨b,o+(p+i),none⟩) (Nat.lt_succ_of_lt hb)).trans ((HB.out.cell (p:=⟨b,o+(p+i),none⟩) hb).trans h)
    have c0:=hcl 0 (by omega);have c1:=hcl 1 (by omega);have c2:=hcl 2 (by omega);have c3:=hcl 3 (by omega);rw[Nat.add_zero,e0]at c0;rw[e1,←Nat.add_assoc]at c1;rw[e2,←Nat.add_assoc]at c2;rw[e3,←Nat.add_assoc]at c3;have hf:=HR.out.drew.free k;have hcw:=HR.out.drew.cell (show k<64 by omega);clear hp hcl g0 g1 g2 g3 e0 e1 e2 e3;obtain⟨wd,hwd⟩:=nm (wr.drew);rw[hwd]at c0 c1 c2 c3 hf hcw;go_wp2;refine za 24 (Eq wd) (by kernel_rfl) ?_;rw[hwd];refine qPDs 0 19 24 rfl ?_;refine qPDs 1 20 23 rfl ?_;refine qPDs 2 21 22 rfl ?_;refine qTDs 3 22 21 rfl (fun w' hS'=>(And.intro ((hS'▸c0)) (And.intro ((hS'▸c1)) (And.intro ((hS'▸c2)) ((hS'▸c3)))))) ?_;refine qPDs 4 23 20 rfl ?_;refine qPDs 5 24 19 rfl ?_;refine qPDs 6 25 18 rfl ?_;refine qPDs 7 26 17 rfl ?_;refine qTDs 8 27 16 rfl (fun w' hS'=>(And.intro ((hS'▸c0)) (And.intro ((hS'▸c1)) (And.intro ((hS'▸c2)) ((hS'▸c3)))))) ?_;refine qPDs 9 28 15 rfl ?_;refine qPDs 10 29 14 rfl ?_;refine qPDs 11 30 13 rfl ?_;refine qPDs 12 31 12 rfl ?_;refine qPDs 13 32 11 rfl ?_;refine qTDs 14 33 10 rfl (fun w' hS'=>(And.intro ((hS'▸c0)) (And.intro ((hS'▸c1)) (And.intro ((hS'▸c2)) ((hS'▸c3)))))) ?_;refine qPDs 15 34 9 rfl ?_;refine qPDs 16 35 8 rfl ?_;refine qPDs 17 36 7 rfl ?_;refine qPDs 18 37 6 rfl ?_;refine qPDs 19 38 5 rfl ?_;refine qTDs 20 39 4 rfl (fun w' hS'=>(And.intro ((hS'▸c0)) (And.intro ((hS'▸c1)) (And.intro ((hS'▸c2)) ((hS'▸c3)))))) ?_;refine qPDs 21 40 3 rfl ?_;refine qPDs 22 41 2 rfl ?_;refine qPDs 23 42 1 rfl ?_;refine oT 24 0 ?_;intro K24 hK24;go_wp2;refine hK24 _ _ ?_;clear hK24;refine wDn ?_;go_wp2;go_roundw;case rel =>
     refine⟨k+1,by omega,by go_num,?_,?_⟩
     · rw[←hwd];refine(HR.out.drew.set k V).congr fun i hi=>?_;unfold wz;by_cases e:i=k
       · rw[if_pos e,if_pos (by omega),e,zvj m hlt,HVV.out]
       · rw[if_neg e];by_cases h:i<k
         · rw[if_pos h,if_pos (by omega)]
         · rw[if_neg h,if_neg (by omega)]
     · rw[←hwd];exact HBR.out.drew.setCell nlr _
    case measure=>simp[intOf];omega
  · have HK:=Hq (show k=16 from by omega);have HR16:=Hq (show RowW wr (H+1) 64 171 (wz m 16)from by rw[←HK.out];exact HR.out);have hge:¬ ((k:Int)<16):=by omega
    clear hk hlt HK HR;go_wp2;go_loopw [6] (fun i wr=>∃ k:Nat,16≤k∧k≤64∧i=.int .i64 k∧RowW wr (H+1) 64 171 (wz m k)∧Below (H+1) W wr) (fun i _=>64 - (intOf i).toNat);case atStart=>exact⟨16,Nat.le_refl _,by omega,rfl,HR16.out,HBR.out⟩
    case round =>
     obtain⟨k,hk0,hk,rfl,hR,hBR⟩:=hrel;have HR:=Hq hR;have HBR:=Hq hBR;clear hR hBR;by_cases hlt:k<64
     · have hlti:(k:Int)<64:=by omega
       obtain⟨q15,hq15⟩:=nm (k - 15);obtain⟨q2,hq2⟩:=nm (k - 2);obtain⟨q16,hq16⟩:=nm (k - 16);obtain⟨q7,hq7⟩:=nm (k - 7);have i15:(k:Int) - 15=(q15:Int):=by omega
       have i2:(k:Int) - 2=(q2:Int):=by omega
       have i16:(k:Int) - 16=(q16:Int):=by omega
       have i7:(k:Int) - 7=(q7:Int):=by omega
       have l15:(q15:Int)<64:=by omega
       have l2:(q2:Int)<64:=by omega
       have l16:(q16:Int)<64:=by omega
       have l7:(q7:Int)<64:=by omega
       have v15:IntKind.i64.wrap (q15:Int)=(q15:Int):=by rw[IntKind.wrap_i64];omega
       have v2:IntKind.i64.wrap (q2:Int)=(q2:Int):=by rw[IntKind.wrap_i64];omega
       have v16:IntKind.i64.wrap (q16:Int)=(q16:Int):=by rw[IntKind.wrap_i64];omega
       have v7:IntKind.i64.wrap (q7:Int)=(q7:Int):=by rw[IntKind.wrap_i64];omega
       have HV:=Hq (show wv m k=wz m k q16+sg0 (wz m k q15)+wz m k q7+sg1 (wz m k q2)from by
        unfold wz;rw[if_pos (by omega),if_pos (by omega),if_pos (by omega),if_pos (by omega),zqj m hk0,hq15,hq2,hq16,hq7])
       have c15:=HR.out.drew.cell (show q15<64 by omega);have c2:=HR.out.drew.cell (show q2<64 by omega);have c16:=HR.out.drew.drew.cell (show q16<64 by omega);have c7:=HR.out.drew.drew.cell (show q7<64 by omega);have hf:=HR.out.drew.drew.free k;have hcw:=HR.out.drew.drew.cell (show k<64 by omega);obtain⟨X15,hX15⟩:=nm (wz m k q15);obtain⟨X2,hX2⟩:=nm (wz m k q2);obtain⟨X16,hX16⟩:=nm (wz m k q16);obtain⟨X7,hX7⟩:=nm (wz m k q7);rw[hX15,hX2,hX16,hX7]at HV;rw[hX15]at c15;rw[hX2]at c2;rw[hX16]at c16;rw[hX7]at c7;clear hX15 hX2 hX16 hX7 hq15 hq2 hq16 hq7;obtain⟨wd,hwd⟩:=nm (wr.drew);obtain⟨we,hwe⟩:=nm (wd.drew);rw[hwd]at c15 c2 c16 c7 hf hcw;rw[hwe]at c16 c7 hf hcw;go_wp2;refine za 10 (Eq wd) (by kernel_rfl) ?_;rw[hwd];refine rPs 0 48 9 rfl ?_;refine rPs 1 49 8 rfl ?_;refine rPs 2 50 7 rfl ?_;refine rTs 3 51 6 rfl (fun w' hS'=>(And.intro ((hS'▸c15)) ((hS'▸c2)))) ?_;refine rPs 4 52 5 rfl ?_;refine rPs 5 53 4 rfl ?_;refine rPs 6 54 3 rfl ?_;refine rTs 7 55 2 rfl (fun w' hS'=>(And.intro ((hS'▸c15)) ((hS'▸c2)))) ?_;refine rO 8 1 ?_;intro K8 hK8;go_wp2;refine hK8 _ _ (by rfl) ?_;clear hK8;intro hS_11_8;refine rO 9 0 ?_;intro K9 hK9;go_wp2;refine hK9 _ _ (by rfl) ?_;clear hK9;intro hS_11_9;refine wDn ?_;go_wp2;refine za 29 (Eq we) (by kernel_rfl) ?_;rw[hwe];refine qPDs 0 56 29 rfl ?_;refine qPDs 1 57 28 rfl ?_;refine qPDs 2 58 27 rfl ?_;refine qPDs 3 59 26 rfl ?_;refine qTDs 4 60 25 rfl (fun w' hS'=>(And.intro ((hS'▸c16)) ((hS'▸c7)))) ?_;refine qPDs 5 61 24 rfl ?_;refine qPDs 7 63 23 rfl ?_;refine qPDs 10 66 22 rfl ?_;refine qPDs 11 67 21 rfl ?_;refine qPDs 14 70 20 rfl ?_;refine qPDs 15 71 19 rfl ?_;refine qPDs 16 72 18 rfl ?_;refine qTDs 17 73 17 rfl (fun w' hS'=>(And.intro ((hS'▸c16)) ((hS'▸c7)))) ?_;refine qPDs 19 75 16 rfl ?_;refine qPDs 21 77 15 rfl ?_;refine qPDs 24 80 14 rfl ?_;refine qPDs 25 81 13 rfl ?_;refine rO 6 12 ?_;intro K6 hK6;go_wp2_with fail;refine(zb4 X15 7 (by decide) (by decide) _).mono ?_;rintro e w1 ⟨rfl,rfl⟩;go_wp2;refine hK6 _ _ (by rfl) ?_;clear hK6;intro hS_12_6;refine rO 8 11 ?_;intro K8 hK8;go_wp2_with fail;refine(zb4 X15 18 (by decide) (by decide) _).mono ?_;rintro e w1 ⟨rfl,rfl⟩;go_wp2;refine hK8 _ _ (by rfl) ?_;clear hK8;intro hS_12_8;refine qPDs 9 65 10 hS_12_8 ?_;refine qPDs 12 68 9 hS_12_8 ?_;refine qPDs 13 69 8 hS_12_8 ?_;refine qPDs 18 74 7 hS_12_8 ?_;refine rO 20 6 ?_;intro K20 hK20;go_wp2_with fail;refine(zb4 X2 17 (by decide) (by decide) _).mono ?_;rintro e w1 ⟨rfl,rfl⟩;go_wp2;refine hK20 _ _ (by rfl) ?_;clear hK20;intro hS_12_20;refine rO 22 5 ?_;intro K22 hK22;go_wp2_with fail;refine(zb4 X2 19 (by decide) (by decide) _).mono ?_;rintro e w1 ⟨rfl,rfl⟩;go_wp2;refine hK22 _ _ (by rfl) ?_;clear hK22;intro hS_12_22;refine qPDs 23 79 4 hS_12_22 ?_;refine qPDs 26 82 3 hS_12_22 ?_;refine qPDs 27 83 2 hS_12_22 ?_;refine qPDs 28 84 1 hS_12_22 ?_;refine oT 29 0 ?_;intro K29 hK29;go_wp2;refine hK29 _ _ ?_;clear hK29;refine wDn ?_;rw[zqy,←HV.out];clear i15 i2 i16 i7 l15 l2 l16 l7 v15 v2 v16 v7 c16 c7 c15 c2 hf hcw HV;obtain⟨V,hV⟩:=nm (wv m k);rw[hV];have HVV:=Hq hV;clear hV;go_wp2;go_roundw;case rel =>
        refine⟨k+1,by omega,by omega,by go_num,?_,?_⟩
        · rw[←hwe,←hwd];refine(HR.out.drew.drew.set k V).congr fun i hi=>?_;unfold wz;by_cases e:i=k
          · rw[if_pos e,if_pos (by omega),e,HVV.out]
          · rw[if_neg e];by_cases h:i<k
            · rw[if_pos h,if_pos (by omega)]
            · rw[if_neg h,if_neg (by omega)]
        · rw[←hwe,←hwd];exact HBR.out.drew.drew.setCell nlr _
       case measure=>simp[intOf];omega
     · obtain rfl:k=64:=by omega
       have HR2:=Hq (show RowW wr (H+1) 64 171 (wv m)from HR.out.congr fun i hi=>by unfold wz;rw[if_pos hi]);clear HR hk0 hk hlt;have HC2:=Hq (show wr.heap[H]? =some (.cells (madeCells #[.int .u32 0] 64) 171 (0,0))from(HBR.out.block H (by omega)).trans HC.out);go_wp2_with (first
        | refine wpList_load_row rfl 171 _ rfl (H+1) rfl 171 (wa 64 (wv m)) (0,0) _ HR2.out Tryz.underlying171 rfl (by rw[xt];kernel_rfl) ?_
        | refine wpList_store_rowTo rfl 171 _ _ rfl rfl H (wa 64 (wv m)) rfl rfl 171 _ HC2.out (by rw[xt];kernel_rfl) (by rw[xt];kernel_rfl) (zm4 _ _) ?_)
       refine bodyPost_ret (v:=.agg (wa 64 (wv m))) (results_cell_row rfl _ _ H 171 (wa 64 (wv m)) (0,0) _ rfl (setRow_heap _ _ _ _ _ _ HC2.out) Tryz.underlying171 rfl (by rw[xt];kernel_rfl)) rfl ⟨rfl,?_⟩;rw[hH];exact below_setRow (HB.out.trans (HBR.out.mono (by omega))) nlr _
end Go.Proofs.YtppbcopnfankcaaGreat

import Derived.Test.YtfbmbledklbfgaaGreatQTrD
set_option linter.unusedVariables false
set_option linter.unusedSimpArgs false
namespace Go.Proofs.YtfbmbledklbfgaaGreat
set_option maxRecDepth 100000
set_option maxHeartbeats 2000000
open Go.RowKit Go.Lib
theorem word_info:(Tryz.prog.info? 168).map (fun i=>(i.zero,i.size,i.bytes))=some (some (.int .u32 0),1,4):=by kernel_rfl
theorem make_words(n:Nat)(hn:n≤1000000)(w:World):(Instr.makeSlice 181 (.int .i64 n) (.int .i64 n)).run Tryz.prog w=.ok (.slice (some ⟨w.heap.size,0,none⟩) n n) (w.alloc (.cells (madeCells #[.int .u32 0] n) 168)):=by
 obtain⟨i0,hi,hz0,hz1,hz2⟩:=info_parts word_info;have h:=run_make (P:=Tryz.prog) w 181 168 i0 (.int .u32 0) Tryz.underlying181 hi hz0 .i64 .i64 (n:Int) (n:Int) (by omega) (Int.le_refl _) (by rw[hz2];omega) (by omega);rw[h,hz1,Int.toNat_natCast,Nat.mul_one];rfl
theorem index_byte_run{op:Oper}{ρ:Operand→Value}{w:World}(x i:Operand)(ho:op.op=.index 9 x i)(s:ByteArray)(p:Nat)(hx:ρ x=.string s)(hi:ρ i=.int .i64 (p:Int))(hp:p<s.size){v:Nat}(hv:(s.data.toList.getD p 0).toNat=v) :
 (execOp ρ op).run Tryz.prog w=.ok (.value (.int .u8 (v:Int))) w:=by
 subst hv;have h1:s[p]? =some s[p]:=by simp[hp]
 have h2:s.data.toList.getD p 0=s[p]:=data_getD s p hp;rw[h2];unfold execOp;simp[ho,hx,hi,Instr.index,asIntOf,run_underlying Tryz.underlying9,h1,Result.andThen]
theorem sched_val2(X16 X15 X7 X2:BitVec 32):(((wi X16+bits .xor .u32 (bits .xor .u32 (wi (rr X15 7)) (wi (rr X15 18))) (wi X15 / 8))%4294967296+wi X7)%4294967296+bits .xor .u32 (bits .xor .u32 (wi (rr X2 17)) (wi (rr X2 19))) (wi X2 / 1024))%4294967296=wi (X16+sg0 X15+X7+sg1 X2):=by
 rw[show (8:Int)=2 ^ 3 from rfl,show (1024:Int)=2 ^ 10 from rfl,wi_div,wi_div,wi_xor,wi_xor,wi_xor,wi_xor,mod_val,mod_val,mod_val];rfl
def pb(m:List UInt8)(i:Nat):Nat→Nat
 | 0=>0
 | q+1=>pb m i q * 256+(m.getD (4 * i+q) 0).toNat
theorem pb_four(m:List UInt8)(i:Nat):BitVec.ofNat 32 (pb m i 4)=wd m i:=by simp[pb,wd]
theorem step_val(p b:Nat):(wi (BitVec.ofNat 32 p) * 256%4294967296+(b:Int))%4294967296=wi (BitVec.ofNat 32 (p * 256+b)):=by
 unfold wi;rw[BitVec.toNat_ofNat,BitVec.toNat_ofNat];omega
def wq(m:List UInt8)(i q:Nat)(j:Nat):BitVec 32:=if j=i then BitVec.ofNat 32 (pb m i q)else wz m i j
theorem wq_zero(m:List UInt8)(i:Nat):wq m i 0=wz m i:=by
 funext j
 unfold wq wz;by_cases h:j=i
 · subst h;rw[if_pos rfl,if_neg (Nat.lt_irrefl _)];rfl
 · rw[if_neg h]
theorem wq_four(m:List UInt8)(i:Nat)(h:i<16):wq m i 4=wz m (i+1):=by
 funext j
 unfold wq wz;by_cases e:j=i
 · subst e;rw[if_pos rfl,if_pos (Nat.lt_succ_self _),pb_four,wv_low m h]
 · rw[if_neg e];by_cases h2:j<i
   · rw[if_pos h2,if_pos (by omega)]
   · rw[if_neg h2,if_neg (by omega)]
theorem r05_schedule(s:ByteArray)(hs:s.size=64)(w:World):Calls Tryz.prog 184 #[.string s] w fun e w'=>e=.returned (.slice (some ⟨w.heap.size,0,none⟩) 64 64)∧RowW w' w.heap.size 64 168 (wv s.data.toList)∧Below w.heap.size w w':=by
 obtain⟨m,hm⟩:∃ m,s.data.toList=m:=⟨_,rfl⟩;have HM:=Hq hm;rw[hm];clear hm;have hmk:(Instr.makeSlice 181 (.int .i64 64) (.int .i64 64)).run Tryz.prog w=.ok (.slice (some ⟨w.heap.size,0,none⟩) 64 64) (w.alloc (.cells (madeCells #[.int .u32 0] 64) 168)):=make_words 64 (by decide) w;obtain⟨w1,hw1⟩:∃ w1,w.alloc (.cells (madeCells #[.int .u32 0] 64) 168)=w1:=⟨_,rfl⟩;have HR1:=Hq (show RowW w1 w.heap.size 64 168 (wz m 0)from by
  rw[show wz m 0=fun _=>0 from funext fun j=>rfl];unfold RowW;rw[wa_zero,←hw1];exact heap_alloc_new _ _)
 have HB1:=Hq (show Below w.heap.size w w1 from hw1▸(blr).alloc nlr _);rw[hw1]at hmk;clear hw1;obtain⟨H,hH⟩:∃ H,w.heap.size=H:=⟨_,rfl⟩;rw[hH]at HR1 HB1 hmk⊢;go_enter Tryz.func184,Tryz.ntmps184;go_wp2;clear hmk;go_loopw [4] (fun i wr=>∃ k:Nat,k≤16∧i=.int .i64 k∧RowW wr H 64 168 (wz m k)∧Below H w wr) (fun i _=>16 - (RowKit.intOf i).toNat);case atStart=>exact⟨0,Nat.zero_le _,rfl,HR1.out,HB1.out⟩
 case round =>
  obtain⟨k,hk,rfl,hR,hBR⟩:=hrel;have HR:=Hq hR;have HB:=Hq hBR;clear hR hBR;by_cases hlt:k<16
  · have hlti:(k:Int)<16:=by omega
    have hk64:(k:Int)<64:=by omega
    go_wp2;go_loopw [5] (fun i wr=>∃ q:Nat,q≤4∧i=.int .i64 q∧RowW wr H 64 168 (wq m k q)∧Below H w wr) (fun i _=>4 - (RowKit.intOf i).toNat);case atStart=>exact⟨0,Nat.zero_le _,rfl,by rw[wq_zero];exact HR.out,HB.out⟩
    case round =>
     obtain⟨q,hq,rfl,hR,hBR⟩:=hrel;have HR:=Hq hR;have HB:=Hq hBR;clear hR hBR;by_cases hq4:q<4
     · have hq4i:(q:Int)<4:=by omega
       have c0:=HR.out.drew.cell (show k<64 by omega);have hf:=HR.out.drew.free k;rw[show wq m k q k=BitVec.ofNat 32 (pb m k q)from by unfold wq;rw[if_pos rfl]]at c0;obtain⟨y,hy⟩:∃ y,BitVec.ofNat 32 (pb m k q)=y:=⟨_,rfl⟩;rw[hy]at c0;have HY:=Hq hy;clear hy;obtain⟨p,hp⟩:∃ p,4 * k+q=p:=⟨_,rfl⟩;have hpi:4 * (k:Int)+(q:Int)=(p:Int):=by omega
       have hp64:(p:Int)<64:=by omega
       have hwa:IntKind.i64.wrap (4 * (k:Int))=4 * (k:Int):=by rw[IntKind.wrap_i64];omega
       have hwb:IntKind.i64.wrap (p:Int)=(p:Int):=by rw[IntKind.wrap_i64];omega
       have HPS:=Hq (show p<s.size from by omega);obtain⟨x,hx⟩:∃ x,(m.getD p 0).toNat=x:=⟨_,rfl⟩;have hx255:x≤255:=by rw[←hx];have:=(m.getD p 0).toNat_lt;omega
       have HXX:=Hq hx;have HP:=Hq hp;clear hx hp;obtain⟨wd,hwd⟩:∃ wd,wr.drew=wd:=⟨_,rfl⟩;rw[hwd]at c0 hf;go_wp2;refine wp_region_K 16 (Eq wd) (by kernel_rfl) ?_;intro hD;rw[hwd];refine qPD 0 20 16 rfl hD rfl ?_;clear hD;intro hD;simp only[Act.put,sqA,sqB,sqC];refine qPD 1 21 15 rfl hD rfl ?_;clear hD;intro hD;simp only[Act.put,sqA,sqB,sqC];refine qPD 2 22 14 rfl hD rfl ?_;clear hD;intro hD;simp only[Act.put,sqA,sqB,sqC];refine qPD 3 23 13 rfl hD rfl ?_;clear hD;intro hD;simp only[Act.put,sqA,sqB,sqC];refine qPD 4 24 12 rfl hD rfl ?_;clear hD;intro hD;simp only[Act.put,sqA,sqB,sqC];refine qTD 5 25 11 rfl hD rfl (by intro w' hS';have e0:=(hS'▸c0);go_simp;with_reducible rfl) ?_;clear hD;intro hD;simp only[Act.put,sqA,sqB,sqC];refine qPD 6 26 10 rfl hD rfl ?_;clear hD;intro hD;simp only[Act.put,sqA,sqB,sqC];refine qPD 7 27 9 rfl hD rfl ?_;clear hD;intro hD;simp only[Act.put,sqA,sqB,sqC];refine qPD 8 28 8 rfl hD rfl ?_;clear hD;intro hD;simp only[Act.put,sqA,sqB,sqC];refine qPD 9 29 7 rfl hD rfl ?_;clear hD;intro hD;simp only[Act.put,sqA,sqB,sqC];refine qPD 10 30 6 rfl hD rfl ?_;clear hD;intro hD;simp only[Act.put,sqA,sqB,sqC];refine qPD 11 31 5 rfl hD rfl ?_;clear hD;intro hD;refine wpAnyK_takeD (i:=12) (d:=some 32) (v:=(.int .u8 (x:Int))) (fuel:=4) rfl (by kernel_rfl) (by kernel_rfl) (by kernel_rfl) (fun _ _ _ h=>h) hD rfl (.inl ⟨by kernel_rfl,?y8_12b1⟩) ?n8_12b1;case y8_12b1 =>
        intro w' hS';exact index_byte_run (.tmp 27) (.tmp 31) rfl s p rfl rfl HPS.out (by rw[HM.out];exact HXX.out)
       clear hD;intro hD;simp only[Act.put,sqA,sqB,sqC];refine qPD 13 33 3 rfl hD rfl ?_;clear hD;intro hD;simp only[Act.put,sqA,sqB,sqC];refine qPD 14 34 2 rfl hD rfl ?_;clear hD;intro hD;simp only[Act.put,sqA,sqB,sqC];refine qPD 15 35 1 rfl hD rfl ?_;clear hD;intro hD;simp only[Act.put,sqA,sqB,sqC];refine wpAnyK_oneT (i:=16) (fuel:=0) (by kernel_rfl) rfl hD (by kernel_rfl) ?_;clear hD;intro K16 hK16;go_wp2;refine hK16 _ _ ?_;clear hK16;intro hD;refine wpAnyK_done (by kernel_rfl) ?_ 0;clear hD;rw[←HY.out,step_val];obtain⟨V,hV⟩:∃ V,BitVec.ofNat 32 (pb m k q * 256+x)=V:=⟨_,rfl⟩;have HV:=Hq hV;rw[hV,HY.out];clear hV;go_wp2;go_roundw;case rel =>
        refine⟨q+1,by omega,by go_num,?_,?_⟩
        · rw[←hwd];refine(HR.out.drew.set k V).congr fun j hj=>?_;unfold wq;by_cases e:j=k
          · rw[if_pos e,if_pos e,←HV.out,←HXX.out,←HP.out];rfl
          · rw[if_neg e,if_neg e,if_neg e]
        · rw[←hwd];exact HB.out.drew.setCell nlr _
       case measure=>simp[RowKit.intOf];omega
     · have HQ:=Hq (show q=4 from by omega);have hq4i:¬ ((q:Int)<4):=by omega
       have HR2:=Hq (show RowW wr H 64 168 (wz m (k+1))from by rw[←wq_four m k hlt,←HQ.out];exact HR.out);clear hq hq4 HQ HR;go_wp2;go_roundw;case rel=>exact⟨k+1,by omega,by go_num,HR2.out,HB.out⟩
       case measure=>simp[RowKit.intOf];omega
  · have HK:=Hq (show k=16 from by omega);have hge:¬ ((k:Int)<16):=by omega
    have HR2:=Hq (show RowW wr H 64 168 (wz m 16)from by rw[←HK.out];exact HR.out);clear hk hlt HK HR;go_wp2;go_loopw [6] (fun i wr=>∃ k:Nat,16≤k∧k≤64∧i=.int .i64 k∧RowW wr H 64 168 (wz m k)∧Below H w wr) (fun i _=>64 - (RowKit.intOf i).toNat);case atStart=>exact⟨16,Nat.le_refl _,by omega,rfl,HR2.out,HB.out⟩
    case round =>
     obtain⟨k,hk0,hk,rfl,hR,hBR⟩:=hrel;have HR:=Hq hR;have HB:=Hq hBR;clear hR hBR;by_cases hlt:k<64
     · have hlti:(k:Int)<64:=by omega
       obtain⟨q15,hq15⟩:∃ q,k - 15=q:=⟨_,rfl⟩;obtain⟨q2,hq2⟩:∃ q,k - 2=q:=⟨_,rfl⟩;obtain⟨q16,hq16⟩:∃ q,k - 16=q:=⟨_,rfl⟩;obtain⟨q7,hq7⟩:∃ q,k - 7=q:=⟨_,rfl⟩;have i15:(k:Int) - 15=(q15:Int):=by omega
       have i2:(k:Int) - 2=(q2:Int):=by omega
       have i16:(k:Int) - 16=(q16:Int):=by omega
       have i7:(k:Int) - 7=(q7:Int):=by omega
       have l15:(q15:Int)<64:=by omega
       have l2:(q2:Int)<64:=by omega
       have l16:(q16:Int)<64:=by omega
       have l7:(q7:Int)<64:=by omega
       have v15:IntKind.i64.wrap (q15:Int)=(q15:Int):=by rw[IntKind.wrap_i64];omega
       have v2:IntKind.i64.wrap (q2:Int)=(q2:Int):=by rw[IntKind.wrap_i64];omega
       have v16:IntKind.i64.wrap (q16:Int)=(q16:Int):=by rw[IntKind.wrap_i64];omega
       have v7:IntKind.i64.wrap (q7:Int)=(q7:Int):=by rw[IntKind.wrap_i64];omega
       have HV:=Hq (show wv m k=wz m k q16+sg0 (wz m k q15)+wz m k q7+sg1 (wz m k q2)from by
        unfold wz;rw[if_pos (by omega),if_pos (by omega),if_pos (by omega),if_pos (by omega),wv_high m hk0,hq15,hq2,hq16,hq7])
       have c15:=HR.out.drew.cell (show q15<64 by omega);have c2:=HR.out.drew.cell (show q2<64 by omega);have L16:=Hq (show q16<64 from by omega);have L7:=Hq (show q7<64 from by omega);obtain⟨X15,hX15⟩:∃ X,wz m k q15=X:=⟨_,rfl⟩;obtain⟨X2,hX2⟩:∃ X,wz m k q2=X:=⟨_,rfl⟩;obtain⟨X16,hX16⟩:∃ X,wz m k q16=X:=⟨_,rfl⟩;obtain⟨X7,hX7⟩:∃ X,wz m k q7=X:=⟨_,rfl⟩;rw[hX15,hX2,hX16,hX7]at HV;rw[hX15]at c15;rw[hX2]at c2;have HX16:=Hq hX16;have HX7:=Hq hX7;clear hX15 hX2 hX16 hX7 hq15 hq2 hq16 hq7;obtain⟨wd,hwd⟩:∃ wd,wr.drew=wd:=⟨_,rfl⟩;have HRD:=Hq (show RowW wd H 64 168 (wz m k)from by rw[←hwd];exact HR.out.drew);have HBD:=Hq (show Below H w wd from by rw[←hwd];exact HB.out.drew);rw[hwd]at c15 c2;go_wp2;refine wp_region_K 12 (Eq wd) (by kernel_rfl) ?_;intro hD;rw[hwd];refine rP 0 40 11 rfl hD rfl ?_;clear hD;intro hD;refine rP 1 41 10 rfl hD rfl ?_;clear hD;intro hD;refine rP 2 42 9 rfl hD rfl ?_;clear hD;intro hD;refine rP 3 43 8 rfl hD rfl ?_;clear hD;intro hD;refine rT 4 44 7 rfl hD rfl (by intro w' hS';have e0:=(hS'▸c15);have e1:=(hS'▸c2);go_simp;with_reducible rfl) ?_;clear hD;intro hD;refine rP 5 45 6 rfl hD rfl ?_;clear hD;intro hD;refine rP 6 46 5 rfl hD rfl ?_;clear hD;intro hD;refine rP 7 47 4 rfl hD rfl ?_;clear hD;intro hD;refine rP 8 48 3 rfl hD rfl ?_;clear hD;intro hD;refine rT 9 49 2 rfl hD rfl (by intro w' hS';have e0:=(hS'▸c15);have e1:=(hS'▸c2);go_simp;with_reducible rfl) ?_;clear hD;intro hD;simp only[Act.put,sqA,sqB,sqC];refine rO 10 1 rfl hD ?_;clear hD;intro K10 hK10;go_wp2;refine hK10 _ _ (by rfl) ?_;clear hK10;intro hS_12_10 hD;refine rO 11 0 rfl hD ?_;clear hD;intro K11 hK11;go_wp2;refine hK11 _ _ (by rfl) ?_;clear hK11;intro hS_12_11 hD;refine wpAnyK_done (by kernel_rfl) ?_ 0;clear hD;clear c15 c2 hwd;go_wp2_with fail;refine(r05_right X15 7 (by decide) (by decide) _).mono ?_;rintro e' w1 ⟨rfl,hb1⟩;go_wp2_with fail;refine(r05_right X15 18 (by decide) (by decide) _).mono ?_;rintro e' w2 ⟨rfl,hb2⟩;go_wp2_with fail;refine(r05_right X2 17 (by decide) (by decide) _).mono ?_;rintro e' w3 ⟨rfl,hb3⟩;go_wp2_with fail;refine(r05_right X2 19 (by decide) (by decide) _).mono ?_;rintro e' w4 ⟨rfl,hb4⟩;have HB4:=Hq (show Below wd.heap.size wd w4 from((hb1.trans (hb2.mono hb1.size)).trans (hb3.mono (by have:=hb1.size;have:=hb2.size;omega))).trans (hb4.mono (by have:=hb1.size;have:=hb2.size;have:=hb3.size;omega)));clear hb1 hb2 hb3 hb4;have HR4:=Hq (HRD.out.kept HB4.out HRD.out.lt);have HBB:=Hq (HBD.out.trans (HB4.out.mono (by have:=HRD.out.lt;omega)));have c16:=HR4.out.drew.cell L16.out;have c7:=HR4.out.drew.cell L7.out;have hf:=HR4.out.drew.free k;have hcw:=HR4.out.drew.cell (show k<64 by omega);rw[HX16.out]at c16;rw[HX7.out]at c7;obtain⟨we,hwe⟩:∃ we,w4.drew=we:=⟨_,rfl⟩;rw[hwe]at c16 c7 hf hcw;go_wp2;refine wp_region_K 18 (Eq we) (by kernel_rfl) ?_;intro hD;rw[hwe];refine qPD 0 66 18 rfl hD rfl ?_;clear hD;intro hD;simp only[Act.put,sqA,sqB,sqC];refine qPD 1 67 17 rfl hD rfl ?_;clear hD;intro hD;simp only[Act.put,sqA,sqB,sqC];refine qPD 2 68 16 rfl hD rfl ?_;clear hD;intro hD;simp only[Act.put,sqA,sqB,sqC];refine qPD 3 69 15 rfl hD rfl ?_;clear hD;intro hD;simp only[Act.put,sqA,sqB,sqC];refine qPD 4 70 14 rfl hD rfl ?_;clear hD;intro hD;simp only[Act.put,sqA,sqB,sqC];refine qPD 5 71 13 rfl hD rfl ?_;clear hD;intro hD;simp only[Act.put,sqA,sqB,sqC];refine qTD 6 72 12 rfl hD rfl (by intro w' hS';have e0:=(hS'▸c16);have e1:=(hS'▸c7);go_simp;with_reducible rfl) ?_;clear hD;intro hD;simp only[Act.put,sqA,sqB,sqC];refine qPD 7 73 11 rfl hD rfl ?_;clear hD;intro hD;simp only[Act.put,sqA,sqB,sqC];refine qPD 8 74 10 rfl hD rfl ?_;clear hD;intro hD;simp only[Act.put,sqA,sqB,sqC];refine qPD 9 75 9 rfl hD rfl ?_;clear hD;intro hD;simp only[Act.put,sqA,sqB,sqC];refine qPD 10 76 8 rfl hD rfl ?_;clear hD;intro hD;simp only[Act.put,sqA,sqB,sqC];refine qPD 11 77 7 rfl hD rfl ?_;clear hD;intro hD;simp only[Act.put,sqA,sqB,sqC];refine qPD 12 78 6 rfl hD rfl ?_;clear hD;intro hD;simp only[Act.put,sqA,sqB,sqC];refine qTD 13 79 5 rfl hD rfl (by intro w' hS';have e0:=(hS'▸c16);have e1:=(hS'▸c7);go_simp;with_reducible rfl) ?_;clear hD;intro hD;simp only[Act.put,sqA,sqB,sqC];refine qPD 14 80 4 rfl hD rfl ?_;clear hD;intro hD;simp only[Act.put,sqA,sqB,sqC];refine qPD 15 81 3 rfl hD rfl ?_;clear hD;intro hD;simp only[Act.put,sqA,sqB,sqC];refine qPD 16 82 2 rfl hD rfl ?_;clear hD;intro hD;simp only[Act.put,sqA,sqB,sqC];refine qPD 17 83 1 rfl hD rfl ?_;clear hD;intro hD;simp only[Act.put,sqA,sqB,sqC];refine wpAnyK_oneT (i:=18) (fuel:=0) (by kernel_rfl) rfl hD (by kernel_rfl) ?_;clear hD;intro K18 hK18;go_wp2;refine hK18 _ _ ?_;clear hK18;intro hD;refine wpAnyK_done (by kernel_rfl) ?_ 0;clear hD;clear i15 i2 i16 i7 l15 l2 l16 l7 v15 v2 v16 v7 c16 c7 hf hcw;rw[sched_val2,←HV.out];obtain⟨V,hV⟩:∃ V,wv m k=V:=⟨_,rfl⟩;rw[hV];have HVV:=Hq hV;clear hV HV;go_wp2;go_roundw;case rel =>
        refine⟨k+1,by omega,by omega,by go_num,?_,?_⟩
        · rw[←hwe];refine(HR4.out.drew.set k V).congr fun i hi=>?_;unfold wz;by_cases e:i=k
          · rw[if_pos e,if_pos (by omega),e,HVV.out]
          · rw[if_neg e];by_cases h:i<k
            · rw[if_pos h,if_pos (by omega)]
            · rw[if_neg h,if_neg (by omega)]
        · rw[←hwe];exact HBB.out.drew.setCell nlr _
       case measure=>simp[RowKit.intOf];omega
     · have HK:=Hq (show k=64 from by omega);have hge:¬ ((k:Int)<64):=by omega
       have HR3:=Hq (show RowW wr H 64 168 (wv m)from HR.out.congr fun i hi=>by unfold wz;rw[if_pos (by have:=HK.out;omega)]);clear hk0 hk hlt HK;go_wp2;go_ret;exact⟨rfl,HR3.out,HB.out⟩
set_option maxRecDepth 100000
set_option maxHeartbeats 2000000
def RowV8(w:World)(g c:Nat)(f:Nat→BitVec 32):Prop:=∃ cur:Array Value,w.heap[g]? =some (.cells cur 168 (0,0))∧cur.size=c∧8≤c∧c≤9223372036854775807∧∀ j,j<8→cur[j]? =some (.int .u32 (wi (f j)))
theorem RowV8.cell{w:World}{g c:Nat}{f:Nat→BitVec 32}(h:RowV8 w g c f){k:Nat}(hk:k<8):w.cell? ⟨g,k,none⟩=some (.int .u32 (wi (f k))):=by
 obtain⟨cur,h1,_,_,_,h2⟩:=h;rw[Lib.cell_of_heap h1];exact h2 k hk
theorem RowV8.free{w:World}{g c:Nat}{f:Nat→BitVec 32}(h:RowV8 w g c f)(k:Nat):w.frozen? ⟨g,k,none⟩=false:=by
 obtain⟨cur,h1,_⟩:=h;exact Lib.frozen_of_heap h1 k
theorem RowV8.kept{w w':World}{K g c:Nat}{f:Nat→BitVec 32}(h:RowV8 w g c f)(hb:Below K w w')(hB:g<K):RowV8 w' g c f:=by
 obtain⟨cur,h1,h2⟩:=h;exact⟨cur,(hb.block g hB).trans h1,h2⟩
theorem RowV8.drew{w:World}{g c:Nat}{f:Nat→BitVec 32}(h:RowV8 w g c f):RowV8 w.drew g c f:=h
theorem RowV8.lt{w:World}{g c:Nat}{f:Nat→BitVec 32}(h:RowV8 w g c f):g<w.heap.size:=by
 obtain⟨cur,h1,_⟩:=h;exact block_lt h1
theorem RowV8.congr{w:World}{g c:Nat}{f f':Nat→BitVec 32}(h:RowV8 w g c f)(hf:∀ j,j<8→f j=f' j):RowV8 w g c f':=by
 obtain⟨cur,h1,h2,h3,h4,h5⟩:=h;exact⟨cur,h1,h2,h3,h4,fun j hj=>by rw[h5 j hj,hf j hj]⟩
theorem RowV8.set{w:World}{g c:Nat}{f:Nat→BitVec 32}(h:RowV8 w g c f)(k:Nat)(x:BitVec 32):RowV8 (w.setCell ⟨g,k,none⟩ (.int .u32 (wi x))) g c (fun j=>if j=k then x else f j):=by
 obtain⟨cur,h1,h2,h3,h4,h5⟩:=h;refine⟨_,block_setCell h1 _,by rw[Array.size_setIfInBounds,h2],h3,h4,fun j hj=>?_⟩;rw[Array.getElem?_setIfInBounds];simp only[];by_cases e:k=j
 · subst e;rw[if_pos rfl,if_pos (by omega),if_pos rfl]
 · rw[if_neg e,if_neg (Ne.symm e)];exact h5 j hj
theorem RowV8.of{w:World}{g:Nat}{f:Nat→BitVec 32}(h:RowW w g 8 168 f):RowV8 w g 8 f:=⟨_,h,wa_size _ _,Nat.le_refl _,by omega,fun j hj=>wa_get f hj⟩
theorem RowV8.c8{w:World}{B c':Nat}{a b c d e f g h:BitVec 32}(H:RowV8 w B c' (W8.at ⟨a,b,c,d,e,f,g,h⟩)):w.cell? ⟨B,0,none⟩=some (.int .u32 (wi a))∧w.cell? ⟨B,1,none⟩=some (.int .u32 (wi b))∧w.cell? ⟨B,2,none⟩=some (.int .u32 (wi c))∧w.cell? ⟨B,3,none⟩=some (.int .u32 (wi d))∧w.cell? ⟨B,4,none⟩=some (.int .u32 (wi e))∧w.cell? ⟨B,5,none⟩=some (.int .u32 (wi f))∧w.cell? ⟨B,6,none⟩=some (.int .u32 (wi g))∧w.cell? ⟨B,7,none⟩=some (.int .u32 (wi h)):=
 ⟨H.cell (k:=0) (by decide),H.cell (k:=1) (by decide),H.cell (k:=2) (by decide),H.cell (k:=3) (by decide),H.cell (k:=4) (by decide),H.cell (k:=5) (by decide),H.cell (k:=6) (by decide),H.cell (k:=7) (by decide)⟩
theorem wpList_append_state(w0:World){ops:Array Oper}{rest:List Oper}{o:Oper}{a:Act}{Q:Exit→Act→World→Prop}(hg:o.guard=none)(s x:Operand)(hop:o.op=Op.call { callee:=Callee.builtin Builtin.append,args:=#[s,x],argTypes:=#[181,181] })
 (hs:a.eval s=.slice (some ⟨w0.heap.size,0,none⟩) 0 0) (b c:Nat) (S:W8) (hx:a.eval x=.slice (some ⟨b,0,none⟩) 8 c) (hv:RowV8 w0 b c S.at)
 (hK:∀ g c' w',RowV8 w' g c' S.at→w0.heap.size≤g→Below w0.heap.size w0 w'→wpList Tryz.prog ops Q rest (a.put o.dst (.slice (some ⟨g,0,none⟩) 8 c')) w'):wpList Tryz.prog ops Q (o::rest) a (w0.alloc (.cells #[] 168)):=by
 obtain⟨i0,hi,hz0,hz1,hz2⟩:=info_parts word_info;have hml:maxLen=9223372036854775807:=rfl;refine wpList_append_lies (w0.alloc (.cells #[] 168)) hg s x 181 hop w0.heap.size 168 i0 (.int .u32 0) 1 4 Tryz.underlying181 hi hz0 hz1 hz2 rfl (by decide) _ 0 [] hs (World.ownsRow_made w0 #[] 0 nlr (by omega) rfl) ⟨b,0,none⟩ 8 c S.arr.toList hx rfl (fun j u hj=>?_) (by have:=W8.arr_one S;rw[Array.all_eq_true']at this;intro u hu;exact this u (by simpa using hu)) (by decide) (by omega) (by omega) (by simp) _ rfl (fun g cap w' h1 h2 h3 h4=>hK g cap w' ?_ ?_ ?_)
 · have hj8:j<8:=(List.getElem?_eq_some_iff.1 hj).1;rw[Addr.add_lit,Nat.zero_add];have:=(hv.kept ((blr).alloc nlr (.cells #[] 168)) hv.lt).cell hj8;rw[this,←hj];have e:S.arr.toList[j]? =(wa 8 S.at)[j]?:=by rw[←W8.arr_wa];simp
   rw[e,wa_get _ hj8]
 · rcases h1.2 with⟨h,_⟩ | ⟨g',cap',cur,hv',hb',hg',q1,q2,q3,q4⟩
   · cases h
   · cases hv';refine⟨cur,hg',by omega,by omega,by omega,fun j hj=>?_⟩;have:=congrArg (fun l=>l[j]?) q4;simp only[List.nil_append]at this;rw[List.getElem?_take,if_pos (by omega),Array.getElem?_toList]at this;rw[this];have e:S.arr.toList[j]? =(wa 8 S.at)[j]?:=by rw[←W8.arr_wa];simp
     rw[e,wa_get _ hj]
 · exact(h1.lt g rfl).1
 · exact((blr).alloc nlr _).trans ⟨h2.os,h2.tape,h2.output,h2.size,fun k hk=>h2.block k (by have:=World.size_alloc w0 (.cells #[] 168);omega) (fun e=>by have : k=w0.heap.size:=Option.some.inj e;omega)⟩
theorem tv_val2(e f g h k w:BitVec 32):((((wi h+bits .xor .u32 (bits .xor .u32 (wi (rr e 6)) (wi (rr e 11))) (wi (rr e 25)))%4294967296+bits .xor .u32 (bits .and .u32 (wi e) (wi f)) (bits .and .u32 (bits .xor .u32 IntKind.u32.max (wi e)) (wi g)))%4294967296+wi k)%4294967296+wi w)%4294967296 =
 wi (h+(rr e 6 ^^^ rr e 11 ^^^ rr e 25)+(e &&& f ^^^ ~~~ e &&& g)+k+w):=by
 rw[u32_max,wi_not,wi_xor,wi_xor,wi_and,wi_and,wi_xor,mod_val,mod_val,mod_val,mod_val]
theorem tu_val(t a b c:BitVec 32):(wi t+(bits .xor .u32 (bits .xor .u32 (wi (rr a 2)) (wi (rr a 13))) (wi (rr a 22))+bits .xor .u32 (bits .xor .u32 (bits .and .u32 (wi a) (wi b)) (bits .and .u32 (wi a) (wi c))) (bits .and .u32 (wi b) (wi c))))%4294967296 =
 wi (t+((rr a 2 ^^^ rr a 13 ^^^ rr a 22)+(a &&& b ^^^ a &&& c ^^^ b &&& c))):=by
 rw[←mod_val,←uv_val];omega
theorem RowV8.new(w:World)(S:W8):RowV8 (w.alloc (.cells S.arr 168)) w.heap.size 8 S.at:=RowV8.of (by unfold RowW;rw[←W8.arr_wa];exact heap_alloc_new _ _)
theorem below_up{a w w':World}{B:Nat}(h:Below B a w)(hB:B≤w.heap.size)(hb:Below w.heap.size w w'):Below B a w':=h.trans (hb.mono hB)
theorem r05_compress(S:W8)(s:ByteArray)(hs:s.size=64)(b c:Nat)(w:World)(hv:RowV8 w b c S.at):Calls Tryz.prog 130 #[.slice (some ⟨b,0,none⟩) 8 c,.string s] w fun e w'=>∃ g c',e=.returned (.slice (some ⟨g,0,none⟩) 8 c')∧RowV8 w' g c' (blk S s.data.toList).at∧w.heap.size≤g∧Below w.heap.size w w':=by
 have HV:=Hq hv;have HS:=Hq hs;clear hv hs;obtain⟨Y,hY⟩:∃ Y,blk S s.data.toList=Y:=⟨_,rfl⟩;have HY:=Hq hY;rw[hY];clear hY;go_enter Tryz.func130,Tryz.ntmps130;go_wp2_with fail;refine(r05_schedule s HS.out w).mono ?_;rintro e w1 ⟨rfl,hr1,hb1⟩;have HR1:=Hq hr1;have HB1:=Hq hb1;clear hr1 hb1;obtain⟨m,hm⟩:∃ m,s.data.toList=m:=⟨_,rfl⟩;rw[hm]at HR1 HY;clear hm;go_wp2_with fail;refine(r05_constants w1).mono ?_;rintro e w2 ⟨rfl,hr2,hb2⟩;have HK2:=Hq hr2;have HR2:=Hq (HR1.out.kept hb2 HR1.out.lt);have HB2:=Hq (below_up HB1.out HB1.out.size hb2);have HS2:=Hq hb2.size;have HV2:=Hq (HV.out.kept HB2.out HV.out.lt);obtain⟨H,hH⟩:∃ H,w.heap.size=H:=⟨_,rfl⟩;obtain⟨H1,hH1⟩:∃ H,w1.heap.size=H:=⟨_,rfl⟩;have hH01:H<H1:=by rw[←hH,←hH1];exact HR1.out.lt
 have hbH:b<H:=by rw[←hH];exact HV.out.lt
 rw[hH]at HR2 HB2⊢;rw[hH1]at HK2⊢;clear hb2 HB1 HR1 HS2;go_wp2_with (at_builtin;refine wpList_append_state w2 rfl (.tmp 21) (.tmp 22) rfl rfl b c S rfl HV2.out ?_);intro g c' w3 hv3 hg3 hb3;have hsz2:H1<w2.heap.size:=by rw[←hH1]at HK2⊢;exact HK2.out.lt
 have HV3:=Hq hv3;have HB3:=Hq (HB2.out.trans (hb3.mono (by omega)));have HR3:=Hq (HR2.out.kept hb3 (by omega));have HK3:=Hq (HK2.out.kept hb3 hsz2);have HG3:=Hq (show H≤g from by omega);obtain⟨L,hL⟩:∃ L,w3.heap.size=L:=⟨_,rfl⟩;have hH1L:H1<L:=by rw[←hL];have:=hb3.size;omega
 clear hv3 hg3 hb3 HR2 HK2 HB2 HV2 hsz2;go_wp2;go_loopw [7,8] (fun v i wr=>∃ k g c:Nat,k≤64∧v=.slice (some ⟨g,0,none⟩) 8 c∧i=.int .i64 k∧H≤g∧RowV8 wr g c (rds m S k).at∧Below L w3 wr) (fun _ i _=>64 - (RowKit.intOf i).toNat);case atStart=>exact⟨0,g,c',by omega,rfl,rfl,HG3.out,by rw[rds_zero];exact HV3.out,Below.refl _ _⟩
 case round =>
  obtain⟨k,g,c2,hk,rfl,rfl,hg,hx,hb⟩:=hrel;have HX2:=Hq hx;have HBR:=Hq hb;have HG:=Hq hg;clear hx hb hg;by_cases hlt:k<64
  · have hlti:(k:Int)<64:=by omega
    obtain⟨⟨a,b',c,d,e,f,g',hh⟩,hst⟩:∃ x,rds m S k=x:=⟨_,rfl⟩;have HST:=Hq hst;rw[hst]at HX2;clear hst;obtain⟨c0,c1,c2',c3,c4,c5,c6,c7⟩:=HX2.out.drew.c8;clear c3 c7;have HKW:=Hq (HK3.out.kept HBR.out hH1L);have HWW:=Hq (HR3.out.kept HBR.out (by omega));obtain⟨wd,hwd⟩:∃ wd,wr.drew=wd:=⟨_,rfl⟩;have HXD:=Hq (show RowV8 wd g c2 (W8.at ⟨a,b',c,d,e,f,g',hh⟩)from by rw[←hwd];exact HX2.out);have HKD:=Hq (show RowW wd H1 64 168 kv from by rw[←hwd];exact HKW.out.drew);have HWD:=Hq (show RowW wd H 64 168 (wv m)from by rw[←hwd];exact HWW.out.drew);have HBD:=Hq (show Below L w3 wd from by rw[←hwd];exact HBR.out.drew);rw[hwd]at c0 c1 c2' c4 c5 c6;go_wp2;refine wp_region_K 24 (Eq wd) (by kernel_rfl) ?_;intro hD;rw[hwd];have KK1:=Hq (fun w' (hS':(Eq wd) w')=>And.intro ((hS'▸c0)) (And.intro ((hS'▸c1)) (And.intro ((hS'▸c2')) (And.intro ((hS'▸c4)) (And.intro ((hS'▸c5)) ((hS'▸c6)))))));refine rP 0 28 23 rfl hD rfl ?_;clear hD;intro hD;refine rP 1 29 22 rfl hD rfl ?_;clear hD;intro hD;refine rT 2 30 21 rfl hD rfl (by intro w' hS';obtain⟨e0,e1,e2,e3,e4,e5⟩:=KK1.out w' hS';go_simp;with_reducible rfl) ?_;clear hD;intro hD;refine rP 3 31 20 rfl hD rfl ?_;clear hD;intro hD;refine rP 4 32 19 rfl hD rfl ?_;clear hD;intro hD;refine rT 5 33 18 rfl hD rfl (by intro w' hS';obtain⟨e0,e1,e2,e3,e4,e5⟩:=KK1.out w' hS';go_simp;with_reducible rfl) ?_;clear hD;intro hD;refine rP 6 34 17 rfl hD rfl ?_;clear hD;intro hD;refine rP 7 35 16 rfl hD rfl ?_;clear hD;intro hD;refine rT 8 36 15 rfl hD rfl (by intro w' hS';obtain⟨e0,e1,e2,e3,e4,e5⟩:=KK1.out w' hS';go_simp;with_reducible rfl) ?_;clear hD;intro hD;refine rP 9 37 14 rfl hD rfl ?_;clear hD;intro hD;refine rP 10 38 13 rfl hD rfl ?_;clear hD;intro hD;refine rT 11 39 12 rfl hD rfl (by intro w' hS';obtain⟨e0,e1,e2,e3,e4,e5⟩:=KK1.out w' hS';go_simp;with_reducible rfl) ?_;clear hD;intro hD;refine rP 12 40 11 rfl hD rfl ?_;clear hD;intro hD;refine rP 13 41 10 rfl hD rfl ?_;clear hD;intro hD;refine rT 14 42 9 rfl hD rfl (by intro w' hS';obtain⟨e0,e1,e2,e3,e4,e5⟩:=KK1.out w' hS';go_simp;with_reducible rfl) ?_;clear hD;intro hD;refine rP 15 43 8 rfl hD rfl ?_;clear hD;intro hD;refine rP 16 44 7 rfl hD rfl ?_;clear hD;intro hD;refine rT 17 45 6 rfl hD rfl (by intro w' hS';obtain⟨e0,e1,e2,e3,e4,e5⟩:=KK1.out w' hS';go_simp;with_reducible rfl) ?_;clear hD;intro hD;simp only[Act.put,sqA,sqB,sqC];refine rO 18 5 rfl hD ?_;clear hD;intro K18 hK18;go_wp2;refine hK18 _ _ (by rfl) ?_;clear hK18;intro hS_6_18 hD;refine rO 19 4 rfl hD ?_;clear hD;intro K19 hK19;go_wp2;refine hK19 _ _ (by rfl) ?_;clear hK19;intro hS_6_19 hD;refine rO 20 3 rfl hD ?_;clear hD;intro K20 hK20;go_wp2;refine hK20 _ _ (by rfl) ?_;clear hK20;intro hS_6_20 hD;refine rO 21 2 rfl hD ?_;clear hD;intro K21 hK21;go_wp2;refine hK21 _ _ (by rfl) ?_;clear hK21;intro hS_6_21 hD;refine rO 22 1 rfl hD ?_;clear hD;intro K22 hK22;go_wp2;refine hK22 _ _ (by rfl) ?_;clear hK22;intro hS_6_22 hD;refine rO 23 0 rfl hD ?_;clear hD;intro K23 hK23;go_wp2;refine hK23 _ _ (by rfl) ?_;clear hK23;intro hS_6_23 hD;refine wpAnyK_done (by kernel_rfl) ?_ 0;clear hD;clear c0 c1 c2' c4 c5 c6 hwd HX2 HKW HWW HBR;obtain⟨we,hwe⟩:∃ we,wd.drew=we:=⟨_,rfl⟩;have HXE:=Hq (show RowV8 we g c2 (W8.at ⟨a,b',c,d,e,f,g',hh⟩)from by rw[←hwe];exact HXD.out);obtain⟨_,_,_,_,_,_,_,c7⟩:=HXE.out.c8;have ck:=(show RowW we H1 64 168 kv from by rw[←hwe];exact HKD.out).cell hlt;have cw:=(show RowW we H 64 168 (wv m)from by rw[←hwe];exact HWD.out).cell hlt;obtain⟨kk,hkk⟩:∃ x,kv k=x:=⟨_,rfl⟩;obtain⟨ww,hww⟩:∃ x,wv m k=x:=⟨_,rfl⟩;rw[hkk]at ck;rw[hww]at cw;have HKK:=Hq hkk;have HWW:=Hq hww;clear hkk hww;have HBE:=Hq (show Below L w3 we from by rw[←hwe];exact HBD.out.drew);go_wp2;refine wp_region_K 32 (Below (we).heap.size (we)) (by kernel_rfl) ?_;intro hD;rw[hwe];refine rP 0 46 31 rfl hD blr ?_;clear hD;intro hD;refine rP 1 47 30 rfl hD blr ?_;clear hD;intro hD;refine rT 2 48 29 rfl hD blr (by intro w' hS';have e0:=kC hS' c7;have e1:=kC hS' ck;have e2:=kC hS' cw;go_simp;with_reducible rfl) ?_;clear hD;intro hD;refine rP 3 49 28 rfl hD blr ?_;clear hD;intro hD;refine rP 5 51 27 rfl hD blr ?_;clear hD;intro hD;refine rP 8 54 26 rfl hD blr ?_;clear hD;intro hD;refine rP 12 58 25 rfl hD blr ?_;clear hD;intro hD;refine rP 13 59 24 rfl hD blr ?_;clear hD;intro hD;refine rP 14 60 23 rfl hD blr ?_;clear hD;intro hD;refine rP 15 61 22 rfl hD blr ?_;clear hD;intro hD;refine rP 16 62 21 rfl hD blr ?_;clear hD;intro hD;refine rP 17 63 20 rfl hD blr ?_;clear hD;intro hD;refine rP 18 64 19 rfl hD blr ?_;clear hD;intro hD;refine rP 19 65 18 rfl hD blr ?_;clear hD;intro hD;refine rP 21 67 17 rfl hD blr ?_;clear hD;intro hD;refine rP 22 68 16 rfl hD blr ?_;clear hD;intro hD;refine rP 23 69 15 rfl hD blr ?_;clear hD;intro hD;refine rT 24 70 14 rfl hD blr (by intro w' hS';have e0:=kC hS' c7;have e1:=kC hS' ck;have e2:=kC hS' cw;go_simp;with_reducible rfl) ?_;clear hD;intro hD;refine rP 26 72 13 rfl hD blr ?_;clear hD;intro hD;refine rP 27 73 12 rfl hD blr ?_;clear hD;intro hD;refine rP 28 74 11 rfl hD blr ?_;clear hD;intro hD;refine rT 29 75 10 rfl hD blr (by intro w' hS';have e0:=kC hS' c7;have e1:=kC hS' ck;have e2:=kC hS' cw;go_simp;with_reducible rfl) ?_;clear hD;intro hD;simp only[Act.put,sqA,sqB,sqC];refine rO 4 9 rfl hD ?_;clear hD;intro K4 hK4;go_wp2_with fail;refine(r05_right e 6 (by decide) (by decide) _).mono ?_;rintro e' w1 ⟨rfl,hb⟩;have HB4:=Hq hb;clear hb;go_wp2;refine hK4 _ _ (by exact HB4.out) ?_;clear hK4;intro hS_7_4 hD;refine rO 6 8 rfl hD ?_;clear hD;intro K6 hK6;go_wp2_with fail;refine(r05_right e 11 (by decide) (by decide) _).mono ?_;rintro e' w1 ⟨rfl,hb⟩;have HB6:=Hq hb;clear hb;go_wp2;refine hK6 _ _ (by exact Below.trans hS_7_4 (Below.mono HB6.out (Below.size hS_7_4))) ?_;clear hK6;intro hS_7_6 hD;refine rP 7 53 7 rfl hD hS_7_6 ?_;clear hD;intro hD;simp only[Act.put,sqA,sqB,sqC];refine rO 9 6 rfl hD ?_;clear hD;intro K9 hK9;go_wp2_with fail;refine(r05_right e 25 (by decide) (by decide) _).mono ?_;rintro e' w1 ⟨rfl,hb⟩;have HB9:=Hq hb;clear hb;go_wp2;refine hK9 _ _ (by exact Below.trans hS_7_6 (Below.mono HB9.out (Below.size hS_7_6))) ?_;clear hK9;intro hS_7_9 hD;refine rP 10 56 5 rfl hD hS_7_9 ?_;clear hD;intro hD;refine rP 11 57 4 rfl hD hS_7_9 ?_;clear hD;intro hD;refine rP 20 66 3 rfl hD hS_7_9 ?_;clear hD;intro hD;refine rP 25 71 2 rfl hD hS_7_9 ?_;clear hD;intro hD;refine rP 30 76 1 rfl hD hS_7_9 ?_;clear hD;intro hD;simp only[Act.put,sqA,sqB,sqC];refine rO 31 0 rfl hD ?_;clear hD;intro K31 hK31;go_wp2;refine hK31 _ _ (by exact hS_7_9) ?_;clear hK31;intro hS_7_31 hD;have HL:=Hq hS_7_31;refine wpAnyK_done (by kernel_rfl) ?_ 0;clear hD;clear c7 ck cw;rw[tv_val2];obtain⟨T,hT⟩:∃ T,hh+(rr e 6 ^^^ rr e 11 ^^^ rr e 25)+(e &&& f ^^^ ~~~ e &&& g')+kk+ww=T:=⟨_,rfl⟩;have HT:=Hq hT;rw[hT];clear hT;have HXL:=Hq (HXE.out.kept HL.out HXE.out.lt);have HBL:=Hq (below_up HBE.out (by rw[←hL];exact HBE.out.size) HL.out);have HSL:=Hq (show L≤we.heap.size from by rw[←hL];have:=HBE.out.size;omega);have HSM:=Hq HL.out.size;go_wp2_with fail;refine(r05_right a 2 (by decide) (by decide) _).mono ?_;rintro e' w5 ⟨rfl,hb5⟩;go_wp2_with fail;refine(r05_right a 13 (by decide) (by decide) _).mono ?_;rintro e' w6 ⟨rfl,hb6⟩;go_wp2_with fail;refine(r05_right a 22 (by decide) (by decide) _).mono ?_;rintro e' w7 ⟨rfl,hb7⟩;have hb567:=(hb5.trans (hb6.mono hb5.size)).trans (hb7.mono (by have:=hb5.size;have:=hb6.size;omega));have HX7:=Hq (HXL.out.kept hb567 HXL.out.lt);have HB7:=Hq (below_up HBL.out (by have:=HSL.out;have:=HSM.out;omega) hb567);have HS7:=Hq (show L≤w7.heap.size from by have:=HSL.out;have:=HSM.out;have:=hb567.size;omega);clear hb5 hb6 hb7 hb567;obtain⟨_,_,_,c3,_,_,_,_⟩:=HX7.out.c8;go_wp2;rw[tu_val,mod_val];clear c3;refine⟨⟨k+1,w7.heap.size,8,by omega,rfl,by go_num,by have:=HS7.out;omega,?_,HB7.out.alloc HS7.out _⟩,by simp[RowKit.intOf];omega⟩;rw[rds_succ,HST.out,HKK.out,HWW.out];have:=RowV8.new w7 (rd kk ww ⟨a,b',c,d,e,f,g',hh⟩);rw[←HT.out];exact this
  · have HK64:=Hq (show k=64 from by omega);have hge:¬ ((k:Int)<64):=by omega
    obtain⟨X,hX⟩:∃ X,rds m S 64=X:=⟨_,rfl⟩;have HX3:=Hq (show RowV8 wr g c2 (addP X S 0)from by
     have h:=HX2.out;rw[HK64.out,hX]at h
     exact h.congr fun j _=>by unfold addP;rw[if_neg (Nat.not_lt_zero _)])
    have HXY:=Hq (show X.add S=Y from by rw[←hX,←HY.out];rfl);have HV4:=Hq (HV.out.kept HB3.out (by omega));have HV3':=Hq (HV4.out.kept HBR.out (by omega));have HBX:=Hq (show Below H w wr from HB3.out.trans (HBR.out.mono (by omega)));clear hk hlt HX2 HK64 hX HBR HV4 HV3 HR3 HK3;go_wp2;go_loopw [17] (fun i wr=>∃ q:Nat,q≤8∧i=.int .i64 q∧RowV8 wr g c2 (addP X S q)∧Below H w wr) (fun i _=>8 - (RowKit.intOf i).toNat);case atStart=>exact⟨0,by omega,rfl,HX3.out,HBX.out⟩
    case round =>
     obtain⟨q,hq,rfl,hx,hb⟩:=hrel;have HXQ:=Hq hx;have HBQ:=Hq hb;clear hx hb;by_cases hq8:q<8
     · have hqi:(q:Int)<8:=by omega
       have c0:=HXQ.out.drew.cell hq8;have c1:=(HV.out.kept HBQ.out (by rw[←hH]at hbH;omega)).drew.cell hq8;have hf:=HXQ.out.drew.free q;obtain⟨x,hx⟩:∃ x,addP X S q q=x:=⟨_,rfl⟩;obtain⟨y,hy⟩:∃ x,S.at q=x:=⟨_,rfl⟩;have HE:=Hq (show addP X S (q+1) q=x+y from by rw[←hx,←hy];unfold addP;rw[if_pos (by omega),if_neg (by omega)]);rw[hx]at c0;rw[hy]at c1;clear hx hy;obtain⟨wd,hwd⟩:∃ wd,wr.drew=wd:=⟨_,rfl⟩;rw[hwd]at c0 c1 hf;go_wp2;refine wp_region_K 10 (Eq wd) (by kernel_rfl) ?_;intro hD;rw[hwd];refine qPD 0 116 10 rfl hD rfl ?_;clear hD;intro hD;simp only[Act.put,sqA,sqB,sqC];refine qPD 1 117 9 rfl hD rfl ?_;clear hD;intro hD;simp only[Act.put,sqA,sqB,sqC];refine qPD 2 118 8 rfl hD rfl ?_;clear hD;intro hD;simp only[Act.put,sqA,sqB,sqC];refine qTD 3 119 7 rfl hD rfl (by intro w' hS';have e0:=(hS'▸c0);have e1:=(hS'▸c1);go_simp;with_reducible rfl) ?_;clear hD;intro hD;simp only[Act.put,sqA,sqB,sqC];refine qPD 4 120 6 rfl hD rfl ?_;clear hD;intro hD;simp only[Act.put,sqA,sqB,sqC];refine qPD 5 121 5 rfl hD rfl ?_;clear hD;intro hD;simp only[Act.put,sqA,sqB,sqC];refine qPD 6 122 4 rfl hD rfl ?_;clear hD;intro hD;simp only[Act.put,sqA,sqB,sqC];refine qTD 7 123 3 rfl hD rfl (by intro w' hS';have e0:=(hS'▸c0);have e1:=(hS'▸c1);go_simp;with_reducible rfl) ?_;clear hD;intro hD;simp only[Act.put,sqA,sqB,sqC];refine qPD 8 124 2 rfl hD rfl ?_;clear hD;intro hD;simp only[Act.put,sqA,sqB,sqC];refine qPD 9 125 1 rfl hD rfl ?_;clear hD;intro hD;simp only[Act.put,sqA,sqB,sqC];refine wpAnyK_oneT (i:=10) (fuel:=0) (by kernel_rfl) rfl hD (by kernel_rfl) ?_;clear hD;intro K10 hK10;go_wp2;refine hK10 _ _ ?_;clear hK10;intro hD;refine wpAnyK_done (by kernel_rfl) ?_ 0;clear hD;clear c0 c1 hf;rw[mod_val];go_wp2;go_roundw;case rel =>
        refine⟨q+1,by omega,by go_num,?_,?_⟩
        · rw[←hwd];refine(HXQ.out.drew.set q (x+y)).congr fun i hi=>?_;by_cases e:i=q
          · rw[if_pos e,e,HE.out]
          · rw[if_neg e];unfold addP;by_cases h:i<q
            · rw[if_pos h,if_pos (by omega)]
            · rw[if_neg h,if_neg (by omega)]
        · rw[←hwd];exact HBQ.out.drew.setCell (by have:=HG.out;exact this) _
       case measure=>simp[RowKit.intOf];omega
     · have HQ:=Hq (show q=8 from by omega);have hqe:¬ ((q:Int)<8):=by omega
       have HXE:=Hq (show RowV8 wr g c2 Y.at from by
        have h:=HXQ.out;rw[HQ.out]at h;rw[←HXY.out]
        exact h.congr fun j hj=>addP_all X S j hj)
       clear hq hq8 HXQ HQ;go_wp2;go_ret;exact⟨g,c2,rfl,HXE.out,HG.out,HBQ.out⟩
set_option maxRecDepth 100000
set_option maxHeartbeats 2000000
theorem bstr_snoc(l m:List UInt8):bstr l++⟨m.toArray⟩=bstr (l++m):=by
 unfold bstr;rw[ByteArray.mk_append_mk]
theorem shE8_beN(N:Nat):beN 8 N=shE8 N:=by
 have e:∀ k,UInt8.ofNat (N / 256 ^ k%256)=UInt8.ofNat (N / 2 ^ (8 * k)):=fun k=>by
  rw[Nat.pow_mul];apply UInt8.toNat_inj.1;simp[UInt8.toNat_ofNat']
 show [UInt8.ofNat (N / 256 ^ 7%256),UInt8.ofNat (N / 256 ^ 6%256),UInt8.ofNat (N / 256 ^ 5%256),UInt8.ofNat (N / 256 ^ 4%256),UInt8.ofNat (N / 256 ^ 3%256),UInt8.ofNat (N / 256 ^ 2%256),UInt8.ofNat (N / 256 ^ 1%256),UInt8.ofNat (N / 256 ^ 0%256)]=_;rw[e 7,e 6,e 5,e 4,e 3,e 2,e 1,e 0];simp[shE8]
theorem r05_padded(s:ByteArray)(hs:s.size≤1000000000000)(w:World):Calls Tryz.prog 129 #[.string s] w (Ret (.string (bstr (padL s.data.toList))) w):=by
 obtain⟨n,hn⟩:∃ n,s.size=n:=⟨_,rfl⟩;obtain⟨l,hl⟩:∃ l,s.data.toList=l:=⟨_,rfl⟩;have HL:=Hq (show l.length=n from by rw[←hl,←hn];exact Array.length_toList);have hsl:s=bstr l:=by rw[←hl];exact(bstr_of s).symm
 rw[hl];obtain⟨r,hr⟩:∃ r,bstr (padL l)=r:=⟨_,rfl⟩;have HR:=Hq hr;rw[hr];clear hr;rw[hn]at hs;have hni:(n:Int)≤1000000000000:=by omega
 obtain⟨t1,ht1⟩:∃ t,bstr (l++[128])=t:=⟨_,rfl⟩;have hadd:∀ w,(Op.stringOp .add s ⟨#[128]⟩).run Tryz.prog w=.ok (.string t1) w:=fun w=>by
  rw[run_string_add_sum w _ _ (by rw[hn];show n+1≤_;omega),hsl,←ht1];exact congrArg (fun x=>Result.ok (Value.string x) w) (bstr_snoc l [128])
 have HT1:=Hq ht1;clear hl hsl ht1;go_enter Tryz.func129,Tryz.ntmps129;go_wp2;clear hadd;go_loopw [0] (fun v wr=>∃(k:Nat) (t:ByteArray),k≤zs n∧v=.string t∧t=bstr (l++[128]++List.replicate k 0)∧w=wr) (fun v _=>n+100 - (match v with | .string s=>s.size | _=>0));case atStart=>exact⟨0,t1,Nat.zero_le _,rfl,by rw[←HT1.out];simp,rfl⟩
 case round =>
  obtain⟨k,t,hk,rfl,ht,rfl⟩:=hrel;obtain⟨j,hj⟩:∃ j,n+1+k=j:=⟨_,rfl⟩;have htj:t.size=j:=by rw[ht,bstr_size];simp[HL.out];omega
  have HT:=Hq ht;have HJ:=Hq hj;by_cases hlt:k<zs n
  · have hne:¬ ((j:Int)%64=56):=by have : zs n=(119 - n%64)%64:=rfl;omega
    obtain⟨t2,ht2⟩:∃ x,bstr (l++[128]++List.replicate (k+1) 0)=x:=⟨_,rfl⟩;have hadd:∀ w,(Op.stringOp .add t ⟨#[0]⟩).run Tryz.prog w=.ok (.string t2) w:=fun w=>by
     have hz:zs n≤63:=by unfold zs;omega
     rw[run_string_add_sum w _ _ (by rw[htj];show j+1≤_;omega),ht,←ht2];refine congrArg (fun x=>Result.ok (Value.string x) w) ?_;rw[List.replicate_succ',←List.append_assoc];exact bstr_snoc _ [0]
    have HT2:=Hq ht2
    have hj63 : (j : Int) ≤ 1000000000100 := by have hz : zs n ≤ 63 := by unfold zs; omega
                                                omega
    clear ht ht2 hj hk;go_wp2;refine⟨⟨k+1,t2,by omega,rfl,HT2.out.symm,trivial⟩,?_⟩;have h1:=HT2.out;have h2:t2.size=n+1+(k+1):=by rw[←h1,bstr_size];simp[HL.out];omega
    have h3:=HJ.out;have hz:zs n≤63:=by unfold zs;omega
    show n+100 - t2.size<n+100 - t.size;omega
  · have he:(j:Int)%64=56:=by have : zs n=(119 - n%64)%64:=rfl;omega
    have HKZ:=Hq (show k=zs n from by omega);have hmk:(Instr.makeSlice 167 (.int .i64 8) (.int .i64 8)).run Tryz.prog w=.ok (.slice (some ⟨w.heap.size,0,none⟩) 8 8) (w.alloc (.cells (zb 8) 5)):=make_bytes 8 (by decide) w;have HO:=Hq (OutB.start (w:=w) 8 (n * 8));have HB:=Hq (show Below w.heap.size w (w.alloc (.cells (zb 8) 5))from(blr).alloc nlr _);obtain⟨w1,hw1⟩:∃ w1,w.alloc (.cells (zb 8) 5)=w1:=⟨_,rfl⟩;rw[hw1]at hmk HO HB;clear hw1 hk hlt ht hj;obtain⟨H,hH⟩:∃ H,w.heap.size=H:=⟨_,rfl⟩;rw[hH]at hmk HO HB;go_wp2;clear he hmk;go_loopw [5,6] (fun b i wr=>∃ q:Nat,q≤8∧b=.int .u64 ((n * 8 / 256 ^ q:Nat):Int)∧i=.int .i64 (7 - (q:Int))∧OutB wr H 8 q (n * 8)∧Below H w wr) (fun _ i _=>(8+RowKit.intOf i).toNat);case atStart=>exact⟨0,by omega,by simp,rfl,HO.out,HB.out⟩
    case round =>
     obtain⟨q,hq,rfl,rfl,ho,hb⟩:=hrel;have HO:=Hq ho;have HB:=Hq hb;clear ho hb;by_cases hlt:q<8
     · obtain⟨p,hp⟩:∃ p,p+1+q=8:=⟨7 - q,by omega⟩;have hpi:(7:Int) - (q:Int)=(p:Int):=by omega
       obtain⟨N,hN⟩:∃ N,n * 8 / 256 ^ q=N:=⟨_,rfl⟩;have HN:=Hq hN;rw[hN];have hd:((N:Int)%256)=((dig (n * 8) q:Nat):Int):=by rw[←hN];unfold dig;simp
       clear hN;obtain⟨u,c0⟩:=HO.out.cell (show p<8 by omega);have hf:=HO.out.free p;have hp8:(p:Int)<8:=by omega
       have hp0:(0:Int)≤(p:Int):=by omega
       have HP:=Hq hp;clear hp hq hlt;go_wp2;have h1:=HO.out.step (k:=p) (by have:=HP.out;omega);refine⟨⟨q+1,by have:=HP.out;omega,?_,?_,h1,HB.out.setCell (p:=⟨H,p,none⟩) nlr _⟩,?_⟩
       · rw[show n * 8 / 256 ^ (q+1)=N / 256 from by rw[←HN.out,Nat.pow_succ,Nat.div_div_eq_div_mul]];have hNn:N≤n * 8:=by rw[←HN.out];exact Nat.div_le_self _ _
         simp;rw[IntKind.wrap_u64];omega
       · have:=HP.out;congr 1;omega
       · have:=HP.out;simp[RowKit.intOf];omega
     · have HQ8:=Hq (show q=8 from by omega);have hge:¬ ((0:Int)≤7 - (q:Int)):=by omega
       have hby:=(show OutB wr H 8 8 (n * 8)from by have:=HO.out;rw[HQ8.out]at this;exact this).bytes (by omega)
       rw[shE8_beN]at hby
       have hconv:=hby.conv 167 9 5 Tryz.underlying167 Tryz.underlying5 Tryz.underlying9;have HE:=Hq (show (bstr (shE8 (n * 8))).size=8 from by rw[bstr_size];rfl);obtain⟨y,hy⟩:∃ y,bstr (shE8 (n * 8))=y:=⟨_,rfl⟩;rw[hy]at hconv HE;have hadd:∀ w,(Op.stringOp .add t y).run Tryz.prog w=.ok (.string r) w:=fun w=>by
        have hz:zs n≤63:=by unfold zs;omega
        have hts:t.size≤1000000000100:=by rw[HT.out,bstr_size];simp[HL.out];have:=HKZ.out;omega
        rw[run_string_add_sum w _ _ (by rw[HE.out];omega),HT.out,←hy,←HR.out];refine congrArg (fun x=>Result.ok (Value.string x) w) ?_;rw[HKZ.out];unfold padL;rw[HL.out];exact bstr_snoc _ _
       clear hby hy hlt hq;go_wp2;go_ret;exact⟨rfl,by rw[hH];exact HB.out⟩
set_option maxRecDepth 100000
set_option maxHeartbeats 2000000
theorem bstr_extract(l:List UInt8)(a b:Nat):(bstr l).extract a b=bstr ((l.drop a).take (b - a)):=ByteArray.extract_mk l a b
theorem bstr_list(l:List UInt8):(bstr l).data.toList=l:=by simp[bstr]
theorem r05_Sum(s:ByteArray)(hs:s.size≤1000000000000)(w:World):Calls Tryz.prog 82 #[.string s] w (Ret (.string (bstr (shaL s.data.toList))) w):=by
 have HPD:=Hq (r05_padded s hs);obtain⟨n,hn⟩:∃ n,s.size=n:=⟨_,rfl⟩;obtain⟨l,hl⟩:∃ l,s.data.toList=l:=⟨_,rfl⟩;have hll:l.length=n:=by rw[←hl,←hn];exact Array.length_toList
 rw[hl]at HPD⊢;obtain⟨r,hr⟩:∃ r,bstr (shaL l)=r:=⟨_,rfl⟩;have HR:=Hq hr;rw[hr];obtain⟨P,hP⟩:∃ P,padL l=P:=⟨_,rfl⟩;rw[hP]at HPD;obtain⟨Ln,hLn⟩:∃ k,P.length=k:=⟨_,rfl⟩;have HLn:=Hq hLn;have HPP:=Hq hP;have HMOD:=Hq (show Ln%64=0 from by rw[←hLn,←hP];exact padL_mod l);have HBIG:=Hq (show Ln≤1000000000100 from by
  rw[←hLn,←hP,padL_length,hll];have : zs n≤63:=by unfold zs;omega
  omega)
 obtain⟨m,hm⟩:∃ m,bstr P=m:=⟨_,rfl⟩;have HM:=Hq hm;have HMS:=Hq (show m.size=Ln from by rw[←hm,bstr_size,hLn]);rw[hm]at HPD;clear hr hP hLn hm hl hll hn hs;have e0:st0.arr=#[Value.int .u32 1779033703,Value.int .u32 3144134277,Value.int .u32 1013904242,Value.int .u32 2773480762,Value.int .u32 1359893119,Value.int .u32 2600822924,Value.int .u32 528734635,Value.int .u32 1541459225]:=by kernel_rfl
 have HS0:=Hq (show RowV8 (w.alloc (.cells st0.arr 168)) w.heap.size 8 st0.at from RowV8.new w st0);have HB0:=Hq (show Below w.heap.size w (w.alloc (.cells st0.arr 168))from(blr).alloc nlr _);rw[e0]at HS0 HB0;clear e0;go_enter Tryz.func82,Tryz.ntmps82;go_wp2_with fail;refine(HPD.out _).mono ?_;rintro e w1 ⟨rfl,hb1⟩;have HS1:=Hq (HS0.out.kept hb1 HS0.out.lt);have HB1:=Hq (below_up HB0.out HB0.out.size hb1);obtain⟨H,hH⟩:∃ H,w.heap.size=H:=⟨_,rfl⟩;rw[hH]at HS1 HB1⊢;clear hb1 HS0 HB0 HPD;go_wp2;go_loopw [3,5] (fun v i wr=>∃ k g c:Nat,64 * k≤Ln∧v=.slice (some ⟨g,0,none⟩) 8 c∧i=.int .i64 ((64 * k:Nat):Int)∧RowV8 wr g c (blks st0 k P).at∧Below H w wr) (fun _ i _=>Ln - (RowKit.intOf i).toNat);case atStart=>exact⟨0,H,8,Nat.zero_le _,rfl,rfl,HS1.out,HB1.out⟩
 case round =>
  obtain⟨k,g,c,hk,rfl,rfl,hx,hb⟩:=hrel;have HX:=Hq hx;have HB:=Hq hb;clear hx hb;obtain⟨j,hj⟩:∃ j,64 * k=j:=⟨_,rfl⟩;have HJ:=Hq hj;rw[hj];have hms:=HMS.out;have hbig:=HBIG.out;by_cases hlt:j<Ln
  · have h64:j+64≤Ln:=by have:=HMOD.out;omega
    have hji:(j:Int)<(m.size:Int):=by omega
    have h64i:(j:Int)+64≤(m.size:Int):=by omega
    have hbi:(j:Int)≤1000000000100:=by omega
    clear hj hk hlt h64 hms hbig;go_wp2_with fail;have hlist:(m.extract j (j+64)).data.toList=(P.drop (64 * k)).take 64:=by
     rw[←HM.out,bstr_extract,bstr_list,←HJ.out,Nat.add_sub_cancel_left]
    have hsz:(m.extract j (j+64)).size=64:=(by rw[ByteArray.size_extract];omega);have HC:=r05_compress (blks st0 k P) (m.extract j (j+64)) hsz g c wr HX.out;rw[hlist,←blks_succ]at HC;have HKJ:=Hq (show 64 * (k+1)=j+64∧j+64≤Ln∧j<Ln from by have:=HJ.out;have:=HMS.out;omega);refine HC.mono ?_;rintro e w2 ⟨g2,c2,rfl,hx2,hg2,hb2⟩;have HX2:=Hq hx2;have HB2:=Hq (below_up HB.out (by rw[←hH];exact HB.out.size) hb2);clear hx2 hg2 hb2 HC hlist hsz;go_wp2;refine⟨⟨k+1,g2,c2,?_,rfl,?_,HX2.out,HB2.out⟩,?_⟩
    · rw[HKJ.out.1];exact HKJ.out.2.1
    · rw[HKJ.out.1];simp
    · have:=HKJ.out;simp[RowKit.intOf];omega
  · have hge:¬ ((j:Int)<(m.size:Int)):=by omega
    obtain⟨F,hF⟩:∃ F,blks st0 k P=F:=⟨_,rfl⟩;have HF:=Hq (show r=bstr (F.ws.flatMap wo)from by
     rw[←HR.out,←hF];unfold shaL;rw[HPP.out,HLn.out,show Ln / 64=k from by have:=HJ.out;omega])
    rw[hF]at HX;clear hF hlt hj hk hms hbig;obtain⟨w5,hw5⟩:∃ x,x=wr:=⟨_,rfl⟩;subst hw5;obtain⟨G,hG⟩:∃ G,w5.heap.size=G:=⟨_,rfl⟩;have HHG:=Hq (show H≤G from by rw[←hG,←hH];exact HB.out.size);have HGG:=Hq (show g<G from by rw[←hG];exact HX.out.lt);go_wp2;clear hge;go_loopw [6,7] (fun v x wx=>∃ i:Nat,i≤8∧x=.int .i64 i∧wx.ownsRow G 5 1 v (4 * i) (Lib.byteCells ((F.ws.take i).flatMap wo))∧Below G w5 wx) (fun _ x _=>8 - (RowKit.intOf x).toNat);case atStart=>exact⟨0,by omega,rfl,World.ownsRow_nil _ _ _ _,Below.refl _ _⟩
    case round =>
     obtain⟨i2,hi2,rfl,hown,hb⟩:=hrel;have HO:=Hq hown;have HB2:=Hq hb;clear hown hb;by_cases hlt:i2<8
     · have hi2i:(i2:Int)<8:=by omega
       have HX2:=HX.out.kept HB2.out HGG.out;have cc:=HX2.cell hlt;have HTK:=Hq (ws_take F i2 hlt);obtain⟨x,hx⟩:∃ x,F.at i2=x:=⟨_,rfl⟩;rw[hx]at cc HTK;clear hx HX2;have HWC:=Hq (word_cells x);have HGX:=Hq (show G≤wr.heap.size from by rw[←hG];exact HB2.out.size);go_wp2_with (at_builtin;refine wpList_append_word _ rfl (.tmp 33) (.tmp 45) rfl G (4 * i2) _ ((F.ws.take i2).flatMap wo) rfl (HO.out.alloc _) (by omega) wr.heap.size 4 x rfl (by rw[←HWC.out];exact heap_alloc_new _ _) (by have:=HGX.out;simp;omega) ?_);intro v3 w8 ho8 hb8;have HO8:=Hq ho8;have HB8:=Hq (show Below G w5 w8 from(HB2.out.alloc (by have:=HGX.out;omega) _).trans hb8);clear ho8 hb8 cc;go_wp2;go_roundw;case rel =>
        refine⟨i2+1,by omega,by go_num,?_,HB8.out⟩;rw[HTK.out];exact HO8.out
       case measure=>simp[RowKit.intOf];omega
     · obtain rfl:i2=8:=by omega
       obtain⟨A,c7,rfl,hby⟩:=own_bytes HO.out (show ((F.ws.take 8).flatMap wo).length=4 * 8 from by simp[W8.ws,wo]);have hconv:=hby.conv 167 9 5 Tryz.underlying167 Tryz.underlying5 Tryz.underlying9;have hw8:F.ws.take 8=F.ws:=rfl;rw[hw8,←HF.out]at hconv;clear hby hw8;have HBF:=Hq (show Below H w wr from HB.out.trans (HB2.out.mono HHG.out));go_wp2;go_ret;exact⟨rfl,by rw[hH];exact HBF.out⟩
end Go.Proofs.YtfbmbledklbfgaaGreat

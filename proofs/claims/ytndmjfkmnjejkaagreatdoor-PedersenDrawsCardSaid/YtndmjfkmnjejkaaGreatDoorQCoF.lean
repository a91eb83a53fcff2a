import Derived.Test.YtndmjfkmnjejkaaGreatDoorQShI
import Derived.Test.YtndmjfkmnjejkaaGreatDoorQNaD
import Derived.Laws.Concat
import Derived.Test.YtndmjfkmnjejkaaGreatDoorQOpU
import Derived.Test.YtndmjfkmnjejkaaGreatDoorQOpT
import Derived.Test.YtndmjfkmnjejkaaGreatDoorQOvr
import Derived.RangeFuncNested
import Derived.BigRegionIn
set_option linter.unusedVariables false
set_option linter.unusedSimpArgs false
namespace Go.Proofs.YtndmjfkmnjejkaaGreatDoor
set_option maxRecDepth 100000
set_option maxHeartbeats 2000000
open Go.RowKit Go.Lib
theorem bstr_snoc (l m : List UInt8) : bstr l ++ ⟨m.toArray⟩ = bstr (l ++ m) := by
 unfold bstr
 rw [ByteArray.mk_append_mk]
theorem shE8_beN (N : Nat) : beN 8 N = shE8 N := by
 have e : ∀ k, UInt8.ofNat (N / 256 ^ k % 256) = UInt8.ofNat (N / 2 ^ (8 * k)) := fun k => by
  rw [Nat.pow_mul]; apply UInt8.toNat_inj.1; simp [UInt8.toNat_ofNat']
 show [UInt8.ofNat (N / 256 ^ 7 % 256), UInt8.ofNat (N / 256 ^ 6 % 256), UInt8.ofNat (N / 256 ^ 5 % 256), UInt8.ofNat (N / 256 ^ 4 % 256), UInt8.ofNat (N / 256 ^ 3 % 256), UInt8.ofNat (N / 256 ^ 2 % 256), UInt8.ofNat (N / 256 ^ 1 % 256), UInt8.ofNat (N / 256 ^ 0 % 256)] = _
 rw [e 7, e 6, e 5, e 4, e 3, e 2, e 1, e 0]
 simp [shE8]
theorem r05_padded (s : ByteArray) (hs : s.size ≤ 1000000000000) (w : World) : Calls Tryz.prog 231 #[.string s] w (Ret (.string (bstr (padL s.data.toList))) w) := by
 obtain ⟨n, hn⟩ : ∃ n, s.size = n := ⟨_, rfl⟩
 obtain ⟨l, hl⟩ : ∃ l, s.data.toList = l := ⟨_, rfl⟩
 have HL := Hq (show l.length = n from by rw [← hl, ← hn]; exact Array.length_toList)
 have hsl : s = bstr l := by rw [← hl]; exact (bstr_of s).symm
 rw [hl]
 obtain ⟨r, hr⟩ : ∃ r, bstr (padL l) = r := ⟨_, rfl⟩
 have HR := Hq hr
 rw [hr]
 clear hr
 rw [hn] at hs
 have hni : (n : Int) ≤ 1000000000000 := by omega
 obtain ⟨t1, ht1⟩ : ∃ t, bstr (l ++ [128]) = t := ⟨_, rfl⟩
 have hadd : ∀ w, (Op.stringOp .add s ⟨#[128]⟩).run Tryz.prog w = .ok (.string t1) w := fun w => by
  rw [run_string_add_sum w _ _ (by rw [hn]; show n + 1 ≤ _; omega), hsl, ← ht1]
  exact congrArg (fun x => Result.ok (Value.string x) w) (bstr_snoc l [128])
 have HT1 := Hq ht1
 clear hl hsl ht1
 go_enter Tryz.func231, Tryz.ntmps231
 go_wp2
 clear hadd
 go_loopw [0] (fun v wr => ∃ (k : Nat) (t : ByteArray), k ≤ zs n ∧ v = .string t ∧ t = bstr (l ++ [128] ++ List.replicate k 0) ∧ w = wr) (fun v _ => n + 100 - (match v with | .string s => s.size | _ => 0))
 case atStart => exact ⟨0, t1, Nat.zero_le _, rfl, by rw [← HT1.out]; simp, rfl⟩
 case round =>
  obtain ⟨k, t, hk, rfl, ht, rfl⟩ := hrel
  obtain ⟨j, hj⟩ : ∃ j, n + 1 + k = j := ⟨_, rfl⟩
  have htj : t.size = j := by rw [ht, bstr_size]; simp [HL.out]; omega
  have HT := Hq ht
  have HJ := Hq hj
  by_cases hlt : k < zs n
  · have hne : ¬ ((j : Int) % 64 = 56) := by have : zs n = (119 - n % 64) % 64 := rfl; omega
    obtain ⟨t2, ht2⟩ : ∃ x, bstr (l ++ [128] ++ List.replicate (k + 1) 0) = x := ⟨_, rfl⟩
    have hadd : ∀ w, (Op.stringOp .add t ⟨#[0]⟩).run Tryz.prog w = .ok (.string t2) w := fun w => by
     have hz : zs n ≤ 63 := by unfold zs; omega
     rw [run_string_add_sum w _ _ (by rw [htj]; show j + 1 ≤ _; omega), ht, ← ht2]
     refine congrArg (fun x => Result.ok (Value.string x) w) ?_
     rw [List.replicate_succ', ← List.append_assoc]
     exact bstr_snoc _ [0]
    have HT2 := Hq ht2
    have hj63 : (j : Int) ≤ 1000000000100 := by have hz : zs n ≤ 63 := by unfold zs; omega
                                                omega
    clear ht ht2 hj hk
    go_wp2
    refine ⟨⟨k + 1, t2, by omega, rfl, HT2.out.symm, trivial⟩, ?_⟩
    have h1 := HT2.out
    have h2 : t2.size = n + 1 + (k + 1) := by rw [← h1, bstr_size]; simp [HL.out]; omega
    have h3 := HJ.out
    have hz : zs n ≤ 63 := by unfold zs; omega
    show n + 100 - t2.size < n + 100 - t.size
    omega
  · have he : (j : Int) % 64 = 56 := by have : zs n = (119 - n % 64) % 64 := rfl; omega
    have HKZ := Hq (show k = zs n from by omega)
    have hmk : (Instr.makeSlice 125 (.int .i64 8) (.int .i64 8)).run Tryz.prog w = .ok (.slice (some ⟨w.heap.size, 0, none⟩) 8 8) (w.alloc (.cells (zb 8) 5)) := make_bytes 8 (by decide) w
    have HO := Hq (OutB.start (w := w) 8 (n * 8))
    have HB := Hq (show Below w.heap.size w (w.alloc (.cells (zb 8) 5)) from (Below.refl _ _).alloc (Nat.le_refl _) _)
    obtain ⟨w1, hw1⟩ : ∃ w1, w.alloc (.cells (zb 8) 5) = w1 := ⟨_, rfl⟩
    rw [hw1] at hmk HO HB
    clear hw1 hk hlt ht hj
    obtain ⟨H, hH⟩ : ∃ H, w.heap.size = H := ⟨_, rfl⟩
    rw [hH] at hmk HO HB
    go_wp2
    clear he hmk
    go_loopw [5, 6] (fun b i wr => ∃ q : Nat, q ≤ 8 ∧ b = .int .u64 ((n * 8 / 256 ^ q : Nat) : Int) ∧ i = .int .i64 (7 - (q : Int)) ∧ OutB wr H 8 q (n * 8) ∧ Below H w wr) (fun _ i _ => (8 + RowKit.intOf i).toNat)
    case atStart => exact ⟨0, by omega, by simp, rfl, HO.out, HB.out⟩
    case round =>
     obtain ⟨q, hq, rfl, rfl, ho, hb⟩ := hrel
     have HO := Hq ho
     have HB := Hq hb
     clear ho hb
     by_cases hlt : q < 8
     · obtain ⟨p, hp⟩ : ∃ p, p + 1 + q = 8 := ⟨7 - q, by omega⟩
       have hpi : (7 : Int) - (q : Int) = (p : Int) := by omega
       obtain ⟨N, hN⟩ : ∃ N, n * 8 / 256 ^ q = N := ⟨_, rfl⟩
       have HN := Hq hN
       rw [hN]
       have hd : ((N : Int) % 256) = ((dig (n * 8) q : Nat) : Int) := by rw [← hN]; unfold dig; simp
       clear hN
       obtain ⟨u, c0⟩ := HO.out.cell (show p < 8 by omega)
       have hf := HO.out.free p
       have hp8 : (p : Int) < 8 := by omega
       have hp0 : (0 : Int) ≤ (p : Int) := by omega
       have HP := Hq hp
       clear hp hq hlt
       go_wp2
       have h1 := HO.out.step (k := p) (by have := HP.out; omega)
       refine ⟨⟨q + 1, by have := HP.out; omega, ?_, ?_, h1, HB.out.setCell (p := ⟨H, p, none⟩) (Nat.le_refl _) _⟩, ?_⟩
       · rw [show n * 8 / 256 ^ (q + 1) = N / 256 from by rw [← HN.out, Nat.pow_succ, Nat.div_div_eq_div_mul]]
         have hNn : N ≤ n * 8 := by rw [← HN.out]; exact Nat.div_le_self _ _
         simp
         rw [IntKind.wrap_u64]
         omega
       · have := HP.out; congr 1; omega
       · have := HP.out; simp [RowKit.intOf]; omega
     · have HQ8 := Hq (show q = 8 from by omega)
       have hge : ¬ ((0 : Int) ≤ 7 - (q : Int)) := by omega
       have hby := (show OutB wr H 8 8 (n * 8) from by have := HO.out; rw [HQ8.out] at this; exact this).bytes (by omega)
       rw [shE8_beN] at hby
       have hconv := hby.conv 125 9 5 Tryz.underlying125 Tryz.underlying5 Tryz.underlying9
       have HE := Hq (show (bstr (shE8 (n * 8))).size = 8 from by rw [bstr_size]; rfl)
       obtain ⟨y, hy⟩ : ∃ y, bstr (shE8 (n * 8)) = y := ⟨_, rfl⟩
       rw [hy] at hconv HE
       have hadd : ∀ w, (Op.stringOp .add t y).run Tryz.prog w = .ok (.string r) w := fun w => by
        have hz : zs n ≤ 63 := by unfold zs; omega
        have hts : t.size ≤ 1000000000100 := by rw [HT.out, bstr_size]; simp [HL.out]; have := HKZ.out; omega
        rw [run_string_add_sum w _ _ (by rw [HE.out]; omega), HT.out, ← hy, ← HR.out]
        refine congrArg (fun x => Result.ok (Value.string x) w) ?_
        rw [HKZ.out]
        unfold padL
        rw [HL.out]
        exact bstr_snoc _ _
       clear hby hy hlt hq
       go_wp2
       go_ret
       exact ⟨rfl, by rw [hH]; exact HB.out⟩
end Go.Proofs.YtndmjfkmnjejkaaGreatDoor
namespace Go.Proofs.YtndmjfkmnjejkaaGreatDoor
set_option maxRecDepth 100000
set_option maxHeartbeats 2000000
open Go.RowKit Go.Lib
theorem bstr_extract (l : List UInt8) (a b : Nat) : (bstr l).extract a b = bstr ((l.drop a).take (b - a)) := ByteArray.extract_mk l a b
theorem bstr_list (l : List UInt8) : (bstr l).data.toList = l := by simp [bstr]
theorem r05_Sum (s : ByteArray) (hs : s.size ≤ 1000000000000) (w : World) : Calls Tryz.prog 213 #[.string s] w (Ret (.string (bstr (shaL s.data.toList))) w) := by
 have HPD := Hq (r05_padded s hs)
 obtain ⟨n, hn⟩ : ∃ n, s.size = n := ⟨_, rfl⟩
 obtain ⟨l, hl⟩ : ∃ l, s.data.toList = l := ⟨_, rfl⟩
 have hll : l.length = n := by rw [← hl, ← hn]; exact Array.length_toList
 rw [hl] at HPD ⊢
 obtain ⟨r, hr⟩ : ∃ r, bstr (shaL l) = r := ⟨_, rfl⟩
 have HR := Hq hr
 rw [hr]
 obtain ⟨P, hP⟩ : ∃ P, padL l = P := ⟨_, rfl⟩
 rw [hP] at HPD
 obtain ⟨Ln, hLn⟩ : ∃ k, P.length = k := ⟨_, rfl⟩
 have HLn := Hq hLn
 have HPP := Hq hP
 have HMOD := Hq (show Ln % 64 = 0 from by rw [← hLn, ← hP]; exact padL_mod l)
 have HBIG := Hq (show Ln ≤ 1000000000100 from by
  rw [← hLn, ← hP, padL_length, hll]; have : zs n ≤ 63 := by unfold zs; omega
  omega)
 obtain ⟨m, hm⟩ : ∃ m, bstr P = m := ⟨_, rfl⟩
 have HM := Hq hm
 have HMS := Hq (show m.size = Ln from by rw [← hm, bstr_size, hLn])
 rw [hm] at HPD
 clear hr hP hLn hm hl hll hn hs
 have e0 : st0.arr = #[Value.int .u32 1779033703, Value.int .u32 3144134277, Value.int .u32 1013904242, Value.int .u32 2773480762, Value.int .u32 1359893119, Value.int .u32 2600822924, Value.int .u32 528734635, Value.int .u32 1541459225] := by kernel_rfl
 have HS0 := Hq (show RowV8 (w.alloc (.cells st0.arr 216)) w.heap.size 8 st0.at from RowV8.new w st0)
 have HB0 := Hq (show Below w.heap.size w (w.alloc (.cells st0.arr 216)) from (Below.refl _ _).alloc (Nat.le_refl _) _)
 rw [e0] at HS0 HB0
 clear e0
 go_enter Tryz.func213, Tryz.ntmps213
 go_wp2_with fail
 refine (HPD.out _).mono ?_
 rintro e w1 ⟨rfl, hb1⟩
 have HS1 := Hq (HS0.out.kept hb1 HS0.out.lt)
 have HB1 := Hq (below_up HB0.out HB0.out.size hb1)
 obtain ⟨H, hH⟩ : ∃ H, w.heap.size = H := ⟨_, rfl⟩
 rw [hH] at HS1 HB1 ⊢
 clear hb1 HS0 HB0 HPD
 go_wp2
 go_loopw [3, 5] (fun v i wr => ∃ k g c : Nat, 64 * k ≤ Ln ∧ v = .slice (some ⟨g, 0, none⟩) 8 c ∧ i = .int .i64 ((64 * k : Nat) : Int) ∧ RowV8 wr g c (blks st0 k P).at ∧ Below H w wr) (fun _ i _ => Ln - (RowKit.intOf i).toNat)
 case atStart => exact ⟨0, H, 8, Nat.zero_le _, rfl, rfl, HS1.out, HB1.out⟩
 case round =>
  obtain ⟨k, g, c, hk, rfl, rfl, hx, hb⟩ := hrel
  have HX := Hq hx
  have HB := Hq hb
  clear hx hb
  obtain ⟨j, hj⟩ : ∃ j, 64 * k = j := ⟨_, rfl⟩
  have HJ := Hq hj
  rw [hj]
  have hms := HMS.out
  have hbig := HBIG.out
  by_cases hlt : j < Ln
  · have h64 : j + 64 ≤ Ln := by have := HMOD.out; omega
    have hji : (j : Int) < (m.size : Int) := by omega
    have h64i : (j : Int) + 64 ≤ (m.size : Int) := by omega
    have hbi : (j : Int) ≤ 1000000000100 := by omega
    clear hj hk hlt h64 hms hbig
    go_wp2_with fail
    have hlist : (m.extract j (j + 64)).data.toList = (P.drop (64 * k)).take 64 := by
     rw [← HM.out, bstr_extract, bstr_list, ← HJ.out, Nat.add_sub_cancel_left]
    have hsz : (m.extract j (j + 64)).size = 64 := by
     rw [ByteArray.size_extract]; omega
    have HC := r05_compress (blks st0 k P) (m.extract j (j + 64)) hsz g c wr HX.out
    rw [hlist, ← blks_succ] at HC
    have HKJ := Hq (show 64 * (k + 1) = j + 64 ∧ j + 64 ≤ Ln ∧ j < Ln from by have := HJ.out; have := HMS.out; omega)
    refine HC.mono ?_
    rintro e w2 ⟨g2, c2, rfl, hx2, hg2, hb2⟩
    have HX2 := Hq hx2
    have HB2 := Hq (below_up HB.out (by rw [← hH]; exact HB.out.size) hb2)
    clear hx2 hg2 hb2 HC hlist hsz
    go_wp2
    refine ⟨⟨k + 1, g2, c2, ?_, rfl, ?_, HX2.out, HB2.out⟩, ?_⟩
    · rw [HKJ.out.1]; exact HKJ.out.2.1
    · rw [HKJ.out.1]; simp
    · have := HKJ.out; simp [RowKit.intOf]; omega
  · have hge : ¬ ((j : Int) < (m.size : Int)) := by omega
    obtain ⟨F, hF⟩ : ∃ F, blks st0 k P = F := ⟨_, rfl⟩
    have HF := Hq (show r = bstr (F.ws.flatMap wo) from by
     rw [← HR.out, ← hF]; unfold shaL; rw [HPP.out, HLn.out, show Ln / 64 = k from by have := HJ.out; omega])
    rw [hF] at HX
    clear hF hlt hj hk hms hbig
    obtain ⟨w5, hw5⟩ : ∃ x, x = wr := ⟨_, rfl⟩
    subst hw5
    obtain ⟨G, hG⟩ : ∃ G, w5.heap.size = G := ⟨_, rfl⟩
    have HHG := Hq (show H ≤ G from by rw [← hG, ← hH]; exact HB.out.size)
    have HGG := Hq (show g < G from by rw [← hG]; exact HX.out.lt)
    go_wp2
    clear hge
    go_loopw [6, 7] (fun v x wx => ∃ i : Nat, i ≤ 8 ∧ x = .int .i64 i ∧ wx.ownsRow G 5 1 v (4 * i) (byteCells ((F.ws.take i).flatMap wo)) ∧ Below G w5 wx) (fun _ x _ => 8 - (RowKit.intOf x).toNat)
    case atStart => exact ⟨0, by omega, rfl, World.ownsRow_nil _ _ _ _, Below.refl _ _⟩
    case round =>
     obtain ⟨i2, hi2, rfl, hown, hb⟩ := hrel
     have HO := Hq hown
     have HB2 := Hq hb
     clear hown hb
     by_cases hlt : i2 < 8
     · have hi2i : (i2 : Int) < 8 := by omega
       have HX2 := HX.out.kept HB2.out HGG.out
       have cc := HX2.cell hlt
       have HTK := Hq (ws_take F i2 hlt)
       obtain ⟨x, hx⟩ : ∃ x, F.at i2 = x := ⟨_, rfl⟩
       rw [hx] at cc HTK
       clear hx HX2
       have HWC := Hq (word_cells x)
       have HGX := Hq (show G ≤ wr.heap.size from by rw [← hG]; exact HB2.out.size)
       go_wp2_with (at_builtin; refine wpList_append_word _ rfl (.tmp 33) (.tmp 45) rfl G (4 * i2) _ ((F.ws.take i2).flatMap wo) rfl (HO.out.alloc _) (by omega) wr.heap.size 4 x rfl (by rw [← HWC.out]; exact heap_alloc_new _ _) (by have := HGX.out; simp; omega) ?_)
       intro v3 w8 ho8 hb8
       have HO8 := Hq ho8
       have HB8 := Hq (show Below G w5 w8 from (HB2.out.alloc (by have := HGX.out; omega) _).trans hb8)
       clear ho8 hb8 cc
       go_wp2
       go_roundw
       case rel =>
        refine ⟨i2 + 1, by omega, by go_num, ?_, HB8.out⟩
        rw [HTK.out]
        exact HO8.out
       case measure => simp [RowKit.intOf]; omega
     · obtain rfl : i2 = 8 := by omega
       obtain ⟨A, c7, rfl, hby⟩ := own_bytes HO.out (show ((F.ws.take 8).flatMap wo).length = 4 * 8 from by simp [W8.ws, wo])
       have hconv := hby.conv 125 9 5 Tryz.underlying125 Tryz.underlying5 Tryz.underlying9
       have hw8 : F.ws.take 8 = F.ws := rfl
       rw [hw8, ← HF.out] at hconv
       clear hby hw8
       have HBF := Hq (show Below H w wr from HB.out.trans (HB2.out.mono HHG.out))
       go_wp2
       go_ret
       exact ⟨rfl, by rw [hH]; exact HBF.out⟩
end Go.Proofs.YtndmjfkmnjejkaaGreatDoor
namespace Go.Proofs.YtndmjfkmnjejkaaGreatDoor
set_option maxRecDepth 100000
set_option maxHeartbeats 2000000
open Go.RowKit Go.Lib
def RowU (w : World) (B : Nat) (f : Nat → UInt8) : Prop := w.heap[B]? = some (.cells (yc f) 5 (0, 0))
theorem RowU.cell {w : World} {B : Nat} {f : Nat → UInt8} (h : RowU w B f) {k : Nat} (hk : k < 64) : w.cell? ⟨B, k, none⟩ = some (.int .u8 ((f k).toNat : Int)) := by
 rw [Lib.cell_of_heap h, yc_get f hk]
theorem RowU.free {w : World} {B : Nat} {f : Nat → UInt8} (h : RowU w B f) (k : Nat) : w.frozen? ⟨B, k, none⟩ = false := Lib.frozen_of_heap h k
theorem RowU.set {w : World} {B : Nat} {f : Nat → UInt8} (h : RowU w B f) (k : Nat) (x : UInt8) : RowU (w.setCell ⟨B, k, none⟩ (.int .u8 (x.toNat : Int))) B (fun j => if j = k then x else f j) := by
 unfold RowU; rw [block_setCell h, yc_set]
theorem RowU.bytes {w : World} {B : Nat} {f : Nat → UInt8} (h : RowU w B f) : BytesAt w (some ⟨B, 0, none⟩) 64 64 ((List.range 64).map f) := by
 refine ⟨by simp, Nat.le_refl _, by omega, fun _ => ⟨B, 0, rfl, fun k hk => ?_⟩⟩
 rw [Nat.zero_add, h.cell hk]
 simp [byteI, hk]
def xu (l : List UInt8) (x : UInt8) (k : Nat) (j : Nat) : UInt8 := if j < k then l.getD j 0 ^^^ x else 0
theorem xu_zero (l : List UInt8) (x : UInt8) : xu l x 0 = fun _ => 0 := by funext j; simp [xu]
theorem xu_step (l : List UInt8) (x : UInt8) (k : Nat) : (fun j => if j = k then l.getD k 0 ^^^ x else xu l x k j) = xu l x (k + 1) := by
 funext j
 unfold xu
 by_cases e : j = k
 · subst e; simp
 · rw [if_neg e]
   by_cases h : j < k
   · rw [if_pos h, if_pos (by omega)]
   · rw [if_neg h, if_neg (by omega)]
theorem xu_all (l : List UInt8) (x : UInt8) : (List.range 64).map (xu l x 64) = xorL l x := by
 unfold xorL
 apply List.map_congr_left
 intro i hi
 have : i < 64 := by simpa using hi
 simp [xu, this]
theorem xu_twice (l : List UInt8) (x y : UInt8) (k : Nat) : (fun j => if j = k then l.getD k 0 ^^^ x else if j = k then y else xu l x k j) = xu l x (k + 1) := by
 rw [← xu_step]
 funext j
 by_cases e : j = k
 · rw [if_pos e, if_pos e]
 · rw [if_neg e, if_neg e, if_neg e]
theorem r05_xored54 (key : ByteArray) (hk : key.size ≤ 64) (w : World) : Calls Tryz.prog 224 #[.string key, .int .u8 54] w (Ret (.string (bstr (xorL key.data.toList 54))) w) := by
 have hmk : (Instr.makeSlice 125 (.int .i64 64) (.int .i64 64)).run Tryz.prog w = .ok (.slice (some ⟨w.heap.size, 0, none⟩) 64 64) (w.alloc (.cells z64b 5)) := make_room 64 64 (by omega) (by omega) w
 obtain ⟨zb, hzb⟩ : ∃ z, z64b = z := ⟨_, rfl⟩
 have HR0 := Hq (show RowU (w.alloc (.cells z64b 5)) w.heap.size (xu key.data.toList 54 0) from by rw [xu_zero]; unfold RowU; rw [yc_zero]; exact heap_alloc_new _ _)
 have HB0 := Hq ((Below.refl w.heap.size w).alloc (Nat.le_refl _) (.cells z64b 5))
 rw [hzb] at hmk HR0 HB0
 obtain ⟨l, hl⟩ : ∃ l, key.data.toList = l := ⟨_, rfl⟩
 have HLL := Hq (show l.length = key.size from by rw [← hl]; exact Array.length_toList)
 have HGD := Hq (show ∀ k (h : k < key.size), l.getD k 0 = key[k] from fun k h => by rw [← hl]; exact data_getD key k h)
 rw [hl] at HR0 ⊢
 clear hl hzb
 go_enter Tryz.func224, Tryz.ntmps224
 go_wp2
 obtain ⟨w1, hw1⟩ : ∃ W, w.alloc (.cells zb 5) = W := ⟨_, rfl⟩
 obtain ⟨P, hP⟩ : ∃ P, w.heap.size = P := ⟨_, rfl⟩
 have HP := Hq hP
 rw [hw1, hP] at HR0 HB0
 try rw [hw1]
 rw [hP]
 clear hw1 hP hmk
 go_loopw [6] (fun v wr => ∃ k : Nat, k ≤ 64 ∧ v = .int .i64 k ∧ RowU wr P (xu l 54 k) ∧ Below P w wr) (fun v _ => 64 - (RowKit.intOf v).toNat)
 case atStart => exact ⟨0, by omega, rfl, HR0.out, HB0.out⟩
 case round =>
  obtain ⟨k, hk, rfl, hy, hb⟩ := hrel
  have HY := Hq hy
  have HB := Hq hb
  clear hy hb HR0 HB0
  by_cases hlt : k < 64
  · have hki : (k : Int) < 64 := by omega
    have HK := Hq hlt
    have d0 := HY.out.cell hlt
    have f0 := HY.out.free k
    obtain ⟨x0, hx0⟩ : ∃ x, ((xu l 54 k k).toNat : Int) = x := ⟨_, rfl⟩
    rw [hx0] at d0
    clear hx0 hlt hk
    by_cases hks : k < key.size
    · have hksi : (k : Int) < (key.size : Int) := by omega
      have HG := Hq (HGD.out k hks)
      go_wp2
      have h1 := (HY.out.set k 54).set k (key[k] ^^^ 54)
      rw [show ((54 : UInt8).toNat : Int) = 54 from rfl] at h1
      rw [xor_54 key[k]]
      refine ⟨⟨k + 1, by have := HK.out; omega, by go_num, ?_, (HB.out.setCell (p := ⟨P, k, none⟩) (Nat.le_refl P) _).setCell (p := ⟨P, k, none⟩) (Nat.le_refl P) _⟩, ?_⟩
      · rw [← xu_twice l 54 54 k, HG.out]; exact h1
      · have := HK.out; simp [RowKit.intOf]; omega
    · have hksi : ¬ ((k : Int) < (key.size : Int)) := by omega
      have HG := Hq (show l.getD k 0 = 0 from by rw [List.getD_eq_getElem?_getD, List.getElem?_eq_none (by have := HLL.out; omega)]; rfl)
      go_wp2
      have h1 := HY.out.set k 54
      rw [show ((54 : UInt8).toNat : Int) = 54 from rfl] at h1
      refine ⟨⟨k + 1, by have := HK.out; omega, by go_num, ?_, HB.out.setCell (p := ⟨P, k, none⟩) (Nat.le_refl P) _⟩, ?_⟩
      · rw [← xu_step l 54 k, HG.out]; exact h1
      · have := HK.out; simp [RowKit.intOf]; omega
  · obtain rfl : k = 64 := by omega
    have hki : ¬ (((64 : Nat) : Int) < 64) := by omega
    have hbt : BytesAt wr (some ⟨P, 0, none⟩) 64 64 (xorL l 54) := by rw [← xu_all]; exact HY.out.bytes
    have hconv := hbt.conv 125 9 5 Tryz.underlying125 Tryz.underlying5 Tryz.underlying9
    clear hk hlt hbt
    go_wp2
    go_ret
    exact ⟨rfl, by rw [HP.out]; exact HB.out⟩
theorem r05_xored92 (key : ByteArray) (hk : key.size ≤ 64) (w : World) : Calls Tryz.prog 224 #[.string key, .int .u8 92] w (Ret (.string (bstr (xorL key.data.toList 92))) w) := by
 have hmk : (Instr.makeSlice 125 (.int .i64 64) (.int .i64 64)).run Tryz.prog w = .ok (.slice (some ⟨w.heap.size, 0, none⟩) 64 64) (w.alloc (.cells z64b 5)) := make_room 64 64 (by omega) (by omega) w
 obtain ⟨zb, hzb⟩ : ∃ z, z64b = z := ⟨_, rfl⟩
 have HR0 := Hq (show RowU (w.alloc (.cells z64b 5)) w.heap.size (xu key.data.toList 92 0) from by rw [xu_zero]; unfold RowU; rw [yc_zero]; exact heap_alloc_new _ _)
 have HB0 := Hq ((Below.refl w.heap.size w).alloc (Nat.le_refl _) (.cells z64b 5))
 rw [hzb] at hmk HR0 HB0
 obtain ⟨l, hl⟩ : ∃ l, key.data.toList = l := ⟨_, rfl⟩
 have HLL := Hq (show l.length = key.size from by rw [← hl]; exact Array.length_toList)
 have HGD := Hq (show ∀ k (h : k < key.size), l.getD k 0 = key[k] from fun k h => by rw [← hl]; exact data_getD key k h)
 rw [hl] at HR0 ⊢
 clear hl hzb
 go_enter Tryz.func224, Tryz.ntmps224
 go_wp2
 obtain ⟨w1, hw1⟩ : ∃ W, w.alloc (.cells zb 5) = W := ⟨_, rfl⟩
 obtain ⟨P, hP⟩ : ∃ P, w.heap.size = P := ⟨_, rfl⟩
 have HP := Hq hP
 rw [hw1, hP] at HR0 HB0
 try rw [hw1]
 rw [hP]
 clear hw1 hP hmk
 go_loopw [6] (fun v wr => ∃ k : Nat, k ≤ 64 ∧ v = .int .i64 k ∧ RowU wr P (xu l 92 k) ∧ Below P w wr) (fun v _ => 64 - (RowKit.intOf v).toNat)
 case atStart => exact ⟨0, by omega, rfl, HR0.out, HB0.out⟩
 case round =>
  obtain ⟨k, hk, rfl, hy, hb⟩ := hrel
  have HY := Hq hy
  have HB := Hq hb
  clear hy hb HR0 HB0
  by_cases hlt : k < 64
  · have hki : (k : Int) < 64 := by omega
    have HK := Hq hlt
    have d0 := HY.out.cell hlt
    have f0 := HY.out.free k
    obtain ⟨x0, hx0⟩ : ∃ x, ((xu l 92 k k).toNat : Int) = x := ⟨_, rfl⟩
    rw [hx0] at d0
    clear hx0 hlt hk
    by_cases hks : k < key.size
    · have hksi : (k : Int) < (key.size : Int) := by omega
      have HG := Hq (HGD.out k hks)
      go_wp2
      have h1 := (HY.out.set k 92).set k (key[k] ^^^ 92)
      rw [show ((92 : UInt8).toNat : Int) = 92 from rfl] at h1
      rw [xor_92 key[k]]
      refine ⟨⟨k + 1, by have := HK.out; omega, by go_num, ?_, (HB.out.setCell (p := ⟨P, k, none⟩) (Nat.le_refl P) _).setCell (p := ⟨P, k, none⟩) (Nat.le_refl P) _⟩, ?_⟩
      · rw [← xu_twice l 92 92 k, HG.out]; exact h1
      · have := HK.out; simp [RowKit.intOf]; omega
    · have hksi : ¬ ((k : Int) < (key.size : Int)) := by omega
      have HG := Hq (show l.getD k 0 = 0 from by rw [List.getD_eq_getElem?_getD, List.getElem?_eq_none (by have := HLL.out; omega)]; rfl)
      go_wp2
      have h1 := HY.out.set k 92
      rw [show ((92 : UInt8).toNat : Int) = 92 from rfl] at h1
      refine ⟨⟨k + 1, by have := HK.out; omega, by go_num, ?_, HB.out.setCell (p := ⟨P, k, none⟩) (Nat.le_refl P) _⟩, ?_⟩
      · rw [← xu_step l 92 k, HG.out]; exact h1
      · have := HK.out; simp [RowKit.intOf]; omega
  · obtain rfl : k = 64 := by omega
    have hki : ¬ (((64 : Nat) : Int) < 64) := by omega
    have hbt : BytesAt wr (some ⟨P, 0, none⟩) 64 64 (xorL l 92) := by rw [← xu_all]; exact HY.out.bytes
    have hconv := hbt.conv 125 9 5 Tryz.underlying125 Tryz.underlying5 Tryz.underlying9
    clear hk hlt hbt
    go_wp2
    go_ret
    exact ⟨rfl, by rw [HP.out]; exact HB.out⟩
theorem r05_Mac64 (key s : ByteArray) (hk : key.size ≤ 64) (hs : s.size ≤ 100000000) (w : World) : Calls Tryz.prog 194 #[.string key, .string s] w (Ret (.string (bstr (macL key.data.toList s.data.toList))) w) := by
 have HX9 := Hq (r05_xored92 key hk)
 have HX5 := Hq (r05_xored54 key hk)
 obtain ⟨l, hl⟩ : ∃ l, key.data.toList = l := ⟨_, rfl⟩
 have hll : l.length = key.size := by rw [← hl]; exact Array.length_toList
 have HR := Hq (show macL l s.data.toList = shaL (xorL l 92 ++ shaL (xorL l 54 ++ s.data.toList)) from by unfold macL; rw [if_neg (by omega)])
 rw [hl] at HX9 HX5 ⊢
 rw [HR.out]
 have HS1 := Hq (r05_Sum (bstr (xorL l 54) ++ s) (by rw [ByteArray.size_append, bstr_size]; simp [xorL]; omega))
 have HS2 := Hq (r05_Sum (bstr (xorL l 92) ++ bstr (shaL (xorL l 54 ++ s.data.toList))) (by rw [ByteArray.size_append, bstr_size, bstr_size, shaL_length]; simp [xorL]))
 have hlei : decide ((64 : Int) < (key.size : Int)) = false := decide_eq_false (by omega)
 rw [app_data, bstr_data] at HS1
 rw [app_data, bstr_data, bstr_data] at HS2
 obtain ⟨a1, ha1⟩ : ∃ z, bstr (xorL l 54) = z := ⟨_, rfl⟩
 obtain ⟨a2, ha2⟩ : ∃ z, bstr (xorL l 92) = z := ⟨_, rfl⟩
 obtain ⟨m1, hm1⟩ : ∃ z, bstr (shaL (xorL l 54 ++ s.data.toList)) = z := ⟨_, rfl⟩
 obtain ⟨m2, hm2⟩ : ∃ z, bstr (shaL (xorL l 92 ++ shaL (xorL l 54 ++ s.data.toList))) = z := ⟨_, rfl⟩
 rw [hm2]
 rw [ha1, hm1] at HS1
 rw [ha2, hm1, hm2] at HS2
 rw [ha1] at HX5
 rw [ha2] at HX9
 have hz1 : ¬ (9223372036854775807 < a1.size + s.size) := by rw [← ha1, bstr_size]; simp [xorL]; omega
 have hz2 : ¬ (9223372036854775807 < a2.size + m1.size) := by rw [← ha2, ← hm1, bstr_size, bstr_size, shaL_length]; simp [xorL]
 clear hl hll hk hs HR ha1 ha2 hm1 hm2
 go_enter Tryz.func194, Tryz.ntmps194
 go_wp2_with fail
 refine (HX9.out _).mono ?_
 rintro ev w1 ⟨rfl, hb⟩
 have HB1 := Hq hb
 clear hb
 go_wp2_with fail
 refine (HX5.out _).mono ?_
 rintro ev w2 ⟨rfl, hb⟩
 have HB2 := Hq (HB1.out.trans (hb.mono HB1.out.size))
 clear hb
 go_wp2_with fail
 refine (HS1.out _).mono ?_
 rintro ev w3 ⟨rfl, hb⟩
 have HB3 := Hq (HB2.out.trans (hb.mono HB2.out.size))
 clear hb
 go_wp2_with fail
 refine (HS2.out _).mono ?_
 rintro ev w4 ⟨rfl, hb⟩
 have HB4 := Hq (HB3.out.trans (hb.mono HB3.out.size))
 clear hb
 go_wp2
 go_ret
 exact ⟨rfl, HB4.out⟩
theorem r05_Mac (key s : ByteArray) (hkk : key.size ≤ 1000000) (hs : s.size ≤ 100000000) (w : World) : Calls Tryz.prog 194 #[.string key, .string s] w (Ret (.string (bstr (macL key.data.toList s.data.toList))) w) := by
 by_cases h64 : key.size ≤ 64
 · exact r05_Mac64 key s h64 hs w
 obtain ⟨k2, hk2⟩ : ∃ k, bstr (shaL key.data.toList) = k := ⟨_, rfl⟩
 obtain ⟨l, hl⟩ : ∃ l, k2.data.toList = l := ⟨_, rfl⟩
 have hll : key.data.toList.length = key.size := Array.length_toList
 have hk : k2.size ≤ 64 := by rw [← hk2, bstr_size, shaL_length]; decide
 have hl2 : shaL key.data.toList = l := by rw [← hl, ← hk2, bstr_data]
 have HX9 := Hq (r05_xored92 k2 hk)
 have HX5 := Hq (r05_xored54 k2 hk)
 have HSK := Hq (r05_Sum key (by omega))
 rw [hk2] at HSK
 have HR := Hq (show macL key.data.toList s.data.toList = shaL (xorL l 92 ++ shaL (xorL l 54 ++ s.data.toList)) from by unfold macL; rw [if_pos (by omega), hl2])
 rw [hl] at HX9 HX5
 rw [HR.out]
 have HS1 := Hq (r05_Sum (bstr (xorL l 54) ++ s) (by rw [ByteArray.size_append, bstr_size]; simp [xorL]; omega))
 have HS2 := Hq (r05_Sum (bstr (xorL l 92) ++ bstr (shaL (xorL l 54 ++ s.data.toList))) (by rw [ByteArray.size_append, bstr_size, bstr_size, shaL_length]; simp [xorL]))
 have hlei : decide ((64 : Int) < (key.size : Int)) = true := decide_eq_true (by omega)
 rw [app_data, bstr_data] at HS1
 rw [app_data, bstr_data, bstr_data] at HS2
 obtain ⟨a1, ha1⟩ : ∃ z, bstr (xorL l 54) = z := ⟨_, rfl⟩
 obtain ⟨a2, ha2⟩ : ∃ z, bstr (xorL l 92) = z := ⟨_, rfl⟩
 obtain ⟨m1, hm1⟩ : ∃ z, bstr (shaL (xorL l 54 ++ s.data.toList)) = z := ⟨_, rfl⟩
 obtain ⟨m2, hm2⟩ : ∃ z, bstr (shaL (xorL l 92 ++ shaL (xorL l 54 ++ s.data.toList))) = z := ⟨_, rfl⟩
 rw [hm2]
 rw [ha1, hm1] at HS1
 rw [ha2, hm1, hm2] at HS2
 rw [ha1] at HX5
 rw [ha2] at HX9
 have hz1 : ¬ (9223372036854775807 < a1.size + s.size) := by rw [← ha1, bstr_size]; simp [xorL]; omega
 have hz2 : ¬ (9223372036854775807 < a2.size + m1.size) := by rw [← ha2, ← hm1, bstr_size, bstr_size, shaL_length]; simp [xorL]
 clear hl hll hk hs HR ha1 ha2 hm1 hm2 hl2 hk2 h64 hkk
 go_enter Tryz.func194, Tryz.ntmps194
 go_wp2_with fail
 refine (HSK.out _).mono ?_
 rintro ev w0 ⟨rfl, hb⟩
 have HB0 := Hq hb
 clear hb
 go_wp2_with fail
 refine (HX9.out _).mono ?_
 rintro ev w1 ⟨rfl, hb⟩
 have HB1 := Hq (HB0.out.trans (hb.mono HB0.out.size))
 clear hb
 go_wp2_with fail
 refine (HX5.out _).mono ?_
 rintro ev w2 ⟨rfl, hb⟩
 have HB2 := Hq (HB1.out.trans (hb.mono HB1.out.size))
 clear hb
 go_wp2_with fail
 refine (HS1.out _).mono ?_
 rintro ev w3 ⟨rfl, hb⟩
 have HB3 := Hq (HB2.out.trans (hb.mono HB2.out.size))
 clear hb
 go_wp2_with fail
 refine (HS2.out _).mono ?_
 rintro ev w4 ⟨rfl, hb⟩
 have HB4 := Hq (HB3.out.trans (hb.mono HB3.out.size))
 clear hb
 go_wp2
 go_ret
 exact ⟨rfl, HB4.out⟩
end Go.Proofs.YtndmjfkmnjejkaaGreatDoor
namespace Go.Proofs.YtndmjfkmnjejkaaGreatDoor
set_option maxRecDepth 100000
set_option maxHeartbeats 2000000
open Go.RowKit Go.Shelf Go.Lib
attribute [local go_sem] Oper.semAt_some
def SeqFirst (F : Fence) (n : Nat) (P : Program) (g : Nat) (lb : Array Value) (args : Array Value) (w : World) : Prop :=
 ∀ (l : Nat) (J Jx : Unit → World → Prop) (W : World), Below w.heap.size w W → AbidesFrom W.heap.size J → AbidesFrom W.heap.size Jx →
  (∀ W1, J () W1 → YieldAt F (n - 1) P l args W1 fun e W' => e = .returned (.bool false) ∧ Jx () W') → J () W →
  CallsIn F n P g (#[.func (.yield l) #[] #[]] ++ lb) W fun e W' => (∃ v, e = .returned v) ∧ Jx () W'
theorem rangeFunc_first {F : Fence} {n : Nat} {P : Program} {g : Operand} {ps : Array Tmp} {assign body : Code} {Q : Exit → Act → World → Prop} {a : Act} {w : World}
 (hro : F.round = none) (h1 : 1 ≤ n) {gf : Nat} {lb : Array Value} (hg : a.eval g = .func (.func gf) #[] lb) (hFg : F.fn gf) (eg : ∀ args w, (callFunc gf args).run P w = .ok (.enter gf args) w)
 {args : Array Value} {w0 : World} (hseq : SeqFirst F (n - 1) P gf lb args w0) (hb0 : Below w0.heap.size w0 w) (hps : args.size = ps.size)
 (I : Unit → World → Prop) (Ix : Code → Unit → World → Prop) (hI : OwnFrom w.heap.size I) (hIx : ∀ c, OwnFrom w.heap.size (Ix c)) (h0 : I () w) (Fr : Array Value → Array Value)
 (hassign : ∀ (l : Nat) (W : World) (K : Act → World → Prop), K { tmps := Fr a.tmps, defers := [] } W → assign.wpIn (F.inRound l) (n - 1 - 1) P (Exit.then K (fun _ _ _ => False)) { tmps := (ps.zip args).foldl (fun t (p, v) => t.setIfInBounds p v) a.tmps, defers := [] } W)
 (hbody : ∀ (l : Nat) (W : World), I () W → body.wpIn (F.inRound l) (n - 1 - 1) P (ownPostK (fun _ _ => False) (fun (_ : List Unit) _ => True) (fun c (_ : List Unit) W => Ix c () W) [] W) { tmps := Fr a.tmps, defers := [] } W)
 (hstop : ∀ (D : Nat) (c : Code) (W : World), w.heap.size ≤ D → Ix c () W → W.heap[D]? = some (.deferred (some [])) → c.wpIn F n P Q { a with defers := { target := .collected D, args := #[] } :: a.defers } W) :
 (Code.rangeFunc g ps assign body).wpIn F n P Q a w := by
 refine wpIn_rangeFunc fun fn hfn => ?_
 rw [hro]
 obtain ⟨R, hR⟩ : ∃ R : LoopState → Option Code → Loop, R = fun st pe => { state := st, pending := pe, fn, tmps := a.tmps, params := ps, assign, body, defers := w.heap.size } := ⟨_, rfl⟩
 obtain ⟨V, hV⟩ : ∃ V, (w.alloc (.deferred (some []))).alloc (.loop (R .ready none)) = V := ⟨_, rfl⟩
 obtain ⟨L, hL⟩ : ∃ L, L = w.heap.size + 1 := ⟨_, rfl⟩
 have rowL : V.heap[L]? = some (.loop (R .ready none)) := by
  have := World.alloc_heap_new (w.alloc (.deferred (some []))) (.loop (R .ready none))
  rw [World.size_alloc] at this
  rw [← hV, hL]; exact this
 have rowD : V.heap[w.heap.size]? = some (.deferred (some [])) := by
  rw [← hV]; exact (Below.heap_alloc _ _ _ (by simp)).trans (World.alloc_heap_new w _)
 have iV : I () V := by rw [← hV]; exact hI.alloc _ (hI.alloc _ h0)
 have bV : Below w0.heap.size w0 V := by
  rw [← hV]; exact hb0.trans ((((Below.refl _ w).alloc (Nat.le_refl _) _).alloc (by simp) _).mono hb0.size)
 have sV : w.heap.size ≤ V.heap.size := by rw [← hV]; simp; omega
 refine ⟨L, [{ target := .collected w.heap.size, args := #[] }], V, { target := .fn (.func gf) lb, args := #[.func (.yield L) #[] #[]] }, V, gf, #[.func (.yield L) #[] #[]] ++ lb, V, ?_, ?_, ?_, ?_, fun _ => h1, ?_⟩
 · rw [← hV, hR, hL]; exact run_enterLoop_outer _ _ _ _ _
 · simp only [resolve, hg]
   simp [go_sem]
 · intro f' hf'; simp [Target.leads] at hf'; subst hf'; exact hFg
 · simp [invoke, go_sem, eg]
 · have rows : ∀ {A : World} {row : Option Nat}, (∀ r, row = some r → V.heap.size ≤ r ∧ ∃ o : Obj, A.heap[r]? = some o ∧ o.isWalk = true) → (∀ r, row = some r → w.heap.size ≤ r ∧ ∃ o : Obj, A.heap[r]? = some o ∧ o.isCells = false) :=
    fun hr r e => by obtain ⟨hB, o, ho, hw⟩ := hr r e; exact ⟨Nat.le_trans sV hB, o, ho, Obj.not_cells_of_walk hw⟩
   refine (hseq L (fun u W => I u W ∧ W.heap[L]? = some (.loop (R .ready none)) ∧ W.heap[w.heap.size]? = some (.deferred (some [])))
    (fun u W => ∃ c, Ix c u W ∧ W.heap[L]? = some (.loop (R .done (some c))) ∧ W.heap[w.heap.size]? = some (.deferred (some []))) V bV
    (fun s A B row hs hg' hr => ⟨hI s A B row hs.1 hg' (rows hr), (grownBy_keeps hg' (fun r e => (hr r e).2) hs.2.1 rfl).trans hs.2.1, (grownBy_keeps hg' (fun r e => (hr r e).2) hs.2.2 rfl).trans hs.2.2⟩)
    (fun s A B row ⟨c, hc, hl, hk⟩ hg' hr => ⟨c, hIx c s A B row hc hg' (rows hr), (grownBy_keeps hg' (fun r e => (hr r e).2) hl rfl).trans hl, (grownBy_keeps hg' (fun r e => (hr r e).2) hk rfl).trans hk⟩)
    ?_ ⟨iV, rowL, rowD⟩).mono ?_
   · rintro W ⟨hi, hl, hk⟩
     have hlt : L < W.heap.size := (Array.getElem?_eq_some_iff.1 hl).1
     have hy := run_yield (P := P) (args := args) hl (by rw [hR]; exact hps)
     rw [hR] at hy
     refine ⟨fn, _, assign, body, hy, roundIn_of_wpIn hfn (hassign _ W _ ⟨_, run_beginRound hl (by rw [hR]), ?_⟩)⟩
     have hl2 : (W.putObj L (.loop { R .ready none with state := .busy })).heap[L]? = some (.loop { R .ready none with state := .busy }) := World.putObj_heap_same hlt
     have hk2 : (W.putObj L (.loop { R .ready none with state := .busy })).heap[w.heap.size]? = some (.deferred (some [])) := (World.putObj_heap_other (by omega)).trans hk
     refine wpIn_mono (hbody _ _ (hI.putObj _ hi (by omega) hl rfl)) ?_
     have fin : ∀ (jump : Option Code) (W3 : World), KeepsOthers (W.putObj L (.loop { R .ready none with state := .busy })) W3 →
      (Instr.endRound L jump).run P W3 = .ok (.bool jump.isNone) (W3.putObj L (.loop (R (if jump.isNone then .ready else .done) jump))) ∧
      W3.heap[L]? = some (.loop { R .ready none with state := .busy }) ∧
      (W3.putObj L (.loop (R (if jump.isNone then .ready else .done) jump))).heap[L]? = some (.loop (R (if jump.isNone then .ready else .done) jump)) ∧
      (W3.putObj L (.loop (R (if jump.isNone then .ready else .done) jump))).heap[w.heap.size]? = some (.deferred (some [])) := fun jump W3 hk3 => by
      have hl3 := hk3.same _ _ hl2 rfl
      have := run_endRound (P := P) jump hl3
      rw [hR] at this ⊢
      exact ⟨this, by rw [hR] at hl3; exact hl3, World.putObj_heap_same (Array.getElem?_eq_some_iff.1 hl3).1, (World.putObj_heap_other (by omega)).trans (hk3.same _ _ hk2 rfl)⟩
     rintro e a3 W3 hp
     cases e with
     | normal => exact hp.2.1.elim
     | ret =>
      obtain ⟨hk3, hi3⟩ := hp
      obtain ⟨hr, hl3, hl4, hk4⟩ := fin (some .ret) W3 hk3
      exact ⟨_, _, hr, ⟨rfl, .ret, (hIx _).putObj _ hi3 (by omega) hl3 rfl, hl4, hk4⟩⟩
     | exit id =>
      obtain ⟨hk3, hi3⟩ := hp
      obtain ⟨hr, hl3, hl4, hk4⟩ := fin (some (.exit id)) W3 hk3
      exact ⟨_, _, hr, ⟨rfl, .exit id, (hIx _).putObj _ hi3 (by omega) hl3 rfl, hl4, hk4⟩⟩
     | goto t =>
      obtain ⟨hk3, hi3⟩ := hp
      obtain ⟨hr, hl3, hl4, hk4⟩ := fin (some (.goto t)) W3 hk3
      exact ⟨_, _, hr, ⟨rfl, .goto t, (hIx _).putObj _ hi3 (by omega) hl3 rfl, hl4, hk4⟩⟩
     | panic ch => exact hp.elim
     | outgrown => exact hp.elim
   · rintro e W2 ⟨⟨v, rfl⟩, ⟨c, hi, hl, hk⟩⟩
     exact ⟨some c, _, by have := run_endLoop (P := P) hl (by rw [hR]; simp); rw [hR] at this; exact this, hstop _ c _ (Nat.le_refl _) ((hIx c).putObj _ hi (by omega) hl rfl) ((World.putObj_heap_other (by omega)).trans hk)⟩
theorem abides_belowC {β : Type} {B : Nat} {J : β → World → Prop} (hJ : AbidesFrom B J) {s : β} {W W' : World} (h : J s W) (hb : Below W.heap.size W W') : J s W' := hJ s W W' none h ⟨hb.os, hb.tape, hb.output, hb.size, fun k hk _ => hb.block k hk⟩ (fun r e => by cases e)
theorem add_bstr (l m : List UInt8) (h : l.length + m.length ≤ 1000000) (P : Program) (w : World) : (Op.stringOp .add (bstr l) (bstr m)).run P w = .ok (.string (bstr (l ++ m))) w := by
 rw [run_string_add_sum w _ _ (by rw [bstr_size, bstr_size]; omega)]
 refine congrArg (fun x => Result.ok (Value.string x) w) ?_
 rw [← bstr_of (bstr l ++ bstr m), app_data, bstr_data, bstr_data]
theorem dec_short (k : Nat) (h : k < 2147483648) : (Lib.decDigits k).length ≤ 10 := by
 have : ∀ (q y : Nat), y < 10 ^ (q + 1) → (Lib.decDigits y).length ≤ q + 1 := by
  intro q
  induction q with
  | zero => intro y hy; rw [Lib.decDigits_one (by omega)]; simp
  | succ q ih =>
   intro y hy
   rw [Lib.decDigits.eq_1 y]
   split
   · simp
   · have := ih (y / 10) (by rw [Nat.pow_succ] at hy; omega)
     simp; omega
 exact this 9 k (by omega)
theorem co_blocks (A : Option Addr) (n cap : Nat) (s : ByteArray) (k a : Int) (w : World) : Calls Tryz.prog 191 #[tpV A n cap s k, .int .i64 a] w fun e w' => e = .returned (.func (.func 220) #[] #[.pointer (some ⟨w.heap.size, 0, none⟩), .pointer (some ⟨w.heap.size + 1, 0, none⟩)]) ∧ w' = (w.alloc (.cells #[.slice A n cap, .string s, .int .i64 k] 31)).alloc (.cells #[.int .i64 a] 3) := by
 unfold tpV
 go_enter Tryz.func191, Tryz.ntmps191
 go_wp2
 go_ret
 exact ⟨rfl, rfl⟩
theorem blocks_first (q : Nat) (hq : 1 ≤ q) (A : Option Addr) (n cap : Nat) (s : ByteArray) (k a : Nat) (hs : s.size ≤ 1000000) (hk : k < 2147483648) (ha : a < 256) (D E : Nat) (w : World) (hD : TB w D A n cap s k) (hE : w.heap[E]? = some (.cells #[.int .i64 a] 3 (0, 0))) (ht : T10 w) :
 SeqFirst Fence.wide q Tryz.prog 220 #[.pointer (some ⟨D, 0, none⟩), .pointer (some ⟨E, 0, none⟩)] #[.string (bstr (macL s.data.toList (nmL k a 0)))] w := fun lp J Jx W hW hJ hJx hY h0 => by
 have HT := Hq (ht.next hW)
 have HTB := Hq (hD.nextT hW)
 have HE := Hq ((hW.block E (block_lt hE)).trans hE)
 have HI1 := Hq (fun w ht => sc_Itoa k (by omega) w ht)
 have HI2 := Hq (fun w ht => sc_Itoa a (by omega) w ht)
 have HI3 := Hq (show ∀ w, T10 w → Calls Tryz.prog 221 #[.int .i64 0] w (Ret (.string (bstr (Lib.decDigits 0))) w) from fun w ht => sc_Itoa 0 (by omega) w ht)
 have l1 := dec_short k hk
 have l2 := dec_short a (by omega)
 have l3 := dec_short 0 (by omega)
 have a1 := add_bstr (Lib.decDigits k) [46] (by simp; omega) Tryz.prog
 have a2 := add_bstr (Lib.decDigits k ++ [46]) (Lib.decDigits a) (by simp; omega) Tryz.prog
 have a3 := add_bstr (Lib.decDigits k ++ [46] ++ Lib.decDigits a) [46] (by simp; omega) Tryz.prog
 have a4 := add_bstr (Lib.decDigits k ++ [46] ++ Lib.decDigits a ++ [46]) (Lib.decDigits 0) (by simp; omega) Tryz.prog
 have HM := Hq (h_Mac s (bstr (nmL k a 0)) hs (by rw [bstr_size]; unfold nmL; simp; omega))
 rw [bstr_data] at HM
 rw [show Lib.decDigits k ++ [46] ++ Lib.decDigits a ++ [46] ++ Lib.decDigits 0 = nmL k a 0 from rfl] at a4
 rw [show bstr [46] = ⟨#[46]⟩ from rfl] at a1 a3
 obtain ⟨d1, hd1⟩ : ∃ z, bstr (Lib.decDigits k) = z := ⟨_, rfl⟩
 obtain ⟨d2, hd2⟩ : ∃ z, bstr (Lib.decDigits a) = z := ⟨_, rfl⟩
 obtain ⟨d3, hd3⟩ : ∃ z, bstr (Lib.decDigits 0) = z := ⟨_, rfl⟩
 obtain ⟨e1, he1⟩ : ∃ z, bstr (Lib.decDigits k ++ [46]) = z := ⟨_, rfl⟩
 obtain ⟨e2, he2⟩ : ∃ z, bstr (Lib.decDigits k ++ [46] ++ Lib.decDigits a) = z := ⟨_, rfl⟩
 obtain ⟨e3, he3⟩ : ∃ z, bstr (Lib.decDigits k ++ [46] ++ Lib.decDigits a ++ [46]) = z := ⟨_, rfl⟩
 obtain ⟨e4, he4⟩ : ∃ z, bstr (nmL k a 0) = z := ⟨_, rfl⟩
 obtain ⟨b0, hb0⟩ : ∃ z, bstr (macL s.data.toList (nmL k a 0)) = z := ⟨_, rfl⟩
 rw [hd1] at HI1 a1
 rw [hd2] at HI2 a2
 rw [hd3] at HI3 a4
 rw [he1] at a1 a2
 rw [he2] at a2 a3
 rw [he3] at a3 a4
 rw [he4] at a4 HM
 rw [hb0] at HM hY
 have HY := Hq hY
 have HJ := Hq hJ
 have HJ0 := Hq h0
 clear hY hJ hJx h0 hW hD hE ht l1 l2 l3 hd1 hd2 hd3 he1 he2 he3 he4 hb0 hs ha
 refine callsIn_of_wp Tryz.func220 rfl trivial ?_ rfl
 simp only [Tryz.ntmps220, List.size_toArray, List.length_cons, List.length_nil, Nat.reduceAdd, Nat.reduceSub, Array.replicate_succ, Array.replicate_zero, List.push_toArray, List.append_toArray, List.nil_append, List.cons_append]
 gi_wp2
 gi_loopw [4] (fun i wr => i = .int .i64 0 ∧ wr = W) (fun i _ => 0)
 case atStart => exact ⟨rfl, rfl⟩
 case round =>
  obtain ⟨rfl, rfl⟩ := hrel
  gi_wp2
  rename_i KR hKR
  refine wpIn_wide.2 ?_
  refine wp_onlyN ?_
  obtain ⟨wd, hwd⟩ : ∃ wd, wr.drew = wd := ⟨_, rfl⟩
  have hbd : Below wr.heap.size wr wd := by rw [← hwd]; exact (Below.refl _ _).drew
  have HTd := Hq (HT.out.next hbd)
  obtain ⟨c0, c1, c2⟩ := (HTB.out.nextT hbd).c
  have x0 : wd.cell? ⟨E, 0, none⟩ = some (.int .i64 a) := by rw [Lib.cell_of_heap ((hbd.block E (block_lt HE.out)).trans HE.out)]; rfl
  have HBD := Hq hbd
  clear hbd
  refine wp_region_K 12 (Below (wd).heap.size (wd)) (by kernel_rfl) ?_
  intro hD
  rw [hwd]
  have KK1 := Hq (fun w' (hS' : (Below (wd).heap.size (wd)) w') => And.intro (kC hS' c0) (And.intro (kC hS' c1) (And.intro (kC hS' c2) (kC hS' x0))))
  refine rP 0 8 11 rfl hD (Below.refl _ _) ?_; clear hD; intro hD; simp only [Act.put, sqA, sqB, sqC]
  refine rT 1 9 10 rfl hD (Below.refl _ _) (by intro w' hS'; obtain ⟨e0, e1, e2, e3⟩ := KK1.out w' hS'; go_simp; with_reducible rfl) ?_; clear hD; intro hD; simp only [Act.put, sqA, sqB, sqC]
  refine rT 4 12 9 rfl hD (Below.refl _ _) (by intro w' hS'; obtain ⟨e0, e1, e2, e3⟩ := KK1.out w' hS'; go_simp; with_reducible rfl) ?_; clear hD; intro hD; simp only [Act.put, sqA, sqB, sqC]
  refine rP 8 16 8 rfl hD (Below.refl _ _) ?_; clear hD; intro hD; simp only [Act.put, sqA, sqB, sqC]
  refine rO 2 7 rfl hD ?_; clear hD; intro K2 hK2
  go_wp2_with fail
  refine (HI1.out _ HTd.out).mono ?_
  rintro ev w2 ⟨rfl, hb⟩
  have HB2 := Hq hb
  clear hb
  go_wp2
  refine hK2 _ _ (by exact HB2.out) ?_; clear hK2; intro hS_2_2 hD
  refine rP 3 11 6 rfl hD hS_2_2 ?_; clear hD; intro hD; simp only [Act.put, sqA, sqB, sqC]
  refine rO 5 5 rfl hD ?_; clear hD; intro K5 hK5
  go_wp2_with fail
  refine (HI2.out _ (HTd.out.next HB2.out)).mono ?_
  rintro ev w3 ⟨rfl, hb⟩
  have HB5 := Hq hb
  clear hb
  go_wp2
  refine hK5 _ _ (by exact Below.trans hS_2_2 (Below.mono HB5.out (Below.size hS_2_2))) ?_; clear hK5; intro hS_2_5 hD
  refine rP 6 14 4 rfl hD hS_2_5 ?_; clear hD; intro hD; simp only [Act.put, sqA, sqB, sqC]
  refine rP 7 15 3 rfl hD hS_2_5 ?_; clear hD; intro hD; simp only [Act.put, sqA, sqB, sqC]
  refine rO 9 2 rfl hD ?_; clear hD; intro K9 hK9
  go_wp2_with fail
  refine (HI3.out _ ((HTd.out.next HB2.out).next HB5.out)).mono ?_
  rintro ev w4 ⟨rfl, hb⟩
  have HB9 := Hq hb
  clear hb
  go_wp2
  refine hK9 _ _ (by exact Below.trans hS_2_5 (Below.mono HB9.out (Below.size hS_2_5))) ?_; clear hK9; intro hS_2_9 hD
  refine rP 10 18 1 rfl hD hS_2_9 ?_; clear hD; intro hD; simp only [Act.put, sqA, sqB, sqC]
  refine rO 11 0 rfl hD ?_; clear hD; intro K11 hK11
  go_wp2
  refine hK11 _ _ (by exact hS_2_9) ?_; clear hK11; intro hS_2_11 hD
  have HL := Hq hS_2_11
  refine wpAnyK_done (by kernel_rfl) ?_ 0
  clear hD
  show KR _ _
  refine hKR _ _ ?_
  clear hKR c0 c1 c2 x0 a1 a2 a3 a4
  have hbw : Below wr.heap.size wr w4 := HBD.out.trans (HL.out.mono HBD.out.size)
  have HJ4 := Hq (abides_belowC HJ.out HJ0.out hbw)
  obtain ⟨c0, c1, c2⟩ := (HTB.out.nextT hbw).c
  clear hbw
  gi_wp2
  refine ⟨trivial, callsIn_wide.2 ((HM.out _).mono ?_)⟩
  rintro e w5 ⟨rfl, hb⟩
  have HJ5 := Hq (abides_belowC HJ.out HJ4.out hb)
  clear hb c0 c1 c2
  obtain ⟨fn, tmps, assign, body, hy, hR⟩ := HY.out w5 HJ5.out
  have HR := Hq hR
  clear hR
  gi_wp2
  refine HR.out.mono ?_
  rintro ev W' ⟨rfl, hJx'⟩
  have HX := Hq hJx'
  clear hJx'
  gi_wp2
  refine bodyPost_ret (results_none rfl _ _ _) rfl ?_
  exact ⟨⟨_, rfl⟩, HX.out⟩
end Go.Proofs.YtndmjfkmnjejkaaGreatDoor

/- Walk: the reference's padded and Sum. -/
import Derived.Test.YtndmjfkmnjejkaaGreatDoorQShI
import Derived.Test.YtndmjfkmnjejkaaGreatDoorQReg
import Derived.Laws.Concat
set_option linter.unusedVariables false
set_option linter.unusedSimpArgs false
namespace Go.Proofs.YtndmjfkmnjejkaaGreatDoor
open Go.RowKit Go.Lib
theorem bstr_snoc (l m : List UInt8) : bstr l ++ ⟨m.toArray⟩ = bstr (l ++ m) := by
  unfold bstr
  rw [ByteArray.mk_append_mk]
theorem shE8_beN (N : Nat) : beN 8 N = shE8 N := by
  have e : ∀ k, UInt8.ofNat (N / 256 ^ k % 256) = UInt8.ofNat (N / 2 ^ (8 * k)) := fun k => by
    rw [Nat.pow_mul]; apply UInt8.toNat_inj.1; simp [UInt8.toNat_ofNat']
  show [UInt8.ofNat (N / 256 ^ 7 % 256), UInt8.ofNat (N / 256 ^ 6 % 256), UInt8.ofNat (N / 256 ^ 5 % 256), UInt8.ofNat (N / 256 ^ 4 % 256), UInt8.ofNat (N / 256 ^ 3 % 256), UInt8.ofNat (N / 256 ^ 2 % 256), UInt8.ofNat (N / 256 ^ 1 % 256), UInt8.ofNat (N / 256 ^ 0 % 256)] = _
  rw [e 7, e 6, e 5, e 4, e 3, e 2, e 1, e 0]
  simp [shE8]
set_option maxRecDepth 100000 in
set_option maxHeartbeats 2000000 in
theorem r05_padded (s : ByteArray) (hs : s.size ≤ 1000000000000) (w : World) : Calls Tryz.prog 231 #[.string s] w (Ret (.string (bstr (padL s.data.toList))) w) := by
  obtain ⟨n, hn⟩ : ∃ n, s.size = n := ⟨_, rfl⟩
  obtain ⟨l, hl⟩ : ∃ l, s.data.toList = l := ⟨_, rfl⟩
  have HL := Lib.hid (show l.length = n from by rw [← hl, ← hn]; exact Array.length_toList)
  have hsl : s = bstr l := by rw [← hl]; exact (bstr_of s).symm
  rw [hl]
  obtain ⟨r, hr⟩ : ∃ r, bstr (padL l) = r := ⟨_, rfl⟩
  have HR := Lib.hid hr
  rw [hr]
  clear hr
  rw [hn] at hs
  have hni : (n : Int) ≤ 1000000000000 := by omega
  obtain ⟨t1, ht1⟩ : ∃ t, bstr (l ++ [128]) = t := ⟨_, rfl⟩
  have hadd : ∀ w, (Op.stringOp .add s ⟨#[128]⟩).run Tryz.prog w = .ok (.string t1) w := fun w => by
    rw [run_string_add_sum w _ _ (by rw [hn]; show n + 1 ≤ _; omega), hsl, ← ht1]
    exact congrArg (fun x => Result.ok (Value.string x) w) (bstr_snoc l [128])
  have HT1 := Lib.hid ht1
  clear hl hsl ht1
  go_enter Tryz.func231, Tryz.ntmps231
  go_wp2
  clear hadd
  go_loopw [0] (fun v wr => ∃ (k : Nat) (t : ByteArray), k ≤ zs n ∧ v = .string t ∧ t = bstr (l ++ [128] ++ List.replicate k 0) ∧ w = wr) (fun v _ => n + 100 - (match v with | .string s => s.size | _ => 0))
  case atStart => exact ⟨0, t1, Nat.zero_le _, rfl, by rw [← HT1.out]; simp, rfl⟩
  case round =>
    obtain ⟨k, t, hk, rfl, ht, rfl⟩ := hrel
    obtain ⟨j, hj⟩ : ∃ j, n + 1 + k = j := ⟨_, rfl⟩
    have htj : t.size = j := by rw [ht, bstr_size]; simp [HL.out]; omega
    have HT := Lib.hid ht
    have HJ := Lib.hid hj
    by_cases hlt : k < zs n
    · have hne : ¬ ((j : Int) % 64 = 56) := by have : zs n = (119 - n % 64) % 64 := rfl; omega
      obtain ⟨t2, ht2⟩ : ∃ x, bstr (l ++ [128] ++ List.replicate (k + 1) 0) = x := ⟨_, rfl⟩
      have hadd : ∀ w, (Op.stringOp .add t ⟨#[0]⟩).run Tryz.prog w = .ok (.string t2) w := fun w => by
        have hz : zs n ≤ 63 := by unfold zs; omega
        rw [run_string_add_sum w _ _ (by rw [htj]; show j + 1 ≤ _; omega), ht, ← ht2]
        refine congrArg (fun x => Result.ok (Value.string x) w) ?_
        rw [List.replicate_succ', ← List.append_assoc]
        exact bstr_snoc _ [0]
      have HT2 := Lib.hid ht2
      have hj63 : (j : Int) ≤ 1000000000100 := by have hz : zs n ≤ 63 := by unfold zs; omega
                                                  omega
      clear ht ht2 hj hk
      go_wp2
      refine ⟨⟨k + 1, t2, by omega, rfl, HT2.out.symm, trivial⟩, ?_⟩
      have h1 := HT2.out
      have h2 : t2.size = n + 1 + (k + 1) := by rw [← h1, bstr_size]; simp [HL.out]; omega
      have h3 := HJ.out
      have hz : zs n ≤ 63 := by unfold zs; omega
      show n + 100 - t2.size < n + 100 - t.size
      omega
    · have he : (j : Int) % 64 = 56 := by have : zs n = (119 - n % 64) % 64 := rfl; omega
      have HKZ := Lib.hid (show k = zs n from by omega)
      have hmk : (Instr.makeSlice 125 (.int .i64 8) (.int .i64 8)).run Tryz.prog w = .ok (.slice (some ⟨w.heap.size, 0, none⟩) 8 8) (w.alloc (.cells (zb 8) 5)) := make_bytes 8 (by decide) w
      have HO := Lib.hid (OutB.start (w := w) 8 (n * 8))
      have HB := Lib.hid (show Below w.heap.size w (w.alloc (.cells (zb 8) 5)) from (Below.refl _ _).alloc (Nat.le_refl _) _)
      obtain ⟨w1, hw1⟩ : ∃ w1, w.alloc (.cells (zb 8) 5) = w1 := ⟨_, rfl⟩
      rw [hw1] at hmk HO HB
      clear hw1 hk hlt ht hj
      obtain ⟨H, hH⟩ : ∃ H, w.heap.size = H := ⟨_, rfl⟩
      rw [hH] at hmk HO HB
      go_wp2
      clear he hmk
      go_loopw [5, 6] (fun b i wr => ∃ q : Nat, q ≤ 8 ∧ b = .int .u64 ((n * 8 / 256 ^ q : Nat) : Int) ∧ i = .int .i64 (7 - (q : Int)) ∧ OutB wr H 8 q (n * 8) ∧ Below H w wr) (fun _ i _ => (8 + RowKit.intOf i).toNat)
      case atStart => exact ⟨0, by omega, by simp, rfl, HO.out, HB.out⟩
      case round =>
        obtain ⟨q, hq, rfl, rfl, ho, hb⟩ := hrel
        have HO := Lib.hid ho
        have HB := Lib.hid hb
        clear ho hb
        by_cases hlt : q < 8
        · obtain ⟨p, hp⟩ : ∃ p, p + 1 + q = 8 := ⟨7 - q, by omega⟩
          have hpi : (7 : Int) - (q : Int) = (p : Int) := by omega
          obtain ⟨N, hN⟩ : ∃ N, n * 8 / 256 ^ q = N := ⟨_, rfl⟩
          have HN := Lib.hid hN
          rw [hN]
          have hd : ((N : Int) % 256) = ((dig (n * 8) q : Nat) : Int) := by rw [← hN]; unfold dig; simp
          clear hN
          obtain ⟨u, c0⟩ := HO.out.cell (show p < 8 by omega)
          have hf := HO.out.free p
          have hp8 : (p : Int) < 8 := by omega
          have hp0 : (0 : Int) ≤ (p : Int) := by omega
          have HP := Lib.hid hp
          clear hp hq hlt
          go_wp2
          have h1 := HO.out.step (k := p) (by have := HP.out; omega)
          refine ⟨⟨q + 1, by have := HP.out; omega, ?_, ?_, h1, HB.out.setCell (p := ⟨H, p, none⟩) (Nat.le_refl _) _⟩, ?_⟩
          · rw [show n * 8 / 256 ^ (q + 1) = N / 256 from by rw [← HN.out, Nat.pow_succ, Nat.div_div_eq_div_mul]]
            have hNn : N ≤ n * 8 := by rw [← HN.out]; exact Nat.div_le_self _ _
            simp
            rw [IntKind.wrap_u64]
            omega
          · have := HP.out; congr 1; omega
          · have := HP.out; simp [RowKit.intOf]; omega
        · have HQ8 := Lib.hid (show q = 8 from by omega)
          have hge : ¬ ((0 : Int) ≤ 7 - (q : Int)) := by omega
          have hby := (show OutB wr H 8 8 (n * 8) from by have := HO.out; rw [HQ8.out] at this; exact this).bytes (by omega)
          rw [shE8_beN] at hby
          have hconv := hby.conv 125 9 5 Tryz.underlying125 Tryz.underlying5 Tryz.underlying9
          have HE := Lib.hid (show (bstr (shE8 (n * 8))).size = 8 from by rw [bstr_size]; rfl)
          obtain ⟨y, hy⟩ : ∃ y, bstr (shE8 (n * 8)) = y := ⟨_, rfl⟩
          rw [hy] at hconv HE
          have hadd : ∀ w, (Op.stringOp .add t y).run Tryz.prog w = .ok (.string r) w := fun w => by
            have hz : zs n ≤ 63 := by unfold zs; omega
            have hts : t.size ≤ 1000000000100 := by rw [HT.out, bstr_size]; simp [HL.out]; have := HKZ.out; omega
            rw [run_string_add_sum w _ _ (by rw [HE.out]; omega), HT.out, ← hy, ← HR.out]
            refine congrArg (fun x => Result.ok (Value.string x) w) ?_
            rw [HKZ.out]
            unfold padL
            rw [HL.out]
            exact bstr_snoc _ _
          clear hby hy hlt hq
          go_wp2
          go_ret
          exact ⟨rfl, by rw [hH]; exact HB.out⟩
end Go.Proofs.YtndmjfkmnjejkaaGreatDoor
/- Walk: the reference's Sum. -/
set_option linter.unusedVariables false
set_option linter.unusedSimpArgs false
namespace Go.Proofs.YtndmjfkmnjejkaaGreatDoor
open Go.RowKit Go.Lib
theorem bstr_extract (l : List UInt8) (a b : Nat) : (bstr l).extract a b = bstr ((l.drop a).take (b - a)) := ByteArray.extract_mk l a b
theorem bstr_list (l : List UInt8) : (bstr l).data.toList = l := by simp [bstr]
set_option maxRecDepth 100000 in
set_option maxHeartbeats 2000000 in
theorem r05_Sum (s : ByteArray) (hs : s.size ≤ 1000000000000) (w : World) : Calls Tryz.prog 213 #[.string s] w (Ret (.string (bstr (shaL s.data.toList))) w) := by
  have HPD := Lib.hid (r05_padded s hs)
  obtain ⟨n, hn⟩ : ∃ n, s.size = n := ⟨_, rfl⟩
  obtain ⟨l, hl⟩ : ∃ l, s.data.toList = l := ⟨_, rfl⟩
  have hll : l.length = n := by rw [← hl, ← hn]; exact Array.length_toList
  rw [hl] at HPD ⊢
  obtain ⟨r, hr⟩ : ∃ r, bstr (shaL l) = r := ⟨_, rfl⟩
  have HR := Lib.hid hr
  rw [hr]
  obtain ⟨P, hP⟩ : ∃ P, padL l = P := ⟨_, rfl⟩
  rw [hP] at HPD
  obtain ⟨Ln, hLn⟩ : ∃ k, P.length = k := ⟨_, rfl⟩
  have HLn := Lib.hid hLn
  have HPP := Lib.hid hP
  have HMOD := Lib.hid (show Ln % 64 = 0 from by rw [← hLn, ← hP]; exact padL_mod l)
  have HBIG := Lib.hid (show Ln ≤ 1000000000100 from by
    rw [← hLn, ← hP, padL_length, hll]; have : zs n ≤ 63 := by unfold zs; omega
    omega)
  obtain ⟨m, hm⟩ : ∃ m, bstr P = m := ⟨_, rfl⟩
  have HM := Lib.hid hm
  have HMS := Lib.hid (show m.size = Ln from by rw [← hm, bstr_size, hLn])
  rw [hm] at HPD
  clear hr hP hLn hm hl hll hn hs
  have e0 : st0.arr = #[Value.int .u32 1779033703, Value.int .u32 3144134277, Value.int .u32 1013904242, Value.int .u32 2773480762, Value.int .u32 1359893119, Value.int .u32 2600822924, Value.int .u32 528734635, Value.int .u32 1541459225] := by kernel_rfl
  have HS0 := Lib.hid (show RowV8 (w.alloc (.cells st0.arr 216)) w.heap.size 8 st0.at from RowV8.new w st0)
  have HB0 := Lib.hid (show Below w.heap.size w (w.alloc (.cells st0.arr 216)) from (Below.refl _ _).alloc (Nat.le_refl _) _)
  rw [e0] at HS0 HB0
  clear e0
  go_enter Tryz.func213, Tryz.ntmps213
  go_wp2_with fail
  refine (HPD.out _).mono ?_
  rintro e w1 ⟨rfl, hb1⟩
  have HS1 := Lib.hid (HS0.out.kept hb1 HS0.out.lt)
  have HB1 := Lib.hid (below_up HB0.out HB0.out.size hb1)
  obtain ⟨H, hH⟩ : ∃ H, w.heap.size = H := ⟨_, rfl⟩
  rw [hH] at HS1 HB1 ⊢
  clear hb1 HS0 HB0 HPD
  go_wp2
  go_loopw [3, 5] (fun v i wr => ∃ k g c : Nat, 64 * k ≤ Ln ∧ v = .slice (some ⟨g, 0, none⟩) 8 c ∧ i = .int .i64 ((64 * k : Nat) : Int) ∧ RowV8 wr g c (blks st0 k P).at ∧ Below H w wr) (fun _ i _ => Ln - (RowKit.intOf i).toNat)
  case atStart => exact ⟨0, H, 8, Nat.zero_le _, rfl, rfl, HS1.out, HB1.out⟩
  case round =>
    obtain ⟨k, g, c, hk, rfl, rfl, hx, hb⟩ := hrel
    have HX := Lib.hid hx
    have HB := Lib.hid hb
    clear hx hb
    obtain ⟨j, hj⟩ : ∃ j, 64 * k = j := ⟨_, rfl⟩
    have HJ := Lib.hid hj
    rw [hj]
    have hms := HMS.out
    have hbig := HBIG.out
    by_cases hlt : j < Ln
    · have h64 : j + 64 ≤ Ln := by have := HMOD.out; omega
      have hji : (j : Int) < (m.size : Int) := by omega
      have h64i : (j : Int) + 64 ≤ (m.size : Int) := by omega
      have hbi : (j : Int) ≤ 1000000000100 := by omega
      clear hj hk hlt h64 hms hbig
      go_wp2_with fail
      have hlist : (m.extract j (j + 64)).data.toList = (P.drop (64 * k)).take 64 := by
        rw [← HM.out, bstr_extract, bstr_list, ← HJ.out, Nat.add_sub_cancel_left]
      have hsz : (m.extract j (j + 64)).size = 64 := by
        rw [ByteArray.size_extract]; omega
      have HC := r05_compress (blks st0 k P) (m.extract j (j + 64)) hsz g c wr HX.out
      rw [hlist, ← blks_succ] at HC
      have HKJ := Lib.hid (show 64 * (k + 1) = j + 64 ∧ j + 64 ≤ Ln ∧ j < Ln from by have := HJ.out; have := HMS.out; omega)
      refine HC.mono ?_
      rintro e w2 ⟨g2, c2, rfl, hx2, hg2, hb2⟩
      have HX2 := Lib.hid hx2
      have HB2 := Lib.hid (below_up HB.out (by rw [← hH]; exact HB.out.size) hb2)
      clear hx2 hg2 hb2 HC hlist hsz
      go_wp2
      refine ⟨⟨k + 1, g2, c2, ?_, rfl, ?_, HX2.out, HB2.out⟩, ?_⟩
      · rw [HKJ.out.1]; exact HKJ.out.2.1
      · rw [HKJ.out.1]; simp
      · have := HKJ.out; simp [RowKit.intOf]; omega
    · have hge : ¬ ((j : Int) < (m.size : Int)) := by omega
      obtain ⟨F, hF⟩ : ∃ F, blks st0 k P = F := ⟨_, rfl⟩
      have HF := Lib.hid (show r = bstr (F.ws.flatMap wo) from by
        rw [← HR.out, ← hF]; unfold shaL; rw [HPP.out, HLn.out, show Ln / 64 = k from by have := HJ.out; omega])
      rw [hF] at HX
      clear hF hlt hj hk hms hbig
      obtain ⟨w5, hw5⟩ : ∃ x, x = wr := ⟨_, rfl⟩
      subst hw5
      obtain ⟨G, hG⟩ : ∃ G, w5.heap.size = G := ⟨_, rfl⟩
      have HHG := Lib.hid (show H ≤ G from by rw [← hG, ← hH]; exact HB.out.size)
      have HGG := Lib.hid (show g < G from by rw [← hG]; exact HX.out.lt)
      go_wp2
      clear hge
      go_loopw [6, 7] (fun v x wx => ∃ i : Nat, i ≤ 8 ∧ x = .int .i64 i ∧ wx.ownsRow G 5 1 v (4 * i) (byteCells ((F.ws.take i).flatMap wo)) ∧ Below G w5 wx) (fun _ x _ => 8 - (RowKit.intOf x).toNat)
      case atStart => exact ⟨0, by omega, rfl, World.ownsRow_nil _ _ _ _, Below.refl _ _⟩
      case round =>
        obtain ⟨i2, hi2, rfl, hown, hb⟩ := hrel
        have HO := Lib.hid hown
        have HB2 := Lib.hid hb
        clear hown hb
        by_cases hlt : i2 < 8
        · have hi2i : (i2 : Int) < 8 := by omega
          have HX2 := HX.out.kept HB2.out HGG.out
          have cc := HX2.cell hlt
          have HTK := Lib.hid (ws_take F i2 hlt)
          obtain ⟨x, hx⟩ : ∃ x, F.at i2 = x := ⟨_, rfl⟩
          rw [hx] at cc HTK
          clear hx HX2
          have HWC := Lib.hid (word_cells x)
          have HGX := Lib.hid (show G ≤ wr.heap.size from by rw [← hG]; exact HB2.out.size)
          go_wp2_with (at_builtin; refine wpList_append_word _ rfl (.tmp 33) (.tmp 45) rfl G (4 * i2) _ ((F.ws.take i2).flatMap wo) rfl (HO.out.alloc _) (by omega) wr.heap.size 4 x rfl (by rw [← HWC.out]; exact heap_alloc_new _ _) (by have := HGX.out; simp; omega) ?_)
          intro v3 w8 ho8 hb8
          have HO8 := Lib.hid ho8
          have HB8 := Lib.hid (show Below G w5 w8 from (HB2.out.alloc (by have := HGX.out; omega) _).trans hb8)
          clear ho8 hb8 cc
          go_wp2
          go_roundw
          case rel =>
            refine ⟨i2 + 1, by omega, by go_num, ?_, HB8.out⟩
            rw [HTK.out]
            exact HO8.out
          case measure => simp [RowKit.intOf]; omega
        · obtain rfl : i2 = 8 := by omega
          obtain ⟨A, c7, rfl, hby⟩ := own_bytes HO.out (show ((F.ws.take 8).flatMap wo).length = 4 * 8 from by simp [W8.ws, wo])
          have hconv := hby.conv 125 9 5 Tryz.underlying125 Tryz.underlying5 Tryz.underlying9
          have hw8 : F.ws.take 8 = F.ws := rfl
          rw [hw8, ← HF.out] at hconv
          clear hby hw8
          have HBF := Lib.hid (show Below H w wr from HB.out.trans (HB2.out.mono HHG.out))
          go_wp2
          go_ret
          exact ⟨rfl, by rw [hH]; exact HBF.out⟩
end Go.Proofs.YtndmjfkmnjejkaaGreatDoor
/- Walks: dominoref05.xored, dominoref05.Mac for keys of at most 64 bytes. -/
set_option linter.unusedVariables false
set_option linter.unusedSimpArgs false
namespace Go.Proofs.YtndmjfkmnjejkaaGreatDoor
open Go.RowKit Go.Lib
def RowU (w : World) (B : Nat) (f : Nat → UInt8) : Prop := w.heap[B]? = some (.cells (yc f) 5 (0, 0))
theorem RowU.cell {w : World} {B : Nat} {f : Nat → UInt8} (h : RowU w B f) {k : Nat} (hk : k < 64) : w.cell? ⟨B, k, none⟩ = some (.int .u8 ((f k).toNat : Int)) := by
  rw [Lib.cell_of_heap h, yc_get f hk]
theorem RowU.free {w : World} {B : Nat} {f : Nat → UInt8} (h : RowU w B f) (k : Nat) : w.frozen? ⟨B, k, none⟩ = false := Lib.frozen_of_heap h k
theorem RowU.set {w : World} {B : Nat} {f : Nat → UInt8} (h : RowU w B f) (k : Nat) (x : UInt8) : RowU (w.setCell ⟨B, k, none⟩ (.int .u8 (x.toNat : Int))) B (fun j => if j = k then x else f j) := by
  unfold RowU; rw [block_setCell h, yc_set]
theorem RowU.bytes {w : World} {B : Nat} {f : Nat → UInt8} (h : RowU w B f) : BytesAt w (some ⟨B, 0, none⟩) 64 64 ((List.range 64).map f) := by
  refine ⟨by simp, Nat.le_refl _, by omega, fun _ => ⟨B, 0, rfl, fun k hk => ?_⟩⟩
  rw [Nat.zero_add, h.cell hk]
  simp [byteI, hk]
def xu (l : List UInt8) (x : UInt8) (k : Nat) (j : Nat) : UInt8 := if j < k then l.getD j 0 ^^^ x else 0
theorem xu_zero (l : List UInt8) (x : UInt8) : xu l x 0 = fun _ => 0 := by funext j; simp [xu]
theorem xu_step (l : List UInt8) (x : UInt8) (k : Nat) : (fun j => if j = k then l.getD k 0 ^^^ x else xu l x k j) = xu l x (k + 1) := by
  funext j
  unfold xu
  by_cases e : j = k
  · subst e; simp
  · rw [if_neg e]
    by_cases h : j < k
    · rw [if_pos h, if_pos (by omega)]
    · rw [if_neg h, if_neg (by omega)]
theorem xu_all (l : List UInt8) (x : UInt8) : (List.range 64).map (xu l x 64) = xorL l x := by
  unfold xorL
  apply List.map_congr_left
  intro i hi
  have : i < 64 := by simpa using hi
  simp [xu, this]
theorem xu_twice (l : List UInt8) (x y : UInt8) (k : Nat) : (fun j => if j = k then l.getD k 0 ^^^ x else if j = k then y else xu l x k j) = xu l x (k + 1) := by
  rw [← xu_step]
  funext j
  by_cases e : j = k
  · rw [if_pos e, if_pos e]
  · rw [if_neg e, if_neg e, if_neg e]
set_option maxRecDepth 100000 in
set_option maxHeartbeats 2000000 in
theorem r05_xored54 (key : ByteArray) (hk : key.size ≤ 64) (w : World) : Calls Tryz.prog 224 #[.string key, .int .u8 54] w (Ret (.string (bstr (xorL key.data.toList 54))) w) := by
  have hmk : (Instr.makeSlice 125 (.int .i64 64) (.int .i64 64)).run Tryz.prog w = .ok (.slice (some ⟨w.heap.size, 0, none⟩) 64 64) (w.alloc (.cells z64b 5)) := make_room 64 64 (by omega) (by omega) w
  obtain ⟨zb, hzb⟩ : ∃ z, z64b = z := ⟨_, rfl⟩
  have HR0 := Lib.hid (show RowU (w.alloc (.cells z64b 5)) w.heap.size (xu key.data.toList 54 0) from by rw [xu_zero]; unfold RowU; rw [yc_zero]; exact heap_alloc_new _ _)
  have HB0 := Lib.hid ((Below.refl w.heap.size w).alloc (Nat.le_refl _) (.cells z64b 5))
  rw [hzb] at hmk HR0 HB0
  obtain ⟨l, hl⟩ : ∃ l, key.data.toList = l := ⟨_, rfl⟩
  have HLL := Lib.hid (show l.length = key.size from by rw [← hl]; exact Array.length_toList)
  have HGD := Lib.hid (show ∀ k (h : k < key.size), l.getD k 0 = key[k] from fun k h => by rw [← hl]; exact data_getD key k h)
  rw [hl] at HR0 ⊢
  clear hl hzb
  go_enter Tryz.func224, Tryz.ntmps224
  go_wp2
  obtain ⟨w1, hw1⟩ : ∃ W, w.alloc (.cells zb 5) = W := ⟨_, rfl⟩
  obtain ⟨P, hP⟩ : ∃ P, w.heap.size = P := ⟨_, rfl⟩
  have HP := Lib.hid hP
  rw [hw1, hP] at HR0 HB0
  try rw [hw1]
  rw [hP]
  clear hw1 hP hmk
  go_loopw [6] (fun v wr => ∃ k : Nat, k ≤ 64 ∧ v = .int .i64 k ∧ RowU wr P (xu l 54 k) ∧ Below P w wr) (fun v _ => 64 - (RowKit.intOf v).toNat)
  case atStart => exact ⟨0, by omega, rfl, HR0.out, HB0.out⟩
  case round =>
    obtain ⟨k, hk, rfl, hy, hb⟩ := hrel
    have HY := Lib.hid hy
    have HB := Lib.hid hb
    clear hy hb HR0 HB0
    by_cases hlt : k < 64
    · have hki : (k : Int) < 64 := by omega
      have HK := Lib.hid hlt
      have d0 := HY.out.cell hlt
      have f0 := HY.out.free k
      obtain ⟨x0, hx0⟩ : ∃ x, ((xu l 54 k k).toNat : Int) = x := ⟨_, rfl⟩
      rw [hx0] at d0
      clear hx0 hlt hk
      by_cases hks : k < key.size
      · have hksi : (k : Int) < (key.size : Int) := by omega
        have HG := Lib.hid (HGD.out k hks)
        go_wp2
        have h1 := (HY.out.set k 54).set k (key[k] ^^^ 54)
        rw [show ((54 : UInt8).toNat : Int) = 54 from rfl] at h1
        rw [xor_54 key[k]]
        refine ⟨⟨k + 1, by have := HK.out; omega, by go_num, ?_, (HB.out.setCell (p := ⟨P, k, none⟩) (Nat.le_refl P) _).setCell (p := ⟨P, k, none⟩) (Nat.le_refl P) _⟩, ?_⟩
        · rw [← xu_twice l 54 54 k, HG.out]; exact h1
        · have := HK.out; simp [RowKit.intOf]; omega
      · have hksi : ¬ ((k : Int) < (key.size : Int)) := by omega
        have HG := Lib.hid (show l.getD k 0 = 0 from by rw [List.getD_eq_getElem?_getD, List.getElem?_eq_none (by have := HLL.out; omega)]; rfl)
        go_wp2
        have h1 := HY.out.set k 54
        rw [show ((54 : UInt8).toNat : Int) = 54 from rfl] at h1
        refine ⟨⟨k + 1, by have := HK.out; omega, by go_num, ?_, HB.out.setCell (p := ⟨P, k, none⟩) (Nat.le_refl P) _⟩, ?_⟩
        · rw [← xu_step l 54 k, HG.out]; exact h1
        · have := HK.out; simp [RowKit.intOf]; omega
    · obtain rfl : k = 64 := by omega
      have hki : ¬ (((64 : Nat) : Int) < 64) := by omega
      have hbt : BytesAt wr (some ⟨P, 0, none⟩) 64 64 (xorL l 54) := by rw [← xu_all]; exact HY.out.bytes
      have hconv := hbt.conv 125 9 5 Tryz.underlying125 Tryz.underlying5 Tryz.underlying9
      clear hk hlt hbt
      go_wp2
      go_ret
      exact ⟨rfl, by rw [HP.out]; exact HB.out⟩
set_option maxRecDepth 100000 in
set_option maxHeartbeats 2000000 in
theorem r05_xored92 (key : ByteArray) (hk : key.size ≤ 64) (w : World) : Calls Tryz.prog 224 #[.string key, .int .u8 92] w (Ret (.string (bstr (xorL key.data.toList 92))) w) := by
  have hmk : (Instr.makeSlice 125 (.int .i64 64) (.int .i64 64)).run Tryz.prog w = .ok (.slice (some ⟨w.heap.size, 0, none⟩) 64 64) (w.alloc (.cells z64b 5)) := make_room 64 64 (by omega) (by omega) w
  obtain ⟨zb, hzb⟩ : ∃ z, z64b = z := ⟨_, rfl⟩
  have HR0 := Lib.hid (show RowU (w.alloc (.cells z64b 5)) w.heap.size (xu key.data.toList 92 0) from by rw [xu_zero]; unfold RowU; rw [yc_zero]; exact heap_alloc_new _ _)
  have HB0 := Lib.hid ((Below.refl w.heap.size w).alloc (Nat.le_refl _) (.cells z64b 5))
  rw [hzb] at hmk HR0 HB0
  obtain ⟨l, hl⟩ : ∃ l, key.data.toList = l := ⟨_, rfl⟩
  have HLL := Lib.hid (show l.length = key.size from by rw [← hl]; exact Array.length_toList)
  have HGD := Lib.hid (show ∀ k (h : k < key.size), l.getD k 0 = key[k] from fun k h => by rw [← hl]; exact data_getD key k h)
  rw [hl] at HR0 ⊢
  clear hl hzb
  go_enter Tryz.func224, Tryz.ntmps224
  go_wp2
  obtain ⟨w1, hw1⟩ : ∃ W, w.alloc (.cells zb 5) = W := ⟨_, rfl⟩
  obtain ⟨P, hP⟩ : ∃ P, w.heap.size = P := ⟨_, rfl⟩
  have HP := Lib.hid hP
  rw [hw1, hP] at HR0 HB0
  try rw [hw1]
  rw [hP]
  clear hw1 hP hmk
  go_loopw [6] (fun v wr => ∃ k : Nat, k ≤ 64 ∧ v = .int .i64 k ∧ RowU wr P (xu l 92 k) ∧ Below P w wr) (fun v _ => 64 - (RowKit.intOf v).toNat)
  case atStart => exact ⟨0, by omega, rfl, HR0.out, HB0.out⟩
  case round =>
    obtain ⟨k, hk, rfl, hy, hb⟩ := hrel
    have HY := Lib.hid hy
    have HB := Lib.hid hb
    clear hy hb HR0 HB0
    by_cases hlt : k < 64
    · have hki : (k : Int) < 64 := by omega
      have HK := Lib.hid hlt
      have d0 := HY.out.cell hlt
      have f0 := HY.out.free k
      obtain ⟨x0, hx0⟩ : ∃ x, ((xu l 92 k k).toNat : Int) = x := ⟨_, rfl⟩
      rw [hx0] at d0
      clear hx0 hlt hk
      by_cases hks : k < key.size
      · have hksi : (k : Int) < (key.size : Int) := by omega
        have HG := Lib.hid (HGD.out k hks)
        go_wp2
        have h1 := (HY.out.set k 92).set k (key[k] ^^^ 92)
        rw [show ((92 : UInt8).toNat : Int) = 92 from rfl] at h1
        rw [xor_92 key[k]]
        refine ⟨⟨k + 1, by have := HK.out; omega, by go_num, ?_, (HB.out.setCell (p := ⟨P, k, none⟩) (Nat.le_refl P) _).setCell (p := ⟨P, k, none⟩) (Nat.le_refl P) _⟩, ?_⟩
        · rw [← xu_twice l 92 92 k, HG.out]; exact h1
        · have := HK.out; simp [RowKit.intOf]; omega
      · have hksi : ¬ ((k : Int) < (key.size : Int)) := by omega
        have HG := Lib.hid (show l.getD k 0 = 0 from by rw [List.getD_eq_getElem?_getD, List.getElem?_eq_none (by have := HLL.out; omega)]; rfl)
        go_wp2
        have h1 := HY.out.set k 92
        rw [show ((92 : UInt8).toNat : Int) = 92 from rfl] at h1
        refine ⟨⟨k + 1, by have := HK.out; omega, by go_num, ?_, HB.out.setCell (p := ⟨P, k, none⟩) (Nat.le_refl P) _⟩, ?_⟩
        · rw [← xu_step l 92 k, HG.out]; exact h1
        · have := HK.out; simp [RowKit.intOf]; omega
    · obtain rfl : k = 64 := by omega
      have hki : ¬ (((64 : Nat) : Int) < 64) := by omega
      have hbt : BytesAt wr (some ⟨P, 0, none⟩) 64 64 (xorL l 92) := by rw [← xu_all]; exact HY.out.bytes
      have hconv := hbt.conv 125 9 5 Tryz.underlying125 Tryz.underlying5 Tryz.underlying9
      clear hk hlt hbt
      go_wp2
      go_ret
      exact ⟨rfl, by rw [HP.out]; exact HB.out⟩
set_option maxRecDepth 100000 in
set_option maxHeartbeats 2000000 in
theorem r05_Mac (key s : ByteArray) (hk : key.size ≤ 64) (hs : s.size ≤ 100000000) (w : World) : Calls Tryz.prog 194 #[.string key, .string s] w (Ret (.string (bstr (macL key.data.toList s.data.toList))) w) := by
  have HX9 := Lib.hid (r05_xored92 key hk)
  have HX5 := Lib.hid (r05_xored54 key hk)
  obtain ⟨l, hl⟩ : ∃ l, key.data.toList = l := ⟨_, rfl⟩
  have hll : l.length = key.size := by rw [← hl]; exact Array.length_toList
  have HR := Lib.hid (show macL l s.data.toList = shaL (xorL l 92 ++ shaL (xorL l 54 ++ s.data.toList)) from by unfold macL; rw [if_neg (by omega)])
  rw [hl] at HX9 HX5 ⊢
  rw [HR.out]
  have HS1 := Lib.hid (r05_Sum (bstr (xorL l 54) ++ s) (by rw [ByteArray.size_append, bstr_size]; simp [xorL]; omega))
  have HS2 := Lib.hid (r05_Sum (bstr (xorL l 92) ++ bstr (shaL (xorL l 54 ++ s.data.toList))) (by rw [ByteArray.size_append, bstr_size, bstr_size, shaL_length]; simp [xorL]))
  have hlei : decide ((64 : Int) < (key.size : Int)) = false := decide_eq_false (by omega)
  rw [app_data, bstr_data] at HS1
  rw [app_data, bstr_data, bstr_data] at HS2
  obtain ⟨a1, ha1⟩ : ∃ z, bstr (xorL l 54) = z := ⟨_, rfl⟩
  obtain ⟨a2, ha2⟩ : ∃ z, bstr (xorL l 92) = z := ⟨_, rfl⟩
  obtain ⟨m1, hm1⟩ : ∃ z, bstr (shaL (xorL l 54 ++ s.data.toList)) = z := ⟨_, rfl⟩
  obtain ⟨m2, hm2⟩ : ∃ z, bstr (shaL (xorL l 92 ++ shaL (xorL l 54 ++ s.data.toList))) = z := ⟨_, rfl⟩
  rw [hm2]
  rw [ha1, hm1] at HS1
  rw [ha2, hm1, hm2] at HS2
  rw [ha1] at HX5
  rw [ha2] at HX9
  have hz1 : ¬ (9223372036854775807 < a1.size + s.size) := by rw [← ha1, bstr_size]; simp [xorL]; omega
  have hz2 : ¬ (9223372036854775807 < a2.size + m1.size) := by rw [← ha2, ← hm1, bstr_size, bstr_size, shaL_length]; simp [xorL]
  clear hl hll hk hs HR ha1 ha2 hm1 hm2
  go_enter Tryz.func194, Tryz.ntmps194
  go_wp2_with fail
  refine (HX9.out _).mono ?_
  rintro ev w1 ⟨rfl, hb⟩
  have HB1 := Lib.hid hb
  clear hb
  go_wp2_with fail
  refine (HX5.out _).mono ?_
  rintro ev w2 ⟨rfl, hb⟩
  have HB2 := Lib.hid (HB1.out.trans (hb.mono HB1.out.size))
  clear hb
  go_wp2_with fail
  refine (HS1.out _).mono ?_
  rintro ev w3 ⟨rfl, hb⟩
  have HB3 := Lib.hid (HB2.out.trans (hb.mono HB2.out.size))
  clear hb
  go_wp2_with fail
  refine (HS2.out _).mono ?_
  rintro ev w4 ⟨rfl, hb⟩
  have HB4 := Lib.hid (HB3.out.trans (hb.mono HB3.out.size))
  clear hb
  go_wp2
  go_ret
  exact ⟨rfl, HB4.out⟩
end Go.Proofs.YtndmjfkmnjejkaaGreatDoor

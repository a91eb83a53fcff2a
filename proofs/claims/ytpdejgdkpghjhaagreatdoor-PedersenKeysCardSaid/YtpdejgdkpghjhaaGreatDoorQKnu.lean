/- Walk: the reference's Sum. -/
import Derived.Test.YtpdejgdkpghjhaaGreatDoorQShJ
import Derived.Test.YtpdejgdkpghjhaaGreatDoorQNum2
set_option linter.unusedVariables false
set_option linter.unusedSimpArgs false
namespace Go.Proofs.YtpdejgdkpghjhaaGreatDoor
open Go.RowKit Go.Lib

theorem bstr_extract (l : List UInt8) (a b : Nat) : (bstr l).extract a b = bstr ((l.drop a).take (b - a)) := ByteArray.extract_mk l a b
theorem bstr_list (l : List UInt8) : (bstr l).data.toList = l := by simp [bstr]
set_option maxRecDepth 100000 in
set_option maxHeartbeats 2000000 in
theorem r05_Sum (s : ByteArray) (hs : s.size ≤ 1000000000000) (w : World) : Calls Tryz.prog 142 #[.string s] w (Ret (.string (bstr (shaL s.data.toList))) w) := by
  have HPD := Lib.hid (r05_padded s hs)
  obtain ⟨n, hn⟩ : ∃ n, s.size = n := ⟨_, rfl⟩
  obtain ⟨l, hl⟩ : ∃ l, s.data.toList = l := ⟨_, rfl⟩
  have hll : l.length = n := by rw [← hl, ← hn]; exact Array.length_toList
  rw [hl] at HPD ⊢
  obtain ⟨r, hr⟩ : ∃ r, bstr (shaL l) = r := ⟨_, rfl⟩
  have HR := Lib.hid hr
  rw [hr]
  obtain ⟨P, hP⟩ : ∃ P, padL l = P := ⟨_, rfl⟩
  rw [hP] at HPD
  obtain ⟨Ln, hLn⟩ : ∃ k, P.length = k := ⟨_, rfl⟩
  have HLn := Lib.hid hLn
  have HPP := Lib.hid hP
  have HMOD := Lib.hid (show Ln % 64 = 0 from by rw [← hLn, ← hP]; exact padL_mod l)
  have HBIG := Lib.hid (show Ln ≤ 1000000000100 from by
    rw [← hLn, ← hP, padL_length, hll]; have : zs n ≤ 63 := by unfold zs; omega
    omega)
  obtain ⟨m, hm⟩ : ∃ m, bstr P = m := ⟨_, rfl⟩
  have HM := Lib.hid hm
  have HMS := Lib.hid (show m.size = Ln from by rw [← hm, bstr_size, hLn])
  rw [hm] at HPD
  clear hr hP hLn hm hl hll hn hs
  have e0 : st0.arr = #[Value.int .u32 1779033703, Value.int .u32 3144134277, Value.int .u32 1013904242, Value.int .u32 2773480762, Value.int .u32 1359893119, Value.int .u32 2600822924, Value.int .u32 528734635, Value.int .u32 1541459225] := by kernel_rfl
  have HS0 := Lib.hid (show RowV8 (w.alloc (.cells st0.arr 195)) w.heap.size 8 st0.at from RowV8.new w st0)
  have HB0 := Lib.hid (show Below w.heap.size w (w.alloc (.cells st0.arr 195)) from (Below.refl _ _).alloc (Nat.le_refl _) _)
  rw [e0] at HS0 HB0
  clear e0
  go_enter Tryz.func142, Tryz.ntmps142
  go_wp2_with fail
  refine (HPD.out _).mono ?_
  rintro e w1 ⟨rfl, hb1⟩
  have HS1 := Lib.hid (HS0.out.kept hb1 HS0.out.lt)
  have HB1 := Lib.hid (below_up HB0.out HB0.out.size hb1)
  obtain ⟨H, hH⟩ : ∃ H, w.heap.size = H := ⟨_, rfl⟩
  rw [hH] at HS1 HB1 ⊢
  clear hb1 HS0 HB0 HPD
  go_wp2
  go_loopw [3, 5] (fun v i wr => ∃ k g c : Nat, 64 * k ≤ Ln ∧ v = .slice (some ⟨g, 0, none⟩) 8 c ∧ i = .int .i64 ((64 * k : Nat) : Int) ∧ RowV8 wr g c (blks st0 k P).at ∧ Below H w wr) (fun _ i _ => Ln - (RowKit.intOf i).toNat)
  case atStart => exact ⟨0, H, 8, Nat.zero_le _, rfl, rfl, HS1.out, HB1.out⟩
  case round =>
    obtain ⟨k, g, c, hk, rfl, rfl, hx, hb⟩ := hrel
    have HX := Lib.hid hx
    have HB := Lib.hid hb
    clear hx hb
    obtain ⟨j, hj⟩ : ∃ j, 64 * k = j := ⟨_, rfl⟩
    have HJ := Lib.hid hj
    rw [hj]
    have hms := HMS.out
    have hbig := HBIG.out
    by_cases hlt : j < Ln
    · have h64 : j + 64 ≤ Ln := by have := HMOD.out; omega
      have hji : (j : Int) < (m.size : Int) := by omega
      have h64i : (j : Int) + 64 ≤ (m.size : Int) := by omega
      have hbi : (j : Int) ≤ 1000000000100 := by omega
      clear hj hk hlt h64 hms hbig
      go_wp2_with fail
      have hlist : (m.extract j (j + 64)).data.toList = (P.drop (64 * k)).take 64 := by
        rw [← HM.out, bstr_extract, bstr_list, ← HJ.out, Nat.add_sub_cancel_left]
      have hsz : (m.extract j (j + 64)).size = 64 := by
        rw [ByteArray.size_extract]; omega
      have HC := r05_compress (blks st0 k P) (m.extract j (j + 64)) hsz g c wr HX.out
      rw [hlist, ← blks_succ] at HC
      have HKJ := Lib.hid (show 64 * (k + 1) = j + 64 ∧ j + 64 ≤ Ln ∧ j < Ln from by have := HJ.out; have := HMS.out; omega)
      refine HC.mono ?_
      rintro e w2 ⟨g2, c2, rfl, hx2, hg2, hb2⟩
      have HX2 := Lib.hid hx2
      have HB2 := Lib.hid (below_up HB.out (by rw [← hH]; exact HB.out.size) hb2)
      clear hx2 hg2 hb2 HC hlist hsz
      go_wp2
      refine ⟨⟨k + 1, g2, c2, ?_, rfl, ?_, HX2.out, HB2.out⟩, ?_⟩
      · rw [HKJ.out.1]; exact HKJ.out.2.1
      · rw [HKJ.out.1]; simp
      · have := HKJ.out; simp [RowKit.intOf]; omega
    · have hge : ¬ ((j : Int) < (m.size : Int)) := by omega
      obtain ⟨F, hF⟩ : ∃ F, blks st0 k P = F := ⟨_, rfl⟩
      have HF := Lib.hid (show r = bstr (F.ws.flatMap wo) from by
        rw [← HR.out, ← hF]; unfold shaL; rw [HPP.out, HLn.out, show Ln / 64 = k from by have := HJ.out; omega])
      rw [hF] at HX
      clear hF hlt hj hk hms hbig
      obtain ⟨w5, hw5⟩ : ∃ x, x = wr := ⟨_, rfl⟩
      subst hw5
      obtain ⟨G, hG⟩ : ∃ G, w5.heap.size = G := ⟨_, rfl⟩
      have HHG := Lib.hid (show H ≤ G from by rw [← hG, ← hH]; exact HB.out.size)
      have HGG := Lib.hid (show g < G from by rw [← hG]; exact HX.out.lt)
      go_wp2
      clear hge
      go_loopw [6, 7] (fun v x wx => ∃ i : Nat, i ≤ 8 ∧ x = .int .i64 i ∧ wx.ownsRow G 5 1 v (4 * i) (byteCells ((F.ws.take i).flatMap wo)) ∧ Below G w5 wx) (fun _ x _ => 8 - (RowKit.intOf x).toNat)
      case atStart => exact ⟨0, by omega, rfl, World.ownsRow_nil _ _ _ _, Below.refl _ _⟩
      case round =>
        obtain ⟨i2, hi2, rfl, hown, hb⟩ := hrel
        have HO := Lib.hid hown
        have HB2 := Lib.hid hb
        clear hown hb
        by_cases hlt : i2 < 8
        · have hi2i : (i2 : Int) < 8 := by omega
          have HX2 := HX.out.kept HB2.out HGG.out
          have cc := HX2.cell hlt
          have HTK := Lib.hid (ws_take F i2 hlt)
          obtain ⟨x, hx⟩ : ∃ x, F.at i2 = x := ⟨_, rfl⟩
          rw [hx] at cc HTK
          clear hx HX2
          have HWC := Lib.hid (word_cells x)
          have HGX := Lib.hid (show G ≤ wr.heap.size from by rw [← hG]; exact HB2.out.size)
          go_wp2_with (at_builtin; refine wpList_append_word _ rfl (.tmp 33) (.tmp 45) rfl G (4 * i2) _ ((F.ws.take i2).flatMap wo) rfl (HO.out.alloc _) (by omega) wr.heap.size 4 x rfl (by rw [← HWC.out]; exact heap_alloc_new _ _) (by have := HGX.out; simp; omega) ?_)
          intro v3 w8 ho8 hb8
          have HO8 := Lib.hid ho8
          have HB8 := Lib.hid (show Below G w5 w8 from (HB2.out.alloc (by have := HGX.out; omega) _).trans hb8)
          clear ho8 hb8 cc
          go_wp2
          go_roundw
          case rel =>
            refine ⟨i2 + 1, by omega, by go_num, ?_, HB8.out⟩
            rw [HTK.out]
            exact HO8.out
          case measure => simp [RowKit.intOf]; omega
        · obtain rfl : i2 = 8 := by omega
          obtain ⟨A, c7, rfl, hby⟩ := own_bytes HO.out (show ((F.ws.take 8).flatMap wo).length = 4 * 8 from by simp [W8.ws, wo])
          have hconv := hby.conv 148 9 5 Tryz.underlying148 Tryz.underlying5 Tryz.underlying9
          have hw8 : F.ws.take 8 = F.ws := rfl
          rw [hw8, ← HF.out] at hconv
          clear hby hw8
          have HBF := Lib.hid (show Below H w wr from HB.out.trans (HB2.out.mono HHG.out))
          go_wp2
          go_ret
          exact ⟨rfl, by rw [hH]; exact HBF.out⟩
end Go.Proofs.YtpdejgdkpghjhaaGreatDoor
/- The estimate of a quotient's digit (Knuth), to a base B. No program stands here. -/
set_option linter.unusedVariables false
namespace Go.Proofs.YtpdejgdkpghjhaaGreatDoor

/-- What holds of an estimate q with the rest r: q y1 + r = u, q is not below the true digit, and not far above it. -/
structure Est (B u u1 y1 y0 q r : Nat) : Prop where
  eq : q * y1 + r = u
  ge : (u * B + u1) / (y1 * B + y0) ≤ q
  le : q ≤ B + 1

theorem est_test {B u u1 y1 y0 q r : Nat} (h : q * y1 + r = u) : q * y0 ≤ B * r + u1 ↔ q * (y1 * B + y0) ≤ u * B + u1 := by
  subst h
  have e1 : q * (y1 * B + y0) = q * y1 * B + q * y0 := by rw [Nat.mul_add, Nat.mul_assoc]
  have e2 : (q * y1 + r) * B = q * y1 * B + B * r := by rw [Nat.add_mul, Nat.mul_comm B r]
  rw [e1, e2]
  omega
theorem est_true {B u u1 y1 y0 q : Nat} (hy : 0 < y1 * B + y0) : q * (y1 * B + y0) ≤ u * B + u1 ↔ q ≤ (u * B + u1) / (y1 * B + y0) := (Nat.le_div_iff_mul_le hy).symm
/-- The true digit is below the base. -/
theorem est_digit {B u u1 y1 y0 : Nat} (h1 : u1 < B) (hu : u < y1 * B + y0) : (u * B + u1) / (y1 * B + y0) < B := by
  rw [Nat.div_lt_iff_lt_mul (by omega)]
  have := Nat.mul_le_mul_right B (show u + 1 ≤ y1 * B + y0 from hu)
  rw [Nat.succ_mul] at this
  rw [Nat.mul_comm B]
  omega
/-- The first estimate. -/
theorem est_start {B u u1 y1 y0 : Nat} (h1 : u1 < B) (hy1 : B ≤ 2 * y1) (hy0 : y0 < B) (hu : u < y1 * B + y0) : Est B u u1 y1 y0 (u / y1) (u % y1) := by
  have hB : 0 < B := by omega
  have hp : 0 < y1 := by omega
  refine ⟨by rw [Nat.mul_comm]; exact Nat.div_add_mod u y1, ?_, ?_⟩
  · rw [Nat.le_div_iff_mul_le hp]
    have h2 := Nat.div_mul_le_self (u * B + u1) (y1 * B + y0)
    generalize (u * B + u1) / (y1 * B + y0) = d at *
    have e1 : d * (y1 * B + y0) = d * y1 * B + d * y0 := by rw [Nat.mul_add, Nat.mul_assoc]
    rw [e1] at h2
    rcases Nat.lt_or_ge u (d * y1) with h3 | h3
    · have h4 := Nat.mul_le_mul_right B (show u + 1 ≤ d * y1 from h3)
      rw [Nat.succ_mul] at h4
      omega
    · exact h3
  · have : u / y1 < B + 2 := by
      rw [Nat.div_lt_iff_lt_mul hp]
      have e1 : (B + 2) * y1 = y1 * B + 2 * y1 := by rw [Nat.add_mul, Nat.mul_comm B]
      omega
    omega
/-- One less, if the test says so. -/
theorem est_less {B u u1 y1 y0 q r : Nat} (h : Est B u u1 y1 y0 q r) (h1 : u1 < B) (hu : u < y1 * B + y0) (ht : B ≤ q ∨ B * r + u1 < q * y0) : 1 ≤ q ∧ Est B u u1 y1 y0 (q - 1) (r + y1) := by
  have hd := est_digit h1 hu
  have hlt : (u * B + u1) / (y1 * B + y0) < q := by
    rcases ht with ht | ht
    · omega
    · rcases Nat.lt_or_ge ((u * B + u1) / (y1 * B + y0)) q with h' | h'
      · exact h'
      · have := (est_test (B := B) (u1 := u1) (y0 := y0) h.eq).2 ((est_true (by omega)).2 h')
        omega
  have h2 := h.eq
  have h5 := h.le
  have hge : (u * B + u1) / (y1 * B + y0) ≤ q - 1 := by
    generalize (u * B + u1) / (y1 * B + y0) = d at *
    omega
  have hq1 : 1 ≤ q := Nat.lt_of_le_of_lt (Nat.zero_le _) hlt
  refine ⟨hq1, ⟨?_, hge, by omega⟩⟩
  obtain ⟨k, rfl⟩ : ∃ k, q = k + 1 := ⟨q - 1, by omega⟩
  rw [Nat.add_sub_cancel]
  rw [Nat.succ_mul] at h2
  omega
/-- At the end it is the true digit. -/
theorem est_done {B u u1 y1 y0 q r : Nat} (h : Est B u u1 y1 y0 q r) (hy : 0 < y1 * B + y0) (ht : q * y0 ≤ B * r + u1) : q = (u * B + u1) / (y1 * B + y0) :=
  Nat.le_antisymm ((est_true hy).1 ((est_test h.eq).1 ht)) h.ge
/-- A rest of at least B ends it, too. -/
theorem est_break {B u u1 y1 y0 q r : Nat} (h : Est B u u1 y1 y0 q r) (hy : 0 < y1 * B + y0) (hy0 : y0 < B) (hr : B ≤ r) (hq : q ≤ B) : q = (u * B + u1) / (y1 * B + y0) := by
  refine est_done h hy ?_
  have h1 : q * y0 ≤ B * y0 := Nat.mul_le_mul_right _ hq
  have h3 : B * y0 ≤ B * B := Nat.mul_le_mul_left _ (by omega)
  have h2 : B * B ≤ B * r := Nat.mul_le_mul_left _ hr
  omega

/-- The two digits of a quotient. -/
theorem two_digits (B N1 n1 n0 Y : Nat) : ((N1 * B + n1) % Y * B + n0) % Y = ((N1 * B + n1) * B + n0) % Y := by
  rw [Nat.add_mod, Nat.mod_mul_mod, ← Nat.add_mod]
theorem scaled_rem (N y s : Nat) : (N * 2 ^ s) % (y * 2 ^ s) / 2 ^ s = N % y := by
  rw [Nat.mul_mod_mul_right, Nat.mul_div_cancel _ (Nat.pow_pos (by omega))]
end Go.Proofs.YtpdejgdkpghjhaaGreatDoor

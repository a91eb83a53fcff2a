/- Walk: the reference's Sum. -/
import Derived.Test.YtpdejgdkpghjhaaGreatDoorQShJ
import Derived.Test.YtpdejgdkpghjhaaGreatDoorQOvr
import Derived.Lib.ItoaNum
set_option linter.unusedVariables false
set_option linter.unusedSimpArgs false
namespace Go.Proofs.YtpdejgdkpghjhaaGreatDoor
open Go.RowKit Go.Lib
theorem bstr_extract (l : List UInt8) (a b : Nat) : (bstr l).extract a b = bstr ((l.drop a).take (b - a)) := ByteArray.extract_mk l a b
theorem bstr_list (l : List UInt8) : (bstr l).data.toList = l := by simp [bstr]
set_option maxRecDepth 100000 in
set_option maxHeartbeats 2000000 in
theorem r05_Sum (s : ByteArray) (hs : s.size ≤ 1000000000000) (w : World) : Calls Tryz.prog 142 #[.string s] w (Ret (.string (bstr (shaL s.data.toList))) w) := by
  have HPD := Lib.hid (r05_padded s hs)
  obtain ⟨n, hn⟩ : ∃ n, s.size = n := ⟨_, rfl⟩
  obtain ⟨l, hl⟩ : ∃ l, s.data.toList = l := ⟨_, rfl⟩
  have hll : l.length = n := by rw [← hl, ← hn]; exact Array.length_toList
  rw [hl] at HPD ⊢
  obtain ⟨r, hr⟩ : ∃ r, bstr (shaL l) = r := ⟨_, rfl⟩
  have HR := Lib.hid hr
  rw [hr]
  obtain ⟨P, hP⟩ : ∃ P, padL l = P := ⟨_, rfl⟩
  rw [hP] at HPD
  obtain ⟨Ln, hLn⟩ : ∃ k, P.length = k := ⟨_, rfl⟩
  have HLn := Lib.hid hLn
  have HPP := Lib.hid hP
  have HMOD := Lib.hid (show Ln % 64 = 0 from by rw [← hLn, ← hP]; exact padL_mod l)
  have HBIG := Lib.hid (show Ln ≤ 1000000000100 from by
    rw [← hLn, ← hP, padL_length, hll]; have : zs n ≤ 63 := by unfold zs; omega
    omega)
  obtain ⟨m, hm⟩ : ∃ m, bstr P = m := ⟨_, rfl⟩
  have HM := Lib.hid hm
  have HMS := Lib.hid (show m.size = Ln from by rw [← hm, bstr_size, hLn])
  rw [hm] at HPD
  clear hr hP hLn hm hl hll hn hs
  have e0 : st0.arr = #[Value.int .u32 1779033703, Value.int .u32 3144134277, Value.int .u32 1013904242, Value.int .u32 2773480762, Value.int .u32 1359893119, Value.int .u32 2600822924, Value.int .u32 528734635, Value.int .u32 1541459225] := by kernel_rfl
  have HS0 := Lib.hid (show RowV8 (w.alloc (.cells st0.arr 195)) w.heap.size 8 st0.at from RowV8.new w st0)
  have HB0 := Lib.hid (show Below w.heap.size w (w.alloc (.cells st0.arr 195)) from (Below.refl _ _).alloc (Nat.le_refl _) _)
  rw [e0] at HS0 HB0
  clear e0
  go_enter Tryz.func142, Tryz.ntmps142
  go_wp2_with fail
  refine (HPD.out _).mono ?_
  rintro e w1 ⟨rfl, hb1⟩
  have HS1 := Lib.hid (HS0.out.kept hb1 HS0.out.lt)
  have HB1 := Lib.hid (below_up HB0.out HB0.out.size hb1)
  obtain ⟨H, hH⟩ : ∃ H, w.heap.size = H := ⟨_, rfl⟩
  rw [hH] at HS1 HB1 ⊢
  clear hb1 HS0 HB0 HPD
  go_wp2
  go_loopw [3, 5] (fun v i wr => ∃ k g c : Nat, 64 * k ≤ Ln ∧ v = .slice (some ⟨g, 0, none⟩) 8 c ∧ i = .int .i64 ((64 * k : Nat) : Int) ∧ RowV8 wr g c (blks st0 k P).at ∧ Below H w wr) (fun _ i _ => Ln - (RowKit.intOf i).toNat)
  case atStart => exact ⟨0, H, 8, Nat.zero_le _, rfl, rfl, HS1.out, HB1.out⟩
  case round =>
    obtain ⟨k, g, c, hk, rfl, rfl, hx, hb⟩ := hrel
    have HX := Lib.hid hx
    have HB := Lib.hid hb
    clear hx hb
    obtain ⟨j, hj⟩ : ∃ j, 64 * k = j := ⟨_, rfl⟩
    have HJ := Lib.hid hj
    rw [hj]
    have hms := HMS.out
    have hbig := HBIG.out
    by_cases hlt : j < Ln
    · have h64 : j + 64 ≤ Ln := by have := HMOD.out; omega
      have hji : (j : Int) < (m.size : Int) := by omega
      have h64i : (j : Int) + 64 ≤ (m.size : Int) := by omega
      have hbi : (j : Int) ≤ 1000000000100 := by omega
      clear hj hk hlt h64 hms hbig
      go_wp2_with fail
      have hlist : (m.extract j (j + 64)).data.toList = (P.drop (64 * k)).take 64 := by
        rw [← HM.out, bstr_extract, bstr_list, ← HJ.out, Nat.add_sub_cancel_left]
      have hsz : (m.extract j (j + 64)).size = 64 := by
        rw [ByteArray.size_extract]; omega
      have HC := r05_compress (blks st0 k P) (m.extract j (j + 64)) hsz g c wr HX.out
      rw [hlist, ← blks_succ] at HC
      have HKJ := Lib.hid (show 64 * (k + 1) = j + 64 ∧ j + 64 ≤ Ln ∧ j < Ln from by have := HJ.out; have := HMS.out; omega)
      refine HC.mono ?_
      rintro e w2 ⟨g2, c2, rfl, hx2, hg2, hb2⟩
      have HX2 := Lib.hid hx2
      have HB2 := Lib.hid (below_up HB.out (by rw [← hH]; exact HB.out.size) hb2)
      clear hx2 hg2 hb2 HC hlist hsz
      go_wp2
      refine ⟨⟨k + 1, g2, c2, ?_, rfl, ?_, HX2.out, HB2.out⟩, ?_⟩
      · rw [HKJ.out.1]; exact HKJ.out.2.1
      · rw [HKJ.out.1]; simp
      · have := HKJ.out; simp [RowKit.intOf]; omega
    · have hge : ¬ ((j : Int) < (m.size : Int)) := by omega
      obtain ⟨F, hF⟩ : ∃ F, blks st0 k P = F := ⟨_, rfl⟩
      have HF := Lib.hid (show r = bstr (F.ws.flatMap wo) from by
        rw [← HR.out, ← hF]; unfold shaL; rw [HPP.out, HLn.out, show Ln / 64 = k from by have := HJ.out; omega])
      rw [hF] at HX
      clear hF hlt hj hk hms hbig
      obtain ⟨w5, hw5⟩ : ∃ x, x = wr := ⟨_, rfl⟩
      subst hw5
      obtain ⟨G, hG⟩ : ∃ G, w5.heap.size = G := ⟨_, rfl⟩
      have HHG := Lib.hid (show H ≤ G from by rw [← hG, ← hH]; exact HB.out.size)
      have HGG := Lib.hid (show g < G from by rw [← hG]; exact HX.out.lt)
      go_wp2
      clear hge
      go_loopw [6, 7] (fun v x wx => ∃ i : Nat, i ≤ 8 ∧ x = .int .i64 i ∧ wx.ownsRow G 5 1 v (4 * i) (byteCells ((F.ws.take i).flatMap wo)) ∧ Below G w5 wx) (fun _ x _ => 8 - (RowKit.intOf x).toNat)
      case atStart => exact ⟨0, by omega, rfl, World.ownsRow_nil _ _ _ _, Below.refl _ _⟩
      case round =>
        obtain ⟨i2, hi2, rfl, hown, hb⟩ := hrel
        have HO := Lib.hid hown
        have HB2 := Lib.hid hb
        clear hown hb
        by_cases hlt : i2 < 8
        · have hi2i : (i2 : Int) < 8 := by omega
          have HX2 := HX.out.kept HB2.out HGG.out
          have cc := HX2.cell hlt
          have HTK := Lib.hid (ws_take F i2 hlt)
          obtain ⟨x, hx⟩ : ∃ x, F.at i2 = x := ⟨_, rfl⟩
          rw [hx] at cc HTK
          clear hx HX2
          have HWC := Lib.hid (word_cells x)
          have HGX := Lib.hid (show G ≤ wr.heap.size from by rw [← hG]; exact HB2.out.size)
          go_wp2_with (at_builtin; refine wpList_append_word _ rfl (.tmp 33) (.tmp 45) rfl G (4 * i2) _ ((F.ws.take i2).flatMap wo) rfl (HO.out.alloc _) (by omega) wr.heap.size 4 x rfl (by rw [← HWC.out]; exact heap_alloc_new _ _) (by have := HGX.out; simp; omega) ?_)
          intro v3 w8 ho8 hb8
          have HO8 := Lib.hid ho8
          have HB8 := Lib.hid (show Below G w5 w8 from (HB2.out.alloc (by have := HGX.out; omega) _).trans hb8)
          clear ho8 hb8 cc
          go_wp2
          go_roundw
          case rel =>
            refine ⟨i2 + 1, by omega, by go_num, ?_, HB8.out⟩
            rw [HTK.out]
            exact HO8.out
          case measure => simp [RowKit.intOf]; omega
        · obtain rfl : i2 = 8 := by omega
          obtain ⟨A, c7, rfl, hby⟩ := own_bytes HO.out (show ((F.ws.take 8).flatMap wo).length = 4 * 8 from by simp [W8.ws, wo])
          have hconv := hby.conv 148 9 5 Tryz.underlying148 Tryz.underlying5 Tryz.underlying9
          have hw8 : F.ws.take 8 = F.ws := rfl
          rw [hw8, ← HF.out] at hconv
          clear hby hw8
          have HBF := Lib.hid (show Below H w wr from HB.out.trans (HB2.out.mono HHG.out))
          go_wp2
          go_ret
          exact ⟨rfl, by rw [hH]; exact HBF.out⟩
end Go.Proofs.YtpdejgdkpghjhaaGreatDoor
/- Walk: dominoref01.Text, the decimal digits of a number. -/
set_option linter.unusedVariables false
set_option linter.unusedSimpArgs false
namespace Go.Proofs.YtpdejgdkpghjhaaGreatDoor
open Go.RowKit Go.Lib
theorem nS_ten : nS 10 = ⟨#[10]⟩ := rfl
theorem digit_text (d : Nat) (h : d < 10) : (ByteArray.mk #[48, 49, 50, 51, 52, 53, 54, 55, 56, 57]).extract d (d + 1) = bstr [UInt8.ofNat (48 + d)] := by
  have := ByteArray.extract_mk [48, 49, 50, 51, 52, 53, 54, 55, 56, 57] d (d + 1)
  have e : (ByteArray.mk #[48, 49, 50, 51, 52, 53, 54, 55, 56, 57]) = ByteArray.mk (([48, 49, 50, 51, 52, 53, 54, 55, 56, 57] : List UInt8).toArray) := rfl
  rw [e, this]
  match d, h with
  | 0, _ => rfl
  | 1, _ => rfl
  | 2, _ => rfl
  | 3, _ => rfl
  | 4, _ => rfl
  | 5, _ => rfl
  | 6, _ => rfl
  | 7, _ => rfl
  | 8, _ => rfl
  | 9, _ => rfl
def dgs (y : Nat) (l : List UInt8) : List UInt8 := if y = 0 then l else Lib.decDigits y ++ l
theorem dgs_step {y : Nat} (h : 0 < y) (l : List UInt8) : dgs (y / 10) (UInt8.ofNat (48 + y % 10) :: l) = dgs y l := by
  unfold dgs
  rw [if_neg (show ¬ y = 0 from by omega), Lib.decDigits.eq_1 y]
  by_cases h1 : y < 10
  · rw [if_pos (by omega), dif_pos h1, Nat.mod_eq_of_lt h1]; rfl
  · rw [if_neg (by omega), dif_neg h1]; simp
theorem dgs_len : ∀ (y : Nat) (l : List UInt8), (dgs y l).length ≤ y + l.length
  | y, l => by
    by_cases h : y = 0
    · subst h; simp [dgs]
    · rw [← dgs_step (by omega) l]
      have := dgs_len (y / 10) (UInt8.ofNat (48 + y % 10) :: l)
      rw [List.length_cons] at this
      omega
termination_by y => y
decreasing_by omega
theorem decDigits_len : ∀ (k y : Nat), y < 10 ^ (k + 1) → (Lib.decDigits y).length ≤ k + 1
  | 0, y, h => by rw [Lib.decDigits_one (by omega)]; simp
  | k + 1, y, h => by
    rw [Lib.decDigits.eq_1 y]
    split
    · simp
    · have := decDigits_len k (y / 10) (by rw [Nat.pow_succ] at h; omega)
      simp; omega
set_option maxRecDepth 100000 in
set_option maxHeartbeats 2000000 in
theorem r01_Text (x : Nat) (hx : x < 18446744073709551616) (w : World) : Calls Tryz.prog 141 #[.string (nS x)] w (Ret (.tuple #[.string (bstr (Lib.decDigits x)), .int .i64 0]) w) := by
  have hx128 := lt128_of_lt8 hx
  have HV := Lib.hid (r01_Valid (nS x) (by have := nS_small_size hx; omega))
  rw [nvalid_nS.2 hx128] at HV
  by_cases h0 : x = 0
  · subst h0
    have HR := Lib.hid (show bstr (Lib.decDigits 0) = ⟨#[48]⟩ from by rw [Lib.decDigits, dif_pos (by omega)]; rfl)
    have HN := Lib.hid (show nS 0 = ⟨#[]⟩ from rfl)
    rw [HN.out] at HV ⊢
    rw [HR.out]
    clear hx128 hx
    go_enter Tryz.func141, Tryz.ntmps141
    go_wp2_with fail
    refine (HV.out _).mono ?_
    rintro e w1 ⟨rfl, rfl⟩
    go_wp2
    go_ret2
    exact ⟨rfl, Below.refl _ _⟩
  · have hne := empty_nS (show 0 < x from by omega)
    have HD := Lib.hid (show dgs x [] = Lib.decDigits x from by unfold dgs; rw [if_neg h0]; simp)
    have HX0 := Lib.hid h0
    have HXL := Lib.hid hx
    obtain ⟨X, hX⟩ : ∃ X, nS x = X := ⟨_, rfl⟩
    obtain ⟨r, hr⟩ : ∃ r, bstr (Lib.decDigits x) = r := ⟨_, rfl⟩
    have HX := Lib.hid hX
    have HR := Lib.hid hr
    rw [hX] at hne HV ⊢
    rw [hr]
    clear hX hr h0 hx hx128
    go_enter Tryz.func141, Tryz.ntmps141
    go_wp2_with fail
    refine (HV.out _).mono ?_
    rintro e w1 ⟨rfl, rfl⟩
    go_wp2
    clear hne
    go_loopw [0, 4] (fun a s wr => ∃ (y : Nat) (l : List UInt8), a = .string (nS y) ∧ s = .string (bstr l) ∧ y ≤ x ∧ dgs y l = Lib.decDigits x ∧ Below w.heap.size w wr) (fun a _ _ => match a with | .string s => num s | _ => 0)
    case atStart => exact ⟨x, [], by rw [HX.out], rfl, Nat.le_refl _, HD.out, Below.refl _ _⟩
    case round =>
      obtain ⟨y, l, rfl, rfl, hy, hd, hb⟩ := hrel
      have HB := Lib.hid hb
      have HDD := Lib.hid hd
      have HYX := Lib.hid hy
      clear hb hd hy
      by_cases h0 : y = 0
      · have HRR := Lib.hid (show bstr l = r from by rw [← HR.out, ← HDD.out, h0]; rfl)
        have he : nS y = ⟨#[]⟩ := by rw [h0]; rfl
        rw [he, HRR.out]
        clear he h0
        go_wp2
        go_ret2
        exact ⟨rfl, HB.out⟩
      · have hne := empty_nS (show 0 < y from by omega)
        have hx8 : y < 18446744073709551616 := by have := HXL.out; have := HYX.out; omega
        have HOV := Lib.hid (r01_Over_small y 10 hx8 (by decide) (by decide))
        have HU := Lib.hid (r01_U64_n (y % 10) (by omega))
        have HM10 := Lib.hid (show y % 10 < 10 from by omega)
        have HST := Lib.hid (dgs_step (show 0 < y from by omega) l)
        have HDT := Lib.hid (digit_text (y % 10) (by omega))
        have HLL := Lib.hid (show l.length ≤ 1000000 from by
          have h1 := HDD.out
          have h2 := HXL.out
          have h3 := decDigits_len 19 x (by omega)
          rw [← h1] at h3
          have h4 : l.length ≤ (dgs y l).length := by unfold dgs; split <;> simp
          omega)
        obtain ⟨d, hd⟩ : ∃ d, y % 10 = d := ⟨_, rfl⟩
        rw [hd] at HU HM10 HST HDT HOV
        obtain ⟨sd, hsd⟩ : ∃ z, bstr [UInt8.ofNat (48 + d)] = z := ⟨_, rfl⟩
        obtain ⟨sl, hsl⟩ : ∃ z, bstr (UInt8.ofNat (48 + d) :: l) = z := ⟨_, rfl⟩
        have HSL := Lib.hid hsl
        rw [hsd] at HDT
        have hadd : ∀ w, (Op.stringOp .add sd (bstr l)).run Tryz.prog w = .ok (.string sl) w := fun w => by
          rw [← hsd, ← hsl]
          rw [run_string_add_sum w _ _ (by rw [bstr_size, bstr_size]; have := HLL.out; simp; omega)]
          exact congrArg (fun x => Result.ok (Value.string x) w) (bstr_snoc [UInt8.ofNat (48 + d)] l)
        rw [nS_ten] at HOV
        have hd10 : (d : Int) < 10 := by have := HM10.out; omega
        have hd11 : (d : Int) + 1 ≤ 10 := by omega
        have HQ := Lib.hid (show y / 10 < y from by omega)
        obtain ⟨q, hq⟩ : ∃ q, y / 10 = q := ⟨_, rfl⟩
        rw [hq] at HST HOV HQ
        clear hd hq h0 hx8 hsd hsl
        go_wp2_with fail
        refine (HOV.out _).mono ?_
        rintro e w2 ⟨rfl, hb2⟩
        have HB2 := Lib.hid (below_up HB.out HB.out.size hb2)
        clear hb2
        go_wp2_with fail
        refine (HU.out _).mono ?_
        rintro e w3 ⟨rfl, rfl⟩
        go_wp2_with fail
        refine (HU.out _).mono ?_
        rintro e w3 ⟨rfl, rfl⟩
        have hdt := HDT.out
        go_wp2
        refine ⟨⟨q, UInt8.ofNat (48 + d) :: l, rfl, by rw [HSL.out], ?_, ?_, HB2.out⟩, ?_⟩
        · have := HQ.out; have := HYX.out; omega
        · rw [HST.out]; exact HDD.out
        · show num (nS q) < num (nS y)
          rw [num_nS, num_nS]; exact HQ.out
end Go.Proofs.YtpdejgdkpghjhaaGreatDoor

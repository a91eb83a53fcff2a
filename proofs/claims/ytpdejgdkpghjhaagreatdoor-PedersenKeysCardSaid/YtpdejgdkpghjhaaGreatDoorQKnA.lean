/- Walk: dominoref01.Text, the decimal digits of a number. -/
import Derived.Test.YtpdejgdkpghjhaaGreatDoorQKnu
import Derived.Test.YtpdejgdkpghjhaaGreatDoorQOvr
import Derived.Lib.ItoaNum
import Derived.Test.YtpdejgdkpghjhaaGreatDoorQNum
set_option linter.unusedVariables false
set_option linter.unusedSimpArgs false
namespace Go.Proofs.YtpdejgdkpghjhaaGreatDoor
open Go.RowKit Go.Lib

theorem nS_ten : nS 10 = ⟨#[10]⟩ := rfl
theorem digit_text (d : Nat) (h : d < 10) : (ByteArray.mk #[48, 49, 50, 51, 52, 53, 54, 55, 56, 57]).extract d (d + 1) = bstr [UInt8.ofNat (48 + d)] := by
  have := ByteArray.extract_mk [48, 49, 50, 51, 52, 53, 54, 55, 56, 57] d (d + 1)
  have e : (ByteArray.mk #[48, 49, 50, 51, 52, 53, 54, 55, 56, 57]) = ByteArray.mk (([48, 49, 50, 51, 52, 53, 54, 55, 56, 57] : List UInt8).toArray) := rfl
  rw [e, this]
  match d, h with
  | 0, _ => rfl
  | 1, _ => rfl
  | 2, _ => rfl
  | 3, _ => rfl
  | 4, _ => rfl
  | 5, _ => rfl
  | 6, _ => rfl
  | 7, _ => rfl
  | 8, _ => rfl
  | 9, _ => rfl
/-- The digits of a number in front of some others; none for nothing. -/
def dgs (y : Nat) (l : List UInt8) : List UInt8 := if y = 0 then l else Lib.decDigits y ++ l
theorem dgs_step {y : Nat} (h : 0 < y) (l : List UInt8) : dgs (y / 10) (UInt8.ofNat (48 + y % 10) :: l) = dgs y l := by
  unfold dgs
  rw [if_neg (show ¬ y = 0 from by omega), Lib.decDigits.eq_1 y]
  by_cases h1 : y < 10
  · rw [if_pos (by omega), dif_pos h1, Nat.mod_eq_of_lt h1]; rfl
  · rw [if_neg (by omega), dif_neg h1]; simp
theorem decDigits_len : ∀ (k y : Nat), y < 10 ^ (k + 1) → (Lib.decDigits y).length ≤ k + 1
  | 0, y, h => by rw [Lib.decDigits_one (by omega)]; simp
  | k + 1, y, h => by
    rw [Lib.decDigits.eq_1 y]
    split
    · simp
    · have := decDigits_len k (y / 10) (by rw [Nat.pow_succ] at h; omega)
      simp; omega
set_option maxRecDepth 100000 in
set_option maxHeartbeats 2000000 in
theorem r01_Text (x : Nat) (hx : x < 18446744073709551616) (w : World) : Calls Tryz.prog 141 #[.string (nS x)] w (Ret (.tuple #[.string (bstr (Lib.decDigits x)), .int .i64 0]) w) := by
  have hx128 := lt128_of_lt8 hx
  have HV := Lib.hid (r01_Valid (nS x) (by have := nS_small_size hx; omega))
  rw [nvalid_nS.2 hx128] at HV
  by_cases h0 : x = 0
  · subst h0
    have HR := Lib.hid (show bstr (Lib.decDigits 0) = ⟨#[48]⟩ from by rw [Lib.decDigits, dif_pos (by omega)]; rfl)
    have HN := Lib.hid (show nS 0 = ⟨#[]⟩ from rfl)
    rw [HN.out] at HV ⊢
    rw [HR.out]
    clear hx128 hx
    go_enter Tryz.func141, Tryz.ntmps141
    go_wp2_with fail
    refine (HV.out _).mono ?_
    rintro e w1 ⟨rfl, rfl⟩
    go_wp2
    go_ret2
    exact ⟨rfl, Below.refl _ _⟩
  · have hne := empty_nS (show 0 < x from by omega)
    have HD := Lib.hid (show dgs x [] = Lib.decDigits x from by unfold dgs; rw [if_neg h0]; simp)
    have HX0 := Lib.hid h0
    have HXL := Lib.hid hx
    obtain ⟨X, hX⟩ : ∃ X, nS x = X := ⟨_, rfl⟩
    obtain ⟨r, hr⟩ : ∃ r, bstr (Lib.decDigits x) = r := ⟨_, rfl⟩
    have HX := Lib.hid hX
    have HR := Lib.hid hr
    rw [hX] at hne HV ⊢
    rw [hr]
    clear hX hr h0 hx hx128
    go_enter Tryz.func141, Tryz.ntmps141
    go_wp2_with fail
    refine (HV.out _).mono ?_
    rintro e w1 ⟨rfl, rfl⟩
    go_wp2
    clear hne
    go_loopw [0, 4] (fun a s wr => ∃ (y : Nat) (l : List UInt8), a = .string (nS y) ∧ s = .string (bstr l) ∧ y ≤ x ∧ dgs y l = Lib.decDigits x ∧ Below w.heap.size w wr) (fun a _ _ => match a with | .string s => num s | _ => 0)
    case atStart => exact ⟨x, [], by rw [HX.out], rfl, Nat.le_refl _, HD.out, Below.refl _ _⟩
    case round =>
      obtain ⟨y, l, rfl, rfl, hy, hd, hb⟩ := hrel
      have HB := Lib.hid hb
      have HDD := Lib.hid hd
      have HYX := Lib.hid hy
      clear hb hd hy
      by_cases h0 : y = 0
      · have HRR := Lib.hid (show bstr l = r from by rw [← HR.out, ← HDD.out, h0]; rfl)
        have he : nS y = ⟨#[]⟩ := by rw [h0]; rfl
        rw [he, HRR.out]
        clear he h0
        go_wp2
        go_ret2
        exact ⟨rfl, HB.out⟩
      · have hne := empty_nS (show 0 < y from by omega)
        have hx8 : y < 18446744073709551616 := by have := HXL.out; have := HYX.out; omega
        have HOV := Lib.hid (r01_Over_small y 10 hx8 (by decide) (by decide))
        have HU := Lib.hid (r01_U64_n (y % 10) (by omega))
        have HM10 := Lib.hid (show y % 10 < 10 from by omega)
        have HST := Lib.hid (dgs_step (show 0 < y from by omega) l)
        have HDT := Lib.hid (digit_text (y % 10) (by omega))
        have HLL := Lib.hid (show l.length ≤ 1000000 from by
          have h1 := HDD.out
          have h2 := HXL.out
          have h3 := decDigits_len 19 x (by omega)
          rw [← h1] at h3
          have h4 : l.length ≤ (dgs y l).length := by unfold dgs; split <;> simp
          omega)
        obtain ⟨d, hd⟩ : ∃ d, y % 10 = d := ⟨_, rfl⟩
        rw [hd] at HU HM10 HST HDT HOV
        obtain ⟨sd, hsd⟩ : ∃ z, bstr [UInt8.ofNat (48 + d)] = z := ⟨_, rfl⟩
        obtain ⟨sl, hsl⟩ : ∃ z, bstr (UInt8.ofNat (48 + d) :: l) = z := ⟨_, rfl⟩
        have HSL := Lib.hid hsl
        rw [hsd] at HDT
        have hadd : ∀ w, (Op.stringOp .add sd (bstr l)).run Tryz.prog w = .ok (.string sl) w := fun w => by
          rw [← hsd, ← hsl]
          rw [run_string_add_sum w _ _ (by rw [bstr_size, bstr_size]; have := HLL.out; simp; omega)]
          exact congrArg (fun x => Result.ok (Value.string x) w) (bstr_snoc [UInt8.ofNat (48 + d)] l)
        rw [nS_ten] at HOV
        have hd10 : (d : Int) < 10 := by have := HM10.out; omega
        have hd11 : (d : Int) + 1 ≤ 10 := by omega
        have HQ := Lib.hid (show y / 10 < y from by omega)
        obtain ⟨q, hq⟩ : ∃ q, y / 10 = q := ⟨_, rfl⟩
        rw [hq] at HST HOV HQ
        clear hd hq h0 hx8 hsd hsl
        go_wp2_with fail
        refine (HOV.out _).mono ?_
        rintro e w2 ⟨rfl, hb2⟩
        have HB2 := Lib.hid (below_up HB.out HB.out.size hb2)
        clear hb2
        go_wp2_with fail
        refine (HU.out _).mono ?_
        rintro e w3 ⟨rfl, rfl⟩
        go_wp2_with fail
        refine (HU.out _).mono ?_
        rintro e w3 ⟨rfl, rfl⟩
        have hdt := HDT.out
        go_wp2
        refine ⟨⟨q, UInt8.ofNat (48 + d) :: l, rfl, by rw [HSL.out], ?_, ?_, HB2.out⟩, ?_⟩
        · have := HQ.out; have := HYX.out; omega
        · rw [HST.out]; exact HDD.out
        · show num (nS q) < num (nS y)
          rw [num_nS, num_nS]; exact HQ.out
end Go.Proofs.YtpdejgdkpghjhaaGreatDoor
/- Walk: dominoref06.Decimal for numbers that are not negative. -/
set_option linter.unusedVariables false
set_option linter.unusedSimpArgs false
namespace Go.Proofs.YtpdejgdkpghjhaaGreatDoor
open Go.RowKit Go.Lib

set_option maxRecDepth 100000 in
set_option maxHeartbeats 2000000 in
theorem r06_Decimal_step (n : Nat) (hn : n < 9223372036854775808) (ih : ∀ w, Calls Tryz.prog 76 #[.int .i64 ((n / 10 : Nat) : Int)] w (Ret (.string (bstr (Lib.decDigits (n / 10)))) w)) (h10 : ¬ n < 10) (w : World) : Calls Tryz.prog 76 #[.int .i64 n] w (Ret (.string (bstr (Lib.decDigits n))) w) := by
  have HR := Lib.hid (show bstr (Lib.decDigits n) = bstr (Lib.decDigits (n / 10) ++ [UInt8.ofNat (48 + n % 10)]) from by rw [Lib.decDigits.eq_1 n, dif_neg h10])
  have HDT := Lib.hid (digit_text (n % 10) (by omega))
  have hq : ((n : Int) / 10) = ((n / 10 : Nat) : Int) := by simp
  have hm : ((n : Int) % 10) = ((n % 10 : Nat) : Int) := by simp
  have hlen := decDigits_len 18 (n / 10) (by omega)
  have HIH := Lib.hid ih
  obtain ⟨q, hqe⟩ : ∃ q, n / 10 = q := ⟨_, rfl⟩
  obtain ⟨d, hde⟩ : ∃ q, n % 10 = q := ⟨_, rfl⟩
  rw [hqe] at HR HIH hq hlen
  rw [hde] at HR HDT hm
  have hd10 : (d : Int) < 10 := by omega
  have hd11 : (d : Int) + 1 ≤ 10 := by omega
  have hmt : (n : Int).tmod 10 = (d : Int) := by rw [Int.tmod_eq_emod_of_nonneg (by omega)]; exact hm
  have hqt : (n : Int).tdiv 10 = (q : Int) := by rw [Int.tdiv_eq_ediv_of_nonneg (by omega)]; exact hq
  have hwd1 : IntKind.i64.wrap ((d : Int) + 1) = (d : Int) + 1 := by rw [IntKind.wrap_i64]; omega
  have htn : ((d : Int) + 1).toNat = d + 1 := by omega
  have hd12 : (0 : Int) ≤ (d : Int) + 1 := by omega
  have hd13 : (d : Int) ≤ (d : Int) + 1 := by omega
  have hwq : IntKind.i64.wrap (q : Int) = (q : Int) := by rw [IntKind.wrap_i64]; omega
  have hwd2 : IntKind.i64.wrap (d : Int) = (d : Int) := by rw [IntKind.wrap_i64]; omega
  have hn10 : ¬ ((n : Int) < 10) := by omega
  have hn0 : ¬ ((n : Int) < 0) := by omega
  obtain ⟨t, ht⟩ : ∃ t, bstr (Lib.decDigits q) = t := ⟨_, rfl⟩
  obtain ⟨u, hu⟩ : ∃ t, bstr [UInt8.ofNat (48 + d)] = t := ⟨_, rfl⟩
  obtain ⟨r, hr⟩ : ∃ t, bstr (Lib.decDigits n) = t := ⟨_, rfl⟩
  have hadd : ∀ w, (Op.stringOp .add t u).run Tryz.prog w = .ok (.string r) w := fun w => by
    rw [← ht, ← hu, run_string_add_sum w _ _ (by rw [bstr_size, bstr_size]; simp; omega), ← hr, HR.out]
    exact congrArg (fun x => Result.ok (Value.string x) w) (bstr_snoc _ [UInt8.ofNat (48 + d)])
  rw [ht] at HIH
  rw [hu] at HDT
  rw [hr]
  clear HR ih hlen hqe hde h10 hn ht hu hr
  have hdt := HDT.out
  go_enter Tryz.func76, Tryz.ntmps76
  go_wp2
  obtain ⟨wd, hwd⟩ : ∃ wd, w.drew = wd := ⟨_, rfl⟩
  have HWD := Lib.hid (show Below w.heap.size w wd from by rw [← hwd]; exact (Below.refl _ _).drew)
  refine wp_region_K 11 (Below (wd).heap.size (wd)) (by kernel_rfl) ?_
  intro hD
  rw [hwd]
  refine wpAnyK_pureD (i := 0) (d := some 29) (v := ?v8_0b1) (fuel := 10) rfl (by kernel_rfl) (by kernel_rfl) (fun _ _ _ h => h) hD (Below.refl _ _) (.inl ⟨by kernel_rfl, ?y8_0b1⟩) ?n8_0b1
  case y8_0b1 => intro w' _; go_simp; with_reducible rfl
  clear hD; intro hD
  simp only [Act.put, List.setIfInBounds_toArray, List.set_cons_zero, List.set_cons_succ]
  refine wpAnyK_pureD (i := 1) (d := some 30) (v := ?v8_1b1) (fuel := 9) rfl (by kernel_rfl) (by kernel_rfl) (fun _ _ _ h => h) hD (Below.refl _ _) (.inl ⟨by kernel_rfl, ?y8_1b1⟩) ?n8_1b1
  case y8_1b1 => intro w' _; go_simp; with_reducible rfl
  clear hD; intro hD
  simp only [Act.put, List.setIfInBounds_toArray, List.set_cons_zero, List.set_cons_succ]
  refine wpAnyK_pureD (i := 3) (d := some 32) (v := ?v8_3b1) (fuel := 8) rfl (by kernel_rfl) (by kernel_rfl) (fun _ _ _ h => h) hD (Below.refl _ _) (.inl ⟨by kernel_rfl, ?y8_3b1⟩) ?n8_3b1
  case y8_3b1 => intro w' _; go_simp; with_reducible rfl
  clear hD; intro hD
  simp only [Act.put, List.setIfInBounds_toArray, List.set_cons_zero, List.set_cons_succ]
  refine wpAnyK_pureD (i := 4) (d := some 33) (v := ?v8_4b1) (fuel := 7) rfl (by kernel_rfl) (by kernel_rfl) (fun _ _ _ h => h) hD (Below.refl _ _) (.inl ⟨by kernel_rfl, ?y8_4b1⟩) ?n8_4b1
  case y8_4b1 => intro w' _; go_simp; with_reducible rfl
  clear hD; intro hD
  simp only [Act.put, List.setIfInBounds_toArray, List.set_cons_zero, List.set_cons_succ]
  refine wpAnyK_pureD (i := 5) (d := some 34) (v := ?v8_5b1) (fuel := 6) rfl (by kernel_rfl) (by kernel_rfl) (fun _ _ _ h => h) hD (Below.refl _ _) (.inl ⟨by kernel_rfl, ?y8_5b1⟩) ?n8_5b1
  case y8_5b1 => intro w' _; go_simp; with_reducible rfl
  clear hD; intro hD
  simp only [Act.put, List.setIfInBounds_toArray, List.set_cons_zero, List.set_cons_succ]
  refine wpAnyK_pureD (i := 6) (d := some 35) (v := ?v8_6b1) (fuel := 5) rfl (by kernel_rfl) (by kernel_rfl) (fun _ _ _ h => h) hD (Below.refl _ _) (.inl ⟨by kernel_rfl, ?y8_6b1⟩) ?n8_6b1
  case y8_6b1 => intro w' _; go_simp; with_reducible rfl
  clear hD; intro hD
  simp only [Act.put, List.setIfInBounds_toArray, List.set_cons_zero, List.set_cons_succ]
  refine wpAnyK_pureD (i := 7) (d := some 36) (v := ?v8_7b1) (fuel := 4) rfl (by kernel_rfl) (by kernel_rfl) (fun _ _ _ h => h) hD (Below.refl _ _) (.inl ⟨by kernel_rfl, ?y8_7b1⟩) ?n8_7b1
  case y8_7b1 => intro w' _; go_simp; with_reducible rfl
  clear hD; intro hD
  simp only [Act.put, List.setIfInBounds_toArray, List.set_cons_zero, List.set_cons_succ]
  refine wpAnyK_pureD (i := 8) (d := some 37) (v := ?v8_8b1) (fuel := 3) rfl (by kernel_rfl) (by kernel_rfl) (fun _ _ _ h => h) hD (Below.refl _ _) (.inl ⟨by kernel_rfl, ?y8_8b1⟩) ?n8_8b1
  case y8_8b1 => intro w' _; go_simp; with_reducible rfl
  clear hD; intro hD
  simp only [Act.put, List.setIfInBounds_toArray, List.set_cons_zero, List.set_cons_succ]
  refine wpAnyK_one (i := 2) (fuel := 2) (by kernel_rfl) rfl hD ?_
  clear hD; intro K2 hK2
  go_wp2_with fail
  refine (HIH.out _).mono ?_
  rintro ev w3 ⟨rfl, hb3⟩
  have HB2 := Lib.hid hb3
  clear hb3
  go_wp2
  refine hK2 _ _ (by exact HB2.out) ?_; clear hK2; intro hS_8_2 hD
  refine wpAnyK_pureD (i := 9) (d := some 38) (v := ?v8_9b1) (fuel := 1) rfl (by kernel_rfl) (by kernel_rfl) (fun _ _ _ h => h) hD hS_8_2 (.inl ⟨by kernel_rfl, ?y8_9b1⟩) ?n8_9b1
  case y8_9b1 => intro w' _; go_simp; with_reducible rfl
  clear hD; intro hD
  simp only [Act.put, List.setIfInBounds_toArray, List.set_cons_zero, List.set_cons_succ]
  refine wpAnyK_one (i := 10) (fuel := 0) (by kernel_rfl) rfl hD ?_
  clear hD; intro K10 hK10
  go_wp2
  refine hK10 _ _ (by exact hS_8_2) ?_; clear hK10; intro hS_8_10 hD
  have HL := Lib.hid hS_8_10
  refine wpAnyK_done (by kernel_rfl) ?_ 0
  clear hD
  go_wp2
  go_ret
  exact ⟨rfl, below_up HWD.out HWD.out.size HL.out⟩
set_option maxRecDepth 100000 in
theorem r06_Decimal_one (n : Nat) (h10 : n < 10) (w : World) : Calls Tryz.prog 76 #[.int .i64 n] w (Ret (.string (bstr (Lib.decDigits n))) w) := by
  have HDT := Lib.hid (digit_text n h10)
  rw [Lib.decDigits_one h10]
  have hd10 : (n : Int) < 10 := by omega
  have hd11 : (n : Int) + 1 ≤ 10 := by omega
  have hn0 : ¬ ((n : Int) < 0) := by omega
  obtain ⟨u, hu⟩ : ∃ t, bstr [UInt8.ofNat (48 + n)] = t := ⟨_, rfl⟩
  rw [hu] at HDT ⊢
  clear hu h10
  have hdt := HDT.out
  go_enter Tryz.func76, Tryz.ntmps76
  go_wp2
  go_ret
  exact ⟨rfl, Below.refl _ _⟩
theorem r06_Decimal (n : Nat) (hn : n < 9223372036854775808) : ∀ (w : World), Calls Tryz.prog 76 #[.int .i64 n] w (Ret (.string (bstr (Lib.decDigits n))) w) := by
  induction n using Nat.strongRecOn with
  | _ n ih =>
    by_cases h : n < 10
    · exact r06_Decimal_one n h
    · exact r06_Decimal_step n hn (ih (n / 10) (by omega) (by omega)) h
end Go.Proofs.YtpdejgdkpghjhaaGreatDoor

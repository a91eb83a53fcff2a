/- Walks: dominoref03 at moduli below 2^64. -/
import Derived.Test.YtnnfgphioapmnaaGreatOvr
set_option linter.unusedVariables false
set_option linter.unusedSimpArgs false
namespace Go.Proofs.YtnnfgphioapmnaaGreat
open Go.RowKit

theorem lt128_8 {n : Nat} (h : n < 18446744073709551616) : n < 256 ^ 128 := lt128_of_lt8 h

set_option maxRecDepth 100000 in
theorem r03_Mod (x m : Nat) (hx : x < 256 ^ 128) (hm : m < 256 ^ 128) (h0 : 0 < m) (w : World) : Calls Tryz.prog 126 #[.string (nS x), .string (nS m)] w (Ret (.string (nS (x % m))) w) := by
  have HD := Lib.hid (r01_DivMod x m hx hm h0)
  obtain ⟨s, hs⟩ : ∃ s, nS x = s := ⟨_, rfl⟩
  obtain ⟨t, ht⟩ : ∃ t, nS m = t := ⟨_, rfl⟩
  rw [hs, ht] at HD
  rw [hs, ht]
  clear hs ht hm hx
  go_enter Tryz.func126, Tryz.ntmps126
  go_wp2_with fail
  refine (HD.out _).mono ?_
  rintro e w1 ⟨rfl, hb⟩
  have HB := Lib.hid hb
  clear hb
  go_wp2
  go_ret
  exact ⟨rfl, HB.out⟩

set_option maxRecDepth 100000 in
theorem r03_check (xs : List ByteArray) (A : Option Addr) (n c : Nat) (w : World) (hs : SlN w A n c xs) (hlb : n ≤ 1000) (h0 : 0 < n)
    (hv : ∀ (k : Nat) (s : ByteArray), xs[k]? = some s → nvalid s = true) (hm : ∀ s : ByteArray, xs[n - 1]? = some s → s.toList.isEmpty = false) :
    Calls Tryz.prog 96 #[.slice A n c] w (RetQ (.int .i64 0) w) := by
  have hl := hs.1
  have hlc := hs.2.1
  have hmx := hs.2.2.1
  obtain ⟨b, o, rfl⟩ := hs.head h0
  have HS := Lib.hid hs
  have HV := Lib.hid hv
  have HM := Lib.hid hm
  have HL := Lib.hid hl
  clear hs hv hm hl
  go_enter Tryz.func96, Tryz.ntmps96
  go_wp2
  go_loop [3] (fun i => ∃ k : Nat, k ≤ n ∧ i = .int .i64 k) (fun i => n - (intOf i).toNat)
  case atStart => exact ⟨0, Nat.zero_le _, rfl⟩
  case round =>
    obtain ⟨k, hk, rfl⟩ := hrel
    by_cases hlt : k < n
    · obtain ⟨s, he⟩ : ∃ s, xs[k]? = some s := ⟨_, List.getElem?_eq_getElem (by rw [HL.out]; exact hlt)⟩
      have c0 := HS.out.get? k he
      have hvs := HV.out k s he
      have hsz : s.size ≤ 128 := by unfold nvalid at hvs; simp at hvs; exact hvs.1
      have HVS := Lib.hid hvs
      clear he hvs
      go_wp2_with fail
      refine (r01_Valid s (by omega) _).mono ?_
      rintro e w1 ⟨rfl, rfl⟩
      rw [HVS.out]
      go_wp2
      go_round
      case rel => exact ⟨k + 1, by omega, by go_num⟩
      case measure => simp [intOf]; omega
    · obtain rfl : k = n := by omega
      obtain ⟨s, he⟩ : ∃ s, xs[k - 1]? = some s := ⟨_, List.getElem?_eq_getElem (by rw [HL.out]; omega)⟩
      have c0 := HS.out.get? (k - 1) he
      have hem := HM.out s he
      obtain ⟨j, rfl⟩ : ∃ j, k = j + 1 := ⟨k - 1, by omega⟩
      rw [Nat.add_sub_cancel] at c0
      have hix : ((j + 1 : Nat) : Int) - 1 = (j : Int) := by omega
      clear he
      go_wp2
      go_ret
      exact ⟨rfl, rfl⟩
theorem r03_check3 (w : World) (a b m : ByteArray) (n : Nat) (hn : n = w.heap.size) (ha : nvalid a = true) (hb : nvalid b = true) (hm : nvalid m = true) (h0 : m.toList.isEmpty = false) :
    Calls Tryz.prog 96 #[.slice (some ⟨n, 0, none⟩) 3 3] (w.alloc (.cells #[.string a, .string b, .string m] 22)) (RetQ (.int .i64 0) (w.alloc (.cells #[.string a, .string b, .string m] 22))) := by
  subst hn
  have h2 := sln_alloc w [a, b, m] 22 (by simp)
  refine r03_check [a, b, m] _ 3 3 _ h2 (by omega) (by omega) ?_ ?_
  · intro k s hk
    have := List.mem_of_getElem? hk
    simp only [List.mem_cons, List.mem_nil_iff, or_false] at this
    rcases this with rfl | rfl | rfl
    · exact ha
    · exact hb
    · exact hm
  · intro s hk
    simp only [List.getElem?_cons_succ, List.getElem?_cons_zero, Option.some.injEq] at hk
    rw [← hk]; exact h0

theorem fitR_small {n : Nat} (h : n < 256 ^ 128) : fitR n = .tuple #[.string (nS n), .int .i64 0] := by unfold fitR; rw [if_pos h]

set_option maxRecDepth 100000 in
set_option maxHeartbeats 400000 in
theorem r03_times (x y m : Nat) (hx : x < 256 ^ 128) (hy : y < 256 ^ 128) (hm8 : m < 18446744073709551616) (h0 : 0 < m) (w : World) : Calls Tryz.prog 97 #[.string (nS x), .string (nS y), .string (nS m)] w (Ret (.string (nS (x * y % m))) w) := by
  have hm := lt128_8 hm8
  have hx2 : x % m < 18446744073709551616 := Nat.lt_trans (Nat.mod_lt x h0) hm8
  have hy2 : y % m < 18446744073709551616 := Nat.lt_trans (Nat.mod_lt y h0) hm8
  have HSM := Lib.hid (r01_Small_n m hm8)
  have HMX := Lib.hid (r03_Mod x m hx hm h0)
  have HMY := Lib.hid (r03_Mod y m hy hm h0)
  have hmx2 : x % m < m := Nat.mod_lt x h0
  have hmy2 : y % m < m := Nat.mod_lt y h0
  have HEQ := Lib.hid (Nat.mul_mod x y m).symm
  have HX2 := Lib.hid hx2
  have HY2 := Lib.hid hy2
  obtain ⟨X, hX⟩ : ∃ X, x % m = X := ⟨_, rfl⟩
  obtain ⟨Y, hY⟩ : ∃ Y, y % m = Y := ⟨_, rfl⟩
  rw [hX] at HMX HEQ HX2 hmx2
  rw [hY] at HMY HEQ HY2 hmy2
  have hp := show X * Y < 256 ^ 128 from Nat.lt_of_lt_of_le (Nat.mul_lt_mul'' HX2.out HY2.out) (by decide)
  have HP := Lib.hid hp
  have HMM := Lib.hid (r01_Mul X Y (lt128_8 HX2.out) (lt128_8 HY2.out))
  rw [fitR_small hp] at HMM
  have HSX := Lib.hid (r01_Small_n X HX2.out)
  have HSY := Lib.hid (r01_Small_n Y HY2.out)
  have HMZ := Lib.hid (r03_Mod (X * Y) m hp hm h0)
  rw [HEQ.out] at HMZ
  have hz8 : x * y % m < 18446744073709551616 := Nat.lt_trans (Nat.mod_lt _ h0) hm8
  have HOF := Lib.hid (r01_Of (x * y % m) hz8)
  have hm3 : ¬ (m = 0) := by omega
  have hm2 : (0 : Int) < (m : Int) := by omega
  have hwm : m < 2147483648 → IntKind.u64.wrap ((X : Int) * (Y : Int)) = ((X * Y : Nat) : Int) := fun h => by
    rw [← Int.natCast_mul]
    exact u64_wrap (X * Y) (Nat.lt_of_lt_of_le (Nat.mul_lt_mul'' (Nat.lt_trans hmx2 h) (Nat.lt_trans hmy2 h)) (by decide))
  have HWM := Lib.hid hwm
  have HWR := Lib.hid (show ((X * Y : Nat) : Int) % (m : Int) = ((x * y % m : Nat) : Int) from by rw [← Int.natCast_emod, HEQ.out])
  obtain ⟨s, hs⟩ : ∃ s, nS x = s := ⟨_, rfl⟩
  obtain ⟨t, ht⟩ : ∃ t, nS y = t := ⟨_, rfl⟩
  obtain ⟨u, hu⟩ : ∃ u, nS m = u := ⟨_, rfl⟩
  rw [hs] at HMX ⊢
  rw [ht] at HMY ⊢
  rw [hu] at HSM HMX HMY HMZ ⊢
  obtain ⟨z, hz⟩ : ∃ z, x * y % m = z := ⟨_, rfl⟩
  rw [hz] at HMZ HOF HWR ⊢
  obtain ⟨p, hpp⟩ : ∃ p, X * Y = p := ⟨_, rfl⟩
  rw [hpp] at HMM HMZ HWM HWR
  clear hs ht hu hz hpp hp hm hx hy hx2 hy2 hz8 hX hY hwm hmx2 hmy2
  by_cases hs31 : m < 2147483648
  · have hs31' : (m : Int) < 2147483648 := by omega
    have hwm := HWM.out hs31
    clear HWM
    go_enter Tryz.func97, Tryz.ntmps97
    go_wp2_with fail
    refine (HSM.out _).mono ?_
    rintro e w1 ⟨rfl, rfl⟩
    go_wp2_with fail
    refine (HMX.out _).mono ?_
    rintro e w1 ⟨rfl, hb1⟩
    have HB1 := Lib.hid hb1
    clear hb1
    go_wp2_with fail
    refine (HSX.out _).mono ?_
    rintro e w2 ⟨rfl, rfl⟩
    go_wp2_with fail
    refine (HMY.out _).mono ?_
    rintro e w3 ⟨rfl, hb3⟩
    have HB3 := Lib.hid (HB1.out.trans (hb3.mono HB1.out.size))
    clear hb3
    go_wp2_with fail
    refine (HSY.out _).mono ?_
    rintro e w2 ⟨rfl, rfl⟩
    go_wp2_with fail
    rw [HWR.out]
    refine (HOF.out _).mono ?_
    rintro e w5 ⟨rfl, hb5⟩
    have HB5 := Lib.hid (HB3.out.trans (hb5.mono HB3.out.size))
    clear hb5
    go_wp2
    go_ret
    exact ⟨rfl, HB5.out⟩
  · have hs31' : decide ((m : Int) < 2147483648) = false := decide_eq_false (by omega)
    clear HWM HWR hs31 hm8
    go_enter Tryz.func97, Tryz.ntmps97
    go_wp2_with fail
    refine (HSM.out _).mono ?_
    rintro e w1 ⟨rfl, rfl⟩
    go_wp2_with fail
    refine (HMX.out _).mono ?_
    rintro e w1 ⟨rfl, hb1⟩
    have HB1 := Lib.hid hb1
    clear hb1
    go_wp2_with fail
    refine (HMY.out _).mono ?_
    rintro e w3 ⟨rfl, hb3⟩
    have HB3 := Lib.hid (HB1.out.trans (hb3.mono HB1.out.size))
    clear hb3
    go_wp2_with fail
    refine (HMM.out _).mono ?_
    rintro e w4 ⟨rfl, hb4⟩
    have HB4 := Lib.hid (HB3.out.trans (hb4.mono HB3.out.size))
    clear hb4
    go_wp2_with fail
    refine (HMZ.out _).mono ?_
    rintro e w5 ⟨rfl, hb5⟩
    have HB5 := Lib.hid (HB4.out.trans (hb5.mono HB4.out.size))
    clear hb5
    go_wp2
    go_ret
    exact ⟨rfl, HB5.out⟩

set_option maxRecDepth 100000 in
theorem r03_Mul (x y m : Nat) (hx8 : x < 256 ^ 128) (hy8 : y < 256 ^ 128) (hm8 : m < 18446744073709551616) (h0 : 0 < m) (w : World) : Calls Tryz.prog 65 #[.string (nS x), .string (nS y), .string (nS m)] w (Ret (.tuple #[.string (nS (x * y % m)), .int .i64 0]) w) := by
  have HC := Lib.hid (fun w => r03_check3 w (nS x) (nS y) (nS m) _ rfl (nvalid_nS.2 hx8) (nvalid_nS.2 hy8) (nS_valid_small hm8) (empty_nS h0))
  have HT := Lib.hid (r03_times x y m hx8 hy8 hm8 h0)
  obtain ⟨s, hs⟩ : ∃ s, nS x = s := ⟨_, rfl⟩
  obtain ⟨t, ht⟩ : ∃ t, nS y = t := ⟨_, rfl⟩
  obtain ⟨u, hu⟩ : ∃ u, nS m = u := ⟨_, rfl⟩
  rw [hs, ht, hu] at HC HT
  rw [hs, ht, hu]
  clear hs ht hu hx8 hy8 hm8
  go_enter Tryz.func65, Tryz.ntmps65
  go_wp2_with fail
  refine (HC.out w).mono ?_
  rintro e w1 ⟨rfl, rfl⟩
  go_wp2_with fail
  refine (HT.out _).mono ?_
  rintro e w2 ⟨rfl, hb2⟩
  have HB2 := Lib.hid (((Below.refl w.heap.size w).alloc (Nat.le_refl _) _).trans (hb2.mono (by simp)))
  clear hb2
  go_wp2
  go_ret2
  exact ⟨rfl, HB2.out⟩
theorem r01_Bits (n : Nat) (hn : n < 256 ^ 128) (w : World) : Calls Tryz.prog 144 #[.string (nS n)] w (RetQ (.int .i64 (blen n)) w) := by
  have hs := nS_size_le.2 hn
  have HV := Lib.hid (nvalid_nS.2 hn)
  have HB := Lib.hid (r01_bits n (by omega))
  obtain ⟨s, hs'⟩ : ∃ s, nS n = s := ⟨_, rfl⟩
  rw [hs'] at hs HV HB ⊢
  clear hs' hn
  go_enter Tryz.func144, Tryz.ntmps144
  go_wp2_with fail
  refine (r01_Valid s (by omega) _).mono ?_
  rintro e w1 ⟨rfl, rfl⟩
  rw [HV.out]
  go_wp2_with fail
  refine (HB.out _).mono ?_
  rintro e w1 ⟨rfl, rfl⟩
  go_wp2
  go_ret
  exact ⟨rfl, rfl⟩
theorem blen_1024 {n : Nat} (hn : n < 256 ^ 128) : blen n ≤ 1024 := blen_le8 hn
set_option maxRecDepth 100000 in
theorem r01_Bit (n i : Nat) (hn : n < 256 ^ 128) (hi : i < blen n) (w : World) : Calls Tryz.prog 145 #[.string (nS n), .int .i64 i] w (RetQ (.bool (bitB n i)) w) := by
  have hs := nS_size_le.2 hn
  have hb := blen_1024 hn
  have HV := Lib.hid (nvalid_nS.2 hn)
  have HB := Lib.hid (r01_bits n (by omega))
  have HO := Lib.hid (r01_one n i (by omega) (by omega))
  obtain ⟨s, hs'⟩ : ∃ s, nS n = s := ⟨_, rfl⟩
  rw [hs'] at hs HV HB HO ⊢
  obtain ⟨m, hm⟩ : ∃ m, blen n = m := ⟨_, rfl⟩
  rw [hm] at HB hi hb
  have hi2 : (i : Int) < (m : Int) := by omega
  have hi0 : (0 : Int) ≤ (i : Int) := by omega
  obtain ⟨r, hr⟩ : ∃ r, bitB n i = r := ⟨_, rfl⟩
  rw [hr] at HO ⊢
  clear hs' hn hm hr
  go_enter Tryz.func145, Tryz.ntmps145
  go_wp2_with fail
  refine (r01_Valid s (by omega) _).mono ?_
  rintro e w1 ⟨rfl, rfl⟩
  rw [HV.out]
  go_wp2_with fail
  refine (HB.out _).mono ?_
  rintro e w1 ⟨rfl, rfl⟩
  go_wp2_with fail
  refine (HO.out _).mono ?_
  rintro e w1 ⟨rfl, rfl⟩
  go_wp2
  go_ret
  exact ⟨rfl, rfl⟩

/-- A power by its exponent's digits. -/
theorem pw_two (a E m : Nat) : a ^ E % m * (a ^ E % m) % m = a ^ (2 * E) % m := by
  rw [← Nat.mul_mod, ← Nat.pow_add, Nat.two_mul]
theorem pw_one (a E m : Nat) : a ^ E % m * a % m = a ^ (E + 1) % m := by
  rw [Nat.mod_mul_mod, Nat.pow_succ]
theorem pw_one' (a E m : Nat) : a ^ E % m * (a % m) % m = a ^ (E + 1) % m := by
  rw [← Nat.mul_mod, Nat.pow_succ]
set_option maxRecDepth 100000 in
set_option maxHeartbeats 2000000 in
theorem r03_raise (a n m : Nat) (ha : a < 256 ^ 128) (hn : n < 256 ^ 128) (hm8 : m < 18446744073709551616) (h0 : 0 < m) (w : World) : Calls Tryz.prog 128 #[.string (nS a), .string (nS n), .string (nS m)] w (Ret (.string (nS (a ^ n % m))) w) := by
  have hm := lt128_8 hm8
  have HM1 := Lib.hid (r03_Mod 1 m (by decide) hm h0)
  have HBS := Lib.hid (r01_Bits n hn)
  have HBT := Lib.hid (fun i (hi : i < blen n) => r01_Bit n i hn hi)
  have HTT := Lib.hid (fun E => r03_times (a ^ E % m) (a ^ E % m) m (Nat.lt_trans (Nat.mod_lt _ h0) hm) (Nat.lt_trans (Nat.mod_lt _ h0) hm) hm8 h0)
  have HTA := Lib.hid (fun E => r03_times (a ^ E % m) a m (Nat.lt_trans (Nat.mod_lt _ h0) hm) ha hm8 h0)
  have hb := blen_1024 hn
  have HE0 := Lib.hid (show n / 2 ^ blen n = 0 from Nat.div_eq_of_lt (blen_lt n))
  obtain ⟨s, hs⟩ : ∃ s, nS a = s := ⟨_, rfl⟩
  obtain ⟨t, ht⟩ : ∃ t, nS n = t := ⟨_, rfl⟩
  obtain ⟨u, hu⟩ : ∃ u, nS m = u := ⟨_, rfl⟩
  rw [hs] at HTA ⊢
  rw [ht] at HBS HBT ⊢
  rw [hu] at HM1 HTT HTA ⊢
  obtain ⟨B, hB⟩ : ∃ B, blen n = B := ⟨_, rfl⟩
  rw [hB] at HBS HBT hb HE0
  clear hs ht hu hB ha hn hm
  go_enter Tryz.func128, Tryz.ntmps128
  go_wp2_with fail
  refine (r01_Of 1 (by decide) _).mono ?_
  rintro e w1 ⟨rfl, hb1⟩
  have HB1 := Lib.hid hb1
  clear hb1
  go_wp2_with fail
  refine (HM1.out _).mono ?_
  rintro e w2 ⟨rfl, hb2⟩
  have HB2 := Lib.hid (HB1.out.trans (hb2.mono HB1.out.size))
  clear hb2
  go_wp2_with fail
  refine (HBS.out _).mono ?_
  rintro e w3 ⟨rfl, rfl⟩
  go_wp2
  go_loopw [7, 8] (fun r i wr => ∃ K : Nat, K ≤ B ∧ r = .string (nS (a ^ (n / 2 ^ K) % m)) ∧ i = .int .i64 ((K : Int) - 1) ∧ Below w.heap.size w wr) (fun _ i _ => (intOf i + 1).toNat)
  case atStart => exact ⟨B, Nat.le_refl _, by rw [HE0.out, Nat.pow_zero], by go_num, HB2.out⟩
  case round =>
    obtain ⟨K, hK, rfl, rfl, hBW⟩ := hrel
    have HBW := Lib.hid hBW
    clear hBW
    by_cases hlt : 0 < K
    · obtain ⟨e, rfl⟩ : ∃ e, K = e + 1 := ⟨K - 1, by omega⟩
      rw [show ((e + 1 : Nat) : Int) - 1 = (e : Int) from by omega]
      have he0 : (0 : Int) ≤ (e : Int) := by omega
      obtain ⟨β, hβ, hβ1, hβ0, hup⟩ := half_up n e
      have HUP := Lib.hid hup
      have HB1' := Lib.hid hβ1
      have HB0' := Lib.hid hβ0
      clear hup hβ1 hβ0
      obtain ⟨E, hE⟩ : ∃ E, n / 2 ^ (e + 1) = E := ⟨_, rfl⟩
      rw [hE] at HUP ⊢
      clear hE
      have HTE := Lib.hid (HTT.out E)
      rw [pw_two] at HTE
      have HTF := Lib.hid (HTA.out (2 * E))
      rw [pw_one] at HTF
      go_wp2_with fail
      refine (HTE.out _).mono ?_
      rintro ev w4 ⟨rfl, hb4⟩
      have HB4 := Lib.hid (HBW.out.trans (hb4.mono HBW.out.size))
      clear hb4
      go_wp2_with fail
      refine (HBT.out e (by omega) _).mono ?_
      rintro ev w5 ⟨rfl, rfl⟩
      by_cases hbit : bitB n e = true
      · have HBE := Lib.hid (HB1'.out hbit)
        rw [hbit]
        clear hbit
        go_wp2_with fail
        refine (HTF.out _).mono ?_
        rintro ev w6 ⟨rfl, hb6⟩
        have HB6 := Lib.hid (HB4.out.trans (hb6.mono HB4.out.size))
        clear hb6
        go_wp2
        go_roundw
        case rel => exact ⟨e, by omega, by rw [HUP.out, HBE.out], by go_num, HB6.out⟩
        case measure => simp [intOf] <;> omega
      · rw [Bool.not_eq_true] at hbit
        have HBE := Lib.hid (HB0'.out hbit)
        rw [hbit]
        clear hbit
        go_wp2
        go_roundw
        case rel => exact ⟨e, by omega, by rw [HUP.out, HBE.out, Nat.add_zero], by go_num, HB4.out⟩
        case measure => simp [intOf] <;> omega
    · obtain rfl : K = 0 := by omega
      have hneg : ((0 : Nat) : Int) - 1 = -1 := rfl
      rw [hneg, Nat.pow_zero, Nat.div_one]
      go_wp2
      go_ret
      exact ⟨rfl, HBW.out⟩

set_option maxRecDepth 100000 in
theorem r03_Exp (x n m : Nat) (hx8 : x < 256 ^ 128) (hy8 : n < 256 ^ 128) (hm8 : m < 18446744073709551616) (h0 : 0 < m) (w : World) : Calls Tryz.prog 124 #[.string (nS x), .string (nS n), .string (nS m)] w (Ret (.tuple #[.string (nS (x ^ n % m)), .int .i64 0]) w) := by
  have HC := Lib.hid (fun w => r03_check3 w (nS x) (nS n) (nS m) _ rfl (nvalid_nS.2 hx8) (nvalid_nS.2 hy8) (nS_valid_small hm8) (empty_nS h0))
  have HT := Lib.hid (r03_raise x n m hx8 hy8 hm8 h0)
  obtain ⟨s, hs⟩ : ∃ s, nS x = s := ⟨_, rfl⟩
  obtain ⟨t, ht⟩ : ∃ t, nS n = t := ⟨_, rfl⟩
  obtain ⟨u, hu⟩ : ∃ u, nS m = u := ⟨_, rfl⟩
  rw [hs, ht, hu] at HC HT
  rw [hs, ht, hu]
  clear hs ht hu hx8 hy8 hm8
  go_enter Tryz.func124, Tryz.ntmps124
  go_wp2_with fail
  refine (HC.out w).mono ?_
  rintro e w1 ⟨rfl, rfl⟩
  go_wp2_with fail
  refine (HT.out _).mono ?_
  rintro e w2 ⟨rfl, hb2⟩
  have HB2 := Lib.hid (((Below.refl w.heap.size w).alloc (Nat.le_refl _) _).trans (hb2.mono (by simp)))
  clear hb2
  go_wp2
  go_ret2
  exact ⟨rfl, HB2.out⟩
end Go.Proofs.YtnnfgphioapmnaaGreat

/- Walks: prime.mul, pow; dominoref04.AddMod, MulMod, ExpMod. -/
import Derived.Test.YtcbjadaghpmejaaDoorDiv
set_option linter.unusedVariables false
set_option linter.unusedSimpArgs false
namespace Go.Proofs.YtcbjadaghpmejaaDoor
open Go.RowKit

theorem mulmod_hi {a b m : Nat} (ha : a < m) (hb : b < m) (hm : m < 18446744073709551616) : a * b / 18446744073709551616 < m := by
  rw [Nat.div_lt_iff_lt_mul (by decide)]
  have h1 := Nat.mul_le_mul (Nat.le_of_lt ha) (show b ≤ 18446744073709551615 by omega)
  omega
set_option maxRecDepth 100000 in
theorem prime_mul (a b m : Nat) (ha : a < m) (hb : b < m) (hm8 : m < 18446744073709551616) (w : World) : Calls Tryd.prog 59 #[.int .u64 a, .int .u64 b, .int .u64 m] w (Ret (.int .u64 ((a * b % m : Nat) : Int)) w) := by
  have HM := Lib.hid (Tryd.bits_Mul64 a b (by omega) (by omega))
  have hlo : a * b % 18446744073709551616 < 18446744073709551616 := Nat.mod_lt _ (by decide)
  have HD := Lib.hid (bits_Div64 (a * b / 18446744073709551616) (a * b % 18446744073709551616) m hm8 hlo (mulmod_hi ha hb hm8))
  have HE := Lib.hid (show (a * b / 18446744073709551616 * 18446744073709551616 + a * b % 18446744073709551616) % m = a * b % m from by rw [Nat.mul_comm, Nat.div_add_mod])
  clear ha hb hm8 hlo
  go_enter Tryd.func59, Tryd.ntmps59
  go_wp2_with fail
  refine (HM.out _).mono ?_
  rintro e w1 ⟨rfl, rfl⟩
  obtain ⟨p, hp⟩ : ∃ p, a * b = p := ⟨_, rfl⟩
  rw [hp] at HD HE
  try rw [hp]
  have HP := Lib.hid hp
  go_wp2_with fail
  refine (HD.out _).mono ?_
  rintro e w2 ⟨q, rfl, hb2⟩
  have HB := Lib.hid hb2
  rw [HE.out]
  obtain ⟨r, hr⟩ : ∃ r, p % m = r := ⟨_, rfl⟩
  rw [hr]
  have HRR := Lib.hid hr
  clear hb2 hr hp
  go_wp2
  go_ret
  exact ⟨by rw [HP.out, HRR.out]; rfl, HB.out⟩

/-- One round of a power by squares. -/
theorem pw_odd {X A E m : Nat} (h : E % 2 = 1) : (X * A % m) * (A * A % m) ^ (E / 2) % m = X * A ^ E % m := by
  have e : E = 2 * (E / 2) + 1 := by omega
  conv => rhs; rw [e, Nat.pow_succ, Nat.pow_mul, Nat.pow_two]
  rw [Nat.mul_mod, Nat.mod_mod, ← Nat.pow_mod, ← Nat.mul_mod, Nat.mul_comm ((A * A) ^ (E / 2)), ← Nat.mul_assoc]
theorem pw_even {X A E m : Nat} (h : E % 2 = 0) : X * (A * A % m) ^ (E / 2) % m = X * A ^ E % m := by
  have e : E = 2 * (E / 2) := by omega
  conv => rhs; rw [e, Nat.pow_mul, Nat.pow_two]
  rw [Nat.mul_mod, ← Nat.pow_mod, ← Nat.mul_mod]
set_option maxRecDepth 100000 in
set_option maxHeartbeats 1000000 in
theorem prime_pow (a n m : Nat) (ha : a < m) (hn : n < 18446744073709551616) (hm8 : m < 18446744073709551616) (hm : 0 < m) (w : World) : Calls Tryd.prog 58 #[.int .u64 a, .int .u64 n, .int .u64 m] w (Ret (.int .u64 ((a ^ n % m : Nat) : Int)) w) := by
  have HMU := Lib.hid (fun a b (ha : a < m) (hb : b < m) => prime_mul a b m ha hb hm8)
  have hm1 : 1 % m < m := Nat.mod_lt _ hm
  obtain ⟨o, ho⟩ : ∃ o, 1 % m = o := ⟨_, rfl⟩
  have h1 : (1 : Int) % (m : Int) = (o : Int) := by rw [← ho]; rfl
  have hwo : IntKind.u64.wrap (o : Int) = (o : Int) := u64_wrap o (by omega)
  have hm0 : ¬ (m = 0) := by omega
  have HS := Lib.hid (show o * a ^ n % m = a ^ n % m from by rw [← ho, Nat.mul_mod, Nat.mod_mod, ← Nat.mul_mod, Nat.one_mul])
  rw [ho] at hm1
  have HO := Lib.hid hm1
  have HA := Lib.hid ha
  have HN := Lib.hid hn
  have HM8 := Lib.hid hm8
  clear ho hm1 ha hn hm8 hm
  go_enter Tryd.func58, Tryd.ntmps58
  go_wp2
  go_loopw [0, 1, 7] (fun a1 e1 x wr => ∃ X A E : Nat, x = .int .u64 X ∧ a1 = .int .u64 A ∧ e1 = .int .u64 E ∧ X < m ∧ A < m ∧ E < 18446744073709551616 ∧ X * A ^ E % m = a ^ n % m ∧ Below w.heap.size w wr) (fun _ e1 _ _ => (intOf e1).toNat)
  case atStart => exact ⟨o, a, n, by rw [h1], rfl, rfl, HO.out, HA.out, HN.out, HS.out, Below.refl _ _⟩
  case round =>
    obtain ⟨X, A, E, rfl, rfl, rfl, hX, hA, hE, hi, hB⟩ := hrel
    clear h1 hwo
    have HI := Lib.hid hi
    have HB := Lib.hid hB
    have HX := Lib.hid hX
    have HAA := Lib.hid hA
    have HE := Lib.hid hE
    clear hi hB hX hA
    by_cases h0 : 0 < E
    · have he2 : ((E : Int) / 2) = ((E / 2 : Nat) : Int) := by omega
      obtain ⟨H, hH⟩ : ∃ H, E / 2 = H := ⟨_, rfl⟩
      rw [hH] at he2
      have hwH : IntKind.u64.wrap (H : Int) = (H : Int) := u64_wrap H (by omega)
      have HH := Lib.hid hH
      have HM2 := Lib.hid (HMU.out A A HAA.out HAA.out)
      by_cases hp : E % 2 = 1
      · have hr : (E : Int) % 2 = 1 := by omega
        have HM1 := Lib.hid (HMU.out X A HX.out HAA.out)
        have HP := Lib.hid (pw_odd (X := X) (A := A) (m := m) hp)
        clear hp hH hE
        go_wp2_with fail
        refine (HM1.out _).mono ?_
        rintro ev w1 ⟨rfl, hb1⟩
        have HB1 := Lib.hid (HB.out.trans (hb1.mono HB.out.size))
        clear hb1
        obtain ⟨X1, hX1⟩ : ∃ X1, X * A % m = X1 := ⟨_, rfl⟩
        rw [hX1] at HP ⊢
        have HX1 := Lib.hid (show X1 < m from by rw [← hX1]; exact Nat.mod_lt _ (by omega))
        clear hX1
        go_wp2_with fail
        refine (HM2.out _).mono ?_
        rintro ev w2 ⟨rfl, hb2⟩
        have HB2 := Lib.hid (HB1.out.trans (hb2.mono HB1.out.size))
        clear hb2
        obtain ⟨A1, hA1⟩ : ∃ A1, A * A % m = A1 := ⟨_, rfl⟩
        rw [hA1] at HP ⊢
        have HA1 := Lib.hid (show A1 < m from by rw [← hA1]; exact Nat.mod_lt _ (by omega))
        clear hA1
        go_wp2
        go_roundw
        case rel => exact ⟨X1, A1, H, rfl, rfl, rfl, HX1.out, HA1.out, by have := HH.out; have := HE.out; omega, by rw [← HI.out, ← HP.out, HH.out], HB2.out⟩
        case measure => have := HH.out; simp [intOf] <;> omega
      · have hr : (E : Int) % 2 = 0 := by omega
        have HP := Lib.hid (pw_even (X := X) (A := A) (E := E) (m := m) (by omega))
        clear hp hH hE
        go_wp2_with fail
        refine (HM2.out _).mono ?_
        rintro ev w2 ⟨rfl, hb2⟩
        have HB2 := Lib.hid (HB.out.trans (hb2.mono HB.out.size))
        clear hb2
        obtain ⟨A1, hA1⟩ : ∃ A1, A * A % m = A1 := ⟨_, rfl⟩
        rw [hA1] at HP ⊢
        have HA1 := Lib.hid (show A1 < m from by rw [← hA1]; exact Nat.mod_lt _ (by omega))
        clear hA1
        go_wp2
        go_roundw
        case rel => exact ⟨X, A1, H, rfl, rfl, rfl, HX.out, HA1.out, by have := HH.out; have := HE.out; omega, by rw [← HI.out, ← HP.out, HH.out], HB2.out⟩
        case measure => have := HH.out; simp [intOf] <;> omega
    · obtain rfl : E = 0 := by omega
      have HF := Lib.hid (show X = a ^ n % m from by rw [← HI.out, Nat.pow_zero, Nat.mul_one, Nat.mod_eq_of_lt HX.out])
      clear h0 hE
      go_wp2
      go_ret
      exact ⟨by rw [← HF.out]; rfl, HB.out⟩

set_option maxRecDepth 100000 in
theorem r04_AddMod (a b m : Nat) (ha : a < m) (hb : b < m) (hm8 : m < 18446744073709551616) (w : World) : Calls Tryd.prog 98 #[.int .u64 a, .int .u64 b, .int .u64 m] w (Ret (.int .u64 (((a + b) % m : Nat) : Int)) w) := by
  have e1 : (m : Int) - (b : Int) = ((m - b : Nat) : Int) := by omega
  obtain ⟨c, hc⟩ : ∃ c, m - b = c := ⟨_, rfl⟩
  rw [hc] at e1
  have hw1 : IntKind.u64.wrap (c : Int) = (c : Int) := u64_wrap c (by omega)
  by_cases h : c ≤ a
  · have e2 : (a : Int) - (c : Int) = (((a + b) % m : Nat) : Int) := by
      have : (a + b) % m = a + b - m := by rw [Nat.mod_eq_sub_mod (by omega), Nat.mod_eq_of_lt (by omega)]
      omega
    obtain ⟨r, hr⟩ : ∃ r, (a + b) % m = r := ⟨_, rfl⟩
    rw [hr] at e2 ⊢
    have hw2 : IntKind.u64.wrap (r : Int) = (r : Int) := u64_wrap r (by omega)
    have h' : decide ((c : Int) ≤ (a : Int)) = true := decide_eq_true (by omega)
    clear hc hr h ha hb hm8
    go_enter Tryd.func98, Tryd.ntmps98
    go_wp2
    go_ret
    exact ⟨rfl, Below.refl _ _⟩
  · have e2 : (a : Int) + (b : Int) = (((a + b) % m : Nat) : Int) := by
      have : (a + b) % m = a + b := Nat.mod_eq_of_lt (by omega)
      omega
    obtain ⟨r, hr⟩ : ∃ r, (a + b) % m = r := ⟨_, rfl⟩
    rw [hr] at e2 ⊢
    have hw2 : IntKind.u64.wrap (r : Int) = (r : Int) := u64_wrap r (by omega)
    have h' : decide (c ≤ a) = false := decide_eq_false h
    have h'' : ¬ ((c : Int) ≤ (a : Int)) := by omega
    clear hc hr h ha hb hm8
    go_enter Tryd.func98, Tryd.ntmps98
    go_wp2
    go_ret
    exact ⟨rfl, Below.refl _ _⟩
theorem add_odd {X A E m : Nat} (h : E % 2 = 1) : ((X + A) % m + (A + A) % m * (E / 2)) % m = (X + A * E) % m := by
  have e : A * E = A + (A + A) * (E / 2) := by
    conv => lhs; rw [show E = 1 + 2 * (E / 2) from by omega]
    rw [Nat.mul_add, Nat.mul_one, ← Nat.mul_assoc, Nat.mul_two]
  rw [e, ← Nat.add_assoc, Nat.add_mod ((X + A) % m), Nat.mod_mod, Nat.mod_mul_mod, ← Nat.add_mod]
theorem add_even {X A E m : Nat} (h : E % 2 = 0) : (X + (A + A) % m * (E / 2)) % m = (X + A * E) % m := by
  have e : A * E = (A + A) * (E / 2) := by
    conv => lhs; rw [show E = 2 * (E / 2) from by omega]
    rw [← Nat.mul_assoc, Nat.mul_two]
  rw [e, Nat.add_mod X, Nat.mod_mul_mod, ← Nat.add_mod]
set_option maxRecDepth 100000 in
set_option maxHeartbeats 1000000 in
theorem r04_MulMod (a b m : Nat) (ha : a < m) (hb : b < m) (hm8 : m < 18446744073709551616) (w : World) : Calls Tryd.prog 86 #[.int .u64 a, .int .u64 b, .int .u64 m] w (Ret (.int .u64 ((a * b % m : Nat) : Int)) w) := by
  have hm0 : ¬ (m = 0) := by omega
  by_cases h32 : m < 4294967296
  · have h1 : a * b < 18446744073709551616 := by
      have := Nat.mul_le_mul (show a ≤ 4294967295 by omega) (show b ≤ 4294967295 by omega)
      omega
    have e1 : (a : Int) * (b : Int) = ((a * b : Nat) : Int) := by rw [Int.natCast_mul]
    obtain ⟨p, hp⟩ : ∃ p, a * b = p := ⟨_, rfl⟩
    rw [hp] at e1 h1 ⊢
    have hw1 : IntKind.u64.wrap (p : Int) = (p : Int) := u64_wrap p h1
    have e2 : (p : Int) % (m : Int) = ((p % m : Nat) : Int) := rfl
    obtain ⟨r, hr⟩ : ∃ r, p % m = r := ⟨_, rfl⟩
    have hr8 : r < 18446744073709551616 := by rw [← hr]; exact Nat.lt_trans (Nat.mod_lt _ (by omega)) hm8
    rw [hr] at e2 ⊢
    have hw2 : IntKind.u64.wrap (r : Int) = (r : Int) := u64_wrap r hr8
    have h32' : decide ((m : Int) < 4294967296) = true := decide_eq_true (by omega)
    clear hp hr h1 hr8 h32 ha hb hm8
    go_enter Tryd.func86, Tryd.ntmps86
    go_wp2
    go_ret
    exact ⟨by show Ending.returned (Value.int IntKind.u64 ((p : Int) % (m : Int))) = _; rw [e2], Below.refl _ _⟩
  · have HMU := Lib.hid (fun a b (ha : a < m) (hb : b < m) => r04_AddMod a b m ha hb hm8)
    have h32' : decide ((m : Int) < 4294967296) = false := decide_eq_false (by omega)
    have HA := Lib.hid ha
    have HN := Lib.hid (Nat.lt_trans hb hm8)
    clear ha hb hm8 h32
    go_enter Tryd.func86, Tryd.ntmps86
    go_wp2
    go_loopw [0, 1, 7] (fun a1 e1 x wr => ∃ X A E : Nat, x = .int .u64 X ∧ a1 = .int .u64 A ∧ e1 = .int .u64 E ∧ X < m ∧ A < m ∧ E < 18446744073709551616 ∧ (X + A * E) % m = a * b % m ∧ Below w.heap.size w wr) (fun _ e1 _ _ => (intOf e1).toNat)
    case atStart => exact ⟨0, a, b, rfl, rfl, rfl, by have := HA.out; omega, HA.out, HN.out, by rw [Nat.zero_add], Below.refl _ _⟩
    case round =>
      obtain ⟨X, A, E, rfl, rfl, rfl, hX, hA, hE, hi, hB⟩ := hrel
      have HI := Lib.hid hi
      have HB := Lib.hid hB
      have HX := Lib.hid hX
      have HAA := Lib.hid hA
      have HE := Lib.hid hE
      clear hi hB hX hA
      by_cases h0 : 0 < E
      · have he2 : ((E : Int) / 2) = ((E / 2 : Nat) : Int) := by omega
        obtain ⟨H, hH⟩ : ∃ H, E / 2 = H := ⟨_, rfl⟩
        rw [hH] at he2
        have hwH : IntKind.u64.wrap (H : Int) = (H : Int) := u64_wrap H (by omega)
        have HH := Lib.hid hH
        have HM2 := Lib.hid (HMU.out A A HAA.out HAA.out)
        by_cases hp : E % 2 = 1
        · have hr : (E : Int) % 2 = 1 := by omega
          have HM1 := Lib.hid (HMU.out X A HX.out HAA.out)
          have HP := Lib.hid (add_odd (X := X) (A := A) (m := m) hp)
          clear hp hH hE
          go_wp2_with fail
          refine (HM1.out _).mono ?_
          rintro ev w1 ⟨rfl, hb1⟩
          have HB1 := Lib.hid (HB.out.trans (hb1.mono HB.out.size))
          clear hb1
          obtain ⟨X1, hX1⟩ : ∃ X1, (X + A) % m = X1 := ⟨_, rfl⟩
          rw [hX1] at HP ⊢
          have HX1 := Lib.hid (show X1 < m from by rw [← hX1]; exact Nat.mod_lt _ (by omega))
          clear hX1
          go_wp2_with fail
          refine (HM2.out _).mono ?_
          rintro ev w2 ⟨rfl, hb2⟩
          have HB2 := Lib.hid (HB1.out.trans (hb2.mono HB1.out.size))
          clear hb2
          obtain ⟨A1, hA1⟩ : ∃ A1, (A + A) % m = A1 := ⟨_, rfl⟩
          rw [hA1] at HP ⊢
          have HA1 := Lib.hid (show A1 < m from by rw [← hA1]; exact Nat.mod_lt _ (by omega))
          clear hA1
          go_wp2
          go_roundw
          case rel => exact ⟨X1, A1, H, rfl, rfl, rfl, HX1.out, HA1.out, by have := HH.out; have := HE.out; omega, by rw [← HI.out, ← HP.out, HH.out], HB2.out⟩
          case measure => have := HH.out; simp [intOf] <;> omega
        · have hr : (E : Int) % 2 = 0 := by omega
          have HP := Lib.hid (add_even (X := X) (A := A) (E := E) (m := m) (by omega))
          clear hp hH hE
          go_wp2_with fail
          refine (HM2.out _).mono ?_
          rintro ev w2 ⟨rfl, hb2⟩
          have HB2 := Lib.hid (HB.out.trans (hb2.mono HB.out.size))
          clear hb2
          obtain ⟨A1, hA1⟩ : ∃ A1, (A + A) % m = A1 := ⟨_, rfl⟩
          rw [hA1] at HP ⊢
          have HA1 := Lib.hid (show A1 < m from by rw [← hA1]; exact Nat.mod_lt _ (by omega))
          clear hA1
          go_wp2
          go_roundw
          case rel => exact ⟨X, A1, H, rfl, rfl, rfl, HX.out, HA1.out, by have := HH.out; have := HE.out; omega, by rw [← HI.out, ← HP.out, HH.out], HB2.out⟩
          case measure => have := HH.out; simp [intOf] <;> omega
      · obtain rfl : E = 0 := by omega
        have HF := Lib.hid (show X = a * b % m from by rw [← HI.out, Nat.mul_zero, Nat.add_zero, Nat.mod_eq_of_lt HX.out])
        clear h0 hE
        go_wp2
        go_ret
        exact ⟨by rw [← HF.out]; rfl, HB.out⟩
set_option maxRecDepth 100000 in
set_option maxHeartbeats 1000000 in
theorem r04_ExpMod (a n m : Nat) (ha : a < m) (hn : n < 18446744073709551616) (hm8 : m < 18446744073709551616) (hm : 0 < m) (w : World) : Calls Tryd.prog 85 #[.int .u64 a, .int .u64 n, .int .u64 m] w (Ret (.int .u64 ((a ^ n % m : Nat) : Int)) w) := by
  have HMU := Lib.hid (fun a b (ha : a < m) (hb : b < m) => r04_MulMod a b m ha hb hm8)
  have hm1 : 1 % m < m := Nat.mod_lt _ hm
  obtain ⟨o, ho⟩ : ∃ o, 1 % m = o := ⟨_, rfl⟩
  have h1 : (1 : Int) % (m : Int) = (o : Int) := by rw [← ho]; rfl
  have hwo : IntKind.u64.wrap (o : Int) = (o : Int) := u64_wrap o (by omega)
  have hm0 : ¬ (m = 0) := by omega
  have HS := Lib.hid (show o * a ^ n % m = a ^ n % m from by rw [← ho, Nat.mul_mod, Nat.mod_mod, ← Nat.mul_mod, Nat.one_mul])
  rw [ho] at hm1
  have HO := Lib.hid hm1
  have HA := Lib.hid ha
  have HN := Lib.hid hn
  have HM8 := Lib.hid hm8
  clear ho hm1 ha hn hm8 hm
  go_enter Tryd.func85, Tryd.ntmps85
  go_wp2
  go_loopw [0, 1, 7] (fun a1 e1 x wr => ∃ X A E : Nat, x = .int .u64 X ∧ a1 = .int .u64 A ∧ e1 = .int .u64 E ∧ X < m ∧ A < m ∧ E < 18446744073709551616 ∧ X * A ^ E % m = a ^ n % m ∧ Below w.heap.size w wr) (fun _ e1 _ _ => (intOf e1).toNat)
  case atStart => exact ⟨o, a, n, by rw [h1], rfl, rfl, HO.out, HA.out, HN.out, HS.out, Below.refl _ _⟩
  case round =>
    obtain ⟨X, A, E, rfl, rfl, rfl, hX, hA, hE, hi, hB⟩ := hrel
    clear h1 hwo
    have HI := Lib.hid hi
    have HB := Lib.hid hB
    have HX := Lib.hid hX
    have HAA := Lib.hid hA
    have HE := Lib.hid hE
    clear hi hB hX hA
    by_cases h0 : 0 < E
    · have he2 : ((E : Int) / 2) = ((E / 2 : Nat) : Int) := by omega
      obtain ⟨H, hH⟩ : ∃ H, E / 2 = H := ⟨_, rfl⟩
      rw [hH] at he2
      have hwH : IntKind.u64.wrap (H : Int) = (H : Int) := u64_wrap H (by omega)
      have HH := Lib.hid hH
      have HM2 := Lib.hid (HMU.out A A HAA.out HAA.out)
      by_cases hp : E % 2 = 1
      · have hr : (E : Int) % 2 = 1 := by omega
        have HM1 := Lib.hid (HMU.out X A HX.out HAA.out)
        have HP := Lib.hid (pw_odd (X := X) (A := A) (m := m) hp)
        clear hp hH hE
        go_wp2_with fail
        refine (HM1.out _).mono ?_
        rintro ev w1 ⟨rfl, hb1⟩
        have HB1 := Lib.hid (HB.out.trans (hb1.mono HB.out.size))
        clear hb1
        obtain ⟨X1, hX1⟩ : ∃ X1, X * A % m = X1 := ⟨_, rfl⟩
        rw [hX1] at HP ⊢
        have HX1 := Lib.hid (show X1 < m from by rw [← hX1]; exact Nat.mod_lt _ (by omega))
        clear hX1
        go_wp2_with fail
        refine (HM2.out _).mono ?_
        rintro ev w2 ⟨rfl, hb2⟩
        have HB2 := Lib.hid (HB1.out.trans (hb2.mono HB1.out.size))
        clear hb2
        obtain ⟨A1, hA1⟩ : ∃ A1, A * A % m = A1 := ⟨_, rfl⟩
        rw [hA1] at HP ⊢
        have HA1 := Lib.hid (show A1 < m from by rw [← hA1]; exact Nat.mod_lt _ (by omega))
        clear hA1
        go_wp2
        go_roundw
        case rel => exact ⟨X1, A1, H, rfl, rfl, rfl, HX1.out, HA1.out, by have := HH.out; have := HE.out; omega, by rw [← HI.out, ← HP.out, HH.out], HB2.out⟩
        case measure => have := HH.out; simp [intOf] <;> omega
      · have hr : (E : Int) % 2 = 0 := by omega
        have HP := Lib.hid (pw_even (X := X) (A := A) (E := E) (m := m) (by omega))
        clear hp hH hE
        go_wp2_with fail
        refine (HM2.out _).mono ?_
        rintro ev w2 ⟨rfl, hb2⟩
        have HB2 := Lib.hid (HB.out.trans (hb2.mono HB.out.size))
        clear hb2
        obtain ⟨A1, hA1⟩ : ∃ A1, A * A % m = A1 := ⟨_, rfl⟩
        rw [hA1] at HP ⊢
        have HA1 := Lib.hid (show A1 < m from by rw [← hA1]; exact Nat.mod_lt _ (by omega))
        clear hA1
        go_wp2
        go_roundw
        case rel => exact ⟨X, A1, H, rfl, rfl, rfl, HX.out, HA1.out, by have := HH.out; have := HE.out; omega, by rw [← HI.out, ← HP.out, HH.out], HB2.out⟩
        case measure => have := HH.out; simp [intOf] <;> omega
    · obtain rfl : E = 0 := by omega
      have HF := Lib.hid (show X = a ^ n % m from by rw [← HI.out, Nat.pow_zero, Nat.mul_one, Nat.mod_eq_of_lt HX.out])
      clear h0 hE
      go_wp2
      go_ret
      exact ⟨by rw [← HF.out]; rfl, HB.out⟩
end Go.Proofs.YtcbjadaghpmejaaDoor

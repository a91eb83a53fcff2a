/- The primality test's plain law; walk: prime.is. -/
import Derived.Test.YtpdejgdkpghjhaaGreatDoorQTz
import Derived.Test.YtpdejgdkpghjhaaGreatDoorQHaB
import Derived.Deep.DeepCutAuto
import Derived.Deep.CutBlock
import Derived.Test.YtpdejgdkpghjhaaGreatDoorQPeEA
import Derived.Test.YtpdejgdkpghjhaaGreatDoorQPeCA
set_option linter.unusedVariables false
set_option linter.unusedSimpArgs false
namespace Go.Proofs.YtpdejgdkpghjhaaGreatDoor
open Go.RowKit
def strongB (n a s d : Nat) : Bool := decide (a ^ d % n = 1) || (List.range s).any (fun i => decide (a ^ (d * 2 ^ i) % n = n - 1))
theorem strong_one {n a s d : Nat} (h : a ^ d % n = 1) : strongB n a s d = true := by unfold strongB; rw [decide_eq_true h]; rfl
theorem strong_at {n a s d i : Nat} (hi : i < s) (h : a ^ (d * 2 ^ i) % n = n - 1) : strongB n a s d = true := by
  unfold strongB
  rw [show (List.range s).any (fun i => decide (a ^ (d * 2 ^ i) % n = n - 1)) = true from List.any_eq_true.2 ⟨i, List.mem_range.2 hi, decide_eq_true h⟩, Bool.or_true]
theorem strong_no {n a s d : Nat} (h : ¬ (a ^ d % n = 1)) (h2 : ∀ i, i < s → ¬ (a ^ (d * 2 ^ i) % n = n - 1)) : strongB n a s d = false := by
  unfold strongB
  rw [decide_eq_false h, Bool.false_or, List.any_eq_false]
  intro i hi
  rw [decide_eq_false (h2 i (List.mem_range.1 hi))]
  decide
def v2F : Nat → Nat → Nat
  | 0, _ => 0
  | f + 1, m => if m % 2 = 0 then v2F f (m / 2) + 1 else 0
theorem v2F_spec : ∀ (f m : Nat), 0 < m → m < 2 ^ f → 2 ^ v2F f m * (m / 2 ^ v2F f m) = m ∧ m / 2 ^ v2F f m % 2 = 1
  | 0, m, h0, h => by simp at h; omega
  | f + 1, m, h0, h => by
    unfold v2F
    by_cases h2 : m % 2 = 0
    · rw [if_pos h2]
      obtain ⟨h3, h4⟩ := v2F_spec f (m / 2) (by omega) (by rw [Nat.pow_succ] at h; omega)
      rw [Nat.pow_succ', ← Nat.div_div_eq_div_mul]
      refine ⟨?_, h4⟩
      rw [Nat.mul_assoc, h3]
      omega
    · rw [if_neg h2, Nat.pow_zero, Nat.div_one, Nat.one_mul]
      exact ⟨rfl, by omega⟩
def sN (n : Nat) : Nat := v2F 64 (n - 1)
def dN (n : Nat) : Nat := (n - 1) / 2 ^ sN n
theorem sd_spec {n : Nat} (h2 : 2 ≤ n) (h8 : n < 18446744073709551616) : 2 ^ sN n * dN n = n - 1 ∧ dN n % 2 = 1 := v2F_spec 64 (n - 1) (by omega) (by omega)
def allB (n : Nat) : Bool := (List.range 12).all fun j => strongB n (bsN j) (sN n) (dN n)
theorem allB_no {n j : Nat} (hj : j < 12) (h : strongB n (bsN j) (sN n) (dN n) = false) : allB n = false := by
  unfold allB
  rw [List.all_eq_false]
  exact ⟨j, List.mem_range.2 hj, by rw [h]; decide⟩
theorem allB_yes {n : Nat} (h : ∀ j, j < 12 → strongB n (bsN j) (sN n) (dN n) = true) : allB n = true := by
  unfold allB
  rw [List.all_eq_true]
  exact fun j hj => h j (List.mem_range.1 hj)
def isN (n : Nat) : Bool := if n < 2 then false else match (List.range 12).find? (fun j => decide (n % bsN j = 0)) with
  | some j => decide (n = bsN j)
  | none => allB n
theorem isN_lt {n : Nat} (h : n < 2) : isN n = false := by unfold isN; rw [if_pos h]
theorem isN_cases {n : Nat} (h : 2 ≤ n) : (∃ i, i < 12 ∧ n % bsN i = 0 ∧ (∀ j, j < i → ¬ (n % bsN j = 0)) ∧ isN n = decide (n = bsN i)) ∨ ((∀ j, j < 12 → ¬ (n % bsN j = 0)) ∧ isN n = allB n) := by
  unfold isN
  rw [if_neg (by omega)]
  cases hf : (List.range 12).find? (fun j => decide (n % bsN j = 0)) with
  | none =>
    refine .inr ⟨fun j hj hd => ?_, rfl⟩
    rw [List.find?_eq_none] at hf
    exact hf j (List.mem_range.2 hj) (decide_eq_true hd)
  | some i =>
    rw [List.find?_range_eq_some] at hf
    obtain ⟨h1, h2, h3⟩ := hf
    refine .inl ⟨i, List.mem_range.1 h2, of_decide_eq_true h1, fun j hj hd => ?_, rfl⟩
    have := h3 j hj
    rw [decide_eq_true hd] at this
    cases this
theorem isN_pos {n : Nat} (h : isN n = true) : 2 ≤ n := by
  rcases Nat.lt_or_ge n 2 with a | a
  · rw [isN_lt a] at h; cases h
  · exact a
theorem no_small : ∀ n : Fin 38, 2 ≤ n.val → ∃ j : Fin 12, n.val % bsN j.val = 0 := by decide +kernel
theorem big_of {n : Nat} (h : 2 ≤ n) (hno : ∀ j, j < 12 → ¬ (n % bsN j = 0)) : 38 ≤ n := by
  rcases Nat.lt_or_ge n 38 with a | a
  · obtain ⟨j, hj⟩ := no_small ⟨n, a⟩ h
    exact absurd hj (hno j.val j.isLt)
  · exact a
theorem sq_mod (a d i n : Nat) : a ^ (d * 2 ^ i) % n * (a ^ (d * 2 ^ i) % n) % n = a ^ (d * 2 ^ (i + 1)) % n := by
  rw [← Nat.mul_mod, ← Nat.pow_add, Nat.pow_succ, ← Nat.mul_assoc, Nat.mul_two]
theorem first_hit {P : Nat → Prop} {s : Nat} (hs : 0 < s) (h0 : ¬ P 0) : ∃ t, 1 ≤ t ∧ t ≤ s ∧ (∀ i, i < t → ¬ P i) ∧ (t < s → P t) := by
  have : ∀ k, k + 1 ≤ s → ((∀ i, i < k + 1 → ¬ P i) ∨ ∃ t, 1 ≤ t ∧ t < s ∧ (∀ i, i < t → ¬ P i) ∧ P t) := by
    intro k
    induction k with
    | zero => intro _; exact .inl fun i hi => by obtain rfl : i = 0 := (by omega); exact h0
    | succ k ih =>
      intro hk
      rcases ih (by omega) with h | h
      · rcases Classical.em (P (k + 1)) with hp | hp
        · exact .inr ⟨k + 1, by omega, by omega, h, hp⟩
        · exact .inl fun i hi => by
            rcases Nat.lt_or_ge i (k + 1) with a | a
            · exact h i a
            · obtain rfl : i = k + 1 := by omega
              exact hp
      · exact .inr h
  rcases this (s - 1) (by omega) with h | ⟨t, h1, h2, h3, h4⟩
  · exact ⟨s, hs, Nat.le_refl _, fun i hi => h i (by omega), fun h => absurd h (Nat.lt_irrefl _)⟩
  · exact ⟨t, h1, Nat.le_of_lt h2, h3, fun _ => h4⟩
set_option maxRecDepth 100000 in
set_option maxHeartbeats 4000000 in
theorem prime_is_big (n : Nat) (h2 : 2 ≤ n) (h8 : n < 18446744073709551616) (hno : ∀ j, j < 12 → ¬ (n % bsN j = 0)) (w : World) (htab : TabAt w) : Calls Tryz.prog 131 #[.int .u64 n] w (Ret (.bool (allB n)) w) := by
  have h38 := big_of h2 hno
  obtain ⟨hsd, hdo⟩ := sd_spec h2 h8
  have hAN := Lib.hid (fun j hj => allB_no (n := n) (j := j) hj)
  have hAY := Lib.hid (allB_yes (n := n))
  obtain ⟨s, hs⟩ : ∃ s, sN n = s := ⟨_, rfl⟩
  obtain ⟨d, hd⟩ : ∃ d, dN n = d := ⟨_, rfl⟩
  rw [hs, hd] at hsd hAN hAY
  rw [hd] at hdo
  clear hs hd
  obtain ⟨q, hq⟩ : ∃ q, d = 2 * q + 1 := ⟨d / 2, by omega⟩
  have hX : n - 1 = 2 ^ (s + 1) * q + 2 ^ s := by rw [← hsd, hq, Nat.pow_succ, Nat.mul_add, Nat.mul_one, Nat.mul_assoc]
  have hTZ := fun (w : World) (h : TabAt w) => bits_tz s q (by omega) w h
  have hs1 : 0 < s := by
    rcases Nat.eq_zero_or_pos s with e | e
    · rw [e, Nat.pow_zero, Nat.one_mul] at hsd
      have := hno 0 (by omega)
      rw [show bsN 0 = 2 from rfl] at this
      omega
    · exact e
  have hs64 : s < 64 := by
    rcases Nat.lt_or_ge s 64 with a | a
    · exact a
    · have b : 2 ^ 64 ≤ 2 ^ s := Nat.pow_le_pow_right (by decide) a
      omega
  obtain ⟨X, hXX⟩ : ∃ X, n - 1 = X := ⟨_, rfl⟩
  rw [← hX, hXX] at hTZ
  rw [hXX] at hsd
  have hdX : X / 2 ^ s = d := by rw [← hsd, Nat.mul_comm]; exact Nat.mul_div_cancel _ (Nat.two_pow_pos s)
  have e1 : (n : Int) - 1 = (X : Int) := by omega
  have hX8 : X < 18446744073709551616 := by omega
  have hd8 : d < 18446744073709551616 := by rw [← hdX]; exact Nat.lt_of_le_of_lt (Nat.div_le_self _ _) hX8
  have hwX : IntKind.u64.wrap (X : Int) = (X : Int) := u64_wrap X hX8
  have hwd : IntKind.u64.wrap (d : Int) = (d : Int) := u64_wrap d hd8
  have HTZ := Lib.hid hTZ
  have HNO := Lib.hid hno
  have HDX := Lib.hid hdX
  have HTAB := Lib.hid htab
  have HN1 := Lib.hid hXX
  have hn2 : ((n : Int) < 2) = False := eq_false (by omega)
  clear hno hTZ hX hq hdo hsd htab hXX hdX
  go_enter Tryz.func131, Tryz.ntmps131
  go_wp2
  go_step3
  go_wp2_with fail
  refine (prime_bases _).mono ?_
  rintro e w1 ⟨rfl, hb1⟩
  have HB1 := Lib.hid hb1
  clear hb1
  go_wp2
  go_loop [4, 14] (fun p k => ∃ j : Nat, j ≤ 12 ∧ k = .int .i64 j) (fun p k => 12 - (intOf k).toNat)
  case atStart => exact ⟨0, Nat.zero_le _, rfl⟩
  case round =>
    obtain ⟨j, hj, rfl⟩ := hrel
    by_cases hji : j < 12
    · have hidx := fun (w : World) => bs_index (j := j) hji w
      have hp := bs_pos (j := j) hji
      obtain ⟨p, hp'⟩ : ∃ p, bsN j = p := ⟨_, rfl⟩
      obtain ⟨r, hr⟩ : ∃ r, n % p = r := ⟨_, rfl⟩
      have hrr : (n : Int) % (p : Int) = (r : Int) := by rw [← hr]; rfl
      have hr8 : r < 18446744073709551616 := by rw [← hr]; exact Nat.lt_trans (Nat.mod_lt _ (by omega)) (by omega)
      have hwx : IntKind.u64.wrap (r : Int) = (r : Int) := u64_wrap r hr8
      have hp0 : ¬ (p = 0) := by omega
      have hlt : ((j : Int) < 12) = True := eq_true (by omega)
      have hr0 : ((r : Int) == 0) = false := by
        rw [beq_eq_false_iff_ne]
        have := HNO.out j hji
        rw [hp', hr] at this
        omega
      rw [hp'] at hidx
      clear hp' hr hp hr8
      go_wp2
      go_round
      case rel => exact ⟨j + 1, by omega, by go_num⟩
      case measure => simp [intOf]; omega
    · obtain rfl : j = 12 := by omega
      clear hji hj
      go_wp2_with fail
      refine (HTZ.out _ (HTAB.out.kept HB1.out (Nat.le_refl _))).mono ?_
      rintro e w2 ⟨rfl, rfl⟩
      have hdI : (X : Int) / 2 ^ s = (d : Int) := by rw [← HDX.out, Int.natCast_ediv, Int.natCast_pow]; rfl
      go_wp2
      clear hdI
      go_step3
      go_wp2_with fail
      refine (prime_bases _).mono ?_
      rintro e w2 ⟨rfl, hb2⟩
      have HB2 := Lib.hid (HB1.out.trans (hb2.mono HB1.out.size))
      clear hb2
      go_wp2
      go_loopw [33] (fun k wr => ∃ j : Nat, j ≤ 12 ∧ k = .int .i64 j ∧ (∀ i, i < j → strongB n (bsN i) s d = true) ∧ Below w.heap.size w wr) (fun k _ => 12 - (intOf k).toNat)
      case atStart => exact ⟨0, Nat.zero_le _, rfl, fun _ h => absurd h (Nat.not_lt_zero _), HB2.out⟩
      case round =>
        obtain ⟨j, hj, rfl, hall, hB⟩ := hrel
        have HALL := Lib.hid hall
        have HB := Lib.hid hB
        clear hall hB
        by_cases hji : j < 12
        · have hlt : ((j : Int) < 12) = True := eq_true (by omega)
          have hidx := fun (w : World) => bs_index (j := j) hji w
          have hp := bs_pos (j := j) hji
          obtain ⟨p, hp'⟩ : ∃ p, bsN j = p := ⟨_, rfl⟩
          rw [hp'] at hidx hp
          have hpm : (p : Int) % (n : Int) = (p : Int) := Int.emod_eq_of_lt (by omega) (by omega)
          have hwp : IntKind.u64.wrap (p : Int) = (p : Int) := u64_wrap p (by omega)
          have hn0 : ¬ (n = 0) := by omega
          have HPW := Lib.hid (prime_pow p d n (by omega) hd8 h8 (by omega))
          have HMU := Lib.hid (fun x (hx : x < n) => prime_mul x x n hx hx h8)
          have HPJ := Lib.hid hp'
          clear hp' hp
          go_wp2_with fail
          refine (HPW.out _).mono ?_
          rintro e w3 ⟨rfl, hb3⟩
          have HB3 := Lib.hid (HB.out.trans (hb3.mono HB.out.size))
          have hx0 : p ^ d % n < n := Nat.mod_lt _ (by omega)
          obtain ⟨x, hx⟩ : ∃ x, p ^ d % n = x := ⟨_, rfl⟩
          rw [hx] at hx0 ⊢
          have hnext : strongB n p s d = true → ∀ i, i < j + 1 → strongB n (bsN i) s d = true := fun hst i hi => by
            rcases Nat.lt_or_ge i j with a | a
            · exact HALL.out i a
            · obtain rfl : i = j := by omega
              rw [HPJ.out]; exact hst
          have HNX := Lib.hid hnext
          have HX := Lib.hid hx
          have HX0 := Lib.hid hx0
          clear hb3 hnext hx hx0 hpm hwp
          by_cases hc1 : x = 1
          · have ht1 : ((x : Int) == 1) = true := by rw [hc1]; rfl
            have HST := Lib.hid (strong_one (s := s) (HX.out.trans hc1))
            clear hc1
            go_wp2
            go_roundw
            case rel => exact ⟨j + 1, by omega, by go_num, HNX.out HST.out, HB3.out⟩
            case measure => simp [intOf]; omega
          · have ht1 : ((x : Int) == 1) = false := by rw [beq_eq_false_iff_ne]; omega
            have HC1 := Lib.hid hc1
            clear hc1
            by_cases hc2 : x = X
            · have ht2 : ((x : Int) == (X : Int)) = true := by rw [hc2]; exact beq_self_eq_true _
              have HST := Lib.hid (strong_at (n := n) (a := p) (d := d) (i := 0) hs1 (by rw [Nat.pow_zero, Nat.mul_one, HX.out, hc2, HN1.out]))
              clear hc2
              go_wp2
              go_roundw
              case rel => exact ⟨j + 1, by omega, by go_num, HNX.out HST.out, HB3.out⟩
              case measure => simp [intOf]; omega
            · have ht2 : ((x : Int) == (X : Int)) = false := by rw [beq_eq_false_iff_ne]; omega
              obtain ⟨t, ht, hts, htn, hte⟩ : ∃ t, 1 ≤ t ∧ t ≤ s ∧ (∀ i, i < t → ¬ (p ^ (d * 2 ^ i) % n = X)) ∧ (t < s → p ^ (d * 2 ^ t) % n = X) :=
                first_hit (P := fun i => p ^ (d * 2 ^ i) % n = X) hs1 (by rw [Nat.pow_zero, Nat.mul_one, HX.out]; exact hc2)
              have HTN := Lib.hid htn
              have HTE := Lib.hid hte
              clear hc2 htn hte
              go_wp2
              go_loopw [9, 10] (fun x i wr => ∃ (i' x' : Nat), 1 ≤ i' ∧ i' ≤ t ∧ i = .int .i64 i' ∧ x = .int .u64 x' ∧ x' = p ^ (d * 2 ^ (i' - 1)) % n ∧ Below w.heap.size w wr) (fun _ i _ => t - (intOf i).toNat)
              case atStart => exact ⟨1, x, Nat.le_refl _, ht, rfl, rfl, by rw [Nat.sub_self, Nat.pow_zero, Nat.mul_one, HX.out], HB3.out⟩
              case round =>
                obtain ⟨i', x', hi1, hit, rfl, rfl, hx', hB⟩ := hrel
                have HX' := Lib.hid hx'
                have HB := Lib.hid hB
                clear hx' hB ht1 ht2
                by_cases his : i' < s
                · have hlti : ((i' : Int) < (s : Int)) = True := eq_true (by omega)
                  have HM1 := Lib.hid (HMU.out x' (by rw [HX'.out]; exact Nat.mod_lt _ (by omega)))
                  have hr : x' * x' % n = p ^ (d * 2 ^ i') % n := by
                    rw [HX'.out, sq_mod, show i' - 1 + 1 = i' from by omega]
                  obtain ⟨y, hy⟩ : ∃ y, x' * x' % n = y := ⟨_, rfl⟩
                  rw [hy] at hr
                  have HY := Lib.hid hy
                  have HR := Lib.hid hr
                  clear hy hr
                  go_wp2_with fail
                  refine (HM1.out _).mono ?_
                  rintro e w4 ⟨rfl, hb4⟩
                  rw [HY.out]
                  have HB4 := Lib.hid (HB.out.trans (hb4.mono HB.out.size))
                  clear hb4
                  by_cases hii : i' < t
                  · have hc : ((y : Int) == (X : Int)) = false := by
                      rw [beq_eq_false_iff_ne]
                      have := HTN.out i' hii
                      have := HR.out
                      omega
                    go_wp2
                    go_roundw
                    case rel => exact ⟨i' + 1, y, by omega, by omega, by go_num, rfl, HR.out, HB4.out⟩
                    case measure => simp [intOf]; omega
                  · obtain rfl : i' = t := by omega
                    have he := HTE.out his
                    have hc : ((y : Int) == (X : Int)) = true := by
                      rw [HR.out, he]; exact beq_self_eq_true _
                    have HST := Lib.hid (strong_at (n := n) (a := p) (d := d) his (by rw [he, HN1.out]))
                    clear he hii
                    go_wp2
                    go_roundw
                    case rel => exact ⟨j + 1, by omega, by go_num, HNX.out HST.out, HB4.out⟩
                    case measure => simp [intOf]; omega
                · have hlti : ((i' : Int) < (s : Int)) = False := eq_false (by omega)
                  obtain rfl : i' = s := by omega
                  obtain rfl : t = i' := by omega
                  have HF : allB n = false := hAN.out j hji (by
                    rw [HPJ.out]
                    refine strong_no (by rw [HX.out]; exact HC1.out) (fun i hi => ?_)
                    rw [HN1.out]
                    exact HTN.out i hi)
                  clear his
                  go_wp2
                  go_ret
                  exact ⟨by rw [HF]; rfl, HB.out⟩
        · obtain rfl : j = 12 := by omega
          have HF : allB n = true := hAY.out HALL.out
          clear hji hj
          go_wp2
          go_ret
          exact ⟨by rw [HF]; rfl, HB.out⟩
end Go.Proofs.YtpdejgdkpghjhaaGreatDoor
/- Plain laws for Counter: serials of different counts differ. No program stands here. -/
set_option linter.unusedVariables false
namespace Go.Proofs.YtpdejgdkpghjhaaGreatDoor
theorem small_cop : ∀ i : Fin 12, ∀ d : Fin 11, 0 < d.val → d.val < bsN i.val → Nat.gcd d.val (bsN i.val) = 1 := by decide +kernel
theorem bs_four : bsN 0 = 2 ∧ bsN 1 = 3 ∧ bsN 2 = 5 ∧ bsN 3 = 7 := by decide
theorem cop_res : ∀ d r : Fin 11, 0 < d.val → r.val < d.val → (d.val % 2 = 0 → r.val % 2 ≠ 0) → (d.val % 3 = 0 → r.val % 3 ≠ 0) → (d.val % 5 = 0 → r.val % 5 ≠ 0) → (d.val % 7 = 0 → r.val % 7 ≠ 0) → Nat.gcd r.val d.val = 1 := by decide +kernel
theorem cop_of {q d : Nat} (hq : isN q = true) (h0 : 0 < d) (hd : d < q) (h10 : d ≤ 10) : Nat.gcd d q = 1 := by
  rcases isN_cases (isN_pos hq) with ⟨i, hi, _, _, he⟩ | ⟨hno, _⟩
  · rw [hq] at he
    have hqi : q = bsN i := of_decide_eq_true he.symm
    rw [hqi]
    exact small_cop ⟨i, hi⟩ ⟨d, by omega⟩ h0 (by rw [← hqi]; exact hd)
  · have b := bs_four
    have h2 := hno 0 (by omega)
    have h3 := hno 1 (by omega)
    have h5 := hno 2 (by omega)
    have h7 := hno 3 (by omega)
    rw [b.1] at h2
    rw [b.2.1] at h3
    rw [b.2.2.1] at h5
    rw [b.2.2.2] at h7
    have hm : ∀ p, d % p = 0 → q % d % p = q % p := fun p hp => Nat.mod_mod_of_dvd q (Nat.dvd_of_mod_eq_zero hp)
    rw [Nat.gcd_rec]
    have hr := Nat.mod_lt q h0
    exact cop_res ⟨d, by omega⟩ ⟨q % d, by omega⟩ h0 hr (fun h => by show q % d % 2 ≠ 0; rw [hm 2 h]; exact h2) (fun h => by show q % d % 3 ≠ 0; rw [hm 3 h]; exact h3) (fun h => by show q % d % 5 ≠ 0; rw [hm 5 h]; exact h5) (fun h => by show q % d % 7 ≠ 0; rw [hm 7 h]; exact h7)
theorem ser_ne {b m q z1 z2 y1 y2 d : Nat} (hm : 1 < m) (hb : b < m) (hb1 : b ≠ 1) (hq : 1 < q) (hp : b ^ q % m = 1) (h1 : z1 * y1 % q = 1) (h2 : z2 * y2 % q = 1) (hz : (z1 + d) % q = z2 % q) (hd : Nat.gcd d q = 1) : b ^ y1 % m ≠ b ^ y2 % m := by
  intro h
  have e1 : b ^ (y1 * (z1 * z2)) % m = b ^ z2 % m := by
    have : y1 * (z1 * z2) = z1 * y1 * z2 := by rw [← Nat.mul_assoc, Nat.mul_comm y1]
    rw [this, pow_red hm hp (z1 * y1 * z2), pow_red hm hp z2, Nat.mul_mod, h1, Nat.one_mul, Nat.mod_mod]
  have e2 : b ^ (y2 * (z1 * z2)) % m = b ^ z1 % m := by
    have : y2 * (z1 * z2) = z2 * y2 * z1 := by rw [Nat.mul_comm z1, ← Nat.mul_assoc, Nat.mul_comm y2]
    rw [this, pow_red hm hp (z2 * y2 * z1), pow_red hm hp z1, Nat.mul_mod, h2, Nat.one_mul, Nat.mod_mod]
  have e3 : b ^ z1 % m = b ^ z2 % m := by
    rw [← e1, ← e2, Nat.pow_mul b y2, Nat.pow_mul b y1]
    exact (powc h (z1 * z2)).symm
  have e4 : b ^ (z1 + d) % m = b ^ z1 % m := by
    rw [pow_red hm hp (z1 + d), hz, ← pow_red hm hp z2, e3]
  obtain ⟨i, hu⟩ : ∃ i, Un m b i := un_of hm hb (gcd_of_pw hp (by omega))
  have p0 : pz m b (((z1 + d : Nat) : Int) - (z1 : Int)) = pz m b ((z1 : Int) - (z1 : Int)) := by
    rw [Int.sub_eq_add_neg, Int.sub_eq_add_neg, pz_add hu, pz_add hu, pz_nat, pz_nat, e4]
  have p1 : pz m b (d : Int) = 1 := by
    rw [← pz_zero (x := b) hm, ← Int.sub_self (z1 : Int), ← p0]
    congr 1; omega
  have p2 : pz m b (q : Int) = 1 := by rw [pz_nat]; exact hp
  obtain ⟨s, t, hst⟩ := bez d q
  rw [hd] at hst
  have p3 : pz m b 1 = 1 := by
    have : (1 : Int) = (d : Int) * s + q * t := hst.symm
    rw [this, pz_add hu, ← pz_pow hu, ← pz_pow hu, p1, p2, pz_base1 hm, pz_base1 hm]
    exact Nat.mod_eq_of_lt hm
  rw [pz_one hb] at p3
  exact hb1 p3
end Go.Proofs.YtpdejgdkpghjhaaGreatDoor

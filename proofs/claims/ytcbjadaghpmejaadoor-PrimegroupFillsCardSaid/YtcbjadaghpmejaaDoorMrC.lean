/- Walks: prime.is whole, prime.Is, primegroup.Check for every group; dominoref04.Formed, U, StrongU, IsU, Is; dominoref09.divides, Check. -/
import Derived.Test.YtcbjadaghpmejaaDoorMrB
import Derived.Great.BuildSlice
set_option linter.unusedVariables false
set_option linter.unusedSimpArgs false
namespace Go.Proofs.YtcbjadaghpmejaaDoor
open Go.RowKit

set_option maxRecDepth 100000 in
theorem prime_is_n (n : Nat) (h8 : n < 18446744073709551616) (w : World) (ht : TabAt w) : Calls Tryd.prog 38 #[.int .u64 n] w (Ret (.bool (isN n)) w) := by
  rcases Nat.lt_or_ge n 2 with a | a
  · rw [isN_lt a]
    have hi : (n : Int) < 2 := by omega
    clear ht h8
    go_enter Tryd.func38, Tryd.ntmps38
    go_wp2
    go_step3
    go_wp2
    go_ret
    exact ⟨rfl, Below.refl _ _⟩
  · rcases isN_cases a with ⟨i, hi, hd, hno, e⟩ | ⟨hno, e⟩
    · rw [e]; exact prime_is_small n i a h8 hi hd hno w
    · rw [e]; exact prime_is_big n a h8 hno w ht
set_option maxRecDepth 100000 in
theorem prime_Is_t (n : Nat) (h8 : n < 18446744073709551616) (b : Bool) (h : ∀ w, TabAt w → Calls Tryd.prog 38 #[.int .u64 n] w (Ret (.bool b) w)) (w : World) (ht : TabAt w) : Calls Tryd.prog 22 #[.string (nS n)] w (Ret (.tuple #[.bool b, .int .i64 0]) w) := by
  have HS := Lib.hid (prime_small_n n h8)
  have HI := Lib.hid h
  have HT := Lib.hid ht
  obtain ⟨s, hs⟩ : ∃ s, nS n = s := ⟨_, rfl⟩
  rw [hs] at HS ⊢
  clear hs h8 h ht
  go_enter Tryd.func22, Tryd.ntmps22
  go_wp2_with fail
  refine (HS.out _).mono ?_
  rintro e w1 ⟨rfl, rfl⟩
  go_wp2_with fail
  refine (HI.out _ HT.out).mono ?_
  rintro e w1 ⟨rfl, hb1⟩
  have HB1 := Lib.hid hb1
  clear hb1
  go_wp2
  go_ret2
  exact ⟨rfl, HB1.out⟩

set_option maxRecDepth 100000 in
set_option maxHeartbeats 2000000 in
theorem pg_Check_t (m q : Nat) (bm bq : Bool) (hm8 : m < 18446744073709551616) (hq8 : q < 18446744073709551616) (H1 : ∀ w, TabAt w → Calls Tryd.prog 38 #[.int .u64 m] w (Ret (.bool bm) w)) (H2 : ∀ w, TabAt w → Calls Tryd.prog 38 #[.int .u64 q] w (Ret (.bool bq) w))
    (h1 : bm = true → 1 ≤ m) (h2 : bq = true → 1 ≤ q) (w : World) (ht : TabAt w) : Calls Tryd.prog 7 #[gV (nS m) (nS q)] w (Ret (.int .i64 (chkN m q bm bq)) w) := by
  have hz1 := nS_small_size hm8
  have hz2 := nS_small_size hq8
  have HF := Lib.hid (pg_formed (nS m) (nS q) (by omega) (by omega))
  rw [nS_valid_small hm8, nS_valid_small hq8, Bool.and_true] at HF
  have HI1 := Lib.hid (prime_Is_t m hm8 bm H1)
  have HI2 := Lib.hid (prime_Is_t q hq8 bq H2)
  have HCO := Lib.hid (fun a b => pg_cofactor m q a hm8 b (lt128_of_lt8 hq8))
  have HT := Lib.hid ht
  have HH1 := Lib.hid h1
  have HH2 := Lib.hid h2
  obtain ⟨s, hs⟩ : ∃ s, nS m = s := ⟨_, rfl⟩
  clear ht
  obtain ⟨t, ht⟩ : ∃ t, nS q = t := ⟨_, rfl⟩
  rw [hs, ht] at HF HCO
  rw [hs] at HI1 hz1
  rw [ht] at HI2 hz2
  rw [hs, ht]
  clear hs ht H1 H2 h1 h2 hm8 hq8
  have HX0 := Lib.hid (Bx2.new w (.string s) (.string t) 24)
  have HB0 := Lib.hid ((Below.refl w.heap.size w).alloc (Nat.le_refl _) (.cells #[.string s, .string t] 24))
  have c0 := HX0.out.c0
  have c1 := HX0.out.c1
  have i1 : (s.size : Int) ≤ 8 := by omega
  have i2 : (t.size : Int) ≤ 8 := by omega
  unfold gV at *
  cases bm with
  | false =>
    go_enter Tryd.func7, Tryd.ntmps7
    go_wp2_with fail
    refine (HF.out _).mono ?_
    rintro e w1 ⟨rfl, hb1⟩
    have HX1 := Lib.hid (HX0.out.next hb1)
    have HB1 := Lib.hid (HB0.out.trans (hb1.mono HB0.out.size))
    clear hb1 c0 c1
    have c0 := HX1.out.c0
    have c1 := HX1.out.c1
    go_wp2_with fail
    refine (HI1.out _ (HT.out.kept HB1.out (Nat.le_refl _))).mono ?_
    rintro e w2 ⟨rfl, hb2⟩
    have HX2 := Lib.hid (HX1.out.next hb2)
    have HB2 := Lib.hid (HB1.out.trans (hb2.mono HB1.out.size))
    clear hb2 c0 c1
    have c0 := HX2.out.c0
    have c1 := HX2.out.c1
    go_wp2
    go_ret
    exact ⟨rfl, HB2.out⟩
  | true =>
    cases bq with
    | false =>
      go_enter Tryd.func7, Tryd.ntmps7
      go_wp2_with fail
      refine (HF.out _).mono ?_
      rintro e w1 ⟨rfl, hb1⟩
      have HX1 := Lib.hid (HX0.out.next hb1)
      have HB1 := Lib.hid (HB0.out.trans (hb1.mono HB0.out.size))
      clear hb1 c0 c1
      have c0 := HX1.out.c0
      have c1 := HX1.out.c1
      go_wp2_with fail
      refine (HI1.out _ (HT.out.kept HB1.out (Nat.le_refl _))).mono ?_
      rintro e w2 ⟨rfl, hb2⟩
      have HX2 := Lib.hid (HX1.out.next hb2)
      have HB2 := Lib.hid (HB1.out.trans (hb2.mono HB1.out.size))
      clear hb2 c0 c1
      have c0 := HX2.out.c0
      have c1 := HX2.out.c1
      go_wp2_with fail
      refine (HI2.out _ (HT.out.kept HB2.out (Nat.le_refl _))).mono ?_
      rintro e w3 ⟨rfl, hb3⟩
      have HX3 := Lib.hid (HX2.out.next hb3)
      have HB3 := Lib.hid (HB2.out.trans (hb3.mono HB2.out.size))
      clear hb3 c0 c1
      have c0 := HX3.out.c0
      have c1 := HX3.out.c1
      go_wp2
      go_ret
      exact ⟨rfl, HB3.out⟩
    | true =>
      have HC := Lib.hid (HCO.out (HH1.out rfl) (HH2.out rfl))
      by_cases hd : (m - 1) % q = 0
      · rw [decide_eq_true hd] at HC
        have HR := Lib.hid (show chkN m q true true = 0 from by unfold chkN; rw [if_neg (by decide), if_neg (by decide), if_pos hd])
        clear hd
        rw [HR.out]
        go_enter Tryd.func7, Tryd.ntmps7
        go_wp2_with fail
        refine (HF.out _).mono ?_
        rintro e w1 ⟨rfl, hb1⟩
        have HX1 := Lib.hid (HX0.out.next hb1)
        have HB1 := Lib.hid (HB0.out.trans (hb1.mono HB0.out.size))
        clear hb1 c0 c1
        have c0 := HX1.out.c0
        have c1 := HX1.out.c1
        go_wp2_with fail
        refine (HI1.out _ (HT.out.kept HB1.out (Nat.le_refl _))).mono ?_
        rintro e w2 ⟨rfl, hb2⟩
        have HX2 := Lib.hid (HX1.out.next hb2)
        have HB2 := Lib.hid (HB1.out.trans (hb2.mono HB1.out.size))
        clear hb2 c0 c1
        have c0 := HX2.out.c0
        have c1 := HX2.out.c1
        go_wp2_with fail
        refine (HI2.out _ (HT.out.kept HB2.out (Nat.le_refl _))).mono ?_
        rintro e w3 ⟨rfl, hb3⟩
        have HX3 := Lib.hid (HX2.out.next hb3)
        have HB3 := Lib.hid (HB2.out.trans (hb3.mono HB2.out.size))
        clear hb3 c0 c1
        have c0 := HX3.out.c0
        have c1 := HX3.out.c1
        go_wp2_with fail
        refine (HC.out _).mono ?_
        rintro e w4 ⟨rfl, hb4⟩
        have HX4 := Lib.hid (HX3.out.next hb4)
        have HB4 := Lib.hid (HB3.out.trans (hb4.mono HB3.out.size))
        clear hb4 c0 c1
        have c0 := HX4.out.c0
        have c1 := HX4.out.c1
        go_wp2
        go_ret
        exact ⟨rfl, HB4.out⟩
      · rw [decide_eq_false hd] at HC
        have HR := Lib.hid (show chkN m q true true = 13 from by unfold chkN; rw [if_neg (by decide), if_neg (by decide), if_neg hd])
        clear hd
        rw [HR.out]
        go_enter Tryd.func7, Tryd.ntmps7
        go_wp2_with fail
        refine (HF.out _).mono ?_
        rintro e w1 ⟨rfl, hb1⟩
        have HX1 := Lib.hid (HX0.out.next hb1)
        have HB1 := Lib.hid (HB0.out.trans (hb1.mono HB0.out.size))
        clear hb1 c0 c1
        have c0 := HX1.out.c0
        have c1 := HX1.out.c1
        go_wp2_with fail
        refine (HI1.out _ (HT.out.kept HB1.out (Nat.le_refl _))).mono ?_
        rintro e w2 ⟨rfl, hb2⟩
        have HX2 := Lib.hid (HX1.out.next hb2)
        have HB2 := Lib.hid (HB1.out.trans (hb2.mono HB1.out.size))
        clear hb2 c0 c1
        have c0 := HX2.out.c0
        have c1 := HX2.out.c1
        go_wp2_with fail
        refine (HI2.out _ (HT.out.kept HB2.out (Nat.le_refl _))).mono ?_
        rintro e w3 ⟨rfl, hb3⟩
        have HX3 := Lib.hid (HX2.out.next hb3)
        have HB3 := Lib.hid (HB2.out.trans (hb3.mono HB2.out.size))
        clear hb3 c0 c1
        have c0 := HX3.out.c0
        have c1 := HX3.out.c1
        go_wp2_with fail
        refine (HC.out _).mono ?_
        rintro e w4 ⟨rfl, hb4⟩
        have HX4 := Lib.hid (HX3.out.next hb4)
        have HB4 := Lib.hid (HB3.out.trans (hb4.mono HB3.out.size))
        clear hb4 c0 c1
        have c0 := HX4.out.c0
        have c1 := HX4.out.c1
        go_wp2
        go_ret
        exact ⟨rfl, HB4.out⟩

/-- What Check says of any group. -/
def chkG (M O : ByteArray) : Int := if nvalid M = true ∧ nvalid O = true then (if M.size ≤ 8 then (if isN (num M) = true then (if O.size ≤ 8 then (if isN (num O) = true then (if (num M - 1) % num O = 0 then 0 else 13) else 12) else 13) else 12) else 5) else 3
theorem chkG_bad {M O : ByteArray} (h : ¬ (nvalid M = true ∧ nvalid O = true)) : chkG M O = 3 := by unfold chkG; rw [if_neg h]
theorem chkG_long {M O : ByteArray} (h : nvalid M = true ∧ nvalid O = true) (h8 : ¬ M.size ≤ 8) : chkG M O = 5 := by unfold chkG; rw [if_pos h, if_neg h8]
theorem chkG_wide {M O : ByteArray} (h : nvalid M = true ∧ nvalid O = true) (h8 : M.size ≤ 8) (h9 : ¬ O.size ≤ 8) : chkG M O = if isN (num M) = true then 13 else 12 := by unfold chkG; rw [if_pos h, if_pos h8, if_neg h9]
theorem chkG_in {M O : ByteArray} (h : nvalid M = true ∧ nvalid O = true) (h8 : M.size ≤ 8) (h9 : O.size ≤ 8) : chkG M O = chkN (num M) (num O) (isN (num M)) (isN (num O)) := by
  unfold chkG chkN
  rw [if_pos h, if_pos h8, if_pos h9]
  cases isN (num M) <;> cases isN (num O) <;> rfl
theorem num_lt8 {s : ByteArray} (h : nvalid s = true) (h8 : s.size ≤ 8) : num s < 18446744073709551616 := by
  rw [nS_num h] at h8
  exact nS_size_le.1 h8

set_option maxRecDepth 100000 in
set_option maxHeartbeats 2000000 in
theorem pg_Check (M O : ByteArray) (hM : M.size ≤ 1000) (hO : O.size ≤ 1000) (w : World) (ht : TabAt w) : Calls Tryd.prog 7 #[gV M O] w (Ret (.int .i64 (chkG M O)) w) := by
  have HF := Lib.hid (pg_formed M O (by omega) (by omega))
  have HT := Lib.hid ht
  clear ht
  by_cases hv : nvalid M = true ∧ nvalid O = true
  · rw [hv.1, hv.2, Bool.and_true] at HF
    by_cases h8 : M.size ≤ 8
    · have hm8 := num_lt8 hv.1 h8
      by_cases h9 : O.size ≤ 8
      · have hq8 := num_lt8 hv.2 h9
        rw [chkG_in hv h8 h9]
        have := pg_Check_t (num M) (num O) (isN (num M)) (isN (num O)) hm8 hq8 (prime_is_n _ hm8) (prime_is_n _ hq8) (fun h => by have := isN_pos h; omega) (fun h => by have := isN_pos h; omega) w HT.out
        rwa [← nS_num hv.1, ← nS_num hv.2] at this
      · have HI1 := Lib.hid (prime_Is_t (num M) hm8 (isN (num M)) (prime_is_n _ hm8))
        rw [← nS_num hv.1] at HI1
        rw [chkG_wide hv h8 h9]
        have i1 : (M.size : Int) ≤ 8 := by omega
        have i2 : ¬ ((O.size : Int) ≤ 8) := by omega
        clear h8 hv
        cases hb : isN (num M) with
        | false =>
          rw [hb] at HI1
          clear hb
          have HX0 := Lib.hid (Bx2.new w (.string M) (.string O) 24)
          have HB0 := Lib.hid ((Below.refl w.heap.size w).alloc (Nat.le_refl _) (.cells #[.string M, .string O] 24))
          have c0 := HX0.out.c0
          have c1 := HX0.out.c1
          unfold gV at *
          go_enter Tryd.func7, Tryd.ntmps7
          go_wp2_with fail
          refine (HF.out _).mono ?_
          rintro e w1 ⟨rfl, hb1⟩
          have HX1 := Lib.hid (HX0.out.next hb1)
          have HB1 := Lib.hid (HB0.out.trans (hb1.mono HB0.out.size))
          clear hb1 c0 c1
          have c0 := HX1.out.c0
          have c1 := HX1.out.c1
          go_wp2_with fail
          refine (HI1.out _ (HT.out.kept HB1.out (Nat.le_refl _))).mono ?_
          rintro e w2 ⟨rfl, hb2⟩
          have HX2 := Lib.hid (HX1.out.next hb2)
          have HB2 := Lib.hid (HB1.out.trans (hb2.mono HB1.out.size))
          clear hb2 c0 c1
          have c0 := HX2.out.c0
          have c1 := HX2.out.c1
          go_wp2
          go_ret
          exact ⟨rfl, HB2.out⟩
        | true =>
          rw [hb] at HI1
          clear hb
          have HX0 := Lib.hid (Bx2.new w (.string M) (.string O) 24)
          have HB0 := Lib.hid ((Below.refl w.heap.size w).alloc (Nat.le_refl _) (.cells #[.string M, .string O] 24))
          have c0 := HX0.out.c0
          have c1 := HX0.out.c1
          unfold gV at *
          go_enter Tryd.func7, Tryd.ntmps7
          go_wp2_with fail
          refine (HF.out _).mono ?_
          rintro e w1 ⟨rfl, hb1⟩
          have HX1 := Lib.hid (HX0.out.next hb1)
          have HB1 := Lib.hid (HB0.out.trans (hb1.mono HB0.out.size))
          clear hb1 c0 c1
          have c0 := HX1.out.c0
          have c1 := HX1.out.c1
          go_wp2_with fail
          refine (HI1.out _ (HT.out.kept HB1.out (Nat.le_refl _))).mono ?_
          rintro e w2 ⟨rfl, hb2⟩
          have HX2 := Lib.hid (HX1.out.next hb2)
          have HB2 := Lib.hid (HB1.out.trans (hb2.mono HB1.out.size))
          clear hb2 c0 c1
          have c0 := HX2.out.c0
          have c1 := HX2.out.c1
          go_wp2
          go_ret
          exact ⟨rfl, HB2.out⟩
    · rw [chkG_long hv h8]
      have i1 : ¬ ((M.size : Int) ≤ 8) := by omega
      clear hv
      have HX0 := Lib.hid (Bx2.new w (.string M) (.string O) 24)
      have HB0 := Lib.hid ((Below.refl w.heap.size w).alloc (Nat.le_refl _) (.cells #[.string M, .string O] 24))
      have c0 := HX0.out.c0
      have c1 := HX0.out.c1
      unfold gV at *
      go_enter Tryd.func7, Tryd.ntmps7
      go_wp2_with fail
      refine (HF.out _).mono ?_
      rintro e w1 ⟨rfl, hb1⟩
      have HX1 := Lib.hid (HX0.out.next hb1)
      have HB1 := Lib.hid (HB0.out.trans (hb1.mono HB0.out.size))
      clear hb1 c0 c1
      have c0 := HX1.out.c0
      have c1 := HX1.out.c1
      go_wp2
      go_ret
      exact ⟨rfl, HB1.out⟩
  · rw [show (nvalid M && nvalid O) = false from by cases a : nvalid M <;> cases b : nvalid O <;> simp_all] at HF
    rw [chkG_bad hv]
    clear hv
    have HX0 := Lib.hid (Bx2.new w (.string M) (.string O) 24)
    have HB0 := Lib.hid ((Below.refl w.heap.size w).alloc (Nat.le_refl _) (.cells #[.string M, .string O] 24))
    have c0 := HX0.out.c0
    have c1 := HX0.out.c1
    unfold gV at *
    go_enter Tryd.func7, Tryd.ntmps7
    go_wp2_with fail
    refine (HF.out _).mono ?_
    rintro e w1 ⟨rfl, hb1⟩
    have HX1 := Lib.hid (HX0.out.next hb1)
    have HB1 := Lib.hid (HB0.out.trans (hb1.mono HB0.out.size))
    clear hb1 c0 c1
    have c0 := HX1.out.c0
    have c1 := HX1.out.c1
    go_wp2
    go_ret
    exact ⟨rfl, HB1.out⟩
end Go.Proofs.YtcbjadaghpmejaaDoor

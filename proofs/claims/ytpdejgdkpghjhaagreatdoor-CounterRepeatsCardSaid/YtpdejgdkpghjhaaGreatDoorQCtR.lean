/- Walks: prime.is whole, prime.Is, primegroup.Check for every group; dominoref04.Formed, U, StrongU, IsU, Is; dominoref09.divides, Check. -/
import Derived.Test.YtpdejgdkpghjhaaGreatDoorQCtA
import Derived.Great.BuildSlice
import Derived.Test.YtpdejgdkpghjhaaGreatDoorQCtP
set_option linter.unusedVariables false
set_option linter.unusedSimpArgs false
namespace Go.Proofs.YtpdejgdkpghjhaaGreatDoor
open Go.RowKit
set_option maxRecDepth 100000 in
theorem prime_is_n (n : Nat) (h8 : n < 18446744073709551616) (w : World) (ht : TabAt w) : Calls Tryz.prog 131 #[.int .u64 n] w (Ret (.bool (isN n)) w) := by
  rcases Nat.lt_or_ge n 2 with a | a
  · rw [isN_lt a]
    have hi : (n : Int) < 2 := by omega
    clear ht h8
    go_enter Tryz.func131, Tryz.ntmps131
    go_wp2
    go_step3
    go_wp2
    go_ret
    exact ⟨rfl, Below.refl _ _⟩
  · rcases isN_cases a with ⟨i, hi, hd, hno, e⟩ | ⟨hno, e⟩
    · rw [e]; exact prime_is_small n i a h8 hi hd hno w
    · rw [e]; exact prime_is_big n a h8 hno w ht
set_option maxRecDepth 100000 in
theorem prime_Is_t (n : Nat) (h8 : n < 18446744073709551616) (b : Bool) (h : ∀ w, TabAt w → Calls Tryz.prog 131 #[.int .u64 n] w (Ret (.bool b) w)) (w : World) (ht : TabAt w) : Calls Tryz.prog 62 #[.string (nS n)] w (Ret (.tuple #[.bool b, .int .i64 0]) w) := by
  have HS := Lib.hid (prime_small_n n h8)
  have HI := Lib.hid h
  have HT := Lib.hid ht
  obtain ⟨s, hs⟩ : ∃ s, nS n = s := ⟨_, rfl⟩
  rw [hs] at HS ⊢
  clear hs h8 h ht
  go_enter Tryz.func62, Tryz.ntmps62
  go_wp2_with fail
  refine (HS.out _).mono ?_
  rintro e w1 ⟨rfl, rfl⟩
  go_wp2_with fail
  refine (HI.out _ HT.out).mono ?_
  rintro e w1 ⟨rfl, hb1⟩
  have HB1 := Lib.hid hb1
  clear hb1
  go_wp2
  go_ret2
  exact ⟨rfl, HB1.out⟩
set_option maxRecDepth 100000 in
set_option maxHeartbeats 2000000 in
theorem pg_Check_t (m q : Nat) (bm bq : Bool) (hm8 : m < 18446744073709551616) (hq8 : q < 18446744073709551616) (H1 : ∀ w, TabAt w → Calls Tryz.prog 131 #[.int .u64 m] w (Ret (.bool bm) w)) (H2 : ∀ w, TabAt w → Calls Tryz.prog 131 #[.int .u64 q] w (Ret (.bool bq) w))
    (h1 : bm = true → 1 ≤ m) (h2 : bq = true → 1 ≤ q) (w : World) (ht : TabAt w) : Calls Tryz.prog 22 #[gV (nS m) (nS q)] w (Ret (.int .i64 (chkV m q bm bq)) w) := by
  have hz1 := nS_small_size hm8
  have hz2 := nS_small_size hq8
  have HF := Lib.hid (pg_formed (nS m) (nS q) (by omega) (by omega))
  rw [nS_valid_small hm8, nS_valid_small hq8, Bool.and_true] at HF
  have HI1 := Lib.hid (prime_Is_t m hm8 bm H1)
  have HI2 := Lib.hid (prime_Is_t q hq8 bq H2)
  have HCO := Lib.hid (fun a b => pg_cofactor m q a hm8 b (lt128_of_lt8 hq8))
  have HT := Lib.hid ht
  have HH1 := Lib.hid h1
  have HH2 := Lib.hid h2
  obtain ⟨s, hs⟩ : ∃ s, nS m = s := ⟨_, rfl⟩
  clear ht
  obtain ⟨t, ht⟩ : ∃ t, nS q = t := ⟨_, rfl⟩
  rw [hs, ht] at HF HCO
  rw [hs] at HI1 hz1
  rw [ht] at HI2 hz2
  rw [hs, ht]
  clear hs ht H1 H2 h1 h2 hm8 hq8
  have HX0 := Lib.hid (Bx2.new w (.string s) (.string t) 24)
  have HB0 := Lib.hid ((Below.refl w.heap.size w).alloc (Nat.le_refl _) (.cells #[.string s, .string t] 24))
  have c0 := HX0.out.c0
  have c1 := HX0.out.c1
  have i1 : (s.size : Int) ≤ 8 := by omega
  have i2 : (t.size : Int) ≤ 8 := by omega
  unfold gV at *
  cases bm with
  | false =>
    go_enter Tryz.func22, Tryz.ntmps22
    go_wp2_with fail
    refine (HF.out _).mono ?_
    rintro e w1 ⟨rfl, hb1⟩
    have HX1 := Lib.hid (HX0.out.next hb1)
    have HB1 := Lib.hid (HB0.out.trans (hb1.mono HB0.out.size))
    clear hb1 c0 c1
    have c0 := HX1.out.c0
    have c1 := HX1.out.c1
    go_wp2_with fail
    refine (HI1.out _ (HT.out.kept HB1.out (Nat.le_refl _))).mono ?_
    rintro e w2 ⟨rfl, hb2⟩
    have HX2 := Lib.hid (HX1.out.next hb2)
    have HB2 := Lib.hid (HB1.out.trans (hb2.mono HB1.out.size))
    clear hb2 c0 c1
    have c0 := HX2.out.c0
    have c1 := HX2.out.c1
    go_wp2
    go_ret
    exact ⟨rfl, HB2.out⟩
  | true =>
    cases bq with
    | false =>
      go_enter Tryz.func22, Tryz.ntmps22
      go_wp2_with fail
      refine (HF.out _).mono ?_
      rintro e w1 ⟨rfl, hb1⟩
      have HX1 := Lib.hid (HX0.out.next hb1)
      have HB1 := Lib.hid (HB0.out.trans (hb1.mono HB0.out.size))
      clear hb1 c0 c1
      have c0 := HX1.out.c0
      have c1 := HX1.out.c1
      go_wp2_with fail
      refine (HI1.out _ (HT.out.kept HB1.out (Nat.le_refl _))).mono ?_
      rintro e w2 ⟨rfl, hb2⟩
      have HX2 := Lib.hid (HX1.out.next hb2)
      have HB2 := Lib.hid (HB1.out.trans (hb2.mono HB1.out.size))
      clear hb2 c0 c1
      have c0 := HX2.out.c0
      have c1 := HX2.out.c1
      go_wp2_with fail
      refine (HI2.out _ (HT.out.kept HB2.out (Nat.le_refl _))).mono ?_
      rintro e w3 ⟨rfl, hb3⟩
      have HX3 := Lib.hid (HX2.out.next hb3)
      have HB3 := Lib.hid (HB2.out.trans (hb3.mono HB2.out.size))
      clear hb3 c0 c1
      have c0 := HX3.out.c0
      have c1 := HX3.out.c1
      go_wp2
      go_ret
      exact ⟨rfl, HB3.out⟩
    | true =>
      have HC := Lib.hid (HCO.out (HH1.out rfl) (HH2.out rfl))
      by_cases hd : (m - 1) % q = 0
      · rw [decide_eq_true hd] at HC
        have HR := Lib.hid (show chkV m q true true = 0 from by unfold chkV; rw [if_neg (by decide), if_neg (by decide), if_pos hd])
        clear hd
        rw [HR.out]
        go_enter Tryz.func22, Tryz.ntmps22
        go_wp2_with fail
        refine (HF.out _).mono ?_
        rintro e w1 ⟨rfl, hb1⟩
        have HX1 := Lib.hid (HX0.out.next hb1)
        have HB1 := Lib.hid (HB0.out.trans (hb1.mono HB0.out.size))
        clear hb1 c0 c1
        have c0 := HX1.out.c0
        have c1 := HX1.out.c1
        go_wp2_with fail
        refine (HI1.out _ (HT.out.kept HB1.out (Nat.le_refl _))).mono ?_
        rintro e w2 ⟨rfl, hb2⟩
        have HX2 := Lib.hid (HX1.out.next hb2)
        have HB2 := Lib.hid (HB1.out.trans (hb2.mono HB1.out.size))
        clear hb2 c0 c1
        have c0 := HX2.out.c0
        have c1 := HX2.out.c1
        go_wp2_with fail
        refine (HI2.out _ (HT.out.kept HB2.out (Nat.le_refl _))).mono ?_
        rintro e w3 ⟨rfl, hb3⟩
        have HX3 := Lib.hid (HX2.out.next hb3)
        have HB3 := Lib.hid (HB2.out.trans (hb3.mono HB2.out.size))
        clear hb3 c0 c1
        have c0 := HX3.out.c0
        have c1 := HX3.out.c1
        go_wp2_with fail
        refine (HC.out _).mono ?_
        rintro e w4 ⟨rfl, hb4⟩
        have HX4 := Lib.hid (HX3.out.next hb4)
        have HB4 := Lib.hid (HB3.out.trans (hb4.mono HB3.out.size))
        clear hb4 c0 c1
        have c0 := HX4.out.c0
        have c1 := HX4.out.c1
        go_wp2
        go_ret
        exact ⟨rfl, HB4.out⟩
      · rw [decide_eq_false hd] at HC
        have HR := Lib.hid (show chkV m q true true = 13 from by unfold chkV; rw [if_neg (by decide), if_neg (by decide), if_neg hd])
        clear hd
        rw [HR.out]
        go_enter Tryz.func22, Tryz.ntmps22
        go_wp2_with fail
        refine (HF.out _).mono ?_
        rintro e w1 ⟨rfl, hb1⟩
        have HX1 := Lib.hid (HX0.out.next hb1)
        have HB1 := Lib.hid (HB0.out.trans (hb1.mono HB0.out.size))
        clear hb1 c0 c1
        have c0 := HX1.out.c0
        have c1 := HX1.out.c1
        go_wp2_with fail
        refine (HI1.out _ (HT.out.kept HB1.out (Nat.le_refl _))).mono ?_
        rintro e w2 ⟨rfl, hb2⟩
        have HX2 := Lib.hid (HX1.out.next hb2)
        have HB2 := Lib.hid (HB1.out.trans (hb2.mono HB1.out.size))
        clear hb2 c0 c1
        have c0 := HX2.out.c0
        have c1 := HX2.out.c1
        go_wp2_with fail
        refine (HI2.out _ (HT.out.kept HB2.out (Nat.le_refl _))).mono ?_
        rintro e w3 ⟨rfl, hb3⟩
        have HX3 := Lib.hid (HX2.out.next hb3)
        have HB3 := Lib.hid (HB2.out.trans (hb3.mono HB2.out.size))
        clear hb3 c0 c1
        have c0 := HX3.out.c0
        have c1 := HX3.out.c1
        go_wp2_with fail
        refine (HC.out _).mono ?_
        rintro e w4 ⟨rfl, hb4⟩
        have HX4 := Lib.hid (HX3.out.next hb4)
        have HB4 := Lib.hid (HB3.out.trans (hb4.mono HB3.out.size))
        clear hb4 c0 c1
        have c0 := HX4.out.c0
        have c1 := HX4.out.c1
        go_wp2
        go_ret
        exact ⟨rfl, HB4.out⟩
def chkG (M O : ByteArray) : Int := if nvalid M = true ∧ nvalid O = true then (if M.size ≤ 8 then (if isN (num M) = true then (if O.size ≤ 8 then (if isN (num O) = true then (if (num M - 1) % num O = 0 then 0 else 13) else 12) else 13) else 12) else 5) else 3
theorem chkG_bad {M O : ByteArray} (h : ¬ (nvalid M = true ∧ nvalid O = true)) : chkG M O = 3 := by unfold chkG; rw [if_neg h]
theorem chkG_long {M O : ByteArray} (h : nvalid M = true ∧ nvalid O = true) (h8 : ¬ M.size ≤ 8) : chkG M O = 5 := by unfold chkG; rw [if_pos h, if_neg h8]
theorem chkG_wide {M O : ByteArray} (h : nvalid M = true ∧ nvalid O = true) (h8 : M.size ≤ 8) (h9 : ¬ O.size ≤ 8) : chkG M O = if isN (num M) = true then 13 else 12 := by unfold chkG; rw [if_pos h, if_pos h8, if_neg h9]
theorem chkG_in {M O : ByteArray} (h : nvalid M = true ∧ nvalid O = true) (h8 : M.size ≤ 8) (h9 : O.size ≤ 8) : chkG M O = chkV (num M) (num O) (isN (num M)) (isN (num O)) := by
  unfold chkG chkV
  rw [if_pos h, if_pos h8, if_pos h9]
  cases isN (num M) <;> cases isN (num O) <;> rfl
theorem num_lt8 {s : ByteArray} (h : nvalid s = true) (h8 : s.size ≤ 8) : num s < 18446744073709551616 := by
  rw [nS_num h] at h8
  exact nS_size_le.1 h8
set_option maxRecDepth 100000 in
set_option maxHeartbeats 2000000 in
theorem pg_Check (M O : ByteArray) (hM : M.size ≤ 1000) (hO : O.size ≤ 1000) (w : World) (ht : TabAt w) : Calls Tryz.prog 22 #[gV M O] w (Ret (.int .i64 (chkG M O)) w) := by
  have HF := Lib.hid (pg_formed M O (by omega) (by omega))
  have HT := Lib.hid ht
  clear ht
  by_cases hv : nvalid M = true ∧ nvalid O = true
  · rw [hv.1, hv.2, Bool.and_true] at HF
    by_cases h8 : M.size ≤ 8
    · have hm8 := num_lt8 hv.1 h8
      by_cases h9 : O.size ≤ 8
      · have hq8 := num_lt8 hv.2 h9
        rw [chkG_in hv h8 h9]
        have := pg_Check_t (num M) (num O) (isN (num M)) (isN (num O)) hm8 hq8 (prime_is_n _ hm8) (prime_is_n _ hq8) (fun h => by have := isN_pos h; omega) (fun h => by have := isN_pos h; omega) w HT.out
        rwa [← nS_num hv.1, ← nS_num hv.2] at this
      · have HI1 := Lib.hid (prime_Is_t (num M) hm8 (isN (num M)) (prime_is_n _ hm8))
        rw [← nS_num hv.1] at HI1
        rw [chkG_wide hv h8 h9]
        have i1 : (M.size : Int) ≤ 8 := by omega
        have i2 : ¬ ((O.size : Int) ≤ 8) := by omega
        clear h8 hv
        cases hb : isN (num M) with
        | false =>
          rw [hb] at HI1
          clear hb
          have HX0 := Lib.hid (Bx2.new w (.string M) (.string O) 24)
          have HB0 := Lib.hid ((Below.refl w.heap.size w).alloc (Nat.le_refl _) (.cells #[.string M, .string O] 24))
          have c0 := HX0.out.c0
          have c1 := HX0.out.c1
          unfold gV at *
          go_enter Tryz.func22, Tryz.ntmps22
          go_wp2_with fail
          refine (HF.out _).mono ?_
          rintro e w1 ⟨rfl, hb1⟩
          have HX1 := Lib.hid (HX0.out.next hb1)
          have HB1 := Lib.hid (HB0.out.trans (hb1.mono HB0.out.size))
          clear hb1 c0 c1
          have c0 := HX1.out.c0
          have c1 := HX1.out.c1
          go_wp2_with fail
          refine (HI1.out _ (HT.out.kept HB1.out (Nat.le_refl _))).mono ?_
          rintro e w2 ⟨rfl, hb2⟩
          have HX2 := Lib.hid (HX1.out.next hb2)
          have HB2 := Lib.hid (HB1.out.trans (hb2.mono HB1.out.size))
          clear hb2 c0 c1
          have c0 := HX2.out.c0
          have c1 := HX2.out.c1
          go_wp2
          go_ret
          exact ⟨rfl, HB2.out⟩
        | true =>
          rw [hb] at HI1
          clear hb
          have HX0 := Lib.hid (Bx2.new w (.string M) (.string O) 24)
          have HB0 := Lib.hid ((Below.refl w.heap.size w).alloc (Nat.le_refl _) (.cells #[.string M, .string O] 24))
          have c0 := HX0.out.c0
          have c1 := HX0.out.c1
          unfold gV at *
          go_enter Tryz.func22, Tryz.ntmps22
          go_wp2_with fail
          refine (HF.out _).mono ?_
          rintro e w1 ⟨rfl, hb1⟩
          have HX1 := Lib.hid (HX0.out.next hb1)
          have HB1 := Lib.hid (HB0.out.trans (hb1.mono HB0.out.size))
          clear hb1 c0 c1
          have c0 := HX1.out.c0
          have c1 := HX1.out.c1
          go_wp2_with fail
          refine (HI1.out _ (HT.out.kept HB1.out (Nat.le_refl _))).mono ?_
          rintro e w2 ⟨rfl, hb2⟩
          have HX2 := Lib.hid (HX1.out.next hb2)
          have HB2 := Lib.hid (HB1.out.trans (hb2.mono HB1.out.size))
          clear hb2 c0 c1
          have c0 := HX2.out.c0
          have c1 := HX2.out.c1
          go_wp2
          go_ret
          exact ⟨rfl, HB2.out⟩
    · rw [chkG_long hv h8]
      have i1 : ¬ ((M.size : Int) ≤ 8) := by omega
      clear hv
      have HX0 := Lib.hid (Bx2.new w (.string M) (.string O) 24)
      have HB0 := Lib.hid ((Below.refl w.heap.size w).alloc (Nat.le_refl _) (.cells #[.string M, .string O] 24))
      have c0 := HX0.out.c0
      have c1 := HX0.out.c1
      unfold gV at *
      go_enter Tryz.func22, Tryz.ntmps22
      go_wp2_with fail
      refine (HF.out _).mono ?_
      rintro e w1 ⟨rfl, hb1⟩
      have HX1 := Lib.hid (HX0.out.next hb1)
      have HB1 := Lib.hid (HB0.out.trans (hb1.mono HB0.out.size))
      clear hb1 c0 c1
      have c0 := HX1.out.c0
      have c1 := HX1.out.c1
      go_wp2
      go_ret
      exact ⟨rfl, HB1.out⟩
  · rw [show (nvalid M && nvalid O) = false from by cases a : nvalid M <;> cases b : nvalid O <;> simp_all] at HF
    rw [chkG_bad hv]
    clear hv
    have HX0 := Lib.hid (Bx2.new w (.string M) (.string O) 24)
    have HB0 := Lib.hid ((Below.refl w.heap.size w).alloc (Nat.le_refl _) (.cells #[.string M, .string O] 24))
    have c0 := HX0.out.c0
    have c1 := HX0.out.c1
    unfold gV at *
    go_enter Tryz.func22, Tryz.ntmps22
    go_wp2_with fail
    refine (HF.out _).mono ?_
    rintro e w1 ⟨rfl, hb1⟩
    have HX1 := Lib.hid (HX0.out.next hb1)
    have HB1 := Lib.hid (HB0.out.trans (hb1.mono HB0.out.size))
    clear hb1 c0 c1
    have c0 := HX1.out.c0
    have c1 := HX1.out.c1
    go_wp2
    go_ret
    exact ⟨rfl, HB1.out⟩
end Go.Proofs.YtpdejgdkpghjhaaGreatDoor
/- The law CounterRepeats, walked. -/
set_option linter.unusedVariables false
set_option linter.unusedSimpArgs false
namespace Go.Proofs.YtpdejgdkpghjhaaGreatDoor
open Go.RowKit Go.Lib
theorem bsR_count {M O G H : ByteArray} {l : List UInt8} {p : Int} {X : ByteArray} {c : Int} (hc : 0 ≤ c) : bsR M O G H l p c [X] = bsR M O G H l p 0 [X] := by
  unfold bsR
  by_cases hp : p < 0
  · simp [hp]
  · have e1 : (p < 0 ∨ c < 0) = (p < 0 ∨ (0 : Int) < 0) := by rw [eq_iff_iff]; omega
    simp only [e1]
theorem chkK_ne (M O : ByteArray) : chkK M O ≠ 11 := by
  unfold chkK
  split
  · unfold chkN
    split
    · split <;> decide
    · split <;> decide
  · decide
theorem pkC_ne (M O G H : ByteArray) : pkC M O G H ≠ 11 := by
  unfold pkC
  split
  · decide
  · split
    · split <;> decide
    · exact chkK_ne M O
theorem inj_se {a b : ByteArray} {x y : Int} (h : (Value.tuple #[.string a, .int .i64 x]) = .tuple #[.string b, .int .i64 y]) : a = b ∧ x = y := by
  injection h with h
  have h := congrArg Array.toList h
  simp at h
  exact h
theorem bsR_ne {M O G H : ByteArray} {l : List UInt8} {p : Int} {X rs : ByteArray} {re : Int} (h : bsR M O G H l p 0 [X] = .tuple #[.string rs, .int .i64 re]) : re ≠ 11 := by
  unfold bsR at h
  split at h
  · split at h
    · split at h
      · have := (inj_se h).2; omega
      · split at h
        · have := (inj_se h).2; omega
        · unfold bsO at h
          cases ho : hkN (num M) (num O) (ctL p.toNat l) with
          | none => rw [ho] at h; have := (inj_se h).2; omega
          | some b =>
            rw [ho] at h
            unfold bsP at h
            simp only [] at h
            split at h
            · have := (inj_se h).2; omega
            · have := (inj_se h).2; omega
    · have := (inj_se h).2
      have := pkC_ne M O G H
      omega
  · have := (inj_se h).2; omega
theorem bsR_ne1 {M O G H : ByteArray} {l : List UInt8} {p c : Int} {X rs : ByteArray} (h : bsR M O G H l p c [X] = .tuple #[.string rs, .int .i64 0]) (hm : 0 < num M) : num rs ≠ 1 := by
  unfold bsR at h
  split at h
  · split at h
    · rename_i hc
      split at h
      · have := (inj_se h).2; omega
      · split at h
        · have := (inj_se h).2; omega
        · unfold bsO at h
          cases ho : hkN (num M) (num O) (ctL p.toNat l) with
          | none => rw [ho] at h; have := (inj_se h).2; omega
          | some b =>
            rw [ho] at h
            unfold bsP at h
            simp only [] at h
            split at h
            · rw [← (inj_se h).1, num_nS]
              exact (hkN_lt hm ho).2.2
            · have := (inj_se h).2; omega
    · rename_i hc
      have := (inj_se h).2
      exact absurd this hc
  · have := (inj_se h).2; omega
theorem chkG_zeroC {M O : ByteArray} (h : chkG M O = 0) : isN (num O) = true := by
  unfold chkG at h
  split at h
  · split at h
    · split at h
      · split at h
        · split at h
          · assumption
          · omega
        · omega
      · omega
    · omega
  · omega
theorem XB.nextB {w W W' : World} {x : Cs} (h : XB w W x) (hb : Below (w.heap.size + 1) W W') : XB w W' x := ⟨(hb.block _ (by omega)).trans h.1, h.2.trans (hb.mono (by omega))⟩
theorem wpList_append_str (w : World) {ops : Array Oper} {rest : List Oper} {o : Oper} {a : Act} {Q : Exit → Act → World → Prop} (hg : o.guard = none) (s x : Operand) (hop : o.op = Op.call { callee := Callee.builtin Builtin.append, args := #[s, x], argTypes := #[38, 38] })
    (base n : Nat) (v : Value) (l : List ByteArray) (hs : a.eval s = v) (hm : w.ownsRow base 22 1 v n (l.map Value.string)) (hn : n ≤ 1000) (B c : Nat) (y : ByteArray) (hx : a.eval x = .slice (some ⟨B, 0, none⟩) 1 c) {T : TypeId} {fr : Nat × Nat}
    (hB : w.heap[B]? = some (.cells #[.string y] T fr)) (hbase : base ≤ w.heap.size)
    (hK : ∀ v' w', w'.ownsRow base 22 1 v' (n + 1) ((l ++ [y]).map Value.string) → Below base w w' → wpList Tryz.prog ops Q rest (a.put o.dst v') w') : wpList Tryz.prog ops Q (o :: rest) a w := by
  obtain ⟨i0, hi, hz0, hz1, hz2⟩ := info_parts nat_info
  have hml : maxLen = 9223372036854775807 := rfl
  refine wpList_append_lies w hg s x 38 hop base 22 i0 _ 1 16 Tryz.underlying38 hi hz0 hz1 hz2 rfl (by decide) v n (l.map Value.string) hs hm ⟨B, 0, none⟩ 1 c [.string y] hx rfl (fun j u hj => ?_) (fun u hu => by simp at hu; subst hu; rfl) (by decide) (by omega) (by omega) hbase _ rfl (fun g cap w' h1 h2 h3 h4 => hK _ w' ?_ ?_)
  · rw [Addr.add_lit, Nat.zero_add, Lib.cell_of_heap hB]; simpa using hj
  · rw [List.map_append]; exact h1
  · exact ⟨h2.os, h2.tape, h2.output, h2.size, fun k hk => h2.block k (by omega) (fun e => by have := (hm.lt k e.symm).1; omega)⟩
def smV (O : ByteArray) : Value := if nvalid O = true ∧ O.size ≤ 8 then .tuple #[.int .u64 (num O), .bool true] else .tuple #[.int .u64 0, .bool false]
theorem nat_SmallV (O : ByteArray) (hs : O.size ≤ 9223372036854775807) (w : World) : Calls Tryz.prog 21 #[.string O] w (RetQ (smV O) w) := by
  unfold smV
  by_cases h : nvalid O = true ∧ O.size ≤ 8
  · rw [if_pos h]; exact nat_Small_yes O h.1 h.2 w
  · rw [if_neg h]
    refine nat_Small_no O hs ?_ w
    cases hv : nvalid O with
    | false => exact .inl rfl
    | true => exact .inr ⟨rfl, Nat.lt_of_not_le fun a => h ⟨hv, a⟩⟩
set_option maxRecDepth 100000 in
set_option maxHeartbeats 4000000 in
theorem walk_repeats (x : Cs) (lim ag : Nat) (hlim : lim ≤ 255) (hag : ag ≤ 255) (w : World) (hp : x.p < 9223372036854775808) (hp2 : -9223372036854775808 ≤ x.p) (hO : x.O.size ≤ 9223372036854775807) (ht : T10 w) (hta : TabAt w) : Calls Tryz.prog 6 #[.agg x.arr, .int .u8 lim, .int .u8 ag] w (Ret (.bool true) w) := by
  have HTA := Lib.hid (fun w' (h : Below w.heap.size w w') => hta.kept h (Nat.le_refl _))
  have HTX := Lib.hid (fun w' (h : Below w.heap.size w w') => ht.kept h (Nat.le_refl _))
  obtain ⟨n, hn⟩ : ∃ n, lim % 12 = n := ⟨_, rfl⟩
  have hr1 : (lim : Int) % 12 = (n : Int) := by omega
  have hr2 : (lim : Int).tmod 12 = (n : Int) := by rw [Int.tmod_eq_emod_of_nonneg (by omega)]; exact hr1
  have hw1 : IntKind.u8.wrap (n : Int) = (n : Int) := by rw [IntKind.wrap_u8]; omega
  have hw2 : IntKind.i64.wrap (n : Int) = (n : Int) := by rw [IntKind.wrap_i64]; omega
  have hw3 : IntKind.u64.wrap (n : Int) = (n : Int) := by rw [IntKind.wrap_u64]; omega
  have hn11 : n ≤ 11 := by omega
  have HSM := Lib.hid (nat_SmallV x.O hO)
  have hx0 := XB.new w x
  have ht0 := ht.next ((Below.refl _ _).alloc (Nat.le_refl _) (.cells x.arr 28))
  have HFW := Lib.hid (case_few x)
  have HAW := Lib.hid law49_awake
  obtain ⟨W0, hW0⟩ : ∃ W, w.alloc (.cells x.arr 28) = W := ⟨_, rfl⟩
  rw [hW0] at hx0 ht0
  have HX0 := Lib.hid hx0
  have HTHX0 := Lib.hid ht0
  obtain ⟨c0, c1, c2, c3, c4, c5, c6, c7, c8, c9, c10, c11⟩ := hx0.cells
  clear hx0 ht0 ht
  cases hf : x.few with
  | false =>
    rw [hf] at HFW
    obtain ⟨sq, sb, hsm⟩ : ∃ (a : Nat) (b : Bool), smV x.O = .tuple #[.int .u64 a, .bool b] := by
      unfold smV; split
      · exact ⟨_, _, rfl⟩
      · exact ⟨0, _, rfl⟩
    rw [hsm] at HSM
    clear hf hsm hn hlim hag hp hp2 hO hta
    unfold Cs.arr at *
    go_enter Tryz.func6, Tryz.ntmps6
    go_wp2_with fail
    try rw [hW0]
    clear hW0
    refine (HSM.out _).mono ?_
    rintro ev w1 ⟨rfl, rfl⟩
    go_wp2_with fail
    refine (HFW.out _).mono ?_
    rintro ev w2 ⟨rfl, hb⟩
    have hx := HX0.out.next hb
    have HTHX2 := Lib.hid (HTHX0.out.next hb)
    have HX2 := Lib.hid hx
    clear hb c0 c1 c2 c3 c4 c5 c6 c7 c8 c9 c10 c11
    obtain ⟨c0, c1, c2, c3, c4, c5, c6, c7, c8, c9, c10, c11⟩ := hx.cells
    clear hx
    go_wp2_with fail
    refine (HAW.out _ HTHX2.out).mono ?_
    rintro ev w9 ⟨rfl, hb⟩
    have hx := HX2.out.next hb
    have HTHX9 := Lib.hid (HTHX2.out.next hb)
    have HX9 := Lib.hid hx
    clear hb c0 c1 c2 c3 c4 c5 c6 c7 c8 c9 c10 c11
    obtain ⟨c0, c1, c2, c3, c4, c5, c6, c7, c8, c9, c10, c11⟩ := hx.cells
    clear hx
    go_wp2
    go_ret
    exact ⟨rfl, HX9.out.2⟩
  | true =>
    rw [hf] at HFW
    obtain ⟨f1, f2, f3, f4, f5, f6⟩ := few_of hf
    by_cases hn0 : n = 0
    · subst hn0
      obtain ⟨sq, sb, hsm⟩ : ∃ (a : Nat) (b : Bool), smV x.O = .tuple #[.int .u64 a, .bool b] := by
        unfold smV; split
        · exact ⟨_, _, rfl⟩
        · exact ⟨0, _, rfl⟩
      rw [hsm] at HSM
      clear hf hsm hn hlim hag hp hp2 hO hta f1 f2 f3 f4 f5 f6
      unfold Cs.arr at *
      go_enter Tryz.func6, Tryz.ntmps6
      go_wp2_with fail
      try rw [hW0]
      clear hW0
      refine (HSM.out _).mono ?_
      rintro ev w1 ⟨rfl, rfl⟩
      go_wp2_with fail
      refine (HFW.out _).mono ?_
      rintro ev w2 ⟨rfl, hb⟩
      have hx := HX0.out.next hb
      have HTHX2 := Lib.hid (HTHX0.out.next hb)
      have HX2 := Lib.hid hx
      clear hb c0 c1 c2 c3 c4 c5 c6 c7 c8 c9 c10 c11
      obtain ⟨c0, c1, c2, c3, c4, c5, c6, c7, c8, c9, c10, c11⟩ := hx.cells
      clear hx
      go_wp2_with fail
      refine (HAW.out _ HTHX2.out).mono ?_
      rintro ev w9 ⟨rfl, hb⟩
      have hx := HX2.out.next hb
      have HTHX9 := Lib.hid (HTHX2.out.next hb)
      have HX9 := Lib.hid hx
      clear hb c0 c1 c2 c3 c4 c5 c6 c7 c8 c9 c10 c11
      obtain ⟨c0, c1, c2, c3, c4, c5, c6, c7, c8, c9, c10, c11⟩ := hx.cells
      clear hx
      go_wp2
      go_ret
      exact ⟨rfl, HX9.out.2⟩
    · have hnz : ¬ ((n : Int) = 0) := by omega
      have hnz2 : ((n : Int) == 0) = false := beq_eq_false_iff_ne.2 hnz
      by_cases hok : nvalid x.O = true ∧ x.O.size ≤ 8
      · rw [show smV x.O = .tuple #[.int .u64 (num x.O), .bool true] from by unfold smV; rw [if_pos hok]] at HSM
        have HCK := Lib.hid (fun w h => pg_Check x.M x.O (by omega) (by omega) w h)
        obtain ⟨q, hq⟩ : ∃ q, num x.O = q := ⟨_, rfl⟩
        rw [hq] at HSM
        by_cases hck : chkG x.M x.O = 0
        · rw [hck] at HCK
          by_cases hnq : q < n
          · have hgt : decide ((q : Int) < (n : Int)) = true := decide_eq_true (by omega)
            clear hf hn hlim hag hp hp2 hO hta f1 f2 f3 f4 f5 f6 hok hck hq hn0
            unfold gV at *
            unfold Cs.arr at *
            go_enter Tryz.func6, Tryz.ntmps6
            go_wp2_with fail
            try rw [hW0]
            clear hW0
            refine (HSM.out _).mono ?_
            rintro ev w1 ⟨rfl, rfl⟩
            go_wp2_with fail
            refine (HFW.out _).mono ?_
            rintro ev w2 ⟨rfl, hb⟩
            have hx := HX0.out.next hb
            have HTHX2 := Lib.hid (HTHX0.out.next hb)
            have HX2 := Lib.hid hx
            clear hb c0 c1 c2 c3 c4 c5 c6 c7 c8 c9 c10 c11
            obtain ⟨c0, c1, c2, c3, c4, c5, c6, c7, c8, c9, c10, c11⟩ := hx.cells
            clear hx
            go_wp2_with fail
            refine (HCK.out _ (HTA.out _ HX2.out.2)).mono ?_
            rintro ev w3 ⟨rfl, hb⟩
            have hx := HX2.out.next hb
            have HTHX3 := Lib.hid (HTHX2.out.next hb)
            have HX3 := Lib.hid hx
            clear hb c0 c1 c2 c3 c4 c5 c6 c7 c8 c9 c10 c11
            obtain ⟨c0, c1, c2, c3, c4, c5, c6, c7, c8, c9, c10, c11⟩ := hx.cells
            clear hx
            go_wp2_with fail
            refine (HAW.out _ HTHX3.out).mono ?_
            rintro ev w9 ⟨rfl, hb⟩
            have hx := HX3.out.next hb
            have HTHX9 := Lib.hid (HTHX3.out.next hb)
            have HX9 := Lib.hid hx
            clear hb c0 c1 c2 c3 c4 c5 c6 c7 c8 c9 c10 c11
            obtain ⟨c0, c1, c2, c3, c4, c5, c6, c7, c8, c9, c10, c11⟩ := hx.cells
            clear hx
            go_wp2
            go_ret
            exact ⟨rfl, HX9.out.2⟩
          · have hgt : decide ((q : Int) < (n : Int)) = false := decide_eq_false (by omega)
            obtain ⟨rs, re, hr⟩ := bsR_form x.M x.O x.G x.H x.s.data.toList x.p 0 [x.X]
            have HSE := Lib.hid (fun (k : Nat) (hk : k ≤ 255) (w : World) (h : T10 w) => ct_Serial x.M x.O x.G x.H x.s x.X x.p (k : Int) rs re f1 (by omega) (by omega) (by omega) (by omega) (by omega) hp hp2 (by omega) ((bsR_count (by omega)).trans hr) w h)
            by_cases hre : re = 0
            · subst hre
              obtain ⟨vX, hpk, hz, hp0, hc0, hhk, hrs⟩ := bsR_ok hr
              have hk := hasK_parts hhk
              have hN := of_decide_eq_true hk.2.2
              obtain ⟨m, hm⟩ : ∃ m, num x.M = m := ⟨_, rfl⟩
              obtain ⟨b, hb⟩ : ∃ b, num rs = b := ⟨_, rfl⟩
              obtain ⟨X, hX⟩ : ∃ X, num x.X = X := ⟨_, rfl⟩
              have hN : 0 < b ∧ b < m ∧ b ^ q % m = 1 := by
                rw [hm, hb, hq] at hN
                rw [if_neg (by rw [← hq]; exact hz)] at hN
                exact hN
              have hb1 : b ≠ 1 := by rw [← hb]; exact bsR_ne1 hr (by rw [hm]; omega)
              have hm1 : 1 < m := by omega
              have hisq : isN q = true := by
                have := (chkG_zeroC hck)
                rw [hq] at this
                exact this
              have HDIF := Lib.hid (fun k (hk : k ≤ n) => srs_dif (x := X) (m := m) (b := b) (q := q) (n := n) hm1 hN.2.1 hb1 hisq hN.2.2 hn11 (by omega) hk)
              have HSR := Lib.hid (fun k => show srV x.M x.O x.X ((k : Nat) : Int) rs 0 = if Nat.gcd ((X + k + 1) % q) q = 1 then .tuple #[.string (nS (srN m b X q k)), .int .i64 0] else .tuple #[.string ⟨#[]⟩, .int .i64 11] from by
                unfold srV srP
                rw [if_pos rfl, Int.toNat_natCast, hX, hq, hb, hm]
                rfl)
              have hm8 : m < 18446744073709551616 := by rw [← hm]; exact num_small f1
              have HSZ := Lib.hid (fun k => show ∀ s ∈ srs m b X q k, s.size ≤ maxLen from fun s hs => by
                obtain ⟨i, _, _, rfl⟩ := srs_mem hs
                have := nS_small_size (show srN m b X q i < 18446744073709551616 from Nat.lt_trans (Nat.mod_lt _ (by omega)) hm8)
                unfold maxLen; omega)
              have hni : (n : Int) ≤ 11 := by omega
              have hpos : (0 : Int) < (n : Int) := by omega
              obtain ⟨r, hrr⟩ : ∃ r, ag % n = r := ⟨_, rfl⟩
              have hg1 : (ag : Int) % (n : Int) = (r : Int) := by rw [← hrr]; simp
              have hg2 : (ag : Int).tmod (n : Int) = (r : Int) := by rw [Int.tmod_eq_emod_of_nonneg (by omega)]; exact hg1
              have hrn : r < n := by rw [← hrr]; exact Nat.mod_lt _ (by omega)
              have hw4 : IntKind.i64.wrap (ag : Int) = (ag : Int) := by rw [IntKind.wrap_i64]; omega
              have hw5 : IntKind.i64.wrap (r : Int) = (r : Int) := by rw [IntKind.wrap_i64]; omega
              have HN11 := Lib.hid hn11
              clear hf hn hlim hag hp hp2 hO hta f1 f2 f3 f4 f5 f6 hok hck hq hr vX hpk hz hp0 hc0 hhk hrs hk hN hm hb hX hb1 hm1 hm8 hisq hrr hn0
              unfold gV kV at *
              unfold Cs.arr at *
              go_enter Tryz.func6, Tryz.ntmps6
              go_wp2_with fail
              try rw [hW0]
              clear hW0
              refine (HSM.out _).mono ?_
              rintro ev w1 ⟨rfl, rfl⟩
              go_wp2_with fail
              refine (HFW.out _).mono ?_
              rintro ev w2 ⟨rfl, hb⟩
              have hx := HX0.out.next hb
              have HTHX2 := Lib.hid (HTHX0.out.next hb)
              have HX2 := Lib.hid hx
              clear hb c0 c1 c2 c3 c4 c5 c6 c7 c8 c9 c10 c11
              obtain ⟨c0, c1, c2, c3, c4, c5, c6, c7, c8, c9, c10, c11⟩ := hx.cells
              clear hx
              go_wp2_with fail
              refine (HCK.out _ (HTA.out _ HX2.out.2)).mono ?_
              rintro ev w3 ⟨rfl, hb⟩
              have hx := HX2.out.next hb
              have HTHX3 := Lib.hid (HTHX2.out.next hb)
              have HX3 := Lib.hid hx
              clear hb c0 c1 c2 c3 c4 c5 c6 c7 c8 c9 c10 c11
              obtain ⟨c0, c1, c2, c3, c4, c5, c6, c7, c8, c9, c10, c11⟩ := hx.cells
              clear hx
              go_wp2
              go_loopw [10, 11, 12] (fun v at_ i wr => ∃ k : Nat, k ≤ n ∧ i = .int .i64 k ∧ at_ = .int .i64 (atI m b X q r k) ∧ wr.ownsRow (w.heap.size + 1) 22 1 v (srs m b X q k).length ((srs m b X q k).map Value.string) ∧ XB w wr x) (fun _ _ i _ => n - (RowKit.intOf i).toNat)
              case atStart => exact ⟨0, Nat.zero_le _, rfl, rfl, World.ownsRow_nil _ _ _ _, HX3.out⟩
              case round =>
                obtain ⟨k, hk, rfl, rfl, hown, hx⟩ := hrel
                have ht := HTX.out _ hx.2
                obtain ⟨_, A, cap, rfl, hsl⟩ := SlN.of_owns hown
                have HOWN := Lib.hid hown
                have HSL := Lib.hid hsl
                have hcap := hsl.2.1
                have hcap2 := hsl.2.2.1
                clear hsl
                obtain ⟨L, hL⟩ : ∃ L, (srs m b X q k).length = L := ⟨_, rfl⟩
                rw [hL] at HOWN HSL hcap ⊢
                have HL := Lib.hid hL
                clear hL
                have HX4 := Lib.hid hx
                have HTHX4 := Lib.hid ht
                clear c0 c1 c2 c3 c4 c5 c6 c7 c8 c9 c10 c11 ht hown
                obtain ⟨c0, c1, c2, c3, c4, c5, c6, c7, c8, c9, c10, c11⟩ := hx.cells
                clear hx
                by_cases hlt : k < n
                · have hki : (k : Int) < (n : Int) := by omega
                  have HKN := Lib.hid hlt
                  have hs0 := HSE.out k (by have := HN11.out; omega)
                  rw [HSR.out k] at hs0
                  by_cases hg : Nat.gcd ((X + k + 1) % q) q = 1
                  · rw [if_pos hg] at hs0
                    obtain ⟨sy, hsy⟩ : ∃ y, nS (srN m b X q k) = y := ⟨_, rfl⟩
                    rw [hsy] at hs0
                    have HS0 := Lib.hid hs0
                    have HSRS := Lib.hid (show srs m b X q (k + 1) = srs m b X q k ++ [sy] from by rw [srs, if_pos hg, hsy])
                    have HLEN := Lib.hid (srs_len m b X q k)
                    by_cases hkr : k = r
                    · have HAT := Lib.hid (show atI m b X q r (k + 1) = (L : Int) from by rw [atI, if_pos ⟨hg, hkr⟩, HL.out])
                      have hkr1 : ((k : Int) == (r : Int)) = true := by rw [hkr]; simp
                      clear hs0 hsy hg hkr hlt hk
                      go_wp2_with fail
                      refine (HS0.out _ HTHX4.out).mono ?_
                      rintro ev w5 ⟨rfl, hb⟩
                      have HOWN5 := Lib.hid (owns_kept HOWN.out hb (Nat.le_refl _))
                      have hx := HX4.out.next hb
                      have HTHX5 := Lib.hid (HTHX4.out.next hb)
                      have HX5 := Lib.hid hx
                      clear hb c0 c1 c2 c3 c4 c5 c6 c7 c8 c9 c10 c11
                      obtain ⟨c0, c1, c2, c3, c4, c5, c6, c7, c8, c9, c10, c11⟩ := hx.cells
                      clear hx
                      have HBS := Lib.hid (show w.heap.size + 1 ≤ w5.heap.size from block_lt HX5.out.1)
                      go_wp2_with (at_builtin; refine wpList_append_str _ rfl (.tmp 88) (.tmp 90) rfl (w.heap.size + 1) L _ (srs m b X q k) rfl (HOWN5.out.alloc _) (by have := HLEN.out; have := HKN.out; have := HN11.out; have := HL.out; omega) w5.heap.size 1 sy rfl (heap_alloc_new _ _) (by have := HBS.out; simp; omega) ?_)
                      intro v6 w6 ho6 hb6
                      have hx6 := (HX5.out.next ((Below.refl _ _).alloc (Nat.le_refl _) (.cells #[.string sy] 22))).nextB hb6
                      have HX6 := Lib.hid hx6
                      have HO6 := Lib.hid ho6
                      clear ho6 hb6 hx6 c0 c1 c2 c3 c4 c5 c6 c7 c8 c9 c10 c11
                      go_wp2
                      refine ⟨⟨k + 1, by have := HKN.out; omega, by go_num, by rw [HAT.out], ?_, HX6.out⟩, ?_⟩
                      · rw [HSRS.out, List.length_append, List.length_singleton, HL.out, List.map_append]; exact HO6.out
                      · have := HKN.out; simp [RowKit.intOf]; omega
                    · have HAT := Lib.hid (show atI m b X q r (k + 1) = atI m b X q r k from by rw [atI, if_neg (fun h => hkr h.2)])
                      have hkr1 : ((k : Int) == (r : Int)) = false := beq_eq_false_iff_ne.2 (by omega)
                      clear hs0 hsy hg hkr hlt hk
                      go_wp2_with fail
                      refine (HS0.out _ HTHX4.out).mono ?_
                      rintro ev w5 ⟨rfl, hb⟩
                      have HOWN5 := Lib.hid (owns_kept HOWN.out hb (Nat.le_refl _))
                      have hx := HX4.out.next hb
                      have HTHX5 := Lib.hid (HTHX4.out.next hb)
                      have HX5 := Lib.hid hx
                      clear hb c0 c1 c2 c3 c4 c5 c6 c7 c8 c9 c10 c11
                      obtain ⟨c0, c1, c2, c3, c4, c5, c6, c7, c8, c9, c10, c11⟩ := hx.cells
                      clear hx
                      have HBS := Lib.hid (show w.heap.size + 1 ≤ w5.heap.size from block_lt HX5.out.1)
                      go_wp2_with (at_builtin; refine wpList_append_str _ rfl (.tmp 88) (.tmp 90) rfl (w.heap.size + 1) L _ (srs m b X q k) rfl (HOWN5.out.alloc _) (by have := HLEN.out; have := HKN.out; have := HN11.out; have := HL.out; omega) w5.heap.size 1 sy rfl (heap_alloc_new _ _) (by have := HBS.out; simp; omega) ?_)
                      intro v6 w6 ho6 hb6
                      have hx6 := (HX5.out.next ((Below.refl _ _).alloc (Nat.le_refl _) (.cells #[.string sy] 22))).nextB hb6
                      have HX6 := Lib.hid hx6
                      have HO6 := Lib.hid ho6
                      clear ho6 hb6 hx6 c0 c1 c2 c3 c4 c5 c6 c7 c8 c9 c10 c11
                      go_wp2
                      refine ⟨⟨k + 1, by have := HKN.out; omega, by go_num, by rw [HAT.out], ?_, HX6.out⟩, ?_⟩
                      · rw [HSRS.out, List.length_append, List.length_singleton, HL.out, List.map_append]; exact HO6.out
                      · have := HKN.out; simp [RowKit.intOf]; omega
                  · rw [if_neg hg] at hs0
                    have HS0 := Lib.hid hs0
                    have HSRS := Lib.hid (show srs m b X q (k + 1) = srs m b X q k from by rw [srs, if_neg hg])
                    have HAT := Lib.hid (show atI m b X q r (k + 1) = atI m b X q r k from by rw [atI, if_neg (fun h => hg h.1)])
                    clear hs0 hg hlt hk
                    go_wp2_with fail
                    refine (HS0.out _ HTHX4.out).mono ?_
                    rintro ev w5 ⟨rfl, hb⟩
                    have HOWN5 := Lib.hid (owns_kept HOWN.out hb (Nat.le_refl _))
                    have hx := HX4.out.next hb
                    have HTHX5 := Lib.hid (HTHX4.out.next hb)
                    have HX5 := Lib.hid hx
                    clear hb c0 c1 c2 c3 c4 c5 c6 c7 c8 c9 c10 c11
                    obtain ⟨c0, c1, c2, c3, c4, c5, c6, c7, c8, c9, c10, c11⟩ := hx.cells
                    clear hx
                    go_wp2
                    refine ⟨⟨k + 1, by have := HKN.out; omega, by go_num, by rw [HAT.out], ?_, HX5.out⟩, ?_⟩
                    · rw [HSRS.out, HL.out]; exact HOWN5.out
                    · have := HKN.out; simp [RowKit.intOf]; omega
                · have hkn : k = n := by omega
                  subst hkn
                  have hD := HDIF.out k (Nat.le_refl _)
                  have HSZK := Lib.hid (HSZ.out k)
                  have hlk : lkV (lkN (srs m b X q k) L) = .tuple #[.int .i64 0, .int .i64 0, .bool false] := by
                    rw [← HL.out, lkN_none hD (Nat.le_refl _)]; rfl
                  have hLn : L ≤ 11 := by rw [← HL.out]; have := srs_len m b X q k; have := HN11.out; omega
                  have hlc := ct_Link (srs m b X q k) A L cap (by omega) HSZK.out wr HSL.out
                  rw [hlk] at hlc
                  have HLC := Lib.hid hlc
                  have HDD := Lib.hid hD
                  have HGET := Lib.hid (atI_get (m := m) (b := b) (x := X) (q := q) (r := r) (k := k))
                  have HLN := Lib.hid hLn
                  obtain ⟨ai, hai⟩ : ∃ z, atI m b X q r k = z := ⟨_, rfl⟩
                  have HAI := Lib.hid hai
                  rw [hai]
                  clear hlk hlc hD hk hlt hLn hai
                  by_cases hneg : ai < 0
                  · go_wp2_with fail
                    refine HLC.out.mono ?_
                    rintro ev w5 ⟨rfl, hb⟩
                    have hx := HX4.out.next hb
                    have HTHX5 := Lib.hid (HTHX4.out.next hb)
                    have HX5 := Lib.hid hx
                    clear hb c0 c1 c2 c3 c4 c5 c6 c7 c8 c9 c10 c11
                    obtain ⟨c0, c1, c2, c3, c4, c5, c6, c7, c8, c9, c10, c11⟩ := hx.cells
                    clear hx
                    go_wp2_with fail
                    refine (HAW.out _ HTHX5.out).mono ?_
                    rintro ev w9 ⟨rfl, hb⟩
                    have hx := HX5.out.next hb
                    have HTHX9 := Lib.hid (HTHX5.out.next hb)
                    have HX9 := Lib.hid hx
                    clear hb c0 c1 c2 c3 c4 c5 c6 c7 c8 c9 c10 c11
                    obtain ⟨c0, c1, c2, c3, c4, c5, c6, c7, c8, c9, c10, c11⟩ := hx.cells
                    clear hx
                    go_wp2
                    go_ret
                    exact ⟨rfl, HX9.out.2⟩
                  · obtain ⟨a, ha, hal⟩ : ∃ a : Nat, ai = (a : Int) ∧ a < L := by
                      rcases HGET.out with h | ⟨a, h1, h2⟩
                      · rw [HAI.out] at h; omega
                      · exact ⟨a, by rw [← HAI.out, h1], by rw [← HL.out]; exact h2⟩
                    obtain ⟨sa, hsa⟩ : ∃ s, (srs m b X q k)[a]? = some s := ⟨_, List.getElem?_eq_getElem (by rw [HL.out]; exact hal)⟩
                    subst ha
                    have HSA := Lib.hid hsa
                    have hai2 : (a : Int) < (L : Int) := by omega
                    have HSAZ := Lib.hid (HSZK.out sa (List.mem_of_getElem? hsa))
                    have HAL := Lib.hid hal
                    clear hsa hal
                    go_wp2_with fail
                    refine HLC.out.mono ?_
                    rintro ev w5 ⟨rfl, hb⟩
                    have HOWN5 := Lib.hid (owns_kept HOWN.out hb (Nat.le_refl _))
                    have HSL5 := Lib.hid (HSL.out.kept hb (Nat.le_refl _))
                    have hx := HX4.out.next hb
                    have HTHX5 := Lib.hid (HTHX4.out.next hb)
                    have HX5 := Lib.hid hx
                    clear hb c0 c1 c2 c3 c4 c5 c6 c7 c8 c9 c10 c11
                    obtain ⟨c0, c1, c2, c3, c4, c5, c6, c7, c8, c9, c10, c11⟩ := hx.cells
                    clear hx
                    obtain ⟨bb, oo, rfl⟩ := HSL5.out.head (by have := HAL.out; omega)
                    have d0 := HSL5.out.get? a HSA.out
                    have HBS := Lib.hid (show w.heap.size + 1 ≤ w5.heap.size from block_lt HX5.out.1)
                    go_wp2_with (at_builtin; refine wpList_append_str _ rfl (.tmp 109) (.tmp 114) rfl (w.heap.size + 1) L _ (srs m b X q k) rfl (HOWN5.out.alloc _) (by have := HLN.out; omega) w5.heap.size 1 sa rfl (heap_alloc_new _ _) (by have := HBS.out; simp; omega) ?_)
                    intro v6 w6 ho6 hb6
                    have hx6 := (HX5.out.next ((Below.refl _ _).alloc (Nat.le_refl _) (.cells #[.string sa] 22))).nextB hb6
                    have HX6 := Lib.hid hx6
                    have HTHX6 := Lib.hid (HTX.out _ hx6.2)
                    have ho6 : w6.ownsRow (w.heap.size + 1) 22 1 v6 (L + 1) ((srs m b X q k ++ [sa]).map Value.string) := by rw [List.map_append]; exact ho6
                    obtain ⟨_, A6, cap6, rfl, hsl6⟩ := SlN.of_owns ho6
                    have hlc6 := ct_Link (srs m b X q k ++ [sa]) A6 (L + 1) cap6 (by have := HLN.out; omega) (fun z hz => by
                      rw [List.mem_append] at hz
                      rcases hz with hz | hz
                      · exact HSZK.out z hz
                      · simp at hz; subst hz; exact HSAZ.out) w6 hsl6
                    rw [show lkV (lkN (srs m b X q k ++ [sa]) (L + 1)) = .tuple #[.int .i64 (a : Int), .int .i64 (L : Int), .bool true] from by
                      have := lkN_again HDD.out HSA.out
                      rw [HL.out] at this
                      rw [this]; rfl] at hlc6
                    have HLC6 := Lib.hid hlc6
                    clear ho6 hb6 hlc6 hsl6 d0 c0 c1 c2 c3 c4 c5 c6 c7 c8 c9 c10 c11
                    obtain ⟨c0, c1, c2, c3, c4, c5, c6, c7, c8, c9, c10, c11⟩ := hx6.cells
                    clear hx6
                    go_wp2_with fail
                    refine HLC6.out.mono ?_
                    rintro ev w7 ⟨rfl, hb⟩
                    have hx := HX6.out.next hb
                    have HTHX7 := Lib.hid (HTHX6.out.next hb)
                    have HX7 := Lib.hid hx
                    clear hb c0 c1 c2 c3 c4 c5 c6 c7 c8 c9 c10 c11
                    obtain ⟨c0, c1, c2, c3, c4, c5, c6, c7, c8, c9, c10, c11⟩ := hx.cells
                    clear hx
                    go_wp2_with fail
                    refine (HAW.out _ HTHX7.out).mono ?_
                    rintro ev w9 ⟨rfl, hb⟩
                    have hx := HX7.out.next hb
                    have HTHX9 := Lib.hid (HTHX7.out.next hb)
                    have HX9 := Lib.hid hx
                    clear hb c0 c1 c2 c3 c4 c5 c6 c7 c8 c9 c10 c11
                    obtain ⟨c0, c1, c2, c3, c4, c5, c6, c7, c8, c9, c10, c11⟩ := hx.cells
                    clear hx
                    go_wp2
                    go_ret
                    exact ⟨rfl, HX9.out.2⟩
            · have hne := bsR_ne hr
              have hs0 := HSE.out 0 (by omega)
              rw [show srV x.M x.O x.X ((0 : Nat) : Int) rs re = .tuple #[.string ⟨#[]⟩, .int .i64 re] from by unfold srV; rw [if_neg hre]] at hs0
              have HS0 := Lib.hid hs0
              have b1 : (re == 11) = false := beq_eq_false_iff_ne.2 hne
              have b2 : (re != 0) = true := bne_iff_ne.2 hre
              have hpos : (0 : Int) < (n : Int) := by omega
              clear hs0 HSE hf hn hlim hag hp hp2 hO hta f1 f2 f3 f4 f5 f6 hok hck hq hr
              unfold gV kV at *
              unfold Cs.arr at *
              go_enter Tryz.func6, Tryz.ntmps6
              go_wp2_with fail
              try rw [hW0]
              clear hW0
              refine (HSM.out _).mono ?_
              rintro ev w1 ⟨rfl, rfl⟩
              go_wp2_with fail
              refine (HFW.out _).mono ?_
              rintro ev w2 ⟨rfl, hb⟩
              have hx := HX0.out.next hb
              have HTHX2 := Lib.hid (HTHX0.out.next hb)
              have HX2 := Lib.hid hx
              clear hb c0 c1 c2 c3 c4 c5 c6 c7 c8 c9 c10 c11
              obtain ⟨c0, c1, c2, c3, c4, c5, c6, c7, c8, c9, c10, c11⟩ := hx.cells
              clear hx
              go_wp2_with fail
              refine (HCK.out _ (HTA.out _ HX2.out.2)).mono ?_
              rintro ev w3 ⟨rfl, hb⟩
              have hx := HX2.out.next hb
              have HTHX3 := Lib.hid (HTHX2.out.next hb)
              have HX3 := Lib.hid hx
              clear hb c0 c1 c2 c3 c4 c5 c6 c7 c8 c9 c10 c11
              obtain ⟨c0, c1, c2, c3, c4, c5, c6, c7, c8, c9, c10, c11⟩ := hx.cells
              clear hx
              go_wp2
              go_loopw [12] (fun i wr => i = .int .i64 0 ∧ XB w wr x ∧ T10 wr) (fun _ _ => 0)
              case atStart => exact ⟨rfl, HX3.out, HTHX3.out⟩
              case round =>
                obtain ⟨rfl, hx, ht⟩ := hrel
                have HX4 := Lib.hid hx
                have HTHX4 := Lib.hid ht
                clear c0 c1 c2 c3 c4 c5 c6 c7 c8 c9 c10 c11 ht
                obtain ⟨c0, c1, c2, c3, c4, c5, c6, c7, c8, c9, c10, c11⟩ := hx.cells
                clear hx
                go_wp2_with fail
                refine (HS0.out _ HTHX4.out).mono ?_
                rintro ev w5 ⟨rfl, hb⟩
                have hx := HX4.out.next hb
                have HTHX5 := Lib.hid (HTHX4.out.next hb)
                have HX5 := Lib.hid hx
                clear hb c0 c1 c2 c3 c4 c5 c6 c7 c8 c9 c10 c11
                obtain ⟨c0, c1, c2, c3, c4, c5, c6, c7, c8, c9, c10, c11⟩ := hx.cells
                clear hx
                go_wp2_with fail
                refine (HAW.out _ HTHX5.out).mono ?_
                rintro ev w9 ⟨rfl, hb⟩
                have hx := HX5.out.next hb
                have HTHX9 := Lib.hid (HTHX5.out.next hb)
                have HX9 := Lib.hid hx
                clear hb c0 c1 c2 c3 c4 c5 c6 c7 c8 c9 c10 c11
                obtain ⟨c0, c1, c2, c3, c4, c5, c6, c7, c8, c9, c10, c11⟩ := hx.cells
                clear hx
                go_wp2
                go_ret
                exact ⟨rfl, HX9.out.2⟩
        · obtain ⟨e, he⟩ : ∃ e, chkG x.M x.O = e := ⟨_, rfl⟩
          rw [he] at HCK hck
          have hne : (e != 0) = true := bne_iff_ne.2 hck
          clear hf hn hlim hag hp hp2 hO hta f1 f2 f3 f4 f5 f6 hok hq hn0 he
          unfold gV at *
          unfold Cs.arr at *
          go_enter Tryz.func6, Tryz.ntmps6
          go_wp2_with fail
          try rw [hW0]
          clear hW0
          refine (HSM.out _).mono ?_
          rintro ev w1 ⟨rfl, rfl⟩
          go_wp2_with fail
          refine (HFW.out _).mono ?_
          rintro ev w2 ⟨rfl, hb⟩
          have hx := HX0.out.next hb
          have HTHX2 := Lib.hid (HTHX0.out.next hb)
          have HX2 := Lib.hid hx
          clear hb c0 c1 c2 c3 c4 c5 c6 c7 c8 c9 c10 c11
          obtain ⟨c0, c1, c2, c3, c4, c5, c6, c7, c8, c9, c10, c11⟩ := hx.cells
          clear hx
          go_wp2_with fail
          refine (HCK.out _ (HTA.out _ HX2.out.2)).mono ?_
          rintro ev w3 ⟨rfl, hb⟩
          have hx := HX2.out.next hb
          have HTHX3 := Lib.hid (HTHX2.out.next hb)
          have HX3 := Lib.hid hx
          clear hb c0 c1 c2 c3 c4 c5 c6 c7 c8 c9 c10 c11
          obtain ⟨c0, c1, c2, c3, c4, c5, c6, c7, c8, c9, c10, c11⟩ := hx.cells
          clear hx
          go_wp2_with fail
          refine (HAW.out _ HTHX3.out).mono ?_
          rintro ev w9 ⟨rfl, hb⟩
          have hx := HX3.out.next hb
          have HTHX9 := Lib.hid (HTHX3.out.next hb)
          have HX9 := Lib.hid hx
          clear hb c0 c1 c2 c3 c4 c5 c6 c7 c8 c9 c10 c11
          obtain ⟨c0, c1, c2, c3, c4, c5, c6, c7, c8, c9, c10, c11⟩ := hx.cells
          clear hx
          go_wp2
          go_ret
          exact ⟨rfl, HX9.out.2⟩
      · rw [show smV x.O = .tuple #[.int .u64 0, .bool false] from by unfold smV; rw [if_neg hok]] at HSM
        clear hf hn hlim hag hp hp2 hO hta f1 f2 f3 f4 f5 f6 hok hn0
        unfold Cs.arr at *
        go_enter Tryz.func6, Tryz.ntmps6
        go_wp2_with fail
        try rw [hW0]
        clear hW0
        refine (HSM.out _).mono ?_
        rintro ev w1 ⟨rfl, rfl⟩
        go_wp2_with fail
        refine (HFW.out _).mono ?_
        rintro ev w2 ⟨rfl, hb⟩
        have hx := HX0.out.next hb
        have HTHX2 := Lib.hid (HTHX0.out.next hb)
        have HX2 := Lib.hid hx
        clear hb c0 c1 c2 c3 c4 c5 c6 c7 c8 c9 c10 c11
        obtain ⟨c0, c1, c2, c3, c4, c5, c6, c7, c8, c9, c10, c11⟩ := hx.cells
        clear hx
        go_wp2_with fail
        refine (HAW.out _ HTHX2.out).mono ?_
        rintro ev w9 ⟨rfl, hb⟩
        have hx := HX2.out.next hb
        have HTHX9 := Lib.hid (HTHX2.out.next hb)
        have HX9 := Lib.hid hx
        clear hb c0 c1 c2 c3 c4 c5 c6 c7 c8 c9 c10 c11
        obtain ⟨c0, c1, c2, c3, c4, c5, c6, c7, c8, c9, c10, c11⟩ := hx.cells
        clear hx
        go_wp2
        go_ret
        exact ⟨rfl, HX9.out.2⟩
end Go.Proofs.YtpdejgdkpghjhaaGreatDoor

/- Plain laws of PedersenHides: the powers of an element of order q, counted. -/
import Derived.Test.YtnnfgphioapmnaaPeV
import Derived.Test.YtnnfgphioapmnaaPeBA
import Derived.Test.YtnnfgphioapmnaaPeY
set_option linter.unusedVariables false
set_option linter.unusedSimpArgs false
namespace Go.Proofs.Ytnnfgphioapmnaa

theorem pow_red {a m q : Nat} (hm : 1 < m) (ha : a ^ q % m = 1) (A : Nat) : a ^ A % m = a ^ (A % q) % m := by
  conv => lhs; rw [← Nat.mod_add_div A q, Nat.pow_add, Nat.pow_mul, Nat.mul_mod, Nat.pow_mod (a ^ q), ha, Nat.one_pow, Nat.mod_eq_of_lt hm, Nat.mul_one, Nat.mod_mod]
theorem pow_lt_eq {a m q A B : Nat} (hm : 1 < m) (ha : a ^ q % m = 1) (hord : ∀ r, 1 ≤ r → r < q → a ^ r % m ≠ 1) (hAB : A ≤ B) (hB : B < q) (h : a ^ A % m = a ^ B % m) : A = B := by
  rcases Nat.eq_or_lt_of_le hAB with h0 | h0
  · exact h0
  · exfalso
    refine hord (B - A) (by omega) (by omega) ?_
    have e1 : a ^ (B - A) % m = a ^ (B + (q - A)) % m := by
      rw [show B + (q - A) = (B - A) + q from by omega, Nat.pow_add, Nat.mul_mod, ha, Nat.mul_one, Nat.mod_mod]
    rw [e1, Nat.pow_add, Nat.mul_mod, ← h, ← Nat.mul_mod, ← Nat.pow_add, show A + (q - A) = q from by omega]
    exact ha
theorem pow_inj {a m q A B : Nat} (hm : 1 < m) (hq : 0 < q) (ha : a ^ q % m = 1) (hord : ∀ r, 1 ≤ r → r < q → a ^ r % m ≠ 1) : a ^ A % m = a ^ B % m ↔ A % q = B % q := by
  constructor
  · intro h
    rw [pow_red hm ha A, pow_red hm ha B] at h
    rcases Nat.le_total (A % q) (B % q) with h1 | h1
    · exact pow_lt_eq hm ha hord h1 (Nat.mod_lt _ hq) h
    · exact (pow_lt_eq hm ha hord h1 (Nat.mod_lt _ hq) h.symm).symm
  · intro h
    rw [pow_red hm ha A, pow_red hm ha B, h]
def cntP (p : Nat → Bool) : Nat → Nat
  | 0 => 0
  | n + 1 => cntP p n + if p n then 1 else 0
theorem cntP_one {p : Nat → Bool} {r0 : Nat} : ∀ {n : Nat}, (∀ r, r < n → (p r = true ↔ r = r0)) → cntP p n = if r0 < n then 1 else 0
  | 0, _ => rfl
  | n + 1, h => by
    have ih := cntP_one (p := p) (r0 := r0) (n := n) (fun r hr => h r (by omega))
    have h1 := h n (by omega)
    unfold cntP
    rw [ih]
    by_cases e : n = r0
    · rw [if_pos (h1.2 e), if_neg (by omega), if_pos (by omega)]
    · rw [if_neg (fun h => e (h1.1 h))]
      by_cases l : r0 < n
      · rw [if_pos l, if_pos (by omega)]
      · rw [if_neg l, if_neg (by omega)]
theorem hides_iff {a m q g s x k r : Nat} (hm : 1 < m) (hq : 0 < q) (ha : a ^ q % m = 1) (hord : ∀ r, 1 ≤ r → r < q → a ^ r % m ≠ 1) (hs : a ^ s % m = g) (hr : r < q) : g ^ k * a ^ r % m = a ^ x % m ↔ r = (x + (q * k - s % q * k)) % q := by
  have e1 : g ^ k * a ^ r % m = a ^ (s % q * k + r) % m := by
    rw [Nat.mul_mod, ← hs, pow_red hm ha s, ← Nat.pow_mod, ← Nat.pow_mul, ← Nat.mul_mod, ← Nat.pow_add]
  rw [e1, pow_inj hm hq ha hord]
  have hl : s % q * k ≤ q * k := Nat.mul_le_mul_right _ (Nat.le_of_lt (Nat.mod_lt _ hq))
  generalize hS : s % q * k = S at hl ⊢
  have e2 : ∀ A B : Nat, (A + q * k) % q = (B + q * k) % q ↔ A % q = B % q := fun A B => by rw [Nat.add_mul_mod_self_left, Nat.add_mul_mod_self_left]
  constructor
  · intro h
    have h2 : (S + r + (q * k - S)) % q = (x + (q * k - S)) % q := by rw [Nat.add_mod, h, ← Nat.add_mod]
    rw [show S + r + (q * k - S) = r + q * k from by omega, Nat.add_mul_mod_self_left, Nat.mod_eq_of_lt hr] at h2
    exact h2
  · intro h
    rw [Nat.add_mod, show r % q = (x + (q * k - S)) % q from by rw [h, Nat.mod_mod], ← Nat.add_mod, show S + (x + (q * k - S)) = x + q * k from by omega, Nat.add_mul_mod_self_left]
theorem hides_count {a m q g s x k : Nat} (hm : 1 < m) (hq : 0 < q) (ha : a ^ q % m = 1) (hord : ∀ r, 1 ≤ r → r < q → a ^ r % m ≠ 1) (hs : a ^ s % m = g) {p : Nat → Bool} (hp : ∀ r, r < q → p r = decide (g ^ k * a ^ r % m = a ^ x % m)) : cntP p q = 1 := by
  rw [cntP_one (r0 := (x + (q * k - s % q * k)) % q) (fun r hr => by rw [hp r hr, decide_eq_true_eq]; exact hides_iff hm hq ha hord hs hr), if_pos (Nat.mod_lt _ hq)]

theorem pkC_parts {M O G H : ByteArray} (h : pkC M O G H = 0) : kF M O G H = true ∧ chkK M O = 0 ∧ hasK M O G = true ∧ hasK M O H = true := by
  unfold pkC at h
  split at h
  · exact absurd h (by decide)
  · rename_i h1
    split at h
    · rename_i h2
      split at h
      · exact absurd h (by decide)
      · rename_i h3
        rw [Bool.not_eq_true] at h3
        simp only [Bool.or_eq_false_iff, Bool.not_eq_false'] at h3
        refine ⟨by simpa using h1, h2, h3.1.1.1.1, h3.1.1.1.2⟩
    · rename_i h2
      exact absurd h h2
theorem kF_parts {M O G H : ByteArray} (h : kF M O G H = true) : nvalid M = true ∧ nvalid O = true ∧ nvalid G = true ∧ nvalid H = true := by
  unfold kF at h
  simp only [Bool.and_eq_true] at h
  exact ⟨h.1.1.1, h.1.1.2, h.1.2, h.2⟩
theorem hasK_hasN {M O x : ByteArray} (h : hasK M O x = true) : hasN (num M) (num O) (num x) = true := by
  unfold hasK at h
  simp only [Bool.and_eq_true] at h
  exact h.2
theorem hasN_pow {m o x : Nat} (ho : 0 < o) (h : hasN m o x = true) : 0 < x ∧ x < m ∧ x ^ o % m = 1 := by
  unfold hasN at h
  have h := of_decide_eq_true h
  rw [if_neg (by omega)] at h
  exact h
theorem zvalid_nS {r : Nat} (h : r < 256 ^ 128) : zvalid false (nS r) = true := by
  unfold zvalid
  rw [nvalid_nS.2 h]
  rfl
theorem pp_nil (k : Nat) : pp [] k = 1 := rfl
theorem pp_cons (b n k : Nat) (l : List (Nat × Nat)) : pp ((b, n) :: l) k = b ^ (n / 2 ^ k) * pp l k := rfl
theorem exp_small {M O G H : ByteArray} (h : pkC M O G H = 0) {r : Nat} (hr : r < 256 ^ 128) : prR M O [H] [(false, nS r)] = .tuple #[.string (nS (num H ^ r % num M)), .int .i64 0] := by
  obtain ⟨h1, h2, h3, h4⟩ := pkC_parts h
  obtain ⟨v1, v2, v3, v4⟩ := kF_parts h1
  have e : ckR M O [H] [(false, nS r)] true = 0 := by
    unfold ckR
    rw [if_neg (by simp [v4]), if_neg (by simp [zvalid_nS hr]), if_pos h2, if_neg (by decide), if_neg (by simp [hasK_hasN h4])]
  unfold prR
  rw [if_pos (show ckR M O [H] [(false, nS r)] (decide ([H].length = [(false, nS r)].length)) = 0 from e)]
  have e2 : prV (num M) [H] [(false, nS r)] = num H ^ r % num M := by
    show num H ^ (num (nS r) / 2 ^ 0) * 1 % num M = _
    rw [num_nS, Nat.pow_zero, Nat.div_one, Nat.mul_one]
  rw [e2]
theorem op_small {M O G H : ByteArray} (h : pkC M O G H = 0) {a b X : Nat} (ha : a < 256 ^ 128) (hb : b < 256 ^ 128) : opR M O G H (nS X) false (nS a) false (nS b) = decide (num G ^ a * num H ^ b % num M = X) := by
  obtain ⟨h1, h2, h3, h4⟩ := pkC_parts h
  obtain ⟨v1, v2, v3, v4⟩ := kF_parts h1
  have e : ckR M O [G, H] [(false, nS a), (false, nS b)] true = 0 := by
    unfold ckR
    rw [if_neg (by simp [v3, v4]), if_neg (by simp [zvalid_nS ha, zvalid_nS hb]), if_pos h2, if_neg (by decide), if_neg (by simp [hasK_hasN h3, hasK_hasN h4])]
  have e2 : prV (num M) [G, H] [(false, nS a), (false, nS b)] = num G ^ a * num H ^ b % num M := by
    show num G ^ (num (nS a) / 2 ^ 0) * (num H ^ (num (nS b) / 2 ^ 0) * 1) % num M = _
    rw [num_nS, num_nS, Nat.pow_zero, Nat.div_one, Nat.div_one, Nat.mul_one]
  have e3 : cmR M O G H false (nS a) false (nS b) = .tuple #[.string (nS (num G ^ a * num H ^ b % num M)), .int .i64 0] := by
    unfold cmR
    rw [h1, zvalid_nS ha, zvalid_nS hb, if_neg (by decide), if_pos h]
    unfold prR
    rw [if_pos (show ckR M O [G, H] [(false, nS a), (false, nS b)] (decide ([G, H].length = [(false, nS a), (false, nS b)].length)) = 0 from e), e2]
  rw [opR_of e3, nS_beq]
  rfl
/-- Of the reduced openings with one value exactly one opens a power of H. -/
theorem hides_cnt {M O G H : ByteArray} (h : pkC M O G H = 0) (h2 : 2 ≤ num O) (h60 : num O ≤ 60) (hord : ∀ r, 1 ≤ r → r < num O → num H ^ r % num M ≠ 1) {s : Nat} (hs : num H ^ s % num M = num G) {x k : Nat} (hk : k < num O) : cntP (fun r => opR M O G H (nS (num H ^ x % num M)) false (nS k) false (nS r)) (num O) = 1 := by
  obtain ⟨h1, h3, h4, h5⟩ := pkC_parts h
  obtain ⟨p1, p2, p3⟩ := hasN_pow (by omega) (hasK_hasN h5)
  obtain ⟨_, _, hcn⟩ := chkK_parts h3
  have hm := (hasN_unit (hasK_hasN h5) hcn).2.1
  have hw : ∀ y, y < 60 → y < 256 ^ 128 := fun y hy => Nat.lt_of_lt_of_le hy (Nat.le_trans (by decide) (Nat.pow_le_pow_right (n := 256) (by decide) (by decide : 1 ≤ 128)))
  exact hides_count (x := x) (k := k) hm (by omega) p3 hord hs (fun r hr => op_small h (hw k (by omega)) (hw r (by omega)))
end Go.Proofs.Ytnnfgphioapmnaa
/- Walk: the law PedersenHides. -/
set_option linter.unusedVariables false
set_option linter.unusedSimpArgs false
namespace Go.Proofs.Ytnnfgphioapmnaa
open Go.RowKit

set_option maxRecDepth 100000 in
theorem int_OfA (n : Nat) (hn : n < 100000) (w : World) : Calls Try.prog 11 #[.int .i64 n] w (Ret (intV n) w) := by
  have HM := Lib.hid (int_made_n false n)
  have HO := Lib.hid (nat_Of n (by omega))
  obtain ⟨s, hs⟩ : ∃ s, nS n = s := ⟨_, rfl⟩
  have HI := Lib.hid (show intV (sg false n) = .agg #[.bool false, .string s] from by rw [← intV_sg, ← hs]; rfl)
  rw [HI.out] at HM
  have HG := Lib.hid (show intV (n : Int) = .agg #[.bool false, .string s] from HI.out)
  rw [show bstr (encN n) = s from hs] at HO
  rw [hs] at HM
  rw [HG.out]
  clear hs
  have h0 : (0 : Int) ≤ (n : Int) := by omega
  have hw : IntKind.u64.wrap (n : Int) = (n : Int) := u64_wrap n (by omega)
  go_enter Try.func11, Try.ntmps11
  go_wp2_with fail
  refine (HO.out _).mono ?_
  rintro e w1 ⟨rfl, hb1⟩
  have HX1 := Lib.hid ((Bx2.new w (.bool false) (.string ⟨#[]⟩) 38).next hb1)
  have HB1 := Lib.hid (((Below.refl w.heap.size w).alloc (Nat.le_refl _) (.cells #[.bool false, .string ⟨#[]⟩] 38)).trans (hb1.mono (by simp)))
  clear hb1
  go_wp2_with fail
  refine (HM.out _).mono ?_
  rintro e w2 ⟨rfl, hb2⟩
  have hX := HX1.out.next hb2
  have HB := Lib.hid (HB1.out.trans (hb2.mono HB1.out.size))
  have HX := Lib.hid hX
  have c0 := hX.c0
  have c1 := hX.c1
  have f0 := hX.f0
  have f1 := hX.f1
  clear hX hb2
  go_wp2
  have hY := HX.out.set2 (u := .bool false) (v := .string s)
  have q0 := hY.c0
  have q1 := hY.c1
  exact bodyPost_ret (v := .agg #[.bool false, .string s]) (by simp [results, Try.results11, go_sem, q0, q1]) rfl ⟨rfl, (HB.out.setCell (p := ⟨w.heap.size, 0, none⟩) (Nat.le_refl _) _).setCell (p := ⟨w.heap.size, 1, none⟩) (Nat.le_refl _) _⟩
theorem small_anyA (O : ByteArray) (hO : O.size ≤ 9223372036854775807) : ∃ (x : Nat) (ok : Bool), (∀ w, Calls Try.prog 6 #[.string O] w (RetQ (.tuple #[.int .u64 x, .bool ok]) w)) ∧ (ok = true → x = num O) := by
  cases hv : nvalid O with
  | false => exact ⟨0, false, nat_Small_no O hO (.inl hv), fun h => by cases h⟩
  | true =>
    by_cases h8 : O.size ≤ 8
    · exact ⟨num O, true, nat_Small_yes O hv h8, fun _ => rfl⟩
    · exact ⟨0, false, nat_Small_no O hO (.inr ⟨hv, by omega⟩), fun h => by cases h⟩
theorem few14_parts {M O G H : ByteArray} (h : few14 M O G H = true) : M.size ≤ 8 ∧ O.size ≤ 8 ∧ G.size ≤ 9 ∧ H.size ≤ 9 := by
  unfold few14 at h
  simp only [Bool.and_eq_true, decide_eq_true_eq] at h
  exact h

theorem nS_beqN {a : Nat} {x : ByteArray} (h : nvalid x = true) : ((nS a).toList == x.toList) = decide (a = num x) := by
  rw [← nS_beq a (num x), ← nS_num h]
/-- A number is one of the powers below the r-th one. -/
def PowIs (h m g r : Nat) : Prop := ∃ s, 1 ≤ s ∧ s < r ∧ h ^ s % m = g
theorem cntP_le (p : Nat → Bool) : ∀ n, cntP p n ≤ n
  | 0 => Nat.le_refl _
  | n + 1 => by
    have := cntP_le p n
    unfold cntP
    split <;> omega

set_option maxRecDepth 100000 in
set_option maxHeartbeats 8000000 in
theorem walk_hides (M O G H : ByteArray) (x : Nat) (hx : x < 65536) (hO9 : O.size ≤ 9223372036854775807) (w : World) : Calls Try.prog 3 #[kV M O G H, .int .u16 x] w (Ret (.bool true) w) := by
  have HAW := Lib.hid law14_awake
  have HFW := Lib.hid (law14_Few M O G H)
  obtain ⟨q, ok, hsm, hq⟩ := small_anyA O hO9
  have HSM := Lib.hid hsm
  clear hsm hO9
  cases ok with
  | false =>
    unfold kV at *
    clear hq
    go_enter Try.func3, Try.ntmps3
    have hx0 := Bx4.new w (.string M) (.string O) (.string G) (.string H) 26
    have hb0 := (Below.refl w.heap.size w).alloc (Nat.le_refl _) (.cells #[.string M, .string O, .string G, .string H] 26)
    obtain ⟨W0, hW0⟩ : ∃ W, w.alloc (.cells #[.string M, .string O, .string G, .string H] 26) = W := ⟨_, rfl⟩
    rw [hW0] at hx0 hb0
    have HX0 := Lib.hid hx0
    have HB0 := Lib.hid hb0
    obtain ⟨c0, c1, c2, c3⟩ := hx0.cells
    clear hx0 hb0
    go_wp2_with fail
    try rw [hW0]
    clear hW0
    refine (HSM.out _).mono ?_
    rintro ev w1 ⟨rfl, rfl⟩
    go_wp2_with fail
    refine (HAW.out _).mono ?_
    rintro ev w2 ⟨rfl, hb⟩
    have hx := HX0.out.next hb
    have HX1 := Lib.hid hx
    have HB1 := Lib.hid (HB0.out.trans (hb.mono HB0.out.size))
    clear hb c0 c1 c2 c3
    obtain ⟨c0, c1, c2, c3⟩ := hx.cells
    clear hx
    go_wp2
    go_ret
    exact ⟨rfl, HB1.out⟩
  | true =>
    by_cases h2 : q < 2
    · have i1 : decide ((q : Int) < 2) = true := decide_eq_true (by omega)
      have i1' : (q : Int) < 2 := by omega
      unfold kV at *
      clear hq h2
      go_enter Try.func3, Try.ntmps3
      have hx0 := Bx4.new w (.string M) (.string O) (.string G) (.string H) 26
      have hb0 := (Below.refl w.heap.size w).alloc (Nat.le_refl _) (.cells #[.string M, .string O, .string G, .string H] 26)
      obtain ⟨W0, hW0⟩ : ∃ W, w.alloc (.cells #[.string M, .string O, .string G, .string H] 26) = W := ⟨_, rfl⟩
      rw [hW0] at hx0 hb0
      have HX0 := Lib.hid hx0
      have HB0 := Lib.hid hb0
      obtain ⟨c0, c1, c2, c3⟩ := hx0.cells
      clear hx0 hb0
      go_wp2_with fail
      try rw [hW0]
      clear hW0
      refine (HSM.out _).mono ?_
      rintro ev w1 ⟨rfl, rfl⟩
      go_wp2_with fail
      refine (HAW.out _).mono ?_
      rintro ev w2 ⟨rfl, hb⟩
      have hx := HX0.out.next hb
      have HX1 := Lib.hid hx
      have HB1 := Lib.hid (HB0.out.trans (hb.mono HB0.out.size))
      clear hb c0 c1 c2 c3
      obtain ⟨c0, c1, c2, c3⟩ := hx.cells
      clear hx
      go_wp2
      go_ret
      exact ⟨rfl, HB1.out⟩
    · have i1 : decide ((q : Int) < 2) = false := decide_eq_false (by omega)
      have i1' : ¬ ((q : Int) < 2) := by omega
      by_cases h60 : 60 < q
      · have i2 : decide ((60 : Int) < (q : Int)) = true := decide_eq_true (by omega)
        have i2' : (60 : Int) < (q : Int) := by omega
        unfold kV at *
        clear hq h2 h60
        go_enter Try.func3, Try.ntmps3
        have hx0 := Bx4.new w (.string M) (.string O) (.string G) (.string H) 26
        have hb0 := (Below.refl w.heap.size w).alloc (Nat.le_refl _) (.cells #[.string M, .string O, .string G, .string H] 26)
        obtain ⟨W0, hW0⟩ : ∃ W, w.alloc (.cells #[.string M, .string O, .string G, .string H] 26) = W := ⟨_, rfl⟩
        rw [hW0] at hx0 hb0
        have HX0 := Lib.hid hx0
        have HB0 := Lib.hid hb0
        obtain ⟨c0, c1, c2, c3⟩ := hx0.cells
        clear hx0 hb0
        go_wp2_with fail
        try rw [hW0]
        clear hW0
        refine (HSM.out _).mono ?_
        rintro ev w1 ⟨rfl, rfl⟩
        go_wp2_with fail
        refine (HAW.out _).mono ?_
        rintro ev w2 ⟨rfl, hb⟩
        have hx := HX0.out.next hb
        have HX1 := Lib.hid hx
        have HB1 := Lib.hid (HB0.out.trans (hb.mono HB0.out.size))
        clear hb c0 c1 c2 c3
        obtain ⟨c0, c1, c2, c3⟩ := hx.cells
        clear hx
        go_wp2
        go_ret
        exact ⟨rfl, HB1.out⟩
      · have i2 : decide ((60 : Int) < (q : Int)) = false := decide_eq_false (by omega)
        have i2' : ¬ ((60 : Int) < (q : Int)) := by omega
        cases hf : few14 M O G H with
        | false =>
          rw [hf] at HFW
          unfold kV at *
          clear hq h2 h60 hf
          go_enter Try.func3, Try.ntmps3
          have hx0 := Bx4.new w (.string M) (.string O) (.string G) (.string H) 26
          have hb0 := (Below.refl w.heap.size w).alloc (Nat.le_refl _) (.cells #[.string M, .string O, .string G, .string H] 26)
          obtain ⟨W0, hW0⟩ : ∃ W, w.alloc (.cells #[.string M, .string O, .string G, .string H] 26) = W := ⟨_, rfl⟩
          rw [hW0] at hx0 hb0
          have HX0 := Lib.hid hx0
          have HB0 := Lib.hid hb0
          obtain ⟨c0, c1, c2, c3⟩ := hx0.cells
          clear hx0 hb0
          go_wp2_with fail
          try rw [hW0]
          clear hW0
          refine (HSM.out _).mono ?_
          rintro ev w1 ⟨rfl, rfl⟩
          go_wp2_with fail
          refine (HFW.out _).mono ?_
          rintro ev w2 ⟨rfl, hb⟩
          have hx := HX0.out.next hb
          have HX1 := Lib.hid hx
          have HB1 := Lib.hid (HB0.out.trans (hb.mono HB0.out.size))
          clear hb c0 c1 c2 c3
          obtain ⟨c0, c1, c2, c3⟩ := hx.cells
          clear hx
          go_wp2_with fail
          refine (HAW.out _).mono ?_
          rintro ev w3 ⟨rfl, hb⟩
          have hx := HX1.out.next hb
          have HX2 := Lib.hid hx
          have HB2 := Lib.hid (HB1.out.trans (hb.mono HB1.out.size))
          clear hb c0 c1 c2 c3
          obtain ⟨c0, c1, c2, c3⟩ := hx.cells
          clear hx
          go_wp2
          go_ret
          exact ⟨rfl, HB2.out⟩
        | true =>
          rw [hf] at HFW
          obtain ⟨z1, z2, z3, z4⟩ := few14_parts hf
          have HCK := Lib.hid (pk_Check M O G H z1 z2 (by omega) (by omega))
          obtain ⟨k, hk⟩ : ∃ k, pkC M O G H = k := ⟨_, rfl⟩
          rw [hk] at HCK
          by_cases hk0 : k = 0
          · subst hk0
            have HPK := Lib.hid hk
            have hqo := hq rfl
            have HQO := Lib.hid hqo
            have HN1 := Lib.hid (nat_Of 1 (by decide))
            have HEXP := Lib.hid (fun (r : Nat) (hr : r < 100000) (w : World) => show Calls Try.prog 10 #[gV M O, .string H, .agg #[.bool false, .string (nS r)]] w (Ret (.tuple #[.string (nS (num H ^ r % num M)), .int .i64 0]) w) from by
              have h := pw_Exp M O H false (nS r) z1 z2 (by omega) (Nat.le_trans (nS_small_size (by omega)) (by decide)) w
              rw [exp_small HPK.out (Nat.lt_trans hr (Nat.lt_of_lt_of_le (by decide) (Nat.pow_le_pow_right (n := 256) (by decide) (by decide : 3 ≤ 128))))] at h
              exact h)
            have HOFX := Lib.hid (fun (r : Nat) (hr : r < 100000) (w : World) => show Calls Try.prog 11 #[.int .i64 r] w (Ret (.agg #[.bool false, .string (nS r)]) w) from by
              have h := int_OfA r hr w
              rw [intV_nat] at h
              exact h)
            have HOPN := Lib.hid (fun (k r : Nat) (hk : k < 1000) (hr : r < 1000) => law14_open k r hk hr)
            have HOPS := Lib.hid (fun (c : ByteArray) (k r : Nat) (hk : k < 1000) (hr : r < 1000) (w : World) => pk_Opens M O G H c false (nS k) false (nS r) z1 z2 (by omega) (by omega) (Nat.le_trans (nS_small_size (by omega)) (by decide)) (Nat.le_trans (nS_small_size (by omega)) (by decide)) w)
            have HGV := Lib.hid (show nvalid G = true from (kF_parts (pkC_parts hk).1).2.2.1)
            have hq2 : 2 ≤ q := by omega
            have hq60 : q ≤ 60 := by omega
            obtain ⟨s1, hs1⟩ : ∃ s, bstr (encN 1) = s := ⟨_, rfl⟩
            rw [hs1] at HN1
            have HS1 := Lib.hid (show nS 1 = s1 from hs1)
            unfold kV gV oV at *
            clear hq h2 h60 hf hk hqo z1 z2 z3 z4 hs1
            go_enter Try.func3, Try.ntmps3
            have hx0 := Bx4.new w (.string M) (.string O) (.string G) (.string H) 26
            have hb0 := (Below.refl w.heap.size w).alloc (Nat.le_refl _) (.cells #[.string M, .string O, .string G, .string H] 26)
            obtain ⟨W0, hW0⟩ : ∃ W, w.alloc (.cells #[.string M, .string O, .string G, .string H] 26) = W := ⟨_, rfl⟩
            rw [hW0] at hx0 hb0
            have HX0 := Lib.hid hx0
            have HB0 := Lib.hid hb0
            obtain ⟨c0, c1, c2, c3⟩ := hx0.cells
            clear hx0 hb0
            go_wp2_with fail
            try rw [hW0]
            clear hW0
            refine (HSM.out _).mono ?_
            rintro ev w1 ⟨rfl, rfl⟩
            go_wp2_with fail
            refine (HFW.out _).mono ?_
            rintro ev w2 ⟨rfl, hb⟩
            have hx := HX0.out.next hb
            have HX1 := Lib.hid hx
            have HB1 := Lib.hid (HB0.out.trans (hb.mono HB0.out.size))
            clear hb c0 c1 c2 c3
            obtain ⟨c0, c1, c2, c3⟩ := hx.cells
            clear hx
            go_wp2_with fail
            refine (HCK.out _).mono ?_
            rintro ev w3 ⟨rfl, hb⟩
            have hx := HX1.out.next hb
            have HX2 := Lib.hid hx
            have HB2 := Lib.hid (HB1.out.trans (hb.mono HB1.out.size))
            clear hb c0 c1 c2 c3
            obtain ⟨c0, c1, c2, c3⟩ := hx.cells
            clear hx
            go_wp2
            clear c0 c1 c2 c3
            go_loopw [7, 8] (fun iv rv wr => ∃ (r : Nat) (b : Bool), 1 ≤ r ∧ r ≤ q ∧ rv = .int .u64 r ∧ iv = .bool b ∧ (b = true ↔ PowIs (num H) (num M) (num G) r) ∧ (∀ s, 1 ≤ s → s < r → num H ^ s % num M ≠ 1) ∧ Bx4 wr w.heap.size (.string M) (.string O) (.string G) (.string H) 26 ∧ Below w.heap.size w wr) (fun _ rv _ => q - (intOf rv).toNat)
            case atStart => exact ⟨1, false, Nat.le_refl _, by omega, rfl, rfl, ⟨fun h => (by cases h), fun ⟨s, h1, h2, _⟩ => (by omega)⟩, fun s h1 h2 => (by omega), HX2.out, HB2.out⟩
            case round =>
              obtain ⟨r, b, h1r, hrq, rfl, rfl, hb, hne, hX, hB⟩ := hrel
              have HBB := Lib.hid hb
              have HNE := Lib.hid hne
              have HX3 := Lib.hid hX
              have HB3 := Lib.hid hB
              have hcells := hX.cells
              obtain ⟨g0, g1, g2, g3⟩ := (show Bx4 wr.drew w.heap.size (.string M) (.string O) (.string G) (.string H) 26 from hX.next (Below.refl _ _).drew).cells
              clear hb hne hX hB HX0 HX1 HX2 HB0 HB1 HB2
              by_cases hlt : r < q
              · clear hcells
                have HOr := Lib.hid (HOFX.out r (by omega))
                have HEr := Lib.hid (HEXP.out r (by omega))
                have hri : IntKind.i64.wrap (r : Int) = (r : Int) := by rw [IntKind.wrap_i64]; omega
                obtain ⟨v, hv⟩ : ∃ v, num H ^ r % num M = v := ⟨_, rfl⟩
                obtain ⟨sv, hsv⟩ : ∃ s, nS v = s := ⟨_, rfl⟩
                obtain ⟨sr, hsr⟩ : ∃ s, nS r = s := ⟨_, rfl⟩
                rw [hsr] at HOr HEr
                rw [hv, hsv] at HEr
                have HV := Lib.hid hv
                have HSV := Lib.hid hsv
                clear hv hsv hsr
                go_wp2
                refine wp_region_K 13 (Below (wr.drew).heap.size (wr.drew)) (by kernel_rfl) ?_
                intro hD
                refine wpAnyK_pureD (i := 0) (d := some 50) (v := ?v8_0b1) (fuel := 12) rfl (by kernel_rfl) (by kernel_rfl) (fun _ _ _ h => h) hD (Below.refl _ _) (.inl ⟨by kernel_rfl, ?y8_0b1⟩) ?n8_0b1
                case y8_0b1 => intro w' _; go_simp; with_reducible rfl
                clear hD; intro hD
                simp only [Act.put, List.setIfInBounds_toArray, List.set_cons_zero, List.set_cons_succ]
                refine wpAnyK_takeSD (i := 1) (d := some 51) (v := ?v8_1b1) (fuel := 11) rfl (by kernel_rfl) (by kernel_rfl) (by kernel_rfl) (fun _ _ _ h => h) hD (Below.refl _ _) (.inl ⟨by kernel_rfl, ?y8_1b1⟩) ?n8_1b1
                case y8_1b1 => intro w' hS'; have e0 := cell_kept hS' (Nat.le_refl _) g0; have e1 := cell_kept hS' (Nat.le_refl _) g1; have e2 := cell_kept hS' (Nat.le_refl _) g2; have e3 := cell_kept hS' (Nat.le_refl _) g3; go_simp; with_reducible rfl
                clear hD; intro hD
                simp only [Act.put, List.setIfInBounds_toArray, List.set_cons_zero, List.set_cons_succ]
                refine wpAnyK_pureD (i := 2) (d := some 52) (v := ?v8_2b1) (fuel := 10) rfl (by kernel_rfl) (by kernel_rfl) (fun _ _ _ h => h) hD (Below.refl _ _) (.inl ⟨by kernel_rfl, ?y8_2b1⟩) ?n8_2b1
                case y8_2b1 => intro w' _; go_simp; with_reducible rfl
                clear hD; intro hD
                simp only [Act.put, List.setIfInBounds_toArray, List.set_cons_zero, List.set_cons_succ]
                refine wpAnyK_takeSD (i := 3) (d := some 53) (v := ?v8_3b1) (fuel := 9) rfl (by kernel_rfl) (by kernel_rfl) (by kernel_rfl) (fun _ _ _ h => h) hD (Below.refl _ _) (.inl ⟨by kernel_rfl, ?y8_3b1⟩) ?n8_3b1
                case y8_3b1 => intro w' hS'; have e0 := cell_kept hS' (Nat.le_refl _) g0; have e1 := cell_kept hS' (Nat.le_refl _) g1; have e2 := cell_kept hS' (Nat.le_refl _) g2; have e3 := cell_kept hS' (Nat.le_refl _) g3; go_simp; with_reducible rfl
                clear hD; intro hD
                simp only [Act.put, List.setIfInBounds_toArray, List.set_cons_zero, List.set_cons_succ]
                refine wpAnyK_pureD (i := 4) (d := some 54) (v := ?v8_4b1) (fuel := 8) rfl (by kernel_rfl) (by kernel_rfl) (fun _ _ _ h => h) hD (Below.refl _ _) (.inl ⟨by kernel_rfl, ?y8_4b1⟩) ?n8_4b1
                case y8_4b1 => intro w' _; go_simp; with_reducible rfl
                clear hD; intro hD
                simp only [Act.put, List.setIfInBounds_toArray, List.set_cons_zero, List.set_cons_succ]
                refine wpAnyK_pureD (i := 5) (d := some 55) (v := ?v8_5b1) (fuel := 7) rfl (by kernel_rfl) (by kernel_rfl) (fun _ _ _ h => h) hD (Below.refl _ _) (.inl ⟨by kernel_rfl, ?y8_5b1⟩) ?n8_5b1
                case y8_5b1 => intro w' _; go_simp; with_reducible rfl
                clear hD; intro hD
                simp only [Act.put, List.setIfInBounds_toArray, List.set_cons_zero, List.set_cons_succ]
                refine wpAnyK_one (i := 6) (fuel := 6) (by kernel_rfl) rfl hD ?_
                clear hD; intro K6 hK6
                go_wp2_with fail
                refine (HOr.out _).mono ?_
                rintro ev u6 ⟨rfl, hb⟩
                have HB6 := Lib.hid hb
                clear hb
                go_wp2
                refine hK6 _ _ (by exact HB6.out) ?_; clear hK6; intro hS_8_6 hD
                refine wpAnyK_one (i := 7) (fuel := 5) (by kernel_rfl) rfl hD ?_
                clear hD; intro K7 hK7
                go_wp2_with fail
                refine (HEr.out _).mono ?_
                rintro ev u7 ⟨rfl, hb⟩
                have HB7 := Lib.hid hb
                clear hb
                go_wp2
                refine hK7 _ _ (by exact Below.trans hS_8_6 (Below.mono HB7.out (Below.size hS_8_6))) ?_; clear hK7; intro hS_8_7 hD
                refine wpAnyK_pureD (i := 8) (d := some 49) (v := ?v8_8b1) (fuel := 4) rfl (by kernel_rfl) (by kernel_rfl) (fun _ _ _ h => h) hD hS_8_7 (.inl ⟨by kernel_rfl, ?y8_8b1⟩) ?n8_8b1
                case y8_8b1 => intro w' _; go_simp; with_reducible rfl
                clear hD; intro hD
                simp only [Act.put, List.setIfInBounds_toArray, List.set_cons_zero, List.set_cons_succ]
                refine wpAnyK_pureD (i := 9) (d := some 58) (v := ?v8_9b1) (fuel := 3) rfl (by kernel_rfl) (by kernel_rfl) (fun _ _ _ h => h) hD hS_8_7 (.inl ⟨by kernel_rfl, ?y8_9b1⟩) ?n8_9b1
                case y8_9b1 => intro w' _; go_simp; with_reducible rfl
                clear hD; intro hD
                simp only [Act.put, List.setIfInBounds_toArray, List.set_cons_zero, List.set_cons_succ]
                refine wpAnyK_pureD (i := 10) (d := some 59) (v := ?v8_10b1) (fuel := 2) rfl (by kernel_rfl) (by kernel_rfl) (fun _ _ _ h => h) hD hS_8_7 (.inl ⟨by kernel_rfl, ?y8_10b1⟩) ?n8_10b1
                case y8_10b1 => intro w' _; go_simp; with_reducible rfl
                clear hD; intro hD
                simp only [Act.put, List.setIfInBounds_toArray, List.set_cons_zero, List.set_cons_succ]
                refine wpAnyK_one (i := 11) (fuel := 1) (by kernel_rfl) rfl hD ?_
                clear hD; intro K11 hK11
                go_wp2
                refine hK11 _ _ (by exact hS_8_7) ?_; clear hK11; intro hS_8_11 hD
                refine wpAnyK_one (i := 12) (fuel := 0) (by kernel_rfl) rfl hD ?_
                clear hD; intro K12 hK12
                go_wp2
                refine hK12 _ _ (by exact hS_8_11) ?_; clear hK12; intro hS_8_12 hD
                refine wpAnyK_done (by kernel_rfl) ?_ 0
                clear hD
                have HS8 := Lib.hid hS_8_12
                have hbw : Below wr.heap.size wr u7 := (Below.refl _ _).drew.trans HS8.out
                have HX4 := Lib.hid (HX3.out.next hbw)
                have HB4 := Lib.hid (HB3.out.trans (hbw.mono HB3.out.size))
                obtain ⟨c0, c1, c2, c3⟩ := HX4.out.cells
                clear hbw g0 g1 g2 g3
                go_wp2_with fail
                refine (HN1.out _).mono ?_
                rintro ev u8 ⟨rfl, hb⟩
                have hx := HX4.out.next hb
                have HX5 := Lib.hid hx
                have HB5 := Lib.hid (HB4.out.trans (hb.mono HB4.out.size))
                clear hb c0 c1 c2 c3
                obtain ⟨c0, c1, c2, c3⟩ := hx.cells
                clear hx
                by_cases hv1 : v = 1
                · have he : (sv.toList == s1.toList) = true := by rw [← HSV.out, ← HS1.out, nS_beq, decide_eq_true_eq]; exact hv1
                  clear hv1
                  go_wp2_with fail
                  refine (HAW.out _).mono ?_
                  rintro ev u9 ⟨rfl, hb⟩
                  have hx := HX5.out.next hb
                  have HX6 := Lib.hid hx
                  have HB6 := Lib.hid (HB5.out.trans (hb.mono HB5.out.size))
                  clear hb c0 c1 c2 c3
                  obtain ⟨c0, c1, c2, c3⟩ := hx.cells
                  clear hx
                  go_wp2
                  go_ret
                  exact ⟨rfl, HB6.out⟩
                · have he : (sv.toList == s1.toList) = false := by rw [← HSV.out, ← HS1.out, nS_beq]; exact decide_eq_false hv1
                  have HNEX := Lib.hid (show ∀ s, 1 ≤ s → s < r + 1 → num H ^ s % num M ≠ 1 from fun s h1 h2 => by
                    by_cases e : s = r
                    · subst e; rw [HV.out]; exact hv1
                    · exact HNE.out s h1 (by omega))
                  clear hv1
                  cases b with
                  | true =>
                    have HBT := Lib.hid (show PowIs (num H) (num M) (num G) (r + 1) from by obtain ⟨s, h1, h2, h3⟩ := HBB.out.1 rfl; exact ⟨s, h1, by omega, h3⟩)
                    go_wp2
                    go_roundw
                    case rel => exact ⟨r + 1, true, by omega, by omega, by go_num, rfl, ⟨fun _ => HBT.out, fun _ => rfl⟩, HNEX.out, HX5.out, HB5.out⟩
                    case measure => simp [intOf]; omega
                  | false =>
                    have HBO := Lib.hid (show ¬ PowIs (num H) (num M) (num G) r from fun h => by cases HBB.out.2 h)
                    by_cases hvg : v = num G
                    · have he2 : (sv.toList == G.toList) = true := by rw [← HSV.out, nS_beqN HGV.out, decide_eq_true_eq]; exact hvg
                      have HBT := Lib.hid (show PowIs (num H) (num M) (num G) (r + 1) from ⟨r, h1r, by omega, by rw [HV.out]; exact hvg⟩)
                      clear hvg
                      go_wp2
                      go_roundw
                      case rel => exact ⟨r + 1, true, by omega, by omega, by go_num, rfl, ⟨fun _ => HBT.out, fun _ => rfl⟩, HNEX.out, HX5.out, HB5.out⟩
                      case measure => simp [intOf]; omega
                    · have he2 : (sv.toList == G.toList) = false := by rw [← HSV.out, nS_beqN HGV.out]; exact decide_eq_false hvg
                      have HBT := Lib.hid (show ¬ PowIs (num H) (num M) (num G) (r + 1) from fun ⟨s, h1, h2, h3⟩ => by
                        by_cases e : s = r
                        · subst e; rw [HV.out] at h3; exact absurd h3 hvg
                        · exact HBO.out ⟨s, h1, by omega, h3⟩)
                      clear hvg
                      go_wp2
                      go_roundw
                      case rel => exact ⟨r + 1, false, by omega, by omega, by go_num, rfl, ⟨fun h => (by cases h), fun h => absurd h HBT.out⟩, HNEX.out, HX5.out, HB5.out⟩
                      case measure => simp [intOf]; omega
              · obtain rfl : r = q := by omega
                obtain ⟨V, hV⟩ : ∃ V, V = wr := ⟨_, rfl⟩
                subst hV
                cases b with
                | false =>
                  clear g0 g1 g2 g3
                  obtain ⟨c0, c1, c2, c3⟩ := hcells
                  go_wp2_with fail
                  refine (HAW.out _).mono ?_
                  rintro ev u9 ⟨rfl, hb⟩
                  have hx := HX3.out.next hb
                  have HX4 := Lib.hid hx
                  have HB4 := Lib.hid (HB3.out.trans (hb.mono HB3.out.size))
                  clear hb c0 c1 c2 c3
                  obtain ⟨c0, c1, c2, c3⟩ := hx.cells
                  clear hx
                  go_wp2
                  go_ret
                  exact ⟨rfl, HB4.out⟩
                | true =>
                  obtain ⟨s, hs1, hs2, hs3⟩ := HBB.out.1 rfl
                  have HCNT := Lib.hid (fun (k : Nat) (hk : k < r) => hides_cnt (x := x) (k := k) HPK.out (by have := HQO.out; omega) (by have := HQO.out; omega) (fun s h1 h2 => HNE.out s h1 (by have := HQO.out; omega)) hs3 (by have := HQO.out; omega))
                  rw [← HQO.out] at HCNT
                  clear hs1 hs2 hs3 hcells
                  have HOx := Lib.hid (HOFX.out x (by omega))
                  have HEx := Lib.hid (HEXP.out x (by omega))
                  obtain ⟨cS, hcS⟩ : ∃ s, nS (num H ^ x % num M) = s := ⟨_, rfl⟩
                  obtain ⟨sx, hsx⟩ : ∃ s, nS x = s := ⟨_, rfl⟩
                  rw [hsx] at HOx HEx
                  rw [hcS] at HEx HCNT
                  clear hcS hsx
                  go_wp2
                  refine wp_region_K 13 (Below (V.drew).heap.size (V.drew)) (by kernel_rfl) ?_
                  intro hD
                  refine wpAnyK_pureD (i := 0) (d := some 77) (v := ?v16_0b2) (fuel := 12) rfl (by kernel_rfl) (by kernel_rfl) (fun _ _ _ h => h) hD (Below.refl _ _) (.inl ⟨by kernel_rfl, ?y16_0b2⟩) ?n16_0b2
                  case y16_0b2 => intro w' _; go_simp; with_reducible rfl
                  clear hD; intro hD
                  simp only [Act.put, List.setIfInBounds_toArray, List.set_cons_zero, List.set_cons_succ]
                  refine wpAnyK_takeSD (i := 1) (d := some 78) (v := ?v16_1b2) (fuel := 11) rfl (by kernel_rfl) (by kernel_rfl) (by kernel_rfl) (fun _ _ _ h => h) hD (Below.refl _ _) (.inl ⟨by kernel_rfl, ?y16_1b2⟩) ?n16_1b2
                  case y16_1b2 => intro w' hS'; have e0 := cell_kept hS' (Nat.le_refl _) g0; have e1 := cell_kept hS' (Nat.le_refl _) g1; have e2 := cell_kept hS' (Nat.le_refl _) g2; have e3 := cell_kept hS' (Nat.le_refl _) g3; go_simp; with_reducible rfl
                  clear hD; intro hD
                  simp only [Act.put, List.setIfInBounds_toArray, List.set_cons_zero, List.set_cons_succ]
                  refine wpAnyK_pureD (i := 2) (d := some 79) (v := ?v16_2b2) (fuel := 10) rfl (by kernel_rfl) (by kernel_rfl) (fun _ _ _ h => h) hD (Below.refl _ _) (.inl ⟨by kernel_rfl, ?y16_2b2⟩) ?n16_2b2
                  case y16_2b2 => intro w' _; go_simp; with_reducible rfl
                  clear hD; intro hD
                  simp only [Act.put, List.setIfInBounds_toArray, List.set_cons_zero, List.set_cons_succ]
                  refine wpAnyK_takeSD (i := 3) (d := some 80) (v := ?v16_3b2) (fuel := 9) rfl (by kernel_rfl) (by kernel_rfl) (by kernel_rfl) (fun _ _ _ h => h) hD (Below.refl _ _) (.inl ⟨by kernel_rfl, ?y16_3b2⟩) ?n16_3b2
                  case y16_3b2 => intro w' hS'; have e0 := cell_kept hS' (Nat.le_refl _) g0; have e1 := cell_kept hS' (Nat.le_refl _) g1; have e2 := cell_kept hS' (Nat.le_refl _) g2; have e3 := cell_kept hS' (Nat.le_refl _) g3; go_simp; with_reducible rfl
                  clear hD; intro hD
                  simp only [Act.put, List.setIfInBounds_toArray, List.set_cons_zero, List.set_cons_succ]
                  refine wpAnyK_pureD (i := 4) (d := some 81) (v := ?v16_4b2) (fuel := 8) rfl (by kernel_rfl) (by kernel_rfl) (fun _ _ _ h => h) hD (Below.refl _ _) (.inl ⟨by kernel_rfl, ?y16_4b2⟩) ?n16_4b2
                  case y16_4b2 => intro w' _; go_simp; with_reducible rfl
                  clear hD; intro hD
                  simp only [Act.put, List.setIfInBounds_toArray, List.set_cons_zero, List.set_cons_succ]
                  refine wpAnyK_pureD (i := 5) (d := some 82) (v := ?v16_5b2) (fuel := 7) rfl (by kernel_rfl) (by kernel_rfl) (fun _ _ _ h => h) hD (Below.refl _ _) (.inl ⟨by kernel_rfl, ?y16_5b2⟩) ?n16_5b2
                  case y16_5b2 => intro w' _; go_simp; with_reducible rfl
                  clear hD; intro hD
                  simp only [Act.put, List.setIfInBounds_toArray, List.set_cons_zero, List.set_cons_succ]
                  refine wpAnyK_one (i := 6) (fuel := 6) (by kernel_rfl) rfl hD ?_
                  clear hD; intro K6 hK6
                  go_wp2_with fail
                  refine (HOx.out _).mono ?_
                  rintro ev u6 ⟨rfl, hb⟩
                  have HB6 := Lib.hid hb
                  clear hb
                  go_wp2
                  refine hK6 _ _ (by exact HB6.out) ?_; clear hK6; intro hS_16_6 hD
                  refine wpAnyK_one (i := 7) (fuel := 5) (by kernel_rfl) rfl hD ?_
                  clear hD; intro K7 hK7
                  go_wp2_with fail
                  refine (HEx.out _).mono ?_
                  rintro ev u7 ⟨rfl, hb⟩
                  have HB7 := Lib.hid hb
                  clear hb
                  go_wp2
                  refine hK7 _ _ (by exact Below.trans hS_16_6 (Below.mono HB7.out (Below.size hS_16_6))) ?_; clear hK7; intro hS_16_7 hD
                  refine wpAnyK_pureD (i := 8) (d := some 76) (v := ?v16_8b2) (fuel := 4) rfl (by kernel_rfl) (by kernel_rfl) (fun _ _ _ h => h) hD hS_16_7 (.inl ⟨by kernel_rfl, ?y16_8b2⟩) ?n16_8b2
                  case y16_8b2 => intro w' _; go_simp; with_reducible rfl
                  clear hD; intro hD
                  simp only [Act.put, List.setIfInBounds_toArray, List.set_cons_zero, List.set_cons_succ]
                  refine wpAnyK_pureD (i := 9) (d := some 85) (v := ?v16_9b2) (fuel := 3) rfl (by kernel_rfl) (by kernel_rfl) (fun _ _ _ h => h) hD hS_16_7 (.inl ⟨by kernel_rfl, ?y16_9b2⟩) ?n16_9b2
                  case y16_9b2 => intro w' _; go_simp; with_reducible rfl
                  clear hD; intro hD
                  simp only [Act.put, List.setIfInBounds_toArray, List.set_cons_zero, List.set_cons_succ]
                  refine wpAnyK_pureD (i := 10) (d := some 86) (v := ?v16_10b2) (fuel := 2) rfl (by kernel_rfl) (by kernel_rfl) (fun _ _ _ h => h) hD hS_16_7 (.inl ⟨by kernel_rfl, ?y16_10b2⟩) ?n16_10b2
                  case y16_10b2 => intro w' _; go_simp; with_reducible rfl
                  clear hD; intro hD
                  simp only [Act.put, List.setIfInBounds_toArray, List.set_cons_zero, List.set_cons_succ]
                  refine wpAnyK_one (i := 11) (fuel := 1) (by kernel_rfl) rfl hD ?_
                  clear hD; intro K11 hK11
                  go_wp2
                  refine hK11 _ _ (by exact hS_16_7) ?_; clear hK11; intro hS_16_11 hD
                  refine wpAnyK_one (i := 12) (fuel := 0) (by kernel_rfl) rfl hD ?_
                  clear hD; intro K12 hK12
                  go_wp2
                  refine hK12 _ _ (by exact hS_16_11) ?_; clear hK12; intro hS_16_12 hD
                  refine wpAnyK_done (by kernel_rfl) ?_ 0
                  clear hD
                  have HS8 := Lib.hid hS_16_12
                  have hbw : Below V.heap.size V u7 := (Below.refl _ _).drew.trans HS8.out
                  have HX4 := Lib.hid (HX3.out.next hbw)
                  have HB4 := Lib.hid (HB3.out.trans (hbw.mono HB3.out.size))
                  clear hbw g0 g1 g2 g3
                  have hrw : IntKind.i64.wrap (r : Int) = (r : Int) := by rw [IntKind.wrap_i64]; omega
                  go_wp2
                  go_loopw [13] (fun kv wr => ∃ k : Nat, k ≤ r ∧ kv = .int .i64 k ∧ Bx4 wr w.heap.size (.string M) (.string O) (.string G) (.string H) 26 ∧ Below w.heap.size w wr) (fun kv _ => r - (intOf kv).toNat)
                  case atStart => exact ⟨0, Nat.zero_le _, rfl, HX4.out, HB4.out⟩
                  case round =>
                    obtain ⟨k, hkr, rfl, hX, hB⟩ := hrel
                    have HX5 := Lib.hid hX
                    have HB5 := Lib.hid hB
                    clear hX hB
                    by_cases hlt2 : k < r
                    · obtain ⟨P, hP⟩ : ∃ P, P = fun j => opR M O G H cS false (nS k) false (nS j) := ⟨_, rfl⟩
                      have HP := Lib.hid hP
                      have HC1 := Lib.hid (HCNT.out k hlt2)
                      rw [← hP] at HC1
                      clear hP
                      go_wp2
                      go_loopw [14, 15] (fun cv jv wr => ∃ j : Nat, j ≤ r ∧ jv = .int .i64 j ∧ cv = .int .i64 (cntP P j) ∧ Bx4 wr w.heap.size (.string M) (.string O) (.string G) (.string H) 26 ∧ Below w.heap.size w wr) (fun _ jv _ => r - (intOf jv).toNat)
                      case atStart => exact ⟨0, Nat.zero_le _, rfl, rfl, HX5.out, HB5.out⟩
                      case round =>
                        obtain ⟨j, hjr, rfl, rfl, hX, hB⟩ := hrel
                        have HX6 := Lib.hid hX
                        have HB6 := Lib.hid hB
                        obtain ⟨g0, g1, g2, g3⟩ := (show Bx4 wr.drew w.heap.size (.string M) (.string O) (.string G) (.string H) 26 from hX.next (Below.refl _ _).drew).cells
                        clear hX hB
                        by_cases hlt3 : j < r
                        · have HOn := Lib.hid (HOPN.out k j (by omega) (by omega))
                          have HOs := Lib.hid (HOPS.out cS k j (by omega) (by omega))
                          have hpj : opR M O G H cS false (nS k) false (nS j) = P j := by rw [HP.out]
                          rw [hpj] at HOs
                          obtain ⟨sk, hsk⟩ : ∃ s, nS k = s := ⟨_, rfl⟩
                          obtain ⟨sj, hsj⟩ : ∃ s, nS j = s := ⟨_, rfl⟩
                          rw [hsk, hsj] at HOn HOs
                          have hcs : cntP P (j + 1) = cntP P j + if P j then 1 else 0 := rfl
                          obtain ⟨pj, hpj2⟩ : ∃ b, P j = b := ⟨_, rfl⟩
                          obtain ⟨cn, hcn⟩ : ∃ n, cntP P j = n := ⟨_, rfl⟩
                          have hcl : cn ≤ j := by rw [← hcn]; exact cntP_le P j
                          rw [hpj2, hcn] at hcs
                          rw [hpj2] at HOs
                          rw [hcn]
                          have HCS := Lib.hid hcs
                          clear hpj hsk hsj hcs hpj2 hcn
                          go_wp2
                          refine wp_region_K 6 (Below (wr.drew).heap.size (wr.drew)) (by kernel_rfl) ?_
                          intro hD
                          refine wpAnyK_takeSD (i := 0) (d := some 101) (v := ?v26_0b3) (fuel := 5) rfl (by kernel_rfl) (by kernel_rfl) (by kernel_rfl) (fun _ _ _ h => h) hD (Below.refl _ _) (.inl ⟨by kernel_rfl, ?y26_0b3⟩) ?n26_0b3
                          case y26_0b3 => intro w' hS'; have e0 := cell_kept hS' (Nat.le_refl _) g0; have e1 := cell_kept hS' (Nat.le_refl _) g1; have e2 := cell_kept hS' (Nat.le_refl _) g2; have e3 := cell_kept hS' (Nat.le_refl _) g3; go_simp; with_reducible rfl
                          clear hD; intro hD
                          simp only [Act.put, List.setIfInBounds_toArray, List.set_cons_zero, List.set_cons_succ]
                          refine wpAnyK_pureD (i := 1) (d := some 102) (v := ?v26_1b3) (fuel := 4) rfl (by kernel_rfl) (by kernel_rfl) (fun _ _ _ h => h) hD (Below.refl _ _) (.inl ⟨by kernel_rfl, ?y26_1b3⟩) ?n26_1b3
                          case y26_1b3 => intro w' _; go_simp; with_reducible rfl
                          clear hD; intro hD
                          simp only [Act.put, List.setIfInBounds_toArray, List.set_cons_zero, List.set_cons_succ]
                          refine wpAnyK_pureD (i := 2) (d := some 103) (v := ?v26_2b3) (fuel := 3) rfl (by kernel_rfl) (by kernel_rfl) (fun _ _ _ h => h) hD (Below.refl _ _) (.inl ⟨by kernel_rfl, ?y26_2b3⟩) ?n26_2b3
                          case y26_2b3 => intro w' _; go_simp; with_reducible rfl
                          clear hD; intro hD
                          simp only [Act.put, List.setIfInBounds_toArray, List.set_cons_zero, List.set_cons_succ]
                          refine wpAnyK_pureD (i := 3) (d := some 104) (v := ?v26_3b3) (fuel := 2) rfl (by kernel_rfl) (by kernel_rfl) (fun _ _ _ h => h) hD (Below.refl _ _) (.inl ⟨by kernel_rfl, ?y26_3b3⟩) ?n26_3b3
                          case y26_3b3 => intro w' _; go_simp; with_reducible rfl
                          clear hD; intro hD
                          simp only [Act.put, List.setIfInBounds_toArray, List.set_cons_zero, List.set_cons_succ]
                          refine wpAnyK_one (i := 4) (fuel := 1) (by kernel_rfl) rfl hD ?_
                          clear hD; intro K4 hK4
                          go_wp2_with fail
                          refine (HOn.out _).mono ?_
                          rintro ev u6 ⟨rfl, hb⟩
                          have HB4 := Lib.hid hb
                          clear hb
                          go_wp2
                          refine hK4 _ _ (by exact HB4.out) ?_; clear hK4; intro hS_26_4 hD
                          refine wpAnyK_one (i := 5) (fuel := 0) (by kernel_rfl) rfl hD ?_
                          clear hD; intro K5 hK5
                          go_wp2_with fail
                          refine (HOs.out _).mono ?_
                          rintro ev u7 ⟨rfl, hb⟩
                          have HB5 := Lib.hid hb
                          clear hb
                          go_wp2
                          refine hK5 _ _ (by exact Below.trans hS_26_4 (Below.mono HB5.out (Below.size hS_26_4))) ?_; clear hK5; intro hS_26_5 hD
                          refine wpAnyK_done (by kernel_rfl) ?_ 0
                          clear hD
                          have HS8 := Lib.hid hS_26_5
                          have hbw : Below wr.heap.size wr u7 := (Below.refl _ _).drew.trans HS8.out
                          have HX7 := Lib.hid (HX6.out.next hbw)
                          have HB7 := Lib.hid (HB6.out.trans (hbw.mono HB6.out.size))
                          clear hbw g0 g1 g2 g3
                          cases pj with
                          | true =>
                            go_wp2
                            go_roundw
                            case rel => exact ⟨j + 1, by omega, by go_num, by rw [HCS.out]; go_num, HX7.out, HB7.out⟩
                            case measure => simp [intOf]; omega
                          | false =>
                            go_wp2
                            go_roundw
                            case rel => exact ⟨j + 1, by omega, by go_num, by rw [HCS.out]; rfl, HX7.out, HB7.out⟩
                            case measure => simp [intOf]; omega
                        · obtain rfl : j = r := by omega
                          rw [HC1.out]
                          clear g0 g1 g2 g3
                          go_wp2
                          go_roundw
                          case rel => exact ⟨k + 1, by omega, by go_num, HX6.out, HB6.out⟩
                          case measure => simp [intOf]; omega
                    · obtain rfl : k = r := by omega
                      go_wp2_with fail
                      refine (HAW.out _).mono ?_
                      rintro ev u9 ⟨rfl, hb⟩
                      have HB9 := Lib.hid (HB5.out.trans (hb.mono HB5.out.size))
                      clear hb
                      go_wp2
                      go_ret
                      exact ⟨rfl, HB9.out⟩
          · have i3 : (k == 0) = false := beq_eq_false_iff_ne.2 hk0
            have i3' : ¬ (k = 0) := hk0
            unfold kV at *
            clear hq h2 h60 hf hk hk0 z1 z2 z3 z4
            go_enter Try.func3, Try.ntmps3
            have hx0 := Bx4.new w (.string M) (.string O) (.string G) (.string H) 26
            have hb0 := (Below.refl w.heap.size w).alloc (Nat.le_refl _) (.cells #[.string M, .string O, .string G, .string H] 26)
            obtain ⟨W0, hW0⟩ : ∃ W, w.alloc (.cells #[.string M, .string O, .string G, .string H] 26) = W := ⟨_, rfl⟩
            rw [hW0] at hx0 hb0
            have HX0 := Lib.hid hx0
            have HB0 := Lib.hid hb0
            obtain ⟨c0, c1, c2, c3⟩ := hx0.cells
            clear hx0 hb0
            go_wp2_with fail
            try rw [hW0]
            clear hW0
            refine (HSM.out _).mono ?_
            rintro ev w1 ⟨rfl, rfl⟩
            go_wp2_with fail
            refine (HFW.out _).mono ?_
            rintro ev w2 ⟨rfl, hb⟩
            have hx := HX0.out.next hb
            have HX1 := Lib.hid hx
            have HB1 := Lib.hid (HB0.out.trans (hb.mono HB0.out.size))
            clear hb c0 c1 c2 c3
            obtain ⟨c0, c1, c2, c3⟩ := hx.cells
            clear hx
            go_wp2_with fail
            refine (HCK.out _).mono ?_
            rintro ev w3 ⟨rfl, hb⟩
            have hx := HX1.out.next hb
            have HX2 := Lib.hid hx
            have HB2 := Lib.hid (HB1.out.trans (hb.mono HB1.out.size))
            clear hb c0 c1 c2 c3
            obtain ⟨c0, c1, c2, c3⟩ := hx.cells
            clear hx
            go_wp2_with fail
            refine (HAW.out _).mono ?_
            rintro ev w4 ⟨rfl, hb⟩
            have hx := HX2.out.next hb
            have HX3 := Lib.hid hx
            have HB3 := Lib.hid (HB2.out.trans (hb.mono HB2.out.size))
            clear hb c0 c1 c2 c3
            obtain ⟨c0, c1, c2, c3⟩ := hx.cells
            clear hx
            go_wp2
            go_ret
            exact ⟨rfl, HB3.out⟩
end Go.Proofs.Ytnnfgphioapmnaa

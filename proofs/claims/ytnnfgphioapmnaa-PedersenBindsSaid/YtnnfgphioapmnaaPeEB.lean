/- Plain laws of the integer powers of a unit; the values of pedersen's functions in them. -/
import Derived.Test.YtnnfgphioapmnaaPeDB
import Derived.Test.YtnnfgphioapmnaaPeBA
import Derived.Test.YtnnfgphioapmnaaPeBD
set_option linter.unusedVariables false
set_option linter.unusedSimpArgs false
namespace Go.Proofs.Ytnnfgphioapmnaa

/-- A unit and its inverse. -/
structure Un (m x i : Nat) : Prop where
  hm : 1 < m
  hx : x < m
  hi : i < m
  one : x * i % m = 1
theorem Un.inv {m x i : Nat} (h : Un m x i) : invN x m = i := invN_of h.hi h.one
theorem Un.symm {m x i : Nat} (h : Un m x i) : Un m i x := ⟨h.hm, h.hi, h.hx, by rw [Nat.mul_comm]; exact h.one⟩
/-- The power with the exponent K - N. -/
def EP (m x i K N : Nat) : Nat := x ^ K * i ^ N % m
theorem mulc {m a b c d : Nat} (h1 : a % m = b % m) (h2 : c % m = d % m) : a * c % m = b * d % m := by
  rw [Nat.mul_mod, h1, h2, ← Nat.mul_mod]
theorem powc {m a b : Nat} (h : a % m = b % m) (n : Nat) : a ^ n % m = b ^ n % m := by
  rw [Nat.pow_mod, h, ← Nat.pow_mod]
theorem EP_more {m x i : Nat} (h : Un m x i) (K N : Nat) : ∀ j, EP m x i (K + j) (N + j) = EP m x i K N
  | 0 => rfl
  | j + 1 => by
    rw [← EP_more h K N j]
    unfold EP
    have e : x ^ (K + (j + 1)) * i ^ (N + (j + 1)) = x ^ (K + j) * i ^ (N + j) * (x * i) := by
      rw [← Nat.add_assoc, ← Nat.add_assoc, Nat.pow_succ, Nat.pow_succ]
      grind
    rw [e, Nat.mul_mod, h.one, Nat.mul_one, Nat.mod_mod]
theorem EP_eq {m x i K N K' N' : Nat} (h : Un m x i) (e : (K : Int) - N = K' - N') : EP m x i K N = EP m x i K' N' := by
  rcases Nat.le_total K K' with h1 | h1
  · have := EP_more h K N (K' - K)
    rw [show K + (K' - K) = K' from by omega, show N + (K' - K) = N' from by omega] at this
    exact this.symm
  · have := EP_more h K' N' (K - K')
    rw [show K' + (K - K') = K from by omega, show N' + (K - K') = N from by omega] at this
    exact this
/-- The power with an integer exponent. -/
def pz (m x : Nat) (z : Int) : Nat := baseN x (decide (z < 0)) m ^ z.natAbs % m
theorem pz_EP {m x i : Nat} (h : Un m x i) {z : Int} {K N : Nat} (e : z = (K : Int) - N) : pz m x z = EP m x i K N := by
  unfold pz baseN
  by_cases hz : z < 0
  · rw [decide_eq_true hz, if_pos rfl, h.inv, ← EP_eq (K := 0) (N := z.natAbs) h (by omega)]
    unfold EP
    rw [Nat.pow_zero, Nat.one_mul]
  · rw [decide_eq_false hz, if_neg (by decide), ← EP_eq (K := z.natAbs) (N := 0) h (by omega)]
    unfold EP
    rw [Nat.pow_zero, Nat.mul_one]
theorem int_parts (z : Int) : ∃ K N : Nat, z = (K : Int) - N := ⟨z.toNat, (-z).toNat, by omega⟩
theorem EP_lt {m x i K N : Nat} (h : Un m x i) : EP m x i K N < m := Nat.mod_lt _ (by have := h.hm; omega)
theorem EP_un {m x i : Nat} (h : Un m x i) (K N : Nat) : Un m (EP m x i K N) (EP m x i N K) := by
  refine ⟨h.hm, EP_lt h, EP_lt h, ?_⟩
  have e : EP m x i K N * EP m x i N K % m = EP m x i (K + N) (N + K) := by
    unfold EP
    rw [← Nat.mul_mod, Nat.pow_add, Nat.pow_add]
    congr 1
    grind
  rw [e, ← EP_eq (K := 0) (N := 0) h (by omega)]
  unfold EP
  rw [Nat.pow_zero, Nat.pow_zero]
  exact Nat.mod_eq_of_lt h.hm
theorem pz_lt {m x : Nat} (z : Int) (hm : 1 < m) : pz m x z < m := Nat.mod_lt _ (by omega)
theorem pz_un {m x i : Nat} (h : Un m x i) (z : Int) : ∃ j, Un m (pz m x z) j := by
  obtain ⟨K, N, e⟩ := int_parts z
  rw [pz_EP h e]
  exact ⟨_, EP_un h K N⟩
theorem pz_add {m x i : Nat} (h : Un m x i) (a b : Int) : pz m x (a + b) = pz m x a * pz m x b % m := by
  obtain ⟨K, N, ea⟩ := int_parts a
  obtain ⟨K', N', eb⟩ := int_parts b
  rw [pz_EP h ea, pz_EP h eb, pz_EP (K := K + K') (N := N + N') h (by omega)]
  unfold EP
  rw [← Nat.mul_mod, Nat.pow_add, Nat.pow_add]
  congr 1
  grind
theorem pz_pow {m x i : Nat} (h : Un m x i) (a b : Int) : pz m (pz m x a) b = pz m x (a * b) := by
  obtain ⟨K, N, ea⟩ := int_parts a
  obtain ⟨K', N', eb⟩ := int_parts b
  rw [pz_EP h ea, pz_EP (EP_un h K N) eb, pz_EP (K := K * K' + N * N') (N := N * K' + K * N') h (by rw [ea, eb]; push_cast; grind)]
  unfold EP
  rw [Nat.mul_mod, ← Nat.pow_mod, ← Nat.pow_mod, ← Nat.mul_mod, Nat.mul_pow, Nat.mul_pow, Nat.pow_add, Nat.pow_add, ← Nat.pow_mul, ← Nat.pow_mul, ← Nat.pow_mul, ← Nat.pow_mul]
  congr 1
  grind
theorem pz_mul {m x i y j : Nat} (hx : Un m x i) (hy : Un m y j) (z : Int) : Un m (x * y % m) (i * j % m) ∧ pz m (x * y % m) z = pz m x z * pz m y z % m := by
  have hm := hx.hm
  have hu : Un m (x * y % m) (i * j % m) := by
    refine ⟨hm, Nat.mod_lt _ (by omega), Nat.mod_lt _ (by omega), ?_⟩
    rw [← Nat.mul_mod, show x * y * (i * j) = x * i * (y * j) from by grind, Nat.mul_mod, hx.one, hy.one]
    exact Nat.mod_eq_of_lt hm
  refine ⟨hu, ?_⟩
  obtain ⟨K, N, e⟩ := int_parts z
  rw [pz_EP hu e, pz_EP hx e, pz_EP hy e]
  unfold EP
  rw [Nat.mul_mod, ← Nat.pow_mod, ← Nat.pow_mod, ← Nat.mul_mod, ← Nat.mul_mod, Nat.mul_pow, Nat.mul_pow]
  congr 1
  grind
theorem pz_one {m x : Nat} (hx : x < m) : pz m x 1 = x := by
  unfold pz baseN
  rw [show decide ((1 : Int) < 0) = false from rfl, if_neg (by decide)]
  show x ^ 1 % m = x
  rw [Nat.pow_one]
  exact Nat.mod_eq_of_lt hx
theorem pz_zero {m x : Nat} (hm : 1 < m) : pz m x 0 = 1 := by
  unfold pz
  show _ ^ 0 % m = 1
  rw [Nat.pow_zero]
  exact Nat.mod_eq_of_lt hm
theorem pz_nat {m x n : Nat} : pz m x (n : Int) = x ^ n % m := by
  unfold pz baseN
  rw [decide_eq_false (by omega), if_neg (by decide), Int.natAbs_natCast]
theorem one_un {m : Nat} (hm : 1 < m) : Un m 1 1 := ⟨hm, hm, hm, by rw [Nat.mul_one]; exact Nat.mod_eq_of_lt hm⟩
theorem pz_base1 {m : Nat} (hm : 1 < m) (z : Int) : pz m 1 z = 1 := by
  obtain ⟨K, N, e⟩ := int_parts z
  rw [pz_EP (one_un hm) e]
  unfold EP
  rw [Nat.one_pow, Nat.one_pow]
  exact Nat.mod_eq_of_lt hm
/-- The exponent modulo the order. -/
theorem pz_red {m x i o : Nat} (h : Un m x i) (hp : x ^ o % m = 1) (z : Int) : pz m x (z % (o : Int)) = pz m x z := by
  have e : z = (o : Int) * (z / (o : Int)) + z % (o : Int) := (Int.mul_ediv_add_emod z o).symm
  conv => rhs; rw [e]
  rw [pz_add h, ← pz_pow h, pz_nat, hp, pz_base1 h.hm, Nat.one_mul, Nat.mod_eq_of_lt (pz_lt _ h.hm)]
theorem bez (a b : Nat) : ∃ s t : Int, (a : Int) * s + b * t = (Nat.gcd a b : Nat) := by
  induction a, b using Nat.gcd.induction with
  | H0 n => exact ⟨0, 1, by rw [Nat.gcd_zero_left]; omega⟩
  | H1 m n h ih =>
    obtain ⟨s, t, e⟩ := ih
    refine ⟨t - (n / m : Nat) * s, s, ?_⟩
    rw [Nat.gcd_rec, ← e]
    have h1 : (n : Int) = m * (n / m : Nat) + (n % m : Nat) := by exact_mod_cast (Nat.div_add_mod n m).symm
    generalize ((n / m : Nat) : Int) = d at *
    generalize ((n % m : Nat) : Int) = r at *
    rw [h1]
    grind

theorem un_of {m x : Nat} (hm : 1 < m) (hx : x < m) (hg : Nat.gcd x m = 1) : ∃ i, Un m x i := by
  obtain ⟨s, t, e⟩ := bez x m
  rw [hg] at e
  have h1 := Int.emod_nonneg s (show (m : Int) ≠ 0 by omega)
  have h2 := Int.emod_lt_of_pos s (show (0 : Int) < (m : Int) by omega)
  exact ⟨(s % m).toNat, hm, hx, by omega, ex_law (y := t) hm e⟩
theorem un_gcd {m x i : Nat} (h : Un m x i) : Nat.gcd x m = 1 := by
  have h1 : Nat.gcd x m ∣ 1 := by
    have hd1 := Nat.gcd_dvd_left x m
    have hd2 := Nat.gcd_dvd_right x m
    have h2 : x * i = m * (x * i / m) + 1 := by
      have := Nat.div_add_mod (x * i) m
      rw [h.one] at this
      exact this.symm
    have h3 : Nat.gcd x m ∣ m * (x * i / m) + 1 := by rw [← h2]; exact Nat.dvd_trans hd1 (Nat.dvd_mul_right x i)
    exact (Nat.dvd_add_right (Nat.dvd_trans hd2 (Nat.dvd_mul_right m _))).1 h3
  exact Nat.dvd_one.1 h1

/-- A commitment. -/
def cmN (m g h : Nat) (v r : Int) : Nat := pz m g v * pz m h r % m
theorem kF_parts2 {M O G H : ByteArray} (h : kF M O G H = true) : nvalid M = true ∧ nvalid O = true ∧ nvalid G = true ∧ nvalid H = true := kF_parts' h
theorem pkC_parts2 {M O G H : ByteArray} (h : pkC M O G H = 0) : chkK M O = 0 ∧ hasN (num M) (num O) (num G) = true ∧ hasN (num M) (num O) (num H) = true := by
  have hk := pkC_kF h
  unfold pkC at h
  rw [if_neg (by rw [hk]; decide)] at h
  split at h
  · rename_i h2
    split at h
    · exact absurd h (by decide)
    · rename_i h3
      rw [Bool.not_eq_true] at h3
      simp only [Bool.or_eq_false_iff, Bool.not_eq_false'] at h3
      have a1 := h3.1.1.1.1
      have a2 := h3.1.1.1.2
      unfold hasK at a1 a2
      simp only [Bool.and_eq_true] at a1 a2
      exact ⟨h2, a1.2, a2.2⟩
  · rename_i h2
    exact absurd h h2
/-- What holds of a checked key. -/
structure KeyF (m o g h : Nat) : Prop where
  hm : 1 < m
  hc : chkN m o = 0
  hg : hasN m o g = true
  hh : hasN m o h = true
theorem keyF_of {M O G H : ByteArray} (h : pkC M O G H = 0) : KeyF (num M) (num O) (num G) (num H) := by
  obtain ⟨h1, h2, h3⟩ := pkC_parts2 h
  obtain ⟨_, _, h4⟩ := chkK_parts h1
  exact ⟨(hasN_unit h2 h4).2.1, h4, h2, h3⟩
theorem has_un {m o x : Nat} (hc : chkN m o = 0) (h : hasN m o x = true) : ∃ i, Un m x i := by
  obtain ⟨h1, h2, h3⟩ := hasN_unit h hc
  exact un_of h2 h1 h3
theorem has_ord {m o x : Nat} (ho : 0 < o) (h : hasN m o x = true) : x ^ o % m = 1 := by
  unfold hasN at h
  have h := of_decide_eq_true h
  rw [if_neg (by omega)] at h
  exact h.2.2
theorem has_of {m o x i : Nat} (hu : Un m x i) (hp : 0 < o → x ^ o % m = 1) : hasN m o x = true := by
  unfold hasN
  have hm := hu.hm
  have h0 : 0 < x := by
    rcases Nat.eq_zero_or_pos x with h | h
    · subst h
      have := hu.one
      rw [Nat.zero_mul, Nat.zero_mod] at this
      cases this
    · exact h
  refine decide_eq_true ⟨h0, hu.hx, ?_⟩
  split
  · exact un_gcd hu
  · exact hp (by omega)
theorem has_pz {m o x : Nat} (hc : chkN m o = 0) (h : hasN m o x = true) (z : Int) : hasN m o (pz m x z) = true := by
  obtain ⟨i, hu⟩ := has_un hc h
  obtain ⟨j, hj⟩ := pz_un hu z
  refine has_of hj (fun ho => ?_)
  have h1 := has_ord ho h
  rw [← pz_nat, pz_pow hu, Int.mul_comm, ← pz_pow hu, pz_nat, h1, pz_base1 hu.hm]
theorem has_mul {m o x y : Nat} (hc : chkN m o = 0) (hx : hasN m o x = true) (hy : hasN m o y = true) : hasN m o (x * y % m) = true := by
  obtain ⟨i, hi⟩ := has_un hc hx
  obtain ⟨j, hj⟩ := has_un hc hy
  refine has_of (pz_mul hi hj 0).1 (fun ho => ?_)
  rw [← Nat.pow_mod, Nat.mul_pow, Nat.mul_mod, has_ord ho hx, has_ord ho hy]
  exact Nat.mod_eq_of_lt hi.hm
theorem has_cm {m o g h : Nat} (hk : KeyF m o g h) (v r : Int) : hasN m o (cmN m g h v r) = true := has_mul hk.hc (has_pz hk.hc hk.hg v) (has_pz hk.hc hk.hh r)
theorem pz_redZ {m o x : Nat} (hc : chkN m o = 0) (h : hasN m o x = true) (z : Int) : pz m x (redZ o z) = pz m x z := by
  unfold redZ
  split
  · rfl
  · obtain ⟨i, hu⟩ := has_un hc h
    have ho : 0 < o := by omega
    rw [Int.toNat_of_nonneg (Int.emod_nonneg z (by omega))]
    exact pz_red hu (has_ord ho h) z
theorem cm_red {m o g h : Nat} (hk : KeyF m o g h) (v r : Int) : cmN m g h (redZ o v) (redZ o r) = cmN m g h v r := by
  unfold cmN
  rw [pz_redZ hk.hc hk.hg, pz_redZ hk.hc hk.hh]
theorem cm_lt {m g h : Nat} (hm : 1 < m) (v r : Int) : cmN m g h v r < m := Nat.mod_lt _ (by omega)
theorem cm_add {m o g h : Nat} (hk : KeyF m o g h) (v r v2 r2 : Int) : cmN m g h v r * cmN m g h v2 r2 % m = cmN m g h (v + v2) (r + r2) := by
  obtain ⟨i, hi⟩ := has_un hk.hc hk.hg
  obtain ⟨j, hj⟩ := has_un hk.hc hk.hh
  unfold cmN
  rw [pz_add hi, pz_add hj, ← Nat.mul_mod, ← Nat.mul_mod]
  congr 1
  grind
theorem cm_scale {m o g h : Nat} (hk : KeyF m o g h) (v r b : Int) : pz m (cmN m g h v r) b = cmN m g h (v * b) (r * b) := by
  obtain ⟨i, hi⟩ := has_un hk.hc hk.hg
  obtain ⟨j, hj⟩ := has_un hk.hc hk.hh
  obtain ⟨i2, hi2⟩ := pz_un hi v
  obtain ⟨j2, hj2⟩ := pz_un hj r
  unfold cmN
  rw [(pz_mul hi2 hj2 b).2, pz_pow hi, pz_pow hj]
theorem cm_shift {m o g h : Nat} (hk : KeyF m o g h) (v r b : Int) : cmN m g h v r * pz m g b % m = cmN m g h (v + b) r := by
  obtain ⟨i, hi⟩ := has_un hk.hc hk.hg
  unfold cmN
  rw [pz_add hi, Nat.mod_mul_mod, Nat.mod_mul_mod]
  congr 1
  grind
theorem num_smallK {M O G H : ByteArray} (h : pkC M O G H = 0) : num M < 256 ^ 128 := nvalid_lt (kF_parts2 (pkC_kF h)).1
theorem has_lt {m o x : Nat} (h : hasN m o x = true) : x < m := (of_decide_eq_true h).2.1
theorem cka_two {M O a b : ByteArray} {z1 z2 : Bool × ByteArray} (h1 : nvalid a = true) (h2 : nvalid b = true) (h3 : zvalid z1.1 z1.2 = true) (h4 : zvalid z2.1 z2.2 = true) (h5 : chkK M O = 0) (h6 : hasN (num M) (num O) (num a) = true) (h7 : hasN (num M) (num O) (num b) = true) : ckR M O [a, b] [z1, z2] true = 0 := by
  unfold ckR
  rw [if_neg (by simp [h1, h2]), if_neg (by simp [h3, h4]), if_pos h5, if_neg (by decide), if_neg (by simp [h6, h7])]
theorem cka_one {M O a : ByteArray} {z1 : Bool × ByteArray} (h1 : nvalid a = true) (h3 : zvalid z1.1 z1.2 = true) (h5 : chkK M O = 0) (h6 : hasN (num M) (num O) (num a) = true) : ckR M O [a] [z1] true = 0 := by
  unfold ckR
  rw [if_neg (by simp [h1]), if_neg (by simp [h3]), if_pos h5, if_neg (by decide), if_neg (by simp [h6])]
theorem cka_mul {M O a b : ByteArray} (h1 : nvalid a = true) (h2 : nvalid b = true) (h5 : chkK M O = 0) (h6 : hasN (num M) (num O) (num a) = true) (h7 : hasN (num M) (num O) (num b) = true) : ckR M O [a, b] [] true = 0 := by
  unfold ckR
  rw [if_neg (by simp [h1, h2]), if_neg (by simp), if_pos h5, if_neg (by decide), if_neg (by simp [h6, h7])]
theorem pz_two (m x y : Nat) (v r : Int) : baseN x (decide (v < 0)) m ^ v.natAbs * baseN y (decide (r < 0)) m ^ r.natAbs % m = pz m x v * pz m y r % m := by
  unfold pz
  rw [← Nat.mul_mod]
theorem cm_int {M O G H : ByteArray} (hc : pkC M O G H = 0) {v r : Int} (hv : v.natAbs < 256 ^ 128) (hr : r.natAbs < 256 ^ 128) : cmR M O G H (decide (v < 0)) (nS v.natAbs) (decide (r < 0)) (nS r.natAbs) = .tuple #[.string (nS (cmN (num M) (num G) (num H) v r)), .int .i64 0] := by
  obtain ⟨h1, h2, h3⟩ := pkC_parts2 hc
  obtain ⟨v1, v2, v3, v4⟩ := kF_parts2 (pkC_kF hc)
  unfold cmR
  rw [pkC_kF hc, zvalid_all hv, zvalid_all hr, if_neg (by decide), if_pos hc]
  unfold prR
  rw [if_pos (show ckR M O [G, H] [(decide (v < 0), nS v.natAbs), (decide (r < 0), nS r.natAbs)] (decide ([G, H].length = [(decide (v < 0), nS v.natAbs), (decide (r < 0), nS r.natAbs)].length)) = 0 from cka_two v3 v4 (zvalid_all hv) (zvalid_all hr) h1 h2 h3)]
  have e : prV (num M) [G, H] [(decide (v < 0), nS v.natAbs), (decide (r < 0), nS r.natAbs)] = cmN (num M) (num G) (num H) v r := by
    show baseN (num G) (decide (v < 0)) (num M) ^ (num (nS v.natAbs) / 2 ^ 0) * (baseN (num H) (decide (r < 0)) (num M) ^ (num (nS r.natAbs) / 2 ^ 0) * 1) % num M = _
    rw [num_nS, num_nS, Nat.pow_zero, Nat.div_one, Nat.div_one, Nat.mul_one, pz_two]
    rfl
  rw [e]
theorem ex_int {M O G H x : ByteArray} (hc : pkC M O G H = 0) (hx : nvalid x = true) (hh : hasN (num M) (num O) (num x) = true) {b : Int} (hb : b.natAbs < 256 ^ 128) : prR M O [x] [(decide (b < 0), nS b.natAbs)] = .tuple #[.string (nS (pz (num M) (num x) b)), .int .i64 0] := by
  obtain ⟨h1, h2, h3⟩ := pkC_parts2 hc
  unfold prR
  rw [if_pos (show ckR M O [x] [(decide (b < 0), nS b.natAbs)] (decide ([x].length = [(decide (b < 0), nS b.natAbs)].length)) = 0 from cka_one hx (zvalid_all hb) h1 hh)]
  have e : prV (num M) [x] [(decide (b < 0), nS b.natAbs)] = pz (num M) (num x) b := by
    show baseN (num x) (decide (b < 0)) (num M) ^ (num (nS b.natAbs) / 2 ^ 0) * 1 % num M = _
    rw [num_nS, Nat.pow_zero, Nat.div_one, Nat.mul_one]
    rfl
  rw [e]
theorem op_int {M O G H : ByteArray} (hc : pkC M O G H = 0) {v r : Int} (hv : v.natAbs < 256 ^ 128) (hr : r.natAbs < 256 ^ 128) (X : Nat) : opR M O G H (nS X) (decide (v < 0)) (nS v.natAbs) (decide (r < 0)) (nS r.natAbs) = decide (cmN (num M) (num G) (num H) v r = X) := by
  rw [opR_of (cm_int hc hv hr), nS_beq]
  rfl
end Go.Proofs.Ytnnfgphioapmnaa
/- The values of pedersen's Add, Scale and Shift in integer powers. -/
set_option linter.unusedVariables false
set_option linter.unusedSimpArgs false
namespace Go.Proofs.Ytnnfgphioapmnaa

theorem ad_int {M O G H : ByteArray} (hc : pkC M O G H = 0) {A B : Nat} (hA : hasN (num M) (num O) A = true) (hB : hasN (num M) (num O) B = true) : adR M O G H (nS A) (nS B) = .tuple #[.string (nS (A * B % num M)), .int .i64 0] := by
  obtain ⟨h1, h2, h3⟩ := pkC_parts2 hc
  have a1 := nvalid_nS.2 (Nat.lt_trans (has_lt hA) (num_smallK hc))
  have a2 := nvalid_nS.2 (Nat.lt_trans (has_lt hB) (num_smallK hc))
  unfold adR
  rw [pkC_kF hc, a1, a2, if_neg (by decide), if_pos hc]
  unfold mlR
  rw [if_pos (cka_mul a1 a2 h1 (by rw [num_nS]; exact hA) (by rw [num_nS]; exact hB)), num_nS, num_nS]
theorem sc_int {M O G H : ByteArray} (hc : pkC M O G H = 0) {A : Nat} (hA : hasN (num M) (num O) A = true) {b : Int} (hb : b.natAbs < 256 ^ 128) : scR M O G H (nS A) (decide (b < 0)) (nS b.natAbs) = .tuple #[.string (nS (pz (num M) A b)), .int .i64 0] := by
  have a1 := nvalid_nS.2 (Nat.lt_trans (has_lt hA) (num_smallK hc))
  unfold scR
  rw [pkC_kF hc, a1, zvalid_all hb, if_neg (by decide), if_pos hc, ex_int hc a1 (by rw [num_nS]; exact hA) hb, num_nS]
theorem sf_int {M O G H : ByteArray} (hc : pkC M O G H = 0) {A : Nat} (hA : hasN (num M) (num O) A = true) {b : Int} (hb : b.natAbs < 256 ^ 128) : sfR M O G H (nS A) (decide (b < 0)) (nS b.natAbs) = .tuple #[.string (nS (A * pz (num M) (num G) b % num M)), .int .i64 0] := by
  obtain ⟨h1, h2, h3⟩ := pkC_parts2 hc
  obtain ⟨v1, v2, v3, v4⟩ := kF_parts2 (pkC_kF hc)
  have a1 := nvalid_nS.2 (Nat.lt_trans (has_lt hA) (num_smallK hc))
  have z1 : zvalid false (nS 1) = true := by decide +kernel
  unfold sfR
  rw [pkC_kF hc, a1, zvalid_all hb, if_neg (by decide), if_pos hc]
  unfold prR
  rw [if_pos (show ckR M O [nS A, G] [(false, nS 1), (decide (b < 0), nS b.natAbs)] (decide ([nS A, G].length = [(false, nS 1), (decide (b < 0), nS b.natAbs)].length)) = 0 from cka_two a1 v3 z1 (zvalid_all hb) h1 (by rw [num_nS]; exact hA) h2)]
  have e : prV (num M) [nS A, G] [(false, nS 1), (decide (b < 0), nS b.natAbs)] = A * pz (num M) (num G) b % num M := by
    show num (nS A) ^ (num (nS 1) / 2 ^ 0) * (baseN (num G) (decide (b < 0)) (num M) ^ (num (nS b.natAbs) / 2 ^ 0) * 1) % num M = _
    rw [num_nS, num_nS, num_nS, Nat.pow_zero, Nat.div_one, Nat.div_one, Nat.mul_one, Nat.pow_one]
    unfold pz
    rw [Nat.mul_mod, Nat.mul_mod A (_ % num M), Nat.mod_mod]
  rw [e]
end Go.Proofs.Ytnnfgphioapmnaa

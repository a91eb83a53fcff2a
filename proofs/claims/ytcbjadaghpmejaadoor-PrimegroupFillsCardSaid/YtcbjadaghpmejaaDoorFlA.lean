/- The powers of a generator of a small group of prime order: the plain law. -/
import Derived.Test.YtcbjadaghpmejaaDoorMrF
set_option linter.unusedVariables false
set_option linter.unusedSimpArgs false
namespace Go.Proofs.YtcbjadaghpmejaaDoor
open Go.RowKit

theorem inv_all : ∀ q : Fin 61, isN q.val = true → ∀ j : Fin 61, 0 < j.val → j.val < q.val → ∃ u : Fin 61, (j.val * u.val) % q.val = 1 := by decide +kernel
theorem inv_of {q j : Nat} (hq : q ≤ 60) (hp : isN q = true) (h0 : 0 < j) (hj : j < q) : ∃ u v, j * u = q * v + 1 := by
  obtain ⟨u, hu⟩ := inv_all ⟨q, by omega⟩ hp ⟨j, by omega⟩ h0 hj
  refine ⟨u.val, j * u.val / q, ?_⟩
  have := Nat.div_add_mod (j * u.val) q
  have hu' : j * u.val % q = 1 := hu
  omega
theorem pow_one_of {g m a b : Nat} (h : g ^ a % m = 1) (hm : 2 ≤ m) : g ^ (a * b) % m = 1 := by
  rw [Nat.pow_mul, Nat.pow_mod, h, Nat.one_pow, Nat.mod_eq_of_lt (by omega)]
/-- No lesser exponent than q yields 1. -/
theorem ord_q {g m q j : Nat} (hq : q ≤ 60) (hp : isN q = true) (hm : 2 ≤ m) (hgm : g < m) (hg1 : g ≠ 1) (hone : g ^ q % m = 1) (h0 : 0 < j) (hj : j < q) : ¬ (g ^ j % m = 1) := fun h => by
  obtain ⟨u, v, e⟩ := inv_of hq hp h0 hj
  have a := pow_one_of (b := u) h hm
  have b := pow_one_of (b := v) hone hm
  rw [e, Nat.pow_succ, Nat.mul_mod, b, Nat.one_mul, Nat.mod_mod, Nat.mod_eq_of_lt hgm] at a
  exact hg1 a
theorem ord_elem {g m q : Nat} (hq : q ≤ 60) (hp : isN q = true) (hm : 2 ≤ m) (hgm : g < m) (hg1 : g ≠ 1) (hone : g ^ q % m = 1) : elemN m g = q := by
  have h2 := isN_pos hp
  have a := elemN_hit (m := m) (g := g) (k := q) (by omega) hone
  have b := elemN_gt (m := m) (g := g) (k := q - 1) (by omega) (fun j x y => ord_q hq hp hm hgm hg1 hone x (by omega))
  omega
theorem pow_dist {g m q j k : Nat} (hq : q ≤ 60) (hp : isN q = true) (hm : 2 ≤ m) (hgm : g < m) (hg1 : g ≠ 1) (hone : g ^ q % m = 1) (hj : j < k) (hk : k < q) : ¬ (g ^ j % m = g ^ k % m) := fun h => by
  have e : g ^ (j + (q - j)) % m = g ^ (k + (q - j)) % m := by rw [Nat.pow_add, Nat.pow_add, Nat.mul_mod, h, ← Nat.mul_mod]
  rw [show j + (q - j) = q from by omega, hone, show k + (q - j) = q + (k - j) from by omega, Nat.pow_add, Nat.mul_mod, hone, Nat.one_mul, Nat.mod_mod] at e
  exact ord_q hq hp hm hgm hg1 hone (show 0 < k - j by omega) (by omega) e.symm
theorem pow_pos_mod {g m q k : Nat} (hm : 2 ≤ m) (hq : 0 < q) (hone : g ^ q % m = 1) : 0 < g ^ k % m := by
  rcases Nat.eq_zero_or_pos (g ^ k % m) with h | h
  · have a : (g ^ k) ^ q % m = 1 := by rw [← Nat.pow_mul, Nat.mul_comm, Nat.pow_mul, Nat.pow_mod, hone, Nat.one_pow, Nat.mod_eq_of_lt (by omega)]
    rw [Nat.pow_mod, h, Nat.zero_pow hq, Nat.zero_mod] at a
    cases a
  · exact h
theorem chkG_zero {M O : ByteArray} (h : chkG M O = 0) : nvalid M = true ∧ nvalid O = true ∧ M.size ≤ 8 ∧ O.size ≤ 8 ∧ isN (num M) = true ∧ isN (num O) = true := by
  unfold chkG at h
  split at h
  · rename_i h1
    split at h
    · rename_i h2
      split at h
      · rename_i h3
        split at h
        · rename_i h4
          split at h
          · rename_i h5
            exact ⟨h1.1, h1.2, h2, h4, h3, h5⟩
          · cases h
        · cases h
      · cases h
    · cases h
  · cases h
/-- What holds in a good group of small order. -/
structure GoodF (M O g : ByteArray) : Prop where
  hM : M.size ≤ 8
  hm : 2 ≤ num M
  hq : num O ≤ 60
  hp : isN (num O) = true
  hg : hasG M O g = true
  hgm : num g < num M
  hg1 : num g ≠ 1
  hone : num g ^ num O % num M = 1
theorem good_of {M O g : ByteArray} (h : chkG M O = 0) (hg : genG M O g = true) (hq : num O ≤ 60) : GoodF M O g := by
  obtain ⟨a1, a2, a3, a4, a5, a6⟩ := chkG_zero h
  unfold genG at hg
  rw [Bool.and_eq_true, Bool.not_eq_true'] at hg
  have hP : hasP M O g := of_decide_eq_true hg.1
  obtain ⟨b1, b2, b3, b4, b5, b6, b7⟩ := hP
  refine ⟨a3, isN_pos a5, hq, a6, hg.1, b6, fun e => ?_, b7⟩
  have := hg.2
  rw [nS_num b3, nS_is1, decide_eq_false_iff_not] at this
  exact this e
theorem GoodF.elems {M O g : ByteArray} (h : GoodF M O g) : elemG M O g = pwL (num M) (num g) (num O) := by
  rw [elemG_in h.hg, ord_elem h.hq h.hp h.hm h.hgm h.hg1 h.hone]
theorem GoodF.has {M O g : ByteArray} (h : GoodF M O g) (k : Nat) : hasG M O (nS (num g ^ k % num M)) = true := by
  obtain ⟨b1, b2, b3, b4, b5, b6, b7⟩ := (of_decide_eq_true h.hg : hasP M O g)
  have hlt : num g ^ k % num M < num M := Nat.mod_lt _ (by have := h.hm; omega)
  have hm8 := num_lt8 b1 h.hM
  refine decide_eq_true ⟨b1, b2, nS_valid_small (by omega), b4, ?_, ?_, ?_⟩
  · rw [num_nS]; exact pow_pos_mod h.hm b4 h.hone
  · rw [num_nS]; exact hlt
  · rw [num_nS, ← Nat.pow_mod, ← Nat.pow_mul, Nat.mul_comm]; exact pow_one_of h.hone h.hm
theorem GoodF.log {M O g : ByteArray} (h : GoodF M O g) {k : Nat} (hk : k < num O) : logR M O g (nS (num g ^ k % num M)) 60 = .tuple #[.int .i64 k, .bool true] :=
  logR_hit ⟨h.hg, h.has k⟩ (logN_lt.2 (by have := h.hq; omega)) (fun j hj => by rw [num_nS]; exact pow_dist h.hq h.hp h.hm h.hgm h.hg1 h.hone hj hk) (by rw [num_nS])
/-- A logarithm that is found is one. -/
theorem logR_sound (M O g x : ByteArray) (L : Int) : logR M O g x L = .tuple #[.int .i64 0, .bool false] ∨ ∃ k : Nat, num g ^ k % num M = num x ∧ logR M O g x L = .tuple #[.int .i64 k, .bool true] := by
  unfold logR
  split
  · cases hf : logF (num M) (num g) (num x) (logN L) with
    | none => exact .inl rfl
    | some k =>
      refine .inr ⟨k, ?_, rfl⟩
      unfold logF at hf
      rw [List.find?_range_eq_some] at hf
      exact of_decide_eq_true hf.1
  · exact .inl rfl
/-- The element before. -/
def lastK (m g K : Nat) : ByteArray := if K = 0 then ⟨#[]⟩ else nS (g ^ (K - 1) % m)
theorem lastK_succ (m g K : Nat) : lastK m g (K + 1) = nS (g ^ K % m) := by unfold lastK; rw [if_neg (by omega)]; rfl
theorem GoodF.last {M O g : ByteArray} (h : GoodF M O g) {k : Nat} (hk : k < num O) : ((nS (num g ^ k % num M)).toList == (lastK (num M) (num g) k).toList) = false := by
  unfold lastK
  by_cases h0 : k = 0
  · rw [if_pos h0]
    have hp := pow_pos_mod (k := k) h.hm (by have := isN_pos h.hp; omega) h.hone
    have := nS_beq (num g ^ k % num M) 0
    rw [decide_eq_false (by omega), nS_zero] at this
    exact this
  · rw [if_neg h0, nS_beq, decide_eq_false_iff_not]
    exact fun e => pow_dist h.hq h.hp h.hm h.hgm h.hg1 h.hone (show k - 1 < k by omega) hk e.symm
theorem pwL_at {m g q k : Nat} (hk : k < q) : (pwL m g q)[k]? = some (g ^ k % m) := by
  unfold pwL
  rw [List.getElem?_map, List.getElem?_range hk]; rfl
end Go.Proofs.YtcbjadaghpmejaaDoor

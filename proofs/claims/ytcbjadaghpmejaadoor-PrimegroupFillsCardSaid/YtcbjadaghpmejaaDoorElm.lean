/- The powers of an element, in their order; walk: dominoref09.Elements. -/
import Derived.Test.YtcbjadaghpmejaaDoorPwG
set_option linter.unusedVariables false
set_option linter.unusedSimpArgs false
namespace Go.Proofs.YtcbjadaghpmejaaDoor
open Go.RowKit

/-- The first number from k on, at most f of them, whose power is 1. -/
def elemF (m g : Nat) : Nat → Nat → Nat
  | 0, k => k
  | f + 1, k => if g ^ k % m = 1 then k else elemF m g f (k + 1)
theorem elemF_spec (m g : Nat) : ∀ (f k : Nat), k ≤ elemF m g f k ∧ elemF m g f k ≤ k + f ∧ (∀ j, k ≤ j → j < elemF m g f k → ¬ (g ^ j % m = 1)) ∧ (elemF m g f k < k + f → g ^ elemF m g f k % m = 1)
  | 0, k => ⟨Nat.le_refl _, Nat.le_refl _, fun j h1 h2 => by unfold elemF at h2; omega, fun h => by unfold elemF at h; omega⟩
  | f + 1, k => by
    unfold elemF
    by_cases h : g ^ k % m = 1
    · rw [if_pos h]
      exact ⟨Nat.le_refl _, by omega, fun j h1 h2 => by omega, fun _ => h⟩
    · rw [if_neg h]
      obtain ⟨h1, h2, h3, h4⟩ := elemF_spec m g f (k + 1)
      refine ⟨by omega, by omega, fun j hj hlt => ?_, fun hl => h4 (by omega)⟩
      by_cases e : j = k
      · rw [e]; exact h
      · exact h3 j (by omega) hlt
/-- How many powers there are ahead of the second 1, at most 65536. -/
def elemN (m g : Nat) : Nat := elemF m g 65535 1
theorem elemN_pos (m g : Nat) : 1 ≤ elemN m g := (elemF_spec m g 65535 1).1
theorem elemN_max (m g : Nat) : elemN m g ≤ 65536 := by have := (elemF_spec m g 65535 1).2.1; unfold elemN; omega
theorem elemN_hit {m g k : Nat} (h0 : 0 < k) (h : g ^ k % m = 1) : elemN m g ≤ k := by
  rcases Nat.lt_or_ge k (elemN m g) with hl | hl
  · exact absurd h ((elemF_spec m g 65535 1).2.2.1 k h0 hl)
  · exact hl
theorem elemN_gt {m g k : Nat} (hk : k < 65536) (h : ∀ j, 0 < j → j ≤ k → ¬ (g ^ j % m = 1)) : k < elemN m g := by
  rcases Nat.lt_or_ge k (elemN m g) with hl | hl
  · exact hl
  · have h1 := (elemF_spec m g 65535 1).2.2.2 (by unfold elemN at hl; omega)
    exact absurd h1 (h _ (elemN_pos m g) hl)
/-- The first k powers. -/
def pwL (m g k : Nat) : List Nat := (List.range k).map fun j => g ^ j % m
theorem pwL_length (m g k : Nat) : (pwL m g k).length = k := by simp [pwL]
theorem pwL_succ (m g k : Nat) : pwL m g (k + 1) = pwL m g k ++ [g ^ k % m] := by simp [pwL, List.range_succ]
theorem pwL_take {m g k n : Nat} (h : n ≤ k) : (pwL m g k).take n = pwL m g n := by
  unfold pwL
  rw [← List.map_take, List.take_range, Nat.min_eq_left h]
theorem pwL_prefix {m g k n : Nat} (h : n ≤ k) : pwL m g n <+: pwL m g k := by
  rw [← pwL_take h]; exact List.take_prefix _ _
/-- What Elements yields. -/
def elemG (M O g : ByteArray) : List Nat := if hasG M O g = true then pwL (num M) (num g) (elemN (num M) (num g)) else []
theorem elemG_in {M O g : ByteArray} (h : hasG M O g = true) : elemG M O g = pwL (num M) (num g) (elemN (num M) (num g)) := by unfold elemG; rw [if_pos h]
theorem elemG_out {M O g : ByteArray} (h : hasG M O g = false) : elemG M O g = [] := by unfold elemG; rw [if_neg (by rw [h]; decide)]
theorem elemG_take {M O g : ByteArray} {n k : Nat} (h : hasG M O g = true) (hk : k ≤ elemN (num M) (num g)) (h2 : n = k ∨ k = elemN (num M) (num g) ∧ k ≤ n) : (elemG M O g).take n = pwL (num M) (num g) k := by
  rw [elemG_in h]
  rcases h2 with rfl | ⟨rfl, h3⟩
  · exact pwL_take hk
  · exact List.take_of_length_le (by rw [pwL_length]; exact h3)

/-- The call returned a slice of numbers. -/
def RetSl (l : List ByteArray) (w : World) (e : Ending) (w' : World) : Prop := ∃ A cap, e = .returned (.slice A l.length cap) ∧ SlN w' A l.length cap l ∧ Below w.heap.size w w'
def nsL (l : List Nat) : List Value := l.map fun n => Value.string (nS n)
theorem nsL_map (l : List Nat) : nsL l = (l.map nS).map Value.string := by simp [nsL]
theorem nsL_one (l : List Nat) : ∀ u ∈ nsL l, u.oneCell' = true := by rw [nsL_map]; exact strs_one _
theorem nsL_snoc (l : List Nat) (n : Nat) : nsL (l ++ [n]) = nsL l ++ [.string (nS n)] := by simp [nsL]

end Go.Proofs.YtcbjadaghpmejaaDoor

/- Rows of versions with their own bases; walk: keyring.all. -/
import Derived.Test.YtnfkccohmkfnoaaKyN
set_option linter.unusedVariables false
set_option linter.unusedSimpArgs false
namespace Go.Proofs.Ytnfkccohmkfnoaa
open Go.RowKit

/-- A slice of bases that lies outside a block. -/
def SlO (w : World) (row : Option Nat) (lo : Nat) (A : Option Addr) (n c : Nat) (l : List ByteArray) : Prop := SlN w A n c l ∧ (0 < n → ∀ a, A = some a → row ≠ some a.block ∧ lo ≤ a.block)
theorem SlN.lt {w : World} {a : Addr} {n c : Nat} {l : List ByteArray} (h : SlN w (some a) n c l) (hn : 0 < n) : a.block < w.heap.size := by
  obtain ⟨b, o, e⟩ := h.head hn
  cases e
  obtain ⟨s, hs⟩ : ∃ s, l[0]? = some s := ⟨_, List.getElem?_eq_getElem (by rw [h.1]; exact hn)⟩
  have := h.get? 0 hs
  rcases Nat.lt_or_ge b w.heap.size with h1 | h1
  · exact h1
  · exfalso
    unfold World.cell? at this
    rw [Array.getElem?_eq_none h1] at this
    simp at this
theorem SlN.of_blocks {w w' : World} {A : Option Addr} {n c : Nat} {l : List ByteArray} (h : SlN w A n c l) (hb : 0 < n → ∀ a, A = some a → w'.heap[a.block]? = w.heap[a.block]?) : SlN w' A n c l := by
  obtain ⟨h1, h2, h3, b, o, h4, h5⟩ := h
  refine ⟨h1, h2, h3, b, o, h4, fun k s hk => ?_⟩
  have hl := (List.getElem?_eq_some_iff.1 hk).1
  have := hb (by omega) _ (h4 (by omega))
  have h6 := h5 k s hk
  unfold World.cell? at h6 ⊢
  simp only at this h6 ⊢
  rw [this]
  exact h6
theorem SlO.kept {B lo : Nat} {w w' : World} {row : Option Nat} (hb : Below B w w') (hB : w.heap.size ≤ B) {A : Option Addr} {n c : Nat} {l : List ByteArray} (h : SlO w row lo A n c l) : SlO w' row lo A n c l := ⟨h.1.kept hb hB, h.2⟩
theorem SlO.grow {w w' : World} {row : Option Nat} {g lo : Nat} (hg : w.grownBy w' row) (ha : row = some g ∨ g = w.heap.size) {A : Option Addr} {n c : Nat} {l : List ByteArray} (h : SlO w row lo A n c l) : SlO w' (some g) lo A n c l := by
  refine ⟨h.1.of_blocks fun hn a e => ?_, fun hn a e => ?_⟩
  · subst e
    exact hg.block a.block (h.1.lt hn) (fun e => (h.2 hn a rfl).1 e.symm)
  · rcases ha with ha | ha
    · rw [← ha]; exact h.2 hn a e
    · subst e
      have := h.1.lt hn
      refine ⟨?_, (h.2 hn a rfl).2⟩
      simp only [ne_eq, Option.some.injEq]
      omega
/-- The cells of a row of versions; the slices of their bases lie outside the row's block. -/
def VRowO (w : World) (row : Option Nat) (lo : Nat) : List Value → List Ver → Prop
  | vs, [] => vs = []
  | vs, v :: l => ∃ A n c rest, vs = v.vals (.slice A n c) ++ rest ∧ SlO w row lo A n c v.kr ∧ VRowO w row lo rest l
theorem VRowO.imp {w w' : World} {row row' : Option Nat} {lo : Nat} (hi : ∀ A n c l, SlO w row lo A n c l → SlO w' row' lo A n c l) : ∀ {vs : List Value} {l : List Ver}, VRowO w row lo vs l → VRowO w' row' lo vs l
  | _, [], h => h
  | _, _ :: _, ⟨A, n, c, rest, h1, h2, h3⟩ => ⟨A, n, c, rest, h1, hi _ _ _ _ h2, h3.imp hi⟩
theorem VRowO.kept {B lo : Nat} {w w' : World} {row : Option Nat} (hb : Below B w w') (hB : w.heap.size ≤ B) {vs : List Value} {l : List Ver} (h : VRowO w row lo vs l) : VRowO w' row lo vs l := h.imp fun _ _ _ _ h => h.kept hb hB
theorem VRowO.grow {w w' : World} {row : Option Nat} {g lo : Nat} (hg : w.grownBy w' row) (ha : row = some g ∨ g = w.heap.size) {vs : List Value} {l : List Ver} (h : VRowO w row lo vs l) : VRowO w' (some g) lo vs l := h.imp fun _ _ _ _ h => h.grow hg ha
theorem VRowO.row {w : World} {row : Option Nat} {lo : Nat} : ∀ {vs : List Value} {l : List Ver}, VRowO w row lo vs l → VRow w vs l
  | _, [], h => h
  | _, _ :: _, ⟨A, n, c, rest, h1, h2, h3⟩ => ⟨A, n, c, rest, h1, h2.1, h3.row⟩
theorem VRowO.snoc {w : World} {row : Option Nat} {lo : Nat} {v : Ver} {A : Option Addr} {n c : Nat} (hs : SlO w row lo A n c v.kr) : ∀ {vs : List Value} {l : List Ver}, VRowO w row lo vs l → VRowO w row lo (vs ++ v.vals (.slice A n c)) (l ++ [v])
  | vs, [], h => ⟨A, n, c, [], by rw [show vs = [] from h]; simp, hs, rfl⟩
  | _, _ :: _, ⟨A', n', c', rest, h1, h2, h3⟩ => ⟨A', n', c', rest ++ v.vals (.slice A n c), by rw [h1, List.append_assoc], h2, h3.snoc hs⟩
theorem VRowO.get {w : World} {row : Option Nat} {lo : Nat} : ∀ {vs : List Value} {l : List Ver} {k : Nat} {v : Ver}, VRowO w row lo vs l → l[k]? = some v → ∃ A n c, SlO w row lo A n c v.kr ∧ ∀ j u, (v.vals (.slice A n c))[j]? = some u → vs[k * 18 + j]? = some u
  | _, [], _, _, _, hk => by simp at hk
  | _, v' :: l, 0, v, ⟨A, n, c, rest, h1, h2, h3⟩, hk => by
    simp only [List.getElem?_cons_zero, Option.some.injEq] at hk
    subst hk
    refine ⟨A, n, c, h2, fun j u hu => ?_⟩
    have hj := (List.getElem?_eq_some_iff.1 hu).1
    rw [h1, Nat.zero_mul, Nat.zero_add, List.getElem?_append_left hj]
    exact hu
  | _, v' :: l, k + 1, v, ⟨A, n, c, rest, h1, h2, h3⟩, hk => by
    obtain ⟨A', n', c', h4, h5⟩ := h3.get (k := k) (by simpa using hk)
    refine ⟨A', n', c', h4, fun j u hu => ?_⟩
    rw [h1, List.getElem?_append_right (by rw [Ver.vals_length]; omega), Ver.vals_length, show (k + 1) * 18 + j - 18 = k * 18 + j from by omega]
    exact h5 j u hu
theorem VRowO.len {w w' : World} {base m lo : Nat} {row : Option Nat} {T : TypeId} {s : Value} {vs : List Value} {l : List Ver} (hr : VRowO w row lo vs l) (h : w'.ownsRow base T 18 s m vs) : m = l.length := hr.row.len h
end Go.Proofs.Ytnfkccohmkfnoaa

/- The plain law of LedgerGrows: what members a valid ledger has, entry by entry. -/
import Derived.Test.YthidhgniondkgaaGrwB
set_option linter.unusedVariables false
set_option linter.unusedSimpArgs false
namespace Go.Proofs.Ythidhgniondkgaa
open Go.RowKit

/-- Each entry follows those before it. -/
def ValidL (V : List En) : Prop := ∀ (k : Nat) (e : En), V[k]? = some e → followsS (V.take k) e = 0
theorem ValidL.nil : ValidL [] := fun k e h => by simp at h
theorem ValidL.snoc {V : List En} {e : En} (h : ValidL V) (he : followsS V e = 0) : ValidL (V ++ [e]) := fun k x hx => by
  by_cases hk : k < V.length
  · rw [List.getElem?_append_left hk] at hx
    rw [List.take_append_of_le_length (by omega)]
    exact h k x hx
  · have hl := (List.getElem?_eq_some_iff.1 hx).1
    rw [List.length_append, List.length_singleton] at hl
    obtain rfl : k = V.length := by omega
    rw [List.getElem?_append_right (Nat.le_refl _), Nat.sub_self] at hx
    simp only [List.getElem?_cons_zero, Option.some.injEq] at hx
    subst hx
    rw [List.take_append_of_le_length (Nat.le_refl _), List.take_of_length_le (Nat.le_refl _)]
    exact he
theorem fol_zero {f : Int} {n m : Nat} {was gone : Bool} {q p : Int} (h : folF f n m was gone q p = 0) : f = 0 ∧ (q = 0 → was = false) ∧ (q = 1 → was = true) := by
  by_cases hf : f = 0
  · subst hf
    refine ⟨rfl, ?_⟩
    by_cases hn : 4096 ≤ n
    · rw [folF_n hn] at h; cases h
    · by_cases hp : p = (m : Int) + (if q = 2 then 1 else 0)
      · rw [folF_s (by omega) hp] at h
        refine ⟨fun hq => ?_, fun hq => ?_⟩
        · cases was with
          | false => rfl
          | true => rw [if_pos ⟨hq, rfl⟩] at h; cases h
        · cases was with
          | true => rfl
          | false => rw [if_neg (by omega), if_pos ⟨hq, rfl⟩] at h; cases h
      · rw [folF_p (by omega) hp] at h; cases h
  · rw [folF_f hf] at h; exact absurd h hf
theorem epochN_cons (x : En) (l : List En) : epochN (x :: l) = epochN l + (if x.kind = 2 then 1 else 0) := by
  unfold epochN
  by_cases h : x.kind = 2 <;> simp [List.countP_cons, h]
/-- Where an epoch ends. -/
theorem endN_closing : ∀ (V : List En) (k : Nat) (e : En), V[k]? = some e → e.kind = 2 → endN V (epochN (V.take (k + 1))) = k + 1
  | [], k, e, h, _ => by simp at h
  | x :: l, 0, e, h, h2 => by
    simp only [List.getElem?_cons_zero, Option.some.injEq] at h
    subst h
    rw [List.take_succ_cons, List.take_zero, epochN_cons, if_pos h2]
    show endN (x :: l) (0 + 1) = 0 + 1
    rw [endN, if_pos h2, endN_zero]
  | x :: l, k + 1, e, h, h2 => by
    rw [List.getElem?_cons_succ] at h
    have ih := endN_closing l k e h h2
    have hs := epochN_snoc h
    rw [if_pos h2] at hs
    rw [List.take_succ_cons, epochN_cons]
    obtain ⟨m, hm⟩ : ∃ m, epochN (l.take (k + 1)) = m + 1 := ⟨_, hs⟩
    rw [hm] at ih ⊢
    by_cases hx : x.kind = 2
    · rw [if_pos hx, endN, if_pos hx, ih]
    · rw [if_neg hx, Nat.add_zero, endN, if_neg hx, ih]

theorem hasB_other {l : List En} {k : Nat} {e : En} {q : Int} (h : l[k]? = some e) (hq : e.kind ≠ q) (u : ByteArray) : hasB (l.take (k + 1)) q u = hasB (l.take k) q u := by
  rw [hasB_snoc h]
  have : (e.kind == q) = false := neI hq
  rw [this, Bool.false_and, Bool.or_false]
theorem memF_congr {R R' : ByteArray → Bool} {l : List En} (h : ∀ u, R u = R' u) : memF R l = memF R' l := by
  rw [show R = R' from funext h]
theorem memH_closed {V : List En} {k : Nat} {e : En} (h : V[k]? = some e) (h2 : e.kind = 2) : memH (V.take (k + 1)) = memH (V.take k) := by
  unfold memH
  rw [memF_snoc h, if_neg (by omega), List.append_nil]
  exact memF_congr (hasB_other h (by omega))
theorem memF_or (R : ByteArray → Bool) (h : ByteArray) (l : List En) : memF (fun u => R u || decide (h = u)) l = keepF h (memF R l) := by
  unfold memF keepF
  rw [List.filter_map, List.filter_filter]
  congr 1
  apply List.filter_congr
  intro e _
  by_cases hh : h = e.handle
  · subst hh; simp
  · have : ¬ e.handle = h := fun x => hh x.symm
    simp [hh, this]
theorem memH_revoked {V : List En} {k : Nat} {e : En} (h : V[k]? = some e) (h2 : e.kind = 1) : memH (V.take (k + 1)) = keepF e.handle (memH (V.take k)) := by
  unfold memH
  rw [memF_snoc h, if_neg (by omega), List.append_nil, ← memF_or]
  exact memF_congr fun u => by rw [hasB_snoc h, h2]; simp
/-- What was revoked was issued. -/
theorem rev_iss {V : List En} (hv : ValidL V) : ∀ (k : Nat), k ≤ V.length → ∀ u, hasB (V.take k) 1 u = true → hasB (V.take k) 0 u = true
  | 0, _, u, h => by simp [hasB] at h
  | k + 1, hk, u, h => by
    obtain ⟨e, he⟩ : ∃ e, V[k]? = some e := ⟨_, List.getElem?_eq_getElem (by omega)⟩
    have hf := hv k e he
    unfold followsS at hf
    obtain ⟨_, _, h1⟩ := fol_zero hf
    rw [hasB_snoc he] at h ⊢
    by_cases hu : hasB (V.take k) 1 u = true
    · rw [rev_iss hv k (by omega) u hu]; rfl
    · rw [Bool.eq_false_iff.2 hu, Bool.false_or, Bool.and_eq_true] at h
      have hk1 : e.kind = 1 := by simpa using h.1
      have hhu : e.handle = u := by simpa using h.2
      rw [← hhu, h1 hk1]; rfl
theorem memH_issued {V : List En} (hv : ValidL V) {k : Nat} {e : En} (h : V[k]? = some e) (h2 : e.kind = 0) : memH (V.take (k + 1)) = memH (V.take k) ++ [e.handle] := by
  have hl := (List.getElem?_eq_some_iff.1 h).1
  have hf := hv k e h
  unfold followsS at hf
  obtain ⟨_, h0, _⟩ := fol_zero hf
  have hno : hasB (V.take k) 1 e.handle = false := by
    rw [Bool.eq_false_iff]
    intro hx
    have := rev_iss hv k (by omega) e.handle hx
    rw [h0 h2] at this; cases this
  have hc := hasB_other h (q := 1) (by omega)
  unfold memH
  rw [memF_congr hc, memF_snoc h, if_pos ⟨h2, hno⟩]
/-- What Members returns when an epoch is closed. -/
theorem mem_closed {V : List En} {k m : Nat} {e : En} (h : V[k]? = some e) (h2 : e.kind = 2) (hm : epochN (V.take k) = m) : memS V ((m : Int) + 1) = (memH (V.take k), 0) := by
  subst hm
  rw [show (epochN (V.take k) : Int) + 1 = ((epochN (V.take k) + 1 : Nat) : Int) from by omega]
  have hs := epochN_snoc h
  rw [if_pos h2] at hs
  have hle := epochN_take_le V (k + 1)
  unfold memS
  rw [if_neg (by omega), Int.toNat_natCast, ← hs, endN_closing V k e h h2, memH_closed h h2]
theorem mem_beyond {V : List En} {m : Nat} (hm : epochN V = m) : memS V ((m : Int) + 1) = ([], 2) := by
  subst hm
  unfold memS
  rw [if_pos (.inr (by omega))]
theorem keepF_append (h : ByteArray) (l m : List ByteArray) : keepF h (l ++ m) = keepF h l ++ keepF h m := List.filter_append ..
theorem valid_kind {V : List En} (hv : ValidL V) {k : Nat} {e : En} (h : V[k]? = some e) : e.kind = 0 ∨ e.kind = 1 ∨ e.kind = 2 := by
  have hf := hv k e h
  unfold followsS at hf
  exact msg_kind (fol_zero hf).1
theorem keepF_le (h : ByteArray) (l : List ByteArray) : (keepF h l).length ≤ l.length := List.length_filter_le _ _
end Go.Proofs.Ythidhgniondkgaa

/- Joining the deltas of a log: the plain law. -/
import Derived.Test.YtelhpdlegjgjjaaEpN
import Derived.Test.YtelhpdlegjgjjaaEpQ
set_option linter.unusedVariables false
set_option linter.unusedSimpArgs false
namespace Go.Proofs.Ytelhpdlegjgjjaa
open Go.RowKit

/-- A delta without its signature. -/
def Dl.strip (d : Dl) : Dl := { d with sc := ⟨#[]⟩, sr := ⟨#[]⟩ }
/-- A delta joined with those of a list. -/
def foldJ (d : Dl) : List Dl → Dl × Int
  | [] => (d, 0)
  | x :: l => if (jn d x).2 = 0 then foldJ (jn d x).1 l else (Dl.zero, (jn d x).2)
/-- What Between returns for epochs within the log. -/
def btw (l : List Dl) (F T : Nat) : Dl × Int := match l[F]? with
  | none => (Dl.zero, 2)
  | some d => if T = F + 1 ∧ d.strip.msg.2 ≠ 0 then (Dl.zero, d.strip.msg.2) else foldJ d.strip ((l.drop (F + 1)).take (T - (F + 1)))
/-- What Between returns. -/
def bt (l : List Dl) (f t : Int) : Dl × Int := if f < 0 ∨ t ≤ f ∨ (l.length : Int) < t then (Dl.zero, 2) else btw l f.toNat t.toNat
theorem len_mrg (na nb : ByteArray → Bool) (a b : List ByteArray) : (mrg na nb a b).length ≤ a.length + b.length := by
  fun_induction mrg na nb a b <;> simp only [List.length_nil, List.length_cons] at * <;> omega
theorem jn_ok {a b : Dl} (h : (jn a b).2 = 0) : (jn a b).1 = ⟨a.fr, b.to, mrg (memB b.rm) (memB a.rm) a.ad b.ad, mrg (memB b.ad) (memB a.ad) a.rm b.rm, a.be, b.af, ⟨#[]⟩, ⟨#[]⟩⟩ ∧ a.msg.2 = 0 ∧ b.msg.2 = 0 ∧ a.to = b.fr ∧ a.af = b.be ∧ clash a b = false := by
  unfold jn at h ⊢
  by_cases h1 : a.msg.2 = 0
  · rw [if_neg (by simpa using h1)] at h ⊢
    by_cases h2 : b.msg.2 = 0
    · rw [if_neg (by simpa using h2)] at h ⊢
      by_cases h3 : a.to = b.fr
      · rw [if_neg (by simpa using h3)] at h ⊢
        by_cases h4 : a.af = b.be
        · rw [if_neg (by simpa using h4)] at h ⊢
          cases h5 : clash a b with
          | false => rw [if_neg (by simp)]; exact ⟨rfl, h1, h2, h3, h4, rfl⟩
          | true => rw [h5, if_pos rfl] at h; cases h
        · rw [if_pos h4] at h; cases h
      · rw [if_pos h3] at h; cases h
    · rw [if_pos h2] at h; exact absurd h h2
  · rw [if_pos h1] at h; exact absurd h h1
theorem jn_err {a b : Dl} (h : (jn a b).2 ≠ 0) : (jn a b).1 = Dl.zero := by
  unfold jn at h ⊢
  split
  · rfl
  · split
    · rfl
    · split
      · rfl
      · split
        · rfl
        · split
          · rfl
          · rename_i h1 h2 h3 h4 h5
            rw [if_neg h1, if_neg h2, if_neg h3, if_neg h4, if_neg h5] at h
            exact absurd rfl h
theorem jn_len {a b : Dl} : (jn a b).1.ad.length ≤ a.ad.length + b.ad.length ∧ (jn a b).1.rm.length ≤ a.rm.length + b.rm.length := by
  by_cases h : (jn a b).2 = 0
  · rw [(jn_ok h).1]
    exact ⟨len_mrg _ _ _ _, len_mrg _ _ _ _⟩
  · rw [jn_err h]
    exact ⟨Nat.zero_le _, Nat.zero_le _⟩
theorem jn_sz {a b : Dl} (ha : SzL a.str) (hb : SzL b.str) : SzL (jn a b).1.str := by
  by_cases h : (jn a b).2 = 0
  · rw [(jn_ok h).1]
    intro s hs
    simp only [Dl.str, List.mem_append, mem_mrg, List.mem_cons, List.mem_nil_iff, or_false] at hs
    rcases hs with ((⟨h, _⟩ | ⟨h, _⟩) | (⟨h, _⟩ | ⟨h, _⟩)) | rfl | rfl | rfl | rfl
    · exact ha s (by unfold Dl.str; simp [h])
    · exact hb s (by unfold Dl.str; simp [h])
    · exact ha s (by unfold Dl.str; simp [h])
    · exact hb s (by unfold Dl.str; simp [h])
    · exact ha _ (by unfold Dl.str; simp)
    · exact hb _ (by unfold Dl.str; simp)
    · decide
    · decide
  · rw [jn_err h]
    intro s hs
    simp [Dl.str, Dl.zero] at hs
    subst hs
    decide
theorem strip_sz {d : Dl} (h : SzL d.str) : SzL d.strip.str := by
  intro s hs
  simp only [Dl.str, Dl.strip, List.mem_append, List.mem_cons, List.mem_nil_iff, or_false] at hs
  rcases hs with (h' | h') | rfl | rfl | rfl | rfl
  · exact h s (by unfold Dl.str; simp [h'])
  · exact h s (by unfold Dl.str; simp [h'])
  · exact h _ (by unfold Dl.str; simp)
  · exact h _ (by unfold Dl.str; simp)
  · decide
  · decide
theorem rest_cons {l : List Dl} {i T : Nat} {x : Dl} (hx : l[i]? = some x) (hT : i < T) : (l.drop i).take (T - i) = x :: (l.drop (i + 1)).take (T - (i + 1)) := by
  obtain ⟨hl, rfl⟩ := List.getElem?_eq_some_iff.1 hx
  rw [List.drop_eq_getElem_cons hl, show T - i = (T - (i + 1)) + 1 from by omega, List.take_succ_cons]
theorem foldJ_step {d : Dl} {l : List Dl} {i T : Nat} {x : Dl} (hx : l[i]? = some x) (hT : i < T) (h : (jn d x).2 = 0) : foldJ d ((l.drop i).take (T - i)) = foldJ (jn d x).1 ((l.drop (i + 1)).take (T - (i + 1))) := by
  rw [rest_cons hx hT, foldJ, if_pos h]
theorem foldJ_err {d : Dl} {l : List Dl} {i T : Nat} {x : Dl} (hx : l[i]? = some x) (hT : i < T) (h : (jn d x).2 ≠ 0) : foldJ d ((l.drop i).take (T - i)) = (Dl.zero, (jn d x).2) := by
  rw [rest_cons hx hT, foldJ, if_neg h]
theorem foldJ_end (d : Dl) (l : List Dl) (T : Nat) : foldJ d ((l.drop T).take (T - T)) = (d, 0) := by
  rw [Nat.sub_self, List.take_zero, foldJ]
end Go.Proofs.Ytelhpdlegjgjjaa

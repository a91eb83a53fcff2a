/- The current version: the plain law. -/
import Derived.Test.YtnfkccohmkfnoaaKyD
set_option linter.unusedVariables false
namespace Go.Proofs.Ytnfkccohmkfnoaa
open Go.RowKit

/-- One step of the search for the version with the greatest number; the first of equals stays. -/
def stepV (p : Ver → Bool) (acc : Option Ver) (v : Ver) : Option Ver := if p v = true then (match acc with | none => some v | some u => if u.num < v.num then some v else some u) else acc
def bestV (p : Ver → Bool) (l : List Ver) : Option Ver := l.foldl (stepV p) none
theorem bestV_snoc (p : Ver → Bool) (l : List Ver) (v : Ver) : bestV p (l ++ [v]) = stepV p (bestV p l) v := by
  unfold bestV
  rw [List.foldl_append]; rfl
theorem bestV_take {p : Ver → Bool} {l : List Ver} {k : Nat} {v : Ver} (h : l[k]? = some v) : bestV p (l.take (k + 1)) = stepV p (bestV p (l.take k)) v := by
  rw [List.take_add_one, h, Option.toList_some, bestV_snoc]
/-- To sift first, or to ask both at once. -/
theorem bestV_filter (n q : Ver → Bool) (l : List Ver) : bestV n (l.filter q) = bestV (fun x => n x && q x) l := by
  unfold bestV
  rw [List.foldl_filter]
  congr 1
  funext acc x
  unfold stepV
  cases hq : q x <;> cases hn : n x <;> simp [hn, hq]
end Go.Proofs.Ytnfkccohmkfnoaa

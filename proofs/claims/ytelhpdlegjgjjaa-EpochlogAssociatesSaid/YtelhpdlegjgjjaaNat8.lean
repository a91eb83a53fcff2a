/- Walk: the canonical check of dominoref08. -/
import Derived.Test.YtelhpdlegjgjjaaNatA
namespace Go.Proofs.Ytelhpdlegjgjjaa
open Go.RowKit

set_option maxHeartbeats 400000 in
theorem r08_canonical (a : ByteArray) (h : a.size ≤ 9223372036854775807) (w : World) :
    Calls Try.prog 74 #[.string a] w (RetQ (.bool (nvalid a)) w) := by
  by_cases h1 : a.size ≤ 128
  · by_cases h2 : a.size = 0
    · rw [nvalid_nil h2]
      go_enter Try.func74, Try.ntmps74
      go_wp2
      go_ret
      exact ⟨rfl, rfl⟩
    · have h3 : 0 < a.size := by omega
      have h4 : ((a.size : Int) == 0) = false := beq_eq_false_iff_ne.2 (by omega)
      rw [nvalid_some h1 h3]
      go_enter Try.func74, Try.ntmps74
      go_wp2
      go_ret
      exact ⟨rfl, rfl⟩
  · rw [nvalid_long h1]
    go_enter Try.func74, Try.ntmps74
    go_wp2
    go_ret
    exact ⟨rfl, rfl⟩

end Go.Proofs.Ytelhpdlegjgjjaa

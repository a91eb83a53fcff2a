import Derived.Test.YtehflcnjnnhojaaGreatQPeH
import Derived.Test.YtehflcnjnnhojaaGreatQNatB
import Derived.Test.YtehflcnjnnhojaaGreatQNum2
import Derived.Great.Walk
set_option linter.unusedVariables false
set_option linter.unusedSimpArgs false
namespace Go.Proofs.YtehflcnjnnhojaaGreat
open Go.RowKit
theorem ex_law {a b : Nat} {x y : Int} (hb : 1 < b) (h : (a : Int) * x + b * y = 1) : a * (x % b).toNat % b = 1 := by
 have h0 : 0 ≤ x % (b : Int) := Int.emod_nonneg _ (by omega)
 have e1 : ((a * (x % b).toNat % b : Nat) : Int) = 1 := by
  rw [Int.natCast_emod, Int.natCast_mul, Int.toNat_of_nonneg h0, Int.mul_emod, Int.emod_emod, ← Int.mul_emod]
  have e2 : (a : Int) * x = 1 + b * (-y) := by rw [Int.mul_neg]; omega
  rw [e2, Int.add_mul_emod_self_left]
  exact Int.emod_eq_of_lt (by omega) (by omega)
 omega
end Go.Proofs.YtehflcnjnnhojaaGreat
namespace Go.Proofs.YtehflcnjnnhojaaGreat
open Go.RowKit
def kV (M O G H : ByteArray) : Value := .agg #[.string M, .string O, .string G, .string H]
def kF (M O G H : ByteArray) : Bool := nvalid M && nvalid O && nvalid G && nvalid H
end Go.Proofs.YtehflcnjnnhojaaGreat
namespace Go.Proofs.YtehflcnjnnhojaaGreat
open Go.RowKit
theorem slz_alloc2 (w : World) (b1 b2 : Bool) (s1 s2 : ByteArray) (T : TypeId) : SlZ (w.alloc (.cells #[.bool b1, .string s1, .bool b2, .string s2] T)) (some ⟨w.heap.size, 0, none⟩) 2 2 [(b1, s1), (b2, s2)] := by
 have h := Bx4.new w (.bool b1) (.string s1) (.bool b2) (.string s2) T
 obtain ⟨c0, c1, c2, c3⟩ := h.cells
 refine ⟨rfl, Nat.le_refl _, by omega, w.heap.size, 0, fun _ => rfl, fun k z hk => ?_⟩
 match k, hk with
 | 0, hk => cases hk; exact ⟨c0, c1⟩
 | 1, hk => cases hk; exact ⟨c2, c3⟩
end Go.Proofs.YtehflcnjnnhojaaGreat

/- The ghost law for the alloc of a struct: the block is there or not. -/
import Derived.Test.YtndmjfkmnjejkaaGreatDoorQGst
import Derived.Test.YtndmjfkmnjejkaaGreatDoorQNum2
import Derived.Great.Walk
import Derived.Test.YtndmjfkmnjejkaaGreatDoorQPeI
namespace Go.Proofs.YtndmjfkmnjejkaaGreatDoor
open Go.RowKit
set_option linter.unusedVariables false
def GIz (W0 : World) (cs : Array Value) (T : TypeId) (b : Bool) (x : Value) (w : World) : Prop :=
  Below W0.heap.size W0 w ∧ (b = true → ∃ B, x = .pointer (some ⟨B, 0, none⟩) ∧ W0.heap.size ≤ B ∧ w.heap[B]? = some (.cells cs T (0, 0)))
theorem GIz.start {W0 : World} {cs : Array Value} {T : TypeId} {x : Value} {w : World} (h : Below W0.heap.size W0 w) : GIz W0 cs T false x w := ⟨h, fun e => by cases e⟩
theorem GIz.step {W0 w w' : World} {cs : Array Value} {T : TypeId} {b : Bool} {x : Value} (h : GIz W0 cs T b x w) (hb : Below w.heap.size w w') : GIz W0 cs T b x w' := by
  refine ⟨h.1.trans (hb.mono h.1.size), fun e => ?_⟩
  obtain ⟨B, rfl, hB, hz⟩ := h.2 e
  exact ⟨B, rfl, hB, (hb.block B (block_lt hz)).trans hz⟩
theorem alloc_zK {P : Program} {ops : Array Oper} {o : Oper} {a : Act} {Q : Exit → Act → World → Prop} {d : Tmp} {cs : Array Value} {T : TypeId} (hg : o.guard = none) (hd : o.dst = some d) (hop : ∀ (w : World) (ρ : Operand → Value), (execOp ρ o).run P w = .ok (.value (.pointer (some ⟨w.heap.size, 0, none⟩))) (w.alloc (.cells cs T))) {W0 : World} :
    ∀ w, GIz W0 cs T false undef w → ∀ K : Act → World → Prop, (∀ x w', GIz W0 cs T true x w' → K (a.put (some d) x) w') → wpList P ops (EndK K Q) [o] a w := fun w h K hK =>
  Great.wpList_allocTo hg (some d) hd _ _ (hop w a.eval) (hK _ _ ⟨h.1.alloc h.1.size _, fun _ => ⟨_, rfl, h.1.size, heap_alloc_new _ _⟩⟩)
end Go.Proofs.YtndmjfkmnjejkaaGreatDoor
/- Walks: dominoref02.Extended of numbers without a common divisor. -/
set_option linter.unusedVariables false
set_option linter.unusedSimpArgs false
namespace Go.Proofs.YtndmjfkmnjejkaaGreatDoor
open Go.RowKit
theorem ex_law {a b : Nat} {x y : Int} (hb : 1 < b) (h : (a : Int) * x + b * y = 1) : a * (x % b).toNat % b = 1 := by
  have h0 : 0 ≤ x % (b : Int) := Int.emod_nonneg _ (by omega)
  have e1 : ((a * (x % b).toNat % b : Nat) : Int) = 1 := by
    rw [Int.natCast_emod, Int.natCast_mul, Int.toNat_of_nonneg h0, Int.mul_emod, Int.emod_emod, ← Int.mul_emod]
    have e2 : (a : Int) * x = 1 + b * (-y) := by rw [Int.mul_neg]; omega
    rw [e2, Int.add_mul_emod_self_left]
    exact Int.emod_eq_of_lt (by omega) (by omega)
  omega
end Go.Proofs.YtndmjfkmnjejkaaGreatDoor
/- Walks: pedersen.formed, valid, Check and the reference's. -/
set_option linter.unusedVariables false
set_option linter.unusedSimpArgs false
namespace Go.Proofs.YtndmjfkmnjejkaaGreatDoor
open Go.RowKit
def kV (M O G H : ByteArray) : Value := .agg #[.string M, .string O, .string G, .string H]
def kF (M O G H : ByteArray) : Bool := nvalid M && nvalid O && nvalid G && nvalid H
end Go.Proofs.YtndmjfkmnjejkaaGreatDoor

/- Walks: dominoref02.Neg, Mul, Add, Sub, of all canonical integers. -/
import Derived.Test.YtndmjfkmnjejkaaGreatDoorQPeH
import Derived.Test.YtndmjfkmnjejkaaGreatDoorQPeB
import Derived.Test.YtndmjfkmnjejkaaGreatDoorQNum2
import Derived.Great.Walk
set_option linter.unusedVariables false
set_option linter.unusedSimpArgs false
namespace Go.Proofs.YtndmjfkmnjejkaaGreatDoor
open Go.RowKit
set_option maxRecDepth 100000 in
theorem r01_Cmp (x y : Nat) (hx : x < 256 ^ 128) (hy : y < 256 ^ 128) (w : World) : Calls Tryz.prog 146 #[.string (nS x), .string (nS y)] w (Ret (.int .i64 (cmpI x y)) w) := by
  have HV1 := Lib.hid (r01_Valid (nS x) (by have := nS_size_le.2 hx; omega))
  have HV2 := Lib.hid (r01_Valid (nS y) (by have := nS_size_le.2 hy; omega))
  rw [nvalid_nS.2 hx] at HV1
  rw [nvalid_nS.2 hy] at HV2
  have HO := Lib.hid (r01_Order (nS x) (nS y) (by have := nS_size_le.2 hx; omega) (by have := nS_size_le.2 hy; omega))
  rw [ordB_nS] at HO
  obtain ⟨s, hs⟩ : ∃ s, nS x = s := ⟨_, rfl⟩
  obtain ⟨t, ht⟩ : ∃ t, nS y = t := ⟨_, rfl⟩
  rw [hs] at HV1 HO ⊢
  rw [ht] at HV2 HO ⊢
  clear hs ht hx hy
  go_enter Tryz.func146, Tryz.ntmps146
  go_wp2_with fail
  refine (HV1.out _).mono ?_
  rintro e w1 ⟨rfl, rfl⟩
  go_wp2_with fail
  refine (HV2.out _).mono ?_
  rintro e w1 ⟨rfl, rfl⟩
  go_wp2_with fail
  refine (HO.out _).mono ?_
  rintro e w2 ⟨rfl, hb⟩
  have HB := Lib.hid hb
  clear hb
  go_wp2
  go_ret
  exact ⟨rfl, HB.out⟩
end Go.Proofs.YtndmjfkmnjejkaaGreatDoor
/- The ghost law for the alloc of a struct: the block is there or not. -/
namespace Go.Proofs.YtndmjfkmnjejkaaGreatDoor
open Go.RowKit
set_option linter.unusedVariables false
def GIz (W0 : World) (cs : Array Value) (T : TypeId) (b : Bool) (x : Value) (w : World) : Prop :=
  Below W0.heap.size W0 w ∧ (b = true → ∃ B, x = .pointer (some ⟨B, 0, none⟩) ∧ W0.heap.size ≤ B ∧ w.heap[B]? = some (.cells cs T (0, 0)))
theorem GIz.start {W0 : World} {cs : Array Value} {T : TypeId} {x : Value} {w : World} (h : Below W0.heap.size W0 w) : GIz W0 cs T false x w := ⟨h, fun e => by cases e⟩
theorem GIz.step {W0 w w' : World} {cs : Array Value} {T : TypeId} {b : Bool} {x : Value} (h : GIz W0 cs T b x w) (hb : Below w.heap.size w w') : GIz W0 cs T b x w' := by
  refine ⟨h.1.trans (hb.mono h.1.size), fun e => ?_⟩
  obtain ⟨B, rfl, hB, hz⟩ := h.2 e
  exact ⟨B, rfl, hB, (hb.block B (block_lt hz)).trans hz⟩
end Go.Proofs.YtndmjfkmnjejkaaGreatDoor
/- Walk: dominoref02.bezout. -/
set_option linter.unusedVariables false
set_option linter.unusedSimpArgs false
namespace Go.Proofs.YtndmjfkmnjejkaaGreatDoor
open Go.RowKit
theorem below_set2 {B : Nat} {w W : World} (h : Below B w W) {C : Nat} (hC : B ≤ C) (u v : Value) : Below B w ((W.setCell ⟨C, 0, none⟩ u).setCell ⟨C, 1, none⟩ v) :=
  (h.setCell (p := ⟨C, 0, none⟩) hC u).setCell (p := ⟨C, 1, none⟩) hC v
end Go.Proofs.YtndmjfkmnjejkaaGreatDoor

/- Walk: natural.product in columns, over an array of ints. -/
import Derived.Test.YtndmjfkmnjejkaaGreatDoorQLdC
import Derived.Test.YtndmjfkmnjejkaaGreatDoorQPeK
import Derived.Test.YtndmjfkmnjejkaaGreatDoorQRowN
import Derived.Lib.SliceRun
import Derived.Test.YtndmjfkmnjejkaaGreatDoorQExL
import Derived.Test.YtndmjfkmnjejkaaGreatDoorQPwI
set_option linter.unusedVariables false
set_option linter.unusedSimpArgs false
namespace Go.Proofs.YtndmjfkmnjejkaaGreatDoor
open Go.RowKit
structure ColF (w : World) (B n : Nat) (f : Nat → Nat) : Prop where
  cell : ∀ j, j < n → w.cell? ⟨B, j, none⟩ = some (.int .i64 (f j))
  free : ∀ j, j < n → w.frozen? ⟨B, j, none⟩ = false
theorem ColF.drew {w : World} {B n : Nat} {f : Nat → Nat} (h : ColF w B n f) : ColF w.drew B n f := ⟨h.cell, h.free⟩
theorem ColF.set {w : World} {B n p c : Nat} {f : Nat → Nat} (h : ColF w B n f) (hp : p < n) : ColF (w.setCell ⟨B, p, none⟩ (.int .i64 (c : Int))) B n (fun j => if j = p then c else f j) := by
  refine ⟨fun j hj => ?_, fun j hj => by rw [World.frozen?_setCell]; exact h.free j hj⟩
  by_cases e : j = p
  · subst e
    rw [World.cell?_setCell_same _ _ _ (h.cell j hj), if_pos rfl]
  · rw [World.cell?_setCell_other _ _ _ _ (fun he => e (by cases he; rfl)), h.cell j hj]
    simp [e]
theorem ColF.kept {w w' : World} {K B n : Nat} {f : Nat → Nat} (h : ColF w B n f) (hb : Below K w w') (hB : B < K) : ColF w' B n f := by
  have e := hb.block B hB
  refine ⟨fun j hj => ?_, fun j hj => ?_⟩
  · rw [← h.cell j hj]; unfold World.cell?; simp only [e]
  · rw [← h.free j hj]; unfold World.frozen?; simp only [e]
theorem ColF.lt {w : World} {B n : Nat} {f : Nat → Nat} (h : ColF w B n f) (hn : 0 < n) : B < w.heap.size := by
  have h1 := h.cell 0 hn
  rcases Nat.lt_or_ge B w.heap.size with h' | h'
  · exact h'
  · simp [World.cell?, Array.getElem?_eq_none h'] at h1
theorem ColF.clear {w : World} {B n : Nat} {f : Nat → Nat} (h : ColF w B n f) : ColF (w.setCells B 0 (List.replicate n (.int .i64 0))) B n (fun _ => 0) := by
  refine ⟨fun j hj => ?_, fun j hj => by rw [World.frozen?_setCells]; exact h.free j hj⟩
  have h1 := World.cell?_setCells_in B (List.replicate n (.int .i64 0)) 0 w (fun i hi => by rw [Nat.zero_add, h.cell i (by simpa using hi)]; rfl) j (by simpa using hj)
  rw [Nat.zero_add] at h1
  rw [h1]
  simp
end Go.Proofs.YtndmjfkmnjejkaaGreatDoor
/- Walks: natural.Mul and natural.DivMod of any numbers. -/
set_option linter.unusedVariables false
set_option linter.unusedSimpArgs false
namespace Go.Proofs.YtndmjfkmnjejkaaGreatDoor
open Go.RowKit
theorem nat_DivModA (x y : Nat) (hx : x < 256 ^ 128) (hy : y < 256 ^ 128) (h0 : 0 < y) (w : World) : Calls Tryz.prog 108 #[.string (nS x), .string (nS y)] w (Ret (.tuple #[.string (nS (x / y)), .string (nS (x % y)), .int .i64 0]) w) := by
  have HD := Lib.hid (nat_dividedA x y hx hy h0)
  have hem := empty_nS h0
  have hs1 := nS_size_le.2 hx
  have hs2 := nS_size_le.2 hy
  have HV1 := Lib.hid (nvalid_nS.2 hx)
  have HV2 := Lib.hid (nvalid_nS.2 hy)
  obtain ⟨s, hs⟩ : ∃ s, nS x = s := ⟨_, rfl⟩
  obtain ⟨t, ht⟩ : ∃ t, nS y = t := ⟨_, rfl⟩
  rw [hs] at hs1 HV1 HD ⊢
  rw [ht] at hs2 HV2 hem HD ⊢
  clear hs ht hx hy
  go_enter Tryz.func108, Tryz.ntmps108
  go_wp2_with fail
  refine (nat_Valid s (by omega) _).mono ?_
  rintro e w1 ⟨rfl, rfl⟩
  rw [HV1.out]
  go_wp2_with fail
  refine (nat_Valid t (by omega) _).mono ?_
  rintro e w1 ⟨rfl, rfl⟩
  rw [HV2.out]
  go_wp2_with fail
  refine (HD.out _).mono ?_
  rintro e w1 ⟨rfl, hb⟩
  have HB := Lib.hid hb
  clear hb
  go_wp2
  go_ret3
  exact ⟨rfl, HB.out⟩
end Go.Proofs.YtndmjfkmnjejkaaGreatDoor
/- Walk: modular.reduced of any number. -/
set_option linter.unusedVariables false
set_option linter.unusedSimpArgs false
namespace Go.Proofs.YtndmjfkmnjejkaaGreatDoor
open Go.RowKit Go.Lib
set_option maxRecDepth 100000 in
theorem mod_reducedA (x m : Nat) (hx8 : x < 256 ^ 128) (hm : m < 256 ^ 128) (h0 : 0 < m) (w : World) : Calls Tryz.prog 111 #[.string (nS x), .string (nS m)] w (Ret (.string (nS (x % m))) w) := by
  have HD := Lib.hid (nat_DivModA x m hx8 hm h0)
  obtain ⟨s, hs⟩ : ∃ s, nS x = s := ⟨_, rfl⟩
  obtain ⟨t, ht⟩ : ∃ t, nS m = t := ⟨_, rfl⟩
  rw [hs, ht] at HD
  rw [hs, ht]
  clear hs ht hm hx8
  go_enter Tryz.func111, Tryz.ntmps111
  go_wp2_with fail
  refine (HD.out _).mono ?_
  rintro e w1 ⟨rfl, hb⟩
  have HB := Lib.hid hb
  clear hb
  go_wp2
  go_ret
  exact ⟨rfl, HB.out⟩
end Go.Proofs.YtndmjfkmnjejkaaGreatDoor

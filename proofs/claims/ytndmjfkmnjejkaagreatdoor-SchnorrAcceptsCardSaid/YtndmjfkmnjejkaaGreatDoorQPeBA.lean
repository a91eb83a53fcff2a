/- Walks: pedersen.Times of numbers whose products fit, pedersen.Shift of a canonical number. -/
import Derived.Test.YtndmjfkmnjejkaaGreatDoorQPeT
import Derived.Test.YtndmjfkmnjejkaaGreatDoorQMdB
import Derived.Test.YtndmjfkmnjejkaaGreatDoorQPeP
set_option linter.unusedVariables false
set_option linter.unusedSimpArgs false
namespace Go.Proofs.YtndmjfkmnjejkaaGreatDoor
open Go.RowKit
def K4 (w W : World) (M O G H : ByteArray) (vb : Bool) (vt : ByteArray) (rb : Bool) (rt : ByteArray) (bb : Bool) (bt : ByteArray) : Prop :=
  KO w W M O G H vb vt rb rt ∧ Bx2 W (w.heap.size + 1 + 1) (.bool bb) (.string bt) 28 ∧ Bx4 W (w.heap.size + 1 + 1 + 1) (.bool false) (.string ⟨#[]⟩) (.bool false) (.string ⟨#[]⟩) 37
end Go.Proofs.YtndmjfkmnjejkaaGreatDoor
/- Walks: pedersen.Sum, Times. -/
set_option linter.unusedVariables false
set_option linter.unusedSimpArgs false
namespace Go.Proofs.YtndmjfkmnjejkaaGreatDoor
open Go.RowKit
theorem zvalid_all {z : Int} (h : z.natAbs < 256 ^ 128) : zvalid (decide (z < 0)) (nS z.natAbs) = true := by
  unfold zvalid
  rw [nvalid_nS.2 h, Bool.true_and]
  by_cases hz : z < 0
  · rw [empty_nS (by omega), Bool.and_false]; rfl
  · rw [decide_eq_false hz]; rfl
end Go.Proofs.YtndmjfkmnjejkaaGreatDoor
/- Walks: power.Mul, Exp; dominoref13.Mul, Exp. -/
set_option linter.unusedVariables false
set_option linter.unusedSimpArgs false
namespace Go.Proofs.YtndmjfkmnjejkaaGreatDoor
open Go.RowKit
theorem slz_alloc1 (w : World) (b1 : Bool) (s1 : ByteArray) (T : TypeId) : SlZ (w.alloc (.cells #[.bool b1, .string s1] T)) (some ⟨w.heap.size, 0, none⟩) 1 1 [(b1, s1)] := by
  have h := Bx2.new w (.bool b1) (.string s1) T
  refine ⟨rfl, Nat.le_refl _, by omega, w.heap.size, 0, fun _ => rfl, fun k z hk => ?_⟩
  match k, hk with
  | 0, hk => cases hk; exact ⟨h.c0, h.c1⟩
set_option maxRecDepth 100000 in
set_option maxHeartbeats 2000000 in
theorem pw_Exp (M O x : ByteArray) (bb : Bool) (bt : ByteArray) (hM : M.size ≤ 8) (hO : O.size ≤ 8) (hx : x.size ≤ 1000) (hb : bt.size ≤ 1000) (w : World) : Calls Tryz.prog 29 #[gV M O, .string x, zV bb bt] w (Ret (prR M O [x] [(bb, bt)]) w) := by
  have HPR := Lib.hid (fun (A B : Option Addr) (w : World) (hl : SlN w A 1 1 [x]) (hz : SlZ w B 1 1 [(bb, bt)]) => pw_Product M O [x] [(bb, bt)] A B 1 1 1 1 hM hO (by intro s hs; simp only [List.mem_cons, List.mem_nil_iff, or_false] at hs; subst hs; exact hx) (by intro z hz; simp only [List.mem_cons, List.mem_nil_iff, or_false] at hz; subst hz; exact hb) (by omega) (by omega) w hl hz)
  obtain ⟨rs, rc, hpr⟩ : ∃ s c, prR M O [x] [(bb, bt)] = .tuple #[.string s, .int .i64 c] := by
    unfold prR
    split
    · exact ⟨_, _, rfl⟩
    · exact ⟨_, _, rfl⟩
  rw [hpr] at HPR ⊢
  clear hM hO hx hb hpr
  unfold gV zV at *
  have hx0 := (Bx2.new w (.string M) (.string O) 24).next ((Below.refl _ _).alloc (Nat.le_refl _) (.cells #[.bool bb, .string bt] 28))
  have hy0 : Bx2 ((w.alloc (.cells #[.string M, .string O] 24)).alloc (.cells #[.bool bb, .string bt] 28)) (w.heap.size + 1) (.bool bb) (.string bt) 28 := by
    have := Bx2.new (w.alloc (.cells #[.string M, .string O] 24)) (.bool bb) (.string bt) 28
    rwa [World.size_alloc] at this
  have HB0 := Lib.hid (((Below.refl w.heap.size w).alloc (Nat.le_refl _) (.cells #[.string M, .string O] 24)).alloc (by simp) (.cells #[.bool bb, .string bt] 28))
  obtain ⟨W0, hW0⟩ : ∃ W0, (w.alloc (.cells #[.string M, .string O] 24)).alloc (.cells #[.bool bb, .string bt] 28) = W0 := ⟨_, rfl⟩
  rw [hW0] at hx0 hy0 HB0
  have hs1 := sln_alloc W0 [x] 22 (by simp)
  have hb1 : Below W0.heap.size W0 (W0.alloc (.cells #[.string x] 22)) := (Below.refl _ _).alloc (Nat.le_refl _) _
  have hs2 := slz_alloc1 (W0.alloc (.cells #[.string x] 22)) bb bt 28
  have hb2 : Below (W0.alloc (.cells #[.string x] 22)).heap.size (W0.alloc (.cells #[.string x] 22)) ((W0.alloc (.cells #[.string x] 22)).alloc (.cells #[.bool bb, .string bt] 28)) := (Below.refl _ _).alloc (Nat.le_refl _) _
  have HPP := Lib.hid (HPR.out _ _ _ (SlN.kept hb2 (Nat.le_refl _) hs1) hs2)
  have HBB := Lib.hid (HB0.out.trans ((hb1.trans (hb2.mono hb1.size)).mono HB0.out.size))
  rw [World.size_alloc] at HPP
  have c0 := hx0.c0
  have c1 := hx0.c1
  have hy1 := hy0.next hb1
  have d0 := hy1.c0
  have d1 := hy1.c1
  clear hs1 hb1 hs2 hb2 hx0 hy0 hy1
  go_enter Tryz.func29, Tryz.ntmps29
  go_wp2_with fail
  try rw [hW0]
  clear hW0
  refine HPP.out.mono ?_
  rintro e w1 ⟨rfl, hb⟩
  have HB1 := Lib.hid (HBB.out.trans (hb.mono HBB.out.size))
  clear hb
  go_wp2
  go_ret2
  exact ⟨rfl, HB1.out⟩
end Go.Proofs.YtndmjfkmnjejkaaGreatDoor

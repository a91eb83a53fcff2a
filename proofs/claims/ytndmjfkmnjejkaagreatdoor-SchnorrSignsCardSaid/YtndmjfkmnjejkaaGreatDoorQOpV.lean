/- The arguments opened: a signer. -/
import Derived.Test.YtndmjfkmnjejkaaGreatDoorQOpU
import Derived.Test.YtndmjfkmnjejkaaGreatDoorQScX
set_option linter.unusedVariables false
set_option linter.unusedSimpArgs false
namespace Go.Proofs.YtndmjfkmnjejkaaGreatDoor
open Go.ChangeShapes Go.WideShapes Go.ChangeAt Go.Deep Go.Joins Go.RowKit
open Go.ChangeMaps (open_string shut_string)
section
variable {H : Type} {enc : TypeId × Value → H} {W : World} {sp : Nat → Bool} {held : Bool}
theorem open_skeyC {fuel : Nat} {c0 c1 c2 c3 : Value} {x : DataW H × List MemPlace} (hf : DataW.trod enc Tryz.prog W 0 (fun _ => true) held fuel 46 [c0, c1, c2, c3] = some x) : ∃ M O G K : ByteArray, c0 = .string M ∧ c1 = .string O ∧ c2 = .string G ∧ c3 = .string K := by
  obtain ⟨n1, y1, g1⟩ := trod_at Tryz.underlying46 hf 0 _ rfl 2 (by kernel_rfl)
  have g1 : DataW.trod enc Tryz.prog W 0 (fun _ => true) held n1 24 [c0, c1] = some y1 := g1
  obtain ⟨n2, y2, g2⟩ := trod_at Tryz.underlying46 hf 1 _ rfl 1 (by kernel_rfl)
  have g2 : DataW.trod enc Tryz.prog W 0 (fun _ => true) held n2 22 [c2] = some y2 := g2
  obtain ⟨n3, y3, g3⟩ := trod_at Tryz.underlying46 hf 2 _ rfl 1 (by kernel_rfl)
  have g3 : DataW.trod enc Tryz.prog W 0 (fun _ => true) held n3 22 [c3] = some y3 := g3
  obtain ⟨n4, y4, g4⟩ := trod_at Tryz.underlying24 g1 0 _ rfl 1 (by kernel_rfl)
  have g4 : DataW.trod enc Tryz.prog W 0 (fun _ => true) held n4 22 [c0] = some y4 := g4
  obtain ⟨n5, y5, g5⟩ := trod_at Tryz.underlying24 g1 1 _ rfl 1 (by kernel_rfl)
  have g5 : DataW.trod enc Tryz.prog W 0 (fun _ => true) held n5 22 [c1] = some y5 := g5
  obtain ⟨s0, e0, _⟩ := DataW.trod_string Tryz.underlying22 g4
  obtain ⟨s1, e1, _⟩ := DataW.trod_string Tryz.underlying22 g5
  obtain ⟨s2, e2, _⟩ := DataW.trod_string Tryz.underlying22 g2
  obtain ⟨s3, e3, _⟩ := DataW.trod_string Tryz.underlying22 g3
  simp only [List.cons.injEq, and_true] at e0 e1 e2 e3
  exact ⟨s0, s1, s2, s3, e0, e1, e2, e3⟩
set_option maxRecDepth 100000 in
theorem open_signer {r : Reach} {b0 : Nat} {v : Value} {d : DataW H} {p : List MemPlace} (hv : Value.okWide Tryz.prog W r b0 71 v) (h : DataW.Trod enc Tryz.prog W 0 (fun _ => true) held 71 v d p) : ∃ (M O G Y X m : ByteArray) (A : Option Addr) (n cap : Nat) (l : List ByteArray) (s : ByteArray) (k : Int), v = snV M O G Y X m A n cap s k ∧ SlN W A n cap l := by
  obtain ⟨cs, rfl, hsz⟩ := okWide_struct Tryz.underlying71 hv
  obtain ⟨c0, c1, c2, c3, c4, c5, c6, c7, c8, rfl⟩ := array9T (hsz.trans (show Tryz.prog.cellsOf 71 = 9 from by kernel_rfl))
  obtain ⟨fuel, hf⟩ := h
  have hf : DataW.trod enc Tryz.prog W 0 (fun _ => true) held fuel 71 [c0, c1, c2, c3, c4, c5, c6, c7, c8] = some (d, p) := hf
  obtain ⟨n1, y1, g1⟩ := trod_at Tryz.underlying71 hf 0 _ rfl 4 (by kernel_rfl)
  have g1 : DataW.trod enc Tryz.prog W 0 (fun _ => true) held n1 46 [c0, c1, c2, c3] = some y1 := g1
  obtain ⟨n2, y2, g2⟩ := trod_at Tryz.underlying71 hf 1 _ rfl 1 (by kernel_rfl)
  have g2 : DataW.trod enc Tryz.prog W 0 (fun _ => true) held n2 22 [c4] = some y2 := g2
  obtain ⟨n3, y3, g3⟩ := trod_at Tryz.underlying71 hf 2 _ rfl 1 (by kernel_rfl)
  have g3 : DataW.trod enc Tryz.prog W 0 (fun _ => true) held n3 9 [c5] = some y3 := g3
  obtain ⟨n4, y4, g4⟩ := trod_at Tryz.underlying71 hf 3 _ rfl 3 (by kernel_rfl)
  have g4 : DataW.trod enc Tryz.prog W 0 (fun _ => true) held n4 31 [c6, c7, c8] = some y4 := g4
  obtain ⟨X, e2, _⟩ := DataW.trod_string Tryz.underlying22 g2
  obtain ⟨m, e3, _⟩ := DataW.trod_string Tryz.underlying9 g3
  obtain ⟨A, n, cap, l, s, k, e6, e7, e8, hs⟩ := open_tapeC g4
  obtain ⟨M, O, G, K, e0, e1, e4, e5⟩ := open_skeyC g1
  simp only [List.cons.injEq, and_true] at e2 e3
  subst e0 e1 e2 e3 e4 e5 e6 e7 e8
  exact ⟨M, O, G, K, X, m, A, n, cap, l, s, k, rfl, hs⟩
end
end Go.Proofs.YtndmjfkmnjejkaaGreatDoor

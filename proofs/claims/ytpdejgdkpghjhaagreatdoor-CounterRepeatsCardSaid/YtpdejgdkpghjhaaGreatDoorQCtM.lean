/- Walks: dominolaw49.Few, a case's few; the laws CounterBases, CounterSerials, CounterLinks. -/
import Derived.Test.YtpdejgdkpghjhaaGreatDoorQAw9
set_option linter.unusedVariables false
set_option linter.unusedSimpArgs false
namespace Go.Proofs.YtpdejgdkpghjhaaGreatDoor
open Go.RowKit Go.Lib
structure Cs where
  M : ByteArray
  O : ByteArray
  G : ByteArray
  H : ByteArray
  s : ByteArray
  p : Int
  X : ByteArray
  c : Int
  S : ByteArray
  C : ByteArray
  T : ByteArray
  U : ByteArray
def Cs.arr (x : Cs) : Array Value := #[.string x.M, .string x.O, .string x.G, .string x.H, .string x.s, .int .i64 x.p, .string x.X, .int .i64 x.c, .string x.S, .string x.C, .string x.T, .string x.U]
def few49 (M O G H : ByteArray) (l : List ByteArray) : Bool := few9 M O [G, H] && few9 M O l
def Cs.few (x : Cs) : Bool := few49 x.M x.O x.G x.H [x.X, x.S, x.C, x.T, x.U] && decide (x.s.size ≤ 200)
def XB (w W : World) (x : Cs) : Prop := W.heap[w.heap.size]? = some (.cells x.arr 28 (0, 0)) ∧ Below w.heap.size w W
theorem XB.new (w : World) (x : Cs) : XB w (w.alloc (.cells x.arr 28)) x := ⟨heap_alloc_new _ _, (Below.refl _ _).alloc (Nat.le_refl _) _⟩
theorem XB.next {w W W' : World} {x : Cs} (h : XB w W x) (hb : Below W.heap.size W W') : XB w W' x := ⟨(hb.block _ (block_lt h.1)).trans h.1, h.2.trans (hb.mono h.2.size)⟩
theorem XB.cells {w W : World} {x : Cs} (h : XB w W x) : W.cell? ⟨w.heap.size, 0, none⟩ = some (.string x.M) ∧ W.cell? ⟨w.heap.size, 1, none⟩ = some (.string x.O) ∧ W.cell? ⟨w.heap.size, 2, none⟩ = some (.string x.G) ∧ W.cell? ⟨w.heap.size, 3, none⟩ = some (.string x.H) ∧ W.cell? ⟨w.heap.size, 4, none⟩ = some (.string x.s) ∧ W.cell? ⟨w.heap.size, 5, none⟩ = some (.int .i64 x.p) ∧ W.cell? ⟨w.heap.size, 6, none⟩ = some (.string x.X) ∧ W.cell? ⟨w.heap.size, 7, none⟩ = some (.int .i64 x.c) ∧ W.cell? ⟨w.heap.size, 8, none⟩ = some (.string x.S) ∧ W.cell? ⟨w.heap.size, 9, none⟩ = some (.string x.C) ∧ W.cell? ⟨w.heap.size, 10, none⟩ = some (.string x.T) ∧ W.cell? ⟨w.heap.size, 11, none⟩ = some (.string x.U) := by
  refine ⟨?_, ?_, ?_, ?_, ?_, ?_, ?_, ?_, ?_, ?_, ?_, ?_⟩ <;> rw [Lib.cell_of_heap h.1] <;> rfl
theorem few49_of {M O G H : ByteArray} {l : List ByteArray} (h : few49 M O G H l = true) : M.size ≤ 8 ∧ O.size ≤ 10 ∧ G.size ≤ 20 ∧ H.size ≤ 20 ∧ ∀ s ∈ l, s.size ≤ 20 := by
  unfold few49 at h
  rw [Bool.and_eq_true] at h
  obtain ⟨a, b, c⟩ := few9_of h.1
  exact ⟨a, b, c G (by simp), c H (by simp), (few9_of h.2).2.2⟩
set_option maxRecDepth 100000 in
set_option maxHeartbeats 1000000 in
theorem law49_Few (M O G H : ByteArray) (l : List ByteArray) (A : Option Addr) (n cap : Nat) (hn : n ≤ 1000) (w : World) (hsl : SlN w A n cap l) : Calls Tryz.prog 48 #[kV M O G H, .slice A n cap] w (Ret (.bool (few49 M O G H l)) w) := by
  have HK0 := Lib.hid (KB.new w M O G H)
  have HS0 := Lib.hid (hsl.kept ((Below.refl _ _).alloc (Nat.le_refl _) (.cells #[.string M, .string O, .string G, .string H] 26)) (Nat.le_refl _))
  obtain ⟨W0, hW0⟩ : ∃ W, w.alloc (.cells #[.string M, .string O, .string G, .string H] 26) = W := ⟨_, rfl⟩
  rw [hW0] at HK0 HS0
  have hs2 := sln_alloc W0 [G, H] 22 (by simp)
  have hbb := (Below.refl W0.heap.size W0).alloc (Nat.le_refl _) (.cells #[.string G, .string H] 22)
  have HF1 := Lib.hid (law_Few M O [G, H] _ 2 2 (by omega) _ hs2)
  have HK1 := Lib.hid (HK0.out.next hbb)
  have HS1 := Lib.hid (HS0.out.kept hbb (Nat.le_refl _))
  have HLF := Lib.hid (fun w hs => law_Few M O l A n cap hn w hs)
  obtain ⟨c0, c1, c2, c3⟩ := HK0.out.1.cells
  cases h1 : few9 M O [G, H] with
  | false =>
    rw [h1] at HF1
    have HR := Lib.hid (show few49 M O G H l = false from by unfold few49; rw [h1]; rfl)
    rw [HR.out]
    unfold kV gV at *
    clear hsl hn hs2 hbb h1
    go_enter Tryz.func48, Tryz.ntmps48
    go_wp2_with fail
    try rw [hW0]
    clear hW0
    refine HF1.out.mono ?_
    rintro ev w1 ⟨rfl, hb⟩
    have HK2 := Lib.hid (HK1.out.next hb)
    clear hb c0 c1 c2 c3
    go_wp2
    go_ret
    exact ⟨rfl, HK2.out.2⟩
  | true =>
    rw [h1] at HF1
    have HR := Lib.hid (show few49 M O G H l = few9 M O l from by unfold few49; rw [h1]; rfl)
    rw [HR.out]
    unfold kV gV at *
    clear hsl hn hs2 hbb h1
    go_enter Tryz.func48, Tryz.ntmps48
    go_wp2_with fail
    try rw [hW0]
    clear hW0
    refine HF1.out.mono ?_
    rintro ev w1 ⟨rfl, hb⟩
    have HK2 := Lib.hid (HK1.out.next hb)
    have HLL := Lib.hid (HLF.out _ (HS1.out.kept hb (Nat.le_refl _)))
    clear hb c0 c1 c2 c3
    obtain ⟨c0, c1, c2, c3⟩ := HK2.out.1.cells
    go_wp2_with fail
    refine HLL.out.mono ?_
    rintro ev w2 ⟨rfl, hb⟩
    have HK3 := Lib.hid (HK2.out.next hb)
    clear hb c0 c1 c2 c3
    go_wp2
    go_ret
    exact ⟨rfl, HK3.out.2⟩
set_option maxRecDepth 100000 in
set_option maxHeartbeats 1000000 in
theorem case_few (x : Cs) (w : World) : Calls Tryz.prog 13 #[.agg x.arr] w (Ret (.bool x.few) w) := by
  have hx0 := XB.new w x
  obtain ⟨M, O, G, H, s, p, X, c, S, C, T, U⟩ := x
  unfold Cs.arr at *
  simp only [] at *
  obtain ⟨W0, hW0⟩ : ∃ W, w.alloc (.cells #[.string M, .string O, .string G, .string H, .string s, .int .i64 p, .string X, .int .i64 c, .string S, .string C, .string T, .string U] 28) = W := ⟨_, rfl⟩
  rw [hW0] at hx0
  have HX0 := Lib.hid hx0
  have hs2 := sln_alloc W0 [X, S, C, T, U] 22 (by simp)
  have hbb := (Below.refl W0.heap.size W0).alloc (Nat.le_refl _) (.cells #[.string X, .string S, .string C, .string T, .string U] 22)
  have HF1 := Lib.hid (law49_Few M O G H [X, S, C, T, U] _ 5 5 (by omega) _ hs2)
  have HX1 := Lib.hid (hx0.next hbb)
  obtain ⟨c0, c1, c2, c3, c4, c5, c6, c7, c8, c9, c10, c11⟩ := hx0.cells
  unfold Cs.few
  simp only []
  have hle : ((s.size : Int) ≤ 200) = (s.size ≤ 200) := by rw [eq_iff_iff]; omega
  cases h1 : few49 M O G H [X, S, C, T, U] with
  | false =>
    rw [h1] at HF1
    rw [Bool.false_and]
    unfold kV at *
    clear hs2 hbb h1 hx0
    go_enter Tryz.func13, Tryz.ntmps13
    go_wp2_with fail
    try rw [hW0]
    clear hW0
    refine HF1.out.mono ?_
    rintro ev w1 ⟨rfl, hb⟩
    have HX2 := Lib.hid (HX1.out.next hb)
    clear hb c0 c1 c2 c3 c4 c5 c6 c7 c8 c9 c10 c11
    go_wp2
    go_ret
    exact ⟨rfl, HX2.out.2⟩
  | true =>
    rw [h1] at HF1
    rw [Bool.true_and]
    unfold kV at *
    clear hs2 hbb h1 hx0 c0 c1 c2 c3 c5 c6 c7 c8 c9 c10 c11 c4
    obtain ⟨c0, c1, c2, c3, c4, c5, c6, c7, c8, c9, c10, c11⟩ := HX0.out.cells
    go_enter Tryz.func13, Tryz.ntmps13
    go_wp2_with fail
    try rw [hW0]
    clear hW0
    refine HF1.out.mono ?_
    rintro ev w1 ⟨rfl, hb⟩
    have HX2 := Lib.hid (HX1.out.next hb)
    clear hb c0 c1 c2 c3 c4 c5 c6 c7 c8 c9 c10 c11
    obtain ⟨c0, c1, c2, c3, c4, c5, c6, c7, c8, c9, c10, c11⟩ := HX2.out.cells
    go_wp2
    go_ret
    exact ⟨by simp [hle], HX2.out.2⟩
end Go.Proofs.YtpdejgdkpghjhaaGreatDoor
/- The laws CounterBases, CounterSerials, CounterLinks, walked. -/
set_option linter.unusedVariables false
set_option linter.unusedSimpArgs false
namespace Go.Proofs.YtpdejgdkpghjhaaGreatDoor
open Go.RowKit Go.Lib
theorem few_of {x : Cs} (h : x.few = true) : x.M.size ≤ 8 ∧ x.O.size ≤ 10 ∧ x.G.size ≤ 20 ∧ x.H.size ≤ 20 ∧ x.s.size ≤ 200 ∧ x.X.size ≤ 20 := by
  unfold Cs.few at h
  rw [Bool.and_eq_true] at h
  obtain ⟨a, b, c, d, e⟩ := few49_of h.1
  exact ⟨a, b, c, d, of_decide_eq_true h.2, e x.X (by simp)⟩
end Go.Proofs.YtpdejgdkpghjhaaGreatDoor

/- Walks: dominoref29.Same, dominoref58.Same of equal versions. -/
import Derived.Test.YtnfkccohmkfnoaaKyJ
set_option linter.unusedVariables false
set_option linter.unusedSimpArgs false
namespace Go.Proofs.Ytnfkccohmkfnoaa
open Go.RowKit

/-- The cells of a version's key. -/
def Ver.key (v : Ver) (rv : Value) : Array Value := #[.string v.kn, .string v.km, .string v.ko, .string v.kz, .string v.ks, rv, .string v.ku, .string v.kh]
theorem SlN.cell {w : World} {A : Option Addr} {n c : Nat} {l : List ByteArray} (h : SlN w A n c l) {j : Nat} {s : ByteArray} (hj : l[j]? = some s) : ∃ b o, A = some ⟨b, o, none⟩ ∧ w.cell? ⟨b, o + j, none⟩ = some (.string s) := by
  have hl := (List.getElem?_eq_some_iff.1 hj).1
  obtain ⟨b, o, rfl⟩ := h.head (by have := h.1; omega)
  exact ⟨b, o, rfl, h.get? j hj⟩
set_option maxRecDepth 100000 in
set_option maxHeartbeats 4000000 in
theorem r29_Same (v : Ver) (A A' : Option Addr) (n c n' c' : Nat) (w : World) (h : SlN w A n c v.kr) (h' : SlN w A' n' c' v.kr) (hn : n ≤ 1000000) : Calls Try.prog 23 #[.agg (v.key (.slice A n c)), .agg (v.key (.slice A' n' c'))] w (Ret (.bool true) w) := by
  obtain ⟨W0, hW0⟩ : ∃ W0, (w.alloc (.cells (v.key (.slice A n c)) 32)).alloc (.cells (v.key (.slice A' n' c')) 32) = W0 := ⟨_, rfl⟩
  have HB0 := Lib.hid (show Below w.heap.size w W0 from by rw [← hW0]; exact ((Below.refl _ _).alloc (Nat.le_refl _) _).alloc (by simp) _)
  have HX := Lib.hid (show BxC W0 w.heap.size (v.key (.slice A n c)) 32 from by rw [← hW0]; exact (BxC.new w _ _).next ((Below.refl _ _).alloc (Nat.le_refl _) _))
  have HY := Lib.hid (show BxC W0 (w.heap.size + 1) (v.key (.slice A' n' c')) 32 from by
    rw [← hW0]
    have := BxC.new (w.alloc (.cells (v.key (.slice A n c)) 32)) (v.key (.slice A' n' c')) 32
    rw [World.size_alloc] at this
    exact this)
  obtain rfl : n = n' := h.1.symm.trans h'.1
  have HS := Lib.hid (h.kept HB0.out (Nat.le_refl _))
  have HS' := Lib.hid (h'.kept HB0.out (Nat.le_refl _))
  have x0 : W0.cell? ⟨w.heap.size, 0, none⟩ = some (.string v.kn) := HX.out.cell 0
  have x1 : W0.cell? ⟨w.heap.size, 1, none⟩ = some (.string v.km) := HX.out.cell 1
  have x2 : W0.cell? ⟨w.heap.size, 2, none⟩ = some (.string v.ko) := HX.out.cell 2
  have x3 : W0.cell? ⟨w.heap.size, 3, none⟩ = some (.string v.kz) := HX.out.cell 3
  have x4 : W0.cell? ⟨w.heap.size, 4, none⟩ = some (.string v.ks) := HX.out.cell 4
  have x5 : W0.cell? ⟨w.heap.size, 5, none⟩ = some (.slice A n c) := HX.out.cell 5
  have x6 : W0.cell? ⟨w.heap.size, 6, none⟩ = some (.string v.ku) := HX.out.cell 6
  have x7 : W0.cell? ⟨w.heap.size, 7, none⟩ = some (.string v.kh) := HX.out.cell 7
  have y0 : W0.cell? ⟨w.heap.size + 1, 0, none⟩ = some (.string v.kn) := HY.out.cell 0
  have y1 : W0.cell? ⟨w.heap.size + 1, 1, none⟩ = some (.string v.km) := HY.out.cell 1
  have y2 : W0.cell? ⟨w.heap.size + 1, 2, none⟩ = some (.string v.ko) := HY.out.cell 2
  have y3 : W0.cell? ⟨w.heap.size + 1, 3, none⟩ = some (.string v.kz) := HY.out.cell 3
  have y4 : W0.cell? ⟨w.heap.size + 1, 4, none⟩ = some (.string v.ks) := HY.out.cell 4
  have y5 : W0.cell? ⟨w.heap.size + 1, 5, none⟩ = some (.slice A' n c') := HY.out.cell 5
  have y6 : W0.cell? ⟨w.heap.size + 1, 6, none⟩ = some (.string v.ku) := HY.out.cell 6
  have y7 : W0.cell? ⟨w.heap.size + 1, 7, none⟩ = some (.string v.kh) := HY.out.cell 7
  have HLEN := Lib.hid h.1
  have hcap := h.2.1
  have hcap' := h'.2.1
  have hcap2 := h.2.2.1
  have hcap2' := h'.2.2.1
  have HW0 := Lib.hid hW0
  unfold Ver.key at hW0 ⊢
  clear h h'
  go_enter Try.func23, Try.ntmps23
  go_wp2
  try rw [hW0]
  clear hW0
  go_loopw [5] (fun i wr => ∃ (j : Nat), j ≤ n ∧ i = .int .i64 j ∧ Below W0.heap.size W0 wr) (fun i _ => n - (intOf i).toNat)
  case atStart => exact ⟨0, Nat.zero_le _, rfl, Below.refl _ _⟩
  case round =>
    obtain ⟨j, hj, rfl, hbb⟩ := hrel
    have HB := Lib.hid hbb
    have z5 := cell_kept hbb (Nat.le_refl _) x5
    have z5' : wr.drew.cell? ⟨w.heap.size, 5, none⟩ = some (.slice A n c) := z5
    have q5' : wr.drew.cell? ⟨w.heap.size + 1, 5, none⟩ = some (.slice A' n c') := cell_kept hbb (Nat.le_refl _) y5
    clear hbb x0 x1 x2 x3 x4 x5 x6 x7 y0 y1 y2 y3 y4 y5 y6 y7
    by_cases hlt : j < n
    · obtain ⟨s, hs⟩ : ∃ s, v.kr[j]? = some s := ⟨_, List.getElem?_eq_getElem (by rw [HLEN.out]; exact hlt)⟩
      obtain ⟨b, o, rfl, e1⟩ := HS.out.cell hs
      obtain ⟨b', o', rfl, e2⟩ := HS'.out.cell hs
      have g1 : wr.drew.cell? ⟨b, o + j, none⟩ = some (.string s) := cell_kept HB.out (Nat.le_refl _) e1
      have g2 : wr.drew.cell? ⟨b', o' + j, none⟩ = some (.string s) := cell_kept HB.out (Nat.le_refl _) e2
      clear hs e1 e2
      go_wp2
      go_region
      go_wp2
      go_roundw
      case rel => exact ⟨j + 1, by omega, by go_num, HB.out.drew⟩
      case measure => simp [intOf]; omega
    · obtain rfl : j = n := by omega
      clear hlt hj
      go_wp2
      go_ret
      exact ⟨rfl, HB0.out.trans (HB.out.mono HB0.out.size)⟩
end Go.Proofs.Ytnfkccohmkfnoaa

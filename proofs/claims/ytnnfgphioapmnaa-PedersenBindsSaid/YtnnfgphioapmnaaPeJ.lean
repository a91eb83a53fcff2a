/- Walks: dominoref02.Neg, Mul, Add, Sub, of all canonical integers. -/
import Derived.Test.YtnnfgphioapmnaaPeH
set_option linter.unusedVariables false
set_option linter.unusedSimpArgs false
namespace Go.Proofs.Ytnnfgphioapmnaa
open Go.RowKit

/-- An integer, or an error if it is too long. -/
def fitZ (z : Int) : Value := if z.natAbs < 256 ^ 128 then .tuple #[intV z, .int .i64 0] else .tuple #[intV 0, .int .i64 5]
theorem fitR_cut (n : Nat) : ∃ (k : Nat) (c : Int), fitR n = .tuple #[.string (nS k), .int .i64 c] ∧ ∀ (z : Int) (b : Bool), z.natAbs = n → sg b n = z → fitZ z = .tuple #[intV (sg b k), .int .i64 c] := by
  unfold fitR
  by_cases h : n < 256 ^ 128
  · rw [if_pos h]
    exact ⟨n, 0, rfl, fun z b hz hs => by unfold fitZ; rw [if_pos (by rw [hz]; exact h), hs]⟩
  · rw [if_neg h]
    exact ⟨0, 5, by rw [nS_zero], fun z b hz hs => by unfold fitZ; rw [if_neg (by rw [hz]; exact h)]; cases b <;> rfl⟩
/-- Two integers and a place for the result. -/
def I3 (w W : World) (x0 x1 y0 y1 r0 r1 : Value) : Prop := Bx2 W w.heap.size x0 x1 38 ∧ Bx2 W (w.heap.size + 1) y0 y1 38 ∧ Bx2 W (w.heap.size + 1 + 1) r0 r1 38 ∧ Below w.heap.size w W
theorem I3.new (w : World) (x0 x1 y0 y1 r0 r1 : Value) : I3 w (((w.alloc (.cells #[x0, x1] 38)).alloc (.cells #[y0, y1] 38)).alloc (.cells #[r0, r1] 38)) x0 x1 y0 y1 r0 r1 := by
  refine ⟨((Bx2.new w _ _ _).next ((Below.refl _ _).alloc (Nat.le_refl _) _)).next ((Below.refl _ _).alloc (Nat.le_refl _) _), ?_, ?_, (((Below.refl w.heap.size w).alloc (Nat.le_refl _) _).alloc (by simp) _).alloc (by simp; omega) _⟩
  · have := Bx2.new (w.alloc (.cells #[x0, x1] 38)) y0 y1 38
    rw [World.size_alloc] at this
    exact this.next ((Below.refl _ _).alloc (Nat.le_refl _) _)
  · have := Bx2.new ((w.alloc (.cells #[x0, x1] 38)).alloc (.cells #[y0, y1] 38)) r0 r1 38
    rw [World.size_alloc, World.size_alloc] at this
    exact this
theorem I3.next {w W W' : World} {x0 x1 y0 y1 r0 r1 : Value} (h : I3 w W x0 x1 y0 y1 r0 r1) (hb : Below W.heap.size W W') : I3 w W' x0 x1 y0 y1 r0 r1 := by
  have hs : w.heap.size ≤ W.heap.size := Nat.le_of_lt h.1.lt
  exact ⟨h.1.next hb, h.2.1.next hb, h.2.2.1.next hb, h.2.2.2.trans (hb.mono hs)⟩
theorem I3.cells {w W : World} {x0 x1 y0 y1 r0 r1 : Value} (h : I3 w W x0 x1 y0 y1 r0 r1) : W.cell? ⟨w.heap.size, 0, none⟩ = some x0 ∧ W.cell? ⟨w.heap.size, 1, none⟩ = some x1 ∧ W.cell? ⟨w.heap.size + 1, 0, none⟩ = some y0 ∧ W.cell? ⟨w.heap.size + 1, 1, none⟩ = some y1 ∧ W.cell? ⟨w.heap.size + 1 + 1, 0, none⟩ = some r0 ∧ W.cell? ⟨w.heap.size + 1 + 1, 1, none⟩ = some r1 ∧ W.frozen? ⟨w.heap.size + 1 + 1, 0, none⟩ = false ∧ W.frozen? ⟨w.heap.size + 1 + 1, 1, none⟩ = false :=
  ⟨h.1.c0, h.1.c1, h.2.1.c0, h.2.1.c1, h.2.2.1.c0, h.2.2.1.c1, h.2.2.1.f0, h.2.2.1.f1⟩
theorem I3.done {w W : World} {x0 x1 y0 y1 r0 r1 : Value} (h : I3 w W x0 x1 y0 y1 r0 r1) (u v : Value) : ((W.setCell ⟨w.heap.size + 1 + 1, 0, none⟩ u).setCell ⟨w.heap.size + 1 + 1, 1, none⟩ v).cell? ⟨w.heap.size + 1 + 1, 0, none⟩ = some u ∧ ((W.setCell ⟨w.heap.size + 1 + 1, 0, none⟩ u).setCell ⟨w.heap.size + 1 + 1, 1, none⟩ v).cell? ⟨w.heap.size + 1 + 1, 1, none⟩ = some v ∧ Below w.heap.size w ((W.setCell ⟨w.heap.size + 1 + 1, 0, none⟩ u).setCell ⟨w.heap.size + 1 + 1, 1, none⟩ v) := by
  have hY := h.2.2.1.set2 (u := u) (v := v)
  exact ⟨hY.c0, hY.c1, (h.2.2.2.setCell (p := ⟨w.heap.size + 1 + 1, 0, none⟩) (by simp only []; omega) _).setCell (p := ⟨w.heap.size + 1 + 1, 1, none⟩) (by simp only []; omega) _⟩


theorem fitZ_in {z : Int} (h : z.natAbs < 256 ^ 128) : fitZ z = .tuple #[intV z, .int .i64 0] := by unfold fitZ; rw [if_pos h]
end Go.Proofs.Ytnnfgphioapmnaa
/- Walks: dominoref02.Of, Sub, DivMod with its quotient. -/
set_option linter.unusedVariables false
set_option linter.unusedSimpArgs false
namespace Go.Proofs.Ytnnfgphioapmnaa
open Go.RowKit

theorem below_cell {B : Nat} {w W : World} (h : Below B w W) {a : Addr} {v : Value} (ha : a.block < B) (hc : w.cell? a = some v) : W.cell? a = some v := by
  rw [World.cell?_of_block (h.block a.block ha)]; exact hc
theorem ediv_a {z : Int} {m : Nat} (h0 : 0 < m) (hz : z < 0) (hr : z.natAbs % m = 0) : z / m = -((z.natAbs / m : Nat) : Int) := by
  have e := Nat.div_add_mod z.natAbs m
  rw [hr, Nat.add_zero] at e
  have e2 : ((m * (z.natAbs / m) : Nat) : Int) = -z := by rw [e]; omega
  rw [Int.natCast_mul] at e2
  have e3 : z = m * (-((z.natAbs / m : Nat) : Int)) := by rw [Int.mul_neg]; omega
  conv => lhs; rw [e3]
  exact Int.mul_ediv_cancel_left _ (by omega)
theorem ediv_b {z : Int} {m : Nat} (h0 : 0 < m) (hz : z < 0) (hr : 0 < z.natAbs % m) : z / m = -((z.natAbs / m + 1 : Nat) : Int) := by
  have hlt := Nat.mod_lt z.natAbs h0
  have e := Nat.div_add_mod z.natAbs m
  have e2 : ((m * (z.natAbs / m) + z.natAbs % m : Nat) : Int) = -z := by rw [e]; omega
  rw [Int.natCast_add, Int.natCast_mul] at e2
  have e3 : z = ((m - z.natAbs % m : Nat) : Int) + m * (-(z.natAbs / m : Nat) - 1) := by
    rw [Int.mul_sub, Int.mul_neg]
    omega
  conv => lhs; rw [e3]
  rw [Int.add_mul_ediv_left _ _ (by omega), Int.ediv_eq_zero_of_lt (by omega) (by omega)]
  omega
theorem ediv_c {z : Int} {m : Nat} (hz : 0 ≤ z) : z / m = ((z.natAbs / m : Nat) : Int) := by
  conv => lhs; rw [show z = (z.natAbs : Int) from by omega]
  rw [Int.natCast_ediv]
theorem intV_neg (n : Nat) : intV (-(n : Int)) = .agg #[.bool (!(nS n).toList.isEmpty), .string (nS n)] := by
  unfold intV zV
  rw [Int.natAbs_neg, Int.natAbs_natCast]
  rcases Nat.eq_zero_or_pos n with h | h
  · subst h; rw [show (nS 0).toList.isEmpty = true from sempty_true rfl]; rfl
  · rw [empty_nS h, decide_eq_true (by omega)]; rfl


end Go.Proofs.Ytnnfgphioapmnaa

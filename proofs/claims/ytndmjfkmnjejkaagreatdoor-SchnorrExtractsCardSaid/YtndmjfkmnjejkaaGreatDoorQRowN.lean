/- The estimate of a quotient's digit (Knuth), to a base B. No program stands here. -/
import Derived.Test.YtndmjfkmnjejkaaGreatDoorQNatA
import Derived.Test.YtndmjfkmnjejkaaGreatDoorQLib
import Derived.Test.YtndmjfkmnjejkaaGreatDoorRows
import Derived.Deep.AppendLies
set_option linter.unusedVariables false
namespace Go.Proofs.YtndmjfkmnjejkaaGreatDoor
structure Est (B u u1 y1 y0 q r : Nat) : Prop where
  eq : q * y1 + r = u
  ge : (u * B + u1) / (y1 * B + y0) ≤ q
  le : q ≤ B + 1
theorem est_test {B u u1 y1 y0 q r : Nat} (h : q * y1 + r = u) : q * y0 ≤ B * r + u1 ↔ q * (y1 * B + y0) ≤ u * B + u1 := by
  subst h
  have e1 : q * (y1 * B + y0) = q * y1 * B + q * y0 := by rw [Nat.mul_add, Nat.mul_assoc]
  have e2 : (q * y1 + r) * B = q * y1 * B + B * r := by rw [Nat.add_mul, Nat.mul_comm B r]
  rw [e1, e2]
  omega
theorem est_true {B u u1 y1 y0 q : Nat} (hy : 0 < y1 * B + y0) : q * (y1 * B + y0) ≤ u * B + u1 ↔ q ≤ (u * B + u1) / (y1 * B + y0) := (Nat.le_div_iff_mul_le hy).symm
theorem est_digit {B u u1 y1 y0 : Nat} (h1 : u1 < B) (hu : u < y1 * B + y0) : (u * B + u1) / (y1 * B + y0) < B := by
  rw [Nat.div_lt_iff_lt_mul (by omega)]
  have := Nat.mul_le_mul_right B (show u + 1 ≤ y1 * B + y0 from hu)
  rw [Nat.succ_mul] at this
  rw [Nat.mul_comm B]
  omega
theorem est_start {B u u1 y1 y0 : Nat} (h1 : u1 < B) (hy1 : B ≤ 2 * y1) (hy0 : y0 < B) (hu : u < y1 * B + y0) : Est B u u1 y1 y0 (u / y1) (u % y1) := by
  have hB : 0 < B := by omega
  have hp : 0 < y1 := by omega
  refine ⟨by rw [Nat.mul_comm]; exact Nat.div_add_mod u y1, ?_, ?_⟩
  · rw [Nat.le_div_iff_mul_le hp]
    have h2 := Nat.div_mul_le_self (u * B + u1) (y1 * B + y0)
    generalize (u * B + u1) / (y1 * B + y0) = d at *
    have e1 : d * (y1 * B + y0) = d * y1 * B + d * y0 := by rw [Nat.mul_add, Nat.mul_assoc]
    rw [e1] at h2
    rcases Nat.lt_or_ge u (d * y1) with h3 | h3
    · have h4 := Nat.mul_le_mul_right B (show u + 1 ≤ d * y1 from h3)
      rw [Nat.succ_mul] at h4
      omega
    · exact h3
  · have : u / y1 < B + 2 := by
      rw [Nat.div_lt_iff_lt_mul hp]
      have e1 : (B + 2) * y1 = y1 * B + 2 * y1 := by rw [Nat.add_mul, Nat.mul_comm B]
      omega
    omega
theorem est_less {B u u1 y1 y0 q r : Nat} (h : Est B u u1 y1 y0 q r) (h1 : u1 < B) (hu : u < y1 * B + y0) (ht : B ≤ q ∨ B * r + u1 < q * y0) : 1 ≤ q ∧ Est B u u1 y1 y0 (q - 1) (r + y1) := by
  have hd := est_digit h1 hu
  have hlt : (u * B + u1) / (y1 * B + y0) < q := by
    rcases ht with ht | ht
    · omega
    · rcases Nat.lt_or_ge ((u * B + u1) / (y1 * B + y0)) q with h' | h'
      · exact h'
      · have := (est_test (B := B) (u1 := u1) (y0 := y0) h.eq).2 ((est_true (by omega)).2 h')
        omega
  have h2 := h.eq
  have h5 := h.le
  have hge : (u * B + u1) / (y1 * B + y0) ≤ q - 1 := by
    generalize (u * B + u1) / (y1 * B + y0) = d at *
    omega
  have hq1 : 1 ≤ q := Nat.lt_of_le_of_lt (Nat.zero_le _) hlt
  refine ⟨hq1, ⟨?_, hge, by omega⟩⟩
  obtain ⟨k, rfl⟩ : ∃ k, q = k + 1 := ⟨q - 1, by omega⟩
  rw [Nat.add_sub_cancel]
  rw [Nat.succ_mul] at h2
  omega
theorem est_done {B u u1 y1 y0 q r : Nat} (h : Est B u u1 y1 y0 q r) (hy : 0 < y1 * B + y0) (ht : q * y0 ≤ B * r + u1) : q = (u * B + u1) / (y1 * B + y0) :=
  Nat.le_antisymm ((est_true hy).1 ((est_test h.eq).1 ht)) h.ge
theorem est_break {B u u1 y1 y0 q r : Nat} (h : Est B u u1 y1 y0 q r) (hy : 0 < y1 * B + y0) (hy0 : y0 < B) (hr : B ≤ r) (hq : q ≤ B) : q = (u * B + u1) / (y1 * B + y0) := by
  refine est_done h hy ?_
  have h1 : q * y0 ≤ B * y0 := Nat.mul_le_mul_right _ hq
  have h3 : B * y0 ≤ B * B := Nat.mul_le_mul_left _ (by omega)
  have h2 : B * B ≤ B * r := Nat.mul_le_mul_left _ hr
  omega
theorem two_digits (B N1 n1 n0 Y : Nat) : ((N1 * B + n1) % Y * B + n0) % Y = ((N1 * B + n1) * B + n0) % Y := by
  rw [Nat.add_mod, Nat.mod_mul_mod, ← Nat.add_mod]
theorem scaled_rem (N y s : Nat) : (N * 2 ^ s) % (y * 2 ^ s) / 2 ^ s = N % y := by
  rw [Nat.mul_mod_mul_right, Nat.mul_div_cancel _ (Nat.pow_pos (by omega))]
end Go.Proofs.YtndmjfkmnjejkaaGreatDoor
/- Slices of numbers (byte strings): how they lie in memory, what an owned row reads as. -/
set_option linter.unusedVariables false
set_option linter.unusedSimpArgs false
namespace Go.Proofs.YtndmjfkmnjejkaaGreatDoor
open Go.RowKit
theorem addr_add (b o j : Nat) : (⟨b, o, none⟩ : Addr).add j = ⟨b, o + j, none⟩ := by unfold Addr.add; split <;> simp_all
def SlN (w : World) (A : Option Addr) (len cap : Nat) (l : List ByteArray) : Prop :=
  l.length = len ∧ len ≤ cap ∧ cap ≤ 9223372036854775807 ∧ ∃ b o, (0 < len → A = some ⟨b, o, none⟩) ∧ ∀ k s, l[k]? = some s → w.cell? ⟨b, o + k, none⟩ = some (.string s)
theorem SlN.kept {B : Nat} {w w' : World} (hb : Below B w w') (hB : w.heap.size ≤ B) {A : Option Addr} {len cap : Nat} {l : List ByteArray} (h : SlN w A len cap l) : SlN w' A len cap l :=
  let ⟨h1, h2, h3, b, o, h4, h5⟩ := h
  ⟨h1, h2, h3, b, o, h4, fun k e hk => cell_kept hb hB (h5 k e hk)⟩
theorem SlN.head {w : World} {A : Option Addr} {len cap : Nat} {l : List ByteArray} (h : SlN w A len cap l) (h0 : 0 < len) : ∃ b o, A = some ⟨b, o, none⟩ :=
  let ⟨_, _, _, b, o, h4, _⟩ := h
  ⟨b, o, h4 h0⟩
theorem SlN.get? {w : World} {b o len cap : Nat} {l : List ByteArray} (h : SlN w (some ⟨b, o, none⟩) len cap l) (k : Nat) {s : ByteArray} (hk : l[k]? = some s) : w.cell? ⟨b, o + k, none⟩ = some (.string s) := by
  obtain ⟨h1, h2, h3, b', o', h4, h5⟩ := h
  have hl := (List.getElem?_eq_some_iff.1 hk).1
  have := h4 (by omega)
  simp only [Option.some.injEq, Addr.mk.injEq, and_true] at this
  obtain ⟨rfl, rfl⟩ := this
  exact h5 k s hk
theorem SlN.cells {w : World} {ad : Addr} {len cap : Nat} {l : List ByteArray} (h : SlN w (some ad) len cap l) : ∀ j u, (l.map Value.string)[j]? = some u → w.cell? (ad.add j) = some u := by
  intro j u hj
  rw [List.getElem?_map, Option.map_eq_some_iff] at hj
  obtain ⟨s, hs, rfl⟩ := hj
  have hlt := (List.getElem?_eq_some_iff.1 hs).1
  obtain ⟨b, o, e⟩ := h.head (by have := h.1; omega)
  cases e
  rw [addr_add]
  exact h.get? j hs
theorem SlN.of_owns {w : World} {base : Nat} {T : TypeId} {v : Value} {n : Nat} {l : List ByteArray} (h : w.ownsRow base T 1 v n (l.map Value.string)) : l.length = n ∧ ∃ A cap, v = .slice A n cap ∧ SlN w A n cap l := by
  have hl := h.1
  rw [List.length_map] at hl
  have hln : l.length = n := by omega
  refine ⟨hln, ?_⟩
  rcases h.2 with ⟨hv, h0⟩ | ⟨g, cap, cur, hv, hb, hh, hc, hm, hs, ht⟩
  · subst h0
    have : l = [] := List.length_eq_zero_iff.1 hln
    subst this
    exact ⟨none, 0, hv, rfl, Nat.le_refl _, by omega, 0, 0, fun h => by omega, fun k e h => by simp at h⟩
  · refine ⟨_, cap, hv, hln, hc, by unfold maxLen at hm; exact hm, g, 0, fun _ => rfl, fun k s hk => ?_⟩
    have hcell := h.cells (g := g) (by rw [hv]; rfl) k (.string s) (by rw [List.getElem?_map, hk]; rfl)
    rw [addr_add] at hcell
    exact hcell
theorem SlN.nil (w : World) (cap : Nat) (h : cap ≤ 9223372036854775807) (A : Option Addr) : SlN w A 0 cap [] := ⟨rfl, Nat.zero_le _, h, 0, 0, fun h => by omega, fun k e h => by simp at h⟩
theorem strs_one (l : List ByteArray) : ∀ u ∈ l.map Value.string, u.oneCell' = true := by
  intro u h
  obtain ⟨s, _, rfl⟩ := List.mem_map.1 h
  rfl
theorem nat_info : (Tryz.prog.info? 22).map (fun i => (i.zero, i.size, i.bytes)) = some (some (.string ⟨#[]⟩), 1, 16) := by kernel_rfl
theorem below_dN {B : Nat} {w0 w : World} (h : Below B w0 w) (q : Nat) : Below B w0 (w.drewN q) := h.trans ⟨rfl, rfl, rfl, Nat.le_refl _, fun _ _ => rfl⟩
theorem sln_alloc (w : World) (l : List ByteArray) (T : TypeId) (h : l.length ≤ 9223372036854775807 := by decide) : SlN (w.alloc (.cells (l.map Value.string).toArray T)) (some ⟨w.heap.size, 0, none⟩) l.length l.length l := by
  refine ⟨rfl, Nat.le_refl _, h, w.heap.size, 0, fun _ => rfl, fun k s hk => ?_⟩
  rw [World.cell?_alloc_at (hn := rfl), Nat.zero_add]
  simp [hk]
theorem own_alloc (w : World) (l : List ByteArray) (T : TypeId) (B : Nat) (hB : B ≤ w.heap.size) (h : l.length ≤ maxLen) : (w.alloc (.cells (l.map Value.string).toArray T)).ownsRow B T 1 (.slice (some ⟨w.heap.size, 0, none⟩) l.length l.length) l.length (l.map Value.string) :=
  ⟨by simp, .inr ⟨w.heap.size, l.length, _, rfl, hB, heap_alloc_new w _, Nat.le_refl _, h, by simp, by rw [Nat.mul_one]; exact List.take_of_length_le (by simp)⟩⟩
def RetB (B : Nat) (v : Value) (w : World) (e : Ending) (w' : World) : Prop := e = .returned v ∧ Below B w w'
end Go.Proofs.YtndmjfkmnjejkaaGreatDoor

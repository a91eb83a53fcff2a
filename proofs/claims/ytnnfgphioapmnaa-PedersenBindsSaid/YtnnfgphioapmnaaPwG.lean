/- Walks: dominoref02.DivMod, Mod. -/
import Derived.Test.YtnnfgphioapmnaaPwI
import Derived.Test.YtnnfgphioapmnaaGmu
set_option linter.unusedVariables false
set_option linter.unusedSimpArgs false
namespace Go.Proofs.Ytnnfgphioapmnaa
open Go.RowKit

theorem fitR_str (n : Nat) : ∃ s c, fitR n = .tuple #[.string s, c] := by
  unfold fitR
  split
  · exact ⟨_, _, rfl⟩
  · exact ⟨_, _, rfl⟩
theorem emod_of_pos {z : Int} {m : Nat} (hz : 0 ≤ z) : (z % m).toNat = z.natAbs % m := emod_pos hz
theorem emod_of_zero {z : Int} {m : Nat} (hr : z.natAbs % m = 0) : (z % m).toNat = 0 := by
  have h : (m : Int) ∣ z := Int.ofNat_dvd_left.2 (Nat.dvd_of_mod_eq_zero hr)
  rw [Int.emod_eq_zero_of_dvd h]; rfl
theorem emod_of_neg {z : Int} {m : Nat} (h0 : 0 < m) (hz : z < 0) (hr : 0 < z.natAbs % m) : (z % m).toNat = m - z.natAbs % m := by
  have hlt := Nat.mod_lt z.natAbs h0
  have e := Nat.div_add_mod z.natAbs m
  have e2 : ((m * (z.natAbs / m) + z.natAbs % m : Nat) : Int) = -z := by rw [e]; omega
  rw [Int.natCast_add, Int.natCast_mul] at e2
  have e3 : z = ((m - z.natAbs % m : Nat) : Int) + m * (-(z.natAbs / m : Nat) - 1) := by
    rw [Int.mul_sub, Int.mul_neg]
    omega
  have e4 : z % m = ((m - z.natAbs % m : Nat) : Int) := by
    conv => lhs; rw [e3]
    rw [Int.add_mul_emod_self_left]
    exact Int.emod_eq_of_lt (by omega) (by omega)
  rw [e4]; rfl

/-- What DivMod returns: a quotient, and the remainder. -/
def RetD (r : Nat) (w : World) (e : Ending) (w' : World) : Prop := ∃ b s, e = .returned (.tuple #[.agg #[.bool b, .string s], .string (nS r), .int .i64 0]) ∧ Below w.heap.size w w'
end Go.Proofs.Ytnnfgphioapmnaa
/- Walks: dominoref02.Mod; primegroup.Power, dominoref09.Power. -/
set_option linter.unusedVariables false
set_option linter.unusedSimpArgs false
namespace Go.Proofs.Ytnnfgphioapmnaa
open Go.RowKit


/-- What Power returns. -/
def powR (M O a : ByteArray) (b : Bool) (s : ByteArray) : Value :=
  if nvalid M = true ∧ nvalid O = true ∧ nvalid a = true ∧ zvalid b s = true then
    if hasG M O a = true then .tuple #[.string (nS (num a ^ (sg b (num s) % (num O : Int)).toNat % num M)), .int .i64 0] else .tuple #[.string ⟨#[]⟩, .int .i64 13]
  else .tuple #[.string ⟨#[]⟩, .int .i64 3]
theorem powR_bad {M O a s : ByteArray} {b : Bool} (h : ¬ (nvalid M = true ∧ nvalid O = true ∧ nvalid a = true ∧ zvalid b s = true)) : powR M O a b s = .tuple #[.string ⟨#[]⟩, .int .i64 3] := by unfold powR; rw [if_neg h]
theorem powR_out {M O a s : ByteArray} {b : Bool} (h : nvalid M = true ∧ nvalid O = true ∧ nvalid a = true ∧ zvalid b s = true) (h2 : ¬ (hasG M O a = true)) : powR M O a b s = .tuple #[.string ⟨#[]⟩, .int .i64 13] := by unfold powR; rw [if_pos h, if_neg h2]
theorem powR_in {M O a s : ByteArray} {b : Bool} (h : nvalid M = true ∧ nvalid O = true ∧ nvalid a = true ∧ zvalid b s = true) (h2 : hasG M O a = true) : powR M O a b s = .tuple #[.string (nS (num a ^ (sg b (num s) % (num O : Int)).toNat % num M)), .int .i64 0] := by unfold powR; rw [if_pos h, if_pos h2]
theorem sg_abs (b : Bool) (n : Nat) : (sg b n).natAbs = n := by
  unfold sg
  cases b
  · exact Int.natAbs_natCast n
  · simp
theorem zv_valid {b : Bool} {s : ByteArray} (h : zvalid b s = true) : nvalid s = true ∧ zV b s = intV (sg b (num s)) := by
  unfold zvalid at h
  rw [Bool.and_eq_true] at h
  refine ⟨h.1, ?_⟩
  have e := nS_num h.1
  rw [← intV_sg]
  rw [← e]
  have h2 := h.2
  cases b
  · rfl
  · cases hs : s.toList.isEmpty
    · rfl
    · rw [hs] at h2; cases h2

end Go.Proofs.Ytnnfgphioapmnaa

/- Walk: math/bits.TrailingZeros64. -/
import Derived.Test.YtcbjadaghpmejaaDoorNaC
set_option linter.unusedVariables false
set_option linter.unusedSimpArgs false
namespace Go.Proofs.YtcbjadaghpmejaaDoor
open Go.RowKit

/-- The table of math/bits. -/
def tzT : List Nat := [0, 1, 56, 2, 57, 49, 28, 3, 61, 58, 42, 50, 38, 29, 17, 4, 62, 47, 59, 36, 45, 43, 51, 22, 53, 39, 33, 30, 24, 18, 12, 5, 63, 55, 48, 27, 60, 41, 37, 16, 46, 35, 44, 21, 52, 32, 23, 11, 54, 26, 40, 15, 34, 20, 31, 10, 25, 14, 19, 9, 13, 8, 7, 6]
def tzN (i : Nat) : Nat := tzT.getD i 0
theorem tz_hit : ∀ k : Fin 64, tzN (2 ^ k.val * 285870213051353865 % 18446744073709551616 / 288230376151711744) = k.val := by decide +kernel
theorem tz_idx (k : Nat) : 2 ^ k * 285870213051353865 % 18446744073709551616 / 288230376151711744 < 64 := by
  have := Nat.mod_lt (2 ^ k * 285870213051353865) (show 0 < 18446744073709551616 by decide)
  omega
theorem low_bit (k j : Nat) (h : 2 ^ (k + 1) * j + 2 ^ k < 2 ^ 64) : (2 ^ (k + 1) * j + 2 ^ k) &&& (2 ^ 64 - (2 ^ (k + 1) * j + 2 ^ k)) = 2 ^ k := by
  have hp : 0 < 2 ^ k := Nat.two_pow_pos k
  have h2 : 2 ^ k < 2 ^ (k + 1) := by rw [Nat.pow_succ]; omega
  obtain ⟨z, hz⟩ : ∃ z, z = 2 ^ (k + 1) * j + (2 ^ k - 1) := ⟨_, rfl⟩
  have hx : 2 ^ (k + 1) * j + 2 ^ k = z + 1 := by omega
  have hk : k < 64 := by
    rcases Nat.lt_or_ge k 64 with a | a
    · exact a
    · have b : 2 ^ 64 ≤ 2 ^ k := Nat.pow_le_pow_right (by decide) a
      omega
  apply Nat.eq_of_testBit_eq
  intro i
  rw [Nat.testBit_and]
  rw [show 2 ^ 64 - (2 ^ (k + 1) * j + 2 ^ k) = 2 ^ 64 - (z + 1) by rw [hx]]
  rw [Nat.testBit_two_pow_sub_succ (by omega), Nat.testBit_two_pow]
  rw [Nat.testBit_two_pow_mul_add j h2, hz, Nat.testBit_two_pow_mul_add j (by omega)]
  by_cases h1 : i < k + 1
  · rw [if_pos h1, if_pos h1, Nat.testBit_two_pow, Nat.testBit_two_pow_sub_one]
    by_cases h3 : k = i
    · subst h3
      simp [hk]
    · have : i < k := by omega
      simp [this]
      omega
  · rw [if_neg h1, if_neg h1]
    have : ¬ (k = i) := by omega
    rw [decide_eq_false this]
    cases j.testBit (i - (k + 1)) <;> simp

/-- The table lies in its variable. -/
def TabAt (w : World) : Prop := ∀ i, i < 64 → w.cell? ⟨0, i, none⟩ = some (.int .u8 (tzN i))
theorem TabAt.kept {B : Nat} {w w' : World} (h : TabAt w) (hb : Below B w w') (hB : w.heap.size ≤ B) : TabAt w' := fun i hi => cell_kept hb hB (h i hi)
theorem u64_mod (z : Int) : IntKind.u64.wrap z = z % 18446744073709551616 := by simp [IntKind.wrap, IntKind.bits, IntKind.signed]
set_option maxRecDepth 100000 in
set_option maxHeartbeats 1000000 in
theorem bits_tz (k j : Nat) (h : 2 ^ (k + 1) * j + 2 ^ k < 18446744073709551616) (w : World) (ht : TabAt w) : Calls Tryd.prog 57 #[.int .u64 ((2 ^ (k + 1) * j + 2 ^ k : Nat) : Int)] w (RetQ (.int .i64 k) w) := by
  have hk : k < 64 := by
    rcases Nat.lt_or_ge k 64 with a | a
    · exact a
    · have b : 2 ^ 64 ≤ 2 ^ k := Nat.pow_le_pow_right (by decide) a
      omega
  have hp : 0 < 2 ^ k := Nat.two_pow_pos k
  have hlow := low_bit k j h
  obtain ⟨x, hx⟩ : ∃ x, 2 ^ (k + 1) * j + 2 ^ k = x := ⟨_, rfl⟩
  rw [hx] at hlow h ⊢
  have hx0 : 0 < x := by omega
  have en : IntKind.u64.wrap (-(x : Int)) = ((2 ^ 64 - x : Nat) : Int) := by
    have e : -(x : Int) = ((2 ^ 64 - x : Nat) : Int) + (-1) * 18446744073709551616 := by omega
    rw [u64_mod]
    omega
  have ea := bits_and_u64_nat x (2 ^ 64 - x) (by omega) (by omega)
  rw [hlow] at ea
  obtain ⟨y, hy⟩ : ∃ y, 2 ^ 64 - x = y := ⟨_, rfl⟩
  rw [hy] at en ea
  have hit := tz_hit ⟨k, hk⟩
  simp only [] at hit
  have hidx := tz_idx k
  obtain ⟨b, hb⟩ : ∃ b, 2 ^ k = b := ⟨_, rfl⟩
  rw [hb] at hit hidx ea
  have em : IntKind.u64.wrap ((b : Int) * 285870213051353865) = ((b * 285870213051353865 % 18446744073709551616 : Nat) : Int) := by
    have e : (b : Int) * 285870213051353865 = ((b * 285870213051353865 : Nat) : Int) := by omega
    rw [e, u64_mod]
    rfl
  obtain ⟨c, hc⟩ : ∃ c, b * 285870213051353865 % 18446744073709551616 = c := ⟨_, rfl⟩
  rw [hc] at em hit hidx
  have hx1 : ((x : Int) == 0) = false := beq_eq_false_iff_ne.2 (by omega)
  have ht2 := ht _ hidx
  rw [hit] at ht2
  clear hc hb hy hlow hx h hp hx0 ht hit
  go_enter Tryd.func57, Tryd.ntmps57
  go_wp2
  go_ret
  exact ⟨rfl, rfl⟩
end Go.Proofs.YtcbjadaghpmejaaDoor

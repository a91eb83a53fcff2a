/- The laws of a group: what the calls of PrimegroupLaws return. -/
import Derived.Test.YtcbjadaghpmejaaDoorPwG
set_option linter.unusedVariables false
set_option linter.unusedSimpArgs false
namespace Go.Proofs.YtcbjadaghpmejaaDoor
open Go.RowKit

/-- A member, by its number. -/
structure InG (m q x : Nat) : Prop where
  pos : 0 < x
  lt : x < m
  pw : x ^ q % m = 1
theorem InG.one_lt {m q x : Nat} (h : InG m q x) : 1 < m := by have := h.pos; have := h.lt; omega
theorem InG.of_pw {m q x : Nat} (hm : 1 < m) (hq : 0 < q) (hx : x < m) (h : x ^ q % m = 1) : InG m q x := by
  refine ⟨?_, hx, h⟩
  rcases Nat.eq_zero_or_pos x with e | e
  · rw [e, Nat.zero_pow hq, Nat.zero_mod] at h
    omega
  · exact e
theorem InG.mul {m q x y : Nat} (hq : 0 < q) (h : InG m q x) (k : InG m q y) : InG m q (x * y % m) := by
  refine InG.of_pw h.one_lt hq (Nat.mod_lt _ (by have := h.one_lt; omega)) ?_
  rw [← Nat.pow_mod, Nat.mul_pow, Nat.mul_mod, h.pw, k.pw]
  exact Nat.mod_eq_of_lt h.one_lt
theorem InG.pow {m q x : Nat} (hq : 0 < q) (h : InG m q x) (k : Nat) : InG m q (x ^ k % m) := by
  refine InG.of_pw h.one_lt hq (Nat.mod_lt _ (by have := h.one_lt; omega)) ?_
  rw [← Nat.pow_mod, ← Nat.pow_mul, Nat.mul_comm, Nat.pow_mul, Nat.pow_mod, h.pw, Nat.one_pow]
  exact Nat.mod_eq_of_lt h.one_lt
theorem InG.of {M O e : ByteArray} (h : hasG M O e = true) : InG (num M) (num O) (num e) := by
  have h1 : hasP M O e := of_decide_eq_true h
  exact ⟨h1.2.2.2.2.1, h1.2.2.2.2.2.1, h1.2.2.2.2.2.2⟩
theorem has_of {M O e : ByteArray} {x : Nat} (h : hasG M O e = true) (hM : M.size ≤ 8) (hx : InG (num M) (num O) x) : hasG M O (nS x) = true := by
  have h1 : hasP M O e := of_decide_eq_true h
  refine decide_eq_true ?_
  refine ⟨h1.1, h1.2.1, nS_valid_small (Nat.lt_trans hx.lt (num_small hM)), h1.2.2.2.1, ?_, ?_, ?_⟩
  · rw [num_nS]; exact hx.pos
  · rw [num_nS]; exact hx.lt
  · rw [num_nS]; exact hx.pw
theorem nS_size20 {n : Nat} {k : Nat} (hn : n < 256 ^ k) : (nS n).size ≤ k := nS_size_le.2 hn
theorem sg_int (z : Int) : sg (decide (z < 0)) z.natAbs = z := by
  unfold sg
  by_cases h : z < 0
  · rw [decide_eq_true h]; simp; omega
  · rw [decide_eq_false h]; simp; omega
/-- A product in the group. -/
theorem mul_call {M O a b : ByteArray} (hM : M.size ≤ 8) (hO : O.size ≤ 1000) (ha : hasG M O a = true) (hb : hasG M O b = true) (w : World) : Calls Tryd.prog 12 #[gV M O, .string a, .string b] w (Ret (.tuple #[.string (nS (num a * num b % num M)), .int .i64 0]) w) := by
  have h1 : hasP M O a := of_decide_eq_true ha
  have h2 : hasP M O b := of_decide_eq_true hb
  have z1 : a.size ≤ 1000 := by have := h1.2.2.1; unfold nvalid at this; simp at this; omega
  have z2 : b.size ≤ 1000 := by have := h2.2.2.1; unfold nvalid at this; simp at this; omega
  have := pg_Mul M O a b hM hO z1 z2 w
  rw [mulR_in ⟨h1.1, h1.2.1, h1.2.2.1, h2.2.2.1⟩ ⟨ha, hb⟩] at this
  exact this
/-- A power in the group. -/
theorem pow_call {M O a : ByteArray} (z : Int) (hz : z.natAbs < 256 ^ 128) (hM : M.size ≤ 8) (hO : O.size ≤ 1000) (ha : hasG M O a = true) (w : World) : Calls Tryd.prog 13 #[gV M O, .string a, intV z] w (Ret (.tuple #[.string (nS (num a ^ (z % (num O : Int)).toNat % num M)), .int .i64 0]) w) := by
  have h1 : hasP M O a := of_decide_eq_true ha
  have z1 : a.size ≤ 1000 := by have := h1.2.2.1; unfold nvalid at this; simp at this; omega
  have z2 : (nS z.natAbs).size ≤ 1000 := by have := nS_size_le.2 hz; omega
  have := pg_Power M O a (decide (z < 0)) (nS z.natAbs) hM hO z1 z2 w
  rw [powR_in ⟨h1.1, h1.2.1, h1.2.2.1, zvalid_int hz⟩ ha, num_nS, sg_int] at this
  exact this
theorem exp_sum {a m q : Nat} (h : a ^ q % m = 1) (hq : 0 < q) (d e : Int) : a ^ (d % (q : Int)).toNat % m * (a ^ (e % (q : Int)).toNat % m) % m = a ^ ((d + e) % (q : Int)).toNat % m := by
  rw [← Nat.mul_mod, ← Nat.pow_add, pw_red h]
  congr 2
  have h1 := Int.emod_nonneg d (show (q : Int) ≠ 0 by omega)
  have h2 := Int.emod_nonneg e (show (q : Int) ≠ 0 by omega)
  have h3 := Int.emod_nonneg (d + e) (show (q : Int) ≠ 0 by omega)
  have h4 : ((((d % q).toNat + (e % q).toNat) % q : Nat) : Int) = (d + e) % q := by
    rw [Int.natCast_emod, Int.natCast_add, Int.toNat_of_nonneg h1, Int.toNat_of_nonneg h2, ← Int.add_emod]
  omega
theorem pow_prod (a b m k : Nat) : a ^ k % m * (b ^ k % m) % m = (a * b % m) ^ k % m := by
  rw [← Nat.mul_mod, ← Nat.mul_pow, ← Nat.pow_mod]

/-- What the calls of the law return. -/
theorem laws_facts (M O A B : ByteArray) (d e : Int) (hd : d.natAbs < 256 ^ 100) (he : e.natAbs < 256 ^ 100) (hM : M.size ≤ 8) (hO : O.size ≤ 1000) (ha : hasG M O A = true) (hb : hasG M O B = true) :
    ∃ AB P Q R BO OT : ByteArray,
      (∀ w, Calls Tryd.prog 12 #[gV M O, .string A, .string B] w (Ret (.tuple #[.string AB, .int .i64 0]) w)) ∧
      (∀ w, Calls Tryd.prog 12 #[gV M O, .string B, .string A] w (Ret (.tuple #[.string AB, .int .i64 0]) w)) ∧
      (∀ w, Calls Tryd.prog 13 #[gV M O, .string A, intV d] w (Ret (.tuple #[.string P, .int .i64 0]) w)) ∧
      (∀ w, Calls Tryd.prog 13 #[gV M O, .string A, intV e] w (Ret (.tuple #[.string Q, .int .i64 0]) w)) ∧
      (∀ w, Calls Tryd.prog 14 #[intV d, intV e] w (Ret (.tuple #[intV (d + e), .int .i64 0]) w)) ∧
      (∀ w, Calls Tryd.prog 13 #[gV M O, .string A, intV (d + e)] w (Ret (.tuple #[.string R, .int .i64 0]) w)) ∧
      (∀ w, Calls Tryd.prog 12 #[gV M O, .string P, .string Q] w (Ret (.tuple #[.string R, .int .i64 0]) w)) ∧
      (∀ w, Calls Tryd.prog 15 #[.string O] w (Ret (intV (num O)) w)) ∧
      (∀ w, Calls Tryd.prog 13 #[gV M O, .string AB, intV (num O)] w (Ret (.tuple #[.string ⟨#[1]⟩, .int .i64 0]) w)) ∧
      (∀ w, Calls Tryd.prog 13 #[gV M O, .string AB, intV d] w (Ret (.tuple #[.string BO, .int .i64 0]) w)) ∧
      (∀ w, Calls Tryd.prog 13 #[gV M O, .string B, intV d] w (Ret (.tuple #[.string OT, .int .i64 0]) w)) ∧
      (∀ w, Calls Tryd.prog 12 #[gV M O, .string P, .string OT] w (Ret (.tuple #[.string BO, .int .i64 0]) w)) ∧
      (∀ w, Calls Tryd.prog 11 #[gV M O, .string AB] w (Ret (.bool true) w)) := by
  have pa : hasP M O A := of_decide_eq_true ha
  have hq : 0 < num O := pa.2.2.2.1
  have ga := InG.of ha
  have gb := InG.of hb
  have gab := ga.mul hq gb
  have hab := has_of ha hM gab
  have hP := has_of ha hM (ga.pow hq (d % (num O : Int)).toNat)
  have hQ := has_of ha hM (ga.pow hq (e % (num O : Int)).toNat)
  have hOT := has_of ha hM (gb.pow hq (d % (num O : Int)).toNat)
  have ho : num O < 256 ^ 128 := num_lt (by have := pa.2.1; unfold nvalid at this; simp at this; exact this.1)
  have hd1 := lt128_h hd
  have he1 := lt128_h he
  have hde : (d + e).natAbs < 256 ^ 128 := Nat.lt_of_le_of_lt (Int.natAbs_add_le d e) (sum_h hd he)
  have hz : (nS (num A * num B % num M)).size ≤ 1000 := by have := nS_small_size (Nat.lt_trans gab.lt (num_small hM)); omega
  refine ⟨nS (num A * num B % num M), nS (num A ^ (d % (num O : Int)).toNat % num M), nS (num A ^ (e % (num O : Int)).toNat % num M), nS (num A ^ ((d + e) % (num O : Int)).toNat % num M), nS ((num A * num B % num M) ^ (d % (num O : Int)).toNat % num M), nS (num B ^ (d % (num O : Int)).toNat % num M), ?_, ?_, ?_, ?_, ?_, ?_, ?_, ?_, ?_, ?_, ?_, ?_, ?_⟩
  · exact fun w => mul_call hM hO ha hb w
  · intro w
    rw [Nat.mul_comm]
    exact mul_call hM hO hb ha w
  · exact fun w => pow_call d hd1 hM hO ha w
  · exact fun w => pow_call e he1 hM hO ha w
  · exact fun w => int_AddH d e hd he w
  · exact fun w => pow_call (d + e) hde hM hO ha w
  · intro w
    have := mul_call hM hO hP hQ w
    rw [num_nS, num_nS, exp_sum ga.pw hq] at this
    exact this
  · intro w
    have := int_From (num O) ho w
    rw [← nS_num pa.2.1] at this
    exact this
  · intro w
    have := pow_call (num O : Int) (by rw [Int.natAbs_natCast]; exact ho) hM hO hab w
    rw [Int.emod_self, show (0 : Int).toNat = 0 from rfl, Nat.pow_zero, Nat.mod_eq_of_lt ga.one_lt, nS_one] at this
    exact this
  · intro w
    have := pow_call d hd1 hM hO hab w
    rw [num_nS] at this
    exact this
  · exact fun w => pow_call d hd1 hM hO hb w
  · intro w
    have := mul_call hM hO hP hOT w
    rw [num_nS, num_nS, pow_prod] at this
    exact this
  · intro w
    have := pg_Has M O (nS (num A * num B % num M)) hM hO hz w
    rw [hab] at this
    exact this
end Go.Proofs.YtcbjadaghpmejaaDoor

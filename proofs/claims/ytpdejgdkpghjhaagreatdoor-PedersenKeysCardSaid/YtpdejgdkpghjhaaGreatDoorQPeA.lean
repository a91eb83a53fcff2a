/- Plain laws of products of powers modulo a number. No program stands here. -/
import Derived.Test.YtpdejgdkpghjhaaGreatDoorQExW
import Derived.Test.YtpdejgdkpghjhaaGreatDoorQOvr
import Derived.Test.YtpdejgdkpghjhaaGreatDoorQPri
import Derived.Test.YtpdejgdkpghjhaaGreatDoorQNum
set_option linter.unusedVariables false
namespace Go.Proofs.YtpdejgdkpghjhaaGreatDoor

/-- The inverse of x modulo M. -/
def invN (x M : Nat) : Nat := ((List.range M).find? (fun y => decide (x * y % M = 1))).getD 0
theorem inv_uniq {x M y z : Nat} (hy : y < M) (hz : z < M) (h1 : x * y % M = 1) (h2 : x * z % M = 1) : y = z := by
  have e1 : x * y * z % M = z := by
    rw [Nat.mul_mod, h1, Nat.one_mul, Nat.mod_mod, Nat.mod_eq_of_lt hz]
  have e2 : x * y * z = x * z * y := by rw [Nat.mul_assoc, Nat.mul_comm y z, ← Nat.mul_assoc]
  rw [e2, Nat.mul_mod, h2, Nat.one_mul, Nat.mod_mod, Nat.mod_eq_of_lt hy] at e1
  exact e1
theorem invN_of {x M y : Nat} (hy : y < M) (h : x * y % M = 1) : invN x M = y := by
  unfold invN
  cases hf : (List.range M).find? (fun y => decide (x * y % M = 1)) with
  | none =>
    rw [List.find?_eq_none] at hf
    have := hf y (List.mem_range.2 hy)
    simp [h] at this
  | some z =>
    have h1 := List.find?_some hf
    have h2 := List.mem_range.1 (List.mem_of_find?_eq_some hf)
    simp only [decide_eq_true_eq] at h1
    exact inv_uniq h2 hy h1 h

/-- The product of the powers with the exponents' digits from number k on. -/
def pp : List (Nat × Nat) → Nat → Nat
  | [], _ => 1
  | (b, n) :: l, k => b ^ (n / 2 ^ k) * pp l k
/-- The product of the bases whose exponents have the digit k. -/
def qq : List (Nat × Nat) → Nat → Nat
  | [], _ => 1
  | (b, n) :: l, k => (if bitB n k then b else 1) * qq l k
theorem bit_div (n k : Nat) : n / 2 ^ k = 2 * (n / 2 ^ (k + 1)) + (if bitB n k then 1 else 0) := by
  unfold bitB
  rw [Nat.pow_succ, ← Nat.div_div_eq_div_mul]
  have := Nat.mod_two_eq_zero_or_one (n / 2 ^ k)
  rcases this with h | h <;> rw [h] <;> simp <;> omega
theorem pp_step (l : List (Nat × Nat)) (k : Nat) : pp l k = pp l (k + 1) * pp l (k + 1) * qq l k := by
  induction l with
  | nil => rfl
  | cons a l ih =>
    obtain ⟨b, n⟩ := a
    have e : b ^ (n / 2 ^ k) = b ^ (n / 2 ^ (k + 1)) * b ^ (n / 2 ^ (k + 1)) * (if bitB n k then b else 1) := by
      conv => lhs; rw [bit_div n k]
      rw [Nat.pow_add, Nat.pow_mul, Nat.pow_two, Nat.mul_pow]
      split <;> simp
    simp only [pp, qq, e, ih]
    simp only [Nat.mul_assoc, Nat.mul_left_comm, Nat.mul_comm]
theorem qq_snoc (l : List (Nat × Nat)) (b n k : Nat) : qq (l ++ [(b, n)]) k = qq l k * (if bitB n k then b else 1) := by
  induction l with
  | nil => simp [qq]
  | cons a l ih => obtain ⟨c, m⟩ := a; simp only [List.cons_append, qq, ih, Nat.mul_assoc]
theorem qq_take {l : List (Nat × Nat)} {j b n : Nat} (h : l[j]? = some (b, n)) (k : Nat) : qq (l.take (j + 1)) k = qq (l.take j) k * (if bitB n k then b else 1) := by
  rw [show l.take (j + 1) = l.take j ++ [(b, n)] from by
    obtain ⟨h1, h2⟩ := List.getElem?_eq_some_iff.1 h
    rw [List.take_succ_eq_append_getElem h1, h2], qq_snoc]
theorem pp_one {l : List (Nat × Nat)} {k : Nat} (h : ∀ x ∈ l, x.2 < 2 ^ k) : pp l k = 1 := by
  induction l with
  | nil => rfl
  | cons a l ih =>
    obtain ⟨b, n⟩ := a
    have := h (b, n) List.mem_cons_self
    rw [pp, ih (fun x hx => h x (List.mem_cons_of_mem _ hx)), Nat.div_eq_of_lt this]; rfl
theorem lt_of_blen {n k : Nat} (h : blen n ≤ k) : n < 2 ^ k := by
  unfold blen at h
  split at h
  · rename_i h0; subst h0; exact Nat.two_pow_pos k
  · rename_i h0
    exact Nat.lt_of_lt_of_le ((Nat.log2_lt h0).1 (Nat.lt_succ_self _)) (Nat.pow_le_pow_right (by omega) h)

/-- The base of a power with a sign. -/
def baseN (x : Nat) (neg : Bool) (M : Nat) : Nat := if neg then invN x M else x
end Go.Proofs.YtpdejgdkpghjhaaGreatDoor
/- Walks: natural.Gcd and dominoref01.Common of numbers below 2^64, rsagroup.Has. -/
set_option linter.unusedVariables false
set_option linter.unusedSimpArgs false
namespace Go.Proofs.YtpdejgdkpghjhaaGreatDoor
open Go.RowKit

/-- The number that a string holds. -/
def svN : Value → Nat
  | .string s => num s
  | _ => 0
theorem svN_nS (n : Nat) : svN (.string (nS n)) = n := num_nS n
theorem gcd_next {p q G : Nat} (h : Nat.gcd p q = G) : Nat.gcd q (p % q) = G := by rw [← h, Nat.gcd_comm p q, Nat.gcd_rec q p, Nat.gcd_comm]

set_option maxRecDepth 100000 in
set_option maxHeartbeats 1000000 in
theorem nat_Gcd (x y : Nat) (hx : x < 18446744073709551616) (hy : y < 18446744073709551616) (w : World) : Calls Tryz.prog 228 #[.string (nS x), .string (nS y)] w (Ret (.tuple #[.string (nS (Nat.gcd x y)), .int .i64 0]) w) := by
  have HV1 := Lib.hid (nat_Valid (nS x) (by have := nS_small_size hx; omega))
  have HV2 := Lib.hid (nat_Valid (nS y) (by have := nS_small_size hy; omega))
  rw [nvalid_nS.2 (lt128_of_lt8 hx)] at HV1
  rw [nvalid_nS.2 (lt128_of_lt8 hy)] at HV2
  have HX := Lib.hid hx
  have HY := Lib.hid hy
  have HD := Lib.hid (fun p q (hp : p < 18446744073709551616) (hq : q < 18446744073709551616) (h0 : 0 < q) => nat_divided p q hp (lt128_of_lt8 hq) h0)
  clear hx hy
  go_enter Tryz.func228, Tryz.ntmps228
  go_wp2_with fail
  refine (HV1.out _).mono ?_
  rintro e w1 ⟨rfl, rfl⟩
  go_wp2_with fail
  refine (HV2.out _).mono ?_
  rintro e w1 ⟨rfl, rfl⟩
  go_wp2
  go_loopw [0, 1] (fun a b wr => ∃ p q : Nat, a = .string (nS p) ∧ b = .string (nS q) ∧ p < 18446744073709551616 ∧ q < 18446744073709551616 ∧ Nat.gcd p q = Nat.gcd x y ∧ Below w.heap.size w wr) (fun _ b _ => svN b)
  case atStart => exact ⟨x, y, rfl, rfl, HX.out, HY.out, rfl, Below.refl _ _⟩
  case round =>
    obtain ⟨p, q, rfl, rfl, hp, hq, hg, hbw⟩ := hrel
    have HBW := Lib.hid hbw
    have HG := Lib.hid hg
    have HP := Lib.hid hp
    have HQ := Lib.hid hq
    clear hbw hg hp hq
    rcases Nat.eq_zero_or_pos q with h0 | h0
    · have HG0 := Lib.hid (show Nat.gcd x y = p from by rw [← HG.out, h0, Nat.gcd_zero_right])
      rw [h0, nS_zero]
      clear h0
      go_wp2
      go_ret2
      exact ⟨by rw [HG0.out]; rfl, HBW.out⟩
    · have hem := empty_nS h0
      have HML := Lib.hid (Nat.mod_lt p h0)
      have HDD := Lib.hid (HD.out p q HP.out HQ.out h0)
      clear h0
      go_wp2_with fail
      refine (HDD.out _).mono ?_
      rintro e w2 ⟨rfl, hb2⟩
      have HB2 := Lib.hid (HBW.out.trans (hb2.mono HBW.out.size))
      clear hb2
      go_wp2
      go_roundw
      case rel => exact ⟨q, p % q, rfl, rfl, HQ.out, Nat.lt_trans HML.out HQ.out, gcd_next HG.out, HB2.out⟩
      case measure => rw [svN_nS, svN_nS]; exact HML.out
set_option maxRecDepth 100000 in
set_option maxHeartbeats 1000000 in
theorem r01_Common (x y : Nat) (hx : x < 256 ^ 128) (hy : y < 256 ^ 128) (w : World) : Calls Tryz.prog 193 #[.string (nS x), .string (nS y)] w (Ret (.string (nS (Nat.gcd x y))) w) := by
  have HX := Lib.hid hx
  have HY := Lib.hid hy
  have HD := Lib.hid (fun p q (hp : p < 256 ^ 128) (hq : q < 256 ^ 128) (h0 : 0 < q) => r01_Over p q (Nat.le_trans (nS_size_le.2 hp) (by decide)) (Nat.le_trans (nS_size_le.2 hq) (by decide)) h0)
  clear hx hy
  go_enter Tryz.func193, Tryz.ntmps193
  go_wp2
  go_loopw [0, 1] (fun a b wr => ∃ p q : Nat, a = .string (nS p) ∧ b = .string (nS q) ∧ p < 256 ^ 128 ∧ q < 256 ^ 128 ∧ Nat.gcd p q = Nat.gcd x y ∧ Below w.heap.size w wr) (fun _ b _ => svN b)
  case atStart => exact ⟨x, y, rfl, rfl, HX.out, HY.out, rfl, Below.refl _ _⟩
  case round =>
    obtain ⟨p, q, rfl, rfl, hp, hq, hg, hbw⟩ := hrel
    have HBW := Lib.hid hbw
    have HG := Lib.hid hg
    have HP := Lib.hid hp
    have HQ := Lib.hid hq
    clear hbw hg hp hq
    rcases Nat.eq_zero_or_pos q with h0 | h0
    · have HG0 := Lib.hid (show Nat.gcd x y = p from by rw [← HG.out, h0, Nat.gcd_zero_right])
      rw [h0, nS_zero]
      clear h0
      go_wp2
      go_ret
      exact ⟨by rw [HG0.out]; rfl, HBW.out⟩
    · have hem := empty_nS h0
      have HML := Lib.hid (Nat.mod_lt p h0)
      have HDD := Lib.hid (HD.out p q HP.out HQ.out h0)
      clear h0
      go_wp2_with fail
      refine (HDD.out _).mono ?_
      rintro e w2 ⟨rfl, hb2⟩
      have HB2 := Lib.hid (HBW.out.trans (hb2.mono HBW.out.size))
      clear hb2
      go_wp2
      go_roundw
      case rel => exact ⟨q, p % q, rfl, rfl, HQ.out, Nat.lt_trans HML.out HQ.out, gcd_next HG.out, HB2.out⟩
      case measure => rw [svN_nS, svN_nS]; exact HML.out
set_option maxRecDepth 100000 in
theorem rsa_one (w : World) : Calls Tryz.prog 229 #[] w (Ret (.string (nS 1)) w) := by
  go_enter Tryz.func229, Tryz.ntmps229
  go_wp2_with fail
  refine (nat_Of 1 (by decide) _).mono ?_
  rintro e w1 ⟨rfl, hb1⟩
  have HB1 := Lib.hid hb1
  clear hb1
  go_wp2
  go_ret
  exact ⟨rfl, HB1.out⟩
set_option maxRecDepth 100000 in
set_option maxHeartbeats 1000000 in
theorem rsa_good (m : Nat) (hm : m < 18446744073709551616) (hodd : bitB m 0 = true) (h8 : 8 < m) (w : World) : Calls Tryz.prog 227 #[gV (nS m) (nS 0)] w (Ret (.bool true) w) := by
  have HV := Lib.hid (nat_Valid (nS m) (by have := nS_small_size hm; omega))
  rw [nvalid_nS.2 (lt128_of_lt8 hm)] at HV
  have HBT := Lib.hid (nat_Bit m 0 (lt128_of_lt8 hm) (by omega))
  rw [hodd] at HBT
  have HCM := Lib.hid (nat_Cmp (nS m) (nS 8) (by have := nS_small_size hm; omega) (by decide))
  rw [ncmp_n (lt128_of_lt8 hm) (by decide), show cmpI m 8 = 1 from by unfold cmpI; rw [if_neg (by omega), if_pos h8]] at HCM
  have HO := Lib.hid (nat_Of 8 (by decide))
  rw [nS_zero]
  obtain ⟨s, hs⟩ : ∃ s, nS m = s := ⟨_, rfl⟩
  obtain ⟨t, ht⟩ : ∃ t, nS 8 = t := ⟨_, rfl⟩
  rw [hs] at HV HBT HCM ⊢
  rw [ht] at HCM
  have HO' := Lib.hid (fun w => show Calls Tryz.prog 53 #[.int .u64 (8 : Nat)] w (Ret (.string t) w) from by have := HO.out w; rw [show bstr (encN 8) = t from ht] at this; exact this)
  clear hs ht hm hodd h8 HO
  unfold gV
  go_enter Tryz.func227, Tryz.ntmps227
  have HX0 := Lib.hid (Bx2.new w (.string s) (.string ⟨#[]⟩) 24)
  have HB0 := Lib.hid ((Below.refl w.heap.size w).alloc (Nat.le_refl _) (.cells #[.string s, .string ⟨#[]⟩] 24))
  go_wp2
  obtain ⟨W0, hW0⟩ : ∃ W0, w.alloc (.cells #[.string s, .string ⟨#[]⟩] 24) = W0 := ⟨_, rfl⟩
  rw [hW0] at HX0 HB0
  try rw [hW0]
  have c0 : W0.drew.cell? ⟨w.heap.size, 0, none⟩ = some (.string s) := HX0.out.c0
  have c1 : W0.drew.cell? ⟨w.heap.size, 1, none⟩ = some (.string ⟨#[]⟩) := HX0.out.c1
  clear hW0
  rename_i K1 hK1
  refine wp_onlyN ?_
  refine wp_region_K 21 (Below (W0.drew).heap.size (W0.drew)) (by kernel_rfl) ?_
  intro hD
  refine wpAnyK_pureD (i := 0) (d := some 3) (v := ?v1_0b1) (fuel := 20) rfl (by kernel_rfl) (by kernel_rfl) (fun _ _ _ h => h) hD (Below.refl _ _) (.inl ⟨by kernel_rfl, ?y1_0b1⟩) ?n1_0b1
  case y1_0b1 => intro w' _; go_simp; with_reducible rfl
  clear hD; intro hD
  simp only [Act.put, List.setIfInBounds_toArray, List.set_cons_zero, List.set_cons_succ]
  refine wpAnyK_takeSD (i := 1) (d := some 4) (v := ?v1_1b1) (fuel := 19) rfl (by kernel_rfl) (by kernel_rfl) (by kernel_rfl) (fun _ _ _ h => h) hD (Below.refl _ _) (.inl ⟨by kernel_rfl, ?y1_1b1⟩) ?n1_1b1
  case y1_1b1 => intro w' hS'; have e0 := cell_kept hS' (Nat.le_refl _) c0; have e1 := cell_kept hS' (Nat.le_refl _) c1; go_simp; with_reducible rfl
  clear hD; intro hD
  simp only [Act.put, List.setIfInBounds_toArray, List.set_cons_zero, List.set_cons_succ]
  refine wpAnyK_one (i := 2) (fuel := 18) (by kernel_rfl) rfl hD ?_
  clear hD; intro K2 hK2
  go_wp2_with fail
  refine (HV.out _).mono ?_
  rintro e w2 ⟨rfl, rfl⟩
  have HB2 := Lib.hid (Below.refl W0.drew.heap.size W0.drew)
  go_wp2
  refine hK2 _ _ (by exact HB2.out) ?_; clear hK2; intro hS_1_2 hD
  refine wpAnyK_pureD (i := 3) (d := some 6) (v := ?v1_3b1) (fuel := 17) rfl (by kernel_rfl) (by kernel_rfl) (fun _ _ _ h => h) hD hS_1_2 (.inl ⟨by kernel_rfl, ?y1_3b1⟩) ?n1_3b1
  case y1_3b1 => intro w' _; go_simp; with_reducible rfl
  clear hD; intro hD
  simp only [Act.put, List.setIfInBounds_toArray, List.set_cons_zero, List.set_cons_succ]
  refine wpAnyK_pureD (i := 4) (d := some 7) (v := ?v1_4b1) (fuel := 16) rfl (by kernel_rfl) (by kernel_rfl) (fun _ _ _ h => h) hD hS_1_2 (.inl ⟨by kernel_rfl, ?y1_4b1⟩) ?n1_4b1
  case y1_4b1 => intro w' _; go_simp; with_reducible rfl
  clear hD; intro hD
  simp only [Act.put, List.setIfInBounds_toArray, List.set_cons_zero, List.set_cons_succ]
  refine wpAnyK_takeSD (i := 5) (d := some 8) (v := ?v1_5b1) (fuel := 15) rfl (by kernel_rfl) (by kernel_rfl) (by kernel_rfl) (fun _ _ _ h => h) hD hS_1_2 (.inl ⟨by kernel_rfl, ?y1_5b1⟩) ?n1_5b1
  case y1_5b1 => intro w' hS'; have e0 := cell_kept hS' (Nat.le_refl _) c0; have e1 := cell_kept hS' (Nat.le_refl _) c1; go_simp; with_reducible rfl
  clear hD; intro hD
  simp only [Act.put, List.setIfInBounds_toArray, List.set_cons_zero, List.set_cons_succ]
  refine wpAnyK_pureD (i := 6) (d := some 9) (v := ?v1_6b1) (fuel := 14) rfl (by kernel_rfl) (by kernel_rfl) (fun _ _ _ h => h) hD hS_1_2 (.inl ⟨by kernel_rfl, ?y1_6b1⟩) ?n1_6b1
  case y1_6b1 => intro w' _; go_simp; with_reducible rfl
  clear hD; intro hD
  simp only [Act.put, List.setIfInBounds_toArray, List.set_cons_zero, List.set_cons_succ]
  refine wpAnyK_pureD (i := 7) (d := some 10) (v := ?v1_7b1) (fuel := 13) rfl (by kernel_rfl) (by kernel_rfl) (fun _ _ _ h => h) hD hS_1_2 (.inl ⟨by kernel_rfl, ?y1_7b1⟩) ?n1_7b1
  case y1_7b1 => intro w' _; go_simp; with_reducible rfl
  clear hD; intro hD
  simp only [Act.put, List.setIfInBounds_toArray, List.set_cons_zero, List.set_cons_succ]
  refine wpAnyK_pureD (i := 8) (d := some 11) (v := ?v1_8b1) (fuel := 12) rfl (by kernel_rfl) (by kernel_rfl) (fun _ _ _ h => h) hD hS_1_2 (.inl ⟨by kernel_rfl, ?y1_8b1⟩) ?n1_8b1
  case y1_8b1 => intro w' _; go_simp; with_reducible rfl
  clear hD; intro hD
  simp only [Act.put, List.setIfInBounds_toArray, List.set_cons_zero, List.set_cons_succ]
  refine wpAnyK_pureD (i := 9) (d := some 12) (v := ?v1_9b1) (fuel := 11) rfl (by kernel_rfl) (by kernel_rfl) (fun _ _ _ h => h) hD hS_1_2 (.inl ⟨by kernel_rfl, ?y1_9b1⟩) ?n1_9b1
  case y1_9b1 => intro w' _; go_simp; with_reducible rfl
  clear hD; intro hD
  simp only [Act.put, List.setIfInBounds_toArray, List.set_cons_zero, List.set_cons_succ]
  refine wpAnyK_takeSD (i := 10) (d := some 13) (v := ?v1_10b1) (fuel := 10) rfl (by kernel_rfl) (by kernel_rfl) (by kernel_rfl) (fun _ _ _ h => h) hD hS_1_2 (.inl ⟨by kernel_rfl, ?y1_10b1⟩) ?n1_10b1
  case y1_10b1 => intro w' hS'; have e0 := cell_kept hS' (Nat.le_refl _) c0; have e1 := cell_kept hS' (Nat.le_refl _) c1; go_simp; with_reducible rfl
  clear hD; intro hD
  simp only [Act.put, List.setIfInBounds_toArray, List.set_cons_zero, List.set_cons_succ]
  refine wpAnyK_one (i := 11) (fuel := 9) (by kernel_rfl) rfl hD ?_
  clear hD; intro K11 hK11
  go_wp2_with fail
  refine (HBT.out _).mono ?_
  rintro e w2 ⟨rfl, rfl⟩
  have HB11 := Lib.hid (Below.refl W0.drew.heap.size W0.drew)
  go_wp2
  refine hK11 _ _ (by exact Below.trans hS_1_2 (Below.mono HB11.out (Below.size hS_1_2))) ?_; clear hK11; intro hS_1_11 hD
  refine wpAnyK_pureD (i := 12) (d := some 15) (v := ?v1_12b1) (fuel := 8) rfl (by kernel_rfl) (by kernel_rfl) (fun _ _ _ h => h) hD hS_1_11 (.inl ⟨by kernel_rfl, ?y1_12b1⟩) ?n1_12b1
  case y1_12b1 => intro w' _; go_simp; with_reducible rfl
  clear hD; intro hD
  simp only [Act.put, List.setIfInBounds_toArray, List.set_cons_zero, List.set_cons_succ]
  refine wpAnyK_pureD (i := 13) (d := some 16) (v := ?v1_13b1) (fuel := 7) rfl (by kernel_rfl) (by kernel_rfl) (fun _ _ _ h => h) hD hS_1_11 (.inl ⟨by kernel_rfl, ?y1_13b1⟩) ?n1_13b1
  case y1_13b1 => intro w' _; go_simp; with_reducible rfl
  clear hD; intro hD
  simp only [Act.put, List.setIfInBounds_toArray, List.set_cons_zero, List.set_cons_succ]
  refine wpAnyK_pureD (i := 14) (d := some 17) (v := ?v1_14b1) (fuel := 6) rfl (by kernel_rfl) (by kernel_rfl) (fun _ _ _ h => h) hD hS_1_11 (.inl ⟨by kernel_rfl, ?y1_14b1⟩) ?n1_14b1
  case y1_14b1 => intro w' _; go_simp; with_reducible rfl
  clear hD; intro hD
  simp only [Act.put, List.setIfInBounds_toArray, List.set_cons_zero, List.set_cons_succ]
  refine wpAnyK_takeSD (i := 15) (d := some 18) (v := ?v1_15b1) (fuel := 5) rfl (by kernel_rfl) (by kernel_rfl) (by kernel_rfl) (fun _ _ _ h => h) hD hS_1_11 (.inl ⟨by kernel_rfl, ?y1_15b1⟩) ?n1_15b1
  case y1_15b1 => intro w' hS'; have e0 := cell_kept hS' (Nat.le_refl _) c0; have e1 := cell_kept hS' (Nat.le_refl _) c1; go_simp; with_reducible rfl
  clear hD; intro hD
  simp only [Act.put, List.setIfInBounds_toArray, List.set_cons_zero, List.set_cons_succ]
  refine wpAnyK_one (i := 16) (fuel := 4) (by kernel_rfl) rfl hD ?_
  clear hD; intro K16 hK16
  go_wp2_with fail
  refine (HO'.out _).mono ?_
  rintro e w2 ⟨rfl, hb⟩
  have HB16 := Lib.hid hb
  clear hb
  go_wp2
  refine hK16 _ _ (by exact Below.trans hS_1_11 (Below.mono HB16.out (Below.size hS_1_11))) ?_; clear hK16; intro hS_1_16 hD
  refine wpAnyK_one (i := 17) (fuel := 3) (by kernel_rfl) rfl hD ?_
  clear hD; intro K17 hK17
  go_wp2_with fail
  refine (HCM.out _).mono ?_
  rintro e w3 ⟨rfl, rfl⟩
  have HB17 := Lib.hid (Below.refl w2.heap.size w2)
  go_wp2
  refine hK17 _ _ (by exact Below.trans hS_1_16 (Below.mono HB17.out (Below.size hS_1_16))) ?_; clear hK17; intro hS_1_17 hD
  refine wpAnyK_pureD (i := 18) (d := some 21) (v := ?v1_18b1) (fuel := 2) rfl (by kernel_rfl) (by kernel_rfl) (fun _ _ _ h => h) hD hS_1_17 (.inl ⟨by kernel_rfl, ?y1_18b1⟩) ?n1_18b1
  case y1_18b1 => intro w' _; go_simp; with_reducible rfl
  clear hD; intro hD
  simp only [Act.put, List.setIfInBounds_toArray, List.set_cons_zero, List.set_cons_succ]
  refine wpAnyK_pureD (i := 19) (d := some 22) (v := ?v1_19b1) (fuel := 1) rfl (by kernel_rfl) (by kernel_rfl) (fun _ _ _ h => h) hD hS_1_17 (.inl ⟨by kernel_rfl, ?y1_19b1⟩) ?n1_19b1
  case y1_19b1 => intro w' _; go_simp; with_reducible rfl
  clear hD; intro hD
  simp only [Act.put, List.setIfInBounds_toArray, List.set_cons_zero, List.set_cons_succ]
  refine wpAnyK_one (i := 20) (fuel := 0) (by kernel_rfl) rfl hD ?_
  clear hD; intro K20 hK20
  go_wp2
  refine hK20 _ _ (by exact hS_1_17) ?_; clear hK20; intro hS_1_20 hD
  refine wpAnyK_done (by kernel_rfl) ?_ 0
  clear hD
  have HSX := Lib.hid hS_1_20
  refine hK1 _ _ ?_
  go_wp2
  go_ret
  exact ⟨rfl, HB0.out.trans (((Below.refl _ _).drew.trans HSX.out).mono HB0.out.size)⟩
end Go.Proofs.YtpdejgdkpghjhaaGreatDoor

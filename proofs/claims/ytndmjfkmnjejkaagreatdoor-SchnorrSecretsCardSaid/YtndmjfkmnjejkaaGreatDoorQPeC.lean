/- Walks: natural.Gcd and dominoref01.Common of numbers below 2^64, rsagroup.Has. -/
import Derived.Test.YtndmjfkmnjejkaaGreatDoorQPwI
import Derived.Test.YtndmjfkmnjejkaaGreatDoorQGst
set_option linter.unusedVariables false
set_option linter.unusedSimpArgs false
namespace Go.Proofs.YtndmjfkmnjejkaaGreatDoor
open Go.RowKit
def svN : Value → Nat
  | .string s => num s
  | _ => 0
theorem svN_nS (n : Nat) : svN (.string (nS n)) = n := num_nS n
theorem gcd_next {p q G : Nat} (h : Nat.gcd p q = G) : Nat.gcd q (p % q) = G := by rw [← h, Nat.gcd_comm p q, Nat.gcd_rec q p, Nat.gcd_comm]
set_option maxRecDepth 100000 in
set_option maxHeartbeats 1000000 in
theorem nat_Gcd (x y : Nat) (hx : x < 18446744073709551616) (hy : y < 18446744073709551616) (w : World) : Calls Tryz.prog 217 #[.string (nS x), .string (nS y)] w (Ret (.tuple #[.string (nS (Nat.gcd x y)), .int .i64 0]) w) := by
  have HV1 := Lib.hid (nat_Valid (nS x) (by have := nS_small_size hx; omega))
  have HV2 := Lib.hid (nat_Valid (nS y) (by have := nS_small_size hy; omega))
  rw [nvalid_nS.2 (lt128_of_lt8 hx)] at HV1
  rw [nvalid_nS.2 (lt128_of_lt8 hy)] at HV2
  have HX := Lib.hid hx
  have HY := Lib.hid hy
  have HD := Lib.hid (fun p q (hp : p < 18446744073709551616) (hq : q < 18446744073709551616) (h0 : 0 < q) => nat_divided p q hp (lt128_of_lt8 hq) h0)
  clear hx hy
  go_enter Tryz.func217, Tryz.ntmps217
  go_wp2_with fail
  refine (HV1.out _).mono ?_
  rintro e w1 ⟨rfl, rfl⟩
  go_wp2_with fail
  refine (HV2.out _).mono ?_
  rintro e w1 ⟨rfl, rfl⟩
  go_wp2
  go_loopw [0, 1] (fun a b wr => ∃ p q : Nat, a = .string (nS p) ∧ b = .string (nS q) ∧ p < 18446744073709551616 ∧ q < 18446744073709551616 ∧ Nat.gcd p q = Nat.gcd x y ∧ Below w.heap.size w wr) (fun _ b _ => svN b)
  case atStart => exact ⟨x, y, rfl, rfl, HX.out, HY.out, rfl, Below.refl _ _⟩
  case round =>
    obtain ⟨p, q, rfl, rfl, hp, hq, hg, hbw⟩ := hrel
    have HBW := Lib.hid hbw
    have HG := Lib.hid hg
    have HP := Lib.hid hp
    have HQ := Lib.hid hq
    clear hbw hg hp hq
    rcases Nat.eq_zero_or_pos q with h0 | h0
    · have HG0 := Lib.hid (show Nat.gcd x y = p from by rw [← HG.out, h0, Nat.gcd_zero_right])
      rw [h0, nS_zero]
      clear h0
      go_wp2
      go_ret2
      exact ⟨by rw [HG0.out]; rfl, HBW.out⟩
    · have hem := empty_nS h0
      have HML := Lib.hid (Nat.mod_lt p h0)
      have HDD := Lib.hid (HD.out p q HP.out HQ.out h0)
      clear h0
      go_wp2_with fail
      refine (HDD.out _).mono ?_
      rintro e w2 ⟨rfl, hb2⟩
      have HB2 := Lib.hid (HBW.out.trans (hb2.mono HBW.out.size))
      clear hb2
      go_wp2
      go_roundw
      case rel => exact ⟨q, p % q, rfl, rfl, HQ.out, Nat.lt_trans HML.out HQ.out, gcd_next HG.out, HB2.out⟩
      case measure => rw [svN_nS, svN_nS]; exact HML.out
set_option maxRecDepth 100000 in
set_option maxHeartbeats 1000000 in
theorem r01_Common (x y : Nat) (hx : x < 256 ^ 128) (hy : y < 256 ^ 128) (w : World) : Calls Tryz.prog 193 #[.string (nS x), .string (nS y)] w (Ret (.string (nS (Nat.gcd x y))) w) := by
  have HX := Lib.hid hx
  have HY := Lib.hid hy
  have HD := Lib.hid (fun p q (hp : p < 256 ^ 128) (hq : q < 256 ^ 128) (h0 : 0 < q) => r01_Over p q (Nat.le_trans (nS_size_le.2 hp) (by decide)) (Nat.le_trans (nS_size_le.2 hq) (by decide)) h0)
  clear hx hy
  go_enter Tryz.func193, Tryz.ntmps193
  go_wp2
  go_loopw [0, 1] (fun a b wr => ∃ p q : Nat, a = .string (nS p) ∧ b = .string (nS q) ∧ p < 256 ^ 128 ∧ q < 256 ^ 128 ∧ Nat.gcd p q = Nat.gcd x y ∧ Below w.heap.size w wr) (fun _ b _ => svN b)
  case atStart => exact ⟨x, y, rfl, rfl, HX.out, HY.out, rfl, Below.refl _ _⟩
  case round =>
    obtain ⟨p, q, rfl, rfl, hp, hq, hg, hbw⟩ := hrel
    have HBW := Lib.hid hbw
    have HG := Lib.hid hg
    have HP := Lib.hid hp
    have HQ := Lib.hid hq
    clear hbw hg hp hq
    rcases Nat.eq_zero_or_pos q with h0 | h0
    · have HG0 := Lib.hid (show Nat.gcd x y = p from by rw [← HG.out, h0, Nat.gcd_zero_right])
      rw [h0, nS_zero]
      clear h0
      go_wp2
      go_ret
      exact ⟨by rw [HG0.out]; rfl, HBW.out⟩
    · have hem := empty_nS h0
      have HML := Lib.hid (Nat.mod_lt p h0)
      have HDD := Lib.hid (HD.out p q HP.out HQ.out h0)
      clear h0
      go_wp2_with fail
      refine (HDD.out _).mono ?_
      rintro e w2 ⟨rfl, hb2⟩
      have HB2 := Lib.hid (HBW.out.trans (hb2.mono HBW.out.size))
      clear hb2
      go_wp2
      go_roundw
      case rel => exact ⟨q, p % q, rfl, rfl, HQ.out, Nat.lt_trans HML.out HQ.out, gcd_next HG.out, HB2.out⟩
      case measure => rw [svN_nS, svN_nS]; exact HML.out
set_option maxRecDepth 100000 in
theorem rsa_one (w : World) : Calls Tryz.prog 218 #[] w (Ret (.string (nS 1)) w) := by
  go_enter Tryz.func218, Tryz.ntmps218
  go_wp2_with fail
  refine (nat_Of 1 (by decide) _).mono ?_
  rintro e w1 ⟨rfl, hb1⟩
  have HB1 := Lib.hid hb1
  clear hb1
  go_wp2
  go_ret
  exact ⟨rfl, HB1.out⟩
set_option maxRecDepth 100000 in
set_option maxHeartbeats 1000000 in
theorem rsa_good (m : Nat) (hm : m < 18446744073709551616) (hodd : bitB m 0 = true) (h8 : 8 < m) (w : World) : Calls Tryz.prog 216 #[gV (nS m) (nS 0)] w (Ret (.bool true) w) := by
  have HV := Lib.hid (nat_Valid (nS m) (by have := nS_small_size hm; omega))
  rw [nvalid_nS.2 (lt128_of_lt8 hm)] at HV
  have HBT := Lib.hid (nat_Bit m 0 (lt128_of_lt8 hm) (by omega))
  rw [hodd] at HBT
  have HCM := Lib.hid (nat_Cmp (nS m) (nS 8) (by have := nS_small_size hm; omega) (by decide))
  rw [ncmp_n (lt128_of_lt8 hm) (by decide), show cmpI m 8 = 1 from by unfold cmpI; rw [if_neg (by omega), if_pos h8]] at HCM
  have HO := Lib.hid (nat_Of 8 (by decide))
  rw [nS_zero]
  obtain ⟨s, hs⟩ : ∃ s, nS m = s := ⟨_, rfl⟩
  obtain ⟨t, ht⟩ : ∃ t, nS 8 = t := ⟨_, rfl⟩
  rw [hs] at HV HBT HCM ⊢
  rw [ht] at HCM
  have HO' := Lib.hid (fun w => show Calls Tryz.prog 43 #[.int .u64 (8 : Nat)] w (Ret (.string t) w) from by have := HO.out w; rw [show bstr (encN 8) = t from ht] at this; exact this)
  clear hs ht hm hodd h8 HO
  unfold gV
  go_enter Tryz.func216, Tryz.ntmps216
  have HX0 := Lib.hid (Bx2.new w (.string s) (.string ⟨#[]⟩) 24)
  have HB0 := Lib.hid ((Below.refl w.heap.size w).alloc (Nat.le_refl _) (.cells #[.string s, .string ⟨#[]⟩] 24))
  go_wp2
  obtain ⟨W0, hW0⟩ : ∃ W0, w.alloc (.cells #[.string s, .string ⟨#[]⟩] 24) = W0 := ⟨_, rfl⟩
  rw [hW0] at HX0 HB0
  try rw [hW0]
  have c0 : W0.drew.cell? ⟨w.heap.size, 0, none⟩ = some (.string s) := HX0.out.c0
  have c1 : W0.drew.cell? ⟨w.heap.size, 1, none⟩ = some (.string ⟨#[]⟩) := HX0.out.c1
  clear hW0
  rename_i K1 hK1
  refine wp_onlyN ?_
  refine wp_region_K 21 (Below (W0.drew).heap.size (W0.drew)) (by kernel_rfl) ?_
  intro hD
  refine wpAnyK_pureD (i := 0) (d := some 3) (v := ?v1_0b1) (fuel := 20) rfl (by kernel_rfl) (by kernel_rfl) (fun _ _ _ h => h) hD (Below.refl _ _) (.inl ⟨by kernel_rfl, ?y1_0b1⟩) ?n1_0b1
  case y1_0b1 => intro w' _; go_simp; with_reducible rfl
  clear hD; intro hD
  simp only [Act.put, sqA, sqB, sqC]
  refine wpAnyK_takeSD (i := 1) (d := some 4) (v := ?v1_1b1) (fuel := 19) rfl (by kernel_rfl) (by kernel_rfl) (by kernel_rfl) (fun _ _ _ h => h) hD (Below.refl _ _) (.inl ⟨by kernel_rfl, ?y1_1b1⟩) ?n1_1b1
  case y1_1b1 => intro w' hS'; have e0 := cell_kept hS' (Nat.le_refl _) c0; have e1 := cell_kept hS' (Nat.le_refl _) c1; go_simp; with_reducible rfl
  clear hD; intro hD
  simp only [Act.put, sqA, sqB, sqC]
  refine wpAnyK_one (i := 2) (fuel := 18) (by kernel_rfl) rfl hD ?_
  clear hD; intro K2 hK2
  go_wp2_with fail
  refine (HV.out _).mono ?_
  rintro e w2 ⟨rfl, rfl⟩
  have HB2 := Lib.hid (Below.refl W0.drew.heap.size W0.drew)
  go_wp2
  refine hK2 _ _ (by exact HB2.out) ?_; clear hK2; intro hS_1_2 hD
  refine wpAnyK_pureD (i := 3) (d := some 6) (v := ?v1_3b1) (fuel := 17) rfl (by kernel_rfl) (by kernel_rfl) (fun _ _ _ h => h) hD hS_1_2 (.inl ⟨by kernel_rfl, ?y1_3b1⟩) ?n1_3b1
  case y1_3b1 => intro w' _; go_simp; with_reducible rfl
  clear hD; intro hD
  simp only [Act.put, sqA, sqB, sqC]
  refine wpAnyK_pureD (i := 4) (d := some 7) (v := ?v1_4b1) (fuel := 16) rfl (by kernel_rfl) (by kernel_rfl) (fun _ _ _ h => h) hD hS_1_2 (.inl ⟨by kernel_rfl, ?y1_4b1⟩) ?n1_4b1
  case y1_4b1 => intro w' _; go_simp; with_reducible rfl
  clear hD; intro hD
  simp only [Act.put, sqA, sqB, sqC]
  refine wpAnyK_takeSD (i := 5) (d := some 8) (v := ?v1_5b1) (fuel := 15) rfl (by kernel_rfl) (by kernel_rfl) (by kernel_rfl) (fun _ _ _ h => h) hD hS_1_2 (.inl ⟨by kernel_rfl, ?y1_5b1⟩) ?n1_5b1
  case y1_5b1 => intro w' hS'; have e0 := cell_kept hS' (Nat.le_refl _) c0; have e1 := cell_kept hS' (Nat.le_refl _) c1; go_simp; with_reducible rfl
  clear hD; intro hD
  simp only [Act.put, sqA, sqB, sqC]
  refine wpAnyK_pureD (i := 6) (d := some 9) (v := ?v1_6b1) (fuel := 14) rfl (by kernel_rfl) (by kernel_rfl) (fun _ _ _ h => h) hD hS_1_2 (.inl ⟨by kernel_rfl, ?y1_6b1⟩) ?n1_6b1
  case y1_6b1 => intro w' _; go_simp; with_reducible rfl
  clear hD; intro hD
  simp only [Act.put, sqA, sqB, sqC]
  refine wpAnyK_pureD (i := 7) (d := some 10) (v := ?v1_7b1) (fuel := 13) rfl (by kernel_rfl) (by kernel_rfl) (fun _ _ _ h => h) hD hS_1_2 (.inl ⟨by kernel_rfl, ?y1_7b1⟩) ?n1_7b1
  case y1_7b1 => intro w' _; go_simp; with_reducible rfl
  clear hD; intro hD
  simp only [Act.put, sqA, sqB, sqC]
  refine wpAnyK_pureD (i := 8) (d := some 11) (v := ?v1_8b1) (fuel := 12) rfl (by kernel_rfl) (by kernel_rfl) (fun _ _ _ h => h) hD hS_1_2 (.inl ⟨by kernel_rfl, ?y1_8b1⟩) ?n1_8b1
  case y1_8b1 => intro w' _; go_simp; with_reducible rfl
  clear hD; intro hD
  simp only [Act.put, sqA, sqB, sqC]
  refine wpAnyK_pureD (i := 9) (d := some 12) (v := ?v1_9b1) (fuel := 11) rfl (by kernel_rfl) (by kernel_rfl) (fun _ _ _ h => h) hD hS_1_2 (.inl ⟨by kernel_rfl, ?y1_9b1⟩) ?n1_9b1
  case y1_9b1 => intro w' _; go_simp; with_reducible rfl
  clear hD; intro hD
  simp only [Act.put, sqA, sqB, sqC]
  refine wpAnyK_takeSD (i := 10) (d := some 13) (v := ?v1_10b1) (fuel := 10) rfl (by kernel_rfl) (by kernel_rfl) (by kernel_rfl) (fun _ _ _ h => h) hD hS_1_2 (.inl ⟨by kernel_rfl, ?y1_10b1⟩) ?n1_10b1
  case y1_10b1 => intro w' hS'; have e0 := cell_kept hS' (Nat.le_refl _) c0; have e1 := cell_kept hS' (Nat.le_refl _) c1; go_simp; with_reducible rfl
  clear hD; intro hD
  simp only [Act.put, sqA, sqB, sqC]
  refine wpAnyK_one (i := 11) (fuel := 9) (by kernel_rfl) rfl hD ?_
  clear hD; intro K11 hK11
  go_wp2_with fail
  refine (HBT.out _).mono ?_
  rintro e w2 ⟨rfl, rfl⟩
  have HB11 := Lib.hid (Below.refl W0.drew.heap.size W0.drew)
  go_wp2
  refine hK11 _ _ (by exact Below.trans hS_1_2 (Below.mono HB11.out (Below.size hS_1_2))) ?_; clear hK11; intro hS_1_11 hD
  refine wpAnyK_pureD (i := 12) (d := some 15) (v := ?v1_12b1) (fuel := 8) rfl (by kernel_rfl) (by kernel_rfl) (fun _ _ _ h => h) hD hS_1_11 (.inl ⟨by kernel_rfl, ?y1_12b1⟩) ?n1_12b1
  case y1_12b1 => intro w' _; go_simp; with_reducible rfl
  clear hD; intro hD
  simp only [Act.put, sqA, sqB, sqC]
  refine wpAnyK_pureD (i := 13) (d := some 16) (v := ?v1_13b1) (fuel := 7) rfl (by kernel_rfl) (by kernel_rfl) (fun _ _ _ h => h) hD hS_1_11 (.inl ⟨by kernel_rfl, ?y1_13b1⟩) ?n1_13b1
  case y1_13b1 => intro w' _; go_simp; with_reducible rfl
  clear hD; intro hD
  simp only [Act.put, sqA, sqB, sqC]
  refine wpAnyK_pureD (i := 14) (d := some 17) (v := ?v1_14b1) (fuel := 6) rfl (by kernel_rfl) (by kernel_rfl) (fun _ _ _ h => h) hD hS_1_11 (.inl ⟨by kernel_rfl, ?y1_14b1⟩) ?n1_14b1
  case y1_14b1 => intro w' _; go_simp; with_reducible rfl
  clear hD; intro hD
  simp only [Act.put, sqA, sqB, sqC]
  refine wpAnyK_takeSD (i := 15) (d := some 18) (v := ?v1_15b1) (fuel := 5) rfl (by kernel_rfl) (by kernel_rfl) (by kernel_rfl) (fun _ _ _ h => h) hD hS_1_11 (.inl ⟨by kernel_rfl, ?y1_15b1⟩) ?n1_15b1
  case y1_15b1 => intro w' hS'; have e0 := cell_kept hS' (Nat.le_refl _) c0; have e1 := cell_kept hS' (Nat.le_refl _) c1; go_simp; with_reducible rfl
  clear hD; intro hD
  simp only [Act.put, sqA, sqB, sqC]
  refine wpAnyK_one (i := 16) (fuel := 4) (by kernel_rfl) rfl hD ?_
  clear hD; intro K16 hK16
  go_wp2_with fail
  refine (HO'.out _).mono ?_
  rintro e w2 ⟨rfl, hb⟩
  have HB16 := Lib.hid hb
  clear hb
  go_wp2
  refine hK16 _ _ (by exact Below.trans hS_1_11 (Below.mono HB16.out (Below.size hS_1_11))) ?_; clear hK16; intro hS_1_16 hD
  refine wpAnyK_one (i := 17) (fuel := 3) (by kernel_rfl) rfl hD ?_
  clear hD; intro K17 hK17
  go_wp2_with fail
  refine (HCM.out _).mono ?_
  rintro e w3 ⟨rfl, rfl⟩
  have HB17 := Lib.hid (Below.refl w2.heap.size w2)
  go_wp2
  refine hK17 _ _ (by exact Below.trans hS_1_16 (Below.mono HB17.out (Below.size hS_1_16))) ?_; clear hK17; intro hS_1_17 hD
  refine wpAnyK_pureD (i := 18) (d := some 21) (v := ?v1_18b1) (fuel := 2) rfl (by kernel_rfl) (by kernel_rfl) (fun _ _ _ h => h) hD hS_1_17 (.inl ⟨by kernel_rfl, ?y1_18b1⟩) ?n1_18b1
  case y1_18b1 => intro w' _; go_simp; with_reducible rfl
  clear hD; intro hD
  simp only [Act.put, sqA, sqB, sqC]
  refine wpAnyK_pureD (i := 19) (d := some 22) (v := ?v1_19b1) (fuel := 1) rfl (by kernel_rfl) (by kernel_rfl) (fun _ _ _ h => h) hD hS_1_17 (.inl ⟨by kernel_rfl, ?y1_19b1⟩) ?n1_19b1
  case y1_19b1 => intro w' _; go_simp; with_reducible rfl
  clear hD; intro hD
  simp only [Act.put, sqA, sqB, sqC]
  refine wpAnyK_one (i := 20) (fuel := 0) (by kernel_rfl) rfl hD ?_
  clear hD; intro K20 hK20
  go_wp2
  refine hK20 _ _ (by exact hS_1_17) ?_; clear hK20; intro hS_1_20 hD
  refine wpAnyK_done (by kernel_rfl) ?_ 0
  clear hD
  have HSX := Lib.hid hS_1_20
  refine hK1 _ _ ?_
  go_wp2
  go_ret
  exact ⟨rfl, HB0.out.trans (((Below.refl _ _).drew.trans HSX.out).mono HB0.out.size)⟩
end Go.Proofs.YtndmjfkmnjejkaaGreatDoor
/- Walks: power.Check, dominoref13.Check. -/
set_option linter.unusedVariables false
set_option linter.unusedSimpArgs false
namespace Go.Proofs.YtndmjfkmnjejkaaGreatDoor
open Go.RowKit
def chkN (m o : Nat) : Int := if o = 0 then (if m % 2 = 0 ∨ m ≤ 8 then 13 else 0) else if m ≤ 1 ∨ o = 1 ∨ ¬ (m - 1) % o = 0 then 13 else 0
def chkK (M O : ByteArray) : Int := if (nvalid M && nvalid O) = true then chkN (num M) (num O) else 3
theorem bit0 (m : Nat) : bitB m 0 = decide (m % 2 = 1) := by
  unfold bitB
  rw [Nat.pow_zero, Nat.div_one, Bool.eq_iff_iff, beq_iff_eq, decide_eq_true_eq]
set_option maxRecDepth 100000 in
set_option maxHeartbeats 2000000 in
theorem pw_Check_bad (M O : ByteArray) (hM : M.size ≤ 1000) (hO : O.size ≤ 1000) (hv : (nvalid M && nvalid O) = false) (w : World) : Calls Tryz.prog 60 #[gV M O] w (Ret (.int .i64 3) w) := by
  have HV1 := Lib.hid (nat_Valid M (by omega))
  have HV2 := Lib.hid (nat_Valid O (by omega))
  obtain ⟨s, hs⟩ : ∃ s, M = s := ⟨_, rfl⟩
  obtain ⟨t, ht⟩ : ∃ t, O = t := ⟨_, rfl⟩
  rw [hs] at HV1 hv ⊢
  rw [ht] at HV2 hv ⊢
  clear hs ht hM hO
  unfold gV
  cases h1 : nvalid s with
  | false =>
    rw [h1] at HV1
    clear h1 hv
    go_enter Tryz.func60, Tryz.ntmps60
    have HX0 := Lib.hid (Bx2.new w (.string s) (.string t) 24)
    have HB0 := Lib.hid ((Below.refl w.heap.size w).alloc (Nat.le_refl _) (.cells #[.string s, .string t] 24))
    obtain ⟨W0, hW0⟩ : ∃ W0, w.alloc (.cells #[.string s, .string t] 24) = W0 := ⟨_, rfl⟩
    rw [hW0] at HX0 HB0
    have HW0 := Lib.hid hW0
    clear hW0
    go_wp2_with fail
    rw [HW0.out]
    refine (HV1.out _).mono ?_
    rintro e w1 ⟨rfl, rfl⟩
    have c0 := HX0.out.c0
    have c1 := HX0.out.c1
    go_wp2
    go_ret
    exact ⟨rfl, HB0.out⟩
  | true =>
    rw [h1, Bool.true_and] at hv
    rw [h1] at HV1
    rw [hv] at HV2
    clear h1 hv
    go_enter Tryz.func60, Tryz.ntmps60
    have HX0 := Lib.hid (Bx2.new w (.string s) (.string t) 24)
    have HB0 := Lib.hid ((Below.refl w.heap.size w).alloc (Nat.le_refl _) (.cells #[.string s, .string t] 24))
    obtain ⟨W0, hW0⟩ : ∃ W0, w.alloc (.cells #[.string s, .string t] 24) = W0 := ⟨_, rfl⟩
    rw [hW0] at HX0 HB0
    have HW0 := Lib.hid hW0
    clear hW0
    go_wp2_with fail
    rw [HW0.out]
    refine (HV1.out _).mono ?_
    rintro e w1 ⟨rfl, rfl⟩
    have c0 := HX0.out.c0
    have c1 := HX0.out.c1
    go_wp2_with fail
    refine (HV2.out _).mono ?_
    rintro e w1 ⟨rfl, rfl⟩
    go_wp2
    go_ret
    exact ⟨rfl, HB0.out⟩
set_option maxRecDepth 100000 in
set_option maxHeartbeats 2000000 in
theorem r13_Check_bad (M O : ByteArray) (hM : M.size ≤ 1000) (hO : O.size ≤ 1000) (hv : (nvalid M && nvalid O) = false) (w : World) : Calls Tryz.prog 63 #[gV M O] w (Ret (.int .i64 3) w) := by
  have HV1 := Lib.hid (r01_Valid M (by omega))
  have HV2 := Lib.hid (r01_Valid O (by omega))
  obtain ⟨s, hs⟩ : ∃ s, M = s := ⟨_, rfl⟩
  obtain ⟨t, ht⟩ : ∃ t, O = t := ⟨_, rfl⟩
  rw [hs] at HV1 hv ⊢
  rw [ht] at HV2 hv ⊢
  clear hs ht hM hO
  unfold gV
  cases h1 : nvalid s with
  | false =>
    rw [h1] at HV1
    clear h1 hv
    go_enter Tryz.func63, Tryz.ntmps63
    have HX0 := Lib.hid (Bx2.new w (.string s) (.string t) 24)
    have HB0 := Lib.hid ((Below.refl w.heap.size w).alloc (Nat.le_refl _) (.cells #[.string s, .string t] 24))
    obtain ⟨W0, hW0⟩ : ∃ W0, w.alloc (.cells #[.string s, .string t] 24) = W0 := ⟨_, rfl⟩
    rw [hW0] at HX0 HB0
    have HW0 := Lib.hid hW0
    clear hW0
    go_wp2_with fail
    rw [HW0.out]
    refine (HV1.out _).mono ?_
    rintro e w1 ⟨rfl, rfl⟩
    have c0 := HX0.out.c0
    have c1 := HX0.out.c1
    go_wp2
    go_ret
    exact ⟨rfl, HB0.out⟩
  | true =>
    rw [h1, Bool.true_and] at hv
    rw [h1] at HV1
    rw [hv] at HV2
    clear h1 hv
    go_enter Tryz.func63, Tryz.ntmps63
    have HX0 := Lib.hid (Bx2.new w (.string s) (.string t) 24)
    have HB0 := Lib.hid ((Below.refl w.heap.size w).alloc (Nat.le_refl _) (.cells #[.string s, .string t] 24))
    obtain ⟨W0, hW0⟩ : ∃ W0, w.alloc (.cells #[.string s, .string t] 24) = W0 := ⟨_, rfl⟩
    rw [hW0] at HX0 HB0
    have HW0 := Lib.hid hW0
    clear hW0
    go_wp2_with fail
    rw [HW0.out]
    refine (HV1.out _).mono ?_
    rintro e w1 ⟨rfl, rfl⟩
    have c0 := HX0.out.c0
    have c1 := HX0.out.c1
    go_wp2_with fail
    refine (HV2.out _).mono ?_
    rintro e w1 ⟨rfl, rfl⟩
    go_wp2
    go_ret
    exact ⟨rfl, HB0.out⟩
set_option maxRecDepth 100000 in
set_option maxHeartbeats 4000000 in
theorem pw_Check_none (m : Nat) (hm : m < 18446744073709551616) (w : World) : Calls Tryz.prog 60 #[gV (nS m) (nS 0)] w (Ret (.int .i64 (if m % 2 = 0 ∨ m ≤ 8 then 13 else 0)) w) := by
  have HV1 := Lib.hid (nat_Valid (nS m) (by have := nS_small_size hm; omega))
  have HV2 := Lib.hid (nat_Valid (nS 0) (by decide))
  rw [nvalid_nS.2 (lt128_of_lt8 hm)] at HV1
  rw [nvalid_nS.2 (by decide)] at HV2
  have HBT := Lib.hid (nat_Bit m 0 (lt128_of_lt8 hm) (by omega))
  have HCM := Lib.hid (nat_Cmp (nS m) (nS 8) (by have := nS_small_size hm; omega) (by decide))
  rw [ncmp_n (lt128_of_lt8 hm) (by decide)] at HCM
  have HO := Lib.hid (nat_Of 8 (by decide))
  rw [nS_zero] at HV2 ⊢
  obtain ⟨s, hs⟩ : ∃ s, nS m = s := ⟨_, rfl⟩
  obtain ⟨u, hu⟩ : ∃ u, nS 8 = u := ⟨_, rfl⟩
  rw [hs] at HV1 HBT HCM ⊢
  rw [hu] at HCM
  have HO' := Lib.hid (fun w => show Calls Tryz.prog 43 #[.int .u64 (8 : Nat)] w (Ret (.string u) w) from by have := HO.out w; rw [show bstr (encN 8) = u from hu] at this; exact this)
  have HTT := Lib.hid (show (⟨#[]⟩ : ByteArray) = ⟨#[]⟩ from rfl)
  obtain ⟨t, ht⟩ : ∃ t : ByteArray, ⟨#[]⟩ = t := ⟨_, rfl⟩
  have het : t.toList.isEmpty = true := by rw [← ht]; exact sempty_true rfl
  rw [ht] at HV2 ⊢
  clear hs hu ht HO HTT
  unfold gV
  by_cases hodd : m % 2 = 0
  · rw [bit0, decide_eq_false (by omega)] at HBT
    rw [if_pos (.inl hodd)]
    clear hodd hm
    go_enter Tryz.func60, Tryz.ntmps60
    have HX0 := Lib.hid (Bx2.new w (.string s) (.string t) 24)
    have HB0 := Lib.hid ((Below.refl w.heap.size w).alloc (Nat.le_refl _) (.cells #[.string s, .string t] 24))
    obtain ⟨W0, hW0⟩ : ∃ W0, w.alloc (.cells #[.string s, .string t] 24) = W0 := ⟨_, rfl⟩
    rw [hW0] at HX0 HB0
    have HW0 := Lib.hid hW0
    clear hW0
    go_wp2_with fail
    rw [HW0.out]
    refine (HV1.out _).mono ?_
    rintro e w1 ⟨rfl, rfl⟩
    have c0 := HX0.out.c0
    have c1 := HX0.out.c1
    go_wp2_with fail
    refine (HV2.out _).mono ?_
    rintro e w1 ⟨rfl, rfl⟩
    go_wp2
    have d0 : W0.drew.cell? ⟨w.heap.size, 0, none⟩ = some (.string s) := c0
    have d1 : W0.drew.cell? ⟨w.heap.size, 1, none⟩ = some (.string t) := c1
    rename_i K4 hK4
    refine wp_onlyN ?_
    refine wp_region_K 11 (Below (W0.drew).heap.size (W0.drew)) (by kernel_rfl) ?_
    intro hD
    refine wpAnyK_pureD (i := 0) (d := some 21) (v := ?v4_0b1) (fuel := 10) rfl (by kernel_rfl) (by kernel_rfl) (fun _ _ _ h => h) hD (Below.refl _ _) (.inl ⟨by kernel_rfl, ?y4_0b1⟩) ?n4_0b1
    case y4_0b1 => intro w' _; go_simp; with_reducible rfl
    clear hD; intro hD
    simp only [Act.put, sqA, sqB, sqC]
    refine wpAnyK_takeSD (i := 1) (d := some 22) (v := ?v4_1b1) (fuel := 9) rfl (by kernel_rfl) (by kernel_rfl) (by kernel_rfl) (fun _ _ _ h => h) hD (Below.refl _ _) (.inl ⟨by kernel_rfl, ?y4_1b1⟩) ?n4_1b1
    case y4_1b1 => intro w' hS'; have e0 := cell_kept hS' (Nat.le_refl _) d0; have e1 := cell_kept hS' (Nat.le_refl _) d1; go_simp; with_reducible rfl
    clear hD; intro hD
    simp only [Act.put, sqA, sqB, sqC]
    refine wpAnyK_one (i := 2) (fuel := 8) (by kernel_rfl) rfl hD ?_
    clear hD; intro K2 hK2
    go_wp2_with fail
    refine (HBT.out _).mono ?_
    rintro e w2 ⟨rfl, rfl⟩
    have HB2 := Lib.hid (Below.refl W0.drew.heap.size W0.drew)
    go_wp2
    refine hK2 _ _ (by exact HB2.out) ?_; clear hK2; intro hS_4_2 hD
    refine wpAnyK_pureD (i := 3) (d := some 24) (v := ?v4_3b1) (fuel := 7) rfl (by kernel_rfl) (by kernel_rfl) (fun _ _ _ h => h) hD hS_4_2 (.inl ⟨by kernel_rfl, ?y4_3b1⟩) ?n4_3b1
    case y4_3b1 => intro w' _; go_simp; with_reducible rfl
    clear hD; intro hD
    simp only [Act.put, sqA, sqB, sqC]
    refine wpAnyK_pureD (i := 4) (d := some 25) (v := ?v4_4b1) (fuel := 6) rfl (by kernel_rfl) (by kernel_rfl) (fun _ _ _ h => h) hD hS_4_2 (.inl ⟨by kernel_rfl, ?y4_4b1⟩) ?n4_4b1
    case y4_4b1 => intro w' _; go_simp; with_reducible rfl
    clear hD; intro hD
    simp only [Act.put, sqA, sqB, sqC]
    refine wpAnyK_pureD (i := 5) (d := some 26) (v := undef) (fuel := 5) rfl (by kernel_rfl) (by kernel_rfl) (fun _ _ _ h => h) hD hS_4_2 (.inr ⟨by kernel_rfl, rfl⟩) ?_
    clear hD; intro hD
    simp only [Act.put, sqA, sqB, sqC]
    refine wpAnyK_pureD (i := 6) (d := some 27) (v := undef) (fuel := 4) rfl (by kernel_rfl) (by kernel_rfl) (fun _ _ _ h => h) hD hS_4_2 (.inr ⟨by kernel_rfl, rfl⟩) ?_
    clear hD; intro hD
    simp only [Act.put, sqA, sqB, sqC]
    refine wpAnyK_pureD (i := 7) (d := some 28) (v := undef) (fuel := 3) rfl (by kernel_rfl) (by kernel_rfl) (fun _ _ _ h => h) hD hS_4_2 (.inr ⟨by kernel_rfl, rfl⟩) ?_
    clear hD; intro hD
    simp only [Act.put, sqA, sqB, sqC]
    refine wpAnyK_pureD (i := 8) (d := some 29) (v := undef) (fuel := 2) rfl (by kernel_rfl) (by kernel_rfl) (fun _ _ _ h => h) hD hS_4_2 (.inr ⟨by kernel_rfl, rfl⟩) ?_
    clear hD; intro hD
    simp only [Act.put, sqA, sqB, sqC]
    refine wpAnyK_pureD (i := 9) (d := some 30) (v := undef) (fuel := 1) rfl (by kernel_rfl) (by kernel_rfl) (fun _ _ _ h => h) hD hS_4_2 (.inr ⟨by kernel_rfl, rfl⟩) ?_
    clear hD; intro hD
    simp only [Act.put, sqA, sqB, sqC]
    refine wpAnyK_pureD (i := 10) (d := some 31) (v := ?v4_10b1) (fuel := 0) rfl (by kernel_rfl) (by kernel_rfl) (fun _ _ _ h => h) hD hS_4_2 (.inl ⟨by kernel_rfl, ?y4_10b1⟩) ?n4_10b1
    case y4_10b1 => intro w' _; go_simp; with_reducible rfl
    clear hD; intro hD
    simp only [Act.put, sqA, sqB, sqC]
    refine wpAnyK_done (by kernel_rfl) ?_ 0
    clear hD
    have HSX := Lib.hid hS_4_2
    refine hK4 _ _ ?_
    go_wp2
    go_ret
    exact ⟨rfl, HB0.out.trans (((Below.refl _ _).drew.trans HSX.out).mono HB0.out.size)⟩
  · rw [bit0, decide_eq_true (show m % 2 = 1 by omega)] at HBT
    have HE := Lib.hid (show (if m % 2 = 0 ∨ m ≤ 8 then (13 : Int) else 0) = if m ≤ 8 then 13 else 0 from by
      by_cases h : m ≤ 8
      · rw [if_pos (.inr h), if_pos h]
      · rw [if_neg (by omega), if_neg h])
    rw [HE.out]
    by_cases h8 : m ≤ 8
    · have hg : cmpI m 8 ≤ 0 := by unfold cmpI; split; · decide
                                   · rw [if_neg (by omega)]; decide
      obtain ⟨c, hc⟩ : ∃ c, cmpI m 8 = c := ⟨_, rfl⟩
      rw [hc] at hg HCM
      rw [if_pos h8]
      clear h8 hc hodd hm HE
      go_enter Tryz.func60, Tryz.ntmps60
      have HX0 := Lib.hid (Bx2.new w (.string s) (.string t) 24)
      have HB0 := Lib.hid ((Below.refl w.heap.size w).alloc (Nat.le_refl _) (.cells #[.string s, .string t] 24))
      obtain ⟨W0, hW0⟩ : ∃ W0, w.alloc (.cells #[.string s, .string t] 24) = W0 := ⟨_, rfl⟩
      rw [hW0] at HX0 HB0
      have HW0 := Lib.hid hW0
      clear hW0
      go_wp2_with fail
      rw [HW0.out]
      refine (HV1.out _).mono ?_
      rintro e w1 ⟨rfl, rfl⟩
      have c0 := HX0.out.c0
      have c1 := HX0.out.c1
      go_wp2_with fail
      refine (HV2.out _).mono ?_
      rintro e w1 ⟨rfl, rfl⟩
      go_wp2
      have d0 : W0.drew.cell? ⟨w.heap.size, 0, none⟩ = some (.string s) := c0
      have d1 : W0.drew.cell? ⟨w.heap.size, 1, none⟩ = some (.string t) := c1
      rename_i K4 hK4
      refine wp_onlyN ?_
      refine wp_region_K 11 (Below (W0.drew).heap.size (W0.drew)) (by kernel_rfl) ?_
      intro hD
      refine wpAnyK_pureD (i := 0) (d := some 21) (v := ?v4_0b2) (fuel := 10) rfl (by kernel_rfl) (by kernel_rfl) (fun _ _ _ h => h) hD (Below.refl _ _) (.inl ⟨by kernel_rfl, ?y4_0b2⟩) ?n4_0b2
      case y4_0b2 => intro w' _; go_simp; with_reducible rfl
      clear hD; intro hD
      simp only [Act.put, sqA, sqB, sqC]
      refine wpAnyK_takeSD (i := 1) (d := some 22) (v := ?v4_1b2) (fuel := 9) rfl (by kernel_rfl) (by kernel_rfl) (by kernel_rfl) (fun _ _ _ h => h) hD (Below.refl _ _) (.inl ⟨by kernel_rfl, ?y4_1b2⟩) ?n4_1b2
      case y4_1b2 => intro w' hS'; have e0 := cell_kept hS' (Nat.le_refl _) d0; have e1 := cell_kept hS' (Nat.le_refl _) d1; go_simp; with_reducible rfl
      clear hD; intro hD
      simp only [Act.put, sqA, sqB, sqC]
      refine wpAnyK_one (i := 2) (fuel := 8) (by kernel_rfl) rfl hD ?_
      clear hD; intro K2 hK2
      go_wp2_with fail
      refine (HBT.out _).mono ?_
      rintro e w2 ⟨rfl, rfl⟩
      have HB2 := Lib.hid (Below.refl W0.drew.heap.size W0.drew)
      go_wp2
      refine hK2 _ _ (by exact HB2.out) ?_; clear hK2; intro hS_4_2 hD
      refine wpAnyK_pureD (i := 3) (d := some 24) (v := ?v4_3b2) (fuel := 7) rfl (by kernel_rfl) (by kernel_rfl) (fun _ _ _ h => h) hD hS_4_2 (.inl ⟨by kernel_rfl, ?y4_3b2⟩) ?n4_3b2
      case y4_3b2 => intro w' _; go_simp; with_reducible rfl
      clear hD; intro hD
      simp only [Act.put, sqA, sqB, sqC]
      refine wpAnyK_pureD (i := 4) (d := some 25) (v := ?v4_4b2) (fuel := 6) rfl (by kernel_rfl) (by kernel_rfl) (fun _ _ _ h => h) hD hS_4_2 (.inl ⟨by kernel_rfl, ?y4_4b2⟩) ?n4_4b2
      case y4_4b2 => intro w' _; go_simp; with_reducible rfl
      clear hD; intro hD
      simp only [Act.put, sqA, sqB, sqC]
      refine wpAnyK_pureD (i := 5) (d := some 26) (v := ?v4_5b2) (fuel := 5) rfl (by kernel_rfl) (by kernel_rfl) (fun _ _ _ h => h) hD hS_4_2 (.inl ⟨by kernel_rfl, ?y4_5b2⟩) ?n4_5b2
      case y4_5b2 => intro w' _; go_simp; with_reducible rfl
      clear hD; intro hD
      simp only [Act.put, sqA, sqB, sqC]
      refine wpAnyK_takeSD (i := 6) (d := some 27) (v := ?v4_6b2) (fuel := 4) rfl (by kernel_rfl) (by kernel_rfl) (by kernel_rfl) (fun _ _ _ h => h) hD hS_4_2 (.inl ⟨by kernel_rfl, ?y4_6b2⟩) ?n4_6b2
      case y4_6b2 => intro w' hS'; have e0 := cell_kept hS' (Nat.le_refl _) d0; have e1 := cell_kept hS' (Nat.le_refl _) d1; go_simp; with_reducible rfl
      clear hD; intro hD
      simp only [Act.put, sqA, sqB, sqC]
      refine wpAnyK_one (i := 7) (fuel := 3) (by kernel_rfl) rfl hD ?_
      clear hD; intro K7 hK7
      go_wp2_with fail
      refine (HO'.out _).mono ?_
      rintro e w7 ⟨rfl, hb⟩
      have HB7 := Lib.hid hb
      clear hb
      go_wp2
      refine hK7 _ _ (by exact Below.trans hS_4_2 (Below.mono HB7.out (Below.size hS_4_2))) ?_; clear hK7; intro hS_4_7 hD
      refine wpAnyK_one (i := 8) (fuel := 2) (by kernel_rfl) rfl hD ?_
      clear hD; intro K8 hK8
      go_wp2_with fail
      refine (HCM.out _).mono ?_
      rintro e w8 ⟨rfl, rfl⟩
      have HB8 := Lib.hid (Below.refl w7.heap.size w7)
      go_wp2
      refine hK8 _ _ (by exact Below.trans hS_4_7 (Below.mono HB8.out (Below.size hS_4_7))) ?_; clear hK8; intro hS_4_8 hD
      refine wpAnyK_pureD (i := 9) (d := some 30) (v := ?v4_9b2) (fuel := 1) rfl (by kernel_rfl) (by kernel_rfl) (fun _ _ _ h => h) hD hS_4_8 (.inl ⟨by kernel_rfl, ?y4_9b2⟩) ?n4_9b2
      case y4_9b2 => intro w' _; go_simp; with_reducible rfl
      clear hD; intro hD
      simp only [Act.put, sqA, sqB, sqC]
      refine wpAnyK_pureD (i := 10) (d := some 31) (v := ?v4_10b2) (fuel := 0) rfl (by kernel_rfl) (by kernel_rfl) (fun _ _ _ h => h) hD hS_4_8 (.inl ⟨by kernel_rfl, ?y4_10b2⟩) ?n4_10b2
      case y4_10b2 => intro w' _; go_simp; with_reducible rfl
      clear hD; intro hD
      simp only [Act.put, sqA, sqB, sqC]
      refine wpAnyK_done (by kernel_rfl) ?_ 0
      clear hD
      have HSX := Lib.hid hS_4_8
      refine hK4 _ _ ?_
      go_wp2
      go_ret
      exact ⟨rfl, HB0.out.trans (((Below.refl _ _).drew.trans HSX.out).mono HB0.out.size)⟩
    · rw [show cmpI m 8 = 1 from by unfold cmpI; rw [if_neg (by omega), if_pos (by omega)]] at HCM
      rw [if_neg h8]
      clear h8 hodd hm HE
      go_enter Tryz.func60, Tryz.ntmps60
      have HX0 := Lib.hid (Bx2.new w (.string s) (.string t) 24)
      have HB0 := Lib.hid ((Below.refl w.heap.size w).alloc (Nat.le_refl _) (.cells #[.string s, .string t] 24))
      obtain ⟨W0, hW0⟩ : ∃ W0, w.alloc (.cells #[.string s, .string t] 24) = W0 := ⟨_, rfl⟩
      rw [hW0] at HX0 HB0
      have HW0 := Lib.hid hW0
      clear hW0
      go_wp2_with fail
      rw [HW0.out]
      refine (HV1.out _).mono ?_
      rintro e w1 ⟨rfl, rfl⟩
      have c0 := HX0.out.c0
      have c1 := HX0.out.c1
      go_wp2_with fail
      refine (HV2.out _).mono ?_
      rintro e w1 ⟨rfl, rfl⟩
      go_wp2
      have d0 : W0.drew.cell? ⟨w.heap.size, 0, none⟩ = some (.string s) := c0
      have d1 : W0.drew.cell? ⟨w.heap.size, 1, none⟩ = some (.string t) := c1
      rename_i K4 hK4
      refine wp_onlyN ?_
      refine wp_region_K 11 (Below (W0.drew).heap.size (W0.drew)) (by kernel_rfl) ?_
      intro hD
      refine wpAnyK_pureD (i := 0) (d := some 21) (v := ?v4_0b3) (fuel := 10) rfl (by kernel_rfl) (by kernel_rfl) (fun _ _ _ h => h) hD (Below.refl _ _) (.inl ⟨by kernel_rfl, ?y4_0b3⟩) ?n4_0b3
      case y4_0b3 => intro w' _; go_simp; with_reducible rfl
      clear hD; intro hD
      simp only [Act.put, sqA, sqB, sqC]
      refine wpAnyK_takeSD (i := 1) (d := some 22) (v := ?v4_1b3) (fuel := 9) rfl (by kernel_rfl) (by kernel_rfl) (by kernel_rfl) (fun _ _ _ h => h) hD (Below.refl _ _) (.inl ⟨by kernel_rfl, ?y4_1b3⟩) ?n4_1b3
      case y4_1b3 => intro w' hS'; have e0 := cell_kept hS' (Nat.le_refl _) d0; have e1 := cell_kept hS' (Nat.le_refl _) d1; go_simp; with_reducible rfl
      clear hD; intro hD
      simp only [Act.put, sqA, sqB, sqC]
      refine wpAnyK_one (i := 2) (fuel := 8) (by kernel_rfl) rfl hD ?_
      clear hD; intro K2 hK2
      go_wp2_with fail
      refine (HBT.out _).mono ?_
      rintro e w2 ⟨rfl, rfl⟩
      have HB2 := Lib.hid (Below.refl W0.drew.heap.size W0.drew)
      go_wp2
      refine hK2 _ _ (by exact HB2.out) ?_; clear hK2; intro hS_4_2 hD
      refine wpAnyK_pureD (i := 3) (d := some 24) (v := ?v4_3b3) (fuel := 7) rfl (by kernel_rfl) (by kernel_rfl) (fun _ _ _ h => h) hD hS_4_2 (.inl ⟨by kernel_rfl, ?y4_3b3⟩) ?n4_3b3
      case y4_3b3 => intro w' _; go_simp; with_reducible rfl
      clear hD; intro hD
      simp only [Act.put, sqA, sqB, sqC]
      refine wpAnyK_pureD (i := 4) (d := some 25) (v := ?v4_4b3) (fuel := 6) rfl (by kernel_rfl) (by kernel_rfl) (fun _ _ _ h => h) hD hS_4_2 (.inl ⟨by kernel_rfl, ?y4_4b3⟩) ?n4_4b3
      case y4_4b3 => intro w' _; go_simp; with_reducible rfl
      clear hD; intro hD
      simp only [Act.put, sqA, sqB, sqC]
      refine wpAnyK_pureD (i := 5) (d := some 26) (v := ?v4_5b3) (fuel := 5) rfl (by kernel_rfl) (by kernel_rfl) (fun _ _ _ h => h) hD hS_4_2 (.inl ⟨by kernel_rfl, ?y4_5b3⟩) ?n4_5b3
      case y4_5b3 => intro w' _; go_simp; with_reducible rfl
      clear hD; intro hD
      simp only [Act.put, sqA, sqB, sqC]
      refine wpAnyK_takeSD (i := 6) (d := some 27) (v := ?v4_6b3) (fuel := 4) rfl (by kernel_rfl) (by kernel_rfl) (by kernel_rfl) (fun _ _ _ h => h) hD hS_4_2 (.inl ⟨by kernel_rfl, ?y4_6b3⟩) ?n4_6b3
      case y4_6b3 => intro w' hS'; have e0 := cell_kept hS' (Nat.le_refl _) d0; have e1 := cell_kept hS' (Nat.le_refl _) d1; go_simp; with_reducible rfl
      clear hD; intro hD
      simp only [Act.put, sqA, sqB, sqC]
      refine wpAnyK_one (i := 7) (fuel := 3) (by kernel_rfl) rfl hD ?_
      clear hD; intro K7 hK7
      go_wp2_with fail
      refine (HO'.out _).mono ?_
      rintro e w7 ⟨rfl, hb⟩
      have HB7 := Lib.hid hb
      clear hb
      go_wp2
      refine hK7 _ _ (by exact Below.trans hS_4_2 (Below.mono HB7.out (Below.size hS_4_2))) ?_; clear hK7; intro hS_4_7 hD
      refine wpAnyK_one (i := 8) (fuel := 2) (by kernel_rfl) rfl hD ?_
      clear hD; intro K8 hK8
      go_wp2_with fail
      refine (HCM.out _).mono ?_
      rintro e w8 ⟨rfl, rfl⟩
      have HB8 := Lib.hid (Below.refl w7.heap.size w7)
      go_wp2
      refine hK8 _ _ (by exact Below.trans hS_4_7 (Below.mono HB8.out (Below.size hS_4_7))) ?_; clear hK8; intro hS_4_8 hD
      refine wpAnyK_pureD (i := 9) (d := some 30) (v := ?v4_9b3) (fuel := 1) rfl (by kernel_rfl) (by kernel_rfl) (fun _ _ _ h => h) hD hS_4_8 (.inl ⟨by kernel_rfl, ?y4_9b3⟩) ?n4_9b3
      case y4_9b3 => intro w' _; go_simp; with_reducible rfl
      clear hD; intro hD
      simp only [Act.put, sqA, sqB, sqC]
      refine wpAnyK_pureD (i := 10) (d := some 31) (v := ?v4_10b3) (fuel := 0) rfl (by kernel_rfl) (by kernel_rfl) (fun _ _ _ h => h) hD hS_4_8 (.inl ⟨by kernel_rfl, ?y4_10b3⟩) ?n4_10b3
      case y4_10b3 => intro w' _; go_simp; with_reducible rfl
      clear hD; intro hD
      simp only [Act.put, sqA, sqB, sqC]
      refine wpAnyK_done (by kernel_rfl) ?_ 0
      clear hD
      have HSX := Lib.hid hS_4_8
      refine hK4 _ _ ?_
      go_wp2
      go_ret
      exact ⟨rfl, HB0.out.trans (((Below.refl _ _).drew.trans HSX.out).mono HB0.out.size)⟩
end Go.Proofs.YtndmjfkmnjejkaaGreatDoor
/- Walks: power.Check and dominoref13.Check in full. -/
set_option linter.unusedVariables false
set_option linter.unusedSimpArgs false
namespace Go.Proofs.YtndmjfkmnjejkaaGreatDoor
open Go.RowKit
theorem chkN_some {m o : Nat} (ho : 0 < o) : chkN m o = if m ≤ 1 ∨ o = 1 ∨ ¬ (m - 1) % o = 0 then 13 else 0 := by unfold chkN; rw [if_neg (by omega)]
set_option maxRecDepth 100000 in
set_option maxHeartbeats 4000000 in
theorem pw_Check_some (m o : Nat) (hm : m < 18446744073709551616) (ho8 : o < 256 ^ 128) (ho : 0 < o) (w : World) : Calls Tryz.prog 60 #[gV (nS m) (nS o)] w (Ret (.int .i64 (chkN m o)) w) := by
  rw [chkN_some ho]
  have HV1 := Lib.hid (nat_Valid (nS m) (by have := nS_small_size hm; omega))
  have HV2 := Lib.hid (nat_Valid (nS o) (by have := nS_size_le.2 ho8; omega))
  rw [nvalid_nS.2 (lt128_of_lt8 hm)] at HV1
  rw [nvalid_nS.2 ho8] at HV2
  have HO1 := Lib.hid (nat_Of 1 (by decide))
  have HO2 := Lib.hid (nat_Of 2 (by decide))
  have HCM := Lib.hid (nat_Cmp (nS o) (nS 2) (by have := nS_size_le.2 ho8; omega) (by decide))
  rw [ncmp_n (ho8) (by decide)] at HCM
  have HDM := Lib.hid (nat_DivMod (m - 1) o (by omega) (ho8) ho)
  have het := empty_nS ho
  have HSL := Lib.hid (fun (h : m < 1) w => rq_quiet (nat_Sub_less m 1 (lt128_of_lt8 hm) (by decide) h w))
  have HSG := Lib.hid (fun (h : 1 ≤ m) => nat_Sub_ge m 1 (lt128_of_lt8 hm) (by decide) h)
  obtain ⟨s, hs⟩ : ∃ s, nS m = s := ⟨_, rfl⟩
  obtain ⟨t, ht⟩ : ∃ t, nS o = t := ⟨_, rfl⟩
  obtain ⟨u1, hu1⟩ : ∃ u, nS 1 = u := ⟨_, rfl⟩
  obtain ⟨u2, hu2⟩ : ∃ u, nS 2 = u := ⟨_, rfl⟩
  rw [hs] at HV1 HSL HSG ⊢
  rw [ht] at HV2 HCM HDM het ⊢
  rw [hu2] at HCM
  rw [hu1] at HSL HSG
  have HO1 := Lib.hid (fun w => show Calls Tryz.prog 43 #[.int .u64 (1 : Nat)] w (Ret (.string u1) w) from by have := HO1.out w; rw [show bstr (encN 1) = u1 from hu1] at this; exact this)
  have HO2 := Lib.hid (fun w => show Calls Tryz.prog 43 #[.int .u64 (2 : Nat)] w (Ret (.string u2) w) from by have := HO2.out w; rw [show bstr (encN 2) = u2 from hu2] at this; exact this)
  clear hs ht hu1 hu2
  unfold gV
  rcases Nat.lt_or_ge m 1 with h1 | h1
  · have HSB := Lib.hid (HSL.out h1)
    rw [if_pos (.inl (by omega))]
    clear HSL HSG HDM h1 hm ho8 ho
    go_enter Tryz.func60, Tryz.ntmps60
    have HX0 := Lib.hid (Bx2.new w (.string s) (.string t) 24)
    have HB0 := Lib.hid ((Below.refl w.heap.size w).alloc (Nat.le_refl _) (.cells #[.string s, .string t] 24))
    obtain ⟨W0, hW0⟩ : ∃ W0, w.alloc (.cells #[.string s, .string t] 24) = W0 := ⟨_, rfl⟩
    rw [hW0] at HX0 HB0
    have HW0 := Lib.hid hW0
    clear hW0
    go_wp2_with fail
    rw [HW0.out]
    refine (HV1.out _).mono ?_
    rintro e w1 ⟨rfl, rfl⟩
    have c0 := HX0.out.c0
    have c1 := HX0.out.c1
    go_wp2_with fail
    refine (HV2.out _).mono ?_
    rintro e w1 ⟨rfl, rfl⟩
    go_wp2
    have d0 : W0.drew.cell? ⟨w.heap.size, 0, none⟩ = some (.string s) := c0
    have d1 : W0.drew.cell? ⟨w.heap.size, 1, none⟩ = some (.string t) := c1
    rename_i K7 hK7
    refine wp_onlyN ?_
    refine wp_region_K 9 (Below (W0.drew).heap.size (W0.drew)) (by kernel_rfl) ?_
    intro hD
    refine wpAnyK_pureD (i := 0) (d := some 33) (v := ?v7_0b1) (fuel := 8) rfl (by kernel_rfl) (by kernel_rfl) (fun _ _ _ h => h) hD (Below.refl _ _) (.inl ⟨by kernel_rfl, ?y7_0b1⟩) ?n7_0b1
    case y7_0b1 => intro w' _; go_simp; with_reducible rfl
    clear hD; intro hD
    simp only [Act.put, sqA, sqB, sqC]
    refine wpAnyK_takeSD (i := 1) (d := some 34) (v := ?v7_1b1) (fuel := 7) rfl (by kernel_rfl) (by kernel_rfl) (by kernel_rfl) (fun _ _ _ h => h) hD (Below.refl _ _) (.inl ⟨by kernel_rfl, ?y7_1b1⟩) ?n7_1b1
    case y7_1b1 => intro w' hS'; have e0 := cell_kept hS' (Nat.le_refl _) d0; have e1 := cell_kept hS' (Nat.le_refl _) d1; go_simp; with_reducible rfl
    clear hD; intro hD
    simp only [Act.put, sqA, sqB, sqC]
    refine wpAnyK_one (i := 2) (fuel := 6) (by kernel_rfl) rfl hD ?_
    clear hD; intro K2 hK2
    go_wp2_with fail
    refine (HO1.out _).mono ?_
    rintro e w2 ⟨rfl, hb⟩
    have HB2 := Lib.hid hb
    clear hb
    go_wp2
    refine hK2 _ _ (by exact HB2.out) ?_; clear hK2; intro hS_7_2 hD
    refine wpAnyK_one (i := 3) (fuel := 5) (by kernel_rfl) rfl hD ?_
    clear hD; intro K3 hK3
    go_wp2_with fail
    refine (HSB.out _).mono ?_
    rintro e w3 ⟨rfl, hb⟩
    have HB3 := Lib.hid hb
    clear hb
    go_wp2
    refine hK3 _ _ (by exact Below.trans hS_7_2 (Below.mono HB3.out (Below.size hS_7_2))) ?_; clear hK3; intro hS_7_3 hD
    refine wpAnyK_pureD (i := 4) (d := some 32) (v := ?v7_4b1) (fuel := 4) rfl (by kernel_rfl) (by kernel_rfl) (fun _ _ _ h => h) hD hS_7_3 (.inl ⟨by kernel_rfl, ?y7_4b1⟩) ?n7_4b1
    case y7_4b1 => intro w' _; go_simp; with_reducible rfl
    clear hD; intro hD
    simp only [Act.put, sqA, sqB, sqC]
    refine wpAnyK_pureD (i := 5) (d := some 37) (v := ?v7_5b1) (fuel := 3) rfl (by kernel_rfl) (by kernel_rfl) (fun _ _ _ h => h) hD hS_7_3 (.inl ⟨by kernel_rfl, ?y7_5b1⟩) ?n7_5b1
    case y7_5b1 => intro w' _; go_simp; with_reducible rfl
    clear hD; intro hD
    simp only [Act.put, sqA, sqB, sqC]
    refine wpAnyK_pureD (i := 6) (d := some 38) (v := ?v7_6b1) (fuel := 2) rfl (by kernel_rfl) (by kernel_rfl) (fun _ _ _ h => h) hD hS_7_3 (.inl ⟨by kernel_rfl, ?y7_6b1⟩) ?n7_6b1
    case y7_6b1 => intro w' _; go_simp; with_reducible rfl
    clear hD; intro hD
    simp only [Act.put, sqA, sqB, sqC]
    refine wpAnyK_one (i := 7) (fuel := 1) (by kernel_rfl) rfl hD ?_
    clear hD; intro K7 hK7
    go_wp2
    refine hK7 _ _ (by exact hS_7_3) ?_; clear hK7; intro hS_7_7 hD
    refine wpAnyK_one (i := 8) (fuel := 0) (by kernel_rfl) rfl hD ?_
    clear hD; intro K8 hK8
    go_wp2
    refine hK8 _ _ (by exact hS_7_7) ?_; clear hK8; intro hS_7_8 hD
    refine wpAnyK_done (by kernel_rfl) ?_ 0
    clear hD d0 d1
    have hS7 := (Below.refl W0.heap.size W0).drew.trans hS_7_8
    have HX7 := Lib.hid (HX0.out.next hS7)
    have HB7 := Lib.hid (HB0.out.trans (hS7.mono HB0.out.size))
    clear hS7
    refine hK7 _ _ ?_
    have e0 : w3.drew.cell? ⟨w.heap.size, 0, none⟩ = some (.string s) := HX7.out.c0
    have e1 : w3.drew.cell? ⟨w.heap.size, 1, none⟩ = some (.string t) := HX7.out.c1
    clear c0 c1
    go_wp2
    rename_i K8 hK8
    refine wp_onlyN ?_
    refine wp_region_K 13 (Below (w3.drew).heap.size (w3.drew)) (by kernel_rfl) ?_
    intro hD
    refine wpAnyK_pureD (i := 0) (d := some 39) (v := ?v8_0b2) (fuel := 12) rfl (by kernel_rfl) (by kernel_rfl) (fun _ _ _ h => h) hD (Below.refl _ _) (.inl ⟨by kernel_rfl, ?y8_0b2⟩) ?n8_0b2
    case y8_0b2 => intro w' _; go_simp; with_reducible rfl
    clear hD; intro hD
    simp only [Act.put, sqA, sqB, sqC]
    refine wpAnyK_pureD (i := 1) (d := some 40) (v := ?v8_1b2) (fuel := 11) rfl (by kernel_rfl) (by kernel_rfl) (fun _ _ _ h => h) hD (Below.refl _ _) (.inl ⟨by kernel_rfl, ?y8_1b2⟩) ?n8_1b2
    case y8_1b2 => intro w' _; go_simp; with_reducible rfl
    clear hD; intro hD
    simp only [Act.put, sqA, sqB, sqC]
    refine wpAnyK_pureD (i := 2) (d := some 41) (v := ?v8_2b2) (fuel := 10) rfl (by kernel_rfl) (by kernel_rfl) (fun _ _ _ h => h) hD (Below.refl _ _) (.inl ⟨by kernel_rfl, ?y8_2b2⟩) ?n8_2b2
    case y8_2b2 => intro w' _; go_simp; with_reducible rfl
    clear hD; intro hD
    simp only [Act.put, sqA, sqB, sqC]
    refine wpAnyK_pureD (i := 3) (d := some 42) (v := undef) (fuel := 9) rfl (by kernel_rfl) (by kernel_rfl) (fun _ _ _ h => h) hD (Below.refl _ _) (.inr ⟨by kernel_rfl, rfl⟩) ?_
    clear hD; intro hD
    simp only [Act.put, sqA, sqB, sqC]
    refine wpAnyK_pureD (i := 4) (d := some 43) (v := undef) (fuel := 8) rfl (by kernel_rfl) (by kernel_rfl) (fun _ _ _ h => h) hD (Below.refl _ _) (.inr ⟨by kernel_rfl, rfl⟩) ?_
    clear hD; intro hD
    simp only [Act.put, sqA, sqB, sqC]
    refine wpAnyK_pureD (i := 5) (d := some 44) (v := ?v8_5b2) (fuel := 7) rfl (by kernel_rfl) (by kernel_rfl) (fun _ _ _ h => h) hD (Below.refl _ _) (.inl ⟨by kernel_rfl, ?y8_5b2⟩) ?n8_5b2
    case y8_5b2 => intro w' _; go_simp; with_reducible rfl
    clear hD; intro hD
    simp only [Act.put, sqA, sqB, sqC]
    refine wpAnyK_pureD (i := 6) (d := some 45) (v := ?v8_6b2) (fuel := 6) rfl (by kernel_rfl) (by kernel_rfl) (fun _ _ _ h => h) hD (Below.refl _ _) (.inl ⟨by kernel_rfl, ?y8_6b2⟩) ?n8_6b2
    case y8_6b2 => intro w' _; go_simp; with_reducible rfl
    clear hD; intro hD
    simp only [Act.put, sqA, sqB, sqC]
    refine wpAnyK_pureD (i := 7) (d := some 46) (v := undef) (fuel := 5) rfl (by kernel_rfl) (by kernel_rfl) (fun _ _ _ h => h) hD (Below.refl _ _) (.inr ⟨by kernel_rfl, rfl⟩) ?_
    clear hD; intro hD
    simp only [Act.put, sqA, sqB, sqC]
    refine wpAnyK_pureD (i := 8) (d := some 47) (v := undef) (fuel := 4) rfl (by kernel_rfl) (by kernel_rfl) (fun _ _ _ h => h) hD (Below.refl _ _) (.inr ⟨by kernel_rfl, rfl⟩) ?_
    clear hD; intro hD
    simp only [Act.put, sqA, sqB, sqC]
    refine wpAnyK_pureD (i := 9) (d := some 48) (v := undef) (fuel := 3) rfl (by kernel_rfl) (by kernel_rfl) (fun _ _ _ h => h) hD (Below.refl _ _) (.inr ⟨by kernel_rfl, rfl⟩) ?_
    clear hD; intro hD
    simp only [Act.put, sqA, sqB, sqC]
    refine wpAnyK_pureD (i := 10) (d := some 49) (v := undef) (fuel := 2) rfl (by kernel_rfl) (by kernel_rfl) (fun _ _ _ h => h) hD (Below.refl _ _) (.inr ⟨by kernel_rfl, rfl⟩) ?_
    clear hD; intro hD
    simp only [Act.put, sqA, sqB, sqC]
    refine wpAnyK_pureD (i := 11) (d := some 50) (v := undef) (fuel := 1) rfl (by kernel_rfl) (by kernel_rfl) (fun _ _ _ h => h) hD (Below.refl _ _) (.inr ⟨by kernel_rfl, rfl⟩) ?_
    clear hD; intro hD
    simp only [Act.put, sqA, sqB, sqC]
    refine wpAnyK_pureD (i := 12) (d := some 51) (v := ?v8_12b2) (fuel := 0) rfl (by kernel_rfl) (by kernel_rfl) (fun _ _ _ h => h) hD (Below.refl _ _) (.inl ⟨by kernel_rfl, ?y8_12b2⟩) ?n8_12b2
    case y8_12b2 => intro w' _; go_simp; with_reducible rfl
    clear hD; intro hD
    simp only [Act.put, sqA, sqB, sqC]
    refine wpAnyK_done (by kernel_rfl) ?_ 0
    clear hD
    have HSX := Lib.hid (HB7.out.trans (((Below.refl w3.heap.size w3).drew.trans (Below.refl _ _)).mono HB7.out.size))
    refine hK8 _ _ ?_
    go_wp2
    go_ret
    exact ⟨rfl, HSX.out⟩
  · have HSB := Lib.hid (HSG.out h1)
    by_cases hm1 : m = 1
    · rw [if_pos (.inl (by omega))]
      rw [hm1, Nat.sub_self, nS_zero] at HSB
      clear HSL HSG HDM h1 hm ho8 ho hm1
      go_enter Tryz.func60, Tryz.ntmps60
      have HX0 := Lib.hid (Bx2.new w (.string s) (.string t) 24)
      have HB0 := Lib.hid ((Below.refl w.heap.size w).alloc (Nat.le_refl _) (.cells #[.string s, .string t] 24))
      obtain ⟨W0, hW0⟩ : ∃ W0, w.alloc (.cells #[.string s, .string t] 24) = W0 := ⟨_, rfl⟩
      rw [hW0] at HX0 HB0
      have HW0 := Lib.hid hW0
      clear hW0
      go_wp2_with fail
      rw [HW0.out]
      refine (HV1.out _).mono ?_
      rintro e w1 ⟨rfl, rfl⟩
      have c0 := HX0.out.c0
      have c1 := HX0.out.c1
      go_wp2_with fail
      refine (HV2.out _).mono ?_
      rintro e w1 ⟨rfl, rfl⟩
      go_wp2
      have d0 : W0.drew.cell? ⟨w.heap.size, 0, none⟩ = some (.string s) := c0
      have d1 : W0.drew.cell? ⟨w.heap.size, 1, none⟩ = some (.string t) := c1
      rename_i K7 hK7
      refine wp_onlyN ?_
      refine wp_region_K 9 (Below (W0.drew).heap.size (W0.drew)) (by kernel_rfl) ?_
      intro hD
      refine wpAnyK_pureD (i := 0) (d := some 33) (v := ?v7_0b3) (fuel := 8) rfl (by kernel_rfl) (by kernel_rfl) (fun _ _ _ h => h) hD (Below.refl _ _) (.inl ⟨by kernel_rfl, ?y7_0b3⟩) ?n7_0b3
      case y7_0b3 => intro w' _; go_simp; with_reducible rfl
      clear hD; intro hD
      simp only [Act.put, sqA, sqB, sqC]
      refine wpAnyK_takeSD (i := 1) (d := some 34) (v := ?v7_1b3) (fuel := 7) rfl (by kernel_rfl) (by kernel_rfl) (by kernel_rfl) (fun _ _ _ h => h) hD (Below.refl _ _) (.inl ⟨by kernel_rfl, ?y7_1b3⟩) ?n7_1b3
      case y7_1b3 => intro w' hS'; have e0 := cell_kept hS' (Nat.le_refl _) d0; have e1 := cell_kept hS' (Nat.le_refl _) d1; go_simp; with_reducible rfl
      clear hD; intro hD
      simp only [Act.put, sqA, sqB, sqC]
      refine wpAnyK_one (i := 2) (fuel := 6) (by kernel_rfl) rfl hD ?_
      clear hD; intro K2 hK2
      go_wp2_with fail
      refine (HO1.out _).mono ?_
      rintro e w2 ⟨rfl, hb⟩
      have HB2 := Lib.hid hb
      clear hb
      go_wp2
      refine hK2 _ _ (by exact HB2.out) ?_; clear hK2; intro hS_7_2 hD
      refine wpAnyK_one (i := 3) (fuel := 5) (by kernel_rfl) rfl hD ?_
      clear hD; intro K3 hK3
      go_wp2_with fail
      refine (HSB.out _).mono ?_
      rintro e w3 ⟨rfl, hb⟩
      have HB3 := Lib.hid hb
      clear hb
      go_wp2
      refine hK3 _ _ (by exact Below.trans hS_7_2 (Below.mono HB3.out (Below.size hS_7_2))) ?_; clear hK3; intro hS_7_3 hD
      refine wpAnyK_pureD (i := 4) (d := some 32) (v := ?v7_4b3) (fuel := 4) rfl (by kernel_rfl) (by kernel_rfl) (fun _ _ _ h => h) hD hS_7_3 (.inl ⟨by kernel_rfl, ?y7_4b3⟩) ?n7_4b3
      case y7_4b3 => intro w' _; go_simp; with_reducible rfl
      clear hD; intro hD
      simp only [Act.put, sqA, sqB, sqC]
      refine wpAnyK_pureD (i := 5) (d := some 37) (v := ?v7_5b3) (fuel := 3) rfl (by kernel_rfl) (by kernel_rfl) (fun _ _ _ h => h) hD hS_7_3 (.inl ⟨by kernel_rfl, ?y7_5b3⟩) ?n7_5b3
      case y7_5b3 => intro w' _; go_simp; with_reducible rfl
      clear hD; intro hD
      simp only [Act.put, sqA, sqB, sqC]
      refine wpAnyK_pureD (i := 6) (d := some 38) (v := ?v7_6b3) (fuel := 2) rfl (by kernel_rfl) (by kernel_rfl) (fun _ _ _ h => h) hD hS_7_3 (.inl ⟨by kernel_rfl, ?y7_6b3⟩) ?n7_6b3
      case y7_6b3 => intro w' _; go_simp; with_reducible rfl
      clear hD; intro hD
      simp only [Act.put, sqA, sqB, sqC]
      refine wpAnyK_one (i := 7) (fuel := 1) (by kernel_rfl) rfl hD ?_
      clear hD; intro K7 hK7
      go_wp2
      refine hK7 _ _ (by exact hS_7_3) ?_; clear hK7; intro hS_7_7 hD
      refine wpAnyK_one (i := 8) (fuel := 0) (by kernel_rfl) rfl hD ?_
      clear hD; intro K8 hK8
      go_wp2
      refine hK8 _ _ (by exact hS_7_7) ?_; clear hK8; intro hS_7_8 hD
      refine wpAnyK_done (by kernel_rfl) ?_ 0
      clear hD d0 d1
      have hS7 := (Below.refl W0.heap.size W0).drew.trans hS_7_8
      have HX7 := Lib.hid (HX0.out.next hS7)
      have HB7 := Lib.hid (HB0.out.trans (hS7.mono HB0.out.size))
      clear hS7
      refine hK7 _ _ ?_
      have e0 : w3.drew.cell? ⟨w.heap.size, 0, none⟩ = some (.string s) := HX7.out.c0
      have e1 : w3.drew.cell? ⟨w.heap.size, 1, none⟩ = some (.string t) := HX7.out.c1
      clear c0 c1
      go_wp2
      rename_i K8 hK8
      refine wp_onlyN ?_
      refine wp_region_K 13 (Below (w3.drew).heap.size (w3.drew)) (by kernel_rfl) ?_
      intro hD
      refine wpAnyK_pureD (i := 0) (d := some 39) (v := ?v8_0b4) (fuel := 12) rfl (by kernel_rfl) (by kernel_rfl) (fun _ _ _ h => h) hD (Below.refl _ _) (.inl ⟨by kernel_rfl, ?y8_0b4⟩) ?n8_0b4
      case y8_0b4 => intro w' _; go_simp; with_reducible rfl
      clear hD; intro hD
      simp only [Act.put, sqA, sqB, sqC]
      refine wpAnyK_pureD (i := 1) (d := some 40) (v := ?v8_1b4) (fuel := 11) rfl (by kernel_rfl) (by kernel_rfl) (fun _ _ _ h => h) hD (Below.refl _ _) (.inl ⟨by kernel_rfl, ?y8_1b4⟩) ?n8_1b4
      case y8_1b4 => intro w' _; go_simp; with_reducible rfl
      clear hD; intro hD
      simp only [Act.put, sqA, sqB, sqC]
      refine wpAnyK_pureD (i := 2) (d := some 41) (v := ?v8_2b4) (fuel := 10) rfl (by kernel_rfl) (by kernel_rfl) (fun _ _ _ h => h) hD (Below.refl _ _) (.inl ⟨by kernel_rfl, ?y8_2b4⟩) ?n8_2b4
      case y8_2b4 => intro w' _; go_simp; with_reducible rfl
      clear hD; intro hD
      simp only [Act.put, sqA, sqB, sqC]
      refine wpAnyK_pureD (i := 3) (d := some 42) (v := ?v8_3b4) (fuel := 9) rfl (by kernel_rfl) (by kernel_rfl) (fun _ _ _ h => h) hD (Below.refl _ _) (.inl ⟨by kernel_rfl, ?y8_3b4⟩) ?n8_3b4
      case y8_3b4 => intro w' _; go_simp; with_reducible rfl
      clear hD; intro hD
      simp only [Act.put, sqA, sqB, sqC]
      refine wpAnyK_pureD (i := 4) (d := some 43) (v := ?v8_4b4) (fuel := 8) rfl (by kernel_rfl) (by kernel_rfl) (fun _ _ _ h => h) hD (Below.refl _ _) (.inl ⟨by kernel_rfl, ?y8_4b4⟩) ?n8_4b4
      case y8_4b4 => intro w' _; go_simp; with_reducible rfl
      clear hD; intro hD
      simp only [Act.put, sqA, sqB, sqC]
      refine wpAnyK_pureD (i := 5) (d := some 44) (v := ?v8_5b4) (fuel := 7) rfl (by kernel_rfl) (by kernel_rfl) (fun _ _ _ h => h) hD (Below.refl _ _) (.inl ⟨by kernel_rfl, ?y8_5b4⟩) ?n8_5b4
      case y8_5b4 => intro w' _; go_simp; with_reducible rfl
      clear hD; intro hD
      simp only [Act.put, sqA, sqB, sqC]
      refine wpAnyK_pureD (i := 6) (d := some 45) (v := ?v8_6b4) (fuel := 6) rfl (by kernel_rfl) (by kernel_rfl) (fun _ _ _ h => h) hD (Below.refl _ _) (.inl ⟨by kernel_rfl, ?y8_6b4⟩) ?n8_6b4
      case y8_6b4 => intro w' _; go_simp; with_reducible rfl
      clear hD; intro hD
      simp only [Act.put, sqA, sqB, sqC]
      refine wpAnyK_pureD (i := 7) (d := some 46) (v := undef) (fuel := 5) rfl (by kernel_rfl) (by kernel_rfl) (fun _ _ _ h => h) hD (Below.refl _ _) (.inr ⟨by kernel_rfl, rfl⟩) ?_
      clear hD; intro hD
      simp only [Act.put, sqA, sqB, sqC]
      refine wpAnyK_pureD (i := 8) (d := some 47) (v := undef) (fuel := 4) rfl (by kernel_rfl) (by kernel_rfl) (fun _ _ _ h => h) hD (Below.refl _ _) (.inr ⟨by kernel_rfl, rfl⟩) ?_
      clear hD; intro hD
      simp only [Act.put, sqA, sqB, sqC]
      refine wpAnyK_pureD (i := 9) (d := some 48) (v := undef) (fuel := 3) rfl (by kernel_rfl) (by kernel_rfl) (fun _ _ _ h => h) hD (Below.refl _ _) (.inr ⟨by kernel_rfl, rfl⟩) ?_
      clear hD; intro hD
      simp only [Act.put, sqA, sqB, sqC]
      refine wpAnyK_pureD (i := 10) (d := some 49) (v := undef) (fuel := 2) rfl (by kernel_rfl) (by kernel_rfl) (fun _ _ _ h => h) hD (Below.refl _ _) (.inr ⟨by kernel_rfl, rfl⟩) ?_
      clear hD; intro hD
      simp only [Act.put, sqA, sqB, sqC]
      refine wpAnyK_pureD (i := 11) (d := some 50) (v := undef) (fuel := 1) rfl (by kernel_rfl) (by kernel_rfl) (fun _ _ _ h => h) hD (Below.refl _ _) (.inr ⟨by kernel_rfl, rfl⟩) ?_
      clear hD; intro hD
      simp only [Act.put, sqA, sqB, sqC]
      refine wpAnyK_pureD (i := 12) (d := some 51) (v := ?v8_12b4) (fuel := 0) rfl (by kernel_rfl) (by kernel_rfl) (fun _ _ _ h => h) hD (Below.refl _ _) (.inl ⟨by kernel_rfl, ?y8_12b4⟩) ?n8_12b4
      case y8_12b4 => intro w' _; go_simp; with_reducible rfl
      clear hD; intro hD
      simp only [Act.put, sqA, sqB, sqC]
      refine wpAnyK_done (by kernel_rfl) ?_ 0
      clear hD
      have HSX := Lib.hid (HB7.out.trans (((Below.refl w3.heap.size w3).drew.trans (Below.refl _ _)).mono HB7.out.size))
      refine hK8 _ _ ?_
      go_wp2
      go_ret
      exact ⟨rfl, HSX.out⟩
    · have hel := empty_nS (n := m - 1) (by omega)
      obtain ⟨l, hl⟩ : ∃ l, nS (m - 1) = l := ⟨_, rfl⟩
      rw [hl] at HSB HDM hel
      by_cases ho1 : o = 1
      · have hg : cmpI o 2 < 0 := by rw [ho1]; decide
        obtain ⟨c, hc⟩ : ∃ c, cmpI o 2 = c := ⟨_, rfl⟩
        rw [hc] at hg HCM
        rw [if_pos (.inr (.inl ho1))]
        clear HSL HSG HDM h1 hm ho8 ho hm1 hl hc ho1
        go_enter Tryz.func60, Tryz.ntmps60
        have HX0 := Lib.hid (Bx2.new w (.string s) (.string t) 24)
        have HB0 := Lib.hid ((Below.refl w.heap.size w).alloc (Nat.le_refl _) (.cells #[.string s, .string t] 24))
        obtain ⟨W0, hW0⟩ : ∃ W0, w.alloc (.cells #[.string s, .string t] 24) = W0 := ⟨_, rfl⟩
        rw [hW0] at HX0 HB0
        have HW0 := Lib.hid hW0
        clear hW0
        go_wp2_with fail
        rw [HW0.out]
        refine (HV1.out _).mono ?_
        rintro e w1 ⟨rfl, rfl⟩
        have c0 := HX0.out.c0
        have c1 := HX0.out.c1
        go_wp2_with fail
        refine (HV2.out _).mono ?_
        rintro e w1 ⟨rfl, rfl⟩
        go_wp2
        have d0 : W0.drew.cell? ⟨w.heap.size, 0, none⟩ = some (.string s) := c0
        have d1 : W0.drew.cell? ⟨w.heap.size, 1, none⟩ = some (.string t) := c1
        rename_i K7 hK7
        refine wp_onlyN ?_
        refine wp_region_K 9 (Below (W0.drew).heap.size (W0.drew)) (by kernel_rfl) ?_
        intro hD
        refine wpAnyK_pureD (i := 0) (d := some 33) (v := ?v7_0b5) (fuel := 8) rfl (by kernel_rfl) (by kernel_rfl) (fun _ _ _ h => h) hD (Below.refl _ _) (.inl ⟨by kernel_rfl, ?y7_0b5⟩) ?n7_0b5
        case y7_0b5 => intro w' _; go_simp; with_reducible rfl
        clear hD; intro hD
        simp only [Act.put, sqA, sqB, sqC]
        refine wpAnyK_takeSD (i := 1) (d := some 34) (v := ?v7_1b5) (fuel := 7) rfl (by kernel_rfl) (by kernel_rfl) (by kernel_rfl) (fun _ _ _ h => h) hD (Below.refl _ _) (.inl ⟨by kernel_rfl, ?y7_1b5⟩) ?n7_1b5
        case y7_1b5 => intro w' hS'; have e0 := cell_kept hS' (Nat.le_refl _) d0; have e1 := cell_kept hS' (Nat.le_refl _) d1; go_simp; with_reducible rfl
        clear hD; intro hD
        simp only [Act.put, sqA, sqB, sqC]
        refine wpAnyK_one (i := 2) (fuel := 6) (by kernel_rfl) rfl hD ?_
        clear hD; intro K2 hK2
        go_wp2_with fail
        refine (HO1.out _).mono ?_
        rintro e w2 ⟨rfl, hb⟩
        have HB2 := Lib.hid hb
        clear hb
        go_wp2
        refine hK2 _ _ (by exact HB2.out) ?_; clear hK2; intro hS_7_2 hD
        refine wpAnyK_one (i := 3) (fuel := 5) (by kernel_rfl) rfl hD ?_
        clear hD; intro K3 hK3
        go_wp2_with fail
        refine (HSB.out _).mono ?_
        rintro e w3 ⟨rfl, hb⟩
        have HB3 := Lib.hid hb
        clear hb
        go_wp2
        refine hK3 _ _ (by exact Below.trans hS_7_2 (Below.mono HB3.out (Below.size hS_7_2))) ?_; clear hK3; intro hS_7_3 hD
        refine wpAnyK_pureD (i := 4) (d := some 32) (v := ?v7_4b5) (fuel := 4) rfl (by kernel_rfl) (by kernel_rfl) (fun _ _ _ h => h) hD hS_7_3 (.inl ⟨by kernel_rfl, ?y7_4b5⟩) ?n7_4b5
        case y7_4b5 => intro w' _; go_simp; with_reducible rfl
        clear hD; intro hD
        simp only [Act.put, sqA, sqB, sqC]
        refine wpAnyK_pureD (i := 5) (d := some 37) (v := ?v7_5b5) (fuel := 3) rfl (by kernel_rfl) (by kernel_rfl) (fun _ _ _ h => h) hD hS_7_3 (.inl ⟨by kernel_rfl, ?y7_5b5⟩) ?n7_5b5
        case y7_5b5 => intro w' _; go_simp; with_reducible rfl
        clear hD; intro hD
        simp only [Act.put, sqA, sqB, sqC]
        refine wpAnyK_pureD (i := 6) (d := some 38) (v := ?v7_6b5) (fuel := 2) rfl (by kernel_rfl) (by kernel_rfl) (fun _ _ _ h => h) hD hS_7_3 (.inl ⟨by kernel_rfl, ?y7_6b5⟩) ?n7_6b5
        case y7_6b5 => intro w' _; go_simp; with_reducible rfl
        clear hD; intro hD
        simp only [Act.put, sqA, sqB, sqC]
        refine wpAnyK_one (i := 7) (fuel := 1) (by kernel_rfl) rfl hD ?_
        clear hD; intro K7 hK7
        go_wp2
        refine hK7 _ _ (by exact hS_7_3) ?_; clear hK7; intro hS_7_7 hD
        refine wpAnyK_one (i := 8) (fuel := 0) (by kernel_rfl) rfl hD ?_
        clear hD; intro K8 hK8
        go_wp2
        refine hK8 _ _ (by exact hS_7_7) ?_; clear hK8; intro hS_7_8 hD
        refine wpAnyK_done (by kernel_rfl) ?_ 0
        clear hD d0 d1
        have hS7 := (Below.refl W0.heap.size W0).drew.trans hS_7_8
        have HX7 := Lib.hid (HX0.out.next hS7)
        have HB7 := Lib.hid (HB0.out.trans (hS7.mono HB0.out.size))
        clear hS7
        refine hK7 _ _ ?_
        have e0 : w3.drew.cell? ⟨w.heap.size, 0, none⟩ = some (.string s) := HX7.out.c0
        have e1 : w3.drew.cell? ⟨w.heap.size, 1, none⟩ = some (.string t) := HX7.out.c1
        clear c0 c1
        go_wp2
        rename_i K8 hK8
        refine wp_onlyN ?_
        refine wp_region_K 13 (Below (w3.drew).heap.size (w3.drew)) (by kernel_rfl) ?_
        intro hD
        refine wpAnyK_pureD (i := 0) (d := some 39) (v := ?v8_0b6) (fuel := 12) rfl (by kernel_rfl) (by kernel_rfl) (fun _ _ _ h => h) hD (Below.refl _ _) (.inl ⟨by kernel_rfl, ?y8_0b6⟩) ?n8_0b6
        case y8_0b6 => intro w' _; go_simp; with_reducible rfl
        clear hD; intro hD
        simp only [Act.put, sqA, sqB, sqC]
        refine wpAnyK_pureD (i := 1) (d := some 40) (v := ?v8_1b6) (fuel := 11) rfl (by kernel_rfl) (by kernel_rfl) (fun _ _ _ h => h) hD (Below.refl _ _) (.inl ⟨by kernel_rfl, ?y8_1b6⟩) ?n8_1b6
        case y8_1b6 => intro w' _; go_simp; with_reducible rfl
        clear hD; intro hD
        simp only [Act.put, sqA, sqB, sqC]
        refine wpAnyK_pureD (i := 2) (d := some 41) (v := ?v8_2b6) (fuel := 10) rfl (by kernel_rfl) (by kernel_rfl) (fun _ _ _ h => h) hD (Below.refl _ _) (.inl ⟨by kernel_rfl, ?y8_2b6⟩) ?n8_2b6
        case y8_2b6 => intro w' _; go_simp; with_reducible rfl
        clear hD; intro hD
        simp only [Act.put, sqA, sqB, sqC]
        refine wpAnyK_pureD (i := 3) (d := some 42) (v := ?v8_3b6) (fuel := 9) rfl (by kernel_rfl) (by kernel_rfl) (fun _ _ _ h => h) hD (Below.refl _ _) (.inl ⟨by kernel_rfl, ?y8_3b6⟩) ?n8_3b6
        case y8_3b6 => intro w' _; go_simp; with_reducible rfl
        clear hD; intro hD
        simp only [Act.put, sqA, sqB, sqC]
        refine wpAnyK_pureD (i := 4) (d := some 43) (v := ?v8_4b6) (fuel := 8) rfl (by kernel_rfl) (by kernel_rfl) (fun _ _ _ h => h) hD (Below.refl _ _) (.inl ⟨by kernel_rfl, ?y8_4b6⟩) ?n8_4b6
        case y8_4b6 => intro w' _; go_simp; with_reducible rfl
        clear hD; intro hD
        simp only [Act.put, sqA, sqB, sqC]
        refine wpAnyK_pureD (i := 5) (d := some 44) (v := ?v8_5b6) (fuel := 7) rfl (by kernel_rfl) (by kernel_rfl) (fun _ _ _ h => h) hD (Below.refl _ _) (.inl ⟨by kernel_rfl, ?y8_5b6⟩) ?n8_5b6
        case y8_5b6 => intro w' _; go_simp; with_reducible rfl
        clear hD; intro hD
        simp only [Act.put, sqA, sqB, sqC]
        refine wpAnyK_pureD (i := 6) (d := some 45) (v := ?v8_6b6) (fuel := 6) rfl (by kernel_rfl) (by kernel_rfl) (fun _ _ _ h => h) hD (Below.refl _ _) (.inl ⟨by kernel_rfl, ?y8_6b6⟩) ?n8_6b6
        case y8_6b6 => intro w' _; go_simp; with_reducible rfl
        clear hD; intro hD
        simp only [Act.put, sqA, sqB, sqC]
        refine wpAnyK_pureD (i := 7) (d := some 46) (v := ?v8_7b6) (fuel := 5) rfl (by kernel_rfl) (by kernel_rfl) (fun _ _ _ h => h) hD (Below.refl _ _) (.inl ⟨by kernel_rfl, ?y8_7b6⟩) ?n8_7b6
        case y8_7b6 => intro w' _; go_simp; with_reducible rfl
        clear hD; intro hD
        simp only [Act.put, sqA, sqB, sqC]
        refine wpAnyK_takeSD (i := 8) (d := some 47) (v := ?v8_8b6) (fuel := 4) rfl (by kernel_rfl) (by kernel_rfl) (by kernel_rfl) (fun _ _ _ h => h) hD (Below.refl _ _) (.inl ⟨by kernel_rfl, ?y8_8b6⟩) ?n8_8b6
        case y8_8b6 => intro w' hS'; have e0 := cell_kept hS' (Nat.le_refl _) e0; have e1 := cell_kept hS' (Nat.le_refl _) e1; go_simp; with_reducible rfl
        clear hD; intro hD
        simp only [Act.put, sqA, sqB, sqC]
        refine wpAnyK_one (i := 9) (fuel := 3) (by kernel_rfl) rfl hD ?_
        clear hD; intro K9 hK9
        go_wp2_with fail
        refine (HO2.out _).mono ?_
        rintro e w9 ⟨rfl, hb⟩
        have HB9 := Lib.hid hb
        clear hb
        go_wp2
        refine hK9 _ _ (by exact HB9.out) ?_; clear hK9; intro hS_8_9 hD
        refine wpAnyK_one (i := 10) (fuel := 2) (by kernel_rfl) rfl hD ?_
        clear hD; intro K10 hK10
        go_wp2_with fail
        refine (HCM.out _).mono ?_
        rintro e w10 ⟨rfl, rfl⟩
        have HB10 := Lib.hid (Below.refl w9.heap.size w9)
        go_wp2
        refine hK10 _ _ (by exact Below.trans hS_8_9 (Below.mono HB10.out (Below.size hS_8_9))) ?_; clear hK10; intro hS_8_10 hD
        refine wpAnyK_pureD (i := 11) (d := some 50) (v := ?v8_11b6) (fuel := 1) rfl (by kernel_rfl) (by kernel_rfl) (fun _ _ _ h => h) hD hS_8_10 (.inl ⟨by kernel_rfl, ?y8_11b6⟩) ?n8_11b6
        case y8_11b6 => intro w' _; go_simp; with_reducible rfl
        clear hD; intro hD
        simp only [Act.put, sqA, sqB, sqC]
        refine wpAnyK_pureD (i := 12) (d := some 51) (v := ?v8_12b6) (fuel := 0) rfl (by kernel_rfl) (by kernel_rfl) (fun _ _ _ h => h) hD hS_8_10 (.inl ⟨by kernel_rfl, ?y8_12b6⟩) ?n8_12b6
        case y8_12b6 => intro w' _; go_simp; with_reducible rfl
        clear hD; intro hD
        simp only [Act.put, sqA, sqB, sqC]
        refine wpAnyK_done (by kernel_rfl) ?_ 0
        clear hD
        have HSX := Lib.hid (HB7.out.trans (((Below.refl w3.heap.size w3).drew.trans hS_8_10).mono HB7.out.size))
        refine hK8 _ _ ?_
        go_wp2
        go_ret
        exact ⟨rfl, HSX.out⟩
      · have hg := cmpI_nonneg (x := o) (y := 2) (by omega)
        obtain ⟨c, hc⟩ : ∃ c, cmpI o 2 = c := ⟨_, rfl⟩
        rw [hc] at hg HCM
        by_cases hr : (m - 1) % o = 0
        · rw [if_neg (by omega)]
          rw [hr, nS_zero] at HDM
          clear HSL HSG h1 hm ho8 ho hm1 hl hc ho1 hr
          go_enter Tryz.func60, Tryz.ntmps60
          have HX0 := Lib.hid (Bx2.new w (.string s) (.string t) 24)
          have HB0 := Lib.hid ((Below.refl w.heap.size w).alloc (Nat.le_refl _) (.cells #[.string s, .string t] 24))
          obtain ⟨W0, hW0⟩ : ∃ W0, w.alloc (.cells #[.string s, .string t] 24) = W0 := ⟨_, rfl⟩
          rw [hW0] at HX0 HB0
          have HW0 := Lib.hid hW0
          clear hW0
          go_wp2_with fail
          rw [HW0.out]
          refine (HV1.out _).mono ?_
          rintro e w1 ⟨rfl, rfl⟩
          have c0 := HX0.out.c0
          have c1 := HX0.out.c1
          go_wp2_with fail
          refine (HV2.out _).mono ?_
          rintro e w1 ⟨rfl, rfl⟩
          go_wp2
          have d0 : W0.drew.cell? ⟨w.heap.size, 0, none⟩ = some (.string s) := c0
          have d1 : W0.drew.cell? ⟨w.heap.size, 1, none⟩ = some (.string t) := c1
          rename_i K7 hK7
          refine wp_onlyN ?_
          refine wp_region_K 9 (Below (W0.drew).heap.size (W0.drew)) (by kernel_rfl) ?_
          intro hD
          refine wpAnyK_pureD (i := 0) (d := some 33) (v := ?v7_0b7) (fuel := 8) rfl (by kernel_rfl) (by kernel_rfl) (fun _ _ _ h => h) hD (Below.refl _ _) (.inl ⟨by kernel_rfl, ?y7_0b7⟩) ?n7_0b7
          case y7_0b7 => intro w' _; go_simp; with_reducible rfl
          clear hD; intro hD
          simp only [Act.put, sqA, sqB, sqC]
          refine wpAnyK_takeSD (i := 1) (d := some 34) (v := ?v7_1b7) (fuel := 7) rfl (by kernel_rfl) (by kernel_rfl) (by kernel_rfl) (fun _ _ _ h => h) hD (Below.refl _ _) (.inl ⟨by kernel_rfl, ?y7_1b7⟩) ?n7_1b7
          case y7_1b7 => intro w' hS'; have e0 := cell_kept hS' (Nat.le_refl _) d0; have e1 := cell_kept hS' (Nat.le_refl _) d1; go_simp; with_reducible rfl
          clear hD; intro hD
          simp only [Act.put, sqA, sqB, sqC]
          refine wpAnyK_one (i := 2) (fuel := 6) (by kernel_rfl) rfl hD ?_
          clear hD; intro K2 hK2
          go_wp2_with fail
          refine (HO1.out _).mono ?_
          rintro e w2 ⟨rfl, hb⟩
          have HB2 := Lib.hid hb
          clear hb
          go_wp2
          refine hK2 _ _ (by exact HB2.out) ?_; clear hK2; intro hS_7_2 hD
          refine wpAnyK_one (i := 3) (fuel := 5) (by kernel_rfl) rfl hD ?_
          clear hD; intro K3 hK3
          go_wp2_with fail
          refine (HSB.out _).mono ?_
          rintro e w3 ⟨rfl, hb⟩
          have HB3 := Lib.hid hb
          clear hb
          go_wp2
          refine hK3 _ _ (by exact Below.trans hS_7_2 (Below.mono HB3.out (Below.size hS_7_2))) ?_; clear hK3; intro hS_7_3 hD
          refine wpAnyK_pureD (i := 4) (d := some 32) (v := ?v7_4b7) (fuel := 4) rfl (by kernel_rfl) (by kernel_rfl) (fun _ _ _ h => h) hD hS_7_3 (.inl ⟨by kernel_rfl, ?y7_4b7⟩) ?n7_4b7
          case y7_4b7 => intro w' _; go_simp; with_reducible rfl
          clear hD; intro hD
          simp only [Act.put, sqA, sqB, sqC]
          refine wpAnyK_pureD (i := 5) (d := some 37) (v := ?v7_5b7) (fuel := 3) rfl (by kernel_rfl) (by kernel_rfl) (fun _ _ _ h => h) hD hS_7_3 (.inl ⟨by kernel_rfl, ?y7_5b7⟩) ?n7_5b7
          case y7_5b7 => intro w' _; go_simp; with_reducible rfl
          clear hD; intro hD
          simp only [Act.put, sqA, sqB, sqC]
          refine wpAnyK_pureD (i := 6) (d := some 38) (v := ?v7_6b7) (fuel := 2) rfl (by kernel_rfl) (by kernel_rfl) (fun _ _ _ h => h) hD hS_7_3 (.inl ⟨by kernel_rfl, ?y7_6b7⟩) ?n7_6b7
          case y7_6b7 => intro w' _; go_simp; with_reducible rfl
          clear hD; intro hD
          simp only [Act.put, sqA, sqB, sqC]
          refine wpAnyK_one (i := 7) (fuel := 1) (by kernel_rfl) rfl hD ?_
          clear hD; intro K7 hK7
          go_wp2
          refine hK7 _ _ (by exact hS_7_3) ?_; clear hK7; intro hS_7_7 hD
          refine wpAnyK_one (i := 8) (fuel := 0) (by kernel_rfl) rfl hD ?_
          clear hD; intro K8 hK8
          go_wp2
          refine hK8 _ _ (by exact hS_7_7) ?_; clear hK8; intro hS_7_8 hD
          refine wpAnyK_done (by kernel_rfl) ?_ 0
          clear hD d0 d1
          have hS7 := (Below.refl W0.heap.size W0).drew.trans hS_7_8
          have HX7 := Lib.hid (HX0.out.next hS7)
          have HB7 := Lib.hid (HB0.out.trans (hS7.mono HB0.out.size))
          clear hS7
          refine hK7 _ _ ?_
          have e0 : w3.drew.cell? ⟨w.heap.size, 0, none⟩ = some (.string s) := HX7.out.c0
          have e1 : w3.drew.cell? ⟨w.heap.size, 1, none⟩ = some (.string t) := HX7.out.c1
          clear c0 c1
          go_wp2
          rename_i K8 hK8
          refine wp_onlyN ?_
          refine wp_region_K 13 (Below (w3.drew).heap.size (w3.drew)) (by kernel_rfl) ?_
          intro hD
          refine wpAnyK_pureD (i := 0) (d := some 39) (v := ?v8_0b8) (fuel := 12) rfl (by kernel_rfl) (by kernel_rfl) (fun _ _ _ h => h) hD (Below.refl _ _) (.inl ⟨by kernel_rfl, ?y8_0b8⟩) ?n8_0b8
          case y8_0b8 => intro w' _; go_simp; with_reducible rfl
          clear hD; intro hD
          simp only [Act.put, sqA, sqB, sqC]
          refine wpAnyK_pureD (i := 1) (d := some 40) (v := ?v8_1b8) (fuel := 11) rfl (by kernel_rfl) (by kernel_rfl) (fun _ _ _ h => h) hD (Below.refl _ _) (.inl ⟨by kernel_rfl, ?y8_1b8⟩) ?n8_1b8
          case y8_1b8 => intro w' _; go_simp; with_reducible rfl
          clear hD; intro hD
          simp only [Act.put, sqA, sqB, sqC]
          refine wpAnyK_pureD (i := 2) (d := some 41) (v := ?v8_2b8) (fuel := 10) rfl (by kernel_rfl) (by kernel_rfl) (fun _ _ _ h => h) hD (Below.refl _ _) (.inl ⟨by kernel_rfl, ?y8_2b8⟩) ?n8_2b8
          case y8_2b8 => intro w' _; go_simp; with_reducible rfl
          clear hD; intro hD
          simp only [Act.put, sqA, sqB, sqC]
          refine wpAnyK_pureD (i := 3) (d := some 42) (v := ?v8_3b8) (fuel := 9) rfl (by kernel_rfl) (by kernel_rfl) (fun _ _ _ h => h) hD (Below.refl _ _) (.inl ⟨by kernel_rfl, ?y8_3b8⟩) ?n8_3b8
          case y8_3b8 => intro w' _; go_simp; with_reducible rfl
          clear hD; intro hD
          simp only [Act.put, sqA, sqB, sqC]
          refine wpAnyK_pureD (i := 4) (d := some 43) (v := ?v8_4b8) (fuel := 8) rfl (by kernel_rfl) (by kernel_rfl) (fun _ _ _ h => h) hD (Below.refl _ _) (.inl ⟨by kernel_rfl, ?y8_4b8⟩) ?n8_4b8
          case y8_4b8 => intro w' _; go_simp; with_reducible rfl
          clear hD; intro hD
          simp only [Act.put, sqA, sqB, sqC]
          refine wpAnyK_pureD (i := 5) (d := some 44) (v := ?v8_5b8) (fuel := 7) rfl (by kernel_rfl) (by kernel_rfl) (fun _ _ _ h => h) hD (Below.refl _ _) (.inl ⟨by kernel_rfl, ?y8_5b8⟩) ?n8_5b8
          case y8_5b8 => intro w' _; go_simp; with_reducible rfl
          clear hD; intro hD
          simp only [Act.put, sqA, sqB, sqC]
          refine wpAnyK_pureD (i := 6) (d := some 45) (v := ?v8_6b8) (fuel := 6) rfl (by kernel_rfl) (by kernel_rfl) (fun _ _ _ h => h) hD (Below.refl _ _) (.inl ⟨by kernel_rfl, ?y8_6b8⟩) ?n8_6b8
          case y8_6b8 => intro w' _; go_simp; with_reducible rfl
          clear hD; intro hD
          simp only [Act.put, sqA, sqB, sqC]
          refine wpAnyK_pureD (i := 7) (d := some 46) (v := ?v8_7b8) (fuel := 5) rfl (by kernel_rfl) (by kernel_rfl) (fun _ _ _ h => h) hD (Below.refl _ _) (.inl ⟨by kernel_rfl, ?y8_7b8⟩) ?n8_7b8
          case y8_7b8 => intro w' _; go_simp; with_reducible rfl
          clear hD; intro hD
          simp only [Act.put, sqA, sqB, sqC]
          refine wpAnyK_takeSD (i := 8) (d := some 47) (v := ?v8_8b8) (fuel := 4) rfl (by kernel_rfl) (by kernel_rfl) (by kernel_rfl) (fun _ _ _ h => h) hD (Below.refl _ _) (.inl ⟨by kernel_rfl, ?y8_8b8⟩) ?n8_8b8
          case y8_8b8 => intro w' hS'; have e0 := cell_kept hS' (Nat.le_refl _) e0; have e1 := cell_kept hS' (Nat.le_refl _) e1; go_simp; with_reducible rfl
          clear hD; intro hD
          simp only [Act.put, sqA, sqB, sqC]
          refine wpAnyK_one (i := 9) (fuel := 3) (by kernel_rfl) rfl hD ?_
          clear hD; intro K9 hK9
          go_wp2_with fail
          refine (HO2.out _).mono ?_
          rintro e w9 ⟨rfl, hb⟩
          have HB9 := Lib.hid hb
          clear hb
          go_wp2
          refine hK9 _ _ (by exact HB9.out) ?_; clear hK9; intro hS_8_9 hD
          refine wpAnyK_one (i := 10) (fuel := 2) (by kernel_rfl) rfl hD ?_
          clear hD; intro K10 hK10
          go_wp2_with fail
          refine (HCM.out _).mono ?_
          rintro e w10 ⟨rfl, rfl⟩
          have HB10 := Lib.hid (Below.refl w9.heap.size w9)
          go_wp2
          refine hK10 _ _ (by exact Below.trans hS_8_9 (Below.mono HB10.out (Below.size hS_8_9))) ?_; clear hK10; intro hS_8_10 hD
          refine wpAnyK_pureD (i := 11) (d := some 50) (v := ?v8_11b8) (fuel := 1) rfl (by kernel_rfl) (by kernel_rfl) (fun _ _ _ h => h) hD hS_8_10 (.inl ⟨by kernel_rfl, ?y8_11b8⟩) ?n8_11b8
          case y8_11b8 => intro w' _; go_simp; with_reducible rfl
          clear hD; intro hD
          simp only [Act.put, sqA, sqB, sqC]
          refine wpAnyK_pureD (i := 12) (d := some 51) (v := ?v8_12b8) (fuel := 0) rfl (by kernel_rfl) (by kernel_rfl) (fun _ _ _ h => h) hD hS_8_10 (.inl ⟨by kernel_rfl, ?y8_12b8⟩) ?n8_12b8
          case y8_12b8 => intro w' _; go_simp; with_reducible rfl
          clear hD; intro hD
          simp only [Act.put, sqA, sqB, sqC]
          refine wpAnyK_done (by kernel_rfl) ?_ 0
          clear hD
          have HSX := Lib.hid (HB7.out.trans (((Below.refl w3.heap.size w3).drew.trans hS_8_10).mono HB7.out.size))
          refine hK8 _ _ ?_
          have hx9 : Bx2 w9 w.heap.size (.string s) (.string t) 24 := (HX7.out.next (Below.refl _ _).drew).next HB9.out
          have f1 := hx9.c1
          clear hx9 e0 e1
          go_wp2_with fail
          refine (HDM.out _).mono ?_
          rintro e w11 ⟨rfl, hb⟩
          have HB11 := Lib.hid (HSX.out.trans (hb.mono HSX.out.size))
          clear hb
          go_wp2
          go_ret
          exact ⟨rfl, HB11.out⟩
        · rw [if_pos (.inr (.inr hr))]
          have her := empty_nS (Nat.pos_of_ne_zero hr)
          clear HSL HSG h1 hm ho8 ho hm1 hl hc ho1 hr
          go_enter Tryz.func60, Tryz.ntmps60
          have HX0 := Lib.hid (Bx2.new w (.string s) (.string t) 24)
          have HB0 := Lib.hid ((Below.refl w.heap.size w).alloc (Nat.le_refl _) (.cells #[.string s, .string t] 24))
          obtain ⟨W0, hW0⟩ : ∃ W0, w.alloc (.cells #[.string s, .string t] 24) = W0 := ⟨_, rfl⟩
          rw [hW0] at HX0 HB0
          have HW0 := Lib.hid hW0
          clear hW0
          go_wp2_with fail
          rw [HW0.out]
          refine (HV1.out _).mono ?_
          rintro e w1 ⟨rfl, rfl⟩
          have c0 := HX0.out.c0
          have c1 := HX0.out.c1
          go_wp2_with fail
          refine (HV2.out _).mono ?_
          rintro e w1 ⟨rfl, rfl⟩
          go_wp2
          have d0 : W0.drew.cell? ⟨w.heap.size, 0, none⟩ = some (.string s) := c0
          have d1 : W0.drew.cell? ⟨w.heap.size, 1, none⟩ = some (.string t) := c1
          rename_i K7 hK7
          refine wp_onlyN ?_
          refine wp_region_K 9 (Below (W0.drew).heap.size (W0.drew)) (by kernel_rfl) ?_
          intro hD
          refine wpAnyK_pureD (i := 0) (d := some 33) (v := ?v7_0b9) (fuel := 8) rfl (by kernel_rfl) (by kernel_rfl) (fun _ _ _ h => h) hD (Below.refl _ _) (.inl ⟨by kernel_rfl, ?y7_0b9⟩) ?n7_0b9
          case y7_0b9 => intro w' _; go_simp; with_reducible rfl
          clear hD; intro hD
          simp only [Act.put, sqA, sqB, sqC]
          refine wpAnyK_takeSD (i := 1) (d := some 34) (v := ?v7_1b9) (fuel := 7) rfl (by kernel_rfl) (by kernel_rfl) (by kernel_rfl) (fun _ _ _ h => h) hD (Below.refl _ _) (.inl ⟨by kernel_rfl, ?y7_1b9⟩) ?n7_1b9
          case y7_1b9 => intro w' hS'; have e0 := cell_kept hS' (Nat.le_refl _) d0; have e1 := cell_kept hS' (Nat.le_refl _) d1; go_simp; with_reducible rfl
          clear hD; intro hD
          simp only [Act.put, sqA, sqB, sqC]
          refine wpAnyK_one (i := 2) (fuel := 6) (by kernel_rfl) rfl hD ?_
          clear hD; intro K2 hK2
          go_wp2_with fail
          refine (HO1.out _).mono ?_
          rintro e w2 ⟨rfl, hb⟩
          have HB2 := Lib.hid hb
          clear hb
          go_wp2
          refine hK2 _ _ (by exact HB2.out) ?_; clear hK2; intro hS_7_2 hD
          refine wpAnyK_one (i := 3) (fuel := 5) (by kernel_rfl) rfl hD ?_
          clear hD; intro K3 hK3
          go_wp2_with fail
          refine (HSB.out _).mono ?_
          rintro e w3 ⟨rfl, hb⟩
          have HB3 := Lib.hid hb
          clear hb
          go_wp2
          refine hK3 _ _ (by exact Below.trans hS_7_2 (Below.mono HB3.out (Below.size hS_7_2))) ?_; clear hK3; intro hS_7_3 hD
          refine wpAnyK_pureD (i := 4) (d := some 32) (v := ?v7_4b9) (fuel := 4) rfl (by kernel_rfl) (by kernel_rfl) (fun _ _ _ h => h) hD hS_7_3 (.inl ⟨by kernel_rfl, ?y7_4b9⟩) ?n7_4b9
          case y7_4b9 => intro w' _; go_simp; with_reducible rfl
          clear hD; intro hD
          simp only [Act.put, sqA, sqB, sqC]
          refine wpAnyK_pureD (i := 5) (d := some 37) (v := ?v7_5b9) (fuel := 3) rfl (by kernel_rfl) (by kernel_rfl) (fun _ _ _ h => h) hD hS_7_3 (.inl ⟨by kernel_rfl, ?y7_5b9⟩) ?n7_5b9
          case y7_5b9 => intro w' _; go_simp; with_reducible rfl
          clear hD; intro hD
          simp only [Act.put, sqA, sqB, sqC]
          refine wpAnyK_pureD (i := 6) (d := some 38) (v := ?v7_6b9) (fuel := 2) rfl (by kernel_rfl) (by kernel_rfl) (fun _ _ _ h => h) hD hS_7_3 (.inl ⟨by kernel_rfl, ?y7_6b9⟩) ?n7_6b9
          case y7_6b9 => intro w' _; go_simp; with_reducible rfl
          clear hD; intro hD
          simp only [Act.put, sqA, sqB, sqC]
          refine wpAnyK_one (i := 7) (fuel := 1) (by kernel_rfl) rfl hD ?_
          clear hD; intro K7 hK7
          go_wp2
          refine hK7 _ _ (by exact hS_7_3) ?_; clear hK7; intro hS_7_7 hD
          refine wpAnyK_one (i := 8) (fuel := 0) (by kernel_rfl) rfl hD ?_
          clear hD; intro K8 hK8
          go_wp2
          refine hK8 _ _ (by exact hS_7_7) ?_; clear hK8; intro hS_7_8 hD
          refine wpAnyK_done (by kernel_rfl) ?_ 0
          clear hD d0 d1
          have hS7 := (Below.refl W0.heap.size W0).drew.trans hS_7_8
          have HX7 := Lib.hid (HX0.out.next hS7)
          have HB7 := Lib.hid (HB0.out.trans (hS7.mono HB0.out.size))
          clear hS7
          refine hK7 _ _ ?_
          have e0 : w3.drew.cell? ⟨w.heap.size, 0, none⟩ = some (.string s) := HX7.out.c0
          have e1 : w3.drew.cell? ⟨w.heap.size, 1, none⟩ = some (.string t) := HX7.out.c1
          clear c0 c1
          go_wp2
          rename_i K8 hK8
          refine wp_onlyN ?_
          refine wp_region_K 13 (Below (w3.drew).heap.size (w3.drew)) (by kernel_rfl) ?_
          intro hD
          refine wpAnyK_pureD (i := 0) (d := some 39) (v := ?v8_0b10) (fuel := 12) rfl (by kernel_rfl) (by kernel_rfl) (fun _ _ _ h => h) hD (Below.refl _ _) (.inl ⟨by kernel_rfl, ?y8_0b10⟩) ?n8_0b10
          case y8_0b10 => intro w' _; go_simp; with_reducible rfl
          clear hD; intro hD
          simp only [Act.put, sqA, sqB, sqC]
          refine wpAnyK_pureD (i := 1) (d := some 40) (v := ?v8_1b10) (fuel := 11) rfl (by kernel_rfl) (by kernel_rfl) (fun _ _ _ h => h) hD (Below.refl _ _) (.inl ⟨by kernel_rfl, ?y8_1b10⟩) ?n8_1b10
          case y8_1b10 => intro w' _; go_simp; with_reducible rfl
          clear hD; intro hD
          simp only [Act.put, sqA, sqB, sqC]
          refine wpAnyK_pureD (i := 2) (d := some 41) (v := ?v8_2b10) (fuel := 10) rfl (by kernel_rfl) (by kernel_rfl) (fun _ _ _ h => h) hD (Below.refl _ _) (.inl ⟨by kernel_rfl, ?y8_2b10⟩) ?n8_2b10
          case y8_2b10 => intro w' _; go_simp; with_reducible rfl
          clear hD; intro hD
          simp only [Act.put, sqA, sqB, sqC]
          refine wpAnyK_pureD (i := 3) (d := some 42) (v := ?v8_3b10) (fuel := 9) rfl (by kernel_rfl) (by kernel_rfl) (fun _ _ _ h => h) hD (Below.refl _ _) (.inl ⟨by kernel_rfl, ?y8_3b10⟩) ?n8_3b10
          case y8_3b10 => intro w' _; go_simp; with_reducible rfl
          clear hD; intro hD
          simp only [Act.put, sqA, sqB, sqC]
          refine wpAnyK_pureD (i := 4) (d := some 43) (v := ?v8_4b10) (fuel := 8) rfl (by kernel_rfl) (by kernel_rfl) (fun _ _ _ h => h) hD (Below.refl _ _) (.inl ⟨by kernel_rfl, ?y8_4b10⟩) ?n8_4b10
          case y8_4b10 => intro w' _; go_simp; with_reducible rfl
          clear hD; intro hD
          simp only [Act.put, sqA, sqB, sqC]
          refine wpAnyK_pureD (i := 5) (d := some 44) (v := ?v8_5b10) (fuel := 7) rfl (by kernel_rfl) (by kernel_rfl) (fun _ _ _ h => h) hD (Below.refl _ _) (.inl ⟨by kernel_rfl, ?y8_5b10⟩) ?n8_5b10
          case y8_5b10 => intro w' _; go_simp; with_reducible rfl
          clear hD; intro hD
          simp only [Act.put, sqA, sqB, sqC]
          refine wpAnyK_pureD (i := 6) (d := some 45) (v := ?v8_6b10) (fuel := 6) rfl (by kernel_rfl) (by kernel_rfl) (fun _ _ _ h => h) hD (Below.refl _ _) (.inl ⟨by kernel_rfl, ?y8_6b10⟩) ?n8_6b10
          case y8_6b10 => intro w' _; go_simp; with_reducible rfl
          clear hD; intro hD
          simp only [Act.put, sqA, sqB, sqC]
          refine wpAnyK_pureD (i := 7) (d := some 46) (v := ?v8_7b10) (fuel := 5) rfl (by kernel_rfl) (by kernel_rfl) (fun _ _ _ h => h) hD (Below.refl _ _) (.inl ⟨by kernel_rfl, ?y8_7b10⟩) ?n8_7b10
          case y8_7b10 => intro w' _; go_simp; with_reducible rfl
          clear hD; intro hD
          simp only [Act.put, sqA, sqB, sqC]
          refine wpAnyK_takeSD (i := 8) (d := some 47) (v := ?v8_8b10) (fuel := 4) rfl (by kernel_rfl) (by kernel_rfl) (by kernel_rfl) (fun _ _ _ h => h) hD (Below.refl _ _) (.inl ⟨by kernel_rfl, ?y8_8b10⟩) ?n8_8b10
          case y8_8b10 => intro w' hS'; have e0 := cell_kept hS' (Nat.le_refl _) e0; have e1 := cell_kept hS' (Nat.le_refl _) e1; go_simp; with_reducible rfl
          clear hD; intro hD
          simp only [Act.put, sqA, sqB, sqC]
          refine wpAnyK_one (i := 9) (fuel := 3) (by kernel_rfl) rfl hD ?_
          clear hD; intro K9 hK9
          go_wp2_with fail
          refine (HO2.out _).mono ?_
          rintro e w9 ⟨rfl, hb⟩
          have HB9 := Lib.hid hb
          clear hb
          go_wp2
          refine hK9 _ _ (by exact HB9.out) ?_; clear hK9; intro hS_8_9 hD
          refine wpAnyK_one (i := 10) (fuel := 2) (by kernel_rfl) rfl hD ?_
          clear hD; intro K10 hK10
          go_wp2_with fail
          refine (HCM.out _).mono ?_
          rintro e w10 ⟨rfl, rfl⟩
          have HB10 := Lib.hid (Below.refl w9.heap.size w9)
          go_wp2
          refine hK10 _ _ (by exact Below.trans hS_8_9 (Below.mono HB10.out (Below.size hS_8_9))) ?_; clear hK10; intro hS_8_10 hD
          refine wpAnyK_pureD (i := 11) (d := some 50) (v := ?v8_11b10) (fuel := 1) rfl (by kernel_rfl) (by kernel_rfl) (fun _ _ _ h => h) hD hS_8_10 (.inl ⟨by kernel_rfl, ?y8_11b10⟩) ?n8_11b10
          case y8_11b10 => intro w' _; go_simp; with_reducible rfl
          clear hD; intro hD
          simp only [Act.put, sqA, sqB, sqC]
          refine wpAnyK_pureD (i := 12) (d := some 51) (v := ?v8_12b10) (fuel := 0) rfl (by kernel_rfl) (by kernel_rfl) (fun _ _ _ h => h) hD hS_8_10 (.inl ⟨by kernel_rfl, ?y8_12b10⟩) ?n8_12b10
          case y8_12b10 => intro w' _; go_simp; with_reducible rfl
          clear hD; intro hD
          simp only [Act.put, sqA, sqB, sqC]
          refine wpAnyK_done (by kernel_rfl) ?_ 0
          clear hD
          have HSX := Lib.hid (HB7.out.trans (((Below.refl w3.heap.size w3).drew.trans hS_8_10).mono HB7.out.size))
          refine hK8 _ _ ?_
          have hx9 : Bx2 w9 w.heap.size (.string s) (.string t) 24 := (HX7.out.next (Below.refl _ _).drew).next HB9.out
          have f1 := hx9.c1
          clear hx9 e0 e1
          go_wp2_with fail
          refine (HDM.out _).mono ?_
          rintro e w11 ⟨rfl, hb⟩
          have HB11 := Lib.hid (HSX.out.trans (hb.mono HSX.out.size))
          clear hb
          go_wp2
          go_ret
          exact ⟨rfl, HB11.out⟩
end Go.Proofs.YtndmjfkmnjejkaaGreatDoor

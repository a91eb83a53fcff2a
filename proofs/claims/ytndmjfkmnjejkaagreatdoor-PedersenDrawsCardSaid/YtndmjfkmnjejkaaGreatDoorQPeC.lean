import Derived.Test.YtndmjfkmnjejkaaGreatDoorQGst
import Derived.Test.YtndmjfkmnjejkaaGreatDoorQNatA
import Derived.KernelRfl
set_option linter.unusedVariables false
namespace Go.Proofs.YtndmjfkmnjejkaaGreatDoor
open Go.RowKit
theorem kC {w w' : World} (h : Below w.heap.size w w') {a : Addr} {v : Value} (c : w.cell? a = some v) : w'.cell? a = some v := cell_kept h (Nat.le_refl _) c
section
variable {P : Program} {ops : Array Oper} {Q : Exit → Act → World → Prop} {md : Region.Mode} {S : World → Prop} {k : Nat}
theorem rP {oi : Oper} {v : Value} {listed : Array Bool} {a : Act} {w : World} (i d fuel : Nat) (hi : ops[i]? = some oi) (hD : Down md ops listed) (hS : S w)
 (h : Down md ops (listed.setIfInBounds i true) → wpAnyK P md ops Q k S fuel (listed.setIfInBounds i true) (a.put (some d) v) w)
 (hd : oi.dst = some d := by kernel_rfl) (hst : stepB md ops listed k i = true := by kernel_rfl) (hg : Region.wanted oi (yielded ops a.tmps) = true := by kernel_rfl)
 (hy : ∀ w', True → (execOp a.eval oi).run P w' = .ok (.value v) w' := by intro w' _; go_simp; with_reducible rfl)
 (hQ : ∀ c a w, Q (.panic c) (a.put (some d) v) w → Q (.panic c) a w := by exact fun _ _ _ h => h) : wpAnyK P md ops Q k S (fuel + 1) listed a w :=
 wpAnyK_pureD hi hd hst hQ hD hS (.inl ⟨hg, hy⟩) h
theorem rU {oi : Oper} {listed : Array Bool} {a : Act} {w : World} (i d fuel : Nat) (hi : ops[i]? = some oi) (hD : Down md ops listed) (hS : S w)
 (h : Down md ops (listed.setIfInBounds i true) → wpAnyK P md ops Q k S fuel (listed.setIfInBounds i true) (a.put (some d) undef) w)
 (hd : oi.dst = some d := by kernel_rfl) (hst : stepB md ops listed k i = true := by kernel_rfl) (hg : Region.wanted oi (yielded ops a.tmps) = false := by kernel_rfl)
 (hQ : ∀ c a w, Q (.panic c) (a.put (some d) undef) w → Q (.panic c) a w := by exact fun _ _ _ h => h) : wpAnyK P md ops Q k S (fuel + 1) listed a w :=
 wpAnyK_pureD hi hd hst hQ hD hS (.inr ⟨hg, rfl⟩) h
theorem rT {oi : Oper} {v : Value} {listed : Array Bool} {a : Act} {w : World} (i d fuel : Nat) (hi : ops[i]? = some oi) (hD : Down md ops listed) (hS : S w)
 (hy : ∀ w', S w' → (execOp a.eval oi).run P w' = .ok (.value v) w')
 (h : Down md ops (listed.setIfInBounds i true) → wpAnyK P md ops Q k S fuel (listed.setIfInBounds i true) (a.put (some d) v) w)
 (hd : oi.dst = some d := by kernel_rfl) (hst : stepB md ops listed k i = true := by kernel_rfl) (hre : decide (ops.size ≤ k) = true := by kernel_rfl) (hg : Region.wanted oi (yielded ops a.tmps) = true := by kernel_rfl)
 (hQ : ∀ c a w, Q (.panic c) (a.put (some d) v) w → Q (.panic c) a w := by exact fun _ _ _ h => h) : wpAnyK P md ops Q k S (fuel + 1) listed a w :=
 wpAnyK_takeSD hi hd hst hre hQ hD hS (.inl ⟨hg, hy⟩) h
theorem rO {oi : Oper} {listed : Array Bool} {a : Act} {w : World} (i fuel : Nat) (hi : ops[i]? = some oi) (hD : Down md ops listed)
 (h : ∀ K : Act → World → Prop, (∀ a' w', S w' → (S w' → Down md ops (listed.setIfInBounds i true) → wpAnyK P md ops Q k S fuel (listed.setIfInBounds i true) a' w') → K a' w') → wpList P ops (EndK K Q) [oi] a w)
 (hr : Region.ready md ops listed = [i] := by kernel_rfl) : wpAnyK P md ops Q k S (fuel + 1) listed a w := wpAnyK_one hr hi hD h
end
end Go.Proofs.YtndmjfkmnjejkaaGreatDoor
set_option linter.unusedSimpArgs false
namespace Go.Proofs.YtndmjfkmnjejkaaGreatDoor
set_option maxRecDepth 100000
set_option maxHeartbeats 1000000
open Go.RowKit
def svN : Value → Nat
 | .string s => num s
 | _ => 0
theorem svN_nS (n : Nat) : svN (.string (nS n)) = n := num_nS n
theorem gcd_next {p q G : Nat} (h : Nat.gcd p q = G) : Nat.gcd q (p % q) = G := by rw [← h, Nat.gcd_comm p q, Nat.gcd_rec q p, Nat.gcd_comm]
theorem nat_Gcd (x y : Nat) (hx : x < 18446744073709551616) (hy : y < 18446744073709551616) (w : World) : Calls Tryz.prog 217 #[.string (nS x), .string (nS y)] w (Ret (.tuple #[.string (nS (Nat.gcd x y)), .int .i64 0]) w) := by
 have HV1 := Hq (nat_Valid (nS x) (by have := nS_small_size hx; omega))
 have HV2 := Hq (nat_Valid (nS y) (by have := nS_small_size hy; omega))
 rw [nvalid_nS.2 (lt128_of_lt8 hx)] at HV1
 rw [nvalid_nS.2 (lt128_of_lt8 hy)] at HV2
 have HX := Hq hx
 have HY := Hq hy
 have HD := Hq (fun p q (hp : p < 18446744073709551616) (hq : q < 18446744073709551616) (h0 : 0 < q) => nat_divided p q hp (lt128_of_lt8 hq) h0)
 clear hx hy
 go_enter Tryz.func217, Tryz.ntmps217
 go_wp2_with fail
 refine (HV1.out _).mono ?_
 rintro e w1 ⟨rfl, rfl⟩
 go_wp2_with fail
 refine (HV2.out _).mono ?_
 rintro e w1 ⟨rfl, rfl⟩
 go_wp2
 go_loopw [0, 1] (fun a b wr => ∃ p q : Nat, a = .string (nS p) ∧ b = .string (nS q) ∧ p < 18446744073709551616 ∧ q < 18446744073709551616 ∧ Nat.gcd p q = Nat.gcd x y ∧ Below w.heap.size w wr) (fun _ b _ => svN b)
 case atStart => exact ⟨x, y, rfl, rfl, HX.out, HY.out, rfl, Below.refl _ _⟩
 case round =>
  obtain ⟨p, q, rfl, rfl, hp, hq, hg, hbw⟩ := hrel
  have HBW := Hq hbw
  have HG := Hq hg
  have HP := Hq hp
  have HQ := Hq hq
  clear hbw hg hp hq
  rcases Nat.eq_zero_or_pos q with h0 | h0
  · have HG0 := Hq (show Nat.gcd x y = p from by rw [← HG.out, h0, Nat.gcd_zero_right])
    rw [h0, nS_zero]
    clear h0
    go_wp2
    go_ret2
    exact ⟨by rw [HG0.out]; rfl, HBW.out⟩
  · have hem := empty_nS h0
    have HML := Hq (Nat.mod_lt p h0)
    have HDD := Hq (HD.out p q HP.out HQ.out h0)
    clear h0
    go_wp2_with fail
    refine (HDD.out _).mono ?_
    rintro e w2 ⟨rfl, hb2⟩
    have HB2 := Hq (HBW.out.trans (hb2.mono HBW.out.size))
    clear hb2
    go_wp2
    go_roundw
    case rel => exact ⟨q, p % q, rfl, rfl, HQ.out, Nat.lt_trans HML.out HQ.out, gcd_next HG.out, HB2.out⟩
    case measure => rw [svN_nS, svN_nS]; exact HML.out
theorem r01_Common (x y : Nat) (hx : x < 256 ^ 128) (hy : y < 256 ^ 128) (w : World) : Calls Tryz.prog 193 #[.string (nS x), .string (nS y)] w (Ret (.string (nS (Nat.gcd x y))) w) := by
 have HX := Hq hx
 have HY := Hq hy
 have HD := Hq (fun p q (hp : p < 256 ^ 128) (hq : q < 256 ^ 128) (h0 : 0 < q) => r01_Over p q (Nat.le_trans (nS_size_le.2 hp) (by decide)) (Nat.le_trans (nS_size_le.2 hq) (by decide)) h0)
 clear hx hy
 go_enter Tryz.func193, Tryz.ntmps193
 go_wp2
 go_loopw [0, 1] (fun a b wr => ∃ p q : Nat, a = .string (nS p) ∧ b = .string (nS q) ∧ p < 256 ^ 128 ∧ q < 256 ^ 128 ∧ Nat.gcd p q = Nat.gcd x y ∧ Below w.heap.size w wr) (fun _ b _ => svN b)
 case atStart => exact ⟨x, y, rfl, rfl, HX.out, HY.out, rfl, Below.refl _ _⟩
 case round =>
  obtain ⟨p, q, rfl, rfl, hp, hq, hg, hbw⟩ := hrel
  have HBW := Hq hbw
  have HG := Hq hg
  have HP := Hq hp
  have HQ := Hq hq
  clear hbw hg hp hq
  rcases Nat.eq_zero_or_pos q with h0 | h0
  · have HG0 := Hq (show Nat.gcd x y = p from by rw [← HG.out, h0, Nat.gcd_zero_right])
    rw [h0, nS_zero]
    clear h0
    go_wp2
    go_ret
    exact ⟨by rw [HG0.out]; rfl, HBW.out⟩
  · have hem := empty_nS h0
    have HML := Hq (Nat.mod_lt p h0)
    have HDD := Hq (HD.out p q HP.out HQ.out h0)
    clear h0
    go_wp2_with fail
    refine (HDD.out _).mono ?_
    rintro e w2 ⟨rfl, hb2⟩
    have HB2 := Hq (HBW.out.trans (hb2.mono HBW.out.size))
    clear hb2
    go_wp2
    go_roundw
    case rel => exact ⟨q, p % q, rfl, rfl, HQ.out, Nat.lt_trans HML.out HQ.out, gcd_next HG.out, HB2.out⟩
    case measure => rw [svN_nS, svN_nS]; exact HML.out
theorem rsa_one (w : World) : Calls Tryz.prog 218 #[] w (Ret (.string (nS 1)) w) := by
 go_enter Tryz.func218, Tryz.ntmps218
 go_wp2_with fail
 refine (nat_Of 1 (by decide) _).mono ?_
 rintro e w1 ⟨rfl, hb1⟩
 have HB1 := Hq hb1
 clear hb1
 go_wp2
 go_ret
 exact ⟨rfl, HB1.out⟩
theorem rsa_good (m : Nat) (hm : m < 18446744073709551616) (hodd : bitB m 0 = true) (h8 : 8 < m) (w : World) : Calls Tryz.prog 216 #[gV (nS m) (nS 0)] w (Ret (.bool true) w) := by
 have HV := Hq (nat_Valid (nS m) (by have := nS_small_size hm; omega))
 rw [nvalid_nS.2 (lt128_of_lt8 hm)] at HV
 have HBT := Hq (nat_Bit m 0 (lt128_of_lt8 hm) (by omega))
 rw [hodd] at HBT
 have HCM := Hq (nat_Cmp (nS m) (nS 8) (by have := nS_small_size hm; omega) (by decide))
 rw [ncmp_n (lt128_of_lt8 hm) (by decide), show cmpI m 8 = 1 from by unfold cmpI; rw [if_neg (by omega), if_pos h8]] at HCM
 have HO := Hq (nat_Of 8 (by decide))
 rw [nS_zero]
 obtain ⟨s, hs⟩ : ∃ s, nS m = s := ⟨_, rfl⟩
 obtain ⟨t, ht⟩ : ∃ t, nS 8 = t := ⟨_, rfl⟩
 rw [hs] at HV HBT HCM ⊢
 rw [ht] at HCM
 have HO' := Hq (fun w => show Calls Tryz.prog 43 #[.int .u64 (8 : Nat)] w (Ret (.string t) w) from by have := HO.out w; rw [show bstr (encN 8) = t from ht] at this; exact this)
 clear hs ht hm hodd h8 HO
 unfold gV
 go_enter Tryz.func216, Tryz.ntmps216
 have HX0 := Hq (Bx2.new w (.string s) (.string ⟨#[]⟩) 24)
 have HB0 := Hq ((Below.refl w.heap.size w).alloc (Nat.le_refl _) (.cells #[.string s, .string ⟨#[]⟩] 24))
 go_wp2
 obtain ⟨W0, hW0⟩ : ∃ W0, w.alloc (.cells #[.string s, .string ⟨#[]⟩] 24) = W0 := ⟨_, rfl⟩
 rw [hW0] at HX0 HB0
 try rw [hW0]
 have c0 : W0.drew.cell? ⟨w.heap.size, 0, none⟩ = some (.string s) := HX0.out.c0
 have c1 : W0.drew.cell? ⟨w.heap.size, 1, none⟩ = some (.string ⟨#[]⟩) := HX0.out.c1
 clear hW0
 rename_i K1 hK1
 refine wp_onlyN ?_
 refine wp_region_K 21 (Below (W0.drew).heap.size (W0.drew)) (by kernel_rfl) ?_
 intro hD
 refine rP 0 3 20 rfl hD (Below.refl _ _) ?_; clear hD; intro hD; simp only [Act.put, sqA, sqB, sqC]
 refine rT 1 4 19 rfl hD (Below.refl _ _) (by intro w' hS'; have e0 := kC hS' c0; have e1 := kC hS' c1; go_simp; with_reducible rfl) ?_; clear hD; intro hD; simp only [Act.put, sqA, sqB, sqC]
 refine rO 2 18 rfl hD ?_; clear hD; intro K2 hK2
 go_wp2_with fail
 refine (HV.out _).mono ?_
 rintro e w2 ⟨rfl, rfl⟩
 have HB2 := Hq (Below.refl W0.drew.heap.size W0.drew)
 go_wp2
 refine hK2 _ _ (by exact HB2.out) ?_; clear hK2; intro hS_1_2 hD
 refine rP 3 6 17 rfl hD hS_1_2 ?_; clear hD; intro hD; simp only [Act.put, sqA, sqB, sqC]
 refine rP 4 7 16 rfl hD hS_1_2 ?_; clear hD; intro hD; simp only [Act.put, sqA, sqB, sqC]
 refine rT 5 8 15 rfl hD hS_1_2 (by intro w' hS'; have e0 := kC hS' c0; have e1 := kC hS' c1; go_simp; with_reducible rfl) ?_; clear hD; intro hD; simp only [Act.put, sqA, sqB, sqC]
 refine rP 6 9 14 rfl hD hS_1_2 ?_; clear hD; intro hD; simp only [Act.put, sqA, sqB, sqC]
 refine rP 7 10 13 rfl hD hS_1_2 ?_; clear hD; intro hD; simp only [Act.put, sqA, sqB, sqC]
 refine rP 8 11 12 rfl hD hS_1_2 ?_; clear hD; intro hD; simp only [Act.put, sqA, sqB, sqC]
 refine rP 9 12 11 rfl hD hS_1_2 ?_; clear hD; intro hD; simp only [Act.put, sqA, sqB, sqC]
 refine rT 10 13 10 rfl hD hS_1_2 (by intro w' hS'; have e0 := kC hS' c0; have e1 := kC hS' c1; go_simp; with_reducible rfl) ?_; clear hD; intro hD; simp only [Act.put, sqA, sqB, sqC]
 refine rO 11 9 rfl hD ?_; clear hD; intro K11 hK11
 go_wp2_with fail
 refine (HBT.out _).mono ?_
 rintro e w2 ⟨rfl, rfl⟩
 have HB11 := Hq (Below.refl W0.drew.heap.size W0.drew)
 go_wp2
 refine hK11 _ _ (by exact Below.trans hS_1_2 (Below.mono HB11.out (Below.size hS_1_2))) ?_; clear hK11; intro hS_1_11 hD
 refine rP 12 15 8 rfl hD hS_1_11 ?_; clear hD; intro hD; simp only [Act.put, sqA, sqB, sqC]
 refine rP 13 16 7 rfl hD hS_1_11 ?_; clear hD; intro hD; simp only [Act.put, sqA, sqB, sqC]
 refine rP 14 17 6 rfl hD hS_1_11 ?_; clear hD; intro hD; simp only [Act.put, sqA, sqB, sqC]
 refine rT 15 18 5 rfl hD hS_1_11 (by intro w' hS'; have e0 := kC hS' c0; have e1 := kC hS' c1; go_simp; with_reducible rfl) ?_; clear hD; intro hD; simp only [Act.put, sqA, sqB, sqC]
 refine rO 16 4 rfl hD ?_; clear hD; intro K16 hK16
 go_wp2_with fail
 refine (HO'.out _).mono ?_
 rintro e w2 ⟨rfl, hb⟩
 have HB16 := Hq hb
 clear hb
 go_wp2
 refine hK16 _ _ (by exact Below.trans hS_1_11 (Below.mono HB16.out (Below.size hS_1_11))) ?_; clear hK16; intro hS_1_16 hD
 refine rO 17 3 rfl hD ?_; clear hD; intro K17 hK17
 go_wp2_with fail
 refine (HCM.out _).mono ?_
 rintro e w3 ⟨rfl, rfl⟩
 have HB17 := Hq (Below.refl w2.heap.size w2)
 go_wp2
 refine hK17 _ _ (by exact Below.trans hS_1_16 (Below.mono HB17.out (Below.size hS_1_16))) ?_; clear hK17; intro hS_1_17 hD
 refine rP 18 21 2 rfl hD hS_1_17 ?_; clear hD; intro hD; simp only [Act.put, sqA, sqB, sqC]
 refine rP 19 22 1 rfl hD hS_1_17 ?_; clear hD; intro hD; simp only [Act.put, sqA, sqB, sqC]
 refine rO 20 0 rfl hD ?_; clear hD; intro K20 hK20
 go_wp2
 refine hK20 _ _ (by exact hS_1_17) ?_; clear hK20; intro hS_1_20 hD
 refine wpAnyK_done (by kernel_rfl) ?_ 0
 clear hD
 have HSX := Hq hS_1_20
 refine hK1 _ _ ?_
 go_wp2
 go_ret
 exact ⟨rfl, HB0.out.trans (((Below.refl _ _).drew.trans HSX.out).mono HB0.out.size)⟩
end Go.Proofs.YtndmjfkmnjejkaaGreatDoor
set_option linter.unusedSimpArgs false
namespace Go.Proofs.YtndmjfkmnjejkaaGreatDoor
set_option maxRecDepth 100000
set_option maxHeartbeats 4000000
open Go.RowKit
def chkN (m o : Nat) : Int := if o = 0 then (if m % 2 = 0 ∨ m ≤ 8 then 13 else 0) else if m ≤ 1 ∨ o = 1 ∨ ¬ (m - 1) % o = 0 then 13 else 0
def chkK (M O : ByteArray) : Int := if (nvalid M && nvalid O) = true then chkN (num M) (num O) else 3
theorem bit0 (m : Nat) : bitB m 0 = decide (m % 2 = 1) := by
 unfold bitB
 rw [Nat.pow_zero, Nat.div_one, Bool.eq_iff_iff, beq_iff_eq, decide_eq_true_eq]
theorem pw_Check_bad (M O : ByteArray) (hM : M.size ≤ 1000) (hO : O.size ≤ 1000) (hv : (nvalid M && nvalid O) = false) (w : World) : Calls Tryz.prog 60 #[gV M O] w (Ret (.int .i64 3) w) := by
 have HV1 := Hq (nat_Valid M (by omega))
 have HV2 := Hq (nat_Valid O (by omega))
 obtain ⟨s, hs⟩ : ∃ s, M = s := ⟨_, rfl⟩
 obtain ⟨t, ht⟩ : ∃ t, O = t := ⟨_, rfl⟩
 rw [hs] at HV1 hv ⊢
 rw [ht] at HV2 hv ⊢
 clear hs ht hM hO
 unfold gV
 cases h1 : nvalid s with
 | false =>
  rw [h1] at HV1
  clear h1 hv
  go_enter Tryz.func60, Tryz.ntmps60
  have HX0 := Hq (Bx2.new w (.string s) (.string t) 24)
  have HB0 := Hq ((Below.refl w.heap.size w).alloc (Nat.le_refl _) (.cells #[.string s, .string t] 24))
  obtain ⟨W0, hW0⟩ : ∃ W0, w.alloc (.cells #[.string s, .string t] 24) = W0 := ⟨_, rfl⟩
  rw [hW0] at HX0 HB0
  have HW0 := Hq hW0
  clear hW0
  go_wp2_with fail
  rw [HW0.out]
  refine (HV1.out _).mono ?_
  rintro e w1 ⟨rfl, rfl⟩
  have c0 := HX0.out.c0
  have c1 := HX0.out.c1
  go_wp2
  go_ret
  exact ⟨rfl, HB0.out⟩
 | true =>
  rw [h1, Bool.true_and] at hv
  rw [h1] at HV1
  rw [hv] at HV2
  clear h1 hv
  go_enter Tryz.func60, Tryz.ntmps60
  have HX0 := Hq (Bx2.new w (.string s) (.string t) 24)
  have HB0 := Hq ((Below.refl w.heap.size w).alloc (Nat.le_refl _) (.cells #[.string s, .string t] 24))
  obtain ⟨W0, hW0⟩ : ∃ W0, w.alloc (.cells #[.string s, .string t] 24) = W0 := ⟨_, rfl⟩
  rw [hW0] at HX0 HB0
  have HW0 := Hq hW0
  clear hW0
  go_wp2_with fail
  rw [HW0.out]
  refine (HV1.out _).mono ?_
  rintro e w1 ⟨rfl, rfl⟩
  have c0 := HX0.out.c0
  have c1 := HX0.out.c1
  go_wp2_with fail
  refine (HV2.out _).mono ?_
  rintro e w1 ⟨rfl, rfl⟩
  go_wp2
  go_ret
  exact ⟨rfl, HB0.out⟩
theorem r13_Check_bad (M O : ByteArray) (hM : M.size ≤ 1000) (hO : O.size ≤ 1000) (hv : (nvalid M && nvalid O) = false) (w : World) : Calls Tryz.prog 63 #[gV M O] w (Ret (.int .i64 3) w) := by
 have HV1 := Hq (r01_Valid M (by omega))
 have HV2 := Hq (r01_Valid O (by omega))
 obtain ⟨s, hs⟩ : ∃ s, M = s := ⟨_, rfl⟩
 obtain ⟨t, ht⟩ : ∃ t, O = t := ⟨_, rfl⟩
 rw [hs] at HV1 hv ⊢
 rw [ht] at HV2 hv ⊢
 clear hs ht hM hO
 unfold gV
 cases h1 : nvalid s with
 | false =>
  rw [h1] at HV1
  clear h1 hv
  go_enter Tryz.func63, Tryz.ntmps63
  have HX0 := Hq (Bx2.new w (.string s) (.string t) 24)
  have HB0 := Hq ((Below.refl w.heap.size w).alloc (Nat.le_refl _) (.cells #[.string s, .string t] 24))
  obtain ⟨W0, hW0⟩ : ∃ W0, w.alloc (.cells #[.string s, .string t] 24) = W0 := ⟨_, rfl⟩
  rw [hW0] at HX0 HB0
  have HW0 := Hq hW0
  clear hW0
  go_wp2_with fail
  rw [HW0.out]
  refine (HV1.out _).mono ?_
  rintro e w1 ⟨rfl, rfl⟩
  have c0 := HX0.out.c0
  have c1 := HX0.out.c1
  go_wp2
  go_ret
  exact ⟨rfl, HB0.out⟩
 | true =>
  rw [h1, Bool.true_and] at hv
  rw [h1] at HV1
  rw [hv] at HV2
  clear h1 hv
  go_enter Tryz.func63, Tryz.ntmps63
  have HX0 := Hq (Bx2.new w (.string s) (.string t) 24)
  have HB0 := Hq ((Below.refl w.heap.size w).alloc (Nat.le_refl _) (.cells #[.string s, .string t] 24))
  obtain ⟨W0, hW0⟩ : ∃ W0, w.alloc (.cells #[.string s, .string t] 24) = W0 := ⟨_, rfl⟩
  rw [hW0] at HX0 HB0
  have HW0 := Hq hW0
  clear hW0
  go_wp2_with fail
  rw [HW0.out]
  refine (HV1.out _).mono ?_
  rintro e w1 ⟨rfl, rfl⟩
  have c0 := HX0.out.c0
  have c1 := HX0.out.c1
  go_wp2_with fail
  refine (HV2.out _).mono ?_
  rintro e w1 ⟨rfl, rfl⟩
  go_wp2
  go_ret
  exact ⟨rfl, HB0.out⟩
theorem pw_Check_none (m : Nat) (hm : m < 18446744073709551616) (w : World) : Calls Tryz.prog 60 #[gV (nS m) (nS 0)] w (Ret (.int .i64 (if m % 2 = 0 ∨ m ≤ 8 then 13 else 0)) w) := by
 have HV1 := Hq (nat_Valid (nS m) (by have := nS_small_size hm; omega))
 have HV2 := Hq (nat_Valid (nS 0) (by decide))
 rw [nvalid_nS.2 (lt128_of_lt8 hm)] at HV1
 rw [nvalid_nS.2 (by decide)] at HV2
 have HBT := Hq (nat_Bit m 0 (lt128_of_lt8 hm) (by omega))
 have HCM := Hq (nat_Cmp (nS m) (nS 8) (by have := nS_small_size hm; omega) (by decide))
 rw [ncmp_n (lt128_of_lt8 hm) (by decide)] at HCM
 have HO := Hq (nat_Of 8 (by decide))
 rw [nS_zero] at HV2 ⊢
 obtain ⟨s, hs⟩ : ∃ s, nS m = s := ⟨_, rfl⟩
 obtain ⟨u, hu⟩ : ∃ u, nS 8 = u := ⟨_, rfl⟩
 rw [hs] at HV1 HBT HCM ⊢
 rw [hu] at HCM
 have HO' := Hq (fun w => show Calls Tryz.prog 43 #[.int .u64 (8 : Nat)] w (Ret (.string u) w) from by have := HO.out w; rw [show bstr (encN 8) = u from hu] at this; exact this)
 have HTT := Hq (show (⟨#[]⟩ : ByteArray) = ⟨#[]⟩ from rfl)
 obtain ⟨t, ht⟩ : ∃ t : ByteArray, ⟨#[]⟩ = t := ⟨_, rfl⟩
 have het : t.toList.isEmpty = true := by rw [← ht]; exact sempty_true rfl
 rw [ht] at HV2 ⊢
 clear hs hu ht HO HTT
 unfold gV
 by_cases hodd : m % 2 = 0
 · rw [bit0, decide_eq_false (by omega)] at HBT
   rw [if_pos (.inl hodd)]
   clear hodd hm
   go_enter Tryz.func60, Tryz.ntmps60
   have HX0 := Hq (Bx2.new w (.string s) (.string t) 24)
   have HB0 := Hq ((Below.refl w.heap.size w).alloc (Nat.le_refl _) (.cells #[.string s, .string t] 24))
   obtain ⟨W0, hW0⟩ : ∃ W0, w.alloc (.cells #[.string s, .string t] 24) = W0 := ⟨_, rfl⟩
   rw [hW0] at HX0 HB0
   have HW0 := Hq hW0
   clear hW0
   go_wp2_with fail
   rw [HW0.out]
   refine (HV1.out _).mono ?_
   rintro e w1 ⟨rfl, rfl⟩
   have c0 := HX0.out.c0
   have c1 := HX0.out.c1
   go_wp2_with fail
   refine (HV2.out _).mono ?_
   rintro e w1 ⟨rfl, rfl⟩
   go_wp2
   have d0 : W0.drew.cell? ⟨w.heap.size, 0, none⟩ = some (.string s) := c0
   have d1 : W0.drew.cell? ⟨w.heap.size, 1, none⟩ = some (.string t) := c1
   rename_i K4 hK4
   refine wp_onlyN ?_
   refine wp_region_K 11 (Below (W0.drew).heap.size (W0.drew)) (by kernel_rfl) ?_
   intro hD
   refine rP 0 21 10 rfl hD (Below.refl _ _) ?_; clear hD; intro hD; simp only [Act.put, sqA, sqB, sqC]
   refine rT 1 22 9 rfl hD (Below.refl _ _) (by intro w' hS'; have e0 := kC hS' d0; have e1 := kC hS' d1; go_simp; with_reducible rfl) ?_; clear hD; intro hD; simp only [Act.put, sqA, sqB, sqC]
   refine rO 2 8 rfl hD ?_; clear hD; intro K2 hK2
   go_wp2_with fail
   refine (HBT.out _).mono ?_
   rintro e w2 ⟨rfl, rfl⟩
   have HB2 := Hq (Below.refl W0.drew.heap.size W0.drew)
   go_wp2
   refine hK2 _ _ (by exact HB2.out) ?_; clear hK2; intro hS_4_2 hD
   refine rP 3 24 7 rfl hD hS_4_2 ?_; clear hD; intro hD; simp only [Act.put, sqA, sqB, sqC]
   refine rP 4 25 6 rfl hD hS_4_2 ?_; clear hD; intro hD; simp only [Act.put, sqA, sqB, sqC]
   refine rU 5 26 5 rfl hD hS_4_2 ?_; clear hD; intro hD; simp only [Act.put, sqA, sqB, sqC]
   refine rU 6 27 4 rfl hD hS_4_2 ?_; clear hD; intro hD; simp only [Act.put, sqA, sqB, sqC]
   refine rU 7 28 3 rfl hD hS_4_2 ?_; clear hD; intro hD; simp only [Act.put, sqA, sqB, sqC]
   refine rU 8 29 2 rfl hD hS_4_2 ?_; clear hD; intro hD; simp only [Act.put, sqA, sqB, sqC]
   refine rU 9 30 1 rfl hD hS_4_2 ?_; clear hD; intro hD; simp only [Act.put, sqA, sqB, sqC]
   refine rP 10 31 0 rfl hD hS_4_2 ?_; clear hD; intro hD; simp only [Act.put, sqA, sqB, sqC]
   refine wpAnyK_done (by kernel_rfl) ?_ 0
   clear hD
   have HSX := Hq hS_4_2
   refine hK4 _ _ ?_
   go_wp2
   go_ret
   exact ⟨rfl, HB0.out.trans (((Below.refl _ _).drew.trans HSX.out).mono HB0.out.size)⟩
 · rw [bit0, decide_eq_true (show m % 2 = 1 by omega)] at HBT
   have HE := Hq (show (if m % 2 = 0 ∨ m ≤ 8 then (13 : Int) else 0) = if m ≤ 8 then 13 else 0 from by
    by_cases h : m ≤ 8
    · rw [if_pos (.inr h), if_pos h]
    · rw [if_neg (by omega), if_neg h])
   rw [HE.out]
   by_cases h8 : m ≤ 8
   · have hg : cmpI m 8 ≤ 0 := by unfold cmpI; split; · decide
                                  · rw [if_neg (by omega)]; decide
     obtain ⟨c, hc⟩ : ∃ c, cmpI m 8 = c := ⟨_, rfl⟩
     rw [hc] at hg HCM
     rw [if_pos h8]
     clear h8 hc hodd hm HE
     go_enter Tryz.func60, Tryz.ntmps60
     have HX0 := Hq (Bx2.new w (.string s) (.string t) 24)
     have HB0 := Hq ((Below.refl w.heap.size w).alloc (Nat.le_refl _) (.cells #[.string s, .string t] 24))
     obtain ⟨W0, hW0⟩ : ∃ W0, w.alloc (.cells #[.string s, .string t] 24) = W0 := ⟨_, rfl⟩
     rw [hW0] at HX0 HB0
     have HW0 := Hq hW0
     clear hW0
     go_wp2_with fail
     rw [HW0.out]
     refine (HV1.out _).mono ?_
     rintro e w1 ⟨rfl, rfl⟩
     have c0 := HX0.out.c0
     have c1 := HX0.out.c1
     go_wp2_with fail
     refine (HV2.out _).mono ?_
     rintro e w1 ⟨rfl, rfl⟩
     go_wp2
     have d0 : W0.drew.cell? ⟨w.heap.size, 0, none⟩ = some (.string s) := c0
     have d1 : W0.drew.cell? ⟨w.heap.size, 1, none⟩ = some (.string t) := c1
     rename_i K4 hK4
     refine wp_onlyN ?_
     refine wp_region_K 11 (Below (W0.drew).heap.size (W0.drew)) (by kernel_rfl) ?_
     intro hD
     refine rP 0 21 10 rfl hD (Below.refl _ _) ?_; clear hD; intro hD; simp only [Act.put, sqA, sqB, sqC]
     refine rT 1 22 9 rfl hD (Below.refl _ _) (by intro w' hS'; have e0 := kC hS' d0; have e1 := kC hS' d1; go_simp; with_reducible rfl) ?_; clear hD; intro hD; simp only [Act.put, sqA, sqB, sqC]
     refine rO 2 8 rfl hD ?_; clear hD; intro K2 hK2
     go_wp2_with fail
     refine (HBT.out _).mono ?_
     rintro e w2 ⟨rfl, rfl⟩
     have HB2 := Hq (Below.refl W0.drew.heap.size W0.drew)
     go_wp2
     refine hK2 _ _ (by exact HB2.out) ?_; clear hK2; intro hS_4_2 hD
     refine rP 3 24 7 rfl hD hS_4_2 ?_; clear hD; intro hD; simp only [Act.put, sqA, sqB, sqC]
     refine rP 4 25 6 rfl hD hS_4_2 ?_; clear hD; intro hD; simp only [Act.put, sqA, sqB, sqC]
     refine rP 5 26 5 rfl hD hS_4_2 ?_; clear hD; intro hD; simp only [Act.put, sqA, sqB, sqC]
     refine rT 6 27 4 rfl hD hS_4_2 (by intro w' hS'; have e0 := kC hS' d0; have e1 := kC hS' d1; go_simp; with_reducible rfl) ?_; clear hD; intro hD; simp only [Act.put, sqA, sqB, sqC]
     refine rO 7 3 rfl hD ?_; clear hD; intro K7 hK7
     go_wp2_with fail
     refine (HO'.out _).mono ?_
     rintro e w7 ⟨rfl, hb⟩
     have HB7 := Hq hb
     clear hb
     go_wp2
     refine hK7 _ _ (by exact Below.trans hS_4_2 (Below.mono HB7.out (Below.size hS_4_2))) ?_; clear hK7; intro hS_4_7 hD
     refine rO 8 2 rfl hD ?_; clear hD; intro K8 hK8
     go_wp2_with fail
     refine (HCM.out _).mono ?_
     rintro e w8 ⟨rfl, rfl⟩
     have HB8 := Hq (Below.refl w7.heap.size w7)
     go_wp2
     refine hK8 _ _ (by exact Below.trans hS_4_7 (Below.mono HB8.out (Below.size hS_4_7))) ?_; clear hK8; intro hS_4_8 hD
     refine rP 9 30 1 rfl hD hS_4_8 ?_; clear hD; intro hD; simp only [Act.put, sqA, sqB, sqC]
     refine rP 10 31 0 rfl hD hS_4_8 ?_; clear hD; intro hD; simp only [Act.put, sqA, sqB, sqC]
     refine wpAnyK_done (by kernel_rfl) ?_ 0
     clear hD
     have HSX := Hq hS_4_8
     refine hK4 _ _ ?_
     go_wp2
     go_ret
     exact ⟨rfl, HB0.out.trans (((Below.refl _ _).drew.trans HSX.out).mono HB0.out.size)⟩
   · rw [show cmpI m 8 = 1 from by unfold cmpI; rw [if_neg (by omega), if_pos (by omega)]] at HCM
     rw [if_neg h8]
     clear h8 hodd hm HE
     go_enter Tryz.func60, Tryz.ntmps60
     have HX0 := Hq (Bx2.new w (.string s) (.string t) 24)
     have HB0 := Hq ((Below.refl w.heap.size w).alloc (Nat.le_refl _) (.cells #[.string s, .string t] 24))
     obtain ⟨W0, hW0⟩ : ∃ W0, w.alloc (.cells #[.string s, .string t] 24) = W0 := ⟨_, rfl⟩
     rw [hW0] at HX0 HB0
     have HW0 := Hq hW0
     clear hW0
     go_wp2_with fail
     rw [HW0.out]
     refine (HV1.out _).mono ?_
     rintro e w1 ⟨rfl, rfl⟩
     have c0 := HX0.out.c0
     have c1 := HX0.out.c1
     go_wp2_with fail
     refine (HV2.out _).mono ?_
     rintro e w1 ⟨rfl, rfl⟩
     go_wp2
     have d0 : W0.drew.cell? ⟨w.heap.size, 0, none⟩ = some (.string s) := c0
     have d1 : W0.drew.cell? ⟨w.heap.size, 1, none⟩ = some (.string t) := c1
     rename_i K4 hK4
     refine wp_onlyN ?_
     refine wp_region_K 11 (Below (W0.drew).heap.size (W0.drew)) (by kernel_rfl) ?_
     intro hD
     refine rP 0 21 10 rfl hD (Below.refl _ _) ?_; clear hD; intro hD; simp only [Act.put, sqA, sqB, sqC]
     refine rT 1 22 9 rfl hD (Below.refl _ _) (by intro w' hS'; have e0 := kC hS' d0; have e1 := kC hS' d1; go_simp; with_reducible rfl) ?_; clear hD; intro hD; simp only [Act.put, sqA, sqB, sqC]
     refine rO 2 8 rfl hD ?_; clear hD; intro K2 hK2
     go_wp2_with fail
     refine (HBT.out _).mono ?_
     rintro e w2 ⟨rfl, rfl⟩
     have HB2 := Hq (Below.refl W0.drew.heap.size W0.drew)
     go_wp2
     refine hK2 _ _ (by exact HB2.out) ?_; clear hK2; intro hS_4_2 hD
     refine rP 3 24 7 rfl hD hS_4_2 ?_; clear hD; intro hD; simp only [Act.put, sqA, sqB, sqC]
     refine rP 4 25 6 rfl hD hS_4_2 ?_; clear hD; intro hD; simp only [Act.put, sqA, sqB, sqC]
     refine rP 5 26 5 rfl hD hS_4_2 ?_; clear hD; intro hD; simp only [Act.put, sqA, sqB, sqC]
     refine rT 6 27 4 rfl hD hS_4_2 (by intro w' hS'; have e0 := kC hS' d0; have e1 := kC hS' d1; go_simp; with_reducible rfl) ?_; clear hD; intro hD; simp only [Act.put, sqA, sqB, sqC]
     refine rO 7 3 rfl hD ?_; clear hD; intro K7 hK7
     go_wp2_with fail
     refine (HO'.out _).mono ?_
     rintro e w7 ⟨rfl, hb⟩
     have HB7 := Hq hb
     clear hb
     go_wp2
     refine hK7 _ _ (by exact Below.trans hS_4_2 (Below.mono HB7.out (Below.size hS_4_2))) ?_; clear hK7; intro hS_4_7 hD
     refine rO 8 2 rfl hD ?_; clear hD; intro K8 hK8
     go_wp2_with fail
     refine (HCM.out _).mono ?_
     rintro e w8 ⟨rfl, rfl⟩
     have HB8 := Hq (Below.refl w7.heap.size w7)
     go_wp2
     refine hK8 _ _ (by exact Below.trans hS_4_7 (Below.mono HB8.out (Below.size hS_4_7))) ?_; clear hK8; intro hS_4_8 hD
     refine rP 9 30 1 rfl hD hS_4_8 ?_; clear hD; intro hD; simp only [Act.put, sqA, sqB, sqC]
     refine rP 10 31 0 rfl hD hS_4_8 ?_; clear hD; intro hD; simp only [Act.put, sqA, sqB, sqC]
     refine wpAnyK_done (by kernel_rfl) ?_ 0
     clear hD
     have HSX := Hq hS_4_8
     refine hK4 _ _ ?_
     go_wp2
     go_ret
     exact ⟨rfl, HB0.out.trans (((Below.refl _ _).drew.trans HSX.out).mono HB0.out.size)⟩
end Go.Proofs.YtndmjfkmnjejkaaGreatDoor
set_option linter.unusedSimpArgs false
namespace Go.Proofs.YtndmjfkmnjejkaaGreatDoor
set_option maxRecDepth 100000
set_option maxHeartbeats 4000000
open Go.RowKit
theorem chkN_some {m o : Nat} (ho : 0 < o) : chkN m o = if m ≤ 1 ∨ o = 1 ∨ ¬ (m - 1) % o = 0 then 13 else 0 := by unfold chkN; rw [if_neg (by omega)]
theorem pw_Check_some (m o : Nat) (hm : m < 18446744073709551616) (ho8 : o < 256 ^ 128) (ho : 0 < o) (w : World) : Calls Tryz.prog 60 #[gV (nS m) (nS o)] w (Ret (.int .i64 (chkN m o)) w) := by
 rw [chkN_some ho]
 have HV1 := Hq (nat_Valid (nS m) (by have := nS_small_size hm; omega))
 have HV2 := Hq (nat_Valid (nS o) (by have := nS_size_le.2 ho8; omega))
 rw [nvalid_nS.2 (lt128_of_lt8 hm)] at HV1
 rw [nvalid_nS.2 ho8] at HV2
 have HO1 := Hq (nat_Of 1 (by decide))
 have HO2 := Hq (nat_Of 2 (by decide))
 have HCM := Hq (nat_Cmp (nS o) (nS 2) (by have := nS_size_le.2 ho8; omega) (by decide))
 rw [ncmp_n (ho8) (by decide)] at HCM
 have HDM := Hq (nat_DivMod (m - 1) o (by omega) (ho8) ho)
 have het := empty_nS ho
 have HSL := Hq (fun (h : m < 1) w => rq_quiet (nat_Sub_less m 1 (lt128_of_lt8 hm) (by decide) h w))
 have HSG := Hq (fun (h : 1 ≤ m) => nat_Sub_ge m 1 (lt128_of_lt8 hm) (by decide) h)
 obtain ⟨s, hs⟩ : ∃ s, nS m = s := ⟨_, rfl⟩
 obtain ⟨t, ht⟩ : ∃ t, nS o = t := ⟨_, rfl⟩
 obtain ⟨u1, hu1⟩ : ∃ u, nS 1 = u := ⟨_, rfl⟩
 obtain ⟨u2, hu2⟩ : ∃ u, nS 2 = u := ⟨_, rfl⟩
 rw [hs] at HV1 HSL HSG ⊢
 rw [ht] at HV2 HCM HDM het ⊢
 rw [hu2] at HCM
 rw [hu1] at HSL HSG
 have HO1 := Hq (fun w => show Calls Tryz.prog 43 #[.int .u64 (1 : Nat)] w (Ret (.string u1) w) from by have := HO1.out w; rw [show bstr (encN 1) = u1 from hu1] at this; exact this)
 have HO2 := Hq (fun w => show Calls Tryz.prog 43 #[.int .u64 (2 : Nat)] w (Ret (.string u2) w) from by have := HO2.out w; rw [show bstr (encN 2) = u2 from hu2] at this; exact this)
 clear hs ht hu1 hu2
 unfold gV
 rcases Nat.lt_or_ge m 1 with h1 | h1
 · have HSB := Hq (HSL.out h1)
   rw [if_pos (.inl (by omega))]
   clear HSL HSG HDM h1 hm ho8 ho
   go_enter Tryz.func60, Tryz.ntmps60
   have HX0 := Hq (Bx2.new w (.string s) (.string t) 24)
   have HB0 := Hq ((Below.refl w.heap.size w).alloc (Nat.le_refl _) (.cells #[.string s, .string t] 24))
   obtain ⟨W0, hW0⟩ : ∃ W0, w.alloc (.cells #[.string s, .string t] 24) = W0 := ⟨_, rfl⟩
   rw [hW0] at HX0 HB0
   have HW0 := Hq hW0
   clear hW0
   go_wp2_with fail
   rw [HW0.out]
   refine (HV1.out _).mono ?_
   rintro e w1 ⟨rfl, rfl⟩
   have c0 := HX0.out.c0
   have c1 := HX0.out.c1
   go_wp2_with fail
   refine (HV2.out _).mono ?_
   rintro e w1 ⟨rfl, rfl⟩
   go_wp2
   have d0 : W0.drew.cell? ⟨w.heap.size, 0, none⟩ = some (.string s) := c0
   have d1 : W0.drew.cell? ⟨w.heap.size, 1, none⟩ = some (.string t) := c1
   rename_i K7 hK7
   refine wp_onlyN ?_
   refine wp_region_K 9 (Below (W0.drew).heap.size (W0.drew)) (by kernel_rfl) ?_
   intro hD
   refine rP 0 33 8 rfl hD (Below.refl _ _) ?_; clear hD; intro hD; simp only [Act.put, sqA, sqB, sqC]
   refine rT 1 34 7 rfl hD (Below.refl _ _) (by intro w' hS'; have e0 := kC hS' d0; have e1 := kC hS' d1; go_simp; with_reducible rfl) ?_; clear hD; intro hD; simp only [Act.put, sqA, sqB, sqC]
   refine rO 2 6 rfl hD ?_; clear hD; intro K2 hK2
   go_wp2_with fail
   refine (HO1.out _).mono ?_
   rintro e w2 ⟨rfl, hb⟩
   have HB2 := Hq hb
   clear hb
   go_wp2
   refine hK2 _ _ (by exact HB2.out) ?_; clear hK2; intro hS_7_2 hD
   refine rO 3 5 rfl hD ?_; clear hD; intro K3 hK3
   go_wp2_with fail
   refine (HSB.out _).mono ?_
   rintro e w3 ⟨rfl, hb⟩
   have HB3 := Hq hb
   clear hb
   go_wp2
   refine hK3 _ _ (by exact Below.trans hS_7_2 (Below.mono HB3.out (Below.size hS_7_2))) ?_; clear hK3; intro hS_7_3 hD
   refine rP 4 32 4 rfl hD hS_7_3 ?_; clear hD; intro hD; simp only [Act.put, sqA, sqB, sqC]
   refine rP 5 37 3 rfl hD hS_7_3 ?_; clear hD; intro hD; simp only [Act.put, sqA, sqB, sqC]
   refine rP 6 38 2 rfl hD hS_7_3 ?_; clear hD; intro hD; simp only [Act.put, sqA, sqB, sqC]
   refine rO 7 1 rfl hD ?_; clear hD; intro K7 hK7
   go_wp2
   refine hK7 _ _ (by exact hS_7_3) ?_; clear hK7; intro hS_7_7 hD
   refine rO 8 0 rfl hD ?_; clear hD; intro K8 hK8
   go_wp2
   refine hK8 _ _ (by exact hS_7_7) ?_; clear hK8; intro hS_7_8 hD
   refine wpAnyK_done (by kernel_rfl) ?_ 0
   clear hD d0 d1
   have hS7 := (Below.refl W0.heap.size W0).drew.trans hS_7_8
   have HX7 := Hq (HX0.out.next hS7)
   have HB7 := Hq (HB0.out.trans (hS7.mono HB0.out.size))
   clear hS7
   refine hK7 _ _ ?_
   have e0 : w3.drew.cell? ⟨w.heap.size, 0, none⟩ = some (.string s) := HX7.out.c0
   have e1 : w3.drew.cell? ⟨w.heap.size, 1, none⟩ = some (.string t) := HX7.out.c1
   clear c0 c1
   go_wp2
   rename_i K8 hK8
   refine wp_onlyN ?_
   refine wp_region_K 13 (Below (w3.drew).heap.size (w3.drew)) (by kernel_rfl) ?_
   intro hD
   refine rP 0 39 12 rfl hD (Below.refl _ _) ?_; clear hD; intro hD; simp only [Act.put, sqA, sqB, sqC]
   refine rP 1 40 11 rfl hD (Below.refl _ _) ?_; clear hD; intro hD; simp only [Act.put, sqA, sqB, sqC]
   refine rP 2 41 10 rfl hD (Below.refl _ _) ?_; clear hD; intro hD; simp only [Act.put, sqA, sqB, sqC]
   refine rU 3 42 9 rfl hD (Below.refl _ _) ?_; clear hD; intro hD; simp only [Act.put, sqA, sqB, sqC]
   refine rU 4 43 8 rfl hD (Below.refl _ _) ?_; clear hD; intro hD; simp only [Act.put, sqA, sqB, sqC]
   refine rP 5 44 7 rfl hD (Below.refl _ _) ?_; clear hD; intro hD; simp only [Act.put, sqA, sqB, sqC]
   refine rP 6 45 6 rfl hD (Below.refl _ _) ?_; clear hD; intro hD; simp only [Act.put, sqA, sqB, sqC]
   refine rU 7 46 5 rfl hD (Below.refl _ _) ?_; clear hD; intro hD; simp only [Act.put, sqA, sqB, sqC]
   refine rU 8 47 4 rfl hD (Below.refl _ _) ?_; clear hD; intro hD; simp only [Act.put, sqA, sqB, sqC]
   refine rU 9 48 3 rfl hD (Below.refl _ _) ?_; clear hD; intro hD; simp only [Act.put, sqA, sqB, sqC]
   refine rU 10 49 2 rfl hD (Below.refl _ _) ?_; clear hD; intro hD; simp only [Act.put, sqA, sqB, sqC]
   refine rU 11 50 1 rfl hD (Below.refl _ _) ?_; clear hD; intro hD; simp only [Act.put, sqA, sqB, sqC]
   refine rP 12 51 0 rfl hD (Below.refl _ _) ?_; clear hD; intro hD; simp only [Act.put, sqA, sqB, sqC]
   refine wpAnyK_done (by kernel_rfl) ?_ 0
   clear hD
   have HSX := Hq (HB7.out.trans (((Below.refl w3.heap.size w3).drew.trans (Below.refl _ _)).mono HB7.out.size))
   refine hK8 _ _ ?_
   go_wp2
   go_ret
   exact ⟨rfl, HSX.out⟩
 · have HSB := Hq (HSG.out h1)
   by_cases hm1 : m = 1
   · rw [if_pos (.inl (by omega))]
     rw [hm1, Nat.sub_self, nS_zero] at HSB
     clear HSL HSG HDM h1 hm ho8 ho hm1
     go_enter Tryz.func60, Tryz.ntmps60
     have HX0 := Hq (Bx2.new w (.string s) (.string t) 24)
     have HB0 := Hq ((Below.refl w.heap.size w).alloc (Nat.le_refl _) (.cells #[.string s, .string t] 24))
     obtain ⟨W0, hW0⟩ : ∃ W0, w.alloc (.cells #[.string s, .string t] 24) = W0 := ⟨_, rfl⟩
     rw [hW0] at HX0 HB0
     have HW0 := Hq hW0
     clear hW0
     go_wp2_with fail
     rw [HW0.out]
     refine (HV1.out _).mono ?_
     rintro e w1 ⟨rfl, rfl⟩
     have c0 := HX0.out.c0
     have c1 := HX0.out.c1
     go_wp2_with fail
     refine (HV2.out _).mono ?_
     rintro e w1 ⟨rfl, rfl⟩
     go_wp2
     have d0 : W0.drew.cell? ⟨w.heap.size, 0, none⟩ = some (.string s) := c0
     have d1 : W0.drew.cell? ⟨w.heap.size, 1, none⟩ = some (.string t) := c1
     rename_i K7 hK7
     refine wp_onlyN ?_
     refine wp_region_K 9 (Below (W0.drew).heap.size (W0.drew)) (by kernel_rfl) ?_
     intro hD
     refine rP 0 33 8 rfl hD (Below.refl _ _) ?_; clear hD; intro hD; simp only [Act.put, sqA, sqB, sqC]
     refine rT 1 34 7 rfl hD (Below.refl _ _) (by intro w' hS'; have e0 := kC hS' d0; have e1 := kC hS' d1; go_simp; with_reducible rfl) ?_; clear hD; intro hD; simp only [Act.put, sqA, sqB, sqC]
     refine rO 2 6 rfl hD ?_; clear hD; intro K2 hK2
     go_wp2_with fail
     refine (HO1.out _).mono ?_
     rintro e w2 ⟨rfl, hb⟩
     have HB2 := Hq hb
     clear hb
     go_wp2
     refine hK2 _ _ (by exact HB2.out) ?_; clear hK2; intro hS_7_2 hD
     refine rO 3 5 rfl hD ?_; clear hD; intro K3 hK3
     go_wp2_with fail
     refine (HSB.out _).mono ?_
     rintro e w3 ⟨rfl, hb⟩
     have HB3 := Hq hb
     clear hb
     go_wp2
     refine hK3 _ _ (by exact Below.trans hS_7_2 (Below.mono HB3.out (Below.size hS_7_2))) ?_; clear hK3; intro hS_7_3 hD
     refine rP 4 32 4 rfl hD hS_7_3 ?_; clear hD; intro hD; simp only [Act.put, sqA, sqB, sqC]
     refine rP 5 37 3 rfl hD hS_7_3 ?_; clear hD; intro hD; simp only [Act.put, sqA, sqB, sqC]
     refine rP 6 38 2 rfl hD hS_7_3 ?_; clear hD; intro hD; simp only [Act.put, sqA, sqB, sqC]
     refine rO 7 1 rfl hD ?_; clear hD; intro K7 hK7
     go_wp2
     refine hK7 _ _ (by exact hS_7_3) ?_; clear hK7; intro hS_7_7 hD
     refine rO 8 0 rfl hD ?_; clear hD; intro K8 hK8
     go_wp2
     refine hK8 _ _ (by exact hS_7_7) ?_; clear hK8; intro hS_7_8 hD
     refine wpAnyK_done (by kernel_rfl) ?_ 0
     clear hD d0 d1
     have hS7 := (Below.refl W0.heap.size W0).drew.trans hS_7_8
     have HX7 := Hq (HX0.out.next hS7)
     have HB7 := Hq (HB0.out.trans (hS7.mono HB0.out.size))
     clear hS7
     refine hK7 _ _ ?_
     have e0 : w3.drew.cell? ⟨w.heap.size, 0, none⟩ = some (.string s) := HX7.out.c0
     have e1 : w3.drew.cell? ⟨w.heap.size, 1, none⟩ = some (.string t) := HX7.out.c1
     clear c0 c1
     go_wp2
     rename_i K8 hK8
     refine wp_onlyN ?_
     refine wp_region_K 13 (Below (w3.drew).heap.size (w3.drew)) (by kernel_rfl) ?_
     intro hD
     refine rP 0 39 12 rfl hD (Below.refl _ _) ?_; clear hD; intro hD; simp only [Act.put, sqA, sqB, sqC]
     refine rP 1 40 11 rfl hD (Below.refl _ _) ?_; clear hD; intro hD; simp only [Act.put, sqA, sqB, sqC]
     refine rP 2 41 10 rfl hD (Below.refl _ _) ?_; clear hD; intro hD; simp only [Act.put, sqA, sqB, sqC]
     refine rP 3 42 9 rfl hD (Below.refl _ _) ?_; clear hD; intro hD; simp only [Act.put, sqA, sqB, sqC]
     refine rP 4 43 8 rfl hD (Below.refl _ _) ?_; clear hD; intro hD; simp only [Act.put, sqA, sqB, sqC]
     refine rP 5 44 7 rfl hD (Below.refl _ _) ?_; clear hD; intro hD; simp only [Act.put, sqA, sqB, sqC]
     refine rP 6 45 6 rfl hD (Below.refl _ _) ?_; clear hD; intro hD; simp only [Act.put, sqA, sqB, sqC]
     refine rU 7 46 5 rfl hD (Below.refl _ _) ?_; clear hD; intro hD; simp only [Act.put, sqA, sqB, sqC]
     refine rU 8 47 4 rfl hD (Below.refl _ _) ?_; clear hD; intro hD; simp only [Act.put, sqA, sqB, sqC]
     refine rU 9 48 3 rfl hD (Below.refl _ _) ?_; clear hD; intro hD; simp only [Act.put, sqA, sqB, sqC]
     refine rU 10 49 2 rfl hD (Below.refl _ _) ?_; clear hD; intro hD; simp only [Act.put, sqA, sqB, sqC]
     refine rU 11 50 1 rfl hD (Below.refl _ _) ?_; clear hD; intro hD; simp only [Act.put, sqA, sqB, sqC]
     refine rP 12 51 0 rfl hD (Below.refl _ _) ?_; clear hD; intro hD; simp only [Act.put, sqA, sqB, sqC]
     refine wpAnyK_done (by kernel_rfl) ?_ 0
     clear hD
     have HSX := Hq (HB7.out.trans (((Below.refl w3.heap.size w3).drew.trans (Below.refl _ _)).mono HB7.out.size))
     refine hK8 _ _ ?_
     go_wp2
     go_ret
     exact ⟨rfl, HSX.out⟩
   · have hel := empty_nS (n := m - 1) (by omega)
     obtain ⟨l, hl⟩ : ∃ l, nS (m - 1) = l := ⟨_, rfl⟩
     rw [hl] at HSB HDM hel
     by_cases ho1 : o = 1
     · have hg : cmpI o 2 < 0 := by rw [ho1]; decide
       obtain ⟨c, hc⟩ : ∃ c, cmpI o 2 = c := ⟨_, rfl⟩
       rw [hc] at hg HCM
       rw [if_pos (.inr (.inl ho1))]
       clear HSL HSG HDM h1 hm ho8 ho hm1 hl hc ho1
       go_enter Tryz.func60, Tryz.ntmps60
       have HX0 := Hq (Bx2.new w (.string s) (.string t) 24)
       have HB0 := Hq ((Below.refl w.heap.size w).alloc (Nat.le_refl _) (.cells #[.string s, .string t] 24))
       obtain ⟨W0, hW0⟩ : ∃ W0, w.alloc (.cells #[.string s, .string t] 24) = W0 := ⟨_, rfl⟩
       rw [hW0] at HX0 HB0
       have HW0 := Hq hW0
       clear hW0
       go_wp2_with fail
       rw [HW0.out]
       refine (HV1.out _).mono ?_
       rintro e w1 ⟨rfl, rfl⟩
       have c0 := HX0.out.c0
       have c1 := HX0.out.c1
       go_wp2_with fail
       refine (HV2.out _).mono ?_
       rintro e w1 ⟨rfl, rfl⟩
       go_wp2
       have d0 : W0.drew.cell? ⟨w.heap.size, 0, none⟩ = some (.string s) := c0
       have d1 : W0.drew.cell? ⟨w.heap.size, 1, none⟩ = some (.string t) := c1
       rename_i K7 hK7
       refine wp_onlyN ?_
       refine wp_region_K 9 (Below (W0.drew).heap.size (W0.drew)) (by kernel_rfl) ?_
       intro hD
       refine rP 0 33 8 rfl hD (Below.refl _ _) ?_; clear hD; intro hD; simp only [Act.put, sqA, sqB, sqC]
       refine rT 1 34 7 rfl hD (Below.refl _ _) (by intro w' hS'; have e0 := kC hS' d0; have e1 := kC hS' d1; go_simp; with_reducible rfl) ?_; clear hD; intro hD; simp only [Act.put, sqA, sqB, sqC]
       refine rO 2 6 rfl hD ?_; clear hD; intro K2 hK2
       go_wp2_with fail
       refine (HO1.out _).mono ?_
       rintro e w2 ⟨rfl, hb⟩
       have HB2 := Hq hb
       clear hb
       go_wp2
       refine hK2 _ _ (by exact HB2.out) ?_; clear hK2; intro hS_7_2 hD
       refine rO 3 5 rfl hD ?_; clear hD; intro K3 hK3
       go_wp2_with fail
       refine (HSB.out _).mono ?_
       rintro e w3 ⟨rfl, hb⟩
       have HB3 := Hq hb
       clear hb
       go_wp2
       refine hK3 _ _ (by exact Below.trans hS_7_2 (Below.mono HB3.out (Below.size hS_7_2))) ?_; clear hK3; intro hS_7_3 hD
       refine rP 4 32 4 rfl hD hS_7_3 ?_; clear hD; intro hD; simp only [Act.put, sqA, sqB, sqC]
       refine rP 5 37 3 rfl hD hS_7_3 ?_; clear hD; intro hD; simp only [Act.put, sqA, sqB, sqC]
       refine rP 6 38 2 rfl hD hS_7_3 ?_; clear hD; intro hD; simp only [Act.put, sqA, sqB, sqC]
       refine rO 7 1 rfl hD ?_; clear hD; intro K7 hK7
       go_wp2
       refine hK7 _ _ (by exact hS_7_3) ?_; clear hK7; intro hS_7_7 hD
       refine rO 8 0 rfl hD ?_; clear hD; intro K8 hK8
       go_wp2
       refine hK8 _ _ (by exact hS_7_7) ?_; clear hK8; intro hS_7_8 hD
       refine wpAnyK_done (by kernel_rfl) ?_ 0
       clear hD d0 d1
       have hS7 := (Below.refl W0.heap.size W0).drew.trans hS_7_8
       have HX7 := Hq (HX0.out.next hS7)
       have HB7 := Hq (HB0.out.trans (hS7.mono HB0.out.size))
       clear hS7
       refine hK7 _ _ ?_
       have e0 : w3.drew.cell? ⟨w.heap.size, 0, none⟩ = some (.string s) := HX7.out.c0
       have e1 : w3.drew.cell? ⟨w.heap.size, 1, none⟩ = some (.string t) := HX7.out.c1
       clear c0 c1
       go_wp2
       rename_i K8 hK8
       refine wp_onlyN ?_
       refine wp_region_K 13 (Below (w3.drew).heap.size (w3.drew)) (by kernel_rfl) ?_
       intro hD
       refine rP 0 39 12 rfl hD (Below.refl _ _) ?_; clear hD; intro hD; simp only [Act.put, sqA, sqB, sqC]
       refine rP 1 40 11 rfl hD (Below.refl _ _) ?_; clear hD; intro hD; simp only [Act.put, sqA, sqB, sqC]
       refine rP 2 41 10 rfl hD (Below.refl _ _) ?_; clear hD; intro hD; simp only [Act.put, sqA, sqB, sqC]
       refine rP 3 42 9 rfl hD (Below.refl _ _) ?_; clear hD; intro hD; simp only [Act.put, sqA, sqB, sqC]
       refine rP 4 43 8 rfl hD (Below.refl _ _) ?_; clear hD; intro hD; simp only [Act.put, sqA, sqB, sqC]
       refine rP 5 44 7 rfl hD (Below.refl _ _) ?_; clear hD; intro hD; simp only [Act.put, sqA, sqB, sqC]
       refine rP 6 45 6 rfl hD (Below.refl _ _) ?_; clear hD; intro hD; simp only [Act.put, sqA, sqB, sqC]
       refine rP 7 46 5 rfl hD (Below.refl _ _) ?_; clear hD; intro hD; simp only [Act.put, sqA, sqB, sqC]
       refine rT 8 47 4 rfl hD (Below.refl _ _) (by intro w' hS'; have e0 := kC hS' e0; have e1 := kC hS' e1; go_simp; with_reducible rfl) ?_; clear hD; intro hD; simp only [Act.put, sqA, sqB, sqC]
       refine rO 9 3 rfl hD ?_; clear hD; intro K9 hK9
       go_wp2_with fail
       refine (HO2.out _).mono ?_
       rintro e w9 ⟨rfl, hb⟩
       have HB9 := Hq hb
       clear hb
       go_wp2
       refine hK9 _ _ (by exact HB9.out) ?_; clear hK9; intro hS_8_9 hD
       refine rO 10 2 rfl hD ?_; clear hD; intro K10 hK10
       go_wp2_with fail
       refine (HCM.out _).mono ?_
       rintro e w10 ⟨rfl, rfl⟩
       have HB10 := Hq (Below.refl w9.heap.size w9)
       go_wp2
       refine hK10 _ _ (by exact Below.trans hS_8_9 (Below.mono HB10.out (Below.size hS_8_9))) ?_; clear hK10; intro hS_8_10 hD
       refine rP 11 50 1 rfl hD hS_8_10 ?_; clear hD; intro hD; simp only [Act.put, sqA, sqB, sqC]
       refine rP 12 51 0 rfl hD hS_8_10 ?_; clear hD; intro hD; simp only [Act.put, sqA, sqB, sqC]
       refine wpAnyK_done (by kernel_rfl) ?_ 0
       clear hD
       have HSX := Hq (HB7.out.trans (((Below.refl w3.heap.size w3).drew.trans hS_8_10).mono HB7.out.size))
       refine hK8 _ _ ?_
       go_wp2
       go_ret
       exact ⟨rfl, HSX.out⟩
     · have hg := cmpI_nonneg (x := o) (y := 2) (by omega)
       obtain ⟨c, hc⟩ : ∃ c, cmpI o 2 = c := ⟨_, rfl⟩
       rw [hc] at hg HCM
       by_cases hr : (m - 1) % o = 0
       · rw [if_neg (by omega)]
         rw [hr, nS_zero] at HDM
         clear HSL HSG h1 hm ho8 ho hm1 hl hc ho1 hr
         go_enter Tryz.func60, Tryz.ntmps60
         have HX0 := Hq (Bx2.new w (.string s) (.string t) 24)
         have HB0 := Hq ((Below.refl w.heap.size w).alloc (Nat.le_refl _) (.cells #[.string s, .string t] 24))
         obtain ⟨W0, hW0⟩ : ∃ W0, w.alloc (.cells #[.string s, .string t] 24) = W0 := ⟨_, rfl⟩
         rw [hW0] at HX0 HB0
         have HW0 := Hq hW0
         clear hW0
         go_wp2_with fail
         rw [HW0.out]
         refine (HV1.out _).mono ?_
         rintro e w1 ⟨rfl, rfl⟩
         have c0 := HX0.out.c0
         have c1 := HX0.out.c1
         go_wp2_with fail
         refine (HV2.out _).mono ?_
         rintro e w1 ⟨rfl, rfl⟩
         go_wp2
         have d0 : W0.drew.cell? ⟨w.heap.size, 0, none⟩ = some (.string s) := c0
         have d1 : W0.drew.cell? ⟨w.heap.size, 1, none⟩ = some (.string t) := c1
         rename_i K7 hK7
         refine wp_onlyN ?_
         refine wp_region_K 9 (Below (W0.drew).heap.size (W0.drew)) (by kernel_rfl) ?_
         intro hD
         refine rP 0 33 8 rfl hD (Below.refl _ _) ?_; clear hD; intro hD; simp only [Act.put, sqA, sqB, sqC]
         refine rT 1 34 7 rfl hD (Below.refl _ _) (by intro w' hS'; have e0 := kC hS' d0; have e1 := kC hS' d1; go_simp; with_reducible rfl) ?_; clear hD; intro hD; simp only [Act.put, sqA, sqB, sqC]
         refine rO 2 6 rfl hD ?_; clear hD; intro K2 hK2
         go_wp2_with fail
         refine (HO1.out _).mono ?_
         rintro e w2 ⟨rfl, hb⟩
         have HB2 := Hq hb
         clear hb
         go_wp2
         refine hK2 _ _ (by exact HB2.out) ?_; clear hK2; intro hS_7_2 hD
         refine rO 3 5 rfl hD ?_; clear hD; intro K3 hK3
         go_wp2_with fail
         refine (HSB.out _).mono ?_
         rintro e w3 ⟨rfl, hb⟩
         have HB3 := Hq hb
         clear hb
         go_wp2
         refine hK3 _ _ (by exact Below.trans hS_7_2 (Below.mono HB3.out (Below.size hS_7_2))) ?_; clear hK3; intro hS_7_3 hD
         refine rP 4 32 4 rfl hD hS_7_3 ?_; clear hD; intro hD; simp only [Act.put, sqA, sqB, sqC]
         refine rP 5 37 3 rfl hD hS_7_3 ?_; clear hD; intro hD; simp only [Act.put, sqA, sqB, sqC]
         refine rP 6 38 2 rfl hD hS_7_3 ?_; clear hD; intro hD; simp only [Act.put, sqA, sqB, sqC]
         refine rO 7 1 rfl hD ?_; clear hD; intro K7 hK7
         go_wp2
         refine hK7 _ _ (by exact hS_7_3) ?_; clear hK7; intro hS_7_7 hD
         refine rO 8 0 rfl hD ?_; clear hD; intro K8 hK8
         go_wp2
         refine hK8 _ _ (by exact hS_7_7) ?_; clear hK8; intro hS_7_8 hD
         refine wpAnyK_done (by kernel_rfl) ?_ 0
         clear hD d0 d1
         have hS7 := (Below.refl W0.heap.size W0).drew.trans hS_7_8
         have HX7 := Hq (HX0.out.next hS7)
         have HB7 := Hq (HB0.out.trans (hS7.mono HB0.out.size))
         clear hS7
         refine hK7 _ _ ?_
         have e0 : w3.drew.cell? ⟨w.heap.size, 0, none⟩ = some (.string s) := HX7.out.c0
         have e1 : w3.drew.cell? ⟨w.heap.size, 1, none⟩ = some (.string t) := HX7.out.c1
         clear c0 c1
         go_wp2
         rename_i K8 hK8
         refine wp_onlyN ?_
         refine wp_region_K 13 (Below (w3.drew).heap.size (w3.drew)) (by kernel_rfl) ?_
         intro hD
         refine rP 0 39 12 rfl hD (Below.refl _ _) ?_; clear hD; intro hD; simp only [Act.put, sqA, sqB, sqC]
         refine rP 1 40 11 rfl hD (Below.refl _ _) ?_; clear hD; intro hD; simp only [Act.put, sqA, sqB, sqC]
         refine rP 2 41 10 rfl hD (Below.refl _ _) ?_; clear hD; intro hD; simp only [Act.put, sqA, sqB, sqC]
         refine rP 3 42 9 rfl hD (Below.refl _ _) ?_; clear hD; intro hD; simp only [Act.put, sqA, sqB, sqC]
         refine rP 4 43 8 rfl hD (Below.refl _ _) ?_; clear hD; intro hD; simp only [Act.put, sqA, sqB, sqC]
         refine rP 5 44 7 rfl hD (Below.refl _ _) ?_; clear hD; intro hD; simp only [Act.put, sqA, sqB, sqC]
         refine rP 6 45 6 rfl hD (Below.refl _ _) ?_; clear hD; intro hD; simp only [Act.put, sqA, sqB, sqC]
         refine rP 7 46 5 rfl hD (Below.refl _ _) ?_; clear hD; intro hD; simp only [Act.put, sqA, sqB, sqC]
         refine rT 8 47 4 rfl hD (Below.refl _ _) (by intro w' hS'; have e0 := kC hS' e0; have e1 := kC hS' e1; go_simp; with_reducible rfl) ?_; clear hD; intro hD; simp only [Act.put, sqA, sqB, sqC]
         refine rO 9 3 rfl hD ?_; clear hD; intro K9 hK9
         go_wp2_with fail
         refine (HO2.out _).mono ?_
         rintro e w9 ⟨rfl, hb⟩
         have HB9 := Hq hb
         clear hb
         go_wp2
         refine hK9 _ _ (by exact HB9.out) ?_; clear hK9; intro hS_8_9 hD
         refine rO 10 2 rfl hD ?_; clear hD; intro K10 hK10
         go_wp2_with fail
         refine (HCM.out _).mono ?_
         rintro e w10 ⟨rfl, rfl⟩
         have HB10 := Hq (Below.refl w9.heap.size w9)
         go_wp2
         refine hK10 _ _ (by exact Below.trans hS_8_9 (Below.mono HB10.out (Below.size hS_8_9))) ?_; clear hK10; intro hS_8_10 hD
         refine rP 11 50 1 rfl hD hS_8_10 ?_; clear hD; intro hD; simp only [Act.put, sqA, sqB, sqC]
         refine rP 12 51 0 rfl hD hS_8_10 ?_; clear hD; intro hD; simp only [Act.put, sqA, sqB, sqC]
         refine wpAnyK_done (by kernel_rfl) ?_ 0
         clear hD
         have HSX := Hq (HB7.out.trans (((Below.refl w3.heap.size w3).drew.trans hS_8_10).mono HB7.out.size))
         refine hK8 _ _ ?_
         have hx9 : Bx2 w9 w.heap.size (.string s) (.string t) 24 := (HX7.out.next (Below.refl _ _).drew).next HB9.out
         have f1 := hx9.c1
         clear hx9 e0 e1
         go_wp2_with fail
         refine (HDM.out _).mono ?_
         rintro e w11 ⟨rfl, hb⟩
         have HB11 := Hq (HSX.out.trans (hb.mono HSX.out.size))
         clear hb
         go_wp2
         go_ret
         exact ⟨rfl, HB11.out⟩
       · rw [if_pos (.inr (.inr hr))]
         have her := empty_nS (Nat.pos_of_ne_zero hr)
         clear HSL HSG h1 hm ho8 ho hm1 hl hc ho1 hr
         go_enter Tryz.func60, Tryz.ntmps60
         have HX0 := Hq (Bx2.new w (.string s) (.string t) 24)
         have HB0 := Hq ((Below.refl w.heap.size w).alloc (Nat.le_refl _) (.cells #[.string s, .string t] 24))
         obtain ⟨W0, hW0⟩ : ∃ W0, w.alloc (.cells #[.string s, .string t] 24) = W0 := ⟨_, rfl⟩
         rw [hW0] at HX0 HB0
         have HW0 := Hq hW0
         clear hW0
         go_wp2_with fail
         rw [HW0.out]
         refine (HV1.out _).mono ?_
         rintro e w1 ⟨rfl, rfl⟩
         have c0 := HX0.out.c0
         have c1 := HX0.out.c1
         go_wp2_with fail
         refine (HV2.out _).mono ?_
         rintro e w1 ⟨rfl, rfl⟩
         go_wp2
         have d0 : W0.drew.cell? ⟨w.heap.size, 0, none⟩ = some (.string s) := c0
         have d1 : W0.drew.cell? ⟨w.heap.size, 1, none⟩ = some (.string t) := c1
         rename_i K7 hK7
         refine wp_onlyN ?_
         refine wp_region_K 9 (Below (W0.drew).heap.size (W0.drew)) (by kernel_rfl) ?_
         intro hD
         refine rP 0 33 8 rfl hD (Below.refl _ _) ?_; clear hD; intro hD; simp only [Act.put, sqA, sqB, sqC]
         refine rT 1 34 7 rfl hD (Below.refl _ _) (by intro w' hS'; have e0 := kC hS' d0; have e1 := kC hS' d1; go_simp; with_reducible rfl) ?_; clear hD; intro hD; simp only [Act.put, sqA, sqB, sqC]
         refine rO 2 6 rfl hD ?_; clear hD; intro K2 hK2
         go_wp2_with fail
         refine (HO1.out _).mono ?_
         rintro e w2 ⟨rfl, hb⟩
         have HB2 := Hq hb
         clear hb
         go_wp2
         refine hK2 _ _ (by exact HB2.out) ?_; clear hK2; intro hS_7_2 hD
         refine rO 3 5 rfl hD ?_; clear hD; intro K3 hK3
         go_wp2_with fail
         refine (HSB.out _).mono ?_
         rintro e w3 ⟨rfl, hb⟩
         have HB3 := Hq hb
         clear hb
         go_wp2
         refine hK3 _ _ (by exact Below.trans hS_7_2 (Below.mono HB3.out (Below.size hS_7_2))) ?_; clear hK3; intro hS_7_3 hD
         refine rP 4 32 4 rfl hD hS_7_3 ?_; clear hD; intro hD; simp only [Act.put, sqA, sqB, sqC]
         refine rP 5 37 3 rfl hD hS_7_3 ?_; clear hD; intro hD; simp only [Act.put, sqA, sqB, sqC]
         refine rP 6 38 2 rfl hD hS_7_3 ?_; clear hD; intro hD; simp only [Act.put, sqA, sqB, sqC]
         refine rO 7 1 rfl hD ?_; clear hD; intro K7 hK7
         go_wp2
         refine hK7 _ _ (by exact hS_7_3) ?_; clear hK7; intro hS_7_7 hD
         refine rO 8 0 rfl hD ?_; clear hD; intro K8 hK8
         go_wp2
         refine hK8 _ _ (by exact hS_7_7) ?_; clear hK8; intro hS_7_8 hD
         refine wpAnyK_done (by kernel_rfl) ?_ 0
         clear hD d0 d1
         have hS7 := (Below.refl W0.heap.size W0).drew.trans hS_7_8
         have HX7 := Hq (HX0.out.next hS7)
         have HB7 := Hq (HB0.out.trans (hS7.mono HB0.out.size))
         clear hS7
         refine hK7 _ _ ?_
         have e0 : w3.drew.cell? ⟨w.heap.size, 0, none⟩ = some (.string s) := HX7.out.c0
         have e1 : w3.drew.cell? ⟨w.heap.size, 1, none⟩ = some (.string t) := HX7.out.c1
         clear c0 c1
         go_wp2
         rename_i K8 hK8
         refine wp_onlyN ?_
         refine wp_region_K 13 (Below (w3.drew).heap.size (w3.drew)) (by kernel_rfl) ?_
         intro hD
         refine rP 0 39 12 rfl hD (Below.refl _ _) ?_; clear hD; intro hD; simp only [Act.put, sqA, sqB, sqC]
         refine rP 1 40 11 rfl hD (Below.refl _ _) ?_; clear hD; intro hD; simp only [Act.put, sqA, sqB, sqC]
         refine rP 2 41 10 rfl hD (Below.refl _ _) ?_; clear hD; intro hD; simp only [Act.put, sqA, sqB, sqC]
         refine rP 3 42 9 rfl hD (Below.refl _ _) ?_; clear hD; intro hD; simp only [Act.put, sqA, sqB, sqC]
         refine rP 4 43 8 rfl hD (Below.refl _ _) ?_; clear hD; intro hD; simp only [Act.put, sqA, sqB, sqC]
         refine rP 5 44 7 rfl hD (Below.refl _ _) ?_; clear hD; intro hD; simp only [Act.put, sqA, sqB, sqC]
         refine rP 6 45 6 rfl hD (Below.refl _ _) ?_; clear hD; intro hD; simp only [Act.put, sqA, sqB, sqC]
         refine rP 7 46 5 rfl hD (Below.refl _ _) ?_; clear hD; intro hD; simp only [Act.put, sqA, sqB, sqC]
         refine rT 8 47 4 rfl hD (Below.refl _ _) (by intro w' hS'; have e0 := kC hS' e0; have e1 := kC hS' e1; go_simp; with_reducible rfl) ?_; clear hD; intro hD; simp only [Act.put, sqA, sqB, sqC]
         refine rO 9 3 rfl hD ?_; clear hD; intro K9 hK9
         go_wp2_with fail
         refine (HO2.out _).mono ?_
         rintro e w9 ⟨rfl, hb⟩
         have HB9 := Hq hb
         clear hb
         go_wp2
         refine hK9 _ _ (by exact HB9.out) ?_; clear hK9; intro hS_8_9 hD
         refine rO 10 2 rfl hD ?_; clear hD; intro K10 hK10
         go_wp2_with fail
         refine (HCM.out _).mono ?_
         rintro e w10 ⟨rfl, rfl⟩
         have HB10 := Hq (Below.refl w9.heap.size w9)
         go_wp2
         refine hK10 _ _ (by exact Below.trans hS_8_9 (Below.mono HB10.out (Below.size hS_8_9))) ?_; clear hK10; intro hS_8_10 hD
         refine rP 11 50 1 rfl hD hS_8_10 ?_; clear hD; intro hD; simp only [Act.put, sqA, sqB, sqC]
         refine rP 12 51 0 rfl hD hS_8_10 ?_; clear hD; intro hD; simp only [Act.put, sqA, sqB, sqC]
         refine wpAnyK_done (by kernel_rfl) ?_ 0
         clear hD
         have HSX := Hq (HB7.out.trans (((Below.refl w3.heap.size w3).drew.trans hS_8_10).mono HB7.out.size))
         refine hK8 _ _ ?_
         have hx9 : Bx2 w9 w.heap.size (.string s) (.string t) 24 := (HX7.out.next (Below.refl _ _).drew).next HB9.out
         have f1 := hx9.c1
         clear hx9 e0 e1
         go_wp2_with fail
         refine (HDM.out _).mono ?_
         rintro e w11 ⟨rfl, hb⟩
         have HB11 := Hq (HSX.out.trans (hb.mono HSX.out.size))
         clear hb
         go_wp2
         go_ret
         exact ⟨rfl, HB11.out⟩
end Go.Proofs.YtndmjfkmnjejkaaGreatDoor

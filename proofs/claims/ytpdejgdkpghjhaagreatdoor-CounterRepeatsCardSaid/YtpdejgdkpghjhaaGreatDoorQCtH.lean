/- Walks: counter.Base, Serial and the reference's. -/
import Derived.Test.YtpdejgdkpghjhaaGreatDoorQPeCA
import Derived.Test.YtpdejgdkpghjhaaGreatDoorQPeP
import Derived.Test.YtpdejgdkpghjhaaGreatDoorQCtA
import Derived.Test.YtpdejgdkpghjhaaGreatDoorQPeFA
import Derived.Test.YtpdejgdkpghjhaaGreatDoorQPeEA
set_option linter.unusedVariables false
set_option linter.unusedSimpArgs false
namespace Go.Proofs.YtpdejgdkpghjhaaGreatDoor
open Go.RowKit Go.Lib
theorem sln_nil (w : World) : SlN w none 0 0 [] := ⟨rfl, Nat.le_refl _, by omega, 0, 0, fun h => absurd h (Nat.lt_irrefl _), fun k s h => by simp at h⟩
set_option maxRecDepth 100000 in
set_option maxHeartbeats 1000000 in
theorem ct_Base (M O G H s : ByteArray) (p : Int) (hM : M.size ≤ 8) (hO : O.size ≤ 100) (hG : G.size ≤ 1000) (hH : H.size ≤ 1000) (hs : s.size ≤ 10000) (hp : p < 9223372036854775808) (hp2 : -9223372036854775808 ≤ p) (w : World) (ht : T10 w) : Calls Tryz.prog 15 #[kV M O G H, .string s, .int .i64 p] w (Ret (bsR M O G H s.data.toList p 0 []) w) := by
  have HBS := Lib.hid (fun w ht => ck_base M O G H s p 0 [] none 0 0 hM hO hG hH hs hp hp2 (by omega) (fun x h => by cases h) w (sln_nil w) ht)
  obtain ⟨rs, re, hr⟩ := bsR_form M O G H s.data.toList p 0 []
  rw [hr] at HBS ⊢
  have HK0 := Lib.hid (KB.new w M O G H)
  have HT := Lib.hid (ht.next ((Below.refl _ _).alloc (Nat.le_refl _) (.cells #[.string M, .string O, .string G, .string H] 26)))
  obtain ⟨c0, c1, c2, c3⟩ := HK0.out.1.cells
  unfold kV at *
  clear hr ht hM hO hG hH hs hp hp2
  go_enter Tryz.func15, Tryz.ntmps15
  go_wp2_with fail
  refine (HBS.out _ HT.out).mono ?_
  rintro ev w1 ⟨rfl, hb⟩
  have HK1 := Lib.hid (HK0.out.next hb)
  clear hb c0 c1 c2 c3
  go_wp2
  go_ret2
  exact ⟨rfl, HK1.out.2⟩
def srP (M O X : ByteArray) (c : Nat) (b : Nat) : Value :=
  if Nat.gcd ((num X + c + 1) % num O) (num O) = 1 then .tuple #[.string (nS (b ^ invN ((num X + c + 1) % num O) (num O) % num M)), .int .i64 0] else .tuple #[.string ⟨#[]⟩, .int .i64 11]
def srV (M O X : ByteArray) (c : Int) (rs : ByteArray) (re : Int) : Value := if re = 0 then srP M O X c.toNat (num rs) else .tuple #[.string ⟨#[]⟩, .int .i64 re]
theorem bsR_ok {M O G H : ByteArray} {l : List UInt8} {p c : Int} {X rs : ByteArray} (h : bsR M O G H l p c [X] = .tuple #[.string rs, .int .i64 0]) :
    nvalid X = true ∧ pkC M O G H = 0 ∧ num O ≠ 0 ∧ 0 ≤ p ∧ 0 ≤ c ∧ hasK M O rs = true ∧ rs = nS (num rs) := by
  have inj : ∀ {a b : ByteArray} {x y : Int}, (Value.tuple #[.string a, .int .i64 x]) = .tuple #[.string b, .int .i64 y] → a = b ∧ x = y := fun h => by
    injection h with h
    have h := congrArg Array.toList h
    simp at h
    exact h
  unfold bsR at h
  split at h
  · rename_i hv
    split at h
    · rename_i hc
      split at h
      · have := (inj h).2; omega
      · rename_i hz
        split at h
        · have := (inj h).2; omega
        · rename_i hn
          unfold bsO at h
          cases ho : hkN (num M) (num O) (ctL p.toNat l) with
          | none => rw [ho] at h; have := (inj h).2; omega
          | some b =>
            rw [ho] at h
            unfold bsP at h
            simp only [] at h
            split at h
            · rename_i hk
              obtain ⟨e, _⟩ := inj h
              refine ⟨by simpa using hv, hc, hz, by omega, by omega, by rw [← e]; exact hk, by rw [← e, num_nS]⟩
            · have := (inj h).2; omega
    · rename_i hc
      have := (inj h).2
      exact absurd this hc
  · have := (inj h).2; omega
end Go.Proofs.YtpdejgdkpghjhaaGreatDoor
/- Walk: counter.Serial. -/
set_option linter.unusedVariables false
set_option linter.unusedSimpArgs false
namespace Go.Proofs.YtpdejgdkpghjhaaGreatDoor
open Go.RowKit Go.Lib
theorem add_two (x c q : Nat) : ((x + c) % q + 1) % q = (x + c + 1) % q := by rw [Nat.add_mod ((x + c) % q), Nat.mod_mod, ← Nat.add_mod]
theorem hasK_parts {M O x : ByteArray} (h : hasK M O x = true) : chkK M O = 0 ∧ nvalid x = true ∧ hasN (num M) (num O) (num x) = true := by
  unfold hasK at h
  simp only [Bool.and_eq_true, decide_eq_true_eq] at h
  exact ⟨h.1.1, h.1.2, h.2⟩
theorem ex_nat {M O G H x : ByteArray} (hc : pkC M O G H = 0) (hx : nvalid x = true) (hh : hasN (num M) (num O) (num x) = true) {y : Nat} (hy : y < 256 ^ 128) : prR M O [x] [(false, nS y)] = .tuple #[.string (nS (num x ^ y % num M)), .int .i64 0] := by
  have := ex_int hc hx hh (b := (y : Int)) (by rw [Int.natAbs_natCast]; exact hy)
  rw [Int.natAbs_natCast, decide_eq_false (by omega), pz_nat] at this
  exact this
set_option maxRecDepth 100000 in
set_option maxHeartbeats 4000000 in
theorem ct_Serial (M O G H s X : ByteArray) (p c : Int) (rs : ByteArray) (re : Int) (hM : M.size ≤ 8) (hO : O.size ≤ 100) (hG : G.size ≤ 1000) (hH : H.size ≤ 1000) (hs : s.size ≤ 10000) (hX : X.size ≤ 1000) (hp : p < 9223372036854775808) (hp2 : -9223372036854775808 ≤ p) (hc : c < 9223372036854775808) (hr : bsR M O G H s.data.toList p c [X] = .tuple #[.string rs, .int .i64 re]) (w : World) (ht : T10 w) : Calls Tryz.prog 17 #[kV M O G H, .string s, .int .i64 p, .string X, .int .i64 c] w (Ret (srV M O X c rs re) w) := by
  have HBS := Lib.hid (fun A w hsl ht => ck_base M O G H s p c [X] A 1 1 hM hO hG hH hs hp hp2 (by omega) (fun x h => by simp at h; subst h; exact hX) w hsl ht)
  rw [hr] at HBS
  have hk0 := KB.new w M O G H
  have ht1 := (ht.next ((Below.refl _ _).alloc (Nat.le_refl _) (.cells #[.string M, .string O, .string G, .string H] 26)))
  obtain ⟨W0, hW0⟩ : ∃ W, w.alloc (.cells #[.string M, .string O, .string G, .string H] 26) = W := ⟨_, rfl⟩
  rw [hW0] at hk0 ht1
  have hsl := sln_alloc W0 [X] 22 (by simp)
  have hbb := (Below.refl W0.heap.size W0).alloc (Nat.le_refl _) (.cells #[.string X] 22)
  have hk1 := hk0.next hbb
  have HT1 := Lib.hid (ht1.next hbb)
  have HSL := Lib.hid (show SlN (W0.alloc (.cells #[.string X] 22)) (some ⟨W0.heap.size, 0, none⟩) 1 1 [X] from hsl)
  obtain ⟨W1, hW1⟩ : ∃ W, W0.alloc (.cells #[.string X] 22) = W := ⟨_, rfl⟩
  rw [hW1] at hk1 HT1 HSL
  have HK1 := Lib.hid hk1
  obtain ⟨c0, c1, c2, c3⟩ := hk0.1.cells
  clear hsl hbb ht1 hk1
  by_cases hre : re = 0
  · subst hre
    obtain ⟨vX, hpk, hz, hp0, hc0, hhk, hrs⟩ := bsR_ok hr
    obtain ⟨cn, hcn⟩ : ∃ n : Nat, c = (n : Int) := ⟨c.toNat, by omega⟩
    have ho8 := ord_small hM hpk
    have hq8 := num_small ho8
    have hk := hasK_parts hhk
    have hv := pkC_kF hpk
    unfold kF at hv
    simp only [Bool.and_eq_true] at hv
    have vO := hv.1.1.2
    have hX128 : num X < 256 ^ 128 := num_lt (by unfold nvalid at vX; simp at vX; exact vX.1)
    have HRV := Lib.hid (show srV M O X c rs 0 = srP M O X cn (num rs) from by unfold srV; rw [if_pos rfl, hcn, Int.toNat_natCast])
    have HOF := Lib.hid (show ∀ w, Calls Tryz.prog 53 #[.int .u64 cn] w (Ret (.string (nS cn)) w) from nat_Of cn (by omega))
    have HO1 := Lib.hid (show ∀ w, Calls Tryz.prog 53 #[.int .u64 1] w (Ret (.string (nS 1)) w) from nat_Of 1 (by decide))
    have HA1 := Lib.hid (mod_Add (num X) cn (num O) hX128 (lt128_of_lt8 (by omega)) (lt128_of_lt8 hq8) (by omega))
    have hx1 := Nat.mod_lt (num X + cn) (show 0 < num O by omega)
    have HA2 := Lib.hid (mod_Add ((num X + cn) % num O) 1 (num O) (lt128_of_lt8 (by omega)) (by decide) (lt128_of_lt8 hq8) (by omega))
    rw [add_two] at HA2
    have hq1 : 1 < num O := by
      have hck := hk.1
      unfold chkK at hck
      split at hck
      · unfold chkN at hck
        rw [if_neg hz] at hck
        split at hck
        · cases hck
        · rename_i h
          rcases Nat.lt_or_ge 1 (num O) with a | a
          · exact a
          · exact absurd (Or.inr (Or.inl (by omega))) h
      · cases hck
    have hx2 := Nat.mod_lt (num X + cn + 1) (show 0 < num O by omega)
    have hwc : IntKind.u64.wrap (cn : Int) = (cn : Int) := by rw [IntKind.wrap_u64]; omega
    have hem : O.toList.isEmpty = false := by rw [nS_num vO]; exact empty_nS (by omega)
    rw [← nS_num vX] at HA1
    rw [← nS_num vO] at HA1 HA2
    obtain ⟨x, hx⟩ : ∃ x, (num X + cn + 1) % num O = x := ⟨_, rfl⟩
    rw [hx] at HA2 hx2
    have hcni : (cn : Int) ≤ 9223372036854775807 := by omega
    by_cases hg : Nat.gcd x (num O) = 1
    · have HIN := Lib.hid (mod_Inverse x (num O) hx2 hq8 hq1 hg)
      rw [← nS_num vO] at HIN
      have HXL := Lib.hid (fun y (hy : y < num O) => show y < 256 ^ 128 from lt128_of_lt8 (by omega))
      have HEX := Lib.hid (fun y (hy : y < num O) (w : World) => show Calls Tryz.prog 45 #[gV M O, .string rs, .agg #[.bool false, .string (nS y)]] w (Ret (.tuple #[.string (nS (num rs ^ y % num M)), .int .i64 0]) w) from by
        have := pw_Exp M O rs false (nS y) hM ho8 (by have := nvalid_lt hk.2.1; rw [hrs]; have := nS_size_le.2 this; omega) (by have := nS_small_size (show y < 18446744073709551616 by omega); omega) w
        rw [ex_nat hpk hk.2.1 hk.2.2 (lt128_of_lt8 (show y < 18446744073709551616 by omega))] at this
        exact this)
      have HRP := Lib.hid (fun y (hy : y < num O) (h : x * y % num O = 1) => show srP M O X cn (num rs) = .tuple #[.string (nS (num rs ^ y % num M)), .int .i64 0] from by
        unfold srP
        rw [hx, if_pos hg, invN_of hy h])
      rw [HRV.out]
      subst hcn
      unfold kV gV at *
      clear hr hM hO hG hH hs hX hp hp2 hc hpk hz hp0 hhk hrs ho8 hq8 hk hv vO vX hX128 hx1 hq1 hx2 hx hg ht hk0
      go_enter Tryz.func17, Tryz.ntmps17
      go_wp2_with fail
      try rw [hW1]
      refine (HBS.out _ _ HSL.out HT1.out).mono ?_
      rintro ev w2 ⟨rfl, hb⟩
      clear hW0 hW1
      have hk := HK1.out.next hb
      have HK2 := Lib.hid hk
      clear hb c0 c1 c2 c3
      obtain ⟨c0, c1, c2, c3⟩ := hk.1.cells
      clear hk
      go_wp2_with fail
      refine (HOF.out _).mono ?_
      rintro ev w3 ⟨rfl, hb⟩
      have hk := HK2.out.next hb
      have HK3 := Lib.hid hk
      clear hb c0 c1 c2 c3
      obtain ⟨c0, c1, c2, c3⟩ := hk.1.cells
      clear hk
      go_wp2_with fail
      refine (HA1.out _).mono ?_
      rintro ev w4 ⟨rfl, hb⟩
      have hk := HK3.out.next hb
      have HK4 := Lib.hid hk
      clear hb c0 c1 c2 c3
      obtain ⟨c0, c1, c2, c3⟩ := hk.1.cells
      clear hk
      go_wp2_with fail
      refine (HO1.out _).mono ?_
      rintro ev w5 ⟨rfl, hb⟩
      have hk := HK4.out.next hb
      have HK5 := Lib.hid hk
      clear hb c0 c1 c2 c3
      obtain ⟨c0, c1, c2, c3⟩ := hk.1.cells
      clear hk
      go_wp2_with fail
      refine (HA2.out _).mono ?_
      rintro ev w6 ⟨rfl, hb⟩
      have hk := HK5.out.next hb
      have HK6 := Lib.hid hk
      clear hb c0 c1 c2 c3
      obtain ⟨c0, c1, c2, c3⟩ := hk.1.cells
      clear hk
      go_wp2_with fail
      refine (HIN.out _).mono ?_
      rintro ev w7 ⟨y, rfl, hb, hyq, hxy⟩
      have hk := HK6.out.next hb
      have HK7 := Lib.hid hk
      clear hb c0 c1 c2 c3
      obtain ⟨c0, c1, c2, c3⟩ := hk.1.cells
      clear hk
      have HRY := Lib.hid (HRP.out y hyq hxy)
      have HEY := Lib.hid (HEX.out y hyq)
      have HFY := Lib.hid (int_From y (HXL.out y hyq))
      rw [intV_nat] at HFY
      obtain ⟨ys, hys⟩ : ∃ u, nS y = u := ⟨_, rfl⟩
      rw [hys] at HEY HFY ⊢
      obtain ⟨zs, hzs⟩ : ∃ u, nS (num rs ^ y % num M) = u := ⟨_, rfl⟩
      rw [hzs] at HEY
      have HZS := Lib.hid hzs
      clear hyq hxy hys hzs c0 c1 c2 c3
      obtain ⟨wd, hwd⟩ : ∃ wd, w7.drew = wd := ⟨_, rfl⟩
      have HKD := Lib.hid (show KB w wd M O G H from by rw [← hwd]; exact ⟨HK7.out.1, HK7.out.2.drew⟩)
      obtain ⟨d0, d1, d2, d3⟩ := HKD.out.1.cells
      go_wp2
      refine wp_region_K 10 (Below (wd).heap.size (wd)) (by kernel_rfl) ?_
      intro hD
      rw [hwd]
      refine wpAnyK_pureD (i := 0) (d := some 59) (v := ?v10_0b1) (fuel := 9) rfl (by kernel_rfl) (by kernel_rfl) (fun _ _ _ h => h) hD (Below.refl _ _) (.inl ⟨by kernel_rfl, ?y10_0b1⟩) ?n10_0b1
      case y10_0b1 => intro w' _; go_simp; with_reducible rfl
      clear hD; intro hD
      simp only [Act.put, sqA, sqB, sqC]
      refine wpAnyK_takeSD (i := 1) (d := some 60) (v := ?v10_1b1) (fuel := 8) rfl (by kernel_rfl) (by kernel_rfl) (by kernel_rfl) (fun _ _ _ h => h) hD (Below.refl _ _) (.inl ⟨by kernel_rfl, ?y10_1b1⟩) ?n10_1b1
      case y10_1b1 => intro w' hS'; have e0 := cell_kept hS' (Nat.le_refl _) d0; have e1 := cell_kept hS' (Nat.le_refl _) d1; have e2 := cell_kept hS' (Nat.le_refl _) d2; have e3 := cell_kept hS' (Nat.le_refl _) d3; go_simp; with_reducible rfl
      clear hD; intro hD
      simp only [Act.put, sqA, sqB, sqC]
      refine wpAnyK_pureD (i := 2) (d := some 61) (v := ?v10_2b1) (fuel := 7) rfl (by kernel_rfl) (by kernel_rfl) (fun _ _ _ h => h) hD (Below.refl _ _) (.inl ⟨by kernel_rfl, ?y10_2b1⟩) ?n10_2b1
      case y10_2b1 => intro w' _; go_simp; with_reducible rfl
      clear hD; intro hD
      simp only [Act.put, sqA, sqB, sqC]
      refine wpAnyK_pureD (i := 3) (d := some 62) (v := ?v10_3b1) (fuel := 6) rfl (by kernel_rfl) (by kernel_rfl) (fun _ _ _ h => h) hD (Below.refl _ _) (.inl ⟨by kernel_rfl, ?y10_3b1⟩) ?n10_3b1
      case y10_3b1 => intro w' _; go_simp; with_reducible rfl
      clear hD; intro hD
      simp only [Act.put, sqA, sqB, sqC]
      refine wpAnyK_one (i := 4) (fuel := 5) (by kernel_rfl) rfl hD ?_
      clear hD; intro K4 hK4
      go_wp2_with fail
      refine (HFY.out _).mono ?_
      rintro ev w8 ⟨rfl, hb8⟩
      have HB4 := Lib.hid hb8
      clear hb8
      go_wp2
      refine hK4 _ _ (by exact HB4.out) ?_; clear hK4; intro hS_10_4 hD
      refine wpAnyK_one (i := 5) (fuel := 4) (by kernel_rfl) rfl hD ?_
      clear hD; intro K5 hK5
      go_wp2_with fail
      refine (HEY.out _).mono ?_
      rintro ev w9 ⟨rfl, hb9⟩
      have HB5 := Lib.hid hb9
      clear hb9
      go_wp2
      refine hK5 _ _ (by exact Below.trans hS_10_4 (Below.mono HB5.out (Below.size hS_10_4))) ?_; clear hK5; intro hS_10_5 hD
      refine wpAnyK_pureD (i := 6) (d := some 65) (v := ?v10_6b1) (fuel := 3) rfl (by kernel_rfl) (by kernel_rfl) (fun _ _ _ h => h) hD hS_10_5 (.inl ⟨by kernel_rfl, ?y10_6b1⟩) ?n10_6b1
      case y10_6b1 => intro w' _; go_simp; with_reducible rfl
      clear hD; intro hD
      simp only [Act.put, sqA, sqB, sqC]
      refine wpAnyK_pureD (i := 7) (d := some 66) (v := ?v10_7b1) (fuel := 2) rfl (by kernel_rfl) (by kernel_rfl) (fun _ _ _ h => h) hD hS_10_5 (.inl ⟨by kernel_rfl, ?y10_7b1⟩) ?n10_7b1
      case y10_7b1 => intro w' _; go_simp; with_reducible rfl
      clear hD; intro hD
      simp only [Act.put, sqA, sqB, sqC]
      refine wpAnyK_one (i := 8) (fuel := 1) (by kernel_rfl) rfl hD ?_
      clear hD; intro K8 hK8
      go_wp2
      refine hK8 _ _ (by exact hS_10_5) ?_; clear hK8; intro hS_10_8 hD
      refine wpAnyK_one (i := 9) (fuel := 0) (by kernel_rfl) rfl hD ?_
      clear hD; intro K9 hK9
      go_wp2
      refine hK9 _ _ (by exact hS_10_8) ?_; clear hK9; intro hS_10_9 hD
      have HLL := Lib.hid hS_10_9
      refine wpAnyK_done (by kernel_rfl) ?_ 0
      clear hD
      go_wp2
      go_ret2
      exact ⟨by rw [HRY.out, HZS.out]; rfl, HKD.out.2.trans (HLL.out.mono HKD.out.2.size)⟩
    · have HIN := Lib.hid (mod_Inverse_none x (num O) hx2 hq8 hq1 hg)
      rw [← nS_num vO] at HIN
      have HRP := Lib.hid (show srP M O X cn (num rs) = .tuple #[.string ⟨#[]⟩, .int .i64 11] from by unfold srP; rw [hx, if_neg hg])
      rw [HRV.out, HRP.out]
      subst hcn
      unfold kV at *
      clear hr hM hO hG hH hs hX hp hp2 hc hpk hz hp0 hhk hrs ho8 hq8 hk hv vO vX hX128 hx1 hq1 hx2 hx hg ht hk0
      go_enter Tryz.func17, Tryz.ntmps17
      go_wp2_with fail
      try rw [hW1]
      refine (HBS.out _ _ HSL.out HT1.out).mono ?_
      rintro ev w2 ⟨rfl, hb⟩
      clear hW0 hW1
      have hk := HK1.out.next hb
      have HK2 := Lib.hid hk
      clear hb c0 c1 c2 c3
      obtain ⟨c0, c1, c2, c3⟩ := hk.1.cells
      clear hk
      go_wp2_with fail
      refine (HOF.out _).mono ?_
      rintro ev w3 ⟨rfl, hb⟩
      have hk := HK2.out.next hb
      have HK3 := Lib.hid hk
      clear hb c0 c1 c2 c3
      obtain ⟨c0, c1, c2, c3⟩ := hk.1.cells
      clear hk
      go_wp2_with fail
      refine (HA1.out _).mono ?_
      rintro ev w4 ⟨rfl, hb⟩
      have hk := HK3.out.next hb
      have HK4 := Lib.hid hk
      clear hb c0 c1 c2 c3
      obtain ⟨c0, c1, c2, c3⟩ := hk.1.cells
      clear hk
      go_wp2_with fail
      refine (HO1.out _).mono ?_
      rintro ev w5 ⟨rfl, hb⟩
      have hk := HK4.out.next hb
      have HK5 := Lib.hid hk
      clear hb c0 c1 c2 c3
      obtain ⟨c0, c1, c2, c3⟩ := hk.1.cells
      clear hk
      go_wp2_with fail
      refine (HA2.out _).mono ?_
      rintro ev w6 ⟨rfl, hb⟩
      have hk := HK5.out.next hb
      have HK6 := Lib.hid hk
      clear hb c0 c1 c2 c3
      obtain ⟨c0, c1, c2, c3⟩ := hk.1.cells
      clear hk
      go_wp2_with fail
      refine (HIN.out _).mono ?_
      rintro ev w7 ⟨rfl, hb⟩
      have hk := HK6.out.next hb
      have HK7 := Lib.hid hk
      clear hb c0 c1 c2 c3
      obtain ⟨c0, c1, c2, c3⟩ := hk.1.cells
      clear hk
      go_wp2
      go_ret2
      exact ⟨rfl, HK7.out.2⟩
  · have HRV := Lib.hid (show srV M O X c rs re = .tuple #[.string ⟨#[]⟩, .int .i64 re] from by unfold srV; rw [if_neg hre])
    rw [HRV.out]
    unfold kV at *
    clear hr hM hO hG hH hs hX hp hp2 hc ht hk0
    go_enter Tryz.func17, Tryz.ntmps17
    go_wp2_with fail
    try rw [hW1]
    refine (HBS.out _ _ HSL.out HT1.out).mono ?_
    rintro ev w2 ⟨rfl, hb⟩
    clear hW0 hW1
    have hk := HK1.out.next hb
    have HK2 := Lib.hid hk
    clear hb c0 c1 c2 c3
    obtain ⟨c0, c1, c2, c3⟩ := hk.1.cells
    clear hk
    go_wp2
    go_ret2
    exact ⟨rfl, HK2.out.2⟩
end Go.Proofs.YtpdejgdkpghjhaaGreatDoor

/- Walks: modular.Inverse, modular.Power; dominoref02.DivMod, Mod. -/
import Derived.Test.YtpdejgdkpghjhaaGreatDoorQExW
import Derived.Test.YtpdejgdkpghjhaaGreatDoorQExp
set_option linter.unusedVariables false
set_option linter.unusedSimpArgs false
namespace Go.Proofs.YtpdejgdkpghjhaaGreatDoor
open Go.RowKit
def RetI (a m : Nat) (w : World) (e : Ending) (w' : World) : Prop := ∃ x : Nat, e = .returned (.tuple #[.string (nS x), .int .i64 0]) ∧ Below w.heap.size w w' ∧ x < m ∧ a * x % m = 1
set_option maxRecDepth 100000 in
set_option maxHeartbeats 1000000 in
theorem mod_Inverse (a m : Nat) (ham : a < m) (hm8 : m < 18446744073709551616) (h1 : 1 < m) (hg : Nat.gcd a m = 1) (w : World) : Calls Tryz.prog 54 #[.string (nS a), .string (nS m)] w (RetI a m w) := by
  have ha8 : a < 18446744073709551616 := by omega
  have HC := Lib.hid (fun w => check_one w (nS a) (nS m) _ rfl (nS_valid_small ha8) (nS_valid_small hm8) (empty_nS (by omega)) _ rfl)
  have HR := Lib.hid (mod_reduced a m ha8 (lt128_of_lt8 hm8) (by omega))
  rw [Nat.mod_eq_of_lt ham] at HR
  have HE := Lib.hid (int_Extended a m ham hm8)
  have HRX := Lib.hid (fun x (hx : x < 18446744073709551616) => mod_reduced x m hx (lt128_of_lt8 hm8) (by omega))
  have HG := Lib.hid hg
  have HM1 := Lib.hid h1
  obtain ⟨s, hs⟩ : ∃ s, nS a = s := ⟨_, rfl⟩
  obtain ⟨t, ht⟩ : ∃ t, nS m = t := ⟨_, rfl⟩
  rw [hs, ht] at HC HR HE
  rw [ht] at HRX
  rw [hs, ht]
  clear hs ht ham hm8 h1 hg ha8
  go_enter Tryz.func54, Tryz.ntmps54
  go_wp2_with fail
  refine (HC.out w).mono ?_
  rintro e w1 ⟨rfl, hb1⟩
  have HB1 := Lib.hid ((((Below.refl w.heap.size w).alloc (Nat.le_refl _) _).alloc (by simp) _).trans hb1)
  clear hb1
  go_wp2_with fail
  refine (HR.out _).mono ?_
  rintro e w2 ⟨rfl, hb2⟩
  have HB2 := Lib.hid (HB1.out.trans (hb2.mono HB1.out.size))
  clear hb2
  go_wp2_with fail
  refine (HE.out _).mono ?_
  rintro e w3 ⟨x, y, rfl, hb3, hx0, hx8, hbz⟩
  have HB3 := Lib.hid (HB2.out.trans (hb3.mono HB2.out.size))
  rw [HG.out] at hbz
  have HI := Lib.hid (inv_red (inv_of_bez hx0 hbz HM1.out))
  have HRR := Lib.hid (HRX.out x.natAbs hx8)
  rw [HG.out, nS_one]
  unfold intV zV
  have HML := Lib.hid (show x.natAbs % m < m from Nat.mod_lt _ (by have := HM1.out; omega))
  obtain ⟨X, hX⟩ : ∃ X, x.natAbs = X := ⟨_, rfl⟩
  obtain ⟨u, hu⟩ : ∃ u, nS X = u := ⟨_, rfl⟩
  rw [hX] at HI HRR HML ⊢
  rw [hu] at HRR ⊢
  obtain ⟨dx, hdx⟩ : ∃ dx, decide (x < 0) = dx := ⟨_, rfl⟩
  obtain ⟨dy, hdy⟩ : ∃ dy, decide (y < 0) = dy := ⟨_, rfl⟩
  obtain ⟨v, hv⟩ : ∃ v, nS y.natAbs = v := ⟨_, rfl⟩
  rw [hdx, hdy, hv]
  clear hb3 hbz hx0 hx8 hX hu hdx hdy hv
  go_wp2_with fail
  refine (HRR.out _).mono ?_
  rintro e w4 ⟨rfl, hb4⟩
  have HB4 := Lib.hid (((HB3.out.alloc HB3.out.size (.cells #[.bool dx, .string u] 67)).alloc (by have := HB3.out.size; simp; omega) (.cells #[.bool dy, .string v] 67)).trans (hb4.mono (by have := HB3.out.size; simp; omega)))
  clear hb4
  go_wp2
  go_ret2
  exact ⟨X % m, rfl, HB4.out, HML.out, HI.out⟩
end Go.Proofs.YtpdejgdkpghjhaaGreatDoor
/- Walks: primegroup.formed, Has; dominoref09.form, Has. -/
set_option linter.unusedVariables false
set_option linter.unusedSimpArgs false
namespace Go.Proofs.YtpdejgdkpghjhaaGreatDoor
open Go.RowKit
theorem nS_beq (a b : Nat) : ((nS a).toList == (nS b).toList) = decide (a = b) := by
  rw [ByteArray.toList_eq, ByteArray.toList_eq, nS_data, nS_data, Bool.eq_iff_iff, beq_iff_eq, decide_eq_true_eq]
  exact ⟨fun h => by rw [← bnat_encN a, h, bnat_encN], fun h => by rw [h]⟩
theorem nS_is1 (a : Nat) : ((nS a).toList == [1]) = decide (a = 1) := by
  rw [← nS_beq a 1, show (nS 1).toList = [1] from by rw [ByteArray.toList_eq, nS_data]; rfl]
def gV (M O : ByteArray) : Value := .agg #[.string M, .string O]
set_option maxRecDepth 100000 in
theorem pg_formed (M O : ByteArray) (hM : M.size ≤ 9223372036854775807) (hO : O.size ≤ 9223372036854775807) (w : World) : Calls Tryz.prog 61 #[gV M O] w (Ret (.bool (nvalid M && nvalid O)) w) := by
  have HV1 := Lib.hid (nat_Valid M hM)
  have HV2 := Lib.hid (nat_Valid O hO)
  unfold gV
  go_enter Tryz.func61, Tryz.ntmps61
  go_wp2_with fail
  refine (HV1.out _).mono ?_
  rintro e w1 ⟨rfl, rfl⟩
  cases hv : nvalid M with
  | false =>
    have HVE := Lib.hid hv
    clear hv
    go_wp2
    go_ret
    exact ⟨by rw [HVE.out]; rfl, (Below.refl _ _).alloc (Nat.le_refl _) _⟩
  | true =>
    have HVE := Lib.hid hv
    clear hv
    go_wp2_with fail
    refine (HV2.out _).mono ?_
    rintro e w1 ⟨rfl, rfl⟩
    go_wp2
    go_ret
    exact ⟨by rw [HVE.out, Bool.true_and]; rfl, (Below.refl _ _).alloc (Nat.le_refl _) _⟩
def hasP (M O e : ByteArray) : Prop := nvalid M = true ∧ nvalid O = true ∧ nvalid e = true ∧ 0 < num O ∧ 0 < num e ∧ num e < num M ∧ num e ^ num O % num M = 1
instance (M O e : ByteArray) : Decidable (hasP M O e) := by unfold hasP; exact inferInstance
def hasG (M O e : ByteArray) : Bool := decide (hasP M O e)
set_option maxRecDepth 100000 in
set_option maxHeartbeats 2000000 in
theorem pg_Has (M O e : ByteArray) (hM : M.size ≤ 8) (hO : O.size ≤ 1000) (he : e.size ≤ 1000) (w : World) : Calls Tryz.prog 190 #[gV M O, .string e] w (Ret (.bool (hasG M O e)) w) := by
  have HF := Lib.hid (pg_formed M O (by omega) (by omega))
  have HV := Lib.hid (nat_Valid e (by omega))
  have HB0 : Below w.heap.size w (w.alloc (.cells #[.string M, .string O] 24)) := (Below.refl _ _).alloc (Nat.le_refl _) _
  cases hf : (nvalid M && nvalid O) with
  | false =>
    have HR := Lib.hid (show hasG M O e = false from decide_eq_false (fun h => by rw [h.1, h.2.1] at hf; cases hf))
    rw [hf] at HF
    clear hf
    rw [HR.out]
    unfold gV at *
    go_enter Tryz.func190, Tryz.ntmps190
    go_wp2_with fail
    refine (HF.out _).mono ?_
    rintro ev w1 ⟨rfl, hb1⟩
    have HB1 := Lib.hid (HB0.trans (hb1.mono HB0.size))
    have hbx : (w1.heap[w.heap.size]?) = some (.cells #[.string M, .string O] 24) := (hb1.block _ (by simp)).trans (heap_alloc_new _ _)
    have c0 : w1.cell? ⟨w.heap.size, 0, none⟩ = some (.string M) := by rw [Lib.cell_of_heap hbx]; rfl
    have c1 : w1.cell? ⟨w.heap.size, 1, none⟩ = some (.string O) := by rw [Lib.cell_of_heap hbx]; rfl
    have HBX := Lib.hid hbx
    clear hb1 hbx
    go_wp2
    go_ret
    exact ⟨rfl, HB1.out⟩
  | true =>
    rw [hf] at HF
    rw [Bool.and_eq_true] at hf
    cases hv : nvalid e with
    | false =>
      have HR := Lib.hid (show hasG M O e = false from decide_eq_false (fun h => by rw [h.2.2.1] at hv; cases hv))
      rw [hv] at HV
      clear hv hf
      rw [HR.out]
      unfold gV at *
      go_enter Tryz.func190, Tryz.ntmps190
      go_wp2_with fail
      refine (HF.out _).mono ?_
      rintro ev w1 ⟨rfl, hb1⟩
      have HB1 := Lib.hid (HB0.trans (hb1.mono HB0.size))
      have hbx : (w1.heap[w.heap.size]?) = some (.cells #[.string M, .string O] 24) := (hb1.block _ (by simp)).trans (heap_alloc_new _ _)
      have c0 : w1.cell? ⟨w.heap.size, 0, none⟩ = some (.string M) := by rw [Lib.cell_of_heap hbx]; rfl
      have c1 : w1.cell? ⟨w.heap.size, 1, none⟩ = some (.string O) := by rw [Lib.cell_of_heap hbx]; rfl
      have HBX := Lib.hid hbx
      clear hb1 hbx
      go_wp2_with fail
      refine (HV.out _).mono ?_
      rintro ev w2 ⟨rfl, rfl⟩
      go_wp2
      go_ret
      exact ⟨rfl, HB1.out⟩
    | true =>
      have hm8 := num_small hM
      have hMe := nS_num hf.1
      have hOe := nS_num hf.2
      have hee := nS_num hv
      have ho8 : num O < 256 ^ 128 := by
        have := hf.2
        rw [hOe] at this
        exact nvalid_nS.1 this
      have hx8 : num e < 256 ^ 128 := by
        have := hv
        rw [hee] at this
        exact nvalid_nS.1 this
      rw [hv] at HV
      have HCM := Lib.hid (show ncmp e M = cmpI (num e) (num M) from by
        unfold ncmp
        rw [hv, hf.1, Bool.and_true, if_pos rfl, ← ordB_nS, ← hee, ← hMe])
      have HCC := Lib.hid (nat_Cmp e M (by omega) (by omega))
      rw [HCM.out] at HCC
      by_cases ho0 : num O = 0
      · have HR := Lib.hid (show hasG M O e = false from decide_eq_false (fun h => by have := h.2.2.2.1; omega))
        have hOz : O = ⟨#[]⟩ := by rw [hOe, ho0]; rfl
        clear hv hf hMe hOe hee ho8 hx8 hm8 ho0
        subst hOz
        rw [HR.out]
        unfold gV at *
        go_enter Tryz.func190, Tryz.ntmps190
        go_wp2_with fail
        refine (HF.out _).mono ?_
        rintro ev w1 ⟨rfl, hb1⟩
        have HB1 := Lib.hid (HB0.trans (hb1.mono HB0.size))
        have hbx : (w1.heap[w.heap.size]?) = some (.cells #[.string M, .string (⟨#[]⟩ : ByteArray)] 24) := (hb1.block _ (by simp)).trans (heap_alloc_new _ _)
        have c0 : w1.cell? ⟨w.heap.size, 0, none⟩ = some (.string M) := by rw [Lib.cell_of_heap hbx]; rfl
        have c1 : w1.cell? ⟨w.heap.size, 1, none⟩ = some (.string (⟨#[]⟩ : ByteArray)) := by rw [Lib.cell_of_heap hbx]; rfl
        have HBX := Lib.hid hbx
        clear hb1 hbx
        go_wp2_with fail
        refine (HV.out _).mono ?_
        rintro ev w2 ⟨rfl, rfl⟩
        go_wp2
        go_ret
        exact ⟨rfl, HB1.out⟩
      · by_cases hx0 : num e = 0
        · have HR := Lib.hid (show hasG M O e = false from decide_eq_false (fun h => by have := h.2.2.2.2.1; omega))
          have hez : e = ⟨#[]⟩ := by rw [hee, hx0]; rfl
          have hOn : O.toList.isEmpty = false := by rw [hOe]; exact empty_nS (by omega)
          clear hv hf hMe hOe hee ho8 hx8 hm8 ho0
          subst hez
          rw [HR.out]
          unfold gV at *
          go_enter Tryz.func190, Tryz.ntmps190
          go_wp2_with fail
          refine (HF.out _).mono ?_
          rintro ev w1 ⟨rfl, hb1⟩
          have HB1 := Lib.hid (HB0.trans (hb1.mono HB0.size))
          have hbx : (w1.heap[w.heap.size]?) = some (.cells #[.string M, .string O] 24) := (hb1.block _ (by simp)).trans (heap_alloc_new _ _)
          have c0 : w1.cell? ⟨w.heap.size, 0, none⟩ = some (.string M) := by rw [Lib.cell_of_heap hbx]; rfl
          have c1 : w1.cell? ⟨w.heap.size, 1, none⟩ = some (.string O) := by rw [Lib.cell_of_heap hbx]; rfl
          have HBX := Lib.hid hbx
          clear hb1 hbx
          go_wp2_with fail
          refine (HV.out _).mono ?_
          rintro ev w2 ⟨rfl, rfl⟩
          go_wp2
          go_ret
          exact ⟨rfl, HB1.out⟩
        · have hOn : O.toList.isEmpty = false := by rw [hOe]; exact empty_nS (by omega)
          have hen : e.toList.isEmpty = false := by rw [hee]; exact empty_nS (by omega)
          by_cases hxm : num M ≤ num e
          · have HR := Lib.hid (show hasG M O e = false from decide_eq_false (fun h => by have := h.2.2.2.2.2.1; omega))
            have hg := cmpI_nonneg hxm
            obtain ⟨c, hc⟩ : ∃ c, cmpI (num e) (num M) = c := ⟨_, rfl⟩
            rw [hc] at hg HCC
            clear hv hf hMe hOe hee ho8 hx8 hm8 ho0 hx0 hxm hc
            rw [HR.out]
            unfold gV at *
            go_enter Tryz.func190, Tryz.ntmps190
            go_wp2_with fail
            refine (HF.out _).mono ?_
            rintro ev w1 ⟨rfl, hb1⟩
            have HB1 := Lib.hid (HB0.trans (hb1.mono HB0.size))
            have hbx : (w1.heap[w.heap.size]?) = some (.cells #[.string M, .string O] 24) := (hb1.block _ (by simp)).trans (heap_alloc_new _ _)
            have c0 : w1.cell? ⟨w.heap.size, 0, none⟩ = some (.string M) := by rw [Lib.cell_of_heap hbx]; rfl
            have c1 : w1.cell? ⟨w.heap.size, 1, none⟩ = some (.string O) := by rw [Lib.cell_of_heap hbx]; rfl
            have HBX := Lib.hid hbx
            clear hb1 hbx
            go_wp2_with fail
            refine (HV.out _).mono ?_
            rintro ev w2 ⟨rfl, rfl⟩
            go_wp2_with fail
            refine (HCC.out _).mono ?_
            rintro ev w2 ⟨rfl, rfl⟩
            go_wp2
            go_ret
            exact ⟨rfl, HB1.out⟩
          · rw [cmpI_lt (by omega)] at HCC
            have HE1 := Lib.hid (mod_Exp (num e) (num O) (num M) (by omega) ho8 hm8 (by omega))
            have HE2 := Lib.hid (mod_Exp (num e) 0 (num M) (by omega) (by decide) hm8 (by omega))
            rw [← hee, ← hOe, ← hMe] at HE1
            rw [← hee, ← hMe, nS_zero, Nat.pow_zero, Nat.mod_eq_of_lt (by omega)] at HE2
            obtain ⟨A, hA⟩ : ∃ A, num e ^ num O % num M = A := ⟨_, rfl⟩
            rw [hA] at HE1
            have HR := Lib.hid (show hasG M O e = decide (A = 1) from decide_eq_decide.2 ⟨fun h => by rw [← hA]; exact h.2.2.2.2.2.2, fun h => ⟨hf.1, hf.2, hv, by omega, by omega, by omega, by rw [hA]; exact h⟩⟩)
            clear hv hf hMe hOe hee ho8 hx8 hm8 ho0 hx0 hxm hA
            rw [HR.out]
            unfold gV at *
            go_enter Tryz.func190, Tryz.ntmps190
            go_wp2_with fail
            refine (HF.out _).mono ?_
            rintro ev w1 ⟨rfl, hb1⟩
            have HB1 := Lib.hid (HB0.trans (hb1.mono HB0.size))
            have hbx : (w1.heap[w.heap.size]?) = some (.cells #[.string M, .string O] 24) := (hb1.block _ (by simp)).trans (heap_alloc_new _ _)
            have c0 : w1.cell? ⟨w.heap.size, 0, none⟩ = some (.string M) := by rw [Lib.cell_of_heap hbx]; rfl
            have c1 : w1.cell? ⟨w.heap.size, 1, none⟩ = some (.string O) := by rw [Lib.cell_of_heap hbx]; rfl
            have HBX := Lib.hid hbx
            clear hb1 hbx
            go_wp2_with fail
            refine (HV.out _).mono ?_
            rintro ev w2 ⟨rfl, rfl⟩
            go_wp2_with fail
            refine (HCC.out _).mono ?_
            rintro ev w2 ⟨rfl, rfl⟩
            go_wp2_with fail
            refine (HE1.out _).mono ?_
            rintro ev w3 ⟨rfl, hb3⟩
            have hbx3 := (hb3.block _ (block_lt HBX.out)).trans HBX.out
            have HB3 := Lib.hid (HB1.out.trans (hb3.mono HB1.out.size))
            clear hb3 c0 c1
            have c0 : w3.cell? ⟨w.heap.size, 0, none⟩ = some (.string M) := by rw [Lib.cell_of_heap hbx3]; rfl
            clear hbx3
            go_wp2_with fail
            refine (HE2.out _).mono ?_
            rintro ev w4 ⟨rfl, hb4⟩
            have HB4 := Lib.hid (HB3.out.trans (hb4.mono HB3.out.size))
            clear hb4
            go_wp2
            go_ret
            exact ⟨by rw [← nS_beq]; rfl, HB4.out⟩
end Go.Proofs.YtpdejgdkpghjhaaGreatDoor

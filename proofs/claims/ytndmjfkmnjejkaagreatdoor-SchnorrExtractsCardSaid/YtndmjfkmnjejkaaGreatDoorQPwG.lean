/- Walks: primegroup.formed, Has; dominoref09.form, Has. -/
import Derived.Test.YtndmjfkmnjejkaaGreatDoorQExp
import Derived.Test.YtndmjfkmnjejkaaGreatDoorQPwR
set_option linter.unusedVariables false
set_option linter.unusedSimpArgs false
namespace Go.Proofs.YtndmjfkmnjejkaaGreatDoor
open Go.RowKit
theorem nS_beq (a b : Nat) : ((nS a).toList == (nS b).toList) = decide (a = b) := by
  rw [ByteArray.toList_eq, ByteArray.toList_eq, nS_data, nS_data, Bool.eq_iff_iff, beq_iff_eq, decide_eq_true_eq]
  exact ⟨fun h => by rw [← bnat_encN a, h, bnat_encN], fun h => by rw [h]⟩
theorem nS_is1 (a : Nat) : ((nS a).toList == [1]) = decide (a = 1) := by
  rw [← nS_beq a 1, show (nS 1).toList = [1] from by rw [ByteArray.toList_eq, nS_data]; rfl]
def gV (M O : ByteArray) : Value := .agg #[.string M, .string O]
set_option maxRecDepth 100000 in
theorem pg_formed (M O : ByteArray) (hM : M.size ≤ 9223372036854775807) (hO : O.size ≤ 9223372036854775807) (w : World) : Calls Tryz.prog 214 #[gV M O] w (Ret (.bool (nvalid M && nvalid O)) w) := by
  have HV1 := Lib.hid (nat_Valid M hM)
  have HV2 := Lib.hid (nat_Valid O hO)
  unfold gV
  go_enter Tryz.func214, Tryz.ntmps214
  go_wp2_with fail
  refine (HV1.out _).mono ?_
  rintro e w1 ⟨rfl, rfl⟩
  cases hv : nvalid M with
  | false =>
    have HVE := Lib.hid hv
    clear hv
    go_wp2
    go_ret
    exact ⟨by rw [HVE.out]; rfl, (Below.refl _ _).alloc (Nat.le_refl _) _⟩
  | true =>
    have HVE := Lib.hid hv
    clear hv
    go_wp2_with fail
    refine (HV2.out _).mono ?_
    rintro e w1 ⟨rfl, rfl⟩
    go_wp2
    go_ret
    exact ⟨by rw [HVE.out, Bool.true_and]; rfl, (Below.refl _ _).alloc (Nat.le_refl _) _⟩
set_option maxRecDepth 100000 in
theorem r09_form (M O : ByteArray) (hM : M.size ≤ 9223372036854775807) (hO : O.size ≤ 9223372036854775807) (w : World) : Calls Tryz.prog 223 #[gV M O] w (Ret (.bool (nvalid M && nvalid O)) w) := by
  have HV1 := Lib.hid (r01_Valid M hM)
  have HV2 := Lib.hid (r01_Valid O hO)
  unfold gV
  go_enter Tryz.func223, Tryz.ntmps223
  go_wp2_with fail
  refine (HV1.out _).mono ?_
  rintro e w1 ⟨rfl, rfl⟩
  cases hv : nvalid M with
  | false =>
    have HVE := Lib.hid hv
    clear hv
    go_wp2
    go_ret
    exact ⟨by rw [HVE.out]; rfl, (Below.refl _ _).alloc (Nat.le_refl _) _⟩
  | true =>
    have HVE := Lib.hid hv
    clear hv
    go_wp2_with fail
    refine (HV2.out _).mono ?_
    rintro e w1 ⟨rfl, rfl⟩
    go_wp2
    go_ret
    exact ⟨by rw [HVE.out, Bool.true_and]; rfl, (Below.refl _ _).alloc (Nat.le_refl _) _⟩
def hasP (M O e : ByteArray) : Prop := nvalid M = true ∧ nvalid O = true ∧ nvalid e = true ∧ 0 < num O ∧ 0 < num e ∧ num e < num M ∧ num e ^ num O % num M = 1
instance (M O e : ByteArray) : Decidable (hasP M O e) := by unfold hasP; exact inferInstance
def hasG (M O e : ByteArray) : Bool := decide (hasP M O e)
set_option maxRecDepth 100000 in
set_option maxHeartbeats 2000000 in
theorem pg_Has (M O e : ByteArray) (hM : M.size ≤ 8) (hO : O.size ≤ 1000) (he : e.size ≤ 1000) (w : World) : Calls Tryz.prog 187 #[gV M O, .string e] w (Ret (.bool (hasG M O e)) w) := by
  have HF := Lib.hid (pg_formed M O (by omega) (by omega))
  have HV := Lib.hid (nat_Valid e (by omega))
  have HB0 : Below w.heap.size w (w.alloc (.cells #[.string M, .string O] 24)) := (Below.refl _ _).alloc (Nat.le_refl _) _
  cases hf : (nvalid M && nvalid O) with
  | false =>
    have HR := Lib.hid (show hasG M O e = false from decide_eq_false (fun h => by rw [h.1, h.2.1] at hf; cases hf))
    rw [hf] at HF
    clear hf
    rw [HR.out]
    unfold gV at *
    go_enter Tryz.func187, Tryz.ntmps187
    go_wp2_with fail
    refine (HF.out _).mono ?_
    rintro ev w1 ⟨rfl, hb1⟩
    have HB1 := Lib.hid (HB0.trans (hb1.mono HB0.size))
    have hbx : (w1.heap[w.heap.size]?) = some (.cells #[.string M, .string O] 24) := (hb1.block _ (by simp)).trans (heap_alloc_new _ _)
    have c0 : w1.cell? ⟨w.heap.size, 0, none⟩ = some (.string M) := by rw [Lib.cell_of_heap hbx]; rfl
    have c1 : w1.cell? ⟨w.heap.size, 1, none⟩ = some (.string O) := by rw [Lib.cell_of_heap hbx]; rfl
    have HBX := Lib.hid hbx
    clear hb1 hbx
    go_wp2
    go_ret
    exact ⟨rfl, HB1.out⟩
  | true =>
    rw [hf] at HF
    rw [Bool.and_eq_true] at hf
    cases hv : nvalid e with
    | false =>
      have HR := Lib.hid (show hasG M O e = false from decide_eq_false (fun h => by rw [h.2.2.1] at hv; cases hv))
      rw [hv] at HV
      clear hv hf
      rw [HR.out]
      unfold gV at *
      go_enter Tryz.func187, Tryz.ntmps187
      go_wp2_with fail
      refine (HF.out _).mono ?_
      rintro ev w1 ⟨rfl, hb1⟩
      have HB1 := Lib.hid (HB0.trans (hb1.mono HB0.size))
      have hbx : (w1.heap[w.heap.size]?) = some (.cells #[.string M, .string O] 24) := (hb1.block _ (by simp)).trans (heap_alloc_new _ _)
      have c0 : w1.cell? ⟨w.heap.size, 0, none⟩ = some (.string M) := by rw [Lib.cell_of_heap hbx]; rfl
      have c1 : w1.cell? ⟨w.heap.size, 1, none⟩ = some (.string O) := by rw [Lib.cell_of_heap hbx]; rfl
      have HBX := Lib.hid hbx
      clear hb1 hbx
      go_wp2_with fail
      refine (HV.out _).mono ?_
      rintro ev w2 ⟨rfl, rfl⟩
      go_wp2
      go_ret
      exact ⟨rfl, HB1.out⟩
    | true =>
      have hm8 := num_small hM
      have hMe := nS_num hf.1
      have hOe := nS_num hf.2
      have hee := nS_num hv
      have ho8 : num O < 256 ^ 128 := by
        have := hf.2
        rw [hOe] at this
        exact nvalid_nS.1 this
      have hx8 : num e < 256 ^ 128 := by
        have := hv
        rw [hee] at this
        exact nvalid_nS.1 this
      rw [hv] at HV
      have HCM := Lib.hid (show ncmp e M = cmpI (num e) (num M) from by
        unfold ncmp
        rw [hv, hf.1, Bool.and_true, if_pos rfl, ← ordB_nS, ← hee, ← hMe])
      have HCC := Lib.hid (nat_Cmp e M (by omega) (by omega))
      rw [HCM.out] at HCC
      by_cases ho0 : num O = 0
      · have HR := Lib.hid (show hasG M O e = false from decide_eq_false (fun h => by have := h.2.2.2.1; omega))
        have hOz : O = ⟨#[]⟩ := by rw [hOe, ho0]; rfl
        clear hv hf hMe hOe hee ho8 hx8 hm8 ho0
        subst hOz
        rw [HR.out]
        unfold gV at *
        go_enter Tryz.func187, Tryz.ntmps187
        go_wp2_with fail
        refine (HF.out _).mono ?_
        rintro ev w1 ⟨rfl, hb1⟩
        have HB1 := Lib.hid (HB0.trans (hb1.mono HB0.size))
        have hbx : (w1.heap[w.heap.size]?) = some (.cells #[.string M, .string (⟨#[]⟩ : ByteArray)] 24) := (hb1.block _ (by simp)).trans (heap_alloc_new _ _)
        have c0 : w1.cell? ⟨w.heap.size, 0, none⟩ = some (.string M) := by rw [Lib.cell_of_heap hbx]; rfl
        have c1 : w1.cell? ⟨w.heap.size, 1, none⟩ = some (.string (⟨#[]⟩ : ByteArray)) := by rw [Lib.cell_of_heap hbx]; rfl
        have HBX := Lib.hid hbx
        clear hb1 hbx
        go_wp2_with fail
        refine (HV.out _).mono ?_
        rintro ev w2 ⟨rfl, rfl⟩
        go_wp2
        go_ret
        exact ⟨rfl, HB1.out⟩
      · by_cases hx0 : num e = 0
        · have HR := Lib.hid (show hasG M O e = false from decide_eq_false (fun h => by have := h.2.2.2.2.1; omega))
          have hez : e = ⟨#[]⟩ := by rw [hee, hx0]; rfl
          have hOn : O.toList.isEmpty = false := by rw [hOe]; exact empty_nS (by omega)
          clear hv hf hMe hOe hee ho8 hx8 hm8 ho0
          subst hez
          rw [HR.out]
          unfold gV at *
          go_enter Tryz.func187, Tryz.ntmps187
          go_wp2_with fail
          refine (HF.out _).mono ?_
          rintro ev w1 ⟨rfl, hb1⟩
          have HB1 := Lib.hid (HB0.trans (hb1.mono HB0.size))
          have hbx : (w1.heap[w.heap.size]?) = some (.cells #[.string M, .string O] 24) := (hb1.block _ (by simp)).trans (heap_alloc_new _ _)
          have c0 : w1.cell? ⟨w.heap.size, 0, none⟩ = some (.string M) := by rw [Lib.cell_of_heap hbx]; rfl
          have c1 : w1.cell? ⟨w.heap.size, 1, none⟩ = some (.string O) := by rw [Lib.cell_of_heap hbx]; rfl
          have HBX := Lib.hid hbx
          clear hb1 hbx
          go_wp2_with fail
          refine (HV.out _).mono ?_
          rintro ev w2 ⟨rfl, rfl⟩
          go_wp2
          go_ret
          exact ⟨rfl, HB1.out⟩
        · have hOn : O.toList.isEmpty = false := by rw [hOe]; exact empty_nS (by omega)
          have hen : e.toList.isEmpty = false := by rw [hee]; exact empty_nS (by omega)
          by_cases hxm : num M ≤ num e
          · have HR := Lib.hid (show hasG M O e = false from decide_eq_false (fun h => by have := h.2.2.2.2.2.1; omega))
            have hg := cmpI_nonneg hxm
            obtain ⟨c, hc⟩ : ∃ c, cmpI (num e) (num M) = c := ⟨_, rfl⟩
            rw [hc] at hg HCC
            clear hv hf hMe hOe hee ho8 hx8 hm8 ho0 hx0 hxm hc
            rw [HR.out]
            unfold gV at *
            go_enter Tryz.func187, Tryz.ntmps187
            go_wp2_with fail
            refine (HF.out _).mono ?_
            rintro ev w1 ⟨rfl, hb1⟩
            have HB1 := Lib.hid (HB0.trans (hb1.mono HB0.size))
            have hbx : (w1.heap[w.heap.size]?) = some (.cells #[.string M, .string O] 24) := (hb1.block _ (by simp)).trans (heap_alloc_new _ _)
            have c0 : w1.cell? ⟨w.heap.size, 0, none⟩ = some (.string M) := by rw [Lib.cell_of_heap hbx]; rfl
            have c1 : w1.cell? ⟨w.heap.size, 1, none⟩ = some (.string O) := by rw [Lib.cell_of_heap hbx]; rfl
            have HBX := Lib.hid hbx
            clear hb1 hbx
            go_wp2_with fail
            refine (HV.out _).mono ?_
            rintro ev w2 ⟨rfl, rfl⟩
            go_wp2_with fail
            refine (HCC.out _).mono ?_
            rintro ev w2 ⟨rfl, rfl⟩
            go_wp2
            go_ret
            exact ⟨rfl, HB1.out⟩
          · rw [cmpI_lt (by omega)] at HCC
            have HE1 := Lib.hid (mod_Exp (num e) (num O) (num M) (by omega) ho8 hm8 (by omega))
            have HE2 := Lib.hid (mod_Exp (num e) 0 (num M) (by omega) (by decide) hm8 (by omega))
            rw [← hee, ← hOe, ← hMe] at HE1
            rw [← hee, ← hMe, nS_zero, Nat.pow_zero, Nat.mod_eq_of_lt (by omega)] at HE2
            obtain ⟨A, hA⟩ : ∃ A, num e ^ num O % num M = A := ⟨_, rfl⟩
            rw [hA] at HE1
            have HR := Lib.hid (show hasG M O e = decide (A = 1) from decide_eq_decide.2 ⟨fun h => by rw [← hA]; exact h.2.2.2.2.2.2, fun h => ⟨hf.1, hf.2, hv, by omega, by omega, by omega, by rw [hA]; exact h⟩⟩)
            clear hv hf hMe hOe hee ho8 hx8 hm8 ho0 hx0 hxm hA
            rw [HR.out]
            unfold gV at *
            go_enter Tryz.func187, Tryz.ntmps187
            go_wp2_with fail
            refine (HF.out _).mono ?_
            rintro ev w1 ⟨rfl, hb1⟩
            have HB1 := Lib.hid (HB0.trans (hb1.mono HB0.size))
            have hbx : (w1.heap[w.heap.size]?) = some (.cells #[.string M, .string O] 24) := (hb1.block _ (by simp)).trans (heap_alloc_new _ _)
            have c0 : w1.cell? ⟨w.heap.size, 0, none⟩ = some (.string M) := by rw [Lib.cell_of_heap hbx]; rfl
            have c1 : w1.cell? ⟨w.heap.size, 1, none⟩ = some (.string O) := by rw [Lib.cell_of_heap hbx]; rfl
            have HBX := Lib.hid hbx
            clear hb1 hbx
            go_wp2_with fail
            refine (HV.out _).mono ?_
            rintro ev w2 ⟨rfl, rfl⟩
            go_wp2_with fail
            refine (HCC.out _).mono ?_
            rintro ev w2 ⟨rfl, rfl⟩
            go_wp2_with fail
            refine (HE1.out _).mono ?_
            rintro ev w3 ⟨rfl, hb3⟩
            have hbx3 := (hb3.block _ (block_lt HBX.out)).trans HBX.out
            have HB3 := Lib.hid (HB1.out.trans (hb3.mono HB1.out.size))
            clear hb3 c0 c1
            have c0 : w3.cell? ⟨w.heap.size, 0, none⟩ = some (.string M) := by rw [Lib.cell_of_heap hbx3]; rfl
            clear hbx3
            go_wp2_with fail
            refine (HE2.out _).mono ?_
            rintro ev w4 ⟨rfl, hb4⟩
            have HB4 := Lib.hid (HB3.out.trans (hb4.mono HB3.out.size))
            clear hb4
            go_wp2
            go_ret
            exact ⟨by rw [← nS_beq]; rfl, HB4.out⟩
set_option maxRecDepth 100000 in
set_option maxHeartbeats 2000000 in
theorem r09_Has (M O e : ByteArray) (hM : M.size ≤ 8) (hO : O.size ≤ 1000) (he : e.size ≤ 1000) (w : World) : Calls Tryz.prog 192 #[gV M O, .string e] w (Ret (.bool (hasG M O e)) w) := by
  have HF := Lib.hid (r09_form M O (by omega) (by omega))
  have HV := Lib.hid (r01_Valid e (by omega))
  have HB0 : Below w.heap.size w (w.alloc (.cells #[.string M, .string O] 24)) := (Below.refl _ _).alloc (Nat.le_refl _) _
  cases hf : (nvalid M && nvalid O) with
  | false =>
    have HR := Lib.hid (show hasG M O e = false from decide_eq_false (fun h => by rw [h.1, h.2.1] at hf; cases hf))
    rw [hf] at HF
    clear hf
    rw [HR.out]
    unfold gV at *
    go_enter Tryz.func192, Tryz.ntmps192
    go_wp2_with fail
    refine (HF.out _).mono ?_
    rintro ev w1 ⟨rfl, hb1⟩
    have HB1 := Lib.hid (HB0.trans (hb1.mono HB0.size))
    have hbx : (w1.heap[w.heap.size]?) = some (.cells #[.string M, .string O] 24) := (hb1.block _ (by simp)).trans (heap_alloc_new _ _)
    have c0 : w1.cell? ⟨w.heap.size, 0, none⟩ = some (.string M) := by rw [Lib.cell_of_heap hbx]; rfl
    have c1 : w1.cell? ⟨w.heap.size, 1, none⟩ = some (.string O) := by rw [Lib.cell_of_heap hbx]; rfl
    have HBX := Lib.hid hbx
    clear hb1 hbx
    go_wp2
    go_ret
    exact ⟨rfl, HB1.out⟩
  | true =>
    rw [hf] at HF
    rw [Bool.and_eq_true] at hf
    cases hv : nvalid e with
    | false =>
      have HR := Lib.hid (show hasG M O e = false from decide_eq_false (fun h => by rw [h.2.2.1] at hv; cases hv))
      rw [hv] at HV
      clear hv hf
      rw [HR.out]
      unfold gV at *
      go_enter Tryz.func192, Tryz.ntmps192
      go_wp2_with fail
      refine (HF.out _).mono ?_
      rintro ev w1 ⟨rfl, hb1⟩
      have HB1 := Lib.hid (HB0.trans (hb1.mono HB0.size))
      have hbx : (w1.heap[w.heap.size]?) = some (.cells #[.string M, .string O] 24) := (hb1.block _ (by simp)).trans (heap_alloc_new _ _)
      have c0 : w1.cell? ⟨w.heap.size, 0, none⟩ = some (.string M) := by rw [Lib.cell_of_heap hbx]; rfl
      have c1 : w1.cell? ⟨w.heap.size, 1, none⟩ = some (.string O) := by rw [Lib.cell_of_heap hbx]; rfl
      have HBX := Lib.hid hbx
      clear hb1 hbx
      go_wp2_with fail
      refine (HV.out _).mono ?_
      rintro ev w2 ⟨rfl, rfl⟩
      go_wp2
      go_ret
      exact ⟨rfl, HB1.out⟩
    | true =>
      have hm8 := num_small hM
      have hMe := nS_num hf.1
      have hOe := nS_num hf.2
      have hee := nS_num hv
      have ho8 : num O < 256 ^ 128 := by
        have := hf.2
        rw [hOe] at this
        exact nvalid_nS.1 this
      have hx8 : num e < 256 ^ 128 := by
        have := hv
        rw [hee] at this
        exact nvalid_nS.1 this
      rw [hv] at HV
      have HCM := Lib.hid (show ordB e M = cmpI (num e) (num M) from by rw [← ordB_nS, ← hee, ← hMe])
      have HCC := Lib.hid (r01_Order e M (by omega) (by omega))
      rw [HCM.out] at HCC
      by_cases ho0 : num O = 0
      · have HR := Lib.hid (show hasG M O e = false from decide_eq_false (fun h => by have := h.2.2.2.1; omega))
        have hOz : O = ⟨#[]⟩ := by rw [hOe, ho0]; rfl
        clear hv hf hMe hOe hee ho8 hx8 hm8 ho0
        subst hOz
        rw [HR.out]
        unfold gV at *
        go_enter Tryz.func192, Tryz.ntmps192
        go_wp2_with fail
        refine (HF.out _).mono ?_
        rintro ev w1 ⟨rfl, hb1⟩
        have HB1 := Lib.hid (HB0.trans (hb1.mono HB0.size))
        have hbx : (w1.heap[w.heap.size]?) = some (.cells #[.string M, .string (⟨#[]⟩ : ByteArray)] 24) := (hb1.block _ (by simp)).trans (heap_alloc_new _ _)
        have c0 : w1.cell? ⟨w.heap.size, 0, none⟩ = some (.string M) := by rw [Lib.cell_of_heap hbx]; rfl
        have c1 : w1.cell? ⟨w.heap.size, 1, none⟩ = some (.string (⟨#[]⟩ : ByteArray)) := by rw [Lib.cell_of_heap hbx]; rfl
        have HBX := Lib.hid hbx
        clear hb1 hbx
        go_wp2_with fail
        refine (HV.out _).mono ?_
        rintro ev w2 ⟨rfl, rfl⟩
        go_wp2
        go_ret
        exact ⟨rfl, HB1.out⟩
      · by_cases hx0 : num e = 0
        · have HR := Lib.hid (show hasG M O e = false from decide_eq_false (fun h => by have := h.2.2.2.2.1; omega))
          have hez : e = ⟨#[]⟩ := by rw [hee, hx0]; rfl
          have hOn : O.toList.isEmpty = false := by rw [hOe]; exact empty_nS (by omega)
          clear hv hf hMe hOe hee ho8 hx8 hm8 ho0
          subst hez
          rw [HR.out]
          unfold gV at *
          go_enter Tryz.func192, Tryz.ntmps192
          go_wp2_with fail
          refine (HF.out _).mono ?_
          rintro ev w1 ⟨rfl, hb1⟩
          have HB1 := Lib.hid (HB0.trans (hb1.mono HB0.size))
          have hbx : (w1.heap[w.heap.size]?) = some (.cells #[.string M, .string O] 24) := (hb1.block _ (by simp)).trans (heap_alloc_new _ _)
          have c0 : w1.cell? ⟨w.heap.size, 0, none⟩ = some (.string M) := by rw [Lib.cell_of_heap hbx]; rfl
          have c1 : w1.cell? ⟨w.heap.size, 1, none⟩ = some (.string O) := by rw [Lib.cell_of_heap hbx]; rfl
          have HBX := Lib.hid hbx
          clear hb1 hbx
          go_wp2_with fail
          refine (HV.out _).mono ?_
          rintro ev w2 ⟨rfl, rfl⟩
          go_wp2
          go_ret
          exact ⟨rfl, HB1.out⟩
        · have hOn : O.toList.isEmpty = false := by rw [hOe]; exact empty_nS (by omega)
          have hen : e.toList.isEmpty = false := by rw [hee]; exact empty_nS (by omega)
          by_cases hxm : num M ≤ num e
          · have HR := Lib.hid (show hasG M O e = false from decide_eq_false (fun h => by have := h.2.2.2.2.2.1; omega))
            have hg := cmpI_nonneg hxm
            obtain ⟨c, hc⟩ : ∃ c, cmpI (num e) (num M) = c := ⟨_, rfl⟩
            rw [hc] at hg HCC
            clear hv hf hMe hOe hee ho8 hx8 hm8 ho0 hx0 hxm hc
            rw [HR.out]
            unfold gV at *
            go_enter Tryz.func192, Tryz.ntmps192
            go_wp2_with fail
            refine (HF.out _).mono ?_
            rintro ev w1 ⟨rfl, hb1⟩
            have HB1 := Lib.hid (HB0.trans (hb1.mono HB0.size))
            have hbx : (w1.heap[w.heap.size]?) = some (.cells #[.string M, .string O] 24) := (hb1.block _ (by simp)).trans (heap_alloc_new _ _)
            have c0 : w1.cell? ⟨w.heap.size, 0, none⟩ = some (.string M) := by rw [Lib.cell_of_heap hbx]; rfl
            have c1 : w1.cell? ⟨w.heap.size, 1, none⟩ = some (.string O) := by rw [Lib.cell_of_heap hbx]; rfl
            have HBX := Lib.hid hbx
            clear hb1 hbx
            go_wp2_with fail
            refine (HV.out _).mono ?_
            rintro ev w2 ⟨rfl, rfl⟩
            go_wp2_with fail
            refine (HCC.out _).mono ?_
            rintro ev w2 ⟨rfl, hb2⟩
            have HB2 := Lib.hid (HB1.out.trans (hb2.mono HB1.out.size))
            clear hb2
            go_wp2
            go_ret
            exact ⟨rfl, HB2.out⟩
          · rw [cmpI_lt (by omega)] at HCC
            have HE1 := Lib.hid (r03_Exp (num e) (num O) (num M) hx8 ho8 hm8 (by omega))
            rw [← hee, ← hOe, ← hMe] at HE1
            obtain ⟨A, hA⟩ : ∃ A, num e ^ num O % num M = A := ⟨_, rfl⟩
            rw [hA] at HE1
            have HR := Lib.hid (show hasG M O e = decide (A = 1) from decide_eq_decide.2 ⟨fun h => by rw [← hA]; exact h.2.2.2.2.2.2, fun h => ⟨hf.1, hf.2, hv, by omega, by omega, by omega, by rw [hA]; exact h⟩⟩)
            clear hv hf hMe hOe hee ho8 hx8 hm8 ho0 hx0 hxm hA
            rw [HR.out]
            unfold gV at *
            go_enter Tryz.func192, Tryz.ntmps192
            go_wp2_with fail
            refine (HF.out _).mono ?_
            rintro ev w1 ⟨rfl, hb1⟩
            have HB1 := Lib.hid (HB0.trans (hb1.mono HB0.size))
            have hbx : (w1.heap[w.heap.size]?) = some (.cells #[.string M, .string O] 24) := (hb1.block _ (by simp)).trans (heap_alloc_new _ _)
            have c0 : w1.cell? ⟨w.heap.size, 0, none⟩ = some (.string M) := by rw [Lib.cell_of_heap hbx]; rfl
            have c1 : w1.cell? ⟨w.heap.size, 1, none⟩ = some (.string O) := by rw [Lib.cell_of_heap hbx]; rfl
            have HBX := Lib.hid hbx
            clear hb1 hbx
            go_wp2_with fail
            refine (HV.out _).mono ?_
            rintro ev w2 ⟨rfl, rfl⟩
            go_wp2_with fail
            refine (HCC.out _).mono ?_
            rintro ev w2 ⟨rfl, hb2⟩
            have hbx2 := (hb2.block _ (block_lt HBX.out)).trans HBX.out
            have HB2 := Lib.hid (HB1.out.trans (hb2.mono HB1.out.size))
            clear hb2 c0 c1
            have c0 : w2.cell? ⟨w.heap.size, 0, none⟩ = some (.string M) := by rw [Lib.cell_of_heap hbx2]; rfl
            have c1 : w2.cell? ⟨w.heap.size, 1, none⟩ = some (.string O) := by rw [Lib.cell_of_heap hbx2]; rfl
            clear hbx2
            go_wp2_with fail
            refine (HE1.out _).mono ?_
            rintro ev w3 ⟨rfl, hb3⟩
            have HB3 := Lib.hid (HB2.out.trans (hb3.mono HB2.out.size))
            clear hb3
            go_wp2
            go_ret
            exact ⟨by rw [← nS_is1]; rfl, HB3.out⟩
end Go.Proofs.YtndmjfkmnjejkaaGreatDoor
/- Walks: dominoref02.Mod; primegroup.Power, dominoref09.Power. -/
set_option linter.unusedVariables false
set_option linter.unusedSimpArgs false
namespace Go.Proofs.YtndmjfkmnjejkaaGreatDoor
open Go.RowKit
set_option maxRecDepth 100000 in
set_option maxHeartbeats 2000000 in
theorem r02_Mod (z : Int) (m : Nat) (hz : z.natAbs < 256 ^ 128) (hm : m < 256 ^ 128) (h0 : 0 < m) (w : World) : Calls Tryz.prog 103 #[intV z, .string (nS m)] w (Ret (.tuple #[.string (nS (z % m).toNat), .int .i64 0]) w) := by
  have HVZ := Lib.hid (r02_Valid_n z hz)
  have HVM := Lib.hid (r01_Valid (nS m) (nS_size63 hm))
  rw [nvalid_nS.2 hm] at HVM
  have HFR := Lib.hid (r02_From m hm)
  have HDM := Lib.hid (r02_DivMod z m hz hm h0)
  have ed : decide ((m : Int) < 0) = false := decide_eq_false (Int.not_lt.2 (Int.natCast_nonneg _))
  unfold intV zV at *
  rw [ed, Int.natAbs_natCast] at HFR HDM
  obtain ⟨t, ht⟩ : ∃ t, nS m = t := ⟨_, rfl⟩
  obtain ⟨s, hs⟩ : ∃ s, nS z.natAbs = s := ⟨_, rfl⟩
  obtain ⟨b, hb⟩ : ∃ b, decide (z < 0) = b := ⟨_, rfl⟩
  obtain ⟨r, hr⟩ : ∃ r, (z % m).toNat = r := ⟨_, rfl⟩
  rw [ht] at HVM HFR HDM ⊢
  rw [hs, hb] at HVZ HDM ⊢
  rw [hr] at HDM ⊢
  clear ht hs hb hr ed hz hm h0
  have HX0 := Lib.hid (Bx2.new w (.bool b) (.string s) 28)
  have HB0 := Lib.hid ((Below.refl w.heap.size w).alloc (Nat.le_refl _) (.cells #[.bool b, .string s] 28))
  have c0 := HX0.out.c0
  have c1 := HX0.out.c1
  go_enter Tryz.func103, Tryz.ntmps103
  go_wp2_with fail
  refine (HVZ.out _).mono ?_
  rintro ev w1 ⟨rfl, hb1⟩
  have HX1 := Lib.hid (HX0.out.next hb1)
  have HB1 := Lib.hid (HB0.out.trans (hb1.mono HB0.out.size))
  clear hb1 c0 c1
  go_wp2_with fail
  refine (HVM.out _).mono ?_
  rintro ev w2 ⟨rfl, rfl⟩
  go_wp2
  obtain ⟨wd, hwd⟩ : ∃ wd, w1.drew = wd := ⟨_, rfl⟩
  have HBd := Lib.hid (show Below w.heap.size w wd from by rw [← hwd]; exact HB1.out.drew)
  obtain ⟨d0, d1⟩ : wd.cell? ⟨w.heap.size, 0, none⟩ = some (.bool b) ∧ wd.cell? ⟨w.heap.size, 1, none⟩ = some (.string s) := by rw [← hwd]; exact ⟨HX1.out.c0, HX1.out.c1⟩
  refine wp_region_K 12 (Below (wd).heap.size (wd)) (by kernel_rfl) ?_
  intro hD
  rw [hwd]
  refine wpAnyK_takeS (i := 0) (v := ?v3_0b1) (fuel := 11) rfl (by kernel_rfl) (by kernel_rfl) (fun _ _ _ h => h) hD (Below.refl _ _) (.inl ⟨by kernel_rfl, ?y3_0b1⟩) ?n3_0b1
  case y3_0b1 => intro w' hS'; have e0 := cell_kept hS' (Nat.le_refl _) d0; have e1 := cell_kept hS' (Nat.le_refl _) d1; go_simp; with_reducible rfl
  clear hD; intro hD
  simp only [Act.put, sqA, sqB, sqC]
  refine wpAnyK_pure (i := 1) (v := ?v3_1b1) (fuel := 10) rfl (by kernel_rfl) (fun _ _ _ h => h) hD (Below.refl _ _) (.inl ⟨by kernel_rfl, ?y3_1b1⟩) ?n3_1b1
  case y3_1b1 => intro w' _; go_simp; with_reducible rfl
  clear hD; intro hD
  simp only [Act.put, sqA, sqB, sqC]
  refine wpAnyK_two (i := 2) (i' := 8) (fuel := 9) (by kernel_rfl) rfl rfl hD ?_ ?_ 
  · unfold StepK
    clear hD; intro K2 hK2
    go_wp2_with fail
    refine (HFR.out _).mono ?_
    rintro ev w3 ⟨rfl, hb3⟩
    try (have HP := Lib.hid (HP.out.next hb3))
    have HB2 := Lib.hid hb3
    clear hb3
    go_wp2
    refine hK2 _ _ (by exact HB2.out) ?_; clear hK2; intro hS_3_2 hD
    refine wpAnyK_two (i := 3) (i' := 8) (fuel := 8) (by kernel_rfl) rfl rfl hD ?_ ?_ 
    · unfold StepK
      clear hD; intro K3 hK3
      go_wp2_with fail
      refine (HDM.out _).mono ?_
      rintro ev w4 ⟨bq, sq, rfl, hb4⟩
      try (have HP := Lib.hid (HP.out.next hb4))
      have HB3 := Lib.hid hb4
      clear hb4
      go_wp2
      refine hK3 _ _ (by exact Below.trans hS_3_2 (Below.mono HB3.out (Below.size hS_3_2))) ?_; clear hK3; intro hS_3_3_2 hD
      refine wpAnyK_pure (i := 4) (v := ?v3_4_2_3b1) (fuel := 7) rfl (by kernel_rfl) (fun _ _ _ h => h) hD hS_3_3_2 (.inl ⟨by kernel_rfl, ?y3_4_2_3b1⟩) ?n3_4_2_3b1
      case y3_4_2_3b1 => intro w' _; go_simp; with_reducible rfl
      clear hD; intro hD
      simp only [Act.put, sqA, sqB, sqC]
      refine wpAnyK_pure (i := 5) (v := ?v3_5_2_3b1) (fuel := 6) rfl (by kernel_rfl) (fun _ _ _ h => h) hD hS_3_3_2 (.inl ⟨by kernel_rfl, ?y3_5_2_3b1⟩) ?n3_5_2_3b1
      case y3_5_2_3b1 => intro w' _; go_simp; with_reducible rfl
      clear hD; intro hD
      simp only [Act.put, sqA, sqB, sqC]
      refine wpAnyK_pure (i := 6) (v := ?v3_6_2_3b1) (fuel := 5) rfl (by kernel_rfl) (fun _ _ _ h => h) hD hS_3_3_2 (.inl ⟨by kernel_rfl, ?y3_6_2_3b1⟩) ?n3_6_2_3b1
      case y3_6_2_3b1 => intro w' _; go_simp; with_reducible rfl
      clear hD; intro hD
      simp only [Act.put, sqA, sqB, sqC]
      refine wpAnyK_pure (i := 7) (v := ?v3_7_2_3b1) (fuel := 4) rfl (by kernel_rfl) (fun _ _ _ h => h) hD hS_3_3_2 (.inl ⟨by kernel_rfl, ?y3_7_2_3b1⟩) ?n3_7_2_3b1
      case y3_7_2_3b1 => intro w' _; go_simp; with_reducible rfl
      clear hD; intro hD
      simp only [Act.put, sqA, sqB, sqC]
      refine wpAnyK_one (i := 8) (fuel := 3) (by kernel_rfl) rfl hD ?_
      clear hD; intro K8 hK8
      first | (have HPB := Lib.hid (Below.size hS_3_3_2)) | (have HPB := Lib.hid (Nat.le_refl wd.heap.size))
      go_wp2
      refine hK8 _ _ (by exact Below.alloc hS_3_3_2 (Below.size hS_3_3_2) _) ?_; clear hK8; intro hS_3_8_2_3 hD
      have HP := Lib.hid (bx_of_alloc hS_3_8_2_3)
      refine wpAnyK_one (i := 9) (fuel := 2) (by kernel_rfl) rfl hD ?_
      clear hD; intro K9 hK9
      have hP := HP.out
      have p0 := hP.c0
      have p1 := hP.c1
      have pf0 := hP.f0
      have pf1 := hP.f1
      clear hP
      go_wp2
      refine hK9 _ _ (by first | exact (Below.setCell hS_3_8_2_3 (p := ⟨_, 0, none⟩) HPB.out _).setCell (p := ⟨_, 1, none⟩) HPB.out _ | exact Below.alloc (HB2.out.trans (HB3.out.mono HB2.out.size)) (Nat.le_trans HB2.out.size HB3.out.size) _) ?_; clear hK9; intro hS_3_9_2_3 hD
      clear p0 p1 pf0 pf1
      refine wpAnyK_one (i := 10) (fuel := 1) (by kernel_rfl) rfl hD ?_
      clear hD; intro K10 hK10
      go_wp2
      refine hK10 _ _ (by exact hS_3_9_2_3) ?_; clear hK10; intro hS_3_10_2_3 hD
      refine wpAnyK_one (i := 11) (fuel := 0) (by kernel_rfl) rfl hD ?_
      clear hD; intro K11 hK11
      go_wp2
      refine hK11 _ _ (by exact hS_3_10_2_3) ?_; clear hK11; intro hS_3_11_2_3 hD
      refine wpAnyK_done (by kernel_rfl) ?_ 0
      clear hD
      have HSX := Lib.hid hS_3_11_2_3
      go_wp2
      go_ret2
      exact ⟨rfl, HBd.out.trans (HSX.out.mono HBd.out.size)⟩
    · unfold StepK
      clear hD; intro K8 hK8
      first | (have HPB := Lib.hid (Below.size hS_3_2)) | (have HPB := Lib.hid (Nat.le_refl wd.heap.size))
      go_wp2
      refine hK8 _ _ (by exact Below.alloc hS_3_2 (Below.size hS_3_2) _) ?_; clear hK8; intro hS_3_8_2 hD
      have HP := Lib.hid (bx_of_alloc hS_3_8_2)
      refine wpAnyK_one (i := 3) (fuel := 7) (by kernel_rfl) rfl hD ?_
      clear hD; intro K3 hK3
      go_wp2_with fail
      refine (HDM.out _).mono ?_
      rintro ev w4 ⟨bq, sq, rfl, hb4⟩
      try (have HP := Lib.hid (HP.out.next hb4))
      have HB3 := Lib.hid hb4
      clear hb4
      go_wp2
      refine hK3 _ _ (by exact Below.trans hS_3_8_2 (Below.mono HB3.out (Below.size hS_3_8_2))) ?_; clear hK3; intro hS_3_3_2_8 hD
      refine wpAnyK_pure (i := 4) (v := ?v3_4_2_8b1) (fuel := 6) rfl (by kernel_rfl) (fun _ _ _ h => h) hD hS_3_3_2_8 (.inl ⟨by kernel_rfl, ?y3_4_2_8b1⟩) ?n3_4_2_8b1
      case y3_4_2_8b1 => intro w' _; go_simp; with_reducible rfl
      clear hD; intro hD
      simp only [Act.put, sqA, sqB, sqC]
      refine wpAnyK_pure (i := 5) (v := ?v3_5_2_8b1) (fuel := 5) rfl (by kernel_rfl) (fun _ _ _ h => h) hD hS_3_3_2_8 (.inl ⟨by kernel_rfl, ?y3_5_2_8b1⟩) ?n3_5_2_8b1
      case y3_5_2_8b1 => intro w' _; go_simp; with_reducible rfl
      clear hD; intro hD
      simp only [Act.put, sqA, sqB, sqC]
      refine wpAnyK_pure (i := 6) (v := ?v3_6_2_8b1) (fuel := 4) rfl (by kernel_rfl) (fun _ _ _ h => h) hD hS_3_3_2_8 (.inl ⟨by kernel_rfl, ?y3_6_2_8b1⟩) ?n3_6_2_8b1
      case y3_6_2_8b1 => intro w' _; go_simp; with_reducible rfl
      clear hD; intro hD
      simp only [Act.put, sqA, sqB, sqC]
      refine wpAnyK_pure (i := 7) (v := ?v3_7_2_8b1) (fuel := 3) rfl (by kernel_rfl) (fun _ _ _ h => h) hD hS_3_3_2_8 (.inl ⟨by kernel_rfl, ?y3_7_2_8b1⟩) ?n3_7_2_8b1
      case y3_7_2_8b1 => intro w' _; go_simp; with_reducible rfl
      clear hD; intro hD
      simp only [Act.put, sqA, sqB, sqC]
      refine wpAnyK_one (i := 9) (fuel := 2) (by kernel_rfl) rfl hD ?_
      clear hD; intro K9 hK9
      have hP := HP.out
      have p0 := hP.c0
      have p1 := hP.c1
      have pf0 := hP.f0
      have pf1 := hP.f1
      clear hP
      go_wp2
      refine hK9 _ _ (by first | exact (Below.setCell hS_3_3_2_8 (p := ⟨_, 0, none⟩) HPB.out _).setCell (p := ⟨_, 1, none⟩) HPB.out _ | exact Below.alloc (HB2.out.trans (HB3.out.mono HB2.out.size)) (Nat.le_trans HB2.out.size HB3.out.size) _) ?_; clear hK9; intro hS_3_9_2_8 hD
      clear p0 p1 pf0 pf1
      refine wpAnyK_one (i := 10) (fuel := 1) (by kernel_rfl) rfl hD ?_
      clear hD; intro K10 hK10
      go_wp2
      refine hK10 _ _ (by exact hS_3_9_2_8) ?_; clear hK10; intro hS_3_10_2_8 hD
      refine wpAnyK_one (i := 11) (fuel := 0) (by kernel_rfl) rfl hD ?_
      clear hD; intro K11 hK11
      go_wp2
      refine hK11 _ _ (by exact hS_3_10_2_8) ?_; clear hK11; intro hS_3_11_2_8 hD
      refine wpAnyK_done (by kernel_rfl) ?_ 0
      clear hD
      have HSX := Lib.hid hS_3_11_2_8
      go_wp2
      go_ret2
      exact ⟨rfl, HBd.out.trans (HSX.out.mono HBd.out.size)⟩
  · unfold StepK
    clear hD; intro K8 hK8
    first | (have HPB := Lib.hid (Below.size (Below.refl _ _))) | (have HPB := Lib.hid (Nat.le_refl wd.heap.size))
    go_wp2
    refine hK8 _ _ (by exact (Below.refl _ _).alloc (Nat.le_refl _) _) ?_; clear hK8; intro hS_3_8 hD
    have HP := Lib.hid (bx_of_alloc hS_3_8)
    refine wpAnyK_one (i := 2) (fuel := 8) (by kernel_rfl) rfl hD ?_
    clear hD; intro K2 hK2
    go_wp2_with fail
    refine (HFR.out _).mono ?_
    rintro ev w3 ⟨rfl, hb3⟩
    try (have HP := Lib.hid (HP.out.next hb3))
    have HB2 := Lib.hid hb3
    clear hb3
    go_wp2
    refine hK2 _ _ (by exact Below.trans hS_3_8 (Below.mono HB2.out (Below.size hS_3_8))) ?_; clear hK2; intro hS_3_2_8 hD
    refine wpAnyK_one (i := 3) (fuel := 7) (by kernel_rfl) rfl hD ?_
    clear hD; intro K3 hK3
    go_wp2_with fail
    refine (HDM.out _).mono ?_
    rintro ev w4 ⟨bq, sq, rfl, hb4⟩
    try (have HP := Lib.hid (HP.out.next hb4))
    have HB3 := Lib.hid hb4
    clear hb4
    go_wp2
    refine hK3 _ _ (by exact Below.trans hS_3_2_8 (Below.mono HB3.out (Below.size hS_3_2_8))) ?_; clear hK3; intro hS_3_3_8 hD
    refine wpAnyK_pure (i := 4) (v := ?v3_4_8b1) (fuel := 6) rfl (by kernel_rfl) (fun _ _ _ h => h) hD hS_3_3_8 (.inl ⟨by kernel_rfl, ?y3_4_8b1⟩) ?n3_4_8b1
    case y3_4_8b1 => intro w' _; go_simp; with_reducible rfl
    clear hD; intro hD
    simp only [Act.put, sqA, sqB, sqC]
    refine wpAnyK_pure (i := 5) (v := ?v3_5_8b1) (fuel := 5) rfl (by kernel_rfl) (fun _ _ _ h => h) hD hS_3_3_8 (.inl ⟨by kernel_rfl, ?y3_5_8b1⟩) ?n3_5_8b1
    case y3_5_8b1 => intro w' _; go_simp; with_reducible rfl
    clear hD; intro hD
    simp only [Act.put, sqA, sqB, sqC]
    refine wpAnyK_pure (i := 6) (v := ?v3_6_8b1) (fuel := 4) rfl (by kernel_rfl) (fun _ _ _ h => h) hD hS_3_3_8 (.inl ⟨by kernel_rfl, ?y3_6_8b1⟩) ?n3_6_8b1
    case y3_6_8b1 => intro w' _; go_simp; with_reducible rfl
    clear hD; intro hD
    simp only [Act.put, sqA, sqB, sqC]
    refine wpAnyK_pure (i := 7) (v := ?v3_7_8b1) (fuel := 3) rfl (by kernel_rfl) (fun _ _ _ h => h) hD hS_3_3_8 (.inl ⟨by kernel_rfl, ?y3_7_8b1⟩) ?n3_7_8b1
    case y3_7_8b1 => intro w' _; go_simp; with_reducible rfl
    clear hD; intro hD
    simp only [Act.put, sqA, sqB, sqC]
    refine wpAnyK_one (i := 9) (fuel := 2) (by kernel_rfl) rfl hD ?_
    clear hD; intro K9 hK9
    have hP := HP.out
    have p0 := hP.c0
    have p1 := hP.c1
    have pf0 := hP.f0
    have pf1 := hP.f1
    clear hP
    go_wp2
    refine hK9 _ _ (by first | exact (Below.setCell hS_3_3_8 (p := ⟨_, 0, none⟩) HPB.out _).setCell (p := ⟨_, 1, none⟩) HPB.out _ | exact Below.alloc (HB2.out.trans (HB3.out.mono HB2.out.size)) (Nat.le_trans HB2.out.size HB3.out.size) _) ?_; clear hK9; intro hS_3_9_8 hD
    clear p0 p1 pf0 pf1
    refine wpAnyK_one (i := 10) (fuel := 1) (by kernel_rfl) rfl hD ?_
    clear hD; intro K10 hK10
    go_wp2
    refine hK10 _ _ (by exact hS_3_9_8) ?_; clear hK10; intro hS_3_10_8 hD
    refine wpAnyK_one (i := 11) (fuel := 0) (by kernel_rfl) rfl hD ?_
    clear hD; intro K11 hK11
    go_wp2
    refine hK11 _ _ (by exact hS_3_10_8) ?_; clear hK11; intro hS_3_11_8 hD
    refine wpAnyK_done (by kernel_rfl) ?_ 0
    clear hD
    have HSX := Lib.hid hS_3_11_8
    go_wp2
    go_ret2
    exact ⟨rfl, HBd.out.trans (HSX.out.mono HBd.out.size)⟩
end Go.Proofs.YtndmjfkmnjejkaaGreatDoor

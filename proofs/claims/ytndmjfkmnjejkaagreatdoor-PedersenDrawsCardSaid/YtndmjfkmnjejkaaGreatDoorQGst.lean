import Derived.Test.YtndmjfkmnjejkaaGreatDoorQPwR
import Derived.Test.YtndmjfkmnjejkaaGreatDoorQExW
import Derived.Test.YtndmjfkmnjejkaaGreatDoorQOvr
import Derived.Test.YtndmjfkmnjejkaaGreatDoorQRowN
set_option linter.unusedVariables false
set_option linter.unusedSimpArgs false
namespace Go.Proofs.YtndmjfkmnjejkaaGreatDoor
set_option maxRecDepth 100000
set_option maxHeartbeats 2000000
open Go.RowKit
theorem nS_beq (a b : Nat) : ((nS a).toList == (nS b).toList) = decide (a = b) := by
 rw [ByteArray.toList_eq, ByteArray.toList_eq, nS_data, nS_data, Bool.eq_iff_iff, beq_iff_eq, decide_eq_true_eq]
 exact ⟨fun h => by rw [← bnat_encN a, h, bnat_encN], fun h => by rw [h]⟩
theorem nS_is1 (a : Nat) : ((nS a).toList == [1]) = decide (a = 1) := by
 rw [← nS_beq a 1, show (nS 1).toList = [1] from by rw [ByteArray.toList_eq, nS_data]; rfl]
def gV (M O : ByteArray) : Value := .agg #[.string M, .string O]
theorem pg_formed (M O : ByteArray) (hM : M.size ≤ 9223372036854775807) (hO : O.size ≤ 9223372036854775807) (w : World) : Calls Tryz.prog 214 #[gV M O] w (Ret (.bool (nvalid M && nvalid O)) w) := by
 have HV1 := Hq (nat_Valid M hM)
 have HV2 := Hq (nat_Valid O hO)
 unfold gV
 go_enter Tryz.func214, Tryz.ntmps214
 go_wp2_with fail
 refine (HV1.out _).mono ?_
 rintro e w1 ⟨rfl, rfl⟩
 cases hv : nvalid M with
 | false =>
  have HVE := Hq hv
  clear hv
  go_wp2
  go_ret
  exact ⟨by rw [HVE.out]; rfl, (Below.refl _ _).alloc (Nat.le_refl _) _⟩
 | true =>
  have HVE := Hq hv
  clear hv
  go_wp2_with fail
  refine (HV2.out _).mono ?_
  rintro e w1 ⟨rfl, rfl⟩
  go_wp2
  go_ret
  exact ⟨by rw [HVE.out, Bool.true_and]; rfl, (Below.refl _ _).alloc (Nat.le_refl _) _⟩
theorem r09_form (M O : ByteArray) (hM : M.size ≤ 9223372036854775807) (hO : O.size ≤ 9223372036854775807) (w : World) : Calls Tryz.prog 223 #[gV M O] w (Ret (.bool (nvalid M && nvalid O)) w) := by
 have HV1 := Hq (r01_Valid M hM)
 have HV2 := Hq (r01_Valid O hO)
 unfold gV
 go_enter Tryz.func223, Tryz.ntmps223
 go_wp2_with fail
 refine (HV1.out _).mono ?_
 rintro e w1 ⟨rfl, rfl⟩
 cases hv : nvalid M with
 | false =>
  have HVE := Hq hv
  clear hv
  go_wp2
  go_ret
  exact ⟨by rw [HVE.out]; rfl, (Below.refl _ _).alloc (Nat.le_refl _) _⟩
 | true =>
  have HVE := Hq hv
  clear hv
  go_wp2_with fail
  refine (HV2.out _).mono ?_
  rintro e w1 ⟨rfl, rfl⟩
  go_wp2
  go_ret
  exact ⟨by rw [HVE.out, Bool.true_and]; rfl, (Below.refl _ _).alloc (Nat.le_refl _) _⟩
def hasP (M O e : ByteArray) : Prop := nvalid M = true ∧ nvalid O = true ∧ nvalid e = true ∧ 0 < num O ∧ 0 < num e ∧ num e < num M ∧ num e ^ num O % num M = 1
instance (M O e : ByteArray) : Decidable (hasP M O e) := by unfold hasP; exact inferInstance
def hasG (M O e : ByteArray) : Bool := decide (hasP M O e)
theorem pg_Has (M O e : ByteArray) (hM : M.size ≤ 8) (hO : O.size ≤ 1000) (he : e.size ≤ 1000) (w : World) : Calls Tryz.prog 187 #[gV M O, .string e] w (Ret (.bool (hasG M O e)) w) := by
 have HF := Hq (pg_formed M O (by omega) (by omega))
 have HV := Hq (nat_Valid e (by omega))
 have HB0 : Below w.heap.size w (w.alloc (.cells #[.string M, .string O] 24)) := (Below.refl _ _).alloc (Nat.le_refl _) _
 cases hf : (nvalid M && nvalid O) with
 | false =>
  have HR := Hq (show hasG M O e = false from decide_eq_false (fun h => by rw [h.1, h.2.1] at hf; cases hf))
  rw [hf] at HF
  clear hf
  rw [HR.out]
  unfold gV at *
  go_enter Tryz.func187, Tryz.ntmps187
  go_wp2_with fail
  refine (HF.out _).mono ?_
  rintro ev w1 ⟨rfl, hb1⟩
  have HB1 := Hq (HB0.trans (hb1.mono HB0.size))
  have hbx : (w1.heap[w.heap.size]?) = some (.cells #[.string M, .string O] 24) := (hb1.block _ (by simp)).trans (heap_alloc_new _ _)
  have c0 : w1.cell? ⟨w.heap.size, 0, none⟩ = some (.string M) := by rw [Lib.cell_of_heap hbx]; rfl
  have c1 : w1.cell? ⟨w.heap.size, 1, none⟩ = some (.string O) := by rw [Lib.cell_of_heap hbx]; rfl
  have HBX := Hq hbx
  clear hb1 hbx
  go_wp2
  go_ret
  exact ⟨rfl, HB1.out⟩
 | true =>
  rw [hf] at HF
  rw [Bool.and_eq_true] at hf
  cases hv : nvalid e with
  | false =>
   have HR := Hq (show hasG M O e = false from decide_eq_false (fun h => by rw [h.2.2.1] at hv; cases hv))
   rw [hv] at HV
   clear hv hf
   rw [HR.out]
   unfold gV at *
   go_enter Tryz.func187, Tryz.ntmps187
   go_wp2_with fail
   refine (HF.out _).mono ?_
   rintro ev w1 ⟨rfl, hb1⟩
   have HB1 := Hq (HB0.trans (hb1.mono HB0.size))
   have hbx : (w1.heap[w.heap.size]?) = some (.cells #[.string M, .string O] 24) := (hb1.block _ (by simp)).trans (heap_alloc_new _ _)
   have c0 : w1.cell? ⟨w.heap.size, 0, none⟩ = some (.string M) := by rw [Lib.cell_of_heap hbx]; rfl
   have c1 : w1.cell? ⟨w.heap.size, 1, none⟩ = some (.string O) := by rw [Lib.cell_of_heap hbx]; rfl
   have HBX := Hq hbx
   clear hb1 hbx
   go_wp2_with fail
   refine (HV.out _).mono ?_
   rintro ev w2 ⟨rfl, rfl⟩
   go_wp2
   go_ret
   exact ⟨rfl, HB1.out⟩
  | true =>
   have hm8 := num_small hM
   have hMe := nS_num hf.1
   have hOe := nS_num hf.2
   have hee := nS_num hv
   have ho8 : num O < 256 ^ 128 := by
    have := hf.2
    rw [hOe] at this
    exact nvalid_nS.1 this
   have hx8 : num e < 256 ^ 128 := by
    have := hv
    rw [hee] at this
    exact nvalid_nS.1 this
   rw [hv] at HV
   have HCM := Hq (show ncmp e M = cmpI (num e) (num M) from by
    unfold ncmp
    rw [hv, hf.1, Bool.and_true, if_pos rfl, ← ordB_nS, ← hee, ← hMe])
   have HCC := Hq (nat_Cmp e M (by omega) (by omega))
   rw [HCM.out] at HCC
   by_cases ho0 : num O = 0
   · have HR := Hq (show hasG M O e = false from decide_eq_false (fun h => by have := h.2.2.2.1; omega))
     have hOz : O = ⟨#[]⟩ := by rw [hOe, ho0]; rfl
     clear hv hf hMe hOe hee ho8 hx8 hm8 ho0
     subst hOz
     rw [HR.out]
     unfold gV at *
     go_enter Tryz.func187, Tryz.ntmps187
     go_wp2_with fail
     refine (HF.out _).mono ?_
     rintro ev w1 ⟨rfl, hb1⟩
     have HB1 := Hq (HB0.trans (hb1.mono HB0.size))
     have hbx : (w1.heap[w.heap.size]?) = some (.cells #[.string M, .string (⟨#[]⟩ : ByteArray)] 24) := (hb1.block _ (by simp)).trans (heap_alloc_new _ _)
     have c0 : w1.cell? ⟨w.heap.size, 0, none⟩ = some (.string M) := by rw [Lib.cell_of_heap hbx]; rfl
     have c1 : w1.cell? ⟨w.heap.size, 1, none⟩ = some (.string (⟨#[]⟩ : ByteArray)) := by rw [Lib.cell_of_heap hbx]; rfl
     have HBX := Hq hbx
     clear hb1 hbx
     go_wp2_with fail
     refine (HV.out _).mono ?_
     rintro ev w2 ⟨rfl, rfl⟩
     go_wp2
     go_ret
     exact ⟨rfl, HB1.out⟩
   · by_cases hx0 : num e = 0
     · have HR := Hq (show hasG M O e = false from decide_eq_false (fun h => by have := h.2.2.2.2.1; omega))
       have hez : e = ⟨#[]⟩ := by rw [hee, hx0]; rfl
       have hOn : O.toList.isEmpty = false := by rw [hOe]; exact empty_nS (by omega)
       clear hv hf hMe hOe hee ho8 hx8 hm8 ho0
       subst hez
       rw [HR.out]
       unfold gV at *
       go_enter Tryz.func187, Tryz.ntmps187
       go_wp2_with fail
       refine (HF.out _).mono ?_
       rintro ev w1 ⟨rfl, hb1⟩
       have HB1 := Hq (HB0.trans (hb1.mono HB0.size))
       have hbx : (w1.heap[w.heap.size]?) = some (.cells #[.string M, .string O] 24) := (hb1.block _ (by simp)).trans (heap_alloc_new _ _)
       have c0 : w1.cell? ⟨w.heap.size, 0, none⟩ = some (.string M) := by rw [Lib.cell_of_heap hbx]; rfl
       have c1 : w1.cell? ⟨w.heap.size, 1, none⟩ = some (.string O) := by rw [Lib.cell_of_heap hbx]; rfl
       have HBX := Hq hbx
       clear hb1 hbx
       go_wp2_with fail
       refine (HV.out _).mono ?_
       rintro ev w2 ⟨rfl, rfl⟩
       go_wp2
       go_ret
       exact ⟨rfl, HB1.out⟩
     · have hOn : O.toList.isEmpty = false := by rw [hOe]; exact empty_nS (by omega)
       have hen : e.toList.isEmpty = false := by rw [hee]; exact empty_nS (by omega)
       by_cases hxm : num M ≤ num e
       · have HR := Hq (show hasG M O e = false from decide_eq_false (fun h => by have := h.2.2.2.2.2.1; omega))
         have hg := cmpI_nonneg hxm
         obtain ⟨c, hc⟩ : ∃ c, cmpI (num e) (num M) = c := ⟨_, rfl⟩
         rw [hc] at hg HCC
         clear hv hf hMe hOe hee ho8 hx8 hm8 ho0 hx0 hxm hc
         rw [HR.out]
         unfold gV at *
         go_enter Tryz.func187, Tryz.ntmps187
         go_wp2_with fail
         refine (HF.out _).mono ?_
         rintro ev w1 ⟨rfl, hb1⟩
         have HB1 := Hq (HB0.trans (hb1.mono HB0.size))
         have hbx : (w1.heap[w.heap.size]?) = some (.cells #[.string M, .string O] 24) := (hb1.block _ (by simp)).trans (heap_alloc_new _ _)
         have c0 : w1.cell? ⟨w.heap.size, 0, none⟩ = some (.string M) := by rw [Lib.cell_of_heap hbx]; rfl
         have c1 : w1.cell? ⟨w.heap.size, 1, none⟩ = some (.string O) := by rw [Lib.cell_of_heap hbx]; rfl
         have HBX := Hq hbx
         clear hb1 hbx
         go_wp2_with fail
         refine (HV.out _).mono ?_
         rintro ev w2 ⟨rfl, rfl⟩
         go_wp2_with fail
         refine (HCC.out _).mono ?_
         rintro ev w2 ⟨rfl, rfl⟩
         go_wp2
         go_ret
         exact ⟨rfl, HB1.out⟩
       · rw [cmpI_lt (by omega)] at HCC
         have HE1 := Hq (mod_Exp (num e) (num O) (num M) (by omega) ho8 hm8 (by omega))
         have HE2 := Hq (mod_Exp (num e) 0 (num M) (by omega) (by decide) hm8 (by omega))
         rw [← hee, ← hOe, ← hMe] at HE1
         rw [← hee, ← hMe, nS_zero, Nat.pow_zero, Nat.mod_eq_of_lt (by omega)] at HE2
         obtain ⟨A, hA⟩ : ∃ A, num e ^ num O % num M = A := ⟨_, rfl⟩
         rw [hA] at HE1
         have HR := Hq (show hasG M O e = decide (A = 1) from decide_eq_decide.2 ⟨fun h => by rw [← hA]; exact h.2.2.2.2.2.2, fun h => ⟨hf.1, hf.2, hv, by omega, by omega, by omega, by rw [hA]; exact h⟩⟩)
         clear hv hf hMe hOe hee ho8 hx8 hm8 ho0 hx0 hxm hA
         rw [HR.out]
         unfold gV at *
         go_enter Tryz.func187, Tryz.ntmps187
         go_wp2_with fail
         refine (HF.out _).mono ?_
         rintro ev w1 ⟨rfl, hb1⟩
         have HB1 := Hq (HB0.trans (hb1.mono HB0.size))
         have hbx : (w1.heap[w.heap.size]?) = some (.cells #[.string M, .string O] 24) := (hb1.block _ (by simp)).trans (heap_alloc_new _ _)
         have c0 : w1.cell? ⟨w.heap.size, 0, none⟩ = some (.string M) := by rw [Lib.cell_of_heap hbx]; rfl
         have c1 : w1.cell? ⟨w.heap.size, 1, none⟩ = some (.string O) := by rw [Lib.cell_of_heap hbx]; rfl
         have HBX := Hq hbx
         clear hb1 hbx
         go_wp2_with fail
         refine (HV.out _).mono ?_
         rintro ev w2 ⟨rfl, rfl⟩
         go_wp2_with fail
         refine (HCC.out _).mono ?_
         rintro ev w2 ⟨rfl, rfl⟩
         go_wp2_with fail
         refine (HE1.out _).mono ?_
         rintro ev w3 ⟨rfl, hb3⟩
         have hbx3 := (hb3.block _ (block_lt HBX.out)).trans HBX.out
         have HB3 := Hq (HB1.out.trans (hb3.mono HB1.out.size))
         clear hb3 c0 c1
         have c0 : w3.cell? ⟨w.heap.size, 0, none⟩ = some (.string M) := by rw [Lib.cell_of_heap hbx3]; rfl
         clear hbx3
         go_wp2_with fail
         refine (HE2.out _).mono ?_
         rintro ev w4 ⟨rfl, hb4⟩
         have HB4 := Hq (HB3.out.trans (hb4.mono HB3.out.size))
         clear hb4
         go_wp2
         go_ret
         exact ⟨by rw [← nS_beq]; rfl, HB4.out⟩
theorem r09_Has (M O e : ByteArray) (hM : M.size ≤ 8) (hO : O.size ≤ 1000) (he : e.size ≤ 1000) (w : World) : Calls Tryz.prog 192 #[gV M O, .string e] w (Ret (.bool (hasG M O e)) w) := by
 have HF := Hq (r09_form M O (by omega) (by omega))
 have HV := Hq (r01_Valid e (by omega))
 have HB0 : Below w.heap.size w (w.alloc (.cells #[.string M, .string O] 24)) := (Below.refl _ _).alloc (Nat.le_refl _) _
 cases hf : (nvalid M && nvalid O) with
 | false =>
  have HR := Hq (show hasG M O e = false from decide_eq_false (fun h => by rw [h.1, h.2.1] at hf; cases hf))
  rw [hf] at HF
  clear hf
  rw [HR.out]
  unfold gV at *
  go_enter Tryz.func192, Tryz.ntmps192
  go_wp2_with fail
  refine (HF.out _).mono ?_
  rintro ev w1 ⟨rfl, hb1⟩
  have HB1 := Hq (HB0.trans (hb1.mono HB0.size))
  have hbx : (w1.heap[w.heap.size]?) = some (.cells #[.string M, .string O] 24) := (hb1.block _ (by simp)).trans (heap_alloc_new _ _)
  have c0 : w1.cell? ⟨w.heap.size, 0, none⟩ = some (.string M) := by rw [Lib.cell_of_heap hbx]; rfl
  have c1 : w1.cell? ⟨w.heap.size, 1, none⟩ = some (.string O) := by rw [Lib.cell_of_heap hbx]; rfl
  have HBX := Hq hbx
  clear hb1 hbx
  go_wp2
  go_ret
  exact ⟨rfl, HB1.out⟩
 | true =>
  rw [hf] at HF
  rw [Bool.and_eq_true] at hf
  cases hv : nvalid e with
  | false =>
   have HR := Hq (show hasG M O e = false from decide_eq_false (fun h => by rw [h.2.2.1] at hv; cases hv))
   rw [hv] at HV
   clear hv hf
   rw [HR.out]
   unfold gV at *
   go_enter Tryz.func192, Tryz.ntmps192
   go_wp2_with fail
   refine (HF.out _).mono ?_
   rintro ev w1 ⟨rfl, hb1⟩
   have HB1 := Hq (HB0.trans (hb1.mono HB0.size))
   have hbx : (w1.heap[w.heap.size]?) = some (.cells #[.string M, .string O] 24) := (hb1.block _ (by simp)).trans (heap_alloc_new _ _)
   have c0 : w1.cell? ⟨w.heap.size, 0, none⟩ = some (.string M) := by rw [Lib.cell_of_heap hbx]; rfl
   have c1 : w1.cell? ⟨w.heap.size, 1, none⟩ = some (.string O) := by rw [Lib.cell_of_heap hbx]; rfl
   have HBX := Hq hbx
   clear hb1 hbx
   go_wp2_with fail
   refine (HV.out _).mono ?_
   rintro ev w2 ⟨rfl, rfl⟩
   go_wp2
   go_ret
   exact ⟨rfl, HB1.out⟩
  | true =>
   have hm8 := num_small hM
   have hMe := nS_num hf.1
   have hOe := nS_num hf.2
   have hee := nS_num hv
   have ho8 : num O < 256 ^ 128 := by
    have := hf.2
    rw [hOe] at this
    exact nvalid_nS.1 this
   have hx8 : num e < 256 ^ 128 := by
    have := hv
    rw [hee] at this
    exact nvalid_nS.1 this
   rw [hv] at HV
   have HCM := Hq (show ordB e M = cmpI (num e) (num M) from by rw [← ordB_nS, ← hee, ← hMe])
   have HCC := Hq (r01_Order e M (by omega) (by omega))
   rw [HCM.out] at HCC
   by_cases ho0 : num O = 0
   · have HR := Hq (show hasG M O e = false from decide_eq_false (fun h => by have := h.2.2.2.1; omega))
     have hOz : O = ⟨#[]⟩ := by rw [hOe, ho0]; rfl
     clear hv hf hMe hOe hee ho8 hx8 hm8 ho0
     subst hOz
     rw [HR.out]
     unfold gV at *
     go_enter Tryz.func192, Tryz.ntmps192
     go_wp2_with fail
     refine (HF.out _).mono ?_
     rintro ev w1 ⟨rfl, hb1⟩
     have HB1 := Hq (HB0.trans (hb1.mono HB0.size))
     have hbx : (w1.heap[w.heap.size]?) = some (.cells #[.string M, .string (⟨#[]⟩ : ByteArray)] 24) := (hb1.block _ (by simp)).trans (heap_alloc_new _ _)
     have c0 : w1.cell? ⟨w.heap.size, 0, none⟩ = some (.string M) := by rw [Lib.cell_of_heap hbx]; rfl
     have c1 : w1.cell? ⟨w.heap.size, 1, none⟩ = some (.string (⟨#[]⟩ : ByteArray)) := by rw [Lib.cell_of_heap hbx]; rfl
     have HBX := Hq hbx
     clear hb1 hbx
     go_wp2_with fail
     refine (HV.out _).mono ?_
     rintro ev w2 ⟨rfl, rfl⟩
     go_wp2
     go_ret
     exact ⟨rfl, HB1.out⟩
   · by_cases hx0 : num e = 0
     · have HR := Hq (show hasG M O e = false from decide_eq_false (fun h => by have := h.2.2.2.2.1; omega))
       have hez : e = ⟨#[]⟩ := by rw [hee, hx0]; rfl
       have hOn : O.toList.isEmpty = false := by rw [hOe]; exact empty_nS (by omega)
       clear hv hf hMe hOe hee ho8 hx8 hm8 ho0
       subst hez
       rw [HR.out]
       unfold gV at *
       go_enter Tryz.func192, Tryz.ntmps192
       go_wp2_with fail
       refine (HF.out _).mono ?_
       rintro ev w1 ⟨rfl, hb1⟩
       have HB1 := Hq (HB0.trans (hb1.mono HB0.size))
       have hbx : (w1.heap[w.heap.size]?) = some (.cells #[.string M, .string O] 24) := (hb1.block _ (by simp)).trans (heap_alloc_new _ _)
       have c0 : w1.cell? ⟨w.heap.size, 0, none⟩ = some (.string M) := by rw [Lib.cell_of_heap hbx]; rfl
       have c1 : w1.cell? ⟨w.heap.size, 1, none⟩ = some (.string O) := by rw [Lib.cell_of_heap hbx]; rfl
       have HBX := Hq hbx
       clear hb1 hbx
       go_wp2_with fail
       refine (HV.out _).mono ?_
       rintro ev w2 ⟨rfl, rfl⟩
       go_wp2
       go_ret
       exact ⟨rfl, HB1.out⟩
     · have hOn : O.toList.isEmpty = false := by rw [hOe]; exact empty_nS (by omega)
       have hen : e.toList.isEmpty = false := by rw [hee]; exact empty_nS (by omega)
       by_cases hxm : num M ≤ num e
       · have HR := Hq (show hasG M O e = false from decide_eq_false (fun h => by have := h.2.2.2.2.2.1; omega))
         have hg := cmpI_nonneg hxm
         obtain ⟨c, hc⟩ : ∃ c, cmpI (num e) (num M) = c := ⟨_, rfl⟩
         rw [hc] at hg HCC
         clear hv hf hMe hOe hee ho8 hx8 hm8 ho0 hx0 hxm hc
         rw [HR.out]
         unfold gV at *
         go_enter Tryz.func192, Tryz.ntmps192
         go_wp2_with fail
         refine (HF.out _).mono ?_
         rintro ev w1 ⟨rfl, hb1⟩
         have HB1 := Hq (HB0.trans (hb1.mono HB0.size))
         have hbx : (w1.heap[w.heap.size]?) = some (.cells #[.string M, .string O] 24) := (hb1.block _ (by simp)).trans (heap_alloc_new _ _)
         have c0 : w1.cell? ⟨w.heap.size, 0, none⟩ = some (.string M) := by rw [Lib.cell_of_heap hbx]; rfl
         have c1 : w1.cell? ⟨w.heap.size, 1, none⟩ = some (.string O) := by rw [Lib.cell_of_heap hbx]; rfl
         have HBX := Hq hbx
         clear hb1 hbx
         go_wp2_with fail
         refine (HV.out _).mono ?_
         rintro ev w2 ⟨rfl, rfl⟩
         go_wp2_with fail
         refine (HCC.out _).mono ?_
         rintro ev w2 ⟨rfl, hb2⟩
         have HB2 := Hq (HB1.out.trans (hb2.mono HB1.out.size))
         clear hb2
         go_wp2
         go_ret
         exact ⟨rfl, HB2.out⟩
       · rw [cmpI_lt (by omega)] at HCC
         have HE1 := Hq (r03_Exp (num e) (num O) (num M) hx8 ho8 hm8 (by omega))
         rw [← hee, ← hOe, ← hMe] at HE1
         obtain ⟨A, hA⟩ : ∃ A, num e ^ num O % num M = A := ⟨_, rfl⟩
         rw [hA] at HE1
         have HR := Hq (show hasG M O e = decide (A = 1) from decide_eq_decide.2 ⟨fun h => by rw [← hA]; exact h.2.2.2.2.2.2, fun h => ⟨hf.1, hf.2, hv, by omega, by omega, by omega, by rw [hA]; exact h⟩⟩)
         clear hv hf hMe hOe hee ho8 hx8 hm8 ho0 hx0 hxm hA
         rw [HR.out]
         unfold gV at *
         go_enter Tryz.func192, Tryz.ntmps192
         go_wp2_with fail
         refine (HF.out _).mono ?_
         rintro ev w1 ⟨rfl, hb1⟩
         have HB1 := Hq (HB0.trans (hb1.mono HB0.size))
         have hbx : (w1.heap[w.heap.size]?) = some (.cells #[.string M, .string O] 24) := (hb1.block _ (by simp)).trans (heap_alloc_new _ _)
         have c0 : w1.cell? ⟨w.heap.size, 0, none⟩ = some (.string M) := by rw [Lib.cell_of_heap hbx]; rfl
         have c1 : w1.cell? ⟨w.heap.size, 1, none⟩ = some (.string O) := by rw [Lib.cell_of_heap hbx]; rfl
         have HBX := Hq hbx
         clear hb1 hbx
         go_wp2_with fail
         refine (HV.out _).mono ?_
         rintro ev w2 ⟨rfl, rfl⟩
         go_wp2_with fail
         refine (HCC.out _).mono ?_
         rintro ev w2 ⟨rfl, hb2⟩
         have hbx2 := (hb2.block _ (block_lt HBX.out)).trans HBX.out
         have HB2 := Hq (HB1.out.trans (hb2.mono HB1.out.size))
         clear hb2 c0 c1
         have c0 : w2.cell? ⟨w.heap.size, 0, none⟩ = some (.string M) := by rw [Lib.cell_of_heap hbx2]; rfl
         have c1 : w2.cell? ⟨w.heap.size, 1, none⟩ = some (.string O) := by rw [Lib.cell_of_heap hbx2]; rfl
         clear hbx2
         go_wp2_with fail
         refine (HE1.out _).mono ?_
         rintro ev w3 ⟨rfl, hb3⟩
         have HB3 := Hq (HB2.out.trans (hb3.mono HB2.out.size))
         clear hb3
         go_wp2
         go_ret
         exact ⟨by rw [← nS_is1]; rfl, HB3.out⟩
end Go.Proofs.YtndmjfkmnjejkaaGreatDoor
namespace Go.Proofs.YtndmjfkmnjejkaaGreatDoor
set_option maxRecDepth 100000
set_option maxHeartbeats 2000000
open Go.RowKit
theorem r02_Mod (z : Int) (m : Nat) (hz : z.natAbs < 256 ^ 128) (hm : m < 256 ^ 128) (h0 : 0 < m) (w : World) : Calls Tryz.prog 103 #[intV z, .string (nS m)] w (Ret (.tuple #[.string (nS (z % m).toNat), .int .i64 0]) w) := by
 have HVZ := Hq (r02_Valid_n z hz)
 have HVM := Hq (r01_Valid (nS m) (nS_size63 hm))
 rw [nvalid_nS.2 hm] at HVM
 have HFR := Hq (r02_From m hm)
 have HDM := Hq (r02_DivMod z m hz hm h0)
 have ed : decide ((m : Int) < 0) = false := decide_eq_false (Int.not_lt.2 (Int.natCast_nonneg _))
 unfold intV zV at *
 rw [ed, Int.natAbs_natCast] at HFR HDM
 obtain ⟨t, ht⟩ : ∃ t, nS m = t := ⟨_, rfl⟩
 obtain ⟨s, hs⟩ : ∃ s, nS z.natAbs = s := ⟨_, rfl⟩
 obtain ⟨b, hb⟩ : ∃ b, decide (z < 0) = b := ⟨_, rfl⟩
 obtain ⟨r, hr⟩ : ∃ r, (z % m).toNat = r := ⟨_, rfl⟩
 rw [ht] at HVM HFR HDM ⊢
 rw [hs, hb] at HVZ HDM ⊢
 rw [hr] at HDM ⊢
 clear ht hs hb hr ed hz hm h0
 have HX0 := Hq (Bx2.new w (.bool b) (.string s) 28)
 have HB0 := Hq ((Below.refl w.heap.size w).alloc (Nat.le_refl _) (.cells #[.bool b, .string s] 28))
 have c0 := HX0.out.c0
 have c1 := HX0.out.c1
 go_enter Tryz.func103, Tryz.ntmps103
 go_wp2_with fail
 refine (HVZ.out _).mono ?_
 rintro ev w1 ⟨rfl, hb1⟩
 have HX1 := Hq (HX0.out.next hb1)
 have HB1 := Hq (HB0.out.trans (hb1.mono HB0.out.size))
 clear hb1 c0 c1
 go_wp2_with fail
 refine (HVM.out _).mono ?_
 rintro ev w2 ⟨rfl, rfl⟩
 go_wp2
 obtain ⟨wd, hwd⟩ : ∃ wd, w1.drew = wd := ⟨_, rfl⟩
 have HBd := Hq (show Below w.heap.size w wd from by rw [← hwd]; exact HB1.out.drew)
 obtain ⟨d0, d1⟩ : wd.cell? ⟨w.heap.size, 0, none⟩ = some (.bool b) ∧ wd.cell? ⟨w.heap.size, 1, none⟩ = some (.string s) := by rw [← hwd]; exact ⟨HX1.out.c0, HX1.out.c1⟩
 refine wp_region_K 12 (Below (wd).heap.size (wd)) (by kernel_rfl) ?_
 intro hD
 rw [hwd]
 refine wpAnyK_takeS (i := 0) (v := ?v3_0b1) (fuel := 11) rfl (by kernel_rfl) (by kernel_rfl) (fun _ _ _ h => h) hD (Below.refl _ _) (.inl ⟨by kernel_rfl, ?y3_0b1⟩) ?n3_0b1
 case y3_0b1 => intro w' hS'; have e0 := cell_kept hS' (Nat.le_refl _) d0; have e1 := cell_kept hS' (Nat.le_refl _) d1; go_simp; with_reducible rfl
 clear hD; intro hD
 simp only [Act.put, sqA, sqB, sqC]
 refine wpAnyK_pure (i := 1) (v := ?v3_1b1) (fuel := 10) rfl (by kernel_rfl) (fun _ _ _ h => h) hD (Below.refl _ _) (.inl ⟨by kernel_rfl, ?y3_1b1⟩) ?n3_1b1
 case y3_1b1 => intro w' _; go_simp; with_reducible rfl
 clear hD; intro hD
 simp only [Act.put, sqA, sqB, sqC]
 refine wpAnyK_two (i := 2) (i' := 8) (fuel := 9) (by kernel_rfl) rfl rfl hD ?_ ?_ 
 · unfold StepK
   clear hD; intro K2 hK2
   go_wp2_with fail
   refine (HFR.out _).mono ?_
   rintro ev w3 ⟨rfl, hb3⟩
   try (have HP := Hq (HP.out.next hb3))
   have HB2 := Hq hb3
   clear hb3
   go_wp2
   refine hK2 _ _ (by exact HB2.out) ?_; clear hK2; intro hS_3_2 hD
   refine wpAnyK_two (i := 3) (i' := 8) (fuel := 8) (by kernel_rfl) rfl rfl hD ?_ ?_ 
   · unfold StepK
     clear hD; intro K3 hK3
     go_wp2_with fail
     refine (HDM.out _).mono ?_
     rintro ev w4 ⟨bq, sq, rfl, hb4⟩
     try (have HP := Hq (HP.out.next hb4))
     have HB3 := Hq hb4
     clear hb4
     go_wp2
     refine hK3 _ _ (by exact Below.trans hS_3_2 (Below.mono HB3.out (Below.size hS_3_2))) ?_; clear hK3; intro hS_3_3_2 hD
     refine wpAnyK_pure (i := 4) (v := ?v3_4_2_3b1) (fuel := 7) rfl (by kernel_rfl) (fun _ _ _ h => h) hD hS_3_3_2 (.inl ⟨by kernel_rfl, ?y3_4_2_3b1⟩) ?n3_4_2_3b1
     case y3_4_2_3b1 => intro w' _; go_simp; with_reducible rfl
     clear hD; intro hD
     simp only [Act.put, sqA, sqB, sqC]
     refine wpAnyK_pure (i := 5) (v := ?v3_5_2_3b1) (fuel := 6) rfl (by kernel_rfl) (fun _ _ _ h => h) hD hS_3_3_2 (.inl ⟨by kernel_rfl, ?y3_5_2_3b1⟩) ?n3_5_2_3b1
     case y3_5_2_3b1 => intro w' _; go_simp; with_reducible rfl
     clear hD; intro hD
     simp only [Act.put, sqA, sqB, sqC]
     refine wpAnyK_pure (i := 6) (v := ?v3_6_2_3b1) (fuel := 5) rfl (by kernel_rfl) (fun _ _ _ h => h) hD hS_3_3_2 (.inl ⟨by kernel_rfl, ?y3_6_2_3b1⟩) ?n3_6_2_3b1
     case y3_6_2_3b1 => intro w' _; go_simp; with_reducible rfl
     clear hD; intro hD
     simp only [Act.put, sqA, sqB, sqC]
     refine wpAnyK_pure (i := 7) (v := ?v3_7_2_3b1) (fuel := 4) rfl (by kernel_rfl) (fun _ _ _ h => h) hD hS_3_3_2 (.inl ⟨by kernel_rfl, ?y3_7_2_3b1⟩) ?n3_7_2_3b1
     case y3_7_2_3b1 => intro w' _; go_simp; with_reducible rfl
     clear hD; intro hD
     simp only [Act.put, sqA, sqB, sqC]
     refine wpAnyK_one (i := 8) (fuel := 3) (by kernel_rfl) rfl hD ?_; clear hD; intro K8 hK8
     first | (have HPB := Hq (Below.size hS_3_3_2)) | (have HPB := Hq (Nat.le_refl wd.heap.size))
     go_wp2
     refine hK8 _ _ (by exact Below.alloc hS_3_3_2 (Below.size hS_3_3_2) _) ?_; clear hK8; intro hS_3_8_2_3 hD
     have HP := Hq (bx_of_alloc hS_3_8_2_3)
     refine wpAnyK_one (i := 9) (fuel := 2) (by kernel_rfl) rfl hD ?_; clear hD; intro K9 hK9
     have hP := HP.out
     have p0 := hP.c0
     have p1 := hP.c1
     have pf0 := hP.f0
     have pf1 := hP.f1
     clear hP
     go_wp2
     refine hK9 _ _ (by first | exact (Below.setCell hS_3_8_2_3 (p := ⟨_, 0, none⟩) HPB.out _).setCell (p := ⟨_, 1, none⟩) HPB.out _ | exact Below.alloc (HB2.out.trans (HB3.out.mono HB2.out.size)) (Nat.le_trans HB2.out.size HB3.out.size) _) ?_; clear hK9; intro hS_3_9_2_3 hD
     clear p0 p1 pf0 pf1
     refine wpAnyK_one (i := 10) (fuel := 1) (by kernel_rfl) rfl hD ?_; clear hD; intro K10 hK10
     go_wp2
     refine hK10 _ _ (by exact hS_3_9_2_3) ?_; clear hK10; intro hS_3_10_2_3 hD
     refine wpAnyK_one (i := 11) (fuel := 0) (by kernel_rfl) rfl hD ?_; clear hD; intro K11 hK11
     go_wp2
     refine hK11 _ _ (by exact hS_3_10_2_3) ?_; clear hK11; intro hS_3_11_2_3 hD
     refine wpAnyK_done (by kernel_rfl) ?_ 0
     clear hD
     have HSX := Hq hS_3_11_2_3
     go_wp2
     go_ret2
     exact ⟨rfl, HBd.out.trans (HSX.out.mono HBd.out.size)⟩
   · unfold StepK
     clear hD; intro K8 hK8
     first | (have HPB := Hq (Below.size hS_3_2)) | (have HPB := Hq (Nat.le_refl wd.heap.size))
     go_wp2
     refine hK8 _ _ (by exact Below.alloc hS_3_2 (Below.size hS_3_2) _) ?_; clear hK8; intro hS_3_8_2 hD
     have HP := Hq (bx_of_alloc hS_3_8_2)
     refine wpAnyK_one (i := 3) (fuel := 7) (by kernel_rfl) rfl hD ?_; clear hD; intro K3 hK3
     go_wp2_with fail
     refine (HDM.out _).mono ?_
     rintro ev w4 ⟨bq, sq, rfl, hb4⟩
     try (have HP := Hq (HP.out.next hb4))
     have HB3 := Hq hb4
     clear hb4
     go_wp2
     refine hK3 _ _ (by exact Below.trans hS_3_8_2 (Below.mono HB3.out (Below.size hS_3_8_2))) ?_; clear hK3; intro hS_3_3_2_8 hD
     refine wpAnyK_pure (i := 4) (v := ?v3_4_2_8b1) (fuel := 6) rfl (by kernel_rfl) (fun _ _ _ h => h) hD hS_3_3_2_8 (.inl ⟨by kernel_rfl, ?y3_4_2_8b1⟩) ?n3_4_2_8b1
     case y3_4_2_8b1 => intro w' _; go_simp; with_reducible rfl
     clear hD; intro hD
     simp only [Act.put, sqA, sqB, sqC]
     refine wpAnyK_pure (i := 5) (v := ?v3_5_2_8b1) (fuel := 5) rfl (by kernel_rfl) (fun _ _ _ h => h) hD hS_3_3_2_8 (.inl ⟨by kernel_rfl, ?y3_5_2_8b1⟩) ?n3_5_2_8b1
     case y3_5_2_8b1 => intro w' _; go_simp; with_reducible rfl
     clear hD; intro hD
     simp only [Act.put, sqA, sqB, sqC]
     refine wpAnyK_pure (i := 6) (v := ?v3_6_2_8b1) (fuel := 4) rfl (by kernel_rfl) (fun _ _ _ h => h) hD hS_3_3_2_8 (.inl ⟨by kernel_rfl, ?y3_6_2_8b1⟩) ?n3_6_2_8b1
     case y3_6_2_8b1 => intro w' _; go_simp; with_reducible rfl
     clear hD; intro hD
     simp only [Act.put, sqA, sqB, sqC]
     refine wpAnyK_pure (i := 7) (v := ?v3_7_2_8b1) (fuel := 3) rfl (by kernel_rfl) (fun _ _ _ h => h) hD hS_3_3_2_8 (.inl ⟨by kernel_rfl, ?y3_7_2_8b1⟩) ?n3_7_2_8b1
     case y3_7_2_8b1 => intro w' _; go_simp; with_reducible rfl
     clear hD; intro hD
     simp only [Act.put, sqA, sqB, sqC]
     refine wpAnyK_one (i := 9) (fuel := 2) (by kernel_rfl) rfl hD ?_; clear hD; intro K9 hK9
     have hP := HP.out
     have p0 := hP.c0
     have p1 := hP.c1
     have pf0 := hP.f0
     have pf1 := hP.f1
     clear hP
     go_wp2
     refine hK9 _ _ (by first | exact (Below.setCell hS_3_3_2_8 (p := ⟨_, 0, none⟩) HPB.out _).setCell (p := ⟨_, 1, none⟩) HPB.out _ | exact Below.alloc (HB2.out.trans (HB3.out.mono HB2.out.size)) (Nat.le_trans HB2.out.size HB3.out.size) _) ?_; clear hK9; intro hS_3_9_2_8 hD
     clear p0 p1 pf0 pf1
     refine wpAnyK_one (i := 10) (fuel := 1) (by kernel_rfl) rfl hD ?_; clear hD; intro K10 hK10
     go_wp2
     refine hK10 _ _ (by exact hS_3_9_2_8) ?_; clear hK10; intro hS_3_10_2_8 hD
     refine wpAnyK_one (i := 11) (fuel := 0) (by kernel_rfl) rfl hD ?_; clear hD; intro K11 hK11
     go_wp2
     refine hK11 _ _ (by exact hS_3_10_2_8) ?_; clear hK11; intro hS_3_11_2_8 hD
     refine wpAnyK_done (by kernel_rfl) ?_ 0
     clear hD
     have HSX := Hq hS_3_11_2_8
     go_wp2
     go_ret2
     exact ⟨rfl, HBd.out.trans (HSX.out.mono HBd.out.size)⟩
 · unfold StepK
   clear hD; intro K8 hK8
   first | (have HPB := Hq (Below.size (Below.refl _ _))) | (have HPB := Hq (Nat.le_refl wd.heap.size))
   go_wp2
   refine hK8 _ _ (by exact (Below.refl _ _).alloc (Nat.le_refl _) _) ?_; clear hK8; intro hS_3_8 hD
   have HP := Hq (bx_of_alloc hS_3_8)
   refine wpAnyK_one (i := 2) (fuel := 8) (by kernel_rfl) rfl hD ?_; clear hD; intro K2 hK2
   go_wp2_with fail
   refine (HFR.out _).mono ?_
   rintro ev w3 ⟨rfl, hb3⟩
   try (have HP := Hq (HP.out.next hb3))
   have HB2 := Hq hb3
   clear hb3
   go_wp2
   refine hK2 _ _ (by exact Below.trans hS_3_8 (Below.mono HB2.out (Below.size hS_3_8))) ?_; clear hK2; intro hS_3_2_8 hD
   refine wpAnyK_one (i := 3) (fuel := 7) (by kernel_rfl) rfl hD ?_; clear hD; intro K3 hK3
   go_wp2_with fail
   refine (HDM.out _).mono ?_
   rintro ev w4 ⟨bq, sq, rfl, hb4⟩
   try (have HP := Hq (HP.out.next hb4))
   have HB3 := Hq hb4
   clear hb4
   go_wp2
   refine hK3 _ _ (by exact Below.trans hS_3_2_8 (Below.mono HB3.out (Below.size hS_3_2_8))) ?_; clear hK3; intro hS_3_3_8 hD
   refine wpAnyK_pure (i := 4) (v := ?v3_4_8b1) (fuel := 6) rfl (by kernel_rfl) (fun _ _ _ h => h) hD hS_3_3_8 (.inl ⟨by kernel_rfl, ?y3_4_8b1⟩) ?n3_4_8b1
   case y3_4_8b1 => intro w' _; go_simp; with_reducible rfl
   clear hD; intro hD
   simp only [Act.put, sqA, sqB, sqC]
   refine wpAnyK_pure (i := 5) (v := ?v3_5_8b1) (fuel := 5) rfl (by kernel_rfl) (fun _ _ _ h => h) hD hS_3_3_8 (.inl ⟨by kernel_rfl, ?y3_5_8b1⟩) ?n3_5_8b1
   case y3_5_8b1 => intro w' _; go_simp; with_reducible rfl
   clear hD; intro hD
   simp only [Act.put, sqA, sqB, sqC]
   refine wpAnyK_pure (i := 6) (v := ?v3_6_8b1) (fuel := 4) rfl (by kernel_rfl) (fun _ _ _ h => h) hD hS_3_3_8 (.inl ⟨by kernel_rfl, ?y3_6_8b1⟩) ?n3_6_8b1
   case y3_6_8b1 => intro w' _; go_simp; with_reducible rfl
   clear hD; intro hD
   simp only [Act.put, sqA, sqB, sqC]
   refine wpAnyK_pure (i := 7) (v := ?v3_7_8b1) (fuel := 3) rfl (by kernel_rfl) (fun _ _ _ h => h) hD hS_3_3_8 (.inl ⟨by kernel_rfl, ?y3_7_8b1⟩) ?n3_7_8b1
   case y3_7_8b1 => intro w' _; go_simp; with_reducible rfl
   clear hD; intro hD
   simp only [Act.put, sqA, sqB, sqC]
   refine wpAnyK_one (i := 9) (fuel := 2) (by kernel_rfl) rfl hD ?_; clear hD; intro K9 hK9
   have hP := HP.out
   have p0 := hP.c0
   have p1 := hP.c1
   have pf0 := hP.f0
   have pf1 := hP.f1
   clear hP
   go_wp2
   refine hK9 _ _ (by first | exact (Below.setCell hS_3_3_8 (p := ⟨_, 0, none⟩) HPB.out _).setCell (p := ⟨_, 1, none⟩) HPB.out _ | exact Below.alloc (HB2.out.trans (HB3.out.mono HB2.out.size)) (Nat.le_trans HB2.out.size HB3.out.size) _) ?_; clear hK9; intro hS_3_9_8 hD
   clear p0 p1 pf0 pf1
   refine wpAnyK_one (i := 10) (fuel := 1) (by kernel_rfl) rfl hD ?_; clear hD; intro K10 hK10
   go_wp2
   refine hK10 _ _ (by exact hS_3_9_8) ?_; clear hK10; intro hS_3_10_8 hD
   refine wpAnyK_one (i := 11) (fuel := 0) (by kernel_rfl) rfl hD ?_; clear hD; intro K11 hK11
   go_wp2
   refine hK11 _ _ (by exact hS_3_10_8) ?_; clear hK11; intro hS_3_11_8 hD
   refine wpAnyK_done (by kernel_rfl) ?_ 0
   clear hD
   have HSX := Hq hS_3_11_8
   go_wp2
   go_ret2
   exact ⟨rfl, HBd.out.trans (HSX.out.mono HBd.out.size)⟩
theorem zv_valid {b : Bool} {s : ByteArray} (h : zvalid b s = true) : nvalid s = true ∧ zV b s = intV (sg b (num s)) := by
 unfold zvalid at h
 rw [Bool.and_eq_true] at h
 refine ⟨h.1, ?_⟩
 have e := nS_num h.1
 rw [← intV_sg]
 rw [← e]
 have h2 := h.2
 cases b
 · rfl
 · cases hs : s.toList.isEmpty
   · rfl
   · rw [hs] at h2; cases h2
end Go.Proofs.YtndmjfkmnjejkaaGreatDoor
namespace Go.Proofs.YtndmjfkmnjejkaaGreatDoor
def invN (x M : Nat) : Nat := ((List.range M).find? (fun y => decide (x * y % M = 1))).getD 0
theorem inv_uniq {x M y z : Nat} (hy : y < M) (hz : z < M) (h1 : x * y % M = 1) (h2 : x * z % M = 1) : y = z := by
 have e1 : x * y * z % M = z := by
  rw [Nat.mul_mod, h1, Nat.one_mul, Nat.mod_mod, Nat.mod_eq_of_lt hz]
 have e2 : x * y * z = x * z * y := by rw [Nat.mul_assoc, Nat.mul_comm y z, ← Nat.mul_assoc]
 rw [e2, Nat.mul_mod, h2, Nat.one_mul, Nat.mod_mod, Nat.mod_eq_of_lt hy] at e1
 exact e1
theorem invN_of {x M y : Nat} (hy : y < M) (h : x * y % M = 1) : invN x M = y := by
 unfold invN
 cases hf : (List.range M).find? (fun y => decide (x * y % M = 1)) with
 | none =>
  rw [List.find?_eq_none] at hf
  have := hf y (List.mem_range.2 hy)
  simp [h] at this
 | some z =>
  have h1 := List.find?_some hf
  have h2 := List.mem_range.1 (List.mem_of_find?_eq_some hf)
  simp only [decide_eq_true_eq] at h1
  exact inv_uniq h2 hy h1 h
def pp : List (Nat × Nat) → Nat → Nat
 | [], _ => 1
 | (b, n) :: l, k => b ^ (n / 2 ^ k) * pp l k
def qq : List (Nat × Nat) → Nat → Nat
 | [], _ => 1
 | (b, n) :: l, k => (if bitB n k then b else 1) * qq l k
theorem bit_div (n k : Nat) : n / 2 ^ k = 2 * (n / 2 ^ (k + 1)) + (if bitB n k then 1 else 0) := by
 unfold bitB
 rw [Nat.pow_succ, ← Nat.div_div_eq_div_mul]
 have := Nat.mod_two_eq_zero_or_one (n / 2 ^ k)
 rcases this with h | h <;> rw [h] <;> simp <;> omega
theorem pp_step (l : List (Nat × Nat)) (k : Nat) : pp l k = pp l (k + 1) * pp l (k + 1) * qq l k := by
 induction l with
 | nil => rfl
 | cons a l ih =>
  obtain ⟨b, n⟩ := a
  have e : b ^ (n / 2 ^ k) = b ^ (n / 2 ^ (k + 1)) * b ^ (n / 2 ^ (k + 1)) * (if bitB n k then b else 1) := by
   conv => lhs; rw [bit_div n k]
   rw [Nat.pow_add, Nat.pow_mul, Nat.pow_two, Nat.mul_pow]
   split <;> simp
  simp only [pp, qq, e, ih]
  simp only [Nat.mul_assoc, Nat.mul_left_comm, Nat.mul_comm]
theorem qq_snoc (l : List (Nat × Nat)) (b n k : Nat) : qq (l ++ [(b, n)]) k = qq l k * (if bitB n k then b else 1) := by
 induction l with
 | nil => simp [qq]
 | cons a l ih => obtain ⟨c, m⟩ := a; simp only [List.cons_append, qq, ih, Nat.mul_assoc]
theorem pp_snoc (l : List (Nat × Nat)) (b n k : Nat) : pp (l ++ [(b, n)]) k = pp l k * b ^ (n / 2 ^ k) := by
 induction l with
 | nil => simp [pp]
 | cons a l ih => obtain ⟨c, m⟩ := a; simp only [List.cons_append, pp, ih, Nat.mul_assoc]
theorem qq_take {l : List (Nat × Nat)} {j b n : Nat} (h : l[j]? = some (b, n)) (k : Nat) : qq (l.take (j + 1)) k = qq (l.take j) k * (if bitB n k then b else 1) := by
 rw [show l.take (j + 1) = l.take j ++ [(b, n)] from by
  obtain ⟨h1, h2⟩ := List.getElem?_eq_some_iff.1 h
  rw [List.take_succ_eq_append_getElem h1, h2], qq_snoc]
theorem pp_take {l : List (Nat × Nat)} {j b n : Nat} (h : l[j]? = some (b, n)) (k : Nat) : pp (l.take (j + 1)) k = pp (l.take j) k * b ^ (n / 2 ^ k) := by
 rw [show l.take (j + 1) = l.take j ++ [(b, n)] from by
  obtain ⟨h1, h2⟩ := List.getElem?_eq_some_iff.1 h
  rw [List.take_succ_eq_append_getElem h1, h2], pp_snoc]
theorem pp_one {l : List (Nat × Nat)} {k : Nat} (h : ∀ x ∈ l, x.2 < 2 ^ k) : pp l k = 1 := by
 induction l with
 | nil => rfl
 | cons a l ih =>
  obtain ⟨b, n⟩ := a
  have := h (b, n) List.mem_cons_self
  rw [pp, ih (fun x hx => h x (List.mem_cons_of_mem _ hx)), Nat.div_eq_of_lt this]; rfl
theorem lt_of_blen {n k : Nat} (h : blen n ≤ k) : n < 2 ^ k := by
 unfold blen at h
 split at h
 · rename_i h0; subst h0; exact Nat.two_pow_pos k
 · rename_i h0
   exact Nat.lt_of_lt_of_le ((Nat.log2_lt h0).1 (Nat.lt_succ_self _)) (Nat.pow_le_pow_right (by omega) h)
def baseN (x : Nat) (neg : Bool) (M : Nat) : Nat := if neg then invN x M else x
def pwN (x : Nat) (neg : Bool) (n M : Nat) : Nat := baseN x neg M ^ n % M
end Go.Proofs.YtndmjfkmnjejkaaGreatDoor
namespace Go.Proofs.YtndmjfkmnjejkaaGreatDoor
def onlyN (K : Act → World → Prop) : Exit → Act → World → Prop
 | .normal, a, w => K a w
 | _, _, _ => False
theorem wp_onlyN {P : Program} {c : Code} {K : Act → World → Prop} {Q : Exit → Act → World → Prop} {a : Act} {w : World} (h : c.wp P (onlyN K) a w) : c.wp P (Exit.then K Q) a w :=
 wp_mono h (fun e a w hh => by
  cases e <;> first | exact hh | exact hh.elim)
theorem name_world {K : Act → World → Prop} {Q : Exit → Act → World → Prop} {a : Act} {w : World} (h : ∀ W, W = w → EndK K Q .normal a W) : EndK K Q .normal a w := h w rfl
section
variable {P : Program} {ops : Array Oper} {Q : Exit → Act → World → Prop} {md : Region.Mode} {S : World → Prop} {k : Nat}
def GhostK (P : Program) (md : Region.Mode) (ops : Array Oper) (Q : Exit → Act → World → Prop) (k : Nat) (S : World → Prop) (i : Nat) (d : Tmp) (fuel : Nat) (listed : Array Bool) (a : Act) (I : Bool → Value → World → Prop) : Prop :=
 (∀ x w, I true x w → wpAnyK P md ops Q k S fuel (listed.setIfInBounds i true) (a.put (some d) x) w) ∧ (∀ w, I false undef w → wpAnyK P md ops Q k S (fuel + 1) listed a w)
theorem ghost_step {i j : Nat} {oi oj : Oper} {d dj : Tmp} {fuel : Nat} {listed : Array Bool} {a : Act} {I : Bool → Value → World → Prop} {β : Type} (val : β → Value) (I' : β → Bool → Value → World → Prop)
 (hr : Region.ready md ops listed = [j, i]) (hr' : Region.ready md ops (listed.setIfInBounds i true) = [j]) (hi : ops[i]? = some oi) (hj : ops[j]? = some oj) (hD : Down md ops listed)
 (ha : a.put (some d) undef = a) (hdd : d ≠ dj) (hS' : ∀ v b x w, I' v b x w → S w) (hS : ∀ b x w, I b x w → S w)
 (halloc : ∀ w, I false undef w → ∀ K : Act → World → Prop, (∀ x w', I true x w' → K (a.put (some d) x) w') → wpList P ops (EndK K Q) [oi] a w)
 (hstep : ∀ b x w, I b x w → ∀ K : Act → World → Prop, (∀ v w', I' v b x w' → K ((a.put (some d) x).put (some dj) (val v)) w') → wpList P ops (EndK K Q) [oj] (a.put (some d) x) w)
 (hnext : ∀ v, Down md ops (listed.setIfInBounds j true) → GhostK P md ops Q k S i d fuel (listed.setIfInBounds j true) (a.put (some dj) (val v)) (I' v)) :
 GhostK P md ops Q k S i d (fuel + 1) listed a I := by
 have hmi : i ∈ Region.ready md ops listed := by rw [hr]; simp
 have hmj : j ∈ Region.ready md ops listed := by rw [hr]; simp
 have hDj := hD.set hmj
 have hji : i ≠ j := fun e => by
  have := (mem_ready.1 (show j ∈ Region.ready md ops (listed.setIfInBounds i true) by rw [hr']; simp)).1
  subst e
  have h2 := (mem_ready.1 hmi).1
  have h3 := getD_set_self h2
  rw [Array.getD_eq_getD_getElem?] at this h3
  cases e : (listed.setIfInBounds i true)[i]? with
  | none => rw [e] at h3; cases h3
  | some b => rw [e] at this h3; cases b <;> cases this <;> cases h3
 have hcomm : ∀ x v, (a.put (some d) x).put (some dj) v = (a.put (some dj) v).put (some d) x := fun x v => Act.put_comm a x v (fun d' h h' => by cases h; cases h'; exact hdd rfl)
 have htrue : ∀ x w, I true x w → wpAnyK P md ops Q k S (fuel + 1) (listed.setIfInBounds i true) (a.put (some d) x) w := fun x w h => by
  refine wpAnyK_one hr' hj (hD.set hmi) (fun K hK => hstep true x w h K fun v w' h' => hK _ w' (hS' _ _ _ _ h') fun _ _ => ?_)
  rw [hcomm, Array.setIfInBounds_comm _ _ hji]
  exact (hnext v hDj).1 x w' h'
 refine ⟨htrue, fun w h => ?_⟩
 refine wpAnyK_two hr hj hi hD (fun K hK => ?_) (fun K hK => ?_)
 · have h1 := hstep false undef w h K fun v w' h' => by
    rw [hcomm]
    have e : (a.put (some dj) (val v)).put (some d) undef = a.put (some dj) (val v) := by rw [← hcomm, ha]
    rw [e]
    exact hK _ w' (hS' _ _ _ _ h') fun _ _ => (hnext v hDj).2 w' h'
   rw [ha] at h1
   exact h1
 · exact halloc w h K fun x w' h' => hK _ w' (hS _ _ _ h') fun _ _ => htrue x w' h'
theorem ghost_end {i : Nat} {oi : Oper} {d : Tmp} {fuel : Nat} {listed : Array Bool} {a : Act} {I : Bool → Value → World → Prop}
 (hr : Region.ready md ops listed = [i]) (hi : ops[i]? = some oi) (hD : Down md ops listed) (hS : ∀ b x w, I b x w → S w)
 (halloc : ∀ w, I false undef w → ∀ K : Act → World → Prop, (∀ x w', I true x w' → K (a.put (some d) x) w') → wpList P ops (EndK K Q) [oi] a w)
 (hnext : ∀ x w, I true x w → Down md ops (listed.setIfInBounds i true) → wpAnyK P md ops Q k S fuel (listed.setIfInBounds i true) (a.put (some d) x) w) :
 GhostK P md ops Q k S i d fuel listed a I := by
 have hmi : i ∈ Region.ready md ops listed := by rw [hr]; simp
 refine ⟨fun x w h => hnext x w h (hD.set hmi), fun w h => ?_⟩
 exact wpAnyK_one hr hi hD fun K hK => halloc w h K fun x w' h' => hK _ w' (hS _ _ _ h') fun _ _ => hnext x w' h' (hD.set hmi)
theorem wpAnyK_takeD {i : Nat} {oi : Oper} {d : Option Tmp} {v : Value} {fuel : Nat} {listed : Array Bool} {a : Act} {w : World} (hi : ops[i]? = some oi) (hd : oi.dst = d) (hst : stepB md ops listed k i = true) (hre : reachB md ops ops.size k i = true)
 (hQ : ∀ c a w, Q (.panic c) (a.put d v) w → Q (.panic c) a w) (hD : Down md ops listed) (hS : S w) (hy : YieldsIf P ops S oi v a)
 (h : Down md ops (listed.setIfInBounds i true) → wpAnyK P md ops Q k S fuel (listed.setIfInBounds i true) (a.put d v) w) : wpAnyK P md ops Q k S (fuel + 1) listed a w := by
 subst hd
 exact wpAnyK_take hi hst hre hQ hD hS hy h
theorem wpAnyK_takeSD {i : Nat} {oi : Oper} {d : Option Tmp} {v : Value} {fuel : Nat} {listed : Array Bool} {a : Act} {w : World} (hi : ops[i]? = some oi) (hd : oi.dst = d) (hst : stepB md ops listed k i = true) (hre : decide (ops.size ≤ k) = true)
 (hQ : ∀ c a w, Q (.panic c) (a.put d v) w → Q (.panic c) a w) (hD : Down md ops listed) (hS : S w) (hy : YieldsIf P ops S oi v a)
 (h : Down md ops (listed.setIfInBounds i true) → wpAnyK P md ops Q k S fuel (listed.setIfInBounds i true) (a.put d v) w) : wpAnyK P md ops Q k S (fuel + 1) listed a w := by
 subst hd
 exact wpAnyK_takeS hi hst hre hQ hD hS hy h
theorem wpAnyK_pureD {i : Nat} {oi : Oper} {d : Option Tmp} {v : Value} {fuel : Nat} {listed : Array Bool} {a : Act} {w : World} (hi : ops[i]? = some oi) (hd : oi.dst = d) (hst : stepB md ops listed k i = true)
 (hQ : ∀ c a w, Q (.panic c) (a.put d v) w → Q (.panic c) a w) (hD : Down md ops listed) (hS : S w) (hy : YieldsIf P ops (fun _ => True) oi v a)
 (h : Down md ops (listed.setIfInBounds i true) → wpAnyK P md ops Q k S fuel (listed.setIfInBounds i true) (a.put d v) w) : wpAnyK P md ops Q k S (fuel + 1) listed a w := by
 subst hd
 exact wpAnyK_pure hi hst hQ hD hS hy h
theorem ghost_pure {i j : Nat} {oj : Oper} {d dj : Tmp} {v : Value} {fuel : Nat} {listed : Array Bool} {a : Act} {I : Bool → Value → World → Prop} (hj : ops[j]? = some oj) (hdj : oj.dst = some dj) (hmi : (Region.ready md ops listed).contains i = true) (hst : stepB md ops listed k j = true) (hst' : stepB md ops (listed.setIfInBounds i true) k j = true)
 (hQ : ∀ c a w, Q (.panic c) (a.put (some dj) v) w → Q (.panic c) a w) (hD : Down md ops listed) (ha : a.put (some d) undef = a) (hdd : d ≠ dj) (hij : i ≠ j) (hS : ∀ b x w, I b x w → S w) (hy : ∀ x, YieldsIf P ops (fun _ => True) oj v (a.put (some d) x))
 (h : Down md ops (listed.setIfInBounds j true) → GhostK P md ops Q k S i d fuel (listed.setIfInBounds j true) (a.put (some dj) v) I) : GhostK P md ops Q k S i d (fuel + 1) listed a I := by
 have hmi' : i ∈ Region.ready md ops listed := by rwa [List.contains_iff_mem] at hmi
 have hD' := hD.set hmi'
 have hDj := hD.set (stepB_spec hst).2.2.1
 subst_vars
 refine ⟨fun x w hI => ?_, fun w hI => ?_⟩
 · refine wpAnyK_pureD hj hdj hst' hQ hD' (hS _ _ _ hI) (hy x) fun _ => ?_
   rw [Act.put_comm a x v (fun d' h h' => by cases h; cases h'; exact hdd rfl), Array.setIfInBounds_comm _ _ hij]
   exact (h hDj).1 x w hI
 · exact wpAnyK_pureD hj hdj hst hQ hD (hS _ _ _ hI) (by have := hy undef; rwa [ha] at this) fun _ => (h hDj).2 w hI
end
end Go.Proofs.YtndmjfkmnjejkaaGreatDoor

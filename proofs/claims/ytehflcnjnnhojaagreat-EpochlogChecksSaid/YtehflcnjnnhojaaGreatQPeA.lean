import Derived.Test.YtehflcnjnnhojaaGreatQExp
import Derived.Test.YtehflcnjnnhojaaGreatQPwI
import Derived.Test.YtehflcnjnnhojaaGreatQBit
import Derived.Test.YtehflcnjnnhojaaGreatQNatB
set_option linter.unusedVariables false
set_option linter.unusedSimpArgs false
namespace Go.Proofs.YtehflcnjnnhojaaGreat
set_option maxRecDepth 100000
set_option maxHeartbeats 2000000
open Go.RowKit
theorem nS_beq (a b : Nat) : ((nS a).toList == (nS b).toList) = decide (a = b) := by
 rw [ByteArray.toList_eq, ByteArray.toList_eq, nS_data, nS_data, Bool.eq_iff_iff, beq_iff_eq, decide_eq_true_eq]
 exact ⟨fun h => by rw [← bnat_encN a, h, bnat_encN], fun h => by rw [h]⟩
theorem nS_is1 (a : Nat) : ((nS a).toList == [1]) = decide (a = 1) := by
 rw [← nS_beq a 1, show (nS 1).toList = [1] from by rw [ByteArray.toList_eq, nS_data]; rfl]
def gV (M O : ByteArray) : Value := .agg #[.string M, .string O]
theorem pg_formed (M O : ByteArray) (hM : M.size ≤ 9223372036854775807) (hO : O.size ≤ 9223372036854775807) (w : World) : Calls Tryz.prog 194 #[gV M O] w (Ret (.bool (nvalid M && nvalid O)) w) := by
 have HV1 := Hq (nat_Valid M hM)
 have HV2 := Hq (nat_Valid O hO)
 unfold gV
 go_enter Tryz.func194, Tryz.ntmps194
 go_wp2_with fail
 refine (HV1.out _).mono ?_
 rintro e w1 ⟨rfl, rfl⟩
 cases hv : nvalid M with
 | false =>
  have HVE := Hq hv
  clear hv
  go_wp2
  go_ret
  exact ⟨by rw [HVE.out]; rfl, (Below.refl _ _).alloc (Nat.le_refl _) _⟩
 | true =>
  have HVE := Hq hv
  clear hv
  go_wp2_with fail
  refine (HV2.out _).mono ?_
  rintro e w1 ⟨rfl, rfl⟩
  go_wp2
  go_ret
  exact ⟨by rw [HVE.out, Bool.true_and]; rfl, (Below.refl _ _).alloc (Nat.le_refl _) _⟩
theorem r09_form (M O : ByteArray) (hM : M.size ≤ 9223372036854775807) (hO : O.size ≤ 9223372036854775807) (w : World) : Calls Tryz.prog 211 #[gV M O] w (Ret (.bool (nvalid M && nvalid O)) w) := by
 have HV1 := Hq (r01_Valid M hM)
 have HV2 := Hq (r01_Valid O hO)
 unfold gV
 go_enter Tryz.func211, Tryz.ntmps211
 go_wp2_with fail
 refine (HV1.out _).mono ?_
 rintro e w1 ⟨rfl, rfl⟩
 cases hv : nvalid M with
 | false =>
  have HVE := Hq hv
  clear hv
  go_wp2
  go_ret
  exact ⟨by rw [HVE.out]; rfl, (Below.refl _ _).alloc (Nat.le_refl _) _⟩
 | true =>
  have HVE := Hq hv
  clear hv
  go_wp2_with fail
  refine (HV2.out _).mono ?_
  rintro e w1 ⟨rfl, rfl⟩
  go_wp2
  go_ret
  exact ⟨by rw [HVE.out, Bool.true_and]; rfl, (Below.refl _ _).alloc (Nat.le_refl _) _⟩
def hasP (M O e : ByteArray) : Prop := nvalid M = true ∧ nvalid O = true ∧ nvalid e = true ∧ 0 < num O ∧ 0 < num e ∧ num e < num M ∧ num e ^ num O % num M = 1
instance (M O e : ByteArray) : Decidable (hasP M O e) := by unfold hasP; exact inferInstance
def hasG (M O e : ByteArray) : Bool := decide (hasP M O e)
theorem pg_Has (M O e : ByteArray) (hM : M.size ≤ 8) (hO : O.size ≤ 1000) (he : e.size ≤ 1000) (w : World) : Calls Tryz.prog 167 #[gV M O, .string e] w (Ret (.bool (hasG M O e)) w) := by
 have HF := Hq (pg_formed M O (by omega) (by omega))
 have HV := Hq (nat_Valid e (by omega))
 have HB0 : Below w.heap.size w (w.alloc (.cells #[.string M, .string O] 24)) := (Below.refl _ _).alloc (Nat.le_refl _) _
 cases hf : (nvalid M && nvalid O) with
 | false =>
  have HR := Hq (show hasG M O e = false from decide_eq_false (fun h => by rw [h.1, h.2.1] at hf; cases hf))
  rw [hf] at HF
  clear hf
  rw [HR.out]
  unfold gV at *
  go_enter Tryz.func167, Tryz.ntmps167
  go_wp2_with fail
  refine (HF.out _).mono ?_
  rintro ev w1 ⟨rfl, hb1⟩
  have HB1 := Hq (HB0.trans (hb1.mono HB0.size))
  have hbx : (w1.heap[w.heap.size]?) = some (.cells #[.string M, .string O] 24) := (hb1.block _ (by simp)).trans (heap_alloc_new _ _)
  have c0 : w1.cell? ⟨w.heap.size, 0, none⟩ = some (.string M) := by rw [Lib.cell_of_heap hbx]; rfl
  have c1 : w1.cell? ⟨w.heap.size, 1, none⟩ = some (.string O) := by rw [Lib.cell_of_heap hbx]; rfl
  have HBX := Hq hbx
  clear hb1 hbx
  go_wp2
  go_ret
  exact ⟨rfl, HB1.out⟩
 | true =>
  rw [hf] at HF
  rw [Bool.and_eq_true] at hf
  cases hv : nvalid e with
  | false =>
   have HR := Hq (show hasG M O e = false from decide_eq_false (fun h => by rw [h.2.2.1] at hv; cases hv))
   rw [hv] at HV
   clear hv hf
   rw [HR.out]
   unfold gV at *
   go_enter Tryz.func167, Tryz.ntmps167
   go_wp2_with fail
   refine (HF.out _).mono ?_
   rintro ev w1 ⟨rfl, hb1⟩
   have HB1 := Hq (HB0.trans (hb1.mono HB0.size))
   have hbx : (w1.heap[w.heap.size]?) = some (.cells #[.string M, .string O] 24) := (hb1.block _ (by simp)).trans (heap_alloc_new _ _)
   have c0 : w1.cell? ⟨w.heap.size, 0, none⟩ = some (.string M) := by rw [Lib.cell_of_heap hbx]; rfl
   have c1 : w1.cell? ⟨w.heap.size, 1, none⟩ = some (.string O) := by rw [Lib.cell_of_heap hbx]; rfl
   have HBX := Hq hbx
   clear hb1 hbx
   go_wp2_with fail
   refine (HV.out _).mono ?_
   rintro ev w2 ⟨rfl, rfl⟩
   go_wp2
   go_ret
   exact ⟨rfl, HB1.out⟩
  | true =>
   have hm8 := num_small hM
   have hMe := nS_num hf.1
   have hOe := nS_num hf.2
   have hee := nS_num hv
   have ho8 : num O < 256 ^ 128 := by
    have := hf.2
    rw [hOe] at this
    exact nvalid_nS.1 this
   have hx8 : num e < 256 ^ 128 := by
    have := hv
    rw [hee] at this
    exact nvalid_nS.1 this
   rw [hv] at HV
   have HCM := Hq (show ncmp e M = cmpI (num e) (num M) from by
    unfold ncmp
    rw [hv, hf.1, Bool.and_true, if_pos rfl, ← ordB_nS, ← hee, ← hMe])
   have HCC := Hq (nat_Cmp e M (by omega) (by omega))
   rw [HCM.out] at HCC
   by_cases ho0 : num O = 0
   · have HR := Hq (show hasG M O e = false from decide_eq_false (fun h => by have := h.2.2.2.1; omega))
     have hOz : O = ⟨#[]⟩ := by rw [hOe, ho0]; rfl
     clear hv hf hMe hOe hee ho8 hx8 hm8 ho0
     subst hOz
     rw [HR.out]
     unfold gV at *
     go_enter Tryz.func167, Tryz.ntmps167
     go_wp2_with fail
     refine (HF.out _).mono ?_
     rintro ev w1 ⟨rfl, hb1⟩
     have HB1 := Hq (HB0.trans (hb1.mono HB0.size))
     have hbx : (w1.heap[w.heap.size]?) = some (.cells #[.string M, .string (⟨#[]⟩ : ByteArray)] 24) := (hb1.block _ (by simp)).trans (heap_alloc_new _ _)
     have c0 : w1.cell? ⟨w.heap.size, 0, none⟩ = some (.string M) := by rw [Lib.cell_of_heap hbx]; rfl
     have c1 : w1.cell? ⟨w.heap.size, 1, none⟩ = some (.string (⟨#[]⟩ : ByteArray)) := by rw [Lib.cell_of_heap hbx]; rfl
     have HBX := Hq hbx
     clear hb1 hbx
     go_wp2_with fail
     refine (HV.out _).mono ?_
     rintro ev w2 ⟨rfl, rfl⟩
     go_wp2
     go_ret
     exact ⟨rfl, HB1.out⟩
   · by_cases hx0 : num e = 0
     · have HR := Hq (show hasG M O e = false from decide_eq_false (fun h => by have := h.2.2.2.2.1; omega))
       have hez : e = ⟨#[]⟩ := by rw [hee, hx0]; rfl
       have hOn : O.toList.isEmpty = false := by rw [hOe]; exact empty_nS (by omega)
       clear hv hf hMe hOe hee ho8 hx8 hm8 ho0
       subst hez
       rw [HR.out]
       unfold gV at *
       go_enter Tryz.func167, Tryz.ntmps167
       go_wp2_with fail
       refine (HF.out _).mono ?_
       rintro ev w1 ⟨rfl, hb1⟩
       have HB1 := Hq (HB0.trans (hb1.mono HB0.size))
       have hbx : (w1.heap[w.heap.size]?) = some (.cells #[.string M, .string O] 24) := (hb1.block _ (by simp)).trans (heap_alloc_new _ _)
       have c0 : w1.cell? ⟨w.heap.size, 0, none⟩ = some (.string M) := by rw [Lib.cell_of_heap hbx]; rfl
       have c1 : w1.cell? ⟨w.heap.size, 1, none⟩ = some (.string O) := by rw [Lib.cell_of_heap hbx]; rfl
       have HBX := Hq hbx
       clear hb1 hbx
       go_wp2_with fail
       refine (HV.out _).mono ?_
       rintro ev w2 ⟨rfl, rfl⟩
       go_wp2
       go_ret
       exact ⟨rfl, HB1.out⟩
     · have hOn : O.toList.isEmpty = false := by rw [hOe]; exact empty_nS (by omega)
       have hen : e.toList.isEmpty = false := by rw [hee]; exact empty_nS (by omega)
       by_cases hxm : num M ≤ num e
       · have HR := Hq (show hasG M O e = false from decide_eq_false (fun h => by have := h.2.2.2.2.2.1; omega))
         have hg := cmpI_nonneg hxm
         obtain ⟨c, hc⟩ : ∃ c, cmpI (num e) (num M) = c := ⟨_, rfl⟩
         rw [hc] at hg HCC
         clear hv hf hMe hOe hee ho8 hx8 hm8 ho0 hx0 hxm hc
         rw [HR.out]
         unfold gV at *
         go_enter Tryz.func167, Tryz.ntmps167
         go_wp2_with fail
         refine (HF.out _).mono ?_
         rintro ev w1 ⟨rfl, hb1⟩
         have HB1 := Hq (HB0.trans (hb1.mono HB0.size))
         have hbx : (w1.heap[w.heap.size]?) = some (.cells #[.string M, .string O] 24) := (hb1.block _ (by simp)).trans (heap_alloc_new _ _)
         have c0 : w1.cell? ⟨w.heap.size, 0, none⟩ = some (.string M) := by rw [Lib.cell_of_heap hbx]; rfl
         have c1 : w1.cell? ⟨w.heap.size, 1, none⟩ = some (.string O) := by rw [Lib.cell_of_heap hbx]; rfl
         have HBX := Hq hbx
         clear hb1 hbx
         go_wp2_with fail
         refine (HV.out _).mono ?_
         rintro ev w2 ⟨rfl, rfl⟩
         go_wp2_with fail
         refine (HCC.out _).mono ?_
         rintro ev w2 ⟨rfl, rfl⟩
         go_wp2
         go_ret
         exact ⟨rfl, HB1.out⟩
       · rw [cmpI_lt (by omega)] at HCC
         have HE1 := Hq (mod_Exp (num e) (num O) (num M) (by omega) ho8 hm8 (by omega))
         have HE2 := Hq (mod_Exp (num e) 0 (num M) (by omega) (by decide) hm8 (by omega))
         rw [← hee, ← hOe, ← hMe] at HE1
         rw [← hee, ← hMe, nS_zero, Nat.pow_zero, Nat.mod_eq_of_lt (by omega)] at HE2
         obtain ⟨A, hA⟩ : ∃ A, num e ^ num O % num M = A := ⟨_, rfl⟩
         rw [hA] at HE1
         have HR := Hq (show hasG M O e = decide (A = 1) from decide_eq_decide.2 ⟨fun h => by rw [← hA]; exact h.2.2.2.2.2.2, fun h => ⟨hf.1, hf.2, hv, by omega, by omega, by omega, by rw [hA]; exact h⟩⟩)
         clear hv hf hMe hOe hee ho8 hx8 hm8 ho0 hx0 hxm hA
         rw [HR.out]
         unfold gV at *
         go_enter Tryz.func167, Tryz.ntmps167
         go_wp2_with fail
         refine (HF.out _).mono ?_
         rintro ev w1 ⟨rfl, hb1⟩
         have HB1 := Hq (HB0.trans (hb1.mono HB0.size))
         have hbx : (w1.heap[w.heap.size]?) = some (.cells #[.string M, .string O] 24) := (hb1.block _ (by simp)).trans (heap_alloc_new _ _)
         have c0 : w1.cell? ⟨w.heap.size, 0, none⟩ = some (.string M) := by rw [Lib.cell_of_heap hbx]; rfl
         have c1 : w1.cell? ⟨w.heap.size, 1, none⟩ = some (.string O) := by rw [Lib.cell_of_heap hbx]; rfl
         have HBX := Hq hbx
         clear hb1 hbx
         go_wp2_with fail
         refine (HV.out _).mono ?_
         rintro ev w2 ⟨rfl, rfl⟩
         go_wp2_with fail
         refine (HCC.out _).mono ?_
         rintro ev w2 ⟨rfl, rfl⟩
         go_wp2_with fail
         refine (HE1.out _).mono ?_
         rintro ev w3 ⟨rfl, hb3⟩
         have hbx3 := (hb3.block _ (block_lt HBX.out)).trans HBX.out
         have HB3 := Hq (HB1.out.trans (hb3.mono HB1.out.size))
         clear hb3 c0 c1
         have c0 : w3.cell? ⟨w.heap.size, 0, none⟩ = some (.string M) := by rw [Lib.cell_of_heap hbx3]; rfl
         clear hbx3
         go_wp2_with fail
         refine (HE2.out _).mono ?_
         rintro ev w4 ⟨rfl, hb4⟩
         have HB4 := Hq (HB3.out.trans (hb4.mono HB3.out.size))
         clear hb4
         go_wp2
         go_ret
         exact ⟨by rw [← nS_beq]; rfl, HB4.out⟩
theorem r09_Has (M O e : ByteArray) (hM : M.size ≤ 8) (hO : O.size ≤ 1000) (he : e.size ≤ 1000) (w : World) : Calls Tryz.prog 184 #[gV M O, .string e] w (Ret (.bool (hasG M O e)) w) := by
 have HF := Hq (r09_form M O (by omega) (by omega))
 have HV := Hq (r01_Valid e (by omega))
 have HB0 : Below w.heap.size w (w.alloc (.cells #[.string M, .string O] 24)) := (Below.refl _ _).alloc (Nat.le_refl _) _
 cases hf : (nvalid M && nvalid O) with
 | false =>
  have HR := Hq (show hasG M O e = false from decide_eq_false (fun h => by rw [h.1, h.2.1] at hf; cases hf))
  rw [hf] at HF
  clear hf
  rw [HR.out]
  unfold gV at *
  go_enter Tryz.func184, Tryz.ntmps184
  go_wp2_with fail
  refine (HF.out _).mono ?_
  rintro ev w1 ⟨rfl, hb1⟩
  have HB1 := Hq (HB0.trans (hb1.mono HB0.size))
  have hbx : (w1.heap[w.heap.size]?) = some (.cells #[.string M, .string O] 24) := (hb1.block _ (by simp)).trans (heap_alloc_new _ _)
  have c0 : w1.cell? ⟨w.heap.size, 0, none⟩ = some (.string M) := by rw [Lib.cell_of_heap hbx]; rfl
  have c1 : w1.cell? ⟨w.heap.size, 1, none⟩ = some (.string O) := by rw [Lib.cell_of_heap hbx]; rfl
  have HBX := Hq hbx
  clear hb1 hbx
  go_wp2
  go_ret
  exact ⟨rfl, HB1.out⟩
 | true =>
  rw [hf] at HF
  rw [Bool.and_eq_true] at hf
  cases hv : nvalid e with
  | false =>
   have HR := Hq (show hasG M O e = false from decide_eq_false (fun h => by rw [h.2.2.1] at hv; cases hv))
   rw [hv] at HV
   clear hv hf
   rw [HR.out]
   unfold gV at *
   go_enter Tryz.func184, Tryz.ntmps184
   go_wp2_with fail
   refine (HF.out _).mono ?_
   rintro ev w1 ⟨rfl, hb1⟩
   have HB1 := Hq (HB0.trans (hb1.mono HB0.size))
   have hbx : (w1.heap[w.heap.size]?) = some (.cells #[.string M, .string O] 24) := (hb1.block _ (by simp)).trans (heap_alloc_new _ _)
   have c0 : w1.cell? ⟨w.heap.size, 0, none⟩ = some (.string M) := by rw [Lib.cell_of_heap hbx]; rfl
   have c1 : w1.cell? ⟨w.heap.size, 1, none⟩ = some (.string O) := by rw [Lib.cell_of_heap hbx]; rfl
   have HBX := Hq hbx
   clear hb1 hbx
   go_wp2_with fail
   refine (HV.out _).mono ?_
   rintro ev w2 ⟨rfl, rfl⟩
   go_wp2
   go_ret
   exact ⟨rfl, HB1.out⟩
  | true =>
   have hm8 := num_small hM
   have hMe := nS_num hf.1
   have hOe := nS_num hf.2
   have hee := nS_num hv
   have ho8 : num O < 256 ^ 128 := by
    have := hf.2
    rw [hOe] at this
    exact nvalid_nS.1 this
   have hx8 : num e < 256 ^ 128 := by
    have := hv
    rw [hee] at this
    exact nvalid_nS.1 this
   rw [hv] at HV
   have HCM := Hq (show ordB e M = cmpI (num e) (num M) from by rw [← ordB_nS, ← hee, ← hMe])
   have HCC := Hq (r01_Order e M (by omega) (by omega))
   rw [HCM.out] at HCC
   by_cases ho0 : num O = 0
   · have HR := Hq (show hasG M O e = false from decide_eq_false (fun h => by have := h.2.2.2.1; omega))
     have hOz : O = ⟨#[]⟩ := by rw [hOe, ho0]; rfl
     clear hv hf hMe hOe hee ho8 hx8 hm8 ho0
     subst hOz
     rw [HR.out]
     unfold gV at *
     go_enter Tryz.func184, Tryz.ntmps184
     go_wp2_with fail
     refine (HF.out _).mono ?_
     rintro ev w1 ⟨rfl, hb1⟩
     have HB1 := Hq (HB0.trans (hb1.mono HB0.size))
     have hbx : (w1.heap[w.heap.size]?) = some (.cells #[.string M, .string (⟨#[]⟩ : ByteArray)] 24) := (hb1.block _ (by simp)).trans (heap_alloc_new _ _)
     have c0 : w1.cell? ⟨w.heap.size, 0, none⟩ = some (.string M) := by rw [Lib.cell_of_heap hbx]; rfl
     have c1 : w1.cell? ⟨w.heap.size, 1, none⟩ = some (.string (⟨#[]⟩ : ByteArray)) := by rw [Lib.cell_of_heap hbx]; rfl
     have HBX := Hq hbx
     clear hb1 hbx
     go_wp2_with fail
     refine (HV.out _).mono ?_
     rintro ev w2 ⟨rfl, rfl⟩
     go_wp2
     go_ret
     exact ⟨rfl, HB1.out⟩
   · by_cases hx0 : num e = 0
     · have HR := Hq (show hasG M O e = false from decide_eq_false (fun h => by have := h.2.2.2.2.1; omega))
       have hez : e = ⟨#[]⟩ := by rw [hee, hx0]; rfl
       have hOn : O.toList.isEmpty = false := by rw [hOe]; exact empty_nS (by omega)
       clear hv hf hMe hOe hee ho8 hx8 hm8 ho0
       subst hez
       rw [HR.out]
       unfold gV at *
       go_enter Tryz.func184, Tryz.ntmps184
       go_wp2_with fail
       refine (HF.out _).mono ?_
       rintro ev w1 ⟨rfl, hb1⟩
       have HB1 := Hq (HB0.trans (hb1.mono HB0.size))
       have hbx : (w1.heap[w.heap.size]?) = some (.cells #[.string M, .string O] 24) := (hb1.block _ (by simp)).trans (heap_alloc_new _ _)
       have c0 : w1.cell? ⟨w.heap.size, 0, none⟩ = some (.string M) := by rw [Lib.cell_of_heap hbx]; rfl
       have c1 : w1.cell? ⟨w.heap.size, 1, none⟩ = some (.string O) := by rw [Lib.cell_of_heap hbx]; rfl
       have HBX := Hq hbx
       clear hb1 hbx
       go_wp2_with fail
       refine (HV.out _).mono ?_
       rintro ev w2 ⟨rfl, rfl⟩
       go_wp2
       go_ret
       exact ⟨rfl, HB1.out⟩
     · have hOn : O.toList.isEmpty = false := by rw [hOe]; exact empty_nS (by omega)
       have hen : e.toList.isEmpty = false := by rw [hee]; exact empty_nS (by omega)
       by_cases hxm : num M ≤ num e
       · have HR := Hq (show hasG M O e = false from decide_eq_false (fun h => by have := h.2.2.2.2.2.1; omega))
         have hg := cmpI_nonneg hxm
         obtain ⟨c, hc⟩ : ∃ c, cmpI (num e) (num M) = c := ⟨_, rfl⟩
         rw [hc] at hg HCC
         clear hv hf hMe hOe hee ho8 hx8 hm8 ho0 hx0 hxm hc
         rw [HR.out]
         unfold gV at *
         go_enter Tryz.func184, Tryz.ntmps184
         go_wp2_with fail
         refine (HF.out _).mono ?_
         rintro ev w1 ⟨rfl, hb1⟩
         have HB1 := Hq (HB0.trans (hb1.mono HB0.size))
         have hbx : (w1.heap[w.heap.size]?) = some (.cells #[.string M, .string O] 24) := (hb1.block _ (by simp)).trans (heap_alloc_new _ _)
         have c0 : w1.cell? ⟨w.heap.size, 0, none⟩ = some (.string M) := by rw [Lib.cell_of_heap hbx]; rfl
         have c1 : w1.cell? ⟨w.heap.size, 1, none⟩ = some (.string O) := by rw [Lib.cell_of_heap hbx]; rfl
         have HBX := Hq hbx
         clear hb1 hbx
         go_wp2_with fail
         refine (HV.out _).mono ?_
         rintro ev w2 ⟨rfl, rfl⟩
         go_wp2_with fail
         refine (HCC.out _).mono ?_
         rintro ev w2 ⟨rfl, hb2⟩
         have HB2 := Hq (HB1.out.trans (hb2.mono HB1.out.size))
         clear hb2
         go_wp2
         go_ret
         exact ⟨rfl, HB2.out⟩
       · rw [cmpI_lt (by omega)] at HCC
         have HE1 := Hq (r03_Exp (num e) (num O) (num M) hx8 ho8 hm8 (by omega))
         rw [← hee, ← hOe, ← hMe] at HE1
         obtain ⟨A, hA⟩ : ∃ A, num e ^ num O % num M = A := ⟨_, rfl⟩
         rw [hA] at HE1
         have HR := Hq (show hasG M O e = decide (A = 1) from decide_eq_decide.2 ⟨fun h => by rw [← hA]; exact h.2.2.2.2.2.2, fun h => ⟨hf.1, hf.2, hv, by omega, by omega, by omega, by rw [hA]; exact h⟩⟩)
         clear hv hf hMe hOe hee ho8 hx8 hm8 ho0 hx0 hxm hA
         rw [HR.out]
         unfold gV at *
         go_enter Tryz.func184, Tryz.ntmps184
         go_wp2_with fail
         refine (HF.out _).mono ?_
         rintro ev w1 ⟨rfl, hb1⟩
         have HB1 := Hq (HB0.trans (hb1.mono HB0.size))
         have hbx : (w1.heap[w.heap.size]?) = some (.cells #[.string M, .string O] 24) := (hb1.block _ (by simp)).trans (heap_alloc_new _ _)
         have c0 : w1.cell? ⟨w.heap.size, 0, none⟩ = some (.string M) := by rw [Lib.cell_of_heap hbx]; rfl
         have c1 : w1.cell? ⟨w.heap.size, 1, none⟩ = some (.string O) := by rw [Lib.cell_of_heap hbx]; rfl
         have HBX := Hq hbx
         clear hb1 hbx
         go_wp2_with fail
         refine (HV.out _).mono ?_
         rintro ev w2 ⟨rfl, rfl⟩
         go_wp2_with fail
         refine (HCC.out _).mono ?_
         rintro ev w2 ⟨rfl, hb2⟩
         have hbx2 := (hb2.block _ (block_lt HBX.out)).trans HBX.out
         have HB2 := Hq (HB1.out.trans (hb2.mono HB1.out.size))
         clear hb2 c0 c1
         have c0 : w2.cell? ⟨w.heap.size, 0, none⟩ = some (.string M) := by rw [Lib.cell_of_heap hbx2]; rfl
         have c1 : w2.cell? ⟨w.heap.size, 1, none⟩ = some (.string O) := by rw [Lib.cell_of_heap hbx2]; rfl
         clear hbx2
         go_wp2_with fail
         refine (HE1.out _).mono ?_
         rintro ev w3 ⟨rfl, hb3⟩
         have HB3 := Hq (HB2.out.trans (hb3.mono HB2.out.size))
         clear hb3
         go_wp2
         go_ret
         exact ⟨by rw [← nS_is1]; rfl, HB3.out⟩
end Go.Proofs.YtehflcnjnnhojaaGreat
namespace Go.Proofs.YtehflcnjnnhojaaGreat
def invN (x M : Nat) : Nat := ((List.range M).find? (fun y => decide (x * y % M = 1))).getD 0
theorem inv_uniq {x M y z : Nat} (hy : y < M) (hz : z < M) (h1 : x * y % M = 1) (h2 : x * z % M = 1) : y = z := by
 have e1 : x * y * z % M = z := by
  rw [Nat.mul_mod, h1, Nat.one_mul, Nat.mod_mod, Nat.mod_eq_of_lt hz]
 have e2 : x * y * z = x * z * y := by rw [Nat.mul_assoc, Nat.mul_comm y z, ← Nat.mul_assoc]
 rw [e2, Nat.mul_mod, h2, Nat.one_mul, Nat.mod_mod, Nat.mod_eq_of_lt hy] at e1
 exact e1
theorem invN_of {x M y : Nat} (hy : y < M) (h : x * y % M = 1) : invN x M = y := by
 unfold invN
 cases hf : (List.range M).find? (fun y => decide (x * y % M = 1)) with
 | none =>
  rw [List.find?_eq_none] at hf
  have := hf y (List.mem_range.2 hy)
  simp [h] at this
 | some z =>
  have h1 := List.find?_some hf
  have h2 := List.mem_range.1 (List.mem_of_find?_eq_some hf)
  simp only [decide_eq_true_eq] at h1
  exact inv_uniq h2 hy h1 h
def pp : List (Nat × Nat) → Nat → Nat
 | [], _ => 1
 | (b, n) :: l, k => b ^ (n / 2 ^ k) * pp l k
def qq : List (Nat × Nat) → Nat → Nat
 | [], _ => 1
 | (b, n) :: l, k => (if bitB n k then b else 1) * qq l k
theorem bit_div (n k : Nat) : n / 2 ^ k = 2 * (n / 2 ^ (k + 1)) + (if bitB n k then 1 else 0) := by
 unfold bitB
 rw [Nat.pow_succ, ← Nat.div_div_eq_div_mul]
 have := Nat.mod_two_eq_zero_or_one (n / 2 ^ k)
 rcases this with h | h <;> rw [h] <;> simp <;> omega
theorem pp_step (l : List (Nat × Nat)) (k : Nat) : pp l k = pp l (k + 1) * pp l (k + 1) * qq l k := by
 induction l with
 | nil => rfl
 | cons a l ih =>
  obtain ⟨b, n⟩ := a
  have e : b ^ (n / 2 ^ k) = b ^ (n / 2 ^ (k + 1)) * b ^ (n / 2 ^ (k + 1)) * (if bitB n k then b else 1) := by
   conv => lhs; rw [bit_div n k]
   rw [Nat.pow_add, Nat.pow_mul, Nat.pow_two, Nat.mul_pow]
   split <;> simp
  simp only [pp, qq, e, ih]
  simp only [Nat.mul_assoc, Nat.mul_left_comm, Nat.mul_comm]
theorem qq_snoc (l : List (Nat × Nat)) (b n k : Nat) : qq (l ++ [(b, n)]) k = qq l k * (if bitB n k then b else 1) := by
 induction l with
 | nil => simp [qq]
 | cons a l ih => obtain ⟨c, m⟩ := a; simp only [List.cons_append, qq, ih, Nat.mul_assoc]
theorem qq_take {l : List (Nat × Nat)} {j b n : Nat} (h : l[j]? = some (b, n)) (k : Nat) : qq (l.take (j + 1)) k = qq (l.take j) k * (if bitB n k then b else 1) := by
 rw [show l.take (j + 1) = l.take j ++ [(b, n)] from by
  obtain ⟨h1, h2⟩ := List.getElem?_eq_some_iff.1 h
  rw [List.take_succ_eq_append_getElem h1, h2], qq_snoc]
theorem pp_one {l : List (Nat × Nat)} {k : Nat} (h : ∀ x ∈ l, x.2 < 2 ^ k) : pp l k = 1 := by
 induction l with
 | nil => rfl
 | cons a l ih =>
  obtain ⟨b, n⟩ := a
  have := h (b, n) List.mem_cons_self
  rw [pp, ih (fun x hx => h x (List.mem_cons_of_mem _ hx)), Nat.div_eq_of_lt this]; rfl
theorem lt_of_blen {n k : Nat} (h : blen n ≤ k) : n < 2 ^ k := by
 unfold blen at h
 split at h
 · rename_i h0; subst h0; exact Nat.two_pow_pos k
 · rename_i h0
   exact Nat.lt_of_lt_of_le ((Nat.log2_lt h0).1 (Nat.lt_succ_self _)) (Nat.pow_le_pow_right (by omega) h)
def baseN (x : Nat) (neg : Bool) (M : Nat) : Nat := if neg then invN x M else x
end Go.Proofs.YtehflcnjnnhojaaGreat
namespace Go.Proofs.YtehflcnjnnhojaaGreat
set_option maxRecDepth 100000
set_option maxHeartbeats 1000000
open Go.RowKit
def svN : Value → Nat
 | .string s => num s
 | _ => 0
theorem svN_nS (n : Nat) : svN (.string (nS n)) = n := num_nS n
theorem gcd_next {p q G : Nat} (h : Nat.gcd p q = G) : Nat.gcd q (p % q) = G := by rw [← h, Nat.gcd_comm p q, Nat.gcd_rec q p, Nat.gcd_comm]
theorem nat_Gcd (x y : Nat) (hx : x < 18446744073709551616) (hy : y < 18446744073709551616) (w : World) : Calls Tryz.prog 197 #[.string (nS x), .string (nS y)] w (Ret (.tuple #[.string (nS (Nat.gcd x y)), .int .i64 0]) w) := by
 have HV1 := Hq (nat_Valid (nS x) (by have := nS_small_size hx; omega))
 have HV2 := Hq (nat_Valid (nS y) (by have := nS_small_size hy; omega))
 rw [nvalid_nS.2 (lt128_of_lt8 hx)] at HV1
 rw [nvalid_nS.2 (lt128_of_lt8 hy)] at HV2
 have HX := Hq hx
 have HY := Hq hy
 have HD := Hq (fun p q (hp : p < 18446744073709551616) (hq : q < 18446744073709551616) (h0 : 0 < q) => nat_divided p q hp (lt128_of_lt8 hq) h0)
 clear hx hy
 go_enter Tryz.func197, Tryz.ntmps197
 go_wp2_with fail
 refine (HV1.out _).mono ?_
 rintro e w1 ⟨rfl, rfl⟩
 go_wp2_with fail
 refine (HV2.out _).mono ?_
 rintro e w1 ⟨rfl, rfl⟩
 go_wp2
 go_loopw [0, 1] (fun a b wr => ∃ p q : Nat, a = .string (nS p) ∧ b = .string (nS q) ∧ p < 18446744073709551616 ∧ q < 18446744073709551616 ∧ Nat.gcd p q = Nat.gcd x y ∧ Below w.heap.size w wr) (fun _ b _ => svN b)
 case atStart => exact ⟨x, y, rfl, rfl, HX.out, HY.out, rfl, Below.refl _ _⟩
 case round =>
  obtain ⟨p, q, rfl, rfl, hp, hq, hg, hbw⟩ := hrel
  have HBW := Hq hbw
  have HG := Hq hg
  have HP := Hq hp
  have HQ := Hq hq
  clear hbw hg hp hq
  rcases Nat.eq_zero_or_pos q with h0 | h0
  · have HG0 := Hq (show Nat.gcd x y = p from by rw [← HG.out, h0, Nat.gcd_zero_right])
    rw [h0, nS_zero]
    clear h0
    go_wp2
    go_ret2
    exact ⟨by rw [HG0.out]; rfl, HBW.out⟩
  · have hem := empty_nS h0
    have HML := Hq (Nat.mod_lt p h0)
    have HDD := Hq (HD.out p q HP.out HQ.out h0)
    clear h0
    go_wp2_with fail
    refine (HDD.out _).mono ?_
    rintro e w2 ⟨rfl, hb2⟩
    have HB2 := Hq (HBW.out.trans (hb2.mono HBW.out.size))
    clear hb2
    go_wp2
    go_roundw
    case rel => exact ⟨q, p % q, rfl, rfl, HQ.out, Nat.lt_trans HML.out HQ.out, gcd_next HG.out, HB2.out⟩
    case measure => rw [svN_nS, svN_nS]; exact HML.out
theorem r01_Common (x y : Nat) (hx : x < 256 ^ 128) (hy : y < 256 ^ 128) (w : World) : Calls Tryz.prog 185 #[.string (nS x), .string (nS y)] w (Ret (.string (nS (Nat.gcd x y))) w) := by
 have HX := Hq hx
 have HY := Hq hy
 have HD := Hq (fun p q (hp : p < 256 ^ 128) (hq : q < 256 ^ 128) (h0 : 0 < q) => r01_Over p q (Nat.le_trans (nS_size_le.2 hp) (by decide)) (Nat.le_trans (nS_size_le.2 hq) (by decide)) h0)
 clear hx hy
 go_enter Tryz.func185, Tryz.ntmps185
 go_wp2
 go_loopw [0, 1] (fun a b wr => ∃ p q : Nat, a = .string (nS p) ∧ b = .string (nS q) ∧ p < 256 ^ 128 ∧ q < 256 ^ 128 ∧ Nat.gcd p q = Nat.gcd x y ∧ Below w.heap.size w wr) (fun _ b _ => svN b)
 case atStart => exact ⟨x, y, rfl, rfl, HX.out, HY.out, rfl, Below.refl _ _⟩
 case round =>
  obtain ⟨p, q, rfl, rfl, hp, hq, hg, hbw⟩ := hrel
  have HBW := Hq hbw
  have HG := Hq hg
  have HP := Hq hp
  have HQ := Hq hq
  clear hbw hg hp hq
  rcases Nat.eq_zero_or_pos q with h0 | h0
  · have HG0 := Hq (show Nat.gcd x y = p from by rw [← HG.out, h0, Nat.gcd_zero_right])
    rw [h0, nS_zero]
    clear h0
    go_wp2
    go_ret
    exact ⟨by rw [HG0.out]; rfl, HBW.out⟩
  · have hem := empty_nS h0
    have HML := Hq (Nat.mod_lt p h0)
    have HDD := Hq (HD.out p q HP.out HQ.out h0)
    clear h0
    go_wp2_with fail
    refine (HDD.out _).mono ?_
    rintro e w2 ⟨rfl, hb2⟩
    have HB2 := Hq (HBW.out.trans (hb2.mono HBW.out.size))
    clear hb2
    go_wp2
    go_roundw
    case rel => exact ⟨q, p % q, rfl, rfl, HQ.out, Nat.lt_trans HML.out HQ.out, gcd_next HG.out, HB2.out⟩
    case measure => rw [svN_nS, svN_nS]; exact HML.out
theorem rsa_one (w : World) : Calls Tryz.prog 198 #[] w (Ret (.string (nS 1)) w) := by
 go_enter Tryz.func198, Tryz.ntmps198
 go_wp2_with fail
 refine (nat_Of 1 (by decide) _).mono ?_
 rintro e w1 ⟨rfl, hb1⟩
 have HB1 := Hq hb1
 clear hb1
 go_wp2
 go_ret
 exact ⟨rfl, HB1.out⟩
theorem rsa_good (m : Nat) (hm : m < 18446744073709551616) (hodd : bitB m 0 = true) (h8 : 8 < m) (w : World) : Calls Tryz.prog 196 #[gV (nS m) (nS 0)] w (Ret (.bool true) w) := by
 have HV := Hq (nat_Valid (nS m) (by have := nS_small_size hm; omega))
 rw [nvalid_nS.2 (lt128_of_lt8 hm)] at HV
 have HBT := Hq (nat_Bit m 0 (lt128_of_lt8 hm) (by omega))
 rw [hodd] at HBT
 have HCM := Hq (nat_Cmp (nS m) (nS 8) (by have := nS_small_size hm; omega) (by decide))
 rw [ncmp_n (lt128_of_lt8 hm) (by decide), show cmpI m 8 = 1 from by unfold cmpI; rw [if_neg (by omega), if_pos h8]] at HCM
 have HO := Hq (nat_Of 8 (by decide))
 rw [nS_zero]
 obtain ⟨s, hs⟩ : ∃ s, nS m = s := ⟨_, rfl⟩
 obtain ⟨t, ht⟩ : ∃ t, nS 8 = t := ⟨_, rfl⟩
 rw [hs] at HV HBT HCM ⊢
 rw [ht] at HCM
 have HO' := Hq (fun w => show Calls Tryz.prog 24 #[.int .u64 (8 : Nat)] w (Ret (.string t) w) from by have := HO.out w; rw [show bstr (encN 8) = t from ht] at this; exact this)
 clear hs ht hm hodd h8 HO
 unfold gV
 go_enter Tryz.func196, Tryz.ntmps196
 have HX0 := Hq (Bx2.new w (.string s) (.string ⟨#[]⟩) 24)
 have HB0 := Hq ((Below.refl w.heap.size w).alloc (Nat.le_refl _) (.cells #[.string s, .string ⟨#[]⟩] 24))
 go_wp2
 obtain ⟨W0, hW0⟩ : ∃ W0, w.alloc (.cells #[.string s, .string ⟨#[]⟩] 24) = W0 := ⟨_, rfl⟩
 rw [hW0] at HX0 HB0
 try rw [hW0]
 have c0 : W0.drew.cell? ⟨w.heap.size, 0, none⟩ = some (.string s) := HX0.out.c0
 have c1 : W0.drew.cell? ⟨w.heap.size, 1, none⟩ = some (.string ⟨#[]⟩) := HX0.out.c1
 clear hW0
 rename_i K1 hK1
 refine wp_onlyN ?_
 refine wp_region_K 21 (Below (W0.drew).heap.size (W0.drew)) (by kernel_rfl) ?_
 intro hD
 refine rP 0 3 20 rfl hD (Below.refl _ _) ?_; clear hD; intro hD; simp only [Act.put, sqA, sqB, sqC]
 refine rT 1 4 19 rfl hD (Below.refl _ _) (by intro w' hS'; have e0 := kC hS' c0; have e1 := kC hS' c1; go_simp; with_reducible rfl) ?_; clear hD; intro hD; simp only [Act.put, sqA, sqB, sqC]
 refine rO 2 18 rfl hD ?_; clear hD; intro K2 hK2
 go_wp2_with fail
 refine (HV.out _).mono ?_
 rintro e w2 ⟨rfl, rfl⟩
 have HB2 := Hq (Below.refl W0.drew.heap.size W0.drew)
 go_wp2
 refine hK2 _ _ (by exact HB2.out) ?_; clear hK2; intro hS_1_2 hD
 refine rP 3 6 17 rfl hD hS_1_2 ?_; clear hD; intro hD; simp only [Act.put, sqA, sqB, sqC]
 refine rP 4 7 16 rfl hD hS_1_2 ?_; clear hD; intro hD; simp only [Act.put, sqA, sqB, sqC]
 refine rT 5 8 15 rfl hD hS_1_2 (by intro w' hS'; have e0 := kC hS' c0; have e1 := kC hS' c1; go_simp; with_reducible rfl) ?_; clear hD; intro hD; simp only [Act.put, sqA, sqB, sqC]
 refine rP 6 9 14 rfl hD hS_1_2 ?_; clear hD; intro hD; simp only [Act.put, sqA, sqB, sqC]
 refine rP 7 10 13 rfl hD hS_1_2 ?_; clear hD; intro hD; simp only [Act.put, sqA, sqB, sqC]
 refine rP 8 11 12 rfl hD hS_1_2 ?_; clear hD; intro hD; simp only [Act.put, sqA, sqB, sqC]
 refine rP 9 12 11 rfl hD hS_1_2 ?_; clear hD; intro hD; simp only [Act.put, sqA, sqB, sqC]
 refine rT 10 13 10 rfl hD hS_1_2 (by intro w' hS'; have e0 := kC hS' c0; have e1 := kC hS' c1; go_simp; with_reducible rfl) ?_; clear hD; intro hD; simp only [Act.put, sqA, sqB, sqC]
 refine rO 11 9 rfl hD ?_; clear hD; intro K11 hK11
 go_wp2_with fail
 refine (HBT.out _).mono ?_
 rintro e w2 ⟨rfl, rfl⟩
 have HB11 := Hq (Below.refl W0.drew.heap.size W0.drew)
 go_wp2
 refine hK11 _ _ (by exact Below.trans hS_1_2 (Below.mono HB11.out (Below.size hS_1_2))) ?_; clear hK11; intro hS_1_11 hD
 refine rP 12 15 8 rfl hD hS_1_11 ?_; clear hD; intro hD; simp only [Act.put, sqA, sqB, sqC]
 refine rP 13 16 7 rfl hD hS_1_11 ?_; clear hD; intro hD; simp only [Act.put, sqA, sqB, sqC]
 refine rP 14 17 6 rfl hD hS_1_11 ?_; clear hD; intro hD; simp only [Act.put, sqA, sqB, sqC]
 refine rT 15 18 5 rfl hD hS_1_11 (by intro w' hS'; have e0 := kC hS' c0; have e1 := kC hS' c1; go_simp; with_reducible rfl) ?_; clear hD; intro hD; simp only [Act.put, sqA, sqB, sqC]
 refine rO 16 4 rfl hD ?_; clear hD; intro K16 hK16
 go_wp2_with fail
 refine (HO'.out _).mono ?_
 rintro e w2 ⟨rfl, hb⟩
 have HB16 := Hq hb
 clear hb
 go_wp2
 refine hK16 _ _ (by exact Below.trans hS_1_11 (Below.mono HB16.out (Below.size hS_1_11))) ?_; clear hK16; intro hS_1_16 hD
 refine rO 17 3 rfl hD ?_; clear hD; intro K17 hK17
 go_wp2_with fail
 refine (HCM.out _).mono ?_
 rintro e w3 ⟨rfl, rfl⟩
 have HB17 := Hq (Below.refl w2.heap.size w2)
 go_wp2
 refine hK17 _ _ (by exact Below.trans hS_1_16 (Below.mono HB17.out (Below.size hS_1_16))) ?_; clear hK17; intro hS_1_17 hD
 refine rP 18 21 2 rfl hD hS_1_17 ?_; clear hD; intro hD; simp only [Act.put, sqA, sqB, sqC]
 refine rP 19 22 1 rfl hD hS_1_17 ?_; clear hD; intro hD; simp only [Act.put, sqA, sqB, sqC]
 refine rO 20 0 rfl hD ?_; clear hD; intro K20 hK20
 go_wp2
 refine hK20 _ _ (by exact hS_1_17) ?_; clear hK20; intro hS_1_20 hD
 refine wpAnyK_done (by kernel_rfl) ?_ 0
 clear hD
 have HSX := Hq hS_1_20
 refine hK1 _ _ ?_
 go_wp2
 go_ret
 exact ⟨rfl, HB0.out.trans (((Below.refl _ _).drew.trans HSX.out).mono HB0.out.size)⟩
end Go.Proofs.YtehflcnjnnhojaaGreat

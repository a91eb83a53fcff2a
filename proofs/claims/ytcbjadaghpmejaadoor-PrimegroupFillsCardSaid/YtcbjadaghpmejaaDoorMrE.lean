/- Walks: dominoref04.Is; dominoref09.divides, Check. -/
import Derived.Test.YtcbjadaghpmejaaDoorMrD
set_option linter.unusedVariables false
set_option linter.unusedSimpArgs false
namespace Go.Proofs.YtcbjadaghpmejaaDoor
open Go.RowKit

set_option maxRecDepth 100000 in
theorem r04_Is_n (n : Nat) (h8 : n < 18446744073709551616) (w : World) : Calls Tryd.prog 25 #[.string (nS n)] w (Ret (.tuple #[.bool (isN n), .int .i64 0]) w) := by
  have hz := nS_small_size h8
  have HF := Lib.hid (r04_Formed (nS n) (by omega))
  rw [nS_valid_small h8] at HF
  have HU := Lib.hid (r04_U (nS n) hz)
  rw [num_nS] at HU
  have HI := Lib.hid (r04_IsU n h8)
  obtain ⟨s, hs⟩ : ∃ s, nS n = s := ⟨_, rfl⟩
  rw [hs] at HF HU ⊢
  clear hs h8 hz
  go_enter Tryd.func25, Tryd.ntmps25
  go_wp2_with fail
  refine (HF.out _).mono ?_
  rintro e w1 ⟨rfl, rfl⟩
  go_wp2_with fail
  refine (HU.out _).mono ?_
  rintro e w1 ⟨rfl, rfl⟩
  go_wp2_with fail
  refine (HI.out _).mono ?_
  rintro e w1 ⟨rfl, hb1⟩
  have HB1 := Lib.hid hb1
  clear hb1
  go_wp2
  go_ret2
  exact ⟨rfl, HB1.out⟩

set_option maxRecDepth 100000 in
set_option maxHeartbeats 1000000 in
theorem r09_divides (m q : Nat) (hm : 1 ≤ m) (hm8 : m < 18446744073709551616) (hq : 1 ≤ q) (hq8 : q < 18446744073709551616) (w : World) : Calls Tryd.prog 26 #[gV (nS m) (nS q)] w (Ret (.bool (decide ((m - 1) % q = 0))) w) := by
  have hz1 := nS_small_size hm8
  have HS := Lib.hid (r01_Minus m 1 (by omega) hm)
  have HD := Lib.hid (r01_Over_small (m - 1) q (by omega) hq8 hq)
  have hm0 := empty_nS (n := m) hm
  rw [nS_one] at HS
  have HZ := Lib.hid (show (nS ((m - 1) % q)).toList.isEmpty = decide ((m - 1) % q = 0) from by
    cases e : decide ((m - 1) % q = 0) with
    | true => rw [of_decide_eq_true e]; exact sempty_true rfl
    | false => exact empty_nS (by have := of_decide_eq_false e; omega))
  obtain ⟨s, hs⟩ : ∃ s, nS m = s := ⟨_, rfl⟩
  obtain ⟨t, ht⟩ : ∃ t, nS q = t := ⟨_, rfl⟩
  obtain ⟨u, hu⟩ : ∃ u, nS (m - 1) = u := ⟨_, rfl⟩
  obtain ⟨r, hr⟩ : ∃ r, nS ((m - 1) % q) = r := ⟨_, rfl⟩
  obtain ⟨dv, hdv⟩ : ∃ d, nS ((m - 1) / q) = d := ⟨_, rfl⟩
  rw [hs, hu] at HS
  rw [hu, ht, hr, hdv] at HD
  rw [hs] at hm0
  rw [hr] at HZ
  rw [hs, ht, ← HZ.out]
  clear hs ht hu hr hm hm8 hq hq8 hz1 hdv
  have HX0 := Lib.hid (Bx2.new w (.string s) (.string t) 24)
  have HB0 := Lib.hid ((Below.refl w.heap.size w).alloc (Nat.le_refl _) (.cells #[.string s, .string t] 24))
  have c0 := HX0.out.c0
  have c1 := HX0.out.c1
  unfold gV
  go_enter Tryd.func26, Tryd.ntmps26
  go_wp2
  obtain ⟨wd, hwd⟩ : ∃ wd, (w.alloc (.cells #[.string s, .string t] 24)).drew = wd := ⟨_, rfl⟩
  have HBd := Lib.hid (show Below w.heap.size w wd from by rw [← hwd]; exact HB0.out.drew)
  obtain ⟨d0, d1⟩ : wd.cell? ⟨w.heap.size, 0, none⟩ = some (.string s) ∧ wd.cell? ⟨w.heap.size, 1, none⟩ = some (.string t) := by rw [← hwd]; exact ⟨HX0.out.c0, HX0.out.c1⟩
  clear c0 c1
  refine wp_region_K 5 (Below (wd).heap.size (wd)) (by kernel_rfl) ?_
  intro hD
  rw [hwd]
  refine wpAnyK_pure (i := 0) (v := ?v3_0b1) (fuel := 10) rfl (by kernel_rfl) (fun _ _ _ h => h) hD (Below.refl _ _) (.inl ⟨by kernel_rfl, ?y3_0b1⟩) ?n3_0b1
  case y3_0b1 => intro w' _; go_simp; with_reducible rfl
  clear hD; intro hD
  simp only [Act.put, List.setIfInBounds_toArray, List.set_cons_zero, List.set_cons_succ]
  refine wpAnyK_take (i := 1) (v := ?v3_1b1) (fuel := 9) rfl (by kernel_rfl) (by kernel_rfl) (fun _ _ _ h => h) hD (Below.refl _ _) (.inl ⟨by kernel_rfl, ?y3_1b1⟩) ?n3_1b1
  case y3_1b1 => intro w' hS'; have e0 := cell_kept hS' (Nat.le_refl _) d0; have e1 := cell_kept hS' (Nat.le_refl _) d1; go_simp; with_reducible rfl
  clear hD; intro hD
  simp only [Act.put, List.setIfInBounds_toArray, List.set_cons_zero, List.set_cons_succ]
  refine wpAnyK_pure (i := 3) (v := ?v3_3b1) (fuel := 8) rfl (by kernel_rfl) (fun _ _ _ h => h) hD (Below.refl _ _) (.inl ⟨by kernel_rfl, ?y3_3b1⟩) ?n3_3b1
  case y3_3b1 => intro w' _; go_simp; with_reducible rfl
  clear hD; intro hD
  simp only [Act.put, List.setIfInBounds_toArray, List.set_cons_zero, List.set_cons_succ]
  refine wpAnyK_take (i := 4) (v := ?v3_4b1) (fuel := 7) rfl (by kernel_rfl) (by kernel_rfl) (fun _ _ _ h => h) hD (Below.refl _ _) (.inl ⟨by kernel_rfl, ?y3_4b1⟩) ?n3_4b1
  case y3_4b1 => intro w' hS'; have e0 := cell_kept hS' (Nat.le_refl _) d0; have e1 := cell_kept hS' (Nat.le_refl _) d1; go_simp; with_reducible rfl
  clear hD; intro hD
  simp only [Act.put, List.setIfInBounds_toArray, List.set_cons_zero, List.set_cons_succ]
  refine wpAnyK_one (i := 2) (fuel := 6) (by kernel_rfl) rfl hD ?_
  clear hD; intro K2 hK2
  go_wp2_with fail
  refine (HS.out _).mono ?_
  rintro ev w3 ⟨rfl, hb3⟩
  have HB2 := Lib.hid hb3
  clear hb3
  go_wp2
  refine hK2 _ _ (by exact HB2.out) ?_; clear hK2; intro hS_3_2 hD
  refine wpAnyK_oneT (i := 5) (fuel := 5) (by kernel_rfl) rfl hD (by kernel_rfl) ?_
  clear hD; intro K5 hK5
  go_wp2_with fail
  refine (HD.out _).mono ?_
  rintro ev w4 ⟨rfl, hb4⟩
  have HB5 := Lib.hid hb4
  clear hb4
  go_wp2
  refine hK5 _ _ ?_; clear hK5; intro hD
  refine wpAnyK_pureT (i := 6) (v := ?v3_6b1) (fuel := 4) rfl (by kernel_rfl) (by kernel_rfl) (fun _ _ _ h => h) hD  (.inl ⟨by kernel_rfl, ?y3_6b1⟩) ?n3_6b1
  case y3_6b1 => intro w' _; go_simp; with_reducible rfl
  clear hD; intro hD
  simp only [Act.put, List.setIfInBounds_toArray, List.set_cons_zero, List.set_cons_succ]
  refine wpAnyK_pureT (i := 7) (v := ?v3_7b1) (fuel := 3) rfl (by kernel_rfl) (by kernel_rfl) (fun _ _ _ h => h) hD  (.inl ⟨by kernel_rfl, ?y3_7b1⟩) ?n3_7b1
  case y3_7b1 => intro w' _; go_simp; with_reducible rfl
  clear hD; intro hD
  simp only [Act.put, List.setIfInBounds_toArray, List.set_cons_zero, List.set_cons_succ]
  refine wpAnyK_pureT (i := 8) (v := ?v3_8b1) (fuel := 2) rfl (by kernel_rfl) (by kernel_rfl) (fun _ _ _ h => h) hD  (.inl ⟨by kernel_rfl, ?y3_8b1⟩) ?n3_8b1
  case y3_8b1 => intro w' _; go_simp; with_reducible rfl
  clear hD; intro hD
  simp only [Act.put, List.setIfInBounds_toArray, List.set_cons_zero, List.set_cons_succ]
  refine wpAnyK_oneT (i := 9) (fuel := 1) (by kernel_rfl) rfl hD (by kernel_rfl) ?_
  clear hD; intro K9 hK9
  go_wp2
  refine hK9 _ _ ?_; clear hK9; intro hD
  refine wpAnyK_oneT (i := 10) (fuel := 0) (by kernel_rfl) rfl hD (by kernel_rfl) ?_
  clear hD; intro K10 hK10
  go_wp2
  refine hK10 _ _ ?_; clear hK10; intro hD
  refine wpAnyK_done (by kernel_rfl) ?_ 0
  clear hD
  go_wp2
  go_ret
  exact ⟨rfl, HBd.out.trans ((HB2.out.trans (HB5.out.mono HB2.out.size)).mono HBd.out.size)⟩
end Go.Proofs.YtcbjadaghpmejaaDoor

/- What the calls of the chapter's examples return. -/
import Derived.Test.YtpdejgdkpghjhaaGreatDoorQPeX
set_option linter.unusedVariables false
set_option linter.unusedSimpArgs false
namespace Go.Proofs.YtpdejgdkpghjhaaGreatDoor
open Go.RowKit

theorem ex_HO21 (w : World) : Calls Tryz.prog 66 #[.int .i64 2, .int .i64 1] w (Ret (.agg #[.bool false, .string (nS 2), .bool false, .string (nS 1)]) w) := law14_open 2 1 (by decide) (by decide) w
theorem ex_HO60 (w : World) : Calls Tryz.prog 66 #[.int .i64 6, .int .i64 0] w (Ret (.agg #[.bool false, .string (nS 6), .bool false, .string (nS 0)]) w) := law14_open 6 0 (by decide) (by decide) w
theorem ex_HO61 (w : World) : Calls Tryz.prog 66 #[.int .i64 6, .int .i64 1] w (Ret (.agg #[.bool false, .string (nS 6), .bool false, .string (nS 1)]) w) := law14_open 6 1 (by decide) (by decide) w
theorem ex_HO58 (w : World) : Calls Tryz.prog 66 #[.int .i64 5, .int .i64 8] w (Ret (.agg #[.bool false, .string (nS 5), .bool false, .string (nS 8)]) w) := law14_open 5 8 (by decide) (by decide) w
theorem ex_HN2 (w : World) : Calls Tryz.prog 53 #[.int .u64 2] w (Ret (.string (nS 2)) w) := nat_Of 2 (by decide) w
theorem ex_HN8 (w : World) : Calls Tryz.prog 53 #[.int .u64 8] w (Ret (.string (nS 8)) w) := nat_Of 8 (by decide) w
theorem ex_HI1 (w : World) : Calls Tryz.prog 68 #[.int .i64 1] w (Ret (.agg #[.bool false, .string (nS 1)]) w) := by
  have := int_Of 1 (by decide) w
  rw [intV_nat] at this
  exact this
theorem ex_HI3 (w : World) : Calls Tryz.prog 68 #[.int .i64 (-3)] w (Ret (.agg #[.bool true, .string (nS 3)]) w) := int_Of_m3 w
theorem ex_HCM (w : World) : Calls Tryz.prog 65 #[.agg #[.string (nS 23), .string (nS 11), .string (nS 4), .string (nS 3)], .agg #[.bool false, .string (nS 2), .bool false, .string (nS 1)]] w (Ret (.tuple #[.string (nS 2), .int .i64 0]) w) := by
  have := pk_Commit (nS 23) (nS 11) (nS 4) (nS 3) false (nS 2) false (nS 1) (by decide +kernel) (by decide +kernel) (by decide +kernel) (by decide +kernel) (by decide +kernel) (by decide +kernel) w
  rw [ex_cm21] at this
  exact this
theorem ex_HOA (w : World) : Calls Tryz.prog 70 #[.agg #[.string (nS 23), .string (nS 11), .string (nS 4), .string (nS 3)], .string (nS 2), .agg #[.bool false, .string (nS 6), .bool false, .string (nS 0)]] w (Ret (.bool true) w) := by
  have := pk_Opens (nS 23) (nS 11) (nS 4) (nS 3) (nS 2) false (nS 6) false (nS 0) (by decide +kernel) (by decide +kernel) (by decide +kernel) (by decide +kernel) (by decide +kernel) (by decide +kernel) w
  rw [ex_op60] at this
  exact this
theorem ex_HOB (w : World) : Calls Tryz.prog 70 #[.agg #[.string (nS 23), .string (nS 11), .string (nS 4), .string (nS 3)], .string (nS 2), .agg #[.bool false, .string (nS 6), .bool false, .string (nS 1)]] w (Ret (.bool false) w) := by
  have := pk_Opens (nS 23) (nS 11) (nS 4) (nS 3) (nS 2) false (nS 6) false (nS 1) (by decide +kernel) (by decide +kernel) (by decide +kernel) (by decide +kernel) (by decide +kernel) (by decide +kernel) w
  rw [ex_op61] at this
  exact this
theorem ex_res : arV (redZ 11 (2 * -3)) (redZ 11 (1 * -3)) = .agg #[.bool false, .string (nS 5), .bool false, .string (nS 8)] := by
  rw [show redZ 11 (2 * -3) = ((5 : Nat) : Int) from by decide +kernel, show redZ 11 (1 * -3) = ((8 : Nat) : Int) from by decide +kernel]
  rfl
theorem ex_HTM (w : World) : Calls Tryz.prog 67 #[.agg #[.string (nS 23), .string (nS 11), .string (nS 4), .string (nS 3)], .agg #[.bool false, .string (nS 2), .bool false, .string (nS 1)], .agg #[.bool true, .string (nS 3)]] w (Ret (.tuple #[.agg #[.bool false, .string (nS 5), .bool false, .string (nS 8)], .int .i64 0]) w) := by
  have p128 : ∀ n : Nat, n < 1000 → n < 256 ^ 128 := fun n h => lt128_of_lt8 (by omega)
  have h := pk_Times_ok (nS 23) (nS 4) (nS 3) 11 2 1 (-3) (by decide +kernel) (by omega) (by decide +kernel) (by decide +kernel) (p128 _ (by decide)) (p128 _ (by decide)) (p128 _ (by decide)) ex_key (p128 _ (by decide)) (p128 _ (by decide))
    (fun w => int_MulG 2 (-3) (p128 _ (by decide)) (p128 _ (by decide)) (fun w => by rw [fitR_small (p128 _ (by decide))]; exact nat_Mul_small (2 : Int).natAbs (-3 : Int).natAbs (by decide) (by decide) (by decide) w) w)
    (fun w => int_MulG 1 (-3) (p128 _ (by decide)) (p128 _ (by decide)) (fun w => by rw [fitR_small (p128 _ (by decide))]; exact nat_Mul_small (1 : Int).natAbs (-3 : Int).natAbs (by decide) (by decide) (by decide) w) w)
    (fun _ w => int_ModG (2 * -3) 11 (p128 _ (by decide)) (p128 _ (by decide)) (by decide) (fun w => nat_DivMod (2 * -3 : Int).natAbs 11 (by decide) (p128 _ (by decide)) (by decide) w) w)
    (fun _ w => int_ModG (1 * -3) 11 (p128 _ (by decide)) (p128 _ (by decide)) (by decide) (fun w => nat_DivMod (1 * -3 : Int).natAbs 11 (by decide) (p128 _ (by decide)) (by decide) w) w) w
  rw [ex_res] at h
  exact h
theorem ex_HSH (w : World) : Calls Tryz.prog 69 #[.agg #[.string (nS 23), .string (nS 11), .string (nS 4), .string (nS 3)], .string (nS 2), .agg #[.bool false, .string (nS 1)]] w (Ret (.tuple #[.string (nS 8), .int .i64 0]) w) := by
  have := pk_Shift (nS 23) (nS 11) (nS 4) (nS 3) (nS 2) false (nS 1) (by decide +kernel) (by decide +kernel) (by decide +kernel) (by decide +kernel) (by decide +kernel) (by decide +kernel) w
  rw [ex_sf] at this
  exact this
end Go.Proofs.YtpdejgdkpghjhaaGreatDoor
/- Walk: dominolaw14.awake. -/
set_option linter.unusedVariables false
set_option linter.unusedSimpArgs false
namespace Go.Proofs.YtpdejgdkpghjhaaGreatDoor
open Go.RowKit

set_option maxRecDepth 100000 in
set_option maxHeartbeats 16000000 in
theorem law14_awake (w : World) : Calls Tryz.prog 24 #[] w (Ret (.bool true) w) := by
  have HEX := Lib.hid law14_example
  have HO21 := Lib.hid ex_HO21
  have HO60 := Lib.hid ex_HO60
  have HO61 := Lib.hid ex_HO61
  have HO58 := Lib.hid ex_HO58
  have HN2 := Lib.hid ex_HN2
  have HN8 := Lib.hid ex_HN8
  have HI1 := Lib.hid ex_HI1
  have HI3 := Lib.hid ex_HI3
  have HCM := Lib.hid ex_HCM
  have HOA := Lib.hid ex_HOA
  have HOB := Lib.hid ex_HOB
  have HTM := Lib.hid ex_HTM
  have HSH := Lib.hid ex_HSH
  unfold kV at HEX
  obtain ⟨M, hM⟩ : ∃ x, nS 23 = x := ⟨_, rfl⟩
  obtain ⟨O, hO⟩ : ∃ x, nS 11 = x := ⟨_, rfl⟩
  obtain ⟨n0, h0⟩ : ∃ x, nS 0 = x := ⟨_, rfl⟩
  obtain ⟨n1, h1⟩ : ∃ x, nS 1 = x := ⟨_, rfl⟩
  obtain ⟨n2, h2⟩ : ∃ x, nS 2 = x := ⟨_, rfl⟩
  obtain ⟨n3, h3⟩ : ∃ x, nS 3 = x := ⟨_, rfl⟩
  obtain ⟨n4, h4⟩ : ∃ x, nS 4 = x := ⟨_, rfl⟩
  obtain ⟨n5, h5⟩ : ∃ x, nS 5 = x := ⟨_, rfl⟩
  obtain ⟨n6, h6⟩ : ∃ x, nS 6 = x := ⟨_, rfl⟩
  obtain ⟨n8, h8⟩ : ∃ x, nS 8 = x := ⟨_, rfl⟩
  simp only [hM, hO, h0, h1, h2, h3, h4, h5, h6, h8] at HEX HO21 HO60 HO61 HO58 HN2 HN8 HI1 HI3 HCM HOA HOB HTM HSH
  clear hM hO h0 h1 h2 h3 h4 h5 h6 h8
  go_enter Tryz.func24, Tryz.ntmps24
  go_wp2_with fail
  refine (HEX.out _).mono ?_
  rintro ev w1 ⟨rfl, hb⟩
  have HB1 := Lib.hid hb
  clear hb
  go_wp2
  have hn := Bx4.new w1 (.string M) (.string O) (.string n4) (.string n3) 26
  have hb : Below w1.heap.size w1 (w1.alloc (.cells #[.string M, .string O, .string n4, .string n3] 26)) := (Below.refl _ _).alloc (Nat.le_refl _) _
  obtain ⟨W1, hW1⟩ : ∃ W, w1.alloc (.cells #[.string M, .string O, .string n4, .string n3] 26) = W := ⟨_, rfl⟩
  obtain ⟨K, hK⟩ : ∃ B, w1.heap.size = B := ⟨_, rfl⟩
  rw [hW1, hK] at hn
  rw [hW1] at hb
  have HK1 := Lib.hid hn
  have HBA := Lib.hid (HB1.out.trans (hb.mono HB1.out.size))
  try rw [hW1]
  try rw [hK]
  clear hn hb hW1 hK HB1
  obtain ⟨g0, g1, g2, g3⟩ := (show Bx4 W1.drew K (.string M) (.string O) (.string n4) (.string n3) 26 from HK1.out).cells
  rename_i KK2 hKK2
  refine wp_onlyN ?_
  refine wp_region_K 8 (Below (W1.drew).heap.size (W1.drew)) (by kernel_rfl) ?_
  intro hD
  refine wpAnyK_takeSD (i := 0) (d := some 10) (v := ?v2_0b1) (fuel := 7) rfl (by kernel_rfl) (by kernel_rfl) (by kernel_rfl) (fun _ _ _ h => h) hD (Below.refl _ _) (.inl ⟨by kernel_rfl, ?y2_0b1⟩) ?n2_0b1
  case y2_0b1 => intro w' hS'; have e0 := cell_kept hS' (Nat.le_refl _) g0; have e1 := cell_kept hS' (Nat.le_refl _) g1; have e2 := cell_kept hS' (Nat.le_refl _) g2; have e3 := cell_kept hS' (Nat.le_refl _) g3; go_simp; with_reducible rfl
  clear hD; intro hD
  simp only [Act.put, List.setIfInBounds_toArray, List.set_cons_zero, List.set_cons_succ]
  refine wpAnyK_one (i := 1) (fuel := 6) (by kernel_rfl) rfl hD ?_
  clear hD; intro K1 hK1
  go_wp2_with fail
  refine (HO21.out _).mono ?_
  rintro ev v1 ⟨rfl, hb⟩
  have HB1 := Lib.hid hb
  clear hb
  go_wp2
  refine hK1 _ _ (by exact HB1.out) ?_; clear hK1; intro hS_2_1 hD
  refine wpAnyK_one (i := 2) (fuel := 5) (by kernel_rfl) rfl hD ?_
  clear hD; intro K2 hK2
  go_wp2_with fail
  refine (HCM.out _).mono ?_
  rintro ev v2 ⟨rfl, hb⟩
  have HB2 := Lib.hid hb
  clear hb
  go_wp2
  refine hK2 _ _ (by exact Below.trans hS_2_1 (Below.mono HB2.out (Below.size hS_2_1))) ?_; clear hK2; intro hS_2_2 hD
  refine wpAnyK_pureD (i := 3) (d := some 9) (v := ?v2_3b1) (fuel := 4) rfl (by kernel_rfl) (by kernel_rfl) (fun _ _ _ h => h) hD hS_2_2 (.inl ⟨by kernel_rfl, ?y2_3b1⟩) ?n2_3b1
  case y2_3b1 => intro w' _; go_simp; with_reducible rfl
  clear hD; intro hD
  simp only [Act.put, List.setIfInBounds_toArray, List.set_cons_zero, List.set_cons_succ]
  refine wpAnyK_pureD (i := 4) (d := some 13) (v := ?v2_4b1) (fuel := 3) rfl (by kernel_rfl) (by kernel_rfl) (fun _ _ _ h => h) hD hS_2_2 (.inl ⟨by kernel_rfl, ?y2_4b1⟩) ?n2_4b1
  case y2_4b1 => intro w' _; go_simp; with_reducible rfl
  clear hD; intro hD
  simp only [Act.put, List.setIfInBounds_toArray, List.set_cons_zero, List.set_cons_succ]
  refine wpAnyK_pureD (i := 5) (d := some 14) (v := ?v2_5b1) (fuel := 2) rfl (by kernel_rfl) (by kernel_rfl) (fun _ _ _ h => h) hD hS_2_2 (.inl ⟨by kernel_rfl, ?y2_5b1⟩) ?n2_5b1
  case y2_5b1 => intro w' _; go_simp; with_reducible rfl
  clear hD; intro hD
  simp only [Act.put, List.setIfInBounds_toArray, List.set_cons_zero, List.set_cons_succ]
  refine wpAnyK_one (i := 6) (fuel := 1) (by kernel_rfl) rfl hD ?_
  clear hD; intro K6 hK6
  go_wp2
  refine hK6 _ _ (by exact hS_2_2) ?_; clear hK6; intro hS_2_6 hD
  refine wpAnyK_one (i := 7) (fuel := 0) (by kernel_rfl) rfl hD ?_
  clear hD; intro K7 hK7
  go_wp2
  refine hK7 _ _ (by exact hS_2_6) ?_; clear hK7; intro hS_2_7 hD
  refine wpAnyK_done (by kernel_rfl) ?_ 0
  clear hD g0 g1 g2 g3
  have hb := (Below.refl W1.heap.size W1).drew.trans hS_2_7
  have HK2 := Lib.hid (HK1.out.next hb)
  have HB2x := Lib.hid (HBA.out.trans (hb.mono HBA.out.size))
  clear hb
  refine hKK2 _ _ ?_
  go_wp2
  obtain ⟨g0, g1, g2, g3⟩ := (show Bx4 v2.drew K (.string M) (.string O) (.string n4) (.string n3) 26 from HK2.out).cells
  rename_i KK3 hKK3
  refine wp_onlyN ?_
  refine wp_region_K 10 (Below (v2.drew).heap.size (v2.drew)) (by kernel_rfl) ?_
  intro hD
  refine wpAnyK_takeSD (i := 0) (d := some 16) (v := ?v3_0b2) (fuel := 9) rfl (by kernel_rfl) (by kernel_rfl) (by kernel_rfl) (fun _ _ _ h => h) hD (Below.refl _ _) (.inl ⟨by kernel_rfl, ?y3_0b2⟩) ?n3_0b2
  case y3_0b2 => intro w' hS'; have e0 := cell_kept hS' (Nat.le_refl _) g0; have e1 := cell_kept hS' (Nat.le_refl _) g1; have e2 := cell_kept hS' (Nat.le_refl _) g2; have e3 := cell_kept hS' (Nat.le_refl _) g3; go_simp; with_reducible rfl
  clear hD; intro hD
  simp only [Act.put, List.setIfInBounds_toArray, List.set_cons_zero, List.set_cons_succ]
  refine (show GhostK _ _ _ _ _ _ 7 4 8 _ _ (GIz (v2.drew) (#[.bool false, .string ⟨#[]⟩, .bool false, .string ⟨#[]⟩]) (73)) from ?_).2 _ (GIz.start (Below.refl _ _))
  refine ghost_step (i := 7) (j := 1) (d := 4) (dj := 17) (fuel := 7) (fun (y : Unit) => .agg #[.bool false, .string n2, .bool false, .string n1]) (fun y => GIz (v2.drew) (#[.bool false, .string ⟨#[]⟩, .bool false, .string ⟨#[]⟩]) (73)) (by kernel_rfl) (by kernel_rfl) rfl rfl hD (by kernel_rfl) (by decide) (fun _ _ _ _ h => h.1) (fun _ _ _ h => h.1) (alloc_zK rfl rfl (fun _ _ => by kernel_rfl)) ?hs3_1b2 ?hn3_1b2
  case hs3_1b2 =>
    intro gb gx gw hI K hK
    try simp only [Act.put, List.setIfInBounds_toArray, List.set_cons_zero, List.set_cons_succ] at hK ⊢
    have HK := Lib.hid hK
    have HGI := Lib.hid hI
    clear hK hI hD
    go_wp2_with fail
    refine (HO21.out _).mono ?_
    rintro ev wq ⟨rfl, hb⟩
    have HG2 := Lib.hid (HGI.out.step hb)
    clear hb
    go_wp2
    exact HK.out () _ HG2.out
  intro _ hD
  simp only [Act.put, List.setIfInBounds_toArray, List.set_cons_zero, List.set_cons_succ]
  refine ghost_step (i := 7) (j := 2) (d := 4) (dj := 18) (fuel := 6) (fun (y : Unit) => .agg #[.bool true, .string n3]) (fun y => GIz (v2.drew) (#[.bool false, .string ⟨#[]⟩, .bool false, .string ⟨#[]⟩]) (73)) (by kernel_rfl) (by kernel_rfl) rfl rfl hD (by kernel_rfl) (by decide) (fun _ _ _ _ h => h.1) (fun _ _ _ h => h.1) (alloc_zK rfl rfl (fun _ _ => by kernel_rfl)) ?hs3_2b2 ?hn3_2b2
  case hs3_2b2 =>
    intro gb gx gw hI K hK
    try simp only [Act.put, List.setIfInBounds_toArray, List.set_cons_zero, List.set_cons_succ] at hK ⊢
    have HK := Lib.hid hK
    have HGI := Lib.hid hI
    clear hK hI hD
    go_wp2_with fail
    refine (HI3.out _).mono ?_
    rintro ev wq ⟨rfl, hb⟩
    have HG2 := Lib.hid (HGI.out.step hb)
    clear hb
    go_wp2
    exact HK.out () _ HG2.out
  intro _ hD
  simp only [Act.put, List.setIfInBounds_toArray, List.set_cons_zero, List.set_cons_succ]
  refine ghost_step (i := 7) (j := 3) (d := 4) (dj := 19) (fuel := 5) (fun (y : Unit) => .tuple #[.agg #[.bool false, .string n5, .bool false, .string n8], .int .i64 0]) (fun y => GIz (v2.drew) (#[.bool false, .string ⟨#[]⟩, .bool false, .string ⟨#[]⟩]) (73)) (by kernel_rfl) (by kernel_rfl) rfl rfl hD (by kernel_rfl) (by decide) (fun _ _ _ _ h => h.1) (fun _ _ _ h => h.1) (alloc_zK rfl rfl (fun _ _ => by kernel_rfl)) ?hs3_3b2 ?hn3_3b2
  case hs3_3b2 =>
    intro gb gx gw hI K hK
    try simp only [Act.put, List.setIfInBounds_toArray, List.set_cons_zero, List.set_cons_succ] at hK ⊢
    have HK := Lib.hid hK
    have HGI := Lib.hid hI
    clear hK hI hD
    go_wp2_with fail
    refine (HTM.out _).mono ?_
    rintro ev wq ⟨rfl, hb⟩
    have HG2 := Lib.hid (HGI.out.step hb)
    clear hb
    go_wp2
    exact HK.out () _ HG2.out
  intro _ hD
  simp only [Act.put, List.setIfInBounds_toArray, List.set_cons_zero, List.set_cons_succ]
  refine ghost_pure (i := 7) (j := 4) (d := 4) (dj := 15) (v := ?v3_4b2) (fuel := 4) rfl (by kernel_rfl) (by kernel_rfl) (by kernel_rfl) (by kernel_rfl) (fun _ _ _ h => h) hD (by kernel_rfl) (by decide) (by decide) (fun _ _ _ h => h.1) (fun x => .inl ⟨by kernel_rfl, ?y3_4b2⟩) ?n3_4b2
  case y3_4b2 => intro w' _; go_simp; with_reducible rfl
  clear hD; intro hD
  simp only [Act.put, List.setIfInBounds_toArray, List.set_cons_zero, List.set_cons_succ]
  refine ghost_pure (i := 7) (j := 5) (d := 4) (dj := 20) (v := ?v3_5b2) (fuel := 3) rfl (by kernel_rfl) (by kernel_rfl) (by kernel_rfl) (by kernel_rfl) (fun _ _ _ h => h) hD (by kernel_rfl) (by decide) (by decide) (fun _ _ _ h => h.1) (fun x => .inl ⟨by kernel_rfl, ?y3_5b2⟩) ?n3_5b2
  case y3_5b2 => intro w' _; go_simp; with_reducible rfl
  clear hD; intro hD
  simp only [Act.put, List.setIfInBounds_toArray, List.set_cons_zero, List.set_cons_succ]
  refine ghost_pure (i := 7) (j := 6) (d := 4) (dj := 21) (v := ?v3_6b2) (fuel := 2) rfl (by kernel_rfl) (by kernel_rfl) (by kernel_rfl) (by kernel_rfl) (fun _ _ _ h => h) hD (by kernel_rfl) (by decide) (by decide) (fun _ _ _ h => h.1) (fun x => .inl ⟨by kernel_rfl, ?y3_6b2⟩) ?n3_6b2
  case y3_6b2 => intro w' _; go_simp; with_reducible rfl
  clear hD; intro hD
  simp only [Act.put, List.setIfInBounds_toArray, List.set_cons_zero, List.set_cons_succ]
  refine ghost_end (by kernel_rfl) rfl hD (fun _ _ _ h => h.1) (alloc_zK rfl rfl (fun _ _ => by kernel_rfl)) ?_
  intro gx gw hI hD
  obtain ⟨hSG, hx⟩ := hI
  obtain ⟨GB, rfl, hBG, hZG⟩ := hx rfl
  have HSG := Lib.hid hSG
  have HBG := Lib.hid hBG
  have HZG := Lib.hid hZG
  clear hx hSG hBG hZG
  simp only [Act.put, List.setIfInBounds_toArray, List.set_cons_zero, List.set_cons_succ]
  refine wpAnyK_one (i := 8) (fuel := 1) (by kernel_rfl) rfl hD ?_
  clear hD; intro K8 hK8
  have hz : Bx4 gw GB (.bool false) (.string ⟨#[]⟩) (.bool false) (.string ⟨#[]⟩) 73 := HZG.out
  obtain ⟨p0, p1, p2, p3⟩ := hz.cells
  have f0 := hz.free 0
  have f1 := hz.free 1
  have f2 := hz.free 2
  have f3 := hz.free 3
  clear hz
  go_wp2
  refine hK8 _ _ (by exact below_set4 HSG.out HBG.out _ _ _ _) ?_; clear hK8; intro hS_3_8_g hD
  refine wpAnyK_one (i := 9) (fuel := 0) (by kernel_rfl) rfl hD ?_
  clear hD; intro K9 hK9
  go_wp2
  refine hK9 _ _ (by exact hS_3_8_g) ?_; clear hK9; intro hS_3_9_g hD
  refine wpAnyK_done (by kernel_rfl) ?_ 0
  clear hD p0 p1 p2 p3 f0 f1 f2 f3 g0 g1 g2 g3
  have hz8 : Bx4 _ GB (.bool false) (.string n5) (.bool false) (.string n8) 73 := Bx4.set4 (show Bx4 gw GB (.bool false) (.string ⟨#[]⟩) (.bool false) (.string ⟨#[]⟩) 73 from HZG.out)
  have hb8 := ((Below.refl v2.heap.size v2).drew).trans hS_3_9_g
  refine hKK3 _ _ ?_
  obtain ⟨W3, hW3⟩ : ∃ W8, (((gw.setCell ⟨GB, 0, none⟩ (.bool false)).setCell ⟨GB, 1, none⟩ (.string n5)).setCell ⟨GB, 2, none⟩ (.bool false)).setCell ⟨GB, 3, none⟩ (.string n8) = W8 := ⟨_, rfl⟩
  rw [hW3] at hz8 hb8 ⊢
  have HZ3 := Lib.hid hz8
  have HK3 := Lib.hid (HK2.out.next hb8)
  have HB3x := Lib.hid (HB2x.out.trans (hb8.mono HB2x.out.size))
  clear hz8 hb8 hW3
  go_wp2
  obtain ⟨g0, g1, g2, g3⟩ := (show Bx4 W3.drew K (.string M) (.string O) (.string n4) (.string n3) 26 from HK3.out).cells
  rename_i KK4 hKK4
  refine wp_onlyN ?_
  refine wp_region_K 9 (Below (W3.drew).heap.size (W3.drew)) (by kernel_rfl) ?_
  intro hD
  refine wpAnyK_takeSD (i := 0) (d := some 23) (v := ?v4_0b3) (fuel := 8) rfl (by kernel_rfl) (by kernel_rfl) (by kernel_rfl) (fun _ _ _ h => h) hD (Below.refl _ _) (.inl ⟨by kernel_rfl, ?y4_0b3⟩) ?n4_0b3
  case y4_0b3 => intro w' hS'; have e0 := cell_kept hS' (Nat.le_refl _) g0; have e1 := cell_kept hS' (Nat.le_refl _) g1; have e2 := cell_kept hS' (Nat.le_refl _) g2; have e3 := cell_kept hS' (Nat.le_refl _) g3; go_simp; with_reducible rfl
  clear hD; intro hD
  simp only [Act.put, List.setIfInBounds_toArray, List.set_cons_zero, List.set_cons_succ]
  refine wpAnyK_one (i := 1) (fuel := 7) (by kernel_rfl) rfl hD ?_
  clear hD; intro K1 hK1
  go_wp2_with fail
  refine (HN2.out _).mono ?_
  rintro ev v3 ⟨rfl, hb⟩
  have HB1 := Lib.hid hb
  clear hb
  go_wp2
  refine hK1 _ _ (by exact HB1.out) ?_; clear hK1; intro hS_4_1 hD
  refine wpAnyK_one (i := 2) (fuel := 6) (by kernel_rfl) rfl hD ?_
  clear hD; intro K2 hK2
  go_wp2_with fail
  refine (HI1.out _).mono ?_
  rintro ev v4 ⟨rfl, hb⟩
  have HB2 := Lib.hid hb
  clear hb
  go_wp2
  refine hK2 _ _ (by exact Below.trans hS_4_1 (Below.mono HB2.out (Below.size hS_4_1))) ?_; clear hK2; intro hS_4_2 hD
  refine wpAnyK_one (i := 3) (fuel := 5) (by kernel_rfl) rfl hD ?_
  clear hD; intro K3 hK3
  go_wp2_with fail
  refine (HSH.out _).mono ?_
  rintro ev v5 ⟨rfl, hb⟩
  have HB3 := Lib.hid hb
  clear hb
  go_wp2
  refine hK3 _ _ (by exact Below.trans hS_4_2 (Below.mono HB3.out (Below.size hS_4_2))) ?_; clear hK3; intro hS_4_3 hD
  refine wpAnyK_pureD (i := 4) (d := some 22) (v := ?v4_4b3) (fuel := 4) rfl (by kernel_rfl) (by kernel_rfl) (fun _ _ _ h => h) hD hS_4_3 (.inl ⟨by kernel_rfl, ?y4_4b3⟩) ?n4_4b3
  case y4_4b3 => intro w' _; go_simp; with_reducible rfl
  clear hD; intro hD
  simp only [Act.put, List.setIfInBounds_toArray, List.set_cons_zero, List.set_cons_succ]
  refine wpAnyK_pureD (i := 5) (d := some 27) (v := ?v4_5b3) (fuel := 3) rfl (by kernel_rfl) (by kernel_rfl) (fun _ _ _ h => h) hD hS_4_3 (.inl ⟨by kernel_rfl, ?y4_5b3⟩) ?n4_5b3
  case y4_5b3 => intro w' _; go_simp; with_reducible rfl
  clear hD; intro hD
  simp only [Act.put, List.setIfInBounds_toArray, List.set_cons_zero, List.set_cons_succ]
  refine wpAnyK_pureD (i := 6) (d := some 28) (v := ?v4_6b3) (fuel := 2) rfl (by kernel_rfl) (by kernel_rfl) (fun _ _ _ h => h) hD hS_4_3 (.inl ⟨by kernel_rfl, ?y4_6b3⟩) ?n4_6b3
  case y4_6b3 => intro w' _; go_simp; with_reducible rfl
  clear hD; intro hD
  simp only [Act.put, List.setIfInBounds_toArray, List.set_cons_zero, List.set_cons_succ]
  refine wpAnyK_one (i := 7) (fuel := 1) (by kernel_rfl) rfl hD ?_
  clear hD; intro K7 hK7
  go_wp2
  refine hK7 _ _ (by exact hS_4_3) ?_; clear hK7; intro hS_4_7 hD
  refine wpAnyK_one (i := 8) (fuel := 0) (by kernel_rfl) rfl hD ?_
  clear hD; intro K8 hK8
  go_wp2
  refine hK8 _ _ (by exact hS_4_7) ?_; clear hK8; intro hS_4_8 hD
  refine wpAnyK_done (by kernel_rfl) ?_ 0
  clear hD g0 g1 g2 g3
  have hb := (Below.refl W3.heap.size W3).drew.trans hS_4_8
  have HK4 := Lib.hid (HK3.out.next hb)
  have HZ4 := Lib.hid (HZ3.out.next hb)
  have HB4x := Lib.hid (HB3x.out.trans (hb.mono HB3x.out.size))
  clear hb
  refine hKK4 _ _ ?_
  go_wp2
  obtain ⟨g0, g1, g2, g3⟩ := (show Bx4 v5.drew K (.string M) (.string O) (.string n4) (.string n3) 26 from HK4.out).cells
  obtain ⟨z0, z1, z2, z3⟩ := (show Bx4 v5.drew GB (.bool false) (.string n5) (.bool false) (.string n8) 73 from HZ4.out).cells
  refine wp_region_K 39 (Below (v5.drew).heap.size (v5.drew)) (by kernel_rfl) ?_
  intro hD
  refine wpAnyK_pureD (i := 0) (d := some 29) (v := ?v5_0b4) (fuel := 38) rfl (by kernel_rfl) (by kernel_rfl) (fun _ _ _ h => h) hD (Below.refl _ _) (.inl ⟨by kernel_rfl, ?y5_0b4⟩) ?n5_0b4
  case y5_0b4 => intro w' _; go_simp; with_reducible rfl
  clear hD; intro hD
  simp only [Act.put, List.setIfInBounds_toArray, List.set_cons_zero, List.set_cons_succ]
  refine wpAnyK_pureD (i := 1) (d := some 30) (v := ?v5_1b4) (fuel := 37) rfl (by kernel_rfl) (by kernel_rfl) (fun _ _ _ h => h) hD (Below.refl _ _) (.inl ⟨by kernel_rfl, ?y5_1b4⟩) ?n5_1b4
  case y5_1b4 => intro w' _; go_simp; with_reducible rfl
  clear hD; intro hD
  simp only [Act.put, List.setIfInBounds_toArray, List.set_cons_zero, List.set_cons_succ]
  refine wpAnyK_pureD (i := 2) (d := some 31) (v := ?v5_2b4) (fuel := 36) rfl (by kernel_rfl) (by kernel_rfl) (fun _ _ _ h => h) hD (Below.refl _ _) (.inl ⟨by kernel_rfl, ?y5_2b4⟩) ?n5_2b4
  case y5_2b4 => intro w' _; go_simp; with_reducible rfl
  clear hD; intro hD
  simp only [Act.put, List.setIfInBounds_toArray, List.set_cons_zero, List.set_cons_succ]
  refine wpAnyK_pureD (i := 3) (d := some 32) (v := ?v5_3b4) (fuel := 35) rfl (by kernel_rfl) (by kernel_rfl) (fun _ _ _ h => h) hD (Below.refl _ _) (.inl ⟨by kernel_rfl, ?y5_3b4⟩) ?n5_3b4
  case y5_3b4 => intro w' _; go_simp; with_reducible rfl
  clear hD; intro hD
  simp only [Act.put, List.setIfInBounds_toArray, List.set_cons_zero, List.set_cons_succ]
  refine wpAnyK_one (i := 4) (fuel := 34) (by kernel_rfl) rfl hD ?_
  clear hD; intro K4 hK4
  go_wp2_with fail
  refine (HN2.out _).mono ?_
  rintro ev u1 ⟨rfl, hb⟩
  have HB4 := Lib.hid hb
  clear hb
  go_wp2
  refine hK4 _ _ (by exact HB4.out) ?_; clear hK4; intro hS_5_4 hD
  refine wpAnyK_pureD (i := 5) (d := some 34) (v := ?v5_5b4) (fuel := 33) rfl (by kernel_rfl) (by kernel_rfl) (fun _ _ _ h => h) hD hS_5_4 (.inl ⟨by kernel_rfl, ?y5_5b4⟩) ?n5_5b4
  case y5_5b4 => intro w' _; go_simp; with_reducible rfl
  clear hD; intro hD
  simp only [Act.put, List.setIfInBounds_toArray, List.set_cons_zero, List.set_cons_succ]
  refine wpAnyK_pureD (i := 6) (d := some 35) (v := ?v5_6b4) (fuel := 32) rfl (by kernel_rfl) (by kernel_rfl) (fun _ _ _ h => h) hD hS_5_4 (.inl ⟨by kernel_rfl, ?y5_6b4⟩) ?n5_6b4
  case y5_6b4 => intro w' _; go_simp; with_reducible rfl
  clear hD; intro hD
  simp only [Act.put, List.setIfInBounds_toArray, List.set_cons_zero, List.set_cons_succ]
  refine wpAnyK_pureD (i := 7) (d := some 36) (v := ?v5_7b4) (fuel := 31) rfl (by kernel_rfl) (by kernel_rfl) (fun _ _ _ h => h) hD hS_5_4 (.inl ⟨by kernel_rfl, ?y5_7b4⟩) ?n5_7b4
  case y5_7b4 => intro w' _; go_simp; with_reducible rfl
  clear hD; intro hD
  simp only [Act.put, List.setIfInBounds_toArray, List.set_cons_zero, List.set_cons_succ]
  refine wpAnyK_takeSD (i := 8) (d := some 37) (v := ?v5_8b4) (fuel := 30) rfl (by kernel_rfl) (by kernel_rfl) (by kernel_rfl) (fun _ _ _ h => h) hD hS_5_4 (.inl ⟨by kernel_rfl, ?y5_8b4⟩) ?n5_8b4
  case y5_8b4 => intro w' hS'; have e0 := cell_kept hS' (Nat.le_refl _) g0; have e1 := cell_kept hS' (Nat.le_refl _) g1; have e2 := cell_kept hS' (Nat.le_refl _) g2; have e3 := cell_kept hS' (Nat.le_refl _) g3; have e4 := cell_kept hS' (Nat.le_refl _) z0; have e5 := cell_kept hS' (Nat.le_refl _) z1; have e6 := cell_kept hS' (Nat.le_refl _) z2; have e7 := cell_kept hS' (Nat.le_refl _) z3; go_simp; with_reducible rfl
  clear hD; intro hD
  simp only [Act.put, List.setIfInBounds_toArray, List.set_cons_zero, List.set_cons_succ]
  refine wpAnyK_pureD (i := 9) (d := some 38) (v := ?v5_9b4) (fuel := 29) rfl (by kernel_rfl) (by kernel_rfl) (fun _ _ _ h => h) hD hS_5_4 (.inl ⟨by kernel_rfl, ?y5_9b4⟩) ?n5_9b4
  case y5_9b4 => intro w' _; go_simp; with_reducible rfl
  clear hD; intro hD
  simp only [Act.put, List.setIfInBounds_toArray, List.set_cons_zero, List.set_cons_succ]
  refine wpAnyK_one (i := 10) (fuel := 28) (by kernel_rfl) rfl hD ?_
  clear hD; intro K10 hK10
  go_wp2_with fail
  refine (HO60.out _).mono ?_
  rintro ev u2 ⟨rfl, hb⟩
  have HB10 := Lib.hid hb
  clear hb
  go_wp2
  refine hK10 _ _ (by exact Below.trans hS_5_4 (Below.mono HB10.out (Below.size hS_5_4))) ?_; clear hK10; intro hS_5_10 hD
  refine wpAnyK_one (i := 11) (fuel := 27) (by kernel_rfl) rfl hD ?_
  clear hD; intro K11 hK11
  go_wp2_with fail
  refine (HOA.out _).mono ?_
  rintro ev u3 ⟨rfl, hb⟩
  have HB11 := Lib.hid hb
  clear hb
  go_wp2
  refine hK11 _ _ (by exact Below.trans hS_5_10 (Below.mono HB11.out (Below.size hS_5_10))) ?_; clear hK11; intro hS_5_11 hD
  refine wpAnyK_pureD (i := 12) (d := some 41) (v := ?v5_12b4) (fuel := 26) rfl (by kernel_rfl) (by kernel_rfl) (fun _ _ _ h => h) hD hS_5_11 (.inl ⟨by kernel_rfl, ?y5_12b4⟩) ?n5_12b4
  case y5_12b4 => intro w' _; go_simp; with_reducible rfl
  clear hD; intro hD
  simp only [Act.put, List.setIfInBounds_toArray, List.set_cons_zero, List.set_cons_succ]
  refine wpAnyK_pureD (i := 13) (d := some 42) (v := ?v5_13b4) (fuel := 25) rfl (by kernel_rfl) (by kernel_rfl) (fun _ _ _ h => h) hD hS_5_11 (.inl ⟨by kernel_rfl, ?y5_13b4⟩) ?n5_13b4
  case y5_13b4 => intro w' _; go_simp; with_reducible rfl
  clear hD; intro hD
  simp only [Act.put, List.setIfInBounds_toArray, List.set_cons_zero, List.set_cons_succ]
  refine wpAnyK_takeSD (i := 14) (d := some 43) (v := ?v5_14b4) (fuel := 24) rfl (by kernel_rfl) (by kernel_rfl) (by kernel_rfl) (fun _ _ _ h => h) hD hS_5_11 (.inl ⟨by kernel_rfl, ?y5_14b4⟩) ?n5_14b4
  case y5_14b4 => intro w' hS'; have e0 := cell_kept hS' (Nat.le_refl _) g0; have e1 := cell_kept hS' (Nat.le_refl _) g1; have e2 := cell_kept hS' (Nat.le_refl _) g2; have e3 := cell_kept hS' (Nat.le_refl _) g3; have e4 := cell_kept hS' (Nat.le_refl _) z0; have e5 := cell_kept hS' (Nat.le_refl _) z1; have e6 := cell_kept hS' (Nat.le_refl _) z2; have e7 := cell_kept hS' (Nat.le_refl _) z3; go_simp; with_reducible rfl
  clear hD; intro hD
  simp only [Act.put, List.setIfInBounds_toArray, List.set_cons_zero, List.set_cons_succ]
  refine wpAnyK_pureD (i := 15) (d := some 44) (v := ?v5_15b4) (fuel := 23) rfl (by kernel_rfl) (by kernel_rfl) (fun _ _ _ h => h) hD hS_5_11 (.inl ⟨by kernel_rfl, ?y5_15b4⟩) ?n5_15b4
  case y5_15b4 => intro w' _; go_simp; with_reducible rfl
  clear hD; intro hD
  simp only [Act.put, List.setIfInBounds_toArray, List.set_cons_zero, List.set_cons_succ]
  refine wpAnyK_one (i := 16) (fuel := 22) (by kernel_rfl) rfl hD ?_
  clear hD; intro K16 hK16
  go_wp2_with fail
  refine (HO61.out _).mono ?_
  rintro ev u4 ⟨rfl, hb⟩
  have HB16 := Lib.hid hb
  clear hb
  go_wp2
  refine hK16 _ _ (by exact Below.trans hS_5_11 (Below.mono HB16.out (Below.size hS_5_11))) ?_; clear hK16; intro hS_5_16 hD
  refine wpAnyK_one (i := 17) (fuel := 21) (by kernel_rfl) rfl hD ?_
  clear hD; intro K17 hK17
  go_wp2_with fail
  refine (HOB.out _).mono ?_
  rintro ev u5 ⟨rfl, hb⟩
  have HB17 := Lib.hid hb
  clear hb
  go_wp2
  refine hK17 _ _ (by exact Below.trans hS_5_16 (Below.mono HB17.out (Below.size hS_5_16))) ?_; clear hK17; intro hS_5_17 hD
  refine wpAnyK_pureD (i := 18) (d := some 47) (v := ?v5_18b4) (fuel := 20) rfl (by kernel_rfl) (by kernel_rfl) (fun _ _ _ h => h) hD hS_5_17 (.inl ⟨by kernel_rfl, ?y5_18b4⟩) ?n5_18b4
  case y5_18b4 => intro w' _; go_simp; with_reducible rfl
  clear hD; intro hD
  simp only [Act.put, List.setIfInBounds_toArray, List.set_cons_zero, List.set_cons_succ]
  refine wpAnyK_pureD (i := 19) (d := some 48) (v := ?v5_19b4) (fuel := 19) rfl (by kernel_rfl) (by kernel_rfl) (fun _ _ _ h => h) hD hS_5_17 (.inl ⟨by kernel_rfl, ?y5_19b4⟩) ?n5_19b4
  case y5_19b4 => intro w' _; go_simp; with_reducible rfl
  clear hD; intro hD
  simp only [Act.put, List.setIfInBounds_toArray, List.set_cons_zero, List.set_cons_succ]
  refine wpAnyK_pureD (i := 20) (d := some 49) (v := ?v5_20b4) (fuel := 18) rfl (by kernel_rfl) (by kernel_rfl) (fun _ _ _ h => h) hD hS_5_17 (.inl ⟨by kernel_rfl, ?y5_20b4⟩) ?n5_20b4
  case y5_20b4 => intro w' _; go_simp; with_reducible rfl
  clear hD; intro hD
  simp only [Act.put, List.setIfInBounds_toArray, List.set_cons_zero, List.set_cons_succ]
  refine wpAnyK_pureD (i := 21) (d := some 50) (v := ?v5_21b4) (fuel := 17) rfl (by kernel_rfl) (by kernel_rfl) (fun _ _ _ h => h) hD hS_5_17 (.inl ⟨by kernel_rfl, ?y5_21b4⟩) ?n5_21b4
  case y5_21b4 => intro w' _; go_simp; with_reducible rfl
  clear hD; intro hD
  simp only [Act.put, List.setIfInBounds_toArray, List.set_cons_zero, List.set_cons_succ]
  refine wpAnyK_pureD (i := 22) (d := some 51) (v := ?v5_22b4) (fuel := 16) rfl (by kernel_rfl) (by kernel_rfl) (fun _ _ _ h => h) hD hS_5_17 (.inl ⟨by kernel_rfl, ?y5_22b4⟩) ?n5_22b4
  case y5_22b4 => intro w' _; go_simp; with_reducible rfl
  clear hD; intro hD
  simp only [Act.put, List.setIfInBounds_toArray, List.set_cons_zero, List.set_cons_succ]
  refine wpAnyK_pureD (i := 23) (d := some 52) (v := ?v5_23b4) (fuel := 15) rfl (by kernel_rfl) (by kernel_rfl) (fun _ _ _ h => h) hD hS_5_17 (.inl ⟨by kernel_rfl, ?y5_23b4⟩) ?n5_23b4
  case y5_23b4 => intro w' _; go_simp; with_reducible rfl
  clear hD; intro hD
  simp only [Act.put, List.setIfInBounds_toArray, List.set_cons_zero, List.set_cons_succ]
  refine wpAnyK_pureD (i := 24) (d := some 53) (v := ?v5_24b4) (fuel := 14) rfl (by kernel_rfl) (by kernel_rfl) (fun _ _ _ h => h) hD hS_5_17 (.inl ⟨by kernel_rfl, ?y5_24b4⟩) ?n5_24b4
  case y5_24b4 => intro w' _; go_simp; with_reducible rfl
  clear hD; intro hD
  simp only [Act.put, List.setIfInBounds_toArray, List.set_cons_zero, List.set_cons_succ]
  refine wpAnyK_takeSD (i := 25) (d := some 54) (v := ?v5_25b4) (fuel := 13) rfl (by kernel_rfl) (by kernel_rfl) (by kernel_rfl) (fun _ _ _ h => h) hD hS_5_17 (.inl ⟨by kernel_rfl, ?y5_25b4⟩) ?n5_25b4
  case y5_25b4 => intro w' hS'; have e0 := cell_kept hS' (Nat.le_refl _) g0; have e1 := cell_kept hS' (Nat.le_refl _) g1; have e2 := cell_kept hS' (Nat.le_refl _) g2; have e3 := cell_kept hS' (Nat.le_refl _) g3; have e4 := cell_kept hS' (Nat.le_refl _) z0; have e5 := cell_kept hS' (Nat.le_refl _) z1; have e6 := cell_kept hS' (Nat.le_refl _) z2; have e7 := cell_kept hS' (Nat.le_refl _) z3; go_simp; with_reducible rfl
  clear hD; intro hD
  simp only [Act.put, List.setIfInBounds_toArray, List.set_cons_zero, List.set_cons_succ]
  refine wpAnyK_one (i := 26) (fuel := 12) (by kernel_rfl) rfl hD ?_
  clear hD; intro K26 hK26
  go_wp2_with fail
  refine (HO58.out _).mono ?_
  rintro ev u6 ⟨rfl, hb⟩
  have HB26 := Lib.hid hb
  clear hb
  go_wp2
  refine hK26 _ _ (by exact Below.trans hS_5_17 (Below.mono HB26.out (Below.size hS_5_17))) ?_; clear hK26; intro hS_5_26 hD
  refine wpAnyK_pureD (i := 27) (d := some 56) (v := ?v5_27b4) (fuel := 11) rfl (by kernel_rfl) (by kernel_rfl) (fun _ _ _ h => h) hD hS_5_26 (.inl ⟨by kernel_rfl, ?y5_27b4⟩) ?n5_27b4
  case y5_27b4 => intro w' _; go_simp; with_reducible rfl
  clear hD; intro hD
  simp only [Act.put, List.setIfInBounds_toArray, List.set_cons_zero, List.set_cons_succ]
  refine wpAnyK_pureD (i := 28) (d := some 57) (v := ?v5_28b4) (fuel := 10) rfl (by kernel_rfl) (by kernel_rfl) (fun _ _ _ h => h) hD hS_5_26 (.inl ⟨by kernel_rfl, ?y5_28b4⟩) ?n5_28b4
  case y5_28b4 => intro w' _; go_simp; with_reducible rfl
  clear hD; intro hD
  simp only [Act.put, List.setIfInBounds_toArray, List.set_cons_zero, List.set_cons_succ]
  refine wpAnyK_pureD (i := 29) (d := some 58) (v := ?v5_29b4) (fuel := 9) rfl (by kernel_rfl) (by kernel_rfl) (fun _ _ _ h => h) hD hS_5_26 (.inl ⟨by kernel_rfl, ?y5_29b4⟩) ?n5_29b4
  case y5_29b4 => intro w' _; go_simp; with_reducible rfl
  clear hD; intro hD
  simp only [Act.put, List.setIfInBounds_toArray, List.set_cons_zero, List.set_cons_succ]
  refine wpAnyK_pureD (i := 30) (d := some 59) (v := ?v5_30b4) (fuel := 8) rfl (by kernel_rfl) (by kernel_rfl) (fun _ _ _ h => h) hD hS_5_26 (.inl ⟨by kernel_rfl, ?y5_30b4⟩) ?n5_30b4
  case y5_30b4 => intro w' _; go_simp; with_reducible rfl
  clear hD; intro hD
  simp only [Act.put, List.setIfInBounds_toArray, List.set_cons_zero, List.set_cons_succ]
  refine wpAnyK_pureD (i := 31) (d := some 60) (v := ?v5_31b4) (fuel := 7) rfl (by kernel_rfl) (by kernel_rfl) (fun _ _ _ h => h) hD hS_5_26 (.inl ⟨by kernel_rfl, ?y5_31b4⟩) ?n5_31b4
  case y5_31b4 => intro w' _; go_simp; with_reducible rfl
  clear hD; intro hD
  simp only [Act.put, List.setIfInBounds_toArray, List.set_cons_zero, List.set_cons_succ]
  refine wpAnyK_pureD (i := 32) (d := some 61) (v := ?v5_32b4) (fuel := 6) rfl (by kernel_rfl) (by kernel_rfl) (fun _ _ _ h => h) hD hS_5_26 (.inl ⟨by kernel_rfl, ?y5_32b4⟩) ?n5_32b4
  case y5_32b4 => intro w' _; go_simp; with_reducible rfl
  clear hD; intro hD
  simp only [Act.put, List.setIfInBounds_toArray, List.set_cons_zero, List.set_cons_succ]
  refine wpAnyK_pureD (i := 33) (d := some 62) (v := ?v5_33b4) (fuel := 5) rfl (by kernel_rfl) (by kernel_rfl) (fun _ _ _ h => h) hD hS_5_26 (.inl ⟨by kernel_rfl, ?y5_33b4⟩) ?n5_33b4
  case y5_33b4 => intro w' _; go_simp; with_reducible rfl
  clear hD; intro hD
  simp only [Act.put, List.setIfInBounds_toArray, List.set_cons_zero, List.set_cons_succ]
  refine wpAnyK_pureD (i := 34) (d := some 63) (v := ?v5_34b4) (fuel := 4) rfl (by kernel_rfl) (by kernel_rfl) (fun _ _ _ h => h) hD hS_5_26 (.inl ⟨by kernel_rfl, ?y5_34b4⟩) ?n5_34b4
  case y5_34b4 => intro w' _; go_simp; with_reducible rfl
  clear hD; intro hD
  simp only [Act.put, List.setIfInBounds_toArray, List.set_cons_zero, List.set_cons_succ]
  refine wpAnyK_one (i := 35) (fuel := 3) (by kernel_rfl) rfl hD ?_
  clear hD; intro K35 hK35
  go_wp2_with fail
  refine (HN8.out _).mono ?_
  rintro ev u7 ⟨rfl, hb⟩
  have HB35 := Lib.hid hb
  clear hb
  go_wp2
  refine hK35 _ _ (by exact Below.trans hS_5_26 (Below.mono HB35.out (Below.size hS_5_26))) ?_; clear hK35; intro hS_5_35 hD
  refine wpAnyK_pureD (i := 36) (d := some 65) (v := ?v5_36b4) (fuel := 2) rfl (by kernel_rfl) (by kernel_rfl) (fun _ _ _ h => h) hD hS_5_35 (.inl ⟨by kernel_rfl, ?y5_36b4⟩) ?n5_36b4
  case y5_36b4 => intro w' _; go_simp; with_reducible rfl
  clear hD; intro hD
  simp only [Act.put, List.setIfInBounds_toArray, List.set_cons_zero, List.set_cons_succ]
  refine wpAnyK_pureD (i := 37) (d := some 66) (v := ?v5_37b4) (fuel := 1) rfl (by kernel_rfl) (by kernel_rfl) (fun _ _ _ h => h) hD hS_5_35 (.inl ⟨by kernel_rfl, ?y5_37b4⟩) ?n5_37b4
  case y5_37b4 => intro w' _; go_simp; with_reducible rfl
  clear hD; intro hD
  simp only [Act.put, List.setIfInBounds_toArray, List.set_cons_zero, List.set_cons_succ]
  refine wpAnyK_one (i := 38) (fuel := 0) (by kernel_rfl) rfl hD ?_
  clear hD; intro K38 hK38
  go_wp2
  refine hK38 _ _ (by exact hS_5_35) ?_; clear hK38; intro hS_5_38 hD
  refine wpAnyK_done (by kernel_rfl) ?_ 0
  clear hD
  have HBF := Lib.hid (HB4x.out.trans (((Below.refl v5.heap.size v5).drew.trans hS_5_38).mono HB4x.out.size))
  go_wp2
  go_ret
  exact ⟨rfl, HBF.out⟩
end Go.Proofs.YtpdejgdkpghjhaaGreatDoor

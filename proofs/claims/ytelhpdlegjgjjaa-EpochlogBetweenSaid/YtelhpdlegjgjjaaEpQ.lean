/- Walks: dominoref37.nats, Same; slices.Equal; epochlog.At. -/
import Derived.Test.YtelhpdlegjgjjaaEpP
set_option linter.unusedVariables false
set_option linter.unusedSimpArgs false
namespace Go.Proofs.Ytelhpdlegjgjjaa
open Go.RowKit

set_option maxRecDepth 100000 in
set_option maxHeartbeats 1000000 in
theorem r37_nats (l : List ByteArray) (A B : Option Addr) (n c n' c' : Nat) (w : World) (hs : SlN w A n c l) (hs' : SlN w B n' c' l) : Calls Try.prog 39 #[.slice A n c, .slice B n' c'] w (Ret (.bool true) w) := by
  obtain rfl : n' = n := by rw [← hs.1, ← hs'.1]
  have HS := Lib.hid hs
  have HS' := Lib.hid hs'
  have HLEN := Lib.hid hs.1
  have hcap := hs.2.1
  have hcap2 := hs.2.2.1
  have hcap' := hs'.2.1
  have hcap2' := hs'.2.2.1
  clear hs hs'
  go_enter Try.func39, Try.ntmps39
  go_wp2
  go_loopw [5] (fun k wr => ∃ j : Nat, j ≤ n' ∧ k = .int .i64 j ∧ Below w.heap.size w wr) (fun k _ => n' - (intOf k).toNat)
  case atStart => exact ⟨0, Nat.zero_le _, rfl, Below.refl _ _⟩
  case round =>
    obtain ⟨j, hj, rfl, hbb⟩ := hrel
    have HB := Lib.hid hbb
    clear hbb
    by_cases hlt : j < n'
    · obtain ⟨y, he⟩ : ∃ y, l[j]? = some y := ⟨_, List.getElem?_eq_getElem (by rw [HLEN.out]; exact hlt)⟩
      obtain ⟨b, o, rfl, e1⟩ := (HS.out.kept HB.out (Nat.le_refl _)).cell he
      obtain ⟨b2, o2, rfl, e2⟩ := (HS'.out.kept HB.out (Nat.le_refl _)).cell he
      have e1 : wr.drew.cell? ⟨b, o + j, none⟩ = some (.string y) := e1
      have e2 : wr.drew.cell? ⟨b2, o2 + j, none⟩ = some (.string y) := e2
      clear he
      go_wp2
      refine wp_region_K 9 (Below (wr.drew).heap.size (wr.drew)) (by kernel_rfl) ?_
      intro hD
      refine wpAnyK_pureD (i := 0) (d := some 17) (v := ?v6_0b1) (fuel := 8) rfl (by kernel_rfl) (by kernel_rfl) (fun _ _ _ h => h) hD (Below.refl _ _) (.inl ⟨by kernel_rfl, ?y6_0b1⟩) ?n6_0b1
      case y6_0b1 => intro w' _; go_simp; with_reducible rfl
      clear hD; intro hD
      simp only [Act.put, List.setIfInBounds_toArray, List.set_cons_zero, List.set_cons_succ]
      refine wpAnyK_pureD (i := 1) (d := some 18) (v := ?v6_1b1) (fuel := 7) rfl (by kernel_rfl) (by kernel_rfl) (fun _ _ _ h => h) hD (Below.refl _ _) (.inl ⟨by kernel_rfl, ?y6_1b1⟩) ?n6_1b1
      case y6_1b1 => intro w' _; go_simp; with_reducible rfl
      clear hD; intro hD
      simp only [Act.put, List.setIfInBounds_toArray, List.set_cons_zero, List.set_cons_succ]
      refine wpAnyK_pureD (i := 2) (d := some 19) (v := ?v6_2b1) (fuel := 6) rfl (by kernel_rfl) (by kernel_rfl) (fun _ _ _ h => h) hD (Below.refl _ _) (.inl ⟨by kernel_rfl, ?y6_2b1⟩) ?n6_2b1
      case y6_2b1 => intro w' _; go_simp; with_reducible rfl
      clear hD; intro hD
      simp only [Act.put, List.setIfInBounds_toArray, List.set_cons_zero, List.set_cons_succ]
      refine wpAnyK_takeSD (i := 3) (d := some 20) (v := ?v6_3b1) (fuel := 5) rfl (by kernel_rfl) (by kernel_rfl) (by kernel_rfl) (fun _ _ _ h => h) hD (Below.refl _ _) (.inl ⟨by kernel_rfl, ?y6_3b1⟩) ?n6_3b1
      case y6_3b1 => intro w' hS'; have e0 := cell_kept hS' (Nat.le_refl _) e1; have e1 := cell_kept hS' (Nat.le_refl _) e2; go_simp; with_reducible rfl
      clear hD; intro hD
      simp only [Act.put, List.setIfInBounds_toArray, List.set_cons_zero, List.set_cons_succ]
      refine wpAnyK_pureD (i := 4) (d := some 21) (v := ?v6_4b1) (fuel := 4) rfl (by kernel_rfl) (by kernel_rfl) (fun _ _ _ h => h) hD (Below.refl _ _) (.inl ⟨by kernel_rfl, ?y6_4b1⟩) ?n6_4b1
      case y6_4b1 => intro w' _; go_simp; with_reducible rfl
      clear hD; intro hD
      simp only [Act.put, List.setIfInBounds_toArray, List.set_cons_zero, List.set_cons_succ]
      refine wpAnyK_pureD (i := 5) (d := some 22) (v := ?v6_5b1) (fuel := 3) rfl (by kernel_rfl) (by kernel_rfl) (fun _ _ _ h => h) hD (Below.refl _ _) (.inl ⟨by kernel_rfl, ?y6_5b1⟩) ?n6_5b1
      case y6_5b1 => intro w' _; go_simp; with_reducible rfl
      clear hD; intro hD
      simp only [Act.put, List.setIfInBounds_toArray, List.set_cons_zero, List.set_cons_succ]
      refine wpAnyK_pureD (i := 6) (d := some 23) (v := ?v6_6b1) (fuel := 2) rfl (by kernel_rfl) (by kernel_rfl) (fun _ _ _ h => h) hD (Below.refl _ _) (.inl ⟨by kernel_rfl, ?y6_6b1⟩) ?n6_6b1
      case y6_6b1 => intro w' _; go_simp; with_reducible rfl
      clear hD; intro hD
      simp only [Act.put, List.setIfInBounds_toArray, List.set_cons_zero, List.set_cons_succ]
      refine wpAnyK_takeSD (i := 7) (d := some 24) (v := ?v6_7b1) (fuel := 1) rfl (by kernel_rfl) (by kernel_rfl) (by kernel_rfl) (fun _ _ _ h => h) hD (Below.refl _ _) (.inl ⟨by kernel_rfl, ?y6_7b1⟩) ?n6_7b1
      case y6_7b1 => intro w' hS'; have e0 := cell_kept hS' (Nat.le_refl _) e1; have e1 := cell_kept hS' (Nat.le_refl _) e2; go_simp; with_reducible rfl
      clear hD; intro hD
      simp only [Act.put, List.setIfInBounds_toArray, List.set_cons_zero, List.set_cons_succ]
      refine wpAnyK_pureD (i := 8) (d := some 25) (v := ?v6_8b1) (fuel := 0) rfl (by kernel_rfl) (by kernel_rfl) (fun _ _ _ h => h) hD (Below.refl _ _) (.inl ⟨by kernel_rfl, ?y6_8b1⟩) ?n6_8b1
      case y6_8b1 => intro w' _; go_simp; with_reducible rfl
      clear hD; intro hD
      simp only [Act.put, List.setIfInBounds_toArray, List.set_cons_zero, List.set_cons_succ]
      refine wpAnyK_done (by kernel_rfl) ?_ 0
      clear hD
      have HB2 := Lib.hid (show Below w.heap.size w wr.drew from HB.out.trans ((Below.refl wr.heap.size wr).drew.mono HB.out.size))
      go_wp2
      go_roundw
      case rel => exact ⟨j + 1, by omega, by go_num, HB2.out⟩
      case measure => simp [intOf]; omega
    · obtain rfl : j = n' := by omega
      clear hlt hj
      go_wp2
      go_ret
      exact ⟨rfl, HB.out⟩
set_option maxRecDepth 100000 in
set_option maxHeartbeats 1000000 in
theorem sl_Equal (l : List ByteArray) (A B : Option Addr) (n c n' c' : Nat) (w : World) (hs : SlN w A n c l) (hs' : SlN w B n' c' l) : Calls Try.prog 18 #[.slice A n c, .slice B n' c'] w (Ret (.bool true) w) := by
  obtain rfl : n' = n := by rw [← hs.1, ← hs'.1]
  have HS := Lib.hid hs
  have HS' := Lib.hid hs'
  have HLEN := Lib.hid hs.1
  have hcap := hs.2.1
  have hcap2 := hs.2.2.1
  have hcap' := hs'.2.1
  have hcap2' := hs'.2.2.1
  clear hs hs'
  go_enter Try.func18, Try.ntmps18
  go_wp2
  go_loopw [13] (fun k wr => ∃ j : Nat, j ≤ n' ∧ k = .int .i64 j ∧ Below w.heap.size w wr) (fun k _ => n' - (intOf k).toNat)
  case atStart => exact ⟨0, Nat.zero_le _, rfl, Below.refl _ _⟩
  case round =>
    obtain ⟨j, hj, rfl, hbb⟩ := hrel
    have HB := Lib.hid hbb
    clear hbb
    by_cases hlt : j < n'
    · obtain ⟨y, he⟩ : ∃ y, l[j]? = some y := ⟨_, List.getElem?_eq_getElem (by rw [HLEN.out]; exact hlt)⟩
      obtain ⟨b, o, rfl, e1⟩ := (HS.out.kept HB.out (Nat.le_refl _)).cell he
      obtain ⟨b2, o2, rfl, e2⟩ := (HS'.out.kept HB.out (Nat.le_refl _)).cell he
      have e1 : wr.drew.cell? ⟨b, o + j, none⟩ = some (.string y) := e1
      have e2 : wr.drew.cell? ⟨b2, o2 + j, none⟩ = some (.string y) := e2
      clear he
      go_wp2
      refine wp_region_K 9 (Below (wr.drew).heap.size (wr.drew)) (by kernel_rfl) ?_
      intro hD
      refine wpAnyK_pureD (i := 0) (d := some 16) (v := ?v6_0b2) (fuel := 8) rfl (by kernel_rfl) (by kernel_rfl) (fun _ _ _ h => h) hD (Below.refl _ _) (.inl ⟨by kernel_rfl, ?y6_0b2⟩) ?n6_0b2
      case y6_0b2 => intro w' _; go_simp; with_reducible rfl
      clear hD; intro hD
      simp only [Act.put, List.setIfInBounds_toArray, List.set_cons_zero, List.set_cons_succ]
      refine wpAnyK_pureD (i := 1) (d := some 17) (v := ?v6_1b2) (fuel := 7) rfl (by kernel_rfl) (by kernel_rfl) (fun _ _ _ h => h) hD (Below.refl _ _) (.inl ⟨by kernel_rfl, ?y6_1b2⟩) ?n6_1b2
      case y6_1b2 => intro w' _; go_simp; with_reducible rfl
      clear hD; intro hD
      simp only [Act.put, List.setIfInBounds_toArray, List.set_cons_zero, List.set_cons_succ]
      refine wpAnyK_pureD (i := 2) (d := some 18) (v := ?v6_2b2) (fuel := 6) rfl (by kernel_rfl) (by kernel_rfl) (fun _ _ _ h => h) hD (Below.refl _ _) (.inl ⟨by kernel_rfl, ?y6_2b2⟩) ?n6_2b2
      case y6_2b2 => intro w' _; go_simp; with_reducible rfl
      clear hD; intro hD
      simp only [Act.put, List.setIfInBounds_toArray, List.set_cons_zero, List.set_cons_succ]
      refine wpAnyK_takeSD (i := 3) (d := some 19) (v := ?v6_3b2) (fuel := 5) rfl (by kernel_rfl) (by kernel_rfl) (by kernel_rfl) (fun _ _ _ h => h) hD (Below.refl _ _) (.inl ⟨by kernel_rfl, ?y6_3b2⟩) ?n6_3b2
      case y6_3b2 => intro w' hS'; have e0 := cell_kept hS' (Nat.le_refl _) e1; have e1 := cell_kept hS' (Nat.le_refl _) e2; go_simp; with_reducible rfl
      clear hD; intro hD
      simp only [Act.put, List.setIfInBounds_toArray, List.set_cons_zero, List.set_cons_succ]
      refine wpAnyK_pureD (i := 4) (d := some 20) (v := ?v6_4b2) (fuel := 4) rfl (by kernel_rfl) (by kernel_rfl) (fun _ _ _ h => h) hD (Below.refl _ _) (.inl ⟨by kernel_rfl, ?y6_4b2⟩) ?n6_4b2
      case y6_4b2 => intro w' _; go_simp; with_reducible rfl
      clear hD; intro hD
      simp only [Act.put, List.setIfInBounds_toArray, List.set_cons_zero, List.set_cons_succ]
      refine wpAnyK_pureD (i := 5) (d := some 21) (v := ?v6_5b2) (fuel := 3) rfl (by kernel_rfl) (by kernel_rfl) (fun _ _ _ h => h) hD (Below.refl _ _) (.inl ⟨by kernel_rfl, ?y6_5b2⟩) ?n6_5b2
      case y6_5b2 => intro w' _; go_simp; with_reducible rfl
      clear hD; intro hD
      simp only [Act.put, List.setIfInBounds_toArray, List.set_cons_zero, List.set_cons_succ]
      refine wpAnyK_pureD (i := 6) (d := some 22) (v := ?v6_6b2) (fuel := 2) rfl (by kernel_rfl) (by kernel_rfl) (fun _ _ _ h => h) hD (Below.refl _ _) (.inl ⟨by kernel_rfl, ?y6_6b2⟩) ?n6_6b2
      case y6_6b2 => intro w' _; go_simp; with_reducible rfl
      clear hD; intro hD
      simp only [Act.put, List.setIfInBounds_toArray, List.set_cons_zero, List.set_cons_succ]
      refine wpAnyK_takeSD (i := 7) (d := some 23) (v := ?v6_7b2) (fuel := 1) rfl (by kernel_rfl) (by kernel_rfl) (by kernel_rfl) (fun _ _ _ h => h) hD (Below.refl _ _) (.inl ⟨by kernel_rfl, ?y6_7b2⟩) ?n6_7b2
      case y6_7b2 => intro w' hS'; have e0 := cell_kept hS' (Nat.le_refl _) e1; have e1 := cell_kept hS' (Nat.le_refl _) e2; go_simp; with_reducible rfl
      clear hD; intro hD
      simp only [Act.put, List.setIfInBounds_toArray, List.set_cons_zero, List.set_cons_succ]
      refine wpAnyK_pureD (i := 8) (d := some 24) (v := ?v6_8b2) (fuel := 0) rfl (by kernel_rfl) (by kernel_rfl) (fun _ _ _ h => h) hD (Below.refl _ _) (.inl ⟨by kernel_rfl, ?y6_8b2⟩) ?n6_8b2
      case y6_8b2 => intro w' _; go_simp; with_reducible rfl
      clear hD; intro hD
      simp only [Act.put, List.setIfInBounds_toArray, List.set_cons_zero, List.set_cons_succ]
      refine wpAnyK_done (by kernel_rfl) ?_ 0
      clear hD
      have HB2 := Lib.hid (show Below w.heap.size w wr.drew from HB.out.trans ((Below.refl wr.heap.size wr).drew.mono HB.out.size))
      go_wp2
      go_roundw
      case rel => exact ⟨j + 1, by omega, by go_num, HB2.out⟩
      case measure => simp [intOf]; omega
    · obtain rfl : j = n' := by omega
      clear hlt hj
      go_wp2
      go_ret
      exact ⟨rfl, HB.out⟩
set_option maxRecDepth 100000 in
set_option maxHeartbeats 4000000 in
theorem r37_Same (d : Dl) (A1 A2 A3 A4 : Option Addr) (n1 c1 n2 c2 n3 c3 n4 c4 : Nat) (w : World) (h1 : SlN w A1 n1 c1 d.ad) (h2 : SlN w A2 n2 c2 d.rm) (h3 : SlN w A3 n3 c3 d.ad) (h4 : SlN w A4 n4 c4 d.rm) :
    Calls Try.prog 13 #[.agg (d.arr (.slice A1 n1 c1) (.slice A2 n2 c2)), .agg (d.arr (.slice A3 n3 c3) (.slice A4 n4 c4))] w (Ret (.bool true) w) := by
  obtain ⟨W0, hW0⟩ : ∃ W0, (w.alloc (.cells (d.arr (.slice A1 n1 c1) (.slice A2 n2 c2)) 27)).alloc (.cells (d.arr (.slice A3 n3 c3) (.slice A4 n4 c4)) 27) = W0 := ⟨_, rfl⟩
  obtain ⟨P, hP⟩ : ∃ P, w.heap.size = P := ⟨_, rfl⟩
  have HP0 := Lib.hid (show BxC W0 P (d.arr (.slice A1 n1 c1) (.slice A2 n2 c2)) 27 from by rw [← hW0, ← hP]; exact (BxC.new w _ _).alloc _)
  have HQ0 := Lib.hid (show BxC W0 (P + 1) (d.arr (.slice A3 n3 c3) (.slice A4 n4 c4)) 27 from by rw [← hW0, ← hP]; exact BxC.new1 w _ _ _)
  have HB0 := Lib.hid (show Below P w W0 from by rw [← hW0, ← hP]; exact ((Below.refl _ _).alloc (Nat.le_refl _) _).alloc (by simp) _)
  have HPE := Lib.hid hP
  have HW0 := Lib.hid (show P + 2 = W0.heap.size from by rw [← hW0, ← hP]; simp)
  have H1 := Lib.hid (h1.kept HB0.out (Nat.le_of_eq hP))
  have H2 := Lib.hid (h2.kept HB0.out (Nat.le_of_eq hP))
  have H3 := Lib.hid (h3.kept HB0.out (Nat.le_of_eq hP))
  have H4 := Lib.hid (h4.kept HB0.out (Nat.le_of_eq hP))
  have p0 : W0.cell? ⟨P, 0, none⟩ = some (.int .i64 d.fr) := BxC.cell HP0.out 0
  have p1 : W0.cell? ⟨P, 1, none⟩ = some (.int .i64 d.to) := BxC.cell HP0.out 1
  have p2 : W0.cell? ⟨P, 2, none⟩ = some (.slice A1 n1 c1) := BxC.cell HP0.out 2
  have p3 : W0.cell? ⟨P, 3, none⟩ = some (.slice A2 n2 c2) := BxC.cell HP0.out 3
  have p4 : W0.cell? ⟨P, 4, none⟩ = some (.string d.be) := BxC.cell HP0.out 4
  have p5 : W0.cell? ⟨P, 5, none⟩ = some (.string d.af) := BxC.cell HP0.out 5
  have p6 : W0.cell? ⟨P, 6, none⟩ = some (.string d.sc) := BxC.cell HP0.out 6
  have p7 : W0.cell? ⟨P, 7, none⟩ = some (.string d.sr) := BxC.cell HP0.out 7
  have q0 : W0.cell? ⟨P + 1, 0, none⟩ = some (.int .i64 d.fr) := BxC.cell HQ0.out 0
  have q1 : W0.cell? ⟨P + 1, 1, none⟩ = some (.int .i64 d.to) := BxC.cell HQ0.out 1
  have q2 : W0.cell? ⟨P + 1, 2, none⟩ = some (.slice A3 n3 c3) := BxC.cell HQ0.out 2
  have q3 : W0.cell? ⟨P + 1, 3, none⟩ = some (.slice A4 n4 c4) := BxC.cell HQ0.out 3
  have q4 : W0.cell? ⟨P + 1, 4, none⟩ = some (.string d.be) := BxC.cell HQ0.out 4
  have q5 : W0.cell? ⟨P + 1, 5, none⟩ = some (.string d.af) := BxC.cell HQ0.out 5
  have q6 : W0.cell? ⟨P + 1, 6, none⟩ = some (.string d.sc) := BxC.cell HQ0.out 6
  have q7 : W0.cell? ⟨P + 1, 7, none⟩ = some (.string d.sr) := BxC.cell HQ0.out 7
  clear h1 h2 h3 h4
  unfold Dl.arr at hW0
  unfold Dl.arr
  go_enter Try.func13, Try.ntmps13
  go_wp2_with fail
  refine (r37_nats d.ad A1 A3 n1 c1 n3 c3 W0 H1.out H3.out).mono ?_
  rintro e w1 ⟨rfl, hb⟩
  have HB1 := Lib.hid (HB0.out.trans (hb.mono (by have := HW0.out; omega)))
  have HP1 := Lib.hid (HP0.out.next hb)
  have HQ1 := Lib.hid (HQ0.out.next hb)
  have HBB := Lib.hid hb
  clear hb p0 p1 p2 p3 p4 p5 p6 p7 q0 q1 q2 q3 q4 q5 q6 q7 hW0
  have p0 : w1.cell? ⟨P, 0, none⟩ = some (.int .i64 d.fr) := BxC.cell HP1.out 0
  have p1 : w1.cell? ⟨P, 1, none⟩ = some (.int .i64 d.to) := BxC.cell HP1.out 1
  have p2 : w1.cell? ⟨P, 2, none⟩ = some (.slice A1 n1 c1) := BxC.cell HP1.out 2
  have p3 : w1.cell? ⟨P, 3, none⟩ = some (.slice A2 n2 c2) := BxC.cell HP1.out 3
  have p4 : w1.cell? ⟨P, 4, none⟩ = some (.string d.be) := BxC.cell HP1.out 4
  have p5 : w1.cell? ⟨P, 5, none⟩ = some (.string d.af) := BxC.cell HP1.out 5
  have p6 : w1.cell? ⟨P, 6, none⟩ = some (.string d.sc) := BxC.cell HP1.out 6
  have p7 : w1.cell? ⟨P, 7, none⟩ = some (.string d.sr) := BxC.cell HP1.out 7
  have q0 : w1.cell? ⟨P + 1, 0, none⟩ = some (.int .i64 d.fr) := BxC.cell HQ1.out 0
  have q1 : w1.cell? ⟨P + 1, 1, none⟩ = some (.int .i64 d.to) := BxC.cell HQ1.out 1
  have q2 : w1.cell? ⟨P + 1, 2, none⟩ = some (.slice A3 n3 c3) := BxC.cell HQ1.out 2
  have q3 : w1.cell? ⟨P + 1, 3, none⟩ = some (.slice A4 n4 c4) := BxC.cell HQ1.out 3
  have q4 : w1.cell? ⟨P + 1, 4, none⟩ = some (.string d.be) := BxC.cell HQ1.out 4
  have q5 : w1.cell? ⟨P + 1, 5, none⟩ = some (.string d.af) := BxC.cell HQ1.out 5
  have q6 : w1.cell? ⟨P + 1, 6, none⟩ = some (.string d.sc) := BxC.cell HQ1.out 6
  have q7 : w1.cell? ⟨P + 1, 7, none⟩ = some (.string d.sr) := BxC.cell HQ1.out 7
  go_wp2_with fail
  refine (r37_nats d.rm A2 A4 n2 c2 n4 c4 w1 (H2.out.kept HBB.out (Nat.le_refl _)) (H4.out.kept HBB.out (Nat.le_refl _))).mono ?_
  rintro e w2 ⟨rfl, hb⟩
  have HB2 := Lib.hid (HB1.out.trans (hb.mono (by have := HP1.out.lt; omega)))
  have HP2 := Lib.hid (HP1.out.next hb)
  have HQ2 := Lib.hid (HQ1.out.next hb)
  clear hb p0 p1 p2 p3 p4 p5 p6 p7 q0 q1 q2 q3 q4 q5 q6 q7
  have p0 : w2.cell? ⟨P, 0, none⟩ = some (.int .i64 d.fr) := BxC.cell HP2.out 0
  have p1 : w2.cell? ⟨P, 1, none⟩ = some (.int .i64 d.to) := BxC.cell HP2.out 1
  have p2 : w2.cell? ⟨P, 2, none⟩ = some (.slice A1 n1 c1) := BxC.cell HP2.out 2
  have p3 : w2.cell? ⟨P, 3, none⟩ = some (.slice A2 n2 c2) := BxC.cell HP2.out 3
  have p4 : w2.cell? ⟨P, 4, none⟩ = some (.string d.be) := BxC.cell HP2.out 4
  have p5 : w2.cell? ⟨P, 5, none⟩ = some (.string d.af) := BxC.cell HP2.out 5
  have p6 : w2.cell? ⟨P, 6, none⟩ = some (.string d.sc) := BxC.cell HP2.out 6
  have p7 : w2.cell? ⟨P, 7, none⟩ = some (.string d.sr) := BxC.cell HP2.out 7
  have q0 : w2.cell? ⟨P + 1, 0, none⟩ = some (.int .i64 d.fr) := BxC.cell HQ2.out 0
  have q1 : w2.cell? ⟨P + 1, 1, none⟩ = some (.int .i64 d.to) := BxC.cell HQ2.out 1
  have q2 : w2.cell? ⟨P + 1, 2, none⟩ = some (.slice A3 n3 c3) := BxC.cell HQ2.out 2
  have q3 : w2.cell? ⟨P + 1, 3, none⟩ = some (.slice A4 n4 c4) := BxC.cell HQ2.out 3
  have q4 : w2.cell? ⟨P + 1, 4, none⟩ = some (.string d.be) := BxC.cell HQ2.out 4
  have q5 : w2.cell? ⟨P + 1, 5, none⟩ = some (.string d.af) := BxC.cell HQ2.out 5
  have q6 : w2.cell? ⟨P + 1, 6, none⟩ = some (.string d.sc) := BxC.cell HQ2.out 6
  have q7 : w2.cell? ⟨P + 1, 7, none⟩ = some (.string d.sr) := BxC.cell HQ2.out 7
  go_wp2
  go_ret
  exact ⟨rfl, by rw [HPE.out]; exact HB2.out⟩
set_option maxRecDepth 100000 in
set_option maxHeartbeats 1000000 in
theorem ep_At (d : Dl) (b : Nat) (a r : Value) (w : World) (hb : BxC w b (d.arr a r) 27) : Calls Try.prog 17 #[.slice (some ⟨b, 0, none⟩) 1 1, .int .i64 1] w (RetQ (.tuple #[.string d.af, .int .i64 0]) w) := by
  have c5 : w.cell? ⟨b, 5, none⟩ = some (.string d.af) := hb.cell 5
  clear hb
  go_enter Try.func17, Try.ntmps17
  go_wp2
  go_ret2
  exact ⟨rfl, rfl⟩
end Go.Proofs.Ytelhpdlegjgjjaa

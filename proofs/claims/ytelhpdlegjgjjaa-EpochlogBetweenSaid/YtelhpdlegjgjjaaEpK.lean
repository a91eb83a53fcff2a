/- Walk: dominoref37.merged. -/
import Derived.Test.YtelhpdlegjgjjaaEpJ
set_option linter.unusedVariables false
set_option linter.unusedSimpArgs false
namespace Go.Proofs.Ytelhpdlegjgjjaa
open Go.RowKit

theorem drop_at {l : List ByteArray} {i : Nat} {x : ByteArray} (h : l[i]? = some x) : l.drop i = x :: l.drop (i + 1) := by
  obtain ⟨hl, rfl⟩ := List.getElem?_eq_some_iff.1 h
  exact List.drop_eq_getElem_cons hl
theorem mrg_a_end {na nb : ByteArray → Bool} {a b : List ByteArray} {i k : Nat} {x : ByteArray} (hx : a[i]? = some x) (hk : b.length ≤ k) : mrg na nb (a.drop i) (b.drop k) = (if na x = true then [] else [x]) ++ mrg na nb (a.drop (i + 1)) (b.drop k) := by
  rw [drop_at hx, List.drop_eq_nil_of_le hk, mrg]; split <;> rfl
theorem mrg_b_end {na nb : ByteArray → Bool} {a b : List ByteArray} {i k : Nat} {y : ByteArray} (hy : b[k]? = some y) (hi : a.length ≤ i) : mrg na nb (a.drop i) (b.drop k) = (if nb y = true then [] else [y]) ++ mrg na nb (a.drop i) (b.drop (k + 1)) := by
  rw [drop_at hy, List.drop_eq_nil_of_le hi, mrg]; split <;> rfl
theorem mrg_a {na nb : ByteArray → Bool} {a b : List ByteArray} {i k : Nat} {x y : ByteArray} (hx : a[i]? = some x) (hy : b[k]? = some y) (h : num x < num y) : mrg na nb (a.drop i) (b.drop k) = (if na x = true then [] else [x]) ++ mrg na nb (a.drop (i + 1)) (b.drop k) := by
  rw [drop_at hx, drop_at hy, mrg, if_pos h]; split <;> rfl
theorem mrg_b {na nb : ByteArray → Bool} {a b : List ByteArray} {i k : Nat} {x y : ByteArray} (hx : a[i]? = some x) (hy : b[k]? = some y) (h : ¬ num x < num y) : mrg na nb (a.drop i) (b.drop k) = (if nb y = true then [] else [y]) ++ mrg na nb (a.drop i) (b.drop (k + 1)) := by
  rw [drop_at hx, drop_at hy, mrg, if_neg h]; split <;> rfl
set_option maxRecDepth 100000 in
set_option maxHeartbeats 4000000 in
theorem r37_merged (a na b nb : List ByteArray) (A1 A2 A3 A4 : Option Addr) (n1 c1 n2 c2 n3 c3 n4 c4 : Nat) (w : World) (h1 : SlN w A1 n1 c1 a) (h2 : SlN w A2 n2 c2 na) (h3 : SlN w A3 n3 c3 b) (h4 : SlN w A4 n4 c4 nb) (hn1 : n1 ≤ 1000000) (hn3 : n3 ≤ 1000000) (va : ∀ s ∈ a, nvalid s = true) (vb : ∀ s ∈ b, nvalid s = true) :
    Calls Try.prog 38 #[.slice A1 n1 c1, .slice A2 n2 c2, .slice A3 n3 c3, .slice A4 n4 c4] w (RetRow 23 1 (mrg (memB na) (memB nb) a b).length ((mrg (memB na) (memB nb) a b).map Value.string) w) := by
  obtain ⟨R, hR⟩ : ∃ R, mrg (memB na) (memB nb) a b = R := ⟨_, rfl⟩
  rw [hR]
  have HRR := Lib.hid hR
  have H1 := Lib.hid h1
  have H2 := Lib.hid h2
  have H3 := Lib.hid h3
  have H4 := Lib.hid h4
  have hc1 := h1.2.1
  have hc3 := h3.2.1
  have hm1 := h1.2.2.1
  have hm3 := h3.2.2.1
  have HL1 := Lib.hid h1.1
  have HL3 := Lib.hid h3.1
  have VA := Lib.hid va
  have VB := Lib.hid vb
  clear h1 h2 h3 h4 va vb hR
  go_enter Try.func38, Try.ntmps38
  go_wp2
  go_loopw [9, 10, 11] (fun v i k wr => ∃ (I Q : Nat) (o : List ByteArray), I ≤ n1 ∧ Q ≤ n3 ∧ i = .int .i64 I ∧ k = .int .i64 Q ∧ wr.ownsRow w.heap.size 23 1 v o.length (o.map Value.string) ∧ o ++ mrg (memB na) (memB nb) (a.drop I) (b.drop Q) = R ∧ o.length ≤ I + Q ∧ Below w.heap.size w wr) (fun _ i k _ => n1 + n3 - ((intOf i).toNat + (intOf k).toNat))
  case atStart => exact ⟨0, 0, [], Nat.zero_le _, Nat.zero_le _, rfl, rfl, World.ownsRow_nil _ _ _ _, by rw [List.drop_zero, List.drop_zero]; exact HRR.out, Nat.zero_le _, Below.refl _ _⟩
  case round =>
    obtain ⟨I, Q, o, hI, hQ, rfl, rfl, hown, heq, hol, hbb⟩ := hrel
    have HOWN := Lib.hid hown
    have HEQ := Lib.hid heq
    have HB := Lib.hid hbb
    clear hown heq hbb
    by_cases hi : I < n1
    · obtain ⟨x, hx⟩ : ∃ x, a[I]? = some x := ⟨_, List.getElem?_eq_getElem (by rw [HL1.out]; exact hi)⟩
      have HX := Lib.hid hx
      by_cases hq : Q < n3
      · obtain ⟨y, hy⟩ : ∃ y, b[Q]? = some y := ⟨_, List.getElem?_eq_getElem (by rw [HL3.out]; exact hq)⟩
        have HY := Lib.hid hy
        have vx := VA.out x (List.mem_of_getElem? hx)
        have vy := VB.out y (List.mem_of_getElem? hy)
        obtain ⟨p1, o1, rfl, e1⟩ := (H1.out.kept HB.out (Nat.le_refl _)).cell hx
        obtain ⟨p3, o3, rfl, e3⟩ := (H3.out.kept HB.out (Nat.le_refl _)).cell hy
        have HC := Lib.hid (r01_Order x y (by have := size_valid vx; omega) (by have := size_valid vy; omega) wr.drew)
        rw [ordB_num vx vy] at HC
        have d1 : wr.drew.cell? ⟨p1, o1 + I, none⟩ = some (.string x) := e1
        have d3 : wr.drew.cell? ⟨p3, o3 + Q, none⟩ = some (.string y) := e3
        clear hx hy vx vy
        have hd : decide ((n3 : Int) ≤ (Q : Int)) = false := decide_eq_false (by omega)
        have hd' : decide (n3 ≤ Q) = false := decide_eq_false (by omega)
        go_wp2
        refine wp_region_K 22 (Below (wr.drew).heap.size (wr.drew)) (by kernel_rfl) ?_
        intro hD
        refine wpAnyK_pureD (i := 0) (d := some 22) (v := ?v4_0b1) (fuel := 21) rfl (by kernel_rfl) (by kernel_rfl) (fun _ _ _ h => h) hD (Below.refl _ _) (.inl ⟨by kernel_rfl, ?y4_0b1⟩) ?n4_0b1
        case y4_0b1 => intro w' _; go_simp; with_reducible rfl
        clear hD; intro hD
        simp only [Act.put, List.setIfInBounds_toArray, List.set_cons_zero, List.set_cons_succ]
        refine wpAnyK_pureD (i := 1) (d := some 23) (v := ?v4_1b1) (fuel := 20) rfl (by kernel_rfl) (by kernel_rfl) (fun _ _ _ h => h) hD (Below.refl _ _) (.inl ⟨by kernel_rfl, ?y4_1b1⟩) ?n4_1b1
        case y4_1b1 => intro w' _; go_simp; with_reducible rfl
        clear hD; intro hD
        simp only [Act.put, List.setIfInBounds_toArray, List.set_cons_zero, List.set_cons_succ]
        refine wpAnyK_pureD (i := 2) (d := some 24) (v := ?v4_2b1) (fuel := 19) rfl (by kernel_rfl) (by kernel_rfl) (fun _ _ _ h => h) hD (Below.refl _ _) (.inl ⟨by kernel_rfl, ?y4_2b1⟩) ?n4_2b1
        case y4_2b1 => intro w' _; go_simp; with_reducible rfl
        clear hD; intro hD
        simp only [Act.put, List.setIfInBounds_toArray, List.set_cons_zero, List.set_cons_succ]
        refine wpAnyK_pureD (i := 3) (d := some 25) (v := ?v4_3b1) (fuel := 18) rfl (by kernel_rfl) (by kernel_rfl) (fun _ _ _ h => h) hD (Below.refl _ _) (.inl ⟨by kernel_rfl, ?y4_3b1⟩) ?n4_3b1
        case y4_3b1 => intro w' _; go_simp; with_reducible rfl
        clear hD; intro hD
        simp only [Act.put, List.setIfInBounds_toArray, List.set_cons_zero, List.set_cons_succ]
        refine wpAnyK_pureD (i := 4) (d := some 26) (v := ?v4_4b1) (fuel := 17) rfl (by kernel_rfl) (by kernel_rfl) (fun _ _ _ h => h) hD (Below.refl _ _) (.inl ⟨by kernel_rfl, ?y4_4b1⟩) ?n4_4b1
        case y4_4b1 => intro w' _; go_simp; with_reducible rfl
        clear hD; intro hD
        simp only [Act.put, List.setIfInBounds_toArray, List.set_cons_zero, List.set_cons_succ]
        refine wpAnyK_pureD (i := 5) (d := some 27) (v := ?v4_5b1) (fuel := 16) rfl (by kernel_rfl) (by kernel_rfl) (fun _ _ _ h => h) hD (Below.refl _ _) (.inl ⟨by kernel_rfl, ?y4_5b1⟩) ?n4_5b1
        case y4_5b1 => intro w' _; go_simp; with_reducible rfl
        clear hD; intro hD
        simp only [Act.put, List.setIfInBounds_toArray, List.set_cons_zero, List.set_cons_succ]
        refine wpAnyK_pureD (i := 6) (d := some 28) (v := ?v4_6b1) (fuel := 15) rfl (by kernel_rfl) (by kernel_rfl) (fun _ _ _ h => h) hD (Below.refl _ _) (.inl ⟨by kernel_rfl, ?y4_6b1⟩) ?n4_6b1
        case y4_6b1 => intro w' _; go_simp; with_reducible rfl
        clear hD; intro hD
        simp only [Act.put, List.setIfInBounds_toArray, List.set_cons_zero, List.set_cons_succ]
        refine wpAnyK_pureD (i := 7) (d := some 29) (v := ?v4_7b1) (fuel := 14) rfl (by kernel_rfl) (by kernel_rfl) (fun _ _ _ h => h) hD (Below.refl _ _) (.inl ⟨by kernel_rfl, ?y4_7b1⟩) ?n4_7b1
        case y4_7b1 => intro w' _; go_simp; with_reducible rfl
        clear hD; intro hD
        simp only [Act.put, List.setIfInBounds_toArray, List.set_cons_zero, List.set_cons_succ]
        refine wpAnyK_pureD (i := 8) (d := some 30) (v := ?v4_8b1) (fuel := 13) rfl (by kernel_rfl) (by kernel_rfl) (fun _ _ _ h => h) hD (Below.refl _ _) (.inl ⟨by kernel_rfl, ?y4_8b1⟩) ?n4_8b1
        case y4_8b1 => intro w' _; go_simp; with_reducible rfl
        clear hD; intro hD
        simp only [Act.put, List.setIfInBounds_toArray, List.set_cons_zero, List.set_cons_succ]
        refine wpAnyK_pureD (i := 9) (d := some 31) (v := ?v4_9b1) (fuel := 12) rfl (by kernel_rfl) (by kernel_rfl) (fun _ _ _ h => h) hD (Below.refl _ _) (.inl ⟨by kernel_rfl, ?y4_9b1⟩) ?n4_9b1
        case y4_9b1 => intro w' _; go_simp; with_reducible rfl
        clear hD; intro hD
        simp only [Act.put, List.setIfInBounds_toArray, List.set_cons_zero, List.set_cons_succ]
        refine wpAnyK_pureD (i := 10) (d := some 32) (v := ?v4_10b1) (fuel := 11) rfl (by kernel_rfl) (by kernel_rfl) (fun _ _ _ h => h) hD (Below.refl _ _) (.inl ⟨by kernel_rfl, ?y4_10b1⟩) ?n4_10b1
        case y4_10b1 => intro w' _; go_simp; with_reducible rfl
        clear hD; intro hD
        simp only [Act.put, List.setIfInBounds_toArray, List.set_cons_zero, List.set_cons_succ]
        refine wpAnyK_pureD (i := 11) (d := some 33) (v := ?v4_11b1) (fuel := 10) rfl (by kernel_rfl) (by kernel_rfl) (fun _ _ _ h => h) hD (Below.refl _ _) (.inl ⟨by kernel_rfl, ?y4_11b1⟩) ?n4_11b1
        case y4_11b1 => intro w' _; go_simp; with_reducible rfl
        clear hD; intro hD
        simp only [Act.put, List.setIfInBounds_toArray, List.set_cons_zero, List.set_cons_succ]
        refine wpAnyK_pureD (i := 12) (d := some 34) (v := ?v4_12b1) (fuel := 9) rfl (by kernel_rfl) (by kernel_rfl) (fun _ _ _ h => h) hD (Below.refl _ _) (.inl ⟨by kernel_rfl, ?y4_12b1⟩) ?n4_12b1
        case y4_12b1 => intro w' _; go_simp; with_reducible rfl
        clear hD; intro hD
        simp only [Act.put, List.setIfInBounds_toArray, List.set_cons_zero, List.set_cons_succ]
        refine wpAnyK_takeSD (i := 13) (d := some 35) (v := ?v4_13b1) (fuel := 8) rfl (by kernel_rfl) (by kernel_rfl) (by kernel_rfl) (fun _ _ _ h => h) hD (Below.refl _ _) (.inl ⟨by kernel_rfl, ?y4_13b1⟩) ?n4_13b1
        case y4_13b1 => intro w' hS'; have e0 := cell_kept hS' (Nat.le_refl _) d1; have e1 := cell_kept hS' (Nat.le_refl _) d3; go_simp; with_reducible rfl
        clear hD; intro hD
        simp only [Act.put, List.setIfInBounds_toArray, List.set_cons_zero, List.set_cons_succ]
        refine wpAnyK_pureD (i := 14) (d := some 36) (v := ?v4_14b1) (fuel := 7) rfl (by kernel_rfl) (by kernel_rfl) (fun _ _ _ h => h) hD (Below.refl _ _) (.inl ⟨by kernel_rfl, ?y4_14b1⟩) ?n4_14b1
        case y4_14b1 => intro w' _; go_simp; with_reducible rfl
        clear hD; intro hD
        simp only [Act.put, List.setIfInBounds_toArray, List.set_cons_zero, List.set_cons_succ]
        refine wpAnyK_pureD (i := 15) (d := some 37) (v := ?v4_15b1) (fuel := 6) rfl (by kernel_rfl) (by kernel_rfl) (fun _ _ _ h => h) hD (Below.refl _ _) (.inl ⟨by kernel_rfl, ?y4_15b1⟩) ?n4_15b1
        case y4_15b1 => intro w' _; go_simp; with_reducible rfl
        clear hD; intro hD
        simp only [Act.put, List.setIfInBounds_toArray, List.set_cons_zero, List.set_cons_succ]
        refine wpAnyK_pureD (i := 16) (d := some 38) (v := ?v4_16b1) (fuel := 5) rfl (by kernel_rfl) (by kernel_rfl) (fun _ _ _ h => h) hD (Below.refl _ _) (.inl ⟨by kernel_rfl, ?y4_16b1⟩) ?n4_16b1
        case y4_16b1 => intro w' _; go_simp; with_reducible rfl
        clear hD; intro hD
        simp only [Act.put, List.setIfInBounds_toArray, List.set_cons_zero, List.set_cons_succ]
        refine wpAnyK_takeSD (i := 17) (d := some 39) (v := ?v4_17b1) (fuel := 4) rfl (by kernel_rfl) (by kernel_rfl) (by kernel_rfl) (fun _ _ _ h => h) hD (Below.refl _ _) (.inl ⟨by kernel_rfl, ?y4_17b1⟩) ?n4_17b1
        case y4_17b1 => intro w' hS'; have e0 := cell_kept hS' (Nat.le_refl _) d1; have e1 := cell_kept hS' (Nat.le_refl _) d3; go_simp; with_reducible rfl
        clear hD; intro hD
        simp only [Act.put, List.setIfInBounds_toArray, List.set_cons_zero, List.set_cons_succ]
        refine wpAnyK_one (i := 18) (fuel := 3) (by kernel_rfl) rfl hD ?_
        clear hD; intro K18 hK18
        go_wp2_with fail
        refine HC.out.mono ?_
        rintro e w1 ⟨rfl, hb⟩
        have HL1 := Lib.hid hb
        go_wp2
        refine hK18 _ _ (by exact hb) ?_; clear hK18; intro hS_4_18 hD
        refine wpAnyK_pureD (i := 19) (d := some 41) (v := ?v4_19b1) (fuel := 2) rfl (by kernel_rfl) (by kernel_rfl) (fun _ _ _ h => h) hD hS_4_18 (.inl ⟨by kernel_rfl, ?y4_19b1⟩) ?n4_19b1
        case y4_19b1 => intro w' _; go_simp; with_reducible rfl
        clear hD; intro hD
        simp only [Act.put, List.setIfInBounds_toArray, List.set_cons_zero, List.set_cons_succ]
        refine wpAnyK_pureD (i := 20) (d := some 42) (v := ?v4_20b1) (fuel := 1) rfl (by kernel_rfl) (by kernel_rfl) (fun _ _ _ h => h) hD hS_4_18 (.inl ⟨by kernel_rfl, ?y4_20b1⟩) ?n4_20b1
        case y4_20b1 => intro w' _; go_simp; with_reducible rfl
        clear hD; intro hD
        simp only [Act.put, List.setIfInBounds_toArray, List.set_cons_zero, List.set_cons_succ]
        refine wpAnyK_pureD (i := 21) (d := some 43) (v := ?v4_21b1) (fuel := 0) rfl (by kernel_rfl) (by kernel_rfl) (fun _ _ _ h => h) hD hS_4_18 (.inl ⟨by kernel_rfl, ?y4_21b1⟩) ?n4_21b1
        case y4_21b1 => intro w' _; go_simp; with_reducible rfl
        clear hD; intro hD
        simp only [Act.put, List.setIfInBounds_toArray, List.set_cons_zero, List.set_cons_succ]
        refine wpAnyK_done (by kernel_rfl) ?_ 0
        clear hD hd hd'
        have HW := Lib.hid (HB.out.trans (((Below.refl wr.heap.size wr).drew.trans HL1.out).mono HB.out.size))
        have HOO := Lib.hid (owns_kept HOWN.out ((Below.refl wr.heap.size wr).drew.trans HL1.out) (Nat.le_refl _))
        have E1 := Lib.hid (cell_kept HL1.out (Nat.le_refl _) d1)
        have E3 := Lib.hid (cell_kept HL1.out (Nat.le_refl _) d3)
        clear d1 d3 e1 e3
        by_cases hlt : num x < num y
        · have h0 : cmpI (num x) (num y) < 0 := cmpI_neg.2 hlt
          have HR := Lib.hid (mrg_a (na := memB na) (nb := memB nb) HX.out HY.out hlt)
          obtain ⟨cc, hcc⟩ : ∃ cc, cmpI (num x) (num y) = cc := ⟨_, rfl⟩
          rw [hcc] at h0 ⊢
          have ex := E1.out
          clear hcc hlt
          -- x is next: HX : elem, HW : Below w.. w1, HOO : row in w1, HR : equation of the rest
          have HCH := Lib.hid (r37_has na A2 n2 c2 x w1 (H2.out.kept HW.out (Nat.le_refl _)))
          go_wp2_with fail
          refine HCH.out.mono ?_
          rintro e wa ⟨rfl, hb⟩
          have HWA := Lib.hid (HW.out.trans (hb.mono HW.out.size))
          have HOA := Lib.hid (owns_kept HOO.out hb (Nat.le_refl _))
          have ec := cell_kept hb (Nat.le_refl _) ex
          clear hb
          cases hh : memB na x with
          | true =>
            have HR2 := Lib.hid (show o ++ mrg (memB na) (memB nb) (a.drop (I + 1)) (b.drop Q) = R from by rw [← HEQ.out, HR.out, if_pos hh]; rfl)
            clear hh
            go_wp2
            go_roundw
            case rel => exact ⟨(I + 1), Q, o, by omega, by omega, by go_num, by go_num, HOA.out, HR2.out, by omega, HWA.out⟩
            case measure => simp [intOf]; omega
          | false =>
            have HR2 := Lib.hid (show o ++ [x] ++ mrg (memB na) (memB nb) (a.drop (I + 1)) (b.drop Q) = R from by rw [← HEQ.out, HR.out, if_neg (by rw [hh]; decide), List.append_assoc])
            clear hh
            go_wp2_with (at_builtin; go_must (refine wpList_append_sl w _ rfl (.tmp 51) (.tmp 56) rfl w.heap.size _ o.length o rfl (HOA.out.alloc (.cells #[.string x] 23)) (some ⟨wa.heap.size, 0, none⟩) 1 1 [x] rfl (SlN.new wa [x] 23 (by simp)) (by omega) (HWA.out.alloc HWA.out.size _) (by have := HWA.out.size; simp; omega) ?_))
            intro v2 w2 hown hb hsz
            have HO2 := Lib.hid (show w2.ownsRow w.heap.size 23 1 v2 (o ++ [x]).length ((o ++ [x]).map Value.string) from by rw [List.length_append, List.map_append]; exact hown)
            have HB2 := Lib.hid hb
            clear hown hb hsz
            go_wp2
            go_roundw
            case rel => exact ⟨(I + 1), Q, o ++ [x], by omega, by omega, by go_num, by go_num, HO2.out, HR2.out, by simp; omega, HB2.out⟩
            case measure => simp [intOf]; omega
        · have h0 : ¬ (cmpI (num x) (num y) < 0) := fun h => hlt (cmpI_neg.1 h)
          have HR := Lib.hid (mrg_b (na := memB na) (nb := memB nb) HX.out HY.out hlt)
          obtain ⟨cc, hcc⟩ : ∃ cc, cmpI (num x) (num y) = cc := ⟨_, rfl⟩
          rw [hcc] at h0 ⊢
          have ex := E3.out
          clear hcc hlt
          -- y is next: HX : elem, HW : Below w.. w1, HOO : row in w1, HR : equation of the rest
          have HCH := Lib.hid (r37_has nb A4 n4 c4 y w1 (H4.out.kept HW.out (Nat.le_refl _)))
          go_wp2_with fail
          refine HCH.out.mono ?_
          rintro e wa ⟨rfl, hb⟩
          have HWA := Lib.hid (HW.out.trans (hb.mono HW.out.size))
          have HOA := Lib.hid (owns_kept HOO.out hb (Nat.le_refl _))
          have ec := cell_kept hb (Nat.le_refl _) ex
          clear hb
          cases hh : memB nb y with
          | true =>
            have HR2 := Lib.hid (show o ++ mrg (memB na) (memB nb) (a.drop I) (b.drop (Q + 1)) = R from by rw [← HEQ.out, HR.out, if_pos hh]; rfl)
            clear hh
            go_wp2
            go_roundw
            case rel => exact ⟨I, (Q + 1), o, by omega, by omega, by go_num, by go_num, HOA.out, HR2.out, by omega, HWA.out⟩
            case measure => simp [intOf]; omega
          | false =>
            have HR2 := Lib.hid (show o ++ [y] ++ mrg (memB na) (memB nb) (a.drop I) (b.drop (Q + 1)) = R from by rw [← HEQ.out, HR.out, if_neg (by rw [hh]; decide), List.append_assoc])
            clear hh
            go_wp2_with (at_builtin; go_must (refine wpList_append_sl w _ rfl (.tmp 67) (.tmp 72) rfl w.heap.size _ o.length o rfl (HOA.out.alloc (.cells #[.string y] 23)) (some ⟨wa.heap.size, 0, none⟩) 1 1 [y] rfl (SlN.new wa [y] 23 (by simp)) (by omega) (HWA.out.alloc HWA.out.size _) (by have := HWA.out.size; simp; omega) ?_))
            intro v2 w2 hown hb hsz
            have HO2 := Lib.hid (show w2.ownsRow w.heap.size 23 1 v2 (o ++ [y]).length ((o ++ [y]).map Value.string) from by rw [List.length_append, List.map_append]; exact hown)
            have HB2 := Lib.hid hb
            clear hown hb hsz
            go_wp2
            go_roundw
            case rel => exact ⟨I, (Q + 1), o ++ [y], by omega, by omega, by go_num, by go_num, HO2.out, HR2.out, by simp; omega, HB2.out⟩
            case measure => simp [intOf]; omega
      · obtain ⟨p1, o1, rfl, e1⟩ := (H1.out.kept HB.out (Nat.le_refl _)).cell hx
        obtain rfl : Q = n3 := by omega
        have HR := Lib.hid (mrg_a_end (na := memB na) (nb := memB nb) HX.out (Nat.le_of_eq HL3.out))
        clear hx hq
        go_wp2
        refine wp_region_K 22 (Below (wr.drew).heap.size (wr.drew)) (by kernel_rfl) ?_
        intro hD
        refine wpAnyK_pureD (i := 0) (d := some 22) (v := ?v4_0b2) (fuel := 21) rfl (by kernel_rfl) (by kernel_rfl) (fun _ _ _ h => h) hD (Below.refl _ _) (.inl ⟨by kernel_rfl, ?y4_0b2⟩) ?n4_0b2
        case y4_0b2 => intro w' _; go_simp; with_reducible rfl
        clear hD; intro hD
        simp only [Act.put, List.setIfInBounds_toArray, List.set_cons_zero, List.set_cons_succ]
        refine wpAnyK_pureD (i := 1) (d := some 23) (v := ?v4_1b2) (fuel := 20) rfl (by kernel_rfl) (by kernel_rfl) (fun _ _ _ h => h) hD (Below.refl _ _) (.inl ⟨by kernel_rfl, ?y4_1b2⟩) ?n4_1b2
        case y4_1b2 => intro w' _; go_simp; with_reducible rfl
        clear hD; intro hD
        simp only [Act.put, List.setIfInBounds_toArray, List.set_cons_zero, List.set_cons_succ]
        refine wpAnyK_pureD (i := 2) (d := some 24) (v := ?v4_2b2) (fuel := 19) rfl (by kernel_rfl) (by kernel_rfl) (fun _ _ _ h => h) hD (Below.refl _ _) (.inl ⟨by kernel_rfl, ?y4_2b2⟩) ?n4_2b2
        case y4_2b2 => intro w' _; go_simp; with_reducible rfl
        clear hD; intro hD
        simp only [Act.put, List.setIfInBounds_toArray, List.set_cons_zero, List.set_cons_succ]
        refine wpAnyK_pureD (i := 3) (d := some 25) (v := ?v4_3b2) (fuel := 18) rfl (by kernel_rfl) (by kernel_rfl) (fun _ _ _ h => h) hD (Below.refl _ _) (.inl ⟨by kernel_rfl, ?y4_3b2⟩) ?n4_3b2
        case y4_3b2 => intro w' _; go_simp; with_reducible rfl
        clear hD; intro hD
        simp only [Act.put, List.setIfInBounds_toArray, List.set_cons_zero, List.set_cons_succ]
        refine wpAnyK_pureD (i := 4) (d := some 26) (v := ?v4_4b2) (fuel := 17) rfl (by kernel_rfl) (by kernel_rfl) (fun _ _ _ h => h) hD (Below.refl _ _) (.inl ⟨by kernel_rfl, ?y4_4b2⟩) ?n4_4b2
        case y4_4b2 => intro w' _; go_simp; with_reducible rfl
        clear hD; intro hD
        simp only [Act.put, List.setIfInBounds_toArray, List.set_cons_zero, List.set_cons_succ]
        refine wpAnyK_pureD (i := 5) (d := some 27) (v := undef) (fuel := 16) rfl (by kernel_rfl) (by kernel_rfl) (fun _ _ _ h => h) hD (Below.refl _ _) (.inr ⟨by kernel_rfl, rfl⟩) ?_
        clear hD; intro hD
        simp only [Act.put, List.setIfInBounds_toArray, List.set_cons_zero, List.set_cons_succ]
        refine wpAnyK_pureD (i := 6) (d := some 28) (v := undef) (fuel := 15) rfl (by kernel_rfl) (by kernel_rfl) (fun _ _ _ h => h) hD (Below.refl _ _) (.inr ⟨by kernel_rfl, rfl⟩) ?_
        clear hD; intro hD
        simp only [Act.put, List.setIfInBounds_toArray, List.set_cons_zero, List.set_cons_succ]
        refine wpAnyK_pureD (i := 7) (d := some 29) (v := undef) (fuel := 14) rfl (by kernel_rfl) (by kernel_rfl) (fun _ _ _ h => h) hD (Below.refl _ _) (.inr ⟨by kernel_rfl, rfl⟩) ?_
        clear hD; intro hD
        simp only [Act.put, List.setIfInBounds_toArray, List.set_cons_zero, List.set_cons_succ]
        refine wpAnyK_pureD (i := 8) (d := some 30) (v := undef) (fuel := 13) rfl (by kernel_rfl) (by kernel_rfl) (fun _ _ _ h => h) hD (Below.refl _ _) (.inr ⟨by kernel_rfl, rfl⟩) ?_
        clear hD; intro hD
        simp only [Act.put, List.setIfInBounds_toArray, List.set_cons_zero, List.set_cons_succ]
        refine wpAnyK_pureD (i := 9) (d := some 31) (v := undef) (fuel := 12) rfl (by kernel_rfl) (by kernel_rfl) (fun _ _ _ h => h) hD (Below.refl _ _) (.inr ⟨by kernel_rfl, rfl⟩) ?_
        clear hD; intro hD
        simp only [Act.put, List.setIfInBounds_toArray, List.set_cons_zero, List.set_cons_succ]
        refine wpAnyK_pureD (i := 10) (d := some 32) (v := undef) (fuel := 11) rfl (by kernel_rfl) (by kernel_rfl) (fun _ _ _ h => h) hD (Below.refl _ _) (.inr ⟨by kernel_rfl, rfl⟩) ?_
        clear hD; intro hD
        simp only [Act.put, List.setIfInBounds_toArray, List.set_cons_zero, List.set_cons_succ]
        refine wpAnyK_pureD (i := 11) (d := some 33) (v := undef) (fuel := 10) rfl (by kernel_rfl) (by kernel_rfl) (fun _ _ _ h => h) hD (Below.refl _ _) (.inr ⟨by kernel_rfl, rfl⟩) ?_
        clear hD; intro hD
        simp only [Act.put, List.setIfInBounds_toArray, List.set_cons_zero, List.set_cons_succ]
        refine wpAnyK_pureD (i := 12) (d := some 34) (v := undef) (fuel := 9) rfl (by kernel_rfl) (by kernel_rfl) (fun _ _ _ h => h) hD (Below.refl _ _) (.inr ⟨by kernel_rfl, rfl⟩) ?_
        clear hD; intro hD
        simp only [Act.put, List.setIfInBounds_toArray, List.set_cons_zero, List.set_cons_succ]
        refine wpAnyK_pureD (i := 13) (d := some 35) (v := undef) (fuel := 8) rfl (by kernel_rfl) (by kernel_rfl) (fun _ _ _ h => h) hD (Below.refl _ _) (.inr ⟨by kernel_rfl, rfl⟩) ?_
        clear hD; intro hD
        simp only [Act.put, List.setIfInBounds_toArray, List.set_cons_zero, List.set_cons_succ]
        refine wpAnyK_pureD (i := 14) (d := some 36) (v := undef) (fuel := 7) rfl (by kernel_rfl) (by kernel_rfl) (fun _ _ _ h => h) hD (Below.refl _ _) (.inr ⟨by kernel_rfl, rfl⟩) ?_
        clear hD; intro hD
        simp only [Act.put, List.setIfInBounds_toArray, List.set_cons_zero, List.set_cons_succ]
        refine wpAnyK_pureD (i := 15) (d := some 37) (v := undef) (fuel := 6) rfl (by kernel_rfl) (by kernel_rfl) (fun _ _ _ h => h) hD (Below.refl _ _) (.inr ⟨by kernel_rfl, rfl⟩) ?_
        clear hD; intro hD
        simp only [Act.put, List.setIfInBounds_toArray, List.set_cons_zero, List.set_cons_succ]
        refine wpAnyK_pureD (i := 16) (d := some 38) (v := undef) (fuel := 5) rfl (by kernel_rfl) (by kernel_rfl) (fun _ _ _ h => h) hD (Below.refl _ _) (.inr ⟨by kernel_rfl, rfl⟩) ?_
        clear hD; intro hD
        simp only [Act.put, List.setIfInBounds_toArray, List.set_cons_zero, List.set_cons_succ]
        refine wpAnyK_pureD (i := 17) (d := some 39) (v := undef) (fuel := 4) rfl (by kernel_rfl) (by kernel_rfl) (fun _ _ _ h => h) hD (Below.refl _ _) (.inr ⟨by kernel_rfl, rfl⟩) ?_
        clear hD; intro hD
        simp only [Act.put, List.setIfInBounds_toArray, List.set_cons_zero, List.set_cons_succ]
        refine wpAnyK_pureD (i := 18) (d := some 40) (v := undef) (fuel := 3) rfl (by kernel_rfl) (by kernel_rfl) (fun _ _ _ h => h) hD (Below.refl _ _) (.inr ⟨by kernel_rfl, rfl⟩) ?_
        clear hD; intro hD
        simp only [Act.put, List.setIfInBounds_toArray, List.set_cons_zero, List.set_cons_succ]
        refine wpAnyK_pureD (i := 19) (d := some 41) (v := undef) (fuel := 2) rfl (by kernel_rfl) (by kernel_rfl) (fun _ _ _ h => h) hD (Below.refl _ _) (.inr ⟨by kernel_rfl, rfl⟩) ?_
        clear hD; intro hD
        simp only [Act.put, List.setIfInBounds_toArray, List.set_cons_zero, List.set_cons_succ]
        refine wpAnyK_pureD (i := 20) (d := some 42) (v := undef) (fuel := 1) rfl (by kernel_rfl) (by kernel_rfl) (fun _ _ _ h => h) hD (Below.refl _ _) (.inr ⟨by kernel_rfl, rfl⟩) ?_
        clear hD; intro hD
        simp only [Act.put, List.setIfInBounds_toArray, List.set_cons_zero, List.set_cons_succ]
        refine wpAnyK_pureD (i := 21) (d := some 43) (v := ?v4_21b2) (fuel := 0) rfl (by kernel_rfl) (by kernel_rfl) (fun _ _ _ h => h) hD (Below.refl _ _) (.inl ⟨by kernel_rfl, ?y4_21b2⟩) ?n4_21b2
        case y4_21b2 => intro w' _; go_simp; with_reducible rfl
        clear hD; intro hD
        simp only [Act.put, List.setIfInBounds_toArray, List.set_cons_zero, List.set_cons_succ]
        refine wpAnyK_done (by kernel_rfl) ?_ 0
        clear hD
        have HW := Lib.hid (show Below w.heap.size w wr.drew from HB.out.trans ((Below.refl wr.heap.size wr).drew.mono HB.out.size))
        have HOO := Lib.hid (show wr.drew.ownsRow w.heap.size 23 1 u9 o.length (o.map Value.string) from owns_kept HOWN.out ((Below.refl wr.heap.size wr).drew) (Nat.le_refl _))
        have ex : wr.drew.cell? ⟨p1, o1 + I, none⟩ = some (.string x) := e1
        clear e1
        -- x is next: HX : elem, HW : Below w.. wr.drew, HOO : row in wr.drew, HR : equation of the rest
        have HCH := Lib.hid (r37_has na A2 n2 c2 x wr.drew (H2.out.kept HW.out (Nat.le_refl _)))
        go_wp2_with fail
        refine HCH.out.mono ?_
        rintro e wa ⟨rfl, hb⟩
        have HWA := Lib.hid (HW.out.trans (hb.mono HW.out.size))
        have HOA := Lib.hid (owns_kept HOO.out hb (Nat.le_refl _))
        have ec := cell_kept hb (Nat.le_refl _) ex
        clear hb
        cases hh : memB na x with
        | true =>
          have HR2 := Lib.hid (show o ++ mrg (memB na) (memB nb) (a.drop (I + 1)) (b.drop Q) = R from by rw [← HEQ.out, HR.out, if_pos hh]; rfl)
          clear hh
          go_wp2
          go_roundw
          case rel => exact ⟨(I + 1), Q, o, by omega, by omega, by go_num, by go_num, HOA.out, HR2.out, by omega, HWA.out⟩
          case measure => simp [intOf]; omega
        | false =>
          have HR2 := Lib.hid (show o ++ [x] ++ mrg (memB na) (memB nb) (a.drop (I + 1)) (b.drop Q) = R from by rw [← HEQ.out, HR.out, if_neg (by rw [hh]; decide), List.append_assoc])
          clear hh
          go_wp2_with (at_builtin; go_must (refine wpList_append_sl w _ rfl (.tmp 51) (.tmp 56) rfl w.heap.size _ o.length o rfl (HOA.out.alloc (.cells #[.string x] 23)) (some ⟨wa.heap.size, 0, none⟩) 1 1 [x] rfl (SlN.new wa [x] 23 (by simp)) (by omega) (HWA.out.alloc HWA.out.size _) (by have := HWA.out.size; simp; omega) ?_))
          intro v2 w2 hown hb hsz
          have HO2 := Lib.hid (show w2.ownsRow w.heap.size 23 1 v2 (o ++ [x]).length ((o ++ [x]).map Value.string) from by rw [List.length_append, List.map_append]; exact hown)
          have HB2 := Lib.hid hb
          clear hown hb hsz
          go_wp2
          go_roundw
          case rel => exact ⟨(I + 1), Q, o ++ [x], by omega, by omega, by go_num, by go_num, HO2.out, HR2.out, by simp; omega, HB2.out⟩
          case measure => simp [intOf]; omega
    · obtain rfl : I = n1 := by omega
      by_cases hq : Q < n3
      · obtain ⟨y, hy⟩ : ∃ y, b[Q]? = some y := ⟨_, List.getElem?_eq_getElem (by rw [HL3.out]; exact hq)⟩
        have HY := Lib.hid hy
        obtain ⟨p3, o3, rfl, e3⟩ := (H3.out.kept HB.out (Nat.le_refl _)).cell hy
        have HR := Lib.hid (mrg_b_end (na := memB na) (nb := memB nb) HY.out (Nat.le_of_eq HL1.out))
        have hd : decide ((n3 : Int) ≤ (Q : Int)) = false := decide_eq_false (by omega)
        have hd' : decide (n3 ≤ Q) = false := decide_eq_false (by omega)
        clear hy
        go_wp2
        refine wp_region_K 22 (Below (wr.drew).heap.size (wr.drew)) (by kernel_rfl) ?_
        intro hD
        refine wpAnyK_pureD (i := 0) (d := some 22) (v := ?v4_0b3) (fuel := 21) rfl (by kernel_rfl) (by kernel_rfl) (fun _ _ _ h => h) hD (Below.refl _ _) (.inl ⟨by kernel_rfl, ?y4_0b3⟩) ?n4_0b3
        case y4_0b3 => intro w' _; go_simp; with_reducible rfl
        clear hD; intro hD
        simp only [Act.put, List.setIfInBounds_toArray, List.set_cons_zero, List.set_cons_succ]
        refine wpAnyK_pureD (i := 1) (d := some 23) (v := ?v4_1b3) (fuel := 20) rfl (by kernel_rfl) (by kernel_rfl) (fun _ _ _ h => h) hD (Below.refl _ _) (.inl ⟨by kernel_rfl, ?y4_1b3⟩) ?n4_1b3
        case y4_1b3 => intro w' _; go_simp; with_reducible rfl
        clear hD; intro hD
        simp only [Act.put, List.setIfInBounds_toArray, List.set_cons_zero, List.set_cons_succ]
        refine wpAnyK_pureD (i := 2) (d := some 24) (v := ?v4_2b3) (fuel := 19) rfl (by kernel_rfl) (by kernel_rfl) (fun _ _ _ h => h) hD (Below.refl _ _) (.inl ⟨by kernel_rfl, ?y4_2b3⟩) ?n4_2b3
        case y4_2b3 => intro w' _; go_simp; with_reducible rfl
        clear hD; intro hD
        simp only [Act.put, List.setIfInBounds_toArray, List.set_cons_zero, List.set_cons_succ]
        refine wpAnyK_pureD (i := 3) (d := some 25) (v := ?v4_3b3) (fuel := 18) rfl (by kernel_rfl) (by kernel_rfl) (fun _ _ _ h => h) hD (Below.refl _ _) (.inl ⟨by kernel_rfl, ?y4_3b3⟩) ?n4_3b3
        case y4_3b3 => intro w' _; go_simp; with_reducible rfl
        clear hD; intro hD
        simp only [Act.put, List.setIfInBounds_toArray, List.set_cons_zero, List.set_cons_succ]
        refine wpAnyK_pureD (i := 4) (d := some 26) (v := ?v4_4b3) (fuel := 17) rfl (by kernel_rfl) (by kernel_rfl) (fun _ _ _ h => h) hD (Below.refl _ _) (.inl ⟨by kernel_rfl, ?y4_4b3⟩) ?n4_4b3
        case y4_4b3 => intro w' _; go_simp; with_reducible rfl
        clear hD; intro hD
        simp only [Act.put, List.setIfInBounds_toArray, List.set_cons_zero, List.set_cons_succ]
        refine wpAnyK_pureD (i := 5) (d := some 27) (v := ?v4_5b3) (fuel := 16) rfl (by kernel_rfl) (by kernel_rfl) (fun _ _ _ h => h) hD (Below.refl _ _) (.inl ⟨by kernel_rfl, ?y4_5b3⟩) ?n4_5b3
        case y4_5b3 => intro w' _; go_simp; with_reducible rfl
        clear hD; intro hD
        simp only [Act.put, List.setIfInBounds_toArray, List.set_cons_zero, List.set_cons_succ]
        refine wpAnyK_pureD (i := 6) (d := some 28) (v := ?v4_6b3) (fuel := 15) rfl (by kernel_rfl) (by kernel_rfl) (fun _ _ _ h => h) hD (Below.refl _ _) (.inl ⟨by kernel_rfl, ?y4_6b3⟩) ?n4_6b3
        case y4_6b3 => intro w' _; go_simp; with_reducible rfl
        clear hD; intro hD
        simp only [Act.put, List.setIfInBounds_toArray, List.set_cons_zero, List.set_cons_succ]
        refine wpAnyK_pureD (i := 7) (d := some 29) (v := ?v4_7b3) (fuel := 14) rfl (by kernel_rfl) (by kernel_rfl) (fun _ _ _ h => h) hD (Below.refl _ _) (.inl ⟨by kernel_rfl, ?y4_7b3⟩) ?n4_7b3
        case y4_7b3 => intro w' _; go_simp; with_reducible rfl
        clear hD; intro hD
        simp only [Act.put, List.setIfInBounds_toArray, List.set_cons_zero, List.set_cons_succ]
        refine wpAnyK_pureD (i := 8) (d := some 30) (v := ?v4_8b3) (fuel := 13) rfl (by kernel_rfl) (by kernel_rfl) (fun _ _ _ h => h) hD (Below.refl _ _) (.inl ⟨by kernel_rfl, ?y4_8b3⟩) ?n4_8b3
        case y4_8b3 => intro w' _; go_simp; with_reducible rfl
        clear hD; intro hD
        simp only [Act.put, List.setIfInBounds_toArray, List.set_cons_zero, List.set_cons_succ]
        refine wpAnyK_pureD (i := 9) (d := some 31) (v := ?v4_9b3) (fuel := 12) rfl (by kernel_rfl) (by kernel_rfl) (fun _ _ _ h => h) hD (Below.refl _ _) (.inl ⟨by kernel_rfl, ?y4_9b3⟩) ?n4_9b3
        case y4_9b3 => intro w' _; go_simp; with_reducible rfl
        clear hD; intro hD
        simp only [Act.put, List.setIfInBounds_toArray, List.set_cons_zero, List.set_cons_succ]
        refine wpAnyK_pureD (i := 10) (d := some 32) (v := undef) (fuel := 11) rfl (by kernel_rfl) (by kernel_rfl) (fun _ _ _ h => h) hD (Below.refl _ _) (.inr ⟨by kernel_rfl, rfl⟩) ?_
        clear hD; intro hD
        simp only [Act.put, List.setIfInBounds_toArray, List.set_cons_zero, List.set_cons_succ]
        refine wpAnyK_pureD (i := 11) (d := some 33) (v := undef) (fuel := 10) rfl (by kernel_rfl) (by kernel_rfl) (fun _ _ _ h => h) hD (Below.refl _ _) (.inr ⟨by kernel_rfl, rfl⟩) ?_
        clear hD; intro hD
        simp only [Act.put, List.setIfInBounds_toArray, List.set_cons_zero, List.set_cons_succ]
        refine wpAnyK_pureD (i := 12) (d := some 34) (v := undef) (fuel := 9) rfl (by kernel_rfl) (by kernel_rfl) (fun _ _ _ h => h) hD (Below.refl _ _) (.inr ⟨by kernel_rfl, rfl⟩) ?_
        clear hD; intro hD
        simp only [Act.put, List.setIfInBounds_toArray, List.set_cons_zero, List.set_cons_succ]
        refine wpAnyK_pureD (i := 13) (d := some 35) (v := undef) (fuel := 8) rfl (by kernel_rfl) (by kernel_rfl) (fun _ _ _ h => h) hD (Below.refl _ _) (.inr ⟨by kernel_rfl, rfl⟩) ?_
        clear hD; intro hD
        simp only [Act.put, List.setIfInBounds_toArray, List.set_cons_zero, List.set_cons_succ]
        refine wpAnyK_pureD (i := 14) (d := some 36) (v := undef) (fuel := 7) rfl (by kernel_rfl) (by kernel_rfl) (fun _ _ _ h => h) hD (Below.refl _ _) (.inr ⟨by kernel_rfl, rfl⟩) ?_
        clear hD; intro hD
        simp only [Act.put, List.setIfInBounds_toArray, List.set_cons_zero, List.set_cons_succ]
        refine wpAnyK_pureD (i := 15) (d := some 37) (v := undef) (fuel := 6) rfl (by kernel_rfl) (by kernel_rfl) (fun _ _ _ h => h) hD (Below.refl _ _) (.inr ⟨by kernel_rfl, rfl⟩) ?_
        clear hD; intro hD
        simp only [Act.put, List.setIfInBounds_toArray, List.set_cons_zero, List.set_cons_succ]
        refine wpAnyK_pureD (i := 16) (d := some 38) (v := undef) (fuel := 5) rfl (by kernel_rfl) (by kernel_rfl) (fun _ _ _ h => h) hD (Below.refl _ _) (.inr ⟨by kernel_rfl, rfl⟩) ?_
        clear hD; intro hD
        simp only [Act.put, List.setIfInBounds_toArray, List.set_cons_zero, List.set_cons_succ]
        refine wpAnyK_pureD (i := 17) (d := some 39) (v := undef) (fuel := 4) rfl (by kernel_rfl) (by kernel_rfl) (fun _ _ _ h => h) hD (Below.refl _ _) (.inr ⟨by kernel_rfl, rfl⟩) ?_
        clear hD; intro hD
        simp only [Act.put, List.setIfInBounds_toArray, List.set_cons_zero, List.set_cons_succ]
        refine wpAnyK_pureD (i := 18) (d := some 40) (v := undef) (fuel := 3) rfl (by kernel_rfl) (by kernel_rfl) (fun _ _ _ h => h) hD (Below.refl _ _) (.inr ⟨by kernel_rfl, rfl⟩) ?_
        clear hD; intro hD
        simp only [Act.put, List.setIfInBounds_toArray, List.set_cons_zero, List.set_cons_succ]
        refine wpAnyK_pureD (i := 19) (d := some 41) (v := undef) (fuel := 2) rfl (by kernel_rfl) (by kernel_rfl) (fun _ _ _ h => h) hD (Below.refl _ _) (.inr ⟨by kernel_rfl, rfl⟩) ?_
        clear hD; intro hD
        simp only [Act.put, List.setIfInBounds_toArray, List.set_cons_zero, List.set_cons_succ]
        refine wpAnyK_pureD (i := 20) (d := some 42) (v := ?v4_20b3) (fuel := 1) rfl (by kernel_rfl) (by kernel_rfl) (fun _ _ _ h => h) hD (Below.refl _ _) (.inl ⟨by kernel_rfl, ?y4_20b3⟩) ?n4_20b3
        case y4_20b3 => intro w' _; go_simp; with_reducible rfl
        clear hD; intro hD
        simp only [Act.put, List.setIfInBounds_toArray, List.set_cons_zero, List.set_cons_succ]
        refine wpAnyK_pureD (i := 21) (d := some 43) (v := ?v4_21b3) (fuel := 0) rfl (by kernel_rfl) (by kernel_rfl) (fun _ _ _ h => h) hD (Below.refl _ _) (.inl ⟨by kernel_rfl, ?y4_21b3⟩) ?n4_21b3
        case y4_21b3 => intro w' _; go_simp; with_reducible rfl
        clear hD; intro hD
        simp only [Act.put, List.setIfInBounds_toArray, List.set_cons_zero, List.set_cons_succ]
        refine wpAnyK_done (by kernel_rfl) ?_ 0
        clear hD hd hd'
        have HW := Lib.hid (show Below w.heap.size w wr.drew from HB.out.trans ((Below.refl wr.heap.size wr).drew.mono HB.out.size))
        have HOO := Lib.hid (show wr.drew.ownsRow w.heap.size 23 1 u9 o.length (o.map Value.string) from owns_kept HOWN.out ((Below.refl wr.heap.size wr).drew) (Nat.le_refl _))
        have ex : wr.drew.cell? ⟨p3, o3 + Q, none⟩ = some (.string y) := e3
        clear e3
        -- y is next: HX : elem, HW : Below w.. wr.drew, HOO : row in wr.drew, HR : equation of the rest
        have HCH := Lib.hid (r37_has nb A4 n4 c4 y wr.drew (H4.out.kept HW.out (Nat.le_refl _)))
        go_wp2_with fail
        refine HCH.out.mono ?_
        rintro e wa ⟨rfl, hb⟩
        have HWA := Lib.hid (HW.out.trans (hb.mono HW.out.size))
        have HOA := Lib.hid (owns_kept HOO.out hb (Nat.le_refl _))
        have ec := cell_kept hb (Nat.le_refl _) ex
        clear hb
        cases hh : memB nb y with
        | true =>
          have HR2 := Lib.hid (show o ++ mrg (memB na) (memB nb) (a.drop I) (b.drop (Q + 1)) = R from by rw [← HEQ.out, HR.out, if_pos hh]; rfl)
          clear hh
          go_wp2
          go_roundw
          case rel => exact ⟨I, (Q + 1), o, by omega, by omega, by go_num, by go_num, HOA.out, HR2.out, by omega, HWA.out⟩
          case measure => simp [intOf]; omega
        | false =>
          have HR2 := Lib.hid (show o ++ [y] ++ mrg (memB na) (memB nb) (a.drop I) (b.drop (Q + 1)) = R from by rw [← HEQ.out, HR.out, if_neg (by rw [hh]; decide), List.append_assoc])
          clear hh
          go_wp2_with (at_builtin; go_must (refine wpList_append_sl w _ rfl (.tmp 67) (.tmp 72) rfl w.heap.size _ o.length o rfl (HOA.out.alloc (.cells #[.string y] 23)) (some ⟨wa.heap.size, 0, none⟩) 1 1 [y] rfl (SlN.new wa [y] 23 (by simp)) (by omega) (HWA.out.alloc HWA.out.size _) (by have := HWA.out.size; simp; omega) ?_))
          intro v2 w2 hown hb hsz
          have HO2 := Lib.hid (show w2.ownsRow w.heap.size 23 1 v2 (o ++ [y]).length ((o ++ [y]).map Value.string) from by rw [List.length_append, List.map_append]; exact hown)
          have HB2 := Lib.hid hb
          clear hown hb hsz
          go_wp2
          go_roundw
          case rel => exact ⟨I, (Q + 1), o ++ [y], by omega, by omega, by go_num, by go_num, HO2.out, HR2.out, by simp; omega, HB2.out⟩
          case measure => simp [intOf]; omega
      · obtain rfl : Q = n3 := by omega
        have HE := Lib.hid (show o = R from by
          have := HEQ.out
          rw [List.drop_eq_nil_of_le (Nat.le_of_eq HL1.out), List.drop_eq_nil_of_le (Nat.le_of_eq HL3.out), mrg, List.append_nil] at this
          exact this)
        have HOR := Lib.hid (show wr.ownsRow w.heap.size 23 1 u9 R.length (R.map Value.string) from by rw [← HE.out]; exact HOWN.out)
        clear hi hq
        go_wp2
        go_ret
        exact ⟨_, rfl, HOR.out, HB.out⟩
end Go.Proofs.Ytelhpdlegjgjjaa

/- Walks: slices.Grow of nil, slices.Concat of two lists of numbers. -/
import Derived.Test.YtelhpdlegjgjjaaEpB
import Derived.Test.YtelhpdlegjgjjaaShelb
import Derived.Deep.Upon
set_option linter.unusedVariables false
set_option linter.unusedSimpArgs false
namespace Go.Proofs.Ytelhpdlegjgjjaa
open Go.RowKit

/-- Nothing is appended. -/
theorem wpList_append_none {P : Program} (w : World) {ops : Array Oper} {rest : List Oper} {o : Oper} {a : Act} {Q : Exit → Act → World → Prop} (hg : o.guard = none) (s x : Operand) (t : TypeId) (hop : o.op = Op.call { callee := Callee.builtin Builtin.append, args := #[s, x], argTypes := #[t, t] })
    (e : TypeId) (i : TypeInfo) (h1 : P.underlying t = some (.slice e)) (h2 : P.info? e = some i) (ao : Option Addr) (n cap : Nat) (hs : a.eval s = .slice ao n cap) (hle : n ≤ cap) (m : Nat) (hx : a.eval x = .slice none 0 m)
    (hK : wpList P ops Q rest (a.put o.dst (.slice ao n cap)) w) : wpList P ops Q (o :: rest) a w := by
  refine wpList_plain hg fun K hK' => ?_
  have hrun : (Builtin.append_ #[t, t] o.type #[.slice ao n cap, .slice none 0 m]).run P w = .ok (.slice ao n cap) w := by
    cases ao <;> simp [Builtin.append_, run_underlying h1, sizeOf, typeInfo, h2, hle, storeCells, go_sem]
  unfold Oper.wp
  simp [execOp, hop, resolve, invoke, builtin, hs, hx, hrun, Result.andThen]
  exact hK' _ _ hK
theorem sl_Grow (n : Nat) (w : World) (hn : n ≤ 2000000) : Calls Try.prog 67 #[.slice none 0 0, .int .i64 n] w (fun e w' => ∃ v, e = .returned v ∧ w'.ownsRow w.heap.size 23 1 v 0 [] ∧ Below w.heap.size w w') := by
  rcases Nat.eq_zero_or_pos n with h0 | h0
  · subst h0
    refine (show Calls Try.prog 67 _ _ _ from Any8.slices_Grow_room Try.growN none 0 0 0 w (Nat.le_refl _) (by omega) (by omega) (by omega)).mono ?_
    rintro e w' ⟨rfl, rfl⟩
    exact ⟨_, rfl, World.ownsRow_nil _ _ _ _, Below.refl _ _⟩
  · obtain ⟨i0, hi, hz0, hz1, hz2⟩ := info_parts nat_info
    refine (show Calls Try.prog 67 _ _ _ from Any8.slices_Grow_grow Try.growN i0 _ hi hz0 (by rw [hz1]; decide) none 0 0 n [] w (Nat.le_refl _) (by omega) (by rw [hz2]; omega) (by omega) (by simp) (fun _ => rfl) (fun a h => by cases h)).mono ?_
    rintro e w' ⟨rfl, rfl⟩
    have hge := grownCap_ge w (0 + n) 0 23
    have hle := grownCap_le_maxLen w (0 + n) 0 23 (by unfold maxLen; omega)
    refine ⟨_, rfl, World.ownsRow_made (base := w.heap.size) w.drew _ _ (Nat.le_refl _) hle ?_, (Below.refl _ _).drew.alloc (Nat.le_refl _) _⟩
    have hz : (Value.string ⟨#[]⟩).cells.size = 1 := rfl
    show (List.toArray [] ++ Builtin.zeroCells (Value.string ⟨#[]⟩).cells (0 + n - 0) ++ Builtin.zeroCells (Value.string ⟨#[]⟩).cells (grownCap w (0 + n) 0 23 - (0 + n))).size = grownCap w (0 + n) 0 23 * 1
    rw [Array.size_append, Array.size_append, size_zeroCells, size_zeroCells, hz]
    simp only [List.size_toArray, List.length_nil]
    omega
/-- What was taken so far. -/
def cnt (n1 n2 : Nat) : Nat → Nat
  | 0 => 0
  | 1 => n1
  | _ + 2 => n1 + n2
def lst (l1 l2 : List ByteArray) : Nat → List ByteArray
  | 0 => []
  | 1 => l1
  | _ + 2 => l1 ++ l2
set_option maxRecDepth 100000 in
set_option maxHeartbeats 2000000 in
theorem sl_Concat (l1 l2 : List ByteArray) (A1 A2 : Option Addr) (n1 c1 n2 c2 g : Nat) (w : World) (h1 : SlN w A1 n1 c1 l1) (h2 : SlN w A2 n2 c2 l2) (hn1 : n1 ≤ 1000000) (hn2 : n2 ≤ 1000000) (g0 : w.cell? ⟨g, 0, none⟩ = some (.slice A1 n1 c1)) (g1 : w.cell? ⟨g, 1, none⟩ = some (.slice A2 n2 c2)) :
    Calls Try.prog 42 #[.slice (some ⟨g, 0, none⟩) 2 2] w (RetRow 23 1 (n1 + n2) ((l1 ++ l2).map Value.string) w) := by
  have H1 := Lib.hid h1
  have H2 := Lib.hid h2
  have hc1 := h1.2.1
  have hc2 := h2.2.1
  have hm1 := h1.2.2.1
  have hm2 := h2.2.2.1
  have G0 := Lib.hid g0
  have G1 := Lib.hid g1
  clear h1 h2 g0 g1
  go_enter Try.func42, Try.ntmps42
  go_wp2
  go_loop [3, 11] (fun s i => ∃ j : Nat, j ≤ 2 ∧ i = .int .i64 j ∧ s = .int .i64 (cnt n1 n2 j)) (fun _ i => 2 - (intOf i).toNat)
  case atStart => exact ⟨0, by omega, rfl, rfl⟩
  case round =>
    obtain ⟨j, hj, rfl, rfl⟩ := hrel
    match j, hj with
    | 0, _ =>
      have g0 := G0.out
      simp only [cnt, Int.natCast_zero]
      go_wp2
      go_round
      case rel => exact ⟨1, by omega, by go_num, by simp only [cnt]⟩
      case measure => simp [intOf]
    | 1, _ =>
      have g1 := G1.out
      simp only [cnt]
      go_wp2
      go_round
      case rel => exact ⟨2, by omega, by go_num, by simp only [cnt]; go_num⟩
      case measure => simp [intOf]
    | 2, _ =>
      simp only [cnt]
      go_wp2_with fail
      refine (sl_Grow (n1 + n2) w (by omega)).mono ?_
      rintro e w1 ⟨v, rfl, hown, hb⟩
      have HO1 := Lib.hid hown
      have HB1 := Lib.hid hb
      clear hown hb
      go_wp2
      go_loopw [6, 27] (fun v i wr => ∃ j : Nat, j ≤ 2 ∧ i = .int .i64 j ∧ wr.ownsRow w.heap.size 23 1 v (cnt n1 n2 j) ((lst l1 l2 j).map Value.string) ∧ Below w.heap.size w wr) (fun _ i _ => 2 - (intOf i).toNat)
      case atStart => exact ⟨0, by omega, rfl, HO1.out, HB1.out⟩
      case round =>
        obtain ⟨j, hj, rfl, hown, hbb⟩ := hrel
        have HB := Lib.hid hbb
        clear hbb
        match j, hj with
        | 0, _ =>
          have g0 := cell_kept HB.out (Nat.le_refl _) G0.out
          simp only [Int.natCast_zero]
          have HA1 := Lib.hid hown
          clear hown
          cases A1 with
          | none =>
            have h0 : n1 = 0 := by
              rcases Nat.eq_zero_or_pos n1 with h | h
              · exact h
              · obtain ⟨b, o, e⟩ := H1.out.head h; cases e
            have hl : l1 = [] := List.length_eq_zero_iff.1 (by rw [H1.out.1, h0])
            have H0 := Lib.hid h0
            have HL := Lib.hid hl
            clear h0 hl
            obtain ⟨A6, m6, c6, hu6⟩ : ∃ A m c, u6 = .slice A m c := by
              rcases HA1.out.2 with ⟨h, _⟩ | ⟨g, c, _, h, _⟩
              · exact ⟨_, _, _, h⟩
              · exact ⟨_, _, _, h⟩
            have hmc : m6 ≤ c6 := by
              rcases HA1.out.2 with ⟨h, _⟩ | ⟨g, c, _, h, _, _, h2, _⟩
              · rw [hu6] at h; cases h; exact Nat.le_refl _
              · rw [hu6] at h; cases h; exact h2
            obtain ⟨i0, hi, iz0, iz1, iz2⟩ := info_parts nat_info
            go_wp2_with (at_builtin; refine wpList_append_none _ rfl (.tmp 31) (.tmp 32) 22 rfl 23 i0 Try.underlying22 hi _ _ _ hu6 hmc c1 (congrArg (fun n => Value.slice none n c1) H0.out) ?_)
            rw [← hu6]
            clear hu6
            have HO7 := Lib.hid (show wr.ownsRow w.heap.size 23 1 u6 (cnt n1 n2 (0 + 1)) ((lst l1 l2 (0 + 1)).map Value.string) from by have := HA1.out; have h0 := H0.out; have hl := HL.out; simp only [cnt, lst, hl, h0] at this ⊢; simpa using this)
            have HB7 := Lib.hid HB.out
            clear hi iz0 iz1 iz2
            go_wp2
            go_roundw
            case rel => exact ⟨0 + 1, by omega, by go_num, HO7.out, HB7.out⟩
            case measure => simp [intOf]
          | some ad =>
            have HC := Lib.hid (H1.out.kept HB.out (Nat.le_refl _)).cells
            have HV := Lib.hid (show (l1.map Value.string).length = n1 * 1 from by rw [List.length_map, H1.out.1, Nat.mul_one])
            obtain ⟨i0, hi, iz0, iz1, iz2⟩ := info_parts nat_info
            go_wp2_with (at_builtin; refine wpList_append_own _ rfl (.tmp 31) (.tmp 32) 22 rfl w.heap.size 23 i0 _ 1 16 Try.underlying22 hi iz0 iz1 iz2 rfl (by decide) _ (cnt n1 n2 0) _ rfl HA1.out ad n1 c1 (l1.map Value.string) rfl ?h1 ?h2 (strs_one _) ?h4 ?h5 ?h6 ?_)
            case h1 => exact HV.out
            case h2 => exact HC.out
            case h4 => simp only [cnt]; unfold maxLen; omega
            case h5 => simp only [cnt]; omega
            case h6 => exact HB.out.size
            intro v' w' hown hgrow _
            have HB7 := Lib.hid (HB.out.grown hgrow HB.out.size (fun k hk => (HA1.out.lt k hk).1))
            have HO7 := Lib.hid (show w'.ownsRow w.heap.size 23 1 v' (cnt n1 n2 (0 + 1)) ((lst l1 l2 (0 + 1)).map Value.string) from by have := hown; simp only [cnt, lst] at this ⊢; simpa using this)
            clear hown hgrow hi iz0 iz1 iz2
            go_wp2
            go_roundw
            case rel => exact ⟨0 + 1, by omega, by go_num, HO7.out, HB7.out⟩
            case measure => simp [intOf]
        | 1, _ =>
          have g1 := cell_kept HB.out (Nat.le_refl _) G1.out
          simp only [Int.natCast_one]
          have HA1 := Lib.hid hown
          clear hown
          cases A2 with
          | none =>
            have h0 : n2 = 0 := by
              rcases Nat.eq_zero_or_pos n2 with h | h
              · exact h
              · obtain ⟨b, o, e⟩ := H2.out.head h; cases e
            have hl : l2 = [] := List.length_eq_zero_iff.1 (by rw [H2.out.1, h0])
            have H0 := Lib.hid h0
            have HL := Lib.hid hl
            clear h0 hl
            obtain ⟨A6, m6, c6, hu6⟩ : ∃ A m c, u6 = .slice A m c := by
              rcases HA1.out.2 with ⟨h, _⟩ | ⟨g, c, _, h, _⟩
              · exact ⟨_, _, _, h⟩
              · exact ⟨_, _, _, h⟩
            have hmc : m6 ≤ c6 := by
              rcases HA1.out.2 with ⟨h, _⟩ | ⟨g, c, _, h, _, _, h2, _⟩
              · rw [hu6] at h; cases h; exact Nat.le_refl _
              · rw [hu6] at h; cases h; exact h2
            obtain ⟨i0, hi, iz0, iz1, iz2⟩ := info_parts nat_info
            go_wp2_with (at_builtin; refine wpList_append_none _ rfl (.tmp 31) (.tmp 32) 22 rfl 23 i0 Try.underlying22 hi _ _ _ hu6 hmc c2 (congrArg (fun n => Value.slice none n c2) H0.out) ?_)
            rw [← hu6]
            clear hu6
            have HO7 := Lib.hid (show wr.ownsRow w.heap.size 23 1 u6 (cnt n1 n2 (1 + 1)) ((lst l1 l2 (1 + 1)).map Value.string) from by have := HA1.out; have h0 := H0.out; have hl := HL.out; simp only [cnt, lst, hl, h0] at this ⊢; simpa using this)
            have HB7 := Lib.hid HB.out
            clear hi iz0 iz1 iz2
            go_wp2
            go_roundw
            case rel => exact ⟨1 + 1, by omega, by go_num, HO7.out, HB7.out⟩
            case measure => simp [intOf]
          | some ad =>
            have HC := Lib.hid (H2.out.kept HB.out (Nat.le_refl _)).cells
            have HV := Lib.hid (show (l2.map Value.string).length = n2 * 1 from by rw [List.length_map, H2.out.1, Nat.mul_one])
            obtain ⟨i0, hi, iz0, iz1, iz2⟩ := info_parts nat_info
            go_wp2_with (at_builtin; refine wpList_append_own _ rfl (.tmp 31) (.tmp 32) 22 rfl w.heap.size 23 i0 _ 1 16 Try.underlying22 hi iz0 iz1 iz2 rfl (by decide) _ (cnt n1 n2 1) _ rfl HA1.out ad n2 c2 (l2.map Value.string) rfl ?h1 ?h2 (strs_one _) ?h4 ?h5 ?h6 ?_)
            case h1 => exact HV.out
            case h2 => exact HC.out
            case h4 => simp only [cnt]; unfold maxLen; omega
            case h5 => simp only [cnt]; omega
            case h6 => exact HB.out.size
            intro v' w' hown hgrow _
            have HB7 := Lib.hid (HB.out.grown hgrow HB.out.size (fun k hk => (HA1.out.lt k hk).1))
            have HO7 := Lib.hid (show w'.ownsRow w.heap.size 23 1 v' (cnt n1 n2 (1 + 1)) ((lst l1 l2 (1 + 1)).map Value.string) from by have := hown; simp only [cnt, lst] at this ⊢; simpa using this)
            clear hown hgrow hi iz0 iz1 iz2
            go_wp2
            go_roundw
            case rel => exact ⟨1 + 1, by omega, by go_num, HO7.out, HB7.out⟩
            case measure => simp [intOf]
        | 2, _ =>
          have HO := Lib.hid (show wr.ownsRow w.heap.size 23 1 u6 (n1 + n2) ((l1 ++ l2).map Value.string) from hown)
          clear hown
          go_wp2
          go_ret
          exact ⟨_, rfl, HO.out, HB.out⟩
end Go.Proofs.Ytelhpdlegjgjjaa

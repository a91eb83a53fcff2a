/- Walks: ascends (both sides), slices.Index, Contains, dominoref37.has. -/
import Derived.Test.YtelhpdlegjgjjaaEpA
import Derived.Test.YtelhpdlegjgjjaaOrd
import Derived.Test.YtelhpdlegjgjjaaNum2
import Derived.Test.YtelhpdlegjgjjaaGst
set_option linter.unusedVariables false
set_option linter.unusedSimpArgs false
namespace Go.Proofs.Ytelhpdlegjgjjaa
open Go.RowKit

theorem canon_valid {s : ByteArray} (h : nvalid s = true) : canon s.data.toList := by
  unfold nvalid at h
  rw [Bool.and_eq_true, Bool.not_eq_true', beq_eq_false_iff_ne] at h
  exact h.2
theorem size_valid {s : ByteArray} (h : nvalid s = true) : s.size ≤ 128 := by
  unfold nvalid at h
  rw [Bool.and_eq_true] at h
  exact of_decide_eq_true h.1
theorem ordB_num {a b : ByteArray} (ha : nvalid a = true) (hb : nvalid b = true) : ordB a b = cmpI (num a) (num b) := ordL_canon (canon_valid ha) (canon_valid hb)
theorem ncmp_num {a b : ByteArray} (ha : nvalid a = true) (hb : nvalid b = true) : ncmp a b = cmpI (num a) (num b) := by
  unfold ncmp
  rw [ha, hb]
  exact ordB_num ha hb
theorem cmpI_neg {a b : Nat} : cmpI a b < 0 ↔ a < b := by
  unfold cmpI
  split
  · simp_all
  · split <;> simp_all
theorem num_inj {a b : ByteArray} (ha : nvalid a = true) (hb : nvalid b = true) (h : num a = num b) : a = b := by
  have h1 := encN_bnat (canon_valid ha)
  have h2 := encN_bnat (canon_valid hb)
  have : a.data.toList = b.data.toList := by
    rw [← h1, ← h2]
    exact congrArg encN h
  exact ByteArray.ext (Array.toList_inj.1 this)
/-- Numbers that ascend. -/
def ascB (l : List ByteArray) : Bool := (List.range l.length).all (fun k => match l[k]?, l[k + 1]? with
  | some a, some b => decide (num a < num b)
  | _, _ => true)
theorem ascB_iff {l : List ByteArray} : ascB l = true ↔ ∀ (k : Nat) a b, l[k]? = some a → l[k + 1]? = some b → num a < num b := by
  unfold ascB
  rw [List.all_eq_true]
  constructor
  · intro h k a b h1 h2
    have := h k (List.mem_range.2 (List.getElem?_eq_some_iff.1 h1).1)
    rw [h1, h2] at this
    exact of_decide_eq_true this
  · intro h k _
    cases h1 : l[k]? with
    | none => rfl
    | some a =>
      cases h2 : l[k + 1]? with
      | none => rfl
      | some b => exact decide_eq_true (h k a b h1 h2)
theorem ascB_no {l : List ByteArray} {k : Nat} {a b : ByteArray} (h1 : l[k]? = some a) (h2 : l[k + 1]? = some b) (h : ¬ num a < num b) : ascB l = false := by
  cases h3 : ascB l with
  | false => rfl
  | true => exact absurd (ascB_iff.1 h3 k a b h1 h2) h
set_option maxRecDepth 100000 in
set_option maxHeartbeats 1000000 in
theorem ep_ascends (l : List ByteArray) (A : Option Addr) (len cap : Nat) (w : World) (hs : SlN w A len cap l) (hv : ∀ s ∈ l, nvalid s = true) : Calls Try.prog 44 #[.slice A len cap] w (Ret (.bool (ascB l)) w) := by
  have HS := Lib.hid hs
  have HV := Lib.hid hv
  have HLEN := Lib.hid hs.1
  have hcap := hs.2.1
  have hcap2 := hs.2.2.1
  clear hs hv
  go_enter Try.func44, Try.ntmps44
  go_wp2
  go_loopw [3] (fun i wr => ∃ k : Nat, (k + 1 ≤ len ∨ k = 0) ∧ i = .int .i64 ((k : Int) + 1) ∧ (∀ (m : Nat) a b, m < k → l[m]? = some a → l[m + 1]? = some b → num a < num b) ∧ Below w.heap.size w wr) (fun i _ => len + 1 - (intOf i).toNat)
  case atStart => exact ⟨0, .inr rfl, rfl, fun m a b h => absurd h (Nat.not_lt_zero _), Below.refl _ _⟩
  case round =>
    obtain ⟨k, hk, rfl, hall, hbb⟩ := hrel
    have HALL := Lib.hid hall
    have HB := Lib.hid hbb
    clear hall hbb
    by_cases hlt : k + 1 < len
    · obtain ⟨a, ha⟩ : ∃ a, l[k]? = some a := ⟨_, List.getElem?_eq_getElem (by rw [HLEN.out]; omega)⟩
      obtain ⟨c, hc⟩ : ∃ c, l[k + 1]? = some c := ⟨_, List.getElem?_eq_getElem (by rw [HLEN.out]; exact hlt)⟩
      have va := HV.out a (List.mem_of_getElem? ha)
      have vc := HV.out c (List.mem_of_getElem? hc)
      have hsa := size_valid va
      have hsc := size_valid vc
      obtain ⟨b, o, rfl, e1⟩ := (HS.out.kept HB.out (Nat.le_refl _)).cell ha
      obtain ⟨_, _, e, e2⟩ := (HS.out.kept HB.out (Nat.le_refl _)).cell hc
      cases e
      have e1 : wr.drew.cell? ⟨b, o + k, none⟩ = some (.string a) := e1
      have e2 : wr.drew.cell? ⟨b, o + (k + 1), none⟩ = some (.string c) := e2
      have HCM := Lib.hid (show ∀ w, Calls Try.prog 36 #[.string a, .string c] w (Ret (.int .i64 (cmpI (num a) (num c))) w) from fun w => by
        have := nat_Cmp a c (by omega) (by omega) w
        rw [ncmp_num va vc] at this
        exact this.mono fun _ _ h => ⟨h.1, h.2 ▸ Below.refl _ _⟩)
      have HA := Lib.hid ha
      have HC := Lib.hid hc
      have k1 : (k : Int) + 1 - 1 = k := by omega
      have k2 : IntKind.i64.wrap (k : Int) = k := by rw [IntKind.wrap_i64]; omega
      have k3 : k < len := by omega
      have k4 : (0 : Int) ≤ (k : Int) + 1 := by omega
      clear ha hc va vc hsa hsc
      go_wp2
      refine wp_region_K 11 (Below (wr.drew).heap.size (wr.drew)) (by kernel_rfl) ?_
      intro hD
      refine wpAnyK_pureD (i := 0) (d := some 10) (v := ?v4_0b1) (fuel := 10) rfl (by kernel_rfl) (by kernel_rfl) (fun _ _ _ h => h) hD (Below.refl _ _) (.inl ⟨by kernel_rfl, ?y4_0b1⟩) ?n4_0b1
      case y4_0b1 => intro w' _; go_simp; with_reducible rfl
      clear hD; intro hD
      simp only [Act.put, List.setIfInBounds_toArray, List.set_cons_zero, List.set_cons_succ]
      refine wpAnyK_pureD (i := 1) (d := some 11) (v := ?v4_1b1) (fuel := 9) rfl (by kernel_rfl) (by kernel_rfl) (fun _ _ _ h => h) hD (Below.refl _ _) (.inl ⟨by kernel_rfl, ?y4_1b1⟩) ?n4_1b1
      case y4_1b1 => intro w' _; go_simp; with_reducible rfl
      clear hD; intro hD
      simp only [Act.put, List.setIfInBounds_toArray, List.set_cons_zero, List.set_cons_succ]
      refine wpAnyK_pureD (i := 2) (d := some 12) (v := ?v4_2b1) (fuel := 8) rfl (by kernel_rfl) (by kernel_rfl) (fun _ _ _ h => h) hD (Below.refl _ _) (.inl ⟨by kernel_rfl, ?y4_2b1⟩) ?n4_2b1
      case y4_2b1 => intro w' _; go_simp; with_reducible rfl
      clear hD; intro hD
      simp only [Act.put, List.setIfInBounds_toArray, List.set_cons_zero, List.set_cons_succ]
      refine wpAnyK_pureD (i := 3) (d := some 13) (v := ?v4_3b1) (fuel := 7) rfl (by kernel_rfl) (by kernel_rfl) (fun _ _ _ h => h) hD (Below.refl _ _) (.inl ⟨by kernel_rfl, ?y4_3b1⟩) ?n4_3b1
      case y4_3b1 => intro w' _; go_simp; with_reducible rfl
      clear hD; intro hD
      simp only [Act.put, List.setIfInBounds_toArray, List.set_cons_zero, List.set_cons_succ]
      refine wpAnyK_takeSD (i := 4) (d := some 14) (v := ?v4_4b1) (fuel := 6) rfl (by kernel_rfl) (by kernel_rfl) (by kernel_rfl) (fun _ _ _ h => h) hD (Below.refl _ _) (.inl ⟨by kernel_rfl, ?y4_4b1⟩) ?n4_4b1
      case y4_4b1 => intro w' hS'; have e0 := cell_kept hS' (Nat.le_refl _) e1; have e1 := cell_kept hS' (Nat.le_refl _) e2; go_simp; with_reducible rfl
      clear hD; intro hD
      simp only [Act.put, List.setIfInBounds_toArray, List.set_cons_zero, List.set_cons_succ]
      refine wpAnyK_pureD (i := 5) (d := some 15) (v := ?v4_5b1) (fuel := 5) rfl (by kernel_rfl) (by kernel_rfl) (fun _ _ _ h => h) hD (Below.refl _ _) (.inl ⟨by kernel_rfl, ?y4_5b1⟩) ?n4_5b1
      case y4_5b1 => intro w' _; go_simp; with_reducible rfl
      clear hD; intro hD
      simp only [Act.put, List.setIfInBounds_toArray, List.set_cons_zero, List.set_cons_succ]
      refine wpAnyK_pureD (i := 6) (d := some 16) (v := ?v4_6b1) (fuel := 4) rfl (by kernel_rfl) (by kernel_rfl) (fun _ _ _ h => h) hD (Below.refl _ _) (.inl ⟨by kernel_rfl, ?y4_6b1⟩) ?n4_6b1
      case y4_6b1 => intro w' _; go_simp; with_reducible rfl
      clear hD; intro hD
      simp only [Act.put, List.setIfInBounds_toArray, List.set_cons_zero, List.set_cons_succ]
      refine wpAnyK_pureD (i := 7) (d := some 17) (v := ?v4_7b1) (fuel := 3) rfl (by kernel_rfl) (by kernel_rfl) (fun _ _ _ h => h) hD (Below.refl _ _) (.inl ⟨by kernel_rfl, ?y4_7b1⟩) ?n4_7b1
      case y4_7b1 => intro w' _; go_simp; with_reducible rfl
      clear hD; intro hD
      simp only [Act.put, List.setIfInBounds_toArray, List.set_cons_zero, List.set_cons_succ]
      refine wpAnyK_takeSD (i := 8) (d := some 18) (v := ?v4_8b1) (fuel := 2) rfl (by kernel_rfl) (by kernel_rfl) (by kernel_rfl) (fun _ _ _ h => h) hD (Below.refl _ _) (.inl ⟨by kernel_rfl, ?y4_8b1⟩) ?n4_8b1
      case y4_8b1 => intro w' hS'; have e0 := cell_kept hS' (Nat.le_refl _) e1; have e1 := cell_kept hS' (Nat.le_refl _) e2; go_simp; with_reducible rfl
      clear hD; intro hD
      simp only [Act.put, List.setIfInBounds_toArray, List.set_cons_zero, List.set_cons_succ]
      refine wpAnyK_one (i := 9) (fuel := 1) (by kernel_rfl) rfl hD ?_
      clear hD; intro K9 hK9
      go_wp2_with fail
      refine (HCM.out _).mono ?_
      rintro e w1 ⟨rfl, hb⟩
      have HL1 := Lib.hid hb
      go_wp2
      refine hK9 _ _ (by exact hb) ?_; clear hK9; intro hS_4_9 hD
      refine wpAnyK_pureD (i := 10) (d := some 20) (v := ?v4_10b1) (fuel := 0) rfl (by kernel_rfl) (by kernel_rfl) (fun _ _ _ h => h) hD hS_4_9 (.inl ⟨by kernel_rfl, ?y4_10b1⟩) ?n4_10b1
      case y4_10b1 => intro w' _; go_simp; with_reducible rfl
      clear hD; intro hD
      simp only [Act.put, List.setIfInBounds_toArray, List.set_cons_zero, List.set_cons_succ]
      refine wpAnyK_done (by kernel_rfl) ?_ 0
      clear hD
      have HB1 := Lib.hid (HB.out.trans (((Below.refl wr.heap.size wr).drew.trans HL1.out).mono HB.out.size))
      by_cases hlt2 : num a < num c
      · have h0 : cmpI (num a) (num c) < 0 := cmpI_neg.2 hlt2
        have HA2 := Lib.hid (show ∀ (m : Nat) a b, m < k + 1 → l[m]? = some a → l[m + 1]? = some b → num a < num b from fun m x y hm hx hy => by
          rcases Nat.lt_or_ge m k with h | h
          · exact HALL.out m x y h hx hy
          · obtain rfl : m = k := by omega
            rw [HA.out] at hx
            rw [HC.out] at hy
            cases hx; cases hy
            exact hlt2)
        obtain ⟨cc, hcc⟩ : ∃ cc, cmpI (num a) (num c) = cc := ⟨_, rfl⟩
        rw [hcc] at h0 ⊢
        clear hcc hlt2
        go_wp2
        go_roundw
        case rel => exact ⟨k + 1, .inl (by omega), by go_num, HA2.out, HB1.out⟩
        case measure => simp [intOf]; omega
      · have h0 : ¬ (cmpI (num a) (num c) < 0) := fun h => hlt2 (cmpI_neg.1 h)
        have HF := Lib.hid (ascB_no HA.out HC.out hlt2)
        obtain ⟨cc, hcc⟩ : ∃ cc, cmpI (num a) (num c) = cc := ⟨_, rfl⟩
        rw [hcc] at h0 ⊢
        clear hcc hlt2
        go_wp2
        go_ret
        exact ⟨by rw [HF.out]; rfl, HB1.out⟩
    · have HF := Lib.hid (show ascB l = true from ascB_iff.2 (fun m a b h1 h2 => HALL.out m a b (by have := (List.getElem?_eq_some_iff.1 h2).1; rw [HLEN.out] at this; omega) h1 h2))
      clear hk
      go_wp2
      go_ret
      exact ⟨by rw [HF.out]; rfl, HB.out⟩
set_option maxRecDepth 100000 in
set_option maxHeartbeats 1000000 in
theorem r37_ascends (l : List ByteArray) (A : Option Addr) (len cap : Nat) (w : World) (hs : SlN w A len cap l) (hv : ∀ s ∈ l, nvalid s = true) : Calls Try.prog 55 #[.slice A len cap] w (Ret (.bool (ascB l)) w) := by
  have HS := Lib.hid hs
  have HV := Lib.hid hv
  have HLEN := Lib.hid hs.1
  have hcap := hs.2.1
  have hcap2 := hs.2.2.1
  clear hs hv
  go_enter Try.func55, Try.ntmps55
  go_wp2
  go_loopw [3] (fun i wr => ∃ k : Nat, (k + 1 ≤ len ∨ k = 0) ∧ i = .int .i64 ((k : Int) + 1) ∧ (∀ (m : Nat) a b, m < k → l[m]? = some a → l[m + 1]? = some b → num a < num b) ∧ Below w.heap.size w wr) (fun i _ => len + 1 - (intOf i).toNat)
  case atStart => exact ⟨0, .inr rfl, rfl, fun m a b h => absurd h (Nat.not_lt_zero _), Below.refl _ _⟩
  case round =>
    obtain ⟨k, hk, rfl, hall, hbb⟩ := hrel
    have HALL := Lib.hid hall
    have HB := Lib.hid hbb
    clear hall hbb
    by_cases hlt : k + 1 < len
    · obtain ⟨a, ha⟩ : ∃ a, l[k]? = some a := ⟨_, List.getElem?_eq_getElem (by rw [HLEN.out]; omega)⟩
      obtain ⟨c, hc⟩ : ∃ c, l[k + 1]? = some c := ⟨_, List.getElem?_eq_getElem (by rw [HLEN.out]; exact hlt)⟩
      have va := HV.out a (List.mem_of_getElem? ha)
      have vc := HV.out c (List.mem_of_getElem? hc)
      have hsa := size_valid va
      have hsc := size_valid vc
      obtain ⟨b, o, rfl, e1⟩ := (HS.out.kept HB.out (Nat.le_refl _)).cell ha
      obtain ⟨_, _, e, e2⟩ := (HS.out.kept HB.out (Nat.le_refl _)).cell hc
      cases e
      have e1 : wr.drew.cell? ⟨b, o + k, none⟩ = some (.string a) := e1
      have e2 : wr.drew.cell? ⟨b, o + (k + 1), none⟩ = some (.string c) := e2
      have HCM := Lib.hid (show ∀ w, Calls Try.prog 56 #[.string a, .string c] w (Ret (.int .i64 (cmpI (num a) (num c))) w) from fun w => by
        have := r01_Order a c (by omega) (by omega) w
        rw [ordB_num va vc] at this
        exact this)
      have HA := Lib.hid ha
      have HC := Lib.hid hc
      have k1 : (k : Int) + 1 - 1 = k := by omega
      have k2 : IntKind.i64.wrap (k : Int) = k := by rw [IntKind.wrap_i64]; omega
      have k3 : k < len := by omega
      have k4 : (0 : Int) ≤ (k : Int) + 1 := by omega
      clear ha hc va vc hsa hsc
      go_wp2
      refine wp_region_K 11 (Below (wr.drew).heap.size (wr.drew)) (by kernel_rfl) ?_
      intro hD
      refine wpAnyK_pureD (i := 0) (d := some 10) (v := ?v4_0b2) (fuel := 10) rfl (by kernel_rfl) (by kernel_rfl) (fun _ _ _ h => h) hD (Below.refl _ _) (.inl ⟨by kernel_rfl, ?y4_0b2⟩) ?n4_0b2
      case y4_0b2 => intro w' _; go_simp; with_reducible rfl
      clear hD; intro hD
      simp only [Act.put, List.setIfInBounds_toArray, List.set_cons_zero, List.set_cons_succ]
      refine wpAnyK_pureD (i := 1) (d := some 11) (v := ?v4_1b2) (fuel := 9) rfl (by kernel_rfl) (by kernel_rfl) (fun _ _ _ h => h) hD (Below.refl _ _) (.inl ⟨by kernel_rfl, ?y4_1b2⟩) ?n4_1b2
      case y4_1b2 => intro w' _; go_simp; with_reducible rfl
      clear hD; intro hD
      simp only [Act.put, List.setIfInBounds_toArray, List.set_cons_zero, List.set_cons_succ]
      refine wpAnyK_pureD (i := 2) (d := some 12) (v := ?v4_2b2) (fuel := 8) rfl (by kernel_rfl) (by kernel_rfl) (fun _ _ _ h => h) hD (Below.refl _ _) (.inl ⟨by kernel_rfl, ?y4_2b2⟩) ?n4_2b2
      case y4_2b2 => intro w' _; go_simp; with_reducible rfl
      clear hD; intro hD
      simp only [Act.put, List.setIfInBounds_toArray, List.set_cons_zero, List.set_cons_succ]
      refine wpAnyK_pureD (i := 3) (d := some 13) (v := ?v4_3b2) (fuel := 7) rfl (by kernel_rfl) (by kernel_rfl) (fun _ _ _ h => h) hD (Below.refl _ _) (.inl ⟨by kernel_rfl, ?y4_3b2⟩) ?n4_3b2
      case y4_3b2 => intro w' _; go_simp; with_reducible rfl
      clear hD; intro hD
      simp only [Act.put, List.setIfInBounds_toArray, List.set_cons_zero, List.set_cons_succ]
      refine wpAnyK_takeSD (i := 4) (d := some 14) (v := ?v4_4b2) (fuel := 6) rfl (by kernel_rfl) (by kernel_rfl) (by kernel_rfl) (fun _ _ _ h => h) hD (Below.refl _ _) (.inl ⟨by kernel_rfl, ?y4_4b2⟩) ?n4_4b2
      case y4_4b2 => intro w' hS'; have e0 := cell_kept hS' (Nat.le_refl _) e1; have e1 := cell_kept hS' (Nat.le_refl _) e2; go_simp; with_reducible rfl
      clear hD; intro hD
      simp only [Act.put, List.setIfInBounds_toArray, List.set_cons_zero, List.set_cons_succ]
      refine wpAnyK_pureD (i := 5) (d := some 15) (v := ?v4_5b2) (fuel := 5) rfl (by kernel_rfl) (by kernel_rfl) (fun _ _ _ h => h) hD (Below.refl _ _) (.inl ⟨by kernel_rfl, ?y4_5b2⟩) ?n4_5b2
      case y4_5b2 => intro w' _; go_simp; with_reducible rfl
      clear hD; intro hD
      simp only [Act.put, List.setIfInBounds_toArray, List.set_cons_zero, List.set_cons_succ]
      refine wpAnyK_pureD (i := 6) (d := some 16) (v := ?v4_6b2) (fuel := 4) rfl (by kernel_rfl) (by kernel_rfl) (fun _ _ _ h => h) hD (Below.refl _ _) (.inl ⟨by kernel_rfl, ?y4_6b2⟩) ?n4_6b2
      case y4_6b2 => intro w' _; go_simp; with_reducible rfl
      clear hD; intro hD
      simp only [Act.put, List.setIfInBounds_toArray, List.set_cons_zero, List.set_cons_succ]
      refine wpAnyK_pureD (i := 7) (d := some 17) (v := ?v4_7b2) (fuel := 3) rfl (by kernel_rfl) (by kernel_rfl) (fun _ _ _ h => h) hD (Below.refl _ _) (.inl ⟨by kernel_rfl, ?y4_7b2⟩) ?n4_7b2
      case y4_7b2 => intro w' _; go_simp; with_reducible rfl
      clear hD; intro hD
      simp only [Act.put, List.setIfInBounds_toArray, List.set_cons_zero, List.set_cons_succ]
      refine wpAnyK_takeSD (i := 8) (d := some 18) (v := ?v4_8b2) (fuel := 2) rfl (by kernel_rfl) (by kernel_rfl) (by kernel_rfl) (fun _ _ _ h => h) hD (Below.refl _ _) (.inl ⟨by kernel_rfl, ?y4_8b2⟩) ?n4_8b2
      case y4_8b2 => intro w' hS'; have e0 := cell_kept hS' (Nat.le_refl _) e1; have e1 := cell_kept hS' (Nat.le_refl _) e2; go_simp; with_reducible rfl
      clear hD; intro hD
      simp only [Act.put, List.setIfInBounds_toArray, List.set_cons_zero, List.set_cons_succ]
      refine wpAnyK_one (i := 9) (fuel := 1) (by kernel_rfl) rfl hD ?_
      clear hD; intro K9 hK9
      go_wp2_with fail
      refine (HCM.out _).mono ?_
      rintro e w1 ⟨rfl, hb⟩
      have HL1 := Lib.hid hb
      go_wp2
      refine hK9 _ _ (by exact hb) ?_; clear hK9; intro hS_4_9 hD
      refine wpAnyK_pureD (i := 10) (d := some 20) (v := ?v4_10b2) (fuel := 0) rfl (by kernel_rfl) (by kernel_rfl) (fun _ _ _ h => h) hD hS_4_9 (.inl ⟨by kernel_rfl, ?y4_10b2⟩) ?n4_10b2
      case y4_10b2 => intro w' _; go_simp; with_reducible rfl
      clear hD; intro hD
      simp only [Act.put, List.setIfInBounds_toArray, List.set_cons_zero, List.set_cons_succ]
      refine wpAnyK_done (by kernel_rfl) ?_ 0
      clear hD
      have HB1 := Lib.hid (HB.out.trans (((Below.refl wr.heap.size wr).drew.trans HL1.out).mono HB.out.size))
      by_cases hlt2 : num a < num c
      · have h0 : cmpI (num a) (num c) < 0 := cmpI_neg.2 hlt2
        have HA2 := Lib.hid (show ∀ (m : Nat) a b, m < k + 1 → l[m]? = some a → l[m + 1]? = some b → num a < num b from fun m x y hm hx hy => by
          rcases Nat.lt_or_ge m k with h | h
          · exact HALL.out m x y h hx hy
          · obtain rfl : m = k := by omega
            rw [HA.out] at hx
            rw [HC.out] at hy
            cases hx; cases hy
            exact hlt2)
        obtain ⟨cc, hcc⟩ : ∃ cc, cmpI (num a) (num c) = cc := ⟨_, rfl⟩
        rw [hcc] at h0 ⊢
        clear hcc hlt2
        go_wp2
        go_roundw
        case rel => exact ⟨k + 1, .inl (by omega), by go_num, HA2.out, HB1.out⟩
        case measure => simp [intOf]; omega
      · have h0 : ¬ (cmpI (num a) (num c) < 0) := fun h => hlt2 (cmpI_neg.1 h)
        have HF := Lib.hid (ascB_no HA.out HC.out hlt2)
        obtain ⟨cc, hcc⟩ : ∃ cc, cmpI (num a) (num c) = cc := ⟨_, rfl⟩
        rw [hcc] at h0 ⊢
        clear hcc hlt2
        go_wp2
        go_ret
        exact ⟨by rw [HF.out]; rfl, HB1.out⟩
    · have HF := Lib.hid (show ascB l = true from ascB_iff.2 (fun m a b h1 h2 => HALL.out m a b (by have := (List.getElem?_eq_some_iff.1 h2).1; rw [HLEN.out] at this; omega) h1 h2))
      clear hk
      go_wp2
      go_ret
      exact ⟨by rw [HF.out]; rfl, HB.out⟩
end Go.Proofs.Ytelhpdlegjgjjaa

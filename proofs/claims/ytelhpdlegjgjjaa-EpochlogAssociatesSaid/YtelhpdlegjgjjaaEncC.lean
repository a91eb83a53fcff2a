/- Walks: encoding.valid, encoding.depth and the reference's. -/
import Derived.Test.YtelhpdlegjgjjaaEncB
import Derived.Test.YtelhpdlegjgjjaaNatB
import Derived.Test.YtelhpdlegjgjjaaShelf
import Derived.Deep.QuietTactic
import Derived.BigQuiet
import Derived.Test.YtelhpdlegjgjjaaNat8
set_option linter.unusedVariables false
set_option linter.unusedSimpArgs false
namespace Go.Proofs.Ytelhpdlegjgjjaa
open Go.RowKit

theorem valid_take_step {l : List It} {k : Nat} {y : It} (h : l[k]? = some y) (hv : Its.valid (l.take k) = true) : Its.valid (l.take (k + 1)) = y.valid := by
  rw [take_snoc h, Its.valid_append, hv]
  simp [Its.valid]
theorem valid_take_false {l : List It} {k : Nat} (h : Its.valid (l.take (k + 1)) = false) : Its.valid l = false := by
  have := Its.valid_append (l.take (k + 1)) (l.drop (k + 1))
  rw [List.take_append_drop, h] at this
  exact this
theorem isEmpty_size (t : ByteArray) : t.toList.isEmpty = (t.size == 0) := by
  by_cases h : t.size = 0
  · rw [sempty_true h]; simp [h]
  · rw [sempty_false (by omega)]; simp [h]

set_option maxRecDepth 100000 in
set_option maxHeartbeats 2000000 in
theorem enc_valid (N : Nat) : ∀ (x : It) (v : Value) (w : World) (ok : Nat → Prop), x.nodes ≤ N → x.weight ≤ 1000000000000 → ItAt w ok v x → Calls Try.prog 50 #[v] w (Ret (.bool x.valid) w) := by
  induction N with
  | zero => intro x v w ok h; have := x.nodes_pos; omega
  | succ N ih =>
    intro x v w ok hN hM ⟨A, len, cap, hv, hs⟩
    subst hv
    have IH := Lib.hid ih
    clear ih
    cases x with
    | mk q n t l =>
      simp only [It.kind, It.nat, It.text, It.list] at *
      have hlen := hs.1
      have hcap := hs.2.2.1
      have hlc := hs.2.1
      have hnz : n.size ≤ 9223372036854775807 := by simp only [It.weight] at hM; omega
      have hlle : ((len : Int) == 0) = l.isEmpty := by
        rw [← hlen]; cases l <;> simp
        omega
      have hte := isEmpty_size t
      have hne := isEmpty_size n
      by_cases hq0 : q = 0
      · subst hq0
        have hsp : It.valid (.mk 0 n t l) = (nvalid n && ((t.size == 0) && l.isEmpty)) := by simp [It.valid]
        rw [hsp]
        have HLEN := Lib.hid hlen
        have HS := Lib.hid hs
        clear hsp hlen hs hne hN hM
        cases hv : nvalid n <;> cases ht : (t.size == 0) <;> cases hl : l.isEmpty <;>
        · rw [ht] at hte
          rw [hl] at hlle
          have HV := Lib.hid hv
          clear hv ht hl
          go_enter Try.func50, Try.ntmps50
          go_wp2_with fail
          refine (nat_Valid _ hnz _).mono ?_
          rintro e w1 ⟨rfl, rfl⟩
          rw [HV.out]
          go_wp2
          go_ret
          exact ⟨rfl, (Below.refl _ _).alloc (Nat.le_refl _) _⟩
      · by_cases hq1 : q = 1
        · subst hq1
          have hsp : It.valid (.mk 1 n t l) = ((n.size == 0) && l.isEmpty) := by simp [It.valid]
          rw [hsp]
          have HLEN := Lib.hid hlen
          have HS := Lib.hid hs
          clear hsp hlen hs hte hN hM hq0
          cases ht : (n.size == 0) <;> cases hl : l.isEmpty <;>
          · rw [ht] at hne
            rw [hl] at hlle
            clear ht hl
            go_enter Try.func50, Try.ntmps50
            go_wp2
            go_ret
            exact ⟨rfl, (Below.refl _ _).alloc (Nat.le_refl _) _⟩
        · have e0 : (q == 0) = false := beq_eq_false_iff_ne.2 hq0
          have e1 : (q == 1) = false := beq_eq_false_iff_ne.2 hq1
          by_cases hq2 : q = 2
          · subst hq2
            have hsp : It.valid (.mk 2 n t l) = (Its.valid l && ((n.size == 0) && (t.size == 0))) := by simp [It.valid]
            rw [hsp]
            simp only [It.nodes, It.weight] at hN hM
            have hs0 := hs.bound
            have HN := Lib.hid hN
            have HM := Lib.hid hM
            clear hsp e0 e1 hq0 hq1 hN hM hlle hs
            go_enter Try.func50, Try.ntmps50
            go_wp2
            go_loopw [39] (fun i wr => ∃ k : Nat, k ≤ len ∧ i = .int .i64 k ∧ Its.valid (l.take k) = true ∧ Below (w.heap.size + 1) (w.alloc (.cells #[.int .i64 2, .string n, .string t, .slice A len cap] 53)) wr) (fun i _ => len - (intOf i).toNat)
            case atStart => exact ⟨0, Nat.zero_le _, rfl, rfl, Below.refl _ _⟩
            case round =>
              obtain ⟨k, hk, rfl, hva, hB⟩ := hrel
              have hbb : wr.heap[w.heap.size]? = some (.cells #[.int .i64 2, .string n, .string t, .slice A len cap] 53 (0, 0)) := by
                rw [hB.block _ (by omega)]; exact heap_alloc_new _ _
              obtain ⟨b0, b1, b2, b3⟩ := four_cells hbb
              have hBw : Below w.heap.size w wr := ((Below.refl w.heap.size w).alloc (Nat.le_refl _) _).trans (hB.mono (by omega))
              have hs1 := hs0.keep (fun b hb _ => hBw.block b hb.2)
              have hsz : w.heap.size + 1 ≤ wr.heap.size := block_lt hbb
              have HB := Lib.hid hB
              have HBW := Lib.hid hBw
              have HVA := Lib.hid hva
              have HLEN := Lib.hid hlen
              clear hbb hB hBw hva hlen
              by_cases hlt : k < len
              · obtain ⟨b, o, rfl⟩ := hs1.head (by omega)
                obtain ⟨y, hy⟩ : ∃ y, l[k]? = some y := ⟨_, List.getElem?_eq_getElem (by rw [HLEN.out]; exact hlt)⟩
                obtain ⟨A1, len1, cap1, c0, c1, c2, c3, hs2⟩ := (hs1.get? k hy).open
                have hyN : y.nodes ≤ N := by have := Its.mem_nodes (List.mem_of_getElem? hy); have := HN.out; omega
                have hyM : y.weight ≤ 1000000000000 := by have := Its.mem_weight (List.mem_of_getElem? hy); have := HM.out; omega
                have HS2 := Lib.hid hs2
                have HY := Lib.hid hy
                clear hs1 hs2 hs0 hy
                go_wp2_with fail
                refine (IH.out y _ _ _ hyN hyM ⟨A1, len1, cap1, rfl, HS2.out.below ((Below.refl wr.heap.size wr).alloc (Nat.le_refl _) _) (Nat.le_refl _)⟩).mono ?_
                rintro e w2 ⟨rfl, hb2⟩
                have HB2 := Lib.hid hb2
                clear hb2
                cases hyv : y.valid with
                | true =>
                  have HYV := Lib.hid hyv
                  clear hyv
                  go_wp2
                  go_roundw
                  case rel => exact ⟨k + 1, by omega, by go_num, by rw [valid_take_step HY.out HVA.out]; exact HYV.out, HB.out.trans (((Below.refl (w.heap.size + 1) wr).alloc (by omega) _).trans (HB2.out.mono (by simp; omega)))⟩
                  case measure => simp [intOf]; omega
                | false =>
                  have hvl : Its.valid l = false := valid_take_false (k := k) (by rw [valid_take_step HY.out HVA.out]; exact hyv)
                  have HVL := Lib.hid hvl
                  clear hyv hvl
                  go_wp2
                  go_ret
                  exact ⟨by rw [HVL.out]; rfl, HBW.out.trans (((Below.refl w.heap.size wr).alloc (by omega) _).trans (HB2.out.mono (by simp; omega)))⟩
              · obtain rfl : k = len := by omega
                have hvl : Its.valid l = true := by
                  have := HVA.out
                  rw [List.take_of_length_le (by have := HLEN.out; omega)] at this
                  exact this
                have HVL := Lib.hid hvl
                clear hvl hs1 hs0
                cases ht : (t.size == 0) <;> cases hn : (n.size == 0) <;>
                · rw [ht] at hte
                  rw [hn] at hne
                  have HT := Lib.hid ht
                  have HN0 := Lib.hid hn
                  clear ht hn
                  go_wp2
                  go_ret
                  exact ⟨by rw [HVL.out, HT.out, HN0.out]; rfl, HBW.out⟩
          · have hsp : It.valid (.mk q n t l) = false := by simp [It.valid, hq0, hq1, hq2]
            rw [hsp]
            have e2 : (q == 2) = false := beq_eq_false_iff_ne.2 hq2
            clear hsp hq0 hq1 hq2 hlen hs hlle hte hne hN hM
            go_enter Try.func50, Try.ntmps50
            go_wp2
            go_ret
            exact ⟨rfl, (Below.refl _ _).alloc (Nat.le_refl _) _⟩
set_option maxRecDepth 100000 in
set_option maxHeartbeats 2000000 in
theorem r08_Valid (N : Nat) : ∀ (x : It) (v : Value) (w : World) (ok : Nat → Prop), x.nodes ≤ N → x.weight ≤ 1000000000000 → ItAt w ok v x → Calls Try.prog 58 #[v] w (Ret (.bool x.valid) w) := by
  induction N with
  | zero => intro x v w ok h; have := x.nodes_pos; omega
  | succ N ih =>
    intro x v w ok hN hM ⟨A, len, cap, hv, hs⟩
    subst hv
    have IH := Lib.hid ih
    clear ih
    cases x with
    | mk q n t l =>
      simp only [It.kind, It.nat, It.text, It.list] at *
      have hlen := hs.1
      have hcap := hs.2.2.1
      have hlc := hs.2.1
      have hnz : n.size ≤ 9223372036854775807 := by simp only [It.weight] at hM; omega
      have hlle : ((len : Int) == 0) = l.isEmpty := by
        rw [← hlen]; cases l <;> simp
        omega
      have hte := isEmpty_size t
      have hne := isEmpty_size n
      by_cases hq0 : q = 0
      · subst hq0
        have hsp : It.valid (.mk 0 n t l) = (nvalid n && ((t.size == 0) && l.isEmpty)) := by simp [It.valid]
        rw [hsp]
        have HLEN := Lib.hid hlen
        have HS := Lib.hid hs
        clear hsp hlen hs hne hN hM
        cases hv : nvalid n <;> cases ht : (t.size == 0) <;> cases hl : l.isEmpty <;>
        · rw [ht] at hte
          rw [hl] at hlle
          have HV := Lib.hid hv
          clear hv ht hl
          go_enter Try.func58, Try.ntmps58
          go_wp2_with fail
          refine (r08_canonical _ hnz _).mono ?_
          rintro e w1 ⟨rfl, rfl⟩
          rw [HV.out]
          go_wp2
          go_ret
          exact ⟨rfl, (Below.refl _ _).alloc (Nat.le_refl _) _⟩
      · by_cases hq1 : q = 1
        · subst hq1
          have hsp : It.valid (.mk 1 n t l) = ((n.size == 0) && l.isEmpty) := by simp [It.valid]
          rw [hsp]
          have HLEN := Lib.hid hlen
          have HS := Lib.hid hs
          clear hsp hlen hs hte hN hM hq0
          cases ht : (n.size == 0) <;> cases hl : l.isEmpty <;>
          · rw [ht] at hne
            rw [hl] at hlle
            clear ht hl
            go_enter Try.func58, Try.ntmps58
            go_wp2
            go_ret
            exact ⟨rfl, (Below.refl _ _).alloc (Nat.le_refl _) _⟩
        · have e0 : (q == 0) = false := beq_eq_false_iff_ne.2 hq0
          have e1 : (q == 1) = false := beq_eq_false_iff_ne.2 hq1
          by_cases hq2 : q = 2
          · subst hq2
            have hsp : It.valid (.mk 2 n t l) = (Its.valid l && ((n.size == 0) && (t.size == 0))) := by simp [It.valid]
            rw [hsp]
            simp only [It.nodes, It.weight] at hN hM
            have hs0 := hs.bound
            have HN := Lib.hid hN
            have HM := Lib.hid hM
            clear hsp e0 e1 hq0 hq1 hN hM hlle hs
            go_enter Try.func58, Try.ntmps58
            go_wp2
            go_loopw [3] (fun i wr => ∃ k : Nat, k ≤ len ∧ i = .int .i64 k ∧ Its.valid (l.take k) = true ∧ Below (w.heap.size + 1) (w.alloc (.cells #[.int .i64 2, .string n, .string t, .slice A len cap] 53)) wr) (fun i _ => len - (intOf i).toNat)
            case atStart => exact ⟨0, Nat.zero_le _, rfl, rfl, Below.refl _ _⟩
            case round =>
              obtain ⟨k, hk, rfl, hva, hB⟩ := hrel
              have hbb : wr.heap[w.heap.size]? = some (.cells #[.int .i64 2, .string n, .string t, .slice A len cap] 53 (0, 0)) := by
                rw [hB.block _ (by omega)]; exact heap_alloc_new _ _
              obtain ⟨b0, b1, b2, b3⟩ := four_cells hbb
              have hBw : Below w.heap.size w wr := ((Below.refl w.heap.size w).alloc (Nat.le_refl _) _).trans (hB.mono (by omega))
              have hs1 := hs0.keep (fun b hb _ => hBw.block b hb.2)
              have hsz : w.heap.size + 1 ≤ wr.heap.size := block_lt hbb
              have HB := Lib.hid hB
              have HBW := Lib.hid hBw
              have HVA := Lib.hid hva
              have HLEN := Lib.hid hlen
              clear hbb hB hBw hva hlen
              by_cases hlt : k < len
              · obtain ⟨b, o, rfl⟩ := hs1.head (by omega)
                obtain ⟨y, hy⟩ : ∃ y, l[k]? = some y := ⟨_, List.getElem?_eq_getElem (by rw [HLEN.out]; exact hlt)⟩
                obtain ⟨A1, len1, cap1, c0, c1, c2, c3, hs2⟩ := (hs1.get? k hy).open
                have hyN : y.nodes ≤ N := by have := Its.mem_nodes (List.mem_of_getElem? hy); have := HN.out; omega
                have hyM : y.weight ≤ 1000000000000 := by have := Its.mem_weight (List.mem_of_getElem? hy); have := HM.out; omega
                have HS2 := Lib.hid hs2
                have HY := Lib.hid hy
                clear hs1 hs2 hs0 hy
                go_wp2_with fail
                refine (IH.out y _ _ _ hyN hyM ⟨A1, len1, cap1, rfl, HS2.out⟩).mono ?_
                rintro e w2 ⟨rfl, hb2⟩
                have HB2 := Lib.hid hb2
                clear hb2
                cases hyv : y.valid with
                | true =>
                  have HYV := Lib.hid hyv
                  clear hyv
                  go_wp2
                  go_roundw
                  case rel => exact ⟨k + 1, by omega, by go_num, by rw [valid_take_step HY.out HVA.out]; exact HYV.out, HB.out.trans (HB2.out.mono (by omega))⟩
                  case measure => simp [intOf]; omega
                | false =>
                  have hvl : Its.valid l = false := valid_take_false (k := k) (by rw [valid_take_step HY.out HVA.out]; exact hyv)
                  have HVL := Lib.hid hvl
                  clear hyv hvl
                  go_wp2
                  go_ret
                  exact ⟨by rw [HVL.out]; rfl, HBW.out.trans (HB2.out.mono (by omega))⟩
              · obtain rfl : k = len := by omega
                have hvl : Its.valid l = true := by
                  have := HVA.out
                  rw [List.take_of_length_le (by have := HLEN.out; omega)] at this
                  exact this
                have HVL := Lib.hid hvl
                clear hvl hs1 hs0
                cases ht : (t.size == 0) <;> cases hn : (n.size == 0) <;>
                · rw [ht] at hte
                  rw [hn] at hne
                  have HT := Lib.hid ht
                  have HN0 := Lib.hid hn
                  clear ht hn
                  go_wp2
                  go_ret
                  exact ⟨by rw [HVL.out, HT.out, HN0.out]; rfl, HBW.out⟩
          · have hsp : It.valid (.mk q n t l) = false := by simp [It.valid, hq0, hq1, hq2]
            rw [hsp]
            have e2 : (q == 2) = false := beq_eq_false_iff_ne.2 hq2
            clear hsp hq0 hq1 hq2 hlen hs hlle hte hne hN hM
            go_enter Try.func58, Try.ntmps58
            go_wp2
            go_ret
            exact ⟨rfl, (Below.refl _ _).alloc (Nat.le_refl _) _⟩

theorem depth_take_step {l : List It} {k : Nat} {y : It} (h : l[k]? = some y) : Its.depth (l.take (k + 1)) = max (Its.depth (l.take k)) y.depth := by
  rw [take_snoc h, Its.depth_append]
  simp [Its.depth]
theorem depth_take_le (l : List It) (k : Nat) : Its.depth (l.take k) ≤ Its.depth l := by
  have := Its.depth_append (l.take k) (l.drop k)
  rw [List.take_append_drop] at this
  omega

set_option maxRecDepth 100000 in
set_option maxHeartbeats 2000000 in
theorem enc_depth (N : Nat) : ∀ (x : It) (v : Value) (w : World) (ok : Nat → Prop), x.nodes ≤ N → x.weight ≤ 1000000000000 → ItAt w ok v x → Calls Try.prog 51 #[v] w (Ret (.int .i64 x.depth) w) := by
  induction N with
  | zero => intro x v w ok h; have := x.nodes_pos; omega
  | succ N ih =>
    intro x v w ok hN hM ⟨A, len, cap, hv, hs⟩
    subst hv
    have IH := Lib.hid ih
    clear ih
    cases x with
    | mk q n t l =>
      simp only [It.kind, It.nat, It.text, It.list] at *
      have hlen := hs.1
      have hcap := hs.2.2.1
      have hlc := hs.2.1
      by_cases hq2 : q = 2
      · subst hq2
        have hsp : It.depth (.mk 2 n t l) = Its.depth l + 1 := by simp [It.depth]
        rw [hsp]
        simp only [It.nodes, It.weight] at hN hM
        have hs0 := hs.bound
        have hd0 := Its.depth_le l
        have hd1 := Its.nodes_le l
        have hdb : Its.depth l ≤ 1000000000000 := by omega
        have HN := Lib.hid hN
        have HM := Lib.hid hM
        clear hsp hN hM hs hd0 hd1
        go_enter Try.func51, Try.ntmps51
        go_wp2
        go_loopw [3, 12] (fun m i wr => ∃ k : Nat, k ≤ len ∧ i = .int .i64 k ∧ m = .int .i64 ((Its.depth (l.take k) : Nat) : Int) ∧ Below (w.heap.size + 1) (w.alloc (.cells #[.int .i64 2, .string n, .string t, .slice A len cap] 53)) wr) (fun _ i _ => len - (intOf i).toNat)
        case atStart => exact ⟨0, Nat.zero_le _, rfl, rfl, Below.refl _ _⟩
        case round =>
          obtain ⟨k, hk, rfl, rfl, hB⟩ := hrel
          have hbb : wr.heap[w.heap.size]? = some (.cells #[.int .i64 2, .string n, .string t, .slice A len cap] 53 (0, 0)) := by
            rw [hB.block _ (by omega)]; exact heap_alloc_new _ _
          obtain ⟨b0, b1, b2, b3⟩ := four_cells hbb
          have hBw : Below w.heap.size w wr := ((Below.refl w.heap.size w).alloc (Nat.le_refl _) _).trans (hB.mono (by omega))
          have hs1 := hs0.keep (fun b hb _ => hBw.block b hb.2)
          have hsz : w.heap.size + 1 ≤ wr.heap.size := block_lt hbb
          have hdk := depth_take_le l k
          have HB := Lib.hid hB
          have HBW := Lib.hid hBw
          have HLEN := Lib.hid hlen
          clear hbb hB hBw hlen
          obtain ⟨D, hD⟩ : ∃ D, D = Its.depth (l.take k) := ⟨_, rfl⟩
          rw [← hD] at hdk ⊢
          have HD := Lib.hid hD
          clear hD
          by_cases hlt : k < len
          · obtain ⟨b, o, rfl⟩ := hs1.head (by omega)
            obtain ⟨y, hy⟩ : ∃ y, l[k]? = some y := ⟨_, List.getElem?_eq_getElem (by rw [HLEN.out]; exact hlt)⟩
            obtain ⟨A1, len1, cap1, c0, c1, c2, c3, hs2⟩ := (hs1.get? k hy).open
            have hyN : y.nodes ≤ N := by have := Its.mem_nodes (List.mem_of_getElem? hy); have := HN.out; omega
            have hyM : y.weight ≤ 1000000000000 := by have := Its.mem_weight (List.mem_of_getElem? hy); have := HM.out; omega
            have HS2 := Lib.hid hs2
            have HY := Lib.hid hy
            clear hs1 hs2 hs0 hy
            go_wp2_with fail
            refine (IH.out y _ _ _ hyN hyM ⟨A1, len1, cap1, rfl, HS2.out.below ((Below.refl wr.heap.size wr).alloc (Nat.le_refl _) _) (Nat.le_refl _)⟩).mono ?_
            rintro e w2 ⟨rfl, hb2⟩
            have HB2 := Lib.hid hb2
            clear hb2
            go_wp2
            exact ⟨⟨k + 1, by omega, by go_num, by rw [depth_take_step HY.out, ← HD.out]; exact congrArg (Value.int .i64) (by omega), HB.out.trans (((Below.refl (w.heap.size + 1) wr).alloc (by omega) _).trans (HB2.out.mono (by simp; omega)))⟩, by simp [intOf]; omega⟩
          · obtain rfl : k = len := by omega
            have hvl : D = Its.depth l := by
              have := HD.out
              rw [List.take_of_length_le (by have := HLEN.out; omega)] at this
              exact this
            have HVL := Lib.hid hvl
            clear hvl hs1 hs0
            go_wp2
            go_ret
            exact ⟨by rw [← HVL.out]; rfl, HBW.out⟩
      · have hsp : It.depth (.mk q n t l) = 0 := by simp [It.depth, hq2]
        rw [hsp]
        have e2 : (q != 2) = true := by rw [bne_iff_ne]; exact hq2
        clear hsp hq2 hlen hs hN hM
        go_enter Try.func51, Try.ntmps51
        go_wp2
        go_ret
        exact ⟨rfl, (Below.refl _ _).alloc (Nat.le_refl _) _⟩
set_option maxRecDepth 100000 in
set_option maxHeartbeats 2000000 in
theorem r08_Depth (N : Nat) : ∀ (x : It) (v : Value) (w : World) (ok : Nat → Prop), x.nodes ≤ N → x.weight ≤ 1000000000000 → ItAt w ok v x → Calls Try.prog 59 #[v] w (Ret (.int .i64 x.depth) w) := by
  induction N with
  | zero => intro x v w ok h; have := x.nodes_pos; omega
  | succ N ih =>
    intro x v w ok hN hM ⟨A, len, cap, hv, hs⟩
    subst hv
    have IH := Lib.hid ih
    clear ih
    cases x with
    | mk q n t l =>
      simp only [It.kind, It.nat, It.text, It.list] at *
      have hlen := hs.1
      have hcap := hs.2.2.1
      have hlc := hs.2.1
      by_cases hq2 : q = 2
      · subst hq2
        have hsp : It.depth (.mk 2 n t l) = Its.depth l + 1 := by simp [It.depth]
        rw [hsp]
        simp only [It.nodes, It.weight] at hN hM
        have hs0 := hs.bound
        have hd0 := Its.depth_le l
        have hd1 := Its.nodes_le l
        have hdb : Its.depth l ≤ 1000000000000 := by omega
        have HN := Lib.hid hN
        have HM := Lib.hid hM
        clear hsp hN hM hs hd0 hd1
        go_enter Try.func59, Try.ntmps59
        go_wp2
        go_loopw [3, 4] (fun m i wr => ∃ k : Nat, k ≤ len ∧ i = .int .i64 k ∧ m = .int .i64 ((Its.depth (l.take k) : Nat) : Int) ∧ Below (w.heap.size + 1) (w.alloc (.cells #[.int .i64 2, .string n, .string t, .slice A len cap] 53)) wr) (fun _ i _ => len - (intOf i).toNat)
        case atStart => exact ⟨0, Nat.zero_le _, rfl, rfl, Below.refl _ _⟩
        case round =>
          obtain ⟨k, hk, rfl, rfl, hB⟩ := hrel
          have hbb : wr.heap[w.heap.size]? = some (.cells #[.int .i64 2, .string n, .string t, .slice A len cap] 53 (0, 0)) := by
            rw [hB.block _ (by omega)]; exact heap_alloc_new _ _
          obtain ⟨b0, b1, b2, b3⟩ := four_cells hbb
          have hBw : Below w.heap.size w wr := ((Below.refl w.heap.size w).alloc (Nat.le_refl _) _).trans (hB.mono (by omega))
          have hs1 := hs0.keep (fun b hb _ => hBw.block b hb.2)
          have hsz : w.heap.size + 1 ≤ wr.heap.size := block_lt hbb
          have hdk := depth_take_le l k
          have HB := Lib.hid hB
          have HBW := Lib.hid hBw
          have HLEN := Lib.hid hlen
          clear hbb hB hBw hlen
          obtain ⟨D, hD⟩ : ∃ D, D = Its.depth (l.take k) := ⟨_, rfl⟩
          rw [← hD] at hdk ⊢
          have HD := Lib.hid hD
          clear hD
          by_cases hlt : k < len
          · obtain ⟨b, o, rfl⟩ := hs1.head (by omega)
            obtain ⟨y, hy⟩ : ∃ y, l[k]? = some y := ⟨_, List.getElem?_eq_getElem (by rw [HLEN.out]; exact hlt)⟩
            obtain ⟨A1, len1, cap1, c0, c1, c2, c3, hs2⟩ := (hs1.get? k hy).open
            have hyN : y.nodes ≤ N := by have := Its.mem_nodes (List.mem_of_getElem? hy); have := HN.out; omega
            have hyM : y.weight ≤ 1000000000000 := by have := Its.mem_weight (List.mem_of_getElem? hy); have := HM.out; omega
            have HS2 := Lib.hid hs2
            have HY := Lib.hid hy
            clear hs1 hs2 hs0 hy
            go_wp2_with fail
            refine (IH.out y _ _ _ hyN hyM ⟨A1, len1, cap1, rfl, HS2.out⟩).mono ?_
            rintro e w2 ⟨rfl, hb2⟩
            have HB2 := Lib.hid hb2
            clear hb2
            go_wp2
            exact ⟨⟨k + 1, by omega, by go_num, by rw [depth_take_step HY.out, ← HD.out]; exact congrArg (Value.int .i64) (by omega), HB.out.trans (HB2.out.mono (by omega))⟩, by simp [intOf]; omega⟩
          · obtain rfl : k = len := by omega
            have hvl : D = Its.depth l := by
              have := HD.out
              rw [List.take_of_length_le (by have := HLEN.out; omega)] at this
              exact this
            have HVL := Lib.hid hvl
            clear hvl hs1 hs0
            go_wp2
            go_ret
            exact ⟨by rw [← HVL.out]; rfl, HBW.out⟩
      · have hsp : It.depth (.mk q n t l) = 0 := by simp [It.depth, hq2]
        rw [hsp]
        have e2 : (q != 2) = true := by rw [bne_iff_ne]; exact hq2
        clear hsp hq2 hlen hs hN hM
        go_enter Try.func59, Try.ntmps59
        go_wp2
        go_ret
        exact ⟨rfl, (Below.refl _ _).alloc (Nat.le_refl _) _⟩
end Go.Proofs.Ytelhpdlegjgjjaa

/- Walks: dominolaw58.plain, dominoref58.SameList of equal lists. -/
import Derived.Test.YtnfkccohmkfnoaaKyX
set_option linter.unusedVariables false
set_option linter.unusedSimpArgs false
namespace Go.Proofs.Ytnfkccohmkfnoaa
open Go.RowKit

/-- Epochs far from the limits of int. -/
def Ver.tame (v : Ver) : Prop := ¬ 1099511627776 < v.fr ∧ ¬ v.fr < -1099511627776 ∧ ¬ 1099511627776 < v.to ∧ ¬ v.to < -1099511627776 ∧ ¬ 1099511627776 < v.num
instance (v : Ver) : Decidable v.tame := by unfold Ver.tame; exact inferInstance
def plainB (l : List Ver) : Bool := l.all (fun v => decide v.tame)
theorem plain_no {l : List Ver} {j : Nat} {v : Ver} (hv : l[j]? = some v) (h : ¬ v.tame) : plainB l = false := by
  unfold plainB
  rw [List.all_eq_false]
  exact ⟨v, List.mem_of_getElem? hv, by simpa using h⟩
set_option maxRecDepth 100000 in
set_option maxHeartbeats 1000000 in
theorem law_plain (l : List Ver) (A : Option Addr) (len cap : Nat) (w : World) (hs : SlV w A len cap l) : Calls Try.prog 12 #[.slice A len cap] w (Ret (.bool (plainB l)) w) := by
  have HS := Lib.hid hs
  have HLEN := Lib.hid hs.1
  have hcap := hs.2.1
  have hcap2 := hs.2.2.1
  clear hs
  go_enter Try.func12, Try.ntmps12
  go_wp2
  go_loop [3] (fun i => ∃ (j : Nat), j ≤ len ∧ i = .int .i64 j ∧ ∀ v ∈ l.take j, v.tame) (fun i => len - (intOf i).toNat)
  case atStart => exact ⟨0, Nat.zero_le _, rfl, by simp⟩
  case round =>
    obtain ⟨j, hj, rfl, hall⟩ := hrel
    have HALL := Lib.hid hall
    clear hall
    by_cases hlt : j < len
    · obtain ⟨b, o, rfl⟩ := HS.out.head (by omega)
      obtain ⟨v, he⟩ : ∃ v, l[j]? = some v := ⟨_, List.getElem?_eq_getElem (by rw [HLEN.out]; exact hlt)⟩
      obtain ⟨A1, n1, c1, hvc, _⟩ := HS.out.get? j he
      have d1 := hvc.open.2.1
      have d14 := hvc.open.2.2.2.2.2.2.2.2.2.2.2.2.2.2.1
      have d15 := hvc.open.2.2.2.2.2.2.2.2.2.2.2.2.2.2.2.1
      have HE := Lib.hid he
      clear hvc he
      by_cases h1 : 1099511627776 < v.fr
      · have e1 : decide (1099511627776 < v.fr) = true := decide_eq_true h1
        have HF := Lib.hid (plain_no HE.out (show ¬ v.tame from fun h => h.1 h1))
        go_wp2
        go_ret
        exact ⟨by rw [HF.out]; rfl, Below.refl _ _⟩
      · have e1 : decide (1099511627776 < v.fr) = false := decide_eq_false h1
        by_cases h2 : v.fr < -1099511627776
        · have e2 : decide (v.fr < -1099511627776) = true := decide_eq_true h2
          have HF := Lib.hid (plain_no HE.out (show ¬ v.tame from fun h => h.2.1 h2))
          go_wp2
          go_ret
          exact ⟨by rw [HF.out]; rfl, Below.refl _ _⟩
        · have e2 : decide (v.fr < -1099511627776) = false := decide_eq_false h2
          by_cases h3 : 1099511627776 < v.to
          · have e3 : decide (1099511627776 < v.to) = true := decide_eq_true h3
            have HF := Lib.hid (plain_no HE.out (show ¬ v.tame from fun h => h.2.2.1 h3))
            go_wp2
            go_ret
            exact ⟨by rw [HF.out]; rfl, Below.refl _ _⟩
          · have e3 : decide (1099511627776 < v.to) = false := decide_eq_false h3
            by_cases h4 : v.to < -1099511627776
            · have e4 : decide (v.to < -1099511627776) = true := decide_eq_true h4
              have HF := Lib.hid (plain_no HE.out (show ¬ v.tame from fun h => h.2.2.2.1 h4))
              go_wp2
              go_ret
              exact ⟨by rw [HF.out]; rfl, Below.refl _ _⟩
            · have e4 : decide (v.to < -1099511627776) = false := decide_eq_false h4
              by_cases h5 : 1099511627776 < v.num
              · have e5 : decide (1099511627776 < v.num) = true := decide_eq_true h5
                have HF := Lib.hid (plain_no HE.out (show ¬ v.tame from fun h => h.2.2.2.2 h5))
                go_wp2
                go_ret
                exact ⟨by rw [HF.out]; rfl, Below.refl _ _⟩
              · have e5 : decide (1099511627776 < v.num) = false := decide_eq_false h5
                have HA2 := Lib.hid (show ∀ u ∈ l.take (j + 1), u.tame from fun u hu => by
                  rw [List.take_add_one, HE.out, Option.toList_some, List.mem_append, List.mem_singleton] at hu
                  rcases hu with hu | rfl
                  · exact HALL.out u hu
                  · exact ⟨h1, h2, h3, h4, h5⟩)
                clear h1 h2 h3 h4 h5
                go_wp2
                go_round
                case rel => exact ⟨j + 1, by omega, by go_num, HA2.out⟩
                case measure => simp [intOf]; omega
    · obtain rfl : j = len := by omega
      have HF := Lib.hid (show plainB l = true from by
        unfold plainB
        rw [List.all_eq_true]
        intro v hv
        have := HALL.out
        rw [← HLEN.out, List.take_length] at this
        exact decide_eq_true (this v hv))
      clear hlt hj
      go_wp2
      go_ret
      exact ⟨by rw [HF.out]; rfl, Below.refl _ _⟩

theorem load_mid_run {P : Program} {op : Oper} {a : Act} {w : World} (ty : TypeId) (x : Operand) (ho : op.op = .load ty x) (b o : Nat) (hx : a.eval x = .pointer (some ⟨b, o, none⟩)) (cs : List Value) (d : TypeDesc) (hc : w.rangeAt b o cs)
    (hu : P.underlying ty = some d) (hd : d.isRow = true) (hi : (P.info? ty).map (·.size) = some cs.length) : (execOp a.eval op).run P w = .ok (.value (.agg cs.toArray)) w := by
  unfold execOp
  simp only [ho, hx, Instr.loadAt, Instr.sureAddr, Sem.run_bind, Sem.run_pure, Result.andThen_ok, run_loadVar_mid w b o ty cs d hc hu hd hi]
set_option maxRecDepth 100000 in
set_option maxHeartbeats 4000000 in
theorem r58_SameList (l : List Ver) (A A' : Option Addr) (len cap len' cap' : Nat) (w : World) (hs : SlV w A len cap l) (hs' : SlV w A' len' cap' l) (hlen : len ≤ 4096) (hf : FwV l) : Calls Try.prog 15 #[.slice A len cap, .slice A' len' cap'] w (Ret (.bool true) w) := by
  obtain rfl : len = len' := hs.1.symm.trans hs'.1
  have HS := Lib.hid hs
  have HS' := Lib.hid hs'
  have HLEN := Lib.hid hs.1
  have HF := Lib.hid hf
  have hcap := hs.2.1
  have hcap2 := hs.2.2.1
  have hcap' := hs'.2.1
  have hcap2' := hs'.2.2.1
  clear hs hs' hf
  go_enter Try.func15, Try.ntmps15
  go_wp2
  go_loopw [5] (fun i wr => ∃ (j : Nat), j ≤ len ∧ i = .int .i64 j ∧ Below w.heap.size w wr) (fun i _ => len - (intOf i).toNat)
  case atStart => exact ⟨0, Nat.zero_le _, rfl, Below.refl _ _⟩
  case round =>
    obtain ⟨j, hj, rfl, hbb⟩ := hrel
    have HB := Lib.hid hbb
    have HSR := Lib.hid (HS.out.kept hbb (Nat.le_refl _))
    have HSR' := Lib.hid (HS'.out.kept hbb (Nat.le_refl _))
    clear hbb
    by_cases hlt : j < len
    · obtain ⟨b, o, rfl⟩ := HS.out.head (by omega)
      obtain ⟨b', o', rfl⟩ := HS'.out.head (by omega)
      obtain ⟨v, he⟩ : ∃ v, l[j]? = some v := ⟨_, List.getElem?_eq_getElem (by rw [HLEN.out]; exact hlt)⟩
      obtain ⟨A1, n1, c1, hvc, hsl⟩ := HSR.out.get? j he
      obtain ⟨A2, n2, c2, hvc', hsl'⟩ := HSR'.out.get? j he
      have hn1 : n1 ≤ 1000000 := by rw [← hsl.1]; exact HF.out j v he
      have HC := Lib.hid (fun (W : World) (hb : Below wr.heap.size wr W) => r58_Same v A1 A2 n1 c1 n2 c2 W (hsl.kept hb (Nat.le_refl _)) (hsl'.kept hb (Nat.le_refl _)) hn1)
      have HRA := Lib.hid (show wr.drew.rangeAt b (o + j * 18) (v.vals (.slice A1 n1 c1)) from hvc)
      have HRB := Lib.hid (show wr.drew.rangeAt b' (o' + j * 18) (v.vals (.slice A2 n2 c2)) from hvc')
      clear hvc hvc' hsl hsl' he hn1
      go_wp2
      refine wp_region_K 10 (Below (wr.drew).heap.size (wr.drew)) (by kernel_rfl) ?_
      intro hD
      refine wpAnyK_pure (i := 0) (v := ?v6_0b1) (fuel := 9) rfl (by kernel_rfl) (fun _ _ _ h => h) hD (Below.refl _ _) (.inl ⟨by kernel_rfl, ?y6_0b1⟩) ?n6_0b1
      case y6_0b1 => intro w' _; go_simp; with_reducible rfl
      clear hD; intro hD
      simp only [Act.put, List.setIfInBounds_toArray, List.set_cons_zero, List.set_cons_succ]
      refine wpAnyK_pure (i := 1) (v := ?v6_1b1) (fuel := 8) rfl (by kernel_rfl) (fun _ _ _ h => h) hD (Below.refl _ _) (.inl ⟨by kernel_rfl, ?y6_1b1⟩) ?n6_1b1
      case y6_1b1 => intro w' _; go_simp; with_reducible rfl
      clear hD; intro hD
      simp only [Act.put, List.setIfInBounds_toArray, List.set_cons_zero, List.set_cons_succ]
      refine wpAnyK_pure (i := 2) (v := ?v6_2b1) (fuel := 7) rfl (by kernel_rfl) (fun _ _ _ h => h) hD (Below.refl _ _) (.inl ⟨by kernel_rfl, ?y6_2b1⟩) ?n6_2b1
      case y6_2b1 => intro w' _; go_simp; with_reducible rfl
      clear hD; intro hD
      simp only [Act.put, List.setIfInBounds_toArray, List.set_cons_zero, List.set_cons_succ]
      refine wpAnyK_takeS (i := 3) (v := (.agg (v.vals (.slice A1 n1 c1)).toArray)) (fuel := 6) rfl (by kernel_rfl) (by kernel_rfl) (fun _ _ _ h => h) hD (Below.refl _ _) (.inl ⟨by kernel_rfl, ?y6_3b1⟩) ?n6_3b1
      case y6_3b1 =>
        intro w' hS'
        exact load_mid_run 38 _ rfl b (o + j * 18) rfl _ _ (fun k u hu => cell_kept hS' (Nat.le_refl _) (HRA.out k u hu)) Try.underlying38 rfl (by kernel_rfl)
      clear hD; intro hD
      simp only [Act.put, List.setIfInBounds_toArray, List.set_cons_zero, List.set_cons_succ]
      refine wpAnyK_pure (i := 4) (v := ?v6_4b1) (fuel := 5) rfl (by kernel_rfl) (fun _ _ _ h => h) hD (Below.refl _ _) (.inl ⟨by kernel_rfl, ?y6_4b1⟩) ?n6_4b1
      case y6_4b1 => intro w' _; go_simp; with_reducible rfl
      clear hD; intro hD
      simp only [Act.put, List.setIfInBounds_toArray, List.set_cons_zero, List.set_cons_succ]
      refine wpAnyK_pure (i := 5) (v := ?v6_5b1) (fuel := 4) rfl (by kernel_rfl) (fun _ _ _ h => h) hD (Below.refl _ _) (.inl ⟨by kernel_rfl, ?y6_5b1⟩) ?n6_5b1
      case y6_5b1 => intro w' _; go_simp; with_reducible rfl
      clear hD; intro hD
      simp only [Act.put, List.setIfInBounds_toArray, List.set_cons_zero, List.set_cons_succ]
      refine wpAnyK_pure (i := 6) (v := ?v6_6b1) (fuel := 3) rfl (by kernel_rfl) (fun _ _ _ h => h) hD (Below.refl _ _) (.inl ⟨by kernel_rfl, ?y6_6b1⟩) ?n6_6b1
      case y6_6b1 => intro w' _; go_simp; with_reducible rfl
      clear hD; intro hD
      simp only [Act.put, List.setIfInBounds_toArray, List.set_cons_zero, List.set_cons_succ]
      refine wpAnyK_takeS (i := 7) (v := (.agg (v.vals (.slice A2 n2 c2)).toArray)) (fuel := 2) rfl (by kernel_rfl) (by kernel_rfl) (fun _ _ _ h => h) hD (Below.refl _ _) (.inl ⟨by kernel_rfl, ?y6_7b1⟩) ?n6_7b1
      case y6_7b1 =>
        intro w' hS'
        exact load_mid_run 38 _ rfl b' (o' + j * 18) rfl _ _ (fun k u hu => cell_kept hS' (Nat.le_refl _) (HRB.out k u hu)) Try.underlying38 rfl (by kernel_rfl)
      clear hD; intro hD
      simp only [Act.put, List.setIfInBounds_toArray, List.set_cons_zero, List.set_cons_succ]
      refine wpAnyK_one (i := 8) (fuel := 1) (by kernel_rfl) rfl hD ?_
      clear hD; intro K8 hK8
      go_wp2_with fail
      refine (HC.out _ (Below.refl _ _).drew).mono ?_
      rintro e w1 ⟨rfl, hb1⟩
      have HB8 := Lib.hid (show Below wr.drew.heap.size wr.drew w1 from hb1)
      clear hb1
      go_wp2
      refine hK8 _ _ (by exact HB8.out) ?_; clear hK8; intro hS_6_8 hD
      have HL := Lib.hid hS_6_8
      refine wpAnyK_pure (i := 9) (v := ?v6_9b1) (fuel := 0) rfl (by kernel_rfl) (fun _ _ _ h => h) hD hS_6_8 (.inl ⟨by kernel_rfl, ?y6_9b1⟩) ?n6_9b1
      case y6_9b1 => intro w' _; go_simp; with_reducible rfl
      clear hD; intro hD
      simp only [Act.put, List.setIfInBounds_toArray, List.set_cons_zero, List.set_cons_succ]
      refine wpAnyK_done (by kernel_rfl) ?_ 0
      clear hD
      go_wp2
      go_roundw
      case rel => exact ⟨j + 1, by omega, by go_num, HB.out.drew.trans (HL.out.mono HB.out.drew.size)⟩
      case measure => simp [intOf]; omega
    · obtain rfl : j = len := by omega
      clear hlt hj
      go_wp2
      go_ret
      exact ⟨rfl, HB.out⟩
end Go.Proofs.Ytnfkccohmkfnoaa

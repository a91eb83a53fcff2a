/- Walks: ref08.Write, Encode. -/
import Derived.Test.YtelhpdlegjgjjaaEncF
set_option linter.unusedVariables false
set_option linter.unusedSimpArgs false
namespace Go.Proofs.Ytelhpdlegjgjjaa
open Go.RowKit

set_option maxRecDepth 100000 in
set_option maxHeartbeats 4000000 in
theorem r08_Write (N : Nat) : ∀ (x : It) (v : Value) (w : World) (ok : Nat → Prop), x.nodes ≤ N → x.weight ≤ 1000000000 → ItAt w ok v x → Calls Try.prog 60 #[v] w (Ret (.string (bstr x.bytes)) w) := by
  induction N with
  | zero => intro x v w ok h; have := x.nodes_pos; omega
  | succ N ih =>
    intro x v w ok hN hM ⟨A, len, cap, hv, hs⟩
    subst hv
    have IH := Lib.hid ih
    clear ih
    cases x with
    | mk q n t l =>
      simp only [It.kind, It.nat, It.text, It.list] at *
      simp only [It.nodes, It.weight] at hN hM
      have hlen := hs.1
      have hcap := hs.2.2.1
      have hlc := hs.2.1
      have hs0 := hs.bound
      have HS0 := Lib.hid hs0
      have HLEN := Lib.hid hlen
      have HN := Lib.hid hN
      have HM := Lib.hid hM
      obtain ⟨pre, hpre⟩ : ∃ pre, n.data.toList ++ t.data.toList = pre := ⟨_, rfl⟩
      have hpl : pre.length = n.size + t.size := by rw [← hpre, List.length_append, data_len, data_len]
      have hadd0 : ∀ w, (Op.stringOp .add n t).run Try.prog w = .ok (.string (bstr pre)) w := fun w => by
        rw [run_string_add_sum w _ _ (by omega), ← bstr_of n, ← bstr_of t, bstr_append, hpre]
      have HPRE := Lib.hid hpre
      have HPL := Lib.hid hpl
      clear hs hs0 hlen hN hM hpre hpl
      obtain ⟨W0, hW0⟩ : ∃ W0, w.alloc (.cells #[.int .i64 q, .string n, .string t, .slice A len cap] 53) = W0 := ⟨_, rfl⟩
      have hbox : W0.heap[w.heap.size]? = some (.cells #[.int .i64 q, .string n, .string t, .slice A len cap] 53 (0, 0)) := by rw [← hW0]; exact heap_alloc_new _ _
      have hbl : Below w.heap.size w W0 := by rw [← hW0]; exact (Below.refl _ _).alloc (Nat.le_refl _) _
      have HBOX := Lib.hid hbox
      have HBL := Lib.hid hbl
      have HW0 := Lib.hid hW0
      clear hbox hbl hW0
      go_enter Try.func60, Try.ntmps60
      go_wp2
      clear hadd0
      rw [HW0.out]
      go_loopw [3, 4] (fun s i wr => ∃ k : Nat, k ≤ len ∧ i = .int .i64 k ∧ s = .string (bstr (pre ++ Its.bytes (l.take k))) ∧ Below (w.heap.size + 1) W0 wr) (fun _ i _ => len - (intOf i).toNat)
      case atStart => exact ⟨0, Nat.zero_le _, rfl, by simp [Its.bytes], Below.refl _ _⟩
      case round =>
        obtain ⟨k, hk, rfl, rfl, hB⟩ := hrel
        have hbox1 : wr.heap[w.heap.size]? = _ := (hB.block _ (by omega)).trans HBOX.out
        obtain ⟨b0, b1, b2, b3⟩ := four_cells hbox1
        have hz1 : w.heap.size + 1 ≤ wr.heap.size := block_lt hbox1
        have hs1 := HS0.out.keep (fun b hb _ => (hB.block b (by omega)).trans (HBL.out.block b hb.2))
        have HB := Lib.hid hB
        clear hB hbox1
        by_cases hlt : k < len
        · obtain ⟨b, o, rfl⟩ := hs1.head (by omega)
          obtain ⟨y, hy⟩ : ∃ y, l[k]? = some y := ⟨_, List.getElem?_eq_getElem (by rw [HLEN.out]; exact hlt)⟩
          obtain ⟨A1, len1, cap1, c0, c1, c2, c3, hs2⟩ := (hs1.get? k hy).open
          have hyN : y.nodes ≤ N := by have := Its.mem_nodes (List.mem_of_getElem? hy); have := HN.out; omega
          have hyM : y.weight ≤ 1000000000 := by have := Its.mem_weight (List.mem_of_getElem? hy); have := HM.out; omega
          have hadd : ∀ w, (Op.stringOp .add (bstr (pre ++ Its.bytes (l.take k))) (bstr y.bytes)).run Try.prog w = .ok (.string (bstr (pre ++ Its.bytes (l.take (k + 1))))) w := fun w => by
            have h1 := bytes_take_le l (k + 1)
            rw [bytes_take_step hy, List.length_append] at h1
            have h2 := HPL.out
            have h3 := HM.out
            rw [run_string_add_sum w _ _ (by rw [bstr_size, bstr_size, List.length_append]; omega), bstr_append, List.append_assoc, ← bytes_take_step hy]
          have HS2 := Lib.hid hs2
          have HY := Lib.hid hy
          clear hs1 hs2 hy
          go_wp2_with fail
          refine (IH.out y _ _ _ hyN hyM ⟨A1, len1, cap1, rfl, HS2.out⟩).mono ?_
          rintro e w3 ⟨rfl, hb3⟩
          have HB3 := Lib.hid hb3
          clear hb3
          go_wp2
          go_roundw
          case rel => exact ⟨k + 1, by omega, by go_num, rfl, HB.out.trans (HB3.out.mono (by omega))⟩
          case measure => simp [intOf]; omega
        · obtain rfl : k = len := by omega
          rw [List.take_of_length_le (by have := HLEN.out; omega)]
          obtain ⟨body, hbody⟩ : ∃ body, pre ++ Its.bytes l = body := ⟨_, rfl⟩
          rw [hbody]
          have hbl : body.length ≤ 1000000000 := by
            rw [← hbody, List.length_append]
            have h1 := Its.bytes_le l
            have h2 := HPL.out
            have h3 := HM.out
            omega
          have HBODY := Lib.hid hbody
          clear hs1 hbody
          go_wp2
          obtain ⟨wd, hwd⟩ : ∃ wd, wr.drew = wd := ⟨_, rfl⟩
          have d0 : wd.cell? ⟨w.heap.size, 0, none⟩ = some (.int .i64 q) := by rw [← hwd]; exact b0
          have HBD := Lib.hid (show Below w.heap.size w wd from by rw [← hwd]; exact ((HBL.out.trans (HB.out.mono (by omega))).drew))
          have hzd : w.heap.size + 1 ≤ wd.heap.size := by rw [← hwd]; exact hz1
          obtain ⟨cb, hcb⟩ : ∃ cb : UInt8, UInt8.ofNat (q % 256).toNat = cb := ⟨_, rfl⟩
          have hq : q % 256 = (cb.toNat : Int) := by rw [← hcb, toNat_small (by omega)]; omega
          have hlb := lenF_length 10 body.length
          have hbs := bstr_size body
          have hadd1 : ∀ w, (Op.stringOp .add (bstr [cb]) (bstr (lenB body.length))).run Try.prog w = .ok (.string (bstr (cb :: lenB body.length))) w := fun w => by
            rw [run_string_add_sum w _ _ (by rw [bstr_size, bstr_size]; unfold lenB; simp; omega), bstr_append]; rfl
          have hadd2 : ∀ w, (Op.stringOp .add (bstr (cb :: lenB body.length)) (bstr body)).run Try.prog w = .ok (.string (bstr (cb :: (lenB body.length ++ body)))) w := fun w => by
            rw [run_string_add_sum w _ _ (by rw [bstr_size, bstr_size]; unfold lenB; simp; omega), bstr_append]; rfl
          have hfin := Lib.hid (show (It.mk q n t l).bytes = cb :: (lenB body.length ++ body) from by
            simp only [It.bytes]
            have e : n.data.toList ++ (t.data.toList ++ Its.bytes l) = body := by rw [← List.append_assoc, HPRE.out, HBODY.out]
            rw [e, hcb])
          have HQ := Lib.hid hq
          have HCB := Lib.hid hcb
          have HWD := Lib.hid hwd
          clear hq hcb hlb b0 b1 b2 b3
          refine wp_region_K 12 (KeepB (w.heap.size + 1) wd) (by kernel_rfl) ?_
          intro hD
          rw [hwd]
          refine wpAnyK_pure (i := 0) (v := ?v6_0b1) (fuel := 11) rfl (by kernel_rfl) (fun _ _ _ h => h) hD (KeepB.refl (w.heap.size + 1) wd) (.inl ⟨by kernel_rfl, ?y6_0b1⟩) ?n6_0b1
          case y6_0b1 => intro w' _; go_simp; with_reducible rfl
          clear hD; intro hD
          simp only [Act.put, List.setIfInBounds_toArray, List.set_cons_zero, List.set_cons_succ]
          refine wpAnyK_takeS (i := 1) (v := ?v6_1b1) (fuel := 10) rfl (by kernel_rfl) (by kernel_rfl) (fun _ _ _ h => h) hD (KeepB.refl (w.heap.size + 1) wd) (.inl ⟨by kernel_rfl, ?y6_1b1⟩) ?n6_1b1
          case y6_1b1 => intro w' hS'; have e0 := hS'.cells _ _ d0; go_simp; with_reducible rfl
          clear hD; intro hD
          simp only [Act.put, List.setIfInBounds_toArray, List.set_cons_zero, List.set_cons_succ]
          refine wpAnyK_pure (i := 2) (v := ?v6_2b1) (fuel := 9) rfl (by kernel_rfl) (fun _ _ _ h => h) hD (KeepB.refl (w.heap.size + 1) wd) (.inl ⟨by kernel_rfl, ?y6_2b1⟩) ?n6_2b1
          case y6_2b1 => intro w' _; go_simp; with_reducible rfl
          clear hD; intro hD
          simp only [Act.put, List.setIfInBounds_toArray, List.set_cons_zero, List.set_cons_succ]
          refine wpAnyK_pure (i := 5) (v := ?v6_5b1) (fuel := 8) rfl (by kernel_rfl) (fun _ _ _ h => h) hD (KeepB.refl (w.heap.size + 1) wd) (.inl ⟨by kernel_rfl, ?y6_5b1⟩) ?n6_5b1
          case y6_5b1 => intro w' _; go_simp; with_reducible rfl
          clear hD; intro hD
          simp only [Act.put, List.setIfInBounds_toArray, List.set_cons_zero, List.set_cons_succ]
          refine wpAnyK_pure (i := 6) (v := ?v6_6b1) (fuel := 7) rfl (by kernel_rfl) (fun _ _ _ h => h) hD (KeepB.refl (w.heap.size + 1) wd) (.inl ⟨by kernel_rfl, ?y6_6b1⟩) ?n6_6b1
          case y6_6b1 => intro w' _; go_simp; with_reducible rfl
          clear hD; intro hD
          simp only [Act.put, List.setIfInBounds_toArray, List.set_cons_zero, List.set_cons_succ]
          refine wpAnyK_pure (i := 9) (v := ?v6_9b1) (fuel := 6) rfl (by kernel_rfl) (fun _ _ _ h => h) hD (KeepB.refl (w.heap.size + 1) wd) (.inl ⟨by kernel_rfl, ?y6_9b1⟩) ?n6_9b1
          case y6_9b1 => intro w' _; go_simp; with_reducible rfl
          clear hD; intro hD
          simp only [Act.put, List.setIfInBounds_toArray, List.set_cons_zero, List.set_cons_succ]
          refine wpAnyK_two (i := 3) (i' := 7) (fuel := 5) (by kernel_rfl) rfl rfl hD ?_ ?_ 
          · unfold StepK
            clear hD; intro K3 hK3
            go_wp2
            refine hK3 _ _ (by exact KeepB.alloc (KeepB.refl (w.heap.size + 1) wd) (Nat.le_trans hzd ((KeepB.refl (w.heap.size + 1) wd)).below.size) _) ?_; clear hK3; intro hS_6_3 hD
            have hG := keep_new hS_6_3
            refine wpAnyK_two (i := 4) (i' := 7) (fuel := 4) (by kernel_rfl) rfl rfl hD ?_ ?_ 
            · unfold StepK
              clear hD; intro K4 hK4
              have hcv := conv_cell hG HQ.out
              go_wp2
              refine hK4 _ _ (by exact hS_6_3) ?_; clear hK4; intro hS_6_4_3 hD
              refine wpAnyK_one (i := 7) (fuel := 3) (by kernel_rfl) rfl hD ?_
              clear hD; intro K7 hK7
              go_wp2_with fail
              refine (r08_Length body.length _ (by omega)).mono ?_
              rintro e w6 ⟨rfl, hb6⟩
              have HB6 := Lib.hid hb6
              clear hb6
              try (replace hG := cell_kept HB6.out (Nat.le_refl _) hG)
              go_wp2
              refine hK7 _ _ (by exact (hS_6_4_3).trans (KeepB.of HB6.out (Nat.le_refl _) (Nat.le_trans hzd (hS_6_4_3).below.size))) ?_; clear hK7; intro hS_6_7_3_4 hD
              refine wpAnyK_pure (i := 8) (v := ?v6_8_3_4b1) (fuel := 2) rfl (by kernel_rfl) (fun _ _ _ h => h) hD hS_6_7_3_4 (.inl ⟨by kernel_rfl, ?y6_8_3_4b1⟩) ?n6_8_3_4b1
              case y6_8_3_4b1 => intro w' _; go_simp; with_reducible rfl
              clear hD; intro hD
              simp only [Act.put, List.setIfInBounds_toArray, List.set_cons_zero, List.set_cons_succ]
              refine wpAnyK_pure (i := 10) (v := ?v6_10_3_4b1) (fuel := 1) rfl (by kernel_rfl) (fun _ _ _ h => h) hD hS_6_7_3_4 (.inl ⟨by kernel_rfl, ?y6_10_3_4b1⟩) ?n6_10_3_4b1
              case y6_10_3_4b1 => intro w' _; go_simp; with_reducible rfl
              clear hD; intro hD
              simp only [Act.put, List.setIfInBounds_toArray, List.set_cons_zero, List.set_cons_succ]
              refine wpAnyK_one (i := 11) (fuel := 0) (by kernel_rfl) rfl hD ?_
              clear hD; intro K11 hK11
              go_wp2
              refine hK11 _ _ (by exact hS_6_7_3_4) ?_; clear hK11; intro hS_6_11_3_4 hD
              refine wpAnyK_done (by kernel_rfl) ?_ 0
              go_wp2
              go_ret
              exact ⟨by rw [hfin.out]; rfl, HBD.out.trans ((hS_6_11_3_4).below.mono (by omega))⟩
            · unfold StepK
              clear hD; intro K7 hK7
              go_wp2_with fail
              refine (r08_Length body.length _ (by omega)).mono ?_
              rintro e w6 ⟨rfl, hb6⟩
              have HB6 := Lib.hid hb6
              clear hb6
              try (replace hG := cell_kept HB6.out (Nat.le_refl _) hG)
              go_wp2
              refine hK7 _ _ (by exact (hS_6_3).trans (KeepB.of HB6.out (Nat.le_refl _) (Nat.le_trans hzd (hS_6_3).below.size))) ?_; clear hK7; intro hS_6_7_3 hD
              refine wpAnyK_one (i := 4) (fuel := 3) (by kernel_rfl) rfl hD ?_
              clear hD; intro K4 hK4
              have hcv := conv_cell hG HQ.out
              go_wp2
              refine hK4 _ _ (by exact hS_6_7_3) ?_; clear hK4; intro hS_6_4_3_7 hD
              refine wpAnyK_pure (i := 8) (v := ?v6_8_3_7b1) (fuel := 2) rfl (by kernel_rfl) (fun _ _ _ h => h) hD hS_6_4_3_7 (.inl ⟨by kernel_rfl, ?y6_8_3_7b1⟩) ?n6_8_3_7b1
              case y6_8_3_7b1 => intro w' _; go_simp; with_reducible rfl
              clear hD; intro hD
              simp only [Act.put, List.setIfInBounds_toArray, List.set_cons_zero, List.set_cons_succ]
              refine wpAnyK_pure (i := 10) (v := ?v6_10_3_7b1) (fuel := 1) rfl (by kernel_rfl) (fun _ _ _ h => h) hD hS_6_4_3_7 (.inl ⟨by kernel_rfl, ?y6_10_3_7b1⟩) ?n6_10_3_7b1
              case y6_10_3_7b1 => intro w' _; go_simp; with_reducible rfl
              clear hD; intro hD
              simp only [Act.put, List.setIfInBounds_toArray, List.set_cons_zero, List.set_cons_succ]
              refine wpAnyK_one (i := 11) (fuel := 0) (by kernel_rfl) rfl hD ?_
              clear hD; intro K11 hK11
              go_wp2
              refine hK11 _ _ (by exact hS_6_4_3_7) ?_; clear hK11; intro hS_6_11_3_7 hD
              refine wpAnyK_done (by kernel_rfl) ?_ 0
              go_wp2
              go_ret
              exact ⟨by rw [hfin.out]; rfl, HBD.out.trans ((hS_6_11_3_7).below.mono (by omega))⟩
          · unfold StepK
            clear hD; intro K7 hK7
            go_wp2_with fail
            refine (r08_Length body.length _ (by omega)).mono ?_
            rintro e w6 ⟨rfl, hb6⟩
            have HB6 := Lib.hid hb6
            clear hb6
            try (replace hG := cell_kept HB6.out (Nat.le_refl _) hG)
            go_wp2
            refine hK7 _ _ (by exact ((KeepB.refl (w.heap.size + 1) wd)).trans (KeepB.of HB6.out (Nat.le_refl _) (Nat.le_trans hzd ((KeepB.refl (w.heap.size + 1) wd)).below.size))) ?_; clear hK7; intro hS_6_7 hD
            refine wpAnyK_one (i := 3) (fuel := 4) (by kernel_rfl) rfl hD ?_
            clear hD; intro K3 hK3
            go_wp2
            refine hK3 _ _ (by exact KeepB.alloc hS_6_7 (Nat.le_trans hzd (hS_6_7).below.size) _) ?_; clear hK3; intro hS_6_3_7 hD
            have hG := keep_new hS_6_3_7
            refine wpAnyK_one (i := 4) (fuel := 3) (by kernel_rfl) rfl hD ?_
            clear hD; intro K4 hK4
            have hcv := conv_cell hG HQ.out
            go_wp2
            refine hK4 _ _ (by exact hS_6_3_7) ?_; clear hK4; intro hS_6_4_7 hD
            refine wpAnyK_pure (i := 8) (v := ?v6_8_7b1) (fuel := 2) rfl (by kernel_rfl) (fun _ _ _ h => h) hD hS_6_4_7 (.inl ⟨by kernel_rfl, ?y6_8_7b1⟩) ?n6_8_7b1
            case y6_8_7b1 => intro w' _; go_simp; with_reducible rfl
            clear hD; intro hD
            simp only [Act.put, List.setIfInBounds_toArray, List.set_cons_zero, List.set_cons_succ]
            refine wpAnyK_pure (i := 10) (v := ?v6_10_7b1) (fuel := 1) rfl (by kernel_rfl) (fun _ _ _ h => h) hD hS_6_4_7 (.inl ⟨by kernel_rfl, ?y6_10_7b1⟩) ?n6_10_7b1
            case y6_10_7b1 => intro w' _; go_simp; with_reducible rfl
            clear hD; intro hD
            simp only [Act.put, List.setIfInBounds_toArray, List.set_cons_zero, List.set_cons_succ]
            refine wpAnyK_one (i := 11) (fuel := 0) (by kernel_rfl) rfl hD ?_
            clear hD; intro K11 hK11
            go_wp2
            refine hK11 _ _ (by exact hS_6_4_7) ?_; clear hK11; intro hS_6_11_7 hD
            refine wpAnyK_done (by kernel_rfl) ?_ 0
            go_wp2
            go_ret
            exact ⟨by rw [hfin.out]; rfl, HBD.out.trans ((hS_6_11_7).below.mono (by omega))⟩

/-- What Encode returns: the string, the number of the error. -/
def encS (x : It) : ByteArray × Int :=
  if x.valid = false then (⟨#[]⟩, 3) else if 32 < x.depth then (⟨#[]⟩, 7) else if 65536 < x.bytes.length then (⟨#[]⟩, 5) else (bstr x.bytes, 0)
/-- The call returned a string and an error number. -/
def RetSE (r : ByteArray × Int) (w : World) (e : Ending) (w' : World) : Prop := e = .returned (.tuple #[.string r.1, .int .i64 r.2]) ∧ Below w.heap.size w w'

set_option maxRecDepth 100000 in
set_option maxHeartbeats 2000000 in
theorem enc_Encode (x : It) (v : Value) (w : World) (ok : Nat → Prop) (hM : x.weight ≤ 1000000000) (hx : ItAt w ok v x) : Calls Try.prog 23 #[v] w (RetSE (encS x) w) := by
  obtain ⟨A, len, cap, rfl, hs⟩ := hx
  have hbd := x.bytes_le
  have hdd := Nat.le_trans x.depth_le x.nodes_le
  obtain ⟨w1, hw1⟩ : ∃ w1, w.alloc (.cells #[.int .i64 x.kind, .string x.nat, .string x.text, .slice A len cap] 53) = w1 := ⟨_, rfl⟩
  have hbox : w1.heap[w.heap.size]? = some (.cells #[.int .i64 x.kind, .string x.nat, .string x.text, .slice A len cap] 53 (0, 0)) := by rw [← hw1]; exact heap_alloc_new _ _
  have hb1 : Below w.heap.size w w1 := by rw [← hw1]; exact (Below.refl _ _).alloc (Nat.le_refl _) _
  have hi1 : ItAt w1 (fun b => ok b ∧ b < w.heap.size) (.agg #[.int .i64 x.kind, .string x.nat, .string x.text, .slice A len cap]) x := ⟨A, len, cap, rfl, hs.bound.below hb1 (Nat.le_refl _)⟩
  have HI1 := Lib.hid hi1
  have HB1 := Lib.hid hb1
  have HBOX := Lib.hid hbox
  have HW1 := Lib.hid hw1
  obtain ⟨b0, b1, b2, b3⟩ := four_cells hbox
  clear hi1 hb1 hbox hw1 hs
  have hz1 : w.heap.size + 1 ≤ w1.heap.size := block_lt HBOX.out
  cases hv : x.valid with
  | false =>
    have hr : encS x = (⟨#[]⟩, 3) := by simp [encS, hv]
    rw [hr]
    have HV := Lib.hid hv
    clear hr hv
    go_enter Try.func23, Try.ntmps23
    go_wp2_with fail
    rw [HW1.out]
    refine (enc_valid _ x _ _ _ (Nat.le_refl _) (by omega) HI1.out).mono ?_
    rintro e w2 ⟨rfl, hb2⟩
    rw [HV.out]
    go_wp2
    go_ret2
    exact ⟨rfl, HB1.out.trans (hb2.mono (by omega))⟩
  | true =>
    have HV := Lib.hid hv
    by_cases hd : 32 < x.depth
    · have hr : encS x = (⟨#[]⟩, 7) := by simp [encS, hv, hd]
      rw [hr]
      clear hr hv
      go_enter Try.func23, Try.ntmps23
      go_wp2_with fail
      rw [HW1.out]
      refine (enc_valid _ x _ _ _ (Nat.le_refl _) (by omega) HI1.out).mono ?_
      rintro e w2 ⟨rfl, hb2⟩
      rw [HV.out]
      have HB2 := Lib.hid hb2
      obtain ⟨q0, q1, q2, q3⟩ := four_cells (block_kept hb2 (Nat.le_refl _) HBOX.out)
      have hz2 := hb2.size
      clear hb2 b0 b1 b2 b3
      go_wp2_with fail
      refine (enc_depth _ x _ _ _ (Nat.le_refl _) (by omega) (HI1.out.below HB2.out (Nat.le_refl _))).mono ?_
      rintro e w3 ⟨rfl, hb3⟩
      have HB3 := Lib.hid hb3
      clear hb3
      go_wp2
      go_ret2
      exact ⟨rfl, (HB1.out.trans (HB2.out.mono (by omega))).trans (HB3.out.mono (by omega))⟩
    · by_cases hl : 65536 < x.bytes.length
      all_goals
        first
        | (have hr : encS x = (⟨#[]⟩, 5) := by simp [encS, hv, hd, hl]
           rw [hr])
        | (have hr : encS x = (bstr x.bytes, 0) := by simp [encS, hv, hd, hl]
           rw [hr])
        clear hr hv
        have hbs := bstr_size x.bytes
        rw [← hbs] at hl
        have HBS := Lib.hid hbs
        clear hbs
        go_enter Try.func23, Try.ntmps23
        go_wp2_with fail
        rw [HW1.out]
        refine (enc_valid _ x _ _ _ (Nat.le_refl _) (by omega) HI1.out).mono ?_
        rintro e w2 ⟨rfl, hb2⟩
        rw [HV.out]
        have HB2 := Lib.hid hb2
        obtain ⟨q0, q1, q2, q3⟩ := four_cells (block_kept hb2 (Nat.le_refl _) HBOX.out)
        have HBOX2 := Lib.hid (block_kept hb2 (Nat.le_refl _) HBOX.out)
        have hz2 := hb2.size
        clear hb2 b0 b1 b2 b3
        go_wp2_with fail
        refine (enc_depth _ x _ _ _ (Nat.le_refl _) (by omega) (HI1.out.below HB2.out (Nat.le_refl _))).mono ?_
        rintro e w3 ⟨rfl, hb3⟩
        have HB3 := Lib.hid hb3
        obtain ⟨p0, p1, p2, p3⟩ := four_cells (block_kept hb3 (Nat.le_refl _) HBOX2.out)
        have hz3 := hb3.size
        clear hb3 q0 q1 q2 q3
        go_wp2_with fail
        refine (enc_write _ x _ _ _ (Nat.le_refl _) (by omega) ((HI1.out.below HB2.out (Nat.le_refl _)).below HB3.out (Nat.le_refl _))).mono ?_
        rintro e w4 ⟨rfl, hb4⟩
        have HB4 := Lib.hid hb4
        clear hb4
        go_wp2
        go_ret2
        exact ⟨rfl, ((HB1.out.trans (HB2.out.mono (by omega))).trans (HB3.out.mono (by omega))).trans (HB4.out.mono (by omega))⟩

set_option maxRecDepth 100000 in
set_option maxHeartbeats 2000000 in
theorem r08_Encode (x : It) (v : Value) (w : World) (ok : Nat → Prop) (hM : x.weight ≤ 1000000000) (hx : ItAt w ok v x) : Calls Try.prog 30 #[v] w (RetSE (encS x) w) := by
  obtain ⟨A, len, cap, rfl, hs⟩ := hx
  have hbd := x.bytes_le
  have hdd := Nat.le_trans x.depth_le x.nodes_le
  obtain ⟨w1, hw1⟩ : ∃ w1, w.alloc (.cells #[.int .i64 x.kind, .string x.nat, .string x.text, .slice A len cap] 53) = w1 := ⟨_, rfl⟩
  have hbox : w1.heap[w.heap.size]? = some (.cells #[.int .i64 x.kind, .string x.nat, .string x.text, .slice A len cap] 53 (0, 0)) := by rw [← hw1]; exact heap_alloc_new _ _
  have hb1 : Below w.heap.size w w1 := by rw [← hw1]; exact (Below.refl _ _).alloc (Nat.le_refl _) _
  have hi1 : ItAt w1 (fun b => ok b ∧ b < w.heap.size) (.agg #[.int .i64 x.kind, .string x.nat, .string x.text, .slice A len cap]) x := ⟨A, len, cap, rfl, hs.bound.below hb1 (Nat.le_refl _)⟩
  have HI1 := Lib.hid hi1
  have HB1 := Lib.hid hb1
  have HBOX := Lib.hid hbox
  have HW1 := Lib.hid hw1
  obtain ⟨b0, b1, b2, b3⟩ := four_cells hbox
  clear hi1 hb1 hbox hw1 hs
  have hz1 : w.heap.size + 1 ≤ w1.heap.size := block_lt HBOX.out
  cases hv : x.valid with
  | false =>
    have hr : encS x = (⟨#[]⟩, 3) := by simp [encS, hv]
    rw [hr]
    have HV := Lib.hid hv
    clear hr hv
    go_enter Try.func30, Try.ntmps30
    go_wp2_with fail
    rw [HW1.out]
    refine (r08_Valid _ x _ _ _ (Nat.le_refl _) (by omega) HI1.out).mono ?_
    rintro e w2 ⟨rfl, hb2⟩
    rw [HV.out]
    go_wp2
    go_ret2
    exact ⟨rfl, HB1.out.trans (hb2.mono (by omega))⟩
  | true =>
    have HV := Lib.hid hv
    by_cases hd : 32 < x.depth
    · have hr : encS x = (⟨#[]⟩, 7) := by simp [encS, hv, hd]
      rw [hr]
      clear hr hv
      go_enter Try.func30, Try.ntmps30
      go_wp2_with fail
      rw [HW1.out]
      refine (r08_Valid _ x _ _ _ (Nat.le_refl _) (by omega) HI1.out).mono ?_
      rintro e w2 ⟨rfl, hb2⟩
      rw [HV.out]
      have HB2 := Lib.hid hb2
      obtain ⟨q0, q1, q2, q3⟩ := four_cells (block_kept hb2 (Nat.le_refl _) HBOX.out)
      have hz2 := hb2.size
      clear hb2 b0 b1 b2 b3
      go_wp2_with fail
      refine (r08_Depth _ x _ _ _ (Nat.le_refl _) (by omega) (HI1.out.below HB2.out (Nat.le_refl _))).mono ?_
      rintro e w3 ⟨rfl, hb3⟩
      have HB3 := Lib.hid hb3
      clear hb3
      go_wp2
      go_ret2
      exact ⟨rfl, (HB1.out.trans (HB2.out.mono (by omega))).trans (HB3.out.mono (by omega))⟩
    · by_cases hl : 65536 < x.bytes.length
      all_goals
        first
        | (have hr : encS x = (⟨#[]⟩, 5) := by simp [encS, hv, hd, hl]
           rw [hr])
        | (have hr : encS x = (bstr x.bytes, 0) := by simp [encS, hv, hd, hl]
           rw [hr])
        clear hr hv
        have hbs := bstr_size x.bytes
        rw [← hbs] at hl
        have HBS := Lib.hid hbs
        clear hbs
        go_enter Try.func30, Try.ntmps30
        go_wp2_with fail
        rw [HW1.out]
        refine (r08_Valid _ x _ _ _ (Nat.le_refl _) (by omega) HI1.out).mono ?_
        rintro e w2 ⟨rfl, hb2⟩
        rw [HV.out]
        have HB2 := Lib.hid hb2
        obtain ⟨q0, q1, q2, q3⟩ := four_cells (block_kept hb2 (Nat.le_refl _) HBOX.out)
        have HBOX2 := Lib.hid (block_kept hb2 (Nat.le_refl _) HBOX.out)
        have hz2 := hb2.size
        clear hb2 b0 b1 b2 b3
        go_wp2_with fail
        refine (r08_Depth _ x _ _ _ (Nat.le_refl _) (by omega) (HI1.out.below HB2.out (Nat.le_refl _))).mono ?_
        rintro e w3 ⟨rfl, hb3⟩
        have HB3 := Lib.hid hb3
        obtain ⟨p0, p1, p2, p3⟩ := four_cells (block_kept hb3 (Nat.le_refl _) HBOX2.out)
        have hz3 := hb3.size
        clear hb3 q0 q1 q2 q3
        go_wp2_with fail
        refine (r08_Write _ x _ _ _ (Nat.le_refl _) (by omega) ((HI1.out.below HB2.out (Nat.le_refl _)).below HB3.out (Nat.le_refl _))).mono ?_
        rintro e w4 ⟨rfl, hb4⟩
        have HB4 := Lib.hid hb4
        clear hb4
        go_wp2
        go_ret2
        exact ⟨rfl, ((HB1.out.trans (HB2.out.mono (by omega))).trans (HB3.out.mono (by omega))).trans (HB4.out.mono (by omega))⟩

end Go.Proofs.Ytelhpdlegjgjjaa

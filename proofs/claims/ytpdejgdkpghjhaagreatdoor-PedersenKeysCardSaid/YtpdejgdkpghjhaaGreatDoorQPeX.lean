/- Walks: dominolaw14.Few, short, example, open. -/
import Derived.Test.YtpdejgdkpghjhaaGreatDoorQPeV
set_option linter.unusedVariables false
set_option linter.unusedSimpArgs false
namespace Go.Proofs.YtpdejgdkpghjhaaGreatDoor
open Go.RowKit

/-- Whether the numbers of a key are small. -/
def few14 (M O G H : ByteArray) : Bool := decide (M.size ≤ 8) && (decide (O.size ≤ 8) && (decide (G.size ≤ 9) && decide (H.size ≤ 9)))
set_option maxRecDepth 100000 in
set_option maxHeartbeats 1000000 in
theorem law14_Few (M O G H : ByteArray) (w : World) : Calls Tryz.prog 23 #[kV M O G H] w (Ret (.bool (few14 M O G H)) w) := by
  have HB0 := Lib.hid ((Below.refl w.heap.size w).alloc (Nat.le_refl _) (.cells #[.string M, .string O, .string G, .string H] 26))
  unfold kV few14
  by_cases h1 : M.size ≤ 8
  · have i1 : decide ((M.size : Int) ≤ 8) = true := decide_eq_true (by omega)
    rw [decide_eq_true h1, Bool.true_and]
    by_cases h2 : O.size ≤ 8
    · have i2 : decide ((O.size : Int) ≤ 8) = true := decide_eq_true (by omega)
      rw [decide_eq_true h2, Bool.true_and]
      by_cases h3 : G.size ≤ 9
      · have i3 : decide ((G.size : Int) ≤ 9) = true := decide_eq_true (by omega)
        rw [decide_eq_true h3, Bool.true_and]
        by_cases h4 : H.size ≤ 9
        · have i4 : decide ((H.size : Int) ≤ 9) = true := decide_eq_true (by omega)
          rw [decide_eq_true h4]
          clear h1 h2 h3 h4
          go_enter Tryz.func23, Tryz.ntmps23
          go_wp2
          go_ret
          exact ⟨rfl, HB0.out⟩
        · have i4 : decide ((H.size : Int) ≤ 9) = false := decide_eq_false (by omega)
          rw [decide_eq_false h4]
          clear h1 h2 h3 h4
          go_enter Tryz.func23, Tryz.ntmps23
          go_wp2
          go_ret
          exact ⟨rfl, HB0.out⟩
      · have i3 : decide ((G.size : Int) ≤ 9) = false := decide_eq_false (by omega)
        rw [decide_eq_false h3, Bool.false_and]
        clear h1 h2 h3
        go_enter Tryz.func23, Tryz.ntmps23
        go_wp2
        go_ret
        exact ⟨rfl, HB0.out⟩
    · have i2 : decide ((O.size : Int) ≤ 8) = false := decide_eq_false (by omega)
      rw [decide_eq_false h2, Bool.false_and]
      clear h1 h2
      go_enter Tryz.func23, Tryz.ntmps23
      go_wp2
      go_ret
      exact ⟨rfl, HB0.out⟩
  · have i1 : decide ((M.size : Int) ≤ 8) = false := decide_eq_false (by omega)
    rw [decide_eq_false h1, Bool.false_and]
    clear h1
    go_enter Tryz.func23, Tryz.ntmps23
    go_wp2
    go_ret
    exact ⟨rfl, HB0.out⟩
set_option maxRecDepth 100000 in
set_option maxHeartbeats 1000000 in
theorem law14_example (w : World) : Calls Tryz.prog 64 #[] w (Ret (kV (nS 23) (nS 11) (nS 4) (nS 3)) w) := by
  have H1 := Lib.hid (fun w => show Calls Tryz.prog 53 #[.int .u64 23] w (Ret (.string (nS 23)) w) from nat_Of 23 (by decide) w)
  have H2 := Lib.hid (fun w => show Calls Tryz.prog 53 #[.int .u64 11] w (Ret (.string (nS 11)) w) from nat_Of 11 (by decide) w)
  have H3 := Lib.hid (fun w => show Calls Tryz.prog 53 #[.int .u64 4] w (Ret (.string (nS 4)) w) from nat_Of 4 (by decide) w)
  have H4 := Lib.hid (fun w => show Calls Tryz.prog 53 #[.int .u64 3] w (Ret (.string (nS 3)) w) from nat_Of 3 (by decide) w)
  unfold kV
  obtain ⟨a, ha⟩ : ∃ x, nS 23 = x := ⟨_, rfl⟩
  obtain ⟨b, hb⟩ : ∃ x, nS 11 = x := ⟨_, rfl⟩
  obtain ⟨c, hc⟩ : ∃ x, nS 4 = x := ⟨_, rfl⟩
  obtain ⟨d, hd⟩ : ∃ x, nS 3 = x := ⟨_, rfl⟩
  rw [ha] at H1
  rw [hb] at H2
  rw [hc] at H3
  rw [hd] at H4
  rw [ha, hb, hc, hd]
  clear ha hb hc hd
  have HX0 := Lib.hid (Bx4.new w (.string ⟨#[]⟩) (.string ⟨#[]⟩) (.string ⟨#[]⟩) (.string ⟨#[]⟩) 26)
  have HB0 := Lib.hid ((Below.refl w.heap.size w).alloc (Nat.le_refl _) (.cells #[.string ⟨#[]⟩, .string ⟨#[]⟩, .string ⟨#[]⟩, .string ⟨#[]⟩] 26))
  go_enter Tryz.func64, Tryz.ntmps64
  go_wp2_with fail
  refine (H1.out _).mono ?_
  rintro ev w1 ⟨rfl, hb⟩
  have HX1 := Lib.hid (HX0.out.next hb)
  have HB1 := Lib.hid (HB0.out.trans (hb.mono HB0.out.size))
  clear hb
  go_wp2_with fail
  refine (H2.out _).mono ?_
  rintro ev w2 ⟨rfl, hb⟩
  have HX2 := Lib.hid (HX1.out.next hb)
  have HB2 := Lib.hid (HB1.out.trans (hb.mono HB1.out.size))
  clear hb
  go_wp2_with fail
  refine (H3.out _).mono ?_
  rintro ev w3 ⟨rfl, hb⟩
  have HX3 := Lib.hid (HX2.out.next hb)
  have HB3 := Lib.hid (HB2.out.trans (hb.mono HB2.out.size))
  clear hb
  go_wp2_with fail
  refine (H4.out _).mono ?_
  rintro ev w4 ⟨rfl, hb⟩
  have hx := HX3.out.next hb
  have HX4 := Lib.hid hx
  have HB4 := Lib.hid (HB3.out.trans (hb.mono HB3.out.size))
  obtain ⟨c0, c1, c2, c3⟩ := hx.cells
  have f0 := hx.free 0
  have f1 := hx.free 1
  have f2 := hx.free 2
  have f3 := hx.free 3
  clear hb hx
  go_wp2
  obtain ⟨q0, q1, q2, q3⟩ := (HX4.out.set4 (a := .string a) (b := .string b) (c := .string c) (d := .string d)).cells
  exact bodyPost_ret (v := .agg #[.string a, .string b, .string c, .string d]) (by simp [results, Tryz.results64, go_sem, q0, q1, q2, q3]) rfl ⟨rfl, below_set4 HB4.out (Nat.le_refl _) _ _ _ _⟩
set_option maxRecDepth 100000 in
set_option maxHeartbeats 1000000 in
theorem law14_open (m r : Nat) (hm : m < 1000) (hr : r < 1000) (w : World) : Calls Tryz.prog 66 #[.int .i64 m, .int .i64 r] w (Ret (.agg #[.bool false, .string (nS m), .bool false, .string (nS r)]) w) := by
  have H1 := Lib.hid (int_Of m hm)
  have H2 := Lib.hid (int_Of r hr)
  rw [intV_nat] at H1 H2
  obtain ⟨a, ha⟩ : ∃ x, nS m = x := ⟨_, rfl⟩
  obtain ⟨b, hb⟩ : ∃ x, nS r = x := ⟨_, rfl⟩
  rw [ha] at H1
  rw [hb] at H2
  rw [ha, hb]
  clear ha hb hm hr
  have HX0 := Lib.hid (Bx4.new w (.bool false) (.string ⟨#[]⟩) (.bool false) (.string ⟨#[]⟩) 73)
  have HB0 := Lib.hid ((Below.refl w.heap.size w).alloc (Nat.le_refl _) (.cells #[.bool false, .string ⟨#[]⟩, .bool false, .string ⟨#[]⟩] 73))
  go_enter Tryz.func66, Tryz.ntmps66
  go_wp2_with fail
  refine (H1.out _).mono ?_
  rintro ev w1 ⟨rfl, hb⟩
  have HX1 := Lib.hid (HX0.out.next hb)
  have HB1 := Lib.hid (HB0.out.trans (hb.mono HB0.out.size))
  clear hb
  go_wp2_with fail
  refine (H2.out _).mono ?_
  rintro ev w4 ⟨rfl, hb⟩
  have hx := HX1.out.next hb
  have HX4 := Lib.hid hx
  have HB4 := Lib.hid (HB1.out.trans (hb.mono HB1.out.size))
  obtain ⟨c0, c1, c2, c3⟩ := hx.cells
  have f0 := hx.free 0
  have f1 := hx.free 1
  have f2 := hx.free 2
  have f3 := hx.free 3
  clear hb hx
  go_wp2
  obtain ⟨q0, q1, q2, q3⟩ := (HX4.out.set4 (a := .bool false) (b := .string a) (c := .bool false) (d := .string b)).cells
  exact bodyPost_ret (v := .agg #[.bool false, .string a, .bool false, .string b]) (by simp [results, Tryz.results66, go_sem, q0, q1, q2, q3]) rfl ⟨rfl, below_set4 HB4.out (Nat.le_refl _) _ _ _ _⟩
end Go.Proofs.YtpdejgdkpghjhaaGreatDoor
/- The chapter's examples of layer 14: plain facts. -/
set_option linter.unusedVariables false
namespace Go.Proofs.YtpdejgdkpghjhaaGreatDoor

theorem ex_form : kF (nS 23) (nS 11) (nS 4) (nS 3) = true := by decide +kernel
theorem ex_key : pkC (nS 23) (nS 11) (nS 4) (nS 3) = 0 := by decide +kernel
theorem ex_pr (l : List ByteArray) (zs : List (Bool × ByteArray)) (v : Nat) (h1 : ckR (nS 23) (nS 11) l zs (decide (l.length = zs.length)) = 0) (h2 : prV (num (nS 23)) l zs = v) : prR (nS 23) (nS 11) l zs = .tuple #[.string (nS v), .int .i64 0] := by
  unfold prR
  rw [if_pos h1, h2]
theorem ex_cm (a b v : Nat) (hz : (zvalid false (nS a) && zvalid false (nS b)) = true) (h1 : ckR (nS 23) (nS 11) [nS 4, nS 3] [(false, nS a), (false, nS b)] true = 0) (h2 : prV (num (nS 23)) [nS 4, nS 3] [(false, nS a), (false, nS b)] = v) : cmR (nS 23) (nS 11) (nS 4) (nS 3) false (nS a) false (nS b) = .tuple #[.string (nS v), .int .i64 0] := by
  unfold cmR
  rw [ex_form, hz, if_neg (by decide), if_pos ex_key]
  exact ex_pr _ _ _ h1 h2
theorem ex_cm21 : cmR (nS 23) (nS 11) (nS 4) (nS 3) false (nS 2) false (nS 1) = .tuple #[.string (nS 2), .int .i64 0] := ex_cm 2 1 2 (by decide +kernel) (by decide +kernel) (by decide +kernel)
theorem ex_op60 : opR (nS 23) (nS 11) (nS 4) (nS 3) (nS 2) false (nS 6) false (nS 0) = true := by
  rw [opR_of (ex_cm 6 0 2 (by decide +kernel) (by decide +kernel) (by decide +kernel))]
  decide +kernel
theorem ex_op61 : opR (nS 23) (nS 11) (nS 4) (nS 3) (nS 2) false (nS 6) false (nS 1) = false := by
  rw [opR_of (ex_cm 6 1 6 (by decide +kernel) (by decide +kernel) (by decide +kernel))]
  decide +kernel
theorem ex_sf : sfR (nS 23) (nS 11) (nS 4) (nS 3) (nS 2) false (nS 1) = .tuple #[.string (nS 8), .int .i64 0] := by
  unfold sfR
  rw [ex_form, if_neg (by decide +kernel), if_pos ex_key]
  exact ex_pr _ _ _ (by decide +kernel) (by decide +kernel)
end Go.Proofs.YtpdejgdkpghjhaaGreatDoor

/- Walks: dominolaw14.Few, short, example, open. -/
import Derived.Test.YtnnfgphioapmnaaPeV
set_option linter.unusedVariables false
set_option linter.unusedSimpArgs false
namespace Go.Proofs.Ytnnfgphioapmnaa
open Go.RowKit

/-- Whether the numbers of a key are small. -/
def few14 (M O G H : ByteArray) : Bool := decide (M.size ≤ 8) && (decide (O.size ≤ 8) && (decide (G.size ≤ 9) && decide (H.size ≤ 9)))
set_option maxRecDepth 100000 in
set_option maxHeartbeats 1000000 in
theorem law14_Few (M O G H : ByteArray) (w : World) : Calls Try.prog 7 #[kV M O G H] w (Ret (.bool (few14 M O G H)) w) := by
  have HB0 := Lib.hid ((Below.refl w.heap.size w).alloc (Nat.le_refl _) (.cells #[.string M, .string O, .string G, .string H] 26))
  unfold kV few14
  by_cases h1 : M.size ≤ 8
  · have i1 : decide ((M.size : Int) ≤ 8) = true := decide_eq_true (by omega)
    rw [decide_eq_true h1, Bool.true_and]
    by_cases h2 : O.size ≤ 8
    · have i2 : decide ((O.size : Int) ≤ 8) = true := decide_eq_true (by omega)
      rw [decide_eq_true h2, Bool.true_and]
      by_cases h3 : G.size ≤ 9
      · have i3 : decide ((G.size : Int) ≤ 9) = true := decide_eq_true (by omega)
        rw [decide_eq_true h3, Bool.true_and]
        by_cases h4 : H.size ≤ 9
        · have i4 : decide ((H.size : Int) ≤ 9) = true := decide_eq_true (by omega)
          rw [decide_eq_true h4]
          clear h1 h2 h3 h4
          go_enter Try.func7, Try.ntmps7
          go_wp2
          go_ret
          exact ⟨rfl, HB0.out⟩
        · have i4 : decide ((H.size : Int) ≤ 9) = false := decide_eq_false (by omega)
          rw [decide_eq_false h4]
          clear h1 h2 h3 h4
          go_enter Try.func7, Try.ntmps7
          go_wp2
          go_ret
          exact ⟨rfl, HB0.out⟩
      · have i3 : decide ((G.size : Int) ≤ 9) = false := decide_eq_false (by omega)
        rw [decide_eq_false h3, Bool.false_and]
        clear h1 h2 h3
        go_enter Try.func7, Try.ntmps7
        go_wp2
        go_ret
        exact ⟨rfl, HB0.out⟩
    · have i2 : decide ((O.size : Int) ≤ 8) = false := decide_eq_false (by omega)
      rw [decide_eq_false h2, Bool.false_and]
      clear h1 h2
      go_enter Try.func7, Try.ntmps7
      go_wp2
      go_ret
      exact ⟨rfl, HB0.out⟩
  · have i1 : decide ((M.size : Int) ≤ 8) = false := decide_eq_false (by omega)
    rw [decide_eq_false h1, Bool.false_and]
    clear h1
    go_enter Try.func7, Try.ntmps7
    go_wp2
    go_ret
    exact ⟨rfl, HB0.out⟩
/-- Whether integers are short. -/
def shortZ (zs : List (Bool × ByteArray)) : Bool := zs.all (fun z => decide (z.2.size ≤ 16))
set_option maxRecDepth 100000 in
set_option maxHeartbeats 1000000 in
theorem law14_short (zs : List (Bool × ByteArray)) (A : Option Addr) (n c : Nat) (hn : n ≤ 100) (w : World) (hz : SlZ w A n c zs) : Calls Try.prog 15 #[.slice A n c] w (Ret (.bool (shortZ zs)) w) := by
  have HZ := Lib.hid hz
  have HL := Lib.hid hz.1
  obtain ⟨R, hR⟩ : ∃ R, shortZ zs = R := ⟨_, rfl⟩
  rw [hR]
  have HRR := Lib.hid hR
  clear hz hR
  go_enter Try.func15, Try.ntmps15
  go_wp2
  go_loopw [3] (fun i wr => ∃ k : Nat, k ≤ n ∧ i = .int .i64 k ∧ (zs.take k).all (fun z => decide (z.2.size ≤ 16)) = true ∧ wr = w) (fun i _ => n - (intOf i).toNat)
  case atStart => exact ⟨0, Nat.zero_le _, rfl, by simp, rfl⟩
  case round =>
    obtain ⟨k, hk, rfl, hall, hwr⟩ := hrel
    have hwr := hwr.symm
    subst hwr
    have HALL := Lib.hid hall
    clear hall
    by_cases hlt : k < n
    · obtain ⟨z, he⟩ : ∃ z, zs[k]? = some z := ⟨_, List.getElem?_eq_getElem (by rw [HL.out]; exact hlt)⟩
      obtain ⟨b, o, rfl⟩ := HZ.out.head (by omega)
      obtain ⟨c0, c1⟩ := HZ.out.get? k he
      obtain ⟨zb, zt⟩ := z
      dsimp only at c0 c1
      have HE := Lib.hid he
      clear he
      by_cases hs : zt.size ≤ 16
      · have i1 : decide ((16 : Int) < (zt.size : Int)) = false := decide_eq_false (by omega)
        have HS := Lib.hid (decide_eq_true hs)
        clear hs
        go_wp2
        go_roundw
        case rel => exact ⟨k + 1, by omega, by go_num, all_take HALL.out HE.out HS.out, (by first | rfl | trivial)⟩
        case measure => simp [intOf]; omega
      · have i1 : decide ((16 : Int) < (zt.size : Int)) = true := decide_eq_true (by omega)
        have HS := Lib.hid (decide_eq_false hs)
        clear hs
        go_wp2
        go_ret
        exact ⟨by rw [← HRR.out]; unfold shortZ; rw [all_false (p := fun z : Bool × ByteArray => decide (z.2.size ≤ 16)) HE.out HS.out]; rfl, Below.refl _ _⟩
    · obtain rfl : k = n := by omega
      have HV := Lib.hid (all_len HALL.out HL.out)
      go_wp2
      go_ret
      exact ⟨by rw [← HRR.out]; unfold shortZ; rw [HV.out]; rfl, Below.refl _ _⟩
set_option maxRecDepth 100000 in
set_option maxHeartbeats 1000000 in
theorem law14_example (w : World) : Calls Try.prog 32 #[] w (Ret (kV (nS 23) (nS 11) (nS 4) (nS 3)) w) := by
  have H1 := Lib.hid (fun w => show Calls Try.prog 12 #[.int .u64 23] w (Ret (.string (nS 23)) w) from nat_Of 23 (by decide) w)
  have H2 := Lib.hid (fun w => show Calls Try.prog 12 #[.int .u64 11] w (Ret (.string (nS 11)) w) from nat_Of 11 (by decide) w)
  have H3 := Lib.hid (fun w => show Calls Try.prog 12 #[.int .u64 4] w (Ret (.string (nS 4)) w) from nat_Of 4 (by decide) w)
  have H4 := Lib.hid (fun w => show Calls Try.prog 12 #[.int .u64 3] w (Ret (.string (nS 3)) w) from nat_Of 3 (by decide) w)
  unfold kV
  obtain ⟨a, ha⟩ : ∃ x, nS 23 = x := ⟨_, rfl⟩
  obtain ⟨b, hb⟩ : ∃ x, nS 11 = x := ⟨_, rfl⟩
  obtain ⟨c, hc⟩ : ∃ x, nS 4 = x := ⟨_, rfl⟩
  obtain ⟨d, hd⟩ : ∃ x, nS 3 = x := ⟨_, rfl⟩
  rw [ha] at H1
  rw [hb] at H2
  rw [hc] at H3
  rw [hd] at H4
  rw [ha, hb, hc, hd]
  clear ha hb hc hd
  have HX0 := Lib.hid (Bx4.new w (.string ⟨#[]⟩) (.string ⟨#[]⟩) (.string ⟨#[]⟩) (.string ⟨#[]⟩) 26)
  have HB0 := Lib.hid ((Below.refl w.heap.size w).alloc (Nat.le_refl _) (.cells #[.string ⟨#[]⟩, .string ⟨#[]⟩, .string ⟨#[]⟩, .string ⟨#[]⟩] 26))
  go_enter Try.func32, Try.ntmps32
  go_wp2_with fail
  refine (H1.out _).mono ?_
  rintro ev w1 ⟨rfl, hb⟩
  have HX1 := Lib.hid (HX0.out.next hb)
  have HB1 := Lib.hid (HB0.out.trans (hb.mono HB0.out.size))
  clear hb
  go_wp2_with fail
  refine (H2.out _).mono ?_
  rintro ev w2 ⟨rfl, hb⟩
  have HX2 := Lib.hid (HX1.out.next hb)
  have HB2 := Lib.hid (HB1.out.trans (hb.mono HB1.out.size))
  clear hb
  go_wp2_with fail
  refine (H3.out _).mono ?_
  rintro ev w3 ⟨rfl, hb⟩
  have HX3 := Lib.hid (HX2.out.next hb)
  have HB3 := Lib.hid (HB2.out.trans (hb.mono HB2.out.size))
  clear hb
  go_wp2_with fail
  refine (H4.out _).mono ?_
  rintro ev w4 ⟨rfl, hb⟩
  have hx := HX3.out.next hb
  have HX4 := Lib.hid hx
  have HB4 := Lib.hid (HB3.out.trans (hb.mono HB3.out.size))
  obtain ⟨c0, c1, c2, c3⟩ := hx.cells
  have f0 := hx.free 0
  have f1 := hx.free 1
  have f2 := hx.free 2
  have f3 := hx.free 3
  clear hb hx
  go_wp2
  obtain ⟨q0, q1, q2, q3⟩ := (HX4.out.set4 (a := .string a) (b := .string b) (c := .string c) (d := .string d)).cells
  exact bodyPost_ret (v := .agg #[.string a, .string b, .string c, .string d]) (by simp [results, Try.results32, go_sem, q0, q1, q2, q3]) rfl ⟨rfl, below_set4 HB4.out (Nat.le_refl _) _ _ _ _⟩
set_option maxRecDepth 100000 in
set_option maxHeartbeats 1000000 in
theorem law14_open (m r : Nat) (hm : m < 1000) (hr : r < 1000) (w : World) : Calls Try.prog 14 #[.int .i64 m, .int .i64 r] w (Ret (.agg #[.bool false, .string (nS m), .bool false, .string (nS r)]) w) := by
  have H1 := Lib.hid (int_Of m hm)
  have H2 := Lib.hid (int_Of r hr)
  rw [intV_nat] at H1 H2
  obtain ⟨a, ha⟩ : ∃ x, nS m = x := ⟨_, rfl⟩
  obtain ⟨b, hb⟩ : ∃ x, nS r = x := ⟨_, rfl⟩
  rw [ha] at H1
  rw [hb] at H2
  rw [ha, hb]
  clear ha hb hm hr
  have HX0 := Lib.hid (Bx4.new w (.bool false) (.string ⟨#[]⟩) (.bool false) (.string ⟨#[]⟩) 43)
  have HB0 := Lib.hid ((Below.refl w.heap.size w).alloc (Nat.le_refl _) (.cells #[.bool false, .string ⟨#[]⟩, .bool false, .string ⟨#[]⟩] 43))
  go_enter Try.func14, Try.ntmps14
  go_wp2_with fail
  refine (H1.out _).mono ?_
  rintro ev w1 ⟨rfl, hb⟩
  have HX1 := Lib.hid (HX0.out.next hb)
  have HB1 := Lib.hid (HB0.out.trans (hb.mono HB0.out.size))
  clear hb
  go_wp2_with fail
  refine (H2.out _).mono ?_
  rintro ev w4 ⟨rfl, hb⟩
  have hx := HX1.out.next hb
  have HX4 := Lib.hid hx
  have HB4 := Lib.hid (HB1.out.trans (hb.mono HB1.out.size))
  obtain ⟨c0, c1, c2, c3⟩ := hx.cells
  have f0 := hx.free 0
  have f1 := hx.free 1
  have f2 := hx.free 2
  have f3 := hx.free 3
  clear hb hx
  go_wp2
  obtain ⟨q0, q1, q2, q3⟩ := (HX4.out.set4 (a := .bool false) (b := .string a) (c := .bool false) (d := .string b)).cells
  exact bodyPost_ret (v := .agg #[.bool false, .string a, .bool false, .string b]) (by simp [results, Try.results14, go_sem, q0, q1, q2, q3]) rfl ⟨rfl, below_set4 HB4.out (Nat.le_refl _) _ _ _ _⟩
end Go.Proofs.Ytnnfgphioapmnaa
/- The chapter's examples of layer 14: plain facts. -/
set_option linter.unusedVariables false
namespace Go.Proofs.Ytnnfgphioapmnaa

theorem ex_form : kF (nS 23) (nS 11) (nS 4) (nS 3) = true := by decide +kernel
theorem ex_key : pkC (nS 23) (nS 11) (nS 4) (nS 3) = 0 := by decide +kernel
theorem ex_pr (l : List ByteArray) (zs : List (Bool × ByteArray)) (v : Nat) (h1 : ckR (nS 23) (nS 11) l zs (decide (l.length = zs.length)) = 0) (h2 : prV (num (nS 23)) l zs = v) : prR (nS 23) (nS 11) l zs = .tuple #[.string (nS v), .int .i64 0] := by
  unfold prR
  rw [if_pos h1, h2]
theorem ex_cm (a b v : Nat) (hz : (zvalid false (nS a) && zvalid false (nS b)) = true) (h1 : ckR (nS 23) (nS 11) [nS 4, nS 3] [(false, nS a), (false, nS b)] true = 0) (h2 : prV (num (nS 23)) [nS 4, nS 3] [(false, nS a), (false, nS b)] = v) : cmR (nS 23) (nS 11) (nS 4) (nS 3) false (nS a) false (nS b) = .tuple #[.string (nS v), .int .i64 0] := by
  unfold cmR
  rw [ex_form, hz, if_neg (by decide), if_pos ex_key]
  exact ex_pr _ _ _ h1 h2
theorem ex_cm21 : cmR (nS 23) (nS 11) (nS 4) (nS 3) false (nS 2) false (nS 1) = .tuple #[.string (nS 2), .int .i64 0] := ex_cm 2 1 2 (by decide +kernel) (by decide +kernel) (by decide +kernel)
theorem ex_op60 : opR (nS 23) (nS 11) (nS 4) (nS 3) (nS 2) false (nS 6) false (nS 0) = true := by
  rw [opR_of (ex_cm 6 0 2 (by decide +kernel) (by decide +kernel) (by decide +kernel))]
  decide +kernel
theorem ex_op61 : opR (nS 23) (nS 11) (nS 4) (nS 3) (nS 2) false (nS 6) false (nS 1) = false := by
  rw [opR_of (ex_cm 6 1 6 (by decide +kernel) (by decide +kernel) (by decide +kernel))]
  decide +kernel
theorem ex_sf : sfR (nS 23) (nS 11) (nS 4) (nS 3) (nS 2) false (nS 1) = .tuple #[.string (nS 8), .int .i64 0] := by
  unfold sfR
  rw [ex_form, if_neg (by decide +kernel), if_pos ex_key]
  exact ex_pr _ _ _ (by decide +kernel) (by decide +kernel)
end Go.Proofs.Ytnnfgphioapmnaa
/- What the calls of the chapter's examples return. -/
set_option linter.unusedVariables false
set_option linter.unusedSimpArgs false
namespace Go.Proofs.Ytnnfgphioapmnaa
open Go.RowKit

theorem ex_HO21 (w : World) : Calls Try.prog 14 #[.int .i64 2, .int .i64 1] w (Ret (.agg #[.bool false, .string (nS 2), .bool false, .string (nS 1)]) w) := law14_open 2 1 (by decide) (by decide) w
theorem ex_HO60 (w : World) : Calls Try.prog 14 #[.int .i64 6, .int .i64 0] w (Ret (.agg #[.bool false, .string (nS 6), .bool false, .string (nS 0)]) w) := law14_open 6 0 (by decide) (by decide) w
theorem ex_HO61 (w : World) : Calls Try.prog 14 #[.int .i64 6, .int .i64 1] w (Ret (.agg #[.bool false, .string (nS 6), .bool false, .string (nS 1)]) w) := law14_open 6 1 (by decide) (by decide) w
theorem ex_HO58 (w : World) : Calls Try.prog 14 #[.int .i64 5, .int .i64 8] w (Ret (.agg #[.bool false, .string (nS 5), .bool false, .string (nS 8)]) w) := law14_open 5 8 (by decide) (by decide) w
theorem ex_HN2 (w : World) : Calls Try.prog 12 #[.int .u64 2] w (Ret (.string (nS 2)) w) := nat_Of 2 (by decide) w
theorem ex_HN8 (w : World) : Calls Try.prog 12 #[.int .u64 8] w (Ret (.string (nS 8)) w) := nat_Of 8 (by decide) w
theorem ex_HI1 (w : World) : Calls Try.prog 11 #[.int .i64 1] w (Ret (.agg #[.bool false, .string (nS 1)]) w) := by
  have := int_Of 1 (by decide) w
  rw [intV_nat] at this
  exact this
theorem ex_HI3 (w : World) : Calls Try.prog 11 #[.int .i64 (-3)] w (Ret (.agg #[.bool true, .string (nS 3)]) w) := int_Of_m3 w
theorem ex_HCM (w : World) : Calls Try.prog 16 #[.agg #[.string (nS 23), .string (nS 11), .string (nS 4), .string (nS 3)], .agg #[.bool false, .string (nS 2), .bool false, .string (nS 1)]] w (Ret (.tuple #[.string (nS 2), .int .i64 0]) w) := by
  have := pk_Commit (nS 23) (nS 11) (nS 4) (nS 3) false (nS 2) false (nS 1) (by decide +kernel) (by decide +kernel) (by decide +kernel) (by decide +kernel) (by decide +kernel) (by decide +kernel) w
  rw [ex_cm21] at this
  exact this
theorem ex_HOA (w : World) : Calls Try.prog 13 #[.agg #[.string (nS 23), .string (nS 11), .string (nS 4), .string (nS 3)], .string (nS 2), .agg #[.bool false, .string (nS 6), .bool false, .string (nS 0)]] w (Ret (.bool true) w) := by
  have := pk_Opens (nS 23) (nS 11) (nS 4) (nS 3) (nS 2) false (nS 6) false (nS 0) (by decide +kernel) (by decide +kernel) (by decide +kernel) (by decide +kernel) (by decide +kernel) (by decide +kernel) w
  rw [ex_op60] at this
  exact this
theorem ex_HOB (w : World) : Calls Try.prog 13 #[.agg #[.string (nS 23), .string (nS 11), .string (nS 4), .string (nS 3)], .string (nS 2), .agg #[.bool false, .string (nS 6), .bool false, .string (nS 1)]] w (Ret (.bool false) w) := by
  have := pk_Opens (nS 23) (nS 11) (nS 4) (nS 3) (nS 2) false (nS 6) false (nS 1) (by decide +kernel) (by decide +kernel) (by decide +kernel) (by decide +kernel) (by decide +kernel) (by decide +kernel) w
  rw [ex_op61] at this
  exact this
theorem ex_res : arV (redZ 11 (2 * -3)) (redZ 11 (1 * -3)) = .agg #[.bool false, .string (nS 5), .bool false, .string (nS 8)] := by
  rw [show redZ 11 (2 * -3) = ((5 : Nat) : Int) from by decide +kernel, show redZ 11 (1 * -3) = ((8 : Nat) : Int) from by decide +kernel]
  rfl
theorem ex_HTM (w : World) : Calls Try.prog 26 #[.agg #[.string (nS 23), .string (nS 11), .string (nS 4), .string (nS 3)], .agg #[.bool false, .string (nS 2), .bool false, .string (nS 1)], .agg #[.bool true, .string (nS 3)]] w (Ret (.tuple #[.agg #[.bool false, .string (nS 5), .bool false, .string (nS 8)], .int .i64 0]) w) := by
  have p128 : ∀ n : Nat, n < 1000 → n < 256 ^ 128 := fun n h => lt128_of_lt8 (by omega)
  have h := pk_Times_ok (nS 23) (nS 4) (nS 3) 11 2 1 (-3) (by decide +kernel) (by omega) (by decide +kernel) (by decide +kernel) (p128 _ (by decide)) (p128 _ (by decide)) (p128 _ (by decide)) ex_key (p128 _ (by decide)) (p128 _ (by decide))
    (fun w => int_MulG 2 (-3) (p128 _ (by decide)) (p128 _ (by decide)) (fun w => by rw [fitR_small (p128 _ (by decide))]; exact nat_Mul_small (2 : Int).natAbs (-3 : Int).natAbs (by decide) (by decide) (by decide) w) w)
    (fun w => int_MulG 1 (-3) (p128 _ (by decide)) (p128 _ (by decide)) (fun w => by rw [fitR_small (p128 _ (by decide))]; exact nat_Mul_small (1 : Int).natAbs (-3 : Int).natAbs (by decide) (by decide) (by decide) w) w)
    (fun _ w => int_ModG (2 * -3) 11 (p128 _ (by decide)) (p128 _ (by decide)) (by decide) (fun w => nat_DivMod (2 * -3 : Int).natAbs 11 (by decide) (p128 _ (by decide)) (by decide) w) w)
    (fun _ w => int_ModG (1 * -3) 11 (p128 _ (by decide)) (p128 _ (by decide)) (by decide) (fun w => nat_DivMod (1 * -3 : Int).natAbs 11 (by decide) (p128 _ (by decide)) (by decide) w) w) w
  rw [ex_res] at h
  exact h
theorem ex_HSH (w : World) : Calls Try.prog 27 #[.agg #[.string (nS 23), .string (nS 11), .string (nS 4), .string (nS 3)], .string (nS 2), .agg #[.bool false, .string (nS 1)]] w (Ret (.tuple #[.string (nS 8), .int .i64 0]) w) := by
  have := pk_Shift (nS 23) (nS 11) (nS 4) (nS 3) (nS 2) false (nS 1) (by decide +kernel) (by decide +kernel) (by decide +kernel) (by decide +kernel) (by decide +kernel) (by decide +kernel) w
  rw [ex_sf] at this
  exact this
end Go.Proofs.Ytnnfgphioapmnaa

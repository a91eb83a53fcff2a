import Derived.Test.YtndmjfkmnjejkaaGreatDoorQPeDB
set_option linter.unusedVariables false
set_option linter.unusedSimpArgs false
namespace Go.Proofs.YtndmjfkmnjejkaaGreatDoor
set_option maxRecDepth 100000
set_option maxHeartbeats 1000000
open Go.RowKit
def few14 (M O G H : ByteArray) : Bool := decide (M.size ≤ 8) && (decide (O.size ≤ 8) && (decide (G.size ≤ 9) && decide (H.size ≤ 9)))
theorem law14_Few (M O G H : ByteArray) (w : World) : Calls Tryz.prog 11 #[kV M O G H] w (Ret (.bool (few14 M O G H)) w) := by
 have HB0 := Hq ((Below.refl w.heap.size w).alloc (Nat.le_refl _) (.cells #[.string M, .string O, .string G, .string H] 26))
 unfold kV few14
 by_cases h1 : M.size ≤ 8
 · have i1 : decide ((M.size : Int) ≤ 8) = true := decide_eq_true (by omega)
   rw [decide_eq_true h1, Bool.true_and]
   by_cases h2 : O.size ≤ 8
   · have i2 : decide ((O.size : Int) ≤ 8) = true := decide_eq_true (by omega)
     rw [decide_eq_true h2, Bool.true_and]
     by_cases h3 : G.size ≤ 9
     · have i3 : decide ((G.size : Int) ≤ 9) = true := decide_eq_true (by omega)
       rw [decide_eq_true h3, Bool.true_and]
       by_cases h4 : H.size ≤ 9
       · have i4 : decide ((H.size : Int) ≤ 9) = true := decide_eq_true (by omega)
         rw [decide_eq_true h4]
         clear h1 h2 h3 h4
         go_enter Tryz.func11, Tryz.ntmps11
         go_wp2
         go_ret
         exact ⟨rfl, HB0.out⟩
       · have i4 : decide ((H.size : Int) ≤ 9) = false := decide_eq_false (by omega)
         rw [decide_eq_false h4]
         clear h1 h2 h3 h4
         go_enter Tryz.func11, Tryz.ntmps11
         go_wp2
         go_ret
         exact ⟨rfl, HB0.out⟩
     · have i3 : decide ((G.size : Int) ≤ 9) = false := decide_eq_false (by omega)
       rw [decide_eq_false h3, Bool.false_and]
       clear h1 h2 h3
       go_enter Tryz.func11, Tryz.ntmps11
       go_wp2
       go_ret
       exact ⟨rfl, HB0.out⟩
   · have i2 : decide ((O.size : Int) ≤ 8) = false := decide_eq_false (by omega)
     rw [decide_eq_false h2, Bool.false_and]
     clear h1 h2
     go_enter Tryz.func11, Tryz.ntmps11
     go_wp2
     go_ret
     exact ⟨rfl, HB0.out⟩
 · have i1 : decide ((M.size : Int) ≤ 8) = false := decide_eq_false (by omega)
   rw [decide_eq_false h1, Bool.false_and]
   clear h1
   go_enter Tryz.func11, Tryz.ntmps11
   go_wp2
   go_ret
   exact ⟨rfl, HB0.out⟩
def shortZ (zs : List (Bool × ByteArray)) : Bool := zs.all (fun z => decide (z.2.size ≤ 16))
theorem law14_short (zs : List (Bool × ByteArray)) (A : Option Addr) (n c : Nat) (hn : n ≤ 100) (w : World) (hz : SlZ w A n c zs) : Calls Tryz.prog 12 #[.slice A n c] w (Ret (.bool (shortZ zs)) w) := by
 have HZ := Hq hz
 have HL := Hq hz.1
 obtain ⟨R, hR⟩ : ∃ R, shortZ zs = R := ⟨_, rfl⟩
 rw [hR]
 have HRR := Hq hR
 clear hz hR
 go_enter Tryz.func12, Tryz.ntmps12
 go_wp2
 go_loopw [3] (fun i wr => ∃ k : Nat, k ≤ n ∧ i = .int .i64 k ∧ (zs.take k).all (fun z => decide (z.2.size ≤ 16)) = true ∧ wr = w) (fun i _ => n - (intOf i).toNat)
 case atStart => exact ⟨0, Nat.zero_le _, rfl, by simp, rfl⟩
 case round =>
  obtain ⟨k, hk, rfl, hall, hwr⟩ := hrel
  have hwr := hwr.symm
  subst hwr
  have HALL := Hq hall
  clear hall
  by_cases hlt : k < n
  · obtain ⟨z, he⟩ : ∃ z, zs[k]? = some z := ⟨_, List.getElem?_eq_getElem (by rw [HL.out]; exact hlt)⟩
    obtain ⟨b, o, rfl⟩ := HZ.out.head (by omega)
    obtain ⟨c0, c1⟩ := HZ.out.get? k he
    obtain ⟨zb, zt⟩ := z
    dsimp only at c0 c1
    have HE := Hq he
    clear he
    by_cases hs : zt.size ≤ 16
    · have i1 : decide ((16 : Int) < (zt.size : Int)) = false := decide_eq_false (by omega)
      have HS := Hq (decide_eq_true hs)
      clear hs
      go_wp2
      go_roundw
      case rel => exact ⟨k + 1, by omega, by go_num, all_take HALL.out HE.out HS.out, (by first | rfl | trivial)⟩
      case measure => simp [intOf]; omega
    · have i1 : decide ((16 : Int) < (zt.size : Int)) = true := decide_eq_true (by omega)
      have HS := Hq (decide_eq_false hs)
      clear hs
      go_wp2
      go_ret
      exact ⟨by rw [← HRR.out]; unfold shortZ; rw [all_false (p := fun z : Bool × ByteArray => decide (z.2.size ≤ 16)) HE.out HS.out]; rfl, Below.refl _ _⟩
  · obtain rfl : k = n := by omega
    have HV := Hq (all_len HALL.out HL.out)
    go_wp2
    go_ret
    exact ⟨by rw [← HRR.out]; unfold shortZ; rw [HV.out]; rfl, Below.refl _ _⟩
theorem law14_example (w : World) : Calls Tryz.prog 37 #[] w (Ret (kV (nS 23) (nS 11) (nS 4) (nS 3)) w) := by
 have H1 := Hq (fun w => show Calls Tryz.prog 43 #[.int .u64 23] w (Ret (.string (nS 23)) w) from nat_Of 23 (by decide) w)
 have H2 := Hq (fun w => show Calls Tryz.prog 43 #[.int .u64 11] w (Ret (.string (nS 11)) w) from nat_Of 11 (by decide) w)
 have H3 := Hq (fun w => show Calls Tryz.prog 43 #[.int .u64 4] w (Ret (.string (nS 4)) w) from nat_Of 4 (by decide) w)
 have H4 := Hq (fun w => show Calls Tryz.prog 43 #[.int .u64 3] w (Ret (.string (nS 3)) w) from nat_Of 3 (by decide) w)
 unfold kV
 obtain ⟨a, ha⟩ : ∃ x, nS 23 = x := ⟨_, rfl⟩
 obtain ⟨b, hb⟩ : ∃ x, nS 11 = x := ⟨_, rfl⟩
 obtain ⟨c, hc⟩ : ∃ x, nS 4 = x := ⟨_, rfl⟩
 obtain ⟨d, hd⟩ : ∃ x, nS 3 = x := ⟨_, rfl⟩
 rw [ha] at H1
 rw [hb] at H2
 rw [hc] at H3
 rw [hd] at H4
 rw [ha, hb, hc, hd]
 clear ha hb hc hd
 have HX0 := Hq (Bx4.new w (.string ⟨#[]⟩) (.string ⟨#[]⟩) (.string ⟨#[]⟩) (.string ⟨#[]⟩) 26)
 have HB0 := Hq ((Below.refl w.heap.size w).alloc (Nat.le_refl _) (.cells #[.string ⟨#[]⟩, .string ⟨#[]⟩, .string ⟨#[]⟩, .string ⟨#[]⟩] 26))
 go_enter Tryz.func37, Tryz.ntmps37
 go_wp2_with fail
 refine (H1.out _).mono ?_
 rintro ev w1 ⟨rfl, hb⟩
 have HX1 := Hq (HX0.out.next hb)
 have HB1 := Hq (HB0.out.trans (hb.mono HB0.out.size))
 clear hb
 go_wp2_with fail
 refine (H2.out _).mono ?_
 rintro ev w2 ⟨rfl, hb⟩
 have HX2 := Hq (HX1.out.next hb)
 have HB2 := Hq (HB1.out.trans (hb.mono HB1.out.size))
 clear hb
 go_wp2_with fail
 refine (H3.out _).mono ?_
 rintro ev w3 ⟨rfl, hb⟩
 have HX3 := Hq (HX2.out.next hb)
 have HB3 := Hq (HB2.out.trans (hb.mono HB2.out.size))
 clear hb
 go_wp2_with fail
 refine (H4.out _).mono ?_
 rintro ev w4 ⟨rfl, hb⟩
 have hx := HX3.out.next hb
 have HX4 := Hq hx
 have HB4 := Hq (HB3.out.trans (hb.mono HB3.out.size))
 obtain ⟨c0, c1, c2, c3⟩ := hx.cells
 have f0 := hx.free 0
 have f1 := hx.free 1
 have f2 := hx.free 2
 have f3 := hx.free 3
 clear hb hx
 go_wp2
 obtain ⟨q0, q1, q2, q3⟩ := (HX4.out.set4 (a := .string a) (b := .string b) (c := .string c) (d := .string d)).cells
 exact bodyPost_ret (v := .agg #[.string a, .string b, .string c, .string d]) (by simp [results, Tryz.results37, go_sem, q0, q1, q2, q3]) rfl ⟨rfl, below_set4 HB4.out (Nat.le_refl _) _ _ _ _⟩
theorem law14_open (m r : Nat) (hm : m < 1000) (hr : r < 1000) (w : World) : Calls Tryz.prog 39 #[.int .i64 m, .int .i64 r] w (Ret (.agg #[.bool false, .string (nS m), .bool false, .string (nS r)]) w) := by
 have H1 := Hq (int_Of m hm)
 have H2 := Hq (int_Of r hr)
 rw [intV_nat] at H1 H2
 obtain ⟨a, ha⟩ : ∃ x, nS m = x := ⟨_, rfl⟩
 obtain ⟨b, hb⟩ : ∃ x, nS r = x := ⟨_, rfl⟩
 rw [ha] at H1
 rw [hb] at H2
 rw [ha, hb]
 clear ha hb hm hr
 have HX0 := Hq (Bx4.new w (.bool false) (.string ⟨#[]⟩) (.bool false) (.string ⟨#[]⟩) 37)
 have HB0 := Hq ((Below.refl w.heap.size w).alloc (Nat.le_refl _) (.cells #[.bool false, .string ⟨#[]⟩, .bool false, .string ⟨#[]⟩] 37))
 go_enter Tryz.func39, Tryz.ntmps39
 go_wp2_with fail
 refine (H1.out _).mono ?_
 rintro ev w1 ⟨rfl, hb⟩
 have HX1 := Hq (HX0.out.next hb)
 have HB1 := Hq (HB0.out.trans (hb.mono HB0.out.size))
 clear hb
 go_wp2_with fail
 refine (H2.out _).mono ?_
 rintro ev w4 ⟨rfl, hb⟩
 have hx := HX1.out.next hb
 have HX4 := Hq hx
 have HB4 := Hq (HB1.out.trans (hb.mono HB1.out.size))
 obtain ⟨c0, c1, c2, c3⟩ := hx.cells
 have f0 := hx.free 0
 have f1 := hx.free 1
 have f2 := hx.free 2
 have f3 := hx.free 3
 clear hb hx
 go_wp2
 obtain ⟨q0, q1, q2, q3⟩ := (HX4.out.set4 (a := .bool false) (b := .string a) (c := .bool false) (d := .string b)).cells
 exact bodyPost_ret (v := .agg #[.bool false, .string a, .bool false, .string b]) (by simp [results, Tryz.results39, go_sem, q0, q1, q2, q3]) rfl ⟨rfl, below_set4 HB4.out (Nat.le_refl _) _ _ _ _⟩
end Go.Proofs.YtndmjfkmnjejkaaGreatDoor
namespace Go.Proofs.YtndmjfkmnjejkaaGreatDoor
theorem ex_form : kF (nS 23) (nS 11) (nS 4) (nS 3) = true := by decide +kernel
theorem ex_key : pkC (nS 23) (nS 11) (nS 4) (nS 3) = 0 := by decide +kernel
theorem ex_pr (l : List ByteArray) (zs : List (Bool × ByteArray)) (v : Nat) (h1 : ckR (nS 23) (nS 11) l zs (decide (l.length = zs.length)) = 0) (h2 : prV (num (nS 23)) l zs = v) : prR (nS 23) (nS 11) l zs = .tuple #[.string (nS v), .int .i64 0] := by
 unfold prR
 rw [if_pos h1, h2]
theorem ex_cm (a b v : Nat) (hz : (zvalid false (nS a) && zvalid false (nS b)) = true) (h1 : ckR (nS 23) (nS 11) [nS 4, nS 3] [(false, nS a), (false, nS b)] true = 0) (h2 : prV (num (nS 23)) [nS 4, nS 3] [(false, nS a), (false, nS b)] = v) : cmR (nS 23) (nS 11) (nS 4) (nS 3) false (nS a) false (nS b) = .tuple #[.string (nS v), .int .i64 0] := by
 unfold cmR
 rw [ex_form, hz, if_neg (by decide), if_pos ex_key]
 exact ex_pr _ _ _ h1 h2
theorem ex_cm21 : cmR (nS 23) (nS 11) (nS 4) (nS 3) false (nS 2) false (nS 1) = .tuple #[.string (nS 2), .int .i64 0] := ex_cm 2 1 2 (by decide +kernel) (by decide +kernel) (by decide +kernel)
theorem ex_op60 : opR (nS 23) (nS 11) (nS 4) (nS 3) (nS 2) false (nS 6) false (nS 0) = true := by
 rw [opR_of (ex_cm 6 0 2 (by decide +kernel) (by decide +kernel) (by decide +kernel))]
 decide +kernel
theorem ex_op61 : opR (nS 23) (nS 11) (nS 4) (nS 3) (nS 2) false (nS 6) false (nS 1) = false := by
 rw [opR_of (ex_cm 6 1 6 (by decide +kernel) (by decide +kernel) (by decide +kernel))]
 decide +kernel
theorem ex_sf : sfR (nS 23) (nS 11) (nS 4) (nS 3) (nS 2) false (nS 1) = .tuple #[.string (nS 8), .int .i64 0] := by
 unfold sfR
 rw [ex_form, if_neg (by decide +kernel), if_pos ex_key]
 exact ex_pr _ _ _ (by decide +kernel) (by decide +kernel)
end Go.Proofs.YtndmjfkmnjejkaaGreatDoor
namespace Go.Proofs.YtndmjfkmnjejkaaGreatDoor
open Go.RowKit
theorem ex_HO21 (w : World) : Calls Tryz.prog 39 #[.int .i64 2, .int .i64 1] w (Ret (.agg #[.bool false, .string (nS 2), .bool false, .string (nS 1)]) w) := law14_open 2 1 (by decide) (by decide) w
theorem ex_HO60 (w : World) : Calls Tryz.prog 39 #[.int .i64 6, .int .i64 0] w (Ret (.agg #[.bool false, .string (nS 6), .bool false, .string (nS 0)]) w) := law14_open 6 0 (by decide) (by decide) w
theorem ex_HO61 (w : World) : Calls Tryz.prog 39 #[.int .i64 6, .int .i64 1] w (Ret (.agg #[.bool false, .string (nS 6), .bool false, .string (nS 1)]) w) := law14_open 6 1 (by decide) (by decide) w
theorem ex_HO58 (w : World) : Calls Tryz.prog 39 #[.int .i64 5, .int .i64 8] w (Ret (.agg #[.bool false, .string (nS 5), .bool false, .string (nS 8)]) w) := law14_open 5 8 (by decide) (by decide) w
theorem ex_HN2 (w : World) : Calls Tryz.prog 43 #[.int .u64 2] w (Ret (.string (nS 2)) w) := nat_Of 2 (by decide) w
theorem ex_HN8 (w : World) : Calls Tryz.prog 43 #[.int .u64 8] w (Ret (.string (nS 8)) w) := nat_Of 8 (by decide) w
theorem ex_HI1 (w : World) : Calls Tryz.prog 41 #[.int .i64 1] w (Ret (.agg #[.bool false, .string (nS 1)]) w) := by
 have := int_Of 1 (by decide) w
 rw [intV_nat] at this
 exact this
theorem ex_HI3 (w : World) : Calls Tryz.prog 41 #[.int .i64 (-3)] w (Ret (.agg #[.bool true, .string (nS 3)]) w) := int_Of_m3 w
theorem ex_HCM (w : World) : Calls Tryz.prog 38 #[.agg #[.string (nS 23), .string (nS 11), .string (nS 4), .string (nS 3)], .agg #[.bool false, .string (nS 2), .bool false, .string (nS 1)]] w (Ret (.tuple #[.string (nS 2), .int .i64 0]) w) := by
 have := pk_Commit (nS 23) (nS 11) (nS 4) (nS 3) false (nS 2) false (nS 1) (by decide +kernel) (by decide +kernel) (by decide +kernel) (by decide +kernel) (by decide +kernel) (by decide +kernel) w
 rw [ex_cm21] at this
 exact this
theorem ex_HOA (w : World) : Calls Tryz.prog 44 #[.agg #[.string (nS 23), .string (nS 11), .string (nS 4), .string (nS 3)], .string (nS 2), .agg #[.bool false, .string (nS 6), .bool false, .string (nS 0)]] w (Ret (.bool true) w) := by
 have := pk_Opens (nS 23) (nS 11) (nS 4) (nS 3) (nS 2) false (nS 6) false (nS 0) (by decide +kernel) (by decide +kernel) (by decide +kernel) (by decide +kernel) (by decide +kernel) (by decide +kernel) w
 rw [ex_op60] at this
 exact this
theorem ex_HOB (w : World) : Calls Tryz.prog 44 #[.agg #[.string (nS 23), .string (nS 11), .string (nS 4), .string (nS 3)], .string (nS 2), .agg #[.bool false, .string (nS 6), .bool false, .string (nS 1)]] w (Ret (.bool false) w) := by
 have := pk_Opens (nS 23) (nS 11) (nS 4) (nS 3) (nS 2) false (nS 6) false (nS 1) (by decide +kernel) (by decide +kernel) (by decide +kernel) (by decide +kernel) (by decide +kernel) (by decide +kernel) w
 rw [ex_op61] at this
 exact this
theorem ex_res : arV (redZ 11 (2 * -3)) (redZ 11 (1 * -3)) = .agg #[.bool false, .string (nS 5), .bool false, .string (nS 8)] := by
 rw [show redZ 11 (2 * -3) = ((5 : Nat) : Int) from by decide +kernel, show redZ 11 (1 * -3) = ((8 : Nat) : Int) from by decide +kernel]
 rfl
theorem ex_HTM (w : World) : Calls Tryz.prog 40 #[.agg #[.string (nS 23), .string (nS 11), .string (nS 4), .string (nS 3)], .agg #[.bool false, .string (nS 2), .bool false, .string (nS 1)], .agg #[.bool true, .string (nS 3)]] w (Ret (.tuple #[.agg #[.bool false, .string (nS 5), .bool false, .string (nS 8)], .int .i64 0]) w) := by
 have p128 : ∀ n : Nat, n < 1000 → n < 256 ^ 128 := fun n h => lt128_of_lt8 (by omega)
 have h := pk_Times_ok (nS 23) (nS 4) (nS 3) 11 2 1 (-3) (by decide +kernel) (by omega) (by decide +kernel) (by decide +kernel) (p128 _ (by decide)) (p128 _ (by decide)) (p128 _ (by decide)) ex_key (p128 _ (by decide)) (p128 _ (by decide))
  (fun w => int_MulG 2 (-3) (p128 _ (by decide)) (p128 _ (by decide)) (fun w => by rw [fitR_small (p128 _ (by decide))]; exact nat_Mul_small (2 : Int).natAbs (-3 : Int).natAbs (by decide) (by decide) (by decide) w) w)
  (fun w => int_MulG 1 (-3) (p128 _ (by decide)) (p128 _ (by decide)) (fun w => by rw [fitR_small (p128 _ (by decide))]; exact nat_Mul_small (1 : Int).natAbs (-3 : Int).natAbs (by decide) (by decide) (by decide) w) w)
  (fun _ w => int_ModG (2 * -3) 11 (p128 _ (by decide)) (p128 _ (by decide)) (by decide) (fun w => nat_DivMod (2 * -3 : Int).natAbs 11 (by decide) (p128 _ (by decide)) (by decide) w) w)
  (fun _ w => int_ModG (1 * -3) 11 (p128 _ (by decide)) (p128 _ (by decide)) (by decide) (fun w => nat_DivMod (1 * -3 : Int).natAbs 11 (by decide) (p128 _ (by decide)) (by decide) w) w) w
 rw [ex_res] at h
 exact h
theorem ex_HSH (w : World) : Calls Tryz.prog 42 #[.agg #[.string (nS 23), .string (nS 11), .string (nS 4), .string (nS 3)], .string (nS 2), .agg #[.bool false, .string (nS 1)]] w (Ret (.tuple #[.string (nS 8), .int .i64 0]) w) := by
 have := pk_Shift (nS 23) (nS 11) (nS 4) (nS 3) (nS 2) false (nS 1) (by decide +kernel) (by decide +kernel) (by decide +kernel) (by decide +kernel) (by decide +kernel) (by decide +kernel) w
 rw [ex_sf] at this
 exact this
end Go.Proofs.YtndmjfkmnjejkaaGreatDoor
namespace Go.Proofs.YtndmjfkmnjejkaaGreatDoor
set_option maxRecDepth 100000
set_option maxHeartbeats 16000000
open Go.RowKit
theorem law14_awake (w : World) : Calls Tryz.prog 14 #[] w (Ret (.bool true) w) := by
 have HEX := Hq law14_example
 have HO21 := Hq ex_HO21
 have HO60 := Hq ex_HO60
 have HO61 := Hq ex_HO61
 have HO58 := Hq ex_HO58
 have HN2 := Hq ex_HN2
 have HN8 := Hq ex_HN8
 have HI1 := Hq ex_HI1
 have HI3 := Hq ex_HI3
 have HCM := Hq ex_HCM
 have HOA := Hq ex_HOA
 have HOB := Hq ex_HOB
 have HTM := Hq ex_HTM
 have HSH := Hq ex_HSH
 unfold kV at HEX
 obtain ⟨M, hM⟩ : ∃ x, nS 23 = x := ⟨_, rfl⟩
 obtain ⟨O, hO⟩ : ∃ x, nS 11 = x := ⟨_, rfl⟩
 obtain ⟨n0, h0⟩ : ∃ x, nS 0 = x := ⟨_, rfl⟩
 obtain ⟨n1, h1⟩ : ∃ x, nS 1 = x := ⟨_, rfl⟩
 obtain ⟨n2, h2⟩ : ∃ x, nS 2 = x := ⟨_, rfl⟩
 obtain ⟨n3, h3⟩ : ∃ x, nS 3 = x := ⟨_, rfl⟩
 obtain ⟨n4, h4⟩ : ∃ x, nS 4 = x := ⟨_, rfl⟩
 obtain ⟨n5, h5⟩ : ∃ x, nS 5 = x := ⟨_, rfl⟩
 obtain ⟨n6, h6⟩ : ∃ x, nS 6 = x := ⟨_, rfl⟩
 obtain ⟨n8, h8⟩ : ∃ x, nS 8 = x := ⟨_, rfl⟩
 simp only [hM, hO, h0, h1, h2, h3, h4, h5, h6, h8] at HEX HO21 HO60 HO61 HO58 HN2 HN8 HI1 HI3 HCM HOA HOB HTM HSH
 clear hM hO h0 h1 h2 h3 h4 h5 h6 h8
 go_enter Tryz.func14, Tryz.ntmps14
 go_wp2_with fail
 refine (HEX.out _).mono ?_
 rintro ev w1 ⟨rfl, hb⟩
 have HB1 := Hq hb
 clear hb
 go_wp2
 have hn := Bx4.new w1 (.string M) (.string O) (.string n4) (.string n3) 26
 have hb : Below w1.heap.size w1 (w1.alloc (.cells #[.string M, .string O, .string n4, .string n3] 26)) := (Below.refl _ _).alloc (Nat.le_refl _) _
 obtain ⟨W1, hW1⟩ : ∃ W, w1.alloc (.cells #[.string M, .string O, .string n4, .string n3] 26) = W := ⟨_, rfl⟩
 obtain ⟨K, hK⟩ : ∃ B, w1.heap.size = B := ⟨_, rfl⟩
 rw [hW1, hK] at hn
 rw [hW1] at hb
 have HK1 := Hq hn
 have HBA := Hq (HB1.out.trans (hb.mono HB1.out.size))
 try rw [hW1]
 try rw [hK]
 clear hn hb hW1 hK HB1
 obtain ⟨g0, g1, g2, g3⟩ := (show Bx4 W1.drew K (.string M) (.string O) (.string n4) (.string n3) 26 from HK1.out).cells
 rename_i KK2 hKK2
 refine wp_onlyN ?_
 refine wp_region_K 8 (Below (W1.drew).heap.size (W1.drew)) (by kernel_rfl) ?_
 intro hD
 refine rT 0 10 7 rfl hD (Below.refl _ _) (by intro w' hS'; have e0 := kC hS' g0; have e1 := kC hS' g1; have e2 := kC hS' g2; have e3 := kC hS' g3; go_simp; with_reducible rfl) ?_; clear hD; intro hD; simp only [Act.put, sqA, sqB, sqC]
 refine rO 1 6 rfl hD ?_; clear hD; intro K1 hK1
 go_wp2_with fail
 refine (HO21.out _).mono ?_
 rintro ev v1 ⟨rfl, hb⟩
 have HB1 := Hq hb
 clear hb
 go_wp2
 refine hK1 _ _ (by exact HB1.out) ?_; clear hK1; intro hS_2_1 hD
 refine rO 2 5 rfl hD ?_; clear hD; intro K2 hK2
 go_wp2_with fail
 refine (HCM.out _).mono ?_
 rintro ev v2 ⟨rfl, hb⟩
 have HB2 := Hq hb
 clear hb
 go_wp2
 refine hK2 _ _ (by exact Below.trans hS_2_1 (Below.mono HB2.out (Below.size hS_2_1))) ?_; clear hK2; intro hS_2_2 hD
 refine rP 3 9 4 rfl hD hS_2_2 ?_; clear hD; intro hD; simp only [Act.put, sqA, sqB, sqC]
 refine rP 4 13 3 rfl hD hS_2_2 ?_; clear hD; intro hD; simp only [Act.put, sqA, sqB, sqC]
 refine rP 5 14 2 rfl hD hS_2_2 ?_; clear hD; intro hD; simp only [Act.put, sqA, sqB, sqC]
 refine rO 6 1 rfl hD ?_; clear hD; intro K6 hK6
 go_wp2
 refine hK6 _ _ (by exact hS_2_2) ?_; clear hK6; intro hS_2_6 hD
 refine rO 7 0 rfl hD ?_; clear hD; intro K7 hK7
 go_wp2
 refine hK7 _ _ (by exact hS_2_6) ?_; clear hK7; intro hS_2_7 hD
 refine wpAnyK_done (by kernel_rfl) ?_ 0
 clear hD g0 g1 g2 g3
 have hb := (Below.refl W1.heap.size W1).drew.trans hS_2_7
 have HK2 := Hq (HK1.out.next hb)
 have HB2x := Hq (HBA.out.trans (hb.mono HBA.out.size))
 clear hb
 refine hKK2 _ _ ?_
 go_wp2
 obtain ⟨g0, g1, g2, g3⟩ := (show Bx4 v2.drew K (.string M) (.string O) (.string n4) (.string n3) 26 from HK2.out).cells
 rename_i KK3 hKK3
 refine wp_onlyN ?_
 refine wp_region_K 10 (Below (v2.drew).heap.size (v2.drew)) (by kernel_rfl) ?_
 intro hD
 refine rT 0 16 9 rfl hD (Below.refl _ _) (by intro w' hS'; have e0 := kC hS' g0; have e1 := kC hS' g1; have e2 := kC hS' g2; have e3 := kC hS' g3; go_simp; with_reducible rfl) ?_; clear hD; intro hD; simp only [Act.put, sqA, sqB, sqC]
 refine (show GhostK _ _ _ _ _ _ 7 4 8 _ _ (GIz (v2.drew) (#[.bool false, .string ⟨#[]⟩, .bool false, .string ⟨#[]⟩]) (37)) from ?_).2 _ (GIz.start (Below.refl _ _))
 refine ghost_step (i := 7) (j := 1) (d := 4) (dj := 17) (fuel := 7) (fun (y : Unit) => .agg #[.bool false, .string n2, .bool false, .string n1]) (fun y => GIz (v2.drew) (#[.bool false, .string ⟨#[]⟩, .bool false, .string ⟨#[]⟩]) (37)) (by kernel_rfl) (by kernel_rfl) rfl rfl hD (by kernel_rfl) (by decide) (fun _ _ _ _ h => h.1) (fun _ _ _ h => h.1) (alloc_zK rfl rfl (fun _ _ => by kernel_rfl)) ?hs3_1b2 ?hn3_1b2
 case hs3_1b2 =>
  intro gb gx gw hI K hK
  try simp only [Act.put, sqA, sqB, sqC] at hK ⊢
  have HK := Hq hK
  have HGI := Hq hI
  clear hK hI hD
  go_wp2_with fail
  refine (HO21.out _).mono ?_
  rintro ev wq ⟨rfl, hb⟩
  have HG2 := Hq (HGI.out.step hb)
  clear hb
  go_wp2
  exact HK.out () _ HG2.out
 intro _ hD
 simp only [Act.put, sqA, sqB, sqC]
 refine ghost_step (i := 7) (j := 2) (d := 4) (dj := 18) (fuel := 6) (fun (y : Unit) => .agg #[.bool true, .string n3]) (fun y => GIz (v2.drew) (#[.bool false, .string ⟨#[]⟩, .bool false, .string ⟨#[]⟩]) (37)) (by kernel_rfl) (by kernel_rfl) rfl rfl hD (by kernel_rfl) (by decide) (fun _ _ _ _ h => h.1) (fun _ _ _ h => h.1) (alloc_zK rfl rfl (fun _ _ => by kernel_rfl)) ?hs3_2b2 ?hn3_2b2
 case hs3_2b2 =>
  intro gb gx gw hI K hK
  try simp only [Act.put, sqA, sqB, sqC] at hK ⊢
  have HK := Hq hK
  have HGI := Hq hI
  clear hK hI hD
  go_wp2_with fail
  refine (HI3.out _).mono ?_
  rintro ev wq ⟨rfl, hb⟩
  have HG2 := Hq (HGI.out.step hb)
  clear hb
  go_wp2
  exact HK.out () _ HG2.out
 intro _ hD
 simp only [Act.put, sqA, sqB, sqC]
 refine ghost_step (i := 7) (j := 3) (d := 4) (dj := 19) (fuel := 5) (fun (y : Unit) => .tuple #[.agg #[.bool false, .string n5, .bool false, .string n8], .int .i64 0]) (fun y => GIz (v2.drew) (#[.bool false, .string ⟨#[]⟩, .bool false, .string ⟨#[]⟩]) (37)) (by kernel_rfl) (by kernel_rfl) rfl rfl hD (by kernel_rfl) (by decide) (fun _ _ _ _ h => h.1) (fun _ _ _ h => h.1) (alloc_zK rfl rfl (fun _ _ => by kernel_rfl)) ?hs3_3b2 ?hn3_3b2
 case hs3_3b2 =>
  intro gb gx gw hI K hK
  try simp only [Act.put, sqA, sqB, sqC] at hK ⊢
  have HK := Hq hK
  have HGI := Hq hI
  clear hK hI hD
  go_wp2_with fail
  refine (HTM.out _).mono ?_
  rintro ev wq ⟨rfl, hb⟩
  have HG2 := Hq (HGI.out.step hb)
  clear hb
  go_wp2
  exact HK.out () _ HG2.out
 intro _ hD
 simp only [Act.put, sqA, sqB, sqC]
 refine ghost_pure (i := 7) (j := 4) (d := 4) (dj := 15) (v := ?v3_4b2) (fuel := 4) rfl (by kernel_rfl) (by kernel_rfl) (by kernel_rfl) (by kernel_rfl) (fun _ _ _ h => h) hD (by kernel_rfl) (by decide) (by decide) (fun _ _ _ h => h.1) (fun x => .inl ⟨by kernel_rfl, ?y3_4b2⟩) ?n3_4b2
 case y3_4b2 => intro w' _; go_simp; with_reducible rfl
 clear hD; intro hD
 simp only [Act.put, sqA, sqB, sqC]
 refine ghost_pure (i := 7) (j := 5) (d := 4) (dj := 20) (v := ?v3_5b2) (fuel := 3) rfl (by kernel_rfl) (by kernel_rfl) (by kernel_rfl) (by kernel_rfl) (fun _ _ _ h => h) hD (by kernel_rfl) (by decide) (by decide) (fun _ _ _ h => h.1) (fun x => .inl ⟨by kernel_rfl, ?y3_5b2⟩) ?n3_5b2
 case y3_5b2 => intro w' _; go_simp; with_reducible rfl
 clear hD; intro hD
 simp only [Act.put, sqA, sqB, sqC]
 refine ghost_pure (i := 7) (j := 6) (d := 4) (dj := 21) (v := ?v3_6b2) (fuel := 2) rfl (by kernel_rfl) (by kernel_rfl) (by kernel_rfl) (by kernel_rfl) (fun _ _ _ h => h) hD (by kernel_rfl) (by decide) (by decide) (fun _ _ _ h => h.1) (fun x => .inl ⟨by kernel_rfl, ?y3_6b2⟩) ?n3_6b2
 case y3_6b2 => intro w' _; go_simp; with_reducible rfl
 clear hD; intro hD
 simp only [Act.put, sqA, sqB, sqC]
 refine ghost_end (by kernel_rfl) rfl hD (fun _ _ _ h => h.1) (alloc_zK rfl rfl (fun _ _ => by kernel_rfl)) ?_
 intro gx gw hI hD
 obtain ⟨hSG, hx⟩ := hI
 obtain ⟨GB, rfl, hBG, hZG⟩ := hx rfl
 have HSG := Hq hSG
 have HBG := Hq hBG
 have HZG := Hq hZG
 clear hx hSG hBG hZG
 simp only [Act.put, sqA, sqB, sqC]
 refine rO 8 1 rfl hD ?_; clear hD; intro K8 hK8
 have hz : Bx4 gw GB (.bool false) (.string ⟨#[]⟩) (.bool false) (.string ⟨#[]⟩) 37 := HZG.out
 obtain ⟨p0, p1, p2, p3⟩ := hz.cells
 have f0 := hz.free 0
 have f1 := hz.free 1
 have f2 := hz.free 2
 have f3 := hz.free 3
 clear hz
 go_wp2
 refine hK8 _ _ (by exact below_set4 HSG.out HBG.out _ _ _ _) ?_; clear hK8; intro hS_3_8_g hD
 refine rO 9 0 rfl hD ?_; clear hD; intro K9 hK9
 go_wp2
 refine hK9 _ _ (by exact hS_3_8_g) ?_; clear hK9; intro hS_3_9_g hD
 refine wpAnyK_done (by kernel_rfl) ?_ 0
 clear hD p0 p1 p2 p3 f0 f1 f2 f3 g0 g1 g2 g3
 have hz8 : Bx4 _ GB (.bool false) (.string n5) (.bool false) (.string n8) 37 := Bx4.set4 (show Bx4 gw GB (.bool false) (.string ⟨#[]⟩) (.bool false) (.string ⟨#[]⟩) 37 from HZG.out)
 have hb8 := ((Below.refl v2.heap.size v2).drew).trans hS_3_9_g
 refine hKK3 _ _ ?_
 obtain ⟨W3, hW3⟩ : ∃ W8, (((gw.setCell ⟨GB, 0, none⟩ (.bool false)).setCell ⟨GB, 1, none⟩ (.string n5)).setCell ⟨GB, 2, none⟩ (.bool false)).setCell ⟨GB, 3, none⟩ (.string n8) = W8 := ⟨_, rfl⟩
 rw [hW3] at hz8 hb8 ⊢
 have HZ3 := Hq hz8
 have HK3 := Hq (HK2.out.next hb8)
 have HB3x := Hq (HB2x.out.trans (hb8.mono HB2x.out.size))
 clear hz8 hb8 hW3
 go_wp2
 obtain ⟨g0, g1, g2, g3⟩ := (show Bx4 W3.drew K (.string M) (.string O) (.string n4) (.string n3) 26 from HK3.out).cells
 rename_i KK4 hKK4
 refine wp_onlyN ?_
 refine wp_region_K 9 (Below (W3.drew).heap.size (W3.drew)) (by kernel_rfl) ?_
 intro hD
 refine rT 0 23 8 rfl hD (Below.refl _ _) (by intro w' hS'; have e0 := kC hS' g0; have e1 := kC hS' g1; have e2 := kC hS' g2; have e3 := kC hS' g3; go_simp; with_reducible rfl) ?_; clear hD; intro hD; simp only [Act.put, sqA, sqB, sqC]
 refine rO 1 7 rfl hD ?_; clear hD; intro K1 hK1
 go_wp2_with fail
 refine (HN2.out _).mono ?_
 rintro ev v3 ⟨rfl, hb⟩
 have HB1 := Hq hb
 clear hb
 go_wp2
 refine hK1 _ _ (by exact HB1.out) ?_; clear hK1; intro hS_4_1 hD
 refine rO 2 6 rfl hD ?_; clear hD; intro K2 hK2
 go_wp2_with fail
 refine (HI1.out _).mono ?_
 rintro ev v4 ⟨rfl, hb⟩
 have HB2 := Hq hb
 clear hb
 go_wp2
 refine hK2 _ _ (by exact Below.trans hS_4_1 (Below.mono HB2.out (Below.size hS_4_1))) ?_; clear hK2; intro hS_4_2 hD
 refine rO 3 5 rfl hD ?_; clear hD; intro K3 hK3
 go_wp2_with fail
 refine (HSH.out _).mono ?_
 rintro ev v5 ⟨rfl, hb⟩
 have HB3 := Hq hb
 clear hb
 go_wp2
 refine hK3 _ _ (by exact Below.trans hS_4_2 (Below.mono HB3.out (Below.size hS_4_2))) ?_; clear hK3; intro hS_4_3 hD
 refine rP 4 22 4 rfl hD hS_4_3 ?_; clear hD; intro hD; simp only [Act.put, sqA, sqB, sqC]
 refine rP 5 27 3 rfl hD hS_4_3 ?_; clear hD; intro hD; simp only [Act.put, sqA, sqB, sqC]
 refine rP 6 28 2 rfl hD hS_4_3 ?_; clear hD; intro hD; simp only [Act.put, sqA, sqB, sqC]
 refine rO 7 1 rfl hD ?_; clear hD; intro K7 hK7
 go_wp2
 refine hK7 _ _ (by exact hS_4_3) ?_; clear hK7; intro hS_4_7 hD
 refine rO 8 0 rfl hD ?_; clear hD; intro K8 hK8
 go_wp2
 refine hK8 _ _ (by exact hS_4_7) ?_; clear hK8; intro hS_4_8 hD
 refine wpAnyK_done (by kernel_rfl) ?_ 0
 clear hD g0 g1 g2 g3
 have hb := (Below.refl W3.heap.size W3).drew.trans hS_4_8
 have HK4 := Hq (HK3.out.next hb)
 have HZ4 := Hq (HZ3.out.next hb)
 have HB4x := Hq (HB3x.out.trans (hb.mono HB3x.out.size))
 clear hb
 refine hKK4 _ _ ?_
 go_wp2
 obtain ⟨g0, g1, g2, g3⟩ := (show Bx4 v5.drew K (.string M) (.string O) (.string n4) (.string n3) 26 from HK4.out).cells
 obtain ⟨z0, z1, z2, z3⟩ := (show Bx4 v5.drew GB (.bool false) (.string n5) (.bool false) (.string n8) 37 from HZ4.out).cells
 refine wp_region_K 39 (Below (v5.drew).heap.size (v5.drew)) (by kernel_rfl) ?_
 intro hD
 have KK4 := Hq (fun w' (hS' : (Below (v5.drew).heap.size (v5.drew)) w') => And.intro (kC hS' g0) (And.intro (kC hS' g1) (And.intro (kC hS' g2) (And.intro (kC hS' g3) (And.intro (kC hS' z0) (And.intro (kC hS' z1) (And.intro (kC hS' z2) (kC hS' z3))))))))
 refine rP 0 29 38 rfl hD (Below.refl _ _) ?_; clear hD; intro hD; simp only [Act.put, sqA, sqB, sqC]
 refine rP 1 30 37 rfl hD (Below.refl _ _) ?_; clear hD; intro hD; simp only [Act.put, sqA, sqB, sqC]
 refine rP 2 31 36 rfl hD (Below.refl _ _) ?_; clear hD; intro hD; simp only [Act.put, sqA, sqB, sqC]
 refine rP 3 32 35 rfl hD (Below.refl _ _) ?_; clear hD; intro hD; simp only [Act.put, sqA, sqB, sqC]
 refine rO 4 34 rfl hD ?_; clear hD; intro K4 hK4
 go_wp2_with fail
 refine (HN2.out _).mono ?_
 rintro ev u1 ⟨rfl, hb⟩
 have HB4 := Hq hb
 clear hb
 go_wp2
 refine hK4 _ _ (by exact HB4.out) ?_; clear hK4; intro hS_5_4 hD
 refine rP 5 34 33 rfl hD hS_5_4 ?_; clear hD; intro hD; simp only [Act.put, sqA, sqB, sqC]
 refine rP 6 35 32 rfl hD hS_5_4 ?_; clear hD; intro hD; simp only [Act.put, sqA, sqB, sqC]
 refine rP 7 36 31 rfl hD hS_5_4 ?_; clear hD; intro hD; simp only [Act.put, sqA, sqB, sqC]
 refine rT 8 37 30 rfl hD hS_5_4 (by intro w' hS'; obtain ⟨e0, e1, e2, e3, e4, e5, e6, e7⟩ := KK4.out w' hS'; go_simp; with_reducible rfl) ?_; clear hD; intro hD; simp only [Act.put, sqA, sqB, sqC]
 refine rP 9 38 29 rfl hD hS_5_4 ?_; clear hD; intro hD; simp only [Act.put, sqA, sqB, sqC]
 refine rO 10 28 rfl hD ?_; clear hD; intro K10 hK10
 go_wp2_with fail
 refine (HO60.out _).mono ?_
 rintro ev u2 ⟨rfl, hb⟩
 have HB10 := Hq hb
 clear hb
 go_wp2
 refine hK10 _ _ (by exact Below.trans hS_5_4 (Below.mono HB10.out (Below.size hS_5_4))) ?_; clear hK10; intro hS_5_10 hD
 refine rO 11 27 rfl hD ?_; clear hD; intro K11 hK11
 go_wp2_with fail
 refine (HOA.out _).mono ?_
 rintro ev u3 ⟨rfl, hb⟩
 have HB11 := Hq hb
 clear hb
 go_wp2
 refine hK11 _ _ (by exact Below.trans hS_5_10 (Below.mono HB11.out (Below.size hS_5_10))) ?_; clear hK11; intro hS_5_11 hD
 refine rP 12 41 26 rfl hD hS_5_11 ?_; clear hD; intro hD; simp only [Act.put, sqA, sqB, sqC]
 refine rP 13 42 25 rfl hD hS_5_11 ?_; clear hD; intro hD; simp only [Act.put, sqA, sqB, sqC]
 refine rT 14 43 24 rfl hD hS_5_11 (by intro w' hS'; obtain ⟨e0, e1, e2, e3, e4, e5, e6, e7⟩ := KK4.out w' hS'; go_simp; with_reducible rfl) ?_; clear hD; intro hD; simp only [Act.put, sqA, sqB, sqC]
 refine rP 15 44 23 rfl hD hS_5_11 ?_; clear hD; intro hD; simp only [Act.put, sqA, sqB, sqC]
 refine rO 16 22 rfl hD ?_; clear hD; intro K16 hK16
 go_wp2_with fail
 refine (HO61.out _).mono ?_
 rintro ev u4 ⟨rfl, hb⟩
 have HB16 := Hq hb
 clear hb
 go_wp2
 refine hK16 _ _ (by exact Below.trans hS_5_11 (Below.mono HB16.out (Below.size hS_5_11))) ?_; clear hK16; intro hS_5_16 hD
 refine rO 17 21 rfl hD ?_; clear hD; intro K17 hK17
 go_wp2_with fail
 refine (HOB.out _).mono ?_
 rintro ev u5 ⟨rfl, hb⟩
 have HB17 := Hq hb
 clear hb
 go_wp2
 refine hK17 _ _ (by exact Below.trans hS_5_16 (Below.mono HB17.out (Below.size hS_5_16))) ?_; clear hK17; intro hS_5_17 hD
 refine rP 18 47 20 rfl hD hS_5_17 ?_; clear hD; intro hD; simp only [Act.put, sqA, sqB, sqC]
 refine rP 19 48 19 rfl hD hS_5_17 ?_; clear hD; intro hD; simp only [Act.put, sqA, sqB, sqC]
 refine rP 20 49 18 rfl hD hS_5_17 ?_; clear hD; intro hD; simp only [Act.put, sqA, sqB, sqC]
 refine rP 21 50 17 rfl hD hS_5_17 ?_; clear hD; intro hD; simp only [Act.put, sqA, sqB, sqC]
 refine rP 22 51 16 rfl hD hS_5_17 ?_; clear hD; intro hD; simp only [Act.put, sqA, sqB, sqC]
 refine rP 23 52 15 rfl hD hS_5_17 ?_; clear hD; intro hD; simp only [Act.put, sqA, sqB, sqC]
 refine rP 24 53 14 rfl hD hS_5_17 ?_; clear hD; intro hD; simp only [Act.put, sqA, sqB, sqC]
 refine rT 25 54 13 rfl hD hS_5_17 (by intro w' hS'; obtain ⟨e0, e1, e2, e3, e4, e5, e6, e7⟩ := KK4.out w' hS'; go_simp; with_reducible rfl) ?_; clear hD; intro hD; simp only [Act.put, sqA, sqB, sqC]
 refine rO 26 12 rfl hD ?_; clear hD; intro K26 hK26
 go_wp2_with fail
 refine (HO58.out _).mono ?_
 rintro ev u6 ⟨rfl, hb⟩
 have HB26 := Hq hb
 clear hb
 go_wp2
 refine hK26 _ _ (by exact Below.trans hS_5_17 (Below.mono HB26.out (Below.size hS_5_17))) ?_; clear hK26; intro hS_5_26 hD
 refine rP 27 56 11 rfl hD hS_5_26 ?_; clear hD; intro hD; simp only [Act.put, sqA, sqB, sqC]
 refine rP 28 57 10 rfl hD hS_5_26 ?_; clear hD; intro hD; simp only [Act.put, sqA, sqB, sqC]
 refine rP 29 58 9 rfl hD hS_5_26 ?_; clear hD; intro hD; simp only [Act.put, sqA, sqB, sqC]
 refine rP 30 59 8 rfl hD hS_5_26 ?_; clear hD; intro hD; simp only [Act.put, sqA, sqB, sqC]
 refine rP 31 60 7 rfl hD hS_5_26 ?_; clear hD; intro hD; simp only [Act.put, sqA, sqB, sqC]
 refine rP 32 61 6 rfl hD hS_5_26 ?_; clear hD; intro hD; simp only [Act.put, sqA, sqB, sqC]
 refine rP 33 62 5 rfl hD hS_5_26 ?_; clear hD; intro hD; simp only [Act.put, sqA, sqB, sqC]
 refine rP 34 63 4 rfl hD hS_5_26 ?_; clear hD; intro hD; simp only [Act.put, sqA, sqB, sqC]
 refine rO 35 3 rfl hD ?_; clear hD; intro K35 hK35
 go_wp2_with fail
 refine (HN8.out _).mono ?_
 rintro ev u7 ⟨rfl, hb⟩
 have HB35 := Hq hb
 clear hb
 go_wp2
 refine hK35 _ _ (by exact Below.trans hS_5_26 (Below.mono HB35.out (Below.size hS_5_26))) ?_; clear hK35; intro hS_5_35 hD
 refine rP 36 65 2 rfl hD hS_5_35 ?_; clear hD; intro hD; simp only [Act.put, sqA, sqB, sqC]
 refine rP 37 66 1 rfl hD hS_5_35 ?_; clear hD; intro hD; simp only [Act.put, sqA, sqB, sqC]
 refine rO 38 0 rfl hD ?_; clear hD; intro K38 hK38
 go_wp2
 refine hK38 _ _ (by exact hS_5_35) ?_; clear hK38; intro hS_5_38 hD
 refine wpAnyK_done (by kernel_rfl) ?_ 0
 clear hD
 have HBF := Hq (HB4x.out.trans (((Below.refl v5.heap.size v5).drew.trans hS_5_38).mono HB4x.out.size))
 go_wp2
 go_ret
 exact ⟨rfl, HBF.out⟩
end Go.Proofs.YtndmjfkmnjejkaaGreatDoor

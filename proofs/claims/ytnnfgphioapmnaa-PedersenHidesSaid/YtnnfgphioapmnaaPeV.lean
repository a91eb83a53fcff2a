/- Walk: pedersen.Shift. -/
import Derived.Test.YtnnfgphioapmnaaPeU
set_option linter.unusedVariables false
set_option linter.unusedSimpArgs false
namespace Go.Proofs.Ytnnfgphioapmnaa
open Go.RowKit

theorem below_alloc {W W' : World} {o : Obj} (h : W' = W.alloc o) : Below W.heap.size W W' := by rw [h]; exact (Below.refl _ _).alloc (Nat.le_refl _) _
/-- What Shift returns. -/
def sfR (M O G H c : ByteArray) (bb : Bool) (bt : ByteArray) : Value :=
  if (kF M O G H && (nvalid c && zvalid bb bt)) = false then .tuple #[.string ⟨#[]⟩, .int .i64 3] else if pkC M O G H = 0 then prR M O [c, G] [(false, nS 1), (bb, bt)] else .tuple #[.string ⟨#[]⟩, .int .i64 (pkC M O G H)]
theorem sln_two {w : World} {W : World} {a b : ByteArray} (h : W = w.alloc (.cells #[.string a, .string b] 22)) : SlN W (some ⟨w.heap.size, 0, none⟩) 2 2 [a, b] := by rw [h]; exact sln_alloc w [a, b] 22 (by simp)
theorem slz_two {w W : World} {b1 b2 : Bool} {s1 s2 : ByteArray} (h : W = w.alloc (.cells #[.bool b1, .string s1, .bool b2, .string s2] 38)) : SlZ W (some ⟨w.heap.size, 0, none⟩) 2 2 [(b1, s1), (b2, s2)] := by rw [h]; exact slz_alloc2 w b1 b2 s1 s2 38
/-- A key and an integer. -/
def KI (w W : World) (M O G H : ByteArray) (bb : Bool) (bt : ByteArray) : Prop :=
  Bx4 W w.heap.size (.string M) (.string O) (.string G) (.string H) 26 ∧ Bx2 W (w.heap.size + 1) (.bool bb) (.string bt) 38 ∧ Below w.heap.size w W
theorem KI.new (w : World) (M O G H : ByteArray) (bb : Bool) (bt : ByteArray) : KI w ((w.alloc (.cells #[.string M, .string O, .string G, .string H] 26)).alloc (.cells #[.bool bb, .string bt] 38)) M O G H bb bt := by
  refine ⟨(Bx4.new w _ _ _ _ _).next ((Below.refl _ _).alloc (Nat.le_refl _) _), ?_, ((Below.refl w.heap.size w).alloc (Nat.le_refl _) _).alloc (by simp) _⟩
  have := Bx2.new (w.alloc (.cells #[.string M, .string O, .string G, .string H] 26)) (.bool bb) (.string bt) 38
  rwa [World.size_alloc] at this
theorem KI.next {w W W' : World} {M O G H : ByteArray} {bb : Bool} {bt : ByteArray} (h : KI w W M O G H bb bt) (hb : Below W.heap.size W W') : KI w W' M O G H bb bt :=
  ⟨h.1.next hb, h.2.1.next hb, h.2.2.trans (hb.mono (Nat.le_of_lt h.1.lt))⟩
set_option maxRecDepth 100000 in
set_option maxHeartbeats 4000000 in
theorem pk_Shift (M O G H c : ByteArray) (bb : Bool) (bt : ByteArray) (hM : M.size ≤ 8) (hO : O.size ≤ 8) (hG : G.size ≤ 1000) (hH : H.size ≤ 1000) (hc : c.size ≤ 1000) (hb : bt.size ≤ 1000) (w : World) : Calls Try.prog 27 #[kV M O G H, .string c, zV bb bt] w (Ret (sfR M O G H c bb bt) w) := by
  have HF := Lib.hid (pk_formed M O G H (by omega) (by omega) hG hH)
  have HVC := Lib.hid (nat_Valid c (by omega))
  have HVB := Lib.hid (int_Valid bb bt (by omega))
  have HCK := Lib.hid (pk_Check M O G H hM hO hG hH)
  have HO1 := Lib.hid (int_Of 1 (by decide))
  rw [intV_nat] at HO1
  have HPR := Lib.hid (fun (A B : Option Addr) (w : World) (hl : SlN w A 2 2 [c, G]) (hz : SlZ w B 2 2 [(false, nS 1), (bb, bt)]) => pw_Product M O [c, G] [(false, nS 1), (bb, bt)] A B 2 2 2 2 hM hO (by intro s hs; simp only [List.mem_cons, List.mem_nil_iff, or_false] at hs; rcases hs with rfl | rfl; exact hc; exact hG) (by intro z hz; simp only [List.mem_cons, List.mem_nil_iff, or_false] at hz; rcases hz with rfl | rfl; exact (by decide); exact hb) (by omega) (by omega) w hl hz)
  have HRV := Lib.hid (show ∃ R, sfR M O G H c bb bt = R from ⟨_, rfl⟩)
  obtain ⟨R, hR⟩ := HRV.out
  have HRR := Lib.hid hR
  rw [hR]
  clear hM hO hG hH hc hb hR HRV
  unfold kV gV zV at *
  cases hf : kF M O G H with
  | false =>
    have HR := Lib.hid (show R = .tuple #[.string ⟨#[]⟩, .int .i64 3] from by rw [← HRR.out]; unfold sfR; rw [hf]; rfl)
    rw [hf] at HF
    rw [HR.out]
    clear hf
    go_enter Try.func27, Try.ntmps27
    have hk := KI.new w M O G H bb bt
    obtain ⟨W0, hW0⟩ : ∃ W, (w.alloc (.cells #[.string M, .string O, .string G, .string H] 26)).alloc (.cells #[.bool bb, .string bt] 38) = W := ⟨_, rfl⟩
    rw [hW0] at hk
    have HK := Lib.hid hk
    obtain ⟨c0, c1, c2, c3⟩ := hk.1.cells
    have b0 := hk.2.1.c0
    have b1 := hk.2.1.c1
    clear hk
    go_wp2_with fail
    try rw [hW0]
    clear hW0
    refine (HF.out _).mono ?_
    rintro ev w1 ⟨rfl, hb⟩
    have hk := HK.out.next hb
    have HK := Lib.hid hk
    clear hb c0 c1 c2 c3 b0 b1
    obtain ⟨c0, c1, c2, c3⟩ := hk.1.cells
    have b0 := hk.2.1.c0
    have b1 := hk.2.1.c1
    clear hk
    go_wp2
    go_ret2
    exact ⟨rfl, HK.out.2.2⟩
  | true =>
    rw [hf] at HF
    cases hvc : nvalid c with
    | false =>
      have HR := Lib.hid (show R = .tuple #[.string ⟨#[]⟩, .int .i64 3] from by rw [← HRR.out]; unfold sfR; rw [hf, hvc]; rfl)
      rw [hvc] at HVC
      rw [HR.out]
      clear hf hvc
      go_enter Try.func27, Try.ntmps27
      have hk := KI.new w M O G H bb bt
      obtain ⟨W0, hW0⟩ : ∃ W, (w.alloc (.cells #[.string M, .string O, .string G, .string H] 26)).alloc (.cells #[.bool bb, .string bt] 38) = W := ⟨_, rfl⟩
      rw [hW0] at hk
      have HK := Lib.hid hk
      obtain ⟨c0, c1, c2, c3⟩ := hk.1.cells
      have b0 := hk.2.1.c0
      have b1 := hk.2.1.c1
      clear hk
      go_wp2_with fail
      try rw [hW0]
      clear hW0
      refine (HF.out _).mono ?_
      rintro ev w1 ⟨rfl, hb⟩
      have hk := HK.out.next hb
      have HK := Lib.hid hk
      clear hb c0 c1 c2 c3 b0 b1
      obtain ⟨c0, c1, c2, c3⟩ := hk.1.cells
      have b0 := hk.2.1.c0
      have b1 := hk.2.1.c1
      clear hk
      go_wp2_with fail
      refine (HVC.out _).mono ?_
      rintro ev w2 ⟨rfl, rfl⟩
      go_wp2
      go_ret2
      exact ⟨rfl, HK.out.2.2⟩
    | true =>
      rw [hvc] at HVC
      cases hz : zvalid bb bt with
      | false =>
        have HR := Lib.hid (show R = .tuple #[.string ⟨#[]⟩, .int .i64 3] from by rw [← HRR.out]; unfold sfR; rw [hf, hvc, hz]; rfl)
        rw [hz] at HVB
        rw [HR.out]
        clear hf hvc hz
        go_enter Try.func27, Try.ntmps27
        have hk := KI.new w M O G H bb bt
        obtain ⟨W0, hW0⟩ : ∃ W, (w.alloc (.cells #[.string M, .string O, .string G, .string H] 26)).alloc (.cells #[.bool bb, .string bt] 38) = W := ⟨_, rfl⟩
        rw [hW0] at hk
        have HK := Lib.hid hk
        obtain ⟨c0, c1, c2, c3⟩ := hk.1.cells
        have b0 := hk.2.1.c0
        have b1 := hk.2.1.c1
        clear hk
        go_wp2_with fail
        try rw [hW0]
        clear hW0
        refine (HF.out _).mono ?_
        rintro ev w1 ⟨rfl, hb⟩
        have hk := HK.out.next hb
        have HK := Lib.hid hk
        clear hb c0 c1 c2 c3 b0 b1
        obtain ⟨c0, c1, c2, c3⟩ := hk.1.cells
        have b0 := hk.2.1.c0
        have b1 := hk.2.1.c1
        clear hk
        go_wp2_with fail
        refine (HVC.out _).mono ?_
        rintro ev w2 ⟨rfl, rfl⟩
        go_wp2_with fail
        refine (HVB.out _).mono ?_
        rintro ev w2 ⟨rfl, hb⟩
        have hk := HK.out.next hb
        have HK := Lib.hid hk
        clear hb c0 c1 c2 c3 b0 b1
        obtain ⟨c0, c1, c2, c3⟩ := hk.1.cells
        have b0 := hk.2.1.c0
        have b1 := hk.2.1.c1
        clear hk
        go_wp2
        go_ret2
        exact ⟨rfl, HK.out.2.2⟩
      | true =>
        rw [hz] at HVB
        by_cases hc : pkC M O G H = 0
        · have HR := Lib.hid (show R = prR M O [c, G] [(false, nS 1), (bb, bt)] from by rw [← HRR.out]; unfold sfR; rw [hf, hvc, hz, if_neg (by decide), if_pos hc])
          rw [hc] at HCK
          obtain ⟨rs, rc, hpr⟩ := prR_form M O [c, G] [(false, nS 1), (bb, bt)]
          rw [hpr] at HPR
          rw [HR.out, hpr]
          obtain ⟨one, hone⟩ : ∃ x, nS 1 = x := ⟨_, rfl⟩
          rw [hone] at HPR HO1
          have HO1 := Lib.hid (fun w => show Calls Try.prog 11 #[.int .i64 1] w (Ret (.agg #[.bool false, .string one]) w) from HO1.out w)
          clear hf hvc hz hc hpr hone
          go_enter Try.func27, Try.ntmps27
          have hk := KI.new w M O G H bb bt
          obtain ⟨W0, hW0⟩ : ∃ W, (w.alloc (.cells #[.string M, .string O, .string G, .string H] 26)).alloc (.cells #[.bool bb, .string bt] 38) = W := ⟨_, rfl⟩
          rw [hW0] at hk
          have HK := Lib.hid hk
          obtain ⟨c0, c1, c2, c3⟩ := hk.1.cells
          have b0 := hk.2.1.c0
          have b1 := hk.2.1.c1
          clear hk
          go_wp2_with fail
          try rw [hW0]
          clear hW0
          refine (HF.out _).mono ?_
          rintro ev w1 ⟨rfl, hb⟩
          have hk := HK.out.next hb
          have HK := Lib.hid hk
          clear hb c0 c1 c2 c3 b0 b1
          obtain ⟨c0, c1, c2, c3⟩ := hk.1.cells
          have b0 := hk.2.1.c0
          have b1 := hk.2.1.c1
          clear hk
          go_wp2_with fail
          refine (HVC.out _).mono ?_
          rintro ev w2 ⟨rfl, rfl⟩
          go_wp2_with fail
          refine (HVB.out _).mono ?_
          rintro ev w2 ⟨rfl, hb⟩
          have hk := HK.out.next hb
          have HK := Lib.hid hk
          clear hb c0 c1 c2 c3 b0 b1
          obtain ⟨c0, c1, c2, c3⟩ := hk.1.cells
          have b0 := hk.2.1.c0
          have b1 := hk.2.1.c1
          clear hk
          go_wp2_with fail
          refine (HCK.out _).mono ?_
          rintro ev w3 ⟨rfl, hb⟩
          have hk := HK.out.next hb
          have HK := Lib.hid hk
          clear hb c0 c1 c2 c3 b0 b1
          obtain ⟨c0, c1, c2, c3⟩ := hk.1.cells
          have b0 := hk.2.1.c0
          have b1 := hk.2.1.c1
          clear hk
          go_wp2
          have g0 : w3.drew.cell? ⟨w.heap.size, 0, none⟩ = some (.string M) := c0
          have g1 : w3.drew.cell? ⟨w.heap.size, 1, none⟩ = some (.string O) := c1
          have g2 : w3.drew.cell? ⟨w.heap.size, 2, none⟩ = some (.string G) := c2
          have g3 : w3.drew.cell? ⟨w.heap.size + 1, 0, none⟩ = some (.bool bb) := b0
          have g4 : w3.drew.cell? ⟨w.heap.size + 1, 1, none⟩ = some (.string bt) := b1
          clear c0 c1 c2 c3 b0 b1
          have HKD := Lib.hid HK.out.2.2.drew
          obtain ⟨wd, hwd⟩ : ∃ wd, w3.drew = wd := ⟨_, rfl⟩
          rw [hwd] at g0 g1 g2 g3 g4 HKD
          refine wp_region_K 14 (Below (wd).heap.size (wd)) (by kernel_rfl) ?_
          intro hD
          rw [hwd]
          refine wpAnyK_pureD (i := 0) (d := some 27) (v := ?v6_0b1) (fuel := 13) rfl (by kernel_rfl) (by kernel_rfl) (fun _ _ _ h => h) hD (Below.refl _ _) (.inl ⟨by kernel_rfl, ?y6_0b1⟩) ?n6_0b1
          case y6_0b1 => intro w' _; go_simp; with_reducible rfl
          clear hD; intro hD
          simp only [Act.put, List.setIfInBounds_toArray, List.set_cons_zero, List.set_cons_succ]
          refine wpAnyK_takeSD (i := 1) (d := some 28) (v := ?v6_1b1) (fuel := 12) rfl (by kernel_rfl) (by kernel_rfl) (by kernel_rfl) (fun _ _ _ h => h) hD (Below.refl _ _) (.inl ⟨by kernel_rfl, ?y6_1b1⟩) ?n6_1b1
          case y6_1b1 => intro w' hS'; have e0 := cell_kept hS' (Nat.le_refl _) g0; have e1 := cell_kept hS' (Nat.le_refl _) g1; have e2 := cell_kept hS' (Nat.le_refl _) g2; have e3 := cell_kept hS' (Nat.le_refl _) g3; have e4 := cell_kept hS' (Nat.le_refl _) g4; go_simp; with_reducible rfl
          clear hD; intro hD
          simp only [Act.put, List.setIfInBounds_toArray, List.set_cons_zero, List.set_cons_succ]
          refine wpAnyK_pureD (i := 2) (d := some 29) (v := ?v6_2b1) (fuel := 11) rfl (by kernel_rfl) (by kernel_rfl) (fun _ _ _ h => h) hD (Below.refl _ _) (.inl ⟨by kernel_rfl, ?y6_2b1⟩) ?n6_2b1
          case y6_2b1 => intro w' _; go_simp; with_reducible rfl
          clear hD; intro hD
          simp only [Act.put, List.setIfInBounds_toArray, List.set_cons_zero, List.set_cons_succ]
          refine wpAnyK_pureD (i := 3) (d := some 30) (v := ?v6_3b1) (fuel := 10) rfl (by kernel_rfl) (by kernel_rfl) (fun _ _ _ h => h) hD (Below.refl _ _) (.inl ⟨by kernel_rfl, ?y6_3b1⟩) ?n6_3b1
          case y6_3b1 => intro w' _; go_simp; with_reducible rfl
          clear hD; intro hD
          simp only [Act.put, List.setIfInBounds_toArray, List.set_cons_zero, List.set_cons_succ]
          refine wpAnyK_takeSD (i := 4) (d := some 31) (v := ?v6_4b1) (fuel := 9) rfl (by kernel_rfl) (by kernel_rfl) (by kernel_rfl) (fun _ _ _ h => h) hD (Below.refl _ _) (.inl ⟨by kernel_rfl, ?y6_4b1⟩) ?n6_4b1
          case y6_4b1 => intro w' hS'; have e0 := cell_kept hS' (Nat.le_refl _) g0; have e1 := cell_kept hS' (Nat.le_refl _) g1; have e2 := cell_kept hS' (Nat.le_refl _) g2; have e3 := cell_kept hS' (Nat.le_refl _) g3; have e4 := cell_kept hS' (Nat.le_refl _) g4; go_simp; with_reducible rfl
          clear hD; intro hD
          simp only [Act.put, List.setIfInBounds_toArray, List.set_cons_zero, List.set_cons_succ]
          refine wpAnyK_takeSD (i := 7) (d := some 34) (v := ?v6_7b1) (fuel := 8) rfl (by kernel_rfl) (by kernel_rfl) (by kernel_rfl) (fun _ _ _ h => h) hD (Below.refl _ _) (.inl ⟨by kernel_rfl, ?y6_7b1⟩) ?n6_7b1
          case y6_7b1 => intro w' hS'; have e0 := cell_kept hS' (Nat.le_refl _) g0; have e1 := cell_kept hS' (Nat.le_refl _) g1; have e2 := cell_kept hS' (Nat.le_refl _) g2; have e3 := cell_kept hS' (Nat.le_refl _) g3; have e4 := cell_kept hS' (Nat.le_refl _) g4; go_simp; with_reducible rfl
          clear hD; intro hD
          simp only [Act.put, List.setIfInBounds_toArray, List.set_cons_zero, List.set_cons_succ]
          refine wpAnyK_two (i := 5) (i' := 6) (fuel := 7) (by kernel_rfl) rfl rfl hD ?_ ?_ 
          · unfold StepK
            clear hD; intro K5 hK5
            go_wp2
            refine name_world ?_
            intro w5 hw5
            have hb := below_alloc hw5
            have HS5 := Lib.hid (sln_two hw5)
            try (have HS8 := Lib.hid (SlZ.kept hb (Nat.le_refl _) HS8.out))
            have HB5 := Lib.hid hb
            clear hb hw5
            refine hK5 _ _ (by exact Below.trans (B := wd.heap.size) (Below.refl _ _) (Below.mono HB5.out (Below.size (B := wd.heap.size) (Below.refl _ _)))) ?_; clear hK5; intro hS_6_5 hD
            refine wpAnyK_one (i := 6) (fuel := 6) (by kernel_rfl) rfl hD ?_
            clear hD; intro K6 hK6
            go_wp2_with fail
            refine (HO1.out _).mono ?_
            rintro ev w6 ⟨rfl, hb⟩
            try (have HS5 := Lib.hid (SlN.kept hb (Nat.le_refl _) HS5.out))
            have HB6 := Lib.hid hb
            clear hb
            go_wp2
            refine hK6 _ _ (by exact Below.trans (B := wd.heap.size) hS_6_5 (Below.mono HB6.out (Below.size (B := wd.heap.size) hS_6_5))) ?_; clear hK6; intro hS_6_6_5 hD
            refine wpAnyK_one (i := 8) (fuel := 5) (by kernel_rfl) rfl hD ?_
            clear hD; intro K8 hK8
            go_wp2
            refine name_world ?_
            intro w8 hw8
            have hb := below_alloc hw8
            have HS8 := Lib.hid (slz_two hw8)
            try (have HS5 := Lib.hid (SlN.kept hb (Nat.le_refl _) HS5.out))
            have HB8 := Lib.hid hb
            clear hb hw8
            refine hK8 _ _ (by exact Below.trans (B := wd.heap.size) hS_6_6_5 (Below.mono HB8.out (Below.size (B := wd.heap.size) hS_6_6_5))) ?_; clear hK8; intro hS_6_8_5 hD
            refine wpAnyK_one (i := 9) (fuel := 4) (by kernel_rfl) rfl hD ?_
            clear hD; intro K9 hK9
            go_wp2_with fail
            refine (HPR.out _ _ _ HS5.out HS8.out).mono ?_
            rintro ev w9 ⟨rfl, hb⟩
            have HB9 := Lib.hid hb
            clear hb
            go_wp2
            refine hK9 _ _ (by exact Below.trans (B := wd.heap.size) hS_6_8_5 (Below.mono HB9.out (Below.size (B := wd.heap.size) hS_6_8_5))) ?_; clear hK9; intro hS_6_9_5 hD
            refine wpAnyK_pureD (i := 10) (d := some 37) (v := ?v6_10_5b1) (fuel := 3) rfl (by kernel_rfl) (by kernel_rfl) (fun _ _ _ h => h) hD hS_6_9_5 (.inl ⟨by kernel_rfl, ?y6_10_5b1⟩) ?n6_10_5b1
            case y6_10_5b1 => intro w' _; go_simp; with_reducible rfl
            clear hD; intro hD
            simp only [Act.put, List.setIfInBounds_toArray, List.set_cons_zero, List.set_cons_succ]
            refine wpAnyK_pureD (i := 11) (d := some 38) (v := ?v6_11_5b1) (fuel := 2) rfl (by kernel_rfl) (by kernel_rfl) (fun _ _ _ h => h) hD hS_6_9_5 (.inl ⟨by kernel_rfl, ?y6_11_5b1⟩) ?n6_11_5b1
            case y6_11_5b1 => intro w' _; go_simp; with_reducible rfl
            clear hD; intro hD
            simp only [Act.put, List.setIfInBounds_toArray, List.set_cons_zero, List.set_cons_succ]
            refine wpAnyK_one (i := 12) (fuel := 1) (by kernel_rfl) rfl hD ?_
            clear hD; intro K12 hK12
            go_wp2
            refine hK12 _ _ (by exact hS_6_9_5) ?_; clear hK12; intro hS_6_12_5 hD
            refine wpAnyK_one (i := 13) (fuel := 0) (by kernel_rfl) rfl hD ?_
            clear hD; intro K13 hK13
            go_wp2
            refine hK13 _ _ (by exact hS_6_12_5) ?_; clear hK13; intro hS_6_13_5 hD
            refine wpAnyK_done (by kernel_rfl) ?_ 0
            clear hD
            have HBF := Lib.hid (HKD.out.trans (Below.mono hS_6_13_5 HKD.out.size))
            go_wp2
            go_ret2
            exact ⟨rfl, HBF.out⟩
          · unfold StepK
            clear hD; intro K6 hK6
            go_wp2_with fail
            refine (HO1.out _).mono ?_
            rintro ev w6 ⟨rfl, hb⟩
            try (have HS5 := Lib.hid (SlN.kept hb (Nat.le_refl _) HS5.out))
            have HB6 := Lib.hid hb
            clear hb
            go_wp2
            refine hK6 _ _ (by exact Below.trans (B := wd.heap.size) (Below.refl _ _) (Below.mono HB6.out (Below.size (B := wd.heap.size) (Below.refl _ _)))) ?_; clear hK6; intro hS_6_6 hD
            refine wpAnyK_two (i := 5) (i' := 8) (fuel := 6) (by kernel_rfl) rfl rfl hD ?_ ?_ 
            · unfold StepK
              clear hD; intro K5 hK5
              go_wp2
              refine name_world ?_
              intro w5 hw5
              have hb := below_alloc hw5
              have HS5 := Lib.hid (sln_two hw5)
              try (have HS8 := Lib.hid (SlZ.kept hb (Nat.le_refl _) HS8.out))
              have HB5 := Lib.hid hb
              clear hb hw5
              refine hK5 _ _ (by exact Below.trans (B := wd.heap.size) hS_6_6 (Below.mono HB5.out (Below.size (B := wd.heap.size) hS_6_6))) ?_; clear hK5; intro hS_6_5_6 hD
              refine wpAnyK_one (i := 8) (fuel := 5) (by kernel_rfl) rfl hD ?_
              clear hD; intro K8 hK8
              go_wp2
              refine name_world ?_
              intro w8 hw8
              have hb := below_alloc hw8
              have HS8 := Lib.hid (slz_two hw8)
              try (have HS5 := Lib.hid (SlN.kept hb (Nat.le_refl _) HS5.out))
              have HB8 := Lib.hid hb
              clear hb hw8
              refine hK8 _ _ (by exact Below.trans (B := wd.heap.size) hS_6_5_6 (Below.mono HB8.out (Below.size (B := wd.heap.size) hS_6_5_6))) ?_; clear hK8; intro hS_6_8_6_5 hD
              refine wpAnyK_one (i := 9) (fuel := 4) (by kernel_rfl) rfl hD ?_
              clear hD; intro K9 hK9
              go_wp2_with fail
              refine (HPR.out _ _ _ HS5.out HS8.out).mono ?_
              rintro ev w9 ⟨rfl, hb⟩
              have HB9 := Lib.hid hb
              clear hb
              go_wp2
              refine hK9 _ _ (by exact Below.trans (B := wd.heap.size) hS_6_8_6_5 (Below.mono HB9.out (Below.size (B := wd.heap.size) hS_6_8_6_5))) ?_; clear hK9; intro hS_6_9_6_5 hD
              refine wpAnyK_pureD (i := 10) (d := some 37) (v := ?v6_10_6_5b1) (fuel := 3) rfl (by kernel_rfl) (by kernel_rfl) (fun _ _ _ h => h) hD hS_6_9_6_5 (.inl ⟨by kernel_rfl, ?y6_10_6_5b1⟩) ?n6_10_6_5b1
              case y6_10_6_5b1 => intro w' _; go_simp; with_reducible rfl
              clear hD; intro hD
              simp only [Act.put, List.setIfInBounds_toArray, List.set_cons_zero, List.set_cons_succ]
              refine wpAnyK_pureD (i := 11) (d := some 38) (v := ?v6_11_6_5b1) (fuel := 2) rfl (by kernel_rfl) (by kernel_rfl) (fun _ _ _ h => h) hD hS_6_9_6_5 (.inl ⟨by kernel_rfl, ?y6_11_6_5b1⟩) ?n6_11_6_5b1
              case y6_11_6_5b1 => intro w' _; go_simp; with_reducible rfl
              clear hD; intro hD
              simp only [Act.put, List.setIfInBounds_toArray, List.set_cons_zero, List.set_cons_succ]
              refine wpAnyK_one (i := 12) (fuel := 1) (by kernel_rfl) rfl hD ?_
              clear hD; intro K12 hK12
              go_wp2
              refine hK12 _ _ (by exact hS_6_9_6_5) ?_; clear hK12; intro hS_6_12_6_5 hD
              refine wpAnyK_one (i := 13) (fuel := 0) (by kernel_rfl) rfl hD ?_
              clear hD; intro K13 hK13
              go_wp2
              refine hK13 _ _ (by exact hS_6_12_6_5) ?_; clear hK13; intro hS_6_13_6_5 hD
              refine wpAnyK_done (by kernel_rfl) ?_ 0
              clear hD
              have HBF := Lib.hid (HKD.out.trans (Below.mono hS_6_13_6_5 HKD.out.size))
              go_wp2
              go_ret2
              exact ⟨rfl, HBF.out⟩
            · unfold StepK
              clear hD; intro K8 hK8
              go_wp2
              refine name_world ?_
              intro w8 hw8
              have hb := below_alloc hw8
              have HS8 := Lib.hid (slz_two hw8)
              try (have HS5 := Lib.hid (SlN.kept hb (Nat.le_refl _) HS5.out))
              have HB8 := Lib.hid hb
              clear hb hw8
              refine hK8 _ _ (by exact Below.trans (B := wd.heap.size) hS_6_6 (Below.mono HB8.out (Below.size (B := wd.heap.size) hS_6_6))) ?_; clear hK8; intro hS_6_8_6 hD
              refine wpAnyK_one (i := 5) (fuel := 5) (by kernel_rfl) rfl hD ?_
              clear hD; intro K5 hK5
              go_wp2
              refine name_world ?_
              intro w5 hw5
              have hb := below_alloc hw5
              have HS5 := Lib.hid (sln_two hw5)
              try (have HS8 := Lib.hid (SlZ.kept hb (Nat.le_refl _) HS8.out))
              have HB5 := Lib.hid hb
              clear hb hw5
              refine hK5 _ _ (by exact Below.trans (B := wd.heap.size) hS_6_8_6 (Below.mono HB5.out (Below.size (B := wd.heap.size) hS_6_8_6))) ?_; clear hK5; intro hS_6_5_6_8 hD
              refine wpAnyK_one (i := 9) (fuel := 4) (by kernel_rfl) rfl hD ?_
              clear hD; intro K9 hK9
              go_wp2_with fail
              refine (HPR.out _ _ _ HS5.out HS8.out).mono ?_
              rintro ev w9 ⟨rfl, hb⟩
              have HB9 := Lib.hid hb
              clear hb
              go_wp2
              refine hK9 _ _ (by exact Below.trans (B := wd.heap.size) hS_6_5_6_8 (Below.mono HB9.out (Below.size (B := wd.heap.size) hS_6_5_6_8))) ?_; clear hK9; intro hS_6_9_6_8 hD
              refine wpAnyK_pureD (i := 10) (d := some 37) (v := ?v6_10_6_8b1) (fuel := 3) rfl (by kernel_rfl) (by kernel_rfl) (fun _ _ _ h => h) hD hS_6_9_6_8 (.inl ⟨by kernel_rfl, ?y6_10_6_8b1⟩) ?n6_10_6_8b1
              case y6_10_6_8b1 => intro w' _; go_simp; with_reducible rfl
              clear hD; intro hD
              simp only [Act.put, List.setIfInBounds_toArray, List.set_cons_zero, List.set_cons_succ]
              refine wpAnyK_pureD (i := 11) (d := some 38) (v := ?v6_11_6_8b1) (fuel := 2) rfl (by kernel_rfl) (by kernel_rfl) (fun _ _ _ h => h) hD hS_6_9_6_8 (.inl ⟨by kernel_rfl, ?y6_11_6_8b1⟩) ?n6_11_6_8b1
              case y6_11_6_8b1 => intro w' _; go_simp; with_reducible rfl
              clear hD; intro hD
              simp only [Act.put, List.setIfInBounds_toArray, List.set_cons_zero, List.set_cons_succ]
              refine wpAnyK_one (i := 12) (fuel := 1) (by kernel_rfl) rfl hD ?_
              clear hD; intro K12 hK12
              go_wp2
              refine hK12 _ _ (by exact hS_6_9_6_8) ?_; clear hK12; intro hS_6_12_6_8 hD
              refine wpAnyK_one (i := 13) (fuel := 0) (by kernel_rfl) rfl hD ?_
              clear hD; intro K13 hK13
              go_wp2
              refine hK13 _ _ (by exact hS_6_12_6_8) ?_; clear hK13; intro hS_6_13_6_8 hD
              refine wpAnyK_done (by kernel_rfl) ?_ 0
              clear hD
              have HBF := Lib.hid (HKD.out.trans (Below.mono hS_6_13_6_8 HKD.out.size))
              go_wp2
              go_ret2
              exact ⟨rfl, HBF.out⟩
        · have HR := Lib.hid (show R = .tuple #[.string ⟨#[]⟩, .int .i64 (pkC M O G H)] from by rw [← HRR.out]; unfold sfR; rw [hf, hvc, hz, if_neg (by decide), if_neg hc])
          rw [HR.out]
          obtain ⟨cc, hcc⟩ : ∃ cc, pkC M O G H = cc := ⟨_, rfl⟩
          rw [hcc] at HCK hc ⊢
          have hcb : (cc == 0) = false := by rw [beq_eq_false_iff_ne]; exact hc
          have hcb2 : (cc != 0) = true := by rw [bne, hcb]; rfl
          clear hf hvc hz hc hcc
          go_enter Try.func27, Try.ntmps27
          have hk := KI.new w M O G H bb bt
          obtain ⟨W0, hW0⟩ : ∃ W, (w.alloc (.cells #[.string M, .string O, .string G, .string H] 26)).alloc (.cells #[.bool bb, .string bt] 38) = W := ⟨_, rfl⟩
          rw [hW0] at hk
          have HK := Lib.hid hk
          obtain ⟨c0, c1, c2, c3⟩ := hk.1.cells
          have b0 := hk.2.1.c0
          have b1 := hk.2.1.c1
          clear hk
          go_wp2_with fail
          try rw [hW0]
          clear hW0
          refine (HF.out _).mono ?_
          rintro ev w1 ⟨rfl, hb⟩
          have hk := HK.out.next hb
          have HK := Lib.hid hk
          clear hb c0 c1 c2 c3 b0 b1
          obtain ⟨c0, c1, c2, c3⟩ := hk.1.cells
          have b0 := hk.2.1.c0
          have b1 := hk.2.1.c1
          clear hk
          go_wp2_with fail
          refine (HVC.out _).mono ?_
          rintro ev w2 ⟨rfl, rfl⟩
          go_wp2_with fail
          refine (HVB.out _).mono ?_
          rintro ev w2 ⟨rfl, hb⟩
          have hk := HK.out.next hb
          have HK := Lib.hid hk
          clear hb c0 c1 c2 c3 b0 b1
          obtain ⟨c0, c1, c2, c3⟩ := hk.1.cells
          have b0 := hk.2.1.c0
          have b1 := hk.2.1.c1
          clear hk
          go_wp2_with fail
          refine (HCK.out _).mono ?_
          rintro ev w3 ⟨rfl, hb⟩
          have hk := HK.out.next hb
          have HK := Lib.hid hk
          clear hb c0 c1 c2 c3 b0 b1
          obtain ⟨c0, c1, c2, c3⟩ := hk.1.cells
          have b0 := hk.2.1.c0
          have b1 := hk.2.1.c1
          clear hk
          go_wp2
          go_ret2
          exact ⟨rfl, HK.out.2.2⟩
end Go.Proofs.Ytnnfgphioapmnaa

/- Walks: pedersen.Times of numbers whose products fit, pedersen.Shift of a canonical number. -/
import Derived.Test.YtnnfgphioapmnaaPeT
set_option linter.unusedVariables false
set_option linter.unusedSimpArgs false
namespace Go.Proofs.Ytnnfgphioapmnaa
open Go.RowKit

/-- A key, an opening, an integer and a place for the result. -/
def K4 (w W : World) (M O G H : ByteArray) (vb : Bool) (vt : ByteArray) (rb : Bool) (rt : ByteArray) (bb : Bool) (bt : ByteArray) : Prop :=
  KO w W M O G H vb vt rb rt ∧ Bx2 W (w.heap.size + 1 + 1) (.bool bb) (.string bt) 38 ∧ Bx4 W (w.heap.size + 1 + 1 + 1) (.bool false) (.string ⟨#[]⟩) (.bool false) (.string ⟨#[]⟩) 43
theorem K4.new (w : World) (M O G H : ByteArray) (vb : Bool) (vt : ByteArray) (rb : Bool) (rt : ByteArray) (bb : Bool) (bt : ByteArray) : K4 w ((((w.alloc (.cells #[.string M, .string O, .string G, .string H] 26)).alloc (.cells #[.bool vb, .string vt, .bool rb, .string rt] 43)).alloc (.cells #[.bool bb, .string bt] 38)).alloc (.cells #[.bool false, .string ⟨#[]⟩, .bool false, .string ⟨#[]⟩] 43)) M O G H vb vt rb rt bb bt := by
  refine ⟨((KO.new w M O G H vb vt rb rt).next ((Below.refl _ _).alloc (Nat.le_refl _) _)).next ((Below.refl _ _).alloc (Nat.le_refl _) _), ?_, ?_⟩
  · have := Bx2.new ((w.alloc (.cells #[.string M, .string O, .string G, .string H] 26)).alloc (.cells #[.bool vb, .string vt, .bool rb, .string rt] 43)) (.bool bb) (.string bt) 38
    rw [World.size_alloc, World.size_alloc] at this
    exact this.next ((Below.refl _ _).alloc (Nat.le_refl _) _)
  · have := Bx4.new (((w.alloc (.cells #[.string M, .string O, .string G, .string H] 26)).alloc (.cells #[.bool vb, .string vt, .bool rb, .string rt] 43)).alloc (.cells #[.bool bb, .string bt] 38)) (.bool false) (.string ⟨#[]⟩) (.bool false) (.string ⟨#[]⟩) 43
    rw [World.size_alloc, World.size_alloc, World.size_alloc] at this
    exact this
theorem K4.next {w W W' : World} {M O G H : ByteArray} {vb : Bool} {vt : ByteArray} {rb : Bool} {rt : ByteArray} {bb : Bool} {bt : ByteArray} (h : K4 w W M O G H vb vt rb rt bb bt) (hb : Below W.heap.size W W') : K4 w W' M O G H vb vt rb rt bb bt := ⟨h.1.next hb, h.2.1.next hb, h.2.2.next hb⟩
set_option maxRecDepth 100000 in
set_option maxHeartbeats 4000000 in
theorem pk_Times_ok (M G H : ByteArray) (o : Nat) (v r b : Int) (hM : M.size ≤ 8) (ho : o < 18446744073709551616) (hG : G.size ≤ 1000) (hH : H.size ≤ 1000) (hv : v.natAbs < 256 ^ 128) (hr : r.natAbs < 256 ^ 128) (hb : b.natAbs < 256 ^ 128)
    (hc : pkC M (nS o) G H = 0) (hvb : (v * b).natAbs < 256 ^ 128) (hrb : (r * b).natAbs < 256 ^ 128)
    (hm1 : ∀ w, Calls Try.prog 48 #[intV v, intV b] w (Ret (fitZ (v * b)) w)) (hm2 : ∀ w, Calls Try.prog 48 #[intV r, intV b] w (Ret (fitZ (r * b)) w))
    (hd1 : 0 < o → ∀ w, Calls Try.prog 18 #[intV (v * b), .string (nS o)] w (Ret (.tuple #[.string (nS (v * b % o).toNat), .int .i64 0]) w)) (hd2 : 0 < o → ∀ w, Calls Try.prog 18 #[intV (r * b), .string (nS o)] w (Ret (.tuple #[.string (nS (r * b % o).toNat), .int .i64 0]) w)) (w : World) :
    Calls Try.prog 26 #[kV M (nS o) G H, arV v r, intV b] w (Ret (.tuple #[arV (redZ o (v * b)) (redZ o (r * b)), .int .i64 0]) w) := by
  have hos := nS_small_size ho
  have hkf : kF M (nS o) G H = true := by
    cases h : kF M (nS o) G H with
    | true => rfl
    | false => unfold pkC at hc; rw [if_pos h] at hc; cases hc
  have HF := Lib.hid (pk_formed M (nS o) G H (by omega) (by omega) hG hH)
  rw [hkf] at HF
  have hsv := nS_size_le.2 hv
  have hsr := nS_size_le.2 hr
  have HVA := Lib.hid (pk_valid (decide (v < 0)) (nS v.natAbs) (decide (r < 0)) (nS r.natAbs) (by omega) (by omega))
  have hzz : ∀ z : Int, z.natAbs < 256 ^ 128 → zvalid (decide (z < 0)) (nS z.natAbs) = true := fun z h => by
    unfold zvalid
    rw [nvalid_nS.2 h, Bool.true_and]
    by_cases hz : z < 0
    · rw [empty_nS (by omega), Bool.and_false]; rfl
    · rw [decide_eq_false hz]; rfl
  rw [hzz v hv, hzz r hr, Bool.and_true] at HVA
  have HVB := Lib.hid (int_Valid_n b hb)
  have HCK := Lib.hid (pk_Check M (nS o) G H hM hos hG hH)
  rw [hc] at HCK
  rw [fitZ_in hvb] at hm1
  rw [fitZ_in hrb] at hm2
  have HM1 := Lib.hid hm1
  have HM2 := Lib.hid hm2
  have HRD := Lib.hid (pk_reduced o M G H (v * b) (r * b) (lt128_of_lt8 ho) hd1 hd2)
  obtain ⟨v2, hv2⟩ : ∃ z, v * b = z := ⟨_, rfl⟩
  obtain ⟨r2, hr2⟩ : ∃ z, r * b = z := ⟨_, rfl⟩
  rw [hv2] at HM1 HRD ⊢
  rw [hr2] at HM2 HRD ⊢
  unfold oV at HVA
  unfold kV arV at *
  unfold intV zV at *
  obtain ⟨O, hO⟩ : ∃ x, nS o = x := ⟨_, rfl⟩
  obtain ⟨vb, hvb⟩ : ∃ t, decide (v < 0) = t := ⟨_, rfl⟩
  obtain ⟨vt, hvs⟩ : ∃ t, nS v.natAbs = t := ⟨_, rfl⟩
  obtain ⟨rb, hrb⟩ : ∃ t, decide (r < 0) = t := ⟨_, rfl⟩
  obtain ⟨rt, hrs⟩ : ∃ t, nS r.natAbs = t := ⟨_, rfl⟩
  obtain ⟨bb, hbb⟩ : ∃ t, decide (b < 0) = t := ⟨_, rfl⟩
  obtain ⟨bt, hbs⟩ : ∃ t, nS b.natAbs = t := ⟨_, rfl⟩
  obtain ⟨v2b, hv2b⟩ : ∃ t, decide (v2 < 0) = t := ⟨_, rfl⟩
  obtain ⟨v2t, hv2s⟩ : ∃ t, nS v2.natAbs = t := ⟨_, rfl⟩
  obtain ⟨r2b, hr2b⟩ : ∃ t, decide (r2 < 0) = t := ⟨_, rfl⟩
  obtain ⟨r2t, hr2s⟩ : ∃ t, nS r2.natAbs = t := ⟨_, rfl⟩
  obtain ⟨x1, hx1⟩ : ∃ t, decide (redZ o v2 < 0) = t := ⟨_, rfl⟩
  obtain ⟨x2, hx2⟩ : ∃ t, nS (redZ o v2).natAbs = t := ⟨_, rfl⟩
  obtain ⟨x3, hx3⟩ : ∃ t, decide (redZ o r2 < 0) = t := ⟨_, rfl⟩
  obtain ⟨x4, hx4⟩ : ∃ t, nS (redZ o r2).natAbs = t := ⟨_, rfl⟩
  rw [hO] at HF HCK HRD ⊢
  rw [hvb, hvs, hrb, hrs] at HVA
  rw [hbb, hbs] at HVB
  rw [hvb, hvs, hbb, hbs, hv2b, hv2s] at HM1
  rw [hrb, hrs, hbb, hbs, hr2b, hr2s] at HM2
  rw [hv2b, hv2s, hr2b, hr2s, hx1, hx2, hx3, hx4] at HRD
  rw [hvb, hvs, hrb, hrs, hbb, hbs, hx1, hx2, hx3, hx4]
  clear hO hvb hvs hrb hrs hbb hbs hv2b hv2s hr2b hr2s hx1 hx2 hx3 hx4 hv2 hr2 hm1 hm2 hd1 hd2 hc hkf hzz hos hsv hsr hM ho hG hH hv hr hb
  go_enter Try.func26, Try.ntmps26
  have hk := K4.new w M O G H vb vt rb rt bb bt
  obtain ⟨W0, hW0⟩ : ∃ W, (((w.alloc (.cells #[.string M, .string O, .string G, .string H] 26)).alloc (.cells #[.bool vb, .string vt, .bool rb, .string rt] 43)).alloc (.cells #[.bool bb, .string bt] 38)).alloc (.cells #[.bool false, .string ⟨#[]⟩, .bool false, .string ⟨#[]⟩] 43) = W := ⟨_, rfl⟩
  rw [hW0] at hk
  have HK := Lib.hid hk
  obtain ⟨⟨c0, c1, c2, c3⟩, d0, d1, d2, d3⟩ := hk.1.cells
  have b0 := hk.2.1.c0
  have b1 := hk.2.1.c1
  clear hk
  go_wp2_with fail
  try rw [hW0]
  clear hW0
  refine (HF.out _).mono ?_
  rintro ev w1 ⟨rfl, hb⟩
  have hk := HK.out.next hb
  have HK := Lib.hid hk
  clear hb c0 c1 c2 c3 d0 d1 d2 d3 b0 b1
  obtain ⟨⟨c0, c1, c2, c3⟩, d0, d1, d2, d3⟩ := hk.1.cells
  have b0 := hk.2.1.c0
  have b1 := hk.2.1.c1
  clear hk
  go_wp2_with fail
  refine (HVA.out _).mono ?_
  rintro ev w2 ⟨rfl, hb⟩
  have hk := HK.out.next hb
  have HK := Lib.hid hk
  clear hb c0 c1 c2 c3 d0 d1 d2 d3 b0 b1
  obtain ⟨⟨c0, c1, c2, c3⟩, d0, d1, d2, d3⟩ := hk.1.cells
  have b0 := hk.2.1.c0
  have b1 := hk.2.1.c1
  clear hk
  go_wp2_with fail
  refine (HVB.out _).mono ?_
  rintro ev w3 ⟨rfl, hb⟩
  have hk := HK.out.next hb
  have HK := Lib.hid hk
  clear hb c0 c1 c2 c3 d0 d1 d2 d3 b0 b1
  obtain ⟨⟨c0, c1, c2, c3⟩, d0, d1, d2, d3⟩ := hk.1.cells
  have b0 := hk.2.1.c0
  have b1 := hk.2.1.c1
  clear hk
  go_wp2_with fail
  refine (HCK.out _).mono ?_
  rintro ev w4 ⟨rfl, hb⟩
  have hk := HK.out.next hb
  have HK := Lib.hid hk
  clear hb c0 c1 c2 c3 d0 d1 d2 d3 b0 b1
  obtain ⟨⟨c0, c1, c2, c3⟩, d0, d1, d2, d3⟩ := hk.1.cells
  have b0 := hk.2.1.c0
  have b1 := hk.2.1.c1
  clear hk
  go_wp2_with fail
  refine (HM1.out _).mono ?_
  rintro ev w5 ⟨rfl, hb⟩
  have hk := HK.out.next hb
  have HK := Lib.hid hk
  clear hb c0 c1 c2 c3 d0 d1 d2 d3 b0 b1
  obtain ⟨⟨c0, c1, c2, c3⟩, d0, d1, d2, d3⟩ := hk.1.cells
  have b0 := hk.2.1.c0
  have b1 := hk.2.1.c1
  clear hk
  have hb : Below w5.heap.size w5 (w5.alloc (.cells #[.bool v2b, .string v2t] 38)) := (Below.refl _ _).alloc (Nat.le_refl _) _
  have hn := Bx2.new w5 (.bool v2b) (.string v2t) 38
  obtain ⟨W5, hW5⟩ : ∃ W, w5.alloc (.cells #[.bool v2b, .string v2t] 38) = W := ⟨_, rfl⟩
  obtain ⟨B5, hB5⟩ : ∃ B, w5.heap.size = B := ⟨_, rfl⟩
  rw [hW5] at hb hn
  rw [hB5] at hn
  have HN5 := Lib.hid hn
  clear hn
  have hk := HK.out.next hb
  have HK := Lib.hid hk
  clear hb c0 c1 c2 c3 d0 d1 d2 d3 b0 b1
  obtain ⟨⟨c0, c1, c2, c3⟩, d0, d1, d2, d3⟩ := hk.1.cells
  have b0 := hk.2.1.c0
  have b1 := hk.2.1.c1
  clear hk
  go_wp2_with fail
  try rw [hW5]
  try rw [hB5]
  clear hW5 hB5
  refine (HM2.out _).mono ?_
  rintro ev w6 ⟨rfl, hb⟩
  have HN6 := Lib.hid (HN5.out.next hb)
  have hk := HK.out.next hb
  have HK := Lib.hid hk
  clear hb c0 c1 c2 c3 d0 d1 d2 d3 b0 b1
  obtain ⟨⟨c0, c1, c2, c3⟩, d0, d1, d2, d3⟩ := hk.1.cells
  have b0 := hk.2.1.c0
  have b1 := hk.2.1.c1
  clear hk
  have hb : Below w6.heap.size w6 (w6.alloc (.cells #[.bool r2b, .string r2t] 38)) := (Below.refl _ _).alloc (Nat.le_refl _) _
  have hn := Bx2.new w6 (.bool r2b) (.string r2t) 38
  obtain ⟨W6, hW6⟩ : ∃ W, w6.alloc (.cells #[.bool r2b, .string r2t] 38) = W := ⟨_, rfl⟩
  obtain ⟨B6, hB6⟩ : ∃ B, w6.heap.size = B := ⟨_, rfl⟩
  rw [hW6] at hb hn
  rw [hB6] at hn
  have hn5 := HN6.out.next hb
  have n0 := hn5.c0
  have n1 := hn5.c1
  have m0 := hn.c0
  have m1 := hn.c1
  clear hn hn5
  have hk := HK.out.next hb
  have HK := Lib.hid hk
  clear hb c0 c1 c2 c3 d0 d1 d2 d3 b0 b1
  obtain ⟨⟨c0, c1, c2, c3⟩, d0, d1, d2, d3⟩ := hk.1.cells
  have b0 := hk.2.1.c0
  have b1 := hk.2.1.c1
  clear hk
  go_wp2_with fail
  try rw [hW6]
  try rw [hB6]
  clear hW6 hB6
  refine (HRD.out _).mono ?_
  rintro ev w7 ⟨rfl, hb⟩
  have hk := HK.out.next hb
  have HK := Lib.hid hk
  clear hb c0 c1 c2 c3 d0 d1 d2 d3 b0 b1 n0 n1 m0 m1
  obtain ⟨r0, r1, r2, r3⟩ := hk.2.2.cells
  have f0 := hk.2.2.free 0
  have f1 := hk.2.2.free 1
  have f2 := hk.2.2.free 2
  have f3 := hk.2.2.free 3
  clear hk
  go_wp2
  obtain ⟨q0, q1, q2, q3⟩ := (HK.out.2.2.set4 (a := .bool x1) (b := .string x2) (c := .bool x3) (d := .string x4)).cells
  exact bodyPost_ret (v := .tuple #[.agg #[.bool x1, .string x2, .bool x3, .string x4], .int .i64 0]) (by simp [results, Try.results26, go_sem, q0, q1, q2, q3]) rfl ⟨rfl, below_set4 HK.out.1.2.2 (by omega) _ _ _ _⟩
end Go.Proofs.Ytnnfgphioapmnaa

/- Walks: pedersen.Sum, Times. -/
import Derived.Test.YtnnfgphioapmnaaLdG
import Derived.Test.YtnnfgphioapmnaaPeV
set_option linter.unusedVariables false
set_option linter.unusedSimpArgs false
namespace Go.Proofs.Ytnnfgphioapmnaa
open Go.RowKit

theorem kF_parts' {M O G H : ByteArray} (h : kF M O G H = true) : nvalid M = true ∧ nvalid O = true ∧ nvalid G = true ∧ nvalid H = true := by
  unfold kF at h
  simp only [Bool.and_eq_true] at h
  exact ⟨h.1.1.1, h.1.1.2, h.1.2, h.2⟩
theorem sg_natAbs (b : Bool) (n : Nat) : (sg b n).natAbs = n := by
  unfold sg
  split <;> omega
/-- A key, two openings and a place for the result. -/
def KS (w W : World) (M O G H : ByteArray) (vb : Bool) (vt : ByteArray) (rb : Bool) (rt : ByteArray) (xb : Bool) (xt : ByteArray) (yb : Bool) (yt : ByteArray) : Prop :=
  KO w W M O G H vb vt rb rt ∧ Bx4 W (w.heap.size + 1 + 1) (.bool xb) (.string xt) (.bool yb) (.string yt) 43 ∧ Bx4 W (w.heap.size + 1 + 1 + 1) (.bool false) (.string ⟨#[]⟩) (.bool false) (.string ⟨#[]⟩) 43
theorem KS.new (w : World) (M O G H : ByteArray) (vb : Bool) (vt : ByteArray) (rb : Bool) (rt : ByteArray) (xb : Bool) (xt : ByteArray) (yb : Bool) (yt : ByteArray) : KS w ((((w.alloc (.cells #[.string M, .string O, .string G, .string H] 26)).alloc (.cells #[.bool vb, .string vt, .bool rb, .string rt] 43)).alloc (.cells #[.bool xb, .string xt, .bool yb, .string yt] 43)).alloc (.cells #[.bool false, .string ⟨#[]⟩, .bool false, .string ⟨#[]⟩] 43)) M O G H vb vt rb rt xb xt yb yt := by
  refine ⟨((KO.new w M O G H vb vt rb rt).next ((Below.refl _ _).alloc (Nat.le_refl _) _)).next ((Below.refl _ _).alloc (Nat.le_refl _) _), ?_, ?_⟩
  · have := (Bx4.new ((w.alloc (.cells #[.string M, .string O, .string G, .string H] 26)).alloc (.cells #[.bool vb, .string vt, .bool rb, .string rt] 43)) (.bool xb) (.string xt) (.bool yb) (.string yt) 43).next ((Below.refl _ _).alloc (Nat.le_refl _) (.cells #[.bool false, .string ⟨#[]⟩, .bool false, .string ⟨#[]⟩] 43))
    rwa [World.size_alloc, World.size_alloc] at this
  · have := Bx4.new (((w.alloc (.cells #[.string M, .string O, .string G, .string H] 26)).alloc (.cells #[.bool vb, .string vt, .bool rb, .string rt] 43)).alloc (.cells #[.bool xb, .string xt, .bool yb, .string yt] 43)) (.bool false) (.string ⟨#[]⟩) (.bool false) (.string ⟨#[]⟩) 43
    rwa [World.size_alloc, World.size_alloc, World.size_alloc] at this
theorem KS.next {w W W' : World} {M O G H : ByteArray} {vb : Bool} {vt : ByteArray} {rb : Bool} {rt : ByteArray} {xb : Bool} {xt : ByteArray} {yb : Bool} {yt : ByteArray} (h : KS w W M O G H vb vt rb rt xb xt yb yt) (hb : Below W.heap.size W W') : KS w W' M O G H vb vt rb rt xb xt yb yt := ⟨h.1.next hb, h.2.1.next hb, h.2.2.next hb⟩
/-- What Sum and Times return, where key and arguments are valid. -/
def smZ (o : Nat) (z1 z2 : Int) : Value := if z1.natAbs < 256 ^ 128 ∧ z2.natAbs < 256 ^ 128 then .tuple #[arV (redZ o z1) (redZ o z2), .int .i64 0] else .tuple #[arV 0 0, .int .i64 5]
/-- What Sum and Times return. -/
def smR (M O G H : ByteArray) (ok : Bool) (z1 z2 : Int) : Value := if (kF M O G H && ok) = false then .tuple #[arV 0 0, .int .i64 3] else if pkC M O G H = 0 then smZ (num O) z1 z2 else .tuple #[arV 0 0, .int .i64 (pkC M O G H)]
theorem arV_zero : arV 0 0 = .agg #[.bool false, .string ⟨#[]⟩, .bool false, .string ⟨#[]⟩] := rfl
theorem fitZ_form (z : Int) : ∃ (b : Bool) (s : ByteArray) (e : Int), fitZ z = .tuple #[.agg #[.bool b, .string s], .int .i64 e] := by
  unfold fitZ intV zV
  split
  · exact ⟨_, _, _, rfl⟩
  · exact ⟨_, _, _, rfl⟩
theorem fitZ_out {z : Int} (h : ¬ (z.natAbs < 256 ^ 128)) : ∃ (b : Bool) (s : ByteArray), fitZ z = .tuple #[.agg #[.bool b, .string s], .int .i64 5] := by unfold fitZ; rw [if_neg h]; exact ⟨_, _, rfl⟩
theorem zvalid_all {z : Int} (h : z.natAbs < 256 ^ 128) : zvalid (decide (z < 0)) (nS z.natAbs) = true := by
  unfold zvalid
  rw [nvalid_nS.2 h, Bool.true_and]
  by_cases hz : z < 0
  · rw [empty_nS (by omega), Bool.and_false]; rfl
  · rw [decide_eq_false hz]; rfl
theorem pkC_kF {M O G H : ByteArray} (h : pkC M O G H = 0) : kF M O G H = true := by
  cases hk : kF M O G H with
  | true => rfl
  | false => unfold pkC at h; rw [if_pos hk] at h; cases h
/-- A valid integer's fields. -/
theorem zv_parts {b : Bool} {s : ByteArray} (h : zvalid b s = true) : b = decide (sg b (num s) < 0) ∧ s = nS (sg b (num s)).natAbs ∧ (sg b (num s)).natAbs < 256 ^ 128 := by
  obtain ⟨h1, h2⟩ := zv_valid h
  unfold zV intV zV at h2
  have h3 : b = decide (sg b (num s) < 0) ∧ s = nS (sg b (num s)).natAbs := by
    injection h2 with h2
    have h4 : [Value.bool b, Value.string s] = [Value.bool (decide (sg b (num s) < 0)), Value.string (nS (sg b (num s)).natAbs)] := congrArg Array.toList h2
    injection h4 with h5 h6
    injection h6 with h6 h7
    injection h5 with h5
    injection h6 with h6
    exact ⟨h5, h6⟩
  refine ⟨h3.1, h3.2, ?_⟩
  rw [sg_natAbs]
  exact nvalid_lt h1
set_option maxRecDepth 100000 in
set_option maxHeartbeats 4000000 in
theorem pk_Sum_core (M G H : ByteArray) (o : Nat) (v r x y : Int) (z1 z2 : Int) (hM : M.size ≤ 8) (ho : o < 18446744073709551616) (hG : G.size ≤ 1000) (hH : H.size ≤ 1000) (hv : v.natAbs < 256 ^ 128) (hr : r.natAbs < 256 ^ 128) (hx : x.natAbs < 256 ^ 128) (hy : y.natAbs < 256 ^ 128) (hc : pkC M (nS o) G H = 0)
    (hm1 : ∀ w, Calls Try.prog 38 #[intV v, intV x] w (Ret (fitZ z1) w)) (hm2 : ∀ w, Calls Try.prog 38 #[intV r, intV y] w (Ret (fitZ z2) w)) (w : World) : Calls Try.prog 24 #[kV M (nS o) G H, arV v r, arV x y] w (Ret (smZ o z1 z2) w) := by
  have hos := nS_small_size ho
  have hkf := pkC_kF hc
  have HF := Lib.hid (pk_formed M (nS o) G H (by omega) (by omega) hG hH)
  rw [hkf] at HF
  have hsv := nS_size_le.2 hv
  have hsr := nS_size_le.2 hr
  have HVA := Lib.hid (pk_valid (decide (v < 0)) (nS v.natAbs) (decide (r < 0)) (nS r.natAbs) (by omega) (by omega))
  rw [zvalid_all hv, zvalid_all hr, Bool.and_true] at HVA
  have hsx := nS_size_le.2 hx
  have hsy := nS_size_le.2 hy
  have HVB := Lib.hid (pk_valid (decide (x < 0)) (nS x.natAbs) (decide (y < 0)) (nS y.natAbs) (by omega) (by omega))
  rw [zvalid_all hx, zvalid_all hy, Bool.and_true] at HVB
  have HCK := Lib.hid (pk_Check M (nS o) G H hM hos hG hH)
  rw [hc] at HCK
  by_cases f1 : z1.natAbs < 256 ^ 128
  · by_cases f2 : z2.natAbs < 256 ^ 128
    · have hsm : smZ o z1 z2 = .tuple #[arV (redZ o z1) (redZ o z2), .int .i64 0] := by unfold smZ; rw [if_pos ⟨f1, f2⟩]
      rw [fitZ_in f1] at hm1
      rw [fitZ_in f2] at hm2
      rw [hsm]
      have HM1 := Lib.hid hm1
      have HM2 := Lib.hid hm2
      have HRD := Lib.hid (pk_reduced o M G H z1 z2 (lt128_of_lt8 ho) (fun h0 => int_ModA z1 o f1 (lt128_of_lt8 ho) h0) (fun h0 => int_ModA z2 o f2 (lt128_of_lt8 ho) h0))
      clear hsm
      unfold oV at HVA HVB
      unfold kV arV at *
      unfold intV zV at *
      obtain ⟨O, gO⟩ : ∃ t, nS o = t := ⟨_, rfl⟩
      obtain ⟨vb, gvb⟩ : ∃ t, decide (v < 0) = t := ⟨_, rfl⟩
      obtain ⟨vt, gvt⟩ : ∃ t, nS v.natAbs = t := ⟨_, rfl⟩
      obtain ⟨rb, grb⟩ : ∃ t, decide (r < 0) = t := ⟨_, rfl⟩
      obtain ⟨rt, grt⟩ : ∃ t, nS r.natAbs = t := ⟨_, rfl⟩
      obtain ⟨xb, gxb⟩ : ∃ t, decide (x < 0) = t := ⟨_, rfl⟩
      obtain ⟨xt, gxt⟩ : ∃ t, nS x.natAbs = t := ⟨_, rfl⟩
      obtain ⟨yb, gyb⟩ : ∃ t, decide (y < 0) = t := ⟨_, rfl⟩
      obtain ⟨yt, gyt⟩ : ∃ t, nS y.natAbs = t := ⟨_, rfl⟩
      obtain ⟨z1b, gz1b⟩ : ∃ t, decide (z1 < 0) = t := ⟨_, rfl⟩
      obtain ⟨z1t, gz1t⟩ : ∃ t, nS z1.natAbs = t := ⟨_, rfl⟩
      obtain ⟨z2b, gz2b⟩ : ∃ t, decide (z2 < 0) = t := ⟨_, rfl⟩
      obtain ⟨z2t, gz2t⟩ : ∃ t, nS z2.natAbs = t := ⟨_, rfl⟩
      obtain ⟨x1, gx1⟩ : ∃ t, decide (redZ o z1 < 0) = t := ⟨_, rfl⟩
      obtain ⟨x2, gx2⟩ : ∃ t, nS (redZ o z1).natAbs = t := ⟨_, rfl⟩
      obtain ⟨x3, gx3⟩ : ∃ t, decide (redZ o z2 < 0) = t := ⟨_, rfl⟩
      obtain ⟨x4, gx4⟩ : ∃ t, nS (redZ o z2).natAbs = t := ⟨_, rfl⟩
      rw [gO] at HF HCK HRD ⊢
      rw [gvb, gvt, grb, grt] at HVA
      rw [gxb, gxt, gyb, gyt] at HVB
      rw [gvb, gvt, gxb, gxt, gz1b, gz1t] at HM1
      rw [grb, grt, gyb, gyt, gz2b, gz2t] at HM2
      rw [gz1b, gz1t, gz2b, gz2t, gx1, gx2, gx3, gx4] at HRD
      rw [gvb, gvt, grb, grt, gxb, gxt, gyb, gyt, gx1, gx2, gx3, gx4]
      clear gO gvb gvt grb grt gxb gxt gyb gyt gz1b gz1t gz2b gz2t gx1 gx2 gx3 gx4
      clear hM ho hG hH hv hr hc hkf hos hsv hsr hm1 hm2 hx hy hsx hsy
      clear f1 f2
      go_enter Try.func24, Try.ntmps24
      have hk := KS.new w M O G H vb vt rb rt xb xt yb yt
      obtain ⟨W0, hW0⟩ : ∃ W, (((w.alloc (.cells #[.string M, .string O, .string G, .string H] 26)).alloc (.cells #[.bool vb, .string vt, .bool rb, .string rt] 43)).alloc (.cells #[.bool xb, .string xt, .bool yb, .string yt] 43)).alloc (.cells #[.bool false, .string ⟨#[]⟩, .bool false, .string ⟨#[]⟩] 43) = W := ⟨_, rfl⟩
      rw [hW0] at hk
      have HK := Lib.hid hk
      obtain ⟨⟨c0, c1, c2, c3⟩, d0, d1, d2, d3⟩ := hk.1.cells
      obtain ⟨e0, e1, e2, e3⟩ := hk.2.1.cells
      obtain ⟨r0, r1, r2, r3⟩ := hk.2.2.cells
      have f0 := hk.2.2.free 0
      have f1 := hk.2.2.free 1
      have f2 := hk.2.2.free 2
      have f3 := hk.2.2.free 3
      clear hk
      go_wp2_with fail
      try rw [hW0]
      clear hW0
      refine (HF.out _).mono ?_
      rintro ev w1 ⟨rfl, hb⟩
      have hk := HK.out.next hb
      have HK := Lib.hid hk
      clear hb c0 c1 c2 c3 d0 d1 d2 d3 e0 e1 e2 e3 r0 r1 r2 r3 f0 f1 f2 f3
      obtain ⟨⟨c0, c1, c2, c3⟩, d0, d1, d2, d3⟩ := hk.1.cells
      obtain ⟨e0, e1, e2, e3⟩ := hk.2.1.cells
      obtain ⟨r0, r1, r2, r3⟩ := hk.2.2.cells
      have f0 := hk.2.2.free 0
      have f1 := hk.2.2.free 1
      have f2 := hk.2.2.free 2
      have f3 := hk.2.2.free 3
      clear hk
      go_wp2_with fail
      refine (HVA.out _).mono ?_
      rintro ev w2 ⟨rfl, hb⟩
      have hk := HK.out.next hb
      have HK := Lib.hid hk
      clear hb c0 c1 c2 c3 d0 d1 d2 d3 e0 e1 e2 e3 r0 r1 r2 r3 f0 f1 f2 f3
      obtain ⟨⟨c0, c1, c2, c3⟩, d0, d1, d2, d3⟩ := hk.1.cells
      obtain ⟨e0, e1, e2, e3⟩ := hk.2.1.cells
      obtain ⟨r0, r1, r2, r3⟩ := hk.2.2.cells
      have f0 := hk.2.2.free 0
      have f1 := hk.2.2.free 1
      have f2 := hk.2.2.free 2
      have f3 := hk.2.2.free 3
      clear hk
      go_wp2_with fail
      refine (HVB.out _).mono ?_
      rintro ev w3 ⟨rfl, hb⟩
      have hk := HK.out.next hb
      have HK := Lib.hid hk
      clear hb c0 c1 c2 c3 d0 d1 d2 d3 e0 e1 e2 e3 r0 r1 r2 r3 f0 f1 f2 f3
      obtain ⟨⟨c0, c1, c2, c3⟩, d0, d1, d2, d3⟩ := hk.1.cells
      obtain ⟨e0, e1, e2, e3⟩ := hk.2.1.cells
      obtain ⟨r0, r1, r2, r3⟩ := hk.2.2.cells
      have f0 := hk.2.2.free 0
      have f1 := hk.2.2.free 1
      have f2 := hk.2.2.free 2
      have f3 := hk.2.2.free 3
      clear hk
      go_wp2_with fail
      refine (HCK.out _).mono ?_
      rintro ev w4 ⟨rfl, hb⟩
      have hk := HK.out.next hb
      have HK := Lib.hid hk
      clear hb c0 c1 c2 c3 d0 d1 d2 d3 e0 e1 e2 e3 r0 r1 r2 r3 f0 f1 f2 f3
      obtain ⟨⟨c0, c1, c2, c3⟩, d0, d1, d2, d3⟩ := hk.1.cells
      obtain ⟨e0, e1, e2, e3⟩ := hk.2.1.cells
      obtain ⟨r0, r1, r2, r3⟩ := hk.2.2.cells
      have f0 := hk.2.2.free 0
      have f1 := hk.2.2.free 1
      have f2 := hk.2.2.free 2
      have f3 := hk.2.2.free 3
      clear hk
      go_wp2_with fail
      refine (HM1.out _).mono ?_
      rintro ev w5 ⟨rfl, hb⟩
      have hk := HK.out.next hb
      have HK := Lib.hid hk
      clear hb c0 c1 c2 c3 d0 d1 d2 d3 e0 e1 e2 e3 r0 r1 r2 r3 f0 f1 f2 f3
      obtain ⟨⟨c0, c1, c2, c3⟩, d0, d1, d2, d3⟩ := hk.1.cells
      obtain ⟨e0, e1, e2, e3⟩ := hk.2.1.cells
      obtain ⟨r0, r1, r2, r3⟩ := hk.2.2.cells
      have f0 := hk.2.2.free 0
      have f1 := hk.2.2.free 1
      have f2 := hk.2.2.free 2
      have f3 := hk.2.2.free 3
      clear hk
      have hb : Below w5.heap.size w5 (w5.alloc (.cells #[.bool z1b, .string z1t] 38)) := (Below.refl _ _).alloc (Nat.le_refl _) _
      have hn := Bx2.new w5 (.bool z1b) (.string z1t) 38
      obtain ⟨W5, hW5⟩ : ∃ W, w5.alloc (.cells #[.bool z1b, .string z1t] 38) = W := ⟨_, rfl⟩
      obtain ⟨B5, hB5⟩ : ∃ B, w5.heap.size = B := ⟨_, rfl⟩
      rw [hW5] at hb hn
      rw [hB5] at hn
      have HN5 := Lib.hid hn
      clear hn
      have hk := HK.out.next hb
      have HK := Lib.hid hk
      clear hb c0 c1 c2 c3 d0 d1 d2 d3 e0 e1 e2 e3 r0 r1 r2 r3 f0 f1 f2 f3
      obtain ⟨⟨c0, c1, c2, c3⟩, d0, d1, d2, d3⟩ := hk.1.cells
      obtain ⟨e0, e1, e2, e3⟩ := hk.2.1.cells
      obtain ⟨r0, r1, r2, r3⟩ := hk.2.2.cells
      have f0 := hk.2.2.free 0
      have f1 := hk.2.2.free 1
      have f2 := hk.2.2.free 2
      have f3 := hk.2.2.free 3
      clear hk
      go_wp2_with fail
      try rw [hW5]
      try rw [hB5]
      clear hW5 hB5
      refine (HM2.out _).mono ?_
      rintro ev w6 ⟨rfl, hb⟩
      have HN6 := Lib.hid (HN5.out.next hb)
      have hk := HK.out.next hb
      have HK := Lib.hid hk
      clear hb c0 c1 c2 c3 d0 d1 d2 d3 e0 e1 e2 e3 r0 r1 r2 r3 f0 f1 f2 f3
      obtain ⟨⟨c0, c1, c2, c3⟩, d0, d1, d2, d3⟩ := hk.1.cells
      obtain ⟨e0, e1, e2, e3⟩ := hk.2.1.cells
      obtain ⟨r0, r1, r2, r3⟩ := hk.2.2.cells
      have f0 := hk.2.2.free 0
      have f1 := hk.2.2.free 1
      have f2 := hk.2.2.free 2
      have f3 := hk.2.2.free 3
      clear hk
      have hb : Below w6.heap.size w6 (w6.alloc (.cells #[.bool z2b, .string z2t] 38)) := (Below.refl _ _).alloc (Nat.le_refl _) _
      have hn := Bx2.new w6 (.bool z2b) (.string z2t) 38
      obtain ⟨W6, hW6⟩ : ∃ W, w6.alloc (.cells #[.bool z2b, .string z2t] 38) = W := ⟨_, rfl⟩
      obtain ⟨B6, hB6⟩ : ∃ B, w6.heap.size = B := ⟨_, rfl⟩
      rw [hW6] at hb hn
      rw [hB6] at hn
      have hn5 := HN6.out.next hb
      have HN7 := Lib.hid hn5
      have HN8 := Lib.hid hn
      have n0 := hn5.c0
      have n1 := hn5.c1
      have m0 := hn.c0
      have m1 := hn.c1
      clear hn hn5
      have hk := HK.out.next hb
      have HK := Lib.hid hk
      clear hb c0 c1 c2 c3 d0 d1 d2 d3 e0 e1 e2 e3 r0 r1 r2 r3 f0 f1 f2 f3
      obtain ⟨⟨c0, c1, c2, c3⟩, d0, d1, d2, d3⟩ := hk.1.cells
      obtain ⟨e0, e1, e2, e3⟩ := hk.2.1.cells
      obtain ⟨r0, r1, r2, r3⟩ := hk.2.2.cells
      have f0 := hk.2.2.free 0
      have f1 := hk.2.2.free 1
      have f2 := hk.2.2.free 2
      have f3 := hk.2.2.free 3
      clear hk
      go_wp2_with fail
      try rw [hW6]
      try rw [hB6]
      clear hW6 hB6
      refine (HRD.out _).mono ?_
      rintro ev w7 ⟨rfl, hb⟩
      clear n0 n1 m0 m1
      have hk := HK.out.next hb
      have HK := Lib.hid hk
      clear hb c0 c1 c2 c3 d0 d1 d2 d3 e0 e1 e2 e3 r0 r1 r2 r3 f0 f1 f2 f3
      obtain ⟨⟨c0, c1, c2, c3⟩, d0, d1, d2, d3⟩ := hk.1.cells
      obtain ⟨e0, e1, e2, e3⟩ := hk.2.1.cells
      obtain ⟨r0, r1, r2, r3⟩ := hk.2.2.cells
      have f0 := hk.2.2.free 0
      have f1 := hk.2.2.free 1
      have f2 := hk.2.2.free 2
      have f3 := hk.2.2.free 3
      clear hk
      go_wp2
      obtain ⟨q0, q1, q2, q3⟩ := (HK.out.2.2.set4 (a := .bool x1) (b := .string x2) (c := .bool x3) (d := .string x4)).cells
      exact bodyPost_ret (v := .tuple #[.agg #[.bool x1, .string x2, .bool x3, .string x4], .int .i64 0]) (by simp [results, Try.results24, go_sem, q0, q1, q2, q3]) rfl ⟨rfl, below_set4 HK.out.1.2.2 (by omega) _ _ _ _⟩
    · have hsm : smZ o z1 z2 = .tuple #[arV 0 0, .int .i64 5] := by unfold smZ; rw [if_neg (fun h => f2 h.2)]
      rw [fitZ_in f1] at hm1
      obtain ⟨z2b, z2t, hz2⟩ := fitZ_out f2
      rw [hz2] at hm2
      rw [hsm]
      have HM1 := Lib.hid hm1
      have HM2 := Lib.hid hm2
      clear hsm
      clear hz2
      unfold oV at HVA HVB
      unfold kV arV at *
      unfold intV zV at *
      obtain ⟨O, gO⟩ : ∃ t, nS o = t := ⟨_, rfl⟩
      obtain ⟨vb, gvb⟩ : ∃ t, decide (v < 0) = t := ⟨_, rfl⟩
      obtain ⟨vt, gvt⟩ : ∃ t, nS v.natAbs = t := ⟨_, rfl⟩
      obtain ⟨rb, grb⟩ : ∃ t, decide (r < 0) = t := ⟨_, rfl⟩
      obtain ⟨rt, grt⟩ : ∃ t, nS r.natAbs = t := ⟨_, rfl⟩
      obtain ⟨xb, gxb⟩ : ∃ t, decide (x < 0) = t := ⟨_, rfl⟩
      obtain ⟨xt, gxt⟩ : ∃ t, nS x.natAbs = t := ⟨_, rfl⟩
      obtain ⟨yb, gyb⟩ : ∃ t, decide (y < 0) = t := ⟨_, rfl⟩
      obtain ⟨yt, gyt⟩ : ∃ t, nS y.natAbs = t := ⟨_, rfl⟩
      obtain ⟨z1b, gz1b⟩ : ∃ t, decide (z1 < 0) = t := ⟨_, rfl⟩
      obtain ⟨z1t, gz1t⟩ : ∃ t, nS z1.natAbs = t := ⟨_, rfl⟩
      rw [gO] at HF HCK ⊢
      rw [gvb, gvt, grb, grt] at HVA
      rw [gxb, gxt, gyb, gyt] at HVB
      rw [gvb, gvt, gxb, gxt, gz1b, gz1t] at HM1
      rw [grb, grt, gyb, gyt] at HM2
      rw [gvb, gvt, grb, grt, gxb, gxt, gyb, gyt]
      rw [show decide ((0 : Int) < 0) = false from rfl, show nS (0 : Int).natAbs = ⟨#[]⟩ from rfl]
      clear gO gvb gvt grb grt gxb gxt gyb gyt gz1b gz1t
      clear hM ho hG hH hv hr hc hkf hos hsv hsr hm1 hm2 hx hy hsx hsy
      clear f1 f2
      go_enter Try.func24, Try.ntmps24
      have hk := KS.new w M O G H vb vt rb rt xb xt yb yt
      obtain ⟨W0, hW0⟩ : ∃ W, (((w.alloc (.cells #[.string M, .string O, .string G, .string H] 26)).alloc (.cells #[.bool vb, .string vt, .bool rb, .string rt] 43)).alloc (.cells #[.bool xb, .string xt, .bool yb, .string yt] 43)).alloc (.cells #[.bool false, .string ⟨#[]⟩, .bool false, .string ⟨#[]⟩] 43) = W := ⟨_, rfl⟩
      rw [hW0] at hk
      have HK := Lib.hid hk
      obtain ⟨⟨c0, c1, c2, c3⟩, d0, d1, d2, d3⟩ := hk.1.cells
      obtain ⟨e0, e1, e2, e3⟩ := hk.2.1.cells
      obtain ⟨r0, r1, r2, r3⟩ := hk.2.2.cells
      have f0 := hk.2.2.free 0
      have f1 := hk.2.2.free 1
      have f2 := hk.2.2.free 2
      have f3 := hk.2.2.free 3
      clear hk
      go_wp2_with fail
      try rw [hW0]
      clear hW0
      refine (HF.out _).mono ?_
      rintro ev w1 ⟨rfl, hb⟩
      have hk := HK.out.next hb
      have HK := Lib.hid hk
      clear hb c0 c1 c2 c3 d0 d1 d2 d3 e0 e1 e2 e3 r0 r1 r2 r3 f0 f1 f2 f3
      obtain ⟨⟨c0, c1, c2, c3⟩, d0, d1, d2, d3⟩ := hk.1.cells
      obtain ⟨e0, e1, e2, e3⟩ := hk.2.1.cells
      obtain ⟨r0, r1, r2, r3⟩ := hk.2.2.cells
      have f0 := hk.2.2.free 0
      have f1 := hk.2.2.free 1
      have f2 := hk.2.2.free 2
      have f3 := hk.2.2.free 3
      clear hk
      go_wp2_with fail
      refine (HVA.out _).mono ?_
      rintro ev w2 ⟨rfl, hb⟩
      have hk := HK.out.next hb
      have HK := Lib.hid hk
      clear hb c0 c1 c2 c3 d0 d1 d2 d3 e0 e1 e2 e3 r0 r1 r2 r3 f0 f1 f2 f3
      obtain ⟨⟨c0, c1, c2, c3⟩, d0, d1, d2, d3⟩ := hk.1.cells
      obtain ⟨e0, e1, e2, e3⟩ := hk.2.1.cells
      obtain ⟨r0, r1, r2, r3⟩ := hk.2.2.cells
      have f0 := hk.2.2.free 0
      have f1 := hk.2.2.free 1
      have f2 := hk.2.2.free 2
      have f3 := hk.2.2.free 3
      clear hk
      go_wp2_with fail
      refine (HVB.out _).mono ?_
      rintro ev w3 ⟨rfl, hb⟩
      have hk := HK.out.next hb
      have HK := Lib.hid hk
      clear hb c0 c1 c2 c3 d0 d1 d2 d3 e0 e1 e2 e3 r0 r1 r2 r3 f0 f1 f2 f3
      obtain ⟨⟨c0, c1, c2, c3⟩, d0, d1, d2, d3⟩ := hk.1.cells
      obtain ⟨e0, e1, e2, e3⟩ := hk.2.1.cells
      obtain ⟨r0, r1, r2, r3⟩ := hk.2.2.cells
      have f0 := hk.2.2.free 0
      have f1 := hk.2.2.free 1
      have f2 := hk.2.2.free 2
      have f3 := hk.2.2.free 3
      clear hk
      go_wp2_with fail
      refine (HCK.out _).mono ?_
      rintro ev w4 ⟨rfl, hb⟩
      have hk := HK.out.next hb
      have HK := Lib.hid hk
      clear hb c0 c1 c2 c3 d0 d1 d2 d3 e0 e1 e2 e3 r0 r1 r2 r3 f0 f1 f2 f3
      obtain ⟨⟨c0, c1, c2, c3⟩, d0, d1, d2, d3⟩ := hk.1.cells
      obtain ⟨e0, e1, e2, e3⟩ := hk.2.1.cells
      obtain ⟨r0, r1, r2, r3⟩ := hk.2.2.cells
      have f0 := hk.2.2.free 0
      have f1 := hk.2.2.free 1
      have f2 := hk.2.2.free 2
      have f3 := hk.2.2.free 3
      clear hk
      go_wp2_with fail
      refine (HM1.out _).mono ?_
      rintro ev w5 ⟨rfl, hb⟩
      have hk := HK.out.next hb
      have HK := Lib.hid hk
      clear hb c0 c1 c2 c3 d0 d1 d2 d3 e0 e1 e2 e3 r0 r1 r2 r3 f0 f1 f2 f3
      obtain ⟨⟨c0, c1, c2, c3⟩, d0, d1, d2, d3⟩ := hk.1.cells
      obtain ⟨e0, e1, e2, e3⟩ := hk.2.1.cells
      obtain ⟨r0, r1, r2, r3⟩ := hk.2.2.cells
      have f0 := hk.2.2.free 0
      have f1 := hk.2.2.free 1
      have f2 := hk.2.2.free 2
      have f3 := hk.2.2.free 3
      clear hk
      have hb : Below w5.heap.size w5 (w5.alloc (.cells #[.bool z1b, .string z1t] 38)) := (Below.refl _ _).alloc (Nat.le_refl _) _
      have hn := Bx2.new w5 (.bool z1b) (.string z1t) 38
      obtain ⟨W5, hW5⟩ : ∃ W, w5.alloc (.cells #[.bool z1b, .string z1t] 38) = W := ⟨_, rfl⟩
      obtain ⟨B5, hB5⟩ : ∃ B, w5.heap.size = B := ⟨_, rfl⟩
      rw [hW5] at hb hn
      rw [hB5] at hn
      have HN5 := Lib.hid hn
      clear hn
      have hk := HK.out.next hb
      have HK := Lib.hid hk
      clear hb c0 c1 c2 c3 d0 d1 d2 d3 e0 e1 e2 e3 r0 r1 r2 r3 f0 f1 f2 f3
      obtain ⟨⟨c0, c1, c2, c3⟩, d0, d1, d2, d3⟩ := hk.1.cells
      obtain ⟨e0, e1, e2, e3⟩ := hk.2.1.cells
      obtain ⟨r0, r1, r2, r3⟩ := hk.2.2.cells
      have f0 := hk.2.2.free 0
      have f1 := hk.2.2.free 1
      have f2 := hk.2.2.free 2
      have f3 := hk.2.2.free 3
      clear hk
      go_wp2_with fail
      try rw [hW5]
      try rw [hB5]
      clear hW5 hB5
      refine (HM2.out _).mono ?_
      rintro ev w6 ⟨rfl, hb⟩
      have HN6 := Lib.hid (HN5.out.next hb)
      have hk := HK.out.next hb
      have HK := Lib.hid hk
      clear hb c0 c1 c2 c3 d0 d1 d2 d3 e0 e1 e2 e3 r0 r1 r2 r3 f0 f1 f2 f3
      obtain ⟨⟨c0, c1, c2, c3⟩, d0, d1, d2, d3⟩ := hk.1.cells
      obtain ⟨e0, e1, e2, e3⟩ := hk.2.1.cells
      obtain ⟨r0, r1, r2, r3⟩ := hk.2.2.cells
      have f0 := hk.2.2.free 0
      have f1 := hk.2.2.free 1
      have f2 := hk.2.2.free 2
      have f3 := hk.2.2.free 3
      clear hk
      have hb : Below w6.heap.size w6 (w6.alloc (.cells #[.bool z2b, .string z2t] 38)) := (Below.refl _ _).alloc (Nat.le_refl _) _
      have hn := Bx2.new w6 (.bool z2b) (.string z2t) 38
      obtain ⟨W6, hW6⟩ : ∃ W, w6.alloc (.cells #[.bool z2b, .string z2t] 38) = W := ⟨_, rfl⟩
      obtain ⟨B6, hB6⟩ : ∃ B, w6.heap.size = B := ⟨_, rfl⟩
      rw [hW6] at hb hn
      rw [hB6] at hn
      have hn5 := HN6.out.next hb
      have HN7 := Lib.hid hn5
      have HN8 := Lib.hid hn
      have n0 := hn5.c0
      have n1 := hn5.c1
      have m0 := hn.c0
      have m1 := hn.c1
      clear hn hn5
      have hk := HK.out.next hb
      have HK := Lib.hid hk
      clear hb c0 c1 c2 c3 d0 d1 d2 d3 e0 e1 e2 e3 r0 r1 r2 r3 f0 f1 f2 f3
      obtain ⟨⟨c0, c1, c2, c3⟩, d0, d1, d2, d3⟩ := hk.1.cells
      obtain ⟨e0, e1, e2, e3⟩ := hk.2.1.cells
      obtain ⟨r0, r1, r2, r3⟩ := hk.2.2.cells
      have f0 := hk.2.2.free 0
      have f1 := hk.2.2.free 1
      have f2 := hk.2.2.free 2
      have f3 := hk.2.2.free 3
      clear hk
      clear n0 n1 m0 m1
      go_wp2
      obtain ⟨q0, q1, q2, q3⟩ := (HK.out.2.2.set4 (a := .bool false) (b := .string ⟨#[]⟩) (c := .bool false) (d := .string ⟨#[]⟩)).cells
      exact bodyPost_ret (v := .tuple #[.agg #[.bool false, .string ⟨#[]⟩, .bool false, .string ⟨#[]⟩], .int .i64 5]) (by simp [results, Try.results24, go_sem, q0, q1, q2, q3]) rfl ⟨rfl, below_set4 HK.out.1.2.2 (by omega) _ _ _ _⟩
  · have hsm : smZ o z1 z2 = .tuple #[arV 0 0, .int .i64 5] := by unfold smZ; rw [if_neg (fun h => f1 h.1)]
    obtain ⟨z1b, z1t, hz1⟩ := fitZ_out f1
    rw [hz1] at hm1
    obtain ⟨z2b, z2t, e2, hz2⟩ := fitZ_form z2
    rw [hz2] at hm2
    rw [hsm]
    have HM1 := Lib.hid hm1
    have HM2 := Lib.hid hm2
    clear hsm
    clear hz1 hz2
    unfold oV at HVA HVB
    unfold kV arV at *
    unfold intV zV at *
    obtain ⟨O, gO⟩ : ∃ t, nS o = t := ⟨_, rfl⟩
    obtain ⟨vb, gvb⟩ : ∃ t, decide (v < 0) = t := ⟨_, rfl⟩
    obtain ⟨vt, gvt⟩ : ∃ t, nS v.natAbs = t := ⟨_, rfl⟩
    obtain ⟨rb, grb⟩ : ∃ t, decide (r < 0) = t := ⟨_, rfl⟩
    obtain ⟨rt, grt⟩ : ∃ t, nS r.natAbs = t := ⟨_, rfl⟩
    obtain ⟨xb, gxb⟩ : ∃ t, decide (x < 0) = t := ⟨_, rfl⟩
    obtain ⟨xt, gxt⟩ : ∃ t, nS x.natAbs = t := ⟨_, rfl⟩
    obtain ⟨yb, gyb⟩ : ∃ t, decide (y < 0) = t := ⟨_, rfl⟩
    obtain ⟨yt, gyt⟩ : ∃ t, nS y.natAbs = t := ⟨_, rfl⟩
    rw [gO] at HF HCK ⊢
    rw [gvb, gvt, grb, grt] at HVA
    rw [gxb, gxt, gyb, gyt] at HVB
    rw [gvb, gvt, gxb, gxt] at HM1
    rw [grb, grt, gyb, gyt] at HM2
    rw [gvb, gvt, grb, grt, gxb, gxt, gyb, gyt]
    rw [show decide ((0 : Int) < 0) = false from rfl, show nS (0 : Int).natAbs = ⟨#[]⟩ from rfl]
    clear gO gvb gvt grb grt gxb gxt gyb gyt
    clear hM ho hG hH hv hr hc hkf hos hsv hsr hm1 hm2 hx hy hsx hsy
    clear f1
    go_enter Try.func24, Try.ntmps24
    have hk := KS.new w M O G H vb vt rb rt xb xt yb yt
    obtain ⟨W0, hW0⟩ : ∃ W, (((w.alloc (.cells #[.string M, .string O, .string G, .string H] 26)).alloc (.cells #[.bool vb, .string vt, .bool rb, .string rt] 43)).alloc (.cells #[.bool xb, .string xt, .bool yb, .string yt] 43)).alloc (.cells #[.bool false, .string ⟨#[]⟩, .bool false, .string ⟨#[]⟩] 43) = W := ⟨_, rfl⟩
    rw [hW0] at hk
    have HK := Lib.hid hk
    obtain ⟨⟨c0, c1, c2, c3⟩, d0, d1, d2, d3⟩ := hk.1.cells
    obtain ⟨e0, e1, e2, e3⟩ := hk.2.1.cells
    obtain ⟨r0, r1, r2, r3⟩ := hk.2.2.cells
    have f0 := hk.2.2.free 0
    have f1 := hk.2.2.free 1
    have f2 := hk.2.2.free 2
    have f3 := hk.2.2.free 3
    clear hk
    go_wp2_with fail
    try rw [hW0]
    clear hW0
    refine (HF.out _).mono ?_
    rintro ev w1 ⟨rfl, hb⟩
    have hk := HK.out.next hb
    have HK := Lib.hid hk
    clear hb c0 c1 c2 c3 d0 d1 d2 d3 e0 e1 e2 e3 r0 r1 r2 r3 f0 f1 f2 f3
    obtain ⟨⟨c0, c1, c2, c3⟩, d0, d1, d2, d3⟩ := hk.1.cells
    obtain ⟨e0, e1, e2, e3⟩ := hk.2.1.cells
    obtain ⟨r0, r1, r2, r3⟩ := hk.2.2.cells
    have f0 := hk.2.2.free 0
    have f1 := hk.2.2.free 1
    have f2 := hk.2.2.free 2
    have f3 := hk.2.2.free 3
    clear hk
    go_wp2_with fail
    refine (HVA.out _).mono ?_
    rintro ev w2 ⟨rfl, hb⟩
    have hk := HK.out.next hb
    have HK := Lib.hid hk
    clear hb c0 c1 c2 c3 d0 d1 d2 d3 e0 e1 e2 e3 r0 r1 r2 r3 f0 f1 f2 f3
    obtain ⟨⟨c0, c1, c2, c3⟩, d0, d1, d2, d3⟩ := hk.1.cells
    obtain ⟨e0, e1, e2, e3⟩ := hk.2.1.cells
    obtain ⟨r0, r1, r2, r3⟩ := hk.2.2.cells
    have f0 := hk.2.2.free 0
    have f1 := hk.2.2.free 1
    have f2 := hk.2.2.free 2
    have f3 := hk.2.2.free 3
    clear hk
    go_wp2_with fail
    refine (HVB.out _).mono ?_
    rintro ev w3 ⟨rfl, hb⟩
    have hk := HK.out.next hb
    have HK := Lib.hid hk
    clear hb c0 c1 c2 c3 d0 d1 d2 d3 e0 e1 e2 e3 r0 r1 r2 r3 f0 f1 f2 f3
    obtain ⟨⟨c0, c1, c2, c3⟩, d0, d1, d2, d3⟩ := hk.1.cells
    obtain ⟨e0, e1, e2, e3⟩ := hk.2.1.cells
    obtain ⟨r0, r1, r2, r3⟩ := hk.2.2.cells
    have f0 := hk.2.2.free 0
    have f1 := hk.2.2.free 1
    have f2 := hk.2.2.free 2
    have f3 := hk.2.2.free 3
    clear hk
    go_wp2_with fail
    refine (HCK.out _).mono ?_
    rintro ev w4 ⟨rfl, hb⟩
    have hk := HK.out.next hb
    have HK := Lib.hid hk
    clear hb c0 c1 c2 c3 d0 d1 d2 d3 e0 e1 e2 e3 r0 r1 r2 r3 f0 f1 f2 f3
    obtain ⟨⟨c0, c1, c2, c3⟩, d0, d1, d2, d3⟩ := hk.1.cells
    obtain ⟨e0, e1, e2, e3⟩ := hk.2.1.cells
    obtain ⟨r0, r1, r2, r3⟩ := hk.2.2.cells
    have f0 := hk.2.2.free 0
    have f1 := hk.2.2.free 1
    have f2 := hk.2.2.free 2
    have f3 := hk.2.2.free 3
    clear hk
    go_wp2_with fail
    refine (HM1.out _).mono ?_
    rintro ev w5 ⟨rfl, hb⟩
    have hk := HK.out.next hb
    have HK := Lib.hid hk
    clear hb c0 c1 c2 c3 d0 d1 d2 d3 e0 e1 e2 e3 r0 r1 r2 r3 f0 f1 f2 f3
    obtain ⟨⟨c0, c1, c2, c3⟩, d0, d1, d2, d3⟩ := hk.1.cells
    obtain ⟨e0, e1, e2, e3⟩ := hk.2.1.cells
    obtain ⟨r0, r1, r2, r3⟩ := hk.2.2.cells
    have f0 := hk.2.2.free 0
    have f1 := hk.2.2.free 1
    have f2 := hk.2.2.free 2
    have f3 := hk.2.2.free 3
    clear hk
    have hb : Below w5.heap.size w5 (w5.alloc (.cells #[.bool z1b, .string z1t] 38)) := (Below.refl _ _).alloc (Nat.le_refl _) _
    have hn := Bx2.new w5 (.bool z1b) (.string z1t) 38
    obtain ⟨W5, hW5⟩ : ∃ W, w5.alloc (.cells #[.bool z1b, .string z1t] 38) = W := ⟨_, rfl⟩
    obtain ⟨B5, hB5⟩ : ∃ B, w5.heap.size = B := ⟨_, rfl⟩
    rw [hW5] at hb hn
    rw [hB5] at hn
    have HN5 := Lib.hid hn
    clear hn
    have hk := HK.out.next hb
    have HK := Lib.hid hk
    clear hb c0 c1 c2 c3 d0 d1 d2 d3 e0 e1 e2 e3 r0 r1 r2 r3 f0 f1 f2 f3
    obtain ⟨⟨c0, c1, c2, c3⟩, d0, d1, d2, d3⟩ := hk.1.cells
    obtain ⟨e0, e1, e2, e3⟩ := hk.2.1.cells
    obtain ⟨r0, r1, r2, r3⟩ := hk.2.2.cells
    have f0 := hk.2.2.free 0
    have f1 := hk.2.2.free 1
    have f2 := hk.2.2.free 2
    have f3 := hk.2.2.free 3
    clear hk
    go_wp2_with fail
    try rw [hW5]
    try rw [hB5]
    clear hW5 hB5
    refine (HM2.out _).mono ?_
    rintro ev w6 ⟨rfl, hb⟩
    have HN6 := Lib.hid (HN5.out.next hb)
    have hk := HK.out.next hb
    have HK := Lib.hid hk
    clear hb c0 c1 c2 c3 d0 d1 d2 d3 e0 e1 e2 e3 r0 r1 r2 r3 f0 f1 f2 f3
    obtain ⟨⟨c0, c1, c2, c3⟩, d0, d1, d2, d3⟩ := hk.1.cells
    obtain ⟨e0, e1, e2, e3⟩ := hk.2.1.cells
    obtain ⟨r0, r1, r2, r3⟩ := hk.2.2.cells
    have f0 := hk.2.2.free 0
    have f1 := hk.2.2.free 1
    have f2 := hk.2.2.free 2
    have f3 := hk.2.2.free 3
    clear hk
    have hb : Below w6.heap.size w6 (w6.alloc (.cells #[.bool z2b, .string z2t] 38)) := (Below.refl _ _).alloc (Nat.le_refl _) _
    have hn := Bx2.new w6 (.bool z2b) (.string z2t) 38
    obtain ⟨W6, hW6⟩ : ∃ W, w6.alloc (.cells #[.bool z2b, .string z2t] 38) = W := ⟨_, rfl⟩
    obtain ⟨B6, hB6⟩ : ∃ B, w6.heap.size = B := ⟨_, rfl⟩
    rw [hW6] at hb hn
    rw [hB6] at hn
    have hn5 := HN6.out.next hb
    have HN7 := Lib.hid hn5
    have HN8 := Lib.hid hn
    have n0 := hn5.c0
    have n1 := hn5.c1
    have m0 := hn.c0
    have m1 := hn.c1
    clear hn hn5
    have hk := HK.out.next hb
    have HK := Lib.hid hk
    clear hb c0 c1 c2 c3 d0 d1 d2 d3 e0 e1 e2 e3 r0 r1 r2 r3 f0 f1 f2 f3
    obtain ⟨⟨c0, c1, c2, c3⟩, d0, d1, d2, d3⟩ := hk.1.cells
    obtain ⟨e0, e1, e2, e3⟩ := hk.2.1.cells
    obtain ⟨r0, r1, r2, r3⟩ := hk.2.2.cells
    have f0 := hk.2.2.free 0
    have f1 := hk.2.2.free 1
    have f2 := hk.2.2.free 2
    have f3 := hk.2.2.free 3
    clear hk
    clear n0 n1 m0 m1
    go_wp2
    obtain ⟨q0, q1, q2, q3⟩ := (HK.out.2.2.set4 (a := .bool false) (b := .string ⟨#[]⟩) (c := .bool false) (d := .string ⟨#[]⟩)).cells
    exact bodyPost_ret (v := .tuple #[.agg #[.bool false, .string ⟨#[]⟩, .bool false, .string ⟨#[]⟩], .int .i64 5]) (by simp [results, Try.results24, go_sem, q0, q1, q2, q3]) rfl ⟨rfl, below_set4 HK.out.1.2.2 (by omega) _ _ _ _⟩
set_option maxRecDepth 100000 in
set_option maxHeartbeats 4000000 in
theorem pk_Sum (M O G H : ByteArray) (vb : Bool) (vt : ByteArray) (rb : Bool) (rt : ByteArray) (xb : Bool) (xt : ByteArray) (yb : Bool) (yt : ByteArray) (hM : M.size ≤ 8) (hO : O.size ≤ 8) (hG : G.size ≤ 1000) (hH : H.size ≤ 1000) (hvt : vt.size ≤ 1000) (hrt : rt.size ≤ 1000) (hxt : xt.size ≤ 1000) (hyt : yt.size ≤ 1000) (w : World) : Calls Try.prog 24 #[kV M O G H, oV vb vt rb rt, oV xb xt yb yt] w (Ret (smR M O G H ((zvalid vb vt && zvalid rb rt) && (zvalid xb xt && zvalid yb yt)) (sg vb (num vt) + sg xb (num xt)) (sg rb (num rt) + sg yb (num yt))) w) := by
  have HF := Lib.hid (pk_formed M O G H (by omega) (by omega) hG hH)
  have HVA := Lib.hid (pk_valid vb vt rb rt hvt hrt)
  have HVB := Lib.hid (pk_valid xb xt yb yt hxt hyt)
  have HCK := Lib.hid (pk_Check M O G H hM hO hG hH)
  unfold smR
  cases hkf : kF M O G H with
  | false =>
    rw [hkf] at HF
    rw [if_pos (by rfl), arV_zero]
    unfold kV oV at *
    clear hkf hM hO hG hH hvt hrt hxt hyt
    go_enter Try.func24, Try.ntmps24
    have hk := KS.new w M O G H vb vt rb rt xb xt yb yt
    obtain ⟨W0, hW0⟩ : ∃ W, (((w.alloc (.cells #[.string M, .string O, .string G, .string H] 26)).alloc (.cells #[.bool vb, .string vt, .bool rb, .string rt] 43)).alloc (.cells #[.bool xb, .string xt, .bool yb, .string yt] 43)).alloc (.cells #[.bool false, .string ⟨#[]⟩, .bool false, .string ⟨#[]⟩] 43) = W := ⟨_, rfl⟩
    rw [hW0] at hk
    have HK := Lib.hid hk
    obtain ⟨⟨c0, c1, c2, c3⟩, d0, d1, d2, d3⟩ := hk.1.cells
    obtain ⟨e0, e1, e2, e3⟩ := hk.2.1.cells
    obtain ⟨r0, r1, r2, r3⟩ := hk.2.2.cells
    have f0 := hk.2.2.free 0
    have f1 := hk.2.2.free 1
    have f2 := hk.2.2.free 2
    have f3 := hk.2.2.free 3
    clear hk
    go_wp2_with fail
    try rw [hW0]
    clear hW0
    refine (HF.out _).mono ?_
    rintro ev w1 ⟨rfl, hb⟩
    have hk := HK.out.next hb
    have HK := Lib.hid hk
    clear hb c0 c1 c2 c3 d0 d1 d2 d3 e0 e1 e2 e3 r0 r1 r2 r3 f0 f1 f2 f3
    obtain ⟨⟨c0, c1, c2, c3⟩, d0, d1, d2, d3⟩ := hk.1.cells
    obtain ⟨e0, e1, e2, e3⟩ := hk.2.1.cells
    obtain ⟨r0, r1, r2, r3⟩ := hk.2.2.cells
    have f0 := hk.2.2.free 0
    have f1 := hk.2.2.free 1
    have f2 := hk.2.2.free 2
    have f3 := hk.2.2.free 3
    clear hk
    go_wp2
    obtain ⟨q0, q1, q2, q3⟩ := (HK.out.2.2.set4 (a := .bool false) (b := .string ⟨#[]⟩) (c := .bool false) (d := .string ⟨#[]⟩)).cells
    exact bodyPost_ret (v := .tuple #[.agg #[.bool false, .string ⟨#[]⟩, .bool false, .string ⟨#[]⟩], .int .i64 3]) (by simp [results, Try.results24, go_sem, q0, q1, q2, q3]) rfl ⟨rfl, below_set4 HK.out.1.2.2 (by omega) _ _ _ _⟩
  | true =>
    rw [hkf] at HF
    cases hza : (zvalid vb vt && zvalid rb rt) with
    | false =>
      rw [hza] at HVA
      rw [if_pos (by rfl), arV_zero]
      unfold kV oV at *
      clear hkf hza hM hO hG hH hvt hrt hxt hyt
      go_enter Try.func24, Try.ntmps24
      have hk := KS.new w M O G H vb vt rb rt xb xt yb yt
      obtain ⟨W0, hW0⟩ : ∃ W, (((w.alloc (.cells #[.string M, .string O, .string G, .string H] 26)).alloc (.cells #[.bool vb, .string vt, .bool rb, .string rt] 43)).alloc (.cells #[.bool xb, .string xt, .bool yb, .string yt] 43)).alloc (.cells #[.bool false, .string ⟨#[]⟩, .bool false, .string ⟨#[]⟩] 43) = W := ⟨_, rfl⟩
      rw [hW0] at hk
      have HK := Lib.hid hk
      obtain ⟨⟨c0, c1, c2, c3⟩, d0, d1, d2, d3⟩ := hk.1.cells
      obtain ⟨e0, e1, e2, e3⟩ := hk.2.1.cells
      obtain ⟨r0, r1, r2, r3⟩ := hk.2.2.cells
      have f0 := hk.2.2.free 0
      have f1 := hk.2.2.free 1
      have f2 := hk.2.2.free 2
      have f3 := hk.2.2.free 3
      clear hk
      go_wp2_with fail
      try rw [hW0]
      clear hW0
      refine (HF.out _).mono ?_
      rintro ev w1 ⟨rfl, hb⟩
      have hk := HK.out.next hb
      have HK := Lib.hid hk
      clear hb c0 c1 c2 c3 d0 d1 d2 d3 e0 e1 e2 e3 r0 r1 r2 r3 f0 f1 f2 f3
      obtain ⟨⟨c0, c1, c2, c3⟩, d0, d1, d2, d3⟩ := hk.1.cells
      obtain ⟨e0, e1, e2, e3⟩ := hk.2.1.cells
      obtain ⟨r0, r1, r2, r3⟩ := hk.2.2.cells
      have f0 := hk.2.2.free 0
      have f1 := hk.2.2.free 1
      have f2 := hk.2.2.free 2
      have f3 := hk.2.2.free 3
      clear hk
      go_wp2_with fail
      refine (HVA.out _).mono ?_
      rintro ev w2 ⟨rfl, hb⟩
      have hk := HK.out.next hb
      have HK := Lib.hid hk
      clear hb c0 c1 c2 c3 d0 d1 d2 d3 e0 e1 e2 e3 r0 r1 r2 r3 f0 f1 f2 f3
      obtain ⟨⟨c0, c1, c2, c3⟩, d0, d1, d2, d3⟩ := hk.1.cells
      obtain ⟨e0, e1, e2, e3⟩ := hk.2.1.cells
      obtain ⟨r0, r1, r2, r3⟩ := hk.2.2.cells
      have f0 := hk.2.2.free 0
      have f1 := hk.2.2.free 1
      have f2 := hk.2.2.free 2
      have f3 := hk.2.2.free 3
      clear hk
      go_wp2
      obtain ⟨q0, q1, q2, q3⟩ := (HK.out.2.2.set4 (a := .bool false) (b := .string ⟨#[]⟩) (c := .bool false) (d := .string ⟨#[]⟩)).cells
      exact bodyPost_ret (v := .tuple #[.agg #[.bool false, .string ⟨#[]⟩, .bool false, .string ⟨#[]⟩], .int .i64 3]) (by simp [results, Try.results24, go_sem, q0, q1, q2, q3]) rfl ⟨rfl, below_set4 HK.out.1.2.2 (by omega) _ _ _ _⟩
    | true =>
      rw [hza] at HVA
      cases hzb : (zvalid xb xt && zvalid yb yt) with
      | false =>
        rw [hzb] at HVB
        rw [if_pos (by rfl), arV_zero]
        unfold kV oV at *
        clear hkf hza hzb hM hO hG hH hvt hrt hxt hyt
        go_enter Try.func24, Try.ntmps24
        have hk := KS.new w M O G H vb vt rb rt xb xt yb yt
        obtain ⟨W0, hW0⟩ : ∃ W, (((w.alloc (.cells #[.string M, .string O, .string G, .string H] 26)).alloc (.cells #[.bool vb, .string vt, .bool rb, .string rt] 43)).alloc (.cells #[.bool xb, .string xt, .bool yb, .string yt] 43)).alloc (.cells #[.bool false, .string ⟨#[]⟩, .bool false, .string ⟨#[]⟩] 43) = W := ⟨_, rfl⟩
        rw [hW0] at hk
        have HK := Lib.hid hk
        obtain ⟨⟨c0, c1, c2, c3⟩, d0, d1, d2, d3⟩ := hk.1.cells
        obtain ⟨e0, e1, e2, e3⟩ := hk.2.1.cells
        obtain ⟨r0, r1, r2, r3⟩ := hk.2.2.cells
        have f0 := hk.2.2.free 0
        have f1 := hk.2.2.free 1
        have f2 := hk.2.2.free 2
        have f3 := hk.2.2.free 3
        clear hk
        go_wp2_with fail
        try rw [hW0]
        clear hW0
        refine (HF.out _).mono ?_
        rintro ev w1 ⟨rfl, hb⟩
        have hk := HK.out.next hb
        have HK := Lib.hid hk
        clear hb c0 c1 c2 c3 d0 d1 d2 d3 e0 e1 e2 e3 r0 r1 r2 r3 f0 f1 f2 f3
        obtain ⟨⟨c0, c1, c2, c3⟩, d0, d1, d2, d3⟩ := hk.1.cells
        obtain ⟨e0, e1, e2, e3⟩ := hk.2.1.cells
        obtain ⟨r0, r1, r2, r3⟩ := hk.2.2.cells
        have f0 := hk.2.2.free 0
        have f1 := hk.2.2.free 1
        have f2 := hk.2.2.free 2
        have f3 := hk.2.2.free 3
        clear hk
        go_wp2_with fail
        refine (HVA.out _).mono ?_
        rintro ev w2 ⟨rfl, hb⟩
        have hk := HK.out.next hb
        have HK := Lib.hid hk
        clear hb c0 c1 c2 c3 d0 d1 d2 d3 e0 e1 e2 e3 r0 r1 r2 r3 f0 f1 f2 f3
        obtain ⟨⟨c0, c1, c2, c3⟩, d0, d1, d2, d3⟩ := hk.1.cells
        obtain ⟨e0, e1, e2, e3⟩ := hk.2.1.cells
        obtain ⟨r0, r1, r2, r3⟩ := hk.2.2.cells
        have f0 := hk.2.2.free 0
        have f1 := hk.2.2.free 1
        have f2 := hk.2.2.free 2
        have f3 := hk.2.2.free 3
        clear hk
        go_wp2_with fail
        refine (HVB.out _).mono ?_
        rintro ev w3 ⟨rfl, hb⟩
        have hk := HK.out.next hb
        have HK := Lib.hid hk
        clear hb c0 c1 c2 c3 d0 d1 d2 d3 e0 e1 e2 e3 r0 r1 r2 r3 f0 f1 f2 f3
        obtain ⟨⟨c0, c1, c2, c3⟩, d0, d1, d2, d3⟩ := hk.1.cells
        obtain ⟨e0, e1, e2, e3⟩ := hk.2.1.cells
        obtain ⟨r0, r1, r2, r3⟩ := hk.2.2.cells
        have f0 := hk.2.2.free 0
        have f1 := hk.2.2.free 1
        have f2 := hk.2.2.free 2
        have f3 := hk.2.2.free 3
        clear hk
        go_wp2
        obtain ⟨q0, q1, q2, q3⟩ := (HK.out.2.2.set4 (a := .bool false) (b := .string ⟨#[]⟩) (c := .bool false) (d := .string ⟨#[]⟩)).cells
        exact bodyPost_ret (v := .tuple #[.agg #[.bool false, .string ⟨#[]⟩, .bool false, .string ⟨#[]⟩], .int .i64 3]) (by simp [results, Try.results24, go_sem, q0, q1, q2, q3]) rfl ⟨rfl, below_set4 HK.out.1.2.2 (by omega) _ _ _ _⟩
      | true =>
        rw [if_neg (by decide)]
        by_cases hc : pkC M O G H = 0
        · rw [if_pos hc]
          obtain ⟨a1, a2⟩ := Bool.and_eq_true_iff.1 hza
          obtain ⟨a3, a4⟩ := Bool.and_eq_true_iff.1 hzb
          have hO2 := nS_num (kF_parts' hkf).2.1
          obtain ⟨p1, p2, p3⟩ := zv_parts a1
          obtain ⟨p4, p5, p6⟩ := zv_parts a2
          obtain ⟨p7, p8, p9⟩ := zv_parts a3
          obtain ⟨p10, p11, p12⟩ := zv_parts a4
          have ho8 : num O < 18446744073709551616 := nS_size_le.1 (by rw [← hO2]; exact hO)
          rw [hO2] at hc ⊢
          rw [num_nS]
          generalize sg vb (num vt) = v at *
          generalize sg rb (num rt) = r at *
          generalize sg xb (num xt) = x at *
          generalize sg yb (num yt) = y at *
          subst p1 p2 p4 p5 p7 p8 p10 p11
          exact pk_Sum_core M G H (num O) v r x y _ _ hM ho8 hG hH p3 p6 p9 p12 hc (fun w => int_AddA v x p3 p9 w) (fun w => int_AddA r y p6 p12 w) w
        · rw [if_neg hc, arV_zero]
          obtain ⟨k, hk⟩ : ∃ k, pkC M O G H = k := ⟨_, rfl⟩
          rw [hk] at HCK hc ⊢
          rw [hzb] at HVB
          have i3 : (k == 0) = false := beq_eq_false_iff_ne.2 hc
          unfold kV oV at *
          clear hk hkf hza hzb hM hO hG hH hvt hrt hxt hyt
          go_enter Try.func24, Try.ntmps24
          have hk := KS.new w M O G H vb vt rb rt xb xt yb yt
          obtain ⟨W0, hW0⟩ : ∃ W, (((w.alloc (.cells #[.string M, .string O, .string G, .string H] 26)).alloc (.cells #[.bool vb, .string vt, .bool rb, .string rt] 43)).alloc (.cells #[.bool xb, .string xt, .bool yb, .string yt] 43)).alloc (.cells #[.bool false, .string ⟨#[]⟩, .bool false, .string ⟨#[]⟩] 43) = W := ⟨_, rfl⟩
          rw [hW0] at hk
          have HK := Lib.hid hk
          obtain ⟨⟨c0, c1, c2, c3⟩, d0, d1, d2, d3⟩ := hk.1.cells
          obtain ⟨e0, e1, e2, e3⟩ := hk.2.1.cells
          obtain ⟨r0, r1, r2, r3⟩ := hk.2.2.cells
          have f0 := hk.2.2.free 0
          have f1 := hk.2.2.free 1
          have f2 := hk.2.2.free 2
          have f3 := hk.2.2.free 3
          clear hk
          go_wp2_with fail
          try rw [hW0]
          clear hW0
          refine (HF.out _).mono ?_
          rintro ev w1 ⟨rfl, hb⟩
          have hk := HK.out.next hb
          have HK := Lib.hid hk
          clear hb c0 c1 c2 c3 d0 d1 d2 d3 e0 e1 e2 e3 r0 r1 r2 r3 f0 f1 f2 f3
          obtain ⟨⟨c0, c1, c2, c3⟩, d0, d1, d2, d3⟩ := hk.1.cells
          obtain ⟨e0, e1, e2, e3⟩ := hk.2.1.cells
          obtain ⟨r0, r1, r2, r3⟩ := hk.2.2.cells
          have f0 := hk.2.2.free 0
          have f1 := hk.2.2.free 1
          have f2 := hk.2.2.free 2
          have f3 := hk.2.2.free 3
          clear hk
          go_wp2_with fail
          refine (HVA.out _).mono ?_
          rintro ev w2 ⟨rfl, hb⟩
          have hk := HK.out.next hb
          have HK := Lib.hid hk
          clear hb c0 c1 c2 c3 d0 d1 d2 d3 e0 e1 e2 e3 r0 r1 r2 r3 f0 f1 f2 f3
          obtain ⟨⟨c0, c1, c2, c3⟩, d0, d1, d2, d3⟩ := hk.1.cells
          obtain ⟨e0, e1, e2, e3⟩ := hk.2.1.cells
          obtain ⟨r0, r1, r2, r3⟩ := hk.2.2.cells
          have f0 := hk.2.2.free 0
          have f1 := hk.2.2.free 1
          have f2 := hk.2.2.free 2
          have f3 := hk.2.2.free 3
          clear hk
          go_wp2_with fail
          refine (HVB.out _).mono ?_
          rintro ev w3 ⟨rfl, hb⟩
          have hk := HK.out.next hb
          have HK := Lib.hid hk
          clear hb c0 c1 c2 c3 d0 d1 d2 d3 e0 e1 e2 e3 r0 r1 r2 r3 f0 f1 f2 f3
          obtain ⟨⟨c0, c1, c2, c3⟩, d0, d1, d2, d3⟩ := hk.1.cells
          obtain ⟨e0, e1, e2, e3⟩ := hk.2.1.cells
          obtain ⟨r0, r1, r2, r3⟩ := hk.2.2.cells
          have f0 := hk.2.2.free 0
          have f1 := hk.2.2.free 1
          have f2 := hk.2.2.free 2
          have f3 := hk.2.2.free 3
          clear hk
          go_wp2_with fail
          refine (HCK.out _).mono ?_
          rintro ev w4 ⟨rfl, hb⟩
          have hk := HK.out.next hb
          have HK := Lib.hid hk
          clear hb c0 c1 c2 c3 d0 d1 d2 d3 e0 e1 e2 e3 r0 r1 r2 r3 f0 f1 f2 f3
          obtain ⟨⟨c0, c1, c2, c3⟩, d0, d1, d2, d3⟩ := hk.1.cells
          obtain ⟨e0, e1, e2, e3⟩ := hk.2.1.cells
          obtain ⟨r0, r1, r2, r3⟩ := hk.2.2.cells
          have f0 := hk.2.2.free 0
          have f1 := hk.2.2.free 1
          have f2 := hk.2.2.free 2
          have f3 := hk.2.2.free 3
          clear hk
          go_wp2
          obtain ⟨q0, q1, q2, q3⟩ := (HK.out.2.2.set4 (a := .bool false) (b := .string ⟨#[]⟩) (c := .bool false) (d := .string ⟨#[]⟩)).cells
          exact bodyPost_ret (v := .tuple #[.agg #[.bool false, .string ⟨#[]⟩, .bool false, .string ⟨#[]⟩], .int .i64 k]) (by simp [results, Try.results24, go_sem, q0, q1, q2, q3]) rfl ⟨rfl, below_set4 HK.out.1.2.2 (by omega) _ _ _ _⟩
set_option maxRecDepth 100000 in
set_option maxHeartbeats 4000000 in
theorem pk_Times_core (M G H : ByteArray) (o : Nat) (v r b : Int) (z1 z2 : Int) (hM : M.size ≤ 8) (ho : o < 18446744073709551616) (hG : G.size ≤ 1000) (hH : H.size ≤ 1000) (hv : v.natAbs < 256 ^ 128) (hr : r.natAbs < 256 ^ 128) (hb : b.natAbs < 256 ^ 128) (hc : pkC M (nS o) G H = 0)
    (hm1 : ∀ w, Calls Try.prog 48 #[intV v, intV b] w (Ret (fitZ z1) w)) (hm2 : ∀ w, Calls Try.prog 48 #[intV r, intV b] w (Ret (fitZ z2) w)) (w : World) : Calls Try.prog 26 #[kV M (nS o) G H, arV v r, intV b] w (Ret (smZ o z1 z2) w) := by
  have hos := nS_small_size ho
  have hkf := pkC_kF hc
  have HF := Lib.hid (pk_formed M (nS o) G H (by omega) (by omega) hG hH)
  rw [hkf] at HF
  have hsv := nS_size_le.2 hv
  have hsr := nS_size_le.2 hr
  have HVA := Lib.hid (pk_valid (decide (v < 0)) (nS v.natAbs) (decide (r < 0)) (nS r.natAbs) (by omega) (by omega))
  rw [zvalid_all hv, zvalid_all hr, Bool.and_true] at HVA
  have HVB := Lib.hid (int_Valid_n b hb)
  have HCK := Lib.hid (pk_Check M (nS o) G H hM hos hG hH)
  rw [hc] at HCK
  by_cases f1 : z1.natAbs < 256 ^ 128
  · by_cases f2 : z2.natAbs < 256 ^ 128
    · have hsm : smZ o z1 z2 = .tuple #[arV (redZ o z1) (redZ o z2), .int .i64 0] := by unfold smZ; rw [if_pos ⟨f1, f2⟩]
      rw [fitZ_in f1] at hm1
      rw [fitZ_in f2] at hm2
      rw [hsm]
      have HM1 := Lib.hid hm1
      have HM2 := Lib.hid hm2
      have HRD := Lib.hid (pk_reduced o M G H z1 z2 (lt128_of_lt8 ho) (fun h0 => int_ModA z1 o f1 (lt128_of_lt8 ho) h0) (fun h0 => int_ModA z2 o f2 (lt128_of_lt8 ho) h0))
      clear hsm
      unfold oV at HVA
      unfold kV arV at *
      unfold intV zV at *
      obtain ⟨O, gO⟩ : ∃ t, nS o = t := ⟨_, rfl⟩
      obtain ⟨vb, gvb⟩ : ∃ t, decide (v < 0) = t := ⟨_, rfl⟩
      obtain ⟨vt, gvt⟩ : ∃ t, nS v.natAbs = t := ⟨_, rfl⟩
      obtain ⟨rb, grb⟩ : ∃ t, decide (r < 0) = t := ⟨_, rfl⟩
      obtain ⟨rt, grt⟩ : ∃ t, nS r.natAbs = t := ⟨_, rfl⟩
      obtain ⟨bb, gbb⟩ : ∃ t, decide (b < 0) = t := ⟨_, rfl⟩
      obtain ⟨bt, gbt⟩ : ∃ t, nS b.natAbs = t := ⟨_, rfl⟩
      obtain ⟨z1b, gz1b⟩ : ∃ t, decide (z1 < 0) = t := ⟨_, rfl⟩
      obtain ⟨z1t, gz1t⟩ : ∃ t, nS z1.natAbs = t := ⟨_, rfl⟩
      obtain ⟨z2b, gz2b⟩ : ∃ t, decide (z2 < 0) = t := ⟨_, rfl⟩
      obtain ⟨z2t, gz2t⟩ : ∃ t, nS z2.natAbs = t := ⟨_, rfl⟩
      obtain ⟨x1, gx1⟩ : ∃ t, decide (redZ o z1 < 0) = t := ⟨_, rfl⟩
      obtain ⟨x2, gx2⟩ : ∃ t, nS (redZ o z1).natAbs = t := ⟨_, rfl⟩
      obtain ⟨x3, gx3⟩ : ∃ t, decide (redZ o z2 < 0) = t := ⟨_, rfl⟩
      obtain ⟨x4, gx4⟩ : ∃ t, nS (redZ o z2).natAbs = t := ⟨_, rfl⟩
      rw [gO] at HF HCK HRD ⊢
      rw [gvb, gvt, grb, grt] at HVA
      rw [gbb, gbt] at HVB
      rw [gvb, gvt, gbb, gbt, gz1b, gz1t] at HM1
      rw [grb, grt, gbb, gbt, gz2b, gz2t] at HM2
      rw [gz1b, gz1t, gz2b, gz2t, gx1, gx2, gx3, gx4] at HRD
      rw [gvb, gvt, grb, grt, gbb, gbt, gx1, gx2, gx3, gx4]
      clear gO gvb gvt grb grt gbb gbt gz1b gz1t gz2b gz2t gx1 gx2 gx3 gx4
      clear hM ho hG hH hv hr hc hkf hos hsv hsr hm1 hm2 hb
      clear f1 f2
      go_enter Try.func26, Try.ntmps26
      have hk := K4.new w M O G H vb vt rb rt bb bt
      obtain ⟨W0, hW0⟩ : ∃ W, (((w.alloc (.cells #[.string M, .string O, .string G, .string H] 26)).alloc (.cells #[.bool vb, .string vt, .bool rb, .string rt] 43)).alloc (.cells #[.bool bb, .string bt] 38)).alloc (.cells #[.bool false, .string ⟨#[]⟩, .bool false, .string ⟨#[]⟩] 43) = W := ⟨_, rfl⟩
      rw [hW0] at hk
      have HK := Lib.hid hk
      obtain ⟨⟨c0, c1, c2, c3⟩, d0, d1, d2, d3⟩ := hk.1.cells
      have b0 := hk.2.1.c0
      have b1 := hk.2.1.c1
      obtain ⟨r0, r1, r2, r3⟩ := hk.2.2.cells
      have f0 := hk.2.2.free 0
      have f1 := hk.2.2.free 1
      have f2 := hk.2.2.free 2
      have f3 := hk.2.2.free 3
      clear hk
      go_wp2_with fail
      try rw [hW0]
      clear hW0
      refine (HF.out _).mono ?_
      rintro ev w1 ⟨rfl, hb⟩
      have hk := HK.out.next hb
      have HK := Lib.hid hk
      clear hb c0 c1 c2 c3 d0 d1 d2 d3 b0 b1 r0 r1 r2 r3 f0 f1 f2 f3
      obtain ⟨⟨c0, c1, c2, c3⟩, d0, d1, d2, d3⟩ := hk.1.cells
      have b0 := hk.2.1.c0
      have b1 := hk.2.1.c1
      obtain ⟨r0, r1, r2, r3⟩ := hk.2.2.cells
      have f0 := hk.2.2.free 0
      have f1 := hk.2.2.free 1
      have f2 := hk.2.2.free 2
      have f3 := hk.2.2.free 3
      clear hk
      go_wp2_with fail
      refine (HVA.out _).mono ?_
      rintro ev w2 ⟨rfl, hb⟩
      have hk := HK.out.next hb
      have HK := Lib.hid hk
      clear hb c0 c1 c2 c3 d0 d1 d2 d3 b0 b1 r0 r1 r2 r3 f0 f1 f2 f3
      obtain ⟨⟨c0, c1, c2, c3⟩, d0, d1, d2, d3⟩ := hk.1.cells
      have b0 := hk.2.1.c0
      have b1 := hk.2.1.c1
      obtain ⟨r0, r1, r2, r3⟩ := hk.2.2.cells
      have f0 := hk.2.2.free 0
      have f1 := hk.2.2.free 1
      have f2 := hk.2.2.free 2
      have f3 := hk.2.2.free 3
      clear hk
      go_wp2_with fail
      refine (HVB.out _).mono ?_
      rintro ev w3 ⟨rfl, hb⟩
      have hk := HK.out.next hb
      have HK := Lib.hid hk
      clear hb c0 c1 c2 c3 d0 d1 d2 d3 b0 b1 r0 r1 r2 r3 f0 f1 f2 f3
      obtain ⟨⟨c0, c1, c2, c3⟩, d0, d1, d2, d3⟩ := hk.1.cells
      have b0 := hk.2.1.c0
      have b1 := hk.2.1.c1
      obtain ⟨r0, r1, r2, r3⟩ := hk.2.2.cells
      have f0 := hk.2.2.free 0
      have f1 := hk.2.2.free 1
      have f2 := hk.2.2.free 2
      have f3 := hk.2.2.free 3
      clear hk
      go_wp2_with fail
      refine (HCK.out _).mono ?_
      rintro ev w4 ⟨rfl, hb⟩
      have hk := HK.out.next hb
      have HK := Lib.hid hk
      clear hb c0 c1 c2 c3 d0 d1 d2 d3 b0 b1 r0 r1 r2 r3 f0 f1 f2 f3
      obtain ⟨⟨c0, c1, c2, c3⟩, d0, d1, d2, d3⟩ := hk.1.cells
      have b0 := hk.2.1.c0
      have b1 := hk.2.1.c1
      obtain ⟨r0, r1, r2, r3⟩ := hk.2.2.cells
      have f0 := hk.2.2.free 0
      have f1 := hk.2.2.free 1
      have f2 := hk.2.2.free 2
      have f3 := hk.2.2.free 3
      clear hk
      go_wp2_with fail
      refine (HM1.out _).mono ?_
      rintro ev w5 ⟨rfl, hb⟩
      have hk := HK.out.next hb
      have HK := Lib.hid hk
      clear hb c0 c1 c2 c3 d0 d1 d2 d3 b0 b1 r0 r1 r2 r3 f0 f1 f2 f3
      obtain ⟨⟨c0, c1, c2, c3⟩, d0, d1, d2, d3⟩ := hk.1.cells
      have b0 := hk.2.1.c0
      have b1 := hk.2.1.c1
      obtain ⟨r0, r1, r2, r3⟩ := hk.2.2.cells
      have f0 := hk.2.2.free 0
      have f1 := hk.2.2.free 1
      have f2 := hk.2.2.free 2
      have f3 := hk.2.2.free 3
      clear hk
      have hb : Below w5.heap.size w5 (w5.alloc (.cells #[.bool z1b, .string z1t] 38)) := (Below.refl _ _).alloc (Nat.le_refl _) _
      have hn := Bx2.new w5 (.bool z1b) (.string z1t) 38
      obtain ⟨W5, hW5⟩ : ∃ W, w5.alloc (.cells #[.bool z1b, .string z1t] 38) = W := ⟨_, rfl⟩
      obtain ⟨B5, hB5⟩ : ∃ B, w5.heap.size = B := ⟨_, rfl⟩
      rw [hW5] at hb hn
      rw [hB5] at hn
      have HN5 := Lib.hid hn
      clear hn
      have hk := HK.out.next hb
      have HK := Lib.hid hk
      clear hb c0 c1 c2 c3 d0 d1 d2 d3 b0 b1 r0 r1 r2 r3 f0 f1 f2 f3
      obtain ⟨⟨c0, c1, c2, c3⟩, d0, d1, d2, d3⟩ := hk.1.cells
      have b0 := hk.2.1.c0
      have b1 := hk.2.1.c1
      obtain ⟨r0, r1, r2, r3⟩ := hk.2.2.cells
      have f0 := hk.2.2.free 0
      have f1 := hk.2.2.free 1
      have f2 := hk.2.2.free 2
      have f3 := hk.2.2.free 3
      clear hk
      go_wp2_with fail
      try rw [hW5]
      try rw [hB5]
      clear hW5 hB5
      refine (HM2.out _).mono ?_
      rintro ev w6 ⟨rfl, hb⟩
      have HN6 := Lib.hid (HN5.out.next hb)
      have hk := HK.out.next hb
      have HK := Lib.hid hk
      clear hb c0 c1 c2 c3 d0 d1 d2 d3 b0 b1 r0 r1 r2 r3 f0 f1 f2 f3
      obtain ⟨⟨c0, c1, c2, c3⟩, d0, d1, d2, d3⟩ := hk.1.cells
      have b0 := hk.2.1.c0
      have b1 := hk.2.1.c1
      obtain ⟨r0, r1, r2, r3⟩ := hk.2.2.cells
      have f0 := hk.2.2.free 0
      have f1 := hk.2.2.free 1
      have f2 := hk.2.2.free 2
      have f3 := hk.2.2.free 3
      clear hk
      have hb : Below w6.heap.size w6 (w6.alloc (.cells #[.bool z2b, .string z2t] 38)) := (Below.refl _ _).alloc (Nat.le_refl _) _
      have hn := Bx2.new w6 (.bool z2b) (.string z2t) 38
      obtain ⟨W6, hW6⟩ : ∃ W, w6.alloc (.cells #[.bool z2b, .string z2t] 38) = W := ⟨_, rfl⟩
      obtain ⟨B6, hB6⟩ : ∃ B, w6.heap.size = B := ⟨_, rfl⟩
      rw [hW6] at hb hn
      rw [hB6] at hn
      have hn5 := HN6.out.next hb
      have HN7 := Lib.hid hn5
      have HN8 := Lib.hid hn
      have n0 := hn5.c0
      have n1 := hn5.c1
      have m0 := hn.c0
      have m1 := hn.c1
      clear hn hn5
      have hk := HK.out.next hb
      have HK := Lib.hid hk
      clear hb c0 c1 c2 c3 d0 d1 d2 d3 b0 b1 r0 r1 r2 r3 f0 f1 f2 f3
      obtain ⟨⟨c0, c1, c2, c3⟩, d0, d1, d2, d3⟩ := hk.1.cells
      have b0 := hk.2.1.c0
      have b1 := hk.2.1.c1
      obtain ⟨r0, r1, r2, r3⟩ := hk.2.2.cells
      have f0 := hk.2.2.free 0
      have f1 := hk.2.2.free 1
      have f2 := hk.2.2.free 2
      have f3 := hk.2.2.free 3
      clear hk
      go_wp2_with fail
      try rw [hW6]
      try rw [hB6]
      clear hW6 hB6
      refine (HRD.out _).mono ?_
      rintro ev w7 ⟨rfl, hb⟩
      clear n0 n1 m0 m1
      have hk := HK.out.next hb
      have HK := Lib.hid hk
      clear hb c0 c1 c2 c3 d0 d1 d2 d3 b0 b1 r0 r1 r2 r3 f0 f1 f2 f3
      obtain ⟨⟨c0, c1, c2, c3⟩, d0, d1, d2, d3⟩ := hk.1.cells
      have b0 := hk.2.1.c0
      have b1 := hk.2.1.c1
      obtain ⟨r0, r1, r2, r3⟩ := hk.2.2.cells
      have f0 := hk.2.2.free 0
      have f1 := hk.2.2.free 1
      have f2 := hk.2.2.free 2
      have f3 := hk.2.2.free 3
      clear hk
      go_wp2
      obtain ⟨q0, q1, q2, q3⟩ := (HK.out.2.2.set4 (a := .bool x1) (b := .string x2) (c := .bool x3) (d := .string x4)).cells
      exact bodyPost_ret (v := .tuple #[.agg #[.bool x1, .string x2, .bool x3, .string x4], .int .i64 0]) (by simp [results, Try.results26, go_sem, q0, q1, q2, q3]) rfl ⟨rfl, below_set4 HK.out.1.2.2 (by omega) _ _ _ _⟩
    · have hsm : smZ o z1 z2 = .tuple #[arV 0 0, .int .i64 5] := by unfold smZ; rw [if_neg (fun h => f2 h.2)]
      rw [fitZ_in f1] at hm1
      obtain ⟨z2b, z2t, hz2⟩ := fitZ_out f2
      rw [hz2] at hm2
      rw [hsm]
      have HM1 := Lib.hid hm1
      have HM2 := Lib.hid hm2
      clear hsm
      clear hz2
      unfold oV at HVA
      unfold kV arV at *
      unfold intV zV at *
      obtain ⟨O, gO⟩ : ∃ t, nS o = t := ⟨_, rfl⟩
      obtain ⟨vb, gvb⟩ : ∃ t, decide (v < 0) = t := ⟨_, rfl⟩
      obtain ⟨vt, gvt⟩ : ∃ t, nS v.natAbs = t := ⟨_, rfl⟩
      obtain ⟨rb, grb⟩ : ∃ t, decide (r < 0) = t := ⟨_, rfl⟩
      obtain ⟨rt, grt⟩ : ∃ t, nS r.natAbs = t := ⟨_, rfl⟩
      obtain ⟨bb, gbb⟩ : ∃ t, decide (b < 0) = t := ⟨_, rfl⟩
      obtain ⟨bt, gbt⟩ : ∃ t, nS b.natAbs = t := ⟨_, rfl⟩
      obtain ⟨z1b, gz1b⟩ : ∃ t, decide (z1 < 0) = t := ⟨_, rfl⟩
      obtain ⟨z1t, gz1t⟩ : ∃ t, nS z1.natAbs = t := ⟨_, rfl⟩
      rw [gO] at HF HCK ⊢
      rw [gvb, gvt, grb, grt] at HVA
      rw [gbb, gbt] at HVB
      rw [gvb, gvt, gbb, gbt, gz1b, gz1t] at HM1
      rw [grb, grt, gbb, gbt] at HM2
      rw [gvb, gvt, grb, grt, gbb, gbt]
      rw [show decide ((0 : Int) < 0) = false from rfl, show nS (0 : Int).natAbs = ⟨#[]⟩ from rfl]
      clear gO gvb gvt grb grt gbb gbt gz1b gz1t
      clear hM ho hG hH hv hr hc hkf hos hsv hsr hm1 hm2 hb
      clear f1 f2
      go_enter Try.func26, Try.ntmps26
      have hk := K4.new w M O G H vb vt rb rt bb bt
      obtain ⟨W0, hW0⟩ : ∃ W, (((w.alloc (.cells #[.string M, .string O, .string G, .string H] 26)).alloc (.cells #[.bool vb, .string vt, .bool rb, .string rt] 43)).alloc (.cells #[.bool bb, .string bt] 38)).alloc (.cells #[.bool false, .string ⟨#[]⟩, .bool false, .string ⟨#[]⟩] 43) = W := ⟨_, rfl⟩
      rw [hW0] at hk
      have HK := Lib.hid hk
      obtain ⟨⟨c0, c1, c2, c3⟩, d0, d1, d2, d3⟩ := hk.1.cells
      have b0 := hk.2.1.c0
      have b1 := hk.2.1.c1
      obtain ⟨r0, r1, r2, r3⟩ := hk.2.2.cells
      have f0 := hk.2.2.free 0
      have f1 := hk.2.2.free 1
      have f2 := hk.2.2.free 2
      have f3 := hk.2.2.free 3
      clear hk
      go_wp2_with fail
      try rw [hW0]
      clear hW0
      refine (HF.out _).mono ?_
      rintro ev w1 ⟨rfl, hb⟩
      have hk := HK.out.next hb
      have HK := Lib.hid hk
      clear hb c0 c1 c2 c3 d0 d1 d2 d3 b0 b1 r0 r1 r2 r3 f0 f1 f2 f3
      obtain ⟨⟨c0, c1, c2, c3⟩, d0, d1, d2, d3⟩ := hk.1.cells
      have b0 := hk.2.1.c0
      have b1 := hk.2.1.c1
      obtain ⟨r0, r1, r2, r3⟩ := hk.2.2.cells
      have f0 := hk.2.2.free 0
      have f1 := hk.2.2.free 1
      have f2 := hk.2.2.free 2
      have f3 := hk.2.2.free 3
      clear hk
      go_wp2_with fail
      refine (HVA.out _).mono ?_
      rintro ev w2 ⟨rfl, hb⟩
      have hk := HK.out.next hb
      have HK := Lib.hid hk
      clear hb c0 c1 c2 c3 d0 d1 d2 d3 b0 b1 r0 r1 r2 r3 f0 f1 f2 f3
      obtain ⟨⟨c0, c1, c2, c3⟩, d0, d1, d2, d3⟩ := hk.1.cells
      have b0 := hk.2.1.c0
      have b1 := hk.2.1.c1
      obtain ⟨r0, r1, r2, r3⟩ := hk.2.2.cells
      have f0 := hk.2.2.free 0
      have f1 := hk.2.2.free 1
      have f2 := hk.2.2.free 2
      have f3 := hk.2.2.free 3
      clear hk
      go_wp2_with fail
      refine (HVB.out _).mono ?_
      rintro ev w3 ⟨rfl, hb⟩
      have hk := HK.out.next hb
      have HK := Lib.hid hk
      clear hb c0 c1 c2 c3 d0 d1 d2 d3 b0 b1 r0 r1 r2 r3 f0 f1 f2 f3
      obtain ⟨⟨c0, c1, c2, c3⟩, d0, d1, d2, d3⟩ := hk.1.cells
      have b0 := hk.2.1.c0
      have b1 := hk.2.1.c1
      obtain ⟨r0, r1, r2, r3⟩ := hk.2.2.cells
      have f0 := hk.2.2.free 0
      have f1 := hk.2.2.free 1
      have f2 := hk.2.2.free 2
      have f3 := hk.2.2.free 3
      clear hk
      go_wp2_with fail
      refine (HCK.out _).mono ?_
      rintro ev w4 ⟨rfl, hb⟩
      have hk := HK.out.next hb
      have HK := Lib.hid hk
      clear hb c0 c1 c2 c3 d0 d1 d2 d3 b0 b1 r0 r1 r2 r3 f0 f1 f2 f3
      obtain ⟨⟨c0, c1, c2, c3⟩, d0, d1, d2, d3⟩ := hk.1.cells
      have b0 := hk.2.1.c0
      have b1 := hk.2.1.c1
      obtain ⟨r0, r1, r2, r3⟩ := hk.2.2.cells
      have f0 := hk.2.2.free 0
      have f1 := hk.2.2.free 1
      have f2 := hk.2.2.free 2
      have f3 := hk.2.2.free 3
      clear hk
      go_wp2_with fail
      refine (HM1.out _).mono ?_
      rintro ev w5 ⟨rfl, hb⟩
      have hk := HK.out.next hb
      have HK := Lib.hid hk
      clear hb c0 c1 c2 c3 d0 d1 d2 d3 b0 b1 r0 r1 r2 r3 f0 f1 f2 f3
      obtain ⟨⟨c0, c1, c2, c3⟩, d0, d1, d2, d3⟩ := hk.1.cells
      have b0 := hk.2.1.c0
      have b1 := hk.2.1.c1
      obtain ⟨r0, r1, r2, r3⟩ := hk.2.2.cells
      have f0 := hk.2.2.free 0
      have f1 := hk.2.2.free 1
      have f2 := hk.2.2.free 2
      have f3 := hk.2.2.free 3
      clear hk
      have hb : Below w5.heap.size w5 (w5.alloc (.cells #[.bool z1b, .string z1t] 38)) := (Below.refl _ _).alloc (Nat.le_refl _) _
      have hn := Bx2.new w5 (.bool z1b) (.string z1t) 38
      obtain ⟨W5, hW5⟩ : ∃ W, w5.alloc (.cells #[.bool z1b, .string z1t] 38) = W := ⟨_, rfl⟩
      obtain ⟨B5, hB5⟩ : ∃ B, w5.heap.size = B := ⟨_, rfl⟩
      rw [hW5] at hb hn
      rw [hB5] at hn
      have HN5 := Lib.hid hn
      clear hn
      have hk := HK.out.next hb
      have HK := Lib.hid hk
      clear hb c0 c1 c2 c3 d0 d1 d2 d3 b0 b1 r0 r1 r2 r3 f0 f1 f2 f3
      obtain ⟨⟨c0, c1, c2, c3⟩, d0, d1, d2, d3⟩ := hk.1.cells
      have b0 := hk.2.1.c0
      have b1 := hk.2.1.c1
      obtain ⟨r0, r1, r2, r3⟩ := hk.2.2.cells
      have f0 := hk.2.2.free 0
      have f1 := hk.2.2.free 1
      have f2 := hk.2.2.free 2
      have f3 := hk.2.2.free 3
      clear hk
      go_wp2_with fail
      try rw [hW5]
      try rw [hB5]
      clear hW5 hB5
      refine (HM2.out _).mono ?_
      rintro ev w6 ⟨rfl, hb⟩
      have HN6 := Lib.hid (HN5.out.next hb)
      have hk := HK.out.next hb
      have HK := Lib.hid hk
      clear hb c0 c1 c2 c3 d0 d1 d2 d3 b0 b1 r0 r1 r2 r3 f0 f1 f2 f3
      obtain ⟨⟨c0, c1, c2, c3⟩, d0, d1, d2, d3⟩ := hk.1.cells
      have b0 := hk.2.1.c0
      have b1 := hk.2.1.c1
      obtain ⟨r0, r1, r2, r3⟩ := hk.2.2.cells
      have f0 := hk.2.2.free 0
      have f1 := hk.2.2.free 1
      have f2 := hk.2.2.free 2
      have f3 := hk.2.2.free 3
      clear hk
      have hb : Below w6.heap.size w6 (w6.alloc (.cells #[.bool z2b, .string z2t] 38)) := (Below.refl _ _).alloc (Nat.le_refl _) _
      have hn := Bx2.new w6 (.bool z2b) (.string z2t) 38
      obtain ⟨W6, hW6⟩ : ∃ W, w6.alloc (.cells #[.bool z2b, .string z2t] 38) = W := ⟨_, rfl⟩
      obtain ⟨B6, hB6⟩ : ∃ B, w6.heap.size = B := ⟨_, rfl⟩
      rw [hW6] at hb hn
      rw [hB6] at hn
      have hn5 := HN6.out.next hb
      have HN7 := Lib.hid hn5
      have HN8 := Lib.hid hn
      have n0 := hn5.c0
      have n1 := hn5.c1
      have m0 := hn.c0
      have m1 := hn.c1
      clear hn hn5
      have hk := HK.out.next hb
      have HK := Lib.hid hk
      clear hb c0 c1 c2 c3 d0 d1 d2 d3 b0 b1 r0 r1 r2 r3 f0 f1 f2 f3
      obtain ⟨⟨c0, c1, c2, c3⟩, d0, d1, d2, d3⟩ := hk.1.cells
      have b0 := hk.2.1.c0
      have b1 := hk.2.1.c1
      obtain ⟨r0, r1, r2, r3⟩ := hk.2.2.cells
      have f0 := hk.2.2.free 0
      have f1 := hk.2.2.free 1
      have f2 := hk.2.2.free 2
      have f3 := hk.2.2.free 3
      clear hk
      clear n0 n1 m0 m1
      go_wp2
      obtain ⟨q0, q1, q2, q3⟩ := (HK.out.2.2.set4 (a := .bool false) (b := .string ⟨#[]⟩) (c := .bool false) (d := .string ⟨#[]⟩)).cells
      exact bodyPost_ret (v := .tuple #[.agg #[.bool false, .string ⟨#[]⟩, .bool false, .string ⟨#[]⟩], .int .i64 5]) (by simp [results, Try.results26, go_sem, q0, q1, q2, q3]) rfl ⟨rfl, below_set4 HK.out.1.2.2 (by omega) _ _ _ _⟩
  · have hsm : smZ o z1 z2 = .tuple #[arV 0 0, .int .i64 5] := by unfold smZ; rw [if_neg (fun h => f1 h.1)]
    obtain ⟨z1b, z1t, hz1⟩ := fitZ_out f1
    rw [hz1] at hm1
    obtain ⟨z2b, z2t, e2, hz2⟩ := fitZ_form z2
    rw [hz2] at hm2
    rw [hsm]
    have HM1 := Lib.hid hm1
    have HM2 := Lib.hid hm2
    clear hsm
    clear hz1 hz2
    unfold oV at HVA
    unfold kV arV at *
    unfold intV zV at *
    obtain ⟨O, gO⟩ : ∃ t, nS o = t := ⟨_, rfl⟩
    obtain ⟨vb, gvb⟩ : ∃ t, decide (v < 0) = t := ⟨_, rfl⟩
    obtain ⟨vt, gvt⟩ : ∃ t, nS v.natAbs = t := ⟨_, rfl⟩
    obtain ⟨rb, grb⟩ : ∃ t, decide (r < 0) = t := ⟨_, rfl⟩
    obtain ⟨rt, grt⟩ : ∃ t, nS r.natAbs = t := ⟨_, rfl⟩
    obtain ⟨bb, gbb⟩ : ∃ t, decide (b < 0) = t := ⟨_, rfl⟩
    obtain ⟨bt, gbt⟩ : ∃ t, nS b.natAbs = t := ⟨_, rfl⟩
    rw [gO] at HF HCK ⊢
    rw [gvb, gvt, grb, grt] at HVA
    rw [gbb, gbt] at HVB
    rw [gvb, gvt, gbb, gbt] at HM1
    rw [grb, grt, gbb, gbt] at HM2
    rw [gvb, gvt, grb, grt, gbb, gbt]
    rw [show decide ((0 : Int) < 0) = false from rfl, show nS (0 : Int).natAbs = ⟨#[]⟩ from rfl]
    clear gO gvb gvt grb grt gbb gbt
    clear hM ho hG hH hv hr hc hkf hos hsv hsr hm1 hm2 hb
    clear f1
    go_enter Try.func26, Try.ntmps26
    have hk := K4.new w M O G H vb vt rb rt bb bt
    obtain ⟨W0, hW0⟩ : ∃ W, (((w.alloc (.cells #[.string M, .string O, .string G, .string H] 26)).alloc (.cells #[.bool vb, .string vt, .bool rb, .string rt] 43)).alloc (.cells #[.bool bb, .string bt] 38)).alloc (.cells #[.bool false, .string ⟨#[]⟩, .bool false, .string ⟨#[]⟩] 43) = W := ⟨_, rfl⟩
    rw [hW0] at hk
    have HK := Lib.hid hk
    obtain ⟨⟨c0, c1, c2, c3⟩, d0, d1, d2, d3⟩ := hk.1.cells
    have b0 := hk.2.1.c0
    have b1 := hk.2.1.c1
    obtain ⟨r0, r1, r2, r3⟩ := hk.2.2.cells
    have f0 := hk.2.2.free 0
    have f1 := hk.2.2.free 1
    have f2 := hk.2.2.free 2
    have f3 := hk.2.2.free 3
    clear hk
    go_wp2_with fail
    try rw [hW0]
    clear hW0
    refine (HF.out _).mono ?_
    rintro ev w1 ⟨rfl, hb⟩
    have hk := HK.out.next hb
    have HK := Lib.hid hk
    clear hb c0 c1 c2 c3 d0 d1 d2 d3 b0 b1 r0 r1 r2 r3 f0 f1 f2 f3
    obtain ⟨⟨c0, c1, c2, c3⟩, d0, d1, d2, d3⟩ := hk.1.cells
    have b0 := hk.2.1.c0
    have b1 := hk.2.1.c1
    obtain ⟨r0, r1, r2, r3⟩ := hk.2.2.cells
    have f0 := hk.2.2.free 0
    have f1 := hk.2.2.free 1
    have f2 := hk.2.2.free 2
    have f3 := hk.2.2.free 3
    clear hk
    go_wp2_with fail
    refine (HVA.out _).mono ?_
    rintro ev w2 ⟨rfl, hb⟩
    have hk := HK.out.next hb
    have HK := Lib.hid hk
    clear hb c0 c1 c2 c3 d0 d1 d2 d3 b0 b1 r0 r1 r2 r3 f0 f1 f2 f3
    obtain ⟨⟨c0, c1, c2, c3⟩, d0, d1, d2, d3⟩ := hk.1.cells
    have b0 := hk.2.1.c0
    have b1 := hk.2.1.c1
    obtain ⟨r0, r1, r2, r3⟩ := hk.2.2.cells
    have f0 := hk.2.2.free 0
    have f1 := hk.2.2.free 1
    have f2 := hk.2.2.free 2
    have f3 := hk.2.2.free 3
    clear hk
    go_wp2_with fail
    refine (HVB.out _).mono ?_
    rintro ev w3 ⟨rfl, hb⟩
    have hk := HK.out.next hb
    have HK := Lib.hid hk
    clear hb c0 c1 c2 c3 d0 d1 d2 d3 b0 b1 r0 r1 r2 r3 f0 f1 f2 f3
    obtain ⟨⟨c0, c1, c2, c3⟩, d0, d1, d2, d3⟩ := hk.1.cells
    have b0 := hk.2.1.c0
    have b1 := hk.2.1.c1
    obtain ⟨r0, r1, r2, r3⟩ := hk.2.2.cells
    have f0 := hk.2.2.free 0
    have f1 := hk.2.2.free 1
    have f2 := hk.2.2.free 2
    have f3 := hk.2.2.free 3
    clear hk
    go_wp2_with fail
    refine (HCK.out _).mono ?_
    rintro ev w4 ⟨rfl, hb⟩
    have hk := HK.out.next hb
    have HK := Lib.hid hk
    clear hb c0 c1 c2 c3 d0 d1 d2 d3 b0 b1 r0 r1 r2 r3 f0 f1 f2 f3
    obtain ⟨⟨c0, c1, c2, c3⟩, d0, d1, d2, d3⟩ := hk.1.cells
    have b0 := hk.2.1.c0
    have b1 := hk.2.1.c1
    obtain ⟨r0, r1, r2, r3⟩ := hk.2.2.cells
    have f0 := hk.2.2.free 0
    have f1 := hk.2.2.free 1
    have f2 := hk.2.2.free 2
    have f3 := hk.2.2.free 3
    clear hk
    go_wp2_with fail
    refine (HM1.out _).mono ?_
    rintro ev w5 ⟨rfl, hb⟩
    have hk := HK.out.next hb
    have HK := Lib.hid hk
    clear hb c0 c1 c2 c3 d0 d1 d2 d3 b0 b1 r0 r1 r2 r3 f0 f1 f2 f3
    obtain ⟨⟨c0, c1, c2, c3⟩, d0, d1, d2, d3⟩ := hk.1.cells
    have b0 := hk.2.1.c0
    have b1 := hk.2.1.c1
    obtain ⟨r0, r1, r2, r3⟩ := hk.2.2.cells
    have f0 := hk.2.2.free 0
    have f1 := hk.2.2.free 1
    have f2 := hk.2.2.free 2
    have f3 := hk.2.2.free 3
    clear hk
    have hb : Below w5.heap.size w5 (w5.alloc (.cells #[.bool z1b, .string z1t] 38)) := (Below.refl _ _).alloc (Nat.le_refl _) _
    have hn := Bx2.new w5 (.bool z1b) (.string z1t) 38
    obtain ⟨W5, hW5⟩ : ∃ W, w5.alloc (.cells #[.bool z1b, .string z1t] 38) = W := ⟨_, rfl⟩
    obtain ⟨B5, hB5⟩ : ∃ B, w5.heap.size = B := ⟨_, rfl⟩
    rw [hW5] at hb hn
    rw [hB5] at hn
    have HN5 := Lib.hid hn
    clear hn
    have hk := HK.out.next hb
    have HK := Lib.hid hk
    clear hb c0 c1 c2 c3 d0 d1 d2 d3 b0 b1 r0 r1 r2 r3 f0 f1 f2 f3
    obtain ⟨⟨c0, c1, c2, c3⟩, d0, d1, d2, d3⟩ := hk.1.cells
    have b0 := hk.2.1.c0
    have b1 := hk.2.1.c1
    obtain ⟨r0, r1, r2, r3⟩ := hk.2.2.cells
    have f0 := hk.2.2.free 0
    have f1 := hk.2.2.free 1
    have f2 := hk.2.2.free 2
    have f3 := hk.2.2.free 3
    clear hk
    go_wp2_with fail
    try rw [hW5]
    try rw [hB5]
    clear hW5 hB5
    refine (HM2.out _).mono ?_
    rintro ev w6 ⟨rfl, hb⟩
    have HN6 := Lib.hid (HN5.out.next hb)
    have hk := HK.out.next hb
    have HK := Lib.hid hk
    clear hb c0 c1 c2 c3 d0 d1 d2 d3 b0 b1 r0 r1 r2 r3 f0 f1 f2 f3
    obtain ⟨⟨c0, c1, c2, c3⟩, d0, d1, d2, d3⟩ := hk.1.cells
    have b0 := hk.2.1.c0
    have b1 := hk.2.1.c1
    obtain ⟨r0, r1, r2, r3⟩ := hk.2.2.cells
    have f0 := hk.2.2.free 0
    have f1 := hk.2.2.free 1
    have f2 := hk.2.2.free 2
    have f3 := hk.2.2.free 3
    clear hk
    have hb : Below w6.heap.size w6 (w6.alloc (.cells #[.bool z2b, .string z2t] 38)) := (Below.refl _ _).alloc (Nat.le_refl _) _
    have hn := Bx2.new w6 (.bool z2b) (.string z2t) 38
    obtain ⟨W6, hW6⟩ : ∃ W, w6.alloc (.cells #[.bool z2b, .string z2t] 38) = W := ⟨_, rfl⟩
    obtain ⟨B6, hB6⟩ : ∃ B, w6.heap.size = B := ⟨_, rfl⟩
    rw [hW6] at hb hn
    rw [hB6] at hn
    have hn5 := HN6.out.next hb
    have HN7 := Lib.hid hn5
    have HN8 := Lib.hid hn
    have n0 := hn5.c0
    have n1 := hn5.c1
    have m0 := hn.c0
    have m1 := hn.c1
    clear hn hn5
    have hk := HK.out.next hb
    have HK := Lib.hid hk
    clear hb c0 c1 c2 c3 d0 d1 d2 d3 b0 b1 r0 r1 r2 r3 f0 f1 f2 f3
    obtain ⟨⟨c0, c1, c2, c3⟩, d0, d1, d2, d3⟩ := hk.1.cells
    have b0 := hk.2.1.c0
    have b1 := hk.2.1.c1
    obtain ⟨r0, r1, r2, r3⟩ := hk.2.2.cells
    have f0 := hk.2.2.free 0
    have f1 := hk.2.2.free 1
    have f2 := hk.2.2.free 2
    have f3 := hk.2.2.free 3
    clear hk
    clear n0 n1 m0 m1
    go_wp2
    obtain ⟨q0, q1, q2, q3⟩ := (HK.out.2.2.set4 (a := .bool false) (b := .string ⟨#[]⟩) (c := .bool false) (d := .string ⟨#[]⟩)).cells
    exact bodyPost_ret (v := .tuple #[.agg #[.bool false, .string ⟨#[]⟩, .bool false, .string ⟨#[]⟩], .int .i64 5]) (by simp [results, Try.results26, go_sem, q0, q1, q2, q3]) rfl ⟨rfl, below_set4 HK.out.1.2.2 (by omega) _ _ _ _⟩
set_option maxRecDepth 100000 in
set_option maxHeartbeats 4000000 in
theorem pk_Times (M O G H : ByteArray) (vb : Bool) (vt : ByteArray) (rb : Bool) (rt : ByteArray) (bb : Bool) (bt : ByteArray) (hM : M.size ≤ 8) (hO : O.size ≤ 8) (hG : G.size ≤ 1000) (hH : H.size ≤ 1000) (hvt : vt.size ≤ 1000) (hrt : rt.size ≤ 1000) (hbt : bt.size ≤ 1000) (w : World) : Calls Try.prog 26 #[kV M O G H, oV vb vt rb rt, zV bb bt] w (Ret (smR M O G H ((zvalid vb vt && zvalid rb rt) && (zvalid bb bt)) (sg vb (num vt) * sg bb (num bt)) (sg rb (num rt) * sg bb (num bt))) w) := by
  have HF := Lib.hid (pk_formed M O G H (by omega) (by omega) hG hH)
  have HVA := Lib.hid (pk_valid vb vt rb rt hvt hrt)
  have HVB := Lib.hid (int_Valid bb bt (by omega))
  have HCK := Lib.hid (pk_Check M O G H hM hO hG hH)
  unfold smR
  cases hkf : kF M O G H with
  | false =>
    rw [hkf] at HF
    rw [if_pos (by rfl), arV_zero]
    unfold kV oV zV at *
    clear hkf hM hO hG hH hvt hrt hbt
    go_enter Try.func26, Try.ntmps26
    have hk := K4.new w M O G H vb vt rb rt bb bt
    obtain ⟨W0, hW0⟩ : ∃ W, (((w.alloc (.cells #[.string M, .string O, .string G, .string H] 26)).alloc (.cells #[.bool vb, .string vt, .bool rb, .string rt] 43)).alloc (.cells #[.bool bb, .string bt] 38)).alloc (.cells #[.bool false, .string ⟨#[]⟩, .bool false, .string ⟨#[]⟩] 43) = W := ⟨_, rfl⟩
    rw [hW0] at hk
    have HK := Lib.hid hk
    obtain ⟨⟨c0, c1, c2, c3⟩, d0, d1, d2, d3⟩ := hk.1.cells
    have b0 := hk.2.1.c0
    have b1 := hk.2.1.c1
    obtain ⟨r0, r1, r2, r3⟩ := hk.2.2.cells
    have f0 := hk.2.2.free 0
    have f1 := hk.2.2.free 1
    have f2 := hk.2.2.free 2
    have f3 := hk.2.2.free 3
    clear hk
    go_wp2_with fail
    try rw [hW0]
    clear hW0
    refine (HF.out _).mono ?_
    rintro ev w1 ⟨rfl, hb⟩
    have hk := HK.out.next hb
    have HK := Lib.hid hk
    clear hb c0 c1 c2 c3 d0 d1 d2 d3 b0 b1 r0 r1 r2 r3 f0 f1 f2 f3
    obtain ⟨⟨c0, c1, c2, c3⟩, d0, d1, d2, d3⟩ := hk.1.cells
    have b0 := hk.2.1.c0
    have b1 := hk.2.1.c1
    obtain ⟨r0, r1, r2, r3⟩ := hk.2.2.cells
    have f0 := hk.2.2.free 0
    have f1 := hk.2.2.free 1
    have f2 := hk.2.2.free 2
    have f3 := hk.2.2.free 3
    clear hk
    go_wp2
    obtain ⟨q0, q1, q2, q3⟩ := (HK.out.2.2.set4 (a := .bool false) (b := .string ⟨#[]⟩) (c := .bool false) (d := .string ⟨#[]⟩)).cells
    exact bodyPost_ret (v := .tuple #[.agg #[.bool false, .string ⟨#[]⟩, .bool false, .string ⟨#[]⟩], .int .i64 3]) (by simp [results, Try.results26, go_sem, q0, q1, q2, q3]) rfl ⟨rfl, below_set4 HK.out.1.2.2 (by omega) _ _ _ _⟩
  | true =>
    rw [hkf] at HF
    cases hza : (zvalid vb vt && zvalid rb rt) with
    | false =>
      rw [hza] at HVA
      rw [if_pos (by rfl), arV_zero]
      unfold kV oV zV at *
      clear hkf hza hM hO hG hH hvt hrt hbt
      go_enter Try.func26, Try.ntmps26
      have hk := K4.new w M O G H vb vt rb rt bb bt
      obtain ⟨W0, hW0⟩ : ∃ W, (((w.alloc (.cells #[.string M, .string O, .string G, .string H] 26)).alloc (.cells #[.bool vb, .string vt, .bool rb, .string rt] 43)).alloc (.cells #[.bool bb, .string bt] 38)).alloc (.cells #[.bool false, .string ⟨#[]⟩, .bool false, .string ⟨#[]⟩] 43) = W := ⟨_, rfl⟩
      rw [hW0] at hk
      have HK := Lib.hid hk
      obtain ⟨⟨c0, c1, c2, c3⟩, d0, d1, d2, d3⟩ := hk.1.cells
      have b0 := hk.2.1.c0
      have b1 := hk.2.1.c1
      obtain ⟨r0, r1, r2, r3⟩ := hk.2.2.cells
      have f0 := hk.2.2.free 0
      have f1 := hk.2.2.free 1
      have f2 := hk.2.2.free 2
      have f3 := hk.2.2.free 3
      clear hk
      go_wp2_with fail
      try rw [hW0]
      clear hW0
      refine (HF.out _).mono ?_
      rintro ev w1 ⟨rfl, hb⟩
      have hk := HK.out.next hb
      have HK := Lib.hid hk
      clear hb c0 c1 c2 c3 d0 d1 d2 d3 b0 b1 r0 r1 r2 r3 f0 f1 f2 f3
      obtain ⟨⟨c0, c1, c2, c3⟩, d0, d1, d2, d3⟩ := hk.1.cells
      have b0 := hk.2.1.c0
      have b1 := hk.2.1.c1
      obtain ⟨r0, r1, r2, r3⟩ := hk.2.2.cells
      have f0 := hk.2.2.free 0
      have f1 := hk.2.2.free 1
      have f2 := hk.2.2.free 2
      have f3 := hk.2.2.free 3
      clear hk
      go_wp2_with fail
      refine (HVA.out _).mono ?_
      rintro ev w2 ⟨rfl, hb⟩
      have hk := HK.out.next hb
      have HK := Lib.hid hk
      clear hb c0 c1 c2 c3 d0 d1 d2 d3 b0 b1 r0 r1 r2 r3 f0 f1 f2 f3
      obtain ⟨⟨c0, c1, c2, c3⟩, d0, d1, d2, d3⟩ := hk.1.cells
      have b0 := hk.2.1.c0
      have b1 := hk.2.1.c1
      obtain ⟨r0, r1, r2, r3⟩ := hk.2.2.cells
      have f0 := hk.2.2.free 0
      have f1 := hk.2.2.free 1
      have f2 := hk.2.2.free 2
      have f3 := hk.2.2.free 3
      clear hk
      go_wp2
      obtain ⟨q0, q1, q2, q3⟩ := (HK.out.2.2.set4 (a := .bool false) (b := .string ⟨#[]⟩) (c := .bool false) (d := .string ⟨#[]⟩)).cells
      exact bodyPost_ret (v := .tuple #[.agg #[.bool false, .string ⟨#[]⟩, .bool false, .string ⟨#[]⟩], .int .i64 3]) (by simp [results, Try.results26, go_sem, q0, q1, q2, q3]) rfl ⟨rfl, below_set4 HK.out.1.2.2 (by omega) _ _ _ _⟩
    | true =>
      rw [hza] at HVA
      cases hzb : (zvalid bb bt) with
      | false =>
        rw [hzb] at HVB
        rw [if_pos (by rfl), arV_zero]
        unfold kV oV zV at *
        clear hkf hza hzb hM hO hG hH hvt hrt hbt
        go_enter Try.func26, Try.ntmps26
        have hk := K4.new w M O G H vb vt rb rt bb bt
        obtain ⟨W0, hW0⟩ : ∃ W, (((w.alloc (.cells #[.string M, .string O, .string G, .string H] 26)).alloc (.cells #[.bool vb, .string vt, .bool rb, .string rt] 43)).alloc (.cells #[.bool bb, .string bt] 38)).alloc (.cells #[.bool false, .string ⟨#[]⟩, .bool false, .string ⟨#[]⟩] 43) = W := ⟨_, rfl⟩
        rw [hW0] at hk
        have HK := Lib.hid hk
        obtain ⟨⟨c0, c1, c2, c3⟩, d0, d1, d2, d3⟩ := hk.1.cells
        have b0 := hk.2.1.c0
        have b1 := hk.2.1.c1
        obtain ⟨r0, r1, r2, r3⟩ := hk.2.2.cells
        have f0 := hk.2.2.free 0
        have f1 := hk.2.2.free 1
        have f2 := hk.2.2.free 2
        have f3 := hk.2.2.free 3
        clear hk
        go_wp2_with fail
        try rw [hW0]
        clear hW0
        refine (HF.out _).mono ?_
        rintro ev w1 ⟨rfl, hb⟩
        have hk := HK.out.next hb
        have HK := Lib.hid hk
        clear hb c0 c1 c2 c3 d0 d1 d2 d3 b0 b1 r0 r1 r2 r3 f0 f1 f2 f3
        obtain ⟨⟨c0, c1, c2, c3⟩, d0, d1, d2, d3⟩ := hk.1.cells
        have b0 := hk.2.1.c0
        have b1 := hk.2.1.c1
        obtain ⟨r0, r1, r2, r3⟩ := hk.2.2.cells
        have f0 := hk.2.2.free 0
        have f1 := hk.2.2.free 1
        have f2 := hk.2.2.free 2
        have f3 := hk.2.2.free 3
        clear hk
        go_wp2_with fail
        refine (HVA.out _).mono ?_
        rintro ev w2 ⟨rfl, hb⟩
        have hk := HK.out.next hb
        have HK := Lib.hid hk
        clear hb c0 c1 c2 c3 d0 d1 d2 d3 b0 b1 r0 r1 r2 r3 f0 f1 f2 f3
        obtain ⟨⟨c0, c1, c2, c3⟩, d0, d1, d2, d3⟩ := hk.1.cells
        have b0 := hk.2.1.c0
        have b1 := hk.2.1.c1
        obtain ⟨r0, r1, r2, r3⟩ := hk.2.2.cells
        have f0 := hk.2.2.free 0
        have f1 := hk.2.2.free 1
        have f2 := hk.2.2.free 2
        have f3 := hk.2.2.free 3
        clear hk
        go_wp2_with fail
        refine (HVB.out _).mono ?_
        rintro ev w3 ⟨rfl, hb⟩
        have hk := HK.out.next hb
        have HK := Lib.hid hk
        clear hb c0 c1 c2 c3 d0 d1 d2 d3 b0 b1 r0 r1 r2 r3 f0 f1 f2 f3
        obtain ⟨⟨c0, c1, c2, c3⟩, d0, d1, d2, d3⟩ := hk.1.cells
        have b0 := hk.2.1.c0
        have b1 := hk.2.1.c1
        obtain ⟨r0, r1, r2, r3⟩ := hk.2.2.cells
        have f0 := hk.2.2.free 0
        have f1 := hk.2.2.free 1
        have f2 := hk.2.2.free 2
        have f3 := hk.2.2.free 3
        clear hk
        go_wp2
        obtain ⟨q0, q1, q2, q3⟩ := (HK.out.2.2.set4 (a := .bool false) (b := .string ⟨#[]⟩) (c := .bool false) (d := .string ⟨#[]⟩)).cells
        exact bodyPost_ret (v := .tuple #[.agg #[.bool false, .string ⟨#[]⟩, .bool false, .string ⟨#[]⟩], .int .i64 3]) (by simp [results, Try.results26, go_sem, q0, q1, q2, q3]) rfl ⟨rfl, below_set4 HK.out.1.2.2 (by omega) _ _ _ _⟩
      | true =>
        rw [if_neg (by decide)]
        by_cases hc : pkC M O G H = 0
        · rw [if_pos hc]
          obtain ⟨a1, a2⟩ := Bool.and_eq_true_iff.1 hza
          have a3 := hzb
          have hO2 := nS_num (kF_parts' hkf).2.1
          obtain ⟨p1, p2, p3⟩ := zv_parts a1
          obtain ⟨p4, p5, p6⟩ := zv_parts a2
          obtain ⟨p7, p8, p9⟩ := zv_parts a3
          have ho8 : num O < 18446744073709551616 := nS_size_le.1 (by rw [← hO2]; exact hO)
          rw [hO2] at hc ⊢
          rw [num_nS]
          generalize sg vb (num vt) = v at *
          generalize sg rb (num rt) = r at *
          generalize sg bb (num bt) = b at *
          subst p1 p2 p4 p5 p7 p8
          exact pk_Times_core M G H (num O) v r b _ _ hM ho8 hG hH p3 p6 p9 hc (fun w => int_MulA v b p3 p9 w) (fun w => int_MulA r b p6 p9 w) w
        · rw [if_neg hc, arV_zero]
          obtain ⟨k, hk⟩ : ∃ k, pkC M O G H = k := ⟨_, rfl⟩
          rw [hk] at HCK hc ⊢
          rw [hzb] at HVB
          have i3 : (k == 0) = false := beq_eq_false_iff_ne.2 hc
          unfold kV oV zV at *
          clear hk hkf hza hzb hM hO hG hH hvt hrt hbt
          go_enter Try.func26, Try.ntmps26
          have hk := K4.new w M O G H vb vt rb rt bb bt
          obtain ⟨W0, hW0⟩ : ∃ W, (((w.alloc (.cells #[.string M, .string O, .string G, .string H] 26)).alloc (.cells #[.bool vb, .string vt, .bool rb, .string rt] 43)).alloc (.cells #[.bool bb, .string bt] 38)).alloc (.cells #[.bool false, .string ⟨#[]⟩, .bool false, .string ⟨#[]⟩] 43) = W := ⟨_, rfl⟩
          rw [hW0] at hk
          have HK := Lib.hid hk
          obtain ⟨⟨c0, c1, c2, c3⟩, d0, d1, d2, d3⟩ := hk.1.cells
          have b0 := hk.2.1.c0
          have b1 := hk.2.1.c1
          obtain ⟨r0, r1, r2, r3⟩ := hk.2.2.cells
          have f0 := hk.2.2.free 0
          have f1 := hk.2.2.free 1
          have f2 := hk.2.2.free 2
          have f3 := hk.2.2.free 3
          clear hk
          go_wp2_with fail
          try rw [hW0]
          clear hW0
          refine (HF.out _).mono ?_
          rintro ev w1 ⟨rfl, hb⟩
          have hk := HK.out.next hb
          have HK := Lib.hid hk
          clear hb c0 c1 c2 c3 d0 d1 d2 d3 b0 b1 r0 r1 r2 r3 f0 f1 f2 f3
          obtain ⟨⟨c0, c1, c2, c3⟩, d0, d1, d2, d3⟩ := hk.1.cells
          have b0 := hk.2.1.c0
          have b1 := hk.2.1.c1
          obtain ⟨r0, r1, r2, r3⟩ := hk.2.2.cells
          have f0 := hk.2.2.free 0
          have f1 := hk.2.2.free 1
          have f2 := hk.2.2.free 2
          have f3 := hk.2.2.free 3
          clear hk
          go_wp2_with fail
          refine (HVA.out _).mono ?_
          rintro ev w2 ⟨rfl, hb⟩
          have hk := HK.out.next hb
          have HK := Lib.hid hk
          clear hb c0 c1 c2 c3 d0 d1 d2 d3 b0 b1 r0 r1 r2 r3 f0 f1 f2 f3
          obtain ⟨⟨c0, c1, c2, c3⟩, d0, d1, d2, d3⟩ := hk.1.cells
          have b0 := hk.2.1.c0
          have b1 := hk.2.1.c1
          obtain ⟨r0, r1, r2, r3⟩ := hk.2.2.cells
          have f0 := hk.2.2.free 0
          have f1 := hk.2.2.free 1
          have f2 := hk.2.2.free 2
          have f3 := hk.2.2.free 3
          clear hk
          go_wp2_with fail
          refine (HVB.out _).mono ?_
          rintro ev w3 ⟨rfl, hb⟩
          have hk := HK.out.next hb
          have HK := Lib.hid hk
          clear hb c0 c1 c2 c3 d0 d1 d2 d3 b0 b1 r0 r1 r2 r3 f0 f1 f2 f3
          obtain ⟨⟨c0, c1, c2, c3⟩, d0, d1, d2, d3⟩ := hk.1.cells
          have b0 := hk.2.1.c0
          have b1 := hk.2.1.c1
          obtain ⟨r0, r1, r2, r3⟩ := hk.2.2.cells
          have f0 := hk.2.2.free 0
          have f1 := hk.2.2.free 1
          have f2 := hk.2.2.free 2
          have f3 := hk.2.2.free 3
          clear hk
          go_wp2_with fail
          refine (HCK.out _).mono ?_
          rintro ev w4 ⟨rfl, hb⟩
          have hk := HK.out.next hb
          have HK := Lib.hid hk
          clear hb c0 c1 c2 c3 d0 d1 d2 d3 b0 b1 r0 r1 r2 r3 f0 f1 f2 f3
          obtain ⟨⟨c0, c1, c2, c3⟩, d0, d1, d2, d3⟩ := hk.1.cells
          have b0 := hk.2.1.c0
          have b1 := hk.2.1.c1
          obtain ⟨r0, r1, r2, r3⟩ := hk.2.2.cells
          have f0 := hk.2.2.free 0
          have f1 := hk.2.2.free 1
          have f2 := hk.2.2.free 2
          have f3 := hk.2.2.free 3
          clear hk
          go_wp2
          obtain ⟨q0, q1, q2, q3⟩ := (HK.out.2.2.set4 (a := .bool false) (b := .string ⟨#[]⟩) (c := .bool false) (d := .string ⟨#[]⟩)).cells
          exact bodyPost_ret (v := .tuple #[.agg #[.bool false, .string ⟨#[]⟩, .bool false, .string ⟨#[]⟩], .int .i64 k]) (by simp [results, Try.results26, go_sem, q0, q1, q2, q3]) rfl ⟨rfl, below_set4 HK.out.1.2.2 (by omega) _ _ _ _⟩
end Go.Proofs.Ytnnfgphioapmnaa

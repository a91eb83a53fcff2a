/- The law PedersenSums. -/
import Derived.Test.YtnnfgphioapmnaaGreatPeY
import Derived.Test.YtnnfgphioapmnaaGreatPeDC
set_option linter.unusedVariables false
set_option linter.unusedSimpArgs false
namespace Go.Proofs.YtnnfgphioapmnaaGreat
open Go.RowKit

theorem few14_of2 {M O G H : ByteArray} (h : few14 M O G H = true) : M.size ≤ 8 ∧ O.size ≤ 8 ∧ G.size ≤ 9 ∧ H.size ≤ 9 := by
  unfold few14 at h
  simp only [Bool.and_eq_true, decide_eq_true_eq] at h
  exact h
theorem smR_form (M O G H : ByteArray) (ok : Bool) (z1 z2 : Int) : ∃ (b1 : Bool) (s1 : ByteArray) (b2 : Bool) (s2 : ByteArray) (e : Int), smR M O G H ok z1 z2 = .tuple #[.agg #[.bool b1, .string s1, .bool b2, .string s2], .int .i64 e] := by
  unfold smR smZ arV
  split
  · exact ⟨_, _, _, _, _, rfl⟩
  · split
    · split
      · exact ⟨_, _, _, _, _, rfl⟩
      · exact ⟨_, _, _, _, _, rfl⟩
    · exact ⟨_, _, _, _, _, rfl⟩
/-- Eight values in a block. -/
def Bx8 (W : World) (B : Nat) (x0 x1 x2 x3 x4 x5 x6 x7 : Value) (T : TypeId) : Prop := W.heap[B]? = some (.cells #[x0, x1, x2, x3, x4, x5, x6, x7] T (0, 0))
theorem Bx8.lt {W : World} {B : Nat} {x0 x1 x2 x3 x4 x5 x6 x7 : Value} {T : TypeId} (h : Bx8 W B x0 x1 x2 x3 x4 x5 x6 x7 T) : B < W.heap.size := block_lt h
theorem Bx8.next {W W' : World} {B : Nat} {x0 x1 x2 x3 x4 x5 x6 x7 : Value} {T : TypeId} (h : Bx8 W B x0 x1 x2 x3 x4 x5 x6 x7 T) (hb : Below W.heap.size W W') : Bx8 W' B x0 x1 x2 x3 x4 x5 x6 x7 T := (hb.block B h.lt).trans h
theorem Bx8.cells {W : World} {B : Nat} {x0 x1 x2 x3 x4 x5 x6 x7 : Value} {T : TypeId} (h : Bx8 W B x0 x1 x2 x3 x4 x5 x6 x7 T) : W.cell? ⟨B, 0, none⟩ = some x0 ∧ W.cell? ⟨B, 1, none⟩ = some x1 ∧ W.cell? ⟨B, 2, none⟩ = some x2 ∧ W.cell? ⟨B, 3, none⟩ = some x3 ∧ W.cell? ⟨B, 4, none⟩ = some x4 ∧ W.cell? ⟨B, 5, none⟩ = some x5 ∧ W.cell? ⟨B, 6, none⟩ = some x6 ∧ W.cell? ⟨B, 7, none⟩ = some x7 := by
  refine ⟨?_, ?_, ?_, ?_, ?_, ?_, ?_, ?_⟩ <;> (rw [Lib.cell_of_heap h]; rfl)
/-- A key, two openings and an integer. -/
def KU (w W : World) (M O G H : ByteArray) (a0 : Bool) (a1 : ByteArray) (a2 : Bool) (a3 : ByteArray) (a4 : Bool) (a5 : ByteArray) (a6 : Bool) (a7 : ByteArray) (bb : Bool) (bt : ByteArray) : Prop :=
  Bx4 W w.heap.size (.string M) (.string O) (.string G) (.string H) 26 ∧ Bx8 W (w.heap.size + 1) (.bool a0) (.string a1) (.bool a2) (.string a3) (.bool a4) (.string a5) (.bool a6) (.string a7) 40 ∧ Bx2 W (w.heap.size + 1 + 1) (.bool bb) (.string bt) 28 ∧ Below w.heap.size w W
theorem KU.new (w : World) (M O G H : ByteArray) (a0 : Bool) (a1 : ByteArray) (a2 : Bool) (a3 : ByteArray) (a4 : Bool) (a5 : ByteArray) (a6 : Bool) (a7 : ByteArray) (bb : Bool) (bt : ByteArray) : KU w (((w.alloc (.cells #[.string M, .string O, .string G, .string H] 26)).alloc (.cells #[.bool a0, .string a1, .bool a2, .string a3, .bool a4, .string a5, .bool a6, .string a7] 40)).alloc (.cells #[.bool bb, .string bt] 28)) M O G H a0 a1 a2 a3 a4 a5 a6 a7 bb bt := by
  have h1 : Below (w.alloc (.cells #[.string M, .string O, .string G, .string H] 26)).heap.size (w.alloc (.cells #[.string M, .string O, .string G, .string H] 26)) ((w.alloc (.cells #[.string M, .string O, .string G, .string H] 26)).alloc (.cells #[.bool a0, .string a1, .bool a2, .string a3, .bool a4, .string a5, .bool a6, .string a7] 40)) := (Below.refl _ _).alloc (Nat.le_refl _) _
  have h2 : Below ((w.alloc (.cells #[.string M, .string O, .string G, .string H] 26)).alloc (.cells #[.bool a0, .string a1, .bool a2, .string a3, .bool a4, .string a5, .bool a6, .string a7] 40)).heap.size ((w.alloc (.cells #[.string M, .string O, .string G, .string H] 26)).alloc (.cells #[.bool a0, .string a1, .bool a2, .string a3, .bool a4, .string a5, .bool a6, .string a7] 40)) (((w.alloc (.cells #[.string M, .string O, .string G, .string H] 26)).alloc (.cells #[.bool a0, .string a1, .bool a2, .string a3, .bool a4, .string a5, .bool a6, .string a7] 40)).alloc (.cells #[.bool bb, .string bt] 28)) := (Below.refl _ _).alloc (Nat.le_refl _) _
  refine ⟨((Bx4.new w _ _ _ _ _).next h1).next h2, ?_, ?_, (((Below.refl w.heap.size w).alloc (Nat.le_refl _) _).alloc (by simp) _).alloc (by simp; omega) _⟩
  · have h3 : Bx8 ((w.alloc (.cells #[.string M, .string O, .string G, .string H] 26)).alloc (.cells #[.bool a0, .string a1, .bool a2, .string a3, .bool a4, .string a5, .bool a6, .string a7] 40)) (w.alloc (.cells #[.string M, .string O, .string G, .string H] 26)).heap.size (.bool a0) (.string a1) (.bool a2) (.string a3) (.bool a4) (.string a5) (.bool a6) (.string a7) 40 := heap_alloc_new _ _
    have := h3.next h2
    rwa [World.size_alloc] at this
  · have := Bx2.new ((w.alloc (.cells #[.string M, .string O, .string G, .string H] 26)).alloc (.cells #[.bool a0, .string a1, .bool a2, .string a3, .bool a4, .string a5, .bool a6, .string a7] 40)) (.bool bb) (.string bt) 28
    rwa [World.size_alloc, World.size_alloc] at this
theorem KU.next {w W W' : World} {M O G H : ByteArray} {a0 : Bool} {a1 : ByteArray} {a2 : Bool} {a3 : ByteArray} {a4 : Bool} {a5 : ByteArray} {a6 : Bool} {a7 : ByteArray} {bb : Bool} {bt : ByteArray} (h : KU w W M O G H a0 a1 a2 a3 a4 a5 a6 a7 bb bt) (hb : Below W.heap.size W W') : KU w W' M O G H a0 a1 a2 a3 a4 a5 a6 a7 bb bt :=
  ⟨h.1.next hb, h.2.1.next hb, h.2.2.1.next hb, h.2.2.2.trans (hb.mono (Nat.le_of_lt h.1.lt))⟩
set_option maxRecDepth 100000 in
set_option maxHeartbeats 8000000 in
theorem walk_sums (M O G H : ByteArray) (a0 : Bool) (a1 : ByteArray) (a2 : Bool) (a3 : ByteArray) (a4 : Bool) (a5 : ByteArray) (a6 : Bool) (a7 : ByteArray) (bb : Bool) (bt : ByteArray) (w : World) : Calls Tryz.prog 4 #[kV M O G H, .agg #[.bool a0, .string a1, .bool a2, .string a3, .bool a4, .string a5, .bool a6, .string a7], zV bb bt] w (Ret (.bool true) w) := by
  have HAW := Lib.hid law14_awake
  have HFW := Lib.hid (law14_Few M O G H)
  cases hf : few14 M O G H with
  | false =>
    rw [hf] at HFW
    unfold kV zV at *
    clear hf
    go_enter Tryz.func4, Tryz.ntmps4
    have hk := KU.new w M O G H a0 a1 a2 a3 a4 a5 a6 a7 bb bt
    obtain ⟨W0, hW0⟩ : ∃ W, ((w.alloc (.cells #[.string M, .string O, .string G, .string H] 26)).alloc (.cells #[.bool a0, .string a1, .bool a2, .string a3, .bool a4, .string a5, .bool a6, .string a7] 40)).alloc (.cells #[.bool bb, .string bt] 28) = W := ⟨_, rfl⟩
    rw [hW0] at hk
    have HK := Lib.hid hk
    obtain ⟨c0, c1, c2, c3⟩ := hk.1.cells
    obtain ⟨e0, e1, e2, e3, e4, e5, e6, e7⟩ := hk.2.1.cells
    have b0 := hk.2.2.1.c0
    have b1 := hk.2.2.1.c1
    clear hk
    go_wp2_with fail
    try rw [hW0]
    clear hW0
    refine (HFW.out _).mono ?_
    rintro ev w1 ⟨rfl, hb⟩
    have hk := HK.out.next hb
    have HK := Lib.hid hk
    clear hb c0 c1 c2 c3 e0 e1 e2 e3 e4 e5 e6 e7 b0 b1
    obtain ⟨c0, c1, c2, c3⟩ := hk.1.cells
    obtain ⟨e0, e1, e2, e3, e4, e5, e6, e7⟩ := hk.2.1.cells
    have b0 := hk.2.2.1.c0
    have b1 := hk.2.2.1.c1
    clear hk
    go_wp2_with fail
    refine (HAW.out _).mono ?_
    rintro ev w2 ⟨rfl, hb⟩
    have hk := HK.out.next hb
    have HK := Lib.hid hk
    clear hb c0 c1 c2 c3 e0 e1 e2 e3 e4 e5 e6 e7 b0 b1
    obtain ⟨c0, c1, c2, c3⟩ := hk.1.cells
    obtain ⟨e0, e1, e2, e3, e4, e5, e6, e7⟩ := hk.2.1.cells
    have b0 := hk.2.2.1.c0
    have b1 := hk.2.2.1.c1
    clear hk
    go_wp2
    go_ret
    exact ⟨rfl, HK.out.2.2.2⟩
  | true =>
    rw [hf] at HFW
    obtain ⟨h1, h2, h3, h4⟩ := few14_of2 hf
    clear hf
    by_cases l0 : 140 < a1.size
    · have i0 : decide ((140 : Int) < (a1.size : Int)) = true := decide_eq_true (by omega)
      unfold kV zV at *
      clear h1 h2 h3 h4 l0
      go_enter Tryz.func4, Tryz.ntmps4
      have hk := KU.new w M O G H a0 a1 a2 a3 a4 a5 a6 a7 bb bt
      obtain ⟨W0, hW0⟩ : ∃ W, ((w.alloc (.cells #[.string M, .string O, .string G, .string H] 26)).alloc (.cells #[.bool a0, .string a1, .bool a2, .string a3, .bool a4, .string a5, .bool a6, .string a7] 40)).alloc (.cells #[.bool bb, .string bt] 28) = W := ⟨_, rfl⟩
      rw [hW0] at hk
      have HK := Lib.hid hk
      obtain ⟨c0, c1, c2, c3⟩ := hk.1.cells
      obtain ⟨e0, e1, e2, e3, e4, e5, e6, e7⟩ := hk.2.1.cells
      have b0 := hk.2.2.1.c0
      have b1 := hk.2.2.1.c1
      clear hk
      go_wp2_with fail
      try rw [hW0]
      clear hW0
      refine (HFW.out _).mono ?_
      rintro ev w1 ⟨rfl, hb⟩
      have hk := HK.out.next hb
      have HK := Lib.hid hk
      clear hb c0 c1 c2 c3 e0 e1 e2 e3 e4 e5 e6 e7 b0 b1
      obtain ⟨c0, c1, c2, c3⟩ := hk.1.cells
      obtain ⟨e0, e1, e2, e3, e4, e5, e6, e7⟩ := hk.2.1.cells
      have b0 := hk.2.2.1.c0
      have b1 := hk.2.2.1.c1
      clear hk
      go_wp2_with fail
      refine (HAW.out _).mono ?_
      rintro ev w2 ⟨rfl, hb⟩
      have hk := HK.out.next hb
      have HK := Lib.hid hk
      clear hb c0 c1 c2 c3 e0 e1 e2 e3 e4 e5 e6 e7 b0 b1
      obtain ⟨c0, c1, c2, c3⟩ := hk.1.cells
      obtain ⟨e0, e1, e2, e3, e4, e5, e6, e7⟩ := hk.2.1.cells
      have b0 := hk.2.2.1.c0
      have b1 := hk.2.2.1.c1
      clear hk
      go_wp2
      go_ret
      exact ⟨rfl, HK.out.2.2.2⟩
    · have i0 : decide ((140 : Int) < (a1.size : Int)) = false := decide_eq_false (by omega)
      by_cases l1 : 140 < a3.size
      · have i1 : decide ((140 : Int) < (a3.size : Int)) = true := decide_eq_true (by omega)
        unfold kV zV at *
        clear h1 h2 h3 h4 l0 l1
        go_enter Tryz.func4, Tryz.ntmps4
        have hk := KU.new w M O G H a0 a1 a2 a3 a4 a5 a6 a7 bb bt
        obtain ⟨W0, hW0⟩ : ∃ W, ((w.alloc (.cells #[.string M, .string O, .string G, .string H] 26)).alloc (.cells #[.bool a0, .string a1, .bool a2, .string a3, .bool a4, .string a5, .bool a6, .string a7] 40)).alloc (.cells #[.bool bb, .string bt] 28) = W := ⟨_, rfl⟩
        rw [hW0] at hk
        have HK := Lib.hid hk
        obtain ⟨c0, c1, c2, c3⟩ := hk.1.cells
        obtain ⟨e0, e1, e2, e3, e4, e5, e6, e7⟩ := hk.2.1.cells
        have b0 := hk.2.2.1.c0
        have b1 := hk.2.2.1.c1
        clear hk
        go_wp2_with fail
        try rw [hW0]
        clear hW0
        refine (HFW.out _).mono ?_
        rintro ev w1 ⟨rfl, hb⟩
        have hk := HK.out.next hb
        have HK := Lib.hid hk
        clear hb c0 c1 c2 c3 e0 e1 e2 e3 e4 e5 e6 e7 b0 b1
        obtain ⟨c0, c1, c2, c3⟩ := hk.1.cells
        obtain ⟨e0, e1, e2, e3, e4, e5, e6, e7⟩ := hk.2.1.cells
        have b0 := hk.2.2.1.c0
        have b1 := hk.2.2.1.c1
        clear hk
        go_wp2_with fail
        refine (HAW.out _).mono ?_
        rintro ev w2 ⟨rfl, hb⟩
        have hk := HK.out.next hb
        have HK := Lib.hid hk
        clear hb c0 c1 c2 c3 e0 e1 e2 e3 e4 e5 e6 e7 b0 b1
        obtain ⟨c0, c1, c2, c3⟩ := hk.1.cells
        obtain ⟨e0, e1, e2, e3, e4, e5, e6, e7⟩ := hk.2.1.cells
        have b0 := hk.2.2.1.c0
        have b1 := hk.2.2.1.c1
        clear hk
        go_wp2
        go_ret
        exact ⟨rfl, HK.out.2.2.2⟩
      · have i1 : decide ((140 : Int) < (a3.size : Int)) = false := decide_eq_false (by omega)
        by_cases l2 : 140 < a5.size
        · have i2 : decide ((140 : Int) < (a5.size : Int)) = true := decide_eq_true (by omega)
          unfold kV zV at *
          clear h1 h2 h3 h4 l0 l1 l2
          go_enter Tryz.func4, Tryz.ntmps4
          have hk := KU.new w M O G H a0 a1 a2 a3 a4 a5 a6 a7 bb bt
          obtain ⟨W0, hW0⟩ : ∃ W, ((w.alloc (.cells #[.string M, .string O, .string G, .string H] 26)).alloc (.cells #[.bool a0, .string a1, .bool a2, .string a3, .bool a4, .string a5, .bool a6, .string a7] 40)).alloc (.cells #[.bool bb, .string bt] 28) = W := ⟨_, rfl⟩
          rw [hW0] at hk
          have HK := Lib.hid hk
          obtain ⟨c0, c1, c2, c3⟩ := hk.1.cells
          obtain ⟨e0, e1, e2, e3, e4, e5, e6, e7⟩ := hk.2.1.cells
          have b0 := hk.2.2.1.c0
          have b1 := hk.2.2.1.c1
          clear hk
          go_wp2_with fail
          try rw [hW0]
          clear hW0
          refine (HFW.out _).mono ?_
          rintro ev w1 ⟨rfl, hb⟩
          have hk := HK.out.next hb
          have HK := Lib.hid hk
          clear hb c0 c1 c2 c3 e0 e1 e2 e3 e4 e5 e6 e7 b0 b1
          obtain ⟨c0, c1, c2, c3⟩ := hk.1.cells
          obtain ⟨e0, e1, e2, e3, e4, e5, e6, e7⟩ := hk.2.1.cells
          have b0 := hk.2.2.1.c0
          have b1 := hk.2.2.1.c1
          clear hk
          go_wp2_with fail
          refine (HAW.out _).mono ?_
          rintro ev w2 ⟨rfl, hb⟩
          have hk := HK.out.next hb
          have HK := Lib.hid hk
          clear hb c0 c1 c2 c3 e0 e1 e2 e3 e4 e5 e6 e7 b0 b1
          obtain ⟨c0, c1, c2, c3⟩ := hk.1.cells
          obtain ⟨e0, e1, e2, e3, e4, e5, e6, e7⟩ := hk.2.1.cells
          have b0 := hk.2.2.1.c0
          have b1 := hk.2.2.1.c1
          clear hk
          go_wp2
          go_ret
          exact ⟨rfl, HK.out.2.2.2⟩
        · have i2 : decide ((140 : Int) < (a5.size : Int)) = false := decide_eq_false (by omega)
          by_cases l3 : 140 < a7.size
          · have i3 : decide ((140 : Int) < (a7.size : Int)) = true := decide_eq_true (by omega)
            unfold kV zV at *
            clear h1 h2 h3 h4 l0 l1 l2 l3
            go_enter Tryz.func4, Tryz.ntmps4
            have hk := KU.new w M O G H a0 a1 a2 a3 a4 a5 a6 a7 bb bt
            obtain ⟨W0, hW0⟩ : ∃ W, ((w.alloc (.cells #[.string M, .string O, .string G, .string H] 26)).alloc (.cells #[.bool a0, .string a1, .bool a2, .string a3, .bool a4, .string a5, .bool a6, .string a7] 40)).alloc (.cells #[.bool bb, .string bt] 28) = W := ⟨_, rfl⟩
            rw [hW0] at hk
            have HK := Lib.hid hk
            obtain ⟨c0, c1, c2, c3⟩ := hk.1.cells
            obtain ⟨e0, e1, e2, e3, e4, e5, e6, e7⟩ := hk.2.1.cells
            have b0 := hk.2.2.1.c0
            have b1 := hk.2.2.1.c1
            clear hk
            go_wp2_with fail
            try rw [hW0]
            clear hW0
            refine (HFW.out _).mono ?_
            rintro ev w1 ⟨rfl, hb⟩
            have hk := HK.out.next hb
            have HK := Lib.hid hk
            clear hb c0 c1 c2 c3 e0 e1 e2 e3 e4 e5 e6 e7 b0 b1
            obtain ⟨c0, c1, c2, c3⟩ := hk.1.cells
            obtain ⟨e0, e1, e2, e3, e4, e5, e6, e7⟩ := hk.2.1.cells
            have b0 := hk.2.2.1.c0
            have b1 := hk.2.2.1.c1
            clear hk
            go_wp2_with fail
            refine (HAW.out _).mono ?_
            rintro ev w2 ⟨rfl, hb⟩
            have hk := HK.out.next hb
            have HK := Lib.hid hk
            clear hb c0 c1 c2 c3 e0 e1 e2 e3 e4 e5 e6 e7 b0 b1
            obtain ⟨c0, c1, c2, c3⟩ := hk.1.cells
            obtain ⟨e0, e1, e2, e3, e4, e5, e6, e7⟩ := hk.2.1.cells
            have b0 := hk.2.2.1.c0
            have b1 := hk.2.2.1.c1
            clear hk
            go_wp2
            go_ret
            exact ⟨rfl, HK.out.2.2.2⟩
          · have i3 : decide ((140 : Int) < (a7.size : Int)) = false := decide_eq_false (by omega)
            by_cases l4 : 140 < bt.size
            · have i4 : decide ((140 : Int) < (bt.size : Int)) = true := decide_eq_true (by omega)
              unfold kV zV at *
              clear h1 h2 h3 h4 l0 l1 l2 l3 l4
              go_enter Tryz.func4, Tryz.ntmps4
              have hk := KU.new w M O G H a0 a1 a2 a3 a4 a5 a6 a7 bb bt
              obtain ⟨W0, hW0⟩ : ∃ W, ((w.alloc (.cells #[.string M, .string O, .string G, .string H] 26)).alloc (.cells #[.bool a0, .string a1, .bool a2, .string a3, .bool a4, .string a5, .bool a6, .string a7] 40)).alloc (.cells #[.bool bb, .string bt] 28) = W := ⟨_, rfl⟩
              rw [hW0] at hk
              have HK := Lib.hid hk
              obtain ⟨c0, c1, c2, c3⟩ := hk.1.cells
              obtain ⟨e0, e1, e2, e3, e4, e5, e6, e7⟩ := hk.2.1.cells
              have b0 := hk.2.2.1.c0
              have b1 := hk.2.2.1.c1
              clear hk
              go_wp2_with fail
              try rw [hW0]
              clear hW0
              refine (HFW.out _).mono ?_
              rintro ev w1 ⟨rfl, hb⟩
              have hk := HK.out.next hb
              have HK := Lib.hid hk
              clear hb c0 c1 c2 c3 e0 e1 e2 e3 e4 e5 e6 e7 b0 b1
              obtain ⟨c0, c1, c2, c3⟩ := hk.1.cells
              obtain ⟨e0, e1, e2, e3, e4, e5, e6, e7⟩ := hk.2.1.cells
              have b0 := hk.2.2.1.c0
              have b1 := hk.2.2.1.c1
              clear hk
              go_wp2_with fail
              refine (HAW.out _).mono ?_
              rintro ev w2 ⟨rfl, hb⟩
              have hk := HK.out.next hb
              have HK := Lib.hid hk
              clear hb c0 c1 c2 c3 e0 e1 e2 e3 e4 e5 e6 e7 b0 b1
              obtain ⟨c0, c1, c2, c3⟩ := hk.1.cells
              obtain ⟨e0, e1, e2, e3, e4, e5, e6, e7⟩ := hk.2.1.cells
              have b0 := hk.2.2.1.c0
              have b1 := hk.2.2.1.c1
              clear hk
              go_wp2
              go_ret
              exact ⟨rfl, HK.out.2.2.2⟩
            · have i4 : decide ((140 : Int) < (bt.size : Int)) = false := decide_eq_false (by omega)
              have HS1 := Lib.hid (pk_Sum M O G H a0 a1 a2 a3 a4 a5 a6 a7 h1 h2 (by omega) (by omega) (by omega) (by omega) (by omega) (by omega))
              have HS2 := Lib.hid (r14_Sum M O G H a0 a1 a2 a3 a4 a5 a6 a7 h1 h2 (by omega) (by omega) (by omega) (by omega) (by omega) (by omega))
              have HT1 := Lib.hid (pk_Times M O G H a0 a1 a2 a3 bb bt h1 h2 (by omega) (by omega) (by omega) (by omega) (by omega))
              have HT2 := Lib.hid (r14_Times M O G H a0 a1 a2 a3 bb bt h1 h2 (by omega) (by omega) (by omega) (by omega) (by omega))
              obtain ⟨p1, p2, p3, p4, p5, hp⟩ := smR_form M O G H ((zvalid a0 a1 && zvalid a2 a3) && (zvalid a4 a5 && zvalid a6 a7)) (sg a0 (num a1) + sg a4 (num a5)) (sg a2 (num a3) + sg a6 (num a7))
              obtain ⟨q1, q2, q3, q4, q5, hq⟩ := smR_form M O G H ((zvalid a0 a1 && zvalid a2 a3) && (zvalid bb bt)) (sg a0 (num a1) * sg bb (num bt)) (sg a2 (num a3) * sg bb (num bt))
              rw [hp] at HS1 HS2
              rw [hq] at HT1 HT2
              unfold kV zV oV at *
              clear h1 h2 h3 h4 l0 l1 l2 l3 l4 hp hq
              go_enter Tryz.func4, Tryz.ntmps4
              have hk := KU.new w M O G H a0 a1 a2 a3 a4 a5 a6 a7 bb bt
              obtain ⟨W0, hW0⟩ : ∃ W, ((w.alloc (.cells #[.string M, .string O, .string G, .string H] 26)).alloc (.cells #[.bool a0, .string a1, .bool a2, .string a3, .bool a4, .string a5, .bool a6, .string a7] 40)).alloc (.cells #[.bool bb, .string bt] 28) = W := ⟨_, rfl⟩
              rw [hW0] at hk
              have HK := Lib.hid hk
              obtain ⟨c0, c1, c2, c3⟩ := hk.1.cells
              obtain ⟨e0, e1, e2, e3, e4, e5, e6, e7⟩ := hk.2.1.cells
              have b0 := hk.2.2.1.c0
              have b1 := hk.2.2.1.c1
              clear hk
              go_wp2_with fail
              try rw [hW0]
              clear hW0
              refine (HFW.out _).mono ?_
              rintro ev w1 ⟨rfl, hb⟩
              have hk := HK.out.next hb
              have HK := Lib.hid hk
              clear hb c0 c1 c2 c3 e0 e1 e2 e3 e4 e5 e6 e7 b0 b1
              obtain ⟨c0, c1, c2, c3⟩ := hk.1.cells
              obtain ⟨e0, e1, e2, e3, e4, e5, e6, e7⟩ := hk.2.1.cells
              have b0 := hk.2.2.1.c0
              have b1 := hk.2.2.1.c1
              clear hk
              go_wp2_with fail
              refine (HS1.out _).mono ?_
              rintro ev w3 ⟨rfl, hb⟩
              have hk := HK.out.next hb
              have HK := Lib.hid hk
              clear hb c0 c1 c2 c3 e0 e1 e2 e3 e4 e5 e6 e7 b0 b1
              obtain ⟨c0, c1, c2, c3⟩ := hk.1.cells
              obtain ⟨e0, e1, e2, e3, e4, e5, e6, e7⟩ := hk.2.1.cells
              have b0 := hk.2.2.1.c0
              have b1 := hk.2.2.1.c1
              clear hk
              have hb : Below w3.heap.size w3 (w3.alloc (.cells #[.bool p1, .string p2, .bool p3, .string p4] 30)) := (Below.refl _ _).alloc (Nat.le_refl _) _
              have hn := Bx4.new w3 (.bool p1) (.string p2) (.bool p3) (.string p4) 30
              obtain ⟨W3, hW3⟩ : ∃ W, w3.alloc (.cells #[.bool p1, .string p2, .bool p3, .string p4] 30) = W := ⟨_, rfl⟩
              obtain ⟨B3, hB3⟩ : ∃ B, w3.heap.size = B := ⟨_, rfl⟩
              rw [hW3] at hb hn
              rw [hB3] at hn
              have HN3 := Lib.hid hn
              clear hn
              have hk := HK.out.next hb
              have HK := Lib.hid hk
              clear hb c0 c1 c2 c3 e0 e1 e2 e3 e4 e5 e6 e7 b0 b1
              obtain ⟨c0, c1, c2, c3⟩ := hk.1.cells
              obtain ⟨e0, e1, e2, e3, e4, e5, e6, e7⟩ := hk.2.1.cells
              have b0 := hk.2.2.1.c0
              have b1 := hk.2.2.1.c1
              clear hk
              go_wp2_with fail
              try rw [hW3]
              try rw [hB3]
              clear hW3 hB3
              refine (HS2.out _).mono ?_
              rintro ev w5 ⟨rfl, hb⟩
              have HBL := Lib.hid hb
              have hk := HK.out.next hb
              have HK := Lib.hid hk
              clear hb c0 c1 c2 c3 e0 e1 e2 e3 e4 e5 e6 e7 b0 b1
              obtain ⟨c0, c1, c2, c3⟩ := hk.1.cells
              obtain ⟨e0, e1, e2, e3, e4, e5, e6, e7⟩ := hk.2.1.cells
              have b0 := hk.2.2.1.c0
              have b1 := hk.2.2.1.c1
              clear hk
              have HN3 := Lib.hid (HN3.out.next HBL.out)
              have hb : Below w5.heap.size w5 (w5.alloc (.cells #[.bool p1, .string p2, .bool p3, .string p4] 30)) := (Below.refl _ _).alloc (Nat.le_refl _) _
              have hn := Bx4.new w5 (.bool p1) (.string p2) (.bool p3) (.string p4) 30
              obtain ⟨W5, hW5⟩ : ∃ W, w5.alloc (.cells #[.bool p1, .string p2, .bool p3, .string p4] 30) = W := ⟨_, rfl⟩
              obtain ⟨B5, hB5⟩ : ∃ B, w5.heap.size = B := ⟨_, rfl⟩
              rw [hW5] at hb hn
              rw [hB5] at hn
              have HN3 := Lib.hid (HN3.out.next hb)
              have HN5 := Lib.hid hn
              clear hn
              have hk := HK.out.next hb
              have HK := Lib.hid hk
              clear hb c0 c1 c2 c3 e0 e1 e2 e3 e4 e5 e6 e7 b0 b1
              obtain ⟨c0, c1, c2, c3⟩ := hk.1.cells
              obtain ⟨e0, e1, e2, e3, e4, e5, e6, e7⟩ := hk.2.1.cells
              have b0 := hk.2.2.1.c0
              have b1 := hk.2.2.1.c1
              clear hk
              go_wp2_with fail
              try rw [hW5]
              try rw [hB5]
              clear hW5 hB5
              refine (HT1.out _).mono ?_
              rintro ev w7 ⟨rfl, hb⟩
              have HBL := Lib.hid hb
              have hk := HK.out.next hb
              have HK := Lib.hid hk
              clear hb c0 c1 c2 c3 e0 e1 e2 e3 e4 e5 e6 e7 b0 b1
              obtain ⟨c0, c1, c2, c3⟩ := hk.1.cells
              obtain ⟨e0, e1, e2, e3, e4, e5, e6, e7⟩ := hk.2.1.cells
              have b0 := hk.2.2.1.c0
              have b1 := hk.2.2.1.c1
              clear hk
              have HN3 := Lib.hid (HN3.out.next HBL.out)
              have HN5 := Lib.hid (HN5.out.next HBL.out)
              have hb : Below w7.heap.size w7 (w7.alloc (.cells #[.bool q1, .string q2, .bool q3, .string q4] 30)) := (Below.refl _ _).alloc (Nat.le_refl _) _
              have hn := Bx4.new w7 (.bool q1) (.string q2) (.bool q3) (.string q4) 30
              obtain ⟨W7, hW7⟩ : ∃ W, w7.alloc (.cells #[.bool q1, .string q2, .bool q3, .string q4] 30) = W := ⟨_, rfl⟩
              obtain ⟨B7, hB7⟩ : ∃ B, w7.heap.size = B := ⟨_, rfl⟩
              rw [hW7] at hb hn
              rw [hB7] at hn
              have HN3 := Lib.hid (HN3.out.next hb)
              have HN5 := Lib.hid (HN5.out.next hb)
              have HN7 := Lib.hid hn
              clear hn
              have hk := HK.out.next hb
              have HK := Lib.hid hk
              clear hb c0 c1 c2 c3 e0 e1 e2 e3 e4 e5 e6 e7 b0 b1
              obtain ⟨c0, c1, c2, c3⟩ := hk.1.cells
              obtain ⟨e0, e1, e2, e3, e4, e5, e6, e7⟩ := hk.2.1.cells
              have b0 := hk.2.2.1.c0
              have b1 := hk.2.2.1.c1
              clear hk
              go_wp2_with fail
              try rw [hW7]
              try rw [hB7]
              clear hW7 hB7
              refine (HT2.out _).mono ?_
              rintro ev w9 ⟨rfl, hb⟩
              have HBL := Lib.hid hb
              have hk := HK.out.next hb
              have HK := Lib.hid hk
              clear hb c0 c1 c2 c3 e0 e1 e2 e3 e4 e5 e6 e7 b0 b1
              obtain ⟨c0, c1, c2, c3⟩ := hk.1.cells
              obtain ⟨e0, e1, e2, e3, e4, e5, e6, e7⟩ := hk.2.1.cells
              have b0 := hk.2.2.1.c0
              have b1 := hk.2.2.1.c1
              clear hk
              have HN3 := Lib.hid (HN3.out.next HBL.out)
              have HN5 := Lib.hid (HN5.out.next HBL.out)
              have HN7 := Lib.hid (HN7.out.next HBL.out)
              have hb : Below w9.heap.size w9 (w9.alloc (.cells #[.bool q1, .string q2, .bool q3, .string q4] 30)) := (Below.refl _ _).alloc (Nat.le_refl _) _
              have hn := Bx4.new w9 (.bool q1) (.string q2) (.bool q3) (.string q4) 30
              obtain ⟨W9, hW9⟩ : ∃ W, w9.alloc (.cells #[.bool q1, .string q2, .bool q3, .string q4] 30) = W := ⟨_, rfl⟩
              obtain ⟨B9, hB9⟩ : ∃ B, w9.heap.size = B := ⟨_, rfl⟩
              rw [hW9] at hb hn
              rw [hB9] at hn
              have HN3 := Lib.hid (HN3.out.next hb)
              have HN5 := Lib.hid (HN5.out.next hb)
              have HN7 := Lib.hid (HN7.out.next hb)
              have HN9 := Lib.hid hn
              clear hn
              have hk := HK.out.next hb
              have HK := Lib.hid hk
              clear hb c0 c1 c2 c3 e0 e1 e2 e3 e4 e5 e6 e7 b0 b1
              obtain ⟨c0, c1, c2, c3⟩ := hk.1.cells
              obtain ⟨e0, e1, e2, e3, e4, e5, e6, e7⟩ := hk.2.1.cells
              have b0 := hk.2.2.1.c0
              have b1 := hk.2.2.1.c1
              clear hk
              go_wp2_with fail
              try rw [hW9]
              try rw [hB9]
              clear hW9 hB9
              refine (HAW.out _).mono ?_
              rintro ev w11 ⟨rfl, hb⟩
              have HBL := Lib.hid hb
              have hk := HK.out.next hb
              have HK := Lib.hid hk
              clear hb c0 c1 c2 c3 e0 e1 e2 e3 e4 e5 e6 e7 b0 b1
              obtain ⟨c0, c1, c2, c3⟩ := hk.1.cells
              obtain ⟨e0, e1, e2, e3, e4, e5, e6, e7⟩ := hk.2.1.cells
              have b0 := hk.2.2.1.c0
              have b1 := hk.2.2.1.c1
              clear hk
              have HN3 := Lib.hid (HN3.out.next HBL.out)
              have HN5 := Lib.hid (HN5.out.next HBL.out)
              have HN7 := Lib.hid (HN7.out.next HBL.out)
              have HN9 := Lib.hid (HN9.out.next HBL.out)
              obtain ⟨m3a, m3b, m3c, m3d⟩ := HN3.out.cells
              obtain ⟨m5a, m5b, m5c, m5d⟩ := HN5.out.cells
              obtain ⟨m7a, m7b, m7c, m7d⟩ := HN7.out.cells
              obtain ⟨m9a, m9b, m9c, m9d⟩ := HN9.out.cells
              go_wp2
              go_ret
              exact ⟨rfl, HK.out.2.2.2⟩
end Go.Proofs.YtnnfgphioapmnaaGreat

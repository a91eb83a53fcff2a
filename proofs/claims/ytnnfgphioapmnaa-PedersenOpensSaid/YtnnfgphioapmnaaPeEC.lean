/- The law PedersenOpens. -/
import Derived.Test.YtnnfgphioapmnaaPeY
import Derived.Test.YtnnfgphioapmnaaPeEB
set_option linter.unusedVariables false
set_option linter.unusedSimpArgs false
namespace Go.Proofs.Ytnnfgphioapmnaa
open Go.RowKit

theorem few14_of3 {M O G H : ByteArray} (h : few14 M O G H = true) : M.size ≤ 8 ∧ O.size ≤ 8 ∧ G.size ≤ 9 ∧ H.size ≤ 9 := by
  unfold few14 at h
  simp only [Bool.and_eq_true, decide_eq_true_eq] at h
  exact h
theorem shortZ_five {b1 b2 b3 b4 b5 : Bool} {s1 s2 s3 s4 s5 : ByteArray} (h : shortZ [(b1, s1), (b2, s2), (b3, s3), (b4, s4), (b5, s5)] = true) : s1.size ≤ 16 ∧ s2.size ≤ 16 ∧ s3.size ≤ 16 ∧ s4.size ≤ 16 ∧ s5.size ≤ 16 := by
  unfold shortZ at h
  simp only [List.all_cons, List.all_nil, Bool.and_true, Bool.and_eq_true, decide_eq_true_eq] at h
  exact h
theorem slz_alloc5 (w : World) (b1 b2 b3 b4 b5 : Bool) (s1 s2 s3 s4 s5 : ByteArray) (T : TypeId) : SlZ (w.alloc (.cells #[.bool b1, .string s1, .bool b2, .string s2, .bool b3, .string s3, .bool b4, .string s4, .bool b5, .string s5] T)) (some ⟨w.heap.size, 0, none⟩) 5 5 [(b1, s1), (b2, s2), (b3, s3), (b4, s4), (b5, s5)] := by
  have h := heap_alloc_new w (.cells #[.bool b1, .string s1, .bool b2, .string s2, .bool b3, .string s3, .bool b4, .string s4, .bool b5, .string s5] T)
  refine ⟨rfl, Nat.le_refl _, by omega, w.heap.size, 0, fun _ => rfl, fun k z hk => ?_⟩
  match k, hk with
  | 0, hk => cases hk; exact ⟨by rw [Lib.cell_of_heap h]; rfl, by rw [Lib.cell_of_heap h]; rfl⟩
  | 1, hk => cases hk; exact ⟨by rw [Lib.cell_of_heap h]; rfl, by rw [Lib.cell_of_heap h]; rfl⟩
  | 2, hk => cases hk; exact ⟨by rw [Lib.cell_of_heap h]; rfl, by rw [Lib.cell_of_heap h]; rfl⟩
  | 3, hk => cases hk; exact ⟨by rw [Lib.cell_of_heap h]; rfl, by rw [Lib.cell_of_heap h]; rfl⟩
  | 4, hk => cases hk; exact ⟨by rw [Lib.cell_of_heap h]; rfl, by rw [Lib.cell_of_heap h]; rfl⟩
theorem cm_bad {M O G H : ByteArray} {vb rb : Bool} {vt rt : ByteArray} (h : (zvalid vb vt && zvalid rb rt) = false) : cmR M O G H vb vt rb rt = .tuple #[.string ⟨#[]⟩, .int .i64 3] := by
  unfold cmR
  rw [h, Bool.and_false, if_pos rfl]
theorem cm_ok {M O G H : ByteArray} (hc : pkC M O G H = 0) {vb rb : Bool} {vt rt : ByteArray} (h : (zvalid vb vt && zvalid rb rt) = true) : ∃ s, cmR M O G H vb vt rb rt = .tuple #[.string s, .int .i64 0] := by
  obtain ⟨y0, y1⟩ := Bool.and_eq_true_iff.1 h
  obtain ⟨p1, p2, p3⟩ := zv_parts y0
  obtain ⟨p4, p5, p6⟩ := zv_parts y1
  generalize sg vb (num vt) = v at *
  generalize sg rb (num rt) = r at *
  subst p1 p2 p4 p5
  exact ⟨_, cm_int hc p3 p6⟩
/-- The sum's and the product's bounds. -/
theorem lt16_128 {z : Int} (h : z.natAbs < 256 ^ 16) : z.natAbs < 256 ^ 128 := Nat.lt_of_lt_of_le h (Nat.pow_le_pow_right (by decide) (by decide))
theorem add16 {x y : Int} (hx : x.natAbs < 256 ^ 16) (hy : y.natAbs < 256 ^ 16) : (x + y).natAbs < 256 ^ 128 := by
  have h1 : (256 : Nat) ^ 16 * 2 ≤ 256 ^ 128 := by decide +kernel
  omega
theorem mul16 {x y : Int} (hx : x.natAbs < 256 ^ 16) (hy : y.natAbs < 256 ^ 16) : (x * y).natAbs < 256 ^ 128 := by
  rw [Int.natAbs_mul]
  have h1 : (256 : Nat) ^ 16 * 256 ^ 16 ≤ 256 ^ 128 := by decide +kernel
  exact Nat.lt_of_lt_of_le (Nat.mul_lt_mul'' hx hy) h1
theorem redZ_small {o : Nat} {z : Int} (ho : o < 256 ^ 128) (hz : z.natAbs < 256 ^ 128) : (redZ o z).natAbs < 256 ^ 128 := by
  unfold redZ
  split
  · exact hz
  · have h1 := Int.emod_nonneg z (show (o : Int) ≠ 0 by omega)
    have h2 := Int.emod_lt_of_pos z (show (0 : Int) < (o : Int) by omega)
    omega
theorem smZ_in {o : Nat} {z1 z2 : Int} (h1 : z1.natAbs < 256 ^ 128) (h2 : z2.natAbs < 256 ^ 128) : smZ o z1 z2 = .tuple #[arV (redZ o z1) (redZ o z2), .int .i64 0] := by unfold smZ; rw [if_pos ⟨h1, h2⟩]

theorem sz1000 {M O G H : ByteArray} (hc : pkC M O G H = 0) {x : Nat} (h : x < num M) : (nS x).size ≤ 1000 := by
  have := nS_size_le.2 (Nat.lt_trans h (num_smallK hc))
  omega
/-- Eight values in a block. -/
def Bx8 (W : World) (B : Nat) (x0 x1 x2 x3 x4 x5 x6 x7 : Value) (T : TypeId) : Prop := W.heap[B]? = some (.cells #[x0, x1, x2, x3, x4, x5, x6, x7] T (0, 0))
theorem Bx8.lt {W : World} {B : Nat} {x0 x1 x2 x3 x4 x5 x6 x7 : Value} {T : TypeId} (h : Bx8 W B x0 x1 x2 x3 x4 x5 x6 x7 T) : B < W.heap.size := block_lt h
theorem Bx8.next {W W' : World} {B : Nat} {x0 x1 x2 x3 x4 x5 x6 x7 : Value} {T : TypeId} (h : Bx8 W B x0 x1 x2 x3 x4 x5 x6 x7 T) (hb : Below W.heap.size W W') : Bx8 W' B x0 x1 x2 x3 x4 x5 x6 x7 T := (hb.block B h.lt).trans h
theorem Bx8.cells {W : World} {B : Nat} {x0 x1 x2 x3 x4 x5 x6 x7 : Value} {T : TypeId} (h : Bx8 W B x0 x1 x2 x3 x4 x5 x6 x7 T) : W.cell? ⟨B, 0, none⟩ = some x0 ∧ W.cell? ⟨B, 1, none⟩ = some x1 ∧ W.cell? ⟨B, 2, none⟩ = some x2 ∧ W.cell? ⟨B, 3, none⟩ = some x3 ∧ W.cell? ⟨B, 4, none⟩ = some x4 ∧ W.cell? ⟨B, 5, none⟩ = some x5 ∧ W.cell? ⟨B, 6, none⟩ = some x6 ∧ W.cell? ⟨B, 7, none⟩ = some x7 := by
  refine ⟨?_, ?_, ?_, ?_, ?_, ?_, ?_, ?_⟩ <;> (rw [Lib.cell_of_heap h]; rfl)
/-- A key, two openings and an integer. -/
def KU (w W : World) (M O G H : ByteArray) (a0 : Bool) (a1 : ByteArray) (a2 : Bool) (a3 : ByteArray) (a4 : Bool) (a5 : ByteArray) (a6 : Bool) (a7 : ByteArray) (bb : Bool) (bt : ByteArray) : Prop :=
  Bx4 W w.heap.size (.string M) (.string O) (.string G) (.string H) 26 ∧ Bx8 W (w.heap.size + 1) (.bool a0) (.string a1) (.bool a2) (.string a3) (.bool a4) (.string a5) (.bool a6) (.string a7) 46 ∧ Bx2 W (w.heap.size + 1 + 1) (.bool bb) (.string bt) 38 ∧ Below w.heap.size w W
theorem KU.new (w : World) (M O G H : ByteArray) (a0 : Bool) (a1 : ByteArray) (a2 : Bool) (a3 : ByteArray) (a4 : Bool) (a5 : ByteArray) (a6 : Bool) (a7 : ByteArray) (bb : Bool) (bt : ByteArray) : KU w (((w.alloc (.cells #[.string M, .string O, .string G, .string H] 26)).alloc (.cells #[.bool a0, .string a1, .bool a2, .string a3, .bool a4, .string a5, .bool a6, .string a7] 46)).alloc (.cells #[.bool bb, .string bt] 38)) M O G H a0 a1 a2 a3 a4 a5 a6 a7 bb bt := by
  have h1 : Below (w.alloc (.cells #[.string M, .string O, .string G, .string H] 26)).heap.size (w.alloc (.cells #[.string M, .string O, .string G, .string H] 26)) ((w.alloc (.cells #[.string M, .string O, .string G, .string H] 26)).alloc (.cells #[.bool a0, .string a1, .bool a2, .string a3, .bool a4, .string a5, .bool a6, .string a7] 46)) := (Below.refl _ _).alloc (Nat.le_refl _) _
  have h2 : Below ((w.alloc (.cells #[.string M, .string O, .string G, .string H] 26)).alloc (.cells #[.bool a0, .string a1, .bool a2, .string a3, .bool a4, .string a5, .bool a6, .string a7] 46)).heap.size ((w.alloc (.cells #[.string M, .string O, .string G, .string H] 26)).alloc (.cells #[.bool a0, .string a1, .bool a2, .string a3, .bool a4, .string a5, .bool a6, .string a7] 46)) (((w.alloc (.cells #[.string M, .string O, .string G, .string H] 26)).alloc (.cells #[.bool a0, .string a1, .bool a2, .string a3, .bool a4, .string a5, .bool a6, .string a7] 46)).alloc (.cells #[.bool bb, .string bt] 38)) := (Below.refl _ _).alloc (Nat.le_refl _) _
  refine ⟨((Bx4.new w _ _ _ _ _).next h1).next h2, ?_, ?_, (((Below.refl w.heap.size w).alloc (Nat.le_refl _) _).alloc (by simp) _).alloc (by simp; omega) _⟩
  · have h3 : Bx8 ((w.alloc (.cells #[.string M, .string O, .string G, .string H] 26)).alloc (.cells #[.bool a0, .string a1, .bool a2, .string a3, .bool a4, .string a5, .bool a6, .string a7] 46)) (w.alloc (.cells #[.string M, .string O, .string G, .string H] 26)).heap.size (.bool a0) (.string a1) (.bool a2) (.string a3) (.bool a4) (.string a5) (.bool a6) (.string a7) 46 := heap_alloc_new _ _
    have := h3.next h2
    rwa [World.size_alloc] at this
  · have := Bx2.new ((w.alloc (.cells #[.string M, .string O, .string G, .string H] 26)).alloc (.cells #[.bool a0, .string a1, .bool a2, .string a3, .bool a4, .string a5, .bool a6, .string a7] 46)) (.bool bb) (.string bt) 38
    rwa [World.size_alloc, World.size_alloc] at this
theorem KU.next {w W W' : World} {M O G H : ByteArray} {a0 : Bool} {a1 : ByteArray} {a2 : Bool} {a3 : ByteArray} {a4 : Bool} {a5 : ByteArray} {a6 : Bool} {a7 : ByteArray} {bb : Bool} {bt : ByteArray} (h : KU w W M O G H a0 a1 a2 a3 a4 a5 a6 a7 bb bt) (hb : Below W.heap.size W W') : KU w W' M O G H a0 a1 a2 a3 a4 a5 a6 a7 bb bt :=
  ⟨h.1.next hb, h.2.1.next hb, h.2.2.1.next hb, h.2.2.2.trans (hb.mono (Nat.le_of_lt h.1.lt))⟩
set_option maxRecDepth 100000 in
set_option maxHeartbeats 8000000 in
theorem walk_opens (M O G H : ByteArray) (a0 : Bool) (a1 : ByteArray) (a2 : Bool) (a3 : ByteArray) (a4 : Bool) (a5 : ByteArray) (a6 : Bool) (a7 : ByteArray) (bb : Bool) (bt : ByteArray) (w : World) : Calls Try.prog 5 #[kV M O G H, .agg #[.bool a0, .string a1, .bool a2, .string a3, .bool a4, .string a5, .bool a6, .string a7], zV bb bt] w (Ret (.bool true) w) := by
  have HAW := Lib.hid law14_awake
  have HFW := Lib.hid (law14_Few M O G H)
  cases hf : few14 M O G H with
  | false =>
    rw [hf] at HFW
    unfold kV zV at *
    clear hf
    go_enter Try.func5, Try.ntmps5
    have hk := KU.new w M O G H a0 a1 a2 a3 a4 a5 a6 a7 bb bt
    obtain ⟨W0, hW0⟩ : ∃ W, ((w.alloc (.cells #[.string M, .string O, .string G, .string H] 26)).alloc (.cells #[.bool a0, .string a1, .bool a2, .string a3, .bool a4, .string a5, .bool a6, .string a7] 46)).alloc (.cells #[.bool bb, .string bt] 38) = W := ⟨_, rfl⟩
    rw [hW0] at hk
    have HK := Lib.hid hk
    obtain ⟨c0, c1, c2, c3⟩ := hk.1.cells
    obtain ⟨e0, e1, e2, e3, e4, e5, e6, e7⟩ := hk.2.1.cells
    have b0 := hk.2.2.1.c0
    have b1 := hk.2.2.1.c1
    clear hk
    go_wp2_with fail
    try rw [hW0]
    clear hW0
    refine (HFW.out _).mono ?_
    rintro ev w1 ⟨rfl, hb⟩
    have hk := HK.out.next hb
    have HK := Lib.hid hk
    clear hb c0 c1 c2 c3 e0 e1 e2 e3 e4 e5 e6 e7 b0 b1
    obtain ⟨c0, c1, c2, c3⟩ := hk.1.cells
    obtain ⟨e0, e1, e2, e3, e4, e5, e6, e7⟩ := hk.2.1.cells
    have b0 := hk.2.2.1.c0
    have b1 := hk.2.2.1.c1
    clear hk
    go_wp2_with fail
    refine (HAW.out _).mono ?_
    rintro ev w2 ⟨rfl, hb⟩
    have hk := HK.out.next hb
    have HK := Lib.hid hk
    clear hb c0 c1 c2 c3 e0 e1 e2 e3 e4 e5 e6 e7 b0 b1
    obtain ⟨c0, c1, c2, c3⟩ := hk.1.cells
    obtain ⟨e0, e1, e2, e3, e4, e5, e6, e7⟩ := hk.2.1.cells
    have b0 := hk.2.2.1.c0
    have b1 := hk.2.2.1.c1
    clear hk
    go_wp2
    go_ret
    exact ⟨rfl, HK.out.2.2.2⟩
  | true =>
    rw [hf] at HFW
    obtain ⟨h1, h2, h3, h4⟩ := few14_of3 hf
    have HCK := Lib.hid (pk_Check M O G H h1 h2 (by omega) (by omega))
    clear hf
    by_cases hc : pkC M O G H = 0
    · have HSW := Lib.hid (fun (A : Option Addr) (w : World) (hz : SlZ w A 5 5 [(a0, a1), (a2, a3), (a4, a5), (a6, a7), (bb, bt)]) => law14_short [(a0, a1), (a2, a3), (a4, a5), (a6, a7), (bb, bt)] A 5 5 (by omega) w hz)
      rw [hc] at HCK
      cases hs : shortZ [(a0, a1), (a2, a3), (a4, a5), (a6, a7), (bb, bt)] with
      | false =>
        rw [hs] at HSW
        unfold kV zV at *
        clear h1 h2 h3 h4 hc hs
        go_enter Try.func5, Try.ntmps5
        have hk := KU.new w M O G H a0 a1 a2 a3 a4 a5 a6 a7 bb bt
        obtain ⟨W0, hW0⟩ : ∃ W, ((w.alloc (.cells #[.string M, .string O, .string G, .string H] 26)).alloc (.cells #[.bool a0, .string a1, .bool a2, .string a3, .bool a4, .string a5, .bool a6, .string a7] 46)).alloc (.cells #[.bool bb, .string bt] 38) = W := ⟨_, rfl⟩
        rw [hW0] at hk
        have HK := Lib.hid hk
        obtain ⟨c0, c1, c2, c3⟩ := hk.1.cells
        obtain ⟨e0, e1, e2, e3, e4, e5, e6, e7⟩ := hk.2.1.cells
        have b0 := hk.2.2.1.c0
        have b1 := hk.2.2.1.c1
        clear hk
        go_wp2_with fail
        try rw [hW0]
        clear hW0
        refine (HFW.out _).mono ?_
        rintro ev w1 ⟨rfl, hb⟩
        have hk := HK.out.next hb
        have HK := Lib.hid hk
        clear hb c0 c1 c2 c3 e0 e1 e2 e3 e4 e5 e6 e7 b0 b1
        obtain ⟨c0, c1, c2, c3⟩ := hk.1.cells
        obtain ⟨e0, e1, e2, e3, e4, e5, e6, e7⟩ := hk.2.1.cells
        have b0 := hk.2.2.1.c0
        have b1 := hk.2.2.1.c1
        clear hk
        go_wp2_with fail
        refine (HCK.out _).mono ?_
        rintro ev w2 ⟨rfl, hb⟩
        have hk := HK.out.next hb
        have HK := Lib.hid hk
        clear hb c0 c1 c2 c3 e0 e1 e2 e3 e4 e5 e6 e7 b0 b1
        obtain ⟨c0, c1, c2, c3⟩ := hk.1.cells
        obtain ⟨e0, e1, e2, e3, e4, e5, e6, e7⟩ := hk.2.1.cells
        have b0 := hk.2.2.1.c0
        have b1 := hk.2.2.1.c1
        clear hk
        go_wp2_with fail
        have hs2 := slz_alloc5 w2 a0 a2 a4 a6 bb a1 a3 a5 a7 bt 38
        have hb : Below w2.heap.size w2 (w2.alloc (.cells #[.bool a0, .string a1, .bool a2, .string a3, .bool a4, .string a5, .bool a6, .string a7, .bool bb, .string bt] 38)) := (Below.refl _ _).alloc (Nat.le_refl _) _
        have HSS := Lib.hid (HSW.out _ _ hs2)
        have hkk := HK.out.next hb
        clear hs2 hb
        try go_wp2_with fail
        refine HSS.out.mono ?_
        rintro ev w3 ⟨rfl, hb⟩
        have hk := hkk.next hb
        have HK := Lib.hid hk
        clear hkk
        clear hb c0 c1 c2 c3 e0 e1 e2 e3 e4 e5 e6 e7 b0 b1
        obtain ⟨c0, c1, c2, c3⟩ := hk.1.cells
        obtain ⟨e0, e1, e2, e3, e4, e5, e6, e7⟩ := hk.2.1.cells
        have b0 := hk.2.2.1.c0
        have b1 := hk.2.2.1.c1
        clear hk
        go_wp2_with fail
        refine (HAW.out _).mono ?_
        rintro ev w4 ⟨rfl, hb⟩
        have hk := HK.out.next hb
        have HK := Lib.hid hk
        clear hb c0 c1 c2 c3 e0 e1 e2 e3 e4 e5 e6 e7 b0 b1
        obtain ⟨c0, c1, c2, c3⟩ := hk.1.cells
        obtain ⟨e0, e1, e2, e3, e4, e5, e6, e7⟩ := hk.2.1.cells
        have b0 := hk.2.2.1.c0
        have b1 := hk.2.2.1.c1
        clear hk
        go_wp2
        go_ret
        exact ⟨rfl, HK.out.2.2.2⟩
      | true =>
        rw [hs] at HSW
        obtain ⟨l0, l1, l2, l3, l4⟩ := shortZ_five hs
        have HC1 := Lib.hid (pk_Commit M O G H a0 a1 a2 a3 h1 h2 (by omega) (by omega) (by omega) (by omega))
        have HC2 := Lib.hid (pk_Commit M O G H a4 a5 a6 a7 h1 h2 (by omega) (by omega) (by omega) (by omega))
        have HVB := Lib.hid (int_Valid bb bt (by omega))
        cases hv0 : (zvalid a0 a1 && zvalid a2 a3) with
        | false =>
          rw [cm_bad hv0] at HC1
          obtain ⟨cs, ce, hcf⟩ := cmR_form M O G H a4 a5 a6 a7
          rw [hcf] at HC2
          unfold kV zV oV at *
          clear h1 h2 h3 h4 hc hs l0 l1 l2 l3 l4 hv0 hcf
          go_enter Try.func5, Try.ntmps5
          have hk := KU.new w M O G H a0 a1 a2 a3 a4 a5 a6 a7 bb bt
          obtain ⟨W0, hW0⟩ : ∃ W, ((w.alloc (.cells #[.string M, .string O, .string G, .string H] 26)).alloc (.cells #[.bool a0, .string a1, .bool a2, .string a3, .bool a4, .string a5, .bool a6, .string a7] 46)).alloc (.cells #[.bool bb, .string bt] 38) = W := ⟨_, rfl⟩
          rw [hW0] at hk
          have HK := Lib.hid hk
          obtain ⟨c0, c1, c2, c3⟩ := hk.1.cells
          obtain ⟨e0, e1, e2, e3, e4, e5, e6, e7⟩ := hk.2.1.cells
          have b0 := hk.2.2.1.c0
          have b1 := hk.2.2.1.c1
          clear hk
          go_wp2_with fail
          try rw [hW0]
          clear hW0
          refine (HFW.out _).mono ?_
          rintro ev w1 ⟨rfl, hb⟩
          have hk := HK.out.next hb
          have HK := Lib.hid hk
          clear hb c0 c1 c2 c3 e0 e1 e2 e3 e4 e5 e6 e7 b0 b1
          obtain ⟨c0, c1, c2, c3⟩ := hk.1.cells
          obtain ⟨e0, e1, e2, e3, e4, e5, e6, e7⟩ := hk.2.1.cells
          have b0 := hk.2.2.1.c0
          have b1 := hk.2.2.1.c1
          clear hk
          go_wp2_with fail
          refine (HCK.out _).mono ?_
          rintro ev w2 ⟨rfl, hb⟩
          have hk := HK.out.next hb
          have HK := Lib.hid hk
          clear hb c0 c1 c2 c3 e0 e1 e2 e3 e4 e5 e6 e7 b0 b1
          obtain ⟨c0, c1, c2, c3⟩ := hk.1.cells
          obtain ⟨e0, e1, e2, e3, e4, e5, e6, e7⟩ := hk.2.1.cells
          have b0 := hk.2.2.1.c0
          have b1 := hk.2.2.1.c1
          clear hk
          go_wp2_with fail
          have hs2 := slz_alloc5 w2 a0 a2 a4 a6 bb a1 a3 a5 a7 bt 38
          have hb : Below w2.heap.size w2 (w2.alloc (.cells #[.bool a0, .string a1, .bool a2, .string a3, .bool a4, .string a5, .bool a6, .string a7, .bool bb, .string bt] 38)) := (Below.refl _ _).alloc (Nat.le_refl _) _
          have HSS := Lib.hid (HSW.out _ _ hs2)
          have hkk := HK.out.next hb
          clear hs2 hb
          try go_wp2_with fail
          refine HSS.out.mono ?_
          rintro ev w3 ⟨rfl, hb⟩
          have hk := hkk.next hb
          have HK := Lib.hid hk
          clear hkk
          clear hb c0 c1 c2 c3 e0 e1 e2 e3 e4 e5 e6 e7 b0 b1
          obtain ⟨c0, c1, c2, c3⟩ := hk.1.cells
          obtain ⟨e0, e1, e2, e3, e4, e5, e6, e7⟩ := hk.2.1.cells
          have b0 := hk.2.2.1.c0
          have b1 := hk.2.2.1.c1
          clear hk
          go_wp2_with fail
          refine (HC1.out _).mono ?_
          rintro ev w4 ⟨rfl, hb⟩
          have hk := HK.out.next hb
          have HK := Lib.hid hk
          clear hb c0 c1 c2 c3 e0 e1 e2 e3 e4 e5 e6 e7 b0 b1
          obtain ⟨c0, c1, c2, c3⟩ := hk.1.cells
          obtain ⟨e0, e1, e2, e3, e4, e5, e6, e7⟩ := hk.2.1.cells
          have b0 := hk.2.2.1.c0
          have b1 := hk.2.2.1.c1
          clear hk
          go_wp2_with fail
          refine (HC2.out _).mono ?_
          rintro ev w5 ⟨rfl, hb⟩
          have hk := HK.out.next hb
          have HK := Lib.hid hk
          clear hb c0 c1 c2 c3 e0 e1 e2 e3 e4 e5 e6 e7 b0 b1
          obtain ⟨c0, c1, c2, c3⟩ := hk.1.cells
          obtain ⟨e0, e1, e2, e3, e4, e5, e6, e7⟩ := hk.2.1.cells
          have b0 := hk.2.2.1.c0
          have b1 := hk.2.2.1.c1
          clear hk
          go_wp2_with fail
          refine (HAW.out _).mono ?_
          rintro ev w6 ⟨rfl, hb⟩
          have hk := HK.out.next hb
          have HK := Lib.hid hk
          clear hb c0 c1 c2 c3 e0 e1 e2 e3 e4 e5 e6 e7 b0 b1
          obtain ⟨c0, c1, c2, c3⟩ := hk.1.cells
          obtain ⟨e0, e1, e2, e3, e4, e5, e6, e7⟩ := hk.2.1.cells
          have b0 := hk.2.2.1.c0
          have b1 := hk.2.2.1.c1
          clear hk
          go_wp2
          go_ret
          exact ⟨rfl, HK.out.2.2.2⟩
        | true =>
          obtain ⟨y0, y1⟩ := Bool.and_eq_true_iff.1 hv0
          obtain ⟨p1, p2, p3⟩ := zv_parts y0
          obtain ⟨p4, p5, p6⟩ := zv_parts y1
          have hC1 := cm_ok hc hv0
          cases hv1 : (zvalid a4 a5 && zvalid a6 a7) with
          | false =>
            obtain ⟨cs, hcf⟩ := hC1
            rw [hcf] at HC1
            rw [cm_bad hv1] at HC2
            unfold kV zV oV at *
            clear h1 h2 h3 h4 hc hs l0 l1 l2 l3 l4 hv0 hv1 hcf y0 y1 p1 p2 p3 p4 p5 p6
            go_enter Try.func5, Try.ntmps5
            have hk := KU.new w M O G H a0 a1 a2 a3 a4 a5 a6 a7 bb bt
            obtain ⟨W0, hW0⟩ : ∃ W, ((w.alloc (.cells #[.string M, .string O, .string G, .string H] 26)).alloc (.cells #[.bool a0, .string a1, .bool a2, .string a3, .bool a4, .string a5, .bool a6, .string a7] 46)).alloc (.cells #[.bool bb, .string bt] 38) = W := ⟨_, rfl⟩
            rw [hW0] at hk
            have HK := Lib.hid hk
            obtain ⟨c0, c1, c2, c3⟩ := hk.1.cells
            obtain ⟨e0, e1, e2, e3, e4, e5, e6, e7⟩ := hk.2.1.cells
            have b0 := hk.2.2.1.c0
            have b1 := hk.2.2.1.c1
            clear hk
            go_wp2_with fail
            try rw [hW0]
            clear hW0
            refine (HFW.out _).mono ?_
            rintro ev w1 ⟨rfl, hb⟩
            have hk := HK.out.next hb
            have HK := Lib.hid hk
            clear hb c0 c1 c2 c3 e0 e1 e2 e3 e4 e5 e6 e7 b0 b1
            obtain ⟨c0, c1, c2, c3⟩ := hk.1.cells
            obtain ⟨e0, e1, e2, e3, e4, e5, e6, e7⟩ := hk.2.1.cells
            have b0 := hk.2.2.1.c0
            have b1 := hk.2.2.1.c1
            clear hk
            go_wp2_with fail
            refine (HCK.out _).mono ?_
            rintro ev w2 ⟨rfl, hb⟩
            have hk := HK.out.next hb
            have HK := Lib.hid hk
            clear hb c0 c1 c2 c3 e0 e1 e2 e3 e4 e5 e6 e7 b0 b1
            obtain ⟨c0, c1, c2, c3⟩ := hk.1.cells
            obtain ⟨e0, e1, e2, e3, e4, e5, e6, e7⟩ := hk.2.1.cells
            have b0 := hk.2.2.1.c0
            have b1 := hk.2.2.1.c1
            clear hk
            go_wp2_with fail
            have hs2 := slz_alloc5 w2 a0 a2 a4 a6 bb a1 a3 a5 a7 bt 38
            have hb : Below w2.heap.size w2 (w2.alloc (.cells #[.bool a0, .string a1, .bool a2, .string a3, .bool a4, .string a5, .bool a6, .string a7, .bool bb, .string bt] 38)) := (Below.refl _ _).alloc (Nat.le_refl _) _
            have HSS := Lib.hid (HSW.out _ _ hs2)
            have hkk := HK.out.next hb
            clear hs2 hb
            try go_wp2_with fail
            refine HSS.out.mono ?_
            rintro ev w3 ⟨rfl, hb⟩
            have hk := hkk.next hb
            have HK := Lib.hid hk
            clear hkk
            clear hb c0 c1 c2 c3 e0 e1 e2 e3 e4 e5 e6 e7 b0 b1
            obtain ⟨c0, c1, c2, c3⟩ := hk.1.cells
            obtain ⟨e0, e1, e2, e3, e4, e5, e6, e7⟩ := hk.2.1.cells
            have b0 := hk.2.2.1.c0
            have b1 := hk.2.2.1.c1
            clear hk
            go_wp2_with fail
            refine (HC1.out _).mono ?_
            rintro ev w4 ⟨rfl, hb⟩
            have hk := HK.out.next hb
            have HK := Lib.hid hk
            clear hb c0 c1 c2 c3 e0 e1 e2 e3 e4 e5 e6 e7 b0 b1
            obtain ⟨c0, c1, c2, c3⟩ := hk.1.cells
            obtain ⟨e0, e1, e2, e3, e4, e5, e6, e7⟩ := hk.2.1.cells
            have b0 := hk.2.2.1.c0
            have b1 := hk.2.2.1.c1
            clear hk
            go_wp2_with fail
            refine (HC2.out _).mono ?_
            rintro ev w5 ⟨rfl, hb⟩
            have hk := HK.out.next hb
            have HK := Lib.hid hk
            clear hb c0 c1 c2 c3 e0 e1 e2 e3 e4 e5 e6 e7 b0 b1
            obtain ⟨c0, c1, c2, c3⟩ := hk.1.cells
            obtain ⟨e0, e1, e2, e3, e4, e5, e6, e7⟩ := hk.2.1.cells
            have b0 := hk.2.2.1.c0
            have b1 := hk.2.2.1.c1
            clear hk
            go_wp2_with fail
            refine (HAW.out _).mono ?_
            rintro ev w6 ⟨rfl, hb⟩
            have hk := HK.out.next hb
            have HK := Lib.hid hk
            clear hb c0 c1 c2 c3 e0 e1 e2 e3 e4 e5 e6 e7 b0 b1
            obtain ⟨c0, c1, c2, c3⟩ := hk.1.cells
            obtain ⟨e0, e1, e2, e3, e4, e5, e6, e7⟩ := hk.2.1.cells
            have b0 := hk.2.2.1.c0
            have b1 := hk.2.2.1.c1
            clear hk
            go_wp2
            go_ret
            exact ⟨rfl, HK.out.2.2.2⟩
          | true =>
            obtain ⟨y2, y3⟩ := Bool.and_eq_true_iff.1 hv1
            obtain ⟨p7, p8, p9⟩ := zv_parts y2
            obtain ⟨p10, p11, p12⟩ := zv_parts y3
            have hC2 := cm_ok hc hv1
            cases hvb : zvalid bb bt with
            | false =>
              obtain ⟨cs, hcf⟩ := hC1
              obtain ⟨cs2, hcf2⟩ := hC2
              rw [hcf] at HC1
              rw [hcf2] at HC2
              rw [hvb] at HVB
              unfold kV zV oV at *
              clear h1 h2 h3 h4 hc hs l0 l1 l2 l3 l4 hv0 hv1 hvb hcf hcf2 y0 y1 y2 y3 p1 p2 p3 p4 p5 p6 p7 p8 p9 p10 p11 p12
              go_enter Try.func5, Try.ntmps5
              have hk := KU.new w M O G H a0 a1 a2 a3 a4 a5 a6 a7 bb bt
              obtain ⟨W0, hW0⟩ : ∃ W, ((w.alloc (.cells #[.string M, .string O, .string G, .string H] 26)).alloc (.cells #[.bool a0, .string a1, .bool a2, .string a3, .bool a4, .string a5, .bool a6, .string a7] 46)).alloc (.cells #[.bool bb, .string bt] 38) = W := ⟨_, rfl⟩
              rw [hW0] at hk
              have HK := Lib.hid hk
              obtain ⟨c0, c1, c2, c3⟩ := hk.1.cells
              obtain ⟨e0, e1, e2, e3, e4, e5, e6, e7⟩ := hk.2.1.cells
              have b0 := hk.2.2.1.c0
              have b1 := hk.2.2.1.c1
              clear hk
              go_wp2_with fail
              try rw [hW0]
              clear hW0
              refine (HFW.out _).mono ?_
              rintro ev w1 ⟨rfl, hb⟩
              have hk := HK.out.next hb
              have HK := Lib.hid hk
              clear hb c0 c1 c2 c3 e0 e1 e2 e3 e4 e5 e6 e7 b0 b1
              obtain ⟨c0, c1, c2, c3⟩ := hk.1.cells
              obtain ⟨e0, e1, e2, e3, e4, e5, e6, e7⟩ := hk.2.1.cells
              have b0 := hk.2.2.1.c0
              have b1 := hk.2.2.1.c1
              clear hk
              go_wp2_with fail
              refine (HCK.out _).mono ?_
              rintro ev w2 ⟨rfl, hb⟩
              have hk := HK.out.next hb
              have HK := Lib.hid hk
              clear hb c0 c1 c2 c3 e0 e1 e2 e3 e4 e5 e6 e7 b0 b1
              obtain ⟨c0, c1, c2, c3⟩ := hk.1.cells
              obtain ⟨e0, e1, e2, e3, e4, e5, e6, e7⟩ := hk.2.1.cells
              have b0 := hk.2.2.1.c0
              have b1 := hk.2.2.1.c1
              clear hk
              go_wp2_with fail
              have hs2 := slz_alloc5 w2 a0 a2 a4 a6 bb a1 a3 a5 a7 bt 38
              have hb : Below w2.heap.size w2 (w2.alloc (.cells #[.bool a0, .string a1, .bool a2, .string a3, .bool a4, .string a5, .bool a6, .string a7, .bool bb, .string bt] 38)) := (Below.refl _ _).alloc (Nat.le_refl _) _
              have HSS := Lib.hid (HSW.out _ _ hs2)
              have hkk := HK.out.next hb
              clear hs2 hb
              try go_wp2_with fail
              refine HSS.out.mono ?_
              rintro ev w3 ⟨rfl, hb⟩
              have hk := hkk.next hb
              have HK := Lib.hid hk
              clear hkk
              clear hb c0 c1 c2 c3 e0 e1 e2 e3 e4 e5 e6 e7 b0 b1
              obtain ⟨c0, c1, c2, c3⟩ := hk.1.cells
              obtain ⟨e0, e1, e2, e3, e4, e5, e6, e7⟩ := hk.2.1.cells
              have b0 := hk.2.2.1.c0
              have b1 := hk.2.2.1.c1
              clear hk
              go_wp2_with fail
              refine (HC1.out _).mono ?_
              rintro ev w4 ⟨rfl, hb⟩
              have hk := HK.out.next hb
              have HK := Lib.hid hk
              clear hb c0 c1 c2 c3 e0 e1 e2 e3 e4 e5 e6 e7 b0 b1
              obtain ⟨c0, c1, c2, c3⟩ := hk.1.cells
              obtain ⟨e0, e1, e2, e3, e4, e5, e6, e7⟩ := hk.2.1.cells
              have b0 := hk.2.2.1.c0
              have b1 := hk.2.2.1.c1
              clear hk
              go_wp2_with fail
              refine (HC2.out _).mono ?_
              rintro ev w5 ⟨rfl, hb⟩
              have hk := HK.out.next hb
              have HK := Lib.hid hk
              clear hb c0 c1 c2 c3 e0 e1 e2 e3 e4 e5 e6 e7 b0 b1
              obtain ⟨c0, c1, c2, c3⟩ := hk.1.cells
              obtain ⟨e0, e1, e2, e3, e4, e5, e6, e7⟩ := hk.2.1.cells
              have b0 := hk.2.2.1.c0
              have b1 := hk.2.2.1.c1
              clear hk
              go_wp2_with fail
              refine (HVB.out _).mono ?_
              rintro ev w6 ⟨rfl, hb⟩
              have hk := HK.out.next hb
              have HK := Lib.hid hk
              clear hb c0 c1 c2 c3 e0 e1 e2 e3 e4 e5 e6 e7 b0 b1
              obtain ⟨c0, c1, c2, c3⟩ := hk.1.cells
              obtain ⟨e0, e1, e2, e3, e4, e5, e6, e7⟩ := hk.2.1.cells
              have b0 := hk.2.2.1.c0
              have b1 := hk.2.2.1.c1
              clear hk
              go_wp2_with fail
              refine (HAW.out _).mono ?_
              rintro ev w7 ⟨rfl, hb⟩
              have hk := HK.out.next hb
              have HK := Lib.hid hk
              clear hb c0 c1 c2 c3 e0 e1 e2 e3 e4 e5 e6 e7 b0 b1
              obtain ⟨c0, c1, c2, c3⟩ := hk.1.cells
              obtain ⟨e0, e1, e2, e3, e4, e5, e6, e7⟩ := hk.2.1.cells
              have b0 := hk.2.2.1.c0
              have b1 := hk.2.2.1.c1
              clear hk
              go_wp2_with fail
              refine (HVB.out _).mono ?_
              rintro ev w8 ⟨rfl, hb⟩
              have hk := HK.out.next hb
              have HK := Lib.hid hk
              clear hb c0 c1 c2 c3 e0 e1 e2 e3 e4 e5 e6 e7 b0 b1
              obtain ⟨c0, c1, c2, c3⟩ := hk.1.cells
              obtain ⟨e0, e1, e2, e3, e4, e5, e6, e7⟩ := hk.2.1.cells
              have b0 := hk.2.2.1.c0
              have b1 := hk.2.2.1.c1
              clear hk
              go_wp2
              go_ret
              exact ⟨rfl, HK.out.2.2.2⟩
            | true =>
              obtain ⟨p13, p14, p15⟩ := zv_parts hvb
              rw [hvb] at HVB
              have hbound : ∀ (b : Bool) (s : ByteArray), s.size ≤ 16 → (sg b (num s)).natAbs < 256 ^ 16 := fun b s h => by
                rw [sg_natAbs]
                exact Nat.lt_of_lt_of_le (num_lt_size s) (Nat.pow_le_pow_right (by decide) h)
              have m0 := hbound a0 a1 l0
              have m1 := hbound a2 a3 l1
              have m2 := hbound a4 a5 l2
              have m3 := hbound a6 a7 l3
              have m4 := hbound bb bt l4
              have hO2 := nS_num (kF_parts2 (pkC_kF hc)).2.1
              have ho8 : num O < 18446744073709551616 := nS_size_le.1 (by rw [← hO2]; exact h2)
              have hk := keyF_of hc
              have ho128 : num O < 256 ^ 128 := lt128_of_lt8 ho8
              generalize sg a0 (num a1) = v0 at *
              generalize sg a2 (num a3) = r0 at *
              generalize sg a4 (num a5) = v1 at *
              generalize sg a6 (num a7) = r1 at *
              generalize sg bb (num bt) = b at *
              have fA := has_cm hk v0 r0
              have fB := has_cm hk v1 r1
              have hcO : pkC M (nS (num O)) G H = 0 := by rw [← hO2]; exact hc
              have HAD := Lib.hid (pk_Add M O G H (nS (cmN (num M) (num G) (num H) v0 r0)) (nS (cmN (num M) (num G) (num H) v1 r1)) h1 h2 (by omega) (by omega) (sz1000 hc (has_lt fA)) (sz1000 hc (has_lt fB)))
              rw [ad_int hc fA fB, cm_add hk] at HAD
              have HSC := Lib.hid (pk_Scale M O G H (nS (cmN (num M) (num G) (num H) v0 r0)) bb bt h1 h2 (by omega) (by omega) (sz1000 hc (has_lt fA)) (by omega))
              have HSH := Lib.hid (pk_Shift M O G H (nS (cmN (num M) (num G) (num H) v0 r0)) bb bt h1 h2 (by omega) (by omega) (sz1000 hc (has_lt fA)) (by omega))
              rw [p13, p14, sc_int hc fA p15, cm_scale hk] at HSC
              rw [p13, p14, sf_int hc fA p15, cm_shift hk] at HSH
              have HSU := Lib.hid (pk_Sum_core M G H (num O) v0 r0 v1 r1 _ _ h1 ho8 (by omega) (by omega) p3 p6 p9 p12 hcO (fun w => int_AddA v0 v1 p3 p9 w) (fun w => int_AddA r0 r1 p6 p12 w))
              have HTI := Lib.hid (pk_Times_core M G H (num O) v0 r0 b _ _ h1 ho8 (by omega) (by omega) p3 p6 p15 hcO (fun w => int_MulA v0 b p3 p15 w) (fun w => int_MulA r0 b p6 p15 w))
              have HS2 := Lib.hid (pk_Sum_core M G H (num O) v0 r0 b 0 _ _ h1 ho8 (by omega) (by omega) p3 p6 p15 (Nat.pow_pos (by decide)) hcO (fun w => int_AddA v0 b p3 p15 w) (fun w => int_AddA r0 0 p6 (Nat.pow_pos (by decide)) w))
              have z1 := add16 m0 m2
              have z2 := add16 m1 m3
              have z3 := mul16 m0 m4
              have z4 := mul16 m1 m4
              have z5 := add16 m0 m4
              have z6 : (r0 + 0).natAbs < 256 ^ 128 := by rw [Int.add_zero]; exact p6
              rw [smZ_in z1 z2] at HSU
              rw [smZ_in z3 z4] at HTI
              rw [smZ_in z5 z6] at HS2
              have HO1 := Lib.hid (pk_Opens M O G H (nS (cmN (num M) (num G) (num H) v0 r0)) a0 a1 a2 a3 h1 h2 (by omega) (by omega) (by omega) (by omega))
              rw [p1, p2, p4, p5, op_int hc p3 p6, decide_eq_true rfl] at HO1
              have hOp := fun (X : Nat) (x y : Int) (hx : x.natAbs < 256 ^ 128) (hy : y.natAbs < 256 ^ 128) (he : cmN (num M) (num G) (num H) x y = X) (w : World) => show Calls Try.prog 13 #[kV M O G H, .string (nS X), oV (decide (redZ (num O) x < 0)) (nS (redZ (num O) x).natAbs) (decide (redZ (num O) y < 0)) (nS (redZ (num O) y).natAbs)] w (Ret (.bool true) w) from by
                have q1 := redZ_small ho128 hx
                have q2 := redZ_small ho128 hy
                have h := pk_Opens M O G H (nS X) (decide (redZ (num O) x < 0)) (nS (redZ (num O) x).natAbs) (decide (redZ (num O) y < 0)) (nS (redZ (num O) y).natAbs) h1 h2 (by omega) (by omega) (by have := nS_size_le.2 q1; omega) (by have := nS_size_le.2 q2; omega) w
                rw [op_int hc q1 q2, cm_red hk, he, decide_eq_true rfl] at h
                exact h
              have HO2 := Lib.hid (hOp _ _ _ z1 z2 rfl)
              have HO3 := Lib.hid (hOp _ _ _ z3 z4 rfl)
              have HO4 := Lib.hid (hOp _ _ _ z5 z6 (by rw [Int.add_zero]))
              clear hOp
              rw [p1, p2, p4, p5, cm_int hc p3 p6] at HC1
              rw [p7, p8, p10, p11, cm_int hc p9 p12] at HC2
              rw [← hO2] at HSU HTI HS2
              unfold kV oV arV at *
              unfold intV zV at *
              rw [← p1, ← p2, ← p4, ← p5] at HC1 HO1 HSU HTI HS2
              rw [← p7, ← p8, ← p10, ← p11] at HC2 HSU
              rw [← p13, ← p14] at HSC HSH HTI HS2
              rw [show decide ((0 : Int) < 0) = false from rfl, show nS (0 : Int).natAbs = ⟨#[]⟩ from rfl] at HS2
              obtain ⟨sA, gsA⟩ : ∃ t, nS (cmN (num M) (num G) (num H) v0 r0) = t := ⟨_, rfl⟩
              rw [gsA] at HC1 HAD HSC HSH HO1
              obtain ⟨sB, gsB⟩ : ∃ t, nS (cmN (num M) (num G) (num H) v1 r1) = t := ⟨_, rfl⟩
              rw [gsB] at HC2 HAD
              obtain ⟨sC, gsC⟩ : ∃ t, nS (cmN (num M) (num G) (num H) (v0 + v1) (r0 + r1)) = t := ⟨_, rfl⟩
              rw [gsC] at HAD HO2
              obtain ⟨sD, gsD⟩ : ∃ t, nS (cmN (num M) (num G) (num H) (v0 * b) (r0 * b)) = t := ⟨_, rfl⟩
              rw [gsD] at HSC HO3
              obtain ⟨sW, gsW⟩ : ∃ t, nS (cmN (num M) (num G) (num H) (v0 + b) r0) = t := ⟨_, rfl⟩
              rw [gsW] at HSH HO4
              obtain ⟨s1, gs1⟩ : ∃ t, decide (redZ (num O) (v0 + v1) < 0) = t := ⟨_, rfl⟩
              rw [gs1] at HSU HO2
              obtain ⟨s2, gs2⟩ : ∃ t, nS (redZ (num O) (v0 + v1)).natAbs = t := ⟨_, rfl⟩
              rw [gs2] at HSU HO2
              obtain ⟨s3, gs3⟩ : ∃ t, decide (redZ (num O) (r0 + r1) < 0) = t := ⟨_, rfl⟩
              rw [gs3] at HSU HO2
              obtain ⟨s4, gs4⟩ : ∃ t, nS (redZ (num O) (r0 + r1)).natAbs = t := ⟨_, rfl⟩
              rw [gs4] at HSU HO2
              obtain ⟨t1, gt1⟩ : ∃ t, decide (redZ (num O) (v0 * b) < 0) = t := ⟨_, rfl⟩
              rw [gt1] at HTI HO3
              obtain ⟨t2, gt2⟩ : ∃ t, nS (redZ (num O) (v0 * b)).natAbs = t := ⟨_, rfl⟩
              rw [gt2] at HTI HO3
              obtain ⟨t3, gt3⟩ : ∃ t, decide (redZ (num O) (r0 * b) < 0) = t := ⟨_, rfl⟩
              rw [gt3] at HTI HO3
              obtain ⟨t4, gt4⟩ : ∃ t, nS (redZ (num O) (r0 * b)).natAbs = t := ⟨_, rfl⟩
              rw [gt4] at HTI HO3
              obtain ⟨u1, gu1⟩ : ∃ t, decide (redZ (num O) (v0 + b) < 0) = t := ⟨_, rfl⟩
              rw [gu1] at HS2 HO4
              obtain ⟨u2, gu2⟩ : ∃ t, nS (redZ (num O) (v0 + b)).natAbs = t := ⟨_, rfl⟩
              rw [gu2] at HS2 HO4
              obtain ⟨u3, gu3⟩ : ∃ t, decide (redZ (num O) (r0 + 0) < 0) = t := ⟨_, rfl⟩
              rw [gu3] at HS2 HO4
              obtain ⟨u4, gu4⟩ : ∃ t, nS (redZ (num O) (r0 + 0)).natAbs = t := ⟨_, rfl⟩
              rw [gu4] at HS2 HO4
              clear gsA gsB gsC gsD gsW gs1 gs2 gs3 gs4 gt1 gt2 gt3 gt4 gu1 gu2 gu3 gu4 hC1 hC2 h1 h2 h3 h4 hc hs l0 l1 l2 l3 l4 hv0 hv1 hvb y0 y1 y2 y3 p1 p2 p3 p4 p5 p6 p7 p8 p9 p10 p11 p12 p13 p14 p15 hbound m0 m1 m2 m3 m4 hO2 ho8 hk ho128 fA fB hcO z1 z2 z3 z4 z5 z6
              go_enter Try.func5, Try.ntmps5
              have hk := KU.new w M O G H a0 a1 a2 a3 a4 a5 a6 a7 bb bt
              obtain ⟨W0, hW0⟩ : ∃ W, ((w.alloc (.cells #[.string M, .string O, .string G, .string H] 26)).alloc (.cells #[.bool a0, .string a1, .bool a2, .string a3, .bool a4, .string a5, .bool a6, .string a7] 46)).alloc (.cells #[.bool bb, .string bt] 38) = W := ⟨_, rfl⟩
              rw [hW0] at hk
              have HK := Lib.hid hk
              obtain ⟨c0, c1, c2, c3⟩ := hk.1.cells
              obtain ⟨e0, e1, e2, e3, e4, e5, e6, e7⟩ := hk.2.1.cells
              have b0 := hk.2.2.1.c0
              have b1 := hk.2.2.1.c1
              clear hk
              go_wp2_with fail
              try rw [hW0]
              clear hW0
              refine (HFW.out _).mono ?_
              rintro ev w1 ⟨rfl, hb⟩
              have hk := HK.out.next hb
              have HK := Lib.hid hk
              clear hb c0 c1 c2 c3 e0 e1 e2 e3 e4 e5 e6 e7 b0 b1
              obtain ⟨c0, c1, c2, c3⟩ := hk.1.cells
              obtain ⟨e0, e1, e2, e3, e4, e5, e6, e7⟩ := hk.2.1.cells
              have b0 := hk.2.2.1.c0
              have b1 := hk.2.2.1.c1
              clear hk
              go_wp2_with fail
              refine (HCK.out _).mono ?_
              rintro ev w2 ⟨rfl, hb⟩
              have hk := HK.out.next hb
              have HK := Lib.hid hk
              clear hb c0 c1 c2 c3 e0 e1 e2 e3 e4 e5 e6 e7 b0 b1
              obtain ⟨c0, c1, c2, c3⟩ := hk.1.cells
              obtain ⟨e0, e1, e2, e3, e4, e5, e6, e7⟩ := hk.2.1.cells
              have b0 := hk.2.2.1.c0
              have b1 := hk.2.2.1.c1
              clear hk
              go_wp2_with fail
              have hs2 := slz_alloc5 w2 a0 a2 a4 a6 bb a1 a3 a5 a7 bt 38
              have hb : Below w2.heap.size w2 (w2.alloc (.cells #[.bool a0, .string a1, .bool a2, .string a3, .bool a4, .string a5, .bool a6, .string a7, .bool bb, .string bt] 38)) := (Below.refl _ _).alloc (Nat.le_refl _) _
              have HSS := Lib.hid (HSW.out _ _ hs2)
              have hkk := HK.out.next hb
              clear hs2 hb
              try go_wp2_with fail
              refine HSS.out.mono ?_
              rintro ev w3 ⟨rfl, hb⟩
              have hk := hkk.next hb
              have HK := Lib.hid hk
              clear hkk
              clear hb c0 c1 c2 c3 e0 e1 e2 e3 e4 e5 e6 e7 b0 b1
              obtain ⟨c0, c1, c2, c3⟩ := hk.1.cells
              obtain ⟨e0, e1, e2, e3, e4, e5, e6, e7⟩ := hk.2.1.cells
              have b0 := hk.2.2.1.c0
              have b1 := hk.2.2.1.c1
              clear hk
              go_wp2_with fail
              refine (HC1.out _).mono ?_
              rintro ev w4 ⟨rfl, hb⟩
              have hk := HK.out.next hb
              have HK := Lib.hid hk
              clear hb c0 c1 c2 c3 e0 e1 e2 e3 e4 e5 e6 e7 b0 b1
              obtain ⟨c0, c1, c2, c3⟩ := hk.1.cells
              obtain ⟨e0, e1, e2, e3, e4, e5, e6, e7⟩ := hk.2.1.cells
              have b0 := hk.2.2.1.c0
              have b1 := hk.2.2.1.c1
              clear hk
              go_wp2_with fail
              refine (HC2.out _).mono ?_
              rintro ev w5 ⟨rfl, hb⟩
              have hk := HK.out.next hb
              have HK := Lib.hid hk
              clear hb c0 c1 c2 c3 e0 e1 e2 e3 e4 e5 e6 e7 b0 b1
              obtain ⟨c0, c1, c2, c3⟩ := hk.1.cells
              obtain ⟨e0, e1, e2, e3, e4, e5, e6, e7⟩ := hk.2.1.cells
              have b0 := hk.2.2.1.c0
              have b1 := hk.2.2.1.c1
              clear hk
              go_wp2_with fail
              refine (HVB.out _).mono ?_
              rintro ev w6 ⟨rfl, hb⟩
              have hk := HK.out.next hb
              have HK := Lib.hid hk
              clear hb c0 c1 c2 c3 e0 e1 e2 e3 e4 e5 e6 e7 b0 b1
              obtain ⟨c0, c1, c2, c3⟩ := hk.1.cells
              obtain ⟨e0, e1, e2, e3, e4, e5, e6, e7⟩ := hk.2.1.cells
              have b0 := hk.2.2.1.c0
              have b1 := hk.2.2.1.c1
              clear hk
              go_wp2_with fail
              refine (HAD.out _).mono ?_
              rintro ev w7 ⟨rfl, hb⟩
              have hk := HK.out.next hb
              have HK := Lib.hid hk
              clear hb c0 c1 c2 c3 e0 e1 e2 e3 e4 e5 e6 e7 b0 b1
              obtain ⟨c0, c1, c2, c3⟩ := hk.1.cells
              obtain ⟨e0, e1, e2, e3, e4, e5, e6, e7⟩ := hk.2.1.cells
              have b0 := hk.2.2.1.c0
              have b1 := hk.2.2.1.c1
              clear hk
              go_wp2_with fail
              refine (HSU.out _).mono ?_
              rintro ev w8 ⟨rfl, hb⟩
              have HBL := Lib.hid hb
              have hk := HK.out.next hb
              have HK := Lib.hid hk
              clear hb c0 c1 c2 c3 e0 e1 e2 e3 e4 e5 e6 e7 b0 b1
              obtain ⟨c0, c1, c2, c3⟩ := hk.1.cells
              obtain ⟨e0, e1, e2, e3, e4, e5, e6, e7⟩ := hk.2.1.cells
              have b0 := hk.2.2.1.c0
              have b1 := hk.2.2.1.c1
              clear hk
              have hb : Below w8.heap.size w8 (w8.alloc (.cells #[.bool s1, .string s2, .bool s3, .string s4] 43)) := (Below.refl _ _).alloc (Nat.le_refl _) _
              have hn := Bx4.new w8 (.bool s1) (.string s2) (.bool s3) (.string s4) 43
              obtain ⟨W8, hW8⟩ : ∃ W, w8.alloc (.cells #[.bool s1, .string s2, .bool s3, .string s4] 43) = W := ⟨_, rfl⟩
              obtain ⟨B8, hB8⟩ : ∃ B, w8.heap.size = B := ⟨_, rfl⟩
              rw [hW8] at hb hn
              rw [hB8] at hn
              have HN8 := Lib.hid hn
              clear hn
              have hk := HK.out.next hb
              have HK := Lib.hid hk
              clear hb c0 c1 c2 c3 e0 e1 e2 e3 e4 e5 e6 e7 b0 b1
              obtain ⟨c0, c1, c2, c3⟩ := hk.1.cells
              obtain ⟨e0, e1, e2, e3, e4, e5, e6, e7⟩ := hk.2.1.cells
              have b0 := hk.2.2.1.c0
              have b1 := hk.2.2.1.c1
              clear hk
              go_wp2_with fail
              try rw [hW8]
              try rw [hB8]
              clear hW8 hB8
              refine (HSC.out _).mono ?_
              rintro ev w9 ⟨rfl, hb⟩
              have HBL := Lib.hid hb
              have hk := HK.out.next hb
              have HK := Lib.hid hk
              clear hb c0 c1 c2 c3 e0 e1 e2 e3 e4 e5 e6 e7 b0 b1
              obtain ⟨c0, c1, c2, c3⟩ := hk.1.cells
              obtain ⟨e0, e1, e2, e3, e4, e5, e6, e7⟩ := hk.2.1.cells
              have b0 := hk.2.2.1.c0
              have b1 := hk.2.2.1.c1
              clear hk
              have HN8 := Lib.hid (HN8.out.next HBL.out)
              go_wp2_with fail
              refine (HTI.out _).mono ?_
              rintro ev w10 ⟨rfl, hb⟩
              have HBL := Lib.hid hb
              have hk := HK.out.next hb
              have HK := Lib.hid hk
              clear hb c0 c1 c2 c3 e0 e1 e2 e3 e4 e5 e6 e7 b0 b1
              obtain ⟨c0, c1, c2, c3⟩ := hk.1.cells
              obtain ⟨e0, e1, e2, e3, e4, e5, e6, e7⟩ := hk.2.1.cells
              have b0 := hk.2.2.1.c0
              have b1 := hk.2.2.1.c1
              clear hk
              have HN8 := Lib.hid (HN8.out.next HBL.out)
              have hb : Below w10.heap.size w10 (w10.alloc (.cells #[.bool t1, .string t2, .bool t3, .string t4] 43)) := (Below.refl _ _).alloc (Nat.le_refl _) _
              have hn := Bx4.new w10 (.bool t1) (.string t2) (.bool t3) (.string t4) 43
              obtain ⟨W10, hW10⟩ : ∃ W, w10.alloc (.cells #[.bool t1, .string t2, .bool t3, .string t4] 43) = W := ⟨_, rfl⟩
              obtain ⟨B10, hB10⟩ : ∃ B, w10.heap.size = B := ⟨_, rfl⟩
              rw [hW10] at hb hn
              rw [hB10] at hn
              have HN8 := Lib.hid (HN8.out.next hb)
              have HN10 := Lib.hid hn
              clear hn
              have hk := HK.out.next hb
              have HK := Lib.hid hk
              clear hb c0 c1 c2 c3 e0 e1 e2 e3 e4 e5 e6 e7 b0 b1
              obtain ⟨c0, c1, c2, c3⟩ := hk.1.cells
              obtain ⟨e0, e1, e2, e3, e4, e5, e6, e7⟩ := hk.2.1.cells
              have b0 := hk.2.2.1.c0
              have b1 := hk.2.2.1.c1
              clear hk
              go_wp2_with fail
              try rw [hW10]
              try rw [hB10]
              clear hW10 hB10
              refine (HSH.out _).mono ?_
              rintro ev w11 ⟨rfl, hb⟩
              have HBL := Lib.hid hb
              have hk := HK.out.next hb
              have HK := Lib.hid hk
              clear hb c0 c1 c2 c3 e0 e1 e2 e3 e4 e5 e6 e7 b0 b1
              obtain ⟨c0, c1, c2, c3⟩ := hk.1.cells
              obtain ⟨e0, e1, e2, e3, e4, e5, e6, e7⟩ := hk.2.1.cells
              have b0 := hk.2.2.1.c0
              have b1 := hk.2.2.1.c1
              clear hk
              have HN8 := Lib.hid (HN8.out.next HBL.out)
              have HN10 := Lib.hid (HN10.out.next HBL.out)
              go_wp2_with fail
              refine (HS2.out _).mono ?_
              rintro ev w12 ⟨rfl, hb⟩
              have HBL := Lib.hid hb
              have hk := HK.out.next hb
              have HK := Lib.hid hk
              clear hb c0 c1 c2 c3 e0 e1 e2 e3 e4 e5 e6 e7 b0 b1
              obtain ⟨c0, c1, c2, c3⟩ := hk.1.cells
              obtain ⟨e0, e1, e2, e3, e4, e5, e6, e7⟩ := hk.2.1.cells
              have b0 := hk.2.2.1.c0
              have b1 := hk.2.2.1.c1
              clear hk
              have HN8 := Lib.hid (HN8.out.next HBL.out)
              have HN10 := Lib.hid (HN10.out.next HBL.out)
              have hb : Below w12.heap.size w12 (w12.alloc (.cells #[.bool u1, .string u2, .bool u3, .string u4] 43)) := (Below.refl _ _).alloc (Nat.le_refl _) _
              have hn := Bx4.new w12 (.bool u1) (.string u2) (.bool u3) (.string u4) 43
              obtain ⟨W12, hW12⟩ : ∃ W, w12.alloc (.cells #[.bool u1, .string u2, .bool u3, .string u4] 43) = W := ⟨_, rfl⟩
              obtain ⟨B12, hB12⟩ : ∃ B, w12.heap.size = B := ⟨_, rfl⟩
              rw [hW12] at hb hn
              rw [hB12] at hn
              have HN8 := Lib.hid (HN8.out.next hb)
              have HN10 := Lib.hid (HN10.out.next hb)
              have HN12 := Lib.hid hn
              clear hn
              have hk := HK.out.next hb
              have HK := Lib.hid hk
              clear hb c0 c1 c2 c3 e0 e1 e2 e3 e4 e5 e6 e7 b0 b1
              obtain ⟨c0, c1, c2, c3⟩ := hk.1.cells
              obtain ⟨e0, e1, e2, e3, e4, e5, e6, e7⟩ := hk.2.1.cells
              have b0 := hk.2.2.1.c0
              have b1 := hk.2.2.1.c1
              clear hk
              go_wp2_with fail
              try rw [hW12]
              try rw [hB12]
              clear hW12 hB12
              refine (HAW.out _).mono ?_
              rintro ev w13 ⟨rfl, hb⟩
              have HBL := Lib.hid hb
              have hk := HK.out.next hb
              have HK := Lib.hid hk
              clear hb c0 c1 c2 c3 e0 e1 e2 e3 e4 e5 e6 e7 b0 b1
              obtain ⟨c0, c1, c2, c3⟩ := hk.1.cells
              obtain ⟨e0, e1, e2, e3, e4, e5, e6, e7⟩ := hk.2.1.cells
              have b0 := hk.2.2.1.c0
              have b1 := hk.2.2.1.c1
              clear hk
              have HN8 := Lib.hid (HN8.out.next HBL.out)
              have HN10 := Lib.hid (HN10.out.next HBL.out)
              have HN12 := Lib.hid (HN12.out.next HBL.out)
              go_wp2_with fail
              refine (HO1.out _).mono ?_
              rintro ev w14 ⟨rfl, hb⟩
              have HBL := Lib.hid hb
              have hk := HK.out.next hb
              have HK := Lib.hid hk
              clear hb c0 c1 c2 c3 e0 e1 e2 e3 e4 e5 e6 e7 b0 b1
              obtain ⟨c0, c1, c2, c3⟩ := hk.1.cells
              obtain ⟨e0, e1, e2, e3, e4, e5, e6, e7⟩ := hk.2.1.cells
              have b0 := hk.2.2.1.c0
              have b1 := hk.2.2.1.c1
              clear hk
              have HN8 := Lib.hid (HN8.out.next HBL.out)
              have HN10 := Lib.hid (HN10.out.next HBL.out)
              have HN12 := Lib.hid (HN12.out.next HBL.out)
              obtain ⟨m8a, m8b, m8c, m8d⟩ := HN8.out.cells
              go_wp2_with fail
              clear m8a m8b m8c m8d
              refine (HO2.out _).mono ?_
              rintro ev w15 ⟨rfl, hb⟩
              have HBL := Lib.hid hb
              have hk := HK.out.next hb
              have HK := Lib.hid hk
              clear hb c0 c1 c2 c3 e0 e1 e2 e3 e4 e5 e6 e7 b0 b1
              obtain ⟨c0, c1, c2, c3⟩ := hk.1.cells
              obtain ⟨e0, e1, e2, e3, e4, e5, e6, e7⟩ := hk.2.1.cells
              have b0 := hk.2.2.1.c0
              have b1 := hk.2.2.1.c1
              clear hk
              have HN8 := Lib.hid (HN8.out.next HBL.out)
              have HN10 := Lib.hid (HN10.out.next HBL.out)
              have HN12 := Lib.hid (HN12.out.next HBL.out)
              obtain ⟨m10a, m10b, m10c, m10d⟩ := HN10.out.cells
              go_wp2_with fail
              clear m10a m10b m10c m10d
              refine (HO3.out _).mono ?_
              rintro ev w16 ⟨rfl, hb⟩
              have HBL := Lib.hid hb
              have hk := HK.out.next hb
              have HK := Lib.hid hk
              clear hb c0 c1 c2 c3 e0 e1 e2 e3 e4 e5 e6 e7 b0 b1
              obtain ⟨c0, c1, c2, c3⟩ := hk.1.cells
              obtain ⟨e0, e1, e2, e3, e4, e5, e6, e7⟩ := hk.2.1.cells
              have b0 := hk.2.2.1.c0
              have b1 := hk.2.2.1.c1
              clear hk
              have HN8 := Lib.hid (HN8.out.next HBL.out)
              have HN10 := Lib.hid (HN10.out.next HBL.out)
              have HN12 := Lib.hid (HN12.out.next HBL.out)
              obtain ⟨m12a, m12b, m12c, m12d⟩ := HN12.out.cells
              go_wp2_with fail
              clear m12a m12b m12c m12d
              refine (HO4.out _).mono ?_
              rintro ev w17 ⟨rfl, hb⟩
              have hk := HK.out.next hb
              have HK := Lib.hid hk
              clear hb c0 c1 c2 c3 e0 e1 e2 e3 e4 e5 e6 e7 b0 b1
              obtain ⟨c0, c1, c2, c3⟩ := hk.1.cells
              obtain ⟨e0, e1, e2, e3, e4, e5, e6, e7⟩ := hk.2.1.cells
              have b0 := hk.2.2.1.c0
              have b1 := hk.2.2.1.c1
              clear hk
              go_wp2
              go_ret
              exact ⟨rfl, HK.out.2.2.2⟩
    · obtain ⟨k, hk⟩ : ∃ k, pkC M O G H = k := ⟨_, rfl⟩
      rw [hk] at HCK hc
      have i3 : (k == 0) = false := beq_eq_false_iff_ne.2 hc
      unfold kV zV at *
      clear h1 h2 h3 h4 hk
      go_enter Try.func5, Try.ntmps5
      have hk := KU.new w M O G H a0 a1 a2 a3 a4 a5 a6 a7 bb bt
      obtain ⟨W0, hW0⟩ : ∃ W, ((w.alloc (.cells #[.string M, .string O, .string G, .string H] 26)).alloc (.cells #[.bool a0, .string a1, .bool a2, .string a3, .bool a4, .string a5, .bool a6, .string a7] 46)).alloc (.cells #[.bool bb, .string bt] 38) = W := ⟨_, rfl⟩
      rw [hW0] at hk
      have HK := Lib.hid hk
      obtain ⟨c0, c1, c2, c3⟩ := hk.1.cells
      obtain ⟨e0, e1, e2, e3, e4, e5, e6, e7⟩ := hk.2.1.cells
      have b0 := hk.2.2.1.c0
      have b1 := hk.2.2.1.c1
      clear hk
      go_wp2_with fail
      try rw [hW0]
      clear hW0
      refine (HFW.out _).mono ?_
      rintro ev w1 ⟨rfl, hb⟩
      have hk := HK.out.next hb
      have HK := Lib.hid hk
      clear hb c0 c1 c2 c3 e0 e1 e2 e3 e4 e5 e6 e7 b0 b1
      obtain ⟨c0, c1, c2, c3⟩ := hk.1.cells
      obtain ⟨e0, e1, e2, e3, e4, e5, e6, e7⟩ := hk.2.1.cells
      have b0 := hk.2.2.1.c0
      have b1 := hk.2.2.1.c1
      clear hk
      go_wp2_with fail
      refine (HCK.out _).mono ?_
      rintro ev w2 ⟨rfl, hb⟩
      have hk := HK.out.next hb
      have HK := Lib.hid hk
      clear hb c0 c1 c2 c3 e0 e1 e2 e3 e4 e5 e6 e7 b0 b1
      obtain ⟨c0, c1, c2, c3⟩ := hk.1.cells
      obtain ⟨e0, e1, e2, e3, e4, e5, e6, e7⟩ := hk.2.1.cells
      have b0 := hk.2.2.1.c0
      have b1 := hk.2.2.1.c1
      clear hk
      go_wp2_with fail
      refine (HAW.out _).mono ?_
      rintro ev w3 ⟨rfl, hb⟩
      have hk := HK.out.next hb
      have HK := Lib.hid hk
      clear hb c0 c1 c2 c3 e0 e1 e2 e3 e4 e5 e6 e7 b0 b1
      obtain ⟨c0, c1, c2, c3⟩ := hk.1.cells
      obtain ⟨e0, e1, e2, e3, e4, e5, e6, e7⟩ := hk.2.1.cells
      have b0 := hk.2.2.1.c0
      have b1 := hk.2.2.1.c1
      clear hk
      go_wp2
      go_ret
      exact ⟨rfl, HK.out.2.2.2⟩
end Go.Proofs.Ytnnfgphioapmnaa

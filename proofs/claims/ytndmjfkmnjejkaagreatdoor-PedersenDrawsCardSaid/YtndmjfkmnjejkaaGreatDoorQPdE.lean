import Derived.Test.YtndmjfkmnjejkaaGreatDoorQPdD
import Derived.Test.YtndmjfkmnjejkaaGreatDoorQPeY
import Derived.Test.YtndmjfkmnjejkaaGreatDoorQCoC
import Derived.Deep.Cut
set_option linter.unusedVariables false
set_option linter.unusedSimpArgs false
namespace Go.Proofs.YtndmjfkmnjejkaaGreatDoor
set_option maxRecDepth 100000
set_option maxHeartbeats 8000000
open Go.RowKit Go.Lib
theorem few14_ofD {M O G H : ByteArray} (h : few14 M O G H = true) : M.size ≤ 8 ∧ O.size ≤ 8 ∧ G.size ≤ 9 ∧ H.size ≤ 9 := by
 unfold few14 at h
 simp only [Bool.and_eq_true, decide_eq_true_eq] at h
 exact h
theorem shortZ_oneD {b1 : Bool} {s1 : ByteArray} (h : shortZ [(b1, s1)] = true) : s1.size ≤ 16 := by
 unfold shortZ at h
 simpa using h
def KIT (w W : World) (M O G H : ByteArray) (mb : Bool) (mt : ByteArray) (A : Option Addr) (n cap : Nat) (s : ByteArray) (k : Int) (l : List ByteArray) : Prop :=
 Bx4 W w.heap.size (.string M) (.string O) (.string G) (.string H) 26 ∧ Bx2 W (w.heap.size + 1) (.bool mb) (.string mt) 28 ∧ TB W (w.heap.size + 1 + 1) A n cap s k ∧ SlN W A n cap l ∧ Below w.heap.size w W
theorem KIT.next {w W W' : World} {M O G H : ByteArray} {mb : Bool} {mt : ByteArray} {A : Option Addr} {n cap : Nat} {s : ByteArray} {k : Int} {l : List ByteArray} (h : KIT w W M O G H mb mt A n cap s k l) (hb : Below W.heap.size W W') : KIT w W' M O G H mb mt A n cap s k l :=
 ⟨h.1.next hb, h.2.1.next hb, h.2.2.1.nextT hb, h.2.2.2.1.kept hb (Nat.le_refl _), h.2.2.2.2.trans (hb.mono h.2.2.2.2.size)⟩
theorem KIT.new (w : World) (M O G H : ByteArray) (mb : Bool) (mt : ByteArray) (A : Option Addr) (n cap : Nat) (s : ByteArray) (k : Int) (l : List ByteArray) (hs : SlN w A n cap l) :
 KIT w (((w.alloc (.cells #[.string M, .string O, .string G, .string H] 26)).alloc (.cells #[.bool mb, .string mt] 28)).alloc (.cells #[.slice A n cap, .string s, .int .i64 k] 31)) M O G H mb mt A n cap s k l := by
 obtain ⟨w1, h1⟩ : ∃ W, w.alloc (.cells #[.string M, .string O, .string G, .string H] 26) = W := ⟨_, rfl⟩
 have b1 : Below w.heap.size w w1 := h1 ▸ (Below.refl _ _).alloc (Nat.le_refl _) _
 have x1 : Bx4 w1 w.heap.size (.string M) (.string O) (.string G) (.string H) 26 := h1 ▸ Bx4.new _ _ _ _ _ _
 have s1 : w1.heap.size = w.heap.size + 1 := by rw [← h1]; simp
 rw [h1]
 obtain ⟨w2, h2⟩ : ∃ W, w1.alloc (.cells #[.bool mb, .string mt] 28) = W := ⟨_, rfl⟩
 have b2 : Below w1.heap.size w1 w2 := h2 ▸ (Below.refl _ _).alloc (Nat.le_refl _) _
 have x2 : Bx2 w2 w1.heap.size (.bool mb) (.string mt) 28 := h2 ▸ Bx2.new _ _ _ _
 have s2 : w2.heap.size = w.heap.size + 1 + 1 := by rw [← h2]; simp [s1]
 rw [h2]
 obtain ⟨w3, h3⟩ : ∃ W, w2.alloc (.cells #[.slice A n cap, .string s, .int .i64 k] 31) = W := ⟨_, rfl⟩
 have b3 : Below w2.heap.size w2 w3 := h3 ▸ (Below.refl _ _).alloc (Nat.le_refl _) _
 have x3 : TB w3 w2.heap.size A n cap s k := h3 ▸ TB.new _ _ _ _ _ _
 rw [h3]
 rw [s1] at x2
 rw [s2] at x3
 have bb := (b1.trans (b2.mono b1.size)).trans (b3.mono (by rw [s2]; omega))
 exact ⟨(x1.next b2).next b3, x2.next b3, x3, hs.kept bb (Nat.le_refl _), bb⟩
def OT (W : World) (P : Nat) (vb : Bool) (vt : ByteArray) (rb : Bool) (rt : ByteArray) (A : Option Addr) (m n : Nat) (ts : ByteArray) (tk : Int) (tl : List ByteArray) : Prop :=
 Bx4 W P (.bool vb) (.string vt) (.bool rb) (.string rt) 37 ∧ TB W (P + 1) A m n ts tk ∧ SlN W A m n tl
theorem OT.next {W W' : World} {P : Nat} {vb : Bool} {vt : ByteArray} {rb : Bool} {rt : ByteArray} {A : Option Addr} {m n : Nat} {ts : ByteArray} {tk : Int} {tl : List ByteArray} (h : OT W P vb vt rb rt A m n ts tk tl) (hb : Below W.heap.size W W') : OT W' P vb vt rb rt A m n ts tk tl :=
 ⟨h.1.next hb, h.2.1.nextT hb, h.2.2.kept hb (Nat.le_refl _)⟩
theorem OT.new (w : World) (vb : Bool) (vt : ByteArray) (rb : Bool) (rt : ByteArray) (A : Option Addr) (m n : Nat) (ts : ByteArray) (tk : Int) (tl : List ByteArray) (hs : SlN w A m n tl) :
 OT ((w.alloc (.cells #[.bool vb, .string vt, .bool rb, .string rt] 37)).alloc (.cells #[.slice A m n, .string ts, .int .i64 tk] 31)) w.heap.size vb vt rb rt A m n ts tk tl ∧ Below w.heap.size w ((w.alloc (.cells #[.bool vb, .string vt, .bool rb, .string rt] 37)).alloc (.cells #[.slice A m n, .string ts, .int .i64 tk] 31)) := by
 have hb1 := ((Below.refl w.heap.size w).alloc (Nat.le_refl _) (.cells #[.bool vb, .string vt, .bool rb, .string rt] 37)).alloc (by simp) (.cells #[.slice A m n, .string ts, .int .i64 tk] 31)
 have ht2 := TB.new (w.alloc (.cells #[.bool vb, .string vt, .bool rb, .string rt] 37)) A m n ts tk
 rw [World.size_alloc] at ht2
 exact ⟨⟨(Bx4.new _ _ _ _ _ _).next ((Below.refl _ _).alloc (Nat.le_refl _) _), ht2, hs.kept hb1 (Nat.le_refl _)⟩, hb1⟩
theorem walk_draws (M O G H : ByteArray) (mb : Bool) (mt : ByteArray) (l : List ByteArray) (s : ByteArray) (k : Int) (A : Option Addr) (n cap : Nat) (w : World) (hs : SlN w A n cap l) (ht : T10 w) : Calls Tryz.prog 3 #[kV M O G H, zV mb mt, tpV A n cap s k] w (Ret (.bool true) w) := by
 have HLN := Hq hs.1
 have hx0 := KIT.new w M O G H mb mt A n cap s k l hs
 obtain ⟨W0, hW0⟩ : ∃ W, ((w.alloc (.cells #[.string M, .string O, .string G, .string H] 26)).alloc (.cells #[.bool mb, .string mt] 28)).alloc (.cells #[.slice A n cap, .string s, .int .i64 k] 31) = W := ⟨_, rfl⟩
 rw [hW0] at hx0
 have HX0 := Hq hx0
 have HFW := Hq (law14_Few M O G H)
 have HSH := Hq (fun (A : Option Addr) (w : World) (hz : SlZ w A 1 1 [(mb, mt)]) => law14_short [(mb, mt)] A 1 1 (by omega) w hz)
 have HFT := Hq (fun W hs => law06_Few l s k A n cap W hs)
 have HAW := Hq law14_awake
 obtain ⟨g0, g1, g2, g3⟩ := HX0.out.1.cells
 have i0 := HX0.out.2.1.c0
 have i1 := HX0.out.2.1.c1
 obtain ⟨c0, c1, c2⟩ := HX0.out.2.2.1.c
 clear hx0 hs
 unfold tpV kV zV at *
 cases hf : few14 M O G H with
 | false =>
  rw [hf] at HFW
  clear hf ht
  go_enter Tryz.func3, Tryz.ntmps3
  go_wp2_with fail
  try rw [hW0]
  clear hW0
  refine (HFW.out _).mono ?_
  rintro ev w1 ⟨rfl, hb⟩
  have HX1 := Hq (HX0.out.next hb)
  clear hb g0 g1 g2 g3 i0 i1 c0 c1 c2
  obtain ⟨g0, g1, g2, g3⟩ := HX1.out.1.cells
  have i0 := HX1.out.2.1.c0
  have i1 := HX1.out.2.1.c1
  obtain ⟨c0, c1, c2⟩ := HX1.out.2.2.1.c
  go_wp2_with fail
  refine (HAW.out _).mono ?_
  rintro ev w9 ⟨rfl, hb⟩
  have HB9 := Hq (HX1.out.2.2.2.2.trans (hb.mono HX1.out.2.2.2.2.size))
  clear hb
  go_wp2
  go_ret
  exact ⟨rfl, HB9.out⟩
 | true =>
  rw [hf] at HFW
  cases hz : shortZ [(mb, mt)] with
  | false =>
   rw [hz] at HSH
   clear hf hz ht
   go_enter Tryz.func3, Tryz.ntmps3
   go_wp2_with fail
   try rw [hW0]
   clear hW0
   refine (HFW.out _).mono ?_
   rintro ev w1 ⟨rfl, hb⟩
   have HX1 := Hq (HX0.out.next hb)
   clear hb g0 g1 g2 g3 i0 i1 c0 c1 c2
   obtain ⟨g0, g1, g2, g3⟩ := HX1.out.1.cells
   have i0 := HX1.out.2.1.c0
   have i1 := HX1.out.2.1.c1
   obtain ⟨c0, c1, c2⟩ := HX1.out.2.2.1.c
   have hb := (Below.refl w1.heap.size w1).alloc (Nat.le_refl _) (.cells #[.bool mb, .string mt] 28)
   have hsh := HSH.out _ _ (slz_alloc1 w1 mb mt 28)
   obtain ⟨W2, hW2⟩ : ∃ W, w1.alloc (.cells #[.bool mb, .string mt] 28) = W := ⟨_, rfl⟩
   rw [hW2] at hb hsh
   have HSW := Hq hsh
   clear hsh
   have HX2 := Hq (HX1.out.next hb)
   clear hb
   go_wp2_with fail
   try rw [hW2]
   clear hW2
   refine HSW.out.mono ?_
   rintro ev w3 ⟨rfl, hb⟩
   have HX3 := Hq (HX2.out.next hb)
   clear hb g0 g1 g2 g3 i0 i1 c0 c1 c2
   obtain ⟨g0, g1, g2, g3⟩ := HX3.out.1.cells
   have i0 := HX3.out.2.1.c0
   have i1 := HX3.out.2.1.c1
   obtain ⟨c0, c1, c2⟩ := HX3.out.2.2.1.c
   go_wp2_with fail
   refine (HAW.out _).mono ?_
   rintro ev w9 ⟨rfl, hb⟩
   have HB9 := Hq (HX3.out.2.2.2.2.trans (hb.mono HX3.out.2.2.2.2.size))
   clear hb
   go_wp2
   go_ret
   exact ⟨rfl, HB9.out⟩
  | true =>
   rw [hz] at HSH
   cases hf2 : few06 l s with
   | false =>
    rw [hf2] at HFT
    clear hf hz hf2 ht
    go_enter Tryz.func3, Tryz.ntmps3
    go_wp2_with fail
    try rw [hW0]
    clear hW0
    refine (HFW.out _).mono ?_
    rintro ev w1 ⟨rfl, hb⟩
    have HX1 := Hq (HX0.out.next hb)
    clear hb g0 g1 g2 g3 i0 i1 c0 c1 c2
    obtain ⟨g0, g1, g2, g3⟩ := HX1.out.1.cells
    have i0 := HX1.out.2.1.c0
    have i1 := HX1.out.2.1.c1
    obtain ⟨c0, c1, c2⟩ := HX1.out.2.2.1.c
    have hb := (Below.refl w1.heap.size w1).alloc (Nat.le_refl _) (.cells #[.bool mb, .string mt] 28)
    have hsh := HSH.out _ _ (slz_alloc1 w1 mb mt 28)
    obtain ⟨W2, hW2⟩ : ∃ W, w1.alloc (.cells #[.bool mb, .string mt] 28) = W := ⟨_, rfl⟩
    rw [hW2] at hb hsh
    have HSW := Hq hsh
    clear hsh
    have HX2 := Hq (HX1.out.next hb)
    clear hb
    go_wp2_with fail
    try rw [hW2]
    clear hW2
    refine HSW.out.mono ?_
    rintro ev w3 ⟨rfl, hb⟩
    have HX3 := Hq (HX2.out.next hb)
    clear hb g0 g1 g2 g3 i0 i1 c0 c1 c2
    obtain ⟨g0, g1, g2, g3⟩ := HX3.out.1.cells
    have i0 := HX3.out.2.1.c0
    have i1 := HX3.out.2.1.c1
    obtain ⟨c0, c1, c2⟩ := HX3.out.2.2.1.c
    have HFU := Hq (HFT.out _ HX3.out.2.2.2.1)
    go_wp2_with fail
    refine HFU.out.mono ?_
    rintro ev w4 ⟨rfl, hb⟩
    have HX4 := Hq (HX3.out.next hb)
    clear hb g0 g1 g2 g3 i0 i1 c0 c1 c2
    obtain ⟨g0, g1, g2, g3⟩ := HX4.out.1.cells
    have i0 := HX4.out.2.1.c0
    have i1 := HX4.out.2.1.c1
    obtain ⟨c0, c1, c2⟩ := HX4.out.2.2.1.c
    go_wp2_with fail
    refine (HAW.out _).mono ?_
    rintro ev w9 ⟨rfl, hb⟩
    have HB9 := Hq (HX4.out.2.2.2.2.trans (hb.mono HX4.out.2.2.2.2.size))
    clear hb
    go_wp2
    go_ret
    exact ⟨rfl, HB9.out⟩
   | true =>
    rw [hf2] at HFT
    obtain ⟨hM, hO, hG, hH⟩ := few14_ofD hf
    have hmt := shortZ_oneD hz
    unfold few06 at hf2
    obtain ⟨hl40, hs100, hz140⟩ := fewT_of hf2
    have hn : n ≤ 1000 := by have := HLN.out; omega
    have hp : ∀ x ∈ l, x.size ≤ 9223372036854775807 := fun x hx => by have := hz140 x hx; omega
    have HM1 := Hq (fun W (hb : Below w.heap.size w W) hs => pk_Random M O G H mb mt l s k A n cap hM hO (by omega) (by omega) (by omega) hn hp (by omega) W hs (ht.kept hb (Nat.le_refl _)))
    have HM2 := Hq (fun W hs => r14_Random M O G H mb mt l s k A n cap hM hO (by omega) (by omega) (by omega) hn hp (by omega) W hs)
    obtain ⟨r, hr⟩ : ∃ r, rnN M O G H mb mt l s k = r := ⟨_, rfl⟩
    rw [hr] at HM1 HM2
    obtain ⟨c, z, x, e⟩ := r
    simp only [] at HM1 HM2
    obtain ⟨cs, hcs⟩ : ∃ t, nS c = t := ⟨_, rfl⟩
    obtain ⟨vb, vt, rb, rt, har⟩ : ∃ vb vt rb rt, arV z (x : Int) = .agg #[.bool vb, .string vt, .bool rb, .string rt] := ⟨_, _, _, _, rfl⟩
    obtain ⟨t, htp⟩ : ∃ t, tpN e l s k = t := ⟨_, rfl⟩
    obtain ⟨tl, ts, tk⟩ := t
    rw [htp] at HM1 HM2
    obtain ⟨m, hm⟩ : ∃ m, tl.length = m := ⟨_, rfl⟩
    unfold RetRn at HM1 HM2
    simp only [] at HM1 HM2
    rw [hm, hcs, har] at HM1 HM2
    unfold tpV kV zV at HM1 HM2
    clear hr hf hz hf2 hM hO hG hH hmt hl40 hs100 hz140 hn hp htp hm ht hcs har
    go_enter Tryz.func3, Tryz.ntmps3
    go_wp2_with fail
    try rw [hW0]
    clear hW0
    refine (HFW.out _).mono ?_
    rintro ev w1 ⟨rfl, hb⟩
    have HX1 := Hq (HX0.out.next hb)
    clear hb g0 g1 g2 g3 i0 i1 c0 c1 c2
    obtain ⟨g0, g1, g2, g3⟩ := HX1.out.1.cells
    have i0 := HX1.out.2.1.c0
    have i1 := HX1.out.2.1.c1
    obtain ⟨c0, c1, c2⟩ := HX1.out.2.2.1.c
    have hb := (Below.refl w1.heap.size w1).alloc (Nat.le_refl _) (.cells #[.bool mb, .string mt] 28)
    have hsh := HSH.out _ _ (slz_alloc1 w1 mb mt 28)
    obtain ⟨W2, hW2⟩ : ∃ W, w1.alloc (.cells #[.bool mb, .string mt] 28) = W := ⟨_, rfl⟩
    rw [hW2] at hb hsh
    have HSW := Hq hsh
    clear hsh
    have HX2 := Hq (HX1.out.next hb)
    clear hb
    go_wp2_with fail
    try rw [hW2]
    clear hW2
    refine HSW.out.mono ?_
    rintro ev w3 ⟨rfl, hb⟩
    have HX3 := Hq (HX2.out.next hb)
    clear hb g0 g1 g2 g3 i0 i1 c0 c1 c2
    obtain ⟨g0, g1, g2, g3⟩ := HX3.out.1.cells
    have i0 := HX3.out.2.1.c0
    have i1 := HX3.out.2.1.c1
    obtain ⟨c0, c1, c2⟩ := HX3.out.2.2.1.c
    have HFU := Hq (HFT.out _ HX3.out.2.2.2.1)
    go_wp2_with fail
    refine HFU.out.mono ?_
    rintro ev w4 ⟨rfl, hb⟩
    have HX4 := Hq (HX3.out.next hb)
    clear hb g0 g1 g2 g3 i0 i1 c0 c1 c2
    obtain ⟨g0, g1, g2, g3⟩ := HX4.out.1.cells
    have i0 := HX4.out.2.1.c0
    have i1 := HX4.out.2.1.c1
    obtain ⟨c0, c1, c2⟩ := HX4.out.2.2.1.c
    have HMA := Hq (HM1.out _ HX4.out.2.2.2.2 HX4.out.2.2.2.1)
    go_wp2_with fail
    refine HMA.out.mono ?_
    rintro ev w5 ⟨A1, c1', rfl, hsl1, _, hb⟩
    have HSL1 := Hq hsl1
    have HX5 := Hq (HX4.out.next hb)
    clear hb g0 g1 g2 g3 i0 i1 c0 c1 c2 hsl1
    go_upto_region 4 with (fail)
    obtain ⟨hkt, hb⟩ := OT.new w5 vb vt rb rt A1 m c1' ts tk tl HSL1.out
    obtain ⟨W6, hW6⟩ : ∃ W, (w5.alloc (.cells #[.bool vb, .string vt, .bool rb, .string rt] 37)).alloc (.cells #[.slice A1 m c1', .string ts, .int .i64 tk] 31) = W := ⟨_, rfl⟩
    obtain ⟨P6, hP6⟩ : ∃ P, w5.heap.size = P := ⟨_, rfl⟩
    rw [hW6] at hkt hb ⊢
    rw [hP6] at hkt ⊢
    have HK6 := Hq hkt
    have HX6 := Hq (HX5.out.next hb)
    clear hkt hb hW6 hP6
    obtain ⟨g0, g1, g2, g3⟩ := HX6.out.1.cells
    have i0 := HX6.out.2.1.c0
    have i1 := HX6.out.2.1.c1
    obtain ⟨c0, c1, c2⟩ := HX6.out.2.2.1.c
    have HMB := Hq (HM2.out _ HX6.out.2.2.2.1)
    go_wp2_with fail
    refine HMB.out.mono ?_
    rintro ev w7 ⟨A2, c2', rfl, hsl2, _, hb⟩
    have HSL2 := Hq hsl2
    have HX7 := Hq (HX6.out.next hb)
    have HK7 := Hq (HK6.out.next hb)
    clear hb g0 g1 g2 g3 i0 i1 c0 c1 c2 hsl2
    go_upto_region 5 with (fail)
    obtain ⟨hkt, hb⟩ := OT.new w7 vb vt rb rt A2 m c2' ts tk tl HSL2.out
    obtain ⟨W8, hW8⟩ : ∃ W, (w7.alloc (.cells #[.bool vb, .string vt, .bool rb, .string rt] 37)).alloc (.cells #[.slice A2 m c2', .string ts, .int .i64 tk] 31) = W := ⟨_, rfl⟩
    obtain ⟨P8, hP8⟩ : ∃ P, w7.heap.size = P := ⟨_, rfl⟩
    rw [hW8] at hkt hb ⊢
    rw [hP8] at hkt ⊢
    have HK8 := Hq hkt
    have HX8 := Hq (HX7.out.next hb)
    have HK78 := Hq (HK7.out.next hb)
    clear hkt hb hW8 hP8
    go_wp2_with fail
    refine (HAW.out _).mono ?_
    rintro ev w9 ⟨rfl, hb⟩
    have HX9 := Hq (HX8.out.next hb)
    have HK9 := Hq (HK8.out.next hb)
    have HK79 := Hq (HK78.out.next hb)
    clear hb
    have HST := Hq (r06_Same tl ts tk A1 A2 m c1' m c2' _ HK79.out.2.2 HK9.out.2.2)
    obtain ⟨k0, k1, k2, k3⟩ := HK79.out.1.cells
    obtain ⟨l0, l1, l2, l3⟩ := HK9.out.1.cells
    obtain ⟨t0, t1, t2⟩ := HK79.out.2.1.c
    obtain ⟨s0, s1, s2⟩ := HK9.out.2.1.c
    unfold tpV at HST
    go_wp2_with fail
    refine HST.out.mono ?_
    rintro ev w10 ⟨rfl, hb⟩
    have HB9 := Hq (HX9.out.2.2.2.2.trans (hb.mono HX9.out.2.2.2.2.size))
    clear hb k0 k1 k2 k3 l0 l1 l2 l3 t0 t1 t2 s0 s1 s2
    go_wp2
    go_ret
    exact ⟨rfl, HB9.out⟩
end Go.Proofs.YtndmjfkmnjejkaaGreatDoor

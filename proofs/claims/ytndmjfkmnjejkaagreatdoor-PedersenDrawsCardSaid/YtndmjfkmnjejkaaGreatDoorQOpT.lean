import Derived.Test.YtndmjfkmnjejkaaGreatDoorQPeO
import Derived.ProofKit
import Derived.OpenShut
import Derived.ShutString
import Derived.ChangeOld
import Derived.Below
import Derived.Carry
import Derived.Deep.Slices
import Derived.Deep.Fields
import Derived.ChangeSame
import Derived.Lib.SmallJoins
import Derived.Test.YtndmjfkmnjejkaaGreatDoorChecked
import Derived.Test.YtndmjfkmnjejkaaGreatDoorRows
import Derived.LaidMore
import Derived.Stop.Joined
import Derived.Test.YtndmjfkmnjejkaaGreatDoorQRowN
import Derived.Test.YtndmjfkmnjejkaaGreatDoorQShelf
import Derived.Lib.LaidTab
import Derived.Stop.LaidErr
import Derived.MakeChecks
set_option linter.unusedVariables false
set_option linter.unusedSimpArgs false
namespace Go.Proofs.YtndmjfkmnjejkaaGreatDoor
set_option maxRecDepth 100000
set_option maxHeartbeats 1000000
open Go.RowKit
def kV (M O G H : ByteArray) : Value := .agg #[.string M, .string O, .string G, .string H]
def oV (vb : Bool) (vt : ByteArray) (rb : Bool) (rt : ByteArray) : Value := .agg #[.bool vb, .string vt, .bool rb, .string rt]
def kF (M O G H : ByteArray) : Bool := nvalid M && nvalid O && nvalid G && nvalid H
def pkC (M O G H : ByteArray) : Int := if kF M O G H = false then 3 else if chkK M O = 0 then (if (!hasK M O G || !hasK M O H || (G.toList == [1]) || (H.toList == [1]) || (G.toList == H.toList)) = true then 13 else 0) else chkK M O
theorem one_list : (nS 1).toList = [1] := by rw [ByteArray.toList_eq, nS_data]; rfl
theorem pk_formed (M O G H : ByteArray) (hM : M.size ≤ 1000) (hO : O.size ≤ 1000) (hG : G.size ≤ 1000) (hH : H.size ≤ 1000) (w : World) : Calls Tryz.prog 45 #[kV M O G H] w (Ret (.bool (kF M O G H)) w) := by
 have HV1 := Hq (nat_Valid M (by omega))
 have HV2 := Hq (nat_Valid O (by omega))
 have HV3 := Hq (nat_Valid G (by omega))
 have HV4 := Hq (nat_Valid H (by omega))
 unfold kV kF
 clear hM hO hG hH
 cases h1 : nvalid M with
 | false =>
  rw [h1] at HV1
  clear h1
  go_enter Tryz.func45, Tryz.ntmps45
  have hx0 := Bx4.new w (.string M) (.string O) (.string G) (.string H) 26
  have hb0 := (Below.refl w.heap.size w).alloc (Nat.le_refl _) (.cells #[.string M, .string O, .string G, .string H] 26)
  obtain ⟨W0, hW0⟩ : ∃ W, w.alloc (.cells #[.string M, .string O, .string G, .string H] 26) = W := ⟨_, rfl⟩
  rw [hW0] at hx0 hb0
  have HX0 := Hq hx0
  have HB0 := Hq hb0
  obtain ⟨c0, c1, c2, c3⟩ := hx0.cells
  clear hx0 hb0
  go_wp2_with fail
  try rw [hW0]
  clear hW0
  refine (HV1.out _).mono ?_
  rintro ev w1 ⟨rfl, rfl⟩
  go_wp2
  go_ret
  exact ⟨rfl, HB0.out⟩
 | true =>
  rw [h1] at HV1
  clear h1
  cases h2 : nvalid O with
  | false =>
   rw [h2] at HV2
   clear h2
   go_enter Tryz.func45, Tryz.ntmps45
   have hx0 := Bx4.new w (.string M) (.string O) (.string G) (.string H) 26
   have hb0 := (Below.refl w.heap.size w).alloc (Nat.le_refl _) (.cells #[.string M, .string O, .string G, .string H] 26)
   obtain ⟨W0, hW0⟩ : ∃ W, w.alloc (.cells #[.string M, .string O, .string G, .string H] 26) = W := ⟨_, rfl⟩
   rw [hW0] at hx0 hb0
   have HX0 := Hq hx0
   have HB0 := Hq hb0
   obtain ⟨c0, c1, c2, c3⟩ := hx0.cells
   clear hx0 hb0
   go_wp2_with fail
   try rw [hW0]
   clear hW0
   refine (HV1.out _).mono ?_
   rintro ev w1 ⟨rfl, rfl⟩
   go_wp2_with fail
   refine (HV2.out _).mono ?_
   rintro ev w1 ⟨rfl, rfl⟩
   go_wp2
   go_ret
   exact ⟨rfl, HB0.out⟩
  | true =>
   rw [h2] at HV2
   clear h2
   cases h3 : nvalid G with
   | false =>
    rw [h3] at HV3
    clear h3
    go_enter Tryz.func45, Tryz.ntmps45
    have hx0 := Bx4.new w (.string M) (.string O) (.string G) (.string H) 26
    have hb0 := (Below.refl w.heap.size w).alloc (Nat.le_refl _) (.cells #[.string M, .string O, .string G, .string H] 26)
    obtain ⟨W0, hW0⟩ : ∃ W, w.alloc (.cells #[.string M, .string O, .string G, .string H] 26) = W := ⟨_, rfl⟩
    rw [hW0] at hx0 hb0
    have HX0 := Hq hx0
    have HB0 := Hq hb0
    obtain ⟨c0, c1, c2, c3⟩ := hx0.cells
    clear hx0 hb0
    go_wp2_with fail
    try rw [hW0]
    clear hW0
    refine (HV1.out _).mono ?_
    rintro ev w1 ⟨rfl, rfl⟩
    go_wp2_with fail
    refine (HV2.out _).mono ?_
    rintro ev w1 ⟨rfl, rfl⟩
    go_wp2_with fail
    refine (HV3.out _).mono ?_
    rintro ev w1 ⟨rfl, rfl⟩
    go_wp2
    go_ret
    exact ⟨rfl, HB0.out⟩
   | true =>
    rw [h3] at HV3
    clear h3
    obtain ⟨h4, hh4⟩ : ∃ h, nvalid H = h := ⟨_, rfl⟩
    rw [hh4] at HV4 ⊢
    clear hh4
    go_enter Tryz.func45, Tryz.ntmps45
    have hx0 := Bx4.new w (.string M) (.string O) (.string G) (.string H) 26
    have hb0 := (Below.refl w.heap.size w).alloc (Nat.le_refl _) (.cells #[.string M, .string O, .string G, .string H] 26)
    obtain ⟨W0, hW0⟩ : ∃ W, w.alloc (.cells #[.string M, .string O, .string G, .string H] 26) = W := ⟨_, rfl⟩
    rw [hW0] at hx0 hb0
    have HX0 := Hq hx0
    have HB0 := Hq hb0
    obtain ⟨c0, c1, c2, c3⟩ := hx0.cells
    clear hx0 hb0
    go_wp2_with fail
    try rw [hW0]
    clear hW0
    refine (HV1.out _).mono ?_
    rintro ev w1 ⟨rfl, rfl⟩
    go_wp2_with fail
    refine (HV2.out _).mono ?_
    rintro ev w1 ⟨rfl, rfl⟩
    go_wp2_with fail
    refine (HV3.out _).mono ?_
    rintro ev w1 ⟨rfl, rfl⟩
    go_wp2_with fail
    refine (HV4.out _).mono ?_
    rintro ev w1 ⟨rfl, rfl⟩
    go_wp2
    go_ret
    exact ⟨by simp, HB0.out⟩
theorem r14_form (M O G H : ByteArray) (hM : M.size ≤ 1000) (hO : O.size ≤ 1000) (hG : G.size ≤ 1000) (hH : H.size ≤ 1000) (w : World) : Calls Tryz.prog 51 #[kV M O G H] w (Ret (.bool (kF M O G H)) w) := by
 have HV1 := Hq (r01_Valid M (by omega))
 have HV2 := Hq (r01_Valid O (by omega))
 have HV3 := Hq (r01_Valid G (by omega))
 have HV4 := Hq (r01_Valid H (by omega))
 unfold kV kF
 clear hM hO hG hH
 cases h1 : nvalid M with
 | false =>
  rw [h1] at HV1
  clear h1
  go_enter Tryz.func51, Tryz.ntmps51
  have hx0 := Bx4.new w (.string M) (.string O) (.string G) (.string H) 26
  have hb0 := (Below.refl w.heap.size w).alloc (Nat.le_refl _) (.cells #[.string M, .string O, .string G, .string H] 26)
  obtain ⟨W0, hW0⟩ : ∃ W, w.alloc (.cells #[.string M, .string O, .string G, .string H] 26) = W := ⟨_, rfl⟩
  rw [hW0] at hx0 hb0
  have HX0 := Hq hx0
  have HB0 := Hq hb0
  obtain ⟨c0, c1, c2, c3⟩ := hx0.cells
  clear hx0 hb0
  go_wp2_with fail
  try rw [hW0]
  clear hW0
  refine (HV1.out _).mono ?_
  rintro ev w1 ⟨rfl, rfl⟩
  go_wp2
  go_ret
  exact ⟨rfl, HB0.out⟩
 | true =>
  rw [h1] at HV1
  clear h1
  cases h2 : nvalid O with
  | false =>
   rw [h2] at HV2
   clear h2
   go_enter Tryz.func51, Tryz.ntmps51
   have hx0 := Bx4.new w (.string M) (.string O) (.string G) (.string H) 26
   have hb0 := (Below.refl w.heap.size w).alloc (Nat.le_refl _) (.cells #[.string M, .string O, .string G, .string H] 26)
   obtain ⟨W0, hW0⟩ : ∃ W, w.alloc (.cells #[.string M, .string O, .string G, .string H] 26) = W := ⟨_, rfl⟩
   rw [hW0] at hx0 hb0
   have HX0 := Hq hx0
   have HB0 := Hq hb0
   obtain ⟨c0, c1, c2, c3⟩ := hx0.cells
   clear hx0 hb0
   go_wp2_with fail
   try rw [hW0]
   clear hW0
   refine (HV1.out _).mono ?_
   rintro ev w1 ⟨rfl, rfl⟩
   go_wp2_with fail
   refine (HV2.out _).mono ?_
   rintro ev w1 ⟨rfl, rfl⟩
   go_wp2
   go_ret
   exact ⟨rfl, HB0.out⟩
  | true =>
   rw [h2] at HV2
   clear h2
   cases h3 : nvalid G with
   | false =>
    rw [h3] at HV3
    clear h3
    go_enter Tryz.func51, Tryz.ntmps51
    have hx0 := Bx4.new w (.string M) (.string O) (.string G) (.string H) 26
    have hb0 := (Below.refl w.heap.size w).alloc (Nat.le_refl _) (.cells #[.string M, .string O, .string G, .string H] 26)
    obtain ⟨W0, hW0⟩ : ∃ W, w.alloc (.cells #[.string M, .string O, .string G, .string H] 26) = W := ⟨_, rfl⟩
    rw [hW0] at hx0 hb0
    have HX0 := Hq hx0
    have HB0 := Hq hb0
    obtain ⟨c0, c1, c2, c3⟩ := hx0.cells
    clear hx0 hb0
    go_wp2_with fail
    try rw [hW0]
    clear hW0
    refine (HV1.out _).mono ?_
    rintro ev w1 ⟨rfl, rfl⟩
    go_wp2_with fail
    refine (HV2.out _).mono ?_
    rintro ev w1 ⟨rfl, rfl⟩
    go_wp2_with fail
    refine (HV3.out _).mono ?_
    rintro ev w1 ⟨rfl, rfl⟩
    go_wp2
    go_ret
    exact ⟨rfl, HB0.out⟩
   | true =>
    rw [h3] at HV3
    clear h3
    obtain ⟨h4, hh4⟩ : ∃ h, nvalid H = h := ⟨_, rfl⟩
    rw [hh4] at HV4 ⊢
    clear hh4
    go_enter Tryz.func51, Tryz.ntmps51
    have hx0 := Bx4.new w (.string M) (.string O) (.string G) (.string H) 26
    have hb0 := (Below.refl w.heap.size w).alloc (Nat.le_refl _) (.cells #[.string M, .string O, .string G, .string H] 26)
    obtain ⟨W0, hW0⟩ : ∃ W, w.alloc (.cells #[.string M, .string O, .string G, .string H] 26) = W := ⟨_, rfl⟩
    rw [hW0] at hx0 hb0
    have HX0 := Hq hx0
    have HB0 := Hq hb0
    obtain ⟨c0, c1, c2, c3⟩ := hx0.cells
    clear hx0 hb0
    go_wp2_with fail
    try rw [hW0]
    clear hW0
    refine (HV1.out _).mono ?_
    rintro ev w1 ⟨rfl, rfl⟩
    go_wp2_with fail
    refine (HV2.out _).mono ?_
    rintro ev w1 ⟨rfl, rfl⟩
    go_wp2_with fail
    refine (HV3.out _).mono ?_
    rintro ev w1 ⟨rfl, rfl⟩
    go_wp2_with fail
    refine (HV4.out _).mono ?_
    rintro ev w1 ⟨rfl, rfl⟩
    go_wp2
    go_ret
    exact ⟨by simp, HB0.out⟩
theorem pk_valid (vb : Bool) (vt : ByteArray) (rb : Bool) (rt : ByteArray) (hv : vt.size ≤ 1000) (hr : rt.size ≤ 1000) (w : World) : Calls Tryz.prog 92 #[oV vb vt rb rt] w (Ret (.bool (zvalid vb vt && zvalid rb rt)) w) := by
 have HV1 := Hq (int_Valid vb vt (by omega))
 have HV2 := Hq (int_Valid rb rt (by omega))
 unfold oV
 unfold zV at *
 have HX0 := Hq (Bx4.new w (.bool vb) (.string vt) (.bool rb) (.string rt) 37)
 have HB0 := Hq ((Below.refl w.heap.size w).alloc (Nat.le_refl _) (.cells #[.bool vb, .string vt, .bool rb, .string rt] 37))
 clear hv hr
 cases h1 : zvalid vb vt with
 | false =>
  rw [h1] at HV1
  clear h1
  go_enter Tryz.func92, Tryz.ntmps92
  go_wp2_with fail
  refine (HV1.out _).mono ?_
  rintro ev w1 ⟨rfl, hb⟩
  have HB1 := Hq (HB0.out.trans (hb.mono HB0.out.size))
  clear hb
  go_wp2
  go_ret
  exact ⟨rfl, HB1.out⟩
 | true =>
  rw [h1] at HV1
  clear h1
  go_enter Tryz.func92, Tryz.ntmps92
  go_wp2_with fail
  refine (HV1.out _).mono ?_
  rintro ev w1 ⟨rfl, hb⟩
  have HB1 := Hq (HB0.out.trans (hb.mono HB0.out.size))
  obtain ⟨c0, c1, c2, c3⟩ := (HX0.out.next hb).cells
  clear hb
  go_wp2_with fail
  refine (HV2.out _).mono ?_
  rintro ev w2 ⟨rfl, hb⟩
  have HB2 := Hq (HB1.out.trans (hb.mono HB1.out.size))
  clear hb
  go_wp2
  go_ret
  exact ⟨by rw [Bool.true_and]; rfl, HB2.out⟩
theorem r14_valid (vb : Bool) (vt : ByteArray) (rb : Bool) (rt : ByteArray) (hv : vt.size ≤ 1000) (hr : rt.size ≤ 1000) (w : World) : Calls Tryz.prog 105 #[oV vb vt rb rt] w (Ret (.bool (zvalid vb vt && zvalid rb rt)) w) := by
 have HV1 := Hq (r02_Valid vb vt (by omega))
 have HV2 := Hq (r02_Valid rb rt (by omega))
 unfold oV
 unfold zV at *
 have HX0 := Hq (Bx4.new w (.bool vb) (.string vt) (.bool rb) (.string rt) 37)
 have HB0 := Hq ((Below.refl w.heap.size w).alloc (Nat.le_refl _) (.cells #[.bool vb, .string vt, .bool rb, .string rt] 37))
 clear hv hr
 cases h1 : zvalid vb vt with
 | false =>
  rw [h1] at HV1
  clear h1
  go_enter Tryz.func105, Tryz.ntmps105
  go_wp2_with fail
  refine (HV1.out _).mono ?_
  rintro ev w1 ⟨rfl, hb⟩
  have HB1 := Hq (HB0.out.trans (hb.mono HB0.out.size))
  clear hb
  go_wp2
  go_ret
  exact ⟨rfl, HB1.out⟩
 | true =>
  rw [h1] at HV1
  clear h1
  go_enter Tryz.func105, Tryz.ntmps105
  go_wp2_with fail
  refine (HV1.out _).mono ?_
  rintro ev w1 ⟨rfl, hb⟩
  have HB1 := Hq (HB0.out.trans (hb.mono HB0.out.size))
  obtain ⟨c0, c1, c2, c3⟩ := (HX0.out.next hb).cells
  clear hb
  go_wp2_with fail
  refine (HV2.out _).mono ?_
  rintro ev w2 ⟨rfl, hb⟩
  have HB2 := Hq (HB1.out.trans (hb.mono HB1.out.size))
  clear hb
  go_wp2
  go_ret
  exact ⟨by rw [Bool.true_and]; rfl, HB2.out⟩
end Go.Proofs.YtndmjfkmnjejkaaGreatDoor
namespace Go.Proofs.YtndmjfkmnjejkaaGreatDoor
set_option maxRecDepth 100000
open Go.ChangeShapes Go.WideShapes Go.ChangeAt Go.Deep Go.Joins Go.RowKit
open Go.ChangeMaps (open_string shut_string)
theorem ownQ : ownKnob Tryz.prog.godebug = none := by kernel_rfl
theorem laidOutQ : laidOutB Tryz.prog = true := by kernel_rfl
section
variable {H : Type} {enc : TypeId × Value → H} {W : World} {sp : Nat → Bool} {held : Bool}
theorem trod_at {P : Program} {w : World} {base : Nat} {spare : Nat → Bool} {fuel : Nat} {t : TypeId} {cs : List Value} {x : DataW H × List MemPlace} {fs : Array Field} (ht : P.underlying t = some (.struct fs)) (h : DataW.trod enc P w base spare held fuel t cs = some x) (i : Nat) (f : Field) (hf : fs[i]? = some f) (k : Nat) (hk : P.cellsOf f.type = k) :
 ∃ n y, DataW.trod enc P w base spare held n f.type ((cs.drop f.offset).take k) = some y := by
 obtain ⟨xs, n, _, _, _, hl, hx⟩ := DataW.trod_struct ht h
 have h1 := hx i f hf
 have hi : i < xs.length := by rw [hl]; exact (Array.getElem?_eq_some_iff.1 hf).1
 rw [hk, List.getElem?_eq_getElem hi] at h1
 exact ⟨n, _, h1⟩
theorem open_key {r : Reach} {b0 : Nat} {v : Value} {d : DataW H} {p : List MemPlace} (hv : Value.okWide Tryz.prog W r b0 26 v) (h : DataW.Trod enc Tryz.prog W 0 (fun _ => true) held 26 v d p) : ∃ M O G K : ByteArray, v = kV M O G K := by
 obtain ⟨cs, rfl, hsz⟩ := okWide_struct Tryz.underlying26 hv
 obtain ⟨c0, c1, c2, c3, rfl⟩ := array4 (hsz.trans (show Tryz.prog.cellsOf 26 = 4 from by kernel_rfl))
 obtain ⟨fuel, hf⟩ := h
 have hf : DataW.trod enc Tryz.prog W 0 (fun _ => true) held fuel 26 [c0, c1, c2, c3] = some (d, p) := hf
 obtain ⟨n1, y1, g1⟩ := trod_at Tryz.underlying26 hf 0 _ rfl 2 (by kernel_rfl)
 have g1 : DataW.trod enc Tryz.prog W 0 (fun _ => true) held n1 24 [c0, c1] = some y1 := g1
 obtain ⟨n2, y2, g2⟩ := trod_at Tryz.underlying26 hf 1 _ rfl 1 (by kernel_rfl)
 have g2 : DataW.trod enc Tryz.prog W 0 (fun _ => true) held n2 22 [c2] = some y2 := g2
 obtain ⟨n3, y3, g3⟩ := trod_at Tryz.underlying26 hf 2 _ rfl 1 (by kernel_rfl)
 have g3 : DataW.trod enc Tryz.prog W 0 (fun _ => true) held n3 22 [c3] = some y3 := g3
 obtain ⟨n4, y4, g4⟩ := trod_at Tryz.underlying24 g1 0 _ rfl 1 (by kernel_rfl)
 have g4 : DataW.trod enc Tryz.prog W 0 (fun _ => true) held n4 22 [c0] = some y4 := g4
 obtain ⟨n5, y5, g5⟩ := trod_at Tryz.underlying24 g1 1 _ rfl 1 (by kernel_rfl)
 have g5 : DataW.trod enc Tryz.prog W 0 (fun _ => true) held n5 22 [c1] = some y5 := g5
 obtain ⟨s0, e0, _⟩ := DataW.trod_string Tryz.underlying22 g4
 obtain ⟨s1, e1, _⟩ := DataW.trod_string Tryz.underlying22 g5
 obtain ⟨s2, e2, _⟩ := DataW.trod_string Tryz.underlying22 g2
 obtain ⟨s3, e3, _⟩ := DataW.trod_string Tryz.underlying22 g3
 simp only [List.cons.injEq, and_true] at e0 e1 e2 e3
 subst e0 e1 e2 e3
 exact ⟨s0, s1, s2, s3, rfl⟩
end
end Go.Proofs.YtndmjfkmnjejkaaGreatDoor
namespace Go.Proofs.YtndmjfkmnjejkaaGreatDoor
open Go.RowKit Go.Lib
def T10 (w : World) : Prop := Lib.TabIs Tryz.prog w "internal/strconv.uint64pow10" .u64 Lib.pow10Tab
theorem T10.kept {B : Nat} {w w' : World} (h : T10 w) (hb : Below B w w') (hB : w.heap.size ≤ B) : T10 w' := by
 unfold T10 Lib.TabIs World.var? at *
 cases hg : Tryz.prog.globalNamed "internal/strconv.uint64pow10" with
 | none => rw [hg] at h; cases h
 | some g =>
  rw [hg] at h
  simp only [Option.bind_some] at h ⊢
  have hlt : g < w.heap.size := by
   rcases Nat.lt_or_ge g w.heap.size with a | a
   · exact a
   · rw [Array.getElem?_eq_none a] at h; cases h
  rw [hb.block g (Nat.lt_of_lt_of_le hlt hB)]
  exact h
theorem T10.next {w w' : World} (h : T10 w) (hb : Below w.heap.size w w') : T10 w' := h.kept hb (Nat.le_refl _)
theorem below_grown (w : World) (k : Nat) (os : Array Obj) : Below w.heap.size w (Go.Sort.grow (w.drewN k) os) :=
 ⟨rfl, rfl, rfl, by show w.heap.size ≤ (w.heap ++ os).size; rw [Array.size_append]; omega, fun j hj => by show (w.heap ++ os)[j]? = w.heap[j]?; rw [Array.getElem?_append_left hj]⟩
theorem itoa_digits (n : Nat) : Lib.itoa (n : Int) = Lib.decDigits n := by
 unfold Lib.itoa
 rw [if_neg (by omega), Int.toNat_natCast]
theorem sc_Itoa (n : Nat) (hn : n < 9223372036854775808) (w : World) (ht : T10 w) : Calls Tryz.prog 221 #[.int .i64 n] w (Ret (.string (bstr (Lib.decDigits n))) w) := by
 refine (Tryz.strconv_Itoa (n : Int) (by omega) (by omega) w ht).mono ?_
 rintro e w' ⟨rfl, k, os, rfl⟩
 rw [itoa_digits]
 exact ⟨rfl, below_grown w k os⟩
end Go.Proofs.YtndmjfkmnjejkaaGreatDoor
namespace Go.Proofs.YtndmjfkmnjejkaaGreatDoor
open Go.ChangeShapes Go.WideShapes Go.ChangeAt Go.Deep Go.Joins Go.RowKit
open Go.ChangeMaps (open_string shut_string)
theorem list_ofC {α : Type} {Q : Nat → α → Prop} : ∀ (n : Nat), (∀ i, i < n → ∃ e, Q i e) → ∃ l : List α, l.length = n ∧ ∀ k e, l[k]? = some e → Q k e
 | 0, _ => ⟨[], rfl, fun k e h => by simp at h⟩
 | n + 1, h => by
  obtain ⟨l, hl, hq⟩ := list_ofC n (fun i hi => h i (by omega))
  obtain ⟨e, he⟩ := h n (by omega)
  refine ⟨l ++ [e], by simp [hl], fun k e' hk => ?_⟩
  by_cases hkn : k < l.length
  · rw [List.getElem?_append_left hkn] at hk; exact hq k e' hk
  · rw [List.getElem?_append_right (by omega)] at hk
    have h0 : k - l.length = 0 := by
     rcases Nat.eq_zero_or_pos (k - l.length) with h0 | h0
     · exact h0
     · rw [List.getElem?_eq_none (by simp; omega)] at hk; cases hk
    rw [h0] at hk
    simp only [List.getElem?_cons_zero, Option.some.injEq] at hk
    subst hk
    rw [show k = n from by omega]
    exact he
section
variable {H : Type} {enc : TypeId × Value → H} {W : World} {sp : Nat → Bool} {held : Bool}
theorem open_natsC {fuel : Nat} {cs : List Value} {x : DataW H × List MemPlace} (h : DataW.trod enc Tryz.prog W 0 (fun _ => true) held fuel 29 cs = some x) : ∃ A n c l, cs = [.slice A n c] ∧ SlN W A n c l ∧ ∀ s ∈ l, s.size ≤ maxLen := by
 rcases open_slice Tryz.underlying29 h with ⟨rfl, _⟩ | ⟨ad, len, cap, m, n, D, Pl, rfl, hb, hl, hm, hmm, hx, hi⟩
 · exact ⟨none, 0, 0, [], rfl, ⟨rfl, Nat.le_refl _, Nat.zero_le _, 0, 0, fun h => absurd h (Nat.lt_irrefl _), fun k s h => by simp at h⟩, fun s h => by cases h⟩
 · have hC : Tryz.prog.cellsOf 22 = 1 := by kernel_rfl
   have hq : ∀ i, i < len → ∃ s : ByteArray, W.cell? (ad.add i) = some (.string s) ∧ s.size ≤ maxLen := fun i hi' => by
    obtain ⟨cs', hc, ht'⟩ := hi i (by rw [hmm]; simp; omega)
    obtain ⟨s, e, _, z⟩ := DataW.trod_string Tryz.underlying22 ht'
    rw [hC, Nat.mul_one] at hc
    obtain ⟨_, hcl, hat⟩ := World.cells?_some hc
    have := hat 0 (by omega)
    rw [e] at this
    exact ⟨s, by simpa [Addr.add] using this, z⟩
   obtain ⟨l, hll, hq⟩ := list_ofC len hq
   refine ⟨some ad, len, cap, l, rfl, ⟨hll, hl, by unfold maxLen at hm; exact hm, ?_⟩, fun s hs => ?_⟩
   · rcases Nat.eq_zero_or_pos len with h0 | h0
     · exact ⟨0, 0, fun h => by omega, fun k e hk => by have := (List.getElem?_eq_some_iff.1 hk).1; omega⟩
     · obtain ⟨b, off, spot⟩ := ad
       obtain ⟨e, he⟩ : ∃ e, l[0]? = some e := ⟨_, List.getElem?_eq_getElem (by omega)⟩
       have h1 := (hq 0 e he).1
       have hspot : spot = none := by simpa [Addr.add] using World.cell?_spot h1
       subst hspot
       refine ⟨b, off, fun _ => rfl, fun k e hk => ?_⟩
       have := (hq k e hk).1
       rw [addr_add] at this
       exact this
   · obtain ⟨k, hk⟩ := List.getElem?_of_mem hs
     exact (hq k s hk).2
end
theorem laid_pow : (Rows.laid_internal_strconv_uint64pow10 : DataW Unit) = Lib.tabData .u64 Lib.pow10Tab := by kernel_rfl
theorem t10_of {a b : String × DataW Unit} {W : World} {nm : String} (hnm : Tryz.prog.globalNamed nm = Tryz.prog.globalNamed "internal/strconv.uint64pow10") (h : laidMet Tryz.prog [a, b, (nm, Rows.laid_internal_strconv_uint64pow10)] W) : T10 W := by
 have h2 := laidMet.tail (laidMet.tail h)
 rw [laid_pow] at h2
 have hs : (Tryz.prog.globalNamed "internal/strconv.uint64pow10").isSome = true := by kernel_rfl
 obtain ⟨g, hg⟩ := Option.isSome_iff_exists.1 hs
 have h3 : Lib.TabIs Tryz.prog W nm .u64 Lib.pow10Tab := by
  refine Lib.tabIs_of_head (t := 254) (e := 87) (n := 20) (hnm.trans hg) ?_ Tryz.underlying254 Tryz.underlying87 (by kernel_rfl) (by kernel_rfl) h2
  have : g = (Tryz.prog.globalNamed "internal/strconv.uint64pow10").getD 0 := by rw [hg]; rfl
  rw [this]
  show _ = _
  kernel_rfl
 unfold T10 Lib.TabIs World.var? at *
 rw [← hnm]
 exact h3
end Go.Proofs.YtndmjfkmnjejkaaGreatDoor

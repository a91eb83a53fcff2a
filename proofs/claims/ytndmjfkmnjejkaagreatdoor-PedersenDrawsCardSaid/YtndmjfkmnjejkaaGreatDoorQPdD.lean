import Derived.Test.YtndmjfkmnjejkaaGreatDoorQLdA
import Derived.Test.YtndmjfkmnjejkaaGreatDoorQPeDB
import Derived.Test.YtndmjfkmnjejkaaGreatDoorQCoC
import Derived.Test.YtndmjfkmnjejkaaGreatDoorQScO
import Derived.Test.YtndmjfkmnjejkaaGreatDoorQApn
import Derived.Test.YtndmjfkmnjejkaaGreatDoorQPeT
import Derived.Deep.DeepCutAuto
import Derived.Test.YtndmjfkmnjejkaaGreatDoorQGst
set_option linter.unusedVariables false
set_option linter.unusedSimpArgs false
namespace Go.Proofs.YtndmjfkmnjejkaaGreatDoor
open Go.RowKit Go.Lib
def rnB (M O : ByteArray) : ByteArray := if O.toList.isEmpty = true then M else O
def rnZ (O : ByteArray) (mb : Bool) (mt : ByteArray) : Int := redZ (num O) (sg mb (num mt))
def rnN (M O G H : ByteArray) (mb : Bool) (mt : ByteArray) (l : List ByteArray) (s : ByteArray) (k : Int) : Nat × Int × Nat × Int :=
 if (kF M O G H && (zvalid mb mt && tpG l k)) = true then
  if pkC M O G H = 0 then
     if (coN l s k (rnB M O)).2 = 0 then (cmN (num M) (num G) (num H) (rnZ O mb mt) (coN l s k (rnB M O)).1, rnZ O mb mt, (coN l s k (rnB M O)).1, 0)
     else (0, 0, 0, (coN l s k (rnB M O)).2)
  else (0, 0, 0, pkC M O G H)
 else (0, 0, 0, 3)
def RetRn (r : Nat × Int × Nat × Int) (t : List ByteArray × ByteArray × Int) (w : World) (en : Ending) (w' : World) : Prop :=
 ∃ A c, en = .returned (.tuple #[.string (nS r.1), arV r.2.1 (r.2.2.1 : Int), .agg #[.slice A t.1.length c, .string t.2.1, .int .i64 t.2.2], .int .i64 r.2.2.2]) ∧ SlN w' A t.1.length c t.1 ∧ (∀ b o, A = some ⟨b, o, none⟩ → w.heap.size ≤ b) ∧ Below w.heap.size w w'
def PB (w W : World) (M O G H : ByteArray) (mb : Bool) (mt : ByteArray) (A : Option Addr) (n cap : Nat) (s : ByteArray) (k : Int) : Prop :=
 Bx4 W w.heap.size (.string M) (.string O) (.string G) (.string H) 26 ∧ Bx2 W (w.heap.size + 1) (.bool mb) (.string mt) 28 ∧ TB W (w.heap.size + 1 + 1) A n cap s k ∧ Bx4 W (w.heap.size + 1 + 1 + 1) (.bool false) (.string ⟨#[]⟩) (.bool false) (.string ⟨#[]⟩) 37 ∧ TB W (w.heap.size + 1 + 1 + 1 + 1) none 0 0 ⟨#[]⟩ 0 ∧ Below w.heap.size w W
theorem PB.next {w W W' : World} {M O G H : ByteArray} {mb : Bool} {mt : ByteArray} {A : Option Addr} {n cap : Nat} {s : ByteArray} {k : Int} (h : PB w W M O G H mb mt A n cap s k) (hb : Below W.heap.size W W') : PB w W' M O G H mb mt A n cap s k :=
 ⟨h.1.next hb, h.2.1.next hb, h.2.2.1.nextT hb, h.2.2.2.1.next hb, h.2.2.2.2.1.nextT hb, h.2.2.2.2.2.trans (hb.mono h.2.2.2.2.2.size)⟩
theorem PB.new (w : World) (M O G H : ByteArray) (mb : Bool) (mt : ByteArray) (A : Option Addr) (n cap : Nat) (s : ByteArray) (k : Int) :
 PB w (((((w.alloc (.cells #[.string M, .string O, .string G, .string H] 26)).alloc (.cells #[.bool mb, .string mt] 28)).alloc (.cells #[.slice A n cap, .string s, .int .i64 k] 31)).alloc (.cells #[.bool false, .string ⟨#[]⟩, .bool false, .string ⟨#[]⟩] 37)).alloc (.cells #[.slice none 0 0, .string ⟨#[]⟩, .int .i64 0] 31)) M O G H mb mt A n cap s k := by
 obtain ⟨w1, h1⟩ : ∃ W, w.alloc (.cells #[.string M, .string O, .string G, .string H] 26) = W := ⟨_, rfl⟩
 have b1 : Below w.heap.size w w1 := h1 ▸ (Below.refl _ _).alloc (Nat.le_refl _) _
 have x1 : Bx4 w1 w.heap.size (.string M) (.string O) (.string G) (.string H) 26 := h1 ▸ Bx4.new _ _ _ _ _ _
 have s1 : w1.heap.size = w.heap.size + 1 := by rw [← h1]; simp
 rw [h1]
 obtain ⟨w2, h2⟩ : ∃ W, w1.alloc (.cells #[.bool mb, .string mt] 28) = W := ⟨_, rfl⟩
 have b2 : Below w1.heap.size w1 w2 := h2 ▸ (Below.refl _ _).alloc (Nat.le_refl _) _
 have x2 : Bx2 w2 w1.heap.size (.bool mb) (.string mt) 28 := h2 ▸ Bx2.new _ _ _ _
 have s2 : w2.heap.size = w.heap.size + 1 + 1 := by rw [← h2]; simp [s1]
 rw [h2]
 obtain ⟨w3, h3⟩ : ∃ W, w2.alloc (.cells #[.slice A n cap, .string s, .int .i64 k] 31) = W := ⟨_, rfl⟩
 have b3 : Below w2.heap.size w2 w3 := h3 ▸ (Below.refl _ _).alloc (Nat.le_refl _) _
 have x3 : TB w3 w2.heap.size A n cap s k := h3 ▸ TB.new _ _ _ _ _ _
 have s3 : w3.heap.size = w.heap.size + 1 + 1 + 1 := by rw [← h3]; simp [s2]
 rw [h3]
 obtain ⟨w4, h4⟩ : ∃ W, w3.alloc (.cells #[.bool false, .string ⟨#[]⟩, .bool false, .string ⟨#[]⟩] 37) = W := ⟨_, rfl⟩
 have b4 : Below w3.heap.size w3 w4 := h4 ▸ (Below.refl _ _).alloc (Nat.le_refl _) _
 have x4 : Bx4 w4 w3.heap.size (.bool false) (.string ⟨#[]⟩) (.bool false) (.string ⟨#[]⟩) 37 := h4 ▸ Bx4.new _ _ _ _ _ _
 have s4 : w4.heap.size = w.heap.size + 1 + 1 + 1 + 1 := by rw [← h4]; simp [s3]
 rw [h4]
 obtain ⟨w5, h5⟩ : ∃ W, w4.alloc (.cells #[.slice none 0 0, .string ⟨#[]⟩, .int .i64 0] 31) = W := ⟨_, rfl⟩
 have b5 : Below w4.heap.size w4 w5 := h5 ▸ (Below.refl _ _).alloc (Nat.le_refl _) _
 have x5 : TB w5 w4.heap.size none 0 0 ⟨#[]⟩ 0 := h5 ▸ TB.new _ _ _ _ _ _
 rw [h5]
 rw [s1] at x2
 rw [s2] at x3
 rw [s3] at x4
 rw [s4] at x5
 have bb := (((b1.trans (b2.mono b1.size)).trans (b3.mono (by rw [s2]; omega))).trans (b4.mono (by rw [s3]; omega))).trans (b5.mono (by rw [s4]; omega))
 exact ⟨(((x1.next b2).next b3).next b4).next b5, ((x2.next b3).next b4).next b5, (x3.nextT b4).nextT b5, x4.next b5, x5, bb⟩
theorem PB.stored {w W : World} {M O G H : ByteArray} {mb : Bool} {mt : ByteArray} {A : Option Addr} {n cap : Nat} {s : ByteArray} {k : Int} (h : PB w W M O G H mb mt A n cap s k) (x y z u : Value) (A' : Option Addr) (n' c' : Nat) (s' : ByteArray) (a' : Int) :
 Bx4 (((((((W.setCell ⟨w.heap.size + 1 + 1 + 1, 0, none⟩ x).setCell ⟨w.heap.size + 1 + 1 + 1, 1, none⟩ y).setCell ⟨w.heap.size + 1 + 1 + 1, 2, none⟩ z).setCell ⟨w.heap.size + 1 + 1 + 1, 3, none⟩ u).setCell ⟨w.heap.size + 1 + 1 + 1 + 1, 0, none⟩ (.slice A' n' c')).setCell ⟨w.heap.size + 1 + 1 + 1 + 1, 1, none⟩ (.string s')).setCell ⟨w.heap.size + 1 + 1 + 1 + 1, 2, none⟩ (.int .i64 a')) (w.heap.size + 1 + 1 + 1) x y z u 37 ∧
 TB (((((((W.setCell ⟨w.heap.size + 1 + 1 + 1, 0, none⟩ x).setCell ⟨w.heap.size + 1 + 1 + 1, 1, none⟩ y).setCell ⟨w.heap.size + 1 + 1 + 1, 2, none⟩ z).setCell ⟨w.heap.size + 1 + 1 + 1, 3, none⟩ u).setCell ⟨w.heap.size + 1 + 1 + 1 + 1, 0, none⟩ (.slice A' n' c')).setCell ⟨w.heap.size + 1 + 1 + 1 + 1, 1, none⟩ (.string s')).setCell ⟨w.heap.size + 1 + 1 + 1 + 1, 2, none⟩ (.int .i64 a')) (w.heap.size + 1 + 1 + 1 + 1) A' n' c' s' a' ∧
 Below w.heap.size w (((((((W.setCell ⟨w.heap.size + 1 + 1 + 1, 0, none⟩ x).setCell ⟨w.heap.size + 1 + 1 + 1, 1, none⟩ y).setCell ⟨w.heap.size + 1 + 1 + 1, 2, none⟩ z).setCell ⟨w.heap.size + 1 + 1 + 1, 3, none⟩ u).setCell ⟨w.heap.size + 1 + 1 + 1 + 1, 0, none⟩ (.slice A' n' c')).setCell ⟨w.heap.size + 1 + 1 + 1 + 1, 1, none⟩ (.string s')).setCell ⟨w.heap.size + 1 + 1 + 1 + 1, 2, none⟩ (.int .i64 a')) :=
 ⟨(h.2.2.2.1.set4).off3 (by omega), (h.2.2.2.2.1.off4 (by omega)).set3, below_set3 (below_set4 h.2.2.2.2.2 (by omega) _ _ _ _) (by omega) _ _ _⟩
theorem PB.tape {w W : World} {M O G H : ByteArray} {mb : Bool} {mt : ByteArray} {A : Option Addr} {n cap : Nat} {s : ByteArray} {k : Int} (h : PB w W M O G H mb mt A n cap s k) (A' : Option Addr) (n' c' : Nat) (s' : ByteArray) (a' : Int) :
 PB w (((W.setCell ⟨w.heap.size + 1 + 1, 0, none⟩ (.slice A' n' c')).setCell ⟨w.heap.size + 1 + 1, 1, none⟩ (.string s')).setCell ⟨w.heap.size + 1 + 1, 2, none⟩ (.int .i64 a')) M O G H mb mt A' n' c' s' a' :=
 ⟨h.1.off3 (by omega), bx2_off3 h.2.1 (by omega), h.2.2.1.set3, h.2.2.2.1.off3 (by omega), (((h.2.2.2.2.1.off (by omega) _).off (by omega) _).off (by omega) _), below_set3 h.2.2.2.2.2 (by omega) _ _ _⟩
theorem rn_facts {M O G H : ByteArray} {mb : Bool} {mt : ByteArray} {l : List ByteArray} {s : ByteArray} {k : Int} (hM : M.size ≤ 8) (hO : O.size ≤ 8) (hz : zvalid mb mt = true) (vO : nvalid O = true) (he : (coN l s k (rnB M O)).2 = 0) :
 (coN l s k (rnB M O)).1 < 18446744073709551616 ∧ redZ (num O) ((coN l s k (rnB M O)).1 : Int) = ((coN l s k (rnB M O)).1 : Int) ∧ (rnZ O mb mt).natAbs < 256 ^ 128 ∧ zV mb mt = intV (sg mb (num mt)) ∧ (sg mb (num mt)).natAbs < 256 ^ 128 := by
 obtain ⟨h1, h2, h3⟩ := zv_parts hz
 have hlt := coN_lt he
 have lM := num_small hM
 have lO := num_small hO
 refine ⟨?_, ?_, ?_, by unfold intV; rw [← h1, ← h2], h3⟩
 · have : num (rnB M O) < 18446744073709551616 := by unfold rnB; split <;> assumption
   omega
 · unfold redZ
   by_cases h0 : num O = 0
   · rw [if_pos h0]
   · rw [if_neg h0]
     have : O.toList.isEmpty = false := by rw [nS_num vO]; exact empty_nS (by omega)
     rw [show rnB M O = O from by unfold rnB; rw [this]; rfl] at hlt ⊢
     rw [Int.emod_eq_of_lt (by omega) (by omega)]
     simp
 · unfold rnZ redZ
   by_cases h0 : num O = 0
   · rw [if_pos h0]; exact h3
   · rw [if_neg h0]
     have h4 := Int.emod_nonneg (sg mb (num mt)) (show (num O : Int) ≠ 0 by omega)
     have h5 := Int.emod_lt_of_pos (sg mb (num mt)) (show (0 : Int) < num O by omega)
     exact lt128_of_lt8 (by omega)
end Go.Proofs.YtndmjfkmnjejkaaGreatDoor
namespace Go.Proofs.YtndmjfkmnjejkaaGreatDoor
set_option maxRecDepth 100000
set_option maxHeartbeats 8000000
open Go.RowKit Go.Lib
theorem pk_Random (M O G H : ByteArray) (mb : Bool) (mt : ByteArray) (l : List ByteArray) (s : ByteArray) (k : Int) (A : Option Addr) (n cap : Nat) (hM : M.size ≤ 8) (hO : O.size ≤ 8) (hG : G.size ≤ 1000) (hH : H.size ≤ 1000) (hmt : mt.size ≤ 1000) (hn : n ≤ 1000) (hp : ∀ x ∈ l, x.size ≤ 9223372036854775807) (hs64 : s.size ≤ 1000000) (w : World) (hs : SlN w A n cap l) (ht : T10 w) :
 Calls Tryz.prog 15 #[kV M O G H, zV mb mt, tpV A n cap s k] w (RetRn (rnN M O G H mb mt l s k) (tpN (rnN M O G H mb mt l s k).2.2.2 l s k) w) := by
 have hx0 := PB.new w M O G H mb mt A n cap s k
 obtain ⟨W0, hW0⟩ : ∃ W, ((((w.alloc (.cells #[.string M, .string O, .string G, .string H] 26)).alloc (.cells #[.bool mb, .string mt] 28)).alloc (.cells #[.slice A n cap, .string s, .int .i64 k] 31)).alloc (.cells #[.bool false, .string ⟨#[]⟩, .bool false, .string ⟨#[]⟩] 37)).alloc (.cells #[.slice none 0 0, .string ⟨#[]⟩, .int .i64 0] 31) = W := ⟨_, rfl⟩
 rw [hW0] at hx0
 have HX0 := Hq hx0
 have HSL0 := Hq hs
 have HKF := Hq (pk_formed M O G H (by omega) (by omega) hG hH)
 have HZV := Hq (int_Valid mb mt (by omega))
 have HTP := Hq (fun W hs => pk_tape l s k A n cap W hs hp)
 have HCK := Hq (pk_Check M O G H hM hO hG hH)
 have HHY := Hq (And.intro (And.intro hM hO) (And.intro (And.intro hG hH) (And.intro (And.intro hn hs64) (And.intro hp ht))))
 obtain ⟨g0, g1, g2, g3⟩ := HX0.out.1.cells
 have i0 := HX0.out.2.1.c0
 have i1 := HX0.out.2.1.c1
 obtain ⟨c0, c1, c2⟩ := HX0.out.2.2.1.c
 unfold tpV kV zV at *
 clear hx0 hs hM hO hG hH hmt hn hs64 hp ht
 go_enter Tryz.func15, Tryz.ntmps15
 go_wp2_with fail
 try rw [hW0]
 clear hW0
 refine (HKF.out _).mono ?_
 rintro ev w1 ⟨rfl, hb⟩
 have HX1 := Hq (HX0.out.next hb)
 clear hb g0 g1 g2 g3 i0 i1 c0 c1 c2
 obtain ⟨g0, g1, g2, g3⟩ := HX1.out.1.cells
 have i0 := HX1.out.2.1.c0
 have i1 := HX1.out.2.1.c1
 obtain ⟨c0, c1, c2⟩ := HX1.out.2.2.1.c
 cases hkf : kF M O G H with
 | false =>
  have HRV := Hq (show rnN M O G H mb mt l s k = (0, 0, 0, 3) from by unfold rnN; rw [hkf, Bool.false_and, if_neg (by decide)])
  have HTE := Hq (show tpN 3 l s k = ([], ⟨#[]⟩, 0) from tpN_err (by decide) l s k)
  clear hkf
  obtain ⟨k0, k1, k2, k3⟩ := HX1.out.2.2.2.1.cells
  have kf := HX1.out.2.2.2.1.free
  obtain ⟨r0, r1, r2⟩ := HX1.out.2.2.2.2.1.c
  have rf := HX1.out.2.2.2.2.1.f
  have kf0 := kf 0
  have kf1 := kf 1
  have kf2 := kf 2
  have kf3 := kf 3
  have rf0 := rf 0
  have rf1 := rf 1
  have rf2 := rf 2
  obtain ⟨hq4, hq3, hqb⟩ := HX1.out.stored (.bool false) (.string ⟨#[]⟩) (.bool false) (.string ⟨#[]⟩) none 0 0 ⟨#[]⟩ 0
  obtain ⟨q0, q1, q2, q3⟩ := hq4.cells
  obtain ⟨p0, p1, p2⟩ := hq3.c
  have HQB := Hq hqb
  clear kf rf hq4 hq3 hqb
  go_wp2
  refine bodyPost_ret (v := .tuple #[.string ⟨#[]⟩, .agg #[.bool false, .string ⟨#[]⟩, .bool false, .string ⟨#[]⟩], .agg #[.slice none 0 0, .string ⟨#[]⟩, .int .i64 0], .int .i64 3]) (by simp [results, Tryz.results15, go_sem, q0, q1, q2, q3, p0, p1, p2]) rfl ?_
  show RetRn (rnN M O G H mb mt l s k) (tpN (rnN M O G H mb mt l s k).2.2.2 l s k) w _ _
  rw [HRV.out]
  show RetRn (0, 0, 0, 3) (tpN 3 l s k) w _ _
  rw [HTE.out]
  exact ⟨none, 0, rfl, SlN.nil _ 0 (by omega) none, (fun b o h => by cases h), HQB.out⟩
 | true =>
  have HK1 := Hq hkf
  clear hkf
  go_wp2_with fail
  refine (HZV.out _).mono ?_
  rintro ev w2 ⟨rfl, hb⟩
  have HX2 := Hq (HX1.out.next hb)
  clear hb g0 g1 g2 g3 i0 i1 c0 c1 c2
  obtain ⟨g0, g1, g2, g3⟩ := HX2.out.1.cells
  have i0 := HX2.out.2.1.c0
  have i1 := HX2.out.2.1.c1
  obtain ⟨c0, c1, c2⟩ := HX2.out.2.2.1.c
  cases hzv : zvalid mb mt with
  | false =>
   have HRV := Hq (show rnN M O G H mb mt l s k = (0, 0, 0, 3) from by unfold rnN; rw [hzv, Bool.false_and, Bool.and_false, if_neg (by decide)])
   have HTE := Hq (show tpN 3 l s k = ([], ⟨#[]⟩, 0) from tpN_err (by decide) l s k)
   clear hzv
   obtain ⟨k0, k1, k2, k3⟩ := HX2.out.2.2.2.1.cells
   have kf := HX2.out.2.2.2.1.free
   obtain ⟨r0, r1, r2⟩ := HX2.out.2.2.2.2.1.c
   have rf := HX2.out.2.2.2.2.1.f
   have kf0 := kf 0
   have kf1 := kf 1
   have kf2 := kf 2
   have kf3 := kf 3
   have rf0 := rf 0
   have rf1 := rf 1
   have rf2 := rf 2
   obtain ⟨hq4, hq3, hqb⟩ := HX2.out.stored (.bool false) (.string ⟨#[]⟩) (.bool false) (.string ⟨#[]⟩) none 0 0 ⟨#[]⟩ 0
   obtain ⟨q0, q1, q2, q3⟩ := hq4.cells
   obtain ⟨p0, p1, p2⟩ := hq3.c
   have HQB := Hq hqb
   clear kf rf hq4 hq3 hqb
   go_wp2
   refine bodyPost_ret (v := .tuple #[.string ⟨#[]⟩, .agg #[.bool false, .string ⟨#[]⟩, .bool false, .string ⟨#[]⟩], .agg #[.slice none 0 0, .string ⟨#[]⟩, .int .i64 0], .int .i64 3]) (by simp [results, Tryz.results15, go_sem, q0, q1, q2, q3, p0, p1, p2]) rfl ?_
   show RetRn (rnN M O G H mb mt l s k) (tpN (rnN M O G H mb mt l s k).2.2.2 l s k) w _ _
   rw [HRV.out]
   show RetRn (0, 0, 0, 3) (tpN 3 l s k) w _ _
   rw [HTE.out]
   exact ⟨none, 0, rfl, SlN.nil _ 0 (by omega) none, (fun b o h => by cases h), HQB.out⟩
  | true =>
   have HK2 := Hq hzv
   clear hzv
   have HTU := Hq (HTP.out _ (HSL0.out.kept HX2.out.2.2.2.2.2 (Nat.le_refl _)))
   go_wp2_with fail
   refine HTU.out.mono ?_
   rintro ev w3 ⟨rfl, hb⟩
   have HX3 := Hq (HX2.out.next hb)
   clear hb g0 g1 g2 g3 i0 i1 c0 c1 c2
   obtain ⟨g0, g1, g2, g3⟩ := HX3.out.1.cells
   have i0 := HX3.out.2.1.c0
   have i1 := HX3.out.2.1.c1
   obtain ⟨c0, c1, c2⟩ := HX3.out.2.2.1.c
   cases htg : tpG l k with
   | false =>
    have HRV := Hq (show rnN M O G H mb mt l s k = (0, 0, 0, 3) from by unfold rnN; rw [htg, Bool.and_false, Bool.and_false, if_neg (by decide)])
    have HTE := Hq (show tpN 3 l s k = ([], ⟨#[]⟩, 0) from tpN_err (by decide) l s k)
    clear htg
    obtain ⟨k0, k1, k2, k3⟩ := HX3.out.2.2.2.1.cells
    have kf := HX3.out.2.2.2.1.free
    obtain ⟨r0, r1, r2⟩ := HX3.out.2.2.2.2.1.c
    have rf := HX3.out.2.2.2.2.1.f
    have kf0 := kf 0
    have kf1 := kf 1
    have kf2 := kf 2
    have kf3 := kf 3
    have rf0 := rf 0
    have rf1 := rf 1
    have rf2 := rf 2
    obtain ⟨hq4, hq3, hqb⟩ := HX3.out.stored (.bool false) (.string ⟨#[]⟩) (.bool false) (.string ⟨#[]⟩) none 0 0 ⟨#[]⟩ 0
    obtain ⟨q0, q1, q2, q3⟩ := hq4.cells
    obtain ⟨p0, p1, p2⟩ := hq3.c
    have HQB := Hq hqb
    clear kf rf hq4 hq3 hqb
    go_wp2
    refine bodyPost_ret (v := .tuple #[.string ⟨#[]⟩, .agg #[.bool false, .string ⟨#[]⟩, .bool false, .string ⟨#[]⟩], .agg #[.slice none 0 0, .string ⟨#[]⟩, .int .i64 0], .int .i64 3]) (by simp [results, Tryz.results15, go_sem, q0, q1, q2, q3, p0, p1, p2]) rfl ?_
    show RetRn (rnN M O G H mb mt l s k) (tpN (rnN M O G H mb mt l s k).2.2.2 l s k) w _ _
    rw [HRV.out]
    show RetRn (0, 0, 0, 3) (tpN 3 l s k) w _ _
    rw [HTE.out]
    exact ⟨none, 0, rfl, SlN.nil _ 0 (by omega) none, (fun b o h => by cases h), HQB.out⟩
   | true =>
    have HK3 := Hq htg
    clear htg
    go_wp2_with fail
    refine (HCK.out _).mono ?_
    rintro ev w4 ⟨rfl, hb⟩
    have HX4 := Hq (HX3.out.next hb)
    clear hb g0 g1 g2 g3 i0 i1 c0 c1 c2
    obtain ⟨g0, g1, g2, g3⟩ := HX4.out.1.cells
    have i0 := HX4.out.2.1.c0
    have i1 := HX4.out.2.1.c1
    obtain ⟨c0, c1, c2⟩ := HX4.out.2.2.1.c
    by_cases hc : pkC M O G H = 0
    · rw [hc]
      obtain ⟨⟨hM, hO⟩, ⟨hG, hH⟩, ⟨hn, hs64⟩, hp, ht⟩ := HHY.out
      have hkf := HK1.out
      have hzv := HK2.out
      have htg := HK3.out
      have hv4 : nvalid M = true ∧ nvalid O = true ∧ nvalid G = true ∧ nvalid H = true := by
       unfold kF at hkf
       simp only [Bool.and_eq_true] at hkf
       exact ⟨hkf.1.1.1, hkf.1.1.2, hkf.1.2, hkf.2⟩
      have vO := hv4.2.1
      have hB32 : (rnB M O).size ≤ 32 := by unfold rnB; split <;> omega
      have HDD := Hq (fun W (hb : Below w.heap.size w W) hs => co_Below l s k (rnB M O) A n cap hn hp hs64 hB32 W hs (ht.kept hb (Nat.le_refl _)))
      obtain ⟨rr, hr⟩ : ∃ r, coN l s k (rnB M O) = r := ⟨_, rfl⟩
      have HRV := Hq (show rnN M O G H mb mt l s k = (if rr.2 = 0 then (cmN (num M) (num G) (num H) (rnZ O mb mt) rr.1, rnZ O mb mt, rr.1, 0) else (0, 0, 0, rr.2)) from by
       unfold rnN; rw [hkf, hzv, htg, if_pos (by rfl), if_pos hc, hr])
      have HFX := Hq (rn_facts (G := G) (H := H) (l := l) (s := s) (k := k) hM hO hzv vO)
      have HCC := Hq (And.intro hc vO)
      rw [hr] at HDD HFX
      obtain ⟨x, e⟩ := rr
      simp only [] at HRV HDD HFX
      obtain ⟨cz, hcz⟩ : ∃ z, nS x = z := ⟨_, rfl⟩
      have HCZ := Hq hcz
      obtain ⟨t, htp⟩ : ∃ t, tpN e l s k = t := ⟨_, rfl⟩
      have HTT := Hq htp
      obtain ⟨tl, ts, tk⟩ := t
      rw [htp] at HDD
      obtain ⟨m, hmm⟩ : ∃ m, tl.length = m := ⟨_, rfl⟩
      have HMM := Hq hmm
      unfold tpV at HDD
      clear hM hO hG hH hn hs64 hp ht hkf hzv htg hv4 vO hB32 hr hcz htp hmm hc
      go_upto_if 42 with (fail)
      go_cut [11] (fun b wx => b = .string (rnB M O) ∧ wx = w4)
      case first =>
       go_wp2
       all_goals
        go_meet
        first
        | exact ⟨by unfold rnB; rw [if_pos (by assumption)], rfl⟩
        | exact ⟨by unfold rnB; rw [if_neg (by simp [*])], rfl⟩
      case rest =>
       obtain ⟨hq1, hq2⟩ := hcut
       rw [hq1, hq2]
       obtain ⟨bd, hbd⟩ : ∃ b, rnB M O = b := ⟨_, rfl⟩
       rw [hbd] at HDD ⊢
       clear hq1 hq2 hbd
       have f0 := HX4.out.2.2.1.f 0
       have f1 := HX4.out.2.2.1.f 1
       have f2 := HX4.out.2.2.1.f 2
       have HDW := Hq (HDD.out w4 HX4.out.2.2.2.2.2 (HSL0.out.kept HX4.out.2.2.2.2.2 (Nat.le_refl _)))
       clear f0 f1 f2
       go_wp2_with fail
       refine HDW.out.mono ?_
       rintro ev w6 ⟨B, cc, rfl, hsl, hfr, hb⟩
       simp only [] at hsl ⊢
       rw [HMM.out] at hsl ⊢
       rw [HCZ.out]
       have HSL6 := Hq hsl
       have HFR := Hq (show ∀ b o, B = some ⟨b, o, none⟩ → w.heap.size + 1 + 1 + 1 + 1 < b from fun b o h => Nat.lt_of_lt_of_le HX4.out.2.2.2.2.1.lt (hfr b o h))
       clear hsl hfr
       have HX6 := Hq (HX4.out.next hb)
       clear hb g0 g1 g2 g3 i0 i1 c0 c1 c2
       obtain ⟨g0, g1, g2, g3⟩ := HX6.out.1.cells
       have i0 := HX6.out.2.1.c0
       have i1 := HX6.out.2.1.c1
       obtain ⟨c0, c1, c2⟩ := HX6.out.2.2.1.c
       have f0 := HX6.out.2.2.1.f 0
       have f1 := HX6.out.2.2.1.f 1
       have f2 := HX6.out.2.2.1.f 2
       go_upto_region 10 with (fail)
       have hx7 := HX6.out.tape B m cc ts tk
       have HSL7 := Hq (((HSL6.out.setB (R := w.heap.size + 1 + 1) (k := 0) (u := .slice B m cc) (fun b o h => by have := HFR.out b o h; omega)).setB (R := w.heap.size + 1 + 1) (k := 1) (u := .string ts) (fun b o h => by have := HFR.out b o h; omega)).setB (R := w.heap.size + 1 + 1) (k := 2) (u := .int .i64 tk) (fun b o h => by have := HFR.out b o h; omega))
       obtain ⟨W7, hW7⟩ : ∃ W, ((w6.setCell ⟨w.heap.size + 1 + 1, 0, none⟩ (.slice B m cc)).setCell ⟨w.heap.size + 1 + 1, 1, none⟩ (.string ts)).setCell ⟨w.heap.size + 1 + 1, 2, none⟩ (.int .i64 tk) = W := ⟨_, rfl⟩
       rw [hW7] at hx7 HSL7 ⊢
       have HX7 := Hq hx7
       clear hx7 hW7 g0 g1 g2 g3 i0 i1 c0 c1 c2 f0 f1 f2
       by_cases he : e = 0
       · subst he
         obtain ⟨⟨hM, hO⟩, ⟨hG, hH⟩, _⟩ := HHY.out
         obtain ⟨hc, vO⟩ := HCC.out
         have hzv := HK2.out
         obtain ⟨f1, f2, f3, f4, f5⟩ := HFX.out rfl
         have lx : x < 256 ^ 128 := lt128_of_lt8 f1
         have lO := nvalid_lt vO
         have HFM := Hq (fun w => int_From x lx w)
         rw [show intV (x : Int) = .agg #[.bool false, .string (nS x)] from by unfold intV zV; rw [Int.natAbs_natCast, decide_eq_false (by omega)]] at HFM
         have HRD := Hq (pk_reduced (num O) M G H (sg mb (num mt)) (x : Int) lO (fun h0 w => int_ModA _ _ f5 lO h0 w) (fun h0 w => int_ModA _ _ (by rw [Int.natAbs_natCast]; exact lx) lO h0 w))
         rw [f2, ← nS_num vO, show redZ (num O) (sg mb (num mt)) = rnZ O mb mt from rfl] at HRD
         have hmbt : arV (sg mb (num mt)) (x : Int) = .agg #[.bool mb, .string mt, .bool false, .string (nS x)] := by
          obtain ⟨z1, z2, _⟩ := zv_parts hzv
          unfold arV
          rw [← z1, ← z2, Int.natAbs_natCast, decide_eq_false (by omega)]
         rw [hmbt] at HRD
         obtain ⟨z, hz⟩ : ∃ z, rnZ O mb mt = z := ⟨_, rfl⟩
         rw [hz] at HRD HRV f3
         obtain ⟨vb, hvb⟩ : ∃ b, decide (z < 0) = b := ⟨_, rfl⟩
         obtain ⟨vt, hvt⟩ : ∃ t, nS z.natAbs = t := ⟨_, rfl⟩
         have har : arV z (x : Int) = .agg #[.bool vb, .string vt, .bool false, .string (nS x)] := by
          unfold arV
          rw [hvb, hvt, Int.natAbs_natCast, decide_eq_false (by omega)]
         rw [har] at HRD
         rw [HCZ.out] at har HRD HFM
         have HAR := Hq har
         have hvs : vt.size ≤ 1000 := by rw [← hvt]; have := nS_size_le.2 f3; omega
         have hxs : cz.size ≤ 1000 := by rw [← HCZ.out]; have := nS_size_le.2 lx; omega
         have hcm := cm_int hc (v := z) (r := (x : Int)) f3 (by rw [Int.natAbs_natCast]; exact lx)
         rw [hvb, hvt, Int.natAbs_natCast, decide_eq_false (show ¬ (x : Int) < 0 by omega), HCZ.out] at hcm
         have HCM := Hq (pk_Commit M O G H vb vt false cz hM hO hG hH hvs hxs)
         rw [hcm] at HCM
         obtain ⟨C, hC⟩ : ∃ C, cmN (num M) (num G) (num H) z x = C := ⟨_, rfl⟩
         rw [hC] at HCM HRV
         obtain ⟨cs, hcs⟩ : ∃ c, nS C = c := ⟨_, rfl⟩
         rw [hcs] at HCM
         have HCS := Hq hcs
         simp only [if_true] at HRV
         unfold oV kV at HCM
         unfold kV at HRD
         clear hM hO hG hH hc vO hzv f1 f2 f3 f4 f5 lx lO hmbt hz hvb hvt har hvs hxs hcm hC hcs
         go_wp2
         obtain ⟨we, hwe⟩ : ∃ we, W7.drew = we := ⟨_, rfl⟩
         have hbe : Below W7.heap.size W7 we := by rw [← hwe]; exact (Below.refl _ _).drew
         have HXE := Hq (HX7.out.next hbe)
         have HSLE := Hq (HSL7.out.kept hbe (Nat.le_refl _))
         have HLE := Hq (show w.heap.size + 1 + 1 + 1 + 1 < we.heap.size from HXE.out.2.2.2.2.1.lt)
         clear hbe
         obtain ⟨g0, g1, g2, g3⟩ := HXE.out.1.cells
         have i0 := HXE.out.2.1.c0
         have i1 := HXE.out.2.1.c1
         refine wp_region_K 8 (Below (we).heap.size (we)) (by kernel_rfl) ?_
         intro hD
         rw [hwe]
         have KK1 := Hq (fun w' (hS' : (Below (we).heap.size (we)) w') => And.intro (kC hS' g0) (And.intro (kC hS' g1) (And.intro (kC hS' g2) (And.intro (kC hS' g3) (And.intro (kC hS' i0) (kC hS' i1))))))
         refine rT 0 58 7 rfl hD (Below.refl _ _) (by intro w' hS'; obtain ⟨e0, e1, e2, e3, e4, e5⟩ := KK1.out w' hS'; go_simp; with_reducible rfl) ?_; clear hD; intro hD; simp only [Act.put, sqA, sqB, sqC]
         refine rT 1 59 6 rfl hD (Below.refl _ _) (by intro w' hS'; obtain ⟨e0, e1, e2, e3, e4, e5⟩ := KK1.out w' hS'; go_simp; with_reducible rfl) ?_; clear hD; intro hD; simp only [Act.put, sqA, sqB, sqC]
         refine rP 2 60 5 rfl hD (Below.refl _ _) ?_; clear hD; intro hD; simp only [Act.put, sqA, sqB, sqC]
         refine (show GhostK _ _ _ _ _ _ 6 14 4 _ _ (GIz (we) (#[.bool false, .string ⟨#[]⟩, .bool false, .string ⟨#[]⟩]) (37)) from ?_).2 _ (GIz.start (Below.refl _ _))
         refine ghost_step (i := 6) (j := 3) (d := 14) (dj := 61) (fuel := 3) (fun (y : Unit) => .agg #[.bool false, .string cz]) (fun y => GIz (we) (#[.bool false, .string ⟨#[]⟩, .bool false, .string ⟨#[]⟩]) (37)) (by kernel_rfl) (by kernel_rfl) rfl rfl hD (by kernel_rfl) (by decide) (fun _ _ _ _ h => h.1) (fun _ _ _ h => h.1) (alloc_zK rfl rfl (fun _ _ => by kernel_rfl)) ?hs12_3b1 ?hn12_3b1
         case hs12_3b1 =>
          intro gb gx gw hI K hK
          try simp only [Act.put, sqA, sqB, sqC] at hK ⊢
          have HK := Hq hK
          have HGI := Hq hI
          clear hK hI hD
          go_wp2_with fail
          refine (HFM.out _).mono ?_
          rintro ev w8 ⟨rfl, hb⟩
          have HG2 := Hq (HGI.out.step hb)
          clear hb
          go_wp2
          exact HK.out () _ HG2.out
         intro _ hD
         simp only [Act.put, sqA, sqB, sqC]
         refine ghost_pure (i := 6) (j := 4) (d := 14) (dj := 62) (v := ?v12_4b1) (fuel := 2) rfl (by kernel_rfl) (by kernel_rfl) (by kernel_rfl) (by kernel_rfl) (fun _ _ _ h => h) hD (by kernel_rfl) (by decide) (by decide) (fun _ _ _ h => h.1) (fun x => .inl ⟨by kernel_rfl, ?y12_4b1⟩) ?n12_4b1
         case y12_4b1 => intro w' _; go_simp; with_reducible rfl
         clear hD; intro hD
         simp only [Act.put, sqA, sqB, sqC]
         refine ghost_step (i := 6) (j := 5) (d := 14) (dj := 63) (fuel := 1) (fun (y : Unit) => .agg #[.bool vb, .string vt, .bool false, .string cz]) (fun y => GIz (we) (#[.bool false, .string ⟨#[]⟩, .bool false, .string ⟨#[]⟩]) (37)) (by kernel_rfl) (by kernel_rfl) rfl rfl hD (by kernel_rfl) (by decide) (fun _ _ _ _ h => h.1) (fun _ _ _ h => h.1) (alloc_zK rfl rfl (fun _ _ => by kernel_rfl)) ?hs12_5b1 ?hn12_5b1
         case hs12_5b1 =>
          intro gb gx gw hI K hK
          try simp only [Act.put, sqA, sqB, sqC] at hK ⊢
          have HK := Hq hK
          have HGI := Hq hI
          clear hK hI hD
          go_wp2_with fail
          refine (HRD.out _).mono ?_
          rintro ev w9 ⟨rfl, hb⟩
          have HG2 := Hq (HGI.out.step hb)
          clear hb
          go_wp2
          exact HK.out () _ HG2.out
         intro _ hD
         simp only [Act.put, sqA, sqB, sqC]
         refine ghost_end (by kernel_rfl) rfl hD (fun _ _ _ h => h.1) (alloc_zK rfl rfl (fun _ _ => by kernel_rfl)) ?_
         intro gx gw hI hD
         obtain ⟨hSG, hx⟩ := hI
         obtain ⟨GB, rfl, hBG, hZG⟩ := hx rfl
         have HSG := Hq hSG
         have HBG := Hq hBG
         have HZG := Hq hZG
         clear hx hSG hBG hZG
         simp only [Act.put, sqA, sqB, sqC]
         refine rO 7 0 rfl hD ?_; clear hD; intro K7 hK7
         have hz4 : Bx4 gw GB (.bool false) (.string ⟨#[]⟩) (.bool false) (.string ⟨#[]⟩) 37 := HZG.out
         obtain ⟨k0, k1, k2, k3⟩ := hz4.cells
         have kf := hz4.free
         have kf0 := kf 0
         have kf1 := kf 1
         have kf2 := kf 2
         have kf3 := kf 3
         clear hz4 kf
         go_wp2
         refine hK7 _ _ (by exact below_set4 HSG.out HBG.out _ _ _ _) ?_; clear hK7; intro hS_12_7_g hD
         refine wpAnyK_done (by kernel_rfl) ?_ 0
         clear hD k0 k1 k2 k3 kf0 kf1 kf2 kf3 g0 g1 g2 g3 i0 i1
         have hb9 := hS_12_7_g
         have hp9 : Bx4 ((((gw.setCell ⟨GB, 0, none⟩ (.bool vb)).setCell ⟨GB, 1, none⟩ (.string vt)).setCell ⟨GB, 2, none⟩ (.bool false)).setCell ⟨GB, 3, none⟩ (.string cz)) GB (.bool vb) (.string vt) (.bool false) (.string cz) 37 := Bx4.set4 (show Bx4 gw GB (.bool false) (.string ⟨#[]⟩) (.bool false) (.string ⟨#[]⟩) 37 from HZG.out)
         obtain ⟨W9, hW9⟩ : ∃ W9, (((gw.setCell ⟨GB, 0, none⟩ (.bool vb)).setCell ⟨GB, 1, none⟩ (.string vt)).setCell ⟨GB, 2, none⟩ (.bool false)).setCell ⟨GB, 3, none⟩ (.string cz) = W9 := ⟨_, rfl⟩
         rw [hW9] at hp9 hb9 ⊢
         clear hW9
         have HX9 := Hq (HXE.out.next hb9)
         have HSL9 := Hq (HSLE.out.kept hb9 (Nat.le_refl _))
         have HK9 := Hq hp9
         have HLG := Hq (show w.heap.size + 1 + 1 + 1 + 1 < GB from Nat.lt_of_lt_of_le HLE.out HBG.out)
         clear hb9 hp9
         obtain ⟨z0, z1, z2, z3⟩ := HK9.out.cells
         obtain ⟨g0, g1, g2, g3⟩ := HX9.out.1.cells
         go_wp2_with fail
         refine (HCM.out _).mono ?_
         rintro ev w10 ⟨rfl, hb⟩
         have HX10 := Hq (HX9.out.next hb)
         have HSL10 := Hq (HSL9.out.kept hb (Nat.le_refl _))
         have HK10 := Hq (HK9.out.next hb)
         clear hb z0 z1 z2 z3 g0 g1 g2 g3
         go_wp2
         obtain ⟨wg, hwg⟩ : ∃ wg, w10.drew = wg := ⟨_, rfl⟩
         have hbg : Below w10.heap.size w10 wg := by rw [← hwg]; exact (Below.refl _ _).drew
         have HXG := Hq (HX10.out.next hbg)
         have HS0 := Hq (show Below w.heap.size w wg ∧ Bx4 wg GB (.bool vb) (.string vt) (.bool false) (.string cz) 37 ∧ TB wg (w.heap.size + 1 + 1) B m cc ts tk from ⟨(HX10.out.next hbg).2.2.2.2.2, HK10.out.next hbg, (HX10.out.next hbg).2.2.1⟩)
         have HSLG := Hq (HSL10.out.kept hbg (Nat.le_refl _))
         clear hbg
         obtain ⟨k0, k1, k2, k3⟩ := HXG.out.2.2.2.1.cells
         have kf := HXG.out.2.2.2.1.free
         obtain ⟨r0, r1, r2⟩ := HXG.out.2.2.2.2.1.c
         have rf := HXG.out.2.2.2.2.1.f
         have kf0 := kf 0
         have kf1 := kf 1
         have kf2 := kf 2
         have kf3 := kf 3
         have rf0 := rf 0
         have rf1 := rf 1
         have rf2 := rf 2
         clear kf rf
         refine wp_region_K 7 (fun W' => Below w.heap.size w W' ∧ Bx4 W' GB (.bool vb) (.string vt) (.bool false) (.string cz) 37 ∧ TB W' (w.heap.size + 1 + 1) B m cc ts tk) (by kernel_rfl) ?_
         intro hD
         rw [hwg]
         have KK2 := Hq (fun w' (hS' : (fun W' => Below w.heap.size w W' ∧ Bx4 W' GB (.bool vb) (.string vt) (.bool false) (.string cz) 37 ∧ TB W' (w.heap.size + 1 + 1) B m cc ts tk) w') => And.intro (hS'.2.1.cells.1) (And.intro (hS'.2.1.cells.2.1) (And.intro (hS'.2.1.cells.2.2.1) (And.intro (hS'.2.1.cells.2.2.2) (And.intro (hS'.2.2.c.1) (And.intro (hS'.2.2.c.2.1) (hS'.2.2.c.2.2)))))))
         refine rP 0 75 6 rfl hD HS0.out ?_; clear hD; intro hD; simp only [Act.put, sqA, sqB, sqC]
         refine rT 1 76 5 rfl hD HS0.out (by intro w' hS'; obtain ⟨e0, e1, e2, e3, e4, e5, e6⟩ := KK2.out w' hS'; go_simp; with_reducible rfl) ?_; clear hD; intro hD; simp only [Act.put, sqA, sqB, sqC]
         refine rT 2 77 4 rfl hD HS0.out (by intro w' hS'; obtain ⟨e0, e1, e2, e3, e4, e5, e6⟩ := KK2.out w' hS'; go_simp; with_reducible rfl) ?_; clear hD; intro hD; simp only [Act.put, sqA, sqB, sqC]
         refine rO 3 3 rfl hD ?_; clear hD; intro K3 hK3
         go_wp2
         refine hK3 _ _ (by exact HS0.out) ?_; clear hK3; intro hS_16_3 hD
         refine rO 4 2 rfl hD ?_; clear hD; intro K4 hK4
         go_wp2
         refine hK4 _ _ (by exact ⟨below_set4 (hS_16_3).1 (by omega) _ _ _ _, bx4_off4 (hS_16_3).2.1 (by have := HLG.out; omega), (hS_16_3).2.2.off4 (by omega)⟩) ?_; clear hK4; intro hS_16_4 hD
         refine rO 5 1 rfl hD ?_; clear hD; intro K5 hK5
         go_wp2
         refine hK5 _ _ (by exact ⟨below_set3 (hS_16_4).1 (by omega) _ _ _, (hS_16_4).2.1.off3 (by have := HLG.out; omega), (((hS_16_4).2.2.off (by omega) _).off (by omega) _).off (by omega) _⟩) ?_; clear hK5; intro hS_16_5 hD
         refine rO 6 0 rfl hD ?_; clear hD; intro K6 hK6
         go_wp2
         refine hK6 _ _ (by exact hS_16_5) ?_; clear hK6; intro hS_16_6 hD
         refine wpAnyK_done (by kernel_rfl) ?_ 0
         clear hD k0 k1 k2 k3 kf0 kf1 kf2 kf3 r0 r1 r2 rf0 rf1 rf2
         obtain ⟨hq4, hq3, hqb⟩ := HXG.out.stored (.bool vb) (.string vt) (.bool false) (.string cz) B m cc ts tk
         obtain ⟨q0, q1, q2, q3⟩ := hq4.cells
         obtain ⟨p0, p1, p2⟩ := hq3.c
         have HQB := Hq hqb
         clear hq4 hq3 hqb
         go_wp2
         refine bodyPost_ret (v := .tuple #[.string cs, .agg #[.bool vb, .string vt, .bool false, .string cz], .agg #[.slice B m cc, .string ts, .int .i64 tk], .int .i64 0]) (by simp [results, Tryz.results15, go_sem, q0, q1, q2, q3, p0, p1, p2]) rfl ?_
         show RetRn (rnN M O G H mb mt l s k) (tpN (rnN M O G H mb mt l s k).2.2.2 l s k) w _ _
         rw [HRV.out]
         show RetRn (C, z, x, 0) (tpN 0 l s k) w _ _
         rw [HTT.out]
         refine ⟨B, cc, ?_, ?_, (fun b o h => by have := HFR.out b o h; omega), HQB.out⟩
         · show _ = Ending.returned (.tuple #[.string (nS C), arV z (x : Int), .agg #[.slice B tl.length cc, .string ts, .int .i64 tk], .int .i64 0])
           rw [HMM.out, HAR.out, HCS.out]
         · show SlN _ B tl.length cc tl
           rw [HMM.out]
           have h1 : ∀ b o, B = some ⟨b, o, none⟩ → w.heap.size + 1 + 1 + 1 < b := fun b o h => by have := HFR.out b o h; omega
           have h2 : ∀ b o, B = some ⟨b, o, none⟩ → w.heap.size + 1 + 1 + 1 + 1 < b := fun b o h => HFR.out b o h
           exact ((((((HSLG.out.setB h1).setB h1).setB h1).setB h1).setB h2).setB h2).setB h2
       · rw [if_neg he] at HRV
         have HTE := Hq (show tpN e l s k = ([], ⟨#[]⟩, 0) from tpN_err he l s k)
         clear HTT
         go_upto_region 11 with (fail)
         clear he
         obtain ⟨k0, k1, k2, k3⟩ := HX7.out.2.2.2.1.cells
         have kf := HX7.out.2.2.2.1.free
         obtain ⟨r0, r1, r2⟩ := HX7.out.2.2.2.2.1.c
         have rf := HX7.out.2.2.2.2.1.f
         have kf0 := kf 0
         have kf1 := kf 1
         have kf2 := kf 2
         have kf3 := kf 3
         have rf0 := rf 0
         have rf1 := rf 1
         have rf2 := rf 2
         obtain ⟨hq4, hq3, hqb⟩ := HX7.out.stored (.bool false) (.string ⟨#[]⟩) (.bool false) (.string ⟨#[]⟩) none 0 0 ⟨#[]⟩ 0
         obtain ⟨q0, q1, q2, q3⟩ := hq4.cells
         obtain ⟨p0, p1, p2⟩ := hq3.c
         have HQB := Hq hqb
         clear kf rf hq4 hq3 hqb
         go_wp2
         refine bodyPost_ret (v := .tuple #[.string ⟨#[]⟩, .agg #[.bool false, .string ⟨#[]⟩, .bool false, .string ⟨#[]⟩], .agg #[.slice none 0 0, .string ⟨#[]⟩, .int .i64 0], .int .i64 e]) (by simp [results, Tryz.results15, go_sem, q0, q1, q2, q3, p0, p1, p2]) rfl ?_
         show RetRn (rnN M O G H mb mt l s k) (tpN (rnN M O G H mb mt l s k).2.2.2 l s k) w _ _
         rw [HRV.out]
         show RetRn (0, 0, 0, e) (tpN e l s k) w _ _
         rw [HTE.out]
         exact ⟨none, 0, rfl, SlN.nil _ 0 (by omega) none, (fun b o h => by cases h), HQB.out⟩
    · obtain ⟨e, he⟩ : ∃ e, pkC M O G H = e := ⟨_, rfl⟩
      have HRV := Hq (show rnN M O G H mb mt l s k = (0, 0, 0, e) from by unfold rnN; rw [HK1.out, HK2.out, HK3.out, if_pos (by rfl), if_neg hc, he])
      rw [he] at hc ⊢
      have HTE := Hq (show tpN e l s k = ([], ⟨#[]⟩, 0) from tpN_err hc l s k)
      clear he
      go_upto_region 5 with (fail)
      clear hc
      obtain ⟨k0, k1, k2, k3⟩ := HX4.out.2.2.2.1.cells
      have kf := HX4.out.2.2.2.1.free
      obtain ⟨r0, r1, r2⟩ := HX4.out.2.2.2.2.1.c
      have rf := HX4.out.2.2.2.2.1.f
      have kf0 := kf 0
      have kf1 := kf 1
      have kf2 := kf 2
      have kf3 := kf 3
      have rf0 := rf 0
      have rf1 := rf 1
      have rf2 := rf 2
      obtain ⟨hq4, hq3, hqb⟩ := HX4.out.stored (.bool false) (.string ⟨#[]⟩) (.bool false) (.string ⟨#[]⟩) none 0 0 ⟨#[]⟩ 0
      obtain ⟨q0, q1, q2, q3⟩ := hq4.cells
      obtain ⟨p0, p1, p2⟩ := hq3.c
      have HQB := Hq hqb
      clear kf rf hq4 hq3 hqb
      go_wp2
      refine bodyPost_ret (v := .tuple #[.string ⟨#[]⟩, .agg #[.bool false, .string ⟨#[]⟩, .bool false, .string ⟨#[]⟩], .agg #[.slice none 0 0, .string ⟨#[]⟩, .int .i64 0], .int .i64 e]) (by simp [results, Tryz.results15, go_sem, q0, q1, q2, q3, p0, p1, p2]) rfl ?_
      show RetRn (rnN M O G H mb mt l s k) (tpN (rnN M O G H mb mt l s k).2.2.2 l s k) w _ _
      rw [HRV.out]
      show RetRn (0, 0, 0, e) (tpN e l s k) w _ _
      rw [HTE.out]
      exact ⟨none, 0, rfl, SlN.nil _ 0 (by omega) none, (fun b o h => by cases h), HQB.out⟩
end Go.Proofs.YtndmjfkmnjejkaaGreatDoor
namespace Go.Proofs.YtndmjfkmnjejkaaGreatDoor
set_option maxRecDepth 100000
set_option maxHeartbeats 1000000
open Go.RowKit
def KR (w W : World) (M O G H : ByteArray) (bb : Bool) (bt : ByteArray) : Prop :=
 KI w W M O G H bb bt ∧ Bx2 W (w.heap.size + 1 + 1) (.bool false) (.string ⟨#[]⟩) 28
theorem KR.new (w : World) (M O G H : ByteArray) (bb : Bool) (bt : ByteArray) : KR w (((w.alloc (.cells #[.string M, .string O, .string G, .string H] 26)).alloc (.cells #[.bool bb, .string bt] 28)).alloc (.cells #[.bool false, .string ⟨#[]⟩] 28)) M O G H bb bt := by
 refine ⟨(KI.new w M O G H bb bt).next ((Below.refl _ _).alloc (Nat.le_refl _) _), ?_⟩
 have := Bx2.new ((w.alloc (.cells #[.string M, .string O, .string G, .string H] 26)).alloc (.cells #[.bool bb, .string bt] 28)) (.bool false) (.string ⟨#[]⟩) 28
 rwa [World.size_alloc, World.size_alloc] at this
theorem KR.next {w W W' : World} {M O G H : ByteArray} {bb : Bool} {bt : ByteArray} (h : KR w W M O G H bb bt) (hb : Below W.heap.size W W') : KR w W' M O G H bb bt := ⟨h.1.next hb, h.2.next hb⟩
theorem r14_Reduce (o : Nat) (M G H : ByteArray) (z : Int) (ho : o < 256 ^ 128) (hz : z.natAbs < 256 ^ 128) (w : World) : Calls Tryz.prog 56 #[kV M (nS o) G H, intV z] w (Ret (intV (redZ o z)) w) := by
 rcases Nat.eq_zero_or_pos o with h0 | h0
 · subst h0
   rw [show redZ 0 z = z from rfl]
   have he : (nS 0).toList.isEmpty = true := sempty_true rfl
   unfold kV intV zV
   obtain ⟨O, hO⟩ : ∃ t, nS 0 = t := ⟨_, rfl⟩
   obtain ⟨bb, hbb⟩ : ∃ t, decide (z < 0) = t := ⟨_, rfl⟩
   obtain ⟨bt, hbt⟩ : ∃ t, nS z.natAbs = t := ⟨_, rfl⟩
   rw [hO] at he ⊢
   rw [hbb, hbt]
   clear hO hbb hbt ho hz
   go_enter Tryz.func56, Tryz.ntmps56
   have hk := KR.new w M O G H bb bt
   obtain ⟨W0, hW0⟩ : ∃ W, ((w.alloc (.cells #[.string M, .string O, .string G, .string H] 26)).alloc (.cells #[.bool bb, .string bt] 28)).alloc (.cells #[.bool false, .string ⟨#[]⟩] 28) = W := ⟨_, rfl⟩
   rw [hW0] at hk
   have HK := Hq hk
   obtain ⟨c0, c1, c2, c3⟩ := hk.1.1.cells
   have b0 := hk.1.2.1.c0
   have b1 := hk.1.2.1.c1
   have r0 := hk.2.c0
   have r1 := hk.2.c1
   have f0 := hk.2.f0
   have f1 := hk.2.f1
   clear hk
   go_wp2_with fail
   try rw [hW0]
   clear hW0
   obtain ⟨q0, q1⟩ := (⟨(HK.out.2.set2 (u := .bool bb) (v := .string bt)).c0, (HK.out.2.set2 (u := .bool bb) (v := .string bt)).c1⟩ : _ ∧ _)
   try go_wp2
   exact bodyPost_ret (v := .agg #[.bool bb, .string bt]) (by simp [results, Tryz.results56, go_sem, q0, q1]) rfl ⟨rfl, below_set2 HK.out.1.2.2 (by omega) _ _⟩
 · have he : (nS o).toList.isEmpty = false := empty_nS h0
   have HM := Hq (r02_Mod z o hz ho h0)
   have hlt : (z % (o : Int)).toNat < o := by
    have h1 := Int.emod_nonneg z (show (o : Int) ≠ 0 by omega)
    have h2 := Int.emod_lt_of_pos z (show (0 : Int) < (o : Int) by omega)
    omega
   have HFR := Hq (r02_From (z % (o : Int)).toNat (Nat.lt_trans hlt ho))
   have hrd : redZ o z = ((z % (o : Int)).toNat : Int) := by unfold redZ; rw [if_neg (by omega)]
   rw [hrd, intV_nat]
   rw [intV_nat] at HFR
   unfold kV intV zV at *
   obtain ⟨O, hO⟩ : ∃ t, nS o = t := ⟨_, rfl⟩
   obtain ⟨bb, hbb⟩ : ∃ t, decide (z < 0) = t := ⟨_, rfl⟩
   obtain ⟨bt, hbt⟩ : ∃ t, nS z.natAbs = t := ⟨_, rfl⟩
   obtain ⟨rt, hrt⟩ : ∃ t, nS (z % (o : Int)).toNat = t := ⟨_, rfl⟩
   rw [hO] at he HM ⊢
   rw [hbb, hbt, hrt] at HM
   rw [hrt] at HFR
   rw [hbb, hbt, hrt]
   clear hO hbb hbt hrt ho hz hrd hlt h0
   go_enter Tryz.func56, Tryz.ntmps56
   have hk := KR.new w M O G H bb bt
   obtain ⟨W0, hW0⟩ : ∃ W, ((w.alloc (.cells #[.string M, .string O, .string G, .string H] 26)).alloc (.cells #[.bool bb, .string bt] 28)).alloc (.cells #[.bool false, .string ⟨#[]⟩] 28) = W := ⟨_, rfl⟩
   rw [hW0] at hk
   have HK := Hq hk
   obtain ⟨c0, c1, c2, c3⟩ := hk.1.1.cells
   have b0 := hk.1.2.1.c0
   have b1 := hk.1.2.1.c1
   have r0 := hk.2.c0
   have r1 := hk.2.c1
   have f0 := hk.2.f0
   have f1 := hk.2.f1
   clear hk
   go_wp2_with fail
   try rw [hW0]
   clear hW0
   refine (HM.out _).mono ?_
   rintro ev w1 ⟨rfl, hb⟩
   have hk := HK.out.next hb
   have HK := Hq hk
   clear hb c0 c1 c2 c3 b0 b1 r0 r1 f0 f1
   obtain ⟨c0, c1, c2, c3⟩ := hk.1.1.cells
   have b0 := hk.1.2.1.c0
   have b1 := hk.1.2.1.c1
   have r0 := hk.2.c0
   have r1 := hk.2.c1
   have f0 := hk.2.f0
   have f1 := hk.2.f1
   clear hk
   go_wp2_with fail
   refine (HFR.out _).mono ?_
   rintro ev w2 ⟨rfl, hb⟩
   have hk := HK.out.next hb
   have HK := Hq hk
   clear hb c0 c1 c2 c3 b0 b1 r0 r1 f0 f1
   obtain ⟨c0, c1, c2, c3⟩ := hk.1.1.cells
   have b0 := hk.1.2.1.c0
   have b1 := hk.1.2.1.c1
   have r0 := hk.2.c0
   have r1 := hk.2.c1
   have f0 := hk.2.f0
   have f1 := hk.2.f1
   clear hk
   go_wp2
   obtain ⟨q0, q1⟩ := (⟨(HK.out.2.set2 (u := .bool false) (v := .string rt)).c0, (HK.out.2.set2 (u := .bool false) (v := .string rt)).c1⟩ : _ ∧ _)
   exact bodyPost_ret (v := .agg #[.bool false, .string rt]) (by simp [results, Tryz.results56, go_sem, q0, q1]) rfl ⟨rfl, below_set2 HK.out.1.2.2 (by omega) _ _⟩
end Go.Proofs.YtndmjfkmnjejkaaGreatDoor
namespace Go.Proofs.YtndmjfkmnjejkaaGreatDoor
set_option maxRecDepth 100000
set_option maxHeartbeats 8000000
open Go.RowKit Go.Lib
theorem r14_Random (M O G H : ByteArray) (mb : Bool) (mt : ByteArray) (l : List ByteArray) (s : ByteArray) (k : Int) (A : Option Addr) (n cap : Nat) (hM : M.size ≤ 8) (hO : O.size ≤ 8) (hG : G.size ≤ 1000) (hH : H.size ≤ 1000) (hmt : mt.size ≤ 1000) (hn : n ≤ 1000) (hp : ∀ x ∈ l, x.size ≤ 9223372036854775807) (hs64 : s.size ≤ 1000000) (w : World) (hs : SlN w A n cap l) :
 Calls Tryz.prog 16 #[kV M O G H, zV mb mt, tpV A n cap s k] w (RetRn (rnN M O G H mb mt l s k) (tpN (rnN M O G H mb mt l s k).2.2.2 l s k) w) := by
 have hx0 := PB.new w M O G H mb mt A n cap s k
 obtain ⟨W0, hW0⟩ : ∃ W, ((((w.alloc (.cells #[.string M, .string O, .string G, .string H] 26)).alloc (.cells #[.bool mb, .string mt] 28)).alloc (.cells #[.slice A n cap, .string s, .int .i64 k] 31)).alloc (.cells #[.bool false, .string ⟨#[]⟩, .bool false, .string ⟨#[]⟩] 37)).alloc (.cells #[.slice none 0 0, .string ⟨#[]⟩, .int .i64 0] 31) = W := ⟨_, rfl⟩
 rw [hW0] at hx0
 have HX0 := Hq hx0
 have HSL0 := Hq hs
 have HKF := Hq (r14_form M O G H (by omega) (by omega) hG hH)
 have HZV := Hq (r02_Valid mb mt (by omega))
 have HTP := Hq (fun W hs => r06_Good l s k A n cap W hs hn hp)
 have HCK := Hq (r14_Check M O G H hM hO hG hH)
 have HHY := Hq (And.intro (And.intro hM hO) (And.intro (And.intro hG hH) (And.intro (And.intro hn hs64) hp)))
 obtain ⟨g0, g1, g2, g3⟩ := HX0.out.1.cells
 have i0 := HX0.out.2.1.c0
 have i1 := HX0.out.2.1.c1
 obtain ⟨c0, c1, c2⟩ := HX0.out.2.2.1.c
 unfold tpV kV zV at *
 clear hx0 hs hM hO hG hH hmt hn hs64 hp
 go_enter Tryz.func16, Tryz.ntmps16
 go_wp2_with fail
 try rw [hW0]
 clear hW0
 refine (HKF.out _).mono ?_
 rintro ev w1 ⟨rfl, hb⟩
 have HX1 := Hq (HX0.out.next hb)
 clear hb g0 g1 g2 g3 i0 i1 c0 c1 c2
 obtain ⟨g0, g1, g2, g3⟩ := HX1.out.1.cells
 have i0 := HX1.out.2.1.c0
 have i1 := HX1.out.2.1.c1
 obtain ⟨c0, c1, c2⟩ := HX1.out.2.2.1.c
 cases hkf : kF M O G H with
 | false =>
  have HRV := Hq (show rnN M O G H mb mt l s k = (0, 0, 0, 3) from by unfold rnN; rw [hkf, Bool.false_and, if_neg (by decide)])
  have HTE := Hq (show tpN 3 l s k = ([], ⟨#[]⟩, 0) from tpN_err (by decide) l s k)
  clear hkf
  obtain ⟨k0, k1, k2, k3⟩ := HX1.out.2.2.2.1.cells
  have kf := HX1.out.2.2.2.1.free
  obtain ⟨r0, r1, r2⟩ := HX1.out.2.2.2.2.1.c
  have rf := HX1.out.2.2.2.2.1.f
  have kf0 := kf 0
  have kf1 := kf 1
  have kf2 := kf 2
  have kf3 := kf 3
  have rf0 := rf 0
  have rf1 := rf 1
  have rf2 := rf 2
  obtain ⟨hq4, hq3, hqb⟩ := HX1.out.stored (.bool false) (.string ⟨#[]⟩) (.bool false) (.string ⟨#[]⟩) none 0 0 ⟨#[]⟩ 0
  obtain ⟨q0, q1, q2, q3⟩ := hq4.cells
  obtain ⟨p0, p1, p2⟩ := hq3.c
  have HQB := Hq hqb
  clear kf rf hq4 hq3 hqb
  go_wp2
  refine bodyPost_ret (v := .tuple #[.string ⟨#[]⟩, .agg #[.bool false, .string ⟨#[]⟩, .bool false, .string ⟨#[]⟩], .agg #[.slice none 0 0, .string ⟨#[]⟩, .int .i64 0], .int .i64 3]) (by simp [results, Tryz.results16, go_sem, q0, q1, q2, q3, p0, p1, p2]) rfl ?_
  show RetRn (rnN M O G H mb mt l s k) (tpN (rnN M O G H mb mt l s k).2.2.2 l s k) w _ _
  rw [HRV.out]
  show RetRn (0, 0, 0, 3) (tpN 3 l s k) w _ _
  rw [HTE.out]
  exact ⟨none, 0, rfl, SlN.nil _ 0 (by omega) none, (fun b o h => by cases h), HQB.out⟩
 | true =>
  have HK1 := Hq hkf
  clear hkf
  go_wp2_with fail
  refine (HZV.out _).mono ?_
  rintro ev w2 ⟨rfl, hb⟩
  have HX2 := Hq (HX1.out.next hb)
  clear hb g0 g1 g2 g3 i0 i1 c0 c1 c2
  obtain ⟨g0, g1, g2, g3⟩ := HX2.out.1.cells
  have i0 := HX2.out.2.1.c0
  have i1 := HX2.out.2.1.c1
  obtain ⟨c0, c1, c2⟩ := HX2.out.2.2.1.c
  cases hzv : zvalid mb mt with
  | false =>
   have HRV := Hq (show rnN M O G H mb mt l s k = (0, 0, 0, 3) from by unfold rnN; rw [hzv, Bool.false_and, Bool.and_false, if_neg (by decide)])
   have HTE := Hq (show tpN 3 l s k = ([], ⟨#[]⟩, 0) from tpN_err (by decide) l s k)
   clear hzv
   obtain ⟨k0, k1, k2, k3⟩ := HX2.out.2.2.2.1.cells
   have kf := HX2.out.2.2.2.1.free
   obtain ⟨r0, r1, r2⟩ := HX2.out.2.2.2.2.1.c
   have rf := HX2.out.2.2.2.2.1.f
   have kf0 := kf 0
   have kf1 := kf 1
   have kf2 := kf 2
   have kf3 := kf 3
   have rf0 := rf 0
   have rf1 := rf 1
   have rf2 := rf 2
   obtain ⟨hq4, hq3, hqb⟩ := HX2.out.stored (.bool false) (.string ⟨#[]⟩) (.bool false) (.string ⟨#[]⟩) none 0 0 ⟨#[]⟩ 0
   obtain ⟨q0, q1, q2, q3⟩ := hq4.cells
   obtain ⟨p0, p1, p2⟩ := hq3.c
   have HQB := Hq hqb
   clear kf rf hq4 hq3 hqb
   go_wp2
   refine bodyPost_ret (v := .tuple #[.string ⟨#[]⟩, .agg #[.bool false, .string ⟨#[]⟩, .bool false, .string ⟨#[]⟩], .agg #[.slice none 0 0, .string ⟨#[]⟩, .int .i64 0], .int .i64 3]) (by simp [results, Tryz.results16, go_sem, q0, q1, q2, q3, p0, p1, p2]) rfl ?_
   show RetRn (rnN M O G H mb mt l s k) (tpN (rnN M O G H mb mt l s k).2.2.2 l s k) w _ _
   rw [HRV.out]
   show RetRn (0, 0, 0, 3) (tpN 3 l s k) w _ _
   rw [HTE.out]
   exact ⟨none, 0, rfl, SlN.nil _ 0 (by omega) none, (fun b o h => by cases h), HQB.out⟩
  | true =>
   have HK2 := Hq hzv
   clear hzv
   have HTU := Hq (HTP.out _ (HSL0.out.kept HX2.out.2.2.2.2.2 (Nat.le_refl _)))
   go_wp2_with fail
   refine HTU.out.mono ?_
   rintro ev w3 ⟨rfl, hb⟩
   have HX3 := Hq (HX2.out.next hb)
   clear hb g0 g1 g2 g3 i0 i1 c0 c1 c2
   obtain ⟨g0, g1, g2, g3⟩ := HX3.out.1.cells
   have i0 := HX3.out.2.1.c0
   have i1 := HX3.out.2.1.c1
   obtain ⟨c0, c1, c2⟩ := HX3.out.2.2.1.c
   cases htg : tpG l k with
   | false =>
    have HRV := Hq (show rnN M O G H mb mt l s k = (0, 0, 0, 3) from by unfold rnN; rw [htg, Bool.and_false, Bool.and_false, if_neg (by decide)])
    have HTE := Hq (show tpN 3 l s k = ([], ⟨#[]⟩, 0) from tpN_err (by decide) l s k)
    clear htg
    obtain ⟨k0, k1, k2, k3⟩ := HX3.out.2.2.2.1.cells
    have kf := HX3.out.2.2.2.1.free
    obtain ⟨r0, r1, r2⟩ := HX3.out.2.2.2.2.1.c
    have rf := HX3.out.2.2.2.2.1.f
    have kf0 := kf 0
    have kf1 := kf 1
    have kf2 := kf 2
    have kf3 := kf 3
    have rf0 := rf 0
    have rf1 := rf 1
    have rf2 := rf 2
    obtain ⟨hq4, hq3, hqb⟩ := HX3.out.stored (.bool false) (.string ⟨#[]⟩) (.bool false) (.string ⟨#[]⟩) none 0 0 ⟨#[]⟩ 0
    obtain ⟨q0, q1, q2, q3⟩ := hq4.cells
    obtain ⟨p0, p1, p2⟩ := hq3.c
    have HQB := Hq hqb
    clear kf rf hq4 hq3 hqb
    go_wp2
    refine bodyPost_ret (v := .tuple #[.string ⟨#[]⟩, .agg #[.bool false, .string ⟨#[]⟩, .bool false, .string ⟨#[]⟩], .agg #[.slice none 0 0, .string ⟨#[]⟩, .int .i64 0], .int .i64 3]) (by simp [results, Tryz.results16, go_sem, q0, q1, q2, q3, p0, p1, p2]) rfl ?_
    show RetRn (rnN M O G H mb mt l s k) (tpN (rnN M O G H mb mt l s k).2.2.2 l s k) w _ _
    rw [HRV.out]
    show RetRn (0, 0, 0, 3) (tpN 3 l s k) w _ _
    rw [HTE.out]
    exact ⟨none, 0, rfl, SlN.nil _ 0 (by omega) none, (fun b o h => by cases h), HQB.out⟩
   | true =>
    have HK3 := Hq htg
    clear htg
    go_wp2_with fail
    refine (HCK.out _).mono ?_
    rintro ev w4 ⟨rfl, hb⟩
    have HX4 := Hq (HX3.out.next hb)
    clear hb g0 g1 g2 g3 i0 i1 c0 c1 c2
    obtain ⟨g0, g1, g2, g3⟩ := HX4.out.1.cells
    have i0 := HX4.out.2.1.c0
    have i1 := HX4.out.2.1.c1
    obtain ⟨c0, c1, c2⟩ := HX4.out.2.2.1.c
    by_cases hc : pkC M O G H = 0
    · rw [hc]
      obtain ⟨⟨hM, hO⟩, ⟨hG, hH⟩, ⟨hn, hs64⟩, hp⟩ := HHY.out
      have hkf := HK1.out
      have hzv := HK2.out
      have htg := HK3.out
      have hv4 : nvalid M = true ∧ nvalid O = true ∧ nvalid G = true ∧ nvalid H = true := by
       unfold kF at hkf
       simp only [Bool.and_eq_true] at hkf
       exact ⟨hkf.1.1.1, hkf.1.1.2, hkf.1.2, hkf.2⟩
      have vO := hv4.2.1
      have hB32 : (rnB M O).size ≤ 32 := by unfold rnB; split <;> omega
      have HDD := Hq (fun W (hb : Below w.heap.size w W) hs => r06_Below l s k (rnB M O) A n cap hn hp hs64 hB32 W hs)
      obtain ⟨rr, hr⟩ : ∃ r, coN l s k (rnB M O) = r := ⟨_, rfl⟩
      have HRV := Hq (show rnN M O G H mb mt l s k = (if rr.2 = 0 then (cmN (num M) (num G) (num H) (rnZ O mb mt) rr.1, rnZ O mb mt, rr.1, 0) else (0, 0, 0, rr.2)) from by
       unfold rnN; rw [hkf, hzv, htg, if_pos (by rfl), if_pos hc, hr])
      have HFX := Hq (rn_facts (G := G) (H := H) (l := l) (s := s) (k := k) hM hO hzv vO)
      have HCC := Hq (And.intro hc vO)
      rw [hr] at HDD HFX
      obtain ⟨x, e⟩ := rr
      simp only [] at HRV HDD HFX
      obtain ⟨cz, hcz⟩ : ∃ z, nS x = z := ⟨_, rfl⟩
      have HCZ := Hq hcz
      obtain ⟨t, htp⟩ : ∃ t, tpN e l s k = t := ⟨_, rfl⟩
      have HTT := Hq htp
      obtain ⟨tl, ts, tk⟩ := t
      rw [htp] at HDD
      obtain ⟨m, hmm⟩ : ∃ m, tl.length = m := ⟨_, rfl⟩
      have HMM := Hq hmm
      unfold tpV at HDD
      clear hM hO hG hH hn hs64 hp hkf hzv htg hv4 vO hB32 hr hcz htp hmm hc
      go_upto_if 44 with (fail)
      go_cut [11] (fun b wx => b = .string (rnB M O) ∧ wx = w4)
      case first =>
       go_wp2
       all_goals
        go_meet
        first
        | exact ⟨by unfold rnB; rw [if_pos (by assumption)], rfl⟩
        | exact ⟨by unfold rnB; rw [if_neg (by simp [*])], rfl⟩
      case rest =>
       obtain ⟨hq1, hq2⟩ := hcut
       rw [hq1, hq2]
       obtain ⟨bd, hbd⟩ : ∃ b, rnB M O = b := ⟨_, rfl⟩
       rw [hbd] at HDD ⊢
       clear hq1 hq2 hbd
       have HDW := Hq (HDD.out w4 HX4.out.2.2.2.2.2 (HSL0.out.kept HX4.out.2.2.2.2.2 (Nat.le_refl _)))
       go_wp2_with fail
       refine HDW.out.mono ?_
       rintro ev w6 ⟨B, cc, rfl, hsl, hfr, hb⟩
       simp only [] at hsl ⊢
       rw [HMM.out] at hsl ⊢
       rw [HCZ.out]
       have HSL6 := Hq hsl
       have HFR := Hq (show ∀ b o, B = some ⟨b, o, none⟩ → w.heap.size + 1 + 1 + 1 + 1 < b from fun b o h => Nat.lt_of_lt_of_le HX4.out.2.2.2.2.1.lt (hfr b o h))
       clear hsl hfr
       have HX6 := Hq (HX4.out.next hb)
       clear hb g0 g1 g2 g3 i0 i1 c0 c1 c2
       obtain ⟨g0, g1, g2, g3⟩ := HX6.out.1.cells
       have i0 := HX6.out.2.1.c0
       have i1 := HX6.out.2.1.c1
       obtain ⟨c0, c1, c2⟩ := HX6.out.2.2.1.c
       go_upto_region 10 with (fail)
       have ht7 := TB.new w6 B m cc ts tk
       have hb7 := (Below.refl w6.heap.size w6).alloc (Nat.le_refl _) (.cells #[.slice B m cc, .string ts, .int .i64 tk] 31)
       obtain ⟨W7, hW7⟩ : ∃ W, w6.alloc (.cells #[.slice B m cc, .string ts, .int .i64 tk] 31) = W := ⟨_, rfl⟩
       rw [hW7] at ht7 hb7 ⊢
       have HX7 := Hq (HX6.out.next hb7)
       have HSL7 := Hq (HSL6.out.kept hb7 (Nat.le_refl _))
       have HLP := Hq (show w.heap.size + 1 + 1 + 1 + 1 < w6.heap.size from HX6.out.2.2.2.2.1.lt)
       obtain ⟨P7, hP7⟩ : ∃ P, w6.heap.size = P := ⟨_, rfl⟩
       rw [hP7] at ht7 HLP ⊢
       have HT7 := Hq ht7
       clear ht7 hb7 hW7 hP7 g0 g1 g2 g3 i0 i1 c0 c1 c2
       obtain ⟨g0, g1, g2, g3⟩ := HX7.out.1.cells
       have i0 := HX7.out.2.1.c0
       have i1 := HX7.out.2.1.c1
       obtain ⟨c0, c1, c2⟩ := HX7.out.2.2.1.c
       by_cases he : e = 0
       · subst he
         obtain ⟨⟨hM, hO⟩, ⟨hG, hH⟩, _⟩ := HHY.out
         obtain ⟨hc, vO⟩ := HCC.out
         have hzv := HK2.out
         obtain ⟨f1, f2, f3, f4, f5⟩ := HFX.out rfl
         have lx : x < 256 ^ 128 := lt128_of_lt8 f1
         have lO := nvalid_lt vO
         have HFM := Hq (fun w => r02_From x lx w)
         rw [show intV (x : Int) = .agg #[.bool false, .string (nS x)] from by unfold intV zV; rw [Int.natAbs_natCast, decide_eq_false (by omega)]] at HFM
         have HRD := Hq (fun w => r14_Reduce (num O) M G H (sg mb (num mt)) lO f5 w)
         rw [← nS_num vO, show redZ (num O) (sg mb (num mt)) = rnZ O mb mt from rfl, ← f4] at HRD
         obtain ⟨z, hz⟩ : ∃ z, rnZ O mb mt = z := ⟨_, rfl⟩
         rw [hz] at HRD HRV f3
         obtain ⟨vb, hvb⟩ : ∃ b, decide (z < 0) = b := ⟨_, rfl⟩
         obtain ⟨vt, hvt⟩ : ∃ t, nS z.natAbs = t := ⟨_, rfl⟩
         have har : arV z (x : Int) = .agg #[.bool vb, .string vt, .bool false, .string (nS x)] := by
          unfold arV
          rw [hvb, hvt, Int.natAbs_natCast, decide_eq_false (by omega)]
         rw [show intV z = .agg #[.bool vb, .string vt] from by unfold intV zV; rw [hvb, hvt]] at HRD
         rw [HCZ.out] at har HFM
         have HAR := Hq har
         have hvs : vt.size ≤ 1000 := by rw [← hvt]; have := nS_size_le.2 f3; omega
         have hxs : cz.size ≤ 1000 := by rw [← HCZ.out]; have := nS_size_le.2 lx; omega
         have hcm := cm_int hc (v := z) (r := (x : Int)) f3 (by rw [Int.natAbs_natCast]; exact lx)
         rw [hvb, hvt, Int.natAbs_natCast, decide_eq_false (show ¬ (x : Int) < 0 by omega), HCZ.out] at hcm
         have HCM := Hq (r14_Commit M O G H vb vt false cz hM hO hG hH hvs hxs)
         rw [hcm] at HCM
         obtain ⟨C, hC⟩ : ∃ C, cmN (num M) (num G) (num H) z x = C := ⟨_, rfl⟩
         rw [hC] at HCM HRV
         obtain ⟨cs, hcs⟩ : ∃ c, nS C = c := ⟨_, rfl⟩
         rw [hcs] at HCM
         have HCS := Hq hcs
         simp only [if_true] at HRV
         unfold oV kV at HCM
         unfold kV zV at HRD
         clear hM hO hG hH hc vO hzv f1 f2 f3 f4 f5 lx lO hz hvb hvt har hvs hxs hcm hC hcs
         go_wp2_with fail
         refine (HRD.out _).mono ?_
         rintro ev w8 ⟨rfl, hb⟩
         have HT8 := Hq (HT7.out.nextT hb)
         have HSL8 := Hq (HSL7.out.kept hb (Nat.le_refl _))
         have HX8 := Hq (HX7.out.next hb)
         clear hb g0 g1 g2 g3 i0 i1 c0 c1 c2
         obtain ⟨g0, g1, g2, g3⟩ := HX8.out.1.cells
         have i0 := HX8.out.2.1.c0
         have i1 := HX8.out.2.1.c1
         obtain ⟨c0, c1, c2⟩ := HX8.out.2.2.1.c
         go_wp2_with fail
         refine (HFM.out _).mono ?_
         rintro ev w9 ⟨rfl, hb⟩
         have HT9 := Hq (HT8.out.nextT hb)
         have HSL9 := Hq (HSL8.out.kept hb (Nat.le_refl _))
         have HX9 := Hq (HX8.out.next hb)
         clear hb g0 g1 g2 g3 i0 i1 c0 c1 c2
         obtain ⟨g0, g1, g2, g3⟩ := HX9.out.1.cells
         have i0 := HX9.out.2.1.c0
         have i1 := HX9.out.2.1.c1
         obtain ⟨c0, c1, c2⟩ := HX9.out.2.2.1.c
         go_upto_region 13 with (fail)
         have hp9 := Bx4.new w9 (.bool vb) (.string vt) (.bool false) (.string cz) 37
         have hb9 := (Below.refl w9.heap.size w9).alloc (Nat.le_refl _) (.cells #[.bool vb, .string vt, .bool false, .string cz] 37)
         obtain ⟨W9, hW9⟩ : ∃ W, w9.alloc (.cells #[.bool vb, .string vt, .bool false, .string cz] 37) = W := ⟨_, rfl⟩
         rw [hW9] at hp9 hb9 ⊢
         have HXA := Hq (HX9.out.next hb9)
         have HTA := Hq (HT9.out.nextT hb9)
         have HSLA := Hq (HSL9.out.kept hb9 (Nat.le_refl _))
         have HLG := Hq (show w.heap.size + 1 + 1 + 1 + 1 < w9.heap.size from HX9.out.2.2.2.2.1.lt)
         obtain ⟨GB, hGB⟩ : ∃ P, w9.heap.size = P := ⟨_, rfl⟩
         rw [hGB] at hp9 HLG ⊢
         have HK9 := Hq hp9
         clear hp9 hb9 hW9 hGB g0 g1 g2 g3 i0 i1 c0 c1 c2
         obtain ⟨z0, z1, z2, z3⟩ := HK9.out.cells
         obtain ⟨g0, g1, g2, g3⟩ := HXA.out.1.cells
         go_wp2_with fail
         refine (HCM.out _).mono ?_
         rintro ev w10 ⟨rfl, hb⟩
         have HX10 := Hq (HXA.out.next hb)
         have HT10 := Hq (HTA.out.nextT hb)
         have HSL10 := Hq (HSLA.out.kept hb (Nat.le_refl _))
         have HK10 := Hq (HK9.out.next hb)
         clear hb z0 z1 z2 z3 g0 g1 g2 g3
         go_wp2
         obtain ⟨wg, hwg⟩ : ∃ wg, w10.drew = wg := ⟨_, rfl⟩
         have hbg : Below w10.heap.size w10 wg := by rw [← hwg]; exact (Below.refl _ _).drew
         have HXG := Hq (HX10.out.next hbg)
         have HS0 := Hq (show Below w.heap.size w wg ∧ Bx4 wg GB (.bool vb) (.string vt) (.bool false) (.string cz) 37 ∧ TB wg P7 B m cc ts tk from ⟨(HX10.out.next hbg).2.2.2.2.2, HK10.out.next hbg, HT10.out.nextT hbg⟩)
         have HSLG := Hq (HSL10.out.kept hbg (Nat.le_refl _))
         clear hbg
         obtain ⟨k0, k1, k2, k3⟩ := HXG.out.2.2.2.1.cells
         have kf := HXG.out.2.2.2.1.free
         obtain ⟨r0, r1, r2⟩ := HXG.out.2.2.2.2.1.c
         have rf := HXG.out.2.2.2.2.1.f
         have kf0 := kf 0
         have kf1 := kf 1
         have kf2 := kf 2
         have kf3 := kf 3
         have rf0 := rf 0
         have rf1 := rf 1
         have rf2 := rf 2
         clear kf rf
         refine wp_region_K 7 (fun W' => Below w.heap.size w W' ∧ Bx4 W' GB (.bool vb) (.string vt) (.bool false) (.string cz) 37 ∧ TB W' P7 B m cc ts tk) (by kernel_rfl) ?_
         intro hD
         rw [hwg]
         have KK1 := Hq (fun w' (hS' : (fun W' => Below w.heap.size w W' ∧ Bx4 W' GB (.bool vb) (.string vt) (.bool false) (.string cz) 37 ∧ TB W' P7 B m cc ts tk) w') => And.intro (hS'.2.1.cells.1) (And.intro (hS'.2.1.cells.2.1) (And.intro (hS'.2.1.cells.2.2.1) (And.intro (hS'.2.1.cells.2.2.2) (And.intro (hS'.2.2.c.1) (And.intro (hS'.2.2.c.2.1) (hS'.2.2.c.2.2)))))))
         refine rP 0 72 6 rfl hD HS0.out ?_; clear hD; intro hD; simp only [Act.put, sqA, sqB, sqC]
         refine rT 1 73 5 rfl hD HS0.out (by intro w' hS'; obtain ⟨e0, e1, e2, e3, e4, e5, e6⟩ := KK1.out w' hS'; go_simp; with_reducible rfl) ?_; clear hD; intro hD; simp only [Act.put, sqA, sqB, sqC]
         refine rT 2 74 4 rfl hD HS0.out (by intro w' hS'; obtain ⟨e0, e1, e2, e3, e4, e5, e6⟩ := KK1.out w' hS'; go_simp; with_reducible rfl) ?_; clear hD; intro hD; simp only [Act.put, sqA, sqB, sqC]
         refine rO 3 3 rfl hD ?_; clear hD; intro K3 hK3
         go_wp2
         refine hK3 _ _ (by exact HS0.out) ?_; clear hK3; intro hS_14_3 hD
         refine rO 4 2 rfl hD ?_; clear hD; intro K4 hK4
         go_wp2
         refine hK4 _ _ (by exact ⟨below_set4 (hS_14_3).1 (by omega) _ _ _ _, bx4_off4 (hS_14_3).2.1 (by have := HLG.out; omega), (hS_14_3).2.2.off4 (by have := HLP.out; omega)⟩) ?_; clear hK4; intro hS_14_4 hD
         refine rO 5 1 rfl hD ?_; clear hD; intro K5 hK5
         go_wp2
         refine hK5 _ _ (by exact ⟨below_set3 (hS_14_4).1 (by omega) _ _ _, (hS_14_4).2.1.off3 (by have := HLG.out; omega), (((hS_14_4).2.2.off (by have := HLP.out; omega) _).off (by have := HLP.out; omega) _).off (by have := HLP.out; omega) _⟩) ?_; clear hK5; intro hS_14_5 hD
         refine rO 6 0 rfl hD ?_; clear hD; intro K6 hK6
         go_wp2
         refine hK6 _ _ (by exact hS_14_5) ?_; clear hK6; intro hS_14_6 hD
         refine wpAnyK_done (by kernel_rfl) ?_ 0
         clear hD k0 k1 k2 k3 kf0 kf1 kf2 kf3 r0 r1 r2 rf0 rf1 rf2
         obtain ⟨hq4, hq3, hqb⟩ := HXG.out.stored (.bool vb) (.string vt) (.bool false) (.string cz) B m cc ts tk
         obtain ⟨q0, q1, q2, q3⟩ := hq4.cells
         obtain ⟨p0, p1, p2⟩ := hq3.c
         have HQB := Hq hqb
         clear hq4 hq3 hqb
         go_wp2
         refine bodyPost_ret (v := .tuple #[.string cs, .agg #[.bool vb, .string vt, .bool false, .string cz], .agg #[.slice B m cc, .string ts, .int .i64 tk], .int .i64 0]) (by simp [results, Tryz.results16, go_sem, q0, q1, q2, q3, p0, p1, p2]) rfl ?_
         show RetRn (rnN M O G H mb mt l s k) (tpN (rnN M O G H mb mt l s k).2.2.2 l s k) w _ _
         rw [HRV.out]
         show RetRn (C, z, x, 0) (tpN 0 l s k) w _ _
         rw [HTT.out]
         refine ⟨B, cc, ?_, ?_, (fun b o h => by have := HFR.out b o h; omega), HQB.out⟩
         · show _ = Ending.returned (.tuple #[.string (nS C), arV z (x : Int), .agg #[.slice B tl.length cc, .string ts, .int .i64 tk], .int .i64 0])
           rw [HMM.out, HAR.out, HCS.out]
         · show SlN _ B tl.length cc tl
           rw [HMM.out]
           have h1 : ∀ b o, B = some ⟨b, o, none⟩ → w.heap.size + 1 + 1 + 1 < b := fun b o h => by have := HFR.out b o h; omega
           have h2 : ∀ b o, B = some ⟨b, o, none⟩ → w.heap.size + 1 + 1 + 1 + 1 < b := fun b o h => HFR.out b o h
           exact ((((((HSLG.out.setB h1).setB h1).setB h1).setB h1).setB h2).setB h2).setB h2
       · rw [if_neg he] at HRV
         have HTE := Hq (show tpN e l s k = ([], ⟨#[]⟩, 0) from tpN_err he l s k)
         clear HTT
         go_upto_region 11 with (fail)
         clear he
         obtain ⟨k0, k1, k2, k3⟩ := HX7.out.2.2.2.1.cells
         have kf := HX7.out.2.2.2.1.free
         obtain ⟨r0, r1, r2⟩ := HX7.out.2.2.2.2.1.c
         have rf := HX7.out.2.2.2.2.1.f
         have kf0 := kf 0
         have kf1 := kf 1
         have kf2 := kf 2
         have kf3 := kf 3
         have rf0 := rf 0
         have rf1 := rf 1
         have rf2 := rf 2
         obtain ⟨hq4, hq3, hqb⟩ := HX7.out.stored (.bool false) (.string ⟨#[]⟩) (.bool false) (.string ⟨#[]⟩) none 0 0 ⟨#[]⟩ 0
         obtain ⟨q0, q1, q2, q3⟩ := hq4.cells
         obtain ⟨p0, p1, p2⟩ := hq3.c
         have HQB := Hq hqb
         clear kf rf hq4 hq3 hqb
         go_wp2
         refine bodyPost_ret (v := .tuple #[.string ⟨#[]⟩, .agg #[.bool false, .string ⟨#[]⟩, .bool false, .string ⟨#[]⟩], .agg #[.slice none 0 0, .string ⟨#[]⟩, .int .i64 0], .int .i64 e]) (by simp [results, Tryz.results16, go_sem, q0, q1, q2, q3, p0, p1, p2]) rfl ?_
         show RetRn (rnN M O G H mb mt l s k) (tpN (rnN M O G H mb mt l s k).2.2.2 l s k) w _ _
         rw [HRV.out]
         show RetRn (0, 0, 0, e) (tpN e l s k) w _ _
         rw [HTE.out]
         exact ⟨none, 0, rfl, SlN.nil _ 0 (by omega) none, (fun b o h => by cases h), HQB.out⟩
    · obtain ⟨e, he⟩ : ∃ e, pkC M O G H = e := ⟨_, rfl⟩
      have HRV := Hq (show rnN M O G H mb mt l s k = (0, 0, 0, e) from by unfold rnN; rw [HK1.out, HK2.out, HK3.out, if_pos (by rfl), if_neg hc, he])
      rw [he] at hc ⊢
      have HTE := Hq (show tpN e l s k = ([], ⟨#[]⟩, 0) from tpN_err hc l s k)
      clear he
      go_upto_region 5 with (fail)
      clear hc
      obtain ⟨k0, k1, k2, k3⟩ := HX4.out.2.2.2.1.cells
      have kf := HX4.out.2.2.2.1.free
      obtain ⟨r0, r1, r2⟩ := HX4.out.2.2.2.2.1.c
      have rf := HX4.out.2.2.2.2.1.f
      have kf0 := kf 0
      have kf1 := kf 1
      have kf2 := kf 2
      have kf3 := kf 3
      have rf0 := rf 0
      have rf1 := rf 1
      have rf2 := rf 2
      obtain ⟨hq4, hq3, hqb⟩ := HX4.out.stored (.bool false) (.string ⟨#[]⟩) (.bool false) (.string ⟨#[]⟩) none 0 0 ⟨#[]⟩ 0
      obtain ⟨q0, q1, q2, q3⟩ := hq4.cells
      obtain ⟨p0, p1, p2⟩ := hq3.c
      have HQB := Hq hqb
      clear kf rf hq4 hq3 hqb
      go_wp2
      refine bodyPost_ret (v := .tuple #[.string ⟨#[]⟩, .agg #[.bool false, .string ⟨#[]⟩, .bool false, .string ⟨#[]⟩], .agg #[.slice none 0 0, .string ⟨#[]⟩, .int .i64 0], .int .i64 e]) (by simp [results, Tryz.results16, go_sem, q0, q1, q2, q3, p0, p1, p2]) rfl ?_
      show RetRn (rnN M O G H mb mt l s k) (tpN (rnN M O G H mb mt l s k).2.2.2 l s k) w _ _
      rw [HRV.out]
      show RetRn (0, 0, 0, e) (tpN e l s k) w _ _
      rw [HTE.out]
      exact ⟨none, 0, rfl, SlN.nil _ 0 (by omega) none, (fun b o h => by cases h), HQB.out⟩
end Go.Proofs.YtndmjfkmnjejkaaGreatDoor

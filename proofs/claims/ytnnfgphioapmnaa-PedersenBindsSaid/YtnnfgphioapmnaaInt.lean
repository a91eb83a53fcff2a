/- Walks: package integer, its plain parts. -/
import Derived.Test.YtnnfgphioapmnaaMdA
import Derived.Test.YtnnfgphioapmnaaNaE
set_option linter.unusedVariables false
set_option linter.unusedSimpArgs false
namespace Go.Proofs.Ytnnfgphioapmnaa
open Go.RowKit

/-- An integer as the walk holds it. -/
def zV (b : Bool) (s : ByteArray) : Value := .agg #[.bool b, .string s]
def intV (z : Int) : Value := zV (decide (z < 0)) (nS z.natAbs)
/-- Whether the sign and the bytes are an integer's form. -/
def zvalid (b : Bool) (s : ByteArray) : Bool := nvalid s && !(b && s.toList.isEmpty)

set_option maxRecDepth 100000 in
theorem int_Valid (b : Bool) (s : ByteArray) (hs : s.size ≤ 9223372036854775807) (w : World) : Calls Try.prog 22 #[zV b s] w (Ret (.bool (zvalid b s)) w) := by
  have HV := Lib.hid (nat_Valid s hs)
  have HB := Lib.hid ((Below.refl w.heap.size w).alloc (Nat.le_refl _) (.cells #[.bool b, .string s] 38))
  unfold zV
  cases hv : nvalid s with
  | false =>
    have HR := Lib.hid (show zvalid b s = false from by unfold zvalid; rw [hv]; rfl)
    rw [hv] at HV
    clear hv
    rw [HR.out]
    go_enter Try.func22, Try.ntmps22
    go_wp2_with fail
    refine (HV.out _).mono ?_
    rintro e w1 ⟨rfl, rfl⟩
    go_wp2
    go_ret
    exact ⟨rfl, HB.out⟩
  | true =>
    have HR := Lib.hid (show zvalid b s = !(b && s.toList.isEmpty) from by unfold zvalid; rw [hv, Bool.true_and])
    rw [hv] at HV
    clear hv
    rw [HR.out]
    cases b with
    | false =>
      go_enter Try.func22, Try.ntmps22
      go_wp2_with fail
      refine (HV.out _).mono ?_
      rintro e w1 ⟨rfl, rfl⟩
      go_wp2
      go_ret
      exact ⟨rfl, HB.out⟩
    | true =>
      go_enter Try.func22, Try.ntmps22
      go_wp2_with fail
      refine (HV.out _).mono ?_
      rintro e w1 ⟨rfl, rfl⟩
      go_wp2
      go_ret
      exact ⟨rfl, HB.out⟩

theorem cells2 (w : World) (x y : Value) (T : TypeId) : (w.alloc (.cells #[x, y] T)).cell? ⟨w.heap.size, 0, none⟩ = some x ∧ (w.alloc (.cells #[x, y] T)).cell? ⟨w.heap.size, 1, none⟩ = some y := ⟨by rw [Lib.cell_of_heap (heap_alloc_new _ _)]; rfl, by rw [Lib.cell_of_heap (heap_alloc_new _ _)]; rfl⟩
set_option maxRecDepth 100000 in
theorem int_made (b : Bool) (s : ByteArray) (w : World) : Calls Try.prog 34 #[.bool b, .string s] w (Ret (zV (b && !s.toList.isEmpty) s) w) := by
  unfold zV
  cases b with
  | false =>
    go_enter Try.func34, Try.ntmps34
    go_wp2
    obtain ⟨q0, q1⟩ := cells2 w (.bool false) (.string s) 38
    exact bodyPost_ret (v := .agg #[.bool (false && !s.toList.isEmpty), .string s]) (by simp [results, Try.results34, go_sem, q0, q1]) rfl ⟨rfl, (Below.refl _ _).alloc (Nat.le_refl _) _⟩
  | true =>
    go_enter Try.func34, Try.ntmps34
    go_wp2
    obtain ⟨q0, q1⟩ := cells2 w (.bool !s.toList.isEmpty) (.string s) 38
    exact bodyPost_ret (v := .agg #[.bool (true && !s.toList.isEmpty), .string s]) (by simp [results, Try.results34, go_sem, q0, q1]) rfl ⟨rfl, (Below.refl _ _).alloc (Nat.le_refl _) _⟩

/-- A sign and a number. -/
def sg (b : Bool) (n : Nat) : Int := if b then -(n : Int) else n
theorem intV_sg (b : Bool) (n : Nat) : zV (b && !(nS n).toList.isEmpty) (nS n) = intV (sg b n) := by
  unfold intV sg
  cases b with
  | false =>
    rw [if_neg (by decide), decide_eq_false (by omega)]
    rfl
  | true =>
    rw [if_pos rfl]
    rcases Nat.eq_zero_or_pos n with h | h
    · subst h
      rw [sempty_true (a := nS 0) rfl]
      rfl
    · rw [empty_nS h, decide_eq_true (by omega), Int.natAbs_neg]
      rfl
theorem int_made_n (b : Bool) (n : Nat) (w : World) : Calls Try.prog 34 #[.bool b, .string (nS n)] w (Ret (intV (sg b n)) w) := by
  rw [← intV_sg]
  exact int_made b (nS n) w
theorem intV_zV (z : Int) : intV z = zV (decide (z < 0)) (nS z.natAbs) := rfl
theorem zvalid_int {z : Int} (h : z.natAbs < 256 ^ 128) : zvalid (decide (z < 0)) (nS z.natAbs) = true := by
  unfold zvalid
  rw [nvalid_nS.2 h, Bool.true_and]
  by_cases hz : z < 0
  · rw [empty_nS (by omega), Bool.and_false]; rfl
  · rw [decide_eq_false hz]; rfl

/-- Block B holds two values. -/
def Bx2 (W : World) (B : Nat) (x y : Value) (T : TypeId) : Prop := W.heap[B]? = some (.cells #[x, y] T (0, 0))
theorem Bx2.new (W : World) (x y : Value) (T : TypeId) : Bx2 (W.alloc (.cells #[x, y] T)) W.heap.size x y T := heap_alloc_new _ _
theorem Bx2.kept {W W' : World} {K B : Nat} {x y : Value} {T : TypeId} (h : Bx2 W B x y T) (hb : Below K W W') (hB : B < K) : Bx2 W' B x y T := (hb.block B hB).trans h
theorem Bx2.lt {W : World} {B : Nat} {x y : Value} {T : TypeId} (h : Bx2 W B x y T) : B < W.heap.size := block_lt h
theorem Bx2.next {W W' : World} {B : Nat} {x y : Value} {T : TypeId} (h : Bx2 W B x y T) (hb : Below W.heap.size W W') : Bx2 W' B x y T := h.kept hb h.lt
theorem Bx2.c0 {W : World} {B : Nat} {x y : Value} {T : TypeId} (h : Bx2 W B x y T) : W.cell? ⟨B, 0, none⟩ = some x := by rw [Lib.cell_of_heap h]; rfl
theorem Bx2.c1 {W : World} {B : Nat} {x y : Value} {T : TypeId} (h : Bx2 W B x y T) : W.cell? ⟨B, 1, none⟩ = some y := by rw [Lib.cell_of_heap h]; rfl
theorem Bx2.f0 {W : World} {B : Nat} {x y : Value} {T : TypeId} (h : Bx2 W B x y T) : W.frozen? ⟨B, 0, none⟩ = false := Lib.frozen_of_heap h 0
theorem Bx2.f1 {W : World} {B : Nat} {x y : Value} {T : TypeId} (h : Bx2 W B x y T) : W.frozen? ⟨B, 1, none⟩ = false := Lib.frozen_of_heap h 1
theorem Bx2.set2 {W : World} {B : Nat} {x y u v : Value} {T : TypeId} (h : Bx2 W B x y T) : Bx2 ((W.setCell ⟨B, 0, none⟩ u).setCell ⟨B, 1, none⟩ v) B u v T := block_setCell (block_setCell h u) v
set_option maxRecDepth 100000 in
theorem int_From (n : Nat) (hn : n < 256 ^ 128) (w : World) : Calls Try.prog 21 #[.string (nS n)] w (Ret (intV n) w) := by
  have HV := Lib.hid (nat_Valid (nS n) (by have := nS_size_le.2 hn; omega))
  rw [nvalid_nS.2 hn] at HV
  have HM := Lib.hid (int_made_n false n)
  obtain ⟨s, hs⟩ : ∃ s, nS n = s := ⟨_, rfl⟩
  have HI := Lib.hid (show intV (sg false n) = .agg #[.bool false, .string s] from by rw [← intV_sg, ← hs]; rfl)
  rw [HI.out] at HM
  have HG := Lib.hid (show intV (n : Int) = .agg #[.bool false, .string s] from HI.out)
  rw [hs] at HV HM
  rw [hs, HG.out]
  clear hs hn
  go_enter Try.func21, Try.ntmps21
  go_wp2_with fail
  refine (HV.out _).mono ?_
  rintro e w1 ⟨rfl, rfl⟩
  go_wp2_with fail
  refine (HM.out _).mono ?_
  rintro e w1 ⟨rfl, hb1⟩
  have hX := (Bx2.new w (.bool false) (.string ⟨#[]⟩) 38).next hb1
  have HB := Lib.hid (((Below.refl w.heap.size w).alloc (Nat.le_refl _) (.cells #[.bool false, .string ⟨#[]⟩] 38)).trans (hb1.mono (by simp)))
  have HX := Lib.hid hX
  have c0 := hX.c0
  have c1 := hX.c1
  have f0 := hX.f0
  have f1 := hX.f1
  clear hX hb1
  go_wp2
  have hY := HX.out.set2 (u := .bool false) (v := .string s)
  have q0 := hY.c0
  have q1 := hY.c1
  exact bodyPost_ret (v := .agg #[.bool false, .string s]) (by simp [results, Try.results21, go_sem, q0, q1]) rfl ⟨rfl, (HB.out.setCell (p := ⟨w.heap.size, 0, none⟩) (Nat.le_refl _) _).setCell (p := ⟨w.heap.size, 1, none⟩) (Nat.le_refl _) _⟩
set_option maxRecDepth 100000 in
theorem int_Of (n : Nat) (hn : n < 1000) (w : World) : Calls Try.prog 11 #[.int .i64 n] w (Ret (intV n) w) := by
  have HM := Lib.hid (int_made_n false n)
  have HO := Lib.hid (nat_Of n (by omega))
  obtain ⟨s, hs⟩ : ∃ s, nS n = s := ⟨_, rfl⟩
  have HI := Lib.hid (show intV (sg false n) = .agg #[.bool false, .string s] from by rw [← intV_sg, ← hs]; rfl)
  rw [HI.out] at HM
  have HG := Lib.hid (show intV (n : Int) = .agg #[.bool false, .string s] from HI.out)
  rw [show bstr (encN n) = s from hs] at HO
  rw [hs] at HM
  rw [HG.out]
  clear hs
  have h0 : (0 : Int) ≤ (n : Int) := by omega
  have hw : IntKind.u64.wrap (n : Int) = (n : Int) := u64_wrap n (by omega)
  go_enter Try.func11, Try.ntmps11
  go_wp2_with fail
  refine (HO.out _).mono ?_
  rintro e w1 ⟨rfl, hb1⟩
  have HX1 := Lib.hid ((Bx2.new w (.bool false) (.string ⟨#[]⟩) 38).next hb1)
  have HB1 := Lib.hid (((Below.refl w.heap.size w).alloc (Nat.le_refl _) (.cells #[.bool false, .string ⟨#[]⟩] 38)).trans (hb1.mono (by simp)))
  clear hb1
  go_wp2_with fail
  refine (HM.out _).mono ?_
  rintro e w2 ⟨rfl, hb2⟩
  have hX := HX1.out.next hb2
  have HB := Lib.hid (HB1.out.trans (hb2.mono HB1.out.size))
  have HX := Lib.hid hX
  have c0 := hX.c0
  have c1 := hX.c1
  have f0 := hX.f0
  have f1 := hX.f1
  clear hX hb2
  go_wp2
  have hY := HX.out.set2 (u := .bool false) (v := .string s)
  have q0 := hY.c0
  have q1 := hY.c1
  exact bodyPost_ret (v := .agg #[.bool false, .string s]) (by simp [results, Try.results11, go_sem, q0, q1]) rfl ⟨rfl, (HB.out.setCell (p := ⟨w.heap.size, 0, none⟩) (Nat.le_refl _) _).setCell (p := ⟨w.heap.size, 1, none⟩) (Nat.le_refl _) _⟩

theorem int_Valid_n (z : Int) (h : z.natAbs < 256 ^ 128) (w : World) : Calls Try.prog 22 #[intV z] w (Ret (.bool true) w) := by
  have := int_Valid (decide (z < 0)) (nS z.natAbs) (by have := nS_size_le.2 h; omega) w
  rwa [zvalid_int h] at this
set_option maxRecDepth 100000 in
theorem int_both (x y : Int) (hx : x.natAbs < 256 ^ 128) (hy : y.natAbs < 256 ^ 128) (w : World) : Calls Try.prog 37 #[intV x, intV y] w (Ret (.bool true) w) := by
  have HV1 := Lib.hid (int_Valid_n x hx)
  have HV2 := Lib.hid (int_Valid_n y hy)
  unfold intV zV at *
  obtain ⟨a, ha⟩ : ∃ a, decide (x < 0) = a := ⟨_, rfl⟩
  obtain ⟨b, hb⟩ : ∃ b, decide (y < 0) = b := ⟨_, rfl⟩
  obtain ⟨s, hs⟩ : ∃ s, nS x.natAbs = s := ⟨_, rfl⟩
  obtain ⟨t, ht⟩ : ∃ t, nS y.natAbs = t := ⟨_, rfl⟩
  rw [ha, hs] at HV1
  rw [hb, ht] at HV2
  rw [ha, hs, hb, ht]
  clear ha hs hb ht hx hy
  go_enter Try.func37, Try.ntmps37
  go_wp2_with fail
  refine (HV1.out _).mono ?_
  rintro e w1 ⟨rfl, hb1⟩
  have hY0 : Bx2 ((w.alloc (.cells #[.bool a, .string s] 38)).alloc (.cells #[.bool b, .string t] 38)) (w.heap.size + 1) (.bool b) (.string t) 38 := by
    have := Bx2.new (w.alloc (.cells #[.bool a, .string s] 38)) (.bool b) (.string t) 38
    rwa [World.size_alloc] at this
  have HB0 := Lib.hid (((Below.refl w.heap.size w).alloc (Nat.le_refl _) (.cells #[.bool a, .string s] 38)).alloc (by simp) (.cells #[.bool b, .string t] 38))
  have hY1 := hY0.next hb1
  have HB1 := Lib.hid (HB0.out.trans (hb1.mono HB0.out.size))
  have c0 := hY1.c0
  have c1 := hY1.c1
  clear hb1 hY0 hY1
  go_wp2_with fail
  refine (HV2.out _).mono ?_
  rintro e w2 ⟨rfl, hb2⟩
  have HB2 := Lib.hid (HB1.out.trans (hb2.mono HB1.out.size))
  clear hb2
  go_wp2
  go_ret
  exact ⟨rfl, HB2.out⟩

set_option maxRecDepth 100000 in
theorem int_Neg (z : Int) (hz : z.natAbs < 256 ^ 128) (w : World) : Calls Try.prog 39 #[intV z] w (Ret (intV (-z)) w) := by
  have HV := Lib.hid (int_Valid_n z hz)
  have HM := Lib.hid (int_made_n (!decide (z < 0)) z.natAbs)
  have HE := Lib.hid (show sg (!decide (z < 0)) z.natAbs = -z from by
    unfold sg
    by_cases h : z < 0
    · rw [decide_eq_true h]; simp; omega
    · rw [decide_eq_false h]; simp; omega)
  rw [HE.out] at HM
  unfold intV zV at *
  obtain ⟨a, ha⟩ : ∃ a, decide (z < 0) = a := ⟨_, rfl⟩
  obtain ⟨s, hs⟩ : ∃ s, nS z.natAbs = s := ⟨_, rfl⟩
  obtain ⟨b, hb⟩ : ∃ b, decide (-z < 0) = b := ⟨_, rfl⟩
  obtain ⟨t, ht⟩ : ∃ t, nS (-z).natAbs = t := ⟨_, rfl⟩
  rw [ha, hs] at HV
  rw [ha, hs, hb, ht] at HM
  rw [ha, hs, hb, ht]
  clear ha hs hb ht hz HE
  go_enter Try.func39, Try.ntmps39
  go_wp2_with fail
  refine (HV.out _).mono ?_
  rintro e w1 ⟨rfl, hb1⟩
  have HB0 := Lib.hid (((Below.refl w.heap.size w).alloc (Nat.le_refl _) (.cells #[.bool a, .string s] 38)).alloc (by simp) (.cells #[.bool false, .string ⟨#[]⟩] 38))
  have hX1 := ((Bx2.new w (.bool a) (.string s) 38).kept ((Below.refl _ _).alloc (Nat.le_refl _) (.cells #[.bool false, .string ⟨#[]⟩] 38)) (by simp)).next hb1
  have hY0 : Bx2 ((w.alloc (.cells #[.bool a, .string s] 38)).alloc (.cells #[.bool false, .string ⟨#[]⟩] 38)) (w.heap.size + 1) (.bool false) (.string ⟨#[]⟩) 38 := by
    have := Bx2.new (w.alloc (.cells #[.bool a, .string s] 38)) (.bool false) (.string ⟨#[]⟩) 38
    rwa [World.size_alloc] at this
  have HY1 := Lib.hid (hY0.next hb1)
  have HB1 := Lib.hid (HB0.out.trans (hb1.mono HB0.out.size))
  have c0 := hX1.c0
  have c1 := hX1.c1
  clear hb1 hY0 hX1
  go_wp2_with fail
  refine (HM.out _).mono ?_
  rintro e w2 ⟨rfl, hb2⟩
  have hY2 := HY1.out.next hb2
  have HY2 := Lib.hid hY2
  have HB2 := Lib.hid (HB1.out.trans (hb2.mono HB1.out.size))
  have d0 := hY2.c0
  have d1 := hY2.c1
  have f0 := hY2.f0
  have f1 := hY2.f1
  clear hb2 hY2
  go_wp2
  have hY := HY2.out.set2 (u := .bool b) (v := .string t)
  have q0 := hY.c0
  have q1 := hY.c1
  exact bodyPost_ret (v := .agg #[.bool b, .string t]) (by simp [results, Try.results39, go_sem, q0, q1]) rfl ⟨rfl, (HB2.out.setCell (p := ⟨w.heap.size + 1, 0, none⟩) (by simp) _).setCell (p := ⟨w.heap.size + 1, 1, none⟩) (by simp) _⟩

end Go.Proofs.Ytnnfgphioapmnaa

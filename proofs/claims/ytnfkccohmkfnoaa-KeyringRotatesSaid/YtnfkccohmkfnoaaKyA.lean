/- Walks: keyring.valid, copied. -/
import Derived.Test.YtnfkccohmkfnoaaVer
import Derived.Test.YtnfkccohmkfnoaaCln
import Derived.Deep.MidRow
import Derived.Great.BuildSlice
import Derived.Deep.DeepCutAuto
set_option linter.unusedVariables false
set_option linter.unusedSimpArgs false
namespace Go.Proofs.Ytnfkccohmkfnoaa
open Go.RowKit

/-- Whether a version is valid in an epoch. -/
def vvalid (v : Ver) (e : Int) : Bool := decide (v.fr ≤ e) && decide (e ≤ v.to)
set_option maxRecDepth 100000 in
theorem ky_valid (v : Ver) (rv : Value) (e : Int) (w : World) : Calls Try.prog 18 #[v.val rv, .int .i64 e] w (Ret (.bool (vvalid v e)) w) := by
  unfold Ver.val vvalid
  by_cases h1 : v.fr ≤ e
  · rw [decide_eq_true h1, Bool.true_and]
    have h1' : decide (v.fr ≤ e) = true := decide_eq_true h1
    clear h1
    go_enter Try.func18, Try.ntmps18
    go_wp2
    go_ret
    exact ⟨rfl, (Below.refl _ _).alloc (Nat.le_refl _) _⟩
  · rw [decide_eq_false h1, Bool.false_and]
    have h1' : decide (v.fr ≤ e) = false := decide_eq_false h1
    clear h1
    go_enter Try.func18, Try.ntmps18
    go_wp2
    go_ret
    exact ⟨rfl, (Below.refl _ _).alloc (Nat.le_refl _) _⟩

/-- The call returned a version. -/
def RetVV (v : Ver) (w : World) (e : Ending) (w' : World) : Prop := ∃ A n c, e = .returned (v.val (.slice A n c)) ∧ (∃ B, w.heap.size ≤ B ∧ w'.ownsRow B 27 1 (.slice A n c) n (v.kr.map Value.string)) ∧ Below w.heap.size w w'
def RetVals (v : Ver) (rv : Value) (w : World) (e : Ending) (w' : World) : Prop := e = .returned (v.val rv) ∧ Below w.heap.size w w'
/-- Block B holds the cells. -/
def BxC (W : World) (B : Nat) (cs : Array Value) (T : TypeId) : Prop := W.heap[B]? = some (.cells cs T (0, 0))
theorem BxC.new (W : World) (cs : Array Value) (T : TypeId) : BxC (W.alloc (.cells cs T)) W.heap.size cs T := heap_alloc_new _ _
theorem BxC.kept {W W' : World} {K B : Nat} {cs : Array Value} {T : TypeId} (h : BxC W B cs T) (hb : Below K W W') (hB : B < K) : BxC W' B cs T := (hb.block B hB).trans h
theorem BxC.lt {W : World} {B : Nat} {cs : Array Value} {T : TypeId} (h : BxC W B cs T) : B < W.heap.size := block_lt h
theorem BxC.next {W W' : World} {B : Nat} {cs : Array Value} {T : TypeId} (h : BxC W B cs T) (hb : Below W.heap.size W W') : BxC W' B cs T := h.kept hb h.lt
theorem BxC.cell {W : World} {B : Nat} {cs : Array Value} {T : TypeId} (h : BxC W B cs T) (k : Nat) : W.cell? ⟨B, k, none⟩ = cs[k]? := by
  rw [Lib.cell_of_heap h]
theorem BxC.free {W : World} {B : Nat} {cs : Array Value} {T : TypeId} (h : BxC W B cs T) (k : Nat) : W.frozen? ⟨B, k, none⟩ = false := Lib.frozen_of_heap h k
theorem BxC.set {W : World} {B k : Nat} {cs : Array Value} {T : TypeId} (h : BxC W B cs T) (u : Value) : BxC (W.setCell ⟨B, k, none⟩ u) B (cs.setIfInBounds k u) T := block_setCell h u
theorem BxC.other {W : World} {B C k : Nat} {cs : Array Value} {T : TypeId} (h : BxC W B cs T) (hne : B ≠ C) (u : Value) : BxC (W.setCell ⟨C, k, none⟩ u) B cs T := (heap_setCell_other _ _ _ _ hne).trans h
/-- The cells of a version, as an array. -/
def Ver.arr (v : Ver) (rv : Value) : Array Value := #[.string v.name, .int .i64 v.num, .string v.kn, .string v.km, .string v.ko, .string v.kz, .string v.ks, rv, .string v.ku, .string v.kh, .string v.sm, .string v.so, .string v.sg, .string v.sy, .int .i64 v.fr, .int .i64 v.to, .string v.sc, .string v.sr]
theorem BxC.ver {W : World} {B : Nat} {v : Ver} {rv : Value} {T : TypeId} (h : BxC W B (v.arr rv) T) : VCells W B 0 v rv := fun j u hu => by
  rw [Nat.zero_add, h.cell]
  have e : (v.arr rv) = (v.vals rv).toArray := rfl
  rw [e, List.getElem?_toArray]
  exact hu
theorem BxC.open {w : World} {B : Nat} {v : Ver} {rv : Value} {T : TypeId} (h : BxC w B (v.arr rv) T) :
    w.cell? ⟨B, 0, none⟩ = some (.string v.name) ∧ w.cell? ⟨B, 1, none⟩ = some (.int .i64 v.num) ∧ w.cell? ⟨B, 2, none⟩ = some (.string v.kn) ∧ w.cell? ⟨B, 3, none⟩ = some (.string v.km) ∧ w.cell? ⟨B, 4, none⟩ = some (.string v.ko) ∧ w.cell? ⟨B, 5, none⟩ = some (.string v.kz) ∧
    w.cell? ⟨B, 6, none⟩ = some (.string v.ks) ∧ w.cell? ⟨B, 7, none⟩ = some rv ∧ w.cell? ⟨B, 8, none⟩ = some (.string v.ku) ∧ w.cell? ⟨B, 9, none⟩ = some (.string v.kh) ∧ w.cell? ⟨B, 10, none⟩ = some (.string v.sm) ∧ w.cell? ⟨B, 11, none⟩ = some (.string v.so) ∧
    w.cell? ⟨B, 12, none⟩ = some (.string v.sg) ∧ w.cell? ⟨B, 13, none⟩ = some (.string v.sy) ∧ w.cell? ⟨B, 14, none⟩ = some (.int .i64 v.fr) ∧ w.cell? ⟨B, 15, none⟩ = some (.int .i64 v.to) ∧ w.cell? ⟨B, 16, none⟩ = some (.string v.sc) ∧ w.cell? ⟨B, 17, none⟩ = some (.string v.sr) :=
  ⟨h.cell 0, h.cell 1, h.cell 2, h.cell 3, h.cell 4, h.cell 5, h.cell 6, h.cell 7, h.cell 8, h.cell 9, h.cell 10, h.cell 11, h.cell 12, h.cell 13, h.cell 14, h.cell 15, h.cell 16, h.cell 17⟩
theorem arr_set7 (v : Ver) (r s : Value) : (v.arr r).setIfInBounds 7 s = v.arr s := by
  unfold Ver.arr
  simp only [List.setIfInBounds_toArray, List.set_cons_zero, List.set_cons_succ]
theorem Ver.arr_size (v : Ver) (rv : Value) : (v.arr rv).size = 18 := rfl
theorem Ver.arr_one (v : Ver) {A : Option Addr} {n c : Nat} : (v.arr (.slice A n c)).all (·.oneCell') = true := by
  show (v.vals (.slice A n c)).toArray.all (·.oneCell') = true
  exact all_oneCell_toArray (fun u hu => v.one u hu)
theorem below_setRow {B : Nat} {w w' : World} (h : Below B w w') {g : Nat} (hg : B ≤ g) (cs : Array Value) : Below B w (w'.setRow g cs) :=
  ⟨h.os, h.tape, h.output, by rw [size_setRow]; exact h.size, fun k hk => (setRow_other _ _ _ _ (by omega)).trans (h.block k hk)⟩
theorem ownsRow_below_row {base : Nat} {e : TypeId} {size : Nat} {v : Value} {n : Nat} {xs : List Value} {w : World} (h : w.ownsRow base e size v n xs) {g : Nat} (hg : g < base) (cs : Array Value) : (w.setRow g cs).ownsRow base e size v n xs := by
  refine ⟨h.1, ?_⟩
  rcases h.2 with h | ⟨g', cap, cur, h1, h2, h3, h4⟩
  · exact .inl h
  · exact .inr ⟨g', cap, cur, h1, h2, by rw [setRow_other _ _ _ _ (by omega)]; exact h3, h4⟩

set_option maxRecDepth 100000 in
set_option maxHeartbeats 4000000 in
theorem ky_copied (v : Ver) (A : Option Addr) (n c : Nat) (w : World) (hs : SlN w A n c v.kr) (hn : n ≤ 1000000) : Calls Try.prog 20 #[v.val (.slice A n c)] w (RetVV v w) := by
  obtain ⟨W0, hW0⟩ : ∃ W0, (w.alloc (.cells (v.arr (.slice A n c)) 38)).alloc (.cells (ver0.arr (.slice none 0 0)) 38) = W0 := ⟨_, rfl⟩
  have HX0 := Lib.hid (show BxC W0 w.heap.size (v.arr (.slice A n c)) 38 from by
    rw [← hW0]
    exact (BxC.new w _ _).next ((Below.refl _ _).alloc (Nat.le_refl _) _))
  have HY0 := Lib.hid (show BxC W0 (w.heap.size + 1) (ver0.arr (.slice none 0 0)) 38 from by
    rw [← hW0]
    have := BxC.new (w.alloc (.cells (v.arr (.slice A n c)) 38)) (ver0.arr (.slice none 0 0)) 38
    rw [World.size_alloc] at this
    exact this)
  have HB0 := Lib.hid (show Below w.heap.size w W0 from by
    rw [← hW0]
    exact ((Below.refl w.heap.size w).alloc (Nat.le_refl _) _).alloc (by simp) _)
  have HS0 := Lib.hid (hs.kept HB0.out (Nat.le_refl _))
  have c7 := HX0.out.ver.open.2.2.2.2.2.2.2.1
  have hsz : W0.heap.size = w.heap.size + 1 + 1 := by rw [← hW0, World.size_alloc, World.size_alloc]
  have HW0 := Lib.hid hW0
  have HSZ := Lib.hid hsz
  have hval : v.val (.slice A n c) = .agg (v.arr (.slice A n c)) := rfl
  rw [hval]
  clear hs hW0 hsz hval c7
  obtain ⟨cs, hcs⟩ : ∃ cs, v.arr (.slice A n c) = cs := ⟨_, rfl⟩
  have hc7 : cs[7]? = some (.slice A n c) := by rw [← hcs]; rfl
  rw [hcs] at HX0 HW0 ⊢
  have HCS := Lib.hid hcs
  clear hcs
  go_enter Try.func20, Try.ntmps20
  go_wp2_with fail
  have hcl := cl_nats v.kr A n c W0 HS0.out (by omega)
  rw [← HW0.out] at hcl
  refine hcl.mono ?_
  rintro e w1 ⟨rv', rfl, hown, hb1⟩
  rw [HW0.out] at hb1 hown
  obtain ⟨hl, A', c', rfl, hs1⟩ := SlN.of_owns hown
  have HX1 := Lib.hid (HX0.out.next hb1)
  have HY1 := Lib.hid (HY0.out.next hb1)
  have HB1 := Lib.hid (HB0.out.trans (hb1.mono HB0.out.size))
  have HOWN := Lib.hid hown
  have xf := HX1.out.free 7
  have xc := HX1.out.cell 7
  rw [hc7] at xc
  clear hown hb1 hs1 hcl hc7 hl
  go_upto_region 2 with fail
  have hx2 := HX1.out.set (k := 7) (.slice A' n c')
  rw [← HCS.out, arr_set7] at hx2
  have HX2 := Lib.hid hx2
  have HY2 := Lib.hid (HY1.out.other (C := w.heap.size) (k := 7) (by omega) (.slice A' n c'))
  have HB2 := Lib.hid (HB1.out.setCell (p := ⟨w.heap.size, 7, none⟩) (Nat.le_refl _) (.slice A' n c'))
  have HO2 := Lib.hid (owns_setCell HOWN.out (a := ⟨w.heap.size, 7, none⟩) (by rw [HSZ.out]; simp only []; omega) (.slice A' n c'))
  obtain ⟨w2, hw2⟩ : ∃ w2, w1.setCell ⟨w.heap.size, 7, none⟩ (.slice A' n c') = w2 := ⟨_, rfl⟩
  rw [hw2] at HX2 HY2 HB2 HO2 ⊢
  clear xf xc hx2 hw2
  refine wp_region_lit ?_
  refine wpList_load_row rfl 38 _ rfl w.heap.size rfl 38 (v.arr (.slice A' n c')) (0, 0) _ HX2.out Try.underlying38 rfl (by kernel_rfl) ?_
  refine wpList_store_rowTo rfl 38 _ _ rfl rfl (w.heap.size + 1) (v.arr (.slice A' n c')) rfl rfl 38 (ver0.arr (.slice none 0 0)) HY2.out (by kernel_rfl) rfl v.arr_one ?_
  refine wpList_nil ?_
  have hy3 := setRow_heap w2 (w.heap.size + 1) _ (v.arr (.slice A' n c')) _ _ HY2.out
  have hsl := ownsRow_below_row HO2.out (g := w.heap.size + 1) (by rw [HSZ.out]; omega) (v.arr (.slice A' n c'))
  have hbb := below_setRow HB2.out (g := w.heap.size + 1) (by omega) (v.arr (.slice A' n c'))
  obtain ⟨w3, hw3⟩ : ∃ w3, w2.setRow (w.heap.size + 1) (v.arr (.slice A' n c')) = w3 := ⟨_, rfl⟩
  rw [hw3] at hy3 hsl hbb ⊢
  clear hw3
  have HY3 := Lib.hid hy3
  have HSL := Lib.hid hsl
  have HBB := Lib.hid hbb
  obtain ⟨rr, hrr⟩ : ∃ rr, v.arr (.slice A' n c') = rr := ⟨_, rfl⟩
  rw [hrr] at HY3 ⊢
  have HRR := Lib.hid hrr
  clear hy3 hsl hbb hrr
  go_wp2
  refine bodyPost_ret (v := .agg rr) (results_cell_row rfl _ _ (w.heap.size + 1) 38 rr (0, 0) _ rfl HY3.out Try.underlying38 rfl (by rw [← HRR.out]; kernel_rfl)) rfl ⟨A', n, c', by rw [← HRR.out]; rfl, ⟨_, by rw [HSZ.out]; omega, HSL.out⟩, HBB.out⟩
end Go.Proofs.Ytnfkccohmkfnoaa

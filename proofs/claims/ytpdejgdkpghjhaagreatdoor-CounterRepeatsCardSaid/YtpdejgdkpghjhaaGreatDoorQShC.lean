/- Walk: a word rotated, by hash.turn and by the reference's right. -/
import Derived.Test.YtpdejgdkpghjhaaGreatDoorQShA
import Derived.Test.YtpdejgdkpghjhaaGreatDoorQGst
import Derived.Test.YtpdejgdkpghjhaaGreatDoorQOvr
import Derived.Great.Walk
import Derived.Great.BuildSlice
import Derived.Laws.CopyOwn
set_option linter.unusedVariables false
set_option linter.unusedSimpArgs false
namespace Go.Proofs.YtpdejgdkpghjhaaGreatDoor
open Go.RowKit
theorem run_shl {P : Program} (x : BitVec 32) (k : IntKind) (m : Nat) (hm : m ≤ 32) (w : World) : (Op.shift .shl .u32 (wi x) k (m : Int)).run P w = .ok (.int .u32 (wi (x <<< m))) w := by
  have e : min m 32 = m := by omega
  simp only [Op.shift, if_neg (show ¬ ((m : Int) < 0) by omega), Int.toNat_natCast, IntKind.bits, e, wi_shl]; rfl
theorem rot_all : ∀ n : Fin 32, n.val = 0 ∨ bits .and .u64 (IntKind.u64.wrap (-(n.val : Int))) 31 = ((32 - n.val : Nat) : Int) := by decide +kernel
theorem rot_and (n : Nat) (h0 : 0 < n) (h1 : n < 32) : bits .and .u64 (IntKind.u64.wrap (-(n : Int))) 31 = ((32 - n : Nat) : Int) := (rot_all ⟨n, h1⟩).resolve_left (by simp; omega)
theorem wi_div (x : BitVec 32) (n : Nat) : wi x / 2 ^ n = wi (x >>> n) := by rw [← wi_shr, Int.fdiv_eq_ediv_of_nonneg _ (Int.pow_nonneg (by decide))]
theorem rot_sub (n : Nat) (h0 : 0 < n) (h1 : n < 32) : IntKind.u64.wrap (32 - ((32 - n : Nat) : Int)) = n := by
  rw [IntKind.wrap_u64]; omega
set_option maxRecDepth 100000 in
theorem bits_rot (x : BitVec 32) (n : Nat) (h0 : 0 < n) (h1 : n < 32) (w : World) : Calls Tryz.prog 242 #[.int .u32 (wi x), .int .i64 (-(n : Int))] w (RetQ (.int .u32 (wi (rr x n))) w) := by
  have H1 : ∀ w, (Op.shift .shl .u32 (wi x) .u64 (bits .and .u64 (IntKind.u64.wrap (-(n : Int))) 31)).run Tryz.prog w = .ok (.int .u32 (wi (x <<< (32 - n)))) w := by
    intro w; rw [rot_and n h0 h1]; exact run_shl _ _ _ (by omega) _
  have H2 : wi x / 2 ^ min (IntKind.u64.wrap (32 - bits .and .u64 (IntKind.u64.wrap (-(n : Int))) 31)).toNat 32 = wi (x >>> n) := by
    rw [rot_and n h0 h1, rot_sub n h0 h1, Int.toNat_natCast, Nat.min_eq_left (by omega)]; exact wi_div _ _
  have H3 : bits .or .u32 (wi (x <<< (32 - n))) (wi (x >>> n)) = wi (rr x n) := by rw [wi_or, BitVec.or_comm]; rfl
  clear h0 h1
  go_enter Tryz.func242, Tryz.ntmps242
  go_wp2
  go_ret
  exact ⟨rfl, rfl⟩
set_option maxRecDepth 100000 in
theorem h_turn (x : BitVec 32) (n : Nat) (h0 : 0 < n) (h1 : n < 32) (w : World) : Calls Tryz.prog 218 #[.int .u32 (wi x), .int .i64 n] w (RetQ (.int .u32 (wi (rr x n))) w) := by
  go_enter Tryz.func218, Tryz.ntmps218
  go_wp2_with fail
  refine (bits_rot x n h0 h1 _).mono ?_
  rintro e w1 ⟨rfl, rfl⟩
  go_wp2
  go_ret
  exact ⟨rfl, rfl⟩
end Go.Proofs.YtpdejgdkpghjhaaGreatDoor
/- Walk: the constants and the first state; rows of words. -/
set_option linter.unusedVariables false
set_option linter.unusedSimpArgs false
namespace Go.Proofs.YtpdejgdkpghjhaaGreatDoor
open Go.RowKit
def W8.arr (s : W8) : Array Value := #[.int .u32 (wi s.a), .int .u32 (wi s.b), .int .u32 (wi s.c), .int .u32 (wi s.d), .int .u32 (wi s.e), .int .u32 (wi s.f), .int .u32 (wi s.g), .int .u32 (wi s.h)]
def wa (n : Nat) (f : Nat → BitVec 32) : Array Value := ((List.range n).map fun i => Value.int .u32 (wi (f i))).toArray
theorem wa_size (n : Nat) (f : Nat → BitVec 32) : (wa n f).size = n := by simp [wa]
theorem wa_get {n : Nat} (f : Nat → BitVec 32) {i : Nat} (h : i < n) : (wa n f)[i]? = some (.int .u32 (wi (f i))) := by simp [wa, h]
theorem wa_set {n : Nat} (f : Nat → BitVec 32) (i : Nat) (x : BitVec 32) : (wa n f).setIfInBounds i (.int .u32 (wi x)) = wa n (fun j => if j = i then x else f j) := by
  apply Array.ext_getElem?
  intro j
  rw [Array.getElem?_setIfInBounds]
  rcases Nat.lt_or_ge j n with h | h
  · rw [wa_get _ h, wa_get _ h, wa_size]
    by_cases e : i = j
    · subst e; simp [h]
    · rw [if_neg e, if_neg (Ne.symm e)]
  · rw [Array.getElem?_eq_none (by rw [wa_size]; exact h), Array.getElem?_eq_none (by rw [wa_size]; exact h)]
    by_cases e : i = j
    · subst e; simp [wa_size]; omega
    · rw [if_neg e]
theorem wa_congr {n : Nat} {f g : Nat → BitVec 32} (h : ∀ i, i < n → f i = g i) : wa n f = wa n g := by
  unfold wa; congr 1; apply List.map_congr_left; intro i hi; rw [h i (by simpa using hi)]
theorem wa_one (n : Nat) (f : Nat → BitVec 32) : (wa n f).all (·.oneCell') = true := by
  rw [Array.all_eq_true']; intro v hv; simp only [wa, List.mem_toArray, List.mem_map] at hv; obtain ⟨i, _, rfl⟩ := hv; rfl
theorem wa_zero (n : Nat) : wa n (fun _ => 0) = madeCells #[.int .u32 0] n := by
  apply Array.ext_getElem?
  intro j
  rcases Nat.lt_or_ge j n with h | h
  · rw [wa_get _ h]; unfold madeCells; simp [wi, h]; rw [Nat.mod_one]; rfl
  · rw [Array.getElem?_eq_none (by rw [wa_size]; exact h), Array.getElem?_eq_none (by rw [size_madeCells]; exact h)]
def RowW (w : World) (B n : Nat) (T : TypeId) (f : Nat → BitVec 32) : Prop := w.heap[B]? = some (.cells (wa n f) T (0, 0))
theorem RowW.cell {w : World} {B n : Nat} {T : TypeId} {f : Nat → BitVec 32} (h : RowW w B n T f) {k : Nat} (hk : k < n) : w.cell? ⟨B, k, none⟩ = some (.int .u32 (wi (f k))) := by
  rw [Lib.cell_of_heap h, wa_get f hk]
theorem RowW.free {w : World} {B n : Nat} {T : TypeId} {f : Nat → BitVec 32} (h : RowW w B n T f) (k : Nat) : w.frozen? ⟨B, k, none⟩ = false := Lib.frozen_of_heap h k
theorem RowW.set {w : World} {B n : Nat} {T : TypeId} {f : Nat → BitVec 32} (h : RowW w B n T f) (k : Nat) (x : BitVec 32) : RowW (w.setCell ⟨B, k, none⟩ (.int .u32 (wi x))) B n T (fun j => if j = k then x else f j) := by
  unfold RowW; rw [block_setCell h, wa_set]
theorem RowW.kept {w w' : World} {K B n : Nat} {T : TypeId} {f : Nat → BitVec 32} (h : RowW w B n T f) (hb : Below K w w') (hB : B < K) : RowW w' B n T f := (hb.block B hB).trans h
theorem RowW.drew {w : World} {B n : Nat} {T : TypeId} {f : Nat → BitVec 32} (h : RowW w B n T f) : RowW w.drew B n T f := h
theorem RowW.congr {w : World} {B n : Nat} {T : TypeId} {f g : Nat → BitVec 32} (h : RowW w B n T f) (hfg : ∀ i, i < n → f i = g i) : RowW w B n T g := by
  unfold RowW; rw [← wa_congr hfg]; exact h
set_option maxRecDepth 100000 in
theorem h_first (w : World) : Calls Tryz.prog 184 #[] w (Ret (.agg st0.arr) w) := by
  go_enter Tryz.func184, Tryz.ntmps184
  go_wp2
  refine bodyPost_ret (v := .agg st0.arr) (results_cell_row rfl _ _ w.heap.size 197 st0.arr (0, 0) _ rfl (heap_alloc_new _ _) Tryz.underlying197 rfl (by kernel_rfl)) rfl ⟨rfl, (Below.refl _ _).alloc (Nat.le_refl _) _⟩
set_option maxRecDepth 100000 in
theorem h_constants (w : World) : Calls Tryz.prog 216 #[] w (Ret (.agg (wa 64 kv)) w) := by
  go_enter Tryz.func216, Tryz.ntmps216
  iterate 2 go_step
  refine Great.wpList_allocTo rfl _ rfl (.pointer (some ⟨w.heap.size, 0, none⟩)) (.cells (madeCells #[.int .u32 0] 64) 223) (by kernel_rfl) ?_
  obtain ⟨W, hW⟩ : ∃ W, w.alloc (.cells (madeCells #[.int .u32 0] 64) 223) = W := ⟨_, rfl⟩
  have HB : Below w.heap.size w W := hW ▸ (Below.refl _ _).alloc (Nat.le_refl _) _
  have HC : W.heap[w.heap.size]? = some (.cells (madeCells #[.int .u32 0] 64) 223 (0, 0)) := hW ▸ heap_alloc_new _ _
  rw [hW]
  clear hW
  iterate 5 go_step
  refine wpList_buildFlatArrTo rfl 223 195 64 _ rfl .u32 (kL.map fun n : Nat => (n : Int)) (some 1) rfl (Tryz.underlying223) (by kernel_rfl) (by kernel_rfl) (by kernel_rfl) ?_
  refine wpList_store_rowTo rfl 223 _ _ rfl rfl w.heap.size (wa 64 kv) (by kernel_rfl) (by kernel_rfl) 223 _ HC (by kernel_rfl) (by kernel_rfl) (wa_one _ _) ?_
  obtain ⟨X, hX⟩ : ∃ X, W.setRow w.heap.size (wa 64 kv) = X := ⟨_, rfl⟩
  have HB2 : Below w.heap.size w X := hX ▸ below_setRow HB (Nat.le_refl _) _
  have HC2 : X.heap[w.heap.size]? = some (.cells (wa 64 kv) 223 (0, 0)) := hX ▸ setRow_heap _ _ _ _ _ _ HC
  rw [hX]
  clear hX HB HC
  go_wp2
  refine bodyPost_ret (v := .agg (wa 64 kv)) (results_cell_row rfl _ _ w.heap.size 223 (wa 64 kv) (0, 0) _ rfl HC2 Tryz.underlying223 rfl (by rw [wa_size]; kernel_rfl)) rfl ⟨rfl, HB2⟩
end Go.Proofs.YtpdejgdkpghjhaaGreatDoor

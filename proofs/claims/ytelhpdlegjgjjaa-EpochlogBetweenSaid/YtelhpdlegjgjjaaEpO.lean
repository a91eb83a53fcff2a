/- Two rows that grow, held by one box; what the sums say. -/
import Derived.Test.YtelhpdlegjgjjaaEpM
import Derived.Deep.AppendLies
set_option linter.unusedVariables false
set_option linter.unusedSimpArgs false
namespace Go.Proofs.Ytelhpdlegjgjjaa
open Go.RowKit
open Go.Maps Go.WideMaps

/-- The numbers that have been counted. -/
def KK (a b : Dl) : Nat → List ByteArray
  | 0 => []
  | 1 => [] ++ a.ad ++ a.rm
  | _ + 2 => [] ++ a.ad ++ a.rm ++ b.ad ++ b.rm
def GG (a b : Dl) : Nat → ByteArray → Int
  | 0 => fun _ => 0
  | 1 => gad (-1) (gad 1 (fun _ => 0) a.ad) a.rm
  | _ + 2 => gad (-1) (gad 1 (gad (-1) (gad 1 (fun _ => 0) a.ad) a.rm) b.ad) b.rm
theorem gad_bound {s : Int} (hs : s = 1 ∨ s = -1) {K l : List ByteArray} {g : ByteArray → Int} (h : ∀ x, -(K.length : Int) ≤ g x ∧ g x ≤ K.length) : ∀ x, -((K ++ l).length : Int) ≤ gad s g l x ∧ gad s g l x ≤ (K ++ l).length := fun x => by
  have h1 := h x
  have h2 := occ_bound l x
  unfold gad
  rw [List.length_append]
  rcases hs with rfl | rfl <;> omega
theorem ms_start {w : World} {M : Nat} {K l : List ByteArray} {g : ByteArray → Int} (s : Int) (h : MS w M K g) : MS w M (K ++ l.take 0) (gad s g (l.take 0)) := by
  have : gad s g (l.take 0) = g := by funext x; unfold gad; simp [occ]
  rw [this]; simpa using h
theorem SlN.oth {M : Nat} {w w' : World} {A : Option Addr} {n c : Nat} {l : List ByteArray} (h : SlN w A n c l) (hM : 0 < n → ∀ ad, A = some ad → ad.block < M) (ho : Oth M w w') : SlN w' A n c l :=
  h.of_blocks (fun h0 ad he => ho.block _ (by subst he; exact h.lt h0) (Nat.ne_of_lt (hM h0 ad he)))
theorem gg_chg {a b : Dl} (ha : a.Good) (hb : b.Good) (x : ByteArray) : GG a b 2 x = chg a b x := by
  show gad (-1) (gad 1 (gad (-1) (gad 1 (fun _ => 0) a.ad) a.rm) b.ad) b.rm x = _
  unfold chg gad
  rw [occ_ind ha.aad.nodup, occ_ind ha.arm.nodup, occ_ind hb.aad.nodup, occ_ind hb.arm.nodup]
  dsimp only
  omega
theorem mem_KK {a b : Dl} (x : ByteArray) : x ∈ KK a b 2 ↔ x ∈ a.ad ++ a.rm ++ b.ad ++ b.rm := by simp [KK]
theorem valid_KK {a b : Dl} (ha : a.Good) (hb : b.Good) : ∀ s ∈ KK a b 2, nvalid s = true := fun s hs => by
  rw [mem_KK] at hs
  simp only [List.mem_append] at hs
  rcases hs with ((h | h) | h) | h
  · exact ha.vad s h
  · exact ha.vrm s h
  · exact hb.vad s h
  · exact hb.vrm s h
theorem own_keep {w w' : World} {base n : Nat} {v : Value} {T : TypeId} {sz : Nat} {xs : List Value} (h : w.ownsRow base T sz v n xs) (hk : ∀ k, v.ownBlock = some k → w'.heap[k]? = w.heap[k]?) : w'.ownsRow base T sz v n xs := by
  refine ⟨h.1, ?_⟩
  rcases h.2 with h | ⟨g, cap, cur, hv, hb, hh, r⟩
  · exact .inl h
  · exact .inr ⟨g, cap, cur, hv, hb, (hk g (by rw [hv]; rfl)).trans hh, r⟩
/-- The box's cells. -/
def jcs (f t : Int) (be af : ByteArray) (v1 v2 : Value) : Array Value := #[.int .i64 f, .int .i64 t, v1, v2, .string be, .string af, .string ⟨#[]⟩, .string ⟨#[]⟩]
/-- A box that holds two rows of its own. -/
structure JS (w0 w : World) (B : Nat) (f t : Int) (be af : ByteArray) (v1 v2 : Value) (f1 f2 : List ByteArray) : Prop where
  box : BxC w B (jcs f t be af v1 v2) 27
  r1 : w.ownsRow w0.heap.size 23 1 v1 f1.length (f1.map Value.string)
  r2 : w.ownsRow w0.heap.size 23 1 v2 f2.length (f2.map Value.string)
  ne : ∀ k, v1.ownBlock = some k → v2.ownBlock ≠ some k
  oth : Oth B w0 w
  lt : B < w0.heap.size
theorem JS.own1 {w0 w : World} {B : Nat} {f t : Int} {be af : ByteArray} {v1 v2 : Value} {f1 f2 : List ByteArray} (h : JS w0 w B f t be af v1 v2 f1 f2) {k : Nat} (hk : v1.ownBlock = some k) : w0.heap.size ≤ k ∧ k < w.heap.size := by
  exact h.r1.lt k hk
theorem JS.own2 {w0 w : World} {B : Nat} {f t : Int} {be af : ByteArray} {v1 v2 : Value} {f1 f2 : List ByteArray} (h : JS w0 w B f t be af v1 v2 f1 f2) {k : Nat} (hk : v2.ownBlock = some k) : w0.heap.size ≤ k ∧ k < w.heap.size := by
  exact h.r2.lt k hk
theorem JS.box1 {w0 w w2 : World} {B : Nat} {f t : Int} {be af : ByteArray} {v1 v2 : Value} {f1 f2 : List ByteArray} {o : Obj} (h : JS w0 w B f t be af v1 v2 f1 f2) (hg : (w.alloc o).grownBy w2 v1.ownBlock) : BxC w2 B (jcs f t be af v1 v2) 27 := by
  have hs := h.oth.size
  have hB := h.lt
  exact ((hg.block B (by simp; omega) (fun e => by have := (h.own1 e.symm).1; omega)).trans (((Below.refl w.heap.size w).alloc (Nat.le_refl _) o).block B (by omega))).trans h.box
theorem JS.box2 {w0 w w2 : World} {B : Nat} {f t : Int} {be af : ByteArray} {v1 v2 : Value} {f1 f2 : List ByteArray} {o : Obj} (h : JS w0 w B f t be af v1 v2 f1 f2) (hg : (w.alloc o).grownBy w2 v2.ownBlock) : BxC w2 B (jcs f t be af v1 v2) 27 := by
  have hs := h.oth.size
  have hB := h.lt
  exact ((hg.block B (by simp; omega) (fun e => by have := (h.own2 e.symm).1; omega)).trans (((Below.refl w.heap.size w).alloc (Nat.le_refl _) o).block B (by omega))).trans h.box
theorem JS.step1 {w0 w w2 : World} {B g cap : Nat} {f t : Int} {be af x : ByteArray} {v1 v2 : Value} {f1 f2 : List ByteArray} {o : Obj} (h : JS w0 w B f t be af v1 v2 f1 f2)
    (hown : w2.ownsRow w0.heap.size 23 1 (.slice (some ⟨g, 0, none⟩) (f1.length + 1) cap) (f1.length + 1) (f1.map Value.string ++ [.string x])) (hg : (w.alloc o).grownBy w2 v1.ownBlock) (hat : v1.ownBlock = some g ∨ g = (w.alloc o).heap.size) :
    JS w0 (w2.setCell ⟨B, 2, none⟩ (.slice (some ⟨g, 0, none⟩) (f1.length + 1) cap)) B f t be af (.slice (some ⟨g, 0, none⟩) (f1.length + 1) cap) v2 (f1 ++ [x]) f2 := by
  have hs := h.oth.size
  have hB := h.lt
  have hb1 : ∀ k, k < w.heap.size → v1.ownBlock ≠ some k → w2.heap[k]? = w.heap[k]? := fun k hk hn => (hg.block k (by simp; omega) (fun e => hn e.symm)).trans (((Below.refl w.heap.size w).alloc (Nat.le_refl _) o).block k hk)
  have hbx : BxC w2 B (jcs f t be af v1 v2) 27 := (hb1 B (by omega) (fun e => by have := (h.own1 e).1; omega)).trans h.box
  have hgB : w0.heap.size ≤ g := by
    rcases hat with e | e
    · exact (h.own1 e).1
    · rw [e]; simp; omega
  refine ⟨by have := hbx.set (k := 2) (.slice (some ⟨g, 0, none⟩) (f1.length + 1) cap); exact this, ?_, ?_, fun k hk => ?_, ?_, h.lt⟩
  · rw [List.length_append, List.map_append]
    refine own_keep hown (fun k hk => ?_)
    have : g = k := by simpa [Value.ownBlock] using hk
    exact heap_setCell_other _ _ _ _ (show k ≠ B by omega)
  · refine own_keep h.r2 (fun k hk => ?_)
    have := h.own2 hk
    rw [heap_setCell_other _ _ _ _ (show k ≠ B by omega)]
    exact hb1 k this.2 (fun e => h.ne k e hk)
  · have hgk : g = k := by simpa [Value.ownBlock] using hk
    subst hgk
    intro e
    rcases hat with e' | e'
    · exact h.ne g e' e
    · have := (h.own2 e).2; rw [e'] at this; simp at this; omega
  · exact ((h.oth.trans (Oth.alloc w o)).grown hg (fun k hk => .inl (h.own1 hk).1)).setCell 2 _
theorem JS.step2 {w0 w w2 : World} {B g cap : Nat} {f t : Int} {be af x : ByteArray} {v1 v2 : Value} {f1 f2 : List ByteArray} {o : Obj} (h : JS w0 w B f t be af v1 v2 f1 f2)
    (hown : w2.ownsRow w0.heap.size 23 1 (.slice (some ⟨g, 0, none⟩) (f2.length + 1) cap) (f2.length + 1) (f2.map Value.string ++ [.string x])) (hg : (w.alloc o).grownBy w2 v2.ownBlock) (hat : v2.ownBlock = some g ∨ g = (w.alloc o).heap.size) :
    JS w0 (w2.setCell ⟨B, 3, none⟩ (.slice (some ⟨g, 0, none⟩) (f2.length + 1) cap)) B f t be af v1 (.slice (some ⟨g, 0, none⟩) (f2.length + 1) cap) f1 (f2 ++ [x]) := by
  have hs := h.oth.size
  have hB := h.lt
  have hb1 : ∀ k, k < w.heap.size → v2.ownBlock ≠ some k → w2.heap[k]? = w.heap[k]? := fun k hk hn => (hg.block k (by simp; omega) (fun e => hn e.symm)).trans (((Below.refl w.heap.size w).alloc (Nat.le_refl _) o).block k hk)
  have hbx : BxC w2 B (jcs f t be af v1 v2) 27 := (hb1 B (by omega) (fun e => by have := (h.own2 e).1; omega)).trans h.box
  have hgB : w0.heap.size ≤ g := by
    rcases hat with e | e
    · exact (h.own2 e).1
    · rw [e]; simp; omega
  refine ⟨by have := hbx.set (k := 3) (.slice (some ⟨g, 0, none⟩) (f2.length + 1) cap); exact this, ?_, ?_, fun k hk e => ?_, ?_, h.lt⟩
  · refine own_keep h.r1 (fun k hk => ?_)
    have := h.own1 hk
    rw [heap_setCell_other _ _ _ _ (show k ≠ B by omega)]
    exact hb1 k this.2 (fun e => h.ne k hk e)
  · rw [List.length_append, List.map_append]
    refine own_keep hown (fun k hk => ?_)
    have : g = k := by simpa [Value.ownBlock] using hk
    exact heap_setCell_other _ _ _ _ (show k ≠ B by omega)
  · have hgk : g = k := by simpa [Value.ownBlock] using e
    subst hgk
    rcases hat with e' | e'
    · exact h.ne g hk e'
    · have := (h.own1 hk).2; rw [e'] at this; simp at this; omega
  · exact ((h.oth.trans (Oth.alloc w o)).grown hg (fun k hk => .inl (h.own2 hk).1)).setCell 3 _
theorem JS.start {w0 : World} {B : Nat} {f t : Int} {be af : ByteArray} (h : BxC w0 B (jcs f t be af (.slice none 0 0) (.slice none 0 0)) 27) : JS w0 w0 B f t be af (.slice none 0 0) (.slice none 0 0) [] [] :=
  ⟨h, World.ownsRow_nil _ _ _ _, World.ownsRow_nil _ _ _ _, (fun k hk => by cases hk), Oth.refl _ _, h.lt⟩
theorem filter_take {l : List ByteArray} {j : Nat} {x : ByteArray} (hx : l[j]? = some x) (p : ByteArray → Bool) : (l.take (j + 1)).filter p = (l.take j).filter p ++ (if p x = true then [x] else []) := by
  rw [List.take_add_one, hx, Option.toList_some, List.filter_append]
  congr 1
  by_cases h : p x = true <;> simp [h]
end Go.Proofs.Ytelhpdlegjgjjaa

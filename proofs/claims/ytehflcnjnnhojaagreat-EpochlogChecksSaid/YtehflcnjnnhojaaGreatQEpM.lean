import Derived.Test.YtehflcnjnnhojaaGreatQEpJ
import Derived.Test.YtehflcnjnnhojaaGreatQEpH
set_option linter.unusedVariables false
set_option linter.unusedSimpArgs false
namespace Go.Proofs.YtehflcnjnnhojaaGreat
open Go.RowKit
def RetDl (p : Dl × Int) (w : World) (e : Ending) (w' : World) : Prop := ∃ A n c A' n' c', e = .returned (.tuple #[.agg (p.1.arr (.slice A n c) (.slice A' n' c')), .int .i64 p.2]) ∧ SlN w' A n c p.1.ad ∧ SlN w' A' n' c' p.1.rm ∧ Below w.heap.size w w'
def Frs (w : World) (A : Option Addr) (n : Nat) : Prop := 0 < n → ∀ ad, A = some ad → w.heap.size ≤ ad.block
def RetDlF (p : Dl × Int) (w : World) (e : Ending) (w' : World) : Prop := ∃ A n c A' n' c', e = .returned (.tuple #[.agg (p.1.arr (.slice A n c) (.slice A' n' c')), .int .i64 p.2]) ∧ SlN w' A n c p.1.ad ∧ SlN w' A' n' c' p.1.rm ∧ Frs w A n ∧ Frs w A' n' ∧ Below w.heap.size w w'
theorem RetDlF.out {p : Dl × Int} {w w' : World} {e : Ending} (h : RetDlF p w e w') : RetDl p w e w' :=
 let ⟨A, n, c, A', n', c', h1, h2, h3, _, _, h4⟩ := h
 ⟨A, n, c, A', n', c', h1, h2, h3, h4⟩
theorem Dl.one (d : Dl) (A : Option Addr) (n c : Nat) (A' : Option Addr) (n' c' : Nat) : (d.arr (.slice A n c) (.slice A' n' c')).all (·.oneCell') = true := by simp [Dl.arr, Value.oneCell']
theorem own_sln {w : World} {base : Nat} {v : Value} {n : Nat} {l : List ByteArray} (h : w.ownsRow base 22 1 v n (l.map Value.string)) : ∃ A c, v = .slice A n c ∧ SlN w A n c l ∧ (0 < n → ∀ a, A = some a → base ≤ a.block ∧ a.block < w.heap.size) := by
 obtain ⟨_, A, c, rfl, hs⟩ := SlN.of_owns h
 refine ⟨A, c, rfl, hs, fun h0 a he => ?_⟩
 obtain ⟨g, cap, hv, h1, h2⟩ := h.form h0
 cases hv
 cases he
 exact ⟨h1, h2⟩
end Go.Proofs.YtehflcnjnnhojaaGreat
namespace Go.Proofs.YtehflcnjnnhojaaGreat
open Go.RowKit
open Go.Maps Go.WideMaps
structure Oth (M : Nat) (w w' : World) : Prop where
 os : w'.os = w.os
 tape : w'.tape = w.tape
 output : w'.output = w.output
 size : w.heap.size ≤ w'.heap.size
 block : ∀ k, k < w.heap.size → k ≠ M → w'.heap[k]? = w.heap[k]?
theorem Oth.refl (M : Nat) (w : World) : Oth M w w := ⟨rfl, rfl, rfl, Nat.le_refl _, fun _ _ _ => rfl⟩
theorem Oth.trans {M : Nat} {a b c : World} (h : Oth M a b) (k : Oth M b c) : Oth M a c :=
 ⟨k.os.trans h.os, k.tape.trans h.tape, k.output.trans h.output, Nat.le_trans h.size k.size, fun i hi hn => (k.block i (Nat.lt_of_lt_of_le hi h.size) hn).trans (h.block i hi hn)⟩
theorem Oth.of_below {M B : Nat} {w w' : World} (h : Below B w w') (hB : w.heap.size ≤ B) : Oth M w w' := ⟨h.os, h.tape, h.output, h.size, fun k hk _ => h.block k (Nat.lt_of_lt_of_le hk hB)⟩
theorem Oth.alloc {M : Nat} (w : World) (o : Obj) : Oth M w (w.alloc o) := Oth.of_below ((Below.refl w.heap.size w).alloc (Nat.le_refl _) o) (Nat.le_refl _)
theorem Oth.grown {M : Nat} {w0 w w' : World} {r : Option Nat} (h : Oth M w0 w) (hg : w.grownBy w' r) (hr : ∀ k, r = some k → w0.heap.size ≤ k ∨ k = M) : Oth M w0 w' :=
 ⟨hg.os.trans h.os, hg.tape.trans h.tape, hg.output.trans h.output, Nat.le_trans h.size hg.size, fun k hk hn => (hg.block k (Nat.lt_of_lt_of_le hk h.size) (fun e => by rcases hr k e.symm with h' | h' <;> omega)).trans (h.block k hk hn)⟩
theorem Oth.setCell {M : Nat} {w0 w : World} (h : Oth M w0 w) (k : Nat) (u : Value) : Oth M w0 (w.setCell ⟨M, k, none⟩ u) := by
 refine ⟨h.os, h.tape, h.output, by simpa using h.size, fun i hi hn => ?_⟩
 rw [heap_setCell_other _ _ _ _ (show i ≠ M from hn)]
 exact h.block i hi hn
theorem Oth.below {M : Nat} {w w' : World} (h : Oth M w w') (hM : M ≤ w.heap.size) : Below M w w' := ⟨h.os, h.tape, h.output, h.size, fun k hk => h.block k (by omega) (by omega)⟩
theorem Oth.box {M B : Nat} {w w' : World} {cs : Array Value} {T : TypeId} (h : Oth M w w') (hb : BxC w B cs T) (hn : B ≠ M) : BxC w' B cs T := (h.block B hb.lt hn).trans hb
theorem Oth.map {M b n : Nat} {w w' : World} {K : List ByteArray} {g : ByteArray → Int} (h : Oth M w w') (hb : MapZ w b n K g) (hn : b ≠ M) : MapZ w' b n K g := hb.of_block (h.block b hb.lt hn)
def occ : List ByteArray → ByteArray → Int
 | [], _ => 0
 | y :: l, x => (if x = y then 1 else 0) + occ l x
theorem occ_append (l l' : List ByteArray) (x : ByteArray) : occ (l ++ l') x = occ l x + occ l' x := by
 induction l with
 | nil => simp [occ]
 | cons y l ih => simp only [List.cons_append, occ, ih]; omega
theorem occ_bound (l : List ByteArray) (x : ByteArray) : 0 ≤ occ l x ∧ occ l x ≤ l.length := by
 induction l with
 | nil => simp [occ]
 | cons y l ih => simp only [occ, List.length_cons]; split <;> omega
theorem occ_out {l : List ByteArray} {x : ByteArray} (h : x ∉ l) : occ l x = 0 := by
 induction l with
 | nil => rfl
 | cons y l ih =>
  simp only [List.mem_cons, not_or] at h
  simp only [occ, if_neg h.1, ih h.2]; rfl
theorem occ_ind {l : List ByteArray} (hnd : l.Nodup) (x : ByteArray) : occ l x = ind l x := by
 induction l with
 | nil => rfl
 | cons y l ih =>
  obtain ⟨h1, h2⟩ := List.nodup_cons.1 hnd
  simp only [occ]
  by_cases e : x = y
  · subst e
    rw [if_pos rfl, occ_out h1, ind_in List.mem_cons_self]; rfl
  · rw [if_neg e, ih h2]
    rcases ind_cases l x with ⟨h, e1⟩ | ⟨h, e1⟩
    · rw [e1, ind_in (List.mem_cons_of_mem _ h)]; rfl
    · rw [e1, ind_out (by simp only [List.mem_cons, not_or]; exact ⟨e, h⟩)]; rfl
def gad (s : Int) (g : ByteArray → Int) (l : List ByteArray) (x : ByteArray) : Int := g x + s * occ l x
def MS (w : World) (M : Nat) (K : List ByteArray) (g : ByteArray → Int) : Prop := MapZ w M K.length K g ∧ ∀ x, -(K.length : Int) ≤ g x ∧ g x ≤ K.length
theorem MS.made (w : World) : MS (w.alloc (.map #[] 0)) w.heap.size [] (fun _ => 0) := ⟨MapZ.made w, fun _ => by simp⟩
theorem Oth.ms {M b : Nat} {w w' : World} {K : List ByteArray} {g : ByteArray → Int} (h : Oth M w w') (hb : MS w b K g) (hn : b ≠ M) : MS w' b K g := ⟨h.map hb.1 hn, hb.2⟩
theorem MS.below {B b : Nat} {w w' : World} {K : List ByteArray} {g : ByteArray → Int} (h : MS w b K g) (hb : Below B w w') (hB : w.heap.size ≤ B) : MS w' b K g := ⟨h.1.kept hb hB, h.2⟩
theorem gad_step (s : Int) (g : ByteArray → Int) {l : List ByteArray} {j : Nat} {y : ByteArray} (hy : l[j]? = some y) : (fun u => if u = y then gad s g (l.take j) y + s else gad s g (l.take j) u) = gad s g (l.take (j + 1)) := by
 funext u
 unfold gad
 rw [List.take_add_one, hy, Option.toList_some, occ_append]
 simp only [occ]
 by_cases e : u = y
 · subst e
   rw [if_pos rfl, if_pos rfl]
   rw [Int.mul_add]; simp; omega
 · rw [if_neg e, if_neg e]; simp
theorem wfZ {c : Int} (h : -9223372036854775808 ≤ c) (h' : c ≤ 9223372036854775807) : (Lit.int .i64 c).wf = true := by
 have h1 : IntKind.i64.min = -9223372036854775808 := rfl
 have h2 : IntKind.i64.max = 9223372036854775807 := rfl
 simp [Lit.wf, h1, h2]
 omega
end Go.Proofs.YtehflcnjnnhojaaGreat

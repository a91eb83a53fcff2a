/- Sets of handles; the ledger's state; walk: (*domino/ledger.state).add. -/
import Derived.Test.YthidhgniondkgaaFolA
import Derived.Test.YthidhgniondkgaaReg
import Derived.Maps.OwnSet
import Derived.StringKeys
set_option linter.unusedVariables false
set_option linter.unusedSimpArgs false
namespace Go.Proofs.Ythidhgniondkgaa
open Go.RowKit
open Go.Maps Go.WideMaps

theorem lawN : Keyed Try.prog 22 := string_keyed Try.underlying22
theorem zeroU (w : World) : (zeroValue 74).run Try.prog w = .ok (.agg #[]) w := by kernel_rfl
theorem keyN {s : ByteArray} (h : s.size ≤ maxLen) : keyOf Try.prog 22 (.string s) = some (.string s.data.toList) := keyOf_string_mk Try.underlying22 h

/-- Block b is a map of at most n entries; its keys are those that mem says. -/
def SetM (w : World) (b n : Nat) (mem : ByteArray → Bool) : Prop := ∃ D : DataW Unit, w.ownsMap Try.prog 22 (unitElem (H := Unit)) b n D ∧ ∀ s : ByteArray, Maps.has D (.string s.data.toList) = mem s
theorem SetM.made (w : World) : SetM (w.alloc (.map #[] 0)) w.heap.size 0 (fun _ => false) := ⟨_, World.ownsMap_made _ _ _ _, fun _ => rfl⟩
theorem SetM.of_block {w w' : World} {b n : Nat} {mem : ByteArray → Bool} (h : SetM w b n mem) (e : w'.heap[b]? = w.heap[b]?) : SetM w' b n mem := by
  obtain ⟨D, ⟨es, clock, h1, h2⟩, h3⟩ := h
  exact ⟨D, ⟨es, clock, e.trans h1, h2⟩, h3⟩
theorem SetM.lt {w : World} {b n : Nat} {mem : ByteArray → Bool} (h : SetM w b n mem) : b < w.heap.size := by
  obtain ⟨D, h1, _⟩ := h
  exact h1.lt
theorem SetM.kept {B : Nat} {w w' : World} {b n : Nat} {mem : ByteArray → Bool} (h : SetM w b n mem) (hb : Below B w w') (hB : w.heap.size ≤ B) : SetM w' b n mem :=
  h.of_block (hb.block b (Nat.lt_of_lt_of_le h.lt hB))
theorem SetM.mono {w : World} {b n n' : Nat} {mem : ByteArray → Bool} (h : SetM w b n mem) (hn : n ≤ n') : SetM w b n' mem := by
  obtain ⟨D, h1, h2⟩ := h
  exact ⟨D, h1.mono hn, h2⟩
theorem SetM.congr {w : World} {b n : Nat} {mem mem' : ByteArray → Bool} (h : SetM w b n mem) (he : ∀ s, mem s = mem' s) : SetM w b n mem' := by
  obtain ⟨D, h1, h2⟩ := h
  exact ⟨D, h1, fun s => (h2 s).trans (he s)⟩

/-- The cells of a state. -/
def StCells (w : World) (sb n m bi br : Nat) : Prop := w.heap[sb]? = some (.cells #[.int .i64 n, .int .i64 m, .map (some bi), .map (some br)] 73 (0, 0))
/-- A state: its size, its epoch, the handles that were issued and that were revoked. -/
def StAt (w : World) (sb n m bi br : Nat) (I R : ByteArray → Bool) : Prop := StCells w sb n m bi br ∧ SetM w bi n I ∧ SetM w br n R ∧ bi ≠ br ∧ sb ≠ bi ∧ sb ≠ br
theorem StAt.kept {B : Nat} {w w' : World} {sb n m bi br : Nat} {I R : ByteArray → Bool} (h : StAt w sb n m bi br I R) (hb : Below B w w') (hB : w.heap.size ≤ B) : StAt w' sb n m bi br I R :=
  ⟨block_kept hb hB h.1, h.2.1.kept hb hB, h.2.2.1.kept hb hB, h.2.2.2⟩
theorem StAt.alloc {w : World} {sb n m bi br : Nat} {I R : ByteArray → Bool} (h : StAt w sb n m bi br I R) (o : Obj) : StAt (w.alloc o) sb n m bi br I R :=
  h.kept ((Below.refl _ _).alloc (Nat.le_refl _) o) (Nat.le_refl _)

/-- What add leaves. -/
def AddPost (B sb n m bi br : Nat) (I R : ByteArray → Bool) (q : Int) (h : ByteArray) (w : World) (e : Ending) (w' : World) : Prop :=
  e = .returned (.tuple #[]) ∧ StAt w' sb (n + 1) (m + if q = 2 then 1 else 0) bi br (fun u => I u || (q == 0 && decide (h = u))) (fun u => R u || (q == 1 && decide (h = u))) ∧ Below B w w'

theorem set_put {w' : World} {b n : Nat} {mem : ByteArray → Bool} {h : ByteArray} {D : DataW Unit} (hmem : ∀ s : ByteArray, Maps.has D (.string s.data.toList) = mem s) (hm : IsMap D) 
    (hown : w'.ownsMap Try.prog 22 (unitElem (H := Unit)) b (n + 1) (D.put (.string h.data.toList) (.agg []))) : SetM w' b (n + 1) (fun u => mem u || decide (h = u)) := by
  have hk : WideAt.IsKeyLit (.string h.data.toList) := trivial
  refine ⟨_, hown, fun s => ?_⟩
  by_cases e : h = s
  · subst e
    rw [has_put_same hm hk]
    simp
  · rw [has_put_other (fun hh => e (by simp only [Lit.string.injEq] at hh; rw [← bstr_of h, ← bstr_of s, hh])), hmem s]
    show mem s = (mem s || decide (h = s))
    rw [decide_eq_false e, Bool.or_false]

set_option maxRecDepth 100000 in
set_option maxHeartbeats 2000000 in
theorem st_add_0 (B sb n m bi br : Nat) (I R : ByteArray → Bool) (q p : Int) (h s : ByteArray) (w : World) (hst : StAt w sb n m bi br I R) (hB1 : B ≤ sb) (hB2 : B ≤ bi) (hB3 : B ≤ br) (hBw : B ≤ w.heap.size) (hn : n ≤ 4611686018427387904) (hmn : m ≤ 4611686018427387904) (hh : h.size ≤ maxLen) (hq : (q == 0) = true) (hq1 : (q == 1) = false) (hq2 : (q == 2) = false) (hqq : ¬ q = 2) :
    Calls Try.prog 59 #[.pointer (some ⟨sb, 0, none⟩), .agg #[.int .i64 q, .string h, .string s, .int .i64 p]] w (AddPost B sb n m bi br I R q h w) := by
  obtain ⟨hsc, hI, hR, hn1, hn2, hn3⟩ := hst
  obtain ⟨W0, hW0⟩ : ∃ W0, w.alloc (.cells #[.int .i64 q, .string h, .string s, .int .i64 p] 24) = W0 := ⟨_, rfl⟩
  have hb0 : Below w.heap.size w W0 := by rw [← hW0]; exact (Below.refl _ _).alloc (Nat.le_refl _) _
  have hbox : W0.heap[w.heap.size]? = some (.cells #[.int .i64 q, .string h, .string s, .int .i64 p] 24 (0, 0)) := by rw [← hW0]; exact heap_alloc_new _ _
  have hsc0 := block_kept hb0 (Nat.le_refl _) hsc
  have hsbl := block_lt hsc
  have hI0 := hI.kept hb0 (Nat.le_refl _)
  have hR0 := hR.kept hb0 (Nat.le_refl _)
  have hbil := hI.lt
  have hbrl := hR.lt
  obtain ⟨c0, c1, c2, c3⟩ := four_cells hsc0
  obtain ⟨f0, f1, f2, f3⟩ := four_free hsc0
  obtain ⟨b0, b1, b2, b3⟩ := four_cells hbox
  have HB0 := Lib.hid hb0
  have HW0 := Lib.hid hW0
  have HSC0 := Lib.hid hsc0
  have HBOX := Lib.hid hbox
  have HI0 := Lib.hid hI0
  have HR0 := Lib.hid hR0
  have HSC := Lib.hid hsc
  have HI := Lib.hid hI
  have HR := Lib.hid hR
  clear hsc hI hR hb0 hsc0 hbox hI0 hR0
  subst hW0
  go_enter Try.func59, Try.ntmps59
  go_wp2
  obtain ⟨W1, hW1⟩ : ∃ W1, (w.setCell ⟨sb, 0, none⟩ (.int .i64 ((n : Int) + 1))).alloc (.cells #[.int .i64 q, .string h, .string s, .int .i64 p] 24) = W1 := ⟨_, rfl⟩
  rw [hW1]
  have hsz : (w.setCell ⟨sb, 0, none⟩ (.int .i64 ((n : Int) + 1))).heap.size = w.heap.size := by simp [World.setCell]
  have hsc1 : StCells W1 sb (n + 1) m bi br := by unfold StCells; rw [← hW1, Below.heap_alloc _ _ _ (by rw [hsz]; exact hsbl)]; exact block_setCell HSC.out _
  have hbox1 : W1.heap[w.heap.size]? = some (.cells #[.int .i64 q, .string h, .string s, .int .i64 p] 24 (0, 0)) := by rw [← hW1, ← hsz]; exact heap_alloc_new _ _
  have hI1 : SetM W1 bi n I := HI.out.of_block (by rw [← hW1, Below.heap_alloc _ _ _ (by rw [hsz]; exact hbil), Below.heap_setCell _ _ _ _ (by simp; omega)])
  have hR1 : SetM W1 br n R := HR.out.of_block (by rw [← hW1, Below.heap_alloc _ _ _ (by rw [hsz]; exact hbrl), Below.heap_setCell _ _ _ _ (by simp; omega)])
  have hb1 : Below B w W1 := by rw [← hW1]; exact ((Below.refl B w).setCell (p := ⟨sb, 0, none⟩) hB1 _).alloc (by rw [hsz]; exact hBw) _
  clear c0 c1 c2 c3 f0 f1 f2 f3 b0 b1 b2 b3 HB0 HW0 HSC0 HBOX HI0 HR0 HSC HI HR hW1 hsz
  obtain ⟨c0, c1, c2, c3⟩ := four_cells hsc1
  obtain ⟨f0, f1, f2, f3⟩ := four_free hsc1
  obtain ⟨b0, b1, b2, b3⟩ := four_cells hbox1
  have HSC1 := Lib.hid hsc1
  have HI1 := Lib.hid hI1
  have HR1 := Lib.hid hR1
  have HB1 := Lib.hid hb1
  clear hsc1 hbox1 hI1 hR1 hb1
  obtain ⟨D, hown, hmem⟩ := HI1.out
  have HOWN := Lib.hid hown
  have HMEM := Lib.hid hmem
  clear hown hmem
  refine wp_region_K 7 (Below (W1.drew).heap.size (W1.drew)) (by kernel_rfl) ?_
  intro hD
  refine wpAnyK_pure (i := 0) (v := ?v4_0b1) (fuel := 7) rfl (by kernel_rfl) (fun _ _ _ h => h) hD (Below.refl _ _) (.inl ⟨by kernel_rfl, ?y4_0b1⟩) ?n4_0b1
  case y4_0b1 => intro w' _; go_simp; with_reducible rfl
  clear hD; intro hD
  simp only [Act.put, List.setIfInBounds_toArray, List.set_cons_zero, List.set_cons_succ]
  refine wpAnyK_pure (i := 1) (v := ?v4_1b1) (fuel := 6) rfl (by kernel_rfl) (fun _ _ _ h => h) hD (Below.refl _ _) (.inl ⟨by kernel_rfl, ?y4_1b1⟩) ?n4_1b1
  case y4_1b1 => intro w' _; go_simp; with_reducible rfl
  clear hD; intro hD
  simp only [Act.put, List.setIfInBounds_toArray, List.set_cons_zero, List.set_cons_succ]
  refine wpAnyK_pure (i := 2) (v := ?v4_2b1) (fuel := 5) rfl (by kernel_rfl) (fun _ _ _ h => h) hD (Below.refl _ _) (.inl ⟨by kernel_rfl, ?y4_2b1⟩) ?n4_2b1
  case y4_2b1 => intro w' _; go_simp; with_reducible rfl
  clear hD; intro hD
  simp only [Act.put, List.setIfInBounds_toArray, List.set_cons_zero, List.set_cons_succ]
  refine wpAnyK_take (i := 3) (v := ?v4_3b1) (fuel := 4) rfl (by kernel_rfl) (by kernel_rfl) (fun _ _ _ h => h) hD (Below.refl _ _) (.inl ⟨by kernel_rfl, ?y4_3b1⟩) ?n4_3b1
  case y4_3b1 => intro w' hS'; have e0 := cell_kept hS' (Nat.le_refl _) c2; have e1 := cell_kept hS' (Nat.le_refl _) c3; have e2 := cell_kept hS' (Nat.le_refl _) b1; go_simp; with_reducible rfl
  clear hD; intro hD
  simp only [Act.put, List.setIfInBounds_toArray, List.set_cons_zero, List.set_cons_succ]
  refine wpAnyK_pure (i := 4) (v := ?v4_4b1) (fuel := 3) rfl (by kernel_rfl) (fun _ _ _ h => h) hD (Below.refl _ _) (.inl ⟨by kernel_rfl, ?y4_4b1⟩) ?n4_4b1
  case y4_4b1 => intro w' _; go_simp; with_reducible rfl
  clear hD; intro hD
  simp only [Act.put, List.setIfInBounds_toArray, List.set_cons_zero, List.set_cons_succ]
  refine wpAnyK_take (i := 5) (v := ?v4_5b1) (fuel := 2) rfl (by kernel_rfl) (by kernel_rfl) (fun _ _ _ h => h) hD (Below.refl _ _) (.inl ⟨by kernel_rfl, ?y4_5b1⟩) ?n4_5b1
  case y4_5b1 => intro w' hS'; have e0 := cell_kept hS' (Nat.le_refl _) c2; have e1 := cell_kept hS' (Nat.le_refl _) c3; have e2 := cell_kept hS' (Nat.le_refl _) b1; go_simp; with_reducible rfl
  clear hD; intro hD
  simp only [Act.put, List.setIfInBounds_toArray, List.set_cons_zero, List.set_cons_succ]
  refine wpAnyK_pure (i := 6) (v := ?v4_6b1) (fuel := 1) rfl (by kernel_rfl) (fun _ _ _ h => h) hD (Below.refl _ _) (.inl ⟨by kernel_rfl, ?y4_6b1⟩) ?n4_6b1
  case y4_6b1 => intro w' _; go_simp; with_reducible rfl
  clear hD; intro hD
  simp only [Act.put, List.setIfInBounds_toArray, List.set_cons_zero, List.set_cons_succ]
  refine wpAnyK_oneT (i := 7) (fuel := 0) (by kernel_rfl) rfl hD (by kernel_rfl) ?_
  clear hD; intro K7 hK7
  refine (wpList_mapUpdate_own _ rfl _ _ _ 71 rfl 22 74 lawN Try.underlying71 unitElem bi n D (by kernel_rfl) HOWN.out.drew (by unfold maxLen; omega) (.string h) (.agg #[]) (.string h.data.toList) (by kernel_rfl) (by kernel_rfl) (keyN hh) (.agg []) [] unitElem_mk ?_)
  intro w2 hown2 hgrow2
  have HOWN2 := Lib.hid hown2
  have HG := Lib.hid hgrow2
  clear hown2 hgrow2
  go_wp2
  refine hK7 _ _ ?_; clear hK7; intro hD
  refine wpAnyK_done (by kernel_rfl) ?_ 0
  clear hD
  go_wp2
  go_end0
  have hz1 : sb < W1.heap.size := block_lt HSC1.out
  have hset := set_put HMEM.out HOWN.out.isMap HOWN2.out
  have hoth := (HR1.out.mono (Nat.le_succ n)).of_block (w' := w2) (HG.out.block _ HR1.out.lt (fun e => by simp only [Option.some.injEq] at e; omega))
  have hcel : StCells w2 sb (n + 1) m bi br := (HG.out.block _ hz1 (fun e => by simp only [Option.some.injEq] at e; omega)).trans HSC1.out
  have hbel : Below B w w2 := HB1.out.drew.grown HG.out (Nat.le_trans hBw HB1.out.size) (fun k hk => by simp only [Option.some.injEq] at hk; omega)
  refine ⟨rfl, ⟨by rw [if_neg hqq]; exact hcel, hset.congr (fun u => by rw [hq, Bool.true_and]), hoth.congr (fun u => by rw [hq1, Bool.false_and, Bool.or_false]), hn1, hn2, hn3⟩, hbel⟩

set_option maxRecDepth 100000 in
set_option maxHeartbeats 2000000 in
theorem st_add_1 (B sb n m bi br : Nat) (I R : ByteArray → Bool) (q p : Int) (h s : ByteArray) (w : World) (hst : StAt w sb n m bi br I R) (hB1 : B ≤ sb) (hB2 : B ≤ bi) (hB3 : B ≤ br) (hBw : B ≤ w.heap.size) (hn : n ≤ 4611686018427387904) (hmn : m ≤ 4611686018427387904) (hh : h.size ≤ maxLen) (hq : (q == 0) = false) (hq1 : (q == 1) = true) (hq2 : (q == 2) = false) (hqq : ¬ q = 2) :
    Calls Try.prog 59 #[.pointer (some ⟨sb, 0, none⟩), .agg #[.int .i64 q, .string h, .string s, .int .i64 p]] w (AddPost B sb n m bi br I R q h w) := by
  obtain ⟨hsc, hI, hR, hn1, hn2, hn3⟩ := hst
  obtain ⟨W0, hW0⟩ : ∃ W0, w.alloc (.cells #[.int .i64 q, .string h, .string s, .int .i64 p] 24) = W0 := ⟨_, rfl⟩
  have hb0 : Below w.heap.size w W0 := by rw [← hW0]; exact (Below.refl _ _).alloc (Nat.le_refl _) _
  have hbox : W0.heap[w.heap.size]? = some (.cells #[.int .i64 q, .string h, .string s, .int .i64 p] 24 (0, 0)) := by rw [← hW0]; exact heap_alloc_new _ _
  have hsc0 := block_kept hb0 (Nat.le_refl _) hsc
  have hsbl := block_lt hsc
  have hI0 := hI.kept hb0 (Nat.le_refl _)
  have hR0 := hR.kept hb0 (Nat.le_refl _)
  have hbil := hI.lt
  have hbrl := hR.lt
  obtain ⟨c0, c1, c2, c3⟩ := four_cells hsc0
  obtain ⟨f0, f1, f2, f3⟩ := four_free hsc0
  obtain ⟨b0, b1, b2, b3⟩ := four_cells hbox
  have HB0 := Lib.hid hb0
  have HW0 := Lib.hid hW0
  have HSC0 := Lib.hid hsc0
  have HBOX := Lib.hid hbox
  have HI0 := Lib.hid hI0
  have HR0 := Lib.hid hR0
  have HSC := Lib.hid hsc
  have HI := Lib.hid hI
  have HR := Lib.hid hR
  clear hsc hI hR hb0 hsc0 hbox hI0 hR0
  subst hW0
  go_enter Try.func59, Try.ntmps59
  go_wp2
  obtain ⟨W1, hW1⟩ : ∃ W1, (w.setCell ⟨sb, 0, none⟩ (.int .i64 ((n : Int) + 1))).alloc (.cells #[.int .i64 q, .string h, .string s, .int .i64 p] 24) = W1 := ⟨_, rfl⟩
  rw [hW1]
  have hsz : (w.setCell ⟨sb, 0, none⟩ (.int .i64 ((n : Int) + 1))).heap.size = w.heap.size := by simp [World.setCell]
  have hsc1 : StCells W1 sb (n + 1) m bi br := by unfold StCells; rw [← hW1, Below.heap_alloc _ _ _ (by rw [hsz]; exact hsbl)]; exact block_setCell HSC.out _
  have hbox1 : W1.heap[w.heap.size]? = some (.cells #[.int .i64 q, .string h, .string s, .int .i64 p] 24 (0, 0)) := by rw [← hW1, ← hsz]; exact heap_alloc_new _ _
  have hI1 : SetM W1 bi n I := HI.out.of_block (by rw [← hW1, Below.heap_alloc _ _ _ (by rw [hsz]; exact hbil), Below.heap_setCell _ _ _ _ (by simp; omega)])
  have hR1 : SetM W1 br n R := HR.out.of_block (by rw [← hW1, Below.heap_alloc _ _ _ (by rw [hsz]; exact hbrl), Below.heap_setCell _ _ _ _ (by simp; omega)])
  have hb1 : Below B w W1 := by rw [← hW1]; exact ((Below.refl B w).setCell (p := ⟨sb, 0, none⟩) hB1 _).alloc (by rw [hsz]; exact hBw) _
  clear c0 c1 c2 c3 f0 f1 f2 f3 b0 b1 b2 b3 HB0 HW0 HSC0 HBOX HI0 HR0 HSC HI HR hW1 hsz
  obtain ⟨c0, c1, c2, c3⟩ := four_cells hsc1
  obtain ⟨f0, f1, f2, f3⟩ := four_free hsc1
  obtain ⟨b0, b1, b2, b3⟩ := four_cells hbox1
  have HSC1 := Lib.hid hsc1
  have HI1 := Lib.hid hI1
  have HR1 := Lib.hid hR1
  have HB1 := Lib.hid hb1
  clear hsc1 hbox1 hI1 hR1 hb1
  obtain ⟨D, hown, hmem⟩ := HR1.out
  have HOWN := Lib.hid hown
  have HMEM := Lib.hid hmem
  clear hown hmem
  refine wp_region_K 7 (Below (W1.drew).heap.size (W1.drew)) (by kernel_rfl) ?_
  intro hD
  refine wpAnyK_pure (i := 0) (v := ?v6_0b2) (fuel := 7) rfl (by kernel_rfl) (fun _ _ _ h => h) hD (Below.refl _ _) (.inl ⟨by kernel_rfl, ?y6_0b2⟩) ?n6_0b2
  case y6_0b2 => intro w' _; go_simp; with_reducible rfl
  clear hD; intro hD
  simp only [Act.put, List.setIfInBounds_toArray, List.set_cons_zero, List.set_cons_succ]
  refine wpAnyK_pure (i := 1) (v := ?v6_1b2) (fuel := 6) rfl (by kernel_rfl) (fun _ _ _ h => h) hD (Below.refl _ _) (.inl ⟨by kernel_rfl, ?y6_1b2⟩) ?n6_1b2
  case y6_1b2 => intro w' _; go_simp; with_reducible rfl
  clear hD; intro hD
  simp only [Act.put, List.setIfInBounds_toArray, List.set_cons_zero, List.set_cons_succ]
  refine wpAnyK_pure (i := 2) (v := ?v6_2b2) (fuel := 5) rfl (by kernel_rfl) (fun _ _ _ h => h) hD (Below.refl _ _) (.inl ⟨by kernel_rfl, ?y6_2b2⟩) ?n6_2b2
  case y6_2b2 => intro w' _; go_simp; with_reducible rfl
  clear hD; intro hD
  simp only [Act.put, List.setIfInBounds_toArray, List.set_cons_zero, List.set_cons_succ]
  refine wpAnyK_take (i := 3) (v := ?v6_3b2) (fuel := 4) rfl (by kernel_rfl) (by kernel_rfl) (fun _ _ _ h => h) hD (Below.refl _ _) (.inl ⟨by kernel_rfl, ?y6_3b2⟩) ?n6_3b2
  case y6_3b2 => intro w' hS'; have e0 := cell_kept hS' (Nat.le_refl _) c2; have e1 := cell_kept hS' (Nat.le_refl _) c3; have e2 := cell_kept hS' (Nat.le_refl _) b1; go_simp; with_reducible rfl
  clear hD; intro hD
  simp only [Act.put, List.setIfInBounds_toArray, List.set_cons_zero, List.set_cons_succ]
  refine wpAnyK_pure (i := 4) (v := ?v6_4b2) (fuel := 3) rfl (by kernel_rfl) (fun _ _ _ h => h) hD (Below.refl _ _) (.inl ⟨by kernel_rfl, ?y6_4b2⟩) ?n6_4b2
  case y6_4b2 => intro w' _; go_simp; with_reducible rfl
  clear hD; intro hD
  simp only [Act.put, List.setIfInBounds_toArray, List.set_cons_zero, List.set_cons_succ]
  refine wpAnyK_take (i := 5) (v := ?v6_5b2) (fuel := 2) rfl (by kernel_rfl) (by kernel_rfl) (fun _ _ _ h => h) hD (Below.refl _ _) (.inl ⟨by kernel_rfl, ?y6_5b2⟩) ?n6_5b2
  case y6_5b2 => intro w' hS'; have e0 := cell_kept hS' (Nat.le_refl _) c2; have e1 := cell_kept hS' (Nat.le_refl _) c3; have e2 := cell_kept hS' (Nat.le_refl _) b1; go_simp; with_reducible rfl
  clear hD; intro hD
  simp only [Act.put, List.setIfInBounds_toArray, List.set_cons_zero, List.set_cons_succ]
  refine wpAnyK_pure (i := 6) (v := ?v6_6b2) (fuel := 1) rfl (by kernel_rfl) (fun _ _ _ h => h) hD (Below.refl _ _) (.inl ⟨by kernel_rfl, ?y6_6b2⟩) ?n6_6b2
  case y6_6b2 => intro w' _; go_simp; with_reducible rfl
  clear hD; intro hD
  simp only [Act.put, List.setIfInBounds_toArray, List.set_cons_zero, List.set_cons_succ]
  refine wpAnyK_oneT (i := 7) (fuel := 0) (by kernel_rfl) rfl hD (by kernel_rfl) ?_
  clear hD; intro K7 hK7
  refine (wpList_mapUpdate_own _ rfl _ _ _ 71 rfl 22 74 lawN Try.underlying71 unitElem br n D (by kernel_rfl) HOWN.out.drew (by unfold maxLen; omega) (.string h) (.agg #[]) (.string h.data.toList) (by kernel_rfl) (by kernel_rfl) (keyN hh) (.agg []) [] unitElem_mk ?_)
  intro w2 hown2 hgrow2
  have HOWN2 := Lib.hid hown2
  have HG := Lib.hid hgrow2
  clear hown2 hgrow2
  go_wp2
  refine hK7 _ _ ?_; clear hK7; intro hD
  refine wpAnyK_done (by kernel_rfl) ?_ 0
  clear hD
  go_wp2
  go_end0
  have hz1 : sb < W1.heap.size := block_lt HSC1.out
  have hset := set_put HMEM.out HOWN.out.isMap HOWN2.out
  have hoth := (HI1.out.mono (Nat.le_succ n)).of_block (w' := w2) (HG.out.block _ HI1.out.lt (fun e => by simp only [Option.some.injEq] at e; omega))
  have hcel : StCells w2 sb (n + 1) m bi br := (HG.out.block _ hz1 (fun e => by simp only [Option.some.injEq] at e; omega)).trans HSC1.out
  have hbel : Below B w w2 := HB1.out.drew.grown HG.out (Nat.le_trans hBw HB1.out.size) (fun k hk => by simp only [Option.some.injEq] at hk; omega)
  refine ⟨rfl, ⟨by rw [if_neg hqq]; exact hcel, hoth.congr (fun u => by rw [hq, Bool.false_and, Bool.or_false]), hset.congr (fun u => by rw [hq1, Bool.true_and]), hn1, hn2, hn3⟩, hbel⟩

set_option maxRecDepth 100000 in
set_option maxHeartbeats 2000000 in
theorem st_add_3 (B sb n m bi br : Nat) (I R : ByteArray → Bool) (q p : Int) (h s : ByteArray) (w : World) (hst : StAt w sb n m bi br I R) (hB1 : B ≤ sb) (hB2 : B ≤ bi) (hB3 : B ≤ br) (hBw : B ≤ w.heap.size) (hn : n ≤ 4611686018427387904) (hmn : m ≤ 4611686018427387904) (hh : h.size ≤ maxLen) (hq : (q == 0) = false) (hq1 : (q == 1) = false) (hq2 : (q == 2) = false) (hqq : ¬ q = 2) :
    Calls Try.prog 59 #[.pointer (some ⟨sb, 0, none⟩), .agg #[.int .i64 q, .string h, .string s, .int .i64 p]] w (AddPost B sb n m bi br I R q h w) := by
  obtain ⟨hsc, hI, hR, hn1, hn2, hn3⟩ := hst
  obtain ⟨W0, hW0⟩ : ∃ W0, w.alloc (.cells #[.int .i64 q, .string h, .string s, .int .i64 p] 24) = W0 := ⟨_, rfl⟩
  have hb0 : Below w.heap.size w W0 := by rw [← hW0]; exact (Below.refl _ _).alloc (Nat.le_refl _) _
  have hbox : W0.heap[w.heap.size]? = some (.cells #[.int .i64 q, .string h, .string s, .int .i64 p] 24 (0, 0)) := by rw [← hW0]; exact heap_alloc_new _ _
  have hsc0 := block_kept hb0 (Nat.le_refl _) hsc
  have hsbl := block_lt hsc
  have hI0 := hI.kept hb0 (Nat.le_refl _)
  have hR0 := hR.kept hb0 (Nat.le_refl _)
  have hbil := hI.lt
  have hbrl := hR.lt
  obtain ⟨c0, c1, c2, c3⟩ := four_cells hsc0
  obtain ⟨f0, f1, f2, f3⟩ := four_free hsc0
  obtain ⟨b0, b1, b2, b3⟩ := four_cells hbox
  have HB0 := Lib.hid hb0
  have HW0 := Lib.hid hW0
  have HSC0 := Lib.hid hsc0
  have HBOX := Lib.hid hbox
  have HI0 := Lib.hid hI0
  have HR0 := Lib.hid hR0
  have HSC := Lib.hid hsc
  have HI := Lib.hid hI
  have HR := Lib.hid hR
  clear hsc hI hR hb0 hsc0 hbox hI0 hR0
  subst hW0
  go_enter Try.func59, Try.ntmps59
  go_wp2
  go_end0
  obtain ⟨W1, hW1⟩ : ∃ W1, (w.setCell ⟨sb, 0, none⟩ (.int .i64 ((n : Int) + 1))).alloc (.cells #[.int .i64 q, .string h, .string s, .int .i64 p] 24) = W1 := ⟨_, rfl⟩
  rw [hW1]
  have hsz : (w.setCell ⟨sb, 0, none⟩ (.int .i64 ((n : Int) + 1))).heap.size = w.heap.size := by simp [World.setCell]
  have hsc1 : StCells W1 sb (n + 1) m bi br := by unfold StCells; rw [← hW1, Below.heap_alloc _ _ _ (by rw [hsz]; exact hsbl)]; exact block_setCell HSC.out _
  have hbox1 : W1.heap[w.heap.size]? = some (.cells #[.int .i64 q, .string h, .string s, .int .i64 p] 24 (0, 0)) := by rw [← hW1, ← hsz]; exact heap_alloc_new _ _
  have hI1 : SetM W1 bi n I := HI.out.of_block (by rw [← hW1, Below.heap_alloc _ _ _ (by rw [hsz]; exact hbil), Below.heap_setCell _ _ _ _ (by simp; omega)])
  have hR1 : SetM W1 br n R := HR.out.of_block (by rw [← hW1, Below.heap_alloc _ _ _ (by rw [hsz]; exact hbrl), Below.heap_setCell _ _ _ _ (by simp; omega)])
  have hb1 : Below B w W1 := by rw [← hW1]; exact ((Below.refl B w).setCell (p := ⟨sb, 0, none⟩) hB1 _).alloc (by rw [hsz]; exact hBw) _
  clear c0 c1 c2 c3 f0 f1 f2 f3 b0 b1 b2 b3 HB0 HW0 HSC0 HBOX HI0 HR0 HSC HI HR hW1 hsz
  exact ⟨rfl, ⟨by rw [if_neg hqq]; exact hsc1, (hI1.mono (Nat.le_succ n)).congr (fun u => by rw [hq, Bool.false_and, Bool.or_false]), (hR1.mono (Nat.le_succ n)).congr (fun u => by rw [hq1, Bool.false_and, Bool.or_false]), hn1, hn2, hn3⟩, hb1⟩

set_option maxRecDepth 100000 in
set_option maxHeartbeats 2000000 in
theorem st_add_2 (B sb n m bi br : Nat) (I R : ByteArray → Bool) (q p : Int) (h s : ByteArray) (w : World) (hst : StAt w sb n m bi br I R) (hB1 : B ≤ sb) (hB2 : B ≤ bi) (hB3 : B ≤ br) (hBw : B ≤ w.heap.size) (hn : n ≤ 4611686018427387904) (hmn : m ≤ 4611686018427387904) (hh : h.size ≤ maxLen) (hq : (q == 0) = false) (hq1 : (q == 1) = false) (hq2 : (q == 2) = true) (hqq : q = 2) :
    Calls Try.prog 59 #[.pointer (some ⟨sb, 0, none⟩), .agg #[.int .i64 q, .string h, .string s, .int .i64 p]] w (AddPost B sb n m bi br I R q h w) := by
  have HQQ := Lib.hid hqq
  clear hqq
  obtain ⟨hsc, hI, hR, hn1, hn2, hn3⟩ := hst
  obtain ⟨W0, hW0⟩ : ∃ W0, w.alloc (.cells #[.int .i64 q, .string h, .string s, .int .i64 p] 24) = W0 := ⟨_, rfl⟩
  have hb0 : Below w.heap.size w W0 := by rw [← hW0]; exact (Below.refl _ _).alloc (Nat.le_refl _) _
  have hbox : W0.heap[w.heap.size]? = some (.cells #[.int .i64 q, .string h, .string s, .int .i64 p] 24 (0, 0)) := by rw [← hW0]; exact heap_alloc_new _ _
  have hsc0 := block_kept hb0 (Nat.le_refl _) hsc
  have hsbl := block_lt hsc
  have hI0 := hI.kept hb0 (Nat.le_refl _)
  have hR0 := hR.kept hb0 (Nat.le_refl _)
  have hbil := hI.lt
  have hbrl := hR.lt
  obtain ⟨c0, c1, c2, c3⟩ := four_cells hsc0
  obtain ⟨f0, f1, f2, f3⟩ := four_free hsc0
  obtain ⟨b0, b1, b2, b3⟩ := four_cells hbox
  have HB0 := Lib.hid hb0
  have HW0 := Lib.hid hW0
  have HSC0 := Lib.hid hsc0
  have HBOX := Lib.hid hbox
  have HI0 := Lib.hid hI0
  have HR0 := Lib.hid hR0
  have HSC := Lib.hid hsc
  have HI := Lib.hid hI
  have HR := Lib.hid hR
  clear hsc hI hR hb0 hsc0 hbox hI0 hR0
  subst hW0
  go_enter Try.func59, Try.ntmps59
  have hsz : (w.setCell ⟨sb, 0, none⟩ (.int .i64 ((n : Int) + 1))).heap.size = w.heap.size := by simp [World.setCell]
  have hV : StCells ((w.setCell ⟨sb, 0, none⟩ (.int .i64 ((n : Int) + 1))).alloc (.cells #[.int .i64 q, .string h, .string s, .int .i64 p] 24)) sb (n + 1) m bi br := by unfold StCells; rw [Below.heap_alloc _ _ _ (by rw [hsz]; exact hsbl)]; exact block_setCell HSC.out _
  obtain ⟨g0, g1, g2, g3⟩ := four_cells hV
  obtain ⟨k0, k1, k2, k3⟩ := four_free hV
  have HSZ := Lib.hid hsz
  clear hsz hV g0 g2 g3 k0 k2 k3
  go_wp2
  go_end0
  obtain ⟨W2, hW2⟩ : ∃ W2, (((w.setCell ⟨sb, 0, none⟩ (.int .i64 ((n : Int) + 1))).setCell ⟨sb, 1, none⟩ (.int .i64 ((m : Int) + 1))).alloc (.cells #[.int .i64 q, .string h, .string s, .int .i64 p] 24)) = W2 := ⟨_, rfl⟩
  rw [hW2]
  have hsz : ((w.setCell ⟨sb, 0, none⟩ (.int .i64 ((n : Int) + 1))).setCell ⟨sb, 1, none⟩ (.int .i64 ((m : Int) + 1))).heap.size = w.heap.size := by simp [World.setCell]
  have hsc2 : StCells W2 sb (n + 1) (m + 1) bi br := by unfold StCells; rw [← hW2, Below.heap_alloc _ _ _ (by rw [hsz]; exact hsbl)]; exact block_setCell (block_setCell HSC.out _) _
  have hI2 : SetM W2 bi n I := HI.out.of_block (by rw [← hW2, Below.heap_alloc _ _ _ (by rw [hsz]; exact hbil), Below.heap_setCell _ _ _ _ (by simp; omega), Below.heap_setCell _ _ _ _ (by simp; omega)])
  have hR2 : SetM W2 br n R := HR.out.of_block (by rw [← hW2, Below.heap_alloc _ _ _ (by rw [hsz]; exact hbrl), Below.heap_setCell _ _ _ _ (by simp; omega), Below.heap_setCell _ _ _ _ (by simp; omega)])
  have hb2 : Below B w W2 := by rw [← hW2]; exact (((Below.refl B w).setCell (p := ⟨sb, 0, none⟩) hB1 _).setCell (p := ⟨sb, 1, none⟩) hB1 _).alloc (by rw [hsz]; exact hBw) _
  exact ⟨rfl, ⟨by rw [if_pos HQQ.out]; exact hsc2, (hI2.mono (Nat.le_succ n)).congr (fun u => by rw [hq, Bool.false_and, Bool.or_false]), (hR2.mono (Nat.le_succ n)).congr (fun u => by rw [hq1, Bool.false_and, Bool.or_false]), hn1, hn2, hn3⟩, hb2⟩

theorem st_add (B sb n m bi br : Nat) (I R : ByteArray → Bool) (e : En) (w : World) (hst : StAt w sb n m bi br I R) (hB1 : B ≤ sb) (hB2 : B ≤ bi) (hB3 : B ≤ br) (hBw : B ≤ w.heap.size) (hn : n ≤ 4611686018427387904) (hmn : m ≤ 4611686018427387904) (hh : e.handle.size ≤ maxLen) :
    Calls Try.prog 59 #[.pointer (some ⟨sb, 0, none⟩), e.val] w (AddPost B sb n m bi br I R e.kind e.handle w) := by
  obtain ⟨q, h, s, p⟩ := e
  by_cases k0 : q = 0
  · exact st_add_0 B sb n m bi br I R q p h s w hst hB1 hB2 hB3 hBw hn hmn hh (eqI k0) (neI (by omega)) (neI (by omega)) (by omega)
  · by_cases k1 : q = 1
    · exact st_add_1 B sb n m bi br I R q p h s w hst hB1 hB2 hB3 hBw hn hmn hh (neI k0) (eqI k1) (neI (by omega)) (by omega)
    · by_cases k2 : q = 2
      · exact st_add_2 B sb n m bi br I R q p h s w hst hB1 hB2 hB3 hBw hn hmn hh (neI k0) (neI k1) (eqI k2) k2
      · exact st_add_3 B sb n m bi br I R q p h s w hst hB1 hB2 hB3 hBw hn hmn hh (neI k0) (neI k1) (neI k2) k2
end Go.Proofs.Ythidhgniondkgaa

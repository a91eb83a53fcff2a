/- Walk: the law PrimegroupLogs. -/
import Derived.Test.YtcbjadaghpmejaaGreatDoorAwL
import Derived.BigRegionIn
set_option linter.unusedVariables false
set_option linter.unusedSimpArgs false
namespace Go.Proofs.YtcbjadaghpmejaaGreatDoor
open Go.RowKit Go.Shelf
attribute [local go_sem] Oper.semAt_some

/-- A range over an iterator whose body goes on, breaks off the block, or returns; the return is refuted. -/
theorem wpIn_range_break {F : Fence} {n : Nat} {P : Program} {α : Type} {g : Operand} {ps : Array Tmp} {assign body : Code} {Q' : Exit → Act → World → Prop} {id : Nat} {a : Act} {w : World}
    (hro : F.round = none) (h1 : 1 ≤ n) {gf : Nat} {lb : Array Value} (hg : a.eval g = .func (.func gf) #[] lb) (hFg : F.fn gf) (eg : ∀ args w, (callFunc gf args).run P w = .ok (.enter gf args) w)
    {encs : α → Array Value} {Kp : World → World → Prop} {S Sp : List α → Prop} {N : Nat} {w0 : World} (hseq : SeqStopsK F (n - 1) P gf lb encs Kp S Sp N w0)
    (hKt : ∀ {A B C : World}, Kp A B → Kp B C → Kp A C) (hKb : ∀ (W : World) (l : Nat) (o o' : Obj), w.heap.size ≤ l → W.heap[l]? = some o → o.isCells = false → o.isWalk = false → Kp W (W.putObj l o')) (hb0 : Below w0.heap.size w0 w) (hps : ∀ x, (encs x).size = ps.size)
    (I R : List α → World → Prop) (X : List α → Prop) (hI : OwnFrom w.heap.size I) (hR : OwnFrom w.heap.size R) (h0 : I [] w) (a₁ : α → Act)
    (hassign : ∀ (l : Nat) (x : α) (W : World) (K : Act → World → Prop), K (a₁ x) W →
      assign.wpIn (F.inRound l) (n - 1 - 1) P (Exit.then K (fun _ _ _ => False)) { tmps := (ps.zip (encs x)).foldl (fun t (p, v) => t.setIfInBounds p v) a.tmps, defers := [] } W)
    (hbody : ∀ (l : Nat) (pre : List α) (x : α) (W : World), I pre W → pre.length < N → body.wpIn (F.inRound l) (n - 1 - 1) P (ownPostK Kp I (fun c pre W => (c = .exit id ∧ R pre W) ∨ (c = .ret ∧ X pre)) (pre ++ [x]) W) (a₁ x) W)
    (hno : ∀ pre, Sp pre → ¬ X pre)
    (hend : ∀ (D : Nat) (W : World), w.heap.size ≤ D → ((∃ xs, S xs ∧ I xs W) ∨ (∃ pre, Sp pre ∧ R pre W)) → W.heap[D]? = some (.deferred (some [])) → Q' .normal { a with defers := { target := .collected D, args := #[] } :: a.defers } W) :
    (Code.rangeFunc g ps assign body).wpIn F n P (Exit.inBlock id Q') a w := by
  refine wpIn_rangeFunc_ownF hro h1 hg hFg eg hseq hKt hKb hb0 hps I (fun c pre W => (c = .exit id ∧ R pre W) ∨ (c = .ret ∧ X pre)) hI ?_ h0 a₁ hassign hbody ?_ ?_
  · intro c s A B row hs hg hr
    rcases hs with ⟨e, h⟩ | h
    · exact .inl ⟨e, hR s A B row h hg hr⟩
    · exact .inr h
  · intro D xs W hD hS hIx hK
    exact hend D W hD (.inl ⟨xs, hS, hIx⟩) hK
  · intro D c pre W hD hSp hIx hK
    rcases hIx with ⟨rfl, h⟩ | ⟨rfl, h⟩
    · refine wpIn_exit ?_
      simp only [Exit.inBlock, if_true]
      exact hend D W hD (.inr ⟨pre, hSp, h⟩) hK
    · exact absurd h (hno pre hSp)

theorem logR_form (M O g x : ByteArray) (L : Int) : ∃ (k : Int) (b : Bool), logR M O g x L = .tuple #[.int .i64 k, .bool b] := by
  unfold logR
  split
  · split
    · exact ⟨_, _, rfl⟩
    · exact ⟨_, _, rfl⟩
  · exact ⟨_, _, rfl⟩

/-- A prefix that goes on as the list does. -/
theorem pfx_on {α : Type} {L pre : List α} {x : α} (h : pre <+: L) (hx : L[pre.length]? = some x) : pre ++ [x] <+: L := by
  obtain ⟨r, rfl⟩ := h
  cases r with
  | nil => rw [List.append_nil, List.getElem?_eq_none (Nat.le_refl _)] at hx; cases hx
  | cons y r =>
    rw [List.getElem?_append_right (Nat.le_refl _), Nat.sub_self] at hx
    simp only [List.getElem?_cons_zero, Option.some.injEq] at hx
    subst hx
    exact ⟨r, by simp⟩
theorem pfx_at {α : Type} {L pre : List α} {x : α} (h : pre ++ [x] <+: L) : L[pre.length]? = some x := by
  obtain ⟨r, rfl⟩ := h
  rw [List.append_assoc, List.getElem?_append_right (Nat.le_refl _), Nat.sub_self]
  rfl
theorem pfx_not {α : Type} {L pre : List α} {x : α} {n : Nat} (hl : pre.length < n) (h : (L.take n)[pre.length]? ≠ some x) : ¬ (pre ++ [x] <+: L) := fun hp => by
  refine h ?_
  rw [List.getElem?_take, if_pos hl]
  exact pfx_at hp
theorem pfx_all {α : Type} {L : List α} {n : Nat} (h : L <+: L.take n) : L.length = (L.take n).length := Nat.le_antisymm h.length_le (by rw [List.length_take]; exact Nat.min_le_right _ _)

set_option maxRecDepth 100000 in
set_option maxHeartbeats 4000000 in
theorem walk_logs_far (M O g x : ByteArray) (most : Int) (hf : few9 M O [g, x] = false ∨ (few9 M O [g, x] = true ∧ 300 < most)) (w : World) : Calls Tryz.prog 6 #[gV M O, .agg #[.string g, .string x], .int .i64 most] w (Ret (.bool true) w) := by
  have HAW := Lib.hid awake9
  obtain ⟨W0, hW0⟩ : ∃ W0, ((w.alloc (.cells #[.string M, .string O] 24)).alloc (.cells #[.string g, .string x] 39)).alloc (.cells #[.bool false] 4) = W0 := ⟨_, rfl⟩
  have hs0 : W0.heap.size = w.heap.size + 1 + 1 + 1 := by
    rw [← hW0]
    exact by simp
  have hB0 : Below w.heap.size w W0 := by
    rw [← hW0]
    exact (((Below.refl w.heap.size w).alloc (Nat.le_refl _) _).alloc (by simp) _).alloc (by simp; omega) _
  have hX0 : Bx2 W0 w.heap.size (.string M) (.string O) 24 := by
    rw [← hW0]
    exact ((Bx2.new w _ _ _).next ((Below.refl _ _).alloc (Nat.le_refl _) _)).next ((Below.refl _ _).alloc (Nat.le_refl _) _)
  have hL0 : Bx2 W0.drew (w.heap.size + 1) (.string g) (.string x) 39 := by
    rw [← hW0]
    have := Bx2.new (w.alloc (.cells #[.string M, .string O] 24)) (.string g) (.string x) 39
    rw [World.size_alloc] at this
    exact this.next ((Below.refl _ _).alloc (Nat.le_refl _) _).drew
  have hR0 : Boxed W0 (w.heap.size + 1 + 1) 4 (.bool false) := by
    rw [← hW0]
    have := heap_alloc_new ((w.alloc (.cells #[.string M, .string O] 24)).alloc (.cells #[.string g, .string x] 39)) (.cells #[.bool false] 4)
    rw [World.size_alloc, World.size_alloc] at this
    exact this
  have d0 := hL0.c0
  have d1 := hL0.c1
  have e0 : W0.drew.cell? ⟨w.heap.size, 0, none⟩ = some (.string M) := hX0.c0
  have e1 : W0.drew.cell? ⟨w.heap.size, 1, none⟩ = some (.string O) := hX0.c1
  obtain ⟨W1, hW1⟩ : ∃ W1, (W0.alloc (.cells #[.string g, .string x] 22)).drew = W1 := ⟨_, rfl⟩
  have hb1 : Below W0.heap.size W0 W1 := by rw [← hW1]; exact ((Below.refl _ _).alloc (Nat.le_refl _) _).drew
  have HX1 := Lib.hid (hX0.next hb1)
  have HR1 := Lib.hid (show Boxed W1 (w.heap.size + 1 + 1) 4 (.bool false) from (hb1.block _ (block_lt hR0)).trans hR0)
  have HB1 := Lib.hid (hB0.trans (hb1.mono hB0.size))
  have HS1 := Lib.hid (show SlN W1 (some ⟨w.heap.size + 1 + 1 + 1, 0, none⟩) 2 2 [g, x] from by
    rw [← hW1, ← hs0]
    exact (sln_alloc W0 [g, x] 22 (by simp)).kept (B := (W0.alloc (.cells #[.string g, .string x] 22)).heap.size) (Below.refl _ _).drew (Nat.le_refl _))
  have HFW := Lib.hid (law_Few M O [g, x] (some ⟨w.heap.size + 1 + 1 + 1, 0, none⟩) 2 2 (by omega) W1 HS1.out)
  have HW1 := Lib.hid hW1
  have HW0 := Lib.hid hW0
  have hsz1 : w.heap.size + 1 + 1 + 1 < W1.heap.size := by rw [← hW1, ← hs0]; exact by simp [World.drew]
  clear hB0 hX0 hL0 hR0 hb1 hW1
  unfold gV at *
  refine (callsIn_wide (n := 3)).1 ?_
  refine callsIn_of_wp_marks Tryz.func6 rfl trivial ?_ rfl
  simp only [Tryz.ntmps6, List.size_toArray, List.length_cons, List.length_nil, Nat.reduceAdd, Nat.reduceSub, Array.replicate_succ, Array.replicate_zero, List.push_toArray, List.append_toArray, List.nil_append, List.cons_append]
  gi_wp2
  gi_region
  clear d0 d1
  gi_wp2
  rw [HW1.out]
  clear e0 e1 hW0 hs0 HW0 HW1
  rcases hf with hf | ⟨hf, h3⟩
  · rw [hf] at HFW
    clear hf
    refine ⟨trivial, callsIn_wide.2 (HFW.out.mono ?_)⟩
    rintro e w2 ⟨rfl, hb2⟩
    have HR2 := Lib.hid (show Boxed w2 (w.heap.size + 1 + 1) 4 (.bool false) from (hb2.block _ (block_lt HR1.out)).trans HR1.out)
    have HB2 := Lib.hid (HB1.out.trans (hb2.mono HB1.out.size))
    clear hb2
    gi_wp2
    refine ⟨trivial, callsIn_wide.2 ((HAW.out _).mono ?_)⟩
    rintro e w3 ⟨rfl, hb3⟩
    have HR3 := Lib.hid (show Boxed w3 (w.heap.size + 1 + 1) 4 (.bool false) from (hb3.block _ (block_lt HR2.out)).trans HR2.out)
    have HB3 := Lib.hid (HB2.out.trans (hb3.mono HB2.out.size))
    clear hb3
    have r0 := HR3.out.cell
    have rf := HR3.out.frozen
    gi_wp2
    have hq := (show Boxed (w3.setCell ⟨w.heap.size + 1 + 1, 0, none⟩ (.bool true)) (w.heap.size + 1 + 1) 4 (.bool true) from block_setCell HR3.out _).cell
    refine ⟨_, (by simp [results, Tryz.results6, go_sem, hq]), rfl, HB3.out.setCell (p := ⟨w.heap.size + 1 + 1, 0, none⟩) (by simp only []; omega) _⟩
  · rw [hf] at HFW
    clear hf
    refine ⟨trivial, callsIn_wide.2 (HFW.out.mono ?_)⟩
    rintro e w2 ⟨rfl, hb2⟩
    have HR2 := Lib.hid (show Boxed w2 (w.heap.size + 1 + 1) 4 (.bool false) from (hb2.block _ (block_lt HR1.out)).trans HR1.out)
    have HB2 := Lib.hid (HB1.out.trans (hb2.mono HB1.out.size))
    clear hb2
    gi_wp2
    refine ⟨trivial, callsIn_wide.2 ((HAW.out _).mono ?_)⟩
    rintro e w3 ⟨rfl, hb3⟩
    have HR3 := Lib.hid (show Boxed w3 (w.heap.size + 1 + 1) 4 (.bool false) from (hb3.block _ (block_lt HR2.out)).trans HR2.out)
    have HB3 := Lib.hid (HB2.out.trans (hb3.mono HB2.out.size))
    clear hb3
    have r0 := HR3.out.cell
    have rf := HR3.out.frozen
    gi_wp2
    have hq := (show Boxed (w3.setCell ⟨w.heap.size + 1 + 1, 0, none⟩ (.bool true)) (w.heap.size + 1 + 1) 4 (.bool true) from block_setCell HR3.out _).cell
    refine ⟨_, (by simp [results, Tryz.results6, go_sem, hq]), rfl, HB3.out.setCell (p := ⟨w.heap.size + 1 + 1, 0, none⟩) (by simp only []; omega) _⟩

set_option maxRecDepth 100000 in
set_option maxHeartbeats 8000000 in
theorem walk_logs_near (M O g x : ByteArray) (most : Int) (hf : few9 M O [g, x] = true) (h3 : most ≤ 300) (w : World) : Calls Tryz.prog 6 #[gV M O, .agg #[.string g, .string x], .int .i64 most] w (Ret (.bool true) w) := by
  have HAW := Lib.hid awake9
  obtain ⟨hM, hO, hall⟩ := few9_of hf
  have hg := hall g (by simp)
  have hx := hall x (by simp)
  obtain ⟨lk, lb, hlr⟩ := logR_form M O g x most
  have HLA := Lib.hid (pg_Log M O g x most hM (by omega) (by omega) (by omega))
  have HLB := Lib.hid (r09_Log M O g x most hM (by omega) (by omega) (by omega))
  rw [hlr] at HLA HLB
  have HRE := Lib.hid (r09_Elements M O g 80 (by omega) hM (by omega) (by omega))
  have HEL := Lib.hid (pg_Elements M O g)
  have HES := Lib.hid (fun k (hk : 1 ≤ k) D w hD hE => elements_stops k hk M O g hM (by omega) (by omega) D w hD hE)
  obtain ⟨L, hL⟩ : ∃ L, elemG M O g = L := ⟨_, rfl⟩
  rw [hL] at HRE HES
  clear hlr hL
  obtain ⟨W0, hW0⟩ : ∃ W0, ((w.alloc (.cells #[.string M, .string O] 24)).alloc (.cells #[.string g, .string x] 39)).alloc (.cells #[.bool false] 4) = W0 := ⟨_, rfl⟩
  have hs0 : W0.heap.size = w.heap.size + 1 + 1 + 1 := by
    rw [← hW0]
    exact by simp
  have hB0 : Below w.heap.size w W0 := by
    rw [← hW0]
    exact (((Below.refl w.heap.size w).alloc (Nat.le_refl _) _).alloc (by simp) _).alloc (by simp; omega) _
  have hX0 : Bx2 W0 w.heap.size (.string M) (.string O) 24 := by
    rw [← hW0]
    exact ((Bx2.new w _ _ _).next ((Below.refl _ _).alloc (Nat.le_refl _) _)).next ((Below.refl _ _).alloc (Nat.le_refl _) _)
  have hL0 : Bx2 W0.drew (w.heap.size + 1) (.string g) (.string x) 39 := by
    rw [← hW0]
    have := Bx2.new (w.alloc (.cells #[.string M, .string O] 24)) (.string g) (.string x) 39
    rw [World.size_alloc] at this
    exact this.next ((Below.refl _ _).alloc (Nat.le_refl _) _).drew
  have hR0 : Boxed W0 (w.heap.size + 1 + 1) 4 (.bool false) := by
    rw [← hW0]
    have := heap_alloc_new ((w.alloc (.cells #[.string M, .string O] 24)).alloc (.cells #[.string g, .string x] 39)) (.cells #[.bool false] 4)
    rw [World.size_alloc, World.size_alloc] at this
    exact this
  have d0 := hL0.c0
  have d1 := hL0.c1
  have e0 : W0.drew.cell? ⟨w.heap.size, 0, none⟩ = some (.string M) := hX0.c0
  have e1 : W0.drew.cell? ⟨w.heap.size, 1, none⟩ = some (.string O) := hX0.c1
  obtain ⟨W1, hW1⟩ : ∃ W1, (W0.alloc (.cells #[.string g, .string x] 22)).drew = W1 := ⟨_, rfl⟩
  have hb1 : Below W0.heap.size W0 W1 := by rw [← hW1]; exact ((Below.refl _ _).alloc (Nat.le_refl _) _).drew
  have HX1 := Lib.hid (hX0.next hb1)
  have HR1 := Lib.hid (show Boxed W1 (w.heap.size + 1 + 1) 4 (.bool false) from (hb1.block _ (block_lt hR0)).trans hR0)
  have HB1 := Lib.hid (hB0.trans (hb1.mono hB0.size))
  have HS1 := Lib.hid (show SlN W1 (some ⟨w.heap.size + 1 + 1 + 1, 0, none⟩) 2 2 [g, x] from by
    rw [← hW1, ← hs0]
    exact (sln_alloc W0 [g, x] 22 (by simp)).kept (B := (W0.alloc (.cells #[.string g, .string x] 22)).heap.size) (Below.refl _ _).drew (Nat.le_refl _))
  have HFW := Lib.hid (law_Few M O [g, x] (some ⟨w.heap.size + 1 + 1 + 1, 0, none⟩) 2 2 (by omega) W1 HS1.out)
  have HW1 := Lib.hid hW1
  have HW0 := Lib.hid hW0
  have hsz1 : w.heap.size + 1 + 1 + 1 < W1.heap.size := by rw [← hW1, ← hs0]; exact by simp [World.drew]
  clear hB0 hX0 hL0 hR0 hb1 hW1
  unfold gV at *
  refine (callsIn_wide (n := 3)).1 ?_
  refine callsIn_of_wp_marks Tryz.func6 rfl trivial ?_ rfl
  simp only [Tryz.ntmps6, List.size_toArray, List.length_cons, List.length_nil, Nat.reduceAdd, Nat.reduceSub, Array.replicate_succ, Array.replicate_zero, List.push_toArray, List.append_toArray, List.nil_append, List.cons_append]
  gi_wp2
  gi_region
  clear d0 d1
  gi_wp2
  rw [HW1.out]
  clear e0 e1 hW0 hs0 HW0 HW1
  rw [hf] at HFW
  clear hf hM hO hall hg hx
  refine ⟨trivial, callsIn_wide.2 (HFW.out.mono ?_)⟩
  rintro e w2 ⟨rfl, hb2⟩
  have HX2 := Lib.hid (HX1.out.next hb2)
  have HR2 := Lib.hid (show Boxed w2 (w.heap.size + 1 + 1) 4 (.bool false) from (hb2.block _ (block_lt HR1.out)).trans HR1.out)
  have HB2 := Lib.hid (HB1.out.trans (hb2.mono HB1.out.size))
  have hsz2 := Nat.lt_of_lt_of_le hsz1 hb2.size
  have c0 := HX2.out.c0
  have c1 := HX2.out.c1
  clear hb2 hsz1
  gi_wp2
  refine ⟨trivial, callsIn_wide.2 ((HLA.out _).mono ?_)⟩
  rintro e w3 ⟨rfl, hb3⟩
  have HX3 := Lib.hid (HX2.out.next hb3)
  have HR3 := Lib.hid (show Boxed w3 (w.heap.size + 1 + 1) 4 (.bool false) from (hb3.block _ (block_lt HR2.out)).trans HR2.out)
  have HB3 := Lib.hid (HB2.out.trans (hb3.mono HB2.out.size))
  have hsz3 := Nat.lt_of_lt_of_le hsz2 hb3.size
  clear hb3 hsz2 c0 c1
  have c0 := HX3.out.c0
  have c1 := HX3.out.c1
  gi_wp2
  refine ⟨trivial, callsIn_wide.2 ((HLB.out _).mono ?_)⟩
  rintro e w4 ⟨rfl, hb4⟩
  have HX4 := Lib.hid (HX3.out.next hb4)
  have HR4 := Lib.hid (show Boxed w4 (w.heap.size + 1 + 1) 4 (.bool false) from (hb4.block _ (block_lt HR3.out)).trans HR3.out)
  have HB4 := Lib.hid (HB3.out.trans (hb4.mono HB3.out.size))
  have hsz4 := Nat.lt_of_lt_of_le hsz3 hb4.size
  clear hb4 hsz3 c0 c1
  have c0 := HX4.out.c0
  have c1 := HX4.out.c1
  gi_wp2
  refine ⟨trivial, callsIn_wide.2 ((HRE.out _).mono ?_)⟩
  rintro e w5 ⟨A5, cap5, rfl, hsl, hb5⟩
  have HX5 := Lib.hid (HX4.out.next hb5)
  have HR5 := Lib.hid (show Boxed w5 (w.heap.size + 1 + 1) 4 (.bool false) from (hb5.block _ (block_lt HR4.out)).trans HR4.out)
  have HB5 := Lib.hid (HB4.out.trans (hb5.mono HB4.out.size))
  have hsz5 := Nat.lt_of_lt_of_le hsz4 hb5.size
  have HSL := Lib.hid hsl
  clear hb5 hsz4 c0 c1 hsl
  have HLL := Lib.hid (show ((L.take 80).map nS).length = (L.take 80).length from List.length_map _)
  rw [HLL.out] at HSL ⊢
  obtain ⟨n, hn⟩ : ∃ n, (L.take 80).length = n := ⟨_, rfl⟩
  have hn80 : n ≤ 80 := by rw [← hn, List.length_take]; exact Nat.min_le_left _ _
  rw [hn] at HSL ⊢
  have HN := Lib.hid hn
  clear hn
  have hx5 := HX5.out.next ((Below.refl w5.heap.size w5).alloc (Nat.le_refl _) (.cells #[.slice A5 n cap5] 42))
  have c0 := hx5.c0
  have c1 := hx5.c1
  clear hx5
  gi_wp2
  clear c0 c1
  obtain ⟨V, hV⟩ : ∃ V, w5.heap.size = V := ⟨_, rfl⟩
  obtain ⟨W5, hW5⟩ : ∃ W5, w5.alloc (.cells #[.slice A5 n cap5] 42) = W5 := ⟨_, rfl⟩
  have hb5 : Below w5.heap.size w5 W5 := by rw [← hW5]; exact (Below.refl _ _).alloc (Nat.le_refl _) _
  have hv5 : Boxed W5 V 42 (.slice A5 n cap5) := by rw [← hW5, ← hV]; exact heap_alloc_new _ _
  have hs5 : W5.heap.size = V + 1 := by rw [← hW5, ← hV]; exact World.size_alloc _ _
  rw [hV, hW5]
  refine ⟨trivial, callsIn_wide.2 ((HEL.out _).mono ?_)⟩
  rintro e w6 ⟨rfl, rfl⟩
  obtain ⟨W6, hW6⟩ : ∃ W6, (W5.alloc (.cells #[.string M, .string O] 24)).alloc (.cells #[.string g] 22) = W6 := ⟨_, rfl⟩
  have hb6 : Below W5.heap.size W5 W6 := by rw [← hW6]; exact ((Below.refl _ _).alloc (Nat.le_refl _) _).alloc (by simp) _
  have hb56 : Below w5.heap.size w5 W6 := hb5.trans (hb6.mono hb5.size)
  have HR6 := Lib.hid (show Boxed W6 (w.heap.size + 1 + 1) 4 (.bool false) from (hb56.block _ (block_lt HR5.out)).trans HR5.out)
  have HB6 := Lib.hid (HB5.out.trans (hb56.mono HB5.out.size))
  have HV6 := Lib.hid (show Boxed W6 V 42 (.slice A5 n cap5) from (hb6.block _ (by omega)).trans hv5)
  have HSL6 := Lib.hid (HSL.out.kept hb56 (Nat.le_refl _))
  have HD6 := Lib.hid (show Bx2 W6 (V + 1) (.string M) (.string O) 24 from by
    rw [← hW6, ← hs5]
    exact (Bx2.new W5 _ _ _).next ((Below.refl _ _).alloc (Nat.le_refl _) _))
  have HE6 := Lib.hid (show BoxS W6 (V + 1 + 1) g from by
    rw [← hW6, ← hs5]
    have := BoxS.new (W5.alloc (.cells #[.string M, .string O] 24)) g
    rwa [World.size_alloc] at this)
  have hs6 : W6.heap.size = V + 1 + 1 + 1 := by rw [← hW6, World.size_alloc, World.size_alloc, hs5]
  have hwV : w.heap.size + 1 + 1 < V := by omega
  rw [hW6, hs5]
  clear hW6 hW5 hb6 hb5 hb56 hv5 hV HX1 HX2 HX3 HX4 HX5 HB1 HB2 HB3 HB4 HB5 HR1 HR2 HR3 HR4 HR5 HSL HS1 hs5
  have hnil := fun (W : World) => (show (binOp BinOp.eql 45 (.func (.func 37) #[] #[.pointer (some ⟨V + 1, 0, none⟩), .pointer (some ⟨V + 1 + 1, 0, none⟩)]) .nilFunc).run Tryz.prog W = .ok (.bool false) W from by kernel_rfl)
  gi_wp2
  refine wpIn_loop_rounds 3 ?_
  rw [roundsIn_succ]
  gi_wp2
  obtain ⟨W7, hW7⟩ : ∃ W7, W6.alloc (.cells #[.int .i64 0] 3) = W7 := ⟨_, rfl⟩
  have hb7 : Below W6.heap.size W6 W7 := by rw [← hW7]; exact (Below.refl _ _).alloc (Nat.le_refl _) _
  have HR7 := Lib.hid (show Boxed W7 (w.heap.size + 1 + 1) 4 (.bool false) from (hb7.block _ (block_lt HR6.out)).trans HR6.out)
  have HB7 := Lib.hid (HB6.out.trans (hb7.mono HB6.out.size))
  have HV7 := Lib.hid (show Boxed W7 V 42 (.slice A5 n cap5) from (hb7.block _ (block_lt HV6.out)).trans HV6.out)
  have HSL7 := Lib.hid (HSL6.out.kept hb7 (Nat.le_refl _))
  have HD7 := Lib.hid (HD6.out.next hb7)
  have HE7 := Lib.hid (HE6.out.kept hb7 HE6.out.lt)
  have HN7 := Lib.hid (show Boxed W7 (V + 1 + 1 + 1) 3 (.int .i64 0) from by rw [← hW7, ← hs6]; exact heap_alloc_new _ _)
  have hs7 : W7.heap.size = V + 1 + 1 + 1 + 1 := by rw [← hW7, World.size_alloc, hs6]
  have HSLX7 := Lib.hid (fun (W : World) (hb : Below (V + 1 + 1 + 1) W7 W) => HSL6.out.kept ((show Below (V + 1 + 1 + 1) W6 W7 from by rw [← hs6]; exact hb7).trans hb) (by omega))
  rw [hW7]
  clear hW7 hb7 hs6
  refine wpIn_range_break rfl (by omega) (gf := 37) (lb := #[.pointer (some ⟨V + 1, 0, none⟩), .pointer (some ⟨V + 1 + 1, 0, none⟩)]) rfl trivial (enters_of Tryz.func37 (by kernel_rfl) rfl)
    (HES.out 2 (by omega) (V + 1) W7 HD7.out HE7.out) (fun h k => ⟨k.1.trans h.1, k.2.trans h.2⟩) (fun W l o o' hl _ _ _ => ⟨World.putObj_heap_other (by omega), World.putObj_heap_other (by omega)⟩) (Below.refl _ _) (fun _ => rfl)
    (fun pre W => (Boxed W (V + 1 + 1 + 1) 3 (.int .i64 (pre.length : Nat)) ∧ (pre <+: L.take 80 ∧ pre.length < 80)) ∧ Below (V + 1 + 1 + 1) W7 W)
    (fun pre W => (Boxed W (V + 1 + 1 + 1) 3 (.int .i64 80) ∧ (pre <+: L.take 80 ∧ pre.length = 80)) ∧ Below (V + 1 + 1 + 1) W7 W)
    (fun pre => ¬ pre <+: L)
    (OwnFrom.and (Own.from (fun s X Y row hs hg hr => ⟨boxed_own (V + 1 + 1 + 1) 3 (fun pre : List Nat => .int .i64 (pre.length : Nat)) s X Y row hs.1 hg hr, hs.2⟩) _) (ownFrom_below (by omega) (by omega)))
    (OwnFrom.and (Own.from (fun s X Y row hs hg hr => ⟨boxed_own (V + 1 + 1 + 1) 3 (fun _ : List Nat => .int .i64 80) s X Y row hs.1 hg hr, hs.2⟩) _) (ownFrom_below (by omega) (by omega)))
    ⟨⟨HN7.out, List.nil_prefix, by decide⟩, Below.refl _ _⟩
    (fun y => { tmps := #[.agg #[.string M, .string O], .agg #[.string g, .string x], .int .i64 most, .pointer (some ⟨w.heap.size, 0, none⟩), .pointer (some ⟨w.heap.size + 1, 0, none⟩), undef, .pointer (some ⟨w.heap.size + 1 + 1, 0, none⟩), .string g, .string x, .int .i64 lk, .bool lb, .int .i64 lk, .bool lb, .pointer (some ⟨V, 0, none⟩), .func (.func 37) #[] #[.pointer (some ⟨V + 1, 0, none⟩), .pointer (some ⟨V + 1 + 1, 0, none⟩)], .pointer (some ⟨V + 1 + 1 + 1, 0, none⟩), .string (nS y), .pointer (some ⟨w.heap.size + 1, 0, none⟩), .string g, .pointer (some ⟨w.heap.size + 1, 1, none⟩), .string x, .agg #[.string M, .string O], .string g, .string x, .slice (some ⟨w.heap.size + 1 + 1 + 1, 0, none⟩) 2 2, .bool true, .bool false, .bool false, .int .i64 most, .bool (decide (300 < most)), .bool (decide (300 < most)), undef, .tuple #[.int .i64 lk, .bool lb], .agg #[.string M, .string O], .string g, .string x, .int .i64 most, .tuple #[.int .i64 lk, .bool lb], .int .i64 lk, .bool lb, .tuple #[.int .i64 lk, .bool lb], .agg #[.string M, .string O], .string g, .string x, .int .i64 most, .tuple #[.int .i64 lk, .bool lb], .int .i64 lk, .bool lb, .int .i64 lk, .int .i64 lk, .bool false, .bool false, .bool lb, .bool lb, .bool false, .bool false, .agg #[.string M, .string O], .string g, .slice A5 n cap5, .agg #[.string M, .string O], .string g, .func (.func 37) #[] #[.pointer (some ⟨V + 1, 0, none⟩), .pointer (some ⟨V + 1 + 1, 0, none⟩)], .func (.func 37) #[] #[.pointer (some ⟨V + 1, 0, none⟩), .pointer (some ⟨V + 1 + 1, 0, none⟩)], .bool false, .int .i64 0, .bool true, .func (.func 37) #[] #[.pointer (some ⟨V + 1, 0, none⟩), .pointer (some ⟨V + 1 + 1, 0, none⟩)], .string (nS y), undef, undef, undef, undef, undef, undef, undef, undef, undef, undef, undef, undef, undef, undef, undef, undef, undef, undef, undef, undef, undef, undef], defers := [] }) ?assign ?body (fun pre h hx => hx h) ?hend
  case assign =>
    intro l y W K hK
    gi_wp2
    exact hK
  case body =>
    rintro l pre y W ⟨⟨hN', hpre, hlen⟩, hB'⟩ _
    obtain ⟨K, hK⟩ : ∃ K, pre.length = K := ⟨_, rfl⟩
    rw [hK] at hN' hlen
    have HN' := Lib.hid hN'
    have HB' := Lib.hid hB'
    have HPRE := Lib.hid hpre
    have HKK := Lib.hid hK
    have n0 := hN'.cell
    have nf := hN'.frozen
    have HVW := Lib.hid (show Boxed W V 42 (.slice A5 n cap5) from (hB'.block V (by omega)).trans HV7.out)
    have HRW := Lib.hid (show Boxed W (w.heap.size + 1 + 1) 4 (.bool false) from (hB'.block _ (by omega)).trans HR7.out)
    have v0 := HVW.out.cell
    have r0 := HRW.out.cell
    have rf := HRW.out.frozen
    have HSW := Lib.hid (HSLX7.out W hB')
    have hlc := HSW.out.2.1
    have hlc2 := HSW.out.2.2.1
    clear hN' hB' hpre hK
    by_cases hk : K < n
    · obtain ⟨b, o, rfl⟩ := HSW.out.head (by omega)
      obtain ⟨z, hz⟩ : ∃ z, (L.take 80)[K]? = some z := ⟨_, List.getElem?_eq_getElem (by rw [HN.out]; exact hk)⟩
      have z0 := HSW.out.get? K (s := nS z) (by rw [List.getElem?_map, hz]; rfl)
      have HZ := Lib.hid hz
      clear hz
      by_cases hyz : y = z
      · subst hyz
        have HON := Lib.hid (show pre ++ [y] <+: L.take 80 from pfx_on HPRE.out (by rw [HKK.out]; exact HZ.out))
        have hq : ((nS y).toList == (nS y).toList) = true := by rw [nS_beq]; exact decide_eq_true rfl
        by_cases h80 : K + 1 = 80
        · have hc : ((K : Int) + 1 == 80) = true := by rw [beq_iff_eq]; omega
          have HH := Lib.hid h80
          clear h80
          gi_wp2
          refine ⟨KeepsOthers.setCell _ _ _, .inl ⟨rfl, ⟨?_, HON.out, by rw [List.length_append, List.length_singleton, HKK.out]; exact HH.out⟩, HB'.out.setCell (p := ⟨V + 1 + 1 + 1, 0, none⟩) (Nat.le_refl _) _⟩⟩
          have := block_setCell (j := 0) HN'.out (.int .i64 ((K : Int) + 1))
          rw [show ((K : Int) + 1) = 80 from by have := HH.out; omega] at this ⊢
          exact this
        · have hc : ((K : Int) + 1 == 80) = false := by rw [beq_eq_false_iff_ne]; omega
          have HH := Lib.hid h80
          clear h80
          gi_wp2
          refine ⟨KeepsOthers.setCell _ _ _, ⟨heap_setCell_other _ _ _ _ (by simp only []; omega), heap_setCell_other _ _ _ _ (by simp only []; omega)⟩, ⟨?_, HON.out, by rw [List.length_append, List.length_singleton, HKK.out]; have := HH.out; omega⟩, HB'.out.setCell (p := ⟨V + 1 + 1 + 1, 0, none⟩) (Nat.le_refl _) _⟩
          rw [List.length_append, List.length_singleton, HKK.out, Int.natCast_add]
          exact block_setCell HN'.out _
      · have HNO := Lib.hid (show ¬ (pre ++ [y] <+: L) from pfx_not (n := 80) (by rw [HKK.out]; exact hlen) (by rw [HKK.out, HZ.out]; exact fun e => hyz (Option.some.inj e).symm))
        have hq : ((nS y).toList == (nS z).toList) = false := by rw [nS_beq]; exact decide_eq_false hyz
        clear hyz
        gi_wp2
        exact ⟨KeepsOthers.setCell _ _ _, .inr ⟨rfl, HNO.out⟩⟩
    · have HNO := Lib.hid (show ¬ (pre ++ [y] <+: L) from pfx_not (n := 80) (by rw [HKK.out]; exact hlen) (by rw [HKK.out, List.getElem?_eq_none (by rw [HN.out]; omega)]; exact fun e => by cases e))
      gi_wp2
      exact ⟨KeepsOthers.setCell _ _ _, .inr ⟨rfl, HNO.out⟩⟩
  case hend =>
    intro D1 W8 hD8 hor hK8
    obtain ⟨hN', hB'⟩ : Boxed W8 (V + 1 + 1 + 1) 3 (.int .i64 n) ∧ Below (V + 1 + 1 + 1) W7 W8 := by
      rcases hor with ⟨xs, rfl, ⟨h1, h2, h3⟩, h4⟩ | ⟨pre, _, ⟨h1, h2, h3⟩, h4⟩
      · refine ⟨?_, h4⟩
        have e := pfx_all h2
        rw [HN.out] at e
        rw [e] at h1
        exact h1
      · refine ⟨?_, h4⟩
        have e := h2.length_le
        rw [HN.out, h3] at e
        have e2 : n = 80 := by omega
        rw [e2]
        exact h1
    clear hor
    have HN8 := Lib.hid hN'
    have HR8 := Lib.hid (show Boxed W8 (w.heap.size + 1 + 1) 4 (.bool false) from (hB'.block _ (by omega)).trans HR7.out)
    have HB8 := Lib.hid (HB7.out.trans (hB'.mono (by omega)))
    have HV8 := Lib.hid (show Boxed W8 V 42 (.slice A5 n cap5) from (hB'.block V (by omega)).trans HV7.out)
    have HSL8 := Lib.hid (HSLX7.out W8 hB')
    have HD8 := Lib.hid (show Bx2 W8 (V + 1) (.string M) (.string O) 24 from (hB'.block _ (by omega)).trans HD7.out)
    have HE8 := Lib.hid (show BoxS W8 (V + 1 + 1) g from (hB'.block _ (by omega)).trans HE7.out)
    have HK8 := Lib.hid hK8
    have hsz8 : D1 < W8.heap.size := block_lt hK8
    have n0 := hN'.cell
    have v0 := HV8.out.cell
    skip
    clear hN' hB' hK8
    gi_wp2
    rw [roundsIn_succ]
    gi_wp2
    obtain ⟨N2, hN2⟩ : ∃ N2, W8.heap.size = N2 := ⟨_, rfl⟩
    obtain ⟨W9, hW9⟩ : ∃ W9, W8.alloc (.cells #[.int .i64 0] 3) = W9 := ⟨_, rfl⟩
    have hb9 : Below W8.heap.size W8 W9 := by rw [← hW9]; exact (Below.refl _ _).alloc (Nat.le_refl _) _
    have HR9 := Lib.hid (show Boxed W9 (w.heap.size + 1 + 1) 4 (.bool false) from (hb9.block _ (block_lt HR8.out)).trans HR8.out)
    have HB9 := Lib.hid (HB8.out.trans (hb9.mono HB8.out.size))
    have HV9 := Lib.hid (show Boxed W9 V 42 (.slice A5 n cap5) from (hb9.block _ (block_lt HV8.out)).trans HV8.out)
    have HSL9 := Lib.hid (HSL8.out.kept hb9 (Nat.le_refl _))
    have HD9 := Lib.hid (HD8.out.next hb9)
    have HE9 := Lib.hid (HE8.out.kept hb9 HE8.out.lt)
    have HN9 := Lib.hid (show Boxed W9 N2 3 (.int .i64 0) from by rw [← hW9, ← hN2]; exact heap_alloc_new _ _)
    have HK9 := Lib.hid ((hb9.block D1 hsz8).trans HK8.out)
    have hs9 : W9.heap.size = N2 + 1 := by rw [← hW9, World.size_alloc, hN2]
    have HSLX9 := Lib.hid (fun (W : World) (hb : Below N2 W9 W) => HSL8.out.kept ((show Below N2 W8 W9 from by rw [← hN2]; exact hb9).trans hb) (by omega))
    rw [hN2, hW9]
    rw [hN2] at hsz8
    clear hW9 hb9 hN2 n0 v0
    refine wpIn_range_break rfl (by omega) (gf := 37) (lb := #[.pointer (some ⟨V + 1, 0, none⟩), .pointer (some ⟨V + 1 + 1, 0, none⟩)]) rfl trivial (enters_of Tryz.func37 (by kernel_rfl) rfl)
      (HES.out 2 (by omega) (V + 1) W9 HD9.out HE9.out) (fun h k => ⟨k.1.trans h.1, k.2.trans h.2⟩) (fun W l o o' hl _ _ _ => ⟨World.putObj_heap_other (by omega), World.putObj_heap_other (by omega)⟩) (Below.refl _ _) (fun _ => rfl)
      (fun pre W => (Boxed W (N2) 3 (.int .i64 (pre.length : Nat)) ∧ (pre <+: L.take 80 ∧ pre.length < 80)) ∧ Below (N2) W9 W)
      (fun pre W => (Boxed W (N2) 3 (.int .i64 80) ∧ (pre <+: L.take 80 ∧ pre.length = 80)) ∧ Below (N2) W9 W)
      (fun pre => ¬ pre <+: L)
      (OwnFrom.and (Own.from (fun s X Y row hs hg hr => ⟨boxed_own (N2) 3 (fun pre : List Nat => .int .i64 (pre.length : Nat)) s X Y row hs.1 hg hr, hs.2⟩) _) (ownFrom_below (by omega) (by omega)))
      (OwnFrom.and (Own.from (fun s X Y row hs hg hr => ⟨boxed_own (N2) 3 (fun _ : List Nat => .int .i64 80) s X Y row hs.1 hg hr, hs.2⟩) _) (ownFrom_below (by omega) (by omega)))
      ⟨⟨HN9.out, List.nil_prefix, by decide⟩, Below.refl _ _⟩
      (fun y => { tmps := #[.agg #[.string M, .string O], .agg #[.string g, .string x], .int .i64 most, .pointer (some ⟨w.heap.size, 0, none⟩), .pointer (some ⟨w.heap.size + 1, 0, none⟩), undef, .pointer (some ⟨w.heap.size + 1 + 1, 0, none⟩), .string g, .string x, .int .i64 lk, .bool lb, .int .i64 lk, .bool lb, .pointer (some ⟨V, 0, none⟩), .func (.func 37) #[] #[.pointer (some ⟨V + 1, 0, none⟩), .pointer (some ⟨V + 1 + 1, 0, none⟩)], .pointer (some ⟨N2, 0, none⟩), .string (nS y), .pointer (some ⟨w.heap.size + 1, 0, none⟩), .string g, .pointer (some ⟨w.heap.size + 1, 1, none⟩), .string x, .agg #[.string M, .string O], .string g, .string x, .slice (some ⟨w.heap.size + 1 + 1 + 1, 0, none⟩) 2 2, .bool true, .bool false, .bool false, .int .i64 most, .bool (decide (300 < most)), .bool (decide (300 < most)), undef, .tuple #[.int .i64 lk, .bool lb], .agg #[.string M, .string O], .string g, .string x, .int .i64 most, .tuple #[.int .i64 lk, .bool lb], .int .i64 lk, .bool lb, .tuple #[.int .i64 lk, .bool lb], .agg #[.string M, .string O], .string g, .string x, .int .i64 most, .tuple #[.int .i64 lk, .bool lb], .int .i64 lk, .bool lb, .int .i64 lk, .int .i64 lk, .bool false, .bool false, .bool lb, .bool lb, .bool false, .bool false, .agg #[.string M, .string O], .string g, .slice A5 n cap5, .agg #[.string M, .string O], .string g, .func (.func 37) #[] #[.pointer (some ⟨V + 1, 0, none⟩), .pointer (some ⟨V + 1 + 1, 0, none⟩)], .func (.func 37) #[] #[.pointer (some ⟨V + 1, 0, none⟩), .pointer (some ⟨V + 1 + 1, 0, none⟩)], .bool false, .int .i64 1, .bool true, .func (.func 37) #[] #[.pointer (some ⟨V + 1, 0, none⟩), .pointer (some ⟨V + 1 + 1, 0, none⟩)], .string (nS y), undef, undef, undef, undef, undef, undef, undef, undef, undef, undef, undef, undef, undef, undef, undef, undef, .int .i64 ↑n, .slice A5 n cap5, .int .i64 ↑n, .bool false, .int .i64 1, undef], defers := [] }) ?assign ?body (fun pre h hx => hx h) ?hend
    case assign =>
      intro l y W K hK
      gi_wp2
      exact hK
    case body =>
      rintro l pre y W ⟨⟨hN', hpre, hlen⟩, hB'⟩ _
      obtain ⟨K, hK⟩ : ∃ K, pre.length = K := ⟨_, rfl⟩
      rw [hK] at hN' hlen
      have HN' := Lib.hid hN'
      have HB' := Lib.hid hB'
      have HPRE := Lib.hid hpre
      have HKK := Lib.hid hK
      have n0 := hN'.cell
      have nf := hN'.frozen
      have HVW := Lib.hid (show Boxed W V 42 (.slice A5 n cap5) from (hB'.block V (by omega)).trans HV9.out)
      have HRW := Lib.hid (show Boxed W (w.heap.size + 1 + 1) 4 (.bool false) from (hB'.block _ (by omega)).trans HR9.out)
      have v0 := HVW.out.cell
      have r0 := HRW.out.cell
      have rf := HRW.out.frozen
      have HSW := Lib.hid (HSLX9.out W hB')
      have hlc := HSW.out.2.1
      have hlc2 := HSW.out.2.2.1
      clear hN' hB' hpre hK
      by_cases hk : K < n
      · obtain ⟨b, o, rfl⟩ := HSW.out.head (by omega)
        obtain ⟨z, hz⟩ : ∃ z, (L.take 80)[K]? = some z := ⟨_, List.getElem?_eq_getElem (by rw [HN.out]; exact hk)⟩
        have z0 := HSW.out.get? K (s := nS z) (by rw [List.getElem?_map, hz]; rfl)
        have HZ := Lib.hid hz
        clear hz
        by_cases hyz : y = z
        · subst hyz
          have HON := Lib.hid (show pre ++ [y] <+: L.take 80 from pfx_on HPRE.out (by rw [HKK.out]; exact HZ.out))
          have hq : ((nS y).toList == (nS y).toList) = true := by rw [nS_beq]; exact decide_eq_true rfl
          by_cases h80 : K + 1 = 80
          · have hc : ((K : Int) + 1 == 80) = true := by rw [beq_iff_eq]; omega
            have HH := Lib.hid h80
            clear h80
            gi_wp2
            refine ⟨KeepsOthers.setCell _ _ _, .inl ⟨rfl, ⟨?_, HON.out, by rw [List.length_append, List.length_singleton, HKK.out]; exact HH.out⟩, HB'.out.setCell (p := ⟨N2, 0, none⟩) (Nat.le_refl _) _⟩⟩
            have := block_setCell (j := 0) HN'.out (.int .i64 ((K : Int) + 1))
            rw [show ((K : Int) + 1) = 80 from by have := HH.out; omega] at this ⊢
            exact this
          · have hc : ((K : Int) + 1 == 80) = false := by rw [beq_eq_false_iff_ne]; omega
            have HH := Lib.hid h80
            clear h80
            gi_wp2
            refine ⟨KeepsOthers.setCell _ _ _, ⟨heap_setCell_other _ _ _ _ (by simp only []; omega), heap_setCell_other _ _ _ _ (by simp only []; omega)⟩, ⟨?_, HON.out, by rw [List.length_append, List.length_singleton, HKK.out]; have := HH.out; omega⟩, HB'.out.setCell (p := ⟨N2, 0, none⟩) (Nat.le_refl _) _⟩
            rw [List.length_append, List.length_singleton, HKK.out, Int.natCast_add]
            exact block_setCell HN'.out _
        · have HNO := Lib.hid (show ¬ (pre ++ [y] <+: L) from pfx_not (n := 80) (by rw [HKK.out]; exact hlen) (by rw [HKK.out, HZ.out]; exact fun e => hyz (Option.some.inj e).symm))
          have hq : ((nS y).toList == (nS z).toList) = false := by rw [nS_beq]; exact decide_eq_false hyz
          clear hyz
          gi_wp2
          exact ⟨KeepsOthers.setCell _ _ _, .inr ⟨rfl, HNO.out⟩⟩
      · have HNO := Lib.hid (show ¬ (pre ++ [y] <+: L) from pfx_not (n := 80) (by rw [HKK.out]; exact hlen) (by rw [HKK.out, List.getElem?_eq_none (by rw [HN.out]; omega)]; exact fun e => by cases e))
        gi_wp2
        exact ⟨KeepsOthers.setCell _ _ _, .inr ⟨rfl, HNO.out⟩⟩
    case hend =>
      intro D2 W10 hD10 hor hK10
      obtain ⟨hN', hB'⟩ : Boxed W10 (N2) 3 (.int .i64 n) ∧ Below (N2) W9 W10 := by
        rcases hor with ⟨xs, rfl, ⟨h1, h2, h3⟩, h4⟩ | ⟨pre, _, ⟨h1, h2, h3⟩, h4⟩
        · refine ⟨?_, h4⟩
          have e := pfx_all h2
          rw [HN.out] at e
          rw [e] at h1
          exact h1
        · refine ⟨?_, h4⟩
          have e := h2.length_le
          rw [HN.out, h3] at e
          have e2 : n = 80 := by omega
          rw [e2]
          exact h1
      clear hor
      have HN10 := Lib.hid hN'
      have HR10 := Lib.hid (show Boxed W10 (w.heap.size + 1 + 1) 4 (.bool false) from (hB'.block _ (by omega)).trans HR9.out)
      have HB10 := Lib.hid (HB9.out.trans (hB'.mono (by omega)))
      have HV10 := Lib.hid (show Boxed W10 V 42 (.slice A5 n cap5) from (hB'.block V (by omega)).trans HV9.out)
      have HSL10 := Lib.hid (HSLX9.out W10 hB')
      have HD10 := Lib.hid (show Bx2 W10 (V + 1) (.string M) (.string O) 24 from (hB'.block _ (by omega)).trans HD9.out)
      have HE10 := Lib.hid (show BoxS W10 (V + 1 + 1) g from (hB'.block _ (by omega)).trans HE9.out)
      have HK10 := Lib.hid hK10
      have hsz10 : D2 < W10.heap.size := block_lt hK10
      have n0 := hN'.cell
      have v0 := HV10.out.cell
      have HK1 := Lib.hid ((hB'.block D1 (by omega)).trans HK9.out)
      clear hN' hB' hK10
      gi_wp2
      rw [roundsIn_succ]
      gi_wp2
      refine ⟨trivial, callsIn_wide.2 ((HAW.out _).mono ?_)⟩
      rintro e w11 ⟨rfl, hb11⟩
      have HR11 := Lib.hid (show Boxed w11 (w.heap.size + 1 + 1) 4 (.bool false) from (hb11.block _ (block_lt HR10.out)).trans HR10.out)
      have HB11 := Lib.hid (HB10.out.trans (hb11.mono HB10.out.size))
      have HK11 := Lib.hid ((hb11.block D2 hsz10).trans HK10.out)
      have HK21 := Lib.hid ((hb11.block D1 (block_lt HK1.out)).trans HK1.out)
      clear hb11 n0 v0
      have r0 := HR11.out.cell
      have rf := HR11.out.frozen
      gi_wp2
      have k2 : (w11.setCell ⟨w.heap.size + 1 + 1, 0, none⟩ (.bool true)).heap[D2]? = some (.deferred (some [])) := (heap_setCell_other _ _ _ _ (by simp only []; omega)).trans HK11.out
      have k1 : (w11.setCell ⟨w.heap.size + 1 + 1, 0, none⟩ (.bool true)).heap[D1]? = some (.deferred (some [])) := (heap_setCell_other _ _ _ _ (by simp only []; omega)).trans HK21.out
      have hbx : Boxed (w11.setCell ⟨w.heap.size + 1 + 1, 0, none⟩ (.bool true)) (w.heap.size + 1 + 1) 4 (.bool true) := block_setCell HR11.out _
      have hbb := HB11.out.setCell (p := ⟨w.heap.size + 1 + 1, 0, none⟩) (by simp only []; omega) (.bool true)
      obtain ⟨W12, hW12⟩ : ∃ W12, w11.setCell ⟨w.heap.size + 1 + 1, 0, none⟩ (.bool true) = W12 := ⟨_, rfl⟩
      rw [hW12] at k1 k2 hbx hbb ⊢
      have k1' : (W12.putObj D2 (.deferred none)).heap[D1]? = some (.deferred (some [])) := (World.putObj_heap_other (by omega)).trans k1
      refine ⟨by simp, .inl ⟨_, _, rfl, run_takeDeferred k2, ?_⟩⟩
      refine ⟨by simp, .inl ⟨_, _, rfl, run_takeDeferred k1', ?_⟩⟩
      have hq : ((W12.putObj D2 (.deferred none)).putObj D1 (.deferred none)).cell? ⟨w.heap.size + 1 + 1, 0, none⟩ = some (.bool true) := by
        rw [World.cell?_of_block (w := W12) (((World.putObj_heap_other (by simp only []; omega)).trans (World.putObj_heap_other (by simp only []; omega))))]
        exact hbx.cell
      have hb1 := belowK_b (w := w) (Nat.le_refl _) W12 D2 _ (.deferred none) (by omega) k2 rfl rfl
      have hb2 := belowK_b (w := w) (Nat.le_refl _) (W12.putObj D2 (.deferred none)) D1 _ (.deferred none) (by omega) k1' rfl rfl
      refine ⟨.bool true, ?_, rfl, (hbb.trans hb1).trans hb2⟩
      simp [results, Tryz.results6, go_sem, hq]
end Go.Proofs.YtcbjadaghpmejaaGreatDoor

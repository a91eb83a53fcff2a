/- Ranges over a function whose assignment lays a block; regions of a round's body walked as plain ones. -/
import Derived.Test.YtelhpdlegjgjjaaEpXa
set_option linter.unusedVariables false
set_option linter.unusedSimpArgs false
namespace Go.Proofs.Ytelhpdlegjgjjaa
open Go.RowKit Go.Shelf

/-- The body may be left by nothing else. -/
theorem letsOut_then {K : Act → World → Prop} {Q : Exit → Act → World → Prop} (h : ¬ LetsOut Q) : ¬ LetsOut (Exit.then K Q) := fun ⟨a, w, hq⟩ => h ⟨a, w, hq⟩
theorem letsOut_block {id : Nat} {Q : Exit → Act → World → Prop} (h : ¬ LetsOut Q) : ¬ LetsOut (Exit.inBlock id Q) := fun ⟨a, w, hq⟩ => h ⟨a, w, hq⟩
theorem letsOut_own {α : Type} (Kp : World → World → Prop) (I : List α → World → Prop) (Ix : Code → List α → World → Prop) (xs : List α) (W : World) : ¬ LetsOut (ownPostK Kp I Ix xs W) := fun ⟨_, _, h⟩ => h
def nodef : List Oper → Bool := fun l => l.all fun o => match o.op with
  | .defer _ => false
  | _ => true
theorem oper_in {P : Program} {r n : Nat} {o : Oper} {a : Act} {w : World} {K K' : Act → World → Prop} {Q : Exit → Act → World → Prop} (hd : ∀ c, o.op ≠ .defer c) (hQ : ¬ LetsOut Q) (h : o.wp P a w K Q ∨ (o.asks P a w ∧ LetsOut Q)) (hK : ∀ a w, K a w → K' a w) : o.wpIn (Fence.wide.inRound r) n P a w K' Q := by
  rcases h with h | ⟨_, h⟩
  · refine ⟨fun _ _ => trivial, ?_⟩
    rw [Oper.semAt_eq _ _ _ hd]
    unfold Oper.wp at h
    cases hr : (execOp a.eval o).run P w with
    | ok x w' =>
      rw [hr] at h
      cases x with
      | value v => exact hK _ _ h
      | skip => exact hK _ _ h
      | defer d => exact hK _ _ h
      | enter f args =>
        refine ⟨(fun h0 => absurd h0 (by simp [Fence.wide])), CallsIn.inRound r (callsIn_wide.2 (Calls.mono h ?_))⟩
        intro e w'' he
        cases e with
        | returned v => exact hK _ _ he
        | panicked c => exact he
        | outgrown => exact he
      | row row args =>
        refine ⟨(fun h0 => absurd h0 (by simp [Fence.wide])), fun c cs _ => ?_⟩
        obtain ⟨v, w'', h1, h2⟩ := h c cs
        exact ⟨v, w'', hK _ _ h1, (stepsIn_wide (P := P)).2 h2⟩
      | _ => exact h.elim
    | halt x w' =>
      rw [hr] at h
      cases x with
      | panic v => exact h
      | _ => exact h.elim
  · exact absurd h hQ
theorem list_in {P : Program} {r n : Nat} {ops : Array Oper} {Q : Exit → Act → World → Prop} (hQ : ¬ LetsOut Q) : ∀ (l : List Oper), nodef l = true → ∀ a w, wpList P ops Q l a w → wpListIn (Fence.wide.inRound r) n P ops Q l a w
  | [], _, _, _, h => h
  | o :: l, hd, a, w, h => by
    have hd2 : (∀ c, o.op ≠ .defer c) ∧ nodef l = true := by
      unfold nodef at hd ⊢
      rw [List.all_cons, Bool.and_eq_true] at hd
      refine ⟨fun c hc => ?_, hd.2⟩
      rw [hc] at hd
      simp at hd
    unfold wpList at h
    unfold wpListIn
    split
    · rename_i hw
      rw [if_pos hw] at h
      exact oper_in hd2.1 hQ h (fun a w h => list_in hQ l hd2.2 a w h)
    · rename_i hw
      rw [if_neg hw] at h
      exact ⟨fun _ _ => trivial, list_in hQ l hd2.2 _ _ h⟩
/-- A region of a round's body is walked as a plain one. -/
theorem region_in {P : Program} {r n id : Nat} {l : List Oper} {Q : Exit → Act → World → Prop} {a : Act} {w : World} (hQ : ¬ LetsOut Q) (hd : nodef l = true) (h : wpList P l.toArray Q l a w) : (Code.region id l.toArray false).wpIn (Fence.wide.inRound r) n P Q a w :=
  wpIn_region_lit (list_in hQ l hd a w h)
theorem region_inF {P : Program} {r n id : Nat} {l : List Oper} {K : Act → World → Prop} {a : Act} {w : World} (hd : nodef l = true) (h : wpList P l.toArray (Exit.then K (fun _ _ _ => False)) l a w) : (Code.region id l.toArray false).wpIn (Fence.wide.inRound r) n P (Exit.then K (fun _ _ _ => False)) a w :=
  wpIn_region_lit (list_in (fun ⟨_, _, h⟩ => h) l hd a w h)

/-- A range over a function; the assignment may lay blocks of its own: M says what it leaves. -/
theorem rangeFunc_own {F : Fence} {n : Nat} {P : Program} {α : Type} {g : Operand} {ps : Array Tmp} {assign body : Code} {Q : Exit → Act → World → Prop} {a : Act} {w : World}
    (hro : F.round = none) (h1 : 1 ≤ n) {gf : Nat} {lb : Array Value} (hg : a.eval g = .func (.func gf) #[] lb) (hFg : F.fn gf) (eg : ∀ args w, (callFunc gf args).run P w = .ok (.enter gf args) w)
    {encs : α → Array Value} {Kp : World → World → Prop} {S Sp : List α → Prop} {N : Nat} {w0 : World} (hseq : SeqStopsK F (n - 1) P gf lb encs Kp S Sp N w0)
    (hKt : ∀ {A B C : World}, Kp A B → Kp B C → Kp A C) (hKb : ∀ (W : World) (l : Nat) (o o' : Obj), w.heap.size ≤ l → W.heap[l]? = some o → o.isCells = false → o.isWalk = false → Kp W (W.putObj l o')) (hKa : ∀ W W', w.heap.size ≤ W.heap.size → Below W.heap.size W W' → Kp W W')
    (hb0 : Below w0.heap.size w0 w) (hps : ∀ x, (encs x).size = ps.size)
    (I : List α → World → Prop) (Ix : Code → List α → World → Prop) (hI : OwnFrom w.heap.size I) (hIx : ∀ c, OwnFrom w.heap.size (Ix c)) (h0 : I [] w)
    (M : α × Act → World → Prop) (hM : OwnFrom w.heap.size M)
    (hassign : ∀ (l : Nat) (x : α) (W : World) (K : Act → World → Prop), w.heap.size ≤ W.heap.size → (∀ a' W', Below W.heap.size W W' → M (x, a') W' → K a' W') →
      assign.wpIn (F.inRound l) (n - 1 - 1) P (Exit.then K (fun _ _ _ => False)) { tmps := (ps.zip (encs x)).foldl (fun t (p, v) => t.setIfInBounds p v) a.tmps, defers := [] } W)
    (hbody : ∀ (l : Nat) (pre : List α) (x : α) (a' : Act) (W : World), I pre W → M (x, a') W → pre.length < N → body.wpIn (F.inRound l) (n - 1 - 1) P (ownPostK Kp I Ix (pre ++ [x]) W) a' W)
    (hdone : ∀ (D : Nat) (xs : List α) (W : World), w.heap.size ≤ D → S xs → I xs W → W.heap[D]? = some (.deferred (some [])) → Q .normal { a with defers := { target := .collected D, args := #[] } :: a.defers } W)
    (hstop : ∀ (D : Nat) (c : Code) (pre : List α) (W : World), w.heap.size ≤ D → Sp pre → Ix c pre W → W.heap[D]? = some (.deferred (some [])) → c.wpIn F n P Q { a with defers := { target := .collected D, args := #[] } :: a.defers } W) :
    (Code.rangeFunc g ps assign body).wpIn F n P Q a w := by
  refine wpIn_rangeFunc fun fn hfn => ?_
  rw [hro]
  obtain ⟨R, hR⟩ : ∃ R : LoopState → Option Code → Loop, R = fun st pe => { state := st, pending := pe, fn, tmps := a.tmps, params := ps, assign, body, defers := w.heap.size } := ⟨_, rfl⟩
  obtain ⟨V, hV⟩ : ∃ V, (w.alloc (.deferred (some []))).alloc (.loop (R .ready none)) = V := ⟨_, rfl⟩
  obtain ⟨L, hL⟩ : ∃ L, L = w.heap.size + 1 := ⟨_, rfl⟩
  have rowL : V.heap[L]? = some (.loop (R .ready none)) := by
    have := World.alloc_heap_new (w.alloc (.deferred (some []))) (.loop (R .ready none))
    rw [World.size_alloc] at this
    rw [← hV, hL]; exact this
  have rowD : V.heap[w.heap.size]? = some (.deferred (some [])) := by
    rw [← hV]; exact (Below.heap_alloc _ _ _ (by simp)).trans (World.alloc_heap_new w _)
  have iV : I [] V := by rw [← hV]; exact hI.alloc _ (hI.alloc _ h0)
  have bV : Below w0.heap.size w0 V := by
    rw [← hV]; exact hb0.trans ((((Below.refl _ w).alloc (Nat.le_refl _) _).alloc (by simp) _).mono hb0.size)
  have sV : w.heap.size ≤ V.heap.size := by rw [← hV]; simp; omega
  refine ⟨L, [{ target := .collected w.heap.size, args := #[] }], V, { target := .fn (.func gf) lb, args := #[.func (.yield L) #[] #[]] }, V, gf, #[.func (.yield L) #[] #[]] ++ lb, V, ?_, ?_, ?_, ?_, fun _ => h1, ?_⟩
  · rw [← hV, hR, hL]; exact run_enterLoop_outer _ _ _ _ _
  · simp only [resolve, hg]
    simp [go_sem]
  · intro f' hf'; simp [Target.leads] at hf'; subst hf'; exact hFg
  · simp [invoke, go_sem, eg]
  · have rows : ∀ {A : World} {row : Option Nat}, (∀ r, row = some r → V.heap.size ≤ r ∧ ∃ o : Obj, A.heap[r]? = some o ∧ o.isWalk = true) → (∀ r, row = some r → w.heap.size ≤ r ∧ ∃ o : Obj, A.heap[r]? = some o ∧ o.isCells = false) :=
      fun hr r e => by obtain ⟨hB, o, ho, hw⟩ := hr r e; exact ⟨Nat.le_trans sV hB, o, ho, Obj.not_cells_of_walk hw⟩
    refine (hseq L (fun pre W => I pre W ∧ W.heap[L]? = some (.loop (R .ready none)) ∧ W.heap[w.heap.size]? = some (.deferred (some [])))
      (fun pre W => ∃ c, Ix c pre W ∧ W.heap[L]? = some (.loop (R .done (some c))) ∧ W.heap[w.heap.size]? = some (.deferred (some []))) V bV
      (fun s A B row hs hg' hr => ⟨hI s A B row hs.1 hg' (rows hr), (grownBy_keeps hg' (fun r e => (hr r e).2) hs.2.1 rfl).trans hs.2.1, (grownBy_keeps hg' (fun r e => (hr r e).2) hs.2.2 rfl).trans hs.2.2⟩)
      (fun s A B row ⟨c, hc, hl, hk⟩ hg' hr => ⟨c, hIx c s A B row hc hg' (rows hr), (grownBy_keeps hg' (fun r e => (hr r e).2) hl rfl).trans hl, (grownBy_keeps hg' (fun r e => (hr r e).2) hk rfl).trans hk⟩)
      ?_ ⟨iV, rowL, rowD⟩).mono ?_
    · rintro pre x W ⟨hi, hl, hk⟩ hlen
      have hlt : L < W.heap.size := (Array.getElem?_eq_some_iff.1 hl).1
      have hy := run_yield (P := P) (args := encs x) hl (by rw [hR]; exact hps x)
      rw [hR] at hy
      refine ⟨fn, _, assign, body, hy, roundIn_of_wpIn hfn (hassign _ x W _ (by omega) ?_)⟩
      intro a' W1 hb1 hm1
      have hi1 : I pre W1 := hI pre W W1 none hi (grown_of_below hb1) (fun r e => by cases e)
      have hl1 : W1.heap[L]? = some (.loop (R .ready none)) := (hb1.block L hlt).trans hl
      have hk1 : W1.heap[w.heap.size]? = some (.deferred (some [])) := (hb1.block _ (by omega)).trans hk
      have hlt1 : L < W1.heap.size := Nat.lt_of_lt_of_le hlt hb1.size
      refine ⟨_, run_beginRound hl1 (by rw [hR]), ?_⟩
      have hl2 : (W1.putObj L (.loop { R .ready none with state := .busy })).heap[L]? = some (.loop { R .ready none with state := .busy }) := World.putObj_heap_same hlt1
      have hk2 : (W1.putObj L (.loop { R .ready none with state := .busy })).heap[w.heap.size]? = some (.deferred (some [])) := (World.putObj_heap_other (by omega)).trans hk1
      have hw2 : Kp W (W1.putObj L (.loop { R .ready none with state := .busy })) := hKt (hKa W W1 (by omega) hb1) (hKb _ _ _ _ (by omega) hl1 rfl rfl)
      refine wpIn_mono (hbody _ pre x a' _ (hI.putObj _ hi1 (by omega) hl1 rfl) (hM.putObj _ hm1 (by omega) hl1 rfl) hlen) ?_
      have fin : ∀ (jump : Option Code) (W3 : World), KeepsOthers (W1.putObj L (.loop { R .ready none with state := .busy })) W3 →
          (Instr.endRound L jump).run P W3 = .ok (.bool jump.isNone) (W3.putObj L (.loop (R (if jump.isNone then .ready else .done) jump))) ∧
          W3.heap[L]? = some (.loop { R .ready none with state := .busy }) ∧
          (W3.putObj L (.loop (R (if jump.isNone then .ready else .done) jump))).heap[L]? = some (.loop (R (if jump.isNone then .ready else .done) jump)) ∧
          (W3.putObj L (.loop (R (if jump.isNone then .ready else .done) jump))).heap[w.heap.size]? = some (.deferred (some [])) := fun jump W3 hk3 => by
        have hl3 := hk3.same _ _ hl2 rfl
        have := run_endRound (P := P) jump hl3
        rw [hR] at this ⊢
        exact ⟨this, by rw [hR] at hl3; exact hl3, World.putObj_heap_same (Array.getElem?_eq_some_iff.1 hl3).1, (World.putObj_heap_other (by omega)).trans (hk3.same _ _ hk2 rfl)⟩
      rintro e a3 W3 hp
      cases e with
      | normal =>
        obtain ⟨hk3, hkp3, hi3⟩ := hp
        obtain ⟨hr, hl3, hl4, hk4⟩ := fin none W3 hk3
        exact ⟨_, _, hr, .inl ⟨rfl, ⟨hI.putObj _ hi3 (by omega) hl3 rfl, hl4, hk4⟩, hKt (hKt hw2 hkp3) (hKb _ _ _ _ (by omega) hl3 rfl rfl)⟩⟩
      | ret =>
        obtain ⟨hk3, hi3⟩ := hp
        obtain ⟨hr, hl3, hl4, hk4⟩ := fin (some .ret) W3 hk3
        exact ⟨_, _, hr, .inr ⟨rfl, .ret, (hIx _).putObj _ hi3 (by omega) hl3 rfl, hl4, hk4⟩⟩
      | exit id =>
        obtain ⟨hk3, hi3⟩ := hp
        obtain ⟨hr, hl3, hl4, hk4⟩ := fin (some (.exit id)) W3 hk3
        exact ⟨_, _, hr, .inr ⟨rfl, .exit id, (hIx _).putObj _ hi3 (by omega) hl3 rfl, hl4, hk4⟩⟩
      | goto t =>
        obtain ⟨hk3, hi3⟩ := hp
        obtain ⟨hr, hl3, hl4, hk4⟩ := fin (some (.goto t)) W3 hk3
        exact ⟨_, _, hr, .inr ⟨rfl, .goto t, (hIx _).putObj _ hi3 (by omega) hl3 rfl, hl4, hk4⟩⟩
      | panic ch => exact hp.elim
      | outgrown => exact hp.elim
    · rintro e W2 ⟨⟨v, rfl⟩, (⟨xs, hS, hi, hl, hk⟩ | ⟨pre, hSp, c, hi, hl, hk⟩)⟩
      · exact ⟨none, _, by have := run_endLoop (P := P) hl (by rw [hR]; simp); rw [hR] at this; exact this, hdone _ xs _ (Nat.le_refl _) hS (hI.putObj _ hi (by omega) hl rfl) ((World.putObj_heap_other (by omega)).trans hk)⟩
      · exact ⟨some c, _, by have := run_endLoop (P := P) hl (by rw [hR]; simp); rw [hR] at this; exact this, hstop _ c pre _ (Nat.le_refl _) hSp ((hIx c).putObj _ hi (by omega) hl rfl) ((World.putObj_heap_other (by omega)).trans hk)⟩

theorem bxC_own {β : Type} (B : Nat) (cs : Array Value) (T : TypeId) : Own (fun (_ : β) W => BxC W B cs T) := fun s X Y row hs hg hrow => by
  refine (hg.block B hs.lt (fun e => ?_)).trans hs
  obtain ⟨o, ho, hc⟩ := hrow B e.symm
  rw [show X.heap[B]? = _ from hs] at ho
  cases ho
  cases hc
/-- A slice of strings lies in cells. -/
theorem slN_own {β : Type} (A : Option Addr) (n c : Nat) (l : List ByteArray) : Own (fun (_ : β) W => SlN W A n c l) := fun s X Y row hs hg hrow => by
  obtain ⟨h1, h2, h3, b, o, h4, h5⟩ := hs
  refine ⟨h1, h2, h3, b, o, h4, fun k s hk => ?_⟩
  have h6 := h5 k s hk
  unfold World.cell? at h6 ⊢
  simp only at h6 ⊢
  cases hb : X.heap[b]? with
  | none => rw [hb] at h6; simp at h6
  | some ob =>
    rw [hg.block b (Array.getElem?_eq_some_iff.1 hb).1 (fun e => by
      obtain ⟨o', ho, hc⟩ := hrow b e.symm
      rw [hb] at ho h6
      cases ho
      cases ob <;> simp_all [Obj.isCells]), hb]
    rw [hb] at h6
    exact h6
theorem putObj_cell {W : World} {D B k : Nat} {cs : Array Value} {T : TypeId} (o : Obj) (h : BxC W B cs T) (hne : B ≠ D) : (W.putObj D o).cell? ⟨B, k, none⟩ = cs[k]? := by
  rw [Lib.cell_of_heap ((World.putObj_heap_other hne).trans h)]
/-- Old blocks stay, but for those of a band. -/
def Bnd (P Q : Nat) (W W' : World) : Prop := W.heap.size ≤ W'.heap.size ∧ ∀ k, k < W.heap.size → (k < P ∨ Q ≤ k) → W'.heap[k]? = W.heap[k]?
theorem Bnd.refl (P Q : Nat) (W : World) : Bnd P Q W W := ⟨Nat.le_refl _, fun _ _ _ => rfl⟩
theorem Bnd.trans {P Q : Nat} {A B C : World} (h : Bnd P Q A B) (k : Bnd P Q B C) : Bnd P Q A C := ⟨Nat.le_trans h.1 k.1, fun i hi hs => (k.2 i (Nat.lt_of_lt_of_le hi h.1) hs).trans (h.2 i hi hs)⟩
theorem Bnd.below {P Q : Nat} {W W' : World} (h : Below W.heap.size W W') : Bnd P Q W W' := ⟨h.size, fun k hk _ => h.block k hk⟩
theorem Bnd.row {P Q : Nat} {W W' : World} (h : Bnd P Q W W') {g : Nat} (hg : (P ≤ g ∧ g < Q) ∨ W.heap.size ≤ g) (cs : Array Value) : Bnd P Q W (W'.setRow g cs) :=
  ⟨by rw [show (W'.setRow g cs).heap.size = W'.heap.size from by simp [World.setRow]]; exact h.1, fun k hk hs => (setRow_other _ _ _ _ (by omega)).trans (h.2 k hk hs)⟩
theorem Bnd.set {P Q : Nat} {W W' : World} (h : Bnd P Q W W') {a : Addr} (hg : (P ≤ a.block ∧ a.block < Q) ∨ W.heap.size ≤ a.block) (v : Value) : Bnd P Q W (W'.setCell a v) :=
  ⟨by rw [show (W'.setCell a v).heap.size = W'.heap.size from by simp [World.setCell]]; exact h.1, fun k hk hs => (heap_setCell_other _ _ _ _ (by omega)).trans (h.2 k hk hs)⟩
theorem Bnd.others {P Q : Nat} {W W' : World} (h : Bnd P Q W W') (hc : ∀ k, P ≤ k → k < Q → ∃ cs T fr, W.heap[k]? = some (.cells cs T fr)) : KeepsOthers W W' :=
  ⟨h.1, fun k o hk ho => by
    rcases Nat.lt_or_ge k P with h1 | h1
    · exact (h.2 k (block_lt hk) (.inl h1)).trans hk
    · rcases Nat.lt_or_ge k Q with h2 | h2
      · obtain ⟨cs, T, fr, h3⟩ := hc k h1 h2
        rw [hk] at h3
        cases h3
        cases ho
      · exact (h.2 k (block_lt hk) (.inr h2)).trans hk⟩
theorem Bnd.kp {P Q : Nat} {W W' : World} (h : Bnd P Q W W') (hP : P ≤ W.heap.size) : KpB P W W' := ⟨h.1, fun k hk => h.2 k (Nat.lt_of_lt_of_le hk hP) (.inl hk)⟩
end Go.Proofs.Ytelhpdlegjgjjaa

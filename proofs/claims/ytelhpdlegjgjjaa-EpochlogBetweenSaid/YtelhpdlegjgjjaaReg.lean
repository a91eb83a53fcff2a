/- A region whose order is drawn: operations that yield the same in every world that meets S are taken first; S must be shown anew only as long as operation number k has not come up. -/
import Derived.OrdersHeld
import Derived.Tactics
namespace Go.Proofs.Ytelhpdlegjgjjaa

section
variable {P : Program} {ops : Array Oper} {Q : Exit → Act → World → Prop} {md : Region.Mode} {S : World → Prop} {k : Nat}

/-- What is listed has all that it waits for listed. -/
def Down (md : Region.Mode) (ops : Array Oper) (listed : Array Bool) : Prop :=
  listed.size = ops.size ∧ ∀ j o, ops[j]? = some o → listed.getD j false = true → ∀ e ∈ o.after, Region.binds md e = true → listed.getD e.on false = true
theorem getD_repl_false (n j : Nat) : (Array.replicate n false).getD j false = false := by
  rw [Array.getD_eq_getD_getElem?, Array.getElem?_replicate]
  split <;> rfl
theorem Down.start : Down md ops (Array.replicate ops.size false) := by
  refine ⟨Array.size_replicate, fun j o _ h => ?_⟩
  rw [getD_repl_false] at h
  cases h
theorem Down.beyond {listed : Array Bool} (h : Down md ops listed) {j : Nat} (hj : ops.size ≤ j) : listed.getD j false = false := by
  rw [Array.getD_eq_getD_getElem?, Array.getElem?_eq_none (by rw [h.1]; exact hj)]; rfl
theorem getD_agree {listed : Array Bool} {j : Nat} (h : listed.getD j true = false) : listed.getD j false = false := by
  rw [Array.getD_eq_getD_getElem?] at *
  cases e : listed[j]? with
  | none => rfl
  | some b => rw [e] at h; exact h
theorem getD_set_self {listed : Array Bool} {i : Nat} (h : listed.getD i true = false) : (listed.setIfInBounds i true).getD i false = true := by
  rw [Array.getD_eq_getD_getElem?] at *
  have hi : i < listed.size := by
    rcases Nat.lt_or_ge i listed.size with h' | h'
    · exact h'
    · rw [Array.getElem?_eq_none h'] at h; cases h
  rw [Array.getElem?_setIfInBounds_self]
  rw [if_pos hi]; rfl
theorem Down.set {listed : Array Bool} (h : Down md ops listed) {i : Nat} (hi : i ∈ Region.ready md ops listed) : Down md ops (listed.setIfInBounds i true) := by
  refine ⟨by rw [Array.size_setIfInBounds]; exact h.1, fun j o hj hl e he hb => ?_⟩
  by_cases hij : i = j
  · subst hij
    obtain ⟨_, o', ho', hall⟩ := mem_ready.1 hi
    rw [hj] at ho'
    cases ho'
    exact getD_set_true (hall e he hb)
  · rw [getD_set_ne false hij] at hl
    exact getD_set_true (h.2 j o hj hl e he hb)

/-- Operation k waits for operation i, by way of others or not. -/
def reachB (md : Region.Mode) (ops : Array Oper) : Nat → Nat → Nat → Bool
  | 0, _, _ => false
  | n + 1, k, i => match ops[k]? with
    | none => false
    | some o => o.after.any fun e => Region.binds md e && (e.on == i || reachB md ops n e.on i)
theorem reachB_spec {listed : Array Bool} (h : Down md ops listed) : ∀ (n k i : Nat), reachB md ops n k i = true → listed.getD k false = true → listed.getD i false = true
  | 0, _, _, hr, _ => by cases hr
  | n + 1, k, i, hr, hk => by
    unfold reachB at hr
    cases ho : ops[k]? with
    | none => rw [ho] at hr; cases hr
    | some o =>
      rw [ho] at hr
      simp only [Array.any_eq_true', Bool.and_eq_true, Bool.or_eq_true, beq_iff_eq] at hr
      obtain ⟨e, he, hb, h1 | h1⟩ := hr
      · rw [← h1]; exact h.2 k o ho hk e he hb
      · exact reachB_spec h n e.on i h1 (h.2 k o ho hk e he hb)

/-- Whatever order is picked from here on; S holds behind every operation that is carried out before number k has come up. -/
def wpAnyK (P : Program) (md : Region.Mode) (ops : Array Oper) (Q : Exit → Act → World → Prop) (k : Nat) (S : World → Prop) : Nat → Array Bool → Act → World → Prop
  | 0, listed, a, w => Region.ready md ops listed = [] ∧ Q .normal a w
  | fuel + 1, listed, a, w =>
    (Region.ready md ops listed = [] → Q .normal a w) ∧
    ∀ i ∈ Region.ready md ops listed, wpOp P ops Q i (fun a' w' => ((listed.setIfInBounds i true).getD k false = false → S w') ∧ wpAnyK P md ops Q k S fuel (listed.setIfInBounds i true) a' w') a w

theorem wpAny_of_K : ∀ (fuel : Nat) (listed : Array Bool) (a : Act) (w : World), wpAnyK P md ops Q k S fuel listed a w → wpAny P md ops Q fuel listed a w
  | 0, _, _, _, h => h
  | fuel + 1, _, _, _, h => ⟨h.1, fun i hi => wpOp_mono (fun a' w' h' => wpAny_of_K fuel _ a' w' h'.2) (h.2 i hi)⟩

theorem wpAnyK_first {i : Nat} {oi : Oper} {v : Value} {T : World → Prop} (hi : ops[i]? = some oi) (hsel : ∀ (j : Nat) (o : Oper) cs b, ops[j]? = some o → o.op ≠ .select cs b)
    (hT : ∀ (listed : Array Bool) (w : World), Down md ops listed → listed.getD i true = false → (listed.getD k false = false → S w) → T w) (hki : k ≠ i)
    (hQ : ∀ c a w, Q (.panic c) (a.put oi.dst v) w → Q (.panic c) a w) :
    ∀ (fuel : Nat) (listed : Array Bool) (a : Act) (w : World), Down md ops listed →
      (∀ j oj, ops[j]? = some oj → j ≠ i → listed.getD j true = false → (∀ e ∈ oj.after, Region.binds md e = true → e.on ≠ i) → oi.apart ops oj = true) →
      i ∈ Region.ready md ops listed → YieldsIf P ops T oi v a → (listed.getD k false = false → S w) →
      wpAnyK P md ops Q k S fuel (listed.setIfInBounds i true) (a.put oi.dst v) w → wpAnyK P md ops Q k S (fuel + 1) listed a w := by
  intro fuel
  induction fuel with
  | zero =>
    intro listed a w hD _ hr hy hS H
    refine ⟨fun h => (by rw [h] at hr; cases hr), fun j hj => ?_⟩
    have hTw := hT listed w hD (mem_ready.1 hr).1 hS
    by_cases hji : j = i
    · subst hji; exact hy.wpOp hi hTw ⟨fun h => hS (by rw [getD_set_ne false (Ne.symm hki)] at h; exact h), H⟩
    · have := ready_mono hj hji
      rw [H.1] at this
      cases this
  | succ fuel ih =>
    intro listed a w hD hfree hr hy hS H
    refine ⟨fun h => (by rw [h] at hr; cases hr), fun j hj => ?_⟩
    have hTw := hT listed w hD (mem_ready.1 hr).1 hS
    by_cases hji : j = i
    · subst hji; exact hy.wpOp hi hTw ⟨fun h => hS (by rw [getD_set_ne false (Ne.symm hki)] at h; exact h), H⟩
    · have h1 := H.2 j (ready_mono hj hji)
      obtain ⟨hjun, oj, hoj, hall⟩ := mem_ready.1 hj
      have hnot : ∀ e ∈ oj.after, Region.binds md e = true → e.on ≠ i := fun e he hb heq => by
        have h1 := hall e he hb
        have h0 := getD_agree (mem_ready.1 hr).1
        rw [heq, h0] at h1
        cases h1
      have h2 := wpOp_putIf hoj (hfree j oj hoj hji hjun hnot) (fun cs b => hsel i oi cs b hi) (fun cs b => hsel j oj cs b hoj) hQ hy h1
      have hfree' : ∀ m om, ops[m]? = some om → m ≠ i → (listed.setIfInBounds j true).getD m true = false →
          (∀ e ∈ om.after, Region.binds md e = true → e.on ≠ i) → oi.apart ops om = true := fun m om hm hmi hun hno => by
        refine hfree m om hm hmi ?_ hno
        by_cases hjm : j = m
        · subst hjm; exact hjun
        · rw [getD_set_ne true hjm] at hun; exact hun
      refine wpOp_mono (fun a' w' h3 => ?_) h2
      have hS' : (listed.setIfInBounds j true).getD k false = false → S w' := fun h => h3.2.1 (by
        rw [Array.setIfInBounds_comm _ _ (Ne.symm hji), getD_set_ne false (Ne.symm hki)]
        exact h)
      refine ⟨hS', ih (listed.setIfInBounds j true) a' w' (hD.set hj) hfree' (ready_mono hr (Ne.symm hji)) h3.1 hS' ?_⟩
      rw [Array.setIfInBounds_comm _ _ hji]
      exact h3.2.2

/-- What a step asks of number i: it may come up, and nobody who could come before it touches its temporaries. -/
def stepB (md : Region.Mode) (ops : Array Oper) (listed : Array Bool) (k i : Nat) : Bool :=
  Region.noSelect ops && Region.free md ops listed i && (Region.ready md ops listed).contains i && !(k == i)
theorem stepB_spec {listed : Array Bool} {i : Nat} (h : stepB md ops listed k i = true) : Region.noSelect ops = true ∧ Region.free md ops listed i = true ∧ i ∈ Region.ready md ops listed ∧ k ≠ i := by
  simp only [stepB, Bool.and_eq_true, Bool.not_eq_true', beq_eq_false_iff_ne, List.contains_iff_mem] at h
  exact ⟨h.1.1.1, h.1.1.2, h.1.2, h.2⟩

/-- Take number i first: it yields v in every world that meets S, and number k waits for it. -/
theorem wpAnyK_take {i : Nat} {oi : Oper} {v : Value} {fuel : Nat} {listed : Array Bool} {a : Act} {w : World} (hi : ops[i]? = some oi) (hst : stepB md ops listed k i = true) (hre : reachB md ops ops.size k i = true)
    (hQ : ∀ c a w, Q (.panic c) (a.put oi.dst v) w → Q (.panic c) a w) (hD : Down md ops listed) (hS : S w) (hy : YieldsIf P ops S oi v a)
    (h : Down md ops (listed.setIfInBounds i true) → wpAnyK P md ops Q k S fuel (listed.setIfInBounds i true) (a.put oi.dst v) w) : wpAnyK P md ops Q k S (fuel + 1) listed a w := by
  obtain ⟨hs, hf, hr', hki'⟩ := stepB_spec hst
  refine wpAnyK_first (T := S) hi (Region.noSelect_spec hs) (fun l w' hD' hl hS' => hS' ?_) hki' hQ fuel listed a w hD (Region.free_spec hi hf) hr' hy (fun _ => hS) (h (hD.set hr'))
  cases hk : l.getD k false with
  | false => rfl
  | true => rw [← getD_agree hl]; exact (reachB_spec hD' _ k i hre hk).symm
/-- Take number i first: it yields v in every world that meets S, which holds throughout. -/
theorem wpAnyK_takeS {i : Nat} {oi : Oper} {v : Value} {fuel : Nat} {listed : Array Bool} {a : Act} {w : World} (hi : ops[i]? = some oi) (hst : stepB md ops listed k i = true) (hre : decide (ops.size ≤ k) = true)
    (hQ : ∀ c a w, Q (.panic c) (a.put oi.dst v) w → Q (.panic c) a w) (hD : Down md ops listed) (hS : S w) (hy : YieldsIf P ops S oi v a)
    (h : Down md ops (listed.setIfInBounds i true) → wpAnyK P md ops Q k S fuel (listed.setIfInBounds i true) (a.put oi.dst v) w) : wpAnyK P md ops Q k S (fuel + 1) listed a w := by
  obtain ⟨hs, hf, hr', hki'⟩ := stepB_spec hst
  exact wpAnyK_first (T := S) hi (Region.noSelect_spec hs) (fun l w' hD' hl hS' => hS' (hD'.beyond (of_decide_eq_true hre))) hki' hQ fuel listed a w hD (Region.free_spec hi hf) hr' hy (fun _ => hS) (h (hD.set hr'))
/-- Take number i first: it yields v in whatever world. -/
theorem wpAnyK_pure {i : Nat} {oi : Oper} {v : Value} {fuel : Nat} {listed : Array Bool} {a : Act} {w : World} (hi : ops[i]? = some oi) (hst : stepB md ops listed k i = true)
    (hQ : ∀ c a w, Q (.panic c) (a.put oi.dst v) w → Q (.panic c) a w) (hD : Down md ops listed) (hS : S w) (hy : YieldsIf P ops (fun _ => True) oi v a)
    (h : Down md ops (listed.setIfInBounds i true) → wpAnyK P md ops Q k S fuel (listed.setIfInBounds i true) (a.put oi.dst v) w) : wpAnyK P md ops Q k S (fuel + 1) listed a w := by
  obtain ⟨hs, hf, hr', hki'⟩ := stepB_spec hst
  exact wpAnyK_first (T := fun _ => True) hi (Region.noSelect_spec hs) (fun _ _ _ _ _ => trivial) hki' hQ fuel listed a w hD (Region.free_spec hi hf) hr' hy (fun _ => hS) (h (hD.set hr'))
/-- The same behind number k. -/
theorem wpAnyK_pureT {i : Nat} {oi : Oper} {v : Value} {fuel : Nat} {listed : Array Bool} {a : Act} {w : World} (hi : ops[i]? = some oi) (hst : stepB md ops listed k i = true) (hk : listed.getD k false = true)
    (hQ : ∀ c a w, Q (.panic c) (a.put oi.dst v) w → Q (.panic c) a w) (hD : Down md ops listed) (hy : YieldsIf P ops (fun _ => True) oi v a)
    (h : Down md ops (listed.setIfInBounds i true) → wpAnyK P md ops Q k S fuel (listed.setIfInBounds i true) (a.put oi.dst v) w) : wpAnyK P md ops Q k S (fuel + 1) listed a w := by
  obtain ⟨hs, hf, hr', hki'⟩ := stepB_spec hst
  exact wpAnyK_first (T := fun _ => True) hi (Region.noSelect_spec hs) (fun _ _ _ _ _ => trivial) hki' hQ fuel listed a w hD (Region.free_spec hi hf) hr' hy (fun h0 => by rw [hk] at h0; cases h0) (h (hD.set hr'))

/-- A post that differs at the ordinary end alone. -/
theorem wp_other_end {o : Oper} {a : Act} {w : World} {K : Act → World → Prop} {Q' : Exit → Act → World → Prop} (hQ : ∀ c a w, Q' (.panic c) a w → Q (.panic c) a w) (hO : LetsOut Q' → LetsOut Q)
    (h : o.wp P a w K Q') : o.wp P a w K Q := by
  unfold Oper.wp at *
  generalize (execOp a.eval o).run P w = r at *
  cases r with
  | ok n w' =>
    cases n <;> simp only [Oper.upon] at h ⊢
    case value u => exact h
    case skip => exact h
    case defer d => exact h
    case enter f args =>
      refine Calls.mono h fun e w'' he => ?_
      cases e with
      | returned u => exact he
      | panicked c => exact hQ _ _ _ he
      | outgrown => exact hO he
    case row row args => exact h
  | halt x w' =>
    cases x <;> simp only [Oper.upon] at h ⊢
    case panic u => exact hQ _ _ _ h

/-- The post with another ordinary end. -/
def EndK (K : Act → World → Prop) (Q : Exit → Act → World → Prop) : Exit → Act → World → Prop
  | .normal, a, w => K a w
  | e, a, w => Q e a w

/-- What is owed at an operation that may come up, as a list of its own: behind it the rest; S is shown anew. -/
def StepK (P : Program) (md : Region.Mode) (ops : Array Oper) (Q : Exit → Act → World → Prop) (k : Nat) (S : World → Prop) (i : Nat) (oi : Oper) (fuel : Nat) (listed : Array Bool) (a : Act) (w : World) : Prop :=
  ∀ K : Act → World → Prop, (∀ a' w', S w' → (S w' → Down md ops (listed.setIfInBounds i true) → wpAnyK P md ops Q k S fuel (listed.setIfInBounds i true) a' w') → K a' w') → wpList P ops (EndK K Q) [oi] a w
theorem step_of {i : Nat} {oi : Oper} {fuel : Nat} {listed : Array Bool} {a : Act} {w : World} (hi' : i ∈ Region.ready md ops listed) (hi : ops[i]? = some oi) (hD : Down md ops listed) (R : World → Prop) (hR : ∀ w', R w' → (listed.setIfInBounds i true).getD k false = false → S w')
    (h : ∀ K : Act → World → Prop, (∀ a' w', R w' → (R w' → Down md ops (listed.setIfInBounds i true) → wpAnyK P md ops Q k S fuel (listed.setIfInBounds i true) a' w') → K a' w') → wpList P ops (EndK K Q) [oi] a w) :
    wpOp P ops Q i (fun a' w' => ((listed.setIfInBounds i true).getD k false = false → S w') ∧ wpAnyK P md ops Q k S fuel (listed.setIfInBounds i true) a' w') a w := by
  have h1 := h (fun a' w' => ((listed.setIfInBounds i true).getD k false = false → S w') ∧ wpAnyK P md ops Q k S fuel (listed.setIfInBounds i true) a' w') (fun a' w' hS hh => ⟨hR w' hS, hh hS (hD.set hi')⟩)
  have hO : LetsOut (EndK (fun a' w' => ((listed.setIfInBounds i true).getD k false = false → S w') ∧ wpAnyK P md ops Q k S fuel (listed.setIfInBounds i true) a' w') Q) → LetsOut Q := fun ⟨a', w', hh⟩ => ⟨a', w', hh⟩
  unfold wpList at h1
  unfold wpOp
  simp only [hi]
  split
  · rename_i hw
    rw [if_pos hw] at h1
    rcases h1 with h1 | ⟨h2, h3⟩
    · exact .inl (wp_other_end (fun _ _ _ hh => hh) hO h1)
    · exact .inr ⟨h2, hO h3⟩
  · rename_i hw
    rw [if_neg hw] at h1
    exact h1
/-- The one operation that may come up, as a list of its own: behind it the rest. -/
theorem wpAnyK_oneT {i : Nat} {oi : Oper} {fuel : Nat} {listed : Array Bool} {a : Act} {w : World} (hr : Region.ready md ops listed = [i]) (hi : ops[i]? = some oi) (hD : Down md ops listed) (hk : (listed.setIfInBounds i true).getD k false = true)
    (h : ∀ K : Act → World → Prop, (∀ a' w', (Down md ops (listed.setIfInBounds i true) → wpAnyK P md ops Q k S fuel (listed.setIfInBounds i true) a' w') → K a' w') → wpList P ops (EndK K Q) [oi] a w) : wpAnyK P md ops Q k S (fuel + 1) listed a w := by
  refine ⟨fun h0 => (by rw [hr] at h0; cases h0), fun j hj => ?_⟩
  have hi' : i ∈ Region.ready md ops listed := by rw [hr]; exact List.mem_singleton.2 rfl
  rw [hr] at hj
  obtain rfl := List.mem_singleton.1 hj
  exact step_of hi' hi hD (fun _ => True) (fun _ _ h0 => by rw [hk] at h0; cases h0) (fun K hK => h K fun a' w' hh => hK a' w' trivial fun _ => hh)
/-- The same ahead of number k: S is shown anew. -/
theorem wpAnyK_one {i : Nat} {oi : Oper} {fuel : Nat} {listed : Array Bool} {a : Act} {w : World} (hr : Region.ready md ops listed = [i]) (hi : ops[i]? = some oi) (hD : Down md ops listed)
    (h : ∀ K : Act → World → Prop, (∀ a' w', S w' → (S w' → Down md ops (listed.setIfInBounds i true) → wpAnyK P md ops Q k S fuel (listed.setIfInBounds i true) a' w') → K a' w') → wpList P ops (EndK K Q) [oi] a w) : wpAnyK P md ops Q k S (fuel + 1) listed a w := by
  refine ⟨fun h0 => (by rw [hr] at h0; cases h0), fun j hj => ?_⟩
  have hi' : i ∈ Region.ready md ops listed := by rw [hr]; exact List.mem_singleton.2 rfl
  rw [hr] at hj
  obtain rfl := List.mem_singleton.1 hj
  exact step_of hi' hi hD S (fun _ h _ => h) h
/-- Two may come up. -/
theorem wpAnyK_two {i i' : Nat} {oi oi' : Oper} {fuel : Nat} {listed : Array Bool} {a : Act} {w : World} (hr : Region.ready md ops listed = [i, i']) (hi : ops[i]? = some oi) (hi' : ops[i']? = some oi') (hD : Down md ops listed)
    (h : StepK P md ops Q k S i oi fuel listed a w) (h' : StepK P md ops Q k S i' oi' fuel listed a w) : wpAnyK P md ops Q k S (fuel + 1) listed a w := by
  refine ⟨fun h0 => (by rw [hr] at h0; cases h0), fun j hj => ?_⟩
  have hj' := hj
  rw [hr] at hj
  simp only [List.mem_cons, List.mem_nil_iff, or_false] at hj
  rcases hj with rfl | rfl
  · exact step_of hj' hi hD S (fun _ h _ => h) h
  · exact step_of hj' hi' hD S (fun _ h _ => h) h'
/-- Three may come up. -/
theorem wpAnyK_three {i i' i'' : Nat} {oi oi' oi'' : Oper} {fuel : Nat} {listed : Array Bool} {a : Act} {w : World} (hr : Region.ready md ops listed = [i, i', i'']) (hi : ops[i]? = some oi) (hi' : ops[i']? = some oi') (hi'' : ops[i'']? = some oi'') (hD : Down md ops listed)
    (h : StepK P md ops Q k S i oi fuel listed a w) (h' : StepK P md ops Q k S i' oi' fuel listed a w) (h'' : StepK P md ops Q k S i'' oi'' fuel listed a w) : wpAnyK P md ops Q k S (fuel + 1) listed a w := by
  refine ⟨fun h0 => (by rw [hr] at h0; cases h0), fun j hj => ?_⟩
  have hj' := hj
  rw [hr] at hj
  simp only [List.mem_cons, List.mem_nil_iff, or_false] at hj
  rcases hj with rfl | rfl | rfl
  · exact step_of hj' hi hD S (fun _ h _ => h) h
  · exact step_of hj' hi' hD S (fun _ h _ => h) h'
  · exact step_of hj' hi'' hD S (fun _ h _ => h) h''

/-- All have come up. -/
theorem wpAnyK_done {listed : Array Bool} {a : Act} {w : World} (hr : Region.ready md ops listed = []) (h : Q .normal a w) :
    ∀ fuel, wpAnyK P md ops Q k S fuel listed a w
  | 0 => ⟨hr, h⟩
  | _ + 1 => ⟨fun _ => h, by rw [hr]; simp⟩

/-- The beginning. -/
theorem wp_region_K (k : Nat) (S : World → Prop) {id : Nat} {a : Act} {w : World} (hm : P.follows .mixedOrders = true)
    (h : Down .any ops (Array.replicate ops.size false) → wpAnyK P .any ops Q k S ops.size (Array.replicate ops.size false) a w.drew) : (Code.region id ops true).wp P Q a w :=
  wp_region_any hm (wpAny_of_K _ _ _ _ (h Down.start))
end
end Go.Proofs.Ytelhpdlegjgjjaa

/- In a region whose order is drawn: an operation that waits for nothing (an alloc) beside a row of calls is walked once, whether it has come up or not. -/
import Derived.Test.YtpdejgdkpghjhaaGreatDoorQReg
namespace Go.Proofs.YtpdejgdkpghjhaaGreatDoor
/-- Only the normal end is left. -/
def onlyN (K : Act → World → Prop) : Exit → Act → World → Prop
  | .normal, a, w => K a w
  | _, _, _ => False
theorem wp_onlyN {P : Program} {c : Code} {K : Act → World → Prop} {Q : Exit → Act → World → Prop} {a : Act} {w : World} (h : c.wp P (onlyN K) a w) : c.wp P (Exit.then K Q) a w :=
  wp_mono h (fun e a w hh => by
    cases e <;> first | exact hh | exact hh.elim)
theorem name_world {K : Act → World → Prop} {Q : Exit → Act → World → Prop} {a : Act} {w : World} (h : ∀ W, W = w → EndK K Q .normal a W) : EndK K Q .normal a w := h w rfl

section
variable {P : Program} {ops : Array Oper} {Q : Exit → Act → World → Prop} {md : Region.Mode} {S : World → Prop} {k : Nat}

/-- From here on, whether number i (its temporary d holds x) has come up or not. -/
def GhostK (P : Program) (md : Region.Mode) (ops : Array Oper) (Q : Exit → Act → World → Prop) (k : Nat) (S : World → Prop) (i : Nat) (d : Tmp) (fuel : Nat) (listed : Array Bool) (a : Act) (I : Bool → Value → World → Prop) : Prop :=
  (∀ x w, I true x w → wpAnyK P md ops Q k S fuel (listed.setIfInBounds i true) (a.put (some d) x) w) ∧ (∀ w, I false undef w → wpAnyK P md ops Q k S (fuel + 1) listed a w)

theorem ghost_step {i j : Nat} {oi oj : Oper} {d dj : Tmp} {fuel : Nat} {listed : Array Bool} {a : Act} {I : Bool → Value → World → Prop} {β : Type} (val : β → Value) (I' : β → Bool → Value → World → Prop)
    (hr : Region.ready md ops listed = [j, i]) (hr' : Region.ready md ops (listed.setIfInBounds i true) = [j]) (hi : ops[i]? = some oi) (hj : ops[j]? = some oj) (hD : Down md ops listed)
    (ha : a.put (some d) undef = a) (hdd : d ≠ dj) (hS' : ∀ v b x w, I' v b x w → S w) (hS : ∀ b x w, I b x w → S w)
    (halloc : ∀ w, I false undef w → ∀ K : Act → World → Prop, (∀ x w', I true x w' → K (a.put (some d) x) w') → wpList P ops (EndK K Q) [oi] a w)
    (hstep : ∀ b x w, I b x w → ∀ K : Act → World → Prop, (∀ v w', I' v b x w' → K ((a.put (some d) x).put (some dj) (val v)) w') → wpList P ops (EndK K Q) [oj] (a.put (some d) x) w)
    (hnext : ∀ v, Down md ops (listed.setIfInBounds j true) → GhostK P md ops Q k S i d fuel (listed.setIfInBounds j true) (a.put (some dj) (val v)) (I' v)) :
    GhostK P md ops Q k S i d (fuel + 1) listed a I := by
  have hmi : i ∈ Region.ready md ops listed := by rw [hr]; simp
  have hmj : j ∈ Region.ready md ops listed := by rw [hr]; simp
  have hDj := hD.set hmj
  have hji : i ≠ j := fun e => by
    have := (mem_ready.1 (show j ∈ Region.ready md ops (listed.setIfInBounds i true) by rw [hr']; simp)).1
    subst e
    have h2 := (mem_ready.1 hmi).1
    have h3 := getD_set_self h2
    rw [Array.getD_eq_getD_getElem?] at this h3
    cases e : (listed.setIfInBounds i true)[i]? with
    | none => rw [e] at h3; cases h3
    | some b => rw [e] at this h3; cases b <;> cases this <;> cases h3
  have hcomm : ∀ x v, (a.put (some d) x).put (some dj) v = (a.put (some dj) v).put (some d) x := fun x v => Act.put_comm a x v (fun d' h h' => by cases h; cases h'; exact hdd rfl)
  have htrue : ∀ x w, I true x w → wpAnyK P md ops Q k S (fuel + 1) (listed.setIfInBounds i true) (a.put (some d) x) w := fun x w h => by
    refine wpAnyK_one hr' hj (hD.set hmi) (fun K hK => hstep true x w h K fun v w' h' => hK _ w' (hS' _ _ _ _ h') fun _ _ => ?_)
    rw [hcomm, Array.setIfInBounds_comm _ _ hji]
    exact (hnext v hDj).1 x w' h'
  refine ⟨htrue, fun w h => ?_⟩
  refine wpAnyK_two hr hj hi hD (fun K hK => ?_) (fun K hK => ?_)
  · have h1 := hstep false undef w h K fun v w' h' => by
      rw [hcomm]
      have e : (a.put (some dj) (val v)).put (some d) undef = a.put (some dj) (val v) := by rw [← hcomm, ha]
      rw [e]
      exact hK _ w' (hS' _ _ _ _ h') fun _ _ => (hnext v hDj).2 w' h'
    rw [ha] at h1
    exact h1
  · exact halloc w h K fun x w' h' => hK _ w' (hS _ _ _ h') fun _ _ => htrue x w' h'

/-- The row is at its end: number i comes up now, or has come up. -/
theorem ghost_end {i : Nat} {oi : Oper} {d : Tmp} {fuel : Nat} {listed : Array Bool} {a : Act} {I : Bool → Value → World → Prop}
    (hr : Region.ready md ops listed = [i]) (hi : ops[i]? = some oi) (hD : Down md ops listed) (hS : ∀ b x w, I b x w → S w)
    (halloc : ∀ w, I false undef w → ∀ K : Act → World → Prop, (∀ x w', I true x w' → K (a.put (some d) x) w') → wpList P ops (EndK K Q) [oi] a w)
    (hnext : ∀ x w, I true x w → Down md ops (listed.setIfInBounds i true) → wpAnyK P md ops Q k S fuel (listed.setIfInBounds i true) (a.put (some d) x) w) :
    GhostK P md ops Q k S i d fuel listed a I := by
  have hmi : i ∈ Region.ready md ops listed := by rw [hr]; simp
  refine ⟨fun x w h => hnext x w h (hD.set hmi), fun w h => ?_⟩
  exact wpAnyK_one hr hi hD fun K hK => halloc w h K fun x w' h' => hK _ w' (hS _ _ _ h') fun _ _ => hnext x w' h' (hD.set hmi)

/-- XReg's laws with the temporary named: so the activation stays a literal. -/
theorem wpAnyK_takeD {i : Nat} {oi : Oper} {d : Option Tmp} {v : Value} {fuel : Nat} {listed : Array Bool} {a : Act} {w : World} (hi : ops[i]? = some oi) (hd : oi.dst = d) (hst : stepB md ops listed k i = true) (hre : reachB md ops ops.size k i = true)
    (hQ : ∀ c a w, Q (.panic c) (a.put d v) w → Q (.panic c) a w) (hD : Down md ops listed) (hS : S w) (hy : YieldsIf P ops S oi v a)
    (h : Down md ops (listed.setIfInBounds i true) → wpAnyK P md ops Q k S fuel (listed.setIfInBounds i true) (a.put d v) w) : wpAnyK P md ops Q k S (fuel + 1) listed a w := by
  subst hd
  exact wpAnyK_take hi hst hre hQ hD hS hy h
theorem wpAnyK_takeSD {i : Nat} {oi : Oper} {d : Option Tmp} {v : Value} {fuel : Nat} {listed : Array Bool} {a : Act} {w : World} (hi : ops[i]? = some oi) (hd : oi.dst = d) (hst : stepB md ops listed k i = true) (hre : decide (ops.size ≤ k) = true)
    (hQ : ∀ c a w, Q (.panic c) (a.put d v) w → Q (.panic c) a w) (hD : Down md ops listed) (hS : S w) (hy : YieldsIf P ops S oi v a)
    (h : Down md ops (listed.setIfInBounds i true) → wpAnyK P md ops Q k S fuel (listed.setIfInBounds i true) (a.put d v) w) : wpAnyK P md ops Q k S (fuel + 1) listed a w := by
  subst hd
  exact wpAnyK_takeS hi hst hre hQ hD hS hy h
theorem wpAnyK_pureD {i : Nat} {oi : Oper} {d : Option Tmp} {v : Value} {fuel : Nat} {listed : Array Bool} {a : Act} {w : World} (hi : ops[i]? = some oi) (hd : oi.dst = d) (hst : stepB md ops listed k i = true)
    (hQ : ∀ c a w, Q (.panic c) (a.put d v) w → Q (.panic c) a w) (hD : Down md ops listed) (hS : S w) (hy : YieldsIf P ops (fun _ => True) oi v a)
    (h : Down md ops (listed.setIfInBounds i true) → wpAnyK P md ops Q k S fuel (listed.setIfInBounds i true) (a.put d v) w) : wpAnyK P md ops Q k S (fuel + 1) listed a w := by
  subst hd
  exact wpAnyK_pure hi hst hQ hD hS hy h

/-- An operation that yields v in every world, beside number i. -/
theorem ghost_pure {i j : Nat} {oj : Oper} {d dj : Tmp} {v : Value} {fuel : Nat} {listed : Array Bool} {a : Act} {I : Bool → Value → World → Prop} (hj : ops[j]? = some oj) (hdj : oj.dst = some dj) (hmi : (Region.ready md ops listed).contains i = true) (hst : stepB md ops listed k j = true) (hst' : stepB md ops (listed.setIfInBounds i true) k j = true)
    (hQ : ∀ c a w, Q (.panic c) (a.put (some dj) v) w → Q (.panic c) a w) (hD : Down md ops listed) (ha : a.put (some d) undef = a) (hdd : d ≠ dj) (hij : i ≠ j) (hS : ∀ b x w, I b x w → S w) (hy : ∀ x, YieldsIf P ops (fun _ => True) oj v (a.put (some d) x))
    (h : Down md ops (listed.setIfInBounds j true) → GhostK P md ops Q k S i d fuel (listed.setIfInBounds j true) (a.put (some dj) v) I) : GhostK P md ops Q k S i d (fuel + 1) listed a I := by
  have hmi' : i ∈ Region.ready md ops listed := by rwa [List.contains_iff_mem] at hmi
  have hD' := hD.set hmi'
  have hDj := hD.set (stepB_spec hst).2.2.1
  subst_vars
  refine ⟨fun x w hI => ?_, fun w hI => ?_⟩
  · refine wpAnyK_pureD hj hdj hst' hQ hD' (hS _ _ _ hI) (hy x) fun _ => ?_
    rw [Act.put_comm a x v (fun d' h h' => by cases h; cases h'; exact hdd rfl), Array.setIfInBounds_comm _ _ hij]
    exact (h hDj).1 x w hI
  · exact wpAnyK_pureD hj hdj hst hQ hD (hS _ _ _ hI) (by have := hy undef; rwa [ha] at this) fun _ => (h hDj).2 w hI
end
end Go.Proofs.YtpdejgdkpghjhaaGreatDoor
/- Byte lists as natural numbers, most significant byte first: the canonical list of a number, comparison. No program stands here. -/
namespace Go.Proofs.YtpdejgdkpghjhaaGreatDoor

/-- The number of a byte list. -/
def bnat (l : List UInt8) : Nat := l.foldl (fun n b => n * 256 + b.toNat) 0

/-- The canonical byte list of a number, with fuel. -/
def encF : Nat → Nat → List UInt8
  | 0, _ => []
  | k + 1, n => if n = 0 then [] else encF k (n / 256) ++ [UInt8.ofNat (n % 256)]
/-- The canonical byte list of a number. -/
def encN (n : Nat) : List UInt8 := encF n n

/-- Without the leading zero bytes. -/
def trimZ (l : List UInt8) : List UInt8 := l.dropWhile (· == 0)

/-- No leading zero byte. -/
def canon (l : List UInt8) : Prop := l.head? ≠ some 0

theorem foldl_bnat (l : List UInt8) (a : Nat) : l.foldl (fun n b => n * 256 + b.toNat) a = a * 256 ^ l.length + bnat l := by
  induction l generalizing a with
  | nil => simp [bnat]
  | cons x l ih =>
    have h1 := ih (a * 256 + x.toNat)
    have h2 := ih (0 * 256 + x.toNat)
    simp only [List.foldl_cons, bnat, List.length_cons] at *
    rw [h1, h2]
    simp only [Nat.pow_succ]
    rw [Nat.add_mul, Nat.zero_mul, Nat.zero_add, Nat.mul_assoc, Nat.mul_comm 256, Nat.add_assoc]
theorem bnat_cons (x : UInt8) (l : List UInt8) : bnat (x :: l) = x.toNat * 256 ^ l.length + bnat l := by
  have := foldl_bnat l (0 * 256 + x.toNat)
  simp only [bnat, List.foldl_cons] at *
  rw [this]; simp
theorem bnat_append (l m : List UInt8) : bnat (l ++ m) = bnat l * 256 ^ m.length + bnat m := by
  have := foldl_bnat m (bnat l)
  rw [← this]; simp [bnat, List.foldl_append]
theorem bnat_snoc (l : List UInt8) (x : UInt8) : bnat (l ++ [x]) = bnat l * 256 + x.toNat := by
  rw [bnat_append]; simp [bnat]
theorem bnat_lt (l : List UInt8) : bnat l < 256 ^ l.length := by
  induction l with
  | nil => simp [bnat]
  | cons x l ih =>
    rw [bnat_cons, List.length_cons, Nat.pow_succ]
    have hx := x.toNat_lt
    have : x.toNat * 256 ^ l.length + 256 ^ l.length ≤ 256 * 256 ^ l.length := by
      rw [← Nat.succ_mul]; exact Nat.mul_le_mul_right _ (by omega)
    rw [Nat.mul_comm (256 ^ l.length)]
    omega
theorem bnat_ge (x : UInt8) (l : List UInt8) (hx : x ≠ 0) : 256 ^ l.length ≤ bnat (x :: l) := by
  rw [bnat_cons]
  have : 1 ≤ x.toNat := by
    rcases Nat.eq_zero_or_pos x.toNat with h | h
    · exact absurd (UInt8.toNat_inj.1 (by simpa using h)) hx
    · exact h
  have := Nat.mul_le_mul_right (256 ^ l.length) this
  omega

theorem trimZ_canon (l : List UInt8) : canon (trimZ l) := by
  induction l with
  | nil => simp [trimZ, canon]
  | cons x l ih =>
    unfold trimZ at *
    rw [List.dropWhile_cons]
    by_cases h : (x == 0) = true
    · rw [if_pos h]; exact ih
    · rw [if_neg h]; simpa [canon] using h
theorem bnat_trimZ (l : List UInt8) : bnat (trimZ l) = bnat l := by
  induction l with
  | nil => rfl
  | cons x l ih =>
    unfold trimZ at *
    rw [List.dropWhile_cons]
    by_cases h : (x == 0) = true
    · rw [if_pos h, ih, bnat_cons]
      have : x = 0 := by simpa using h
      subst this; simp
    · rw [if_neg h]
theorem trimZ_of_canon {l : List UInt8} (h : canon l) : trimZ l = l := by
  cases l with
  | nil => rfl
  | cons x l =>
    unfold trimZ canon at *
    rw [List.dropWhile_cons, if_neg]
    simpa using h
theorem canon_nil : canon [] := by simp [canon]
theorem canon_cons {x : UInt8} {l : List UInt8} : canon (x :: l) ↔ x ≠ 0 := by simp [canon]

theorem ofNat_mod_toNat (n : Nat) : (UInt8.ofNat (n % 256)).toNat = n % 256 := by
  simp [UInt8.toNat_ofNat']

theorem encF_bnat (k n : Nat) (h : n ≤ k) : bnat (encF k n) = n := by
  induction k generalizing n with
  | zero => have : n = 0 := by omega
            subst this; rfl
  | succ k ih =>
    unfold encF
    by_cases h0 : n = 0
    · rw [if_pos h0, h0]; rfl
    · rw [if_neg h0, bnat_snoc, ih (n / 256) (by omega), ofNat_mod_toNat]
      omega
theorem encF_canon (k n : Nat) (h : n ≤ k) : canon (encF k n) := by
  induction k generalizing n with
  | zero => exact canon_nil
  | succ k ih =>
    unfold encF
    by_cases h0 : n = 0
    · rw [if_pos h0]; exact canon_nil
    · rw [if_neg h0]
      by_cases h1 : n / 256 = 0
      · have : encF k (n / 256) = [] := by rw [h1]; cases k <;> simp [encF]
        rw [this, List.nil_append, canon_cons]
        intro e
        have := congrArg UInt8.toNat e
        rw [ofNat_mod_toNat] at this
        simp at this; omega
      · have hc := ih (n / 256) (by omega)
        have hb := encF_bnat k (n / 256) (by omega)
        cases hl : encF k (n / 256) with
        | nil => rw [hl] at hb; exact absurd hb.symm h1
        | cons x l => rw [hl] at hc; exact canon_cons.2 (canon_cons.1 hc)
theorem bnat_encN (n : Nat) : bnat (encN n) = n := encF_bnat n n (Nat.le_refl n)
theorem canon_encN (n : Nat) : canon (encN n) := encF_canon n n (Nat.le_refl n)

theorem canon_len_lt {a b : List UInt8} (hb : canon b) (h : a.length < b.length) : bnat a < bnat b := by
  cases b with
  | nil => simp at h
  | cons x l =>
    have h1 := bnat_ge x l (canon_cons.1 hb)
    have h2 := bnat_lt a
    have h3 : 256 ^ a.length ≤ 256 ^ l.length := Nat.pow_le_pow_right (by omega) (by simp at h; omega)
    omega
theorem bnat_inj_len {a b : List UInt8} (hl : a.length = b.length) (h : bnat a = bnat b) : a = b := by
  induction a generalizing b with
  | nil => cases b with
    | nil => rfl
    | cons y m => simp at hl
  | cons x l ih => cases b with
    | nil => simp at hl
    | cons y m =>
      have hlm : l.length = m.length := by simpa using hl
      rw [bnat_cons, bnat_cons, hlm] at h
      have h1 := bnat_lt l
      have h2 := bnat_lt m
      rw [hlm] at h1
      have hp : 0 < 256 ^ m.length := Nat.pow_pos (by omega)
      have hx : x.toNat = y.toNat := by
        have e1 : (x.toNat * 256 ^ m.length + bnat l) / 256 ^ m.length = x.toNat := by
          rw [Nat.add_comm, Nat.add_mul_div_right _ _ hp, Nat.div_eq_of_lt h1]; omega
        have e2 : (y.toNat * 256 ^ m.length + bnat m) / 256 ^ m.length = y.toNat := by
          rw [Nat.add_comm, Nat.add_mul_div_right _ _ hp, Nat.div_eq_of_lt h2]; omega
        rw [← e1, h, e2]
      have hxy : x = y := UInt8.toNat_inj.1 hx
      subst hxy
      rw [ih hlm (by omega)]
theorem canon_inj {a b : List UInt8} (ha : canon a) (hb : canon b) (h : bnat a = bnat b) : a = b := by
  rcases Nat.lt_trichotomy a.length b.length with hl | hl | hl
  · have := canon_len_lt hb hl; omega
  · exact bnat_inj_len hl h
  · have := canon_len_lt ha hl; omega
theorem encN_bnat {l : List UInt8} (h : canon l) : encN (bnat l) = l := canon_inj (canon_encN _) h (bnat_encN _)
theorem trimZ_eq (l : List UInt8) : trimZ l = encN (bnat l) := by rw [← bnat_trimZ, encN_bnat (trimZ_canon l)]
theorem encN_eq_nil {n : Nat} : encN n = [] ↔ n = 0 := ⟨fun h => by rw [← bnat_encN n, h]; rfl, fun h => by rw [h]; rfl⟩

/-- The length of the canonical list: less than 256^k means at most k bytes. -/
theorem encN_length_le {n k : Nat} : (encN n).length ≤ k ↔ n < 256 ^ k := by
  constructor
  · intro h
    have := bnat_lt (encN n)
    rw [bnat_encN] at this
    exact Nat.lt_of_lt_of_le this (Nat.pow_le_pow_right (by omega) h)
  · intro h
    cases hl : encN n with
    | nil => simp
    | cons x l =>
      have hc := canon_encN n
      rw [hl] at hc
      have h1 := bnat_ge x l (canon_cons.1 hc)
      rw [← hl, bnat_encN] at h1
      rcases Nat.lt_or_ge l.length k with h2 | h2
      · (simp only [List.length_cons]; omega)
      · have := Nat.pow_le_pow_right (show 0 < 256 by omega) h2
        omega
theorem encN_length_mono {m n : Nat} (h : m ≤ n) : (encN m).length ≤ (encN n).length :=
  encN_length_le.2 (Nat.lt_of_le_of_lt h (encN_length_le.1 (Nat.le_refl _)))

/-- Three-way comparison. -/
def cmpI (a b : Nat) : Int := if a < b then -1 else if b < a then 1 else 0

/-- The first difference of two lists of one length decides. -/
theorem bnat_lt_first {p a b : List UInt8} {x y : UInt8} (hl : a.length = b.length) (h : x.toNat < y.toNat) : bnat (p ++ x :: a) < bnat (p ++ y :: b) := by
  rw [bnat_append, bnat_append, bnat_cons, bnat_cons, List.length_cons, List.length_cons, hl]
  have h1 := bnat_lt a
  rw [hl] at h1
  have h2 : (x.toNat + 1) * 256 ^ b.length ≤ y.toNat * 256 ^ b.length := Nat.mul_le_mul_right _ h
  rw [Nat.succ_mul] at h2
  omega

theorem cmpI_lt {a b : Nat} (h : a < b) : cmpI a b = -1 := by simp [cmpI, h]
theorem cmpI_gt {a b : Nat} (h : b < a) : cmpI a b = 1 := by simp [cmpI, h]; omega

/-- Shorter lists first, then by their numbers. -/
def ordL (a b : List UInt8) : Int := if a.length < b.length then -1 else if b.length < a.length then 1 else cmpI (bnat a) (bnat b)
theorem ordL_canon {a b : List UInt8} (ha : canon a) (hb : canon b) : ordL a b = cmpI (bnat a) (bnat b) := by
  unfold ordL
  split
  · rw [cmpI_lt (canon_len_lt hb ‹_›)]
  · split
    · rw [cmpI_gt (canon_len_lt ha ‹_›)]
    · rfl

/-- Two lists of one length that agree up to k and differ at k. -/
theorem ordL_first {a b : List UInt8} {k : Nat} (hl : a.length = b.length) (hk : k < a.length) (he : a.take k = b.take k) (h : (a.getD k 0).toNat < (b.getD k 0).toNat) :
    ordL a b = -1 ∧ ordL b a = 1 := by
  have ea : a = b.take k ++ a.getD k 0 :: a.drop (k + 1) := by
    rw [← he, List.getD_eq_getElem?_getD, List.getElem?_eq_getElem hk, Option.getD_some, List.getElem_cons_drop, List.take_append_drop]
  have eb : b = b.take k ++ b.getD k 0 :: b.drop (k + 1) := by
    rw [List.getD_eq_getElem?_getD, List.getElem?_eq_getElem (by omega), Option.getD_some, List.getElem_cons_drop, List.take_append_drop]
  have hlt : bnat a < bnat b := by
    have := bnat_lt_first (p := b.take k) (a := a.drop (k + 1)) (b := b.drop (k + 1)) (by simp [hl]) h
    rw [← ea, ← eb] at this
    exact this
  constructor
  · unfold ordL; rw [if_neg (by omega), if_neg (by omega), cmpI_lt hlt]
  · unfold ordL; rw [if_neg (by omega), if_neg (by omega), cmpI_gt hlt]
theorem ordL_same {a b : List UInt8} (h : a = b) : ordL a b = 0 := by subst h; simp [ordL, cmpI]

end Go.Proofs.YtpdejgdkpghjhaaGreatDoor

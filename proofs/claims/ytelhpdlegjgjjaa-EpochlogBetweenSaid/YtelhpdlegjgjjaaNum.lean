/- Byte lists as natural numbers, most significant byte first: the canonical list of a number, comparison. No program stands here. -/
namespace Go.Proofs.Ytelhpdlegjgjjaa

/-- The number of a byte list. -/
def bnat (l : List UInt8) : Nat := l.foldl (fun n b => n * 256 + b.toNat) 0

/-- The canonical byte list of a number, with fuel. -/
def encF : Nat → Nat → List UInt8
  | 0, _ => []
  | k + 1, n => if n = 0 then [] else encF k (n / 256) ++ [UInt8.ofNat (n % 256)]
/-- The canonical byte list of a number. -/
def encN (n : Nat) : List UInt8 := encF n n

/-- Without the leading zero bytes. -/
def trimZ (l : List UInt8) : List UInt8 := l.dropWhile (· == 0)

/-- No leading zero byte. -/
def canon (l : List UInt8) : Prop := l.head? ≠ some 0

theorem bnat_nil : bnat [] = 0 := rfl
theorem foldl_bnat (l : List UInt8) (a : Nat) : l.foldl (fun n b => n * 256 + b.toNat) a = a * 256 ^ l.length + bnat l := by
  induction l generalizing a with
  | nil => simp [bnat]
  | cons x l ih =>
    have h1 := ih (a * 256 + x.toNat)
    have h2 := ih (0 * 256 + x.toNat)
    simp only [List.foldl_cons, bnat, List.length_cons] at *
    rw [h1, h2]
    simp only [Nat.pow_succ]
    rw [Nat.add_mul, Nat.zero_mul, Nat.zero_add, Nat.mul_assoc, Nat.mul_comm 256, Nat.add_assoc]
theorem bnat_cons (x : UInt8) (l : List UInt8) : bnat (x :: l) = x.toNat * 256 ^ l.length + bnat l := by
  have := foldl_bnat l (0 * 256 + x.toNat)
  simp only [bnat, List.foldl_cons] at *
  rw [this]; simp
theorem bnat_append (l m : List UInt8) : bnat (l ++ m) = bnat l * 256 ^ m.length + bnat m := by
  have := foldl_bnat m (bnat l)
  rw [← this]; simp [bnat, List.foldl_append]
theorem bnat_snoc (l : List UInt8) (x : UInt8) : bnat (l ++ [x]) = bnat l * 256 + x.toNat := by
  rw [bnat_append]; simp [bnat]
theorem bnat_lt (l : List UInt8) : bnat l < 256 ^ l.length := by
  induction l with
  | nil => simp [bnat]
  | cons x l ih =>
    rw [bnat_cons, List.length_cons, Nat.pow_succ]
    have hx := x.toNat_lt
    have : x.toNat * 256 ^ l.length + 256 ^ l.length ≤ 256 * 256 ^ l.length := by
      rw [← Nat.succ_mul]; exact Nat.mul_le_mul_right _ (by omega)
    rw [Nat.mul_comm (256 ^ l.length)]
    omega
theorem bnat_ge (x : UInt8) (l : List UInt8) (hx : x ≠ 0) : 256 ^ l.length ≤ bnat (x :: l) := by
  rw [bnat_cons]
  have : 1 ≤ x.toNat := by
    rcases Nat.eq_zero_or_pos x.toNat with h | h
    · exact absurd (UInt8.toNat_inj.1 (by simpa using h)) hx
    · exact h
  have := Nat.mul_le_mul_right (256 ^ l.length) this
  omega

theorem trimZ_canon (l : List UInt8) : canon (trimZ l) := by
  induction l with
  | nil => simp [trimZ, canon]
  | cons x l ih =>
    unfold trimZ at *
    rw [List.dropWhile_cons]
    by_cases h : (x == 0) = true
    · rw [if_pos h]; exact ih
    · rw [if_neg h]; simpa [canon] using h
theorem bnat_trimZ (l : List UInt8) : bnat (trimZ l) = bnat l := by
  induction l with
  | nil => rfl
  | cons x l ih =>
    unfold trimZ at *
    rw [List.dropWhile_cons]
    by_cases h : (x == 0) = true
    · rw [if_pos h, ih, bnat_cons]
      have : x = 0 := by simpa using h
      subst this; simp
    · rw [if_neg h]
theorem trimZ_length_le (l : List UInt8) : (trimZ l).length ≤ l.length := by
  unfold trimZ; exact (List.dropWhile_suffix _).length_le
theorem trimZ_of_canon {l : List UInt8} (h : canon l) : trimZ l = l := by
  cases l with
  | nil => rfl
  | cons x l =>
    unfold trimZ canon at *
    rw [List.dropWhile_cons, if_neg]
    simpa using h
theorem canon_nil : canon [] := by simp [canon]
theorem canon_cons {x : UInt8} {l : List UInt8} : canon (x :: l) ↔ x ≠ 0 := by simp [canon]

theorem ofNat_mod_toNat (n : Nat) : (UInt8.ofNat (n % 256)).toNat = n % 256 := by
  simp [UInt8.toNat_ofNat']

theorem encF_bnat (k n : Nat) (h : n ≤ k) : bnat (encF k n) = n := by
  induction k generalizing n with
  | zero => have : n = 0 := by omega
            subst this; rfl
  | succ k ih =>
    unfold encF
    by_cases h0 : n = 0
    · rw [if_pos h0, h0]; rfl
    · rw [if_neg h0, bnat_snoc, ih (n / 256) (by omega), ofNat_mod_toNat]
      omega
theorem encF_canon (k n : Nat) (h : n ≤ k) : canon (encF k n) := by
  induction k generalizing n with
  | zero => exact canon_nil
  | succ k ih =>
    unfold encF
    by_cases h0 : n = 0
    · rw [if_pos h0]; exact canon_nil
    · rw [if_neg h0]
      by_cases h1 : n / 256 = 0
      · have : encF k (n / 256) = [] := by rw [h1]; cases k <;> simp [encF]
        rw [this, List.nil_append, canon_cons]
        intro e
        have := congrArg UInt8.toNat e
        rw [ofNat_mod_toNat] at this
        simp at this; omega
      · have hc := ih (n / 256) (by omega)
        have hb := encF_bnat k (n / 256) (by omega)
        cases hl : encF k (n / 256) with
        | nil => rw [hl] at hb; exact absurd hb.symm h1
        | cons x l => rw [hl] at hc; exact canon_cons.2 (canon_cons.1 hc)
theorem bnat_encN (n : Nat) : bnat (encN n) = n := encF_bnat n n (Nat.le_refl n)
theorem canon_encN (n : Nat) : canon (encN n) := encF_canon n n (Nat.le_refl n)

theorem canon_len_lt {a b : List UInt8} (hb : canon b) (h : a.length < b.length) : bnat a < bnat b := by
  cases b with
  | nil => simp at h
  | cons x l =>
    have h1 := bnat_ge x l (canon_cons.1 hb)
    have h2 := bnat_lt a
    have h3 : 256 ^ a.length ≤ 256 ^ l.length := Nat.pow_le_pow_right (by omega) (by simp at h; omega)
    omega
theorem bnat_inj_len {a b : List UInt8} (hl : a.length = b.length) (h : bnat a = bnat b) : a = b := by
  induction a generalizing b with
  | nil => cases b with
    | nil => rfl
    | cons y m => simp at hl
  | cons x l ih => cases b with
    | nil => simp at hl
    | cons y m =>
      have hlm : l.length = m.length := by simpa using hl
      rw [bnat_cons, bnat_cons, hlm] at h
      have h1 := bnat_lt l
      have h2 := bnat_lt m
      rw [hlm] at h1
      have hp : 0 < 256 ^ m.length := Nat.pow_pos (by omega)
      have hx : x.toNat = y.toNat := by
        have e1 : (x.toNat * 256 ^ m.length + bnat l) / 256 ^ m.length = x.toNat := by
          rw [Nat.add_comm, Nat.add_mul_div_right _ _ hp, Nat.div_eq_of_lt h1]; omega
        have e2 : (y.toNat * 256 ^ m.length + bnat m) / 256 ^ m.length = y.toNat := by
          rw [Nat.add_comm, Nat.add_mul_div_right _ _ hp, Nat.div_eq_of_lt h2]; omega
        rw [← e1, h, e2]
      have hxy : x = y := UInt8.toNat_inj.1 hx
      subst hxy
      rw [ih hlm (by omega)]
theorem canon_inj {a b : List UInt8} (ha : canon a) (hb : canon b) (h : bnat a = bnat b) : a = b := by
  rcases Nat.lt_trichotomy a.length b.length with hl | hl | hl
  · have := canon_len_lt hb hl; omega
  · exact bnat_inj_len hl h
  · have := canon_len_lt ha hl; omega
theorem encN_bnat {l : List UInt8} (h : canon l) : encN (bnat l) = l := canon_inj (canon_encN _) h (bnat_encN _)
theorem encN_inj {a b : Nat} (h : encN a = encN b) : a = b := by rw [← bnat_encN a, h, bnat_encN]
theorem trimZ_eq (l : List UInt8) : trimZ l = encN (bnat l) := by rw [← bnat_trimZ, encN_bnat (trimZ_canon l)]
theorem encN_zero : encN 0 = [] := rfl
theorem encN_eq_nil {n : Nat} : encN n = [] ↔ n = 0 := ⟨fun h => by rw [← bnat_encN n, h]; rfl, fun h => by rw [h]; rfl⟩

/-- The length of the canonical list: less than 256^k means at most k bytes. -/
theorem encN_length_le {n k : Nat} : (encN n).length ≤ k ↔ n < 256 ^ k := by
  constructor
  · intro h
    have := bnat_lt (encN n)
    rw [bnat_encN] at this
    exact Nat.lt_of_lt_of_le this (Nat.pow_le_pow_right (by omega) h)
  · intro h
    cases hl : encN n with
    | nil => simp
    | cons x l =>
      have hc := canon_encN n
      rw [hl] at hc
      have h1 := bnat_ge x l (canon_cons.1 hc)
      rw [← hl, bnat_encN] at h1
      rcases Nat.lt_or_ge l.length k with h2 | h2
      · (simp only [List.length_cons]; omega)
      · have := Nat.pow_le_pow_right (show 0 < 256 by omega) h2
        omega
theorem encN_length_mono {m n : Nat} (h : m ≤ n) : (encN m).length ≤ (encN n).length :=
  encN_length_le.2 (Nat.lt_of_le_of_lt h (encN_length_le.1 (Nat.le_refl _)))

/-- Three-way comparison. -/
def cmpI (a b : Nat) : Int := if a < b then -1 else if b < a then 1 else 0

/-- The first difference of two lists of one length decides. -/
theorem bnat_lt_first {p a b : List UInt8} {x y : UInt8} (hl : a.length = b.length) (h : x.toNat < y.toNat) : bnat (p ++ x :: a) < bnat (p ++ y :: b) := by
  rw [bnat_append, bnat_append, bnat_cons, bnat_cons, List.length_cons, List.length_cons, hl]
  have h1 := bnat_lt a
  rw [hl] at h1
  have h2 : (x.toNat + 1) * 256 ^ b.length ≤ y.toNat * 256 ^ b.length := Nat.mul_le_mul_right _ h
  rw [Nat.succ_mul] at h2
  omega

theorem cmpI_lt {a b : Nat} (h : a < b) : cmpI a b = -1 := by simp [cmpI, h]
theorem cmpI_gt {a b : Nat} (h : b < a) : cmpI a b = 1 := by simp [cmpI, h]; omega
theorem cmpI_eq {a b : Nat} (h : a = b) : cmpI a b = 0 := by subst h; simp [cmpI]

/-- Shorter lists first, then by their numbers. -/
def ordL (a b : List UInt8) : Int := if a.length < b.length then -1 else if b.length < a.length then 1 else cmpI (bnat a) (bnat b)
theorem ordL_canon {a b : List UInt8} (ha : canon a) (hb : canon b) : ordL a b = cmpI (bnat a) (bnat b) := by
  unfold ordL
  split
  · rw [cmpI_lt (canon_len_lt hb ‹_›)]
  · split
    · rw [cmpI_gt (canon_len_lt ha ‹_›)]
    · rfl

/-- Two lists of one length that agree up to k and differ at k. -/
theorem ordL_first {a b : List UInt8} {k : Nat} (hl : a.length = b.length) (hk : k < a.length) (he : a.take k = b.take k) (h : (a.getD k 0).toNat < (b.getD k 0).toNat) :
    ordL a b = -1 ∧ ordL b a = 1 := by
  have ea : a = b.take k ++ a.getD k 0 :: a.drop (k + 1) := by
    rw [← he, List.getD_eq_getElem?_getD, List.getElem?_eq_getElem hk, Option.getD_some, List.getElem_cons_drop, List.take_append_drop]
  have eb : b = b.take k ++ b.getD k 0 :: b.drop (k + 1) := by
    rw [List.getD_eq_getElem?_getD, List.getElem?_eq_getElem (by omega), Option.getD_some, List.getElem_cons_drop, List.take_append_drop]
  have hlt : bnat a < bnat b := by
    have := bnat_lt_first (p := b.take k) (a := a.drop (k + 1)) (b := b.drop (k + 1)) (by simp [hl]) h
    rw [← ea, ← eb] at this
    exact this
  constructor
  · unfold ordL; rw [if_neg (by omega), if_neg (by omega), cmpI_lt hlt]
  · unfold ordL; rw [if_neg (by omega), if_neg (by omega), cmpI_gt hlt]
theorem ordL_same {a b : List UInt8} (h : a = b) : ordL a b = 0 := by subst h; simp [ordL, cmpI]

end Go.Proofs.Ytelhpdlegjgjjaa

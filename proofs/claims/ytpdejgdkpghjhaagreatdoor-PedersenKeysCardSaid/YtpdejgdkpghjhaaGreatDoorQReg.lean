/- SHA-256 on words of 32 bits and lists of bytes, as one plain function (shaL), and the code of a message (macL); the model's numbers as words (wi). No program stands here. -/
import Derived.Laws.BitsAllLaws
import Derived.OrdersHeld
import Derived.Tactics
namespace Go.Proofs.YtpdejgdkpghjhaaGreatDoor
/-- A word of 32 bits as the model's number. -/
def wi (x : BitVec 32) : Int := (x.toNat : Int)
theorem wi_xor (a b : BitVec 32) : bits .xor .u32 (wi a) (wi b) = wi (a ^^^ b) := by
  unfold wi; rw [u32_xor_nat _ _ a.isLt b.isLt, BitVec.toNat_xor]
theorem wi_and (a b : BitVec 32) : bits .and .u32 (wi a) (wi b) = wi (a &&& b) := by
  unfold wi; rw [u32_and_nat _ _ a.isLt b.isLt, BitVec.toNat_and]
theorem wi_or (a b : BitVec 32) : bits .or .u32 (wi a) (wi b) = wi (a ||| b) := by
  unfold wi; rw [u32_or_nat _ _ a.isLt b.isLt, BitVec.toNat_or]
theorem wi_not (a : BitVec 32) : bits .xor .u32 4294967295 (wi a) = wi (~~~ a) := by
  have : (4294967295 : Int) = wi (BitVec.allOnes 32) := rfl
  rw [this, wi_xor, BitVec.allOnes_xor]
theorem wi_add (a b : BitVec 32) : IntKind.u32.wrap (wi a + wi b) = wi (a + b) := by
  unfold wi; rw [IntKind.wrap_u32', BitVec.toNat_add]; omega
theorem wi_shr (a : BitVec 32) (n : Nat) : (wi a).fdiv (2 ^ n) = wi (a >>> n) := by
  unfold wi; rw [BitVec.toNat_ushiftRight, Nat.shiftRight_eq_div_pow]
  rw [Int.fdiv_eq_ediv_of_nonneg _ (Int.pow_nonneg (by decide))]; simp
theorem wi_shl (a : BitVec 32) (n : Nat) : IntKind.u32.wrap (wi a * 2 ^ n) = wi (a <<< n) := by
  unfold wi; rw [IntKind.wrap_u32', BitVec.toNat_shiftLeft, Nat.shiftLeft_eq]; simp

/-- The eight words of a state. -/
structure W8 where
  a : BitVec 32
  b : BitVec 32
  c : BitVec 32
  d : BitVec 32
  e : BitVec 32
  f : BitVec 32
  g : BitVec 32
  h : BitVec 32
/-- A word rotated to the right. -/
def rr (x : BitVec 32) (n : Nat) : BitVec 32 := x >>> n ||| x <<< (32 - n)
def sg0 (x : BitVec 32) : BitVec 32 := rr x 7 ^^^ rr x 18 ^^^ x >>> 3
def sg1 (x : BitVec 32) : BitVec 32 := rr x 17 ^^^ rr x 19 ^^^ x >>> 10
/-- The word of four bytes. -/
def wd (m : List UInt8) (i : Nat) : BitVec 32 := BitVec.ofNat 32 ((((m.getD (4 * i) 0).toNat * 256 + (m.getD (4 * i + 1) 0).toNat) * 256 + (m.getD (4 * i + 2) 0).toNat) * 256 + (m.getD (4 * i + 3) 0).toNat)
/-- The word that follows. -/
def wf (w : List (BitVec 32)) (n : Nat) : BitVec 32 := w.getD (n - 16) 0 + sg0 (w.getD (n - 15) 0) + w.getD (n - 7) 0 + sg1 (w.getD (n - 2) 0)
/-- The first words of a block's schedule. -/
def wl (m : List UInt8) : Nat → List (BitVec 32)
  | 0 => []
  | n + 1 => wl m n ++ [if n < 16 then wd m n else wf (wl m n) n]
theorem wl_length (m : List UInt8) (n : Nat) : (wl m n).length = n := by
  induction n with
  | zero => rfl
  | succ n ih => simp [wl, ih]
/-- The word of a schedule at a place. -/
def wv (m : List UInt8) (i : Nat) : BitVec 32 := (wl m (i + 1)).getD i 0
theorem wl_get (m : List UInt8) {n i : Nat} (h : i < n) : (wl m n).getD i 0 = wv m i := by
  induction n with
  | zero => omega
  | succ n ih =>
    rcases Nat.lt_or_ge i n with h1 | h1
    · rw [← ih h1, wl, List.getD_eq_getElem?_getD, List.getElem?_append_left (by rw [wl_length]; exact h1), ← List.getD_eq_getElem?_getD]
    · have : i = n := by omega
      subst this; rfl
theorem wv_eq (m : List UInt8) (i : Nat) : wv m i = if i < 16 then wd m i else wf (wl m i) i := by
  unfold wv; rw [wl, List.getD_eq_getElem?_getD, List.getElem?_append_right (by rw [wl_length]; exact Nat.le_refl _), wl_length, Nat.sub_self]; rfl
theorem wv_low (m : List UInt8) {i : Nat} (h : i < 16) : wv m i = wd m i := by rw [wv_eq, if_pos h]
theorem wv_high (m : List UInt8) {i : Nat} (h : 16 ≤ i) : wv m i = wv m (i - 16) + sg0 (wv m (i - 15)) + wv m (i - 7) + sg1 (wv m (i - 2)) := by
  rw [wv_eq, if_neg (by omega)]; unfold wf
  rw [wl_get m (by omega), wl_get m (by omega), wl_get m (by omega), wl_get m (by omega)]
/-- The constants of the rounds. -/
def kL : List Nat := [
  0x428a2f98, 0x71374491, 0xb5c0fbcf, 0xe9b5dba5, 0x3956c25b, 0x59f111f1, 0x923f82a4, 0xab1c5ed5,
  0xd807aa98, 0x12835b01, 0x243185be, 0x550c7dc3, 0x72be5d74, 0x80deb1fe, 0x9bdc06a7, 0xc19bf174,
  0xe49b69c1, 0xefbe4786, 0x0fc19dc6, 0x240ca1cc, 0x2de92c6f, 0x4a7484aa, 0x5cb0a9dc, 0x76f988da,
  0x983e5152, 0xa831c66d, 0xb00327c8, 0xbf597fc7, 0xc6e00bf3, 0xd5a79147, 0x06ca6351, 0x14292967,
  0x27b70a85, 0x2e1b2138, 0x4d2c6dfc, 0x53380d13, 0x650a7354, 0x766a0abb, 0x81c2c92e, 0x92722c85,
  0xa2bfe8a1, 0xa81a664b, 0xc24b8b70, 0xc76c51a3, 0xd192e819, 0xd6990624, 0xf40e3585, 0x106aa070,
  0x19a4c116, 0x1e376c08, 0x2748774c, 0x34b0bcb5, 0x391c0cb3, 0x4ed8aa4a, 0x5b9cca4f, 0x682e6ff3,
  0x748f82ee, 0x78a5636f, 0x84c87814, 0x8cc70208, 0x90befffa, 0xa4506ceb, 0xbef9a3f7, 0xc67178f2]
/-- The constant of a round. -/
def kv (i : Nat) : BitVec 32 := BitVec.ofNat 32 (kL.getD i 0)
/-- A round's first sum. -/
def tv (k w : BitVec 32) (s : W8) : BitVec 32 := s.h + (rr s.e 6 ^^^ rr s.e 11 ^^^ rr s.e 25) + (s.e &&& s.f ^^^ ~~~ s.e &&& s.g) + k + w
/-- A round's second sum. -/
def uv (s : W8) : BitVec 32 := (rr s.a 2 ^^^ rr s.a 13 ^^^ rr s.a 22) + (s.a &&& s.b ^^^ s.a &&& s.c ^^^ s.b &&& s.c)
/-- The state after a round. -/
def rd (k w : BitVec 32) (s : W8) : W8 := ⟨tv k w s + uv s, s.a, s.b, s.c, s.d + tv k w s, s.e, s.f, s.g⟩
/-- The state after the first rounds. -/
def rds (m : List UInt8) (s : W8) : Nat → W8
  | 0 => s
  | n + 1 => rd (kv n) (wv m n) (rds m s n)
/-- The sum of two states. -/
def W8.add (s t : W8) : W8 := ⟨s.a + t.a, s.b + t.b, s.c + t.c, s.d + t.d, s.e + t.e, s.f + t.f, s.g + t.g, s.h + t.h⟩
/-- The state after a block. -/
def blk (s : W8) (m : List UInt8) : W8 := (rds m s 64).add s
/-- The state at the beginning. -/
def st0 : W8 := ⟨BitVec.ofNat 32 0x6a09e667, BitVec.ofNat 32 0xbb67ae85, BitVec.ofNat 32 0x3c6ef372, BitVec.ofNat 32 0xa54ff53a, BitVec.ofNat 32 0x510e527f, BitVec.ofNat 32 0x9b05688c, BitVec.ofNat 32 0x1f83d9ab, BitVec.ofNat 32 0x5be0cd19⟩
/-- The state after some blocks. -/
def blks (s : W8) : Nat → List UInt8 → W8
  | 0, _ => s
  | n + 1, m => blks (blk s (m.take 64)) n (m.drop 64)
theorem blks_succ (s : W8) (n : Nat) (m : List UInt8) : blks s (n + 1) m = blk (blks s n m) ((m.drop (64 * n)).take 64) := by
  induction n generalizing s m with
  | zero => simp [blks]
  | succ n ih => rw [blks, ih, blks, List.drop_drop]; congr 3; omega
/-- A number of 64 bits as eight bytes. -/
def shE8 (n : Nat) : List UInt8 := [UInt8.ofNat (n / 2 ^ 56), UInt8.ofNat (n / 2 ^ 48), UInt8.ofNat (n / 2 ^ 40), UInt8.ofNat (n / 2 ^ 32), UInt8.ofNat (n / 2 ^ 24), UInt8.ofNat (n / 2 ^ 16), UInt8.ofNat (n / 2 ^ 8), UInt8.ofNat n]
/-- The zero bytes of the padding. -/
def zs (n : Nat) : Nat := (119 - n % 64) % 64
/-- The padded message. -/
def padL (l : List UInt8) : List UInt8 := l ++ [128] ++ List.replicate (zs l.length) 0 ++ shE8 (l.length * 8)
theorem padL_length (l : List UInt8) : (padL l).length = l.length + zs l.length + 9 := by simp [padL, shE8]; omega
theorem padL_mod (l : List UInt8) : (padL l).length % 64 = 0 := by rw [padL_length]; unfold zs; omega
/-- The four bytes of a word. -/
def wo (x : BitVec 32) : List UInt8 := [UInt8.ofNat (x.toNat / 2 ^ 24), UInt8.ofNat (x.toNat / 2 ^ 16), UInt8.ofNat (x.toNat / 2 ^ 8), UInt8.ofNat x.toNat]
/-- The words of a state. -/
def W8.ws (s : W8) : List (BitVec 32) := [s.a, s.b, s.c, s.d, s.e, s.f, s.g, s.h]
/-- The hash of a byte list. -/
def shaL (l : List UInt8) : List UInt8 := (blks st0 ((padL l).length / 64) (padL l)).ws.flatMap wo
theorem shaL_length (l : List UInt8) : (shaL l).length = 32 := by simp [shaL, W8.ws, wo]
/-- A key of 64 bytes, every byte xored with a number. -/
def xorL (k : List UInt8) (x : UInt8) : List UInt8 := (List.range 64).map fun i => k.getD i 0 ^^^ x
/-- The code of a message for a key. -/
def macL (k l : List UInt8) : List UInt8 :=
  let k := if 64 < k.length then shaL k else k
  shaL (xorL k 92 ++ shaL (xorL k 54 ++ l))
end Go.Proofs.YtpdejgdkpghjhaaGreatDoor
/- A region whose order is drawn: operations that yield the same in every world that meets S are taken first; S must be shown anew only as long as operation number k has not come up. -/
namespace Go.Proofs.YtpdejgdkpghjhaaGreatDoor

section
variable {P : Program} {ops : Array Oper} {Q : Exit → Act → World → Prop} {md : Region.Mode} {S : World → Prop} {k : Nat}

/-- What is listed has all that it waits for listed. -/
def Down (md : Region.Mode) (ops : Array Oper) (listed : Array Bool) : Prop :=
  listed.size = ops.size ∧ ∀ j o, ops[j]? = some o → listed.getD j false = true → ∀ e ∈ o.after, Region.binds md e = true → listed.getD e.on false = true
theorem getD_repl_false (n j : Nat) : (Array.replicate n false).getD j false = false := by
  rw [Array.getD_eq_getD_getElem?, Array.getElem?_replicate]
  split <;> rfl
theorem Down.start : Down md ops (Array.replicate ops.size false) := by
  refine ⟨Array.size_replicate, fun j o _ h => ?_⟩
  rw [getD_repl_false] at h
  cases h
theorem Down.beyond {listed : Array Bool} (h : Down md ops listed) {j : Nat} (hj : ops.size ≤ j) : listed.getD j false = false := by
  rw [Array.getD_eq_getD_getElem?, Array.getElem?_eq_none (by rw [h.1]; exact hj)]; rfl
theorem getD_agree {listed : Array Bool} {j : Nat} (h : listed.getD j true = false) : listed.getD j false = false := by
  rw [Array.getD_eq_getD_getElem?] at *
  cases e : listed[j]? with
  | none => rfl
  | some b => rw [e] at h; exact h
theorem getD_set_self {listed : Array Bool} {i : Nat} (h : listed.getD i true = false) : (listed.setIfInBounds i true).getD i false = true := by
  rw [Array.getD_eq_getD_getElem?] at *
  have hi : i < listed.size := by
    rcases Nat.lt_or_ge i listed.size with h' | h'
    · exact h'
    · rw [Array.getElem?_eq_none h'] at h; cases h
  rw [Array.getElem?_setIfInBounds_self]
  rw [if_pos hi]; rfl
theorem Down.set {listed : Array Bool} (h : Down md ops listed) {i : Nat} (hi : i ∈ Region.ready md ops listed) : Down md ops (listed.setIfInBounds i true) := by
  refine ⟨by rw [Array.size_setIfInBounds]; exact h.1, fun j o hj hl e he hb => ?_⟩
  by_cases hij : i = j
  · subst hij
    obtain ⟨_, o', ho', hall⟩ := mem_ready.1 hi
    rw [hj] at ho'
    cases ho'
    exact getD_set_true (hall e he hb)
  · rw [getD_set_ne false hij] at hl
    exact getD_set_true (h.2 j o hj hl e he hb)

/-- Operation k waits for operation i, by way of others or not. -/
def reachB (md : Region.Mode) (ops : Array Oper) : Nat → Nat → Nat → Bool
  | 0, _, _ => false
  | n + 1, k, i => match ops[k]? with
    | none => false
    | some o => o.after.any fun e => Region.binds md e && (e.on == i || reachB md ops n e.on i)
theorem reachB_spec {listed : Array Bool} (h : Down md ops listed) : ∀ (n k i : Nat), reachB md ops n k i = true → listed.getD k false = true → listed.getD i false = true
  | 0, _, _, hr, _ => by cases hr
  | n + 1, k, i, hr, hk => by
    unfold reachB at hr
    cases ho : ops[k]? with
    | none => rw [ho] at hr; cases hr
    | some o =>
      rw [ho] at hr
      simp only [Array.any_eq_true', Bool.and_eq_true, Bool.or_eq_true, beq_iff_eq] at hr
      obtain ⟨e, he, hb, h1 | h1⟩ := hr
      · rw [← h1]; exact h.2 k o ho hk e he hb
      · exact reachB_spec h n e.on i h1 (h.2 k o ho hk e he hb)

/-- Whatever order is picked from here on; S holds behind every operation that is carried out before number k has come up. -/
def wpAnyK (P : Program) (md : Region.Mode) (ops : Array Oper) (Q : Exit → Act → World → Prop) (k : Nat) (S : World → Prop) : Nat → Array Bool → Act → World → Prop
  | 0, listed, a, w => Region.ready md ops listed = [] ∧ Q .normal a w
  | fuel + 1, listed, a, w =>
    (Region.ready md ops listed = [] → Q .normal a w) ∧
    ∀ i ∈ Region.ready md ops listed, wpOp P ops Q i (fun a' w' => ((listed.setIfInBounds i true).getD k false = false → S w') ∧ wpAnyK P md ops Q k S fuel (listed.setIfInBounds i true) a' w') a w

theorem wpAny_of_K : ∀ (fuel : Nat) (listed : Array Bool) (a : Act) (w : World), wpAnyK P md ops Q k S fuel listed a w → wpAny P md ops Q fuel listed a w
  | 0, _, _, _, h => h
  | fuel + 1, _, _, _, h => ⟨h.1, fun i hi => wpOp_mono (fun a' w' h' => wpAny_of_K fuel _ a' w' h'.2) (h.2 i hi)⟩

theorem wpAnyK_first {i : Nat} {oi : Oper} {v : Value} {T : World → Prop} (hi : ops[i]? = some oi) (hsel : ∀ (j : Nat) (o : Oper) cs b, ops[j]? = some o → o.op ≠ .select cs b)
    (hT : ∀ (listed : Array Bool) (w : World), Down md ops listed → listed.getD i true = false → (listed.getD k false = false → S w) → T w) (hki : k ≠ i)
    (hQ : ∀ c a w, Q (.panic c) (a.put oi.dst v) w → Q (.panic c) a w) :
    ∀ (fuel : Nat) (listed : Array Bool) (a : Act) (w : World), Down md ops listed →
      (∀ j oj, ops[j]? = some oj → j ≠ i → listed.getD j true = false → (∀ e ∈ oj.after, Region.binds md e = true → e.on ≠ i) → oi.apart ops oj = true) →
      i ∈ Region.ready md ops listed → YieldsIf P ops T oi v a → (listed.getD k false = false → S w) →
      wpAnyK P md ops Q k S fuel (listed.setIfInBounds i true) (a.put oi.dst v) w → wpAnyK P md ops Q k S (fuel + 1) listed a w := by
  intro fuel
  induction fuel with
  | zero =>
    intro listed a w hD _ hr hy hS H
    refine ⟨fun h => (by rw [h] at hr; cases hr), fun j hj => ?_⟩
    have hTw := hT listed w hD (mem_ready.1 hr).1 hS
    by_cases hji : j = i
    · subst hji; exact hy.wpOp hi hTw ⟨fun h => hS (by rw [getD_set_ne false (Ne.symm hki)] at h; exact h), H⟩
    · have := ready_mono hj hji
      rw [H.1] at this
      cases this
  | succ fuel ih =>
    intro listed a w hD hfree hr hy hS H
    refine ⟨fun h => (by rw [h] at hr; cases hr), fun j hj => ?_⟩
    have hTw := hT listed w hD (mem_ready.1 hr).1 hS
    by_cases hji : j = i
    · subst hji; exact hy.wpOp hi hTw ⟨fun h => hS (by rw [getD_set_ne false (Ne.symm hki)] at h; exact h), H⟩
    · have h1 := H.2 j (ready_mono hj hji)
      obtain ⟨hjun, oj, hoj, hall⟩ := mem_ready.1 hj
      have hnot : ∀ e ∈ oj.after, Region.binds md e = true → e.on ≠ i := fun e he hb heq => by
        have h1 := hall e he hb
        have h0 := getD_agree (mem_ready.1 hr).1
        rw [heq, h0] at h1
        cases h1
      have h2 := wpOp_putIf hoj (hfree j oj hoj hji hjun hnot) (fun cs b => hsel i oi cs b hi) (fun cs b => hsel j oj cs b hoj) hQ hy h1
      have hfree' : ∀ m om, ops[m]? = some om → m ≠ i → (listed.setIfInBounds j true).getD m true = false →
          (∀ e ∈ om.after, Region.binds md e = true → e.on ≠ i) → oi.apart ops om = true := fun m om hm hmi hun hno => by
        refine hfree m om hm hmi ?_ hno
        by_cases hjm : j = m
        · subst hjm; exact hjun
        · rw [getD_set_ne true hjm] at hun; exact hun
      refine wpOp_mono (fun a' w' h3 => ?_) h2
      have hS' : (listed.setIfInBounds j true).getD k false = false → S w' := fun h => h3.2.1 (by
        rw [Array.setIfInBounds_comm _ _ (Ne.symm hji), getD_set_ne false (Ne.symm hki)]
        exact h)
      refine ⟨hS', ih (listed.setIfInBounds j true) a' w' (hD.set hj) hfree' (ready_mono hr (Ne.symm hji)) h3.1 hS' ?_⟩
      rw [Array.setIfInBounds_comm _ _ hji]
      exact h3.2.2

/-- What a step asks of number i: it may come up, and nobody who could come before it touches its temporaries. -/
def stepB (md : Region.Mode) (ops : Array Oper) (listed : Array Bool) (k i : Nat) : Bool :=
  Region.noSelect ops && Region.free md ops listed i && (Region.ready md ops listed).contains i && !(k == i)
theorem stepB_spec {listed : Array Bool} {i : Nat} (h : stepB md ops listed k i = true) : Region.noSelect ops = true ∧ Region.free md ops listed i = true ∧ i ∈ Region.ready md ops listed ∧ k ≠ i := by
  simp only [stepB, Bool.and_eq_true, Bool.not_eq_true', beq_eq_false_iff_ne, List.contains_iff_mem] at h
  exact ⟨h.1.1.1, h.1.1.2, h.1.2, h.2⟩

/-- Take number i first: it yields v in every world that meets S, and number k waits for it. -/
theorem wpAnyK_take {i : Nat} {oi : Oper} {v : Value} {fuel : Nat} {listed : Array Bool} {a : Act} {w : World} (hi : ops[i]? = some oi) (hst : stepB md ops listed k i = true) (hre : reachB md ops ops.size k i = true)
    (hQ : ∀ c a w, Q (.panic c) (a.put oi.dst v) w → Q (.panic c) a w) (hD : Down md ops listed) (hS : S w) (hy : YieldsIf P ops S oi v a)
    (h : Down md ops (listed.setIfInBounds i true) → wpAnyK P md ops Q k S fuel (listed.setIfInBounds i true) (a.put oi.dst v) w) : wpAnyK P md ops Q k S (fuel + 1) listed a w := by
  obtain ⟨hs, hf, hr', hki'⟩ := stepB_spec hst
  refine wpAnyK_first (T := S) hi (Region.noSelect_spec hs) (fun l w' hD' hl hS' => hS' ?_) hki' hQ fuel listed a w hD (Region.free_spec hi hf) hr' hy (fun _ => hS) (h (hD.set hr'))
  cases hk : l.getD k false with
  | false => rfl
  | true => rw [← getD_agree hl]; exact (reachB_spec hD' _ k i hre hk).symm
/-- Take number i first: it yields v in every world that meets S, which holds throughout. -/
theorem wpAnyK_takeS {i : Nat} {oi : Oper} {v : Value} {fuel : Nat} {listed : Array Bool} {a : Act} {w : World} (hi : ops[i]? = some oi) (hst : stepB md ops listed k i = true) (hre : decide (ops.size ≤ k) = true)
    (hQ : ∀ c a w, Q (.panic c) (a.put oi.dst v) w → Q (.panic c) a w) (hD : Down md ops listed) (hS : S w) (hy : YieldsIf P ops S oi v a)
    (h : Down md ops (listed.setIfInBounds i true) → wpAnyK P md ops Q k S fuel (listed.setIfInBounds i true) (a.put oi.dst v) w) : wpAnyK P md ops Q k S (fuel + 1) listed a w := by
  obtain ⟨hs, hf, hr', hki'⟩ := stepB_spec hst
  exact wpAnyK_first (T := S) hi (Region.noSelect_spec hs) (fun l w' hD' hl hS' => hS' (hD'.beyond (of_decide_eq_true hre))) hki' hQ fuel listed a w hD (Region.free_spec hi hf) hr' hy (fun _ => hS) (h (hD.set hr'))
/-- Take number i first: it yields v in whatever world. -/
theorem wpAnyK_pure {i : Nat} {oi : Oper} {v : Value} {fuel : Nat} {listed : Array Bool} {a : Act} {w : World} (hi : ops[i]? = some oi) (hst : stepB md ops listed k i = true)
    (hQ : ∀ c a w, Q (.panic c) (a.put oi.dst v) w → Q (.panic c) a w) (hD : Down md ops listed) (hS : S w) (hy : YieldsIf P ops (fun _ => True) oi v a)
    (h : Down md ops (listed.setIfInBounds i true) → wpAnyK P md ops Q k S fuel (listed.setIfInBounds i true) (a.put oi.dst v) w) : wpAnyK P md ops Q k S (fuel + 1) listed a w := by
  obtain ⟨hs, hf, hr', hki'⟩ := stepB_spec hst
  exact wpAnyK_first (T := fun _ => True) hi (Region.noSelect_spec hs) (fun _ _ _ _ _ => trivial) hki' hQ fuel listed a w hD (Region.free_spec hi hf) hr' hy (fun _ => hS) (h (hD.set hr'))
/-- The same behind number k. -/
theorem wpAnyK_pureT {i : Nat} {oi : Oper} {v : Value} {fuel : Nat} {listed : Array Bool} {a : Act} {w : World} (hi : ops[i]? = some oi) (hst : stepB md ops listed k i = true) (hk : listed.getD k false = true)
    (hQ : ∀ c a w, Q (.panic c) (a.put oi.dst v) w → Q (.panic c) a w) (hD : Down md ops listed) (hy : YieldsIf P ops (fun _ => True) oi v a)
    (h : Down md ops (listed.setIfInBounds i true) → wpAnyK P md ops Q k S fuel (listed.setIfInBounds i true) (a.put oi.dst v) w) : wpAnyK P md ops Q k S (fuel + 1) listed a w := by
  obtain ⟨hs, hf, hr', hki'⟩ := stepB_spec hst
  exact wpAnyK_first (T := fun _ => True) hi (Region.noSelect_spec hs) (fun _ _ _ _ _ => trivial) hki' hQ fuel listed a w hD (Region.free_spec hi hf) hr' hy (fun h0 => by rw [hk] at h0; cases h0) (h (hD.set hr'))

/-- A post that differs at the ordinary end alone. -/
theorem wp_other_end {o : Oper} {a : Act} {w : World} {K : Act → World → Prop} {Q' : Exit → Act → World → Prop} (hQ : ∀ c a w, Q' (.panic c) a w → Q (.panic c) a w) (hO : LetsOut Q' → LetsOut Q)
    (h : o.wp P a w K Q') : o.wp P a w K Q := by
  unfold Oper.wp at *
  generalize (execOp a.eval o).run P w = r at *
  cases r with
  | ok n w' =>
    cases n <;> simp only [Oper.upon] at h ⊢
    case value u => exact h
    case skip => exact h
    case defer d => exact h
    case enter f args =>
      refine Calls.mono h fun e w'' he => ?_
      cases e with
      | returned u => exact he
      | panicked c => exact hQ _ _ _ he
      | outgrown => exact hO he
    case row row args => exact h
  | halt x w' =>
    cases x <;> simp only [Oper.upon] at h ⊢
    case panic u => exact hQ _ _ _ h

/-- The post with another ordinary end. -/
def EndK (K : Act → World → Prop) (Q : Exit → Act → World → Prop) : Exit → Act → World → Prop
  | .normal, a, w => K a w
  | e, a, w => Q e a w

/-- What is owed at an operation that may come up, as a list of its own: behind it the rest; S is shown anew. -/
def StepK (P : Program) (md : Region.Mode) (ops : Array Oper) (Q : Exit → Act → World → Prop) (k : Nat) (S : World → Prop) (i : Nat) (oi : Oper) (fuel : Nat) (listed : Array Bool) (a : Act) (w : World) : Prop :=
  ∀ K : Act → World → Prop, (∀ a' w', S w' → (S w' → Down md ops (listed.setIfInBounds i true) → wpAnyK P md ops Q k S fuel (listed.setIfInBounds i true) a' w') → K a' w') → wpList P ops (EndK K Q) [oi] a w
theorem step_of {i : Nat} {oi : Oper} {fuel : Nat} {listed : Array Bool} {a : Act} {w : World} (hi' : i ∈ Region.ready md ops listed) (hi : ops[i]? = some oi) (hD : Down md ops listed) (R : World → Prop) (hR : ∀ w', R w' → (listed.setIfInBounds i true).getD k false = false → S w')
    (h : ∀ K : Act → World → Prop, (∀ a' w', R w' → (R w' → Down md ops (listed.setIfInBounds i true) → wpAnyK P md ops Q k S fuel (listed.setIfInBounds i true) a' w') → K a' w') → wpList P ops (EndK K Q) [oi] a w) :
    wpOp P ops Q i (fun a' w' => ((listed.setIfInBounds i true).getD k false = false → S w') ∧ wpAnyK P md ops Q k S fuel (listed.setIfInBounds i true) a' w') a w := by
  have h1 := h (fun a' w' => ((listed.setIfInBounds i true).getD k false = false → S w') ∧ wpAnyK P md ops Q k S fuel (listed.setIfInBounds i true) a' w') (fun a' w' hS hh => ⟨hR w' hS, hh hS (hD.set hi')⟩)
  have hO : LetsOut (EndK (fun a' w' => ((listed.setIfInBounds i true).getD k false = false → S w') ∧ wpAnyK P md ops Q k S fuel (listed.setIfInBounds i true) a' w') Q) → LetsOut Q := fun ⟨a', w', hh⟩ => ⟨a', w', hh⟩
  unfold wpList at h1
  unfold wpOp
  simp only [hi]
  split
  · rename_i hw
    rw [if_pos hw] at h1
    rcases h1 with h1 | ⟨h2, h3⟩
    · exact .inl (wp_other_end (fun _ _ _ hh => hh) hO h1)
    · exact .inr ⟨h2, hO h3⟩
  · rename_i hw
    rw [if_neg hw] at h1
    exact h1
/-- The one operation that may come up, as a list of its own: behind it the rest. -/
theorem wpAnyK_oneT {i : Nat} {oi : Oper} {fuel : Nat} {listed : Array Bool} {a : Act} {w : World} (hr : Region.ready md ops listed = [i]) (hi : ops[i]? = some oi) (hD : Down md ops listed) (hk : (listed.setIfInBounds i true).getD k false = true)
    (h : ∀ K : Act → World → Prop, (∀ a' w', (Down md ops (listed.setIfInBounds i true) → wpAnyK P md ops Q k S fuel (listed.setIfInBounds i true) a' w') → K a' w') → wpList P ops (EndK K Q) [oi] a w) : wpAnyK P md ops Q k S (fuel + 1) listed a w := by
  refine ⟨fun h0 => (by rw [hr] at h0; cases h0), fun j hj => ?_⟩
  have hi' : i ∈ Region.ready md ops listed := by rw [hr]; exact List.mem_singleton.2 rfl
  rw [hr] at hj
  obtain rfl := List.mem_singleton.1 hj
  exact step_of hi' hi hD (fun _ => True) (fun _ _ h0 => by rw [hk] at h0; cases h0) (fun K hK => h K fun a' w' hh => hK a' w' trivial fun _ => hh)
/-- The same ahead of number k: S is shown anew. -/
theorem wpAnyK_one {i : Nat} {oi : Oper} {fuel : Nat} {listed : Array Bool} {a : Act} {w : World} (hr : Region.ready md ops listed = [i]) (hi : ops[i]? = some oi) (hD : Down md ops listed)
    (h : ∀ K : Act → World → Prop, (∀ a' w', S w' → (S w' → Down md ops (listed.setIfInBounds i true) → wpAnyK P md ops Q k S fuel (listed.setIfInBounds i true) a' w') → K a' w') → wpList P ops (EndK K Q) [oi] a w) : wpAnyK P md ops Q k S (fuel + 1) listed a w := by
  refine ⟨fun h0 => (by rw [hr] at h0; cases h0), fun j hj => ?_⟩
  have hi' : i ∈ Region.ready md ops listed := by rw [hr]; exact List.mem_singleton.2 rfl
  rw [hr] at hj
  obtain rfl := List.mem_singleton.1 hj
  exact step_of hi' hi hD S (fun _ h _ => h) h
/-- Two may come up. -/
theorem wpAnyK_two {i i' : Nat} {oi oi' : Oper} {fuel : Nat} {listed : Array Bool} {a : Act} {w : World} (hr : Region.ready md ops listed = [i, i']) (hi : ops[i]? = some oi) (hi' : ops[i']? = some oi') (hD : Down md ops listed)
    (h : StepK P md ops Q k S i oi fuel listed a w) (h' : StepK P md ops Q k S i' oi' fuel listed a w) : wpAnyK P md ops Q k S (fuel + 1) listed a w := by
  refine ⟨fun h0 => (by rw [hr] at h0; cases h0), fun j hj => ?_⟩
  have hj' := hj
  rw [hr] at hj
  simp only [List.mem_cons, List.mem_nil_iff, or_false] at hj
  rcases hj with rfl | rfl
  · exact step_of hj' hi hD S (fun _ h _ => h) h
  · exact step_of hj' hi' hD S (fun _ h _ => h) h'

/-- All have come up. -/
theorem wpAnyK_done {listed : Array Bool} {a : Act} {w : World} (hr : Region.ready md ops listed = []) (h : Q .normal a w) :
    ∀ fuel, wpAnyK P md ops Q k S fuel listed a w
  | 0 => ⟨hr, h⟩
  | _ + 1 => ⟨fun _ => h, by rw [hr]; simp⟩

/-- The beginning. -/
theorem wp_region_K (k : Nat) (S : World → Prop) {id : Nat} {a : Act} {w : World} (hm : P.follows .mixedOrders = true)
    (h : Down .any ops (Array.replicate ops.size false) → wpAnyK P .any ops Q k S ops.size (Array.replicate ops.size false) a w.drew) : (Code.region id ops true).wp P Q a w :=
  wp_region_any hm (wpAny_of_K _ _ _ _ (h Down.start))
end
end Go.Proofs.YtpdejgdkpghjhaaGreatDoor

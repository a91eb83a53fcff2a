/- strconv.Itoa as the walks use it; the table it reads, in its variable. -/
import Derived.Test.YtndmjfkmnjejkaaGreatDoorQRowN
import Derived.Test.YtndmjfkmnjejkaaGreatDoorQShelf
import Derived.Lib.LaidTab
import Derived.Test.YtndmjfkmnjejkaaGreatDoorQOpQ
import Derived.Stop.LaidErr
import Derived.Deep.Slices
import Derived.MakeChecks
import Derived.Laws.BitsAllLaws
set_option linter.unusedVariables false
set_option linter.unusedSimpArgs false
namespace Go.Proofs.YtndmjfkmnjejkaaGreatDoor
open Go.RowKit Go.Lib
def T10 (w : World) : Prop := Lib.TabIs Tryz.prog w "internal/strconv.uint64pow10" .u64 Lib.pow10Tab
theorem T10.kept {B : Nat} {w w' : World} (h : T10 w) (hb : Below B w w') (hB : w.heap.size ≤ B) : T10 w' := by
  unfold T10 Lib.TabIs World.var? at *
  cases hg : Tryz.prog.globalNamed "internal/strconv.uint64pow10" with
  | none => rw [hg] at h; cases h
  | some g =>
    rw [hg] at h
    simp only [Option.bind_some] at h ⊢
    have hlt : g < w.heap.size := by
      rcases Nat.lt_or_ge g w.heap.size with a | a
      · exact a
      · rw [Array.getElem?_eq_none a] at h; cases h
    rw [hb.block g (Nat.lt_of_lt_of_le hlt hB)]
    exact h
theorem T10.next {w w' : World} (h : T10 w) (hb : Below w.heap.size w w') : T10 w' := h.kept hb (Nat.le_refl _)
theorem below_grown (w : World) (k : Nat) (os : Array Obj) : Below w.heap.size w (Go.Sort.grow (w.drewN k) os) :=
  ⟨rfl, rfl, rfl, by show w.heap.size ≤ (w.heap ++ os).size; rw [Array.size_append]; omega, fun j hj => by show (w.heap ++ os)[j]? = w.heap[j]?; rw [Array.getElem?_append_left hj]⟩
theorem itoa_digits (n : Nat) : Lib.itoa (n : Int) = Lib.decDigits n := by
  unfold Lib.itoa
  rw [if_neg (by omega), Int.toNat_natCast]
theorem sc_Itoa (n : Nat) (hn : n < 9223372036854775808) (w : World) (ht : T10 w) : Calls Tryz.prog 221 #[.int .i64 n] w (Ret (.string (bstr (Lib.decDigits n))) w) := by
  refine (Tryz.strconv_Itoa (n : Int) (by omega) (by omega) w ht).mono ?_
  rintro e w' ⟨rfl, k, os, rfl⟩
  rw [itoa_digits]
  exact ⟨rfl, below_grown w k os⟩
end Go.Proofs.YtndmjfkmnjejkaaGreatDoor
/- The arguments opened: a slice of numbers; the table of internal/strconv from the row's list. -/
set_option linter.unusedVariables false
set_option linter.unusedSimpArgs false
namespace Go.Proofs.YtndmjfkmnjejkaaGreatDoor
open Go.ChangeShapes Go.WideShapes Go.ChangeAt Go.Deep Go.Joins Go.RowKit
open Go.ChangeMaps (open_string shut_string)
theorem list_ofC {α : Type} {Q : Nat → α → Prop} : ∀ (n : Nat), (∀ i, i < n → ∃ e, Q i e) → ∃ l : List α, l.length = n ∧ ∀ k e, l[k]? = some e → Q k e
  | 0, _ => ⟨[], rfl, fun k e h => by simp at h⟩
  | n + 1, h => by
    obtain ⟨l, hl, hq⟩ := list_ofC n (fun i hi => h i (by omega))
    obtain ⟨e, he⟩ := h n (by omega)
    refine ⟨l ++ [e], by simp [hl], fun k e' hk => ?_⟩
    by_cases hkn : k < l.length
    · rw [List.getElem?_append_left hkn] at hk; exact hq k e' hk
    · rw [List.getElem?_append_right (by omega)] at hk
      have h0 : k - l.length = 0 := by
        rcases Nat.eq_zero_or_pos (k - l.length) with h0 | h0
        · exact h0
        · rw [List.getElem?_eq_none (by simp; omega)] at hk; cases hk
      rw [h0] at hk
      simp only [List.getElem?_cons_zero, Option.some.injEq] at hk
      subst hk
      rw [show k = n from by omega]
      exact he
section
variable {H : Type} {enc : TypeId × Value → H} {W : World} {sp : Nat → Bool} {held : Bool}
theorem open_natsC {fuel : Nat} {cs : List Value} {x : DataW H × List MemPlace} (h : DataW.trod enc Tryz.prog W 0 (fun _ => true) held fuel 29 cs = some x) : ∃ A n c l, cs = [.slice A n c] ∧ SlN W A n c l ∧ ∀ s ∈ l, s.size ≤ maxLen := by
  rcases open_slice Tryz.underlying29 h with ⟨rfl, _⟩ | ⟨ad, len, cap, m, n, D, Pl, rfl, hb, hl, hm, hmm, hx, hi⟩
  · exact ⟨none, 0, 0, [], rfl, ⟨rfl, Nat.le_refl _, Nat.zero_le _, 0, 0, fun h => absurd h (Nat.lt_irrefl _), fun k s h => by simp at h⟩, fun s h => by cases h⟩
  · have hC : Tryz.prog.cellsOf 22 = 1 := by kernel_rfl
    have hq : ∀ i, i < len → ∃ s : ByteArray, W.cell? (ad.add i) = some (.string s) ∧ s.size ≤ maxLen := fun i hi' => by
      obtain ⟨cs', hc, ht'⟩ := hi i (by rw [hmm]; simp; omega)
      obtain ⟨s, e, _, z⟩ := DataW.trod_string Tryz.underlying22 ht'
      rw [hC, Nat.mul_one] at hc
      obtain ⟨_, hcl, hat⟩ := World.cells?_some hc
      have := hat 0 (by omega)
      rw [e] at this
      exact ⟨s, by simpa [Addr.add] using this, z⟩
    obtain ⟨l, hll, hq⟩ := list_ofC len hq
    refine ⟨some ad, len, cap, l, rfl, ⟨hll, hl, by unfold maxLen at hm; exact hm, ?_⟩, fun s hs => ?_⟩
    · rcases Nat.eq_zero_or_pos len with h0 | h0
      · exact ⟨0, 0, fun h => by omega, fun k e hk => by have := (List.getElem?_eq_some_iff.1 hk).1; omega⟩
      · obtain ⟨b, off, spot⟩ := ad
        obtain ⟨e, he⟩ : ∃ e, l[0]? = some e := ⟨_, List.getElem?_eq_getElem (by omega)⟩
        have h1 := (hq 0 e he).1
        have hspot : spot = none := by simpa [Addr.add] using World.cell?_spot h1
        subst hspot
        refine ⟨b, off, fun _ => rfl, fun k e hk => ?_⟩
        have := (hq k e hk).1
        rw [addr_add] at this
        exact this
    · obtain ⟨k, hk⟩ := List.getElem?_of_mem hs
      exact (hq k s hk).2
end
theorem laid_pow : (Rows.laid_internal_strconv_uint64pow10 : DataW Unit) = Lib.tabData .u64 Lib.pow10Tab := by kernel_rfl
theorem t10_of {a b : String × DataW Unit} {W : World} {nm : String} (hnm : Tryz.prog.globalNamed nm = Tryz.prog.globalNamed "internal/strconv.uint64pow10") (h : laidMet Tryz.prog [a, b, (nm, Rows.laid_internal_strconv_uint64pow10)] W) : T10 W := by
  have h2 := laidMet.tail (laidMet.tail h)
  rw [laid_pow] at h2
  have hs : (Tryz.prog.globalNamed "internal/strconv.uint64pow10").isSome = true := by kernel_rfl
  obtain ⟨g, hg⟩ := Option.isSome_iff_exists.1 hs
  have h3 : Lib.TabIs Tryz.prog W nm .u64 Lib.pow10Tab := by
    refine Lib.tabIs_of_head (t := 254) (e := 87) (n := 20) (hnm.trans hg) ?_ Tryz.underlying254 Tryz.underlying87 (by kernel_rfl) (by kernel_rfl) h2
    have : g = (Tryz.prog.globalNamed "internal/strconv.uint64pow10").getD 0 := by rw [hg]; rfl
    rw [this]
    show _ = _
    kernel_rfl
  unfold T10 Lib.TabIs World.var? at *
  rw [← hnm]
  exact h3
end Go.Proofs.YtndmjfkmnjejkaaGreatDoor
/- SHA-256 on words of 32 bits and lists of bytes, as one plain function (shaL), and the code of a message (macL); the model's numbers as words (wi). No program stands here. -/
namespace Go.Proofs.YtndmjfkmnjejkaaGreatDoor
def wi (x : BitVec 32) : Int := (x.toNat : Int)
theorem wi_xor (a b : BitVec 32) : bits .xor .u32 (wi a) (wi b) = wi (a ^^^ b) := by
  unfold wi; rw [u32_xor_nat _ _ a.isLt b.isLt, BitVec.toNat_xor]
theorem wi_and (a b : BitVec 32) : bits .and .u32 (wi a) (wi b) = wi (a &&& b) := by
  unfold wi; rw [u32_and_nat _ _ a.isLt b.isLt, BitVec.toNat_and]
theorem wi_or (a b : BitVec 32) : bits .or .u32 (wi a) (wi b) = wi (a ||| b) := by
  unfold wi; rw [u32_or_nat _ _ a.isLt b.isLt, BitVec.toNat_or]
theorem wi_not (a : BitVec 32) : bits .xor .u32 4294967295 (wi a) = wi (~~~ a) := by
  have : (4294967295 : Int) = wi (BitVec.allOnes 32) := rfl
  rw [this, wi_xor, BitVec.allOnes_xor]
theorem wi_add (a b : BitVec 32) : IntKind.u32.wrap (wi a + wi b) = wi (a + b) := by
  unfold wi; rw [IntKind.wrap_u32', BitVec.toNat_add]; omega
theorem wi_shr (a : BitVec 32) (n : Nat) : (wi a).fdiv (2 ^ n) = wi (a >>> n) := by
  unfold wi; rw [BitVec.toNat_ushiftRight, Nat.shiftRight_eq_div_pow]
  rw [Int.fdiv_eq_ediv_of_nonneg _ (Int.pow_nonneg (by decide))]; simp
theorem wi_shl (a : BitVec 32) (n : Nat) : IntKind.u32.wrap (wi a * 2 ^ n) = wi (a <<< n) := by
  unfold wi; rw [IntKind.wrap_u32', BitVec.toNat_shiftLeft, Nat.shiftLeft_eq]; simp
structure W8 where
  a : BitVec 32
  b : BitVec 32
  c : BitVec 32
  d : BitVec 32
  e : BitVec 32
  f : BitVec 32
  g : BitVec 32
  h : BitVec 32
def rr (x : BitVec 32) (n : Nat) : BitVec 32 := x >>> n ||| x <<< (32 - n)
def sg0 (x : BitVec 32) : BitVec 32 := rr x 7 ^^^ rr x 18 ^^^ x >>> 3
def sg1 (x : BitVec 32) : BitVec 32 := rr x 17 ^^^ rr x 19 ^^^ x >>> 10
def wd (m : List UInt8) (i : Nat) : BitVec 32 := BitVec.ofNat 32 ((((m.getD (4 * i) 0).toNat * 256 + (m.getD (4 * i + 1) 0).toNat) * 256 + (m.getD (4 * i + 2) 0).toNat) * 256 + (m.getD (4 * i + 3) 0).toNat)
def wf (w : List (BitVec 32)) (n : Nat) : BitVec 32 := w.getD (n - 16) 0 + sg0 (w.getD (n - 15) 0) + w.getD (n - 7) 0 + sg1 (w.getD (n - 2) 0)
def wl (m : List UInt8) : Nat → List (BitVec 32)
  | 0 => []
  | n + 1 => wl m n ++ [if n < 16 then wd m n else wf (wl m n) n]
theorem wl_length (m : List UInt8) (n : Nat) : (wl m n).length = n := by
  induction n with
  | zero => rfl
  | succ n ih => simp [wl, ih]
def wv (m : List UInt8) (i : Nat) : BitVec 32 := (wl m (i + 1)).getD i 0
theorem wl_get (m : List UInt8) {n i : Nat} (h : i < n) : (wl m n).getD i 0 = wv m i := by
  induction n with
  | zero => omega
  | succ n ih =>
    rcases Nat.lt_or_ge i n with h1 | h1
    · rw [← ih h1, wl, List.getD_eq_getElem?_getD, List.getElem?_append_left (by rw [wl_length]; exact h1), ← List.getD_eq_getElem?_getD]
    · have : i = n := by omega
      subst this; rfl
theorem wv_eq (m : List UInt8) (i : Nat) : wv m i = if i < 16 then wd m i else wf (wl m i) i := by
  unfold wv; rw [wl, List.getD_eq_getElem?_getD, List.getElem?_append_right (by rw [wl_length]; exact Nat.le_refl _), wl_length, Nat.sub_self]; rfl
theorem wv_low (m : List UInt8) {i : Nat} (h : i < 16) : wv m i = wd m i := by rw [wv_eq, if_pos h]
theorem wv_high (m : List UInt8) {i : Nat} (h : 16 ≤ i) : wv m i = wv m (i - 16) + sg0 (wv m (i - 15)) + wv m (i - 7) + sg1 (wv m (i - 2)) := by
  rw [wv_eq, if_neg (by omega)]; unfold wf
  rw [wl_get m (by omega), wl_get m (by omega), wl_get m (by omega), wl_get m (by omega)]
def kL : List Nat := [
  0x428a2f98, 0x71374491, 0xb5c0fbcf, 0xe9b5dba5, 0x3956c25b, 0x59f111f1, 0x923f82a4, 0xab1c5ed5,
  0xd807aa98, 0x12835b01, 0x243185be, 0x550c7dc3, 0x72be5d74, 0x80deb1fe, 0x9bdc06a7, 0xc19bf174,
  0xe49b69c1, 0xefbe4786, 0x0fc19dc6, 0x240ca1cc, 0x2de92c6f, 0x4a7484aa, 0x5cb0a9dc, 0x76f988da,
  0x983e5152, 0xa831c66d, 0xb00327c8, 0xbf597fc7, 0xc6e00bf3, 0xd5a79147, 0x06ca6351, 0x14292967,
  0x27b70a85, 0x2e1b2138, 0x4d2c6dfc, 0x53380d13, 0x650a7354, 0x766a0abb, 0x81c2c92e, 0x92722c85,
  0xa2bfe8a1, 0xa81a664b, 0xc24b8b70, 0xc76c51a3, 0xd192e819, 0xd6990624, 0xf40e3585, 0x106aa070,
  0x19a4c116, 0x1e376c08, 0x2748774c, 0x34b0bcb5, 0x391c0cb3, 0x4ed8aa4a, 0x5b9cca4f, 0x682e6ff3,
  0x748f82ee, 0x78a5636f, 0x84c87814, 0x8cc70208, 0x90befffa, 0xa4506ceb, 0xbef9a3f7, 0xc67178f2]
def kv (i : Nat) : BitVec 32 := BitVec.ofNat 32 (kL.getD i 0)
def tv (k w : BitVec 32) (s : W8) : BitVec 32 := s.h + (rr s.e 6 ^^^ rr s.e 11 ^^^ rr s.e 25) + (s.e &&& s.f ^^^ ~~~ s.e &&& s.g) + k + w
def uv (s : W8) : BitVec 32 := (rr s.a 2 ^^^ rr s.a 13 ^^^ rr s.a 22) + (s.a &&& s.b ^^^ s.a &&& s.c ^^^ s.b &&& s.c)
def rd (k w : BitVec 32) (s : W8) : W8 := ⟨tv k w s + uv s, s.a, s.b, s.c, s.d + tv k w s, s.e, s.f, s.g⟩
def rds (m : List UInt8) (s : W8) : Nat → W8
  | 0 => s
  | n + 1 => rd (kv n) (wv m n) (rds m s n)
def W8.add (s t : W8) : W8 := ⟨s.a + t.a, s.b + t.b, s.c + t.c, s.d + t.d, s.e + t.e, s.f + t.f, s.g + t.g, s.h + t.h⟩
def blk (s : W8) (m : List UInt8) : W8 := (rds m s 64).add s
def st0 : W8 := ⟨BitVec.ofNat 32 0x6a09e667, BitVec.ofNat 32 0xbb67ae85, BitVec.ofNat 32 0x3c6ef372, BitVec.ofNat 32 0xa54ff53a, BitVec.ofNat 32 0x510e527f, BitVec.ofNat 32 0x9b05688c, BitVec.ofNat 32 0x1f83d9ab, BitVec.ofNat 32 0x5be0cd19⟩
def blks (s : W8) : Nat → List UInt8 → W8
  | 0, _ => s
  | n + 1, m => blks (blk s (m.take 64)) n (m.drop 64)
theorem blks_succ (s : W8) (n : Nat) (m : List UInt8) : blks s (n + 1) m = blk (blks s n m) ((m.drop (64 * n)).take 64) := by
  induction n generalizing s m with
  | zero => simp [blks]
  | succ n ih => rw [blks, ih, blks, List.drop_drop]; congr 3; omega
def shE8 (n : Nat) : List UInt8 := [UInt8.ofNat (n / 2 ^ 56), UInt8.ofNat (n / 2 ^ 48), UInt8.ofNat (n / 2 ^ 40), UInt8.ofNat (n / 2 ^ 32), UInt8.ofNat (n / 2 ^ 24), UInt8.ofNat (n / 2 ^ 16), UInt8.ofNat (n / 2 ^ 8), UInt8.ofNat n]
def zs (n : Nat) : Nat := (119 - n % 64) % 64
def padL (l : List UInt8) : List UInt8 := l ++ [128] ++ List.replicate (zs l.length) 0 ++ shE8 (l.length * 8)
theorem padL_length (l : List UInt8) : (padL l).length = l.length + zs l.length + 9 := by simp [padL, shE8]; omega
theorem padL_mod (l : List UInt8) : (padL l).length % 64 = 0 := by rw [padL_length]; unfold zs; omega
def wo (x : BitVec 32) : List UInt8 := [UInt8.ofNat (x.toNat / 2 ^ 24), UInt8.ofNat (x.toNat / 2 ^ 16), UInt8.ofNat (x.toNat / 2 ^ 8), UInt8.ofNat x.toNat]
def W8.ws (s : W8) : List (BitVec 32) := [s.a, s.b, s.c, s.d, s.e, s.f, s.g, s.h]
def shaL (l : List UInt8) : List UInt8 := (blks st0 ((padL l).length / 64) (padL l)).ws.flatMap wo
theorem shaL_length (l : List UInt8) : (shaL l).length = 32 := by simp [shaL, W8.ws, wo]
def xorL (k : List UInt8) (x : UInt8) : List UInt8 := (List.range 64).map fun i => k.getD i 0 ^^^ x
def macL (k l : List UInt8) : List UInt8 :=
  let k := if 64 < k.length then shaL k else k
  shaL (xorL k 92 ++ shaL (xorL k 54 ++ l))
end Go.Proofs.YtndmjfkmnjejkaaGreatDoor

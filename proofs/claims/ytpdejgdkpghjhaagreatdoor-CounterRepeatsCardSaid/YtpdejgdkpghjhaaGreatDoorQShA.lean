/- Walks: pedersen.Check and the reference's for orders that are too long. -/
import Derived.Test.YtpdejgdkpghjhaaGreatDoorQPeQ
import Derived.Laws.BitsAllLaws
set_option linter.unusedVariables false
set_option linter.unusedSimpArgs false
namespace Go.Proofs.YtpdejgdkpghjhaaGreatDoor
open Go.RowKit
theorem chkK_long {M O G H : ByteArray} (hf : kF M O G H = true) (hM : M.size ≤ 8) (h8 : ¬ O.size ≤ 8) : chkK M O = 13 := by
  unfold kF at hf
  simp only [Bool.and_eq_true] at hf
  have v1 := hf.1.1.1
  have v2 := hf.1.1.2
  have hm := num_small hM
  have ho : 18446744073709551616 ≤ num O := by
    rcases Nat.lt_or_ge (num O) 18446744073709551616 with h | h
    · rw [nS_num v2] at h8; exact absurd (nS_small_size h) h8
    · exact h
  unfold chkK
  rw [if_pos (by rw [v1, v2]; rfl)]
  unfold chkN
  rw [if_neg (by omega)]
  by_cases h1 : num M ≤ 1
  · rw [if_pos (.inl h1)]
  · rw [if_pos (.inr (.inr (by rw [Nat.mod_eq_of_lt (by omega)]; omega)))]
theorem ord_small {M O G H : ByteArray} (hM : M.size ≤ 8) (h : pkC M O G H = 0) : O.size ≤ 8 := by
  by_cases h8 : O.size ≤ 8
  · exact h8
  · unfold pkC at h
    cases hf : kF M O G H with
    | false => rw [if_pos hf] at h; cases h
    | true =>
      have := chkK_long hf hM h8
      rw [if_neg (by rw [hf]; decide), if_neg (by rw [this]; decide), this] at h
      cases h
set_option maxRecDepth 100000 in
set_option maxHeartbeats 2000000 in
theorem pk_CheckW (M O G H : ByteArray) (hM : M.size ≤ 8) (hO : O.size ≤ 100) (hG : G.size ≤ 1000) (hH : H.size ≤ 1000) (w : World) : Calls Tryz.prog 27 #[kV M O G H] w (Ret (.int .i64 (pkC M O G H)) w) := by
  by_cases h8 : O.size ≤ 8
  · exact pk_Check M O G H hM h8 hG hH w
  · have HF := Lib.hid (pk_formed M O G H (by omega) (by omega) hG hH)
    have HCK := Lib.hid (pw_CheckW M O hM hO)
    cases hf : kF M O G H with
    | false =>
      have HR := Lib.hid (show pkC M O G H = 3 from by unfold pkC; rw [if_pos hf])
      rw [hf] at HF
      rw [HR.out]
      unfold kV gV at *
      clear hf hM hO hG hH h8
      go_enter Tryz.func27, Tryz.ntmps27
      have hx0 := Bx4.new w (.string M) (.string O) (.string G) (.string H) 26
      have hb0 := (Below.refl w.heap.size w).alloc (Nat.le_refl _) (.cells #[.string M, .string O, .string G, .string H] 26)
      obtain ⟨W0, hW0⟩ : ∃ W, w.alloc (.cells #[.string M, .string O, .string G, .string H] 26) = W := ⟨_, rfl⟩
      rw [hW0] at hx0 hb0
      have HX0 := Lib.hid hx0
      have HB0 := Lib.hid hb0
      obtain ⟨c0, c1, c2, c3⟩ := hx0.cells
      clear hx0 hb0
      go_wp2_with fail
      try rw [hW0]
      clear hW0
      refine (HF.out _).mono ?_
      rintro ev w1 ⟨rfl, hb⟩
      have hx := HX0.out.next hb
      have HX1 := Lib.hid hx
      have HB1 := Lib.hid (HB0.out.trans (hb.mono HB0.out.size))
      clear hb c0 c1 c2 c3
      obtain ⟨c0, c1, c2, c3⟩ := hx.cells
      clear hx
      go_wp2
      go_ret
      exact ⟨rfl, HB1.out⟩
    | true =>
      have hck := chkK_long hf hM h8
      have HR := Lib.hid (show pkC M O G H = 13 from by unfold pkC; rw [if_neg (by rw [hf]; decide), if_neg (by rw [hck]; decide), hck])
      rw [hf] at HF
      rw [hck] at HCK
      rw [HR.out]
      unfold kV gV at *
      clear hf hM hO hG hH h8 hck
      go_enter Tryz.func27, Tryz.ntmps27
      have hx0 := Bx4.new w (.string M) (.string O) (.string G) (.string H) 26
      have hb0 := (Below.refl w.heap.size w).alloc (Nat.le_refl _) (.cells #[.string M, .string O, .string G, .string H] 26)
      obtain ⟨W0, hW0⟩ : ∃ W, w.alloc (.cells #[.string M, .string O, .string G, .string H] 26) = W := ⟨_, rfl⟩
      rw [hW0] at hx0 hb0
      have HX0 := Lib.hid hx0
      have HB0 := Lib.hid hb0
      obtain ⟨c0, c1, c2, c3⟩ := hx0.cells
      clear hx0 hb0
      go_wp2_with fail
      try rw [hW0]
      clear hW0
      refine (HF.out _).mono ?_
      rintro ev w1 ⟨rfl, hb⟩
      have hx := HX0.out.next hb
      have HX1 := Lib.hid hx
      have HB1 := Lib.hid (HB0.out.trans (hb.mono HB0.out.size))
      clear hb c0 c1 c2 c3
      obtain ⟨c0, c1, c2, c3⟩ := hx.cells
      clear hx
      go_wp2_with fail
      refine (HCK.out _).mono ?_
      rintro ev w2 ⟨rfl, hb⟩
      have hx := HX1.out.next hb
      have HX2 := Lib.hid hx
      have HB2 := Lib.hid (HB1.out.trans (hb.mono HB1.out.size))
      clear hb c0 c1 c2 c3
      obtain ⟨c0, c1, c2, c3⟩ := hx.cells
      clear hx
      go_wp2
      go_ret
      exact ⟨rfl, HB2.out⟩
end Go.Proofs.YtpdejgdkpghjhaaGreatDoor
/- SHA-256 on words of 32 bits and lists of bytes, as one plain function (shaL), and the code of a message (macL); the model's numbers as words (wi). No program stands here. -/
namespace Go.Proofs.YtpdejgdkpghjhaaGreatDoor
def wi (x : BitVec 32) : Int := (x.toNat : Int)
theorem wi_xor (a b : BitVec 32) : bits .xor .u32 (wi a) (wi b) = wi (a ^^^ b) := by
  unfold wi; rw [u32_xor_nat _ _ a.isLt b.isLt, BitVec.toNat_xor]
theorem wi_and (a b : BitVec 32) : bits .and .u32 (wi a) (wi b) = wi (a &&& b) := by
  unfold wi; rw [u32_and_nat _ _ a.isLt b.isLt, BitVec.toNat_and]
theorem wi_or (a b : BitVec 32) : bits .or .u32 (wi a) (wi b) = wi (a ||| b) := by
  unfold wi; rw [u32_or_nat _ _ a.isLt b.isLt, BitVec.toNat_or]
theorem wi_not (a : BitVec 32) : bits .xor .u32 4294967295 (wi a) = wi (~~~ a) := by
  have : (4294967295 : Int) = wi (BitVec.allOnes 32) := rfl
  rw [this, wi_xor, BitVec.allOnes_xor]
theorem wi_add (a b : BitVec 32) : IntKind.u32.wrap (wi a + wi b) = wi (a + b) := by
  unfold wi; rw [IntKind.wrap_u32', BitVec.toNat_add]; omega
theorem wi_shr (a : BitVec 32) (n : Nat) : (wi a).fdiv (2 ^ n) = wi (a >>> n) := by
  unfold wi; rw [BitVec.toNat_ushiftRight, Nat.shiftRight_eq_div_pow]
  rw [Int.fdiv_eq_ediv_of_nonneg _ (Int.pow_nonneg (by decide))]; simp
theorem wi_shl (a : BitVec 32) (n : Nat) : IntKind.u32.wrap (wi a * 2 ^ n) = wi (a <<< n) := by
  unfold wi; rw [IntKind.wrap_u32', BitVec.toNat_shiftLeft, Nat.shiftLeft_eq]; simp
structure W8 where
  a : BitVec 32
  b : BitVec 32
  c : BitVec 32
  d : BitVec 32
  e : BitVec 32
  f : BitVec 32
  g : BitVec 32
  h : BitVec 32
def rr (x : BitVec 32) (n : Nat) : BitVec 32 := x >>> n ||| x <<< (32 - n)
def sg0 (x : BitVec 32) : BitVec 32 := rr x 7 ^^^ rr x 18 ^^^ x >>> 3
def sg1 (x : BitVec 32) : BitVec 32 := rr x 17 ^^^ rr x 19 ^^^ x >>> 10
def wd (m : List UInt8) (i : Nat) : BitVec 32 := BitVec.ofNat 32 ((((m.getD (4 * i) 0).toNat * 256 + (m.getD (4 * i + 1) 0).toNat) * 256 + (m.getD (4 * i + 2) 0).toNat) * 256 + (m.getD (4 * i + 3) 0).toNat)
def wf (w : List (BitVec 32)) (n : Nat) : BitVec 32 := w.getD (n - 16) 0 + sg0 (w.getD (n - 15) 0) + w.getD (n - 7) 0 + sg1 (w.getD (n - 2) 0)
def wl (m : List UInt8) : Nat → List (BitVec 32)
  | 0 => []
  | n + 1 => wl m n ++ [if n < 16 then wd m n else wf (wl m n) n]
theorem wl_length (m : List UInt8) (n : Nat) : (wl m n).length = n := by
  induction n with
  | zero => rfl
  | succ n ih => simp [wl, ih]
def wv (m : List UInt8) (i : Nat) : BitVec 32 := (wl m (i + 1)).getD i 0
theorem wl_get (m : List UInt8) {n i : Nat} (h : i < n) : (wl m n).getD i 0 = wv m i := by
  induction n with
  | zero => omega
  | succ n ih =>
    rcases Nat.lt_or_ge i n with h1 | h1
    · rw [← ih h1, wl, List.getD_eq_getElem?_getD, List.getElem?_append_left (by rw [wl_length]; exact h1), ← List.getD_eq_getElem?_getD]
    · have : i = n := by omega
      subst this; rfl
theorem wv_eq (m : List UInt8) (i : Nat) : wv m i = if i < 16 then wd m i else wf (wl m i) i := by
  unfold wv; rw [wl, List.getD_eq_getElem?_getD, List.getElem?_append_right (by rw [wl_length]; exact Nat.le_refl _), wl_length, Nat.sub_self]; rfl
theorem wv_low (m : List UInt8) {i : Nat} (h : i < 16) : wv m i = wd m i := by rw [wv_eq, if_pos h]
theorem wv_high (m : List UInt8) {i : Nat} (h : 16 ≤ i) : wv m i = wv m (i - 16) + sg0 (wv m (i - 15)) + wv m (i - 7) + sg1 (wv m (i - 2)) := by
  rw [wv_eq, if_neg (by omega)]; unfold wf
  rw [wl_get m (by omega), wl_get m (by omega), wl_get m (by omega), wl_get m (by omega)]
def kL : List Nat := [
  0x428a2f98, 0x71374491, 0xb5c0fbcf, 0xe9b5dba5, 0x3956c25b, 0x59f111f1, 0x923f82a4, 0xab1c5ed5,
  0xd807aa98, 0x12835b01, 0x243185be, 0x550c7dc3, 0x72be5d74, 0x80deb1fe, 0x9bdc06a7, 0xc19bf174,
  0xe49b69c1, 0xefbe4786, 0x0fc19dc6, 0x240ca1cc, 0x2de92c6f, 0x4a7484aa, 0x5cb0a9dc, 0x76f988da,
  0x983e5152, 0xa831c66d, 0xb00327c8, 0xbf597fc7, 0xc6e00bf3, 0xd5a79147, 0x06ca6351, 0x14292967,
  0x27b70a85, 0x2e1b2138, 0x4d2c6dfc, 0x53380d13, 0x650a7354, 0x766a0abb, 0x81c2c92e, 0x92722c85,
  0xa2bfe8a1, 0xa81a664b, 0xc24b8b70, 0xc76c51a3, 0xd192e819, 0xd6990624, 0xf40e3585, 0x106aa070,
  0x19a4c116, 0x1e376c08, 0x2748774c, 0x34b0bcb5, 0x391c0cb3, 0x4ed8aa4a, 0x5b9cca4f, 0x682e6ff3,
  0x748f82ee, 0x78a5636f, 0x84c87814, 0x8cc70208, 0x90befffa, 0xa4506ceb, 0xbef9a3f7, 0xc67178f2]
def kv (i : Nat) : BitVec 32 := BitVec.ofNat 32 (kL.getD i 0)
def tv (k w : BitVec 32) (s : W8) : BitVec 32 := s.h + (rr s.e 6 ^^^ rr s.e 11 ^^^ rr s.e 25) + (s.e &&& s.f ^^^ ~~~ s.e &&& s.g) + k + w
def uv (s : W8) : BitVec 32 := (rr s.a 2 ^^^ rr s.a 13 ^^^ rr s.a 22) + (s.a &&& s.b ^^^ s.a &&& s.c ^^^ s.b &&& s.c)
def rd (k w : BitVec 32) (s : W8) : W8 := ⟨tv k w s + uv s, s.a, s.b, s.c, s.d + tv k w s, s.e, s.f, s.g⟩
def rds (m : List UInt8) (s : W8) : Nat → W8
  | 0 => s
  | n + 1 => rd (kv n) (wv m n) (rds m s n)
def W8.add (s t : W8) : W8 := ⟨s.a + t.a, s.b + t.b, s.c + t.c, s.d + t.d, s.e + t.e, s.f + t.f, s.g + t.g, s.h + t.h⟩
def blk (s : W8) (m : List UInt8) : W8 := (rds m s 64).add s
def st0 : W8 := ⟨BitVec.ofNat 32 0x6a09e667, BitVec.ofNat 32 0xbb67ae85, BitVec.ofNat 32 0x3c6ef372, BitVec.ofNat 32 0xa54ff53a, BitVec.ofNat 32 0x510e527f, BitVec.ofNat 32 0x9b05688c, BitVec.ofNat 32 0x1f83d9ab, BitVec.ofNat 32 0x5be0cd19⟩
def blks (s : W8) : Nat → List UInt8 → W8
  | 0, _ => s
  | n + 1, m => blks (blk s (m.take 64)) n (m.drop 64)
theorem blks_succ (s : W8) (n : Nat) (m : List UInt8) : blks s (n + 1) m = blk (blks s n m) ((m.drop (64 * n)).take 64) := by
  induction n generalizing s m with
  | zero => simp [blks]
  | succ n ih => rw [blks, ih, blks, List.drop_drop]; congr 3; omega
def shE8 (n : Nat) : List UInt8 := [UInt8.ofNat (n / 2 ^ 56), UInt8.ofNat (n / 2 ^ 48), UInt8.ofNat (n / 2 ^ 40), UInt8.ofNat (n / 2 ^ 32), UInt8.ofNat (n / 2 ^ 24), UInt8.ofNat (n / 2 ^ 16), UInt8.ofNat (n / 2 ^ 8), UInt8.ofNat n]
def zs (n : Nat) : Nat := (119 - n % 64) % 64
def padL (l : List UInt8) : List UInt8 := l ++ [128] ++ List.replicate (zs l.length) 0 ++ shE8 (l.length * 8)
theorem padL_length (l : List UInt8) : (padL l).length = l.length + zs l.length + 9 := by simp [padL, shE8]; omega
theorem padL_mod (l : List UInt8) : (padL l).length % 64 = 0 := by rw [padL_length]; unfold zs; omega
def wo (x : BitVec 32) : List UInt8 := [UInt8.ofNat (x.toNat / 2 ^ 24), UInt8.ofNat (x.toNat / 2 ^ 16), UInt8.ofNat (x.toNat / 2 ^ 8), UInt8.ofNat x.toNat]
def W8.ws (s : W8) : List (BitVec 32) := [s.a, s.b, s.c, s.d, s.e, s.f, s.g, s.h]
def shaL (l : List UInt8) : List UInt8 := (blks st0 ((padL l).length / 64) (padL l)).ws.flatMap wo
theorem shaL_length (l : List UInt8) : (shaL l).length = 32 := by simp [shaL, W8.ws, wo]
def xorL (k : List UInt8) (x : UInt8) : List UInt8 := (List.range 64).map fun i => k.getD i 0 ^^^ x
def macL (k l : List UInt8) : List UInt8 :=
  let k := if 64 < k.length then shaL k else k
  shaL (xorL k 92 ++ shaL (xorL k 54 ++ l))
end Go.Proofs.YtpdejgdkpghjhaaGreatDoor

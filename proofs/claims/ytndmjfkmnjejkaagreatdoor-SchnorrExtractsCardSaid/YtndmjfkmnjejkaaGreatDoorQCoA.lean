/- SHA-256 on words of 32 bits and lists of bytes, as one plain function (shaL), and the code of a message (macL); the model's numbers as words (wi). No program stands here. -/
import Derived.Laws.BitsAllLaws
import Derived.Test.YtndmjfkmnjejkaaGreatDoorQDig
import Derived.Test.YtndmjfkmnjejkaaGreatDoorQRowN
namespace Go.Proofs.YtndmjfkmnjejkaaGreatDoor
def wi (x : BitVec 32) : Int := (x.toNat : Int)
structure W8 where
  a : BitVec 32
  b : BitVec 32
  c : BitVec 32
  d : BitVec 32
  e : BitVec 32
  f : BitVec 32
  g : BitVec 32
  h : BitVec 32
def rr (x : BitVec 32) (n : Nat) : BitVec 32 := x >>> n ||| x <<< (32 - n)
def sg0 (x : BitVec 32) : BitVec 32 := rr x 7 ^^^ rr x 18 ^^^ x >>> 3
def sg1 (x : BitVec 32) : BitVec 32 := rr x 17 ^^^ rr x 19 ^^^ x >>> 10
def wd (m : List UInt8) (i : Nat) : BitVec 32 := BitVec.ofNat 32 ((((m.getD (4 * i) 0).toNat * 256 + (m.getD (4 * i + 1) 0).toNat) * 256 + (m.getD (4 * i + 2) 0).toNat) * 256 + (m.getD (4 * i + 3) 0).toNat)
def wf (w : List (BitVec 32)) (n : Nat) : BitVec 32 := w.getD (n - 16) 0 + sg0 (w.getD (n - 15) 0) + w.getD (n - 7) 0 + sg1 (w.getD (n - 2) 0)
def wl (m : List UInt8) : Nat → List (BitVec 32)
  | 0 => []
  | n + 1 => wl m n ++ [if n < 16 then wd m n else wf (wl m n) n]
def wv (m : List UInt8) (i : Nat) : BitVec 32 := (wl m (i + 1)).getD i 0
def kL : List Nat := [
  0x428a2f98, 0x71374491, 0xb5c0fbcf, 0xe9b5dba5, 0x3956c25b, 0x59f111f1, 0x923f82a4, 0xab1c5ed5,
  0xd807aa98, 0x12835b01, 0x243185be, 0x550c7dc3, 0x72be5d74, 0x80deb1fe, 0x9bdc06a7, 0xc19bf174,
  0xe49b69c1, 0xefbe4786, 0x0fc19dc6, 0x240ca1cc, 0x2de92c6f, 0x4a7484aa, 0x5cb0a9dc, 0x76f988da,
  0x983e5152, 0xa831c66d, 0xb00327c8, 0xbf597fc7, 0xc6e00bf3, 0xd5a79147, 0x06ca6351, 0x14292967,
  0x27b70a85, 0x2e1b2138, 0x4d2c6dfc, 0x53380d13, 0x650a7354, 0x766a0abb, 0x81c2c92e, 0x92722c85,
  0xa2bfe8a1, 0xa81a664b, 0xc24b8b70, 0xc76c51a3, 0xd192e819, 0xd6990624, 0xf40e3585, 0x106aa070,
  0x19a4c116, 0x1e376c08, 0x2748774c, 0x34b0bcb5, 0x391c0cb3, 0x4ed8aa4a, 0x5b9cca4f, 0x682e6ff3,
  0x748f82ee, 0x78a5636f, 0x84c87814, 0x8cc70208, 0x90befffa, 0xa4506ceb, 0xbef9a3f7, 0xc67178f2]
def kv (i : Nat) : BitVec 32 := BitVec.ofNat 32 (kL.getD i 0)
def tv (k w : BitVec 32) (s : W8) : BitVec 32 := s.h + (rr s.e 6 ^^^ rr s.e 11 ^^^ rr s.e 25) + (s.e &&& s.f ^^^ ~~~ s.e &&& s.g) + k + w
def uv (s : W8) : BitVec 32 := (rr s.a 2 ^^^ rr s.a 13 ^^^ rr s.a 22) + (s.a &&& s.b ^^^ s.a &&& s.c ^^^ s.b &&& s.c)
def rd (k w : BitVec 32) (s : W8) : W8 := ⟨tv k w s + uv s, s.a, s.b, s.c, s.d + tv k w s, s.e, s.f, s.g⟩
def rds (m : List UInt8) (s : W8) : Nat → W8
  | 0 => s
  | n + 1 => rd (kv n) (wv m n) (rds m s n)
def W8.add (s t : W8) : W8 := ⟨s.a + t.a, s.b + t.b, s.c + t.c, s.d + t.d, s.e + t.e, s.f + t.f, s.g + t.g, s.h + t.h⟩
def blk (s : W8) (m : List UInt8) : W8 := (rds m s 64).add s
def st0 : W8 := ⟨BitVec.ofNat 32 0x6a09e667, BitVec.ofNat 32 0xbb67ae85, BitVec.ofNat 32 0x3c6ef372, BitVec.ofNat 32 0xa54ff53a, BitVec.ofNat 32 0x510e527f, BitVec.ofNat 32 0x9b05688c, BitVec.ofNat 32 0x1f83d9ab, BitVec.ofNat 32 0x5be0cd19⟩
def blks (s : W8) : Nat → List UInt8 → W8
  | 0, _ => s
  | n + 1, m => blks (blk s (m.take 64)) n (m.drop 64)
def shE8 (n : Nat) : List UInt8 := [UInt8.ofNat (n / 2 ^ 56), UInt8.ofNat (n / 2 ^ 48), UInt8.ofNat (n / 2 ^ 40), UInt8.ofNat (n / 2 ^ 32), UInt8.ofNat (n / 2 ^ 24), UInt8.ofNat (n / 2 ^ 16), UInt8.ofNat (n / 2 ^ 8), UInt8.ofNat n]
def zs (n : Nat) : Nat := (119 - n % 64) % 64
def padL (l : List UInt8) : List UInt8 := l ++ [128] ++ List.replicate (zs l.length) 0 ++ shE8 (l.length * 8)
def wo (x : BitVec 32) : List UInt8 := [UInt8.ofNat (x.toNat / 2 ^ 24), UInt8.ofNat (x.toNat / 2 ^ 16), UInt8.ofNat (x.toNat / 2 ^ 8), UInt8.ofNat x.toNat]
def W8.ws (s : W8) : List (BitVec 32) := [s.a, s.b, s.c, s.d, s.e, s.f, s.g, s.h]
def shaL (l : List UInt8) : List UInt8 := (blks st0 ((padL l).length / 64) (padL l)).ws.flatMap wo
def xorL (k : List UInt8) (x : UInt8) : List UInt8 := (List.range 64).map fun i => k.getD i 0 ^^^ x
def macL (k l : List UInt8) : List UInt8 :=
  let k := if 64 < k.length then shaL k else k
  shaL (xorL k 92 ++ shaL (xorL k 54 ++ l))
end Go.Proofs.YtndmjfkmnjejkaaGreatDoor
/- Plain: tapes of coins; what a coin below a bound is. -/
set_option linter.unusedVariables false
set_option linter.unusedSimpArgs false
namespace Go.Proofs.YtndmjfkmnjejkaaGreatDoor
open Go.RowKit
def tpG (l : List ByteArray) (at_ : Int) : Bool := decide (0 ≤ at_) && decide (at_ ≤ 2147483647) && l.all nvalid
def nmL (at_ a b : Nat) : List UInt8 := Lib.decDigits at_ ++ [46] ++ Lib.decDigits a ++ [46] ++ Lib.decDigits b
def attN (s : List UInt8) (at_ a bits : Nat) : Nat := bnat ((macL s (nmL at_ a 0)).take ((bits + 7) / 8)) % 2 ^ bits
def drwF (f : Nat → Nat) (n : Nat) : Option Nat := ((List.range 256).find? (fun a => decide (f a < n))).map f
theorem drwF_lt {f : Nat → Nat} {n x : Nat} (h : drwF f n = some x) : x < n := by
  unfold drwF at h
  rw [Option.map_eq_some_iff] at h
  obtain ⟨a, ha, rfl⟩ := h
  exact of_decide_eq_true (List.find?_some (p := fun a => decide (f a < n)) ha)
def dwN (l : List ByteArray) (s : ByteArray) (at_ : Int) (n : Nat) : Nat × Int :=
  if at_ < l.length then (if num (l.getD at_.toNat ⟨#[]⟩) < n then (num (l.getD at_.toNat ⟨#[]⟩), 0) else (0, 2))
  else if s.toList.isEmpty = true ∨ at_ = 2147483647 then (0, 14)
  else match drwF (fun a => attN s.data.toList at_.toNat a (blen n)) n with
    | some x => (x, 0)
    | none => (0, 14)
def coN (l : List ByteArray) (s : ByteArray) (at_ : Int) (B : ByteArray) : Nat × Int :=
  if (tpG l at_ && nvalid B) = true then (if B.toList.isEmpty = true then (0, 11) else dwN l s at_ (num B)) else (0, 3)
theorem dwN_ok {l : List ByteArray} {s : ByteArray} {at_ : Int} {n : Nat} (h : (dwN l s at_ n).2 = 0) : (dwN l s at_ n).1 < n := by
  unfold dwN at *
  split
  · rename_i h1
    rw [if_pos h1] at h
    split
    · rename_i h2; exact h2
    · rename_i h2; rw [if_neg h2] at h; cases h
  · rename_i h1
    rw [if_neg h1] at h
    split
    · rename_i h2; rw [if_pos h2] at h; cases h
    · rename_i h2
      rw [if_neg h2] at h
      cases hd : drwF (fun a => attN s.data.toList at_.toNat a (blen n)) n with
      | none => rw [hd] at h; cases h
      | some x => exact drwF_lt hd
def tpN (e : Int) (l : List ByteArray) (s : ByteArray) (at_ : Int) : List ByteArray × ByteArray × Int := if e = 0 then (l, s, at_ + 1) else ([], ⟨#[]⟩, 0)
def RetC (r : Nat × Int) (t : List ByteArray × ByteArray × Int) (w : World) (e : Ending) (w' : World) : Prop :=
  ∃ A c, e = .returned (.tuple #[.string (nS r.1), .agg #[.slice A t.1.length c, .string t.2.1, .int .i64 t.2.2], .int .i64 r.2]) ∧ SlN w' A t.1.length c t.1 ∧ (∀ b o, A = some ⟨b, o, none⟩ → w.heap.size ≤ b) ∧ Below w.heap.size w w'
end Go.Proofs.YtndmjfkmnjejkaaGreatDoor

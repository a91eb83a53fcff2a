import Derived.Laws.BitsAllLaws
import Derived.Test.YtndmjfkmnjejkaaGreatDoorQOvr
import Derived.Test.YtndmjfkmnjejkaaGreatDoorQRowN
import Derived.Test.YtndmjfkmnjejkaaGreatDoorQNatA
import Derived.Test.YtndmjfkmnjejkaaGreatDoorQInB
import Derived.Test.YtndmjfkmnjejkaaGreatDoorQOpT
import Derived.Deep.Slices
namespace Go.Proofs.YtndmjfkmnjejkaaGreatDoor
def wi (x : BitVec 32) : Int := (x.toNat : Int)
theorem wi_xor (a b : BitVec 32) : bits .xor .u32 (wi a) (wi b) = wi (a ^^^ b) := by
 unfold wi; rw [u32_xor_nat _ _ a.isLt b.isLt, BitVec.toNat_xor]
theorem wi_and (a b : BitVec 32) : bits .and .u32 (wi a) (wi b) = wi (a &&& b) := by
 unfold wi; rw [u32_and_nat _ _ a.isLt b.isLt, BitVec.toNat_and]
theorem wi_or (a b : BitVec 32) : bits .or .u32 (wi a) (wi b) = wi (a ||| b) := by
 unfold wi; rw [u32_or_nat _ _ a.isLt b.isLt, BitVec.toNat_or]
theorem wi_not (a : BitVec 32) : bits .xor .u32 4294967295 (wi a) = wi (~~~ a) := by
 have : (4294967295 : Int) = wi (BitVec.allOnes 32) := rfl
 rw [this, wi_xor, BitVec.allOnes_xor]
theorem wi_add (a b : BitVec 32) : IntKind.u32.wrap (wi a + wi b) = wi (a + b) := by
 unfold wi; rw [IntKind.wrap_u32', BitVec.toNat_add]; omega
theorem wi_shr (a : BitVec 32) (n : Nat) : (wi a).fdiv (2 ^ n) = wi (a >>> n) := by
 unfold wi; rw [BitVec.toNat_ushiftRight, Nat.shiftRight_eq_div_pow]
 rw [Int.fdiv_eq_ediv_of_nonneg _ (Int.pow_nonneg (by decide))]; simp
theorem wi_shl (a : BitVec 32) (n : Nat) : IntKind.u32.wrap (wi a * 2 ^ n) = wi (a <<< n) := by
 unfold wi; rw [IntKind.wrap_u32', BitVec.toNat_shiftLeft, Nat.shiftLeft_eq]; simp
structure W8 where
 a : BitVec 32
 b : BitVec 32
 c : BitVec 32
 d : BitVec 32
 e : BitVec 32
 f : BitVec 32
 g : BitVec 32
 h : BitVec 32
def rr (x : BitVec 32) (n : Nat) : BitVec 32 := x >>> n ||| x <<< (32 - n)
def sg0 (x : BitVec 32) : BitVec 32 := rr x 7 ^^^ rr x 18 ^^^ x >>> 3
def sg1 (x : BitVec 32) : BitVec 32 := rr x 17 ^^^ rr x 19 ^^^ x >>> 10
def wd (m : List UInt8) (i : Nat) : BitVec 32 := BitVec.ofNat 32 ((((m.getD (4 * i) 0).toNat * 256 + (m.getD (4 * i + 1) 0).toNat) * 256 + (m.getD (4 * i + 2) 0).toNat) * 256 + (m.getD (4 * i + 3) 0).toNat)
def wf (w : List (BitVec 32)) (n : Nat) : BitVec 32 := w.getD (n - 16) 0 + sg0 (w.getD (n - 15) 0) + w.getD (n - 7) 0 + sg1 (w.getD (n - 2) 0)
def wl (m : List UInt8) : Nat → List (BitVec 32)
 | 0 => []
 | n + 1 => wl m n ++ [if n < 16 then wd m n else wf (wl m n) n]
theorem wl_length (m : List UInt8) (n : Nat) : (wl m n).length = n := by
 induction n with
 | zero => rfl
 | succ n ih => simp [wl, ih]
def wv (m : List UInt8) (i : Nat) : BitVec 32 := (wl m (i + 1)).getD i 0
theorem wl_get (m : List UInt8) {n i : Nat} (h : i < n) : (wl m n).getD i 0 = wv m i := by
 induction n with
 | zero => omega
 | succ n ih =>
  rcases Nat.lt_or_ge i n with h1 | h1
  · rw [← ih h1, wl, List.getD_eq_getElem?_getD, List.getElem?_append_left (by rw [wl_length]; exact h1), ← List.getD_eq_getElem?_getD]
  · have : i = n := by omega
    subst this; rfl
theorem wv_eq (m : List UInt8) (i : Nat) : wv m i = if i < 16 then wd m i else wf (wl m i) i := by
 unfold wv; rw [wl, List.getD_eq_getElem?_getD, List.getElem?_append_right (by rw [wl_length]; exact Nat.le_refl _), wl_length, Nat.sub_self]; rfl
theorem wv_low (m : List UInt8) {i : Nat} (h : i < 16) : wv m i = wd m i := by rw [wv_eq, if_pos h]
theorem wv_high (m : List UInt8) {i : Nat} (h : 16 ≤ i) : wv m i = wv m (i - 16) + sg0 (wv m (i - 15)) + wv m (i - 7) + sg1 (wv m (i - 2)) := by
 rw [wv_eq, if_neg (by omega)]; unfold wf
 rw [wl_get m (by omega), wl_get m (by omega), wl_get m (by omega), wl_get m (by omega)]
def kL : List Nat := [
 0x428a2f98, 0x71374491, 0xb5c0fbcf, 0xe9b5dba5, 0x3956c25b, 0x59f111f1, 0x923f82a4, 0xab1c5ed5,
 0xd807aa98, 0x12835b01, 0x243185be, 0x550c7dc3, 0x72be5d74, 0x80deb1fe, 0x9bdc06a7, 0xc19bf174,
 0xe49b69c1, 0xefbe4786, 0x0fc19dc6, 0x240ca1cc, 0x2de92c6f, 0x4a7484aa, 0x5cb0a9dc, 0x76f988da,
 0x983e5152, 0xa831c66d, 0xb00327c8, 0xbf597fc7, 0xc6e00bf3, 0xd5a79147, 0x06ca6351, 0x14292967,
 0x27b70a85, 0x2e1b2138, 0x4d2c6dfc, 0x53380d13, 0x650a7354, 0x766a0abb, 0x81c2c92e, 0x92722c85,
 0xa2bfe8a1, 0xa81a664b, 0xc24b8b70, 0xc76c51a3, 0xd192e819, 0xd6990624, 0xf40e3585, 0x106aa070,
 0x19a4c116, 0x1e376c08, 0x2748774c, 0x34b0bcb5, 0x391c0cb3, 0x4ed8aa4a, 0x5b9cca4f, 0x682e6ff3,
 0x748f82ee, 0x78a5636f, 0x84c87814, 0x8cc70208, 0x90befffa, 0xa4506ceb, 0xbef9a3f7, 0xc67178f2]
def kv (i : Nat) : BitVec 32 := BitVec.ofNat 32 (kL.getD i 0)
def tv (k w : BitVec 32) (s : W8) : BitVec 32 := s.h + (rr s.e 6 ^^^ rr s.e 11 ^^^ rr s.e 25) + (s.e &&& s.f ^^^ ~~~ s.e &&& s.g) + k + w
def uv (s : W8) : BitVec 32 := (rr s.a 2 ^^^ rr s.a 13 ^^^ rr s.a 22) + (s.a &&& s.b ^^^ s.a &&& s.c ^^^ s.b &&& s.c)
def rd (k w : BitVec 32) (s : W8) : W8 := ⟨tv k w s + uv s, s.a, s.b, s.c, s.d + tv k w s, s.e, s.f, s.g⟩
def rds (m : List UInt8) (s : W8) : Nat → W8
 | 0 => s
 | n + 1 => rd (kv n) (wv m n) (rds m s n)
def W8.add (s t : W8) : W8 := ⟨s.a + t.a, s.b + t.b, s.c + t.c, s.d + t.d, s.e + t.e, s.f + t.f, s.g + t.g, s.h + t.h⟩
def blk (s : W8) (m : List UInt8) : W8 := (rds m s 64).add s
def st0 : W8 := ⟨BitVec.ofNat 32 0x6a09e667, BitVec.ofNat 32 0xbb67ae85, BitVec.ofNat 32 0x3c6ef372, BitVec.ofNat 32 0xa54ff53a, BitVec.ofNat 32 0x510e527f, BitVec.ofNat 32 0x9b05688c, BitVec.ofNat 32 0x1f83d9ab, BitVec.ofNat 32 0x5be0cd19⟩
def blks (s : W8) : Nat → List UInt8 → W8
 | 0, _ => s
 | n + 1, m => blks (blk s (m.take 64)) n (m.drop 64)
theorem blks_succ (s : W8) (n : Nat) (m : List UInt8) : blks s (n + 1) m = blk (blks s n m) ((m.drop (64 * n)).take 64) := by
 induction n generalizing s m with
 | zero => simp [blks]
 | succ n ih => rw [blks, ih, blks, List.drop_drop]; congr 3; omega
def shE8 (n : Nat) : List UInt8 := [UInt8.ofNat (n / 2 ^ 56), UInt8.ofNat (n / 2 ^ 48), UInt8.ofNat (n / 2 ^ 40), UInt8.ofNat (n / 2 ^ 32), UInt8.ofNat (n / 2 ^ 24), UInt8.ofNat (n / 2 ^ 16), UInt8.ofNat (n / 2 ^ 8), UInt8.ofNat n]
def zs (n : Nat) : Nat := (119 - n % 64) % 64
def padL (l : List UInt8) : List UInt8 := l ++ [128] ++ List.replicate (zs l.length) 0 ++ shE8 (l.length * 8)
theorem padL_length (l : List UInt8) : (padL l).length = l.length + zs l.length + 9 := by simp [padL, shE8]; omega
theorem padL_mod (l : List UInt8) : (padL l).length % 64 = 0 := by rw [padL_length]; unfold zs; omega
def wo (x : BitVec 32) : List UInt8 := [UInt8.ofNat (x.toNat / 2 ^ 24), UInt8.ofNat (x.toNat / 2 ^ 16), UInt8.ofNat (x.toNat / 2 ^ 8), UInt8.ofNat x.toNat]
def W8.ws (s : W8) : List (BitVec 32) := [s.a, s.b, s.c, s.d, s.e, s.f, s.g, s.h]
def shaL (l : List UInt8) : List UInt8 := (blks st0 ((padL l).length / 64) (padL l)).ws.flatMap wo
theorem shaL_length (l : List UInt8) : (shaL l).length = 32 := by simp [shaL, W8.ws, wo]
def xorL (k : List UInt8) (x : UInt8) : List UInt8 := (List.range 64).map fun i => k.getD i 0 ^^^ x
def macL (k l : List UInt8) : List UInt8 :=
 let k := if 64 < k.length then shaL k else k
 shaL (xorL k 92 ++ shaL (xorL k 54 ++ l))
end Go.Proofs.YtndmjfkmnjejkaaGreatDoor
set_option linter.unusedVariables false
set_option linter.unusedSimpArgs false
namespace Go.Proofs.YtndmjfkmnjejkaaGreatDoor
open Go.RowKit
def tpG (l : List ByteArray) (at_ : Int) : Bool := decide (0 ≤ at_) && decide (at_ ≤ 2147483647) && l.all nvalid
def nmL (at_ a b : Nat) : List UInt8 := Lib.decDigits at_ ++ [46] ++ Lib.decDigits a ++ [46] ++ Lib.decDigits b
def attN (s : List UInt8) (at_ a bits : Nat) : Nat := bnat ((macL s (nmL at_ a 0)).take ((bits + 7) / 8)) % 2 ^ bits
def drwF (f : Nat → Nat) (n : Nat) : Option Nat := ((List.range 256).find? (fun a => decide (f a < n))).map f
theorem find_range {p : Nat → Bool} {k N : Nat} (hk : k < N) (h : ∀ j, j < k → p j = false) (hp : p k = true) : (List.range N).find? p = some k := by
 rw [List.find?_eq_some_iff_append]
 refine ⟨hp, List.range k, (List.range' (k + 1) (N - k - 1)), ?_, fun j hj => by simp [h j (List.mem_range.1 hj)]⟩
 rw [List.range_eq_range', List.range_eq_range', show k :: List.range' (k + 1) (N - k - 1) = List.range' k (N - k) from by rw [show N - k = (N - k - 1) + 1 from by omega, List.range'_succ]; simp]
 have := @List.range'_append 0 k (N - k) 1
 simp only [Nat.one_mul, Nat.zero_add] at this
 rw [this, show k + (N - k) = N from by omega]
theorem drwF_at {f : Nat → Nat} {n k : Nat} (hk : k < 256) (h : ∀ j, j < k → ¬ f j < n) (hp : f k < n) : drwF f n = some (f k) := by
 unfold drwF
 rw [find_range hk (fun j hj => decide_eq_false (h j hj)) (decide_eq_true hp)]
 rfl
theorem drwF_none {f : Nat → Nat} {n : Nat} (h : ∀ j, j < 256 → ¬ f j < n) : drwF f n = none := by
 unfold drwF
 rw [List.find?_eq_none.2 (fun j hj => by simpa using h j (List.mem_range.1 hj))]
 rfl
theorem drwF_lt {f : Nat → Nat} {n x : Nat} (h : drwF f n = some x) : x < n := by
 unfold drwF at h
 rw [Option.map_eq_some_iff] at h
 obtain ⟨a, ha, rfl⟩ := h
 exact of_decide_eq_true (List.find?_some (p := fun a => decide (f a < n)) ha)
def dwN (l : List ByteArray) (s : ByteArray) (at_ : Int) (n : Nat) : Nat × Int :=
 if at_ < l.length then (if num (l.getD at_.toNat ⟨#[]⟩) < n then (num (l.getD at_.toNat ⟨#[]⟩), 0) else (0, 2))
 else if s.toList.isEmpty = true ∨ at_ = 2147483647 then (0, 14)
 else match drwF (fun a => attN s.data.toList at_.toNat a (blen n)) n with
  | some x => (x, 0)
  | none => (0, 14)
def coN (l : List ByteArray) (s : ByteArray) (at_ : Int) (B : ByteArray) : Nat × Int :=
 if (tpG l at_ && nvalid B) = true then (if B.toList.isEmpty = true then (0, 11) else dwN l s at_ (num B)) else (0, 3)
theorem dwN_ok {l : List ByteArray} {s : ByteArray} {at_ : Int} {n : Nat} (h : (dwN l s at_ n).2 = 0) : (dwN l s at_ n).1 < n := by
 unfold dwN at *
 split
 · rename_i h1
   rw [if_pos h1] at h
   split
   · rename_i h2; exact h2
   · rename_i h2; rw [if_neg h2] at h; cases h
 · rename_i h1
   rw [if_neg h1] at h
   split
   · rename_i h2; rw [if_pos h2] at h; cases h
   · rename_i h2
     rw [if_neg h2] at h
     cases hd : drwF (fun a => attN s.data.toList at_.toNat a (blen n)) n with
     | none => rw [hd] at h; cases h
     | some x => exact drwF_lt hd
def tpN (e : Int) (l : List ByteArray) (s : ByteArray) (at_ : Int) : List ByteArray × ByteArray × Int := if e = 0 then (l, s, at_ + 1) else ([], ⟨#[]⟩, 0)
def RetC (r : Nat × Int) (t : List ByteArray × ByteArray × Int) (w : World) (e : Ending) (w' : World) : Prop :=
 ∃ A c, e = .returned (.tuple #[.string (nS r.1), .agg #[.slice A t.1.length c, .string t.2.1, .int .i64 t.2.2], .int .i64 r.2]) ∧ SlN w' A t.1.length c t.1 ∧ (∀ b o, A = some ⟨b, o, none⟩ → w.heap.size ≤ b) ∧ Below w.heap.size w w'
end Go.Proofs.YtndmjfkmnjejkaaGreatDoor
set_option linter.unusedVariables false
set_option linter.unusedSimpArgs false
namespace Go.Proofs.YtndmjfkmnjejkaaGreatDoor
set_option maxRecDepth 100000
set_option maxHeartbeats 1000000
open Go.RowKit
theorem any_takeC {l : List ByteArray} {p : ByteArray → Bool} (h : ∀ (i : Nat) y, l[i]? = some y → p y = false) : l.any p = false := by
 rw [List.any_eq_false]
 intro y hy
 obtain ⟨i, hi⟩ := List.getElem?_of_mem hy
 simp [h i y hi]
theorem any_atC {l : List ByteArray} {p : ByteArray → Bool} {i : Nat} {y : ByteArray} (hi : l[i]? = some y) (h : p y = true) : l.any p = true := by
 rw [List.any_eq_true]
 exact ⟨y, List.mem_of_getElem? hi, h⟩
def RetKC (b : Bool) (w : World) (e : Ending) (w' : World) : Prop := ∃ k : Int, e = .returned (.int .i64 k) ∧ decide (0 ≤ k) = b ∧ w = w'
def nonv (x : ByteArray) : Bool := !(nvalid x)
theorem co_good1 (x : ByteArray) (hx : x.size ≤ 9223372036854775807) (w : World) : Calls Tryz.prog 190 #[.string x] w (RetQ (.bool (nonv x)) w) := by
 have HV := Hq (nat_Valid x hx w)
 unfold nonv
 obtain ⟨b, hb⟩ : ∃ b, nvalid x = b := ⟨_, rfl⟩
 rw [hb] at HV ⊢
 clear hx hb
 go_enter Tryz.func190, Tryz.ntmps190
 go_wp2_with fail
 refine HV.out.mono ?_
 rintro e w1 ⟨rfl, rfl⟩
 go_wp2
 go_ret
 exact ⟨rfl, rfl⟩
theorem sl_IndexFuncC (l : List ByteArray) (A : Option Addr) (len cap : Nat) (w : World) (hs : SlN w A len cap l) (hp : ∀ x ∈ l, x.size ≤ 9223372036854775807) :
 Calls Tryz.prog 219 #[.slice A len cap, .func (.func 190) #[] #[]] w (RetKC (l.any nonv) w) := by
 have HS := Hq hs
 have HP := Hq hp
 have HLEN := Hq hs.1
 have hcap := hs.2.1
 have hcap2 := hs.2.2.1
 clear hs hp
 go_enter Tryz.func219, Tryz.ntmps219
 go_wp2
 go_loopw [8] (fun k wr => ∃ j : Nat, j ≤ len ∧ k = .int .i64 j ∧ (∀ (i : Nat) y, i < j → l[i]? = some y → nonv y = false) ∧ wr = w) (fun k _ => len - (intOf k).toNat)
 case atStart => exact ⟨0, Nat.zero_le _, rfl, fun i u h => absurd h (Nat.not_lt_zero _), rfl⟩
 case round =>
  obtain ⟨j, hj, rfl, hall, rfl⟩ := hrel
  have HALL := Hq hall
  clear hall
  by_cases hlt : j < len
  · obtain ⟨y, he⟩ : ∃ y, l[j]? = some y := ⟨_, List.getElem?_eq_getElem (by rw [HLEN.out]; exact hlt)⟩
    obtain ⟨b, o, rfl⟩ := HS.out.head (by omega)
    have e1 := HS.out.get? j he
    have HC := Hq (co_good1 y (HP.out y (List.mem_of_getElem? he)) wr)
    have HE := Hq he
    clear he
    go_wp2_with fail
    refine HC.out.mono ?_
    rintro e w1 ⟨rfl, rfl⟩
    cases hh : nonv y with
    | true =>
     have HM := Hq (any_atC HE.out hh)
     clear hh
     go_wp2
     go_ret
     exact ⟨j, rfl, by rw [HM.out]; exact decide_eq_true (by omega), rfl⟩
    | false =>
     have HA2 := Hq (show ∀ (i : Nat) y, i < j + 1 → l[i]? = some y → nonv y = false from fun i u hi hu => by
      rcases Nat.lt_or_ge i j with a | a
      · exact HALL.out i u a hu
      · obtain rfl : i = j := by omega
        rw [HE.out] at hu
        cases hu
        exact hh)
     clear hh
     go_wp2
     go_roundw
     case rel => exact ⟨j + 1, by omega, by go_num, HA2.out, trivial⟩
     case measure => simp [intOf]; omega
  · obtain rfl : j = len := by omega
    have HM := Hq (show l.any nonv = false from any_takeC (fun i y h => HALL.out i y (by have := (List.getElem?_eq_some_iff.1 h).1; have := HLEN.out; omega) h))
    clear hlt hj
    go_wp2
    go_ret
    exact ⟨-1, rfl, by rw [HM.out]; rfl, rfl⟩
theorem sl_ContainsFuncC (l : List ByteArray) (A : Option Addr) (len cap : Nat) (w : World) (hs : SlN w A len cap l) (hp : ∀ x ∈ l, x.size ≤ 9223372036854775807) :
 Calls Tryz.prog 189 #[.slice A len cap, .func (.func 190) #[] #[]] w (RetQ (.bool (l.any nonv)) w) := by
 have HC := Hq (sl_IndexFuncC l A len cap w hs hp)
 clear hs hp
 go_enter Tryz.func189, Tryz.ntmps189
 go_wp2_with fail
 refine HC.out.mono ?_
 rintro e w1 ⟨k, rfl, hk, rfl⟩
 have HK := Hq hk
 clear hk
 go_wp2
 go_ret
 exact ⟨by rw [← HK.out]; rfl, rfl⟩
theorem any_nonv (l : List ByteArray) : l.any nonv = !(l.all nvalid) := by
 unfold nonv
 rw [List.not_all_eq_any_not]
def tpV (A : Option Addr) (n c : Nat) (s : ByteArray) (at_ : Int) : Value := .agg #[.slice A n c, .string s, .int .i64 at_]
def tpC (A : Option Addr) (n c : Nat) (s : ByteArray) (at_ : Int) : Array Value := #[.slice A n c, .string s, .int .i64 at_]
def TB (W : World) (B : Nat) (A : Option Addr) (n c : Nat) (s : ByteArray) (at_ : Int) : Prop := W.heap[B]? = some (.cells (tpC A n c s at_) 31 (0, 0))
theorem TB.new (w : World) (A : Option Addr) (n c : Nat) (s : ByteArray) (at_ : Int) : TB (w.alloc (.cells #[.slice A n c, .string s, .int .i64 at_] 31)) w.heap.size A n c s at_ := heap_alloc_new _ _
theorem TB.nextT {W W' : World} {B : Nat} {A : Option Addr} {n c : Nat} {s : ByteArray} {at_ : Int} (h : TB W B A n c s at_) (hb : Below W.heap.size W W') : TB W' B A n c s at_ := (hb.block _ (block_lt h)).trans h
theorem TB.c {W : World} {B : Nat} {A : Option Addr} {n c : Nat} {s : ByteArray} {at_ : Int} (h : TB W B A n c s at_) : W.cell? ⟨B, 0, none⟩ = some (.slice A n c) ∧ W.cell? ⟨B, 1, none⟩ = some (.string s) ∧ W.cell? ⟨B, 2, none⟩ = some (.int .i64 at_) := by
 refine ⟨?_, ?_, ?_⟩ <;> rw [Lib.cell_of_heap h] <;> rfl
theorem TB.f {W : World} {B : Nat} {A : Option Addr} {n c : Nat} {s : ByteArray} {at_ : Int} (h : TB W B A n c s at_) (k : Nat) : W.frozen? ⟨B, k, none⟩ = false := Lib.frozen_of_heap h k
theorem TB.lt {W : World} {B : Nat} {A : Option Addr} {n c : Nat} {s : ByteArray} {at_ : Int} (h : TB W B A n c s at_) : B < W.heap.size := block_lt h
theorem co_good (l : List ByteArray) (s : ByteArray) (at_ : Int) (A : Option Addr) (n cap : Nat) (w : World) (hs : SlN w A n cap l) (hp : ∀ x ∈ l, x.size ≤ 9223372036854775807) :
 Calls Tryz.prog 143 #[tpV A n cap s at_] w (Ret (.bool (tpG l at_)) w) := by
 have hT := TB.new w A n cap s at_
 have hB := (Below.refl w.heap.size w).alloc (Nat.le_refl _) (.cells #[.slice A n cap, .string s, .int .i64 at_] 31)
 have HC := Hq (sl_ContainsFuncC l A n cap _ (hs.kept hB (Nat.le_refl _)) hp)
 rw [any_nonv] at HC
 have HB := Hq hB
 obtain ⟨c0, c1, c2⟩ := hT.c
 have HR := Hq (show tpG l at_ = (decide (0 ≤ at_) && decide (at_ ≤ 2147483647) && l.all nvalid) from rfl)
 obtain ⟨b, hb⟩ : ∃ b, l.all nvalid = b := ⟨_, rfl⟩
 rw [hb] at HC HR
 rw [HR.out]
 unfold tpV
 clear hT hB hs hp hb HR
 by_cases h0 : 0 ≤ at_
 · by_cases h1 : at_ ≤ 2147483647
   · rw [decide_eq_true h0, decide_eq_true h1, Bool.true_and, Bool.true_and]
     go_enter Tryz.func143, Tryz.ntmps143
     go_wp2_with fail
     refine HC.out.mono ?_
     rintro e w1 ⟨rfl, rfl⟩
     go_wp2
     go_ret
     exact ⟨rfl, HB.out⟩
   · rw [decide_eq_true h0, decide_eq_false h1, Bool.true_and, Bool.false_and]
     go_enter Tryz.func143, Tryz.ntmps143
     have h1' : decide (at_ ≤ 2147483647) = false := decide_eq_false h1
     go_wp2
     go_ret
     exact ⟨rfl, HB.out⟩
 · rw [decide_eq_false h0, Bool.false_and, Bool.false_and]
   go_enter Tryz.func143, Tryz.ntmps143
   have h0' : decide (0 ≤ at_) = false := decide_eq_false h0
   go_wp2
   go_ret
   exact ⟨rfl, HB.out⟩
def rdN (l : List ByteArray) (at_ : Int) (B : ByteArray) : Int := if (tpG l at_ && nvalid B) = true then (if B.toList.isEmpty = true then 11 else 0) else 3
theorem co_ready (l : List ByteArray) (s : ByteArray) (at_ : Int) (B : ByteArray) (A : Option Addr) (n cap : Nat) (w : World) (hs : SlN w A n cap l) (hp : ∀ x ∈ l, x.size ≤ 9223372036854775807) (hB : B.size ≤ 9223372036854775807) :
 Calls Tryz.prog 96 #[tpV A n cap s at_, .string B] w (Ret (.int .i64 (rdN l at_ B)) w) := by
 have hT := TB.new w A n cap s at_
 have hb0 := (Below.refl w.heap.size w).alloc (Nat.le_refl _) (.cells #[.slice A n cap, .string s, .int .i64 at_] 31)
 have HC := Hq (co_good l s at_ A n cap _ (hs.kept hb0 (Nat.le_refl _)) hp)
 have HV := Hq (nat_Valid B hB)
 have HB := Hq hb0
 obtain ⟨c0, c1, c2⟩ := hT.c
 have HR := Hq (show rdN l at_ B = if (tpG l at_ && nvalid B) = true then (if B.toList.isEmpty = true then 11 else 0) else 3 from rfl)
 obtain ⟨b1, hb1⟩ : ∃ b, tpG l at_ = b := ⟨_, rfl⟩
 obtain ⟨b2, hb2⟩ : ∃ b, nvalid B = b := ⟨_, rfl⟩
 obtain ⟨b3, hb3⟩ : ∃ b, B.toList.isEmpty = b := ⟨_, rfl⟩
 rw [hb1, hb2, hb3] at HR
 rw [hb1] at HC
 rw [hb2] at HV
 obtain ⟨R, hR⟩ : ∃ R, rdN l at_ B = R := ⟨_, rfl⟩
 rw [hR] at HR ⊢
 unfold tpV at *
 clear hT hb0 hs hp hb1 hb2 hB hR
 go_enter Tryz.func96, Tryz.ntmps96
 go_wp2_with fail
 refine HC.out.mono ?_
 rintro e w1 ⟨rfl, hb⟩
 have HB1 := Hq (HB.out.trans (hb.mono HB.out.size))
 clear hb c0 c1 c2
 cases b1 with
 | false =>
  clear hb3
  go_wp2
  go_ret
  exact ⟨by rw [HR.out]; rfl, HB1.out⟩
 | true =>
  go_wp2_with fail
  refine (HV.out _).mono ?_
  rintro e w2 ⟨rfl, rfl⟩
  cases b2 with
  | false =>
   clear hb3
   go_wp2
   go_ret
   exact ⟨by rw [HR.out]; rfl, HB1.out⟩
  | true =>
   cases b3 with
   | false =>
    go_wp2
    go_ret
    exact ⟨by rw [HR.out]; rfl, HB1.out⟩
   | true =>
    go_wp2
    go_ret
    exact ⟨by rw [HR.out]; rfl, HB1.out⟩
end Go.Proofs.YtndmjfkmnjejkaaGreatDoor
set_option linter.unusedVariables false
set_option linter.unusedSimpArgs false
namespace Go.Proofs.YtndmjfkmnjejkaaGreatDoor
set_option maxRecDepth 100000
open Go.ChangeShapes Go.WideShapes Go.ChangeAt Go.Deep Go.Joins Go.RowKit
open Go.ChangeMaps (open_string shut_string)
theorem array3T {α : Type} {cs : Array α} (h : cs.size = 3) : ∃ a b c, cs = #[a, b, c] := by
 obtain ⟨l⟩ := cs
 match l, h with
 | [a, b, c], _ => exact ⟨a, b, c, rfl⟩
section
variable {H : Type} {enc : TypeId × Value → H} {W : World} {sp : Nat → Bool} {held : Bool}
theorem open_tapeC {fuel : Nat} {c0 c1 c2 : Value} {x : DataW H × List MemPlace} (h : DataW.trod enc Tryz.prog W 0 (fun _ => true) held fuel 31 [c0, c1, c2] = some x) : ∃ (A : Option Addr) (n cap : Nat) (l : List ByteArray) (s : ByteArray) (k : Int), c0 = .slice A n cap ∧ c1 = .string s ∧ c2 = .int .i64 k ∧ SlN W A n cap l := by
 obtain ⟨n1, y1, g1⟩ := trod_at Tryz.underlying31 h 0 _ rfl 1 (by kernel_rfl)
 have g1 : DataW.trod enc Tryz.prog W 0 (fun _ => true) held n1 29 [c0] = some y1 := g1
 obtain ⟨n2, y2, g2⟩ := trod_at Tryz.underlying31 h 1 _ rfl 1 (by kernel_rfl)
 have g2 : DataW.trod enc Tryz.prog W 0 (fun _ => true) held n2 9 [c1] = some y2 := g2
 obtain ⟨n3, y3, g3⟩ := trod_at Tryz.underlying31 h 2 _ rfl 1 (by kernel_rfl)
 have g3 : DataW.trod enc Tryz.prog W 0 (fun _ => true) held n3 3 [c2] = some y3 := g3
 obtain ⟨A, n, cap, l, e0, hs, _⟩ := open_natsC g1
 obtain ⟨s, e1, _⟩ := DataW.trod_string Tryz.underlying9 g2
 obtain ⟨k, e2, _⟩ := DataW.trod_int Tryz.underlying3 g3
 simp only [List.cons.injEq, and_true] at e0 e1 e2
 exact ⟨A, n, cap, l, s, k, e0, e1, e2, hs⟩
theorem open_tape {r : Reach} {b0 : Nat} {v : Value} {d : DataW H} {p : List MemPlace} (hv : Value.okWide Tryz.prog W r b0 31 v) (h : DataW.Trod enc Tryz.prog W 0 (fun _ => true) held 31 v d p) : ∃ (A : Option Addr) (n cap : Nat) (l : List ByteArray) (s : ByteArray) (k : Int), v = tpV A n cap s k ∧ SlN W A n cap l := by
 obtain ⟨cs, rfl, hsz⟩ := okWide_struct Tryz.underlying31 hv
 obtain ⟨c0, c1, c2, rfl⟩ := array3T (hsz.trans (show Tryz.prog.cellsOf 31 = 3 from by kernel_rfl))
 obtain ⟨fuel, hf⟩ := h
 have hf : DataW.trod enc Tryz.prog W 0 (fun _ => true) held fuel 31 [c0, c1, c2] = some (d, p) := hf
 obtain ⟨A, n, cap, l, s, k, rfl, rfl, rfl, hs⟩ := open_tapeC hf
 exact ⟨A, n, cap, l, s, k, rfl, hs⟩
end
end Go.Proofs.YtndmjfkmnjejkaaGreatDoor

/- The table of internal/strconv in its variable; strconv.Itoa as the walks use it; dominoref49.decimal; plain values of a base. -/
import Derived.Test.YtpdejgdkpghjhaaGreatDoorQShA
import Derived.Test.YtpdejgdkpghjhaaGreatDoorQKnB
import Derived.Test.YtpdejgdkpghjhaaGreatDoorQRowN
import Derived.Test.YtpdejgdkpghjhaaGreatDoorQPeF
import Derived.Lib.LaidTab
set_option linter.unusedVariables false
set_option linter.unusedSimpArgs false
namespace Go.Proofs.YtpdejgdkpghjhaaGreatDoor
open Go.RowKit Go.Lib
def T10 (w : World) : Prop := Lib.TabIs Tryz.prog w "internal/strconv.uint64pow10" .u64 Lib.pow10Tab
theorem T10.kept {B : Nat} {w w' : World} (h : T10 w) (hb : Below B w w') (hB : w.heap.size ≤ B) : T10 w' := by
  unfold T10 Lib.TabIs World.var? at *
  cases hg : Tryz.prog.globalNamed "internal/strconv.uint64pow10" with
  | none => rw [hg] at h; cases h
  | some g =>
    rw [hg] at h
    simp only [Option.bind_some] at h ⊢
    have hlt : g < w.heap.size := by
      rcases Nat.lt_or_ge g w.heap.size with a | a
      · exact a
      · rw [Array.getElem?_eq_none a] at h; cases h
    rw [hb.block g (Nat.lt_of_lt_of_le hlt hB)]
    exact h
theorem T10.next {w w' : World} (h : T10 w) (hb : Below w.heap.size w w') : T10 w' := h.kept hb (Nat.le_refl _)
theorem below_grown (w : World) (k : Nat) (os : Array Obj) : Below w.heap.size w (Go.Sort.grow (w.drewN k) os) :=
  ⟨rfl, rfl, rfl, by show w.heap.size ≤ (w.heap ++ os).size; rw [Array.size_append]; omega, fun j hj => by show (w.heap ++ os)[j]? = w.heap[j]?; rw [Array.getElem?_append_left hj]⟩
theorem itoa_digits (n : Nat) : Lib.itoa (n : Int) = Lib.decDigits n := by
  unfold Lib.itoa
  rw [if_neg (by omega), Int.toNat_natCast]
theorem sc_Itoa (n : Nat) (hn : n < 9223372036854775808) (w : World) (ht : T10 w) : Calls Tryz.prog 73 #[.int .i64 n] w (Ret (.string (bstr (Lib.decDigits n))) w) := by
  refine (Tryz.strconv_Itoa (n : Int) (by omega) (by omega) w ht).mono ?_
  rintro e w' ⟨rfl, k, os, rfl⟩
  rw [itoa_digits]
  exact ⟨rfl, below_grown w k os⟩
def ctL (p : Nat) (l : List UInt8) : List UInt8 := [99, 111, 117, 110, 116, 46] ++ Lib.decDigits p ++ [46] ++ l
def bsP (M O : ByteArray) : Option Nat → Value
  | none => .tuple #[.string ⟨#[]⟩, .int .i64 13]
  | some b => if hasK M O (nS b) = true then .tuple #[.string (nS b), .int .i64 0] else .tuple #[.string ⟨#[]⟩, .int .i64 13]
def bsO (M O : ByteArray) (p : Nat) (l : List UInt8) : Value := bsP M O (hkN (num M) (num O) (ctL p l))
def bsR (M O G H : ByteArray) (l : List UInt8) (p c : Int) (more : List ByteArray) : Value :=
  if more.all nvalid = true then
    if pkC M O G H = 0 then
      if num O = 0 then .tuple #[.string ⟨#[]⟩, .int .i64 1]
      else if p < 0 ∨ c < 0 then .tuple #[.string ⟨#[]⟩, .int .i64 2] else bsO M O p.toNat l
    else .tuple #[.string ⟨#[]⟩, .int .i64 (pkC M O G H)]
  else .tuple #[.string ⟨#[]⟩, .int .i64 3]
theorem bsO_form (M O : ByteArray) (p : Nat) (l : List UInt8) : ∃ s e, bsO M O p l = .tuple #[.string s, .int .i64 e] := by
  unfold bsO
  cases hkN (num M) (num O) (ctL p l) with
  | none => exact ⟨_, _, rfl⟩
  | some b =>
    unfold bsP
    simp only []
    split
    · exact ⟨_, _, rfl⟩
    · exact ⟨_, _, rfl⟩
theorem bsR_form (M O G H : ByteArray) (l : List UInt8) (p c : Int) (more : List ByteArray) : ∃ s e, bsR M O G H l p c more = .tuple #[.string s, .int .i64 e] := by
  unfold bsR
  split
  · split
    · split
      · exact ⟨_, _, rfl⟩
      · split
        · exact ⟨_, _, rfl⟩
        · exact bsO_form _ _ _ _
    · exact ⟨_, _, rfl⟩
  · exact ⟨_, _, rfl⟩
theorem bs_add (p : Nat) (hp : p < 9223372036854775808) (l : List UInt8) (hl : l.length ≤ 10000) (P : Program) (w : World) :
    (Op.stringOp .add ⟨#[99, 111, 117, 110, 116, 46]⟩ (bstr (Lib.decDigits p))).run P w = .ok (.string (bstr ([99, 111, 117, 110, 116, 46] ++ Lib.decDigits p))) w ∧
    (Op.stringOp .add (bstr ([99, 111, 117, 110, 116, 46] ++ Lib.decDigits p)) ⟨#[46]⟩).run P w = .ok (.string (bstr ([99, 111, 117, 110, 116, 46] ++ Lib.decDigits p ++ [46]))) w ∧
    (Op.stringOp .add (bstr ([99, 111, 117, 110, 116, 46] ++ Lib.decDigits p ++ [46])) (bstr l)).run P w = .ok (.string (bstr (ctL p l))) w := by
  have hd := decDigits_len 18 p (by omega)
  refine ⟨lab_add [99, 111, 117, 110, 116, 46] _ (by simp; omega) P w, lab_add _ [46] (by simp; omega) P w, ?_⟩
  exact lab_add _ l (by simp; omega) P w
theorem ctL_size (p : Nat) (hp : p < 9223372036854775808) (l : List UInt8) (hl : l.length ≤ 10000) : (bstr (ctL p l)).size ≤ 100000 := by
  have hd := decDigits_len 18 p (by omega)
  rw [bstr_size]; unfold ctL; simp; omega
end Go.Proofs.YtpdejgdkpghjhaaGreatDoor
/- Walks: pedersen.Times of numbers whose products fit, pedersen.Shift of a canonical number. -/
set_option linter.unusedVariables false
set_option linter.unusedSimpArgs false
namespace Go.Proofs.YtpdejgdkpghjhaaGreatDoor
open Go.RowKit
def K4 (w W : World) (M O G H : ByteArray) (vb : Bool) (vt : ByteArray) (rb : Bool) (rt : ByteArray) (bb : Bool) (bt : ByteArray) : Prop :=
  KO w W M O G H vb vt rb rt ∧ Bx2 W (w.heap.size + 1 + 1) (.bool bb) (.string bt) 67 ∧ Bx4 W (w.heap.size + 1 + 1 + 1) (.bool false) (.string ⟨#[]⟩) (.bool false) (.string ⟨#[]⟩) 73
end Go.Proofs.YtpdejgdkpghjhaaGreatDoor

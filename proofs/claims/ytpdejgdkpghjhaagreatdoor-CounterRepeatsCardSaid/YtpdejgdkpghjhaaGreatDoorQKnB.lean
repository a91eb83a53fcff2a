/- Walks: pedersen.Commit, Opens and the reference's. -/
import Derived.Test.YtpdejgdkpghjhaaGreatDoorQPeQ
import Derived.Test.YtpdejgdkpghjhaaGreatDoorQLdA
import Derived.Test.YtpdejgdkpghjhaaGreatDoorQGst
import Derived.Test.YtpdejgdkpghjhaaGreatDoorQHaB
import Derived.Test.YtpdejgdkpghjhaaGreatDoorQNaE
import Derived.Test.YtpdejgdkpghjhaaGreatDoorQOvr
import Derived.Test.YtpdejgdkpghjhaaGreatDoorQPeD
set_option linter.unusedVariables false
set_option linter.unusedSimpArgs false
namespace Go.Proofs.YtpdejgdkpghjhaaGreatDoor
open Go.RowKit
def KO (w W : World) (M O G H : ByteArray) (vb : Bool) (vt : ByteArray) (rb : Bool) (rt : ByteArray) : Prop :=
  Bx4 W w.heap.size (.string M) (.string O) (.string G) (.string H) 26 ∧ Bx4 W (w.heap.size + 1) (.bool vb) (.string vt) (.bool rb) (.string rt) 73 ∧ Below w.heap.size w W
end Go.Proofs.YtpdejgdkpghjhaaGreatDoor
/- The key of a label as one plain function (nwR), and the walks of pedersen.New and dominoref14.New. -/
set_option linter.unusedVariables false
set_option linter.unusedSimpArgs false
namespace Go.Proofs.YtpdejgdkpghjhaaGreatDoor
open Go.RowKit Go.Lib
def hkN (m q : Nat) (l : List UInt8) : Option Nat := if (m - 1) % q = 0 then hsF m ((m - 1) / q) l 64 else none
theorem hsN_hk (m q : Nat) (l : List UInt8) : hsN m q l = hsO (hkN m q l) := by
  unfold hsN hkN
  split <;> rfl
def kz (e : Int) : Value := .tuple #[.agg #[.string ⟨#[]⟩, .string ⟨#[]⟩, .string ⟨#[]⟩, .string ⟨#[]⟩], .int .i64 e]
def nwL (l : List UInt8) (c : Nat) : List UInt8 := l ++ ([46, 72] ++ Lib.decDigits c)
def nwF (M O : ByteArray) (l : List UInt8) (a : Nat) : Nat → Value
  | 0 => kz 9
  | n + 1 => match hkN (num M) (num O) (nwL l (63 - n)) with
    | none => kz 13
    | some b => if b = a then nwF M O l a n else .tuple #[.agg #[.string M, .string O, .string (nS a), .string (nS b)], .int .i64 0]
def nwR (M O : ByteArray) (l : List UInt8) : Value :=
  if chkK M O = 0 then if num O = 0 then kz 1 else match hkN (num M) (num O) (l ++ [46, 71]) with
    | none => kz 13
    | some a => nwF M O l a 64
  else kz (chkK M O)
theorem lab_add (l m : List UInt8) (h : l.length + m.length ≤ 1000000) (P : Program) (w : World) : (Op.stringOp .add (bstr l) (bstr m)).run P w = .ok (.string (bstr (l ++ m))) w := by
  rw [run_string_add_sum w _ _ (by rw [bstr_size, bstr_size]; omega)]
  exact congrArg (fun x => Result.ok (Value.string x) w) (bstr_snoc l m)
theorem chkK_sizes {M O : ByteArray} (h : chkK M O = 0) (h0 : num O ≠ 0) : nvalid M = true ∧ nvalid O = true ∧ ¬ (num M = 0 ∨ num O = 0) := by
  unfold chkK at h
  split at h
  · rename_i hv
    simp only [Bool.and_eq_true] at hv
    refine ⟨hv.1, hv.2, fun h1 => ?_⟩
    rcases h1 with h1 | h1
    · unfold chkN at h
      rw [if_neg h0, if_pos (.inl (by omega))] at h
      cases h
    · exact h0 h1
  · cases h
end Go.Proofs.YtpdejgdkpghjhaaGreatDoor

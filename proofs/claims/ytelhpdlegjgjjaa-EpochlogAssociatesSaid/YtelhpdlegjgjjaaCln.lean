/- Walk: slices.Clone at lists of numbers. -/
import Derived.Test.YtelhpdlegjgjjaaRowN
import Derived.Lib.SliceRun
set_option linter.unusedVariables false
set_option linter.unusedSimpArgs false
namespace Go.Proofs.Ytelhpdlegjgjjaa
open Go.RowKit

set_option maxRecDepth 100000 in
set_option maxHeartbeats 1000000 in
theorem cl_nats (l : List ByteArray) (A : Option Addr) (len cap : Nat) (w : World) (hs : SlN w A len cap l) (hlb : len ≤ 1000000000000) : Calls Try.prog 66 #[.slice A len cap] w (RetRow 23 1 len (l.map Value.string) w) := by
  have hee := fun (w : World) (a : Option Addr) (n c : Nat) => Lib.run_eql_slice_nil (P := Try.prog) w 22 23 a n c 0 0 Try.underlying22
  cases A with
  | none =>
    have h0 : len = 0 := by
      rcases Nat.eq_zero_or_pos len with h | h
      · exact h
      · obtain ⟨b, o, e⟩ := hs.head h; cases e
    subst h0
    have hl : l = [] := List.length_eq_zero_iff.1 hs.1
    subst hl
    clear hs
    go_enter Try.func66, Try.ntmps66
    go_wp2
    go_ret
    exact ⟨_, rfl, World.ownsRow_nil _ _ _ _, Below.refl _ _⟩
  | some ad =>
    have hcells := hs.cells
    have HC := Lib.hid hcells
    have HV := Lib.hid (show (l.map Value.string).length = len * 1 from by rw [List.length_map, hs.1, Nat.mul_one])
    have HO := Lib.hid (strs_one l)
    obtain ⟨i0, hi, hz0, hz1, hz2⟩ := info_parts nat_info
    clear hs hcells
    go_enter Try.func66, Try.ntmps66
    go_wp2_with (at_builtin; refine wpList_append_own _ rfl (.tmp 5) (.tmp 6) 22 rfl w.heap.size 23 i0 _ 1 16 Try.underlying22 hi hz0 hz1 hz2 rfl (by decide) _ 0 [] rfl (World.ownsRow_made w _ _ (Nat.le_refl _) ?h0 ?h9) ad len cap (l.map Value.string) rfl ?h1 ?h2 HO.out ?h4 ?h5 ?h6 ?_)
    case h0 => unfold maxLen; omega
    case h9 => rfl
    case h1 => exact HV.out
    case h2 => exact fun j u hj => cell_kept (w := w) ((Below.refl _ _).alloc (Nat.le_refl _) _) (Nat.le_refl _) (HC.out j u hj)
    case h4 => unfold maxLen; omega
    case h5 => omega
    case h6 => simp
    intro v' w' hown hgrow _
    have hb : Below w.heap.size w w' := ((Below.refl _ _).alloc (Nat.le_refl _) _).grown hgrow (by simp) (fun k e => by simp only [Value.ownBlock, Option.some.injEq] at e; omega)
    have HOWN := Lib.hid hown
    have HB := Lib.hid hb
    clear hown hgrow hb
    go_wp2
    go_ret
    exact ⟨_, rfl, HOWN.out, HB.out⟩
end Go.Proofs.Ytelhpdlegjgjjaa

/- The table of math/bits from the row's list. -/
import Derived.Test.YtpdejgdkpghjhaaGreatDoorQCtP
import Derived.Test.YtpdejgdkpghjhaaGreatDoorQCtR
set_option linter.unusedVariables false
set_option linter.unusedSimpArgs false
namespace Go.Proofs.YtpdejgdkpghjhaaGreatDoor
open Go.ChangeShapes Go.WideShapes Go.ChangeAt Go.Deep Go.Joins Go.RowKit
open Go.ChangeMaps (open_string shut_string)
theorem laid_list : (Rows.laid_math_bits_deBruijn64tab : DataW Unit) = .agg (tzT.map fun (n : Nat) => .lit (.int .u8 (n : Int))) := by kernel_rfl
set_option maxRecDepth 100000 in
theorem tab_of {a c : String × DataW Unit} {W : World} {nm : String} (hnm : Tryz.prog.globalNamed nm = some 0) (h : laidMet Tryz.prog [a, (nm, Rows.laid_math_bits_deBruijn64tab), c] W) : TabAt W := by
  intro r hr
  have h := laidMet.tail h
  obtain ⟨ps, ⟨g, t, cs, fuel, p, q, hg, ht, hv, hd, _, _⟩, _⟩ := h
  obtain rfl : 0 = g := Option.some.inj (hnm.symm.trans hg)
  have et : some 218 = some t := by rw [← ht]; kernel_rfl
  cases et
  rw [laid_list] at hd
  obtain ⟨xs, m, _, ex, _, hl, hel⟩ := DataW.trod_array Tryz.underlying218 hd
  have c5 : Tryz.prog.cellsOf 5 = 1 := by kernel_rfl
  have hE := hel r hr
  rw [c5, Nat.mul_one, List.getElem?_eq_getElem (by omega)] at hE
  obtain ⟨z, e1, e2, _⟩ := DataW.trod_int Tryz.underlying5 hE
  have hlen : tzT.length = 64 := by kernel_rfl
  have e3 : (xs.map (·.1)) = tzT.map fun (n : Nat) => (.lit (.int .u8 (n : Int)) : DataW Unit) := (DataW.agg.inj (Prod.mk.inj ex).1).symm
  have e4 : (xs.map (·.1))[r]? = (tzT.map fun (n : Nat) => (.lit (.int .u8 (n : Int)) : DataW Unit))[r]? := by rw [e3]
  rw [List.getElem?_map, List.getElem?_map, List.getElem?_eq_getElem (by omega : r < xs.length), List.getElem?_eq_getElem (by omega : r < tzT.length), e2] at e4
  have hz : z = ((tzN r : Nat) : Int) := by
    simp only [Option.map_some, Option.some.injEq, DataW.lit.injEq, Lit.int.injEq, true_and] at e4
    unfold tzN
    rw [e4, List.getD, List.getElem?_eq_getElem (by omega : r < tzT.length)]; rfl
  rw [World.var?_cell hg hv r, ← hz]
  have : cs.toList[r]? = some (.int .u8 z) := by
    have h0 : ((cs.toList.drop r).take 1)[0]? = some (.int .u8 z) := by rw [e1]; rfl
    simpa using h0
  simpa using this
set_option maxRecDepth 100000 in
theorem open_u8 {H : Type} {enc : TypeId × Value → H} {W : World} {held : Bool} {r : Reach} {b0 : Nat} {v : Value} {d : DataW H} {p : List MemPlace} (hv : Value.okWide Tryz.prog W r b0 5 v) (h : DataW.Trod enc Tryz.prog W 0 (fun _ => true) held 5 v d p) : ∃ n : Nat, v = .int .u8 (n : Int) ∧ n ≤ 255 := by
  obtain ⟨z, rfl⟩ := okWide_int Tryz.underlying5 hv
  obtain ⟨fuel, hf⟩ := h
  obtain ⟨z2, e, _, w⟩ := DataW.trod_int Tryz.underlying5 hf
  have e : [Value.int .u8 z] = [Value.int .u8 z2] := e
  simp only [List.cons.injEq, Value.int.injEq, and_true, true_and] at e
  subst e
  have h1 : IntKind.u8.min = 0 := rfl
  have h2 : IntKind.u8.max = 255 := rfl
  simp [Lit.wf, h1, h2] at w
  exact ⟨z.toNat, by rw [Int.toNat_of_nonneg w.1], by omega⟩
end Go.Proofs.YtpdejgdkpghjhaaGreatDoor

/- PrimegroupLaws: for every group, any two numbers and any two integers the law returns true and leaves its argument as it was; the row lists the table of math/bits, which the card ties to the program's text. No other condition. -/
import Derived.Test.YtcbjadaghpmejaaDoorLwL
import Derived.Test.YtcbjadaghpmejaaDoorOp9
import Derived.Test.YtcbjadaghpmejaaDoorCards
import Derived.Test.YtcbjadaghpmejaaDoorTie
import Derived.SevenTiedAt
set_option linter.unusedVariables false
set_option linter.unusedSimpArgs false
namespace Go.Proofs.YtcbjadaghpmejaaDoor
open Go.ChangeShapes Go.WideShapes Go.ChangeAt Go.RowKit

section
variable {H : Type} {enc : TypeId × Value → H} {W : World} {sp : Nat → Bool} {held : Bool}
theorem str_of {n : Nat} {c : Value} {y : DataW H × List MemPlace} (h : DataW.trod enc Tryd.prog W 0 sp held n 22 [c] = some y) : ∃ s, c = .string s := by
  obtain ⟨s, e, _⟩ := DataW.trod_string Tryd.underlying22 h
  simp only [List.cons.injEq, and_true] at e
  exact ⟨s, e⟩
theorem bool_of {n : Nat} {c : Value} {y : DataW H × List MemPlace} (h : DataW.trod enc Tryd.prog W 0 sp held n 4 [c] = some y) : ∃ s, c = .bool s := by
  obtain ⟨s, e, _⟩ := DataW.trod_bool Tryd.underlying4 h
  simp only [List.cons.injEq, and_true] at e
  exact ⟨s, e⟩
set_option maxRecDepth 100000 in
theorem open_tw {r : Reach} {b0 : Nat} {v : Value} {d : DataW H} {p : List MemPlace} (hv : Value.okWide Tryd.prog W r b0 33 v) (h : DataW.Trod enc Tryd.prog W 0 sp held 33 v d p) : ∃ (M O a b : ByteArray) (dn : Bool) (ds : ByteArray) (en : Bool) (es : ByteArray), v = twV M O a b dn ds en es := by
  have cN : Tryd.prog.cellsOf 22 = 1 := by kernel_rfl
  have cB : Tryd.prog.cellsOf 4 = 1 := by kernel_rfl
  have cG : Tryd.prog.cellsOf 24 = 2 := by kernel_rfl
  have cI : Tryd.prog.cellsOf 31 = 2 := by kernel_rfl
  have cT : Tryd.prog.cellsOf 33 = 8 := by kernel_rfl
  obtain ⟨cs, rfl, hsz⟩ := okWide_struct Tryd.underlying33 hv
  rw [cT] at hsz
  obtain ⟨l⟩ := cs
  match l, hsz with
  | [c0, c1, c2, c3, c4, c5, c6, c7], _ =>
    obtain ⟨fuel, hf⟩ := h
    obtain ⟨ys, n, rfl, hx, hl, hn, hel⟩ := DataW.trod_struct Tryd.underlying33 hf
    match ys, hn with
    | [y0, y1, y2, y3, y4], _ =>
      have h0 := hel 0 _ rfl
      have h1 := hel 1 _ rfl
      have h2 := hel 2 _ rfl
      have h3 := hel 3 _ rfl
      have h4 := hel 4 _ rfl
      simp only [cN, cG, cI, Value.cells, List.drop_zero, List.drop_succ_cons, List.take_succ_cons, List.take_zero, List.getElem?_cons_zero, List.getElem?_cons_succ] at h0 h1 h2 h3 h4
      obtain ⟨x0, x1, m0, _, _, g0, g1⟩ := trod_struct2 Tryd.underlying24 h0
      obtain ⟨x2, x3, m1, _, _, g2, g3⟩ := trod_struct2 Tryd.underlying31 h3
      obtain ⟨x4, x5, m2, _, _, g4, g5⟩ := trod_struct2 Tryd.underlying31 h4
      simp only [cN, cB, List.drop_zero, List.drop_succ_cons, List.take_succ_cons, List.take_zero] at g0 g1 g2 g3 g4 g5
      obtain ⟨M, rfl⟩ := str_of g0
      obtain ⟨O, rfl⟩ := str_of g1
      obtain ⟨a, rfl⟩ := str_of h1
      obtain ⟨b, rfl⟩ := str_of h2
      obtain ⟨dn, rfl⟩ := bool_of g2
      obtain ⟨ds, rfl⟩ := str_of g3
      obtain ⟨en, rfl⟩ := bool_of g4
      obtain ⟨es, rfl⟩ := str_of g5
      exact ⟨M, O, a, b, dn, ds, en, es, rfl⟩
end
/-- What the row lists. -/
noncomputable def laidL : List (String × DataW Unit) := Rows.primegroupLawsRow.laid
set_option maxRecDepth 100000 in
theorem door_met9 (os : Os) (args : Array Value) : laidMetH Tryd.prog laidL ((World.doorLaid Tryd.prog 400 os).forCall (fun _ _ => 0) ⟨#[], args, []⟩).memory :=
  laidMetH_of_parts3 (fuel := 8) (laidMet_of_run' 8 (by kernel_rfl) (by kernel_rfl)) (by kernel_rfl) (by kernel_rfl)
set_option maxRecDepth 100000 in
theorem laws_lifted (os : Os) (started : os.Started) (H : Type) (enc : TypeId × Value → H) :
    ReturnsInHanded {} Tryd.checked os 4 .any (fun w args => (Rows.primegroupLawsSpec.pre enc Tryd.prog Tryd.f4 [] false w args ∧ laidMetH Tryd.prog laidL w) ∧ sizedMet enc Tryd.prog Tryd.f4 (OpenSpec.ofChange Rows.primegroupLawsSpec) false w args)
      (Rows.primegroupLawsSpec.post enc Tryd.prog Tryd.f4 false true false false) := by
  refine returnsInHanded_of_change_and (C := Tryd.checked) (X := fun w _ => laidMetH Tryd.prog laidL w) (fun _ _ _ hh h => h.of_heap hh) own9 started (by kernel_rfl) Tryd.func4
    (ChangeSpec.witness_shaped (enc := enc) (C := Tryd.checked) (os := os) (X := fun w _ => laidMetH Tryd.prog laidL w) false (World.doorLaid Tryd.prog 400 os) #[.agg #[.string ⟨#[]⟩, .string ⟨#[]⟩, .string ⟨#[]⟩, .string ⟨#[]⟩, .bool false, .string ⟨#[]⟩, .bool false, .string ⟨#[]⟩]] 8 rfl (World.shaped_of_RefB (by kernel_rfl) (by kernel_rfl)) (by kernel_rfl) (by kernel_rfl) (by kernel_rfl) (door_met9 os _)) ?_
  intro W base args ds gs before hval0 hW _ _ _ _
  have hval : ∀ (j : Nat) t v, Tryd.f4.params[j]? = some t → args[j]? = some v → Value.okWide Tryd.prog W .any base t v := hval0
  have hW' := hW
  obtain ⟨p, q, hA0, hV, rfl, hfz, hnd⟩ := hW
  have hA : DataW.TrodAll enc Tryd.prog W 0 (fun _ => true) true Tryd.f4.params.toList args.toList ds p := hA0
  rw [Tryd.params4] at hA hval
  obtain ⟨v0, vs0, d0, ds0, p0, q0, hargs, rfl, rfl, h0, r0⟩ := trodAll_cons hA
  obtain ⟨rfl, rfl, rfl⟩ := trodAll_nil r0
  obtain rfl : args = #[v0] := by cases args; simp_all
  obtain ⟨rfl, rfl⟩ := trodVars_none hV
  have k0 := h0
  have lt0 : ∀ x ∈ p0, x.block < W.heap.size := by obtain ⟨m, hm⟩ := k0; exact DataW.trod_lt m _ _ _ hm
  obtain ⟨M, O, a, b, dn, ds, en, es, rfl⟩ := open_tw (hval 0 33 v0 rfl rfl) h0
  clear hA0 hval0
  refine (walk_laws M O a b dn ds en es W).mono fun e W' ⟨he, bel⟩ => ?_
  subst he
  exact ⟨_, rfl, _, _, _, [], _, [], hW', trodAll_mk1 (shut_bool Tryd.underlying4 _), (trodAll_cons_mk (Below.trod laidOut9 (by kernel_rfl) (of_decide_eq_true (by kernel_rfl)) k0 bel lt0) trodAll_mk0), rfl, bel.frame _, fun h => by cases h⟩

theorem laws_row : Rows.PrimegroupLawsSaid :=
  OpenClaim.holds_of_wide 4 Tryd.f4 rfl rfl rfl rfl rfl rfl rfl ⟨rfl, rfl, rfl, rfl, rfl⟩ rfl rfl rfl rfl rfl (by kernel_rfl) Tryd.func4 (by kernel_rfl)
    (of_decide_eq_true (by kernel_rfl)) (by unfold Func.isWrapper; first | (rw [if_pos (by decide +kernel)]; kernel_rfl) | (rw [if_neg (by decide +kernel)]; exact ⟨rfl, rfl⟩))
    (fun os started H enc _ => laws_lifted os started H enc)

/-- The given statement. -/
theorem laws_proved : Rows.PrimegroupLawsCardSaid :=
  Claim7.holds_tied_plain_at .later [] [.data] true Rows.primegroupLawsCard.stood.harness false
    laws_row (fun _ h => by cases h) (by kernel_rfl) (fun _ h => by cases h) primegroupLaws_row_tie rfl ⟨rfl, rfl⟩ (by kernel_rfl) rfl
    (fun f fn hf hfn => by
      obtain rfl : f = 4 := Option.some.inj ((show Tryd.prog.funcNamed Rows.primegroupLawsRow.func = some 4 by kernel_rfl).symm.trans hf) |>.symm
      obtain rfl : fn = Tryd.f4 := (Option.some.inj (Tryd.func4.symm.trans hfn)).symm
      exact ⟨by kernel_rfl, fun j t ht => by
        rw [Tryd.params4] at ht
        have hm : t ∈ [33] := by simpa using Array.mem_of_getElem? ht
        have hall : ([33].all fun u => !Tryd.prog.wantsStandIn u) = true := by kernel_rfl
        exact (show Tryd.prog.wantsStandIn t = false by simpa using List.all_eq_true.1 hall t hm)⟩)
    (by kernel_rfl)
#print axioms laws_proved
end Go.Proofs.YtcbjadaghpmejaaDoor

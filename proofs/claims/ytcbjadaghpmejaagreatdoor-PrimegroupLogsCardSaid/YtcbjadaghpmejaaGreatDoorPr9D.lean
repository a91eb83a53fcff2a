/- PrimegroupLogs: for every group, any two numbers and any bound the law returns true and leaves its arguments as they were; the row lists the table of math/bits, which the card ties to the program's text. No other condition. -/
import Derived.Test.YtcbjadaghpmejaaGreatDoorLg9
import Derived.Test.YtcbjadaghpmejaaGreatDoorOp9
import Derived.Test.YtcbjadaghpmejaaGreatDoorCards
import Derived.Test.YtcbjadaghpmejaaGreatDoorTie
import Derived.SevenTiedAt
set_option linter.unusedVariables false
namespace Go.Proofs.YtcbjadaghpmejaaGreatDoor
open Go.ChangeShapes Go.WideShapes Go.ChangeAt Go.RowKit Go.Joins

theorem walk_logs (M O g x : ByteArray) (most : Int) (w : World) : Calls Tryz.prog 6 #[gV M O, .agg #[.string g, .string x], .int .i64 most] w (Ret (.bool true) w) := by
  cases hf : few9 M O [g, x] with
  | false => exact walk_logs_far M O g x most (.inl hf) w
  | true =>
    by_cases h : most ≤ 300
    · exact walk_logs_near M O g x most hf h w
    · exact walk_logs_far M O g x most (.inr ⟨hf, by omega⟩) w
section
variable {H : Type} {enc : TypeId × Value → H} {W : World} {sp : Nat → Bool} {held : Bool}
set_option maxRecDepth 100000 in
theorem open_two {r : Reach} {b0 : Nat} {v : Value} {d : DataW H} {p : List MemPlace} (hv : Value.okWide Tryz.prog W r b0 39 v) (h : DataW.Trod enc Tryz.prog W 0 sp held 39 v d p) : ∃ a b : ByteArray, v = .agg #[.string a, .string b] := by
  have c1 : Tryz.prog.cellsOf 22 = 1 := by kernel_rfl
  have c2 : Tryz.prog.cellsOf 39 = 2 := by kernel_rfl
  simp only [Value.okWide, Tryz.underlying39] at hv
  obtain ⟨cs, rfl, hsz, _⟩ := hv
  rw [c2] at hsz
  obtain ⟨a, b, rfl⟩ := array2 hsz
  obtain ⟨fuel, hf⟩ := h
  obtain ⟨xs, m, rfl, hx, hl, hn, hel⟩ := DataW.trod_array Tryz.underlying39 hf
  have h0 := hel 0 (by decide)
  have h1 := hel 1 (by decide)
  rw [c1] at h0 h1
  match xs, hn with
  | [x0, x1], _ =>
    obtain ⟨n0, e0, _⟩ := DataW.trod_string Tryz.underlying22 (show DataW.trod _ Tryz.prog W 0 _ _ m 22 [a] = some x0 from by simpa [Value.cells] using h0)
    obtain ⟨n1, e1, _⟩ := DataW.trod_string Tryz.underlying22 (show DataW.trod _ Tryz.prog W 0 _ _ m 22 [b] = some x1 from by simpa [Value.cells] using h1)
    simp only [List.cons.injEq, and_true] at e0 e1
    subst e0 e1
    exact ⟨_, _, rfl⟩
end
/-- What the row lists. -/
noncomputable def laidL : List (String × DataW Unit) := Rows.primegroupLogsRow.laid
set_option maxRecDepth 100000 in
theorem door_met9 (os : Os) (args : Array Value) : laidMetH Tryz.prog laidL ((World.doorLaid Tryz.prog 400 os).forCall (fun _ _ => 0) ⟨#[], args, []⟩).memory :=
  laidMetH_of_parts3 (fuel := 8) (laidMet_of_run' 8 (by kernel_rfl) (by kernel_rfl)) (by kernel_rfl) (by kernel_rfl)
set_option maxRecDepth 100000 in
theorem logs_lifted (os : Os) (started : os.Started) (H : Type) (enc : TypeId × Value → H) :
    ReturnsInHanded {} Tryz.checked os 6 .any (fun w args => (Rows.primegroupLogsSpec.pre enc Tryz.prog Tryz.f6 [] false w args ∧ laidMetH Tryz.prog laidL w) ∧ sizedMet enc Tryz.prog Tryz.f6 (OpenSpec.ofChange Rows.primegroupLogsSpec) false w args)
      (Rows.primegroupLogsSpec.post enc Tryz.prog Tryz.f6 false true false false) := by
  refine returnsInHanded_of_change_and (C := Tryz.checked) (X := fun w _ => laidMetH Tryz.prog laidL w) (fun _ _ _ hh h => h.of_heap hh) own9 started (by kernel_rfl) Tryz.func6
    (ChangeSpec.witness_shaped (enc := enc) (C := Tryz.checked) (os := os) (X := fun w _ => laidMetH Tryz.prog laidL w) false (World.doorLaid Tryz.prog 400 os) #[.agg #[.string ⟨#[]⟩, .string ⟨#[]⟩], .agg #[.string ⟨#[]⟩, .string ⟨#[]⟩], .int .i64 0] 8 rfl (World.shaped_of_RefB (by kernel_rfl) (by kernel_rfl)) (by kernel_rfl) (by kernel_rfl) (by kernel_rfl) (door_met9 os _)) ?_
  intro W base args ds gs before hval0 hW _ _ _ _
  have hval : ∀ (j : Nat) t v, Tryz.f6.params[j]? = some t → args[j]? = some v → Value.okWide Tryz.prog W .any base t v := hval0
  have hW' := hW
  obtain ⟨p, q, hA0, hV, rfl, hfz, hnd⟩ := hW
  have hA : DataW.TrodAll enc Tryz.prog W 0 (fun _ => true) true Tryz.f6.params.toList args.toList ds p := hA0
  rw [Tryz.params6] at hA hval
  obtain ⟨v0, vs0, d0, ds0, p0, q0, hargs, rfl, rfl, h0, r0⟩ := trodAll_cons hA
  obtain ⟨v1, vs1, d1, ds1, p1, q1, rfl, rfl, rfl, h1, r1⟩ := trodAll_cons r0
  obtain ⟨v2, vs2, d2, ds2, p2, q2, rfl, rfl, rfl, h2, r2⟩ := trodAll_cons r1
  obtain ⟨rfl, rfl, rfl⟩ := trodAll_nil r2
  obtain rfl : args = #[v0, v1, v2] := by cases args; simp_all
  obtain ⟨rfl, rfl⟩ := trodVars_none hV
  have k0 := h0
  have lt0 : ∀ x ∈ p0, x.block < W.heap.size := by obtain ⟨m, hm⟩ := k0; exact DataW.trod_lt m _ _ _ hm
  have k1 := h1
  have lt1 : ∀ x ∈ p1, x.block < W.heap.size := by obtain ⟨m, hm⟩ := k1; exact DataW.trod_lt m _ _ _ hm
  have k2 := h2
  have lt2 : ∀ x ∈ p2, x.block < W.heap.size := by obtain ⟨m, hm⟩ := k2; exact DataW.trod_lt m _ _ _ hm
  obtain ⟨M, O, rfl⟩ := open_group (hval 0 24 v0 rfl rfl) h0
  obtain ⟨g, x, rfl⟩ := open_two (hval 1 39 v1 rfl rfl) h1
  obtain ⟨n, hn⟩ : ∃ n, v2 = .int .i64 n := by
    obtain ⟨n, e, _⟩ := open_int Tryz.underlying3 (hval 2 3 v2 rfl rfl) h2
    exact ⟨n, e⟩
  subst hn
  clear hA0 hval0
  refine (walk_logs M O g x n W).mono fun e W' ⟨he, bel⟩ => ?_
  subst he
  exact ⟨_, rfl, _, _, _, [], _, [], hW', trodAll_mk1 (shut_bool Tryz.underlying4 _), (trodAll_cons_mk (Below.trod laidOut9 (by kernel_rfl) (of_decide_eq_true (by kernel_rfl)) k0 bel lt0) (trodAll_cons_mk (Below.trod laidOut9 (by kernel_rfl) (of_decide_eq_true (by kernel_rfl)) k1 bel lt1) (trodAll_cons_mk (Below.trod laidOut9 (by kernel_rfl) (of_decide_eq_true (by kernel_rfl)) k2 bel lt2) trodAll_mk0))), rfl, bel.frame _, fun h => by cases h⟩

theorem logs_row : Rows.PrimegroupLogsSaid :=
  OpenClaim.holds_of_wide 6 Tryz.f6 rfl rfl rfl rfl rfl rfl rfl ⟨rfl, rfl, rfl, rfl, rfl⟩ rfl rfl rfl rfl rfl (by kernel_rfl) Tryz.func6 (by kernel_rfl)
    (of_decide_eq_true (by kernel_rfl)) (by unfold Func.isWrapper; first | (rw [if_pos (by decide +kernel)]; kernel_rfl) | (rw [if_neg (by decide +kernel)]; exact ⟨rfl, rfl⟩))
    (fun os started H enc _ => logs_lifted os started H enc)

/-- The given statement. -/
theorem logs_proved : Rows.PrimegroupLogsCardSaid :=
  Claim7.holds_tied_plain_at .later [] [.data] true Rows.primegroupLogsCard.stood.harness false
    logs_row (fun _ h => by cases h) (by kernel_rfl) (fun _ h => by cases h) primegroupLogs_row_tie rfl ⟨rfl, rfl⟩ (by kernel_rfl) rfl
    (fun f fn hf hfn => by
      obtain rfl : f = 6 := Option.some.inj ((show Tryz.prog.funcNamed Rows.primegroupLogsRow.func = some 6 by kernel_rfl).symm.trans hf) |>.symm
      obtain rfl : fn = Tryz.f6 := (Option.some.inj (Tryz.func6.symm.trans hfn)).symm
      exact ⟨by kernel_rfl, fun j t ht => by
        rw [Tryz.params6] at ht
        have hm : t ∈ [24, 39, 3] := by simpa using Array.mem_of_getElem? ht
        have hall : ([24, 39, 3].all fun u => !Tryz.prog.wantsStandIn u) = true := by kernel_rfl
        exact (show Tryz.prog.wantsStandIn t = false by simpa using List.all_eq_true.1 hall t hm)⟩)
    (by kernel_rfl)
#print axioms logs_proved
end Go.Proofs.YtcbjadaghpmejaaGreatDoor

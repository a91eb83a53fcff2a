/- PedersenDraws: the law returns true for all arguments and leaves them as they were; the tables are those of the card. No other condition. -/
import Derived.Test.YtndmjfkmnjejkaaGreatDoorQLdA
import Derived.Test.YtndmjfkmnjejkaaGreatDoorQPdE
import Derived.Test.YtndmjfkmnjejkaaGreatDoorCards
import Derived.Test.YtndmjfkmnjejkaaGreatDoorTie
import Derived.SevenTiedAt
set_option linter.unusedVariables false
set_option linter.unusedSimpArgs false
namespace Go.Proofs.YtndmjfkmnjejkaaGreatDoor
set_option maxRecDepth 100000
open Go.ChangeShapes Go.WideShapes Go.ChangeAt Go.Deep Go.Joins Go.RowKit
open Go.ChangeMaps (open_string shut_string)
noncomputable def lL : List (String × DataW Unit) := Rows.pedersenDrawsRow.laid
theorem dm (os : Os) (args : Array Value) : laidMetH Tryz.prog lL ((World.doorLaid Tryz.prog 400 os).forCall (fun _ _ => 0) ⟨#[], args, []⟩).memory :=
 laidMetH_of_parts3 (fuel := 8) (laidMet_of_run' 8 (by kernel_rfl) (by kernel_rfl)) (by kernel_rfl) (by kernel_rfl)
theorem draws_lifted (os : Os) (started : os.Started) (H : Type) (enc : TypeId × Value → H) :
 ReturnsInHanded {} Tryz.checked os 3 .any (fun w args => (Rows.pedersenDrawsSpec.pre enc Tryz.prog Tryz.f3 [] false w args ∧ laidMetH Tryz.prog lL w) ∧ sizedMet enc Tryz.prog Tryz.f3 (OpenSpec.ofChange Rows.pedersenDrawsSpec) false w args)
  (Rows.pedersenDrawsSpec.post enc Tryz.prog Tryz.f3 false true false false) := by
 refine returnsInHanded_of_change_and (C := Tryz.checked) (X := fun w _ => laidMetH Tryz.prog lL w) (fun _ _ _ hh h => h.of_heap hh) ownQ started (by kernel_rfl) Tryz.func3
  (ChangeSpec.witness_shaped (enc := enc) (C := Tryz.checked) (os := os) (X := fun w _ => laidMetH Tryz.prog lL w) false (World.doorLaid Tryz.prog 400 os) #[.agg #[.string ⟨#[]⟩, .string ⟨#[]⟩, .string ⟨#[]⟩, .string ⟨#[]⟩], .agg #[.bool false, .string ⟨#[]⟩], .agg #[.slice none 0 0, .string ⟨#[]⟩, .int .i64 0]] 8 rfl (World.shaped_of_RefB (by kernel_rfl) (by kernel_rfl)) (by kernel_rfl) (by kernel_rfl) (by kernel_rfl) (dm os _)) ?_
 intro W base args ds gs before hval0 hW _ _ hL _
 have hval : ∀ (j : Nat) t v, Tryz.f3.params[j]? = some t → args[j]? = some v → Value.okWide Tryz.prog W .any base t v := hval0
 have hW' := hW
 obtain ⟨p, q, hA0, hV, rfl, hfz, hnd⟩ := hW
 have hA : DataW.TrodAll enc Tryz.prog W 0 (fun _ => true) true Tryz.f3.params.toList args.toList ds p := hA0
 rw [Tryz.params3] at hA hval
 obtain ⟨v0, vs0, d0, ds0, p0, q0, hargs, rfl, rfl, h0, r0⟩ := trodAll_cons hA
 obtain ⟨v1, vs1, d1, ds1, p1, q1, rfl, rfl, rfl, h1, r1⟩ := trodAll_cons r0
 obtain ⟨v2, vs2, d2, ds2, p2, q2, rfl, rfl, rfl, h2, r2⟩ := trodAll_cons r1
 obtain ⟨rfl, rfl, rfl⟩ := trodAll_nil r2
 obtain rfl : args = #[v0, v1, v2] := by cases args; simp_all
 obtain ⟨rfl, rfl⟩ := trodVars_none hV
 obtain ⟨M0, O0, G0, K0, rfl⟩ := open_key (hval 0 26 v0 rfl rfl) h0
 obtain ⟨b1, s1, rfl⟩ := open_zint (hval 1 28 v1 rfl rfl) h1
 obtain ⟨A2, n2, cap2, l2, s2, k2, rfl, hs2⟩ := open_tape (hval 2 31 v2 rfl rfl) h2
 have ht10 : T10 W := by
  rw [MakeChecks.laidMetH_plain _ _ _ (by kernel_rfl)] at hL
  exact t10_of rfl hL
 refine (walk_draws M0 O0 G0 K0 b1 s1 l2 s2 k2 A2 n2 cap2 W hs2 ht10).mono fun e W' ⟨he, bel⟩ => ?_
 subst he
 have bt {t v d p} (r : Tryz.prog.readableRec t = true) (s : decide (t < Tryz.prog.types.size) = true) (h : DataW.Trod enc Tryz.prog W 0 (fun _ => true) true t v d p) := Below.trod laidOutQ r (of_decide_eq_true s) h bel (h.elim fun m h => DataW.trod_lt m _ _ _ h)
 exact ⟨_, rfl, _, _, _, [], _, [], hW', trodAll_mk1 (shut_bool Tryz.underlying4 _), (trodAll_cons_mk (bt (by kernel_rfl) (by kernel_rfl) h0) (trodAll_cons_mk (bt (by kernel_rfl) (by kernel_rfl) h1) (trodAll_cons_mk (bt (by kernel_rfl) (by kernel_rfl) h2) trodAll_mk0))), rfl, bel.frame _, fun h => by cases h⟩
theorem draws_row : Rows.PedersenDrawsSaid :=
 OpenClaim.holds_of_wide 3 Tryz.f3 rfl rfl rfl rfl rfl rfl rfl ⟨rfl, rfl, rfl, rfl, rfl⟩ rfl rfl rfl rfl rfl (by kernel_rfl) Tryz.func3 (by kernel_rfl)
  (of_decide_eq_true (by kernel_rfl)) (by unfold Func.isWrapper; first | (rw [if_pos (by decide +kernel)]; kernel_rfl) | (rw [if_neg (by decide +kernel)]; exact ⟨rfl, rfl⟩))
  (fun os started H enc _ => draws_lifted os started H enc)
theorem draws_proved : Rows.PedersenDrawsCardSaid :=
 Claim7.holds_tied_plain_at .later [] [.data, .data, .data] true Rows.pedersenDrawsCard.stood.harness false
  draws_row (fun _ h => by cases h) (by kernel_rfl) (fun _ h => by cases h) pedersenDraws_row_tie rfl ⟨rfl, rfl⟩ (by kernel_rfl) rfl
  (fun f fn hf hfn => by
   obtain rfl : f = 3 := Option.some.inj ((show Tryz.prog.funcNamed Rows.pedersenDrawsRow.func = some 3 by kernel_rfl).symm.trans hf) |>.symm
   obtain rfl : fn = Tryz.f3 := (Option.some.inj (Tryz.func3.symm.trans hfn)).symm
   exact ⟨by kernel_rfl, fun j t ht => by
    rw [Tryz.params3] at ht
    have hm : t ∈ [26, 28, 31] := by simpa using Array.mem_of_getElem? ht
    have hall : ([26, 28, 31].all fun u => !Tryz.prog.wantsStandIn u) = true := by kernel_rfl
    exact (show Tryz.prog.wantsStandIn t = false by simpa using List.all_eq_true.1 hall t hm)⟩)
  (by kernel_rfl)
end Go.Proofs.YtndmjfkmnjejkaaGreatDoor

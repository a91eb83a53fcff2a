/- KeyringOverlaps: for all arguments the law returns true and leaves its arguments as they were; the row lists the tables of math/bits and internal/strconv, which the card ties to the program's text. No other condition. -/
import Derived.Test.YtamhonjkgkmdbaaGreatDoorQOpK
import Derived.Test.YtamhonjkgkmdbaaGreatDoorQScY
import Derived.Test.YtamhonjkgkmdbaaGreatDoorQCvD
import Derived.Test.YtamhonjkgkmdbaaGreatDoorCards
import Derived.Test.YtamhonjkgkmdbaaGreatDoorTie
import Derived.SevenTiedAt
set_option linter.unusedVariables false
set_option linter.unusedSimpArgs false
namespace Go.Proofs.YtamhonjkgkmdbaaGreatDoor
set_option maxRecDepth 100000
open Go.ChangeShapes Go.WideShapes Go.ChangeAt Go.Deep Go.Joins Go.RowKit
open Go.ChangeMaps (open_string shut_string)
noncomputable def laidL : List (String × DataW Unit) := Rows.keyringOverlapsRow.laid
theorem door_met9 (os : Os) (args : Array Value) : laidMetH Tryz.prog laidL ((World.doorLaid Tryz.prog 400 os).forCall (fun _ _ => 0) ⟨#[], args, []⟩).memory :=
 laidMetH_of_parts3 (fuel := 8) (laidMet_of_run' 8 (by kernel_rfl) (by kernel_rfl)) (by kernel_rfl) (by kernel_rfl)
theorem overlaps_lifted (os : Os) (started : os.Started) (H : Type) (enc : TypeId × Value → H) :
 ReturnsInHanded {} Tryz.checked os 4 .any (fun w args => (Rows.keyringOverlapsSpec.pre enc Tryz.prog Tryz.f4 [] false w args ∧ laidMetH Tryz.prog laidL w) ∧ sizedMet enc Tryz.prog Tryz.f4 (OpenSpec.ofChange Rows.keyringOverlapsSpec) false w args)
  (Rows.keyringOverlapsSpec.post enc Tryz.prog Tryz.f4 false true false false) := by
 refine returnsInHanded_of_change_and (C := Tryz.checked) (X := fun w _ => laidMetH Tryz.prog laidL w) (fun _ _ _ hh h => h.of_heap hh) ownQ started (by kernel_rfl) Tryz.func4
  (ChangeSpec.witness_shaped (enc := enc) (C := Tryz.checked) (os := os) (X := fun w _ => laidMetH Tryz.prog laidL w) false (World.doorLaid Tryz.prog 400 os) #[rtV ⟨#[]⟩ ⟨#[]⟩ ⟨#[]⟩ ⟨#[]⟩ ⟨#[]⟩, .slice none 0 0, .agg #[.int .i64 0, .int .i64 0]] 8 rfl (World.shaped_of_RefB (by kernel_rfl) (by kernel_rfl)) (by kernel_rfl) (by kernel_rfl) (by kernel_rfl) (door_met9 os _)) ?_
 intro W base args ds gs before hval0 hW _ _ hL _;have hval : ∀ (j : Nat) t v, Tryz.f4.params[j]? = some t → args[j]? = some v → Value.okWide Tryz.prog W .any base t v := hval0;have hW' := hW;obtain ⟨p, q, hA0, hV, rfl, hfz, hnd⟩ := hW;have hA : DataW.TrodAll enc Tryz.prog W 0 (fun _ => true) true Tryz.f4.params.toList args.toList ds p := hA0;rw [Tryz.params4] at hA hval;obtain ⟨v0, vs0, d0, ds0, p0, q0, hargs, rfl, rfl, h0, r0⟩ := trodAll_cons hA;obtain ⟨v1, vs1, d1, ds1, p1, q1, rfl, rfl, rfl, h1, r1⟩ := trodAll_cons r0;obtain ⟨v2, vs2, d2, ds2, p2, q2, rfl, rfl, rfl, h2, r2⟩ := trodAll_cons r1;obtain ⟨rfl, rfl, rfl⟩ := trodAll_nil r2
 obtain rfl : args = #[v0, v1, v2] := by cases args; simp_all
 obtain ⟨rfl, rfl⟩ := trodVars_none hV;have k0d := h0;have lt0 : ∀ x ∈ p0, x.block < W.heap.size := by obtain ⟨m, hm⟩ := k0d; exact DataW.trod_lt m _ _ _ hm
 have k1d := h1;have lt1 : ∀ x ∈ p1, x.block < W.heap.size := by obtain ⟨m, hm⟩ := k1d; exact DataW.trod_lt m _ _ _ hm
 have k2d := h2;have lt2 : ∀ x ∈ p2, x.block < W.heap.size := by obtain ⟨m, hm⟩ := k2d; exact DataW.trod_lt m _ _ _ hm
 obtain ⟨M0, O0, G0, Y0, X0, rfl⟩ := open_rootV (hval 0 28 v0 rfl rfl) h0;obtain ⟨a1, len1, cap1, rfl⟩ := okWide_slice Tryz.underlying40 (hval 1 40 v1 rfl rfl);obtain ⟨l1, sl1, zl1, ml1⟩ : ∃ l, SlV W a1 len1 cap1 l ∧ SzVs l ∧ ∀ (k : Nat) (v : Ver), l[k]? = some v → -9223372036854775808 ≤ v.num := by obtain ⟨fuel, hf⟩ := h1; exact open_vers hf
 obtain ⟨x2, y2, rfl⟩ := open_two (hval 2 53 v2 rfl rfl) h2;have ht10 : T10 W := (by rw [MakeChecks.laidMetH_plain _ _ _ (by kernel_rfl)] at hL;exact t10_of rfl hL);clear hA0 hval0;refine (walk_overlaps58 M0 O0 G0 Y0 X0 l1 a1 len1 cap1 x2 y2 W sl1 zl1 ml1 ht10).mono fun e W' ⟨he, bel⟩ => ?_;subst he;exact ⟨_, rfl, _, _, _, [], _, [], hW', trodAll_mk1 (shut_bool Tryz.underlying4 _), (trodAll_cons_mk (Below.trod laidOutQ (by kernel_rfl) (of_decide_eq_true (by kernel_rfl)) k0d bel lt0) (trodAll_cons_mk (Below.trod laidOutQ (by kernel_rfl) (of_decide_eq_true (by kernel_rfl)) k1d bel lt1) (trodAll_cons_mk (Below.trod laidOutQ (by kernel_rfl) (of_decide_eq_true (by kernel_rfl)) k2d bel lt2) trodAll_mk0))), rfl, bel.frame _, fun h => by cases h⟩
theorem overlaps_row : Rows.KeyringOverlapsSaid :=
 OpenClaim.holds_of_wide 4 Tryz.f4 rfl rfl rfl rfl rfl rfl rfl ⟨rfl, rfl, rfl, rfl, rfl⟩ rfl rfl rfl rfl rfl (by kernel_rfl) Tryz.func4 (by kernel_rfl)
  (of_decide_eq_true (by kernel_rfl)) (by unfold Func.isWrapper; first | (rw [if_pos (by decide +kernel)]; kernel_rfl) | (rw [if_neg (by decide +kernel)]; exact ⟨rfl, rfl⟩))
  (fun os started H enc _ => overlaps_lifted os started H enc)
theorem overlaps_proved : Rows.KeyringOverlapsCardSaid :=
 Claim7.holds_tied_plain_at .later [] [.data, .data, .data] true Rows.keyringOverlapsCard.stood.harness false
  overlaps_row (fun _ h => by cases h) (by kernel_rfl) (fun _ h => by cases h) keyringOverlaps_row_tie rfl ⟨rfl, rfl⟩ (by kernel_rfl) rfl
  (fun f fn hf hfn => by
   obtain rfl : f = 4 := Option.some.inj ((show Tryz.prog.funcNamed Rows.keyringOverlapsRow.func = some 4 by kernel_rfl).symm.trans hf) |>.symm
   obtain rfl : fn = Tryz.f4 := (Option.some.inj (Tryz.func4.symm.trans hfn)).symm;exact ⟨by kernel_rfl, fun j t ht => by
    rw [Tryz.params4] at ht;have hm : t ∈ [28, 40, 53] := by simpa using Array.mem_of_getElem? ht
    have hall : ([28, 40, 53].all fun u => !Tryz.prog.wantsStandIn u) = true := by kernel_rfl
    exact (show Tryz.prog.wantsStandIn t = false by simpa using List.all_eq_true.1 hall t hm)⟩)
  (by kernel_rfl)
#print axioms overlaps_proved
end Go.Proofs.YtamhonjkgkmdbaaGreatDoor

/- EpochlogAppends: for every key, every list of deltas and every delta the law returns true and leaves its arguments as they were. No condition. -/
import Derived.Test.YthcekkeknonefaaGreatQEpW
import Derived.Test.YthcekkeknonefaaGreatQEdG
set_option linter.unusedVariables false
set_option linter.unusedSimpArgs false
namespace Go.Proofs.YthcekkeknonefaaGreat
set_option maxRecDepth 100000
open Go.ChangeShapes Go.WideShapes Go.ChangeAt Go.Deep Go.Joins Go.RowKit
open Go.ChangeMaps (open_string shut_string)
theorem ownK : ownKnob Tryz.prog.godebug = none := by kernel_rfl
theorem laidOutK : laidOutB Tryz.prog = true := by kernel_rfl
theorem open_keyE {H : Type} {enc : TypeId × Value → H} {W : World} {held : Bool} {r : Reach} {b0 : Nat} {v : Value} {d : DataW H} {p : List MemPlace} (hv : Value.okWide Tryz.prog W r b0 26 v) (h : DataW.Trod enc Tryz.prog W 0 (fun _ => true) held 26 v d p) : ∃ M O G Y : ByteArray, v = kV M O G Y := by
 obtain ⟨cs, rfl, hsz⟩ := okWide_struct Tryz.underlying26 hv;have hsz : cs.toList.length = 4 := hsz.trans (show Tryz.prog.cellsOf 26 = 4 from by kernel_rfl);obtain ⟨c0, c1, c2, c3, hcs⟩ : ∃ c0 c1 c2 c3, cs.toList = [c0, c1, c2, c3] := by
  match hc : cs.toList, hsz with
  | [c0, c1, c2, c3], _ => exact ⟨c0, c1, c2, c3, rfl⟩
 obtain ⟨fuel, hf⟩ := h;have hf : DataW.trod enc Tryz.prog W 0 (fun _ => true) held fuel 26 cs.toList = some (d, p) := hf;rw [hcs] at hf;have g0 := hf;obtain ⟨n1, y1, g1⟩ := trod_at Tryz.underlying26 g0 0 _ rfl 2 (by kernel_rfl);have g1 : DataW.trod enc Tryz.prog W 0 (fun _ => true) held n1 24 [c0, c1] = some y1 := g1;obtain ⟨n2, y2, g2⟩ := trod_at Tryz.underlying26 g0 1 _ rfl 1 (by kernel_rfl);have g2 : DataW.trod enc Tryz.prog W 0 (fun _ => true) held n2 22 [c2] = some y2 := g2;obtain ⟨n3, y3, g3⟩ := trod_at Tryz.underlying26 g0 2 _ rfl 1 (by kernel_rfl);have g3 : DataW.trod enc Tryz.prog W 0 (fun _ => true) held n3 22 [c3] = some y3 := g3;obtain ⟨n4, y4, g4⟩ := trod_at Tryz.underlying24 g1 0 _ rfl 1 (by kernel_rfl);have g4 : DataW.trod enc Tryz.prog W 0 (fun _ => true) held n4 22 [c0] = some y4 := g4;obtain ⟨n5, y5, g5⟩ := trod_at Tryz.underlying24 g1 1 _ rfl 1 (by kernel_rfl);have g5 : DataW.trod enc Tryz.prog W 0 (fun _ => true) held n5 22 [c1] = some y5 := g5;obtain ⟨s0, e0, _⟩ := DataW.trod_string Tryz.underlying22 g4;obtain ⟨s1, e1, _⟩ := DataW.trod_string Tryz.underlying22 g5;obtain ⟨s2, e2, _⟩ := DataW.trod_string Tryz.underlying22 g2;obtain ⟨s3, e3, _⟩ := DataW.trod_string Tryz.underlying22 g3;simp only [List.cons.injEq, and_true] at e0 e1 e2 e3;subst e0 e1 e2 e3;refine ⟨s0, s1, s2, s3, ?_⟩;rw [show cs = cs.toList.toArray from by simp, hcs];rfl
theorem appends_lifted (os : Os) (started : os.Started) (H : Type) (enc : TypeId × Value → H) :
 ReturnsInHanded {} Tryz.checked os 3 .any (Rows.epochlogAppendsSpec.pre6 enc Tryz.prog Tryz.f3 Rows.epochlogAppendsRow.domain false) (Rows.epochlogAppendsSpec.post enc Tryz.prog Tryz.f3 false true false false) := by
 refine returnsInHanded_of_change (C := Tryz.checked) ownK started (by kernel_rfl) Tryz.func3
  (ChangeSpec.witness6 (enc := enc) (C := Tryz.checked) false ⟨#[], #[kV ⟨#[]⟩ ⟨#[]⟩ ⟨#[]⟩ ⟨#[]⟩, .slice none 0 0, .agg #[.int .i64 0, .int .i64 0, .slice none 0 0, .slice none 0 0, .string ⟨#[]⟩, .string ⟨#[]⟩, .string ⟨#[]⟩, .string ⟨#[]⟩]], []⟩ 8 (by kernel_rfl) (by kernel_rfl) (by kernel_rfl) (by kernel_rfl)) ?_
 intro W base args ds gs before hval0 hW hcnd _;have hval : ∀ (j : Nat) t v, Tryz.f3.params[j]? = some t → args[j]? = some v → Value.okWide Tryz.prog W .any base t v := hval0;have hW' := hW;obtain ⟨p, q, hA0, hV, rfl, hfz, hnd⟩ := hW;have hA : DataW.TrodAll enc Tryz.prog W 0 (fun _ => true) true Tryz.f3.params.toList args.toList ds p := hA0;rw [Tryz.params3] at hA hval;obtain ⟨v0, vs0, d0, ds0, p0, q0, hargs, rfl, rfl, h0, r0⟩ := trodAll_cons hA;obtain ⟨v1, vs1, d1, ds1, p1, q1, rfl, rfl, rfl, h1, r1⟩ := trodAll_cons r0;obtain ⟨v2, vs2, d2, ds2, p2, q2, rfl, rfl, rfl, h2, r2⟩ := trodAll_cons r1;obtain ⟨rfl, rfl, rfl⟩ := trodAll_nil r2
 obtain rfl : args = #[v0, v1, v2] := by cases args; simp_all
 obtain ⟨rfl, rfl⟩ := trodVars_none hV;have lt : ∀ {t v d p}, DataW.Trod enc Tryz.prog W 0 (fun _ => true) true t v d p → ∀ x ∈ p, x.block < W.heap.size := fun h => h.elim fun m h => DataW.trod_lt m _ _ _ h;obtain ⟨M, O, G, Y, rfl⟩ := open_keyE (hval 0 26 v0 rfl rfl) h0;obtain ⟨a1, len1, cap1, rfl⟩ := okWide_slice Tryz.underlying27 (hval 1 27 v1 rfl rfl);obtain ⟨l, w1, z1⟩ : ∃ l, SlD W a1 len1 cap1 l ∧ SzD l := by obtain ⟨fuel, hf⟩ := h1; exact open_dls hf
 obtain ⟨x, Ax1, nx1, cx1, Ax2, nx2, cx2, rfl, sx1, sx2, zx⟩ := open_dlV (hval 2 32 v2 rfl rfl) h2;clear hA0 hval0;refine (walk_appends37 M O G Y l a1 len1 cap1 x Ax1 nx1 cx1 Ax2 nx2 cx2 W w1 z1 sx1 sx2 zx).mono fun e W' ⟨he, bel⟩ => ?_;subst he;exact ⟨_, rfl, _, _, _, [], _, [], hW', trodAll_mk1 (shut_bool Tryz.underlying4 _), (trodAll_cons_mk (Below.trod laidOutK (by kernel_rfl) (of_decide_eq_true (by kernel_rfl)) h0 bel (lt h0)) (trodAll_cons_mk (Below.trod laidOutK (by kernel_rfl) (of_decide_eq_true (by kernel_rfl)) h1 bel (lt h1)) (trodAll_cons_mk (Below.trod laidOutK (by kernel_rfl) (of_decide_eq_true (by kernel_rfl)) h2 bel (lt h2)) trodAll_mk0))), rfl, bel.frame _, fun h => by cases h⟩
theorem appends_proved : Rows.EpochlogAppendsSaid :=
 OpenClaim.holds_of_wide 3 Tryz.f3 rfl rfl rfl rfl rfl rfl rfl ⟨rfl, rfl, rfl, rfl, rfl⟩ rfl rfl rfl rfl rfl (by kernel_rfl) Tryz.func3 (by kernel_rfl)
  (of_decide_eq_true (by kernel_rfl)) (by unfold Func.isWrapper; first | (rw [if_pos (by decide +kernel)]; kernel_rfl) | (rw [if_neg (by decide +kernel)]; exact ⟨rfl, rfl⟩))
  (fun os started H enc _ => appends_lifted os started H enc)
#print axioms appends_proved
end Go.Proofs.YthcekkeknonefaaGreat

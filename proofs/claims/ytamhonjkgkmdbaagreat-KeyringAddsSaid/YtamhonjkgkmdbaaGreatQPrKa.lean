/- KeyringAdds: for every root, all lists and every version the law returns true and leaves its arguments as they were. No condition. -/
import Derived.Test.YtamhonjkgkmdbaaGreatQKyZ
import Derived.Test.YtamhonjkgkmdbaaGreatQAdE
set_option linter.unusedVariables false
set_option linter.unusedSimpArgs false
namespace Go.Proofs.YtamhonjkgkmdbaaGreat
set_option maxRecDepth 100000
open Go.ChangeShapes Go.WideShapes Go.ChangeAt Go.Deep Go.Joins Go.RowKit
open Go.ChangeMaps (open_string shut_string)
theorem ownK : ownKnob Tryz.prog.godebug = none := by kernel_rfl
theorem laidOutK : laidOutB Tryz.prog = true := by kernel_rfl
theorem open_verV {H : Type} {enc : TypeId × Value → H} {W : World} {held : Bool} {r : Reach} {b0 : Nat} {v : Value} {d : DataW H} {p : List MemPlace} (hv : Value.okWide Tryz.prog W r b0 36 v) (h : DataW.Trod enc Tryz.prog W 0 (fun _ => true) held 36 v d p) : ∃ (x : Ver) (A : Option Addr) (n c : Nat), v = .agg (x.arr (.slice A n c)) ∧ SlN W A n c x.kr ∧ SzL x.str ∧ (-9223372036854775808 ≤ x.num) := by
 obtain ⟨cs, rfl, _⟩ := okWide_struct Tryz.underlying36 hv;obtain ⟨fuel, hf⟩ := h;obtain ⟨x, A, n, c, he, hs, hz, hn⟩ := open_ver hf;refine ⟨x, A, n, c, ?_, hs, hz, hn⟩;have : cs.toList = x.vals (.slice A n c) := he;rw [show cs = cs.toList.toArray from by simp, this];rfl
theorem open_rootV {H : Type} {enc : TypeId × Value → H} {W : World} {held : Bool} {r : Reach} {b0 : Nat} {v : Value} {d : DataW H} {p : List MemPlace} (hv : Value.okWide Tryz.prog W r b0 28 v) (h : DataW.Trod enc Tryz.prog W 0 (fun _ => true) held 28 v d p) : ∃ M O G Y X : ByteArray, v = rtV M O G Y X := by
 obtain ⟨cs, rfl, hsz⟩ := okWide_struct Tryz.underlying28 hv;have hsz : cs.toList.length = 5 := hsz.trans (show Tryz.prog.cellsOf 28 = 5 from by kernel_rfl);obtain ⟨c0, c1, c2, c3, c4, hcs⟩ : ∃ c0 c1 c2 c3 c4, cs.toList = [c0, c1, c2, c3, c4] := by
  match hc : cs.toList, hsz with
  | [c0, c1, c2, c3, c4], _ => exact ⟨c0, c1, c2, c3, c4, rfl⟩
 obtain ⟨fuel, hf⟩ := h;have hf : DataW.trod enc Tryz.prog W 0 (fun _ => true) held fuel 28 cs.toList = some (d, p) := hf;rw [hcs] at hf;obtain ⟨n0, y0, g0⟩ := trod_at Tryz.underlying28 hf 0 _ rfl 4 (by kernel_rfl);have g0 : DataW.trod enc Tryz.prog W 0 (fun _ => true) held n0 26 [c0, c1, c2, c3] = some y0 := g0;obtain ⟨n9, y9, g9⟩ := trod_at Tryz.underlying28 hf 1 _ rfl 1 (by kernel_rfl);have g9 : DataW.trod enc Tryz.prog W 0 (fun _ => true) held n9 22 [c4] = some y9 := g9;obtain ⟨n1, y1, g1⟩ := trod_at Tryz.underlying26 g0 0 _ rfl 2 (by kernel_rfl);have g1 : DataW.trod enc Tryz.prog W 0 (fun _ => true) held n1 24 [c0, c1] = some y1 := g1;obtain ⟨n2, y2, g2⟩ := trod_at Tryz.underlying26 g0 1 _ rfl 1 (by kernel_rfl);have g2 : DataW.trod enc Tryz.prog W 0 (fun _ => true) held n2 22 [c2] = some y2 := g2;obtain ⟨n3, y3, g3⟩ := trod_at Tryz.underlying26 g0 2 _ rfl 1 (by kernel_rfl);have g3 : DataW.trod enc Tryz.prog W 0 (fun _ => true) held n3 22 [c3] = some y3 := g3;obtain ⟨n4, y4, g4⟩ := trod_at Tryz.underlying24 g1 0 _ rfl 1 (by kernel_rfl);have g4 : DataW.trod enc Tryz.prog W 0 (fun _ => true) held n4 22 [c0] = some y4 := g4;obtain ⟨n5, y5, g5⟩ := trod_at Tryz.underlying24 g1 1 _ rfl 1 (by kernel_rfl);have g5 : DataW.trod enc Tryz.prog W 0 (fun _ => true) held n5 22 [c1] = some y5 := g5;obtain ⟨s0, e0, _⟩ := DataW.trod_string Tryz.underlying22 g4;obtain ⟨s1, e1, _⟩ := DataW.trod_string Tryz.underlying22 g5;obtain ⟨s2, e2, _⟩ := DataW.trod_string Tryz.underlying22 g2;obtain ⟨s3, e3, _⟩ := DataW.trod_string Tryz.underlying22 g3;obtain ⟨s4, e4, _⟩ := DataW.trod_string Tryz.underlying22 g9;simp only [List.cons.injEq, and_true] at e0 e1 e2 e3 e4;subst e0 e1 e2 e3 e4;refine ⟨s0, s1, s2, s3, s4, ?_⟩;rw [show cs = cs.toList.toArray from by simp, hcs];rfl
theorem adds_lifted (os : Os) (started : os.Started) (H : Type) (enc : TypeId × Value → H) :
 ReturnsInHanded {} Tryz.checked os 3 .any (Rows.keyringAddsSpec.pre6 enc Tryz.prog Tryz.f3 Rows.keyringAddsRow.domain false) (Rows.keyringAddsSpec.post enc Tryz.prog Tryz.f3 false true false false) := by
 refine returnsInHanded_of_change (C := Tryz.checked) ownK started (by kernel_rfl) Tryz.func3
  (ChangeSpec.witness6 (enc := enc) (C := Tryz.checked) false ⟨#[], #[rtV ⟨#[]⟩ ⟨#[]⟩ ⟨#[]⟩ ⟨#[]⟩ ⟨#[]⟩, .slice none 0 0, .agg (ver0.arr (.slice none 0 0))], []⟩ 8 (by kernel_rfl) (by kernel_rfl) (by kernel_rfl) (by kernel_rfl)) ?_
 intro W base args ds gs before hval0 hW hcnd _;have hval : ∀ (j : Nat) t v, Tryz.f3.params[j]? = some t → args[j]? = some v → Value.okWide Tryz.prog W .any base t v := hval0;have hW' := hW;obtain ⟨p, q, hA0, hV, rfl, hfz, hnd⟩ := hW;have hA : DataW.TrodAll enc Tryz.prog W 0 (fun _ => true) true Tryz.f3.params.toList args.toList ds p := hA0;rw [Tryz.params3] at hA hval;obtain ⟨v0, vs0, d0, ds0, p0, q0, hargs, rfl, rfl, h0, r0⟩ := trodAll_cons hA;obtain ⟨v1, vs1, d1, ds1, p1, q1, rfl, rfl, rfl, h1, r1⟩ := trodAll_cons r0;obtain ⟨v2, vs2, d2, ds2, p2, q2, rfl, rfl, rfl, h2, r2⟩ := trodAll_cons r1;obtain ⟨rfl, rfl, rfl⟩ := trodAll_nil r2
 obtain rfl : args = #[v0, v1, v2] := by cases args; simp_all
 obtain ⟨rfl, rfl⟩ := trodVars_none hV;obtain ⟨a0, len0, cap0, rfl⟩ := okWide_slice Tryz.underlying29 (hval 1 29 v1 rfl rfl);have k0 := h0;have lt0 : ∀ x ∈ p0, x.block < W.heap.size := by obtain ⟨m, hm⟩ := k0; exact DataW.trod_lt m _ _ _ hm
 have k1 := h1;have lt1 : ∀ x ∈ p1, x.block < W.heap.size := by obtain ⟨m, hm⟩ := k1; exact DataW.trod_lt m _ _ _ hm
 have k2 := h2;have lt2 : ∀ x ∈ p2, x.block < W.heap.size := by obtain ⟨m, hm⟩ := k2; exact DataW.trod_lt m _ _ _ hm
 obtain ⟨M, O, G, Y, X, rfl⟩ := open_rootV (hval 0 28 v0 rfl rfl) h0;obtain ⟨l, s1, z1, m1⟩ : ∃ l, SlV W a0 len0 cap0 l ∧ SzVs l ∧ ∀ (k : Nat) (v : Ver), l[k]? = some v → -9223372036854775808 ≤ v.num := by obtain ⟨fuel, hf⟩ := h1; exact open_vers hf
 obtain ⟨u, A2, n2, c2, rfl, s2, z2, m2⟩ := open_verV (hval 2 36 v2 rfl rfl) h2;clear hA0 hval0;refine (walk_adds58 M O G Y X l a0 len0 cap0 u A2 n2 c2 W s1 z1 s2 z2).mono fun e W' ⟨he, bel⟩ => ?_;subst he;exact ⟨_, rfl, _, _, _, [], _, [], hW', trodAll_mk1 (shut_bool Tryz.underlying4 _), (trodAll_cons_mk (Below.trod laidOutK (by kernel_rfl) (of_decide_eq_true (by kernel_rfl)) k0 bel lt0) (trodAll_cons_mk (Below.trod laidOutK (by kernel_rfl) (of_decide_eq_true (by kernel_rfl)) k1 bel lt1) (trodAll_cons_mk (Below.trod laidOutK (by kernel_rfl) (of_decide_eq_true (by kernel_rfl)) k2 bel lt2) trodAll_mk0))), rfl, bel.frame _, fun h => by cases h⟩
theorem adds_proved : Rows.KeyringAddsSaid :=
 OpenClaim.holds_of_wide 3 Tryz.f3 rfl rfl rfl rfl rfl rfl rfl ⟨rfl, rfl, rfl, rfl, rfl⟩ rfl rfl rfl rfl rfl (by kernel_rfl) Tryz.func3 (by kernel_rfl)
  (of_decide_eq_true (by kernel_rfl)) (by unfold Func.isWrapper; first | (rw [if_pos (by decide +kernel)]; kernel_rfl) | (rw [if_neg (by decide +kernel)]; exact ⟨rfl, rfl⟩))
  (fun os started H enc _ => adds_lifted os started H enc)
#print axioms adds_proved
end Go.Proofs.YtamhonjkgkmdbaaGreat

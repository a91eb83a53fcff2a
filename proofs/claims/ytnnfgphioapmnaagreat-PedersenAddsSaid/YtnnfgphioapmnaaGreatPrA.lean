/- PedersenAdds: for every key, two numbers and an integer the law returns true and leaves its arguments as they were. No condition. -/
import Derived.Test.YtnnfgphioapmnaaGreatPeBI
import Derived.Test.YtnnfgphioapmnaaGreatRows
import Derived.ProofKit
import Derived.OpenShut
import Derived.ShutString
import Derived.ChangeOld
import Derived.Below
import Derived.Carry
import Derived.Deep.Slices
import Derived.Deep.Fields
import Derived.ChangeSame
import Derived.Lib.SmallJoins
set_option linter.unusedVariables false
set_option linter.unusedSimpArgs false
namespace Go.Proofs.YtnnfgphioapmnaaGreat
open Go.ChangeShapes Go.WideShapes Go.ChangeAt Go.Deep Go.Joins Go.RowKit
open Go.ChangeMaps (open_string shut_string)

theorem ownP : ownKnob Tryz.prog.godebug = none := by kernel_rfl
theorem laidOutP : laidOutB Tryz.prog = true := by kernel_rfl
section
variable {H : Type} {enc : TypeId × Value → H} {W : World} {sp : Nat → Bool} {held : Bool}
/-- A field's cells. -/
theorem trod_at {P : Program} {w : World} {base : Nat} {spare : Nat → Bool} {fuel : Nat} {t : TypeId} {cs : List Value} {x : DataW H × List MemPlace} {fs : Array Field} (ht : P.underlying t = some (.struct fs)) (h : DataW.trod enc P w base spare held fuel t cs = some x) (i : Nat) (f : Field) (hf : fs[i]? = some f) (k : Nat) (hk : P.cellsOf f.type = k) :
    ∃ n y, DataW.trod enc P w base spare held n f.type ((cs.drop f.offset).take k) = some y := by
  obtain ⟨xs, n, _, _, _, hl, hx⟩ := DataW.trod_struct ht h
  have h1 := hx i f hf
  have hi : i < xs.length := by rw [hl]; exact (Array.getElem?_eq_some_iff.1 hf).1
  rw [hk, List.getElem?_eq_getElem hi] at h1
  exact ⟨n, _, h1⟩
theorem trod_len {P : Program} {w : World} {base : Nat} {spare : Nat → Bool} {fuel : Nat} {t : TypeId} {cs : List Value} {x : DataW H × List MemPlace} {fs : Array Field} (ht : P.underlying t = some (.struct fs)) (h : DataW.trod enc P w base spare held fuel t cs = some x) : cs.length = P.cellsOf t := by
  obtain ⟨_, _, _, _, h1, _, _⟩ := DataW.trod_struct ht h
  exact h1

theorem four_of {cs : List Value} (h : cs.length = 4) : ∃ c0 c1 c2 c3, cs = [c0, c1, c2, c3] :=
  match cs, h with
  | [c0, c1, c2, c3], _ => ⟨c0, c1, c2, c3, rfl⟩
set_option maxRecDepth 100000 in
theorem open_key {r : Reach} {b0 : Nat} {v : Value} {d : DataW H} {p : List MemPlace} (hv : Value.okWide Tryz.prog W r b0 26 v) (h : DataW.Trod enc Tryz.prog W 0 (fun _ => true) held 26 v d p) : ∃ M O G K : ByteArray, v = kV M O G K := by
  obtain ⟨cs, rfl, hsz⟩ := okWide_struct Tryz.underlying26 hv
  obtain ⟨c0, c1, c2, c3, rfl⟩ := array4 (hsz.trans (show Tryz.prog.cellsOf 26 = 4 from by kernel_rfl))
  obtain ⟨fuel, hf⟩ := h
  have hf : DataW.trod enc Tryz.prog W 0 (fun _ => true) held fuel 26 [c0, c1, c2, c3] = some (d, p) := hf
  obtain ⟨n1, y1, g1⟩ := trod_at Tryz.underlying26 hf 0 _ rfl 2 (by kernel_rfl)
  have g1 : DataW.trod enc Tryz.prog W 0 (fun _ => true) held n1 24 [c0, c1] = some y1 := g1
  obtain ⟨n2, y2, g2⟩ := trod_at Tryz.underlying26 hf 1 _ rfl 1 (by kernel_rfl)
  have g2 : DataW.trod enc Tryz.prog W 0 (fun _ => true) held n2 22 [c2] = some y2 := g2
  obtain ⟨n3, y3, g3⟩ := trod_at Tryz.underlying26 hf 2 _ rfl 1 (by kernel_rfl)
  have g3 : DataW.trod enc Tryz.prog W 0 (fun _ => true) held n3 22 [c3] = some y3 := g3
  obtain ⟨n4, y4, g4⟩ := trod_at Tryz.underlying24 g1 0 _ rfl 1 (by kernel_rfl)
  have g4 : DataW.trod enc Tryz.prog W 0 (fun _ => true) held n4 22 [c0] = some y4 := g4
  obtain ⟨n5, y5, g5⟩ := trod_at Tryz.underlying24 g1 1 _ rfl 1 (by kernel_rfl)
  have g5 : DataW.trod enc Tryz.prog W 0 (fun _ => true) held n5 22 [c1] = some y5 := g5
  obtain ⟨s0, e0, _⟩ := DataW.trod_string Tryz.underlying22 g4
  obtain ⟨s1, e1, _⟩ := DataW.trod_string Tryz.underlying22 g5
  obtain ⟨s2, e2, _⟩ := DataW.trod_string Tryz.underlying22 g2
  obtain ⟨s3, e3, _⟩ := DataW.trod_string Tryz.underlying22 g3
  simp only [List.cons.injEq, and_true] at e0 e1 e2 e3
  subst e0 e1 e2 e3
  exact ⟨s0, s1, s2, s3, rfl⟩
theorem trod_array {P : Program} {w : World} {base : Nat} {spare : Nat → Bool} {fuel : Nat} {t e : TypeId} {n : Nat} {cs : List Value} {x : DataW H × List MemPlace} (ht : P.underlying t = some (.array n e)) (h : DataW.trod enc P w base spare held fuel t cs = some x) (i : Nat) (hi : i < n) (k : Nat) (hk : P.cellsOf e = k) :
    ∃ m y, DataW.trod enc P w base spare held m e ((cs.drop (i * k)).take k) = some y := by
  cases fuel with
  | zero => simp [DataW.trod] at h
  | succ m =>
    unfold DataW.trod at h
    rw [ht] at h
    subst hk
    split at h <;> first | (exfalso; simp at *; done) | skip
    rename_i hx
    simp only [Option.some.injEq, TypeDesc.array.injEq] at hx
    obtain ⟨rfl, rfl⟩ := hx
    split at h
    · rw [Option.map_eq_some_iff] at h
      obtain ⟨xs, hp, hd⟩ := h
      have h1 := mapM_some_get hp i i (by simp [hi])
      have h2 : i < xs.length := by rw [mapM_some_length hp]; simpa using hi
      rw [List.getElem?_eq_getElem h2] at h1
      exact ⟨m, _, h1⟩
    · cases h
theorem okWide_array {P : Program} {w : World} {r : Reach} {base : Nat} {t e : TypeId} {n : Nat} {v : Value} (ht : P.underlying t = some (.array n e)) (h : Value.okWide P w r base t v) : ∃ cs, v = .agg cs ∧ cs.size = P.cellsOf t := by
  simp only [Value.okWide, ht] at h
  obtain ⟨cs, h1, h2, _⟩ := h
  exact ⟨cs, h1, h2⟩
theorem array2 {α : Type} {cs : Array α} (h : cs.size = 2) : ∃ a b, cs = #[a, b] := by
  obtain ⟨l⟩ := cs
  match l, h with
  | [a, b], _ => exact ⟨a, b, rfl⟩
set_option maxRecDepth 100000 in
theorem open_pair {r : Reach} {b0 : Nat} {v : Value} {d : DataW H} {p : List MemPlace} (hv : Value.okWide Tryz.prog W r b0 48 v) (h : DataW.Trod enc Tryz.prog W 0 (fun _ => true) held 48 v d p) : ∃ a b : ByteArray, v = .agg #[.string a, .string b] := by
  obtain ⟨cs, rfl, hsz⟩ := okWide_array Tryz.underlying48 hv
  obtain ⟨c0, c1, rfl⟩ := array2 (hsz.trans (show Tryz.prog.cellsOf 48 = 2 from by kernel_rfl))
  obtain ⟨fuel, hf⟩ := h
  have hf : DataW.trod enc Tryz.prog W 0 (fun _ => true) held fuel 48 [c0, c1] = some (d, p) := hf
  obtain ⟨n1, y1, g1⟩ := trod_array Tryz.underlying48 hf 0 (by decide) 1 (by kernel_rfl)
  have g1 : DataW.trod enc Tryz.prog W 0 (fun _ => true) held n1 22 [c0] = some y1 := g1
  obtain ⟨n2, y2, g2⟩ := trod_array Tryz.underlying48 hf 1 (by decide) 1 (by kernel_rfl)
  have g2 : DataW.trod enc Tryz.prog W 0 (fun _ => true) held n2 22 [c1] = some y2 := g2
  obtain ⟨s0, e0, _⟩ := DataW.trod_string Tryz.underlying22 g1
  obtain ⟨s1, e1, _⟩ := DataW.trod_string Tryz.underlying22 g2
  simp only [List.cons.injEq, and_true] at e0 e1
  subst e0 e1
  exact ⟨s0, s1, rfl⟩
set_option maxRecDepth 100000 in
theorem open_int1 {r : Reach} {b0 : Nat} {v : Value} {d : DataW H} {p : List MemPlace} (hv : Value.okWide Tryz.prog W r b0 28 v) (h : DataW.Trod enc Tryz.prog W 0 (fun _ => true) held 28 v d p) : ∃ (bb : Bool) (bt : ByteArray), v = zV bb bt := by
  obtain ⟨cs, rfl, hsz⟩ := okWide_struct Tryz.underlying28 hv
  obtain ⟨c0, c1, rfl⟩ := array2 (hsz.trans (show Tryz.prog.cellsOf 28 = 2 from by kernel_rfl))
  obtain ⟨fuel, hf⟩ := h
  have hf : DataW.trod enc Tryz.prog W 0 (fun _ => true) held fuel 28 [c0, c1] = some (d, p) := hf
  obtain ⟨n3, y3, g3⟩ := trod_at Tryz.underlying28 hf 0 _ rfl 1 (by kernel_rfl)
  have g3 : DataW.trod enc Tryz.prog W 0 (fun _ => true) held n3 4 [c0] = some y3 := g3
  obtain ⟨n4, y4, g4⟩ := trod_at Tryz.underlying28 hf 1 _ rfl 1 (by kernel_rfl)
  have g4 : DataW.trod enc Tryz.prog W 0 (fun _ => true) held n4 22 [c1] = some y4 := g4
  obtain ⟨s0, e0, _⟩ := DataW.trod_bool Tryz.underlying4 g3
  obtain ⟨s1, e1, _⟩ := DataW.trod_string Tryz.underlying22 g4
  simp only [List.cons.injEq, and_true] at e0 e1
  subst e0 e1
  exact ⟨s0, s1, rfl⟩
end
set_option maxRecDepth 100000 in
theorem adds_lifted (os : Os) (started : os.Started) (H : Type) (enc : TypeId × Value → H) :
    ReturnsInHanded {} Tryz.checked os 5 .any (Rows.pedersenAddsSpec.pre6 enc Tryz.prog Tryz.f5 Rows.pedersenAddsRow.domain false) (Rows.pedersenAddsSpec.post enc Tryz.prog Tryz.f5 false true false false) := by
  refine returnsInHanded_of_change (C := Tryz.checked) ownP started (by kernel_rfl) Tryz.func5
    (ChangeSpec.witness6 (enc := enc) (C := Tryz.checked) false ⟨#[], #[.agg #[.string ⟨#[]⟩, .string ⟨#[]⟩, .string ⟨#[]⟩, .string ⟨#[]⟩], .agg #[.string ⟨#[]⟩, .string ⟨#[]⟩], .agg #[.bool false, .string ⟨#[]⟩]], []⟩ 8 (by kernel_rfl) (by kernel_rfl) (by kernel_rfl) (by kernel_rfl)) ?_
  intro W base args ds gs before hval0 hW hcnd _
  have hval : ∀ (j : Nat) t v, Tryz.f5.params[j]? = some t → args[j]? = some v → Value.okWide Tryz.prog W .any base t v := hval0
  have hW' := hW
  obtain ⟨p, q, hA0, hV, rfl, hfz, hnd⟩ := hW
  have hA : DataW.TrodAll enc Tryz.prog W 0 (fun _ => true) true Tryz.f5.params.toList args.toList ds p := hA0
  rw [Tryz.params5] at hA hval
  obtain ⟨v0, vs0, d0, ds0, p0, q0, hargs, rfl, rfl, h0, r0⟩ := trodAll_cons hA
  obtain ⟨v1, vs1, d1, ds1, p1, q1, rfl, rfl, rfl, h1, r1⟩ := trodAll_cons r0
  obtain ⟨v2, vs2, d2, ds2, p2, q2, rfl, rfl, rfl, h2, r2⟩ := trodAll_cons r1
  obtain ⟨rfl, rfl, rfl⟩ := trodAll_nil r2
  obtain rfl : args = #[v0, v1, v2] := by cases args; simp_all
  obtain ⟨rfl, rfl⟩ := trodVars_none hV
  have k0 := h0
  have lt0 : ∀ x ∈ p0, x.block < W.heap.size := by obtain ⟨m, hm⟩ := k0; exact DataW.trod_lt m _ _ _ hm
  have k1 := h1
  have lt1 : ∀ x ∈ p1, x.block < W.heap.size := by obtain ⟨m, hm⟩ := k1; exact DataW.trod_lt m _ _ _ hm
  have k2 := h2
  have lt2 : ∀ x ∈ p2, x.block < W.heap.size := by obtain ⟨m, hm⟩ := k2; exact DataW.trod_lt m _ _ _ hm
  obtain ⟨M, O, G, K, rfl⟩ := open_key (hval 0 26 v0 rfl rfl) h0
  obtain ⟨ca, cb, rfl⟩ := open_pair (hval 1 48 v1 rfl rfl) h1
  obtain ⟨bb, bt, rfl⟩ := open_int1 (hval 2 28 v2 rfl rfl) h2
  clear hA0 hval0
  refine (walk_adds M O G K ca cb bb bt W).mono fun e W' ⟨he, bel⟩ => ?_
  subst he
  exact ⟨_, rfl, _, _, _, [], _, [], hW', trodAll_mk1 (shut_bool Tryz.underlying4 _), (trodAll_cons_mk (Below.trod laidOutP (by kernel_rfl) (of_decide_eq_true (by kernel_rfl)) k0 bel lt0) (trodAll_cons_mk (Below.trod laidOutP (by kernel_rfl) (of_decide_eq_true (by kernel_rfl)) k1 bel lt1) (trodAll_cons_mk (Below.trod laidOutP (by kernel_rfl) (of_decide_eq_true (by kernel_rfl)) k2 bel lt2) trodAll_mk0))), rfl, bel.frame _, fun h => by cases h⟩

/-- The given statement. -/
theorem adds_proved : Rows.PedersenAddsSaid :=
  OpenClaim.holds_of_wide 5 Tryz.f5 rfl rfl rfl rfl rfl rfl rfl ⟨rfl, rfl, rfl, rfl, rfl⟩ rfl rfl rfl rfl rfl (by kernel_rfl) Tryz.func5 (by kernel_rfl)
    (of_decide_eq_true (by kernel_rfl)) (by unfold Func.isWrapper; first | (rw [if_pos (by decide +kernel)]; kernel_rfl) | (rw [if_neg (by decide +kernel)]; exact ⟨rfl, rfl⟩))
    (fun os started H enc _ => adds_lifted os started H enc)
#print axioms adds_proved
end Go.Proofs.YtnnfgphioapmnaaGreat

/- PedersenBinds: for every key and two openings the law returns true and leaves its arguments as they were. No condition. -/
import Derived.Test.YtnnfgphioapmnaaPeFB
import Derived.Test.YtnnfgphioapmnaaRows
import Derived.ProofKit
import Derived.OpenShut
import Derived.ShutString
import Derived.ChangeOld
import Derived.Below
import Derived.Carry
import Derived.Deep.Slices
import Derived.Deep.Fields
import Derived.ChangeSame
import Derived.Lib.SmallJoins
set_option linter.unusedVariables false
set_option linter.unusedSimpArgs false
namespace Go.Proofs.Ytnnfgphioapmnaa
open Go.ChangeShapes Go.WideShapes Go.ChangeAt Go.Deep Go.Joins Go.RowKit
open Go.ChangeMaps (open_string shut_string)

theorem ownP : ownKnob Try.prog.godebug = none := by kernel_rfl
theorem laidOutP : laidOutB Try.prog = true := by kernel_rfl
section
variable {H : Type} {enc : TypeId × Value → H} {W : World} {sp : Nat → Bool} {held : Bool}
/-- A field's cells. -/
theorem trod_at {P : Program} {w : World} {base : Nat} {spare : Nat → Bool} {fuel : Nat} {t : TypeId} {cs : List Value} {x : DataW H × List MemPlace} {fs : Array Field} (ht : P.underlying t = some (.struct fs)) (h : DataW.trod enc P w base spare held fuel t cs = some x) (i : Nat) (f : Field) (hf : fs[i]? = some f) (k : Nat) (hk : P.cellsOf f.type = k) :
    ∃ n y, DataW.trod enc P w base spare held n f.type ((cs.drop f.offset).take k) = some y := by
  obtain ⟨xs, n, _, _, _, hl, hx⟩ := DataW.trod_struct ht h
  have h1 := hx i f hf
  have hi : i < xs.length := by rw [hl]; exact (Array.getElem?_eq_some_iff.1 hf).1
  rw [hk, List.getElem?_eq_getElem hi] at h1
  exact ⟨n, _, h1⟩
theorem trod_len {P : Program} {w : World} {base : Nat} {spare : Nat → Bool} {fuel : Nat} {t : TypeId} {cs : List Value} {x : DataW H × List MemPlace} {fs : Array Field} (ht : P.underlying t = some (.struct fs)) (h : DataW.trod enc P w base spare held fuel t cs = some x) : cs.length = P.cellsOf t := by
  obtain ⟨_, _, _, _, h1, _, _⟩ := DataW.trod_struct ht h
  exact h1

theorem four_of {cs : List Value} (h : cs.length = 4) : ∃ c0 c1 c2 c3, cs = [c0, c1, c2, c3] :=
  match cs, h with
  | [c0, c1, c2, c3], _ => ⟨c0, c1, c2, c3, rfl⟩
set_option maxRecDepth 100000 in
theorem open_key {r : Reach} {b0 : Nat} {v : Value} {d : DataW H} {p : List MemPlace} (hv : Value.okWide Try.prog W r b0 26 v) (h : DataW.Trod enc Try.prog W 0 (fun _ => true) held 26 v d p) : ∃ M O G K : ByteArray, v = kV M O G K ∧ O.size ≤ maxLen := by
  obtain ⟨cs, rfl, hsz⟩ := okWide_struct Try.underlying26 hv
  obtain ⟨c0, c1, c2, c3, rfl⟩ := array4 (hsz.trans (show Try.prog.cellsOf 26 = 4 from by kernel_rfl))
  obtain ⟨fuel, hf⟩ := h
  have hf : DataW.trod enc Try.prog W 0 (fun _ => true) held fuel 26 [c0, c1, c2, c3] = some (d, p) := hf
  obtain ⟨n1, y1, g1⟩ := trod_at Try.underlying26 hf 0 _ rfl 2 (by kernel_rfl)
  have g1 : DataW.trod enc Try.prog W 0 (fun _ => true) held n1 24 [c0, c1] = some y1 := g1
  obtain ⟨n2, y2, g2⟩ := trod_at Try.underlying26 hf 1 _ rfl 1 (by kernel_rfl)
  have g2 : DataW.trod enc Try.prog W 0 (fun _ => true) held n2 22 [c2] = some y2 := g2
  obtain ⟨n3, y3, g3⟩ := trod_at Try.underlying26 hf 2 _ rfl 1 (by kernel_rfl)
  have g3 : DataW.trod enc Try.prog W 0 (fun _ => true) held n3 22 [c3] = some y3 := g3
  obtain ⟨n4, y4, g4⟩ := trod_at Try.underlying24 g1 0 _ rfl 1 (by kernel_rfl)
  have g4 : DataW.trod enc Try.prog W 0 (fun _ => true) held n4 22 [c0] = some y4 := g4
  obtain ⟨n5, y5, g5⟩ := trod_at Try.underlying24 g1 1 _ rfl 1 (by kernel_rfl)
  have g5 : DataW.trod enc Try.prog W 0 (fun _ => true) held n5 22 [c1] = some y5 := g5
  obtain ⟨s0, e0, _⟩ := DataW.trod_string Try.underlying22 g4
  obtain ⟨s1, e1, _, z1⟩ := DataW.trod_string Try.underlying22 g5
  obtain ⟨s2, e2, _⟩ := DataW.trod_string Try.underlying22 g2
  obtain ⟨s3, e3, _⟩ := DataW.trod_string Try.underlying22 g3
  simp only [List.cons.injEq, and_true] at e0 e1 e2 e3
  subst e0 e1 e2 e3
  exact ⟨s0, s1, s2, s3, rfl, z1⟩
theorem trod_array {P : Program} {w : World} {base : Nat} {spare : Nat → Bool} {fuel : Nat} {t e : TypeId} {n : Nat} {cs : List Value} {x : DataW H × List MemPlace} (ht : P.underlying t = some (.array n e)) (h : DataW.trod enc P w base spare held fuel t cs = some x) (i : Nat) (hi : i < n) (k : Nat) (hk : P.cellsOf e = k) :
    ∃ m y, DataW.trod enc P w base spare held m e ((cs.drop (i * k)).take k) = some y := by
  cases fuel with
  | zero => simp [DataW.trod] at h
  | succ m =>
    unfold DataW.trod at h
    rw [ht] at h
    subst hk
    split at h <;> first | (exfalso; simp at *; done) | skip
    rename_i hx
    simp only [Option.some.injEq, TypeDesc.array.injEq] at hx
    obtain ⟨rfl, rfl⟩ := hx
    split at h
    · rw [Option.map_eq_some_iff] at h
      obtain ⟨xs, hp, hd⟩ := h
      have h1 := mapM_some_get hp i i (by simp [hi])
      have h2 : i < xs.length := by rw [mapM_some_length hp]; simpa using hi
      rw [List.getElem?_eq_getElem h2] at h1
      exact ⟨m, _, h1⟩
    · cases h
theorem okWide_array {P : Program} {w : World} {r : Reach} {base : Nat} {t e : TypeId} {n : Nat} {v : Value} (ht : P.underlying t = some (.array n e)) (h : Value.okWide P w r base t v) : ∃ cs, v = .agg cs ∧ cs.size = P.cellsOf t := by
  simp only [Value.okWide, ht] at h
  obtain ⟨cs, h1, h2, _⟩ := h
  exact ⟨cs, h1, h2⟩
theorem array2 {α : Type} {cs : Array α} (h : cs.size = 2) : ∃ a b, cs = #[a, b] := by
  obtain ⟨l⟩ := cs
  match l, h with
  | [a, b], _ => exact ⟨a, b, rfl⟩
theorem array8 {α : Type} {cs : Array α} (h : cs.size = 8) : ∃ a b c d e f g i, cs = #[a, b, c, d, e, f, g, i] := by
  obtain ⟨l⟩ := cs
  match l, h with
  | [a, b, c, d, e, f, g, i], _ => exact ⟨a, b, c, d, e, f, g, i, rfl⟩
theorem opening_cells {fuel : Nat} {c0 c1 c2 c3 : Value} {x : DataW H × List MemPlace} (hf : DataW.trod enc Try.prog W 0 (fun _ => true) held fuel 43 [c0, c1, c2, c3] = some x) : ∃ (vb : Bool) (vt : ByteArray) (rb : Bool) (rt : ByteArray), c0 = .bool vb ∧ c1 = .string vt ∧ c2 = .bool rb ∧ c3 = .string rt := by
  obtain ⟨n1, y1, g1⟩ := trod_at Try.underlying43 hf 0 _ rfl 2 (by kernel_rfl)
  have g1 : DataW.trod enc Try.prog W 0 (fun _ => true) held n1 38 [c0, c1] = some y1 := g1
  obtain ⟨n2, y2, g2⟩ := trod_at Try.underlying43 hf 1 _ rfl 2 (by kernel_rfl)
  have g2 : DataW.trod enc Try.prog W 0 (fun _ => true) held n2 38 [c2, c3] = some y2 := g2
  obtain ⟨n3, y3, g3⟩ := trod_at Try.underlying38 g1 0 _ rfl 1 (by kernel_rfl)
  have g3 : DataW.trod enc Try.prog W 0 (fun _ => true) held n3 4 [c0] = some y3 := g3
  obtain ⟨n4, y4, g4⟩ := trod_at Try.underlying38 g1 1 _ rfl 1 (by kernel_rfl)
  have g4 : DataW.trod enc Try.prog W 0 (fun _ => true) held n4 22 [c1] = some y4 := g4
  obtain ⟨n5, y5, g5⟩ := trod_at Try.underlying38 g2 0 _ rfl 1 (by kernel_rfl)
  have g5 : DataW.trod enc Try.prog W 0 (fun _ => true) held n5 4 [c2] = some y5 := g5
  obtain ⟨n6, y6, g6⟩ := trod_at Try.underlying38 g2 1 _ rfl 1 (by kernel_rfl)
  have g6 : DataW.trod enc Try.prog W 0 (fun _ => true) held n6 22 [c3] = some y6 := g6
  obtain ⟨s0, e0, _⟩ := DataW.trod_bool Try.underlying4 g3
  obtain ⟨s1, e1, _⟩ := DataW.trod_string Try.underlying22 g4
  obtain ⟨s2, e2, _⟩ := DataW.trod_bool Try.underlying4 g5
  obtain ⟨s3, e3, _⟩ := DataW.trod_string Try.underlying22 g6
  simp only [List.cons.injEq, and_true] at e0 e1 e2 e3
  exact ⟨s0, s1, s2, s3, e0, e1, e2, e3⟩
set_option maxRecDepth 100000 in
theorem open_pairO {r : Reach} {b0 : Nat} {v : Value} {d : DataW H} {p : List MemPlace} (hv : Value.okWide Try.prog W r b0 46 v) (h : DataW.Trod enc Try.prog W 0 (fun _ => true) held 46 v d p) : ∃ (a0 : Bool) (a1 : ByteArray) (a2 : Bool) (a3 : ByteArray) (a4 : Bool) (a5 : ByteArray) (a6 : Bool) (a7 : ByteArray), v = .agg #[.bool a0, .string a1, .bool a2, .string a3, .bool a4, .string a5, .bool a6, .string a7] := by
  obtain ⟨cs, rfl, hsz⟩ := okWide_array Try.underlying46 hv
  obtain ⟨c0, c1, c2, c3, c4, c5, c6, c7, rfl⟩ := array8 (hsz.trans (show Try.prog.cellsOf 46 = 8 from by kernel_rfl))
  obtain ⟨fuel, hf⟩ := h
  have hf : DataW.trod enc Try.prog W 0 (fun _ => true) held fuel 46 [c0, c1, c2, c3, c4, c5, c6, c7] = some (d, p) := hf
  obtain ⟨n1, y1, g1⟩ := trod_array Try.underlying46 hf 0 (by decide) 4 (by kernel_rfl)
  have g1 : DataW.trod enc Try.prog W 0 (fun _ => true) held n1 43 [c0, c1, c2, c3] = some y1 := g1
  obtain ⟨n2, y2, g2⟩ := trod_array Try.underlying46 hf 1 (by decide) 4 (by kernel_rfl)
  have g2 : DataW.trod enc Try.prog W 0 (fun _ => true) held n2 43 [c4, c5, c6, c7] = some y2 := g2
  obtain ⟨s0, s1, s2, s3, rfl, rfl, rfl, rfl⟩ := opening_cells g1
  obtain ⟨s4, s5, s6, s7, rfl, rfl, rfl, rfl⟩ := opening_cells g2
  exact ⟨s0, s1, s2, s3, s4, s5, s6, s7, rfl⟩
end
set_option maxRecDepth 100000 in
theorem binds_lifted (os : Os) (started : os.Started) (H : Type) (enc : TypeId × Value → H) :
    ReturnsInHanded {} Try.checked os 4 .any (Rows.pedersenBindsSpec.pre6 enc Try.prog Try.f4 Rows.pedersenBindsRow.domain false) (Rows.pedersenBindsSpec.post enc Try.prog Try.f4 false true false false) := by
  refine returnsInHanded_of_change (C := Try.checked) ownP started (by kernel_rfl) Try.func4
    (ChangeSpec.witness6 (enc := enc) (C := Try.checked) false ⟨#[], #[.agg #[.string ⟨#[]⟩, .string ⟨#[]⟩, .string ⟨#[]⟩, .string ⟨#[]⟩], .agg #[.bool false, .string ⟨#[]⟩, .bool false, .string ⟨#[]⟩, .bool false, .string ⟨#[]⟩, .bool false, .string ⟨#[]⟩]], []⟩ 8 (by kernel_rfl) (by kernel_rfl) (by kernel_rfl) (by kernel_rfl)) ?_
  intro W base args ds gs before hval0 hW hcnd _
  have hval : ∀ (j : Nat) t v, Try.f4.params[j]? = some t → args[j]? = some v → Value.okWide Try.prog W .any base t v := hval0
  have hW' := hW
  obtain ⟨p, q, hA0, hV, rfl, hfz, hnd⟩ := hW
  have hA : DataW.TrodAll enc Try.prog W 0 (fun _ => true) true Try.f4.params.toList args.toList ds p := hA0
  rw [Try.params4] at hA hval
  obtain ⟨v0, vs0, d0, ds0, p0, q0, hargs, rfl, rfl, h0, r0⟩ := trodAll_cons hA
  obtain ⟨v1, vs1, d1, ds1, p1, q1, rfl, rfl, rfl, h1, r1⟩ := trodAll_cons r0
  obtain ⟨rfl, rfl, rfl⟩ := trodAll_nil r1
  obtain rfl : args = #[v0, v1] := by cases args; simp_all
  obtain ⟨rfl, rfl⟩ := trodVars_none hV
  have k0 := h0
  have lt0 : ∀ x ∈ p0, x.block < W.heap.size := by obtain ⟨m, hm⟩ := k0; exact DataW.trod_lt m _ _ _ hm
  have k1 := h1
  have lt1 : ∀ x ∈ p1, x.block < W.heap.size := by obtain ⟨m, hm⟩ := k1; exact DataW.trod_lt m _ _ _ hm
  obtain ⟨M, O, G, K, rfl, hO⟩ := open_key (hval 0 26 v0 rfl rfl) h0
  obtain ⟨a0, a1, a2, a3, a4, a5, a6, a7, rfl⟩ := open_pairO (hval 1 46 v1 rfl rfl) h1
  clear hA0 hval0
  refine (walk_binds M O G K a0 a1 a2 a3 a4 a5 a6 a7 (by unfold maxLen at hO; exact hO) W).mono fun e W' ⟨he, bel⟩ => ?_
  subst he
  exact ⟨_, rfl, _, _, _, [], _, [], hW', trodAll_mk1 (shut_bool Try.underlying4 _), (trodAll_cons_mk (Below.trod laidOutP (by kernel_rfl) (of_decide_eq_true (by kernel_rfl)) k0 bel lt0) (trodAll_cons_mk (Below.trod laidOutP (by kernel_rfl) (of_decide_eq_true (by kernel_rfl)) k1 bel lt1) trodAll_mk0)), rfl, bel.frame _, fun h => by cases h⟩

/-- The given statement. -/
theorem binds_proved : Rows.PedersenBindsSaid :=
  OpenClaim.holds_of_wide 4 Try.f4 rfl rfl rfl rfl rfl rfl rfl ⟨rfl, rfl, rfl, rfl, rfl⟩ rfl rfl rfl rfl rfl (by kernel_rfl) Try.func4 (by kernel_rfl)
    (of_decide_eq_true (by kernel_rfl)) (by unfold Func.isWrapper; first | (rw [if_pos (by decide +kernel)]; kernel_rfl) | (rw [if_neg (by decide +kernel)]; exact ⟨rfl, rfl⟩))
    (fun os started H enc _ => binds_lifted os started H enc)
#print axioms binds_proved
end Go.Proofs.Ytnnfgphioapmnaa

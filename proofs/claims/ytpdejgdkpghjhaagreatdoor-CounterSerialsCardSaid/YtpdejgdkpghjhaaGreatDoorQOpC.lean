/- The laws CounterBases, CounterSerials, CounterLinks, walked. -/
import Derived.Test.YtpdejgdkpghjhaaGreatDoorQCtL
import Derived.Test.YtpdejgdkpghjhaaGreatDoorQOpQ
import Derived.Stop.LaidErr
import Derived.Deep.Slices
import Derived.MakeChecks
set_option linter.unusedVariables false
set_option linter.unusedSimpArgs false
namespace Go.Proofs.YtpdejgdkpghjhaaGreatDoor
open Go.RowKit Go.Lib
theorem few_of {x : Cs} (h : x.few = true) : x.M.size ≤ 8 ∧ x.O.size ≤ 10 ∧ x.G.size ≤ 20 ∧ x.H.size ≤ 20 ∧ x.s.size ≤ 200 ∧ x.X.size ≤ 20 := by
  unfold Cs.few at h
  rw [Bool.and_eq_true] at h
  obtain ⟨a, b, c, d, e⟩ := few49_of h.1
  exact ⟨a, b, c, d, of_decide_eq_true h.2, e x.X (by simp)⟩
set_option maxRecDepth 100000 in
set_option maxHeartbeats 2000000 in
theorem walk_bases (x : Cs) (w : World) (hp : x.p < 9223372036854775808) (hp2 : -9223372036854775808 ≤ x.p) (ht : T10 w) : Calls Tryz.prog 3 #[.agg x.arr] w (Ret (.bool true) w) := by
  have hx0 := XB.new w x
  have ht0 := ht.next ((Below.refl _ _).alloc (Nat.le_refl _) (.cells x.arr 28))
  have HFW := Lib.hid (case_few x)
  have HAW := Lib.hid law49_awake
  obtain ⟨W0, hW0⟩ : ∃ W, w.alloc (.cells x.arr 28) = W := ⟨_, rfl⟩
  rw [hW0] at hx0 ht0
  have HX0 := Lib.hid hx0
  have HTHX0 := Lib.hid ht0
  obtain ⟨c0, c1, c2, c3, c4, c5, c6, c7, c8, c9, c10, c11⟩ := hx0.cells
  clear hx0 ht0 ht
  cases hf : x.few with
  | false =>
    rw [hf] at HFW
    clear hf
    unfold Cs.arr at *
    try unfold kV at *
    go_enter Tryz.func3, Tryz.ntmps3
    go_wp2_with fail
    try rw [hW0]
    clear hW0
    refine (HFW.out _).mono ?_
    rintro ev w1 ⟨rfl, hb⟩
    have hx := HX0.out.next hb
    have HTHX1 := Lib.hid (HTHX0.out.next hb)
    have HX1 := Lib.hid hx
    clear hb c0 c1 c2 c3 c4 c5 c6 c7 c8 c9 c10 c11
    obtain ⟨c0, c1, c2, c3, c4, c5, c6, c7, c8, c9, c10, c11⟩ := hx.cells
    clear hx
    go_wp2_with fail
    refine (HAW.out _ HTHX1.out).mono ?_
    rintro ev w2 ⟨rfl, hb⟩
    have hx := HX1.out.next hb
    have HTHX2 := Lib.hid (HTHX1.out.next hb)
    have HX2 := Lib.hid hx
    clear hb c0 c1 c2 c3 c4 c5 c6 c7 c8 c9 c10 c11
    obtain ⟨c0, c1, c2, c3, c4, c5, c6, c7, c8, c9, c10, c11⟩ := hx.cells
    clear hx
    go_wp2
    go_ret
    exact ⟨rfl, HX2.out.2⟩
  | true =>
    obtain ⟨f1, f2, f3, f4, f5, f6⟩ := few_of hf
    have HB1 := Lib.hid (fun w ht => ct_Base x.M x.O x.G x.H x.s x.p f1 (by omega) (by omega) (by omega) (by omega) hp hp2 w ht)
    have HB2 := Lib.hid (fun w ht => r49_Base x.M x.O x.G x.H x.s x.p f1 (by omega) (by omega) (by omega) (by omega) hp hp2 w ht)
    obtain ⟨rs, re, hr⟩ := bsR_form x.M x.O x.G x.H x.s.data.toList x.p 0 []
    rw [hr] at HB1 HB2
    rw [hf] at HFW
    clear hf f1 f2 f3 f4 f5 f6 hr hp hp2
    unfold Cs.arr at *
    try unfold kV at *
    go_enter Tryz.func3, Tryz.ntmps3
    go_wp2_with fail
    try rw [hW0]
    clear hW0
    refine (HFW.out _).mono ?_
    rintro ev w1 ⟨rfl, hb⟩
    have hx := HX0.out.next hb
    have HTHX1 := Lib.hid (HTHX0.out.next hb)
    have HX1 := Lib.hid hx
    clear hb c0 c1 c2 c3 c4 c5 c6 c7 c8 c9 c10 c11
    obtain ⟨c0, c1, c2, c3, c4, c5, c6, c7, c8, c9, c10, c11⟩ := hx.cells
    clear hx
    go_wp2_with fail
    refine (HB1.out _ HTHX1.out).mono ?_
    rintro ev w2 ⟨rfl, hb⟩
    have hx := HX1.out.next hb
    have HTHX2 := Lib.hid (HTHX1.out.next hb)
    have HX2 := Lib.hid hx
    clear hb c0 c1 c2 c3 c4 c5 c6 c7 c8 c9 c10 c11
    obtain ⟨c0, c1, c2, c3, c4, c5, c6, c7, c8, c9, c10, c11⟩ := hx.cells
    clear hx
    go_wp2_with fail
    refine (HB2.out _ HTHX2.out).mono ?_
    rintro ev w3 ⟨rfl, hb⟩
    have hx := HX2.out.next hb
    have HTHX3 := Lib.hid (HTHX2.out.next hb)
    have HX3 := Lib.hid hx
    clear hb c0 c1 c2 c3 c4 c5 c6 c7 c8 c9 c10 c11
    obtain ⟨c0, c1, c2, c3, c4, c5, c6, c7, c8, c9, c10, c11⟩ := hx.cells
    clear hx
    go_wp2_with fail
    refine (HAW.out _ HTHX3.out).mono ?_
    rintro ev w4 ⟨rfl, hb⟩
    have hx := HX3.out.next hb
    have HTHX4 := Lib.hid (HTHX3.out.next hb)
    have HX4 := Lib.hid hx
    clear hb c0 c1 c2 c3 c4 c5 c6 c7 c8 c9 c10 c11
    obtain ⟨c0, c1, c2, c3, c4, c5, c6, c7, c8, c9, c10, c11⟩ := hx.cells
    clear hx
    go_wp2
    go_ret
    exact ⟨rfl, HX4.out.2⟩
set_option maxRecDepth 100000 in
set_option maxHeartbeats 2000000 in
theorem walk_serials (x : Cs) (w : World) (hp : x.p < 9223372036854775808) (hp2 : -9223372036854775808 ≤ x.p) (hc : x.c < 9223372036854775808) (ht : T10 w) : Calls Tryz.prog 4 #[.agg x.arr] w (Ret (.bool true) w) := by
  have hx0 := XB.new w x
  have ht0 := ht.next ((Below.refl _ _).alloc (Nat.le_refl _) (.cells x.arr 28))
  have HFW := Lib.hid (case_few x)
  have HAW := Lib.hid law49_awake
  obtain ⟨W0, hW0⟩ : ∃ W, w.alloc (.cells x.arr 28) = W := ⟨_, rfl⟩
  rw [hW0] at hx0 ht0
  have HX0 := Lib.hid hx0
  have HTHX0 := Lib.hid ht0
  obtain ⟨c0, c1, c2, c3, c4, c5, c6, c7, c8, c9, c10, c11⟩ := hx0.cells
  clear hx0 ht0 ht
  cases hf : x.few with
  | false =>
    rw [hf] at HFW
    clear hf
    unfold Cs.arr at *
    try unfold kV at *
    go_enter Tryz.func4, Tryz.ntmps4
    go_wp2_with fail
    try rw [hW0]
    clear hW0
    refine (HFW.out _).mono ?_
    rintro ev w1 ⟨rfl, hb⟩
    have hx := HX0.out.next hb
    have HTHX1 := Lib.hid (HTHX0.out.next hb)
    have HX1 := Lib.hid hx
    clear hb c0 c1 c2 c3 c4 c5 c6 c7 c8 c9 c10 c11
    obtain ⟨c0, c1, c2, c3, c4, c5, c6, c7, c8, c9, c10, c11⟩ := hx.cells
    clear hx
    go_wp2_with fail
    refine (HAW.out _ HTHX1.out).mono ?_
    rintro ev w2 ⟨rfl, hb⟩
    have hx := HX1.out.next hb
    have HTHX2 := Lib.hid (HTHX1.out.next hb)
    have HX2 := Lib.hid hx
    clear hb c0 c1 c2 c3 c4 c5 c6 c7 c8 c9 c10 c11
    obtain ⟨c0, c1, c2, c3, c4, c5, c6, c7, c8, c9, c10, c11⟩ := hx.cells
    clear hx
    go_wp2
    go_ret
    exact ⟨rfl, HX2.out.2⟩
  | true =>
    obtain ⟨f1, f2, f3, f4, f5, f6⟩ := few_of hf
    obtain ⟨bs, be, hb⟩ := bsR_form x.M x.O x.G x.H x.s.data.toList x.p x.c [x.X]
    have HB1 := Lib.hid (fun w ht => ct_Serial x.M x.O x.G x.H x.s x.X x.p x.c bs be f1 (by omega) (by omega) (by omega) (by omega) (by omega) hp hp2 hc hb w ht)
    have HB2 := Lib.hid (fun w ht => r49_Serial x.M x.O x.G x.H x.s x.X x.p x.c bs be f1 (by omega) (by omega) (by omega) (by omega) (by omega) hp hp2 hc hb w ht)
    obtain ⟨rs, re, hr⟩ : ∃ rs re, srV x.M x.O x.X x.c bs be = .tuple #[.string rs, .int .i64 re] := by
      unfold srV
      split
      · exact srP_form _ _ _ _ _
      · exact ⟨_, _, rfl⟩
    rw [hr] at HB1 HB2
    rw [hf] at HFW
    clear hf f1 f2 f3 f4 f5 f6 hr hp hp2 hc hb
    unfold Cs.arr at *
    try unfold kV at *
    go_enter Tryz.func4, Tryz.ntmps4
    go_wp2_with fail
    try rw [hW0]
    clear hW0
    refine (HFW.out _).mono ?_
    rintro ev w1 ⟨rfl, hb⟩
    have hx := HX0.out.next hb
    have HTHX1 := Lib.hid (HTHX0.out.next hb)
    have HX1 := Lib.hid hx
    clear hb c0 c1 c2 c3 c4 c5 c6 c7 c8 c9 c10 c11
    obtain ⟨c0, c1, c2, c3, c4, c5, c6, c7, c8, c9, c10, c11⟩ := hx.cells
    clear hx
    go_wp2_with fail
    refine (HB1.out _ HTHX1.out).mono ?_
    rintro ev w2 ⟨rfl, hb⟩
    have hx := HX1.out.next hb
    have HTHX2 := Lib.hid (HTHX1.out.next hb)
    have HX2 := Lib.hid hx
    clear hb c0 c1 c2 c3 c4 c5 c6 c7 c8 c9 c10 c11
    obtain ⟨c0, c1, c2, c3, c4, c5, c6, c7, c8, c9, c10, c11⟩ := hx.cells
    clear hx
    go_wp2_with fail
    refine (HB2.out _ HTHX2.out).mono ?_
    rintro ev w3 ⟨rfl, hb⟩
    have hx := HX2.out.next hb
    have HTHX3 := Lib.hid (HTHX2.out.next hb)
    have HX3 := Lib.hid hx
    clear hb c0 c1 c2 c3 c4 c5 c6 c7 c8 c9 c10 c11
    obtain ⟨c0, c1, c2, c3, c4, c5, c6, c7, c8, c9, c10, c11⟩ := hx.cells
    clear hx
    go_wp2_with fail
    refine (HAW.out _ HTHX3.out).mono ?_
    rintro ev w4 ⟨rfl, hb⟩
    have hx := HX3.out.next hb
    have HTHX4 := Lib.hid (HTHX3.out.next hb)
    have HX4 := Lib.hid hx
    clear hb c0 c1 c2 c3 c4 c5 c6 c7 c8 c9 c10 c11
    obtain ⟨c0, c1, c2, c3, c4, c5, c6, c7, c8, c9, c10, c11⟩ := hx.cells
    clear hx
    go_wp2
    go_ret
    exact ⟨rfl, HX4.out.2⟩
theorem lkV_form (o : Option (Nat × Nat)) : ∃ a b c, lkV o = .tuple #[.int .i64 a, .int .i64 b, .bool c] := by
  rcases o with _ | ⟨i, k⟩
  · exact ⟨_, _, _, rfl⟩
  · exact ⟨_, _, _, rfl⟩
set_option maxRecDepth 100000 in
set_option maxHeartbeats 2000000 in
theorem walk_links (l : List ByteArray) (A : Option Addr) (n cap : Nat) (hlz : ∀ x ∈ l, x.size ≤ maxLen) (w : World) (hsl : SlN w A n cap l) (ht : T10 w) : Calls Tryz.prog 5 #[.slice A n cap] w (Ret (.bool true) w) := by
  have HAW := Lib.hid law49_awake
  have HT := Lib.hid ht
  have hcap := hsl.2.1
  have hcap2 := hsl.2.2.1
  by_cases hn : 60 < n
  · have i1 : decide ((60 : Int) < (n : Int)) = true := decide_eq_true (by omega)
    clear hsl ht hn
    go_enter Tryz.func5, Tryz.ntmps5
    go_wp2_with fail
    refine (HAW.out _ HT.out).mono ?_
    rintro ev w1 ⟨rfl, hb⟩
    have HB1 := Lib.hid hb
    clear hb
    go_wp2
    go_ret
    exact ⟨rfl, HB1.out⟩
  · have i1 : decide ((60 : Int) < (n : Int)) = false := decide_eq_false (by omega)
    have HL1 := Lib.hid (ct_Link l A n cap (by omega) hlz w hsl)
    have HL2 := Lib.hid (fun w' (h : Below w.heap.size w w') => r49_Link l A n cap (by omega) w' (hsl.kept h (Nat.le_refl _)))
    obtain ⟨a, b, c, hr⟩ := lkV_form (lkN l n)
    rw [hr] at HL1 HL2
    clear hsl ht hn hr
    go_enter Tryz.func5, Tryz.ntmps5
    go_wp2_with fail
    refine HL1.out.mono ?_
    rintro ev w1 ⟨rfl, hb⟩
    have HB1 := Lib.hid hb
    have HT1 := Lib.hid (HT.out.next hb)
    clear hb
    go_wp2_with fail
    refine (HL2.out _ HB1.out).mono ?_
    rintro ev w2 ⟨rfl, hb⟩
    have HB2 := Lib.hid (below_up HB1.out HB1.out.size hb)
    have HT2 := Lib.hid (HT1.out.next hb)
    clear hb
    go_wp2_with fail
    refine (HAW.out _ HT2.out).mono ?_
    rintro ev w3 ⟨rfl, hb⟩
    have HB3 := Lib.hid (below_up HB2.out HB2.out.size hb)
    clear hb
    go_wp2
    go_ret
    exact ⟨rfl, HB3.out⟩
end Go.Proofs.YtpdejgdkpghjhaaGreatDoor
/- The arguments opened: a case, a slice of numbers; the table of internal/strconv from the row's list. -/
set_option linter.unusedVariables false
set_option linter.unusedSimpArgs false
namespace Go.Proofs.YtpdejgdkpghjhaaGreatDoor
open Go.ChangeShapes Go.WideShapes Go.ChangeAt Go.Deep Go.Joins Go.RowKit
open Go.ChangeMaps (open_string shut_string)
theorem list_ofC {α : Type} {Q : Nat → α → Prop} : ∀ (n : Nat), (∀ i, i < n → ∃ e, Q i e) → ∃ l : List α, l.length = n ∧ ∀ k e, l[k]? = some e → Q k e
  | 0, _ => ⟨[], rfl, fun k e h => by simp at h⟩
  | n + 1, h => by
    obtain ⟨l, hl, hq⟩ := list_ofC n (fun i hi => h i (by omega))
    obtain ⟨e, he⟩ := h n (by omega)
    refine ⟨l ++ [e], by simp [hl], fun k e' hk => ?_⟩
    by_cases hkn : k < l.length
    · rw [List.getElem?_append_left hkn] at hk; exact hq k e' hk
    · rw [List.getElem?_append_right (by omega)] at hk
      have h0 : k - l.length = 0 := by
        rcases Nat.eq_zero_or_pos (k - l.length) with h0 | h0
        · exact h0
        · rw [List.getElem?_eq_none (by simp; omega)] at hk; cases hk
      rw [h0] at hk
      simp only [List.getElem?_cons_zero, Option.some.injEq] at hk
      subst hk
      rw [show k = n from by omega]
      exact he
theorem four_ofC {cs : List Value} (h : cs.length = 4) : ∃ c0 c1 c2 c3, cs = [c0, c1, c2, c3] :=
  match cs, h with
  | [c0, c1, c2, c3], _ => ⟨c0, c1, c2, c3, rfl⟩
theorem twelve {cs : List Value} (h : cs.length = 12) : ∃ a0 a1 a2 a3 a4 a5 a6 a7 a8 a9 a10 a11, cs = [a0, a1, a2, a3, a4, a5, a6, a7, a8, a9, a10, a11] :=
  match cs, h with
  | [a0, a1, a2, a3, a4, a5, a6, a7, a8, a9, a10, a11], _ => ⟨a0, a1, a2, a3, a4, a5, a6, a7, a8, a9, a10, a11, rfl⟩
theorem wf_intC {k : Int} (w : (Lit.int .i64 k).wf = true) : -9223372036854775808 ≤ k ∧ k ≤ 9223372036854775807 := by
  have h1 : IntKind.i64.min = -9223372036854775808 := rfl
  have h2 : IntKind.i64.max = 9223372036854775807 := rfl
  simp [Lit.wf, h1, h2] at w
  exact w
section
variable {H : Type} {enc : TypeId × Value → H} {W : World} {sp : Nat → Bool} {held : Bool}
theorem open_natsC {fuel : Nat} {cs : List Value} {x : DataW H × List MemPlace} (h : DataW.trod enc Tryz.prog W 0 (fun _ => true) held fuel 38 cs = some x) : ∃ A n c l, cs = [.slice A n c] ∧ SlN W A n c l ∧ ∀ s ∈ l, s.size ≤ maxLen := by
  rcases open_slice Tryz.underlying38 h with ⟨rfl, _⟩ | ⟨ad, len, cap, m, n, D, Pl, rfl, hb, hl, hm, hmm, hx, hi⟩
  · exact ⟨none, 0, 0, [], rfl, ⟨rfl, Nat.le_refl _, Nat.zero_le _, 0, 0, fun h => absurd h (Nat.lt_irrefl _), fun k s h => by simp at h⟩, fun s h => by cases h⟩
  · have hC : Tryz.prog.cellsOf 22 = 1 := by kernel_rfl
    have hq : ∀ i, i < len → ∃ s : ByteArray, W.cell? (ad.add i) = some (.string s) ∧ s.size ≤ maxLen := fun i hi' => by
      obtain ⟨cs', hc, ht'⟩ := hi i (by rw [hmm]; simp; omega)
      obtain ⟨s, e, _, z⟩ := DataW.trod_string Tryz.underlying22 ht'
      rw [hC, Nat.mul_one] at hc
      obtain ⟨_, hcl, hat⟩ := World.cells?_some hc
      have := hat 0 (by omega)
      rw [e] at this
      exact ⟨s, by simpa [Addr.add] using this, z⟩
    obtain ⟨l, hll, hq⟩ := list_ofC len hq
    refine ⟨some ad, len, cap, l, rfl, ⟨hll, hl, by unfold maxLen at hm; exact hm, ?_⟩, fun s hs => ?_⟩
    · rcases Nat.eq_zero_or_pos len with h0 | h0
      · exact ⟨0, 0, fun h => by omega, fun k e hk => by have := (List.getElem?_eq_some_iff.1 hk).1; omega⟩
      · obtain ⟨b, off, spot⟩ := ad
        obtain ⟨e, he⟩ : ∃ e, l[0]? = some e := ⟨_, List.getElem?_eq_getElem (by omega)⟩
        have h1 := (hq 0 e he).1
        have hspot : spot = none := by simpa [Addr.add] using World.cell?_spot h1
        subst hspot
        refine ⟨b, off, fun _ => rfl, fun k e hk => ?_⟩
        have := (hq k e hk).1
        rw [addr_add] at this
        exact this
    · obtain ⟨k, hk⟩ := List.getElem?_of_mem hs
      exact (hq k s hk).2
set_option maxRecDepth 100000 in
theorem open_keyC {fuel : Nat} {cs : List Value} {x : DataW H × List MemPlace} (h : DataW.trod enc Tryz.prog W 0 (fun _ => true) held fuel 26 cs = some x) : ∃ M O G K : ByteArray, cs = [.string M, .string O, .string G, .string K] := by
  obtain ⟨c0, c1, c2, c3, rfl⟩ := four_ofC ((trod_len Tryz.underlying26 h).trans (show Tryz.prog.cellsOf 26 = 4 from by kernel_rfl))
  obtain ⟨n1, y1, g1⟩ := trod_at Tryz.underlying26 h 0 _ rfl 2 (by kernel_rfl)
  have g1 : DataW.trod enc Tryz.prog W 0 (fun _ => true) held n1 24 [c0, c1] = some y1 := g1
  obtain ⟨n2, y2, g2⟩ := trod_at Tryz.underlying26 h 1 _ rfl 1 (by kernel_rfl)
  have g2 : DataW.trod enc Tryz.prog W 0 (fun _ => true) held n2 22 [c2] = some y2 := g2
  obtain ⟨n3, y3, g3⟩ := trod_at Tryz.underlying26 h 2 _ rfl 1 (by kernel_rfl)
  have g3 : DataW.trod enc Tryz.prog W 0 (fun _ => true) held n3 22 [c3] = some y3 := g3
  obtain ⟨n4, y4, g4⟩ := trod_at Tryz.underlying24 g1 0 _ rfl 1 (by kernel_rfl)
  have g4 : DataW.trod enc Tryz.prog W 0 (fun _ => true) held n4 22 [c0] = some y4 := g4
  obtain ⟨n5, y5, g5⟩ := trod_at Tryz.underlying24 g1 1 _ rfl 1 (by kernel_rfl)
  have g5 : DataW.trod enc Tryz.prog W 0 (fun _ => true) held n5 22 [c1] = some y5 := g5
  obtain ⟨s0, e0, _⟩ := DataW.trod_string Tryz.underlying22 g4
  obtain ⟨s1, e1, _⟩ := DataW.trod_string Tryz.underlying22 g5
  obtain ⟨s2, e2, _⟩ := DataW.trod_string Tryz.underlying22 g2
  obtain ⟨s3, e3, _⟩ := DataW.trod_string Tryz.underlying22 g3
  simp only [List.cons.injEq, and_true] at e0 e1 e2 e3
  subst e0 e1 e2 e3
  exact ⟨s0, s1, s2, s3, rfl⟩
set_option maxRecDepth 100000 in
theorem open_case {r : Reach} {b0 : Nat} {v : Value} {d : DataW H} {p : List MemPlace} (hv : Value.okWide Tryz.prog W r b0 28 v) (h : DataW.Trod enc Tryz.prog W 0 (fun _ => true) held 28 v d p) :
    ∃ x : Cs, v = .agg x.arr ∧ (-9223372036854775808 ≤ x.p ∧ x.p ≤ 9223372036854775807) ∧ (-9223372036854775808 ≤ x.c ∧ x.c ≤ 9223372036854775807) := by
  obtain ⟨cs, rfl, hsz⟩ := okWide_struct Tryz.underlying28 hv
  obtain ⟨fuel, hf⟩ := h
  have hf : DataW.trod enc Tryz.prog W 0 (fun _ => true) held fuel 28 cs.toList = some (d, p) := hf
  obtain ⟨a0, a1, a2, a3, a4, a5, a6, a7, a8, a9, a10, a11, hcs⟩ := twelve ((show cs.toList.length = cs.size from Array.length_toList).trans (hsz.trans (show Tryz.prog.cellsOf 28 = 12 from by kernel_rfl)))
  have hca : cs = #[a0, a1, a2, a3, a4, a5, a6, a7, a8, a9, a10, a11] := Array.toList_inj.1 hcs
  rw [hcs] at hf
  subst hca
  obtain ⟨n0, y0, g0⟩ := trod_at Tryz.underlying28 hf 0 _ rfl 4 (by kernel_rfl)
  have g0 : DataW.trod enc Tryz.prog W 0 (fun _ => true) held n0 26 [a0, a1, a2, a3] = some y0 := g0
  obtain ⟨n1, y1, g1⟩ := trod_at Tryz.underlying28 hf 1 _ rfl 1 (by kernel_rfl)
  have g1 : DataW.trod enc Tryz.prog W 0 (fun _ => true) held n1 9 [a4] = some y1 := g1
  obtain ⟨n2, y2, g2⟩ := trod_at Tryz.underlying28 hf 2 _ rfl 1 (by kernel_rfl)
  have g2 : DataW.trod enc Tryz.prog W 0 (fun _ => true) held n2 3 [a5] = some y2 := g2
  obtain ⟨n3, y3, g3⟩ := trod_at Tryz.underlying28 hf 3 _ rfl 1 (by kernel_rfl)
  have g3 : DataW.trod enc Tryz.prog W 0 (fun _ => true) held n3 22 [a6] = some y3 := g3
  obtain ⟨n4, y4, g4⟩ := trod_at Tryz.underlying28 hf 4 _ rfl 1 (by kernel_rfl)
  have g4 : DataW.trod enc Tryz.prog W 0 (fun _ => true) held n4 3 [a7] = some y4 := g4
  obtain ⟨n5, y5, g5⟩ := trod_at Tryz.underlying28 hf 5 _ rfl 1 (by kernel_rfl)
  have g5 : DataW.trod enc Tryz.prog W 0 (fun _ => true) held n5 22 [a8] = some y5 := g5
  obtain ⟨n6, y6, g6⟩ := trod_at Tryz.underlying28 hf 6 _ rfl 1 (by kernel_rfl)
  have g6 : DataW.trod enc Tryz.prog W 0 (fun _ => true) held n6 22 [a9] = some y6 := g6
  obtain ⟨n7, y7, g7⟩ := trod_at Tryz.underlying28 hf 7 _ rfl 1 (by kernel_rfl)
  have g7 : DataW.trod enc Tryz.prog W 0 (fun _ => true) held n7 22 [a10] = some y7 := g7
  obtain ⟨n8, y8, g8⟩ := trod_at Tryz.underlying28 hf 8 _ rfl 1 (by kernel_rfl)
  have g8 : DataW.trod enc Tryz.prog W 0 (fun _ => true) held n8 22 [a11] = some y8 := g8
  obtain ⟨M, O, G, K, eK⟩ := open_keyC g0
  obtain ⟨s, e1, _⟩ := DataW.trod_string Tryz.underlying9 g1
  obtain ⟨z2, e2, _, w2⟩ := DataW.trod_int Tryz.underlying3 g2
  obtain ⟨s3, e3, _⟩ := DataW.trod_string Tryz.underlying22 g3
  obtain ⟨z4, e4, _, w4⟩ := DataW.trod_int Tryz.underlying3 g4
  obtain ⟨s5, e5, _⟩ := DataW.trod_string Tryz.underlying22 g5
  obtain ⟨s6, e6, _⟩ := DataW.trod_string Tryz.underlying22 g6
  obtain ⟨s7, e7, _⟩ := DataW.trod_string Tryz.underlying22 g7
  obtain ⟨s8, e8, _⟩ := DataW.trod_string Tryz.underlying22 g8
  simp only [List.cons.injEq, and_true] at eK e1 e2 e3 e4 e5 e6 e7 e8
  obtain ⟨q0, q1, q2, q3⟩ := eK
  subst q0 q1 q2 q3 e1 e2 e3 e4 e5 e6 e7 e8
  exact ⟨⟨M, O, G, K, s, z2, s3, z4, s5, s6, s7, s8⟩, rfl, wf_intC w2, wf_intC w4⟩
end
theorem laid_pow : (Rows.laid_internal_strconv_uint64pow10 : DataW Unit) = Lib.tabData .u64 Lib.pow10Tab := by kernel_rfl
theorem t10_of {a b : String × DataW Unit} {W : World} {nm : String} (hnm : Tryz.prog.globalNamed nm = Tryz.prog.globalNamed "internal/strconv.uint64pow10") (h : laidMet Tryz.prog [a, b, (nm, Rows.laid_internal_strconv_uint64pow10)] W) : T10 W := by
  have h2 := laidMet.tail (laidMet.tail h)
  rw [laid_pow] at h2
  have hs : (Tryz.prog.globalNamed "internal/strconv.uint64pow10").isSome = true := by kernel_rfl
  obtain ⟨g, hg⟩ := Option.isSome_iff_exists.1 hs
  have h3 : Lib.TabIs Tryz.prog W nm .u64 Lib.pow10Tab := by
    refine Lib.tabIs_of_head (t := 249) (e := 42) (n := 20) (hnm.trans hg) ?_ Tryz.underlying249 Tryz.underlying42 (by kernel_rfl) (by kernel_rfl) h2
    have : g = (Tryz.prog.globalNamed "internal/strconv.uint64pow10").getD 0 := by rw [hg]; rfl
    rw [this]
    show _ = _
    kernel_rfl
  unfold T10 Lib.TabIs World.var? at *
  rw [← hnm]
  exact h3
end Go.Proofs.YtpdejgdkpghjhaaGreatDoor

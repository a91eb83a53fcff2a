/- The arguments opened: a case, a slice of numbers; the table of internal/strconv from the row's list. -/
import Derived.Test.YtpdejgdkpghjhaaGreatDoorQPeQ
import Derived.Test.YtpdejgdkpghjhaaGreatDoorQCtM
import Derived.Stop.LaidErr
import Derived.Deep.Slices
import Derived.MakeChecks
import Derived.Test.YtpdejgdkpghjhaaGreatDoorQCtA
set_option linter.unusedVariables false
set_option linter.unusedSimpArgs false
namespace Go.Proofs.YtpdejgdkpghjhaaGreatDoor
open Go.ChangeShapes Go.WideShapes Go.ChangeAt Go.Deep Go.Joins Go.RowKit
open Go.ChangeMaps (open_string shut_string)
theorem list_ofC {α : Type} {Q : Nat → α → Prop} : ∀ (n : Nat), (∀ i, i < n → ∃ e, Q i e) → ∃ l : List α, l.length = n ∧ ∀ k e, l[k]? = some e → Q k e
  | 0, _ => ⟨[], rfl, fun k e h => by simp at h⟩
  | n + 1, h => by
    obtain ⟨l, hl, hq⟩ := list_ofC n (fun i hi => h i (by omega))
    obtain ⟨e, he⟩ := h n (by omega)
    refine ⟨l ++ [e], by simp [hl], fun k e' hk => ?_⟩
    by_cases hkn : k < l.length
    · rw [List.getElem?_append_left hkn] at hk; exact hq k e' hk
    · rw [List.getElem?_append_right (by omega)] at hk
      have h0 : k - l.length = 0 := by
        rcases Nat.eq_zero_or_pos (k - l.length) with h0 | h0
        · exact h0
        · rw [List.getElem?_eq_none (by simp; omega)] at hk; cases hk
      rw [h0] at hk
      simp only [List.getElem?_cons_zero, Option.some.injEq] at hk
      subst hk
      rw [show k = n from by omega]
      exact he
theorem four_ofC {cs : List Value} (h : cs.length = 4) : ∃ c0 c1 c2 c3, cs = [c0, c1, c2, c3] :=
  match cs, h with
  | [c0, c1, c2, c3], _ => ⟨c0, c1, c2, c3, rfl⟩
theorem twelve {cs : List Value} (h : cs.length = 12) : ∃ a0 a1 a2 a3 a4 a5 a6 a7 a8 a9 a10 a11, cs = [a0, a1, a2, a3, a4, a5, a6, a7, a8, a9, a10, a11] :=
  match cs, h with
  | [a0, a1, a2, a3, a4, a5, a6, a7, a8, a9, a10, a11], _ => ⟨a0, a1, a2, a3, a4, a5, a6, a7, a8, a9, a10, a11, rfl⟩
theorem wf_intC {k : Int} (w : (Lit.int .i64 k).wf = true) : -9223372036854775808 ≤ k ∧ k ≤ 9223372036854775807 := by
  have h1 : IntKind.i64.min = -9223372036854775808 := rfl
  have h2 : IntKind.i64.max = 9223372036854775807 := rfl
  simp [Lit.wf, h1, h2] at w
  exact w
section
variable {H : Type} {enc : TypeId × Value → H} {W : World} {sp : Nat → Bool} {held : Bool}
theorem open_natsC {fuel : Nat} {cs : List Value} {x : DataW H × List MemPlace} (h : DataW.trod enc Tryz.prog W 0 (fun _ => true) held fuel 38 cs = some x) : ∃ A n c l, cs = [.slice A n c] ∧ SlN W A n c l ∧ ∀ s ∈ l, s.size ≤ maxLen := by
  rcases open_slice Tryz.underlying38 h with ⟨rfl, _⟩ | ⟨ad, len, cap, m, n, D, Pl, rfl, hb, hl, hm, hmm, hx, hi⟩
  · exact ⟨none, 0, 0, [], rfl, ⟨rfl, Nat.le_refl _, Nat.zero_le _, 0, 0, fun h => absurd h (Nat.lt_irrefl _), fun k s h => by simp at h⟩, fun s h => by cases h⟩
  · have hC : Tryz.prog.cellsOf 22 = 1 := by kernel_rfl
    have hq : ∀ i, i < len → ∃ s : ByteArray, W.cell? (ad.add i) = some (.string s) ∧ s.size ≤ maxLen := fun i hi' => by
      obtain ⟨cs', hc, ht'⟩ := hi i (by rw [hmm]; simp; omega)
      obtain ⟨s, e, _, z⟩ := DataW.trod_string Tryz.underlying22 ht'
      rw [hC, Nat.mul_one] at hc
      obtain ⟨_, hcl, hat⟩ := World.cells?_some hc
      have := hat 0 (by omega)
      rw [e] at this
      exact ⟨s, by simpa [Addr.add] using this, z⟩
    obtain ⟨l, hll, hq⟩ := list_ofC len hq
    refine ⟨some ad, len, cap, l, rfl, ⟨hll, hl, by unfold maxLen at hm; exact hm, ?_⟩, fun s hs => ?_⟩
    · rcases Nat.eq_zero_or_pos len with h0 | h0
      · exact ⟨0, 0, fun h => by omega, fun k e hk => by have := (List.getElem?_eq_some_iff.1 hk).1; omega⟩
      · obtain ⟨b, off, spot⟩ := ad
        obtain ⟨e, he⟩ : ∃ e, l[0]? = some e := ⟨_, List.getElem?_eq_getElem (by omega)⟩
        have h1 := (hq 0 e he).1
        have hspot : spot = none := by simpa [Addr.add] using World.cell?_spot h1
        subst hspot
        refine ⟨b, off, fun _ => rfl, fun k e hk => ?_⟩
        have := (hq k e hk).1
        rw [addr_add] at this
        exact this
    · obtain ⟨k, hk⟩ := List.getElem?_of_mem hs
      exact (hq k s hk).2
set_option maxRecDepth 100000 in
theorem open_keyC {fuel : Nat} {cs : List Value} {x : DataW H × List MemPlace} (h : DataW.trod enc Tryz.prog W 0 (fun _ => true) held fuel 26 cs = some x) : ∃ M O G K : ByteArray, cs = [.string M, .string O, .string G, .string K] ∧ O.size ≤ maxLen := by
  obtain ⟨c0, c1, c2, c3, rfl⟩ := four_ofC ((trod_len Tryz.underlying26 h).trans (show Tryz.prog.cellsOf 26 = 4 from by kernel_rfl))
  obtain ⟨n1, y1, g1⟩ := trod_at Tryz.underlying26 h 0 _ rfl 2 (by kernel_rfl)
  have g1 : DataW.trod enc Tryz.prog W 0 (fun _ => true) held n1 24 [c0, c1] = some y1 := g1
  obtain ⟨n2, y2, g2⟩ := trod_at Tryz.underlying26 h 1 _ rfl 1 (by kernel_rfl)
  have g2 : DataW.trod enc Tryz.prog W 0 (fun _ => true) held n2 22 [c2] = some y2 := g2
  obtain ⟨n3, y3, g3⟩ := trod_at Tryz.underlying26 h 2 _ rfl 1 (by kernel_rfl)
  have g3 : DataW.trod enc Tryz.prog W 0 (fun _ => true) held n3 22 [c3] = some y3 := g3
  obtain ⟨n4, y4, g4⟩ := trod_at Tryz.underlying24 g1 0 _ rfl 1 (by kernel_rfl)
  have g4 : DataW.trod enc Tryz.prog W 0 (fun _ => true) held n4 22 [c0] = some y4 := g4
  obtain ⟨n5, y5, g5⟩ := trod_at Tryz.underlying24 g1 1 _ rfl 1 (by kernel_rfl)
  have g5 : DataW.trod enc Tryz.prog W 0 (fun _ => true) held n5 22 [c1] = some y5 := g5
  obtain ⟨s0, e0, _⟩ := DataW.trod_string Tryz.underlying22 g4
  obtain ⟨s1, e1, _, z1⟩ := DataW.trod_string Tryz.underlying22 g5
  obtain ⟨s2, e2, _⟩ := DataW.trod_string Tryz.underlying22 g2
  obtain ⟨s3, e3, _⟩ := DataW.trod_string Tryz.underlying22 g3
  simp only [List.cons.injEq, and_true] at e0 e1 e2 e3
  subst e0 e1 e2 e3
  exact ⟨s0, s1, s2, s3, rfl, z1⟩
set_option maxRecDepth 100000 in
theorem open_case {r : Reach} {b0 : Nat} {v : Value} {d : DataW H} {p : List MemPlace} (hv : Value.okWide Tryz.prog W r b0 28 v) (h : DataW.Trod enc Tryz.prog W 0 (fun _ => true) held 28 v d p) :
    ∃ x : Cs, v = .agg x.arr ∧ (-9223372036854775808 ≤ x.p ∧ x.p ≤ 9223372036854775807) ∧ (-9223372036854775808 ≤ x.c ∧ x.c ≤ 9223372036854775807) ∧ x.O.size ≤ maxLen := by
  obtain ⟨cs, rfl, hsz⟩ := okWide_struct Tryz.underlying28 hv
  obtain ⟨fuel, hf⟩ := h
  have hf : DataW.trod enc Tryz.prog W 0 (fun _ => true) held fuel 28 cs.toList = some (d, p) := hf
  obtain ⟨a0, a1, a2, a3, a4, a5, a6, a7, a8, a9, a10, a11, hcs⟩ := twelve ((show cs.toList.length = cs.size from Array.length_toList).trans (hsz.trans (show Tryz.prog.cellsOf 28 = 12 from by kernel_rfl)))
  have hca : cs = #[a0, a1, a2, a3, a4, a5, a6, a7, a8, a9, a10, a11] := Array.toList_inj.1 hcs
  rw [hcs] at hf
  subst hca
  obtain ⟨n0, y0, g0⟩ := trod_at Tryz.underlying28 hf 0 _ rfl 4 (by kernel_rfl)
  have g0 : DataW.trod enc Tryz.prog W 0 (fun _ => true) held n0 26 [a0, a1, a2, a3] = some y0 := g0
  obtain ⟨n1, y1, g1⟩ := trod_at Tryz.underlying28 hf 1 _ rfl 1 (by kernel_rfl)
  have g1 : DataW.trod enc Tryz.prog W 0 (fun _ => true) held n1 9 [a4] = some y1 := g1
  obtain ⟨n2, y2, g2⟩ := trod_at Tryz.underlying28 hf 2 _ rfl 1 (by kernel_rfl)
  have g2 : DataW.trod enc Tryz.prog W 0 (fun _ => true) held n2 3 [a5] = some y2 := g2
  obtain ⟨n3, y3, g3⟩ := trod_at Tryz.underlying28 hf 3 _ rfl 1 (by kernel_rfl)
  have g3 : DataW.trod enc Tryz.prog W 0 (fun _ => true) held n3 22 [a6] = some y3 := g3
  obtain ⟨n4, y4, g4⟩ := trod_at Tryz.underlying28 hf 4 _ rfl 1 (by kernel_rfl)
  have g4 : DataW.trod enc Tryz.prog W 0 (fun _ => true) held n4 3 [a7] = some y4 := g4
  obtain ⟨n5, y5, g5⟩ := trod_at Tryz.underlying28 hf 5 _ rfl 1 (by kernel_rfl)
  have g5 : DataW.trod enc Tryz.prog W 0 (fun _ => true) held n5 22 [a8] = some y5 := g5
  obtain ⟨n6, y6, g6⟩ := trod_at Tryz.underlying28 hf 6 _ rfl 1 (by kernel_rfl)
  have g6 : DataW.trod enc Tryz.prog W 0 (fun _ => true) held n6 22 [a9] = some y6 := g6
  obtain ⟨n7, y7, g7⟩ := trod_at Tryz.underlying28 hf 7 _ rfl 1 (by kernel_rfl)
  have g7 : DataW.trod enc Tryz.prog W 0 (fun _ => true) held n7 22 [a10] = some y7 := g7
  obtain ⟨n8, y8, g8⟩ := trod_at Tryz.underlying28 hf 8 _ rfl 1 (by kernel_rfl)
  have g8 : DataW.trod enc Tryz.prog W 0 (fun _ => true) held n8 22 [a11] = some y8 := g8
  obtain ⟨M, O, G, K, eK, zO⟩ := open_keyC g0
  obtain ⟨s, e1, _⟩ := DataW.trod_string Tryz.underlying9 g1
  obtain ⟨z2, e2, _, w2⟩ := DataW.trod_int Tryz.underlying3 g2
  obtain ⟨s3, e3, _⟩ := DataW.trod_string Tryz.underlying22 g3
  obtain ⟨z4, e4, _, w4⟩ := DataW.trod_int Tryz.underlying3 g4
  obtain ⟨s5, e5, _⟩ := DataW.trod_string Tryz.underlying22 g5
  obtain ⟨s6, e6, _⟩ := DataW.trod_string Tryz.underlying22 g6
  obtain ⟨s7, e7, _⟩ := DataW.trod_string Tryz.underlying22 g7
  obtain ⟨s8, e8, _⟩ := DataW.trod_string Tryz.underlying22 g8
  simp only [List.cons.injEq, and_true] at eK e1 e2 e3 e4 e5 e6 e7 e8
  obtain ⟨q0, q1, q2, q3⟩ := eK
  subst q0 q1 q2 q3 e1 e2 e3 e4 e5 e6 e7 e8
  exact ⟨⟨M, O, G, K, s, z2, s3, z4, s5, s6, s7, s8⟩, rfl, wf_intC w2, wf_intC w4, zO⟩
end
theorem laid_pow : (Rows.laid_internal_strconv_uint64pow10 : DataW Unit) = Lib.tabData .u64 Lib.pow10Tab := by kernel_rfl
theorem t10_of {a b : String × DataW Unit} {W : World} {nm : String} (hnm : Tryz.prog.globalNamed nm = Tryz.prog.globalNamed "internal/strconv.uint64pow10") (h : laidMet Tryz.prog [a, b, (nm, Rows.laid_internal_strconv_uint64pow10)] W) : T10 W := by
  have h2 := laidMet.tail (laidMet.tail h)
  rw [laid_pow] at h2
  have hs : (Tryz.prog.globalNamed "internal/strconv.uint64pow10").isSome = true := by kernel_rfl
  obtain ⟨g, hg⟩ := Option.isSome_iff_exists.1 hs
  have h3 : Lib.TabIs Tryz.prog W nm .u64 Lib.pow10Tab := by
    refine Lib.tabIs_of_head (t := 249) (e := 42) (n := 20) (hnm.trans hg) ?_ Tryz.underlying249 Tryz.underlying42 (by kernel_rfl) (by kernel_rfl) h2
    have : g = (Tryz.prog.globalNamed "internal/strconv.uint64pow10").getD 0 := by rw [hg]; rfl
    rw [this]
    show _ = _
    kernel_rfl
  unfold T10 Lib.TabIs World.var? at *
  rw [← hnm]
  exact h3
end Go.Proofs.YtpdejgdkpghjhaaGreatDoor
/- Plain laws for CounterRepeats: the serials of a period, their places, Link of them. -/
set_option linter.unusedVariables false
set_option linter.unusedSimpArgs false
namespace Go.Proofs.YtpdejgdkpghjhaaGreatDoor
def srN (m b x q i : Nat) : Nat := b ^ invN ((x + i + 1) % q) q % m
def srs (m b x q : Nat) : Nat → List ByteArray
  | 0 => []
  | k + 1 => if Nat.gcd ((x + k + 1) % q) q = 1 then srs m b x q k ++ [nS (srN m b x q k)] else srs m b x q k
def atI (m b x q r : Nat) : Nat → Int
  | 0 => -1
  | k + 1 => if Nat.gcd ((x + k + 1) % q) q = 1 ∧ k = r then ((srs m b x q k).length : Int) else atI m b x q r k
theorem srs_mem {m b x q : Nat} {s : ByteArray} : ∀ {k : Nat}, s ∈ srs m b x q k → ∃ i, i < k ∧ Nat.gcd ((x + i + 1) % q) q = 1 ∧ s = nS (srN m b x q i)
  | 0, h => by cases h
  | k + 1, h => by
    unfold srs at h
    split at h
    · rename_i hg
      rw [List.mem_append] at h
      rcases h with h | h
      · obtain ⟨i, h1, h2, h3⟩ := srs_mem h
        exact ⟨i, by omega, h2, h3⟩
      · simp at h
        exact ⟨k, by omega, hg, h⟩
    · obtain ⟨i, h1, h2, h3⟩ := srs_mem h
      exact ⟨i, by omega, h2, h3⟩
theorem srs_len (m b x q : Nat) : ∀ k, (srs m b x q k).length ≤ k
  | 0 => Nat.le_refl _
  | k + 1 => by
    have := srs_len m b x q k
    unfold srs
    split
    · simp; omega
    · omega
theorem inv_spec {z q : Nat} (hq : 1 < q) (hz : z < q) (h : Nat.gcd z q = 1) : z * invN z q % q = 1 := by
  obtain ⟨i, hu⟩ := un_of hq hz h
  rw [hu.inv]
  exact hu.one
theorem srN_ne {m b x q i j : Nat} (hm : 1 < m) (hb : b < m) (hb1 : b ≠ 1) (hq : isN q = true) (hp : b ^ q % m = 1) (hij : i < j) (hj : j ≤ 10 + i) (hjq : j - i < q) (hi : Nat.gcd ((x + i + 1) % q) q = 1) (hg : Nat.gcd ((x + j + 1) % q) q = 1) : srN m b x q i ≠ srN m b x q j := by
  have hq1 : 1 < q := isN_pos hq
  have l1 := Nat.mod_lt (x + i + 1) (show 0 < q by omega)
  have l2 := Nat.mod_lt (x + j + 1) (show 0 < q by omega)
  refine ser_ne (z1 := (x + i + 1) % q) (z2 := (x + j + 1) % q) (d := j - i) hm hb hb1 hq1 hp (inv_spec hq1 l1 hi) (inv_spec hq1 l2 hg) ?_ (cop_of hq (by omega) hjq (by omega))
  rw [Nat.mod_mod, Nat.add_mod, Nat.mod_mod, ← Nat.add_mod]
  congr 1
  omega
def Dif (l : List ByteArray) : Prop := ∀ (i j : Nat) (a c : ByteArray), i < j → l[i]? = some a → l[j]? = some c → a ≠ c
theorem Dif.snoc {l : List ByteArray} {s : ByteArray} (h : Dif l) (hs : s ∉ l) : Dif (l ++ [s]) := by
  intro i j a c hij ha hc
  have hjl : j < (l ++ [s]).length := (List.getElem?_eq_some_iff.1 hc).1
  rw [List.length_append, List.length_singleton] at hjl
  by_cases e : j < l.length
  · rw [List.getElem?_append_left e] at hc
    rw [List.getElem?_append_left (by omega)] at ha
    exact h i j a c hij ha hc
  · have : j = l.length := by omega
    subst this
    rw [List.getElem?_append_right (Nat.le_refl _), Nat.sub_self] at hc
    rw [List.getElem?_append_left hij] at ha
    simp at hc
    subst hc
    intro e2
    exact hs (e2 ▸ List.mem_of_getElem? ha)
theorem srs_dif {m b x q n : Nat} (hm : 1 < m) (hb : b < m) (hb1 : b ≠ 1) (hq : isN q = true) (hp : b ^ q % m = 1) (hn : n ≤ 11) (hnq : n ≤ q) : ∀ {k : Nat}, k ≤ n → Dif (srs m b x q k)
  | 0, _ => fun i j a c _ h => by simp [srs] at h
  | k + 1, hk => by
    unfold srs
    split
    · rename_i hg
      refine (srs_dif hm hb hb1 hq hp hn hnq (by omega)).snoc (fun h => ?_)
      obtain ⟨i, h1, h2, h3⟩ := srs_mem h
      exact srN_ne hm hb hb1 hq hp h1 (by omega) (by omega) h2 hg (nS_inj h3).symm
    · exact srs_dif hm hb hb1 hq hp hn hnq (by omega)
theorem fsI_none {l : List ByteArray} {s : ByteArray} : ∀ {k : Nat}, (∀ i, i < k → l[i]? ≠ some s) → fsI l k s = none
  | 0, _ => rfl
  | k + 1, h => by
    rw [fsI, fsI_none (k := k) (fun i hi => h i (by omega))]
    simp only []
    rw [if_neg (h k (by omega))]
theorem lkN_none {l : List ByteArray} (h : Dif l) : ∀ {k : Nat}, k ≤ l.length → lkN l k = none
  | 0, _ => rfl
  | k + 1, hk => by
    obtain ⟨s, hs⟩ : ∃ s, l[k]? = some s := ⟨_, List.getElem?_eq_getElem (by omega)⟩
    exact lkN_miss (lkN_none h (by omega)) hs (fsI_none fun i hi e => h i k s s hi e hs rfl)
theorem fsI_app {l r : List ByteArray} {u : ByteArray} : ∀ {k : Nat}, k ≤ l.length → fsI (l ++ r) k u = fsI l k u
  | 0, _ => rfl
  | k + 1, hk => by
    rw [fsI, fsI, fsI_app (by omega), List.getElem?_append_left (by omega)]
theorem lkN_app {l r : List ByteArray} : ∀ {k : Nat}, k ≤ l.length → lkN (l ++ r) k = lkN l k
  | 0, _ => rfl
  | k + 1, hk => by
    rw [lkN, lkN, lkN_app (by omega), List.getElem?_append_left (by omega)]
    cases lkN l k with
    | some _ => rfl
    | none =>
      simp only []
      cases l[k]? with
      | none => rfl
      | some s => simp only []; rw [fsI_app (by omega)]
theorem fsI_at {l : List ByteArray} {s : ByteArray} {a : Nat} (h : Dif l) (ha : l[a]? = some s) : ∀ {k : Nat}, a < k → fsI l k s = some a
  | 0, h0 => by omega
  | k + 1, hk => by
    by_cases e : a = k
    · subst e
      rw [fsI, fsI_none fun i hi e => h i a s s hi e ha rfl]
      simp [ha]
    · exact fsI_mono (by omega) (fsI_at h ha (k := k) (by omega))
theorem lkN_again {l : List ByteArray} {s : ByteArray} {a : Nat} (h : Dif l) (ha : l[a]? = some s) : lkN (l ++ [s]) (l.length + 1) = some (a, l.length) := by
  have hal : a < l.length := (List.getElem?_eq_some_iff.1 ha).1
  refine lkN_hit (s := s) ?_ (by simp) ?_
  · rw [lkN_app (Nat.le_refl _)]; exact lkN_none h (Nat.le_refl _)
  · rw [fsI_app (Nat.le_refl _)]; exact fsI_at h ha hal
theorem atI_get {m b x q r : Nat} : ∀ {k : Nat}, atI m b x q r k = -1 ∨ ∃ a : Nat, atI m b x q r k = (a : Int) ∧ a < (srs m b x q k).length
  | 0 => .inl rfl
  | k + 1 => by
    by_cases hg : Nat.gcd ((x + k + 1) % q) q = 1
    · have e : srs m b x q (k + 1) = srs m b x q k ++ [nS (srN m b x q k)] := by rw [srs, if_pos hg]
      rw [e]
      by_cases hk : k = r
      · have e2 : atI m b x q r (k + 1) = ((srs m b x q k).length : Int) := by rw [atI, if_pos ⟨hg, hk⟩]
        rw [e2]
        exact .inr ⟨_, rfl, by simp⟩
      · have e2 : atI m b x q r (k + 1) = atI m b x q r k := by rw [atI, if_neg (fun h => hk h.2)]
        rw [e2]
        rcases atI_get (m := m) (b := b) (x := x) (q := q) (r := r) (k := k) with h | ⟨a, h1, h2⟩
        · exact .inl h
        · exact .inr ⟨a, h1, by simp; omega⟩
    · have e : srs m b x q (k + 1) = srs m b x q k := by rw [srs, if_neg hg]
      have e2 : atI m b x q r (k + 1) = atI m b x q r k := by rw [atI, if_neg (fun h => hg h.1)]
      rw [e, e2]
      exact atI_get
end Go.Proofs.YtpdejgdkpghjhaaGreatDoor

/- Versions of keys: how they lie in memory; the last and the current one. -/
import Derived.Test.YtnfkccohmkfnoaaRowN
set_option linter.unusedVariables false
set_option linter.unusedSimpArgs false
namespace Go.Proofs.Ytnfkccohmkfnoaa
open Go.RowKit

structure Ver where
  name : ByteArray
  num : Int
  kn : ByteArray
  km : ByteArray
  ko : ByteArray
  kz : ByteArray
  ks : ByteArray
  kr : List ByteArray
  ku : ByteArray
  kh : ByteArray
  sm : ByteArray
  so : ByteArray
  sg : ByteArray
  sy : ByteArray
  fr : Int
  to : Int
  sc : ByteArray
  sr : ByteArray
/-- The cells of a version; rv: its slice of bases. -/
def Ver.vals (v : Ver) (rv : Value) : List Value := [.string v.name, .int .i64 v.num, .string v.kn, .string v.km, .string v.ko, .string v.kz, .string v.ks, rv, .string v.ku, .string v.kh, .string v.sm, .string v.so, .string v.sg, .string v.sy, .int .i64 v.fr, .int .i64 v.to, .string v.sc, .string v.sr]
def Ver.val (v : Ver) (rv : Value) : Value := .agg #[.string v.name, .int .i64 v.num, .string v.kn, .string v.km, .string v.ko, .string v.kz, .string v.ks, rv, .string v.ku, .string v.kh, .string v.sm, .string v.so, .string v.sg, .string v.sy, .int .i64 v.fr, .int .i64 v.to, .string v.sc, .string v.sr]
/-- A version's cells from an address on. -/
def VCells (w : World) (b p : Nat) (v : Ver) (rv : Value) : Prop := ∀ j u, (v.vals rv)[j]? = some u → w.cell? ⟨b, p + j, none⟩ = some u
theorem VCells.kept {B : Nat} {w w' : World} (hb : Below B w w') (hB : w.heap.size ≤ B) {b p : Nat} {v : Ver} {rv : Value} (h : VCells w b p v rv) : VCells w' b p v rv := fun j u hu => cell_kept hb hB (h j u hu)
theorem VCells.open {w : World} {b p : Nat} {v : Ver} {rv : Value} (h : VCells w b p v rv) :
    w.cell? ⟨b, p, none⟩ = some (.string v.name) ∧ w.cell? ⟨b, p + 1, none⟩ = some (.int .i64 v.num) ∧ w.cell? ⟨b, p + 2, none⟩ = some (.string v.kn) ∧ w.cell? ⟨b, p + 3, none⟩ = some (.string v.km) ∧ w.cell? ⟨b, p + 4, none⟩ = some (.string v.ko) ∧ w.cell? ⟨b, p + 5, none⟩ = some (.string v.kz) ∧
    w.cell? ⟨b, p + 6, none⟩ = some (.string v.ks) ∧ w.cell? ⟨b, p + 7, none⟩ = some rv ∧ w.cell? ⟨b, p + 8, none⟩ = some (.string v.ku) ∧ w.cell? ⟨b, p + 9, none⟩ = some (.string v.kh) ∧ w.cell? ⟨b, p + 10, none⟩ = some (.string v.sm) ∧ w.cell? ⟨b, p + 11, none⟩ = some (.string v.so) ∧
    w.cell? ⟨b, p + 12, none⟩ = some (.string v.sg) ∧ w.cell? ⟨b, p + 13, none⟩ = some (.string v.sy) ∧ w.cell? ⟨b, p + 14, none⟩ = some (.int .i64 v.fr) ∧ w.cell? ⟨b, p + 15, none⟩ = some (.int .i64 v.to) ∧ w.cell? ⟨b, p + 16, none⟩ = some (.string v.sc) ∧ w.cell? ⟨b, p + 17, none⟩ = some (.string v.sr) :=
  ⟨h 0 _ rfl, h 1 _ rfl, h 2 _ rfl, h 3 _ rfl, h 4 _ rfl, h 5 _ rfl, h 6 _ rfl, h 7 _ rfl, h 8 _ rfl, h 9 _ rfl, h 10 _ rfl, h 11 _ rfl, h 12 _ rfl, h 13 _ rfl, h 14 _ rfl, h 15 _ rfl, h 16 _ rfl, h 17 _ rfl⟩
/-- A version lies in memory from an address on, with its bases. -/
def VIn (w : World) (b p : Nat) (v : Ver) : Prop := ∃ A n c, VCells w b p v (.slice A n c) ∧ SlN w A n c v.kr
theorem VIn.kept {B : Nat} {w w' : World} (hb : Below B w w') (hB : w.heap.size ≤ B) {b p : Nat} {v : Ver} (h : VIn w b p v) : VIn w' b p v :=
  let ⟨A, n, c, h1, h2⟩ := h
  ⟨A, n, c, h1.kept hb hB, h2.kept hb hB⟩
/-- A slice holds the versions. -/
def SlV (w : World) (A : Option Addr) (len cap : Nat) (l : List Ver) : Prop :=
  l.length = len ∧ len ≤ cap ∧ cap ≤ 9223372036854775807 ∧ ∃ b o, (0 < len → A = some ⟨b, o, none⟩) ∧ ∀ k v, l[k]? = some v → VIn w b (o + k * 18) v
theorem SlV.kept {B : Nat} {w w' : World} (hb : Below B w w') (hB : w.heap.size ≤ B) {A : Option Addr} {len cap : Nat} {l : List Ver} (h : SlV w A len cap l) : SlV w' A len cap l :=
  let ⟨h1, h2, h3, b, o, h4, h5⟩ := h
  ⟨h1, h2, h3, b, o, h4, fun k e hk => (h5 k e hk).kept hb hB⟩
theorem SlV.head {w : World} {A : Option Addr} {len cap : Nat} {l : List Ver} (h : SlV w A len cap l) (h0 : 0 < len) : ∃ b o, A = some ⟨b, o, none⟩ :=
  let ⟨_, _, _, b, o, h4, _⟩ := h
  ⟨b, o, h4 h0⟩
theorem SlV.get? {w : World} {b o len cap : Nat} {l : List Ver} (h : SlV w (some ⟨b, o, none⟩) len cap l) (k : Nat) {v : Ver} (hk : l[k]? = some v) : VIn w b (o + k * 18) v := by
  obtain ⟨h1, h2, h3, b', o', h4, h5⟩ := h
  have hl := (List.getElem?_eq_some_iff.1 hk).1
  have := h4 (by omega)
  simp only [Option.some.injEq, Addr.mk.injEq, and_true] at this
  obtain ⟨rfl, rfl⟩ := this
  exact h5 k v hk
theorem SlV.nil (w : World) (cap : Nat) (h : cap ≤ 9223372036854775807) (A : Option Addr) : SlV w A 0 cap [] := ⟨rfl, Nat.zero_le _, h, 0, 0, fun h => by omega, fun k e h => by simp at h⟩

/-- The cells of a row of versions; the slices of their bases. -/
def VRow (w : World) : List Value → List Ver → Prop
  | vs, [] => vs = []
  | vs, v :: l => ∃ A n c rest, vs = v.vals (.slice A n c) ++ rest ∧ SlN w A n c v.kr ∧ VRow w rest l
theorem VRow.kept {B : Nat} {w w' : World} (hb : Below B w w') (hB : w.heap.size ≤ B) : ∀ {vs : List Value} {l : List Ver}, VRow w vs l → VRow w' vs l
  | _, [], h => h
  | _, _ :: _, ⟨A, n, c, rest, h1, h2, h3⟩ => ⟨A, n, c, rest, h1, h2.kept hb hB, h3.kept hb hB⟩
theorem Ver.vals_length (v : Ver) (rv : Value) : (v.vals rv).length = 18 := rfl
theorem VRow.length {w : World} : ∀ {vs : List Value} {l : List Ver}, VRow w vs l → vs.length = l.length * 18
  | _, [], h => by rw [show _ = [] from h]; rfl
  | _, _ :: _, ⟨A, n, c, rest, h1, h2, h3⟩ => by rw [h1, List.length_append, h3.length, Ver.vals_length, List.length_cons]; omega
theorem VRow.snoc {w : World} {v : Ver} {A : Option Addr} {n c : Nat} (hs : SlN w A n c v.kr) : ∀ {vs : List Value} {l : List Ver}, VRow w vs l → VRow w (vs ++ v.vals (.slice A n c)) (l ++ [v])
  | vs, [], h => ⟨A, n, c, [], by rw [show vs = [] from h]; simp, hs, rfl⟩
  | _, _ :: _, ⟨A', n', c', rest, h1, h2, h3⟩ => ⟨A', n', c', rest ++ v.vals (.slice A n c), by rw [h1, List.append_assoc], h2, h3.snoc hs⟩
theorem VRow.get {w : World} : ∀ {vs : List Value} {l : List Ver} {k : Nat} {v : Ver}, VRow w vs l → l[k]? = some v → ∃ A n c, SlN w A n c v.kr ∧ ∀ j u, (v.vals (.slice A n c))[j]? = some u → vs[k * 18 + j]? = some u
  | _, [], _, _, _, hk => by simp at hk
  | _, v' :: l, 0, v, ⟨A, n, c, rest, h1, h2, h3⟩, hk => by
    simp only [List.getElem?_cons_zero, Option.some.injEq] at hk
    subst hk
    refine ⟨A, n, c, h2, fun j u hu => ?_⟩
    have hj := (List.getElem?_eq_some_iff.1 hu).1
    rw [h1, Nat.zero_mul, Nat.zero_add, List.getElem?_append_left hj]
    exact hu
  | _, v' :: l, k + 1, v, ⟨A, n, c, rest, h1, h2, h3⟩, hk => by
    obtain ⟨A', n', c', h4, h5⟩ := h3.get (k := k) (by simpa using hk)
    refine ⟨A', n', c', h4, fun j u hu => ?_⟩
    rw [h1, List.getElem?_append_right (by rw [Ver.vals_length]; omega), Ver.vals_length, show (k + 1) * 18 + j - 18 = k * 18 + j from by omega]
    exact h5 j u hu
theorem Ver.one (v : Ver) {A : Option Addr} {n c : Nat} : ∀ u ∈ v.vals (.slice A n c), u.oneCell' = true := by
  intro u h
  simp only [Ver.vals, List.mem_cons, List.mem_nil_iff, or_false] at h
  rcases h with rfl | rfl | rfl | rfl | rfl | rfl | rfl | rfl | rfl | rfl | rfl | rfl | rfl | rfl | rfl | rfl | rfl | rfl <;> rfl
theorem VRow.one {w : World} : ∀ {vs : List Value} {l : List Ver}, VRow w vs l → ∀ u ∈ vs, u.oneCell' = true
  | _, [], h => by rw [show _ = [] from h]; intro u hu; cases hu
  | _, v :: _, ⟨A, n, c, rest, h1, h2, h3⟩ => by
    intro u hu
    rw [h1, List.mem_append] at hu
    rcases hu with hu | hu
    · exact v.one u hu
    · exact h3.one u hu
/-- An owned row of versions is a slice of them. -/
theorem SlV.of_owns {w : World} {base : Nat} {T : TypeId} {rv : Value} {n : Nat} {vs : List Value} {l : List Ver} (h : w.ownsRow base T 18 rv n vs) (hr : VRow w vs l) : l.length = n ∧ ∃ A cap, rv = .slice A n cap ∧ SlV w A n cap l := by
  have hl := h.1
  rw [hr.length] at hl
  have hln : l.length = n := by omega
  refine ⟨hln, ?_⟩
  rcases h.2 with ⟨hv, h0⟩ | ⟨g, cap, cur, hv, hb, hh, hc, hm, hs, ht⟩
  · subst h0
    have : l = [] := List.length_eq_zero_iff.1 hln
    subst this
    exact ⟨none, 0, hv, SlV.nil _ _ (by omega) _⟩
  · refine ⟨_, cap, hv, hln, hc, by unfold maxLen at hm; exact hm, g, 0, fun _ => rfl, fun k v hk => ?_⟩
    obtain ⟨A, m, c, h1, h2⟩ := hr.get hk
    refine ⟨A, m, c, fun j u hu => ?_, h1⟩
    have hcell := h.cells (g := g) (by rw [hv]; rfl) (k * 18 + j) u (h2 j u hu)
    rw [addr_add, Nat.zero_add] at hcell
    rw [Nat.zero_add]
    exact hcell

/-- The call returned a version and an error. -/
def RetV (v : Ver) (f : Int) (w : World) (e : Ending) (w' : World) : Prop := ∃ A n c, e = .returned (.tuple #[v.val (.slice A n c), .int .i64 f]) ∧ SlN w' A n c v.kr ∧ Below w.heap.size w w'
/-- The empty version. -/
def ver0 : Ver := ⟨⟨#[]⟩, 0, ⟨#[]⟩, ⟨#[]⟩, ⟨#[]⟩, ⟨#[]⟩, ⟨#[]⟩, [], ⟨#[]⟩, ⟨#[]⟩, ⟨#[]⟩, ⟨#[]⟩, ⟨#[]⟩, ⟨#[]⟩, 0, 0, ⟨#[]⟩, ⟨#[]⟩⟩

/-- The place of the last version of a name among the first k. -/
def lastF (l : List Ver) (name : ByteArray) : Nat → Option Nat
  | 0 => none
  | k + 1 => match l[k]? with
    | none => lastF l name k
    | some v => if v.name = name then match lastF l name k with
        | none => some k
        | some i => match l[i]? with
          | some u => if u.num < v.num then some k else some i
          | none => some i
      else lastF l name k
theorem lastF_lt {l : List Ver} {name : ByteArray} : ∀ {k i : Nat}, lastF l name k = some i → i < k ∧ ∃ v, l[i]? = some v ∧ v.name = name
  | 0, i, h => by cases h
  | k + 1, i, h => by
    unfold lastF at h
    cases hk : l[k]? with
    | none => rw [hk] at h; obtain ⟨h1, h2⟩ := lastF_lt h; exact ⟨by omega, h2⟩
    | some v =>
      rw [hk] at h
      simp only at h
      by_cases hn : v.name = name
      · rw [if_pos hn] at h
        cases hl : lastF l name k with
        | none => rw [hl] at h; cases h; exact ⟨by omega, v, hk, hn⟩
        | some j =>
          rw [hl] at h
          obtain ⟨h1, u, h2, h3⟩ := lastF_lt hl
          simp only [h2] at h
          split at h
          · cases h; exact ⟨by omega, v, hk, hn⟩
          · cases h; exact ⟨by omega, u, h2, h3⟩
      · rw [if_neg hn] at h; obtain ⟨h1, h2⟩ := lastF_lt h; exact ⟨by omega, h2⟩
end Go.Proofs.Ytnfkccohmkfnoaa

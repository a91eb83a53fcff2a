/- Entries in memory; walks: dominoref57.Epoch, has. -/
import Derived.Test.YthidhgniondkgaaLedM
set_option linter.unusedVariables false
set_option linter.unusedSimpArgs false
namespace Go.Proofs.Ythidhgniondkgaa
open Go.RowKit

/-- Four cells hold an entry. -/
def EnCells (w : World) (b o : Nat) (e : En) : Prop := w.cell? ⟨b, o, none⟩ = some (.int .i64 e.kind) ∧ w.cell? ⟨b, o + 1, none⟩ = some (.string e.handle) ∧ w.cell? ⟨b, o + 2, none⟩ = some (.string e.schema) ∧ w.cell? ⟨b, o + 3, none⟩ = some (.int .i64 e.epoch)
/-- A slice holds the entries. -/
def SlE (w : World) (A : Option Addr) (len cap : Nat) (l : List En) : Prop :=
  l.length = len ∧ len ≤ cap ∧ cap ≤ 9223372036854775807 ∧ ∃ b o, (0 < len → A = some ⟨b, o, none⟩) ∧ ∀ k e, l[k]? = some e → EnCells w b (o + k * 4) e
theorem EnCells.kept {B : Nat} {w w' : World} (hb : Below B w w') (hB : w.heap.size ≤ B) {b o : Nat} {e : En} (h : EnCells w b o e) : EnCells w' b o e :=
  ⟨cell_kept hb hB h.1, cell_kept hb hB h.2.1, cell_kept hb hB h.2.2.1, cell_kept hb hB h.2.2.2⟩
theorem SlE.kept {B : Nat} {w w' : World} (hb : Below B w w') (hB : w.heap.size ≤ B) {A : Option Addr} {len cap : Nat} {l : List En} (h : SlE w A len cap l) : SlE w' A len cap l :=
  let ⟨h1, h2, h3, b, o, h4, h5⟩ := h
  ⟨h1, h2, h3, b, o, h4, fun k e hk => (h5 k e hk).kept hb hB⟩
theorem SlE.head {w : World} {A : Option Addr} {len cap : Nat} {l : List En} (h : SlE w A len cap l) (h0 : 0 < len) : ∃ b o, A = some ⟨b, o, none⟩ :=
  let ⟨_, _, _, b, o, h4, _⟩ := h
  ⟨b, o, h4 h0⟩
theorem SlE.get? {w : World} {b o len cap : Nat} {l : List En} (h : SlE w (some ⟨b, o, none⟩) len cap l) (k : Nat) {e : En} (hk : l[k]? = some e) : EnCells w b (o + k * 4) e := by
  obtain ⟨h1, h2, h3, b', o', h4, h5⟩ := h
  have hl := (List.getElem?_eq_some_iff.1 hk).1
  have := h4 (by omega)
  simp only [Option.some.injEq, Addr.mk.injEq, and_true] at this
  obtain ⟨rfl, rfl⟩ := this
  exact h5 k e hk
theorem SlE.take {w : World} {A : Option Addr} {len cap : Nat} {l : List En} (h : SlE w A len cap l) (n : Nat) (hn : n ≤ len) : SlE w A n cap (l.take n) := by
  obtain ⟨h1, h2, h3, b, o, h4, h5⟩ := h
  refine ⟨by rw [List.length_take]; omega, by omega, h3, b, o, fun h => h4 (by omega), fun k e hk => ?_⟩
  rw [List.getElem?_take] at hk
  split at hk
  · exact h5 k e hk
  · cases hk

/-- How many entries close an epoch. -/
def epochN (l : List En) : Nat := l.countP fun e => e.kind == 2
/-- An entry of a kind with a handle is there. -/
def hasB (l : List En) (q : Int) (u : ByteArray) : Bool := l.any fun e => e.kind == q && decide (e.handle = u)

theorem epochN_snoc {l : List En} {k : Nat} {e : En} (h : l[k]? = some e) : epochN (l.take (k + 1)) = epochN (l.take k) + (if e.kind = 2 then 1 else 0) := by
  unfold epochN
  rw [take_snoc h, List.countP_append]
  simp [List.countP_cons, List.countP_nil]
theorem epochN_le (l : List En) : epochN l ≤ l.length := List.countP_le_length
theorem hasB_snoc {l : List En} {k : Nat} {e : En} {q : Int} {u : ByteArray} (h : l[k]? = some e) : hasB (l.take (k + 1)) q u = (hasB (l.take k) q u || (e.kind == q && decide (e.handle = u))) := by
  unfold hasB
  rw [take_snoc h, List.any_append]
  simp
theorem hasB_at {l : List En} {k : Nat} {e : En} {q : Int} {u : ByteArray} (h : l[k]? = some e) (h1 : e.kind = q) (h2 : e.handle = u) : hasB l q u = true := by
  unfold hasB
  rw [List.any_eq_true]
  exact ⟨e, List.mem_of_getElem? h, by simp [h1, h2]⟩

set_option maxRecDepth 100000 in
set_option maxHeartbeats 1000000 in
theorem r57_Epoch (l : List En) (A : Option Addr) (len cap : Nat) (w : World) (hs : SlE w A len cap l) : Calls Try.prog 41 #[.slice A len cap] w (RetQ (.int .i64 (epochN l)) w) := by
  have hlen := hs.1
  have hlc := hs.2.1
  have hcap := hs.2.2.1
  have HS := Lib.hid hs
  have HLEN := Lib.hid hlen
  clear hs hlen
  go_enter Try.func41, Try.ntmps41
  go_wp2
  go_loop [3, 4] (fun n i => ∃ k : Nat, k ≤ len ∧ i = .int .i64 k ∧ n = .int .i64 (epochN (l.take k))) (fun _ i => len - (intOf i).toNat)
  case atStart => exact ⟨0, Nat.zero_le _, rfl, rfl⟩
  case round =>
    obtain ⟨k, hk, rfl, rfl⟩ := hrel
    by_cases hlt : k < len
    · obtain ⟨b, o, rfl⟩ := HS.out.head (by omega)
      obtain ⟨e, he⟩ : ∃ e, l[k]? = some e := ⟨_, List.getElem?_eq_getElem (by rw [HLEN.out]; exact hlt)⟩
      obtain ⟨c0, c1, c2, c3⟩ := HS.out.get? k he
      have hn := epochN_snoc he
      have hle := epochN_le (l.take k)
      rw [List.length_take] at hle
      have hle2 : epochN (l.take k) ≤ k := by omega
      obtain ⟨n, hnn⟩ : ∃ n, epochN (l.take k) = n := ⟨_, rfl⟩
      rw [hnn] at hn hle2 ⊢
      have HE := Lib.hid he
      clear he hle hnn
      by_cases h2 : e.kind = 2
      · rw [if_pos h2] at hn
        have e2 := eqI h2
        have HN := Lib.hid hn
        clear hn h2
        go_wp2
        go_round
        case rel => exact ⟨k + 1, by omega, by go_num, by rw [HN.out]; go_num⟩
        case measure => simp [intOf]; omega
      · rw [if_neg h2] at hn
        have e2 := neI h2
        have HN := Lib.hid hn
        clear hn h2
        go_wp2
        go_round
        case rel => exact ⟨k + 1, by omega, by go_num, by rw [HN.out]; rfl⟩
        case measure => simp [intOf]; omega
    · obtain rfl : k = len := by omega
      rw [List.take_of_length_le (by have := HLEN.out; omega)]
      go_wp2
      go_ret
      exact ⟨rfl, rfl⟩

set_option maxRecDepth 100000 in
set_option maxHeartbeats 1000000 in
theorem r57_has (l : List En) (A : Option Addr) (len cap : Nat) (q : Int) (u : ByteArray) (w : World) (hs : SlE w A len cap l) : Calls Try.prog 42 #[.slice A len cap, .int .i64 q, .string u] w (RetQ (.bool (hasB l q u)) w) := by
  have hlen := hs.1
  have hlc := hs.2.1
  have hcap := hs.2.2.1
  have HS := Lib.hid hs
  have HLEN := Lib.hid hlen
  clear hs hlen
  go_enter Try.func42, Try.ntmps42
  go_wp2
  go_loop [7] (fun i => ∃ k : Nat, k ≤ len ∧ i = .int .i64 k ∧ hasB (l.take k) q u = false) (fun i => len - (intOf i).toNat)
  case atStart => exact ⟨0, Nat.zero_le _, rfl, rfl⟩
  case round =>
    obtain ⟨k, hk, rfl, hno⟩ := hrel
    have HNO := Lib.hid hno
    clear hno
    by_cases hlt : k < len
    · obtain ⟨b, o, rfl⟩ := HS.out.head (by omega)
      obtain ⟨e, he⟩ : ∃ e, l[k]? = some e := ⟨_, List.getElem?_eq_getElem (by rw [HLEN.out]; exact hlt)⟩
      obtain ⟨c0, c1, c2, c3⟩ := HS.out.get? k he
      have hn := hasB_snoc (q := q) (u := u) he
      rw [HNO.out, Bool.false_or] at hn
      by_cases h2 : e.kind = q
      · by_cases h3 : e.handle = u
        · have hr := hasB_at he h2 h3
          have e2 := eqI h2
          have e3 := str_beq_true h3
          have HR := Lib.hid hr
          clear hn h2 h3 he hr
          go_wp2
          go_ret
          exact ⟨by rw [HR.out]; rfl, rfl⟩
        · rw [eqI h2, decide_eq_false h3] at hn
          have e2 := eqI h2
          have e3 := str_beq_false h3
          have HN := Lib.hid hn
          clear hn h2 h3 he
          go_wp2
          go_round
          case rel => exact ⟨k + 1, by omega, by go_num, HN.out⟩
          case measure => simp [intOf]; omega
      · rw [neI h2] at hn
        have e2 := neI h2
        have HN := Lib.hid hn
        clear hn h2 he
        go_wp2
        go_round
        case rel => exact ⟨k + 1, by omega, by go_num, HN.out⟩
        case measure => simp [intOf]; omega
    · obtain rfl : k = len := by omega
      have hno := HNO.out
      rw [List.take_of_length_le (by have := HLEN.out; omega)] at hno
      have HR := Lib.hid hno
      clear hno
      go_wp2
      go_ret
      exact ⟨by rw [HR.out]; rfl, rfl⟩
end Go.Proofs.Ythidhgniondkgaa

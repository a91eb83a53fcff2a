/- Walks: dominolaw09.Few, small, awake. -/
import Derived.Test.YtcbjadaghpmejaaDoorEls
import Derived.Test.YtcbjadaghpmejaaDoorPri
import Derived.Test.YtcbjadaghpmejaaDoorGlo
set_option linter.unusedVariables false
set_option linter.unusedSimpArgs false
namespace Go.Proofs.YtcbjadaghpmejaaDoor
open Go.RowKit Go.Shelf
attribute [local go_sem] Oper.semAt_some

/-- Whether a group and numbers are small. -/
def few9 (M O : ByteArray) (l : List ByteArray) : Bool := l.all (fun s => decide (s.size ≤ 20)) && (decide (M.size ≤ 8) && decide (O.size ≤ 10))
theorem few9_big {M O : ByteArray} {l : List ByteArray} {k : Nat} {s : ByteArray} (h : l[k]? = some s) (hb : 20 < s.size) : few9 M O l = false := by
  unfold few9
  have : l.all (fun s => decide (s.size ≤ 20)) = false := by
    rw [List.all_eq_false]
    exact ⟨s, List.mem_of_getElem? h, by simp; omega⟩
  rw [this]; rfl
theorem few9_all {M O : ByteArray} {l : List ByteArray} (h : ∀ k, k < l.length → ∃ s, l[k]? = some s ∧ s.size ≤ 20) : few9 M O l = (decide (M.size ≤ 8) && decide (O.size ≤ 10)) := by
  unfold few9
  have : l.all (fun s => decide (s.size ≤ 20)) = true := by
    rw [List.all_eq_true]
    intro s hs
    obtain ⟨k, hk⟩ := List.mem_iff_getElem?.1 hs
    obtain ⟨s', h1, h2⟩ := h k (List.getElem?_eq_some_iff.1 hk).1
    rw [hk] at h1
    cases h1
    exact decide_eq_true h2
  rw [this]; rfl
theorem few9_of {M O : ByteArray} {l : List ByteArray} (h : few9 M O l = true) : M.size ≤ 8 ∧ O.size ≤ 10 ∧ ∀ s ∈ l, s.size ≤ 20 := by
  unfold few9 at h
  simp only [Bool.and_eq_true, decide_eq_true_eq, List.all_eq_true] at h
  exact ⟨h.2.1, h.2.2, h.1⟩

set_option maxRecDepth 100000 in
set_option maxHeartbeats 1000000 in
theorem law_Few (M O : ByteArray) (l : List ByteArray) (A : Option Addr) (len cap : Nat) (hl : len ≤ 1000) (w : World) (hs : SlN w A len cap l) : Calls Tryd.prog 9 #[gV M O, .slice A len cap] w (Ret (.bool (few9 M O l)) w) := by
  have HX0 := Lib.hid (Bx2.new w (.string M) (.string O) 24)
  have HB0 := Lib.hid ((Below.refl w.heap.size w).alloc (Nat.le_refl _) (.cells #[.string M, .string O] 24))
  have c0 := HX0.out.c0
  have c1 := HX0.out.c1
  have HS := Lib.hid (hs.kept HB0.out (Nat.le_refl _))
  have HLEN := Lib.hid hs.1
  have hcap := hs.2.1
  have hcap2 := hs.2.2.1
  clear hs
  unfold gV
  go_enter Tryd.func9, Tryd.ntmps9
  go_wp2
  go_loop [5] (fun i => ∃ k : Nat, k ≤ len ∧ i = .int .i64 k ∧ ∀ j, j < k → ∃ s, l[j]? = some s ∧ s.size ≤ 20) (fun i => len - (intOf i).toNat)
  case atStart => exact ⟨0, Nat.zero_le _, rfl, fun j h => by omega⟩
  case round =>
    obtain ⟨k, hk, rfl, hall⟩ := hrel
    have HALL := Lib.hid hall
    clear hall
    by_cases hlt : k < len
    · obtain ⟨b, o, rfl⟩ := HS.out.head (by omega)
      obtain ⟨s, he⟩ : ∃ s, l[k]? = some s := ⟨_, List.getElem?_eq_getElem (by rw [HLEN.out]; exact hlt)⟩
      have d0 := HS.out.get? k he
      have HE := Lib.hid he
      clear he
      by_cases h1 : 20 < s.size
      · have HF := Lib.hid (few9_big (M := M) (O := O) HE.out h1)
        have i1 : decide ((20 : Int) < (s.size : Int)) = true := decide_eq_true (by omega)
        go_wp2
        go_ret
        exact ⟨by rw [HF.out]; rfl, HB0.out⟩
      · have i1 : decide ((20 : Int) < (s.size : Int)) = false := decide_eq_false (by omega)
        go_wp2
        go_round
        case rel =>
          refine ⟨k + 1, by omega, by go_num, fun j hj => ?_⟩
          by_cases hjk : j < k
          · exact HALL.out j hjk
          · obtain rfl : j = k := by omega
            exact ⟨s, HE.out, by omega⟩
        case measure => simp [intOf]; omega
    · obtain rfl : k = len := by omega
      have HF := Lib.hid (few9_all (M := M) (O := O) (l := l) (fun j hj => HALL.out j (by have := HLEN.out; omega)))
      by_cases h8 : M.size ≤ 8
      · rw [decide_eq_true h8, Bool.true_and] at HF
        have h8' : (M.size : Int) ≤ 8 := by omega
        by_cases h10 : O.size ≤ 10
        · rw [decide_eq_true h10] at HF
          have h10' : (O.size : Int) ≤ 10 := by omega
          go_wp2
          go_ret
          exact ⟨by rw [HF.out]; rfl, HB0.out⟩
        · rw [decide_eq_false h10] at HF
          have h10' : decide ((O.size : Int) ≤ 10) = false := decide_eq_false (by omega)
          go_wp2
          go_ret
          exact ⟨by rw [HF.out]; rfl, HB0.out⟩
      · rw [decide_eq_false h8, Bool.false_and] at HF
        have h8' : decide ((M.size : Int) ≤ 8) = false := decide_eq_false (by omega)
        go_wp2
        go_ret
        exact ⟨by rw [HF.out]; rfl, HB0.out⟩
set_option maxRecDepth 100000 in
theorem law_small (w : World) : Calls Tryd.prog 20 #[] w (Ret (gV ⟨#[23]⟩ ⟨#[11]⟩) w) := by
  go_enter Tryd.func20, Tryd.ntmps20
  go_wp2
  refine bodyPost_ret (v := gV ⟨#[23]⟩ ⟨#[11]⟩) ?_ rfl ⟨rfl, (Below.refl _ _).alloc (Nat.le_refl _) _⟩
  simp [results, Tryd.results20, go_sem, gV]

theorem ex_has {x : ByteArray} (h : hasP ⟨#[23]⟩ ⟨#[11]⟩ x) : hasG ⟨#[23]⟩ ⟨#[11]⟩ x = true := decide_eq_true h
theorem ex_h6 : hasG ⟨#[23]⟩ ⟨#[11]⟩ ⟨#[6]⟩ = true := by decide +kernel
theorem ex_h12 : hasG ⟨#[23]⟩ ⟨#[11]⟩ ⟨#[12]⟩ = true := by decide +kernel
theorem ex_h4 : hasG ⟨#[23]⟩ ⟨#[11]⟩ ⟨#[4]⟩ = true := by decide +kernel
theorem ex_h2 : hasG ⟨#[23]⟩ ⟨#[11]⟩ ⟨#[2]⟩ = true := by decide +kernel
theorem ex_h5 : hasG ⟨#[23]⟩ ⟨#[11]⟩ ⟨#[5]⟩ = false := by decide +kernel
theorem ex_g4 : genG ⟨#[23]⟩ ⟨#[11]⟩ ⟨#[4]⟩ = true := by decide +kernel
theorem ex_mul : mulR ⟨#[23]⟩ ⟨#[11]⟩ ⟨#[6]⟩ ⟨#[12]⟩ = .tuple #[.string ⟨#[3]⟩, .int .i64 0] := by
  rw [mulR_in (by decide +kernel) ⟨ex_h6, ex_h12⟩, show nS (num ⟨#[6]⟩ * num ⟨#[12]⟩ % num ⟨#[23]⟩) = ⟨#[3]⟩ from by decide +kernel]
theorem ex_pow : powR ⟨#[23]⟩ ⟨#[11]⟩ ⟨#[4]⟩ true ⟨#[1]⟩ = .tuple #[.string ⟨#[6]⟩, .int .i64 0] := by
  rw [powR_in (by decide +kernel) ex_h4, show nS (num ⟨#[4]⟩ ^ (sg true (num ⟨#[1]⟩) % (num ⟨#[11]⟩ : Int)).toNat % num ⟨#[23]⟩) = ⟨#[6]⟩ from by decide +kernel]
theorem ex_log : logR ⟨#[23]⟩ ⟨#[11]⟩ ⟨#[4]⟩ ⟨#[2]⟩ 10 = .tuple #[.int .i64 6, .bool true] := by
  rw [logR_hit (k := 6) ⟨ex_h4, ex_h2⟩ (by decide +kernel) (fun j hj => by
    have e : j = 0 ∨ j = 1 ∨ j = 2 ∨ j = 3 ∨ j = 4 ∨ j = 5 := by omega
    rcases e with rfl | rfl | rfl | rfl | rfl | rfl <;> decide +kernel) (by decide +kernel)]
  rfl
theorem ex_elem : (elemG ⟨#[23]⟩ ⟨#[11]⟩ ⟨#[4]⟩).length = 11 := by
  rw [elemG_in ex_h4, pwL_length]
  have h1 := elemN_hit (m := num ⟨#[23]⟩) (g := num ⟨#[4]⟩) (k := 11) (by omega) (by decide +kernel)
  have h2 := elemN_gt (m := num ⟨#[23]⟩) (g := num ⟨#[4]⟩) (k := 10) (by omega) (fun j a b => by
    have e : j = 1 ∨ j = 2 ∨ j = 3 ∨ j = 4 ∨ j = 5 ∨ j = 6 ∨ j = 7 ∨ j = 8 ∨ j = 9 ∨ j = 10 := by omega
    rcases e with rfl | rfl | rfl | rfl | rfl | rfl | rfl | rfl | rfl | rfl <;> decide +kernel)
  omega
theorem ex_is23 (w : World) : Calls Tryd.prog 38 #[.int .u64 23] w (Ret (.bool true) w) :=
  prime_is_small 23 8 (by omega) (by omega) (by omega) (by decide) (fun j hj => by
    have e : j = 0 ∨ j = 1 ∨ j = 2 ∨ j = 3 ∨ j = 4 ∨ j = 5 ∨ j = 6 ∨ j = 7 := by omega
    rcases e with rfl | rfl | rfl | rfl | rfl | rfl | rfl | rfl <;> decide) w
theorem ex_is11 (w : World) : Calls Tryd.prog 38 #[.int .u64 11] w (Ret (.bool true) w) :=
  prime_is_small 11 4 (by omega) (by omega) (by omega) (by decide) (fun j hj => by
    have e : j = 0 ∨ j = 1 ∨ j = 2 ∨ j = 3 := by omega
    rcases e with rfl | rfl | rfl | rfl <;> decide) w
theorem ex_is21 (w : World) : Calls Tryd.prog 38 #[.int .u64 21] w (Ret (.bool false) w) :=
  prime_is_small 21 1 (by omega) (by omega) (by omega) (by decide) (fun j hj => by
    have e : j = 0 := by omega
    rcases e with rfl <;> decide) w
theorem ex_is5 (w : World) : Calls Tryd.prog 38 #[.int .u64 5] w (Ret (.bool true) w) :=
  prime_is_small 5 2 (by omega) (by omega) (by omega) (by decide) (fun j hj => by
    have e : j = 0 ∨ j = 1 := by omega
    rcases e with rfl | rfl <;> decide) w
theorem ex_check (w : World) : Calls Tryd.prog 7 #[gV ⟨#[23]⟩ ⟨#[11]⟩] w (Ret (.int .i64 0) w) :=
  pg_Check_n 23 11 true true (by omega) (by omega) ex_is23 ex_is11 (fun _ => by omega) (fun _ => by omega) w
theorem ex_check2 (w : World) : Calls Tryd.prog 7 #[gV ⟨#[21]⟩ ⟨#[5]⟩] w (Ret (.int .i64 12) w) :=
  pg_Check_n 21 5 false true (by omega) (by omega) ex_is21 ex_is5 (fun _ => by omega) (fun _ => by omega) w
theorem ex_Mul (w : World) : Calls Tryd.prog 12 #[gV ⟨#[23]⟩ ⟨#[11]⟩, .string ⟨#[6]⟩, .string ⟨#[12]⟩] w (Ret (.tuple #[.string ⟨#[3]⟩, .int .i64 0]) w) := by
  have := pg_Mul ⟨#[23]⟩ ⟨#[11]⟩ ⟨#[6]⟩ ⟨#[12]⟩ (by decide) (by decide) (by decide) (by decide) w
  rw [ex_mul] at this
  exact this
theorem ex_Pow (w : World) : Calls Tryd.prog 13 #[gV ⟨#[23]⟩ ⟨#[11]⟩, .string ⟨#[4]⟩, zV true ⟨#[1]⟩] w (Ret (.tuple #[.string ⟨#[6]⟩, .int .i64 0]) w) := by
  have := pg_Power ⟨#[23]⟩ ⟨#[11]⟩ ⟨#[4]⟩ true ⟨#[1]⟩ (by decide) (by decide) (by decide) (by decide) w
  rw [ex_pow] at this
  exact this
theorem ex_Log (w : World) : Calls Tryd.prog 19 #[gV ⟨#[23]⟩ ⟨#[11]⟩, .string ⟨#[4]⟩, .string ⟨#[2]⟩, .int .i64 10] w (Ret (.tuple #[.int .i64 6, .bool true]) w) := by
  have := pg_Log ⟨#[23]⟩ ⟨#[11]⟩ ⟨#[4]⟩ ⟨#[2]⟩ 10 (by decide) (by decide) (by decide) (by decide) w
  rw [ex_log] at this
  exact this
theorem ex_Gen (w : World) : Calls Tryd.prog 17 #[gV ⟨#[23]⟩ ⟨#[11]⟩, .string ⟨#[4]⟩] w (Ret (.bool true) w) := by
  have := pg_IsGen ⟨#[23]⟩ ⟨#[11]⟩ ⟨#[4]⟩ (by decide) (by decide) (by decide) w
  rw [ex_g4] at this
  exact this
theorem ex_Has (w : World) : Calls Tryd.prog 11 #[gV ⟨#[23]⟩ ⟨#[11]⟩, .string ⟨#[5]⟩] w (Ret (.bool false) w) := by
  have := pg_Has ⟨#[23]⟩ ⟨#[11]⟩ ⟨#[5]⟩ (by decide) (by decide) (by decide) w
  rw [ex_h5] at this
  exact this
end Go.Proofs.YtcbjadaghpmejaaDoor

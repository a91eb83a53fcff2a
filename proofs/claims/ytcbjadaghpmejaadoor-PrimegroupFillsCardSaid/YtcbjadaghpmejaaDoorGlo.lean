/- Walks: primegroup.Log, dominoref09.Log. -/
import Derived.Test.YtcbjadaghpmejaaDoorGmu
set_option linter.unusedVariables false
set_option linter.unusedSimpArgs false
namespace Go.Proofs.YtcbjadaghpmejaaDoor
open Go.RowKit

/-- How many exponents a search looks at. -/
def logN (L : Int) : Nat := (min L 65536 + 1).toNat
theorem logN_lt {L : Int} {k : Nat} : k < logN L ↔ ((k : Int) ≤ L ∧ (k : Int) ≤ 65536) := by unfold logN; omega
/-- The first exponent at which the power is x. -/
def logF (m g x n : Nat) : Option Nat := (List.range n).find? (fun k => decide (g ^ k % m = x))
def logR (M O g x : ByteArray) (L : Int) : Value :=
  if hasG M O g = true ∧ hasG M O x = true then
    match logF (num M) (num g) (num x) (logN L) with
    | some k => .tuple #[.int .i64 k, .bool true]
    | none => .tuple #[.int .i64 0, .bool false]
  else .tuple #[.int .i64 0, .bool false]
theorem logR_out {M O g x : ByteArray} {L : Int} (h : ¬ (hasG M O g = true ∧ hasG M O x = true)) : logR M O g x L = .tuple #[.int .i64 0, .bool false] := by unfold logR; rw [if_neg h]
theorem logF_hit {m g x n k : Nat} (hk : k < n) (h0 : ∀ j, j < k → ¬ (g ^ j % m = x)) (h : g ^ k % m = x) : logF m g x n = some k := by
  unfold logF
  rw [List.find?_range_eq_some]
  refine ⟨by simp [h], by simp [hk], fun j hj => by simp [h0 j hj]⟩
theorem logF_none {m g x n : Nat} (h0 : ∀ j, j < n → ¬ (g ^ j % m = x)) : logF m g x n = none := by
  unfold logF
  rw [List.find?_eq_none]
  intro j hj
  simp [h0 j (List.mem_range.1 hj)]
theorem logR_hit {M O g x : ByteArray} {L : Int} {k : Nat} (h : hasG M O g = true ∧ hasG M O x = true) (hk : k < logN L) (h0 : ∀ j, j < k → ¬ (num g ^ j % num M = num x)) (hh : num g ^ k % num M = num x) : logR M O g x L = .tuple #[.int .i64 k, .bool true] := by
  unfold logR
  rw [if_pos h, logF_hit hk h0 hh]
theorem logR_none {M O g x : ByteArray} {L : Int} (h : hasG M O g = true ∧ hasG M O x = true) (h0 : ∀ j, j < logN L → ¬ (num g ^ j % num M = num x)) : logR M O g x L = .tuple #[.int .i64 0, .bool false] := by
  unfold logR
  rw [if_pos h, logF_none h0]
theorem has_val {M O e : ByteArray} (h : hasG M O e = true) : nvalid M = true ∧ nvalid O = true ∧ nvalid e = true := ⟨(of_decide_eq_true h).1, (of_decide_eq_true h).2.1, (of_decide_eq_true h).2.2.1⟩
theorem nS_beq' {a : Nat} {x : ByteArray} (h : nvalid x = true) : ((nS a).toList == x.toList) = decide (a = num x) := by
  rw [← nS_beq a (num x), ← nS_num h]

set_option maxRecDepth 100000 in
set_option maxHeartbeats 4000000 in
theorem pg_Log (M O g x : ByteArray) (L : Int) (hM : M.size ≤ 8) (hO : O.size ≤ 1000) (hg : g.size ≤ 1000) (hx : x.size ≤ 1000) (w : World) : Calls Tryd.prog 19 #[gV M O, .string g, .string x, .int .i64 L] w (Ret (logR M O g x L) w) := by
  have HH1 := Lib.hid (pg_Has M O g hM hO hg)
  have HH2 := Lib.hid (pg_Has M O x hM hO hx)
  have hB0 : Below w.heap.size w (w.alloc (.cells #[.string M, .string O] 24)) := (Below.refl _ _).alloc (Nat.le_refl _) _
  have HB0 := Lib.hid hB0
  have hX0 : (w.alloc (.cells #[.string M, .string O] 24)).heap[w.heap.size]? = some (.cells #[.string M, .string O] 24 (0, 0)) := heap_alloc_new _ _
  have HX0 := Lib.hid hX0
  clear hB0 hX0
  cases h1 : hasG M O g with
  | false =>
    have HR := Lib.hid (logR_out (M := M) (O := O) (g := g) (x := x) (L := L) (fun h => by rw [h.1] at h1; cases h1))
    rw [h1] at HH1
    clear h1
    rw [HR.out]
    unfold gV at *
    go_enter Tryd.func19, Tryd.ntmps19
    go_wp2_with fail
    refine (HH1.out _).mono ?_
    rintro ev w1 ⟨rfl, hb1⟩
    have hbx1 := (hb1.block _ (block_lt HX0.out)).trans HX0.out
    have HBX1 := Lib.hid hbx1
    have HB1 := Lib.hid (HB0.out.trans (hb1.mono HB0.out.size))
    have c0 : w1.cell? ⟨w.heap.size, 0, none⟩ = some (.string M) := by rw [Lib.cell_of_heap hbx1]; rfl
    have c1 : w1.cell? ⟨w.heap.size, 1, none⟩ = some (.string O) := by rw [Lib.cell_of_heap hbx1]; rfl
    clear hb1 hbx1
    go_wp2
    go_ret2
    exact ⟨rfl, HB1.out⟩
  | true =>
    cases h2 : hasG M O x with
    | false =>
      have HR := Lib.hid (logR_out (M := M) (O := O) (g := g) (x := x) (L := L) (fun h => by rw [h.2] at h2; cases h2))
      rw [h1] at HH1
      rw [h2] at HH2
      clear h1 h2
      rw [HR.out]
      unfold gV at *
      go_enter Tryd.func19, Tryd.ntmps19
      go_wp2_with fail
      refine (HH1.out _).mono ?_
      rintro ev w1 ⟨rfl, hb1⟩
      have hbx1 := (hb1.block _ (block_lt HX0.out)).trans HX0.out
      have HBX1 := Lib.hid hbx1
      have HB1 := Lib.hid (HB0.out.trans (hb1.mono HB0.out.size))
      have c0 : w1.cell? ⟨w.heap.size, 0, none⟩ = some (.string M) := by rw [Lib.cell_of_heap hbx1]; rfl
      have c1 : w1.cell? ⟨w.heap.size, 1, none⟩ = some (.string O) := by rw [Lib.cell_of_heap hbx1]; rfl
      clear hb1 hbx1
      go_wp2_with fail
      refine (HH2.out _).mono ?_
      rintro ev w2 ⟨rfl, hb2⟩
      clear c0 c1
      have hbx2 := (hb2.block _ (block_lt HBX1.out)).trans HBX1.out
      have HBX2 := Lib.hid hbx2
      have HB2 := Lib.hid (HB1.out.trans (hb2.mono HB1.out.size))
      have c0 : w2.cell? ⟨w.heap.size, 0, none⟩ = some (.string M) := by rw [Lib.cell_of_heap hbx2]; rfl
      have c1 : w2.cell? ⟨w.heap.size, 1, none⟩ = some (.string O) := by rw [Lib.cell_of_heap hbx2]; rfl
      clear hb2 hbx2
      go_wp2
      go_ret2
      exact ⟨rfl, HB2.out⟩
    | true =>
      have HIN := Lib.hid (show hasG M O g = true ∧ hasG M O x = true from ⟨h1, h2⟩)
      have hm8 := num_small hM
      have hgm := has_num h1
      have hxm := has_num h2
      obtain ⟨hvM, hvO, hvg⟩ := has_val h1
      have HVX := Lib.hid (has_val h2).2.2
      have h0 : 0 < num M := by omega
      have hg1 : 1 < num M := by
        have := (of_decide_eq_true h2).2.2.2.2.1
        omega
      have HMM := Lib.hid (fun k => mod_Mul (num g ^ k % num M) (num g) (num M) (id (Nat.lt_trans (Nat.mod_lt _ h0) hm8)) (id (by omega)) hm8 h0)
      have HPW := Lib.hid (fun k => pw_one (num g) k (num M))
      rw [← nS_num hvg, ← nS_num hvM] at HMM
      have HONE := Lib.hid (show nS 1 = nS (num g ^ 0 % num M) from by rw [Nat.pow_zero, Nat.mod_eq_of_lt hg1])
      have HEX := Lib.hid (mod_Exp (num g) 0 (num M) (by omega) (by decide) hm8 h0); rw [← nS_num hvg, ← nS_num hvM, nS_zero] at HEX
      rw [h1] at HH1
      rw [h2] at HH2
      clear hm8 hgm hxm hvM hvO hvg h0 h1 h2 hg1
      unfold gV at *
      go_enter Tryd.func19, Tryd.ntmps19
      go_wp2_with fail
      refine (HH1.out _).mono ?_
      rintro ev w1 ⟨rfl, hb1⟩
      have hbx1 := (hb1.block _ (block_lt HX0.out)).trans HX0.out
      have HBX1 := Lib.hid hbx1
      have HB1 := Lib.hid (HB0.out.trans (hb1.mono HB0.out.size))
      have c0 : w1.cell? ⟨w.heap.size, 0, none⟩ = some (.string M) := by rw [Lib.cell_of_heap hbx1]; rfl
      have c1 : w1.cell? ⟨w.heap.size, 1, none⟩ = some (.string O) := by rw [Lib.cell_of_heap hbx1]; rfl
      clear hb1 hbx1
      go_wp2_with fail
      refine (HH2.out _).mono ?_
      rintro ev w2 ⟨rfl, hb2⟩
      clear c0 c1
      have hbx2 := (hb2.block _ (block_lt HBX1.out)).trans HBX1.out
      have HBX2 := Lib.hid hbx2
      have HB2 := Lib.hid (HB1.out.trans (hb2.mono HB1.out.size))
      have c0 : w2.cell? ⟨w.heap.size, 0, none⟩ = some (.string M) := by rw [Lib.cell_of_heap hbx2]; rfl
      have c1 : w2.cell? ⟨w.heap.size, 1, none⟩ = some (.string O) := by rw [Lib.cell_of_heap hbx2]; rfl
      clear hb2 hbx2
      go_wp2_with fail
      refine (HEX.out _).mono ?_
      rintro ev w3 ⟨rfl, hb3⟩
      clear c0 c1
      have hbx3 := (hb3.block _ (block_lt HBX2.out)).trans HBX2.out
      have HBX3 := Lib.hid hbx3
      have HB3 := Lib.hid (HB2.out.trans (hb3.mono HB2.out.size))
      have c0 : w3.cell? ⟨w.heap.size, 0, none⟩ = some (.string M) := by rw [Lib.cell_of_heap hbx3]; rfl
      have c1 : w3.cell? ⟨w.heap.size, 1, none⟩ = some (.string O) := by rw [Lib.cell_of_heap hbx3]; rfl
      clear hb3 hbx3
      go_wp2
      go_loopw [10, 12] (fun c i wr => ∃ k : Nat, k ≤ 65537 ∧ i = .int .i64 k ∧ c = .string (nS (num g ^ k % num M)) ∧ (∀ j, j < k → ¬ (num g ^ j % num M = num x)) ∧ wr.heap[w.heap.size]? = some (.cells #[.string M, .string O] 24 (0, 0)) ∧ Below w.heap.size w wr) (fun _ i _ => 65537 - (intOf i).toNat)
      case atStart => exact ⟨0, Nat.zero_le _, rfl, by rw [Nat.pow_zero], fun j hj => absurd hj (Nat.not_lt_zero _), HBX3.out, HB3.out⟩
      case round =>
        obtain ⟨k, hk, rfl, rfl, hno, hbx, hB⟩ := hrel
        have HNO := Lib.hid hno
        have HBXr := Lib.hid hbx
        have HBr := Lib.hid hB
        clear hno hbx hB
        clear c0
        have c0 : wr.cell? ⟨w.heap.size, 0, none⟩ = some (.string M) := by rw [Lib.cell_of_heap HBXr.out]; rfl
        have hk0 : (0 : Int) ≤ (k : Int) := by omega
        have HEQ := Lib.hid (nS_beq' (a := num g ^ k % num M) HVX.out)
        by_cases hlt : k < logN L
        · obtain ⟨hkL, hk6⟩ := logN_lt.1 hlt
          have hkm : (k : Int) ≤ min L 65536 := by omega
          by_cases hhit : num g ^ k % num M = num x
          · have HR := Lib.hid (logR_hit HIN.out hlt HNO.out hhit)
            have heq : ((nS (num g ^ k % num M)).toList == x.toList) = true := by rw [HEQ.out]; exact decide_eq_true hhit
            clear hlt hhit HEQ
            rw [HR.out]
            go_wp2
            go_ret2
            exact ⟨rfl, HBr.out⟩
          · have HN2 := Lib.hid hhit
            have heq : ((nS (num g ^ k % num M)).toList == x.toList) = false := by rw [HEQ.out]; exact decide_eq_false hhit
            have HK := Lib.hid (HMM.out k)
            rw [HPW.out] at HK
            clear hlt hhit HEQ
            go_wp2_with fail
            refine (HK.out _).mono ?_
            rintro ev w4 ⟨rfl, hb4⟩
            clear c0
            have HBX4 := Lib.hid ((hb4.block _ (block_lt HBXr.out)).trans HBXr.out)
            have HB4 := Lib.hid (HBr.out.trans (hb4.mono HBr.out.size))
            clear hb4
            go_wp2
            go_roundw
            case rel => exact ⟨k + 1, by omega, by go_num, rfl, fun j hj => by
              rcases Nat.lt_or_ge j k with h | h
              · exact HNO.out j h
              · obtain rfl : j = k := by omega
                exact HN2.out, HBX4.out, HB4.out⟩
            case measure => simp [intOf]; omega
        · have HR := Lib.hid (logR_none (L := L) HIN.out (fun j hj => HNO.out j (by omega)))
          rw [logN_lt] at hlt
          clear HEQ
          have hkm : ¬ ((k : Int) ≤ min L 65536) := by omega
          by_cases hkL : (k : Int) ≤ L
          · have hk6 : ¬ ((k : Int) ≤ 65536) := fun h => hlt ⟨hkL, h⟩
            clear hlt
            go_wp2
            go_ret2
            exact ⟨by rw [HR.out]; rfl, HBr.out⟩
          · clear hlt
            go_wp2
            go_ret2
            exact ⟨by rw [HR.out]; rfl, HBr.out⟩
end Go.Proofs.YtcbjadaghpmejaaDoor

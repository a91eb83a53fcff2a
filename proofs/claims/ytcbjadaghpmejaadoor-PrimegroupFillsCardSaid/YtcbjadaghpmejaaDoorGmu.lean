/- Walks: primegroup.Mul, dominoref09.Mul. -/
import Derived.Test.YtcbjadaghpmejaaDoorGrp
set_option linter.unusedVariables false
set_option linter.unusedSimpArgs false
namespace Go.Proofs.YtcbjadaghpmejaaDoor
open Go.RowKit

/-- What Mul returns. -/
def mulR (M O a b : ByteArray) : Value :=
  if nvalid M = true ∧ nvalid O = true ∧ nvalid a = true ∧ nvalid b = true then
    if hasG M O a = true ∧ hasG M O b = true then .tuple #[.string (nS (num a * num b % num M)), .int .i64 0] else .tuple #[.string ⟨#[]⟩, .int .i64 13]
  else .tuple #[.string ⟨#[]⟩, .int .i64 3]
theorem mulR_bad {M O a b : ByteArray} (h : ¬ (nvalid M = true ∧ nvalid O = true ∧ nvalid a = true ∧ nvalid b = true)) : mulR M O a b = .tuple #[.string ⟨#[]⟩, .int .i64 3] := by unfold mulR; rw [if_neg h]
theorem mulR_out {M O a b : ByteArray} (h : nvalid M = true ∧ nvalid O = true ∧ nvalid a = true ∧ nvalid b = true) (h2 : ¬ (hasG M O a = true ∧ hasG M O b = true)) : mulR M O a b = .tuple #[.string ⟨#[]⟩, .int .i64 13] := by unfold mulR; rw [if_pos h, if_neg h2]
theorem mulR_in {M O a b : ByteArray} (h : nvalid M = true ∧ nvalid O = true ∧ nvalid a = true ∧ nvalid b = true) (h2 : hasG M O a = true ∧ hasG M O b = true) : mulR M O a b = .tuple #[.string (nS (num a * num b % num M)), .int .i64 0] := by unfold mulR; rw [if_pos h, if_pos h2]
theorem has_num {M O e : ByteArray} (h : hasG M O e = true) : num e < num M := (of_decide_eq_true h).2.2.2.2.2.1

set_option maxRecDepth 100000 in
set_option maxHeartbeats 4000000 in
theorem pg_Mul (M O a b : ByteArray) (hM : M.size ≤ 8) (hO : O.size ≤ 1000) (ha : a.size ≤ 1000) (hb : b.size ≤ 1000) (w : World) : Calls Tryd.prog 12 #[gV M O, .string a, .string b] w (Ret (mulR M O a b) w) := by
  have HF := Lib.hid (pg_formed M O (by omega) (by omega))
  have HVA := Lib.hid (nat_Valid a (by omega))
  have HVB := Lib.hid (nat_Valid b (by omega))
  have HHA := Lib.hid (pg_Has M O a hM hO ha)
  have HHB := Lib.hid (pg_Has M O b hM hO hb)
  have hB0 : Below w.heap.size w (w.alloc (.cells #[.string M, .string O] 24)) := (Below.refl _ _).alloc (Nat.le_refl _) _
  have HB0 := Lib.hid hB0
  have hX0 : (w.alloc (.cells #[.string M, .string O] 24)).heap[w.heap.size]? = some (.cells #[.string M, .string O] 24 (0, 0)) := heap_alloc_new _ _
  have HX0 := Lib.hid hX0
  clear hB0 hX0
  cases hf : (nvalid M && nvalid O) with
  | false =>
    have HR := Lib.hid (mulR_bad (M := M) (O := O) (a := a) (b := b) (fun h => by rw [h.1, h.2.1] at hf; cases hf))
    rw [hf] at HF
    clear hf
    rw [HR.out]
    unfold gV at *
    go_enter Tryd.func12, Tryd.ntmps12
    go_wp2_with fail
    refine (HF.out _).mono ?_
    rintro ev w1 ⟨rfl, hb1⟩
    have hbx1 := (hb1.block _ (block_lt HX0.out)).trans HX0.out
    have HBX1 := Lib.hid hbx1
    have HB1 := Lib.hid (HB0.out.trans (hb1.mono HB0.out.size))
    have c0 : w1.cell? ⟨w.heap.size, 0, none⟩ = some (.string M) := by rw [Lib.cell_of_heap hbx1]; rfl
    have c1 : w1.cell? ⟨w.heap.size, 1, none⟩ = some (.string O) := by rw [Lib.cell_of_heap hbx1]; rfl
    clear hb1 hbx1
    go_wp2
    go_ret2
    exact ⟨rfl, HB1.out⟩
  | true =>
    rw [hf] at HF
    rw [Bool.and_eq_true] at hf
    cases hva : nvalid a with
    | false =>
      have HR := Lib.hid (mulR_bad (M := M) (O := O) (a := a) (b := b) (fun h => by rw [h.2.2.1] at hva; cases hva))
      rw [hva] at HVA
      clear hf hva
      rw [HR.out]
      unfold gV at *
      go_enter Tryd.func12, Tryd.ntmps12
      go_wp2_with fail
      refine (HF.out _).mono ?_
      rintro ev w1 ⟨rfl, hb1⟩
      have hbx1 := (hb1.block _ (block_lt HX0.out)).trans HX0.out
      have HBX1 := Lib.hid hbx1
      have HB1 := Lib.hid (HB0.out.trans (hb1.mono HB0.out.size))
      have c0 : w1.cell? ⟨w.heap.size, 0, none⟩ = some (.string M) := by rw [Lib.cell_of_heap hbx1]; rfl
      have c1 : w1.cell? ⟨w.heap.size, 1, none⟩ = some (.string O) := by rw [Lib.cell_of_heap hbx1]; rfl
      clear hb1 hbx1
      go_wp2_with fail
      refine (HVA.out _).mono ?_
      rintro ev w2 ⟨rfl, rfl⟩
      go_wp2
      go_ret2
      exact ⟨rfl, HB1.out⟩
    | true =>
      rw [hva] at HVA
      cases hvb : nvalid b with
      | false =>
        have HR := Lib.hid (mulR_bad (M := M) (O := O) (a := a) (b := b) (fun h => by rw [h.2.2.2] at hvb; cases hvb))
        rw [hvb] at HVB
        clear hf hva hvb
        rw [HR.out]
        unfold gV at *
        go_enter Tryd.func12, Tryd.ntmps12
        go_wp2_with fail
        refine (HF.out _).mono ?_
        rintro ev w1 ⟨rfl, hb1⟩
        have hbx1 := (hb1.block _ (block_lt HX0.out)).trans HX0.out
        have HBX1 := Lib.hid hbx1
        have HB1 := Lib.hid (HB0.out.trans (hb1.mono HB0.out.size))
        have c0 : w1.cell? ⟨w.heap.size, 0, none⟩ = some (.string M) := by rw [Lib.cell_of_heap hbx1]; rfl
        have c1 : w1.cell? ⟨w.heap.size, 1, none⟩ = some (.string O) := by rw [Lib.cell_of_heap hbx1]; rfl
        clear hb1 hbx1
        go_wp2_with fail
        refine (HVA.out _).mono ?_
        rintro ev w2 ⟨rfl, rfl⟩
        go_wp2_with fail
        refine (HVB.out _).mono ?_
        rintro ev w2 ⟨rfl, rfl⟩
        go_wp2
        go_ret2
        exact ⟨rfl, HB1.out⟩
      | true =>
        rw [hvb] at HVB
        cases hha : hasG M O a with
        | false =>
          have HR := Lib.hid (mulR_out (M := M) (O := O) (a := a) (b := b) ⟨hf.1, hf.2, hva, hvb⟩ (fun h => by rw [h.1] at hha; cases hha))
          rw [hha] at HHA
          clear hf hva hvb hha
          rw [HR.out]
          unfold gV at *
          go_enter Tryd.func12, Tryd.ntmps12
          go_wp2_with fail
          refine (HF.out _).mono ?_
          rintro ev w1 ⟨rfl, hb1⟩
          have hbx1 := (hb1.block _ (block_lt HX0.out)).trans HX0.out
          have HBX1 := Lib.hid hbx1
          have HB1 := Lib.hid (HB0.out.trans (hb1.mono HB0.out.size))
          have c0 : w1.cell? ⟨w.heap.size, 0, none⟩ = some (.string M) := by rw [Lib.cell_of_heap hbx1]; rfl
          have c1 : w1.cell? ⟨w.heap.size, 1, none⟩ = some (.string O) := by rw [Lib.cell_of_heap hbx1]; rfl
          clear hb1 hbx1
          go_wp2_with fail
          refine (HVA.out _).mono ?_
          rintro ev w2 ⟨rfl, rfl⟩
          go_wp2_with fail
          refine (HVB.out _).mono ?_
          rintro ev w2 ⟨rfl, rfl⟩
          go_wp2_with fail
          refine (HHA.out _).mono ?_
          rintro ev w2 ⟨rfl, hb2⟩
          clear c0 c1
          have hbx2 := (hb2.block _ (block_lt HBX1.out)).trans HBX1.out
          have HBX2 := Lib.hid hbx2
          have HB2 := Lib.hid (HB1.out.trans (hb2.mono HB1.out.size))
          have c0 : w2.cell? ⟨w.heap.size, 0, none⟩ = some (.string M) := by rw [Lib.cell_of_heap hbx2]; rfl
          have c1 : w2.cell? ⟨w.heap.size, 1, none⟩ = some (.string O) := by rw [Lib.cell_of_heap hbx2]; rfl
          clear hb2 hbx2
          go_wp2
          go_ret2
          exact ⟨rfl, HB2.out⟩
        | true =>
          rw [hha] at HHA
          cases hhb : hasG M O b with
          | false =>
            have HR := Lib.hid (mulR_out (M := M) (O := O) (a := a) (b := b) ⟨hf.1, hf.2, hva, hvb⟩ (fun h => by rw [h.2] at hhb; cases hhb))
            rw [hhb] at HHB
            clear hf hva hvb hha hhb
            rw [HR.out]
            unfold gV at *
            go_enter Tryd.func12, Tryd.ntmps12
            go_wp2_with fail
            refine (HF.out _).mono ?_
            rintro ev w1 ⟨rfl, hb1⟩
            have hbx1 := (hb1.block _ (block_lt HX0.out)).trans HX0.out
            have HBX1 := Lib.hid hbx1
            have HB1 := Lib.hid (HB0.out.trans (hb1.mono HB0.out.size))
            have c0 : w1.cell? ⟨w.heap.size, 0, none⟩ = some (.string M) := by rw [Lib.cell_of_heap hbx1]; rfl
            have c1 : w1.cell? ⟨w.heap.size, 1, none⟩ = some (.string O) := by rw [Lib.cell_of_heap hbx1]; rfl
            clear hb1 hbx1
            go_wp2_with fail
            refine (HVA.out _).mono ?_
            rintro ev w2 ⟨rfl, rfl⟩
            go_wp2_with fail
            refine (HVB.out _).mono ?_
            rintro ev w2 ⟨rfl, rfl⟩
            go_wp2_with fail
            refine (HHA.out _).mono ?_
            rintro ev w2 ⟨rfl, hb2⟩
            clear c0 c1
            have hbx2 := (hb2.block _ (block_lt HBX1.out)).trans HBX1.out
            have HBX2 := Lib.hid hbx2
            have HB2 := Lib.hid (HB1.out.trans (hb2.mono HB1.out.size))
            have c0 : w2.cell? ⟨w.heap.size, 0, none⟩ = some (.string M) := by rw [Lib.cell_of_heap hbx2]; rfl
            have c1 : w2.cell? ⟨w.heap.size, 1, none⟩ = some (.string O) := by rw [Lib.cell_of_heap hbx2]; rfl
            clear hb2 hbx2
            go_wp2_with fail
            refine (HHB.out _).mono ?_
            rintro ev w3 ⟨rfl, hb3⟩
            clear c0 c1
            have hbx3 := (hb3.block _ (block_lt HBX2.out)).trans HBX2.out
            have HBX3 := Lib.hid hbx3
            have HB3 := Lib.hid (HB2.out.trans (hb3.mono HB2.out.size))
            have c0 : w3.cell? ⟨w.heap.size, 0, none⟩ = some (.string M) := by rw [Lib.cell_of_heap hbx3]; rfl
            have c1 : w3.cell? ⟨w.heap.size, 1, none⟩ = some (.string O) := by rw [Lib.cell_of_heap hbx3]; rfl
            clear hb3 hbx3
            go_wp2
            go_ret2
            exact ⟨rfl, HB3.out⟩
          | true =>
            have HR := Lib.hid (mulR_in (M := M) (O := O) (a := a) (b := b) ⟨hf.1, hf.2, hva, hvb⟩ ⟨hha, hhb⟩)
            rw [hhb] at HHB
            have hm8 := num_small hM
            have h1 := has_num hha
            have h2 := has_num hhb
            have HMM := Lib.hid (mod_Mul (num a) (num b) (num M) (by omega) (by omega) hm8 (by omega))
            rw [← nS_num hva, ← nS_num hvb, ← nS_num hf.1] at HMM
            obtain ⟨Z, hZ⟩ : ∃ Z, nS (num a * num b % num M) = Z := ⟨_, rfl⟩
            rw [hZ] at HMM HR
            clear hf hva hvb hha hhb h1 h2 hm8 hZ
            rw [HR.out]
            unfold gV at *
            go_enter Tryd.func12, Tryd.ntmps12
            go_wp2_with fail
            refine (HF.out _).mono ?_
            rintro ev w1 ⟨rfl, hb1⟩
            have hbx1 := (hb1.block _ (block_lt HX0.out)).trans HX0.out
            have HBX1 := Lib.hid hbx1
            have HB1 := Lib.hid (HB0.out.trans (hb1.mono HB0.out.size))
            have c0 : w1.cell? ⟨w.heap.size, 0, none⟩ = some (.string M) := by rw [Lib.cell_of_heap hbx1]; rfl
            have c1 : w1.cell? ⟨w.heap.size, 1, none⟩ = some (.string O) := by rw [Lib.cell_of_heap hbx1]; rfl
            clear hb1 hbx1
            go_wp2_with fail
            refine (HVA.out _).mono ?_
            rintro ev w2 ⟨rfl, rfl⟩
            go_wp2_with fail
            refine (HVB.out _).mono ?_
            rintro ev w2 ⟨rfl, rfl⟩
            go_wp2_with fail
            refine (HHA.out _).mono ?_
            rintro ev w2 ⟨rfl, hb2⟩
            clear c0 c1
            have hbx2 := (hb2.block _ (block_lt HBX1.out)).trans HBX1.out
            have HBX2 := Lib.hid hbx2
            have HB2 := Lib.hid (HB1.out.trans (hb2.mono HB1.out.size))
            have c0 : w2.cell? ⟨w.heap.size, 0, none⟩ = some (.string M) := by rw [Lib.cell_of_heap hbx2]; rfl
            have c1 : w2.cell? ⟨w.heap.size, 1, none⟩ = some (.string O) := by rw [Lib.cell_of_heap hbx2]; rfl
            clear hb2 hbx2
            go_wp2_with fail
            refine (HHB.out _).mono ?_
            rintro ev w3 ⟨rfl, hb3⟩
            clear c0 c1
            have hbx3 := (hb3.block _ (block_lt HBX2.out)).trans HBX2.out
            have HBX3 := Lib.hid hbx3
            have HB3 := Lib.hid (HB2.out.trans (hb3.mono HB2.out.size))
            have c0 : w3.cell? ⟨w.heap.size, 0, none⟩ = some (.string M) := by rw [Lib.cell_of_heap hbx3]; rfl
            have c1 : w3.cell? ⟨w.heap.size, 1, none⟩ = some (.string O) := by rw [Lib.cell_of_heap hbx3]; rfl
            clear hb3 hbx3
            go_wp2_with fail
            refine (HMM.out _).mono ?_
            rintro ev w4 ⟨rfl, hb4⟩
            clear c0 c1
            have hbx4 := (hb4.block _ (block_lt HBX3.out)).trans HBX3.out
            have HBX4 := Lib.hid hbx4
            have HB4 := Lib.hid (HB3.out.trans (hb4.mono HB3.out.size))
            have c0 : w4.cell? ⟨w.heap.size, 0, none⟩ = some (.string M) := by rw [Lib.cell_of_heap hbx4]; rfl
            have c1 : w4.cell? ⟨w.heap.size, 1, none⟩ = some (.string O) := by rw [Lib.cell_of_heap hbx4]; rfl
            clear hb4 hbx4
            go_wp2
            go_ret2
            exact ⟨rfl, HB4.out⟩
end Go.Proofs.YtcbjadaghpmejaaDoor

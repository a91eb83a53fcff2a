/- Walks: dominoref02.Mod; primegroup.Power, dominoref09.Power. -/
import Derived.Test.YtcbjadaghpmejaaDoorPwR
import Derived.Test.YtcbjadaghpmejaaDoorGmu
set_option linter.unusedVariables false
set_option linter.unusedSimpArgs false
namespace Go.Proofs.YtcbjadaghpmejaaDoor
open Go.RowKit


/-- What Power returns. -/
def powR (M O a : ByteArray) (b : Bool) (s : ByteArray) : Value :=
  if nvalid M = true ∧ nvalid O = true ∧ nvalid a = true ∧ zvalid b s = true then
    if hasG M O a = true then .tuple #[.string (nS (num a ^ (sg b (num s) % (num O : Int)).toNat % num M)), .int .i64 0] else .tuple #[.string ⟨#[]⟩, .int .i64 13]
  else .tuple #[.string ⟨#[]⟩, .int .i64 3]
theorem powR_bad {M O a s : ByteArray} {b : Bool} (h : ¬ (nvalid M = true ∧ nvalid O = true ∧ nvalid a = true ∧ zvalid b s = true)) : powR M O a b s = .tuple #[.string ⟨#[]⟩, .int .i64 3] := by unfold powR; rw [if_neg h]
theorem powR_out {M O a s : ByteArray} {b : Bool} (h : nvalid M = true ∧ nvalid O = true ∧ nvalid a = true ∧ zvalid b s = true) (h2 : ¬ (hasG M O a = true)) : powR M O a b s = .tuple #[.string ⟨#[]⟩, .int .i64 13] := by unfold powR; rw [if_pos h, if_neg h2]
theorem powR_in {M O a s : ByteArray} {b : Bool} (h : nvalid M = true ∧ nvalid O = true ∧ nvalid a = true ∧ zvalid b s = true) (h2 : hasG M O a = true) : powR M O a b s = .tuple #[.string (nS (num a ^ (sg b (num s) % (num O : Int)).toNat % num M)), .int .i64 0] := by unfold powR; rw [if_pos h, if_pos h2]
theorem sg_abs (b : Bool) (n : Nat) : (sg b n).natAbs = n := by
  unfold sg
  cases b
  · exact Int.natAbs_natCast n
  · simp
theorem zv_valid {b : Bool} {s : ByteArray} (h : zvalid b s = true) : nvalid s = true ∧ zV b s = intV (sg b (num s)) := by
  unfold zvalid at h
  rw [Bool.and_eq_true] at h
  refine ⟨h.1, ?_⟩
  have e := nS_num h.1
  rw [← intV_sg]
  rw [← e]
  have h2 := h.2
  cases b
  · rfl
  · cases hs : s.toList.isEmpty
    · rfl
    · rw [hs] at h2; cases h2

set_option maxRecDepth 100000 in
set_option maxHeartbeats 4000000 in
theorem pg_Power (M O a : ByteArray) (b : Bool) (s : ByteArray) (hM : M.size ≤ 8) (hO : O.size ≤ 1000) (ha : a.size ≤ 1000) (hs : s.size ≤ 1000) (w : World) : Calls Tryd.prog 13 #[gV M O, .string a, zV b s] w (Ret (powR M O a b s) w) := by
  have HF := Lib.hid (pg_formed M O (by omega) (by omega))
  have HVA := Lib.hid (nat_Valid a (by omega))
  have HVZ := Lib.hid (int_Valid b s (by omega))
  have HHA := Lib.hid (pg_Has M O a hM hO ha)
  obtain ⟨W0, hW0⟩ : ∃ W0, (w.alloc (.cells #[.string M, .string O] 24)).alloc (.cells #[.bool b, .string s] 31) = W0 := ⟨_, rfl⟩
  have HGX0 := Lib.hid (show Bx2 W0 w.heap.size (.string M) (.string O) 24 from by
    rw [← hW0]
    exact (Bx2.new w _ _ _).next ((Below.refl _ _).alloc (Nat.le_refl _) _))
  have HZX0 := Lib.hid (show Bx2 W0 (w.heap.size + 1) (.bool b) (.string s) 31 from by
    rw [← hW0]
    have := Bx2.new (w.alloc (.cells #[.string M, .string O] 24)) (.bool b) (.string s) 31
    rw [World.size_alloc] at this
    exact this)
  have HB0 := Lib.hid (show Below w.heap.size w W0 from by
    rw [← hW0]
    exact ((Below.refl w.heap.size w).alloc (Nat.le_refl _) _).alloc (by simp) _)
  cases hf : (nvalid M && nvalid O) with
  | false =>
    have HR := Lib.hid (powR_bad (M := M) (O := O) (a := a) (b := b) (s := s) (fun h => by rw [h.1, h.2.1] at hf; cases hf))
    rw [hf] at HF
    clear hf
    rw [HR.out]
    unfold gV zV at *
    have c0 := HGX0.out.c0
    have c1 := HGX0.out.c1
    have d0 := HZX0.out.c0
    have d1 := HZX0.out.c1
    go_enter Tryd.func13, Tryd.ntmps13
    go_wp2_with fail
    try rw [hW0]
    clear hW0
    refine (HF.out _).mono ?_
    rintro ev w1 ⟨rfl, hb1⟩
    have HGX1 := Lib.hid (HGX0.out.next hb1)
    have HZX1 := Lib.hid (HZX0.out.next hb1)
    have HB1 := Lib.hid (HB0.out.trans (hb1.mono HB0.out.size))
    clear hb1 c0 c1 d0 d1
    have c0 := HGX1.out.c0
    have c1 := HGX1.out.c1
    have d0 := HZX1.out.c0
    have d1 := HZX1.out.c1
    go_wp2
    go_ret2
    exact ⟨rfl, HB1.out⟩
  | true =>
    rw [hf] at HF
    rw [Bool.and_eq_true] at hf
    cases hva : nvalid a with
    | false =>
      have HR := Lib.hid (powR_bad (M := M) (O := O) (a := a) (b := b) (s := s) (fun h => by rw [h.2.2.1] at hva; cases hva))
      rw [hva] at HVA
      clear hf hva
      rw [HR.out]
      unfold gV zV at *
      have c0 := HGX0.out.c0
      have c1 := HGX0.out.c1
      have d0 := HZX0.out.c0
      have d1 := HZX0.out.c1
      go_enter Tryd.func13, Tryd.ntmps13
      go_wp2_with fail
      try rw [hW0]
      clear hW0
      refine (HF.out _).mono ?_
      rintro ev w1 ⟨rfl, hb1⟩
      have HGX1 := Lib.hid (HGX0.out.next hb1)
      have HZX1 := Lib.hid (HZX0.out.next hb1)
      have HB1 := Lib.hid (HB0.out.trans (hb1.mono HB0.out.size))
      clear hb1 c0 c1 d0 d1
      have c0 := HGX1.out.c0
      have c1 := HGX1.out.c1
      have d0 := HZX1.out.c0
      have d1 := HZX1.out.c1
      go_wp2_with fail
      refine (HVA.out _).mono ?_
      rintro ev w2 ⟨rfl, rfl⟩
      go_wp2
      go_ret2
      exact ⟨rfl, HB1.out⟩
    | true =>
      rw [hva] at HVA
      cases hvz : zvalid b s with
      | false =>
        have HR := Lib.hid (powR_bad (M := M) (O := O) (a := a) (b := b) (s := s) (fun h => by rw [h.2.2.2] at hvz; cases hvz))
        rw [hvz] at HVZ
        clear hf hva hvz
        rw [HR.out]
        unfold gV zV at *
        have c0 := HGX0.out.c0
        have c1 := HGX0.out.c1
        have d0 := HZX0.out.c0
        have d1 := HZX0.out.c1
        go_enter Tryd.func13, Tryd.ntmps13
        go_wp2_with fail
        try rw [hW0]
        clear hW0
        refine (HF.out _).mono ?_
        rintro ev w1 ⟨rfl, hb1⟩
        have HGX1 := Lib.hid (HGX0.out.next hb1)
        have HZX1 := Lib.hid (HZX0.out.next hb1)
        have HB1 := Lib.hid (HB0.out.trans (hb1.mono HB0.out.size))
        clear hb1 c0 c1 d0 d1
        have c0 := HGX1.out.c0
        have c1 := HGX1.out.c1
        have d0 := HZX1.out.c0
        have d1 := HZX1.out.c1
        go_wp2_with fail
        refine (HVA.out _).mono ?_
        rintro ev w2 ⟨rfl, rfl⟩
        go_wp2_with fail
        refine (HVZ.out _).mono ?_
        rintro ev w2 ⟨rfl, hb2⟩
        have HGX2 := Lib.hid (HGX1.out.next hb2)
        have HZX2 := Lib.hid (HZX1.out.next hb2)
        have HB2 := Lib.hid (HB1.out.trans (hb2.mono HB1.out.size))
        clear hb2 c0 c1 d0 d1
        have c0 := HGX2.out.c0
        have c1 := HGX2.out.c1
        have d0 := HZX2.out.c0
        have d1 := HZX2.out.c1
        go_wp2
        go_ret2
        exact ⟨rfl, HB2.out⟩
      | true =>
        rw [hvz] at HVZ
        cases hha : hasG M O a with
        | false =>
          have HR := Lib.hid (powR_out (M := M) (O := O) (a := a) (b := b) (s := s) ⟨hf.1, hf.2, hva, hvz⟩ (fun h => by rw [h] at hha; cases hha))
          rw [hha] at HHA
          clear hf hva hvz hha
          rw [HR.out]
          unfold gV zV at *
          have c0 := HGX0.out.c0
          have c1 := HGX0.out.c1
          have d0 := HZX0.out.c0
          have d1 := HZX0.out.c1
          go_enter Tryd.func13, Tryd.ntmps13
          go_wp2_with fail
          try rw [hW0]
          clear hW0
          refine (HF.out _).mono ?_
          rintro ev w1 ⟨rfl, hb1⟩
          have HGX1 := Lib.hid (HGX0.out.next hb1)
          have HZX1 := Lib.hid (HZX0.out.next hb1)
          have HB1 := Lib.hid (HB0.out.trans (hb1.mono HB0.out.size))
          clear hb1 c0 c1 d0 d1
          have c0 := HGX1.out.c0
          have c1 := HGX1.out.c1
          have d0 := HZX1.out.c0
          have d1 := HZX1.out.c1
          go_wp2_with fail
          refine (HVA.out _).mono ?_
          rintro ev w2 ⟨rfl, rfl⟩
          go_wp2_with fail
          refine (HVZ.out _).mono ?_
          rintro ev w2 ⟨rfl, hb2⟩
          have HGX2 := Lib.hid (HGX1.out.next hb2)
          have HZX2 := Lib.hid (HZX1.out.next hb2)
          have HB2 := Lib.hid (HB1.out.trans (hb2.mono HB1.out.size))
          clear hb2 c0 c1 d0 d1
          have c0 := HGX2.out.c0
          have c1 := HGX2.out.c1
          have d0 := HZX2.out.c0
          have d1 := HZX2.out.c1
          go_wp2_with fail
          refine (HHA.out _).mono ?_
          rintro ev w3 ⟨rfl, hb3⟩
          have HGX3 := Lib.hid (HGX2.out.next hb3)
          have HZX3 := Lib.hid (HZX2.out.next hb3)
          have HB3 := Lib.hid (HB2.out.trans (hb3.mono HB2.out.size))
          clear hb3 c0 c1 d0 d1
          have c0 := HGX3.out.c0
          have c1 := HGX3.out.c1
          have d0 := HZX3.out.c0
          have d1 := HZX3.out.c1
          go_wp2
          go_ret2
          exact ⟨rfl, HB3.out⟩
        | true =>
          have HR := Lib.hid (powR_in (M := M) (O := O) (a := a) (b := b) (s := s) ⟨hf.1, hf.2, hva, hvz⟩ hha)
          rw [hha] at HHA
          have hm8 := num_small hM
          have h1 := has_num hha
          obtain ⟨hvs, hze⟩ := zv_valid hvz
          have ho0 : 0 < num O := (of_decide_eq_true hha).2.2.2.1
          have hpw : num a ^ num O % num M = 1 := (of_decide_eq_true hha).2.2.2.2.2.2
          have hs8 : num s < 256 ^ 128 := num_lt (by unfold nvalid at hvs; simp at hvs; exact hvs.1)
          have ho8 : num O < 256 ^ 128 := num_lt (by have := hf.2; unfold nvalid at this; simp at this; exact this.1)
          have HPW := Lib.hid (mod_Power (num a) (num M) (num O) (sg b (num s)) h1 hm8 (by rw [sg_abs]; exact hs8) ho0 hpw)
          rw [← nS_num hva, ← nS_num hf.1, ← hze] at HPW
          obtain ⟨R, hR'⟩ : ∃ R, nS (num a ^ (sg b (num s) % (num O : Int)).toNat % num M) = R := ⟨_, rfl⟩
          rw [hR'] at HPW HR
          clear hf hva hvz hha hm8 h1 hvs hze ho0 hpw hs8 ho8 hR'
          rw [HR.out]
          unfold gV zV at *
          have c0 := HGX0.out.c0
          have c1 := HGX0.out.c1
          have d0 := HZX0.out.c0
          have d1 := HZX0.out.c1
          go_enter Tryd.func13, Tryd.ntmps13
          go_wp2_with fail
          try rw [hW0]
          clear hW0
          refine (HF.out _).mono ?_
          rintro ev w1 ⟨rfl, hb1⟩
          have HGX1 := Lib.hid (HGX0.out.next hb1)
          have HZX1 := Lib.hid (HZX0.out.next hb1)
          have HB1 := Lib.hid (HB0.out.trans (hb1.mono HB0.out.size))
          clear hb1 c0 c1 d0 d1
          have c0 := HGX1.out.c0
          have c1 := HGX1.out.c1
          have d0 := HZX1.out.c0
          have d1 := HZX1.out.c1
          go_wp2_with fail
          refine (HVA.out _).mono ?_
          rintro ev w2 ⟨rfl, rfl⟩
          go_wp2_with fail
          refine (HVZ.out _).mono ?_
          rintro ev w2 ⟨rfl, hb2⟩
          have HGX2 := Lib.hid (HGX1.out.next hb2)
          have HZX2 := Lib.hid (HZX1.out.next hb2)
          have HB2 := Lib.hid (HB1.out.trans (hb2.mono HB1.out.size))
          clear hb2 c0 c1 d0 d1
          have c0 := HGX2.out.c0
          have c1 := HGX2.out.c1
          have d0 := HZX2.out.c0
          have d1 := HZX2.out.c1
          go_wp2_with fail
          refine (HHA.out _).mono ?_
          rintro ev w3 ⟨rfl, hb3⟩
          have HGX3 := Lib.hid (HGX2.out.next hb3)
          have HZX3 := Lib.hid (HZX2.out.next hb3)
          have HB3 := Lib.hid (HB2.out.trans (hb3.mono HB2.out.size))
          clear hb3 c0 c1 d0 d1
          have c0 := HGX3.out.c0
          have c1 := HGX3.out.c1
          have d0 := HZX3.out.c0
          have d1 := HZX3.out.c1
          go_wp2_with fail
          refine (HPW.out _).mono ?_
          rintro ev w4 ⟨rfl, hb4⟩
          have HGX4 := Lib.hid (HGX3.out.next hb4)
          have HZX4 := Lib.hid (HZX3.out.next hb4)
          have HB4 := Lib.hid (HB3.out.trans (hb4.mono HB3.out.size))
          clear hb4 c0 c1 d0 d1
          have c0 := HGX4.out.c0
          have c1 := HGX4.out.c1
          have d0 := HZX4.out.c0
          have d1 := HZX4.out.c1
          go_wp2
          go_ret2
          exact ⟨rfl, HB4.out⟩
end Go.Proofs.YtcbjadaghpmejaaDoor

/- Plain: lists of valid numbers; what an element is. -/
import Derived.Test.YtndmjfkmnjejkaaGreatDoorQPeEA
import Derived.Test.YtndmjfkmnjejkaaGreatDoorQPeP
import Derived.Test.YtndmjfkmnjejkaaGreatDoorQPeF
set_option linter.unusedVariables false
set_option linter.unusedSimpArgs false
namespace Go.Proofs.YtndmjfkmnjejkaaGreatDoor
open Go.RowKit Go.Lib
theorem nall_false {l : List ByteArray} {k : Nat} {s : ByteArray} (h : l[k]? = some s) (hv : nvalid s = false) : ¬ (l.all nvalid = true) := fun hall => by
  have := List.all_eq_true.1 hall s (List.mem_of_getElem? h)
  rw [hv] at this; cases this
theorem nall_true {l : List ByteArray} (h : ∀ k, k < l.length → ∃ s, l[k]? = some s ∧ nvalid s = true) : l.all nvalid = true := by
  rw [List.all_eq_true]
  intro s hs
  obtain ⟨k, hk⟩ := List.mem_iff_getElem?.1 hs
  obtain ⟨s', h1, h2⟩ := h k (List.getElem?_eq_some_iff.1 hk).1
  rw [hk] at h1
  cases h1
  exact h2
theorem hasK_parts {M O x : ByteArray} (h : hasK M O x = true) : chkK M O = 0 ∧ nvalid x = true ∧ hasN (num M) (num O) (num x) = true := by
  unfold hasK at h
  simp only [Bool.and_eq_true, decide_eq_true_eq] at h
  exact ⟨h.1.1, h.1.2, h.2⟩
end Go.Proofs.YtndmjfkmnjejkaaGreatDoor
/- Walks: schnorr.formed, generator, the reference's generator; what Check of a Schnorr key is. -/
set_option linter.unusedVariables false
set_option linter.unusedSimpArgs false
namespace Go.Proofs.YtndmjfkmnjejkaaGreatDoor
open Go.RowKit Go.Lib
set_option maxRecDepth 100000 in
set_option maxHeartbeats 1000000 in
theorem sc_formed (l : List ByteArray) (A : Option Addr) (n cap : Nat) (hn : n ≤ 1000) (hlz : ∀ x ∈ l, x.size ≤ 9223372036854775807) (w : World) (hsl : SlN w A n cap l) : Calls Tryz.prog 59 #[.slice A n cap] w (RetQ (.bool (l.all nvalid)) w) := by
  have HS := Lib.hid hsl
  have HLEN := Lib.hid hsl.1
  have HLZ := Lib.hid hlz
  have hcap := hsl.2.1
  have hcap2 := hsl.2.2.1
  have hni : (n : Int) ≤ 1000 := by omega
  obtain ⟨R, hR⟩ : ∃ R, l.all nvalid = R := ⟨_, rfl⟩
  have HR := Lib.hid hR
  rw [hR]
  clear hR hsl hlz
  go_enter Tryz.func59, Tryz.ntmps59
  go_wp2
  go_loopw [7] (fun i wr => ∃ k : Nat, k ≤ n ∧ i = .int .i64 k ∧ (∀ j, j < k → ∃ s, l[j]? = some s ∧ nvalid s = true) ∧ wr = w) (fun i _ => n - (RowKit.intOf i).toNat)
  case atStart => exact ⟨0, Nat.zero_le _, rfl, fun j h => by omega, rfl⟩
  case round =>
    obtain ⟨k, hk, rfl, hall, rfl⟩ := hrel
    have HALL := Lib.hid hall
    clear hall
    by_cases hlt : k < n
    · obtain ⟨b, o, rfl⟩ := HS.out.head (by omega)
      obtain ⟨x, he⟩ : ∃ s, l[k]? = some s := ⟨_, List.getElem?_eq_getElem (by rw [HLEN.out]; exact hlt)⟩
      have d0 := HS.out.get? k he
      have HE := Lib.hid he
      have HV := Lib.hid (nat_Valid x (HLZ.out x (List.mem_of_getElem? he)))
      have hki : (k : Int) < (n : Int) := by omega
      have HKN := Lib.hid hlt
      clear he hk hlt
      cases hv : nvalid x with
      | false =>
        rw [hv] at HV
        have HR3 := Lib.hid (show R = false from by rw [← HR.out]; exact Bool.eq_false_iff.2 (nall_false HE.out hv))
        clear hv
        go_wp2_with fail
        refine (HV.out _).mono ?_
        rintro ev w2 ⟨rfl, rfl⟩
        go_wp2
        go_ret
        exact ⟨by rw [HR3.out]; rfl, rfl⟩
      | true =>
        rw [hv] at HV
        have HA2 := Lib.hid (show ∀ j, j < k + 1 → ∃ s, l[j]? = some s ∧ nvalid s = true from fun j hj => by
          by_cases e : j = k
          · subst e; exact ⟨x, HE.out, hv⟩
          · exact HALL.out j (by omega))
        clear hv
        go_wp2_with fail
        refine (HV.out _).mono ?_
        rintro ev w2 ⟨rfl, rfl⟩
        go_wp2
        refine ⟨⟨k + 1, by have := HKN.out; omega, by go_num, HA2.out, trivial⟩, ?_⟩
        have := HKN.out; simp [RowKit.intOf]; omega
    · have HAV := Lib.hid (show R = true from by rw [← HR.out]; exact nall_true fun j hj => HALL.out j (by rw [HLEN.out] at hj; omega))
      have hge : ¬ ((k : Int) < (n : Int)) := by omega
      clear hk hlt HALL HS
      go_wp2
      go_ret
      exact ⟨by rw [HAV.out]; rfl, rfl⟩
def genK (M O x : ByteArray) : Bool := hasK M O x && !(x.toList == [1])
set_option maxRecDepth 100000 in
set_option maxHeartbeats 1000000 in
theorem sc_generator (M O x : ByteArray) (hM : M.size ≤ 8) (hO : O.size ≤ 8) (hx : nvalid x = true) (w : World) : Calls Tryz.prog 61 #[gV M O, .string x] w (Ret (.bool (genK M O x)) w) := by
  have HH := Lib.hid (pw_Has M O x hM hO hx)
  have HX0 := Lib.hid (Bx2.new w (.string M) (.string O) 24)
  have HB0 := Lib.hid ((Below.refl w.heap.size w).alloc (Nat.le_refl _) (.cells #[.string M, .string O] 24))
  have c0 := HX0.out.c0
  have c1 := HX0.out.c1
  cases hh : hasK M O x with
  | false =>
    have HR := Lib.hid (show genK M O x = false from by unfold genK; rw [hh]; rfl)
    rw [hh] at HH
    rw [HR.out]
    unfold gV at *
    clear hh hM hO hx
    go_enter Tryz.func61, Tryz.ntmps61
    go_wp2_with fail
    refine (HH.out _).mono ?_
    rintro ev w1 ⟨rfl, hb⟩
    have HB1 := Lib.hid (HB0.out.trans (hb.mono HB0.out.size))
    clear hb c0 c1
    go_wp2
    go_ret
    exact ⟨rfl, HB1.out⟩
  | true =>
    have HR := Lib.hid (show genK M O x = !(x.toList == [1]) from by unfold genK; rw [hh]; rfl)
    rw [hh] at HH
    rw [HR.out]
    unfold gV at *
    clear hh hM hO hx
    go_enter Tryz.func61, Tryz.ntmps61
    go_wp2_with fail
    refine (HH.out _).mono ?_
    rintro ev w1 ⟨rfl, hb⟩
    have HB1 := Lib.hid (HB0.out.trans (hb.mono HB0.out.size))
    clear hb c0 c1
    go_wp2
    go_ret
    exact ⟨rfl, HB1.out⟩
set_option maxRecDepth 100000 in
set_option maxHeartbeats 1000000 in
theorem r33_generator (M O x : ByteArray) (hM : M.size ≤ 8) (hO : O.size ≤ 8) (hx : nvalid x = true) (w : World) : Calls Tryz.prog 64 #[gV M O, .string x] w (Ret (.bool (!(O.toList.isEmpty) && genK M O x)) w) := by
  have HH := Lib.hid (r13_Has M O x hM hO hx)
  have HX0 := Lib.hid (Bx2.new w (.string M) (.string O) 24)
  have HB0 := Lib.hid ((Below.refl w.heap.size w).alloc (Nat.le_refl _) (.cells #[.string M, .string O] 24))
  have c0 := HX0.out.c0
  have c1 := HX0.out.c1
  cases ho : O.toList.isEmpty with
  | true =>
    unfold gV at *
    clear hM hO hx
    go_enter Tryz.func64, Tryz.ntmps64
    go_wp2
    go_ret
    exact ⟨rfl, HB0.out⟩
  | false =>
    cases hh : hasK M O x with
    | false =>
      have HR := Lib.hid (show genK M O x = false from by unfold genK; rw [hh]; rfl)
      rw [hh] at HH
      rw [HR.out]
      unfold gV at *
      clear hh hM hO hx
      go_enter Tryz.func64, Tryz.ntmps64
      go_wp2_with fail
      refine (HH.out _).mono ?_
      rintro ev w1 ⟨rfl, hb⟩
      have HB1 := Lib.hid (HB0.out.trans (hb.mono HB0.out.size))
      clear hb c0 c1
      go_wp2
      go_ret
      exact ⟨rfl, HB1.out⟩
    | true =>
      have HR := Lib.hid (show genK M O x = !(x.toList == [1]) from by unfold genK; rw [hh]; rfl)
      rw [hh] at HH
      rw [HR.out]
      unfold gV at *
      clear hh hM hO hx
      go_enter Tryz.func64, Tryz.ntmps64
      go_wp2_with fail
      refine (HH.out _).mono ?_
      rintro ev w1 ⟨rfl, hb⟩
      have HB1 := Lib.hid (HB0.out.trans (hb.mono HB0.out.size))
      clear hb c0 c1
      go_wp2
      go_ret
      exact ⟨rfl, HB1.out⟩
def scK (M O G Y : ByteArray) : Int :=
  if [M, O, G, Y].all nvalid = true then
    if chkK M O = 0 then (if (O.toList.isEmpty || !genK M O G || !genK M O Y) = true then 13 else 0) else chkK M O
  else 3
end Go.Proofs.YtndmjfkmnjejkaaGreatDoor
/- Walks: pedersen.Check and the reference's for orders that are too long. -/
set_option linter.unusedVariables false
set_option linter.unusedSimpArgs false
namespace Go.Proofs.YtndmjfkmnjejkaaGreatDoor
open Go.RowKit
theorem chkK_long {M O G H : ByteArray} (hf : kF M O G H = true) (hM : M.size ≤ 8) (h8 : ¬ O.size ≤ 8) : chkK M O = 13 := by
  unfold kF at hf
  simp only [Bool.and_eq_true] at hf
  have v1 := hf.1.1.1
  have v2 := hf.1.1.2
  have hm := num_small hM
  have ho : 18446744073709551616 ≤ num O := by
    rcases Nat.lt_or_ge (num O) 18446744073709551616 with h | h
    · rw [nS_num v2] at h8; exact absurd (nS_small_size h) h8
    · exact h
  unfold chkK
  rw [if_pos (by rw [v1, v2]; rfl)]
  unfold chkN
  rw [if_neg (by omega)]
  by_cases h1 : num M ≤ 1
  · rw [if_pos (.inl h1)]
  · rw [if_pos (.inr (.inr (by rw [Nat.mod_eq_of_lt (by omega)]; omega)))]
end Go.Proofs.YtndmjfkmnjejkaaGreatDoor

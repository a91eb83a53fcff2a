/- Walks: keyring.isName, dominoref29.Name. -/
import Derived.Test.YtnfkccohmkfnoaaKyP
set_option linter.unusedVariables false
set_option linter.unusedSimpArgs false
namespace Go.Proofs.Ytnfkccohmkfnoaa
open Go.RowKit

def kletB (c : Int) : Bool := decide (97 ≤ c) && decide (c ≤ 122) || decide (65 ≤ c) && decide (c ≤ 90)
/-- A byte that a name may have at a place. -/
def kgoodB (i : Nat) (c : Int) : Bool := kletB c || (decide (i ≠ 0) && (decide (c = 95) || (decide (48 ≤ c) && decide (c ≤ 57))))
def kbyte (s : ByteArray) (k : Nat) : Int := ((s.data.toList.getD k 0).toNat : Int)
theorem kbyte_get (s : ByteArray) (k : Nat) (h : k < s.size) : kbyte s k = (s[k].toNat : Int) := by unfold kbyte; rw [data_getD s k h]
/-- The string is a name. -/
def knameB (s : ByteArray) : Bool := ((List.range s.size).all fun i => kgoodB i (kbyte s i)) && (decide (s.size ≠ 0) && decide (s.size ≤ 32))
theorem kname_no {s : ByteArray} {k : Nat} (hk : k < s.size) (h : kgoodB k (kbyte s k) = false) : knameB s = false := by
  have : ((List.range s.size).all fun i => kgoodB i (kbyte s i)) = false := by
    rw [List.all_eq_false]
    exact ⟨k, List.mem_range.2 hk, by simp [h]⟩
  unfold knameB
  rw [this]; rfl
theorem kname_end {s : ByteArray} (h : ∀ j, j < s.size → kgoodB j (kbyte s j) = true) : knameB s = (decide (s.size ≠ 0) && decide (s.size ≤ 32)) := by
  have : ((List.range s.size).all fun i => kgoodB i (kbyte s i)) = true := by
    rw [List.all_eq_true]
    intro i hi
    exact h i (List.mem_range.1 hi)
  unfold knameB
  rw [this, Bool.true_and]
theorem kcases (c : Int) : (97 ≤ c ∧ c ≤ 122) ∨ (65 ≤ c ∧ c ≤ 90) ∨ 122 < c ∨ (90 < c ∧ c < 97) ∨ c < 65 := by omega
set_option maxRecDepth 100000 in
set_option maxHeartbeats 4000000 in
theorem ky_isName (s : ByteArray) (w : World) (hs : s.size ≤ 9223372036854775807) : Calls Try.prog 32 #[.string s] w (RetQ (.bool (knameB s)) w) := by
  go_enter Try.func32, Try.ntmps32
  go_wp2
  go_loop [8] (fun i => ∃ k : Nat, k ≤ s.size ∧ i = .int .i64 k ∧ ∀ j, j < k → kgoodB j (kbyte s j) = true) (fun i => s.size - (intOf i).toNat)
  case atStart => exact ⟨0, Nat.zero_le _, rfl, fun j hj => absurd hj (by omega)⟩
  case round =>
    obtain ⟨k, hk, rfl, hall⟩ := hrel
    have HALL := Lib.hid hall
    clear hall
    by_cases hlt : k < s.size
    · have hkb := kbyte_get s k hlt
      have hcb : 0 ≤ kbyte s k := by rw [hkb]; omega
      obtain ⟨c, hc⟩ : ∃ c : Int, (s[k].toNat : Int) = c := ⟨_, rfl⟩
      rw [hc] at hkb
      have HKB := Lib.hid hkb
      rw [hkb] at hcb
      have hmk : ∀ b, kgoodB k c = b → kgoodB k (kbyte s k) = b := fun b h => by rw [HKB.out]; exact h
      clear hkb
      rcases kcases c with ⟨c1, c2⟩ | ⟨c1, c2⟩ | c1 | ⟨c1, c2⟩ | c1
      · skip
        have e0 : (97 ≤ c) = True := eq_true (by omega)
        have e1 : (c ≤ 122) = True := eq_true (by omega)
        have e2 : (65 ≤ c) = True := eq_true (by omega)
        have e3 : (c ≤ 90) = False := eq_false (by omega)
        have e4 : (c < 48) = False := eq_false (by omega)
        have e5 : (57 < c) = True := eq_true (by omega)
        have HG := Lib.hid (hmk true (by simp [kgoodB, kletB]; omega))
        clear hmk hcb c1 c2
        go_wp2
        go_round
        case rel => exact ⟨k + 1, by omega, by go_num, fun j hj => (by rcases Nat.lt_succ_iff_lt_or_eq.1 hj with h | h; exact HALL.out j h; subst h; exact HG.out)⟩
        case measure => simp [intOf]; omega
      · skip
        have e0 : (97 ≤ c) = False := eq_false (by omega)
        have e1 : (c ≤ 122) = True := eq_true (by omega)
        have e2 : (65 ≤ c) = True := eq_true (by omega)
        have e3 : (c ≤ 90) = True := eq_true (by omega)
        have e4 : (c < 48) = False := eq_false (by omega)
        have e5 : (57 < c) = True := eq_true (by omega)
        have HG := Lib.hid (hmk true (by simp [kgoodB, kletB]; omega))
        clear hmk hcb c1 c2
        go_wp2
        go_round
        case rel => exact ⟨k + 1, by omega, by go_num, fun j hj => (by rcases Nat.lt_succ_iff_lt_or_eq.1 hj with h | h; exact HALL.out j h; subst h; exact HG.out)⟩
        case measure => simp [intOf]; omega
      · skip
        by_cases hk0 : k = 0
        · subst hk0
          have e0 : (97 ≤ c) = True := eq_true (by omega)
          have e1 : (c ≤ 122) = False := eq_false (by omega)
          have e2 : (65 ≤ c) = True := eq_true (by omega)
          have e3 : (c ≤ 90) = False := eq_false (by omega)
          have e4 : (c < 48) = False := eq_false (by omega)
          have e5 : (57 < c) = True := eq_true (by omega)
          have e8 : (c != 95) = true := by simp; omega
          have HG := Lib.hid (hmk false (by simp [kgoodB, kletB]; omega))
          clear hmk hcb c1
          have HF := Lib.hid (kname_no hlt HG.out)
          go_wp2
          go_ret
          exact ⟨by rw [HF.out]; rfl, rfl⟩
        · skip
          have e0 : (97 ≤ c) = True := eq_true (by omega)
          have e1 : (c ≤ 122) = False := eq_false (by omega)
          have e2 : (65 ≤ c) = True := eq_true (by omega)
          have e3 : (c ≤ 90) = False := eq_false (by omega)
          have e4 : (c < 48) = False := eq_false (by omega)
          have e5 : (57 < c) = True := eq_true (by omega)
          have e8 : (c != 95) = true := by simp; omega
          have e9 : ((k : Int) == 0) = false := by simp; omega
          have HG := Lib.hid (hmk false (by simp [kgoodB, kletB]; omega))
          clear hmk hcb c1 hk0
          have HF := Lib.hid (kname_no hlt HG.out)
          go_wp2
          go_ret
          exact ⟨by rw [HF.out]; rfl, rfl⟩
      · skip
        by_cases hk0 : k = 0
        · subst hk0
          have e0 : (97 ≤ c) = False := eq_false (by omega)
          have e1 : (c ≤ 122) = True := eq_true (by omega)
          have e2 : (65 ≤ c) = True := eq_true (by omega)
          have e3 : (c ≤ 90) = False := eq_false (by omega)
          have e4 : (c < 48) = False := eq_false (by omega)
          have e5 : (57 < c) = True := eq_true (by omega)
          have HG := Lib.hid (hmk false (by simp [kgoodB, kletB]; omega))
          clear hmk hcb c1 c2
          have HF := Lib.hid (kname_no hlt HG.out)
          go_wp2
          go_ret
          exact ⟨by rw [HF.out]; rfl, rfl⟩
        · skip
          by_cases c3 : c = 95
          · skip
            have e0 : (97 ≤ c) = False := eq_false (by omega)
            have e1 : (c ≤ 122) = True := eq_true (by omega)
            have e2 : (65 ≤ c) = True := eq_true (by omega)
            have e3 : (c ≤ 90) = False := eq_false (by omega)
            have e4 : (c < 48) = False := eq_false (by omega)
            have e5 : (57 < c) = True := eq_true (by omega)
            have e8 : (c != 95) = false := by simp; omega
            have e9 : ((k : Int) == 0) = false := by simp; omega
            have HG := Lib.hid (hmk true (by simp [kgoodB, kletB]; omega))
            clear hmk hcb c1 c2 c3 hk0
            go_wp2
            go_round
            case rel => exact ⟨k + 1, by omega, by go_num, fun j hj => (by rcases Nat.lt_succ_iff_lt_or_eq.1 hj with h | h; exact HALL.out j h; subst h; exact HG.out)⟩
            case measure => simp [intOf]; omega
          · skip
            have e0 : (97 ≤ c) = False := eq_false (by omega)
            have e1 : (c ≤ 122) = True := eq_true (by omega)
            have e2 : (65 ≤ c) = True := eq_true (by omega)
            have e3 : (c ≤ 90) = False := eq_false (by omega)
            have e4 : (c < 48) = False := eq_false (by omega)
            have e5 : (57 < c) = True := eq_true (by omega)
            have e8 : (c != 95) = true := by simp; omega
            have e9 : ((k : Int) == 0) = false := by simp; omega
            have HG := Lib.hid (hmk false (by simp [kgoodB, kletB]; omega))
            clear hmk hcb c1 c2 c3 hk0
            have HF := Lib.hid (kname_no hlt HG.out)
            go_wp2
            go_ret
            exact ⟨by rw [HF.out]; rfl, rfl⟩
      · skip
        by_cases hk0 : k = 0
        · subst hk0
          have e0 : (97 ≤ c) = False := eq_false (by omega)
          have e1 : (c ≤ 122) = True := eq_true (by omega)
          have e2 : (65 ≤ c) = False := eq_false (by omega)
          have e3 : (c ≤ 90) = True := eq_true (by omega)
          have e8 : (c != 95) = true := by simp; omega
          have HG := Lib.hid (hmk false (by simp [kgoodB, kletB]; omega))
          clear hmk hcb c1
          have HF := Lib.hid (kname_no hlt HG.out)
          go_wp2
          go_ret
          exact ⟨by rw [HF.out]; rfl, rfl⟩
        · skip
          by_cases c3 : c < 48
          · skip
            have e0 : (97 ≤ c) = False := eq_false (by omega)
            have e1 : (c ≤ 122) = True := eq_true (by omega)
            have e2 : (65 ≤ c) = False := eq_false (by omega)
            have e3 : (c ≤ 90) = True := eq_true (by omega)
            have e4 : (c < 48) = True := eq_true (by omega)
            have e5 : (57 < c) = False := eq_false (by omega)
            have e8 : (c != 95) = true := by simp; omega
            have e9 : ((k : Int) == 0) = false := by simp; omega
            have HG := Lib.hid (hmk false (by simp [kgoodB, kletB]; omega))
            clear hmk hcb c1 c3 hk0
            have HF := Lib.hid (kname_no hlt HG.out)
            go_wp2
            go_ret
            exact ⟨by rw [HF.out]; rfl, rfl⟩
          · by_cases c4 : c ≤ 57
            · skip
              have e0 : (97 ≤ c) = False := eq_false (by omega)
              have e1 : (c ≤ 122) = True := eq_true (by omega)
              have e2 : (65 ≤ c) = False := eq_false (by omega)
              have e3 : (c ≤ 90) = True := eq_true (by omega)
              have e4 : (c < 48) = False := eq_false (by omega)
              have e5 : (57 < c) = False := eq_false (by omega)
              have e8 : (c != 95) = true := by simp; omega
              have e9 : ((k : Int) == 0) = false := by simp; omega
              have HG := Lib.hid (hmk true (by simp [kgoodB, kletB]; omega))
              clear hmk hcb c1 c3 c4 hk0
              go_wp2
              go_round
              case rel => exact ⟨k + 1, by omega, by go_num, fun j hj => (by rcases Nat.lt_succ_iff_lt_or_eq.1 hj with h | h; exact HALL.out j h; subst h; exact HG.out)⟩
              case measure => simp [intOf]; omega
            · skip
              have e0 : (97 ≤ c) = False := eq_false (by omega)
              have e1 : (c ≤ 122) = True := eq_true (by omega)
              have e2 : (65 ≤ c) = False := eq_false (by omega)
              have e3 : (c ≤ 90) = True := eq_true (by omega)
              have e4 : (c < 48) = False := eq_false (by omega)
              have e5 : (57 < c) = True := eq_true (by omega)
              have e8 : (c != 95) = true := by simp; omega
              have e9 : ((k : Int) == 0) = false := by simp; omega
              have HG := Lib.hid (hmk false (by simp [kgoodB, kletB]; omega))
              clear hmk hcb c1 c3 c4 hk0
              have HF := Lib.hid (kname_no hlt HG.out)
              go_wp2
              go_ret
              exact ⟨by rw [HF.out]; rfl, rfl⟩
    · obtain rfl : k = s.size := by omega
      have HE := Lib.hid (kname_end HALL.out)
      clear hlt hk
      by_cases h0 : s.size = 0
      · have e0 := sempty_true h0
        have HF := Lib.hid (show knameB s = false from by rw [HE.out, decide_eq_false (show ¬ s.size ≠ 0 by simp [h0])]; rfl)
        clear h0
        go_wp2
        go_ret
        exact ⟨by rw [HF.out]; rfl, rfl⟩
      · have e0 := sempty_false (show 0 < s.size by omega)
        by_cases h1 : s.size ≤ 32
        · have HF := Lib.hid (show knameB s = true from by rw [HE.out, decide_eq_true h0, decide_eq_true h1]; rfl)
          have hd : decide ((s.size : Int) ≤ 32) = true := decide_eq_true (by omega)
          clear h0
          go_wp2
          go_ret
          exact ⟨by rw [HF.out]; rfl, rfl⟩
        · have HF := Lib.hid (show knameB s = false from by rw [HE.out, decide_eq_false h1, Bool.and_false])
          have hd : decide ((s.size : Int) ≤ 32) = false := decide_eq_false (by omega)
          clear h0
          go_wp2
          go_ret
          exact ⟨by rw [HF.out]; rfl, rfl⟩
set_option maxRecDepth 100000 in
set_option maxHeartbeats 4000000 in
theorem r29_Name (s : ByteArray) (w : World) (hs : s.size ≤ 9223372036854775807) : Calls Try.prog 40 #[.string s] w (RetQ (.bool (knameB s)) w) := by
  go_enter Try.func40, Try.ntmps40
  go_wp2
  go_loop [3] (fun i => ∃ k : Nat, k ≤ s.size ∧ i = .int .i64 k ∧ ∀ j, j < k → kgoodB j (kbyte s j) = true) (fun i => s.size - (intOf i).toNat)
  case atStart => exact ⟨0, Nat.zero_le _, rfl, fun j hj => absurd hj (by omega)⟩
  case round =>
    obtain ⟨k, hk, rfl, hall⟩ := hrel
    have HALL := Lib.hid hall
    clear hall
    by_cases hlt : k < s.size
    · have hkb := kbyte_get s k hlt
      have hcb : 0 ≤ kbyte s k := by rw [hkb]; omega
      obtain ⟨c, hc⟩ : ∃ c : Int, (s[k].toNat : Int) = c := ⟨_, rfl⟩
      rw [hc] at hkb
      have HKB := Lib.hid hkb
      rw [hkb] at hcb
      have hmk : ∀ b, kgoodB k c = b → kgoodB k (kbyte s k) = b := fun b h => by rw [HKB.out]; exact h
      clear hkb
      rcases kcases c with ⟨c1, c2⟩ | ⟨c1, c2⟩ | c1 | ⟨c1, c2⟩ | c1
      · skip
        have e0 : (97 ≤ c) = True := eq_true (by omega)
        have e1 : (c ≤ 122) = True := eq_true (by omega)
        have e2 : (65 ≤ c) = True := eq_true (by omega)
        have e3 : (c ≤ 90) = False := eq_false (by omega)
        have e4 : (c < 48) = False := eq_false (by omega)
        have e5 : (57 < c) = True := eq_true (by omega)
        have HG := Lib.hid (hmk true (by simp [kgoodB, kletB]; omega))
        clear hmk hcb c1 c2
        go_wp2
        go_round
        case rel => exact ⟨k + 1, by omega, by go_num, fun j hj => (by rcases Nat.lt_succ_iff_lt_or_eq.1 hj with h | h; exact HALL.out j h; subst h; exact HG.out)⟩
        case measure => simp [intOf]; omega
      · skip
        have e0 : (97 ≤ c) = False := eq_false (by omega)
        have e1 : (c ≤ 122) = True := eq_true (by omega)
        have e2 : (65 ≤ c) = True := eq_true (by omega)
        have e3 : (c ≤ 90) = True := eq_true (by omega)
        have e4 : (c < 48) = False := eq_false (by omega)
        have e5 : (57 < c) = True := eq_true (by omega)
        have HG := Lib.hid (hmk true (by simp [kgoodB, kletB]; omega))
        clear hmk hcb c1 c2
        go_wp2
        go_round
        case rel => exact ⟨k + 1, by omega, by go_num, fun j hj => (by rcases Nat.lt_succ_iff_lt_or_eq.1 hj with h | h; exact HALL.out j h; subst h; exact HG.out)⟩
        case measure => simp [intOf]; omega
      · skip
        by_cases hk0 : k = 0
        · subst hk0
          have e0 : (97 ≤ c) = True := eq_true (by omega)
          have e1 : (c ≤ 122) = False := eq_false (by omega)
          have e2 : (65 ≤ c) = True := eq_true (by omega)
          have e3 : (c ≤ 90) = False := eq_false (by omega)
          have e4 : (c < 48) = False := eq_false (by omega)
          have e5 : (57 < c) = True := eq_true (by omega)
          have e8 : (c != 95) = true := by simp; omega
          have HG := Lib.hid (hmk false (by simp [kgoodB, kletB]; omega))
          clear hmk hcb c1
          have HF := Lib.hid (kname_no hlt HG.out)
          go_wp2
          go_ret
          exact ⟨by rw [HF.out]; rfl, rfl⟩
        · skip
          have e0 : (97 ≤ c) = True := eq_true (by omega)
          have e1 : (c ≤ 122) = False := eq_false (by omega)
          have e2 : (65 ≤ c) = True := eq_true (by omega)
          have e3 : (c ≤ 90) = False := eq_false (by omega)
          have e4 : (c < 48) = False := eq_false (by omega)
          have e5 : (57 < c) = True := eq_true (by omega)
          have e8 : (c != 95) = true := by simp; omega
          have e9 : ((k : Int) == 0) = false := by simp; omega
          have HG := Lib.hid (hmk false (by simp [kgoodB, kletB]; omega))
          clear hmk hcb c1 hk0
          have HF := Lib.hid (kname_no hlt HG.out)
          go_wp2
          go_ret
          exact ⟨by rw [HF.out]; rfl, rfl⟩
      · skip
        by_cases hk0 : k = 0
        · subst hk0
          have e0 : (97 ≤ c) = False := eq_false (by omega)
          have e1 : (c ≤ 122) = True := eq_true (by omega)
          have e2 : (65 ≤ c) = True := eq_true (by omega)
          have e3 : (c ≤ 90) = False := eq_false (by omega)
          have e4 : (c < 48) = False := eq_false (by omega)
          have e5 : (57 < c) = True := eq_true (by omega)
          have HG := Lib.hid (hmk false (by simp [kgoodB, kletB]; omega))
          clear hmk hcb c1 c2
          have HF := Lib.hid (kname_no hlt HG.out)
          go_wp2
          go_ret
          exact ⟨by rw [HF.out]; rfl, rfl⟩
        · skip
          by_cases c3 : c = 95
          · skip
            have e0 : (97 ≤ c) = False := eq_false (by omega)
            have e1 : (c ≤ 122) = True := eq_true (by omega)
            have e2 : (65 ≤ c) = True := eq_true (by omega)
            have e3 : (c ≤ 90) = False := eq_false (by omega)
            have e4 : (c < 48) = False := eq_false (by omega)
            have e5 : (57 < c) = True := eq_true (by omega)
            have e8 : (c != 95) = false := by simp; omega
            have e9 : ((k : Int) == 0) = false := by simp; omega
            have HG := Lib.hid (hmk true (by simp [kgoodB, kletB]; omega))
            clear hmk hcb c1 c2 c3 hk0
            go_wp2
            go_round
            case rel => exact ⟨k + 1, by omega, by go_num, fun j hj => (by rcases Nat.lt_succ_iff_lt_or_eq.1 hj with h | h; exact HALL.out j h; subst h; exact HG.out)⟩
            case measure => simp [intOf]; omega
          · skip
            have e0 : (97 ≤ c) = False := eq_false (by omega)
            have e1 : (c ≤ 122) = True := eq_true (by omega)
            have e2 : (65 ≤ c) = True := eq_true (by omega)
            have e3 : (c ≤ 90) = False := eq_false (by omega)
            have e4 : (c < 48) = False := eq_false (by omega)
            have e5 : (57 < c) = True := eq_true (by omega)
            have e8 : (c != 95) = true := by simp; omega
            have e9 : ((k : Int) == 0) = false := by simp; omega
            have HG := Lib.hid (hmk false (by simp [kgoodB, kletB]; omega))
            clear hmk hcb c1 c2 c3 hk0
            have HF := Lib.hid (kname_no hlt HG.out)
            go_wp2
            go_ret
            exact ⟨by rw [HF.out]; rfl, rfl⟩
      · skip
        by_cases hk0 : k = 0
        · subst hk0
          have e0 : (97 ≤ c) = False := eq_false (by omega)
          have e1 : (c ≤ 122) = True := eq_true (by omega)
          have e2 : (65 ≤ c) = False := eq_false (by omega)
          have e3 : (c ≤ 90) = True := eq_true (by omega)
          have e8 : (c != 95) = true := by simp; omega
          have HG := Lib.hid (hmk false (by simp [kgoodB, kletB]; omega))
          clear hmk hcb c1
          have HF := Lib.hid (kname_no hlt HG.out)
          go_wp2
          go_ret
          exact ⟨by rw [HF.out]; rfl, rfl⟩
        · skip
          by_cases c3 : c < 48
          · skip
            have e0 : (97 ≤ c) = False := eq_false (by omega)
            have e1 : (c ≤ 122) = True := eq_true (by omega)
            have e2 : (65 ≤ c) = False := eq_false (by omega)
            have e3 : (c ≤ 90) = True := eq_true (by omega)
            have e4 : (c < 48) = True := eq_true (by omega)
            have e5 : (57 < c) = False := eq_false (by omega)
            have e8 : (c != 95) = true := by simp; omega
            have e9 : ((k : Int) == 0) = false := by simp; omega
            have HG := Lib.hid (hmk false (by simp [kgoodB, kletB]; omega))
            clear hmk hcb c1 c3 hk0
            have HF := Lib.hid (kname_no hlt HG.out)
            go_wp2
            go_ret
            exact ⟨by rw [HF.out]; rfl, rfl⟩
          · by_cases c4 : c ≤ 57
            · skip
              have e0 : (97 ≤ c) = False := eq_false (by omega)
              have e1 : (c ≤ 122) = True := eq_true (by omega)
              have e2 : (65 ≤ c) = False := eq_false (by omega)
              have e3 : (c ≤ 90) = True := eq_true (by omega)
              have e4 : (c < 48) = False := eq_false (by omega)
              have e5 : (57 < c) = False := eq_false (by omega)
              have e8 : (c != 95) = true := by simp; omega
              have e9 : ((k : Int) == 0) = false := by simp; omega
              have HG := Lib.hid (hmk true (by simp [kgoodB, kletB]; omega))
              clear hmk hcb c1 c3 c4 hk0
              go_wp2
              go_round
              case rel => exact ⟨k + 1, by omega, by go_num, fun j hj => (by rcases Nat.lt_succ_iff_lt_or_eq.1 hj with h | h; exact HALL.out j h; subst h; exact HG.out)⟩
              case measure => simp [intOf]; omega
            · skip
              have e0 : (97 ≤ c) = False := eq_false (by omega)
              have e1 : (c ≤ 122) = True := eq_true (by omega)
              have e2 : (65 ≤ c) = False := eq_false (by omega)
              have e3 : (c ≤ 90) = True := eq_true (by omega)
              have e4 : (c < 48) = False := eq_false (by omega)
              have e5 : (57 < c) = True := eq_true (by omega)
              have e8 : (c != 95) = true := by simp; omega
              have e9 : ((k : Int) == 0) = false := by simp; omega
              have HG := Lib.hid (hmk false (by simp [kgoodB, kletB]; omega))
              clear hmk hcb c1 c3 c4 hk0
              have HF := Lib.hid (kname_no hlt HG.out)
              go_wp2
              go_ret
              exact ⟨by rw [HF.out]; rfl, rfl⟩
    · obtain rfl : k = s.size := by omega
      have HE := Lib.hid (kname_end HALL.out)
      clear hlt hk
      by_cases h0 : s.size = 0
      · have e0 := sempty_true h0
        have HF := Lib.hid (show knameB s = false from by rw [HE.out, decide_eq_false (show ¬ s.size ≠ 0 by simp [h0])]; rfl)
        clear h0
        go_wp2
        go_ret
        exact ⟨by rw [HF.out]; rfl, rfl⟩
      · have e0 := sempty_false (show 0 < s.size by omega)
        by_cases h1 : s.size ≤ 32
        · have HF := Lib.hid (show knameB s = true from by rw [HE.out, decide_eq_true h0, decide_eq_true h1]; rfl)
          have hd : decide ((s.size : Int) ≤ 32) = true := decide_eq_true (by omega)
          clear h0
          go_wp2
          go_ret
          exact ⟨by rw [HF.out]; rfl, rfl⟩
        · have HF := Lib.hid (show knameB s = false from by rw [HE.out, decide_eq_false h1, Bool.and_false])
          have hd : decide ((s.size : Int) ≤ 32) = false := decide_eq_false (by omega)
          clear h0
          go_wp2
          go_ret
          exact ⟨by rw [HF.out]; rfl, rfl⟩
end Go.Proofs.Ytnfkccohmkfnoaa

/- Walks: digits, small numbers (natural.digit, Small, fitting; dominoref01.at, U64, Small, fit). -/
import Derived.Test.YtnnfgphioapmnaaNum2
import Derived.Test.YtnnfgphioapmnaaOrd
import Derived.Laws.BitsAllLaws
set_option linter.unusedVariables false
set_option linter.unusedSimpArgs false
namespace Go.Proofs.Ytnnfgphioapmnaa
open Go.RowKit

/-- The byte at a place of the string of a number. -/
theorem nS_byte (n i k : Nat) (hk : k + 1 + i = (nS n).size) (h : k < (nS n).size) : ((nS n)[k]).toNat = dig n i := by
  have hl : (nS n).size = (encN n).length := nS_size n
  have h1 := dig_encN n i (by omega)
  rw [← h1]
  congr 1
  have : (nS n)[k] = ((nS n).data.toList)[k]'(by rw [data_len]; exact h) := rfl
  rw [this]
  simp only [nS_data]
  congr 1
  omega

theorem w64_byte (b : UInt8) : wrap64 (b.toNat : Int) = (b.toNat : Int) := by have := b.toNat_lt; simp [wrap64]; omega
theorem u64_wrap (n : Nat) (h : n < 18446744073709551616) : IntKind.u64.wrap (n : Int) = (n : Int) := by
  simp [IntKind.wrap, IntKind.bits, IntKind.signed]
  omega
set_option maxRecDepth 100000 in
theorem nat_digit_core (s : ByteArray) (i k d : Nat) (hk : k + 1 + i = s.size) (h : k < s.size) (hb : (s[k]).toNat = d) (hsz : s.size ≤ 9223372036854775807) (w : World) : Calls Try.prog 68 #[.string s, .int .i64 i] w (RetQ (.int .i64 d) w) := by
  have hix : ((s.size : Int) - 1 - (i : Int)) = (k : Int) := by omega
  have hlt : ¬ ((s.size : Int) ≤ (i : Int)) := by omega
  have HB := Lib.hid hb
  have HK := Lib.hid hk
  clear hb hk
  go_enter Try.func68, Try.ntmps68
  go_wp2
  go_ret
  exact ⟨by rw [← HB.out]; exact ret_int (w64_byte _), rfl⟩
set_option maxRecDepth 100000 in
theorem nat_digit_beyond (s : ByteArray) (i : Nat) (h : (s.size : Int) ≤ (i : Int)) (w : World) : Calls Try.prog 68 #[.string s, .int .i64 i] w (RetQ (.int .i64 0) w) := by
  go_enter Try.func68, Try.ntmps68
  go_wp2
  go_ret
  exact ⟨rfl, rfl⟩
theorem nat_digit (n i : Nat) (hn : (nS n).size ≤ 1000) (w : World) : Calls Try.prog 68 #[.string (nS n), .int .i64 i] w (RetQ (.int .i64 (dig n i)) w) := by
  by_cases hi : i < (nS n).size
  · have hks : (nS n).size - 1 - i < (nS n).size := by omega
    exact nat_digit_core (nS n) i ((nS n).size - 1 - i) _ (by omega) hks (nS_byte n i _ (by omega) hks) (by omega) w
  · rw [dig_beyond (by rw [← nS_size]; omega)]
    exact nat_digit_beyond (nS n) i (by omega) w

/-- A number, or the error for one that is too long. -/
def fitR (n : Nat) : Value := if n < 256 ^ 128 then .tuple #[.string (nS n), .int .i64 0] else .tuple #[.string ⟨#[]⟩, .int .i64 5]
theorem fitR_form (n : Nat) : ∃ r1 r2, fitR n = .tuple #[r1, r2] := by
  unfold fitR
  split
  · exact ⟨_, _, rfl⟩
  · exact ⟨_, _, rfl⟩
set_option maxRecDepth 100000 in
theorem nat_fitting (n : Nat) (hs : (nS n).size ≤ 9223372036854775807) (w : World) : Calls Try.prog 72 #[.string (nS n)] w (RetQ (fitR n) w) := by
  unfold fitR
  by_cases h : n < 256 ^ 128
  · rw [if_pos h]
    have h1 := nS_size_le.2 h
    have h2 : ¬ (128 < ((nS n).size : Int)) := by omega
    obtain ⟨s, hs'⟩ : ∃ s, nS n = s := ⟨_, rfl⟩
    rw [hs'] at h2 ⊢
    clear hs' h1 h hs
    go_enter Try.func72, Try.ntmps72
    go_wp2
    go_ret2
    exact ⟨rfl, rfl⟩
  · rw [if_neg h]
    have h2 : 128 < ((nS n).size : Int) := by
      rcases Nat.lt_or_ge 128 (nS n).size with h' | h'
      · omega
      · exact absurd (nS_size_le.1 h') h
    obtain ⟨s, hs'⟩ : ∃ s, nS n = s := ⟨_, rfl⟩
    rw [hs'] at h2 ⊢
    clear hs' h hs
    go_enter Try.func72, Try.ntmps72
    go_wp2
    go_ret2
    exact ⟨rfl, rfl⟩


/-- The number of the first k bytes. -/
def pre (s : ByteArray) (k : Nat) : Nat := bnat (s.data.toList.take k)
theorem pre_succ (s : ByteArray) (k : Nat) (h : k < s.size) : pre s (k + 1) = pre s k * 256 + (s[k]).toNat := by
  unfold pre
  have : s.data.toList.take (k + 1) = s.data.toList.take k ++ [s[k]] := by
    rw [List.take_succ_eq_append_getElem (by rw [data_len]; exact h)]; rfl
  rw [this, bnat_snoc]
theorem pre_all (s : ByteArray) : pre s s.size = num s := by
  unfold pre num
  rw [List.take_of_length_le (by rw [data_len]; exact Nat.le_refl _)]
theorem pre_lt (s : ByteArray) (k : Nat) : pre s k < 256 ^ k := by
  have h := bnat_lt (s.data.toList.take k)
  have h2 : (s.data.toList.take k).length ≤ k := List.length_take_le _ _
  exact Nat.lt_of_lt_of_le h (Nat.pow_le_pow_right (by omega) h2)
theorem pre_le {s : ByteArray} {k : Nat} (h : k < 8) : pre s k < 72057594037927936 :=
  Nat.lt_of_lt_of_le (pre_lt s k) (Nat.le_trans (Nat.pow_le_pow_right (by omega) (show k ≤ 7 by omega)) (by decide))
theorem u64_join (n b : Nat) (hn : n < 72057594037927936) (hb : b < 256) : bits .or .u64 ((n : Int) * 256) (IntKind.u64.wrap (b : Int)) = ((n * 256 + b : Nat) : Int) := by
  rw [u64_wrap b (by omega), show (n : Int) * 256 = ((n * 256 : Nat) : Int) from by omega, u64_or_nat _ _ (by omega) (by omega), nat_join 8 (n * 256) b (by simp) (by omega)]

set_option maxRecDepth 100000 in
set_option maxHeartbeats 1000000 in
theorem nat_Small_yes (s : ByteArray) (hv : nvalid s = true) (h8 : s.size ≤ 8) (w : World) : Calls Try.prog 6 #[.string s] w (RetQ (.tuple #[.int .u64 (num s), .bool true]) w) := by
  have hne : ¬ (8 < (s.size : Int)) := by omega
  have HV := Lib.hid hv
  clear hv
  go_enter Try.func6, Try.ntmps6
  go_wp2_with fail
  refine (nat_Valid s (by omega) _).mono ?_
  rintro e w1 ⟨rfl, rfl⟩
  rw [HV.out]
  go_wp2
  go_loop [4, 16] (fun n i => ∃ k : Nat, k ≤ s.size ∧ i = .int .i64 k ∧ n = .int .u64 (pre s k)) (fun _ i => s.size - (intOf i).toNat)
  case atStart => exact ⟨0, Nat.zero_le _, rfl, rfl⟩
  case round =>
    obtain ⟨k, hk, rfl, rfl⟩ := hrel
    by_cases hlt : k < s.size
    · have hp := pre_le (s := s) (k := k) (by omega)
      have HP := Lib.hid (pre_succ s k hlt)
      obtain ⟨p, hpp⟩ : ∃ p, pre s k = p := ⟨_, rfl⟩
      rw [hpp] at hp HP ⊢
      have hb := (s[k]).toNat_lt
      have hj := u64_join p (s[k]).toNat hp (by omega)
      have hp0 : (p : Int) < 72057594037927936 := by omega
      clear hpp hb
      go_wp2
      go_round
      case rel => exact ⟨k + 1, by omega, by go_num, by rw [HP.out]; go_num⟩
      case measure => simp [intOf]; omega
    · obtain rfl : k = s.size := by omega
      have HA := Lib.hid (pre_all s)
      go_wp2
      go_ret2
      exact ⟨by rw [← HA.out]; rfl, rfl⟩


set_option maxRecDepth 100000 in
theorem nat_Small_no (s : ByteArray) (hs : s.size ≤ 9223372036854775807) (h : nvalid s = false ∨ nvalid s = true ∧ 8 < s.size) (w : World) : Calls Try.prog 6 #[.string s] w (RetQ (.tuple #[.int .u64 0, .bool false]) w) := by
  rcases h with hv | ⟨hv, h8⟩
  · have HV := Lib.hid hv
    clear hv
    go_enter Try.func6, Try.ntmps6
    go_wp2_with fail
    refine (nat_Valid s (by omega) _).mono ?_
    rintro e w1 ⟨rfl, rfl⟩
    rw [HV.out]
    go_wp2
    go_ret2
    exact ⟨rfl, rfl⟩
  · have hne : 8 < (s.size : Int) := by omega
    have HV := Lib.hid hv
    clear hv h8
    go_enter Try.func6, Try.ntmps6
    go_wp2_with fail
    refine (nat_Valid s (by omega) _).mono ?_
    rintro e w1 ⟨rfl, rfl⟩
    rw [HV.out]
    go_wp2
    go_ret2
    exact ⟨rfl, rfl⟩

/-- Both at the string of a number. -/
theorem nS_valid_small {n : Nat} (h : n < 18446744073709551616) : nvalid (nS n) = true := nvalid_nS.2 (Nat.lt_of_lt_of_le h (Nat.le_trans (by decide) (Nat.pow_le_pow_right (n := 256) (by omega) (show 8 ≤ 128 by omega))))
theorem nat_Small_n (n : Nat) (h : n < 18446744073709551616) (w : World) : Calls Try.prog 6 #[.string (nS n)] w (RetQ (.tuple #[.int .u64 n, .bool true]) w) := by
  have := nat_Small_yes (nS n) (nS_valid_small h) (nS_small_size h) w
  rw [num_nS] at this
  exact this
/-- Comparison of the strings of numbers. -/
theorem ordB_nS (x y : Nat) : ordB (nS x) (nS y) = cmpI x y := by
  unfold ordB
  rw [nS_data, nS_data, ordL_canon (canon_encN _) (canon_encN _), bnat_encN, bnat_encN]
theorem lt128_of_lt8 {n : Nat} (h : n < 18446744073709551616) : n < 256 ^ 128 := nvalid_nS.1 (nS_valid_small h)
theorem nS_size63 {n : Nat} (h : n < 256 ^ 128) : (nS n).size ≤ 9223372036854775807 := by have := nS_size_le.2 h; omega
end Go.Proofs.Ytnnfgphioapmnaa

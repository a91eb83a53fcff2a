/- Walks: comparison (natural.compare, natural.Cmp, ref01.Order, ref01.Cmp). -/
import Derived.Test.YtpdejgdkpghjhaaGreatDoorQNatB
import Derived.Test.YtpdejgdkpghjhaaGreatDoorQShelf
import Derived.Deep.QuietTactic
import Derived.BigQuiet
import Derived.Test.YtpdejgdkpghjhaaGreatDoorQNum2
import Derived.Laws.BitsAllLaws
set_option linter.unusedVariables false
namespace Go.Proofs.YtpdejgdkpghjhaaGreatDoor
open Go.RowKit

theorem compareBytes_ord {l m : List UInt8} (h : l.length = m.length) : Lib.compareBytes l m = cmpI (bnat l) (bnat m) := by
  induction l generalizing m with
  | nil => cases m with
    | nil => rfl
    | cons y m => simp at h
  | cons x l ih => cases m with
    | nil => simp at h
    | cons y m =>
      have hl : l.length = m.length := by simpa using h
      unfold Lib.compareBytes
      by_cases h1 : x < y
      · have := bnat_lt_first (p := []) (a := l) (b := m) hl (UInt8.lt_iff_toNat_lt.1 h1)
        rw [List.nil_append, List.nil_append] at this
        rw [if_pos h1, cmpI_lt this]
      · rw [if_neg h1]
        by_cases h2 : y < x
        · have := bnat_lt_first (p := []) (a := m) (b := l) hl.symm (UInt8.lt_iff_toNat_lt.1 h2)
          rw [List.nil_append, List.nil_append] at this
          rw [if_pos h2, cmpI_gt this]
        · rw [if_neg h2, ih hl]
          have : x = y := by
            apply UInt8.toNat_inj.1
            rw [UInt8.lt_iff_toNat_lt] at h1 h2
            omega
          subst this
          rw [bnat_cons, bnat_cons, hl]
          unfold cmpI
          simp
/-- The comparison of two strings. -/
def ordB (a b : ByteArray) : Int := ordL a.data.toList b.data.toList
theorem ordB_ne {a b : ByteArray} (h : a.size ≠ b.size) : ordB a b = Lib.compareInt a.size b.size := by
  unfold ordB ordL Lib.compareInt
  rw [data_len, data_len]
  by_cases h1 : a.size < b.size
  · rw [if_pos h1, if_pos (by omega)]
  · rw [if_neg h1, if_pos (by omega), if_neg (by omega), if_pos (by omega)]
theorem ordB_eq {a b : ByteArray} (h : a.size = b.size) : ordB a b = Lib.compareBytes a.data.toList b.data.toList := by
  unfold ordB ordL
  rw [data_len, data_len, if_neg (by omega), if_neg (by omega), compareBytes_ord (by rw [data_len, data_len, h])]
theorem compareInt_ne {x y : Int} (h : x ≠ y) : (Lib.compareInt x y != 0) = true := by
  unfold Lib.compareInt
  split
  · rfl
  · rw [if_pos (by omega)]; rfl

set_option maxHeartbeats 400000 in
theorem nat_compare (a b : ByteArray) (ha : a.size ≤ 9223372036854775807) (hb : b.size ≤ 9223372036854775807) (w : World) :
    Calls Tryz.prog 113 #[.string a, .string b] w (RetQ (.int .i64 (ordB a b)) w) := by
  by_cases h : a.size = b.size
  · have H := Lib.hid h
    rw [ordB_eq h]
    have hc : Lib.compareInt a.size b.size = 0 := by unfold Lib.compareInt; rw [h]; simp
    have HC := Lib.hid hc
    clear h hc
    go_enter Tryz.func113, Tryz.ntmps113
    go_wp2_with fail
    refine (Tryz.cmp_Compare_int _ _ _).mono ?_
    rintro e w1 ⟨rfl, rfl⟩
    rw [HC.out]
    go_wp2_with fail
    refine (Tryz.strings_Compare _ _ _).mono ?_
    rintro e w1 ⟨rfl, rfl⟩
    go_wp2
    go_ret
    exact ⟨rfl, rfl⟩
  · rw [ordB_ne h]
    have hc := compareInt_ne (x := a.size) (y := b.size) (by omega)
    clear h
    go_enter Tryz.func113, Tryz.ntmps113
    go_wp2_with fail
    refine (Tryz.cmp_Compare_int _ _ _).mono ?_
    rintro e w1 ⟨rfl, rfl⟩
    go_wp2
    go_ret
    exact ⟨rfl, rfl⟩

/-- natural.Cmp: 0 if one of the strings is not canonical. -/
def ncmp (a b : ByteArray) : Int := if nvalid a && nvalid b then ordB a b else 0

set_option maxHeartbeats 400000 in
theorem nat_Cmp (a b : ByteArray) (ha : a.size ≤ 9223372036854775807) (hb : b.size ≤ 9223372036854775807) (w : World) :
    Calls Tryz.prog 47 #[.string a, .string b] w (RetQ (.int .i64 (ncmp a b)) w) := by
  cases h1 : nvalid a with
  | false =>
    have hn : ncmp a b = 0 := by simp [ncmp, h1]
    rw [hn]
    have H1 := Lib.hid h1
    clear h1 hn
    go_enter Tryz.func47, Tryz.ntmps47
    go_wp2_with fail
    refine (nat_Valid _ ha _).mono ?_
    rintro e w1 ⟨rfl, rfl⟩
    rw [H1.out]
    go_wp2
    go_ret
    exact ⟨rfl, rfl⟩
  | true => cases h2 : nvalid b with
    | false =>
      have hn : ncmp a b = 0 := by simp [ncmp, h2]
      rw [hn]
      have H1 := Lib.hid h1
      have H2 := Lib.hid h2
      clear h1 h2 hn
      go_enter Tryz.func47, Tryz.ntmps47
      go_wp2_with fail
      refine (nat_Valid _ ha _).mono ?_
      rintro e w1 ⟨rfl, rfl⟩
      rw [H1.out]
      go_wp2_with fail
      refine (nat_Valid _ hb _).mono ?_
      rintro e w1 ⟨rfl, rfl⟩
      rw [H2.out]
      go_wp2
      go_ret
      exact ⟨rfl, rfl⟩
    | true =>
      have hn : ncmp a b = ordB a b := by simp [ncmp, h1, h2]
      rw [hn]
      have H1 := Lib.hid h1
      have H2 := Lib.hid h2
      clear h1 h2 hn
      go_enter Tryz.func47, Tryz.ntmps47
      go_wp2_with fail
      refine (nat_Valid _ ha _).mono ?_
      rintro e w1 ⟨rfl, rfl⟩
      rw [H1.out]
      go_wp2_with fail
      refine (nat_Valid _ hb _).mono ?_
      rintro e w1 ⟨rfl, rfl⟩
      rw [H2.out]
      go_wp2_with fail
      refine (nat_compare _ _ ha hb _).mono ?_
      rintro e w1 ⟨rfl, rfl⟩
      go_wp2
      go_ret
      exact ⟨rfl, rfl⟩

theorem take_step {l m : List UInt8} {k : Nat} (hl : l.length = m.length) (h : l.take k = m.take k) (hk : k < l.length) (he : l.getD k 0 = m.getD k 0) : l.take (k + 1) = m.take (k + 1) := by
  rw [List.take_succ_eq_append_getElem hk, List.take_succ_eq_append_getElem (by omega), h]
  have e : l[k] = m[k] := by
    rw [List.getD_eq_getElem?_getD, List.getD_eq_getElem?_getD, List.getElem?_eq_getElem hk, List.getElem?_eq_getElem (by omega)] at he
    exact he
  rw [e]

set_option maxRecDepth 100000 in
set_option maxHeartbeats 400000 in
theorem r01_Order (a b : ByteArray) (ha : a.size ≤ 9223372036854775807) (hb : b.size ≤ 9223372036854775807) (w : World) :
    Calls Tryz.prog 90 #[.string a, .string b] w (Ret (.int .i64 (ordB a b)) w) := by
  by_cases h : a.size = b.size
  · have hl : a.data.toList.length = b.data.toList.length := by rw [data_len, data_len, h]
    have HL := Lib.hid hl
    have H := Lib.hid h
    have hne : ((a.size : Int) != (b.size : Int)) = false := by rw [h]; simp
    have h1 : a.size ≤ b.size := by omega
    have h2 : b.size ≤ a.size := by omega
    clear h hl
    go_enter Tryz.func90, Tryz.ntmps90
    go_wp2
    go_loopw [5] (fun i wr => ∃ k : Nat, k ≤ a.size ∧ i = .int .i64 k ∧ a.data.toList.take k = b.data.toList.take k ∧ Below w.heap.size w wr) (fun i _ => a.size - (intOf i).toNat)
    case atStart => exact ⟨0, Nat.zero_le _, rfl, rfl, Below.refl _ _⟩
    case round =>
      obtain ⟨k, hk, rfl, he, hB⟩ := hrel
      have HE := Lib.hid he
      have HB := Lib.hid hB
      clear he hB
      by_cases hlt : k < a.size
      · have hlt2 : k < b.size := by omega
        by_cases hx : (a[k].toNat : Int) = b[k].toNat
        · have hx2 : ((a[k].toNat : Int) != b[k].toNat) = false := by rw [hx]; simp
          have HX := Lib.hid hx
          clear hx
          go_wp2
          go_quiet (fail)
          go_wp2
          go_roundw
          case rel => exact ⟨k + 1, by omega, by go_num, take_step HL.out HE.out (by rw [data_len]; exact hlt) (by rw [data_getD _ _ hlt, data_getD _ _ hlt2]; exact UInt8.toNat_inj.1 (by have := HX.out; omega)), below_drewN HB.out _⟩
          case measure => simp [intOf]; omega
        · have hx2 : ((a[k].toNat : Int) != b[k].toNat) = true := by rw [bne_iff_ne]; exact hx
          by_cases hy : (a[k].toNat : Int) < b[k].toNat
          · have hr := (ordL_first (k := k) HL.out (by rw [data_len]; exact hlt) HE.out (by rw [data_getD _ _ hlt, data_getD _ _ hlt2]; omega)).1
            have hn : ordB a b = -1 := hr
            rw [hn]
            clear hr hn hx
            go_wp2
            go_quiet (fail)
            go_wp2
            go_quiet (fail)
            go_wp2
            go_ret
            exact ⟨rfl, below_drewN (below_drewN HB.out _) _⟩
          · have hr := (ordL_first (k := k) HL.out.symm (by rw [data_len]; exact hlt2) HE.out.symm (by rw [data_getD _ _ hlt, data_getD _ _ hlt2]; omega)).2
            have hn : ordB a b = 1 := hr
            rw [hn]
            clear hr hn hx
            go_wp2
            go_quiet (fail)
            go_wp2
            go_quiet (fail)
            go_wp2
            go_ret
            exact ⟨rfl, below_drewN (below_drewN HB.out _) _⟩
      · obtain rfl : k = a.size := by omega
        have hr : ordB a b = 0 := ordL_same (by
          have := HE.out
          rw [List.take_of_length_le (by rw [data_len]; omega), List.take_of_length_le (by rw [data_len]; omega)] at this
          exact this)
        have HR := Lib.hid hr
        clear hr
        go_wp2
        go_ret
        exact ⟨by rw [HR.out]; rfl, HB.out⟩
  · by_cases h2 : a.size < b.size
    · have hn : ordB a b = -1 := by rw [ordB_ne h]; unfold Lib.compareInt; rw [if_pos (by omega)]
      rw [hn]
      have hne : ((a.size : Int) != (b.size : Int)) = true := by rw [bne_iff_ne]; omega
      clear hn h
      go_enter Tryz.func90, Tryz.ntmps90
      go_wp2
      go_ret
      exact ⟨rfl, Below.refl _ _⟩
    · have hn : ordB a b = 1 := by rw [ordB_ne h]; unfold Lib.compareInt; rw [if_neg (by omega), if_pos (by omega)]
      rw [hn]
      have hne : ((a.size : Int) != (b.size : Int)) = true := by rw [bne_iff_ne]; omega
      clear hn h
      go_enter Tryz.func90, Tryz.ntmps90
      go_wp2
      go_ret
      exact ⟨rfl, Below.refl _ _⟩
end Go.Proofs.YtpdejgdkpghjhaaGreatDoor
/- Walks: digits, small numbers (natural.digit, Small, fitting; dominoref01.at, U64, Small, fit). -/
set_option linter.unusedVariables false
set_option linter.unusedSimpArgs false
namespace Go.Proofs.YtpdejgdkpghjhaaGreatDoor
open Go.RowKit

/-- The byte at a place of the string of a number. -/
theorem nS_byte (n i k : Nat) (hk : k + 1 + i = (nS n).size) (h : k < (nS n).size) : ((nS n)[k]).toNat = dig n i := by
  have hl : (nS n).size = (encN n).length := nS_size n
  have h1 := dig_encN n i (by omega)
  rw [← h1]
  congr 1
  have : (nS n)[k] = ((nS n).data.toList)[k]'(by rw [data_len]; exact h) := rfl
  rw [this]
  simp only [nS_data]
  congr 1
  omega

theorem w64_byte (b : UInt8) : wrap64 (b.toNat : Int) = (b.toNat : Int) := by have := b.toNat_lt; simp [wrap64]; omega
theorem u64_wrap (n : Nat) (h : n < 18446744073709551616) : IntKind.u64.wrap (n : Int) = (n : Int) := by
  simp [IntKind.wrap, IntKind.bits, IntKind.signed]
  omega
set_option maxRecDepth 100000 in
theorem nat_digit_core (s : ByteArray) (i k d : Nat) (hk : k + 1 + i = s.size) (h : k < s.size) (hb : (s[k]).toNat = d) (hsz : s.size ≤ 9223372036854775807) (w : World) : Calls Tryz.prog 159 #[.string s, .int .i64 i] w (RetQ (.int .i64 d) w) := by
  have hix : ((s.size : Int) - 1 - (i : Int)) = (k : Int) := by omega
  have hlt : ¬ ((s.size : Int) ≤ (i : Int)) := by omega
  have HB := Lib.hid hb
  have HK := Lib.hid hk
  clear hb hk
  go_enter Tryz.func159, Tryz.ntmps159
  go_wp2
  go_ret
  exact ⟨by rw [← HB.out]; exact ret_int (w64_byte _), rfl⟩
set_option maxRecDepth 100000 in
theorem nat_digit_beyond (s : ByteArray) (i : Nat) (h : (s.size : Int) ≤ (i : Int)) (w : World) : Calls Tryz.prog 159 #[.string s, .int .i64 i] w (RetQ (.int .i64 0) w) := by
  go_enter Tryz.func159, Tryz.ntmps159
  go_wp2
  go_ret
  exact ⟨rfl, rfl⟩
theorem nat_digit (n i : Nat) (hn : (nS n).size ≤ 1000) (w : World) : Calls Tryz.prog 159 #[.string (nS n), .int .i64 i] w (RetQ (.int .i64 (dig n i)) w) := by
  by_cases hi : i < (nS n).size
  · have hks : (nS n).size - 1 - i < (nS n).size := by omega
    exact nat_digit_core (nS n) i ((nS n).size - 1 - i) _ (by omega) hks (nS_byte n i _ (by omega) hks) (by omega) w
  · rw [dig_beyond (by rw [← nS_size]; omega)]
    exact nat_digit_beyond (nS n) i (by omega) w
set_option maxRecDepth 100000 in
theorem r01_at_core (s : ByteArray) (i k d : Nat) (hk : k + 1 + i = s.size) (h : k < s.size) (hb : (s[k]).toNat = d) (hsz : s.size ≤ 9223372036854775807) (w : World) : Calls Tryz.prog 124 #[.string s, .int .i64 i] w (RetQ (.int .i64 d) w) := by
  have hix : ((s.size : Int) - 1 - (i : Int)) = (k : Int) := by omega
  have hlt : ¬ ((s.size : Int) ≤ (i : Int)) := by omega
  have HB := Lib.hid hb
  have HK := Lib.hid hk
  clear hb hk
  go_enter Tryz.func124, Tryz.ntmps124
  go_wp2
  go_ret
  exact ⟨by rw [← HB.out]; exact ret_int (w64_byte _), rfl⟩
set_option maxRecDepth 100000 in
theorem r01_at_beyond (s : ByteArray) (i : Nat) (h : (s.size : Int) ≤ (i : Int)) (w : World) : Calls Tryz.prog 124 #[.string s, .int .i64 i] w (RetQ (.int .i64 0) w) := by
  go_enter Tryz.func124, Tryz.ntmps124
  go_wp2
  go_ret
  exact ⟨rfl, rfl⟩
theorem r01_at (n i : Nat) (hn : (nS n).size ≤ 1000) (w : World) : Calls Tryz.prog 124 #[.string (nS n), .int .i64 i] w (RetQ (.int .i64 (dig n i)) w) := by
  by_cases hi : i < (nS n).size
  · have hks : (nS n).size - 1 - i < (nS n).size := by omega
    exact r01_at_core (nS n) i ((nS n).size - 1 - i) _ (by omega) hks (nS_byte n i _ (by omega) hks) (by omega) w
  · rw [dig_beyond (by rw [← nS_size]; omega)]
    exact r01_at_beyond (nS n) i (by omega) w

/-- A number, or the error for one that is too long. -/
def fitR (n : Nat) : Value := if n < 256 ^ 128 then .tuple #[.string (nS n), .int .i64 0] else .tuple #[.string ⟨#[]⟩, .int .i64 5]
theorem fitR_form (n : Nat) : ∃ r1 r2, fitR n = .tuple #[r1, r2] := by
  unfold fitR
  split
  · exact ⟨_, _, rfl⟩
  · exact ⟨_, _, rfl⟩
set_option maxRecDepth 100000 in
theorem nat_fitting (n : Nat) (hs : (nS n).size ≤ 9223372036854775807) (w : World) : Calls Tryz.prog 160 #[.string (nS n)] w (RetQ (fitR n) w) := by
  unfold fitR
  by_cases h : n < 256 ^ 128
  · rw [if_pos h]
    have h1 := nS_size_le.2 h
    have h2 : ¬ (128 < ((nS n).size : Int)) := by omega
    obtain ⟨s, hs'⟩ : ∃ s, nS n = s := ⟨_, rfl⟩
    rw [hs'] at h2 ⊢
    clear hs' h1 h hs
    go_enter Tryz.func160, Tryz.ntmps160
    go_wp2
    go_ret2
    exact ⟨rfl, rfl⟩
  · rw [if_neg h]
    have h2 : 128 < ((nS n).size : Int) := by
      rcases Nat.lt_or_ge 128 (nS n).size with h' | h'
      · omega
      · exact absurd (nS_size_le.1 h') h
    obtain ⟨s, hs'⟩ : ∃ s, nS n = s := ⟨_, rfl⟩
    rw [hs'] at h2 ⊢
    clear hs' h hs
    go_enter Tryz.func160, Tryz.ntmps160
    go_wp2
    go_ret2
    exact ⟨rfl, rfl⟩

set_option maxRecDepth 100000 in
theorem r01_fit (n : Nat) (hs : (nS n).size ≤ 9223372036854775807) (w : World) : Calls Tryz.prog 200 #[.string (nS n)] w (RetQ (fitR n) w) := by
  unfold fitR
  by_cases h : n < 256 ^ 128
  · rw [if_pos h]
    have h1 := nS_size_le.2 h
    have h2 : ¬ (128 < ((nS n).size : Int)) := by omega
    obtain ⟨s, hs'⟩ : ∃ s, nS n = s := ⟨_, rfl⟩
    rw [hs'] at h2 ⊢
    clear hs' h1 h hs
    go_enter Tryz.func200, Tryz.ntmps200
    go_wp2
    go_ret2
    exact ⟨rfl, rfl⟩
  · rw [if_neg h]
    have h2 : 128 < ((nS n).size : Int) := by
      rcases Nat.lt_or_ge 128 (nS n).size with h' | h'
      · omega
      · exact absurd (nS_size_le.1 h') h
    obtain ⟨s, hs'⟩ : ∃ s, nS n = s := ⟨_, rfl⟩
    rw [hs'] at h2 ⊢
    clear hs' h hs
    go_enter Tryz.func200, Tryz.ntmps200
    go_wp2
    go_ret2
    exact ⟨rfl, rfl⟩

/-- The number of the first k bytes. -/
def pre (s : ByteArray) (k : Nat) : Nat := bnat (s.data.toList.take k)
theorem pre_succ (s : ByteArray) (k : Nat) (h : k < s.size) : pre s (k + 1) = pre s k * 256 + (s[k]).toNat := by
  unfold pre
  have : s.data.toList.take (k + 1) = s.data.toList.take k ++ [s[k]] := by
    rw [List.take_succ_eq_append_getElem (by rw [data_len]; exact h)]; rfl
  rw [this, bnat_snoc]
theorem pre_all (s : ByteArray) : pre s s.size = num s := by
  unfold pre num
  rw [List.take_of_length_le (by rw [data_len]; exact Nat.le_refl _)]
theorem pre_lt (s : ByteArray) (k : Nat) : pre s k < 256 ^ k := by
  have h := bnat_lt (s.data.toList.take k)
  have h2 : (s.data.toList.take k).length ≤ k := List.length_take_le _ _
  exact Nat.lt_of_lt_of_le h (Nat.pow_le_pow_right (by omega) h2)
theorem pre_le {s : ByteArray} {k : Nat} (h : k < 8) : pre s k < 72057594037927936 :=
  Nat.lt_of_lt_of_le (pre_lt s k) (Nat.le_trans (Nat.pow_le_pow_right (by omega) (show k ≤ 7 by omega)) (by decide))
theorem u64_join (n b : Nat) (hn : n < 72057594037927936) (hb : b < 256) : bits .or .u64 ((n : Int) * 256) (IntKind.u64.wrap (b : Int)) = ((n * 256 + b : Nat) : Int) := by
  rw [u64_wrap b (by omega), show (n : Int) * 256 = ((n * 256 : Nat) : Int) from by omega, u64_or_nat _ _ (by omega) (by omega), nat_join 8 (n * 256) b (by simp) (by omega)]

set_option maxRecDepth 100000 in
set_option maxHeartbeats 1000000 in
theorem nat_Small_yes (s : ByteArray) (hv : nvalid s = true) (h8 : s.size ≤ 8) (w : World) : Calls Tryz.prog 21 #[.string s] w (RetQ (.tuple #[.int .u64 (num s), .bool true]) w) := by
  have hne : ¬ (8 < (s.size : Int)) := by omega
  have HV := Lib.hid hv
  clear hv
  go_enter Tryz.func21, Tryz.ntmps21
  go_wp2_with fail
  refine (nat_Valid s (by omega) _).mono ?_
  rintro e w1 ⟨rfl, rfl⟩
  rw [HV.out]
  go_wp2
  go_loop [4, 16] (fun n i => ∃ k : Nat, k ≤ s.size ∧ i = .int .i64 k ∧ n = .int .u64 (pre s k)) (fun _ i => s.size - (intOf i).toNat)
  case atStart => exact ⟨0, Nat.zero_le _, rfl, rfl⟩
  case round =>
    obtain ⟨k, hk, rfl, rfl⟩ := hrel
    by_cases hlt : k < s.size
    · have hp := pre_le (s := s) (k := k) (by omega)
      have HP := Lib.hid (pre_succ s k hlt)
      obtain ⟨p, hpp⟩ : ∃ p, pre s k = p := ⟨_, rfl⟩
      rw [hpp] at hp HP ⊢
      have hb := (s[k]).toNat_lt
      have hj := u64_join p (s[k]).toNat hp (by omega)
      have hp0 : (p : Int) < 72057594037927936 := by omega
      clear hpp hb
      go_wp2
      go_round
      case rel => exact ⟨k + 1, by omega, by go_num, by rw [HP.out]; go_num⟩
      case measure => simp [intOf]; omega
    · obtain rfl : k = s.size := by omega
      have HA := Lib.hid (pre_all s)
      go_wp2
      go_ret2
      exact ⟨by rw [← HA.out]; rfl, rfl⟩

set_option maxRecDepth 100000 in
set_option maxHeartbeats 1000000 in
theorem r01_U64 (s : ByteArray) (h8 : s.size ≤ 8) (w : World) : Calls Tryz.prog 120 #[.string s] w (RetQ (.int .u64 (num s)) w) := by
  go_enter Tryz.func120, Tryz.ntmps120
  go_wp2
  go_loop [3, 4] (fun n i => ∃ k : Nat, k ≤ s.size ∧ i = .int .i64 k ∧ n = .int .u64 (pre s k)) (fun _ i => s.size - (intOf i).toNat)
  case atStart => exact ⟨0, Nat.zero_le _, rfl, rfl⟩
  case round =>
    obtain ⟨k, hk, rfl, rfl⟩ := hrel
    by_cases hlt : k < s.size
    · have hp := pre_le (s := s) (k := k) (by omega)
      have HP := Lib.hid (pre_succ s k hlt)
      obtain ⟨p, hpp⟩ : ∃ p, pre s k = p := ⟨_, rfl⟩
      rw [hpp] at hp HP ⊢
      have hb := (s[k]).toNat_lt
      have hw := u64_wrap (s[k]).toNat (by omega)
      have hp0 : (p : Int) < 72057594037927936 := by omega
      have hb0 : ((s[k]).toNat : Int) < 256 := by omega
      clear hpp hb
      go_wp2
      go_round
      case rel => exact ⟨k + 1, by omega, by go_num, by rw [HP.out]; go_num⟩
      case measure => simp [intOf]; omega
    · obtain rfl : k = s.size := by omega
      have HA := Lib.hid (pre_all s)
      go_wp2
      go_ret
      exact ⟨by rw [← HA.out]; rfl, rfl⟩

set_option maxRecDepth 100000 in
theorem r01_Small_yes (s : ByteArray) (hv : nvalid s = true) (h8 : s.size ≤ 8) (w : World) : Calls Tryz.prog 201 #[.string s] w (RetQ (.tuple #[.int .u64 (num s), .bool true]) w) := by
  have hne : ¬ (8 < (s.size : Int)) := by omega
  have HV := Lib.hid hv
  clear hv
  go_enter Tryz.func201, Tryz.ntmps201
  go_wp2_with fail
  refine (r01_Valid s (by omega) _).mono ?_
  rintro e w1 ⟨rfl, rfl⟩
  rw [HV.out]
  go_wp2_with fail
  refine (r01_U64 s h8 _).mono ?_
  rintro e w1 ⟨rfl, rfl⟩
  go_wp2
  go_ret2
  exact ⟨rfl, rfl⟩

/-- Both at the string of a number. -/
theorem nS_valid_small {n : Nat} (h : n < 18446744073709551616) : nvalid (nS n) = true := nvalid_nS.2 (Nat.lt_of_lt_of_le h (Nat.le_trans (by decide) (Nat.pow_le_pow_right (n := 256) (by omega) (show 8 ≤ 128 by omega))))
theorem nat_Small_n (n : Nat) (h : n < 18446744073709551616) (w : World) : Calls Tryz.prog 21 #[.string (nS n)] w (RetQ (.tuple #[.int .u64 n, .bool true]) w) := by
  have := nat_Small_yes (nS n) (nS_valid_small h) (nS_small_size h) w
  rw [num_nS] at this
  exact this
theorem r01_Small_n (n : Nat) (h : n < 18446744073709551616) (w : World) : Calls Tryz.prog 201 #[.string (nS n)] w (RetQ (.tuple #[.int .u64 n, .bool true]) w) := by
  have := r01_Small_yes (nS n) (nS_valid_small h) (nS_small_size h) w
  rw [num_nS] at this
  exact this
theorem r01_U64_n (n : Nat) (h : n < 18446744073709551616) (w : World) : Calls Tryz.prog 120 #[.string (nS n)] w (RetQ (.int .u64 n) w) := by
  have := r01_U64 (nS n) (nS_small_size h) w
  rw [num_nS] at this
  exact this
/-- Comparison of the strings of numbers. -/
theorem ordB_nS (x y : Nat) : ordB (nS x) (nS y) = cmpI x y := by
  unfold ordB
  rw [nS_data, nS_data, ordL_canon (canon_encN _) (canon_encN _), bnat_encN, bnat_encN]
theorem lt128_of_lt8 {n : Nat} (h : n < 18446744073709551616) : n < 256 ^ 128 := nvalid_nS.1 (nS_valid_small h)
theorem nS_size63 {n : Nat} (h : n < 256 ^ 128) : (nS n).size ≤ 9223372036854775807 := by have := nS_size_le.2 h; omega
end Go.Proofs.YtpdejgdkpghjhaaGreatDoor

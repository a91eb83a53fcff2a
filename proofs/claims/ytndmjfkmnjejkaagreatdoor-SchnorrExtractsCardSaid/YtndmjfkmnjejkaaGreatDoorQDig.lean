/- Walks: binary digits (natural.Bits, Bit; dominoref01.bits, one, Bits, Bit). -/
import Derived.Test.YtndmjfkmnjejkaaGreatDoorQMdA
import Derived.RangeFuncNested
import Derived.RangeFuncBound
import Derived.RangeFuncCalls
import Derived.RangeFuncLeaves
import Derived.RangeFuncFrom
import Derived.Shelf.Abstract
import Derived.Shelf.RegionOpen
import Derived.WalkKit
import Derived.OwnWalkIn
import Derived.TacticsInMore
import Derived.LoopNIn
import Derived.LoopIn
set_option linter.unusedVariables false
set_option linter.unusedSimpArgs false
namespace Go.Proofs.YtndmjfkmnjejkaaGreatDoor
open Go.RowKit
def blen (n : Nat) : Nat := if n = 0 then 0 else n.log2 + 1
theorem blen_of {n k : Nat} (h1 : 2 ^ k ≤ n) (h2 : n < 2 ^ (k + 1)) : blen n = k + 1 := by
  have h0 : n ≠ 0 := by have := Nat.two_pow_pos k; omega
  unfold blen
  rw [if_neg h0]
  have h3 := (Nat.le_log2 h0).2 h1
  have h4 := (Nat.log2_lt h0).2 h2
  omega
theorem blen_lt (n : Nat) : n < 2 ^ blen n := by
  unfold blen
  by_cases h0 : n = 0
  · rw [if_pos h0, h0]; simp
  · rw [if_neg h0]; exact Nat.lt_log2_self
theorem blen_le {n : Nat} (h : 0 < n) : 2 ^ (blen n - 1) ≤ n := by
  unfold blen
  rw [if_neg (by omega), Nat.add_sub_cancel]
  exact Nat.log2_self_le (by omega)
def bitB (n i : Nat) : Bool := n / 2 ^ i % 2 == 1
theorem bit_dig (n i : Nat) : dig n (i / 8) / 2 ^ (i % 8) % 2 = n / 2 ^ i % 2 := by
  have e : n / 2 ^ i = n / 256 ^ (i / 8) / 2 ^ (i % 8) := by
    rw [show (256 : Nat) ^ (i / 8) = 2 ^ (8 * (i / 8)) from by rw [Nat.pow_mul], Nat.div_div_eq_div_mul, ← Nat.pow_add, show 8 * (i / 8) + i % 8 = i from by omega]
  rw [e]
  unfold dig
  generalize n / 256 ^ (i / 8) = d
  have h : i % 8 < 8 := by omega
  generalize i % 8 = r at *
  match r, h with
  | 0, _ => simp
  | 1, _ => omega
  | 2, _ => omega
  | 3, _ => omega
  | 4, _ => omega
  | 5, _ => omega
  | 6, _ => omega
  | 7, _ => omega
theorem blen_first {n : Nat} (h0 : 0 < n) : ∃ x l, encN n = x :: l ∧ 0 < x.toNat ∧ blen n = 8 * l.length + blen x.toNat := by
  cases hl : encN n with
  | nil => exact absurd (encN_eq_nil.1 hl) (by omega)
  | cons x l =>
    have hc := canon_encN n
    rw [hl] at hc
    have hx : x ≠ 0 := canon_cons.1 hc
    have hx0 : 0 < x.toNat := by
      rcases Nat.eq_zero_or_pos x.toNat with h | h
      · exact absurd (UInt8.toNat_inj.1 (by simpa using h)) hx
      · exact h
    refine ⟨x, l, rfl, hx0, ?_⟩
    have hb : n = x.toNat * 256 ^ l.length + bnat l := by rw [← bnat_cons, ← hl, bnat_encN]
    have hlt := bnat_lt l
    have h1 := blen_lt x.toNat
    have h2 := blen_le hx0
    have hb1 : 1 ≤ blen x.toNat := by unfold blen; rw [if_neg (by omega)]; omega
    obtain ⟨k, hk⟩ : ∃ k, blen x.toNat = k + 1 := ⟨blen x.toNat - 1, by omega⟩
    rw [hk] at h1 h2 ⊢
    rw [Nat.add_sub_cancel] at h2
    have e256 : (256 : Nat) ^ l.length = 2 ^ (8 * l.length) := by rw [Nat.pow_mul]
    have := blen_of (n := n) (k := 8 * l.length + k) (by
      rw [Nat.pow_add, ← e256, Nat.mul_comm]
      have := Nat.mul_le_mul_right (256 ^ l.length) h2
      omega) (by
      rw [show 8 * l.length + k + 1 = 8 * l.length + (k + 1) from by omega, Nat.pow_add, ← e256, Nat.mul_comm]
      have := Nat.mul_le_mul_right (256 ^ l.length) (show x.toNat + 1 ≤ 2 ^ (k + 1) from h1)
      rw [Nat.succ_mul] at this
      omega)
    omega
theorem bitLen_blen {x : Nat} (h : x < 256) : Lib.bitLen x = blen x := by
  rcases Nat.eq_zero_or_pos x with h0 | h0
  · subst h0; simp [blen, Lib.bitLen, Lib.bitLenAux]
  · obtain ⟨L, h1, h2, h3, _⟩ := bitLen_spec 64 x (Nat.lt_of_lt_of_le h (by decide)) h0
    unfold Lib.bitLen
    rw [h1, blen_of h2 h3]
theorem nS_first {n : Nat} (h0 : 0 < n) : ∃ (h : 0 < (nS n).size), 0 < ((nS n)[0]).toNat ∧ ((nS n)[0]).toNat < 256 ∧ blen n = 8 * ((nS n).size - 1) + blen ((nS n)[0]).toNat := by
  obtain ⟨x, l, hl, hx, hb⟩ := blen_first h0
  have hs : (nS n).size = l.length + 1 := by rw [nS_size, hl]; rfl
  refine ⟨by omega, ?_⟩
  have e : (nS n)[0]'(by omega) = x := by
    have : (nS n)[0]'(by omega) = ((nS n).data.toList)[0]'(by rw [data_len]; omega) := rfl
    rw [this]
    simp only [nS_data, hl, List.getElem_cons_zero]
  rw [e, hs, Nat.add_sub_cancel]
  exact ⟨hx, by have := x.toNat_lt; omega, hb⟩
set_option maxRecDepth 100000 in
theorem nat_Bits_core (s : ByteArray) (h : 0 < s.size) (hv : nvalid s = true) (b : Nat) (hb : (s[0]).toNat = b) (hb2 : b < 256) (w : World) : Calls Tryz.prog 128 #[.string s] w (RetQ (.int .i64 ((8 * (s.size - 1) + blen b : Nat) : Int)) w) := by
  have hs128 : s.size ≤ 128 := by unfold nvalid at hv; simp at hv; exact hv.1
  have hem := sempty_false h
  have HV := Lib.hid hv
  have HB := Lib.hid hb
  have HL := Lib.hid (bitLen_blen hb2)
  have hbl : blen b ≤ 8 := by
    have h1 := blen_lt b
    unfold blen
    split
    · omega
    · have := (Nat.log2_lt (n := b) (k := 8) (by assumption)).2 (by omega)
      omega
  obtain ⟨z, hz⟩ : ∃ z, s.size = z + 1 := ⟨s.size - 1, by omega⟩
  have HZ := Lib.hid hz
  clear hv hb
  go_enter Tryz.func128, Tryz.ntmps128
  go_wp2_with fail
  refine (nat_Valid s (by omega) _).mono ?_
  rintro e w1 ⟨rfl, rfl⟩
  rw [HV.out]
  clear hz
  go_wp2_with fail
  rw [HB.out]
  refine (Tryz.bits_Len8 (b : Int) _ (by omega) (by omega)).mono ?_
  rintro e w1 ⟨rfl, rfl⟩
  rw [Int.toNat_natCast, HL.out]
  go_wp2
  go_ret
  exact ⟨ret_int (by have := HZ.out; omega), rfl⟩
theorem nat_Bits (n : Nat) (hn : n < 256 ^ 128) (w : World) : Calls Tryz.prog 128 #[.string (nS n)] w (RetQ (.int .i64 (blen n)) w) := by
  rcases Nat.eq_zero_or_pos n with h0 | h0
  · subst h0
    have HV := Lib.hid (show nvalid ⟨#[]⟩ = true from rfl)
    rw [nS_zero]
    go_enter Tryz.func128, Tryz.ntmps128
    go_wp2_with fail
    refine (nat_Valid ⟨#[]⟩ (by decide) _).mono ?_
    rintro e w1 ⟨rfl, rfl⟩
    rw [HV.out]
    go_wp2
    go_ret
    exact ⟨rfl, rfl⟩
  · obtain ⟨h, h1, h2, h3⟩ := nS_first h0
    rw [h3]
    exact nat_Bits_core (nS n) h (nvalid_nS.2 hn) _ rfl h2 w
theorem band1 {x : Nat} (h : x < 256) : bits .and .i64 (x : Int) 1 = ((x % 2 : Nat) : Int) := by
  have := bits_mask .i64 62 (by decide) (fun n h1 h2 => by rw [IntKind.wrap_i64]; omega) 1 (by omega) (x : Int) (by omega) (by omega)
  simpa using this
set_option maxRecDepth 100000 in
theorem nat_Bit (n i : Nat) (hn : n < 256 ^ 128) (hi : i < 100000) (w : World) : Calls Tryz.prog 107 #[.string (nS n), .int .i64 i] w (RetQ (.bool (bitB n i)) w) := by
  have hs1 := nS_size_le.2 hn
  have HV := Lib.hid (nvalid_nS.2 hn)
  have HD := Lib.hid (nat_digit n (i / 8) (by omega))
  have hi0 : (0 : Int) ≤ (i : Int) := by omega
  by_cases hlt : i / 8 < (nS n).size
  · have hlt2 : (i : Int) / 8 < ((nS n).size : Int) := by omega
    have hd := dig_lt n (i / 8)
    have HBD := Lib.hid (bit_dig n i)
    obtain ⟨d, hde⟩ : ∃ d, dig n (i / 8) = d := ⟨_, rfl⟩
    rw [hde] at hd HBD HD
    obtain ⟨s, hs⟩ : ∃ s, nS n = s := ⟨_, rfl⟩
    rw [hs] at hs1 HV HD hlt2 ⊢
    have HF := Lib.hid (show bitB n i = (((d / 2 ^ (i % 8) % 2 : Nat) : Int) == 1) from by
      unfold bitB
      rw [← HBD.out, Bool.eq_iff_iff]
      simp only [beq_iff_eq]
      omega)
    have HA := Lib.hid (show bits .and .i64 ((d : Int) / 2 ^ (i % 8)) 1 = ((d / 2 ^ (i % 8) % 2 : Nat) : Int) from by
      rw [← band1 (x := d / 2 ^ (i % 8)) (Nat.lt_of_le_of_lt (Nat.div_le_self _ _) hd)]
      simp)
    clear hs hde hn hlt
    go_enter Tryz.func107, Tryz.ntmps107
    go_wp2_with fail
    refine (nat_Valid s (by omega) _).mono ?_
    rintro e w1 ⟨rfl, rfl⟩
    rw [HV.out]
    go_wp2_with fail
    refine (HD.out _).mono ?_
    rintro e w1 ⟨rfl, rfl⟩
    go_wp2
    rw [HA.out]
    go_ret
    exact ⟨by rw [HF.out]; rfl, rfl⟩
  · have hlt2 : ¬ ((i : Int) / 8 < ((nS n).size : Int)) := by omega
    have HZ := Lib.hid (show bitB n i = false from by
      unfold bitB
      rw [← bit_dig, dig_beyond (by rw [← nS_size]; omega)]
      simp)
    obtain ⟨s, hs⟩ : ∃ s, nS n = s := ⟨_, rfl⟩
    rw [hs] at hs1 HV HD hlt2 ⊢
    clear hs hn hlt
    go_enter Tryz.func107, Tryz.ntmps107
    go_wp2_with fail
    refine (nat_Valid s (by omega) _).mono ?_
    rintro e w1 ⟨rfl, rfl⟩
    rw [HV.out]
    go_wp2
    go_ret
    exact ⟨by rw [HZ.out]; rfl, rfl⟩
set_option maxRecDepth 100000 in
set_option maxHeartbeats 1000000 in
theorem r01_one (n i : Nat) (hs1 : (nS n).size ≤ 1000) (hi : i < 100000) (w : World) : Calls Tryz.prog 154 #[.string (nS n), .int .i64 i] w (RetQ (.bool (bitB n i)) w) := by
  have HD := Lib.hid (r01_at n (i / 8) hs1)
  have hi0 : (0 : Int) ≤ (i : Int) := by omega
  have hd := dig_lt n (i / 8)
  have HBD := Lib.hid (bit_dig n i)
  obtain ⟨d, hde⟩ : ∃ d, dig n (i / 8) = d := ⟨_, rfl⟩
  rw [hde] at hd HBD HD
  obtain ⟨s, hs⟩ : ∃ s, nS n = s := ⟨_, rfl⟩
  rw [hs] at HD ⊢
  clear hs hde hs1
  go_enter Tryz.func154, Tryz.ntmps154
  go_wp2_with fail
  refine (HD.out _).mono ?_
  rintro e w1 ⟨rfl, rfl⟩
  go_wp2
  go_loop [5, 6] (fun x k => ∃ j : Nat, j ≤ i % 8 ∧ k = .int .i64 j ∧ x = .int .i64 ((d / 2 ^ j : Nat) : Int)) (fun _ k => 8 - (intOf k).toNat)
  case atStart => exact ⟨0, Nat.zero_le _, rfl, by simp⟩
  case round =>
    obtain ⟨j, hj, rfl, rfl⟩ := hrel
    obtain ⟨x, hx⟩ : ∃ x, d / 2 ^ j = x := ⟨_, rfl⟩
    have hxl : x ≤ d := by rw [← hx]; exact Nat.div_le_self _ _
    have HX := Lib.hid hx
    rw [hx]
    clear hx
    by_cases hlt : j < i % 8
    · have hlt2 : (j : Int) < (i : Int) % 8 := by omega
      go_wp2
      go_round
      case rel => exact ⟨j + 1, by omega, by go_num, by rw [Nat.pow_succ, ← Nat.div_div_eq_div_mul, HX.out]; go_num⟩
      case measure => simp [intOf]; omega
    · obtain rfl : j = i % 8 := by omega
      have hlt2 : ¬ (((i % 8 : Nat) : Int) < (i : Int) % 8) := by omega
      have HF := Lib.hid (show bitB n i = ((x : Int) % 2 == 1) from by
        unfold bitB
        rw [← HBD.out, HX.out]
        rw [Bool.eq_iff_iff]
        simp only [beq_iff_eq]
        omega)
      go_wp2
      go_ret
      exact ⟨by rw [HF.out]; rfl, rfl⟩
theorem blen_half {x : Nat} (h : 0 < x) : blen x = blen (x / 2) + 1 := by
  have h1 := blen_lt (x / 2)
  by_cases h0 : x / 2 = 0
  · have : x = 1 := by omega
    subst this
    decide
  · have h2 := blen_le (n := x / 2) (by omega)
    obtain ⟨k, hk⟩ : ∃ k, blen (x / 2) = k + 1 := ⟨(x / 2).log2, by unfold blen; rw [if_neg h0]⟩
    rw [hk] at h1 h2 ⊢
    rw [Nat.add_sub_cancel] at h2
    exact blen_of (by rw [Nat.pow_succ]; omega) (by rw [Nat.pow_succ]; omega)
theorem blen_le8 {n k : Nat} (hn : n < 256 ^ k) : blen n ≤ 8 * k := by
  rcases Nat.eq_zero_or_pos n with e | e
  · rw [e]; exact Nat.zero_le _
  · have h1 := blen_le e
    rcases Nat.lt_or_ge (8 * k) (blen n) with h | h
    · have h2 : (2 : Nat) ^ (8 * k) ≤ 2 ^ (blen n - 1) := Nat.pow_le_pow_right (by decide) (by omega)
      rw [Nat.pow_mul, show (2 : Nat) ^ 8 = 256 from rfl] at h2
      omega
    · exact h
theorem blen_zero : blen 0 = 0 := rfl
theorem blen_byte {x : Nat} (h : x < 256) : blen x ≤ 8 := by
  unfold blen
  split
  · omega
  · have := (Nat.log2_lt (n := x) (k := 8) (by assumption)).2 (by omega)
    omega
set_option maxRecDepth 100000 in
set_option maxHeartbeats 1000000 in
theorem r01_bits_core (s : ByteArray) (h : 0 < s.size) (hs1 : s.size ≤ 1000) (b : Nat) (hb : (s[0]).toNat = b) (hb2 : b < 256) (w : World) : Calls Tryz.prog 153 #[.string s] w (RetQ (.int .i64 ((8 * (s.size - 1) + blen b : Nat) : Int)) w) := by
  have hem := sempty_false h
  have HB := Lib.hid hb
  have hbl := blen_byte hb2
  obtain ⟨z, hz⟩ : ∃ z, s.size = z + 1 := ⟨s.size - 1, by omega⟩
  obtain ⟨c, hc⟩ : ∃ c, blen b = c := ⟨_, rfl⟩
  rw [hc] at hbl ⊢
  have HC := Lib.hid hc
  have HZ := Lib.hid (show 8 * (s.size - 1) + c = 8 * z + c by omega)
  rw [HZ.out]
  have HW := Lib.hid (show wrap64 (b : Int) = (b : Int) from by simp [wrap64]; omega)
  clear hb hc
  go_enter Tryz.func153, Tryz.ntmps153
  go_wp2_with fail
  rw [HB.out, HW.out]
  go_loop [3, 4] (fun t x => ∃ y k : Nat, y < 256 ∧ k ≤ 8 ∧ k + blen y = c ∧ x = .int .i64 y ∧ t = .int .i64 ((8 * z + k : Nat) : Int)) (fun _ x => (intOf x).toNat)
  case atStart => exact ⟨b, 0, hb2, by omega, by have := HC.out; omega, by go_num, by go_num⟩
  case round =>
    obtain ⟨y, k, hy, hk, hyk, rfl, rfl⟩ := hrel
    have HY := Lib.hid hyk
    clear hyk
    by_cases hlt : 0 < y
    · have hlt2 : (0 : Int) < (y : Int) := by omega
      have HH := Lib.hid (blen_half hlt)
      go_wp2
      go_round
      case rel =>
        have h1 := HY.out
        have h2 := HH.out
        exact ⟨y / 2, k + 1, by omega, by omega, by omega, by go_num, by go_num⟩
      case measure => simp [intOf]; omega
    · obtain rfl : y = 0 := by omega
      have h1 := HY.out
      rw [blen_zero] at h1
      obtain rfl : k = c := by omega
      go_wp2
      go_ret
      exact ⟨rfl, rfl⟩
theorem r01_bits (n : Nat) (hs1 : (nS n).size ≤ 1000) (w : World) : Calls Tryz.prog 153 #[.string (nS n)] w (RetQ (.int .i64 (blen n)) w) := by
  rcases Nat.eq_zero_or_pos n with h0 | h0
  · subst h0
    rw [nS_zero]
    go_enter Tryz.func153, Tryz.ntmps153
    go_wp2
    go_ret
    exact ⟨rfl, rfl⟩
  · obtain ⟨h, h1, h2, h3⟩ := nS_first h0
    rw [h3]
    exact r01_bits_core (nS n) h hs1 _ rfl h2 w
end Go.Proofs.YtndmjfkmnjejkaaGreatDoor
/- The iterator modular.digits: what comes, and in which order. -/
set_option linter.unusedVariables false
set_option linter.unusedSimpArgs false
namespace Go.Proofs.YtndmjfkmnjejkaaGreatDoor
open Go.RowKit Go.Shelf
attribute [local go_sem] Oper.semAt_some
def dv (l : List Bool) : Nat := l.foldl (fun v b => 2 * v + (if b then 1 else 0)) 0
theorem dv_snoc (l : List Bool) (b : Bool) : dv (l ++ [b]) = 2 * dv l + (if b then 1 else 0) := by simp [dv]
theorem dv_step {n e : Nat} {pre : List Bool} (h : dv pre = n / 2 ^ (e + 1)) : dv (pre ++ [bitB n e]) = n / 2 ^ e := by
  rw [dv_snoc, h]
  unfold bitB
  rw [Nat.pow_succ, ← Nat.div_div_eq_div_mul]
  simp only [beq_iff_eq]
  split <;> omega
def KpD (D : Nat) (W W' : World) : Prop := W'.heap[D]? = W.heap[D]?
set_option maxRecDepth 100000 in
set_option maxHeartbeats 2000000 in
theorem digits_stops (k n : Nat) (hn : n < 256 ^ 128) (hk : 1 ≤ k) (D : Nat) (w : World) (hD : w.heap[D]? = some (.cells #[.string (nS n)] 22 (0, 0))) :
    SeqStopsK Fence.wide k Tryz.prog 242 #[.pointer (some ⟨D, 0, none⟩)] (fun b : Bool => #[Value.bool b]) (KpD D) (fun xs => dv xs = n) (fun _ => True) (blen n) w := fun l J Jx W hW hJ hJx hY h0 => by
  have HBS := Lib.hid (nat_Bits n hn)
  have hb := hW
  have HBT := Lib.hid (fun i hi => nat_Bit n i hn hi)
  have hDW : W.heap[D]? = some (.cells #[.string (nS n)] 22 (0, 0)) := by rw [hW.block D (block_lt hD)]; exact hD
  have hcl : ∀ W' : World, W'.heap[D]? = some (.cells #[.string (nS n)] 22 (0, 0)) → W'.cell? ⟨D, 0, none⟩ = some (.string (nS n)) := fun W' h => by rw [Lib.cell_of_heap h]; rfl
  have HCL := Lib.hid hcl
  have c0 := hcl W hDW
  have HE0 := Lib.hid (show n / 2 ^ blen n = 0 from Nat.div_eq_of_lt (blen_lt n))
  have hbn : blen n ≤ 1024 := blen_le8 (k := 128) hn
  obtain ⟨s, hs⟩ : ∃ s, nS n = s := ⟨_, rfl⟩
  rw [hs] at HBS HBT HCL c0 hDW
  obtain ⟨B, hB⟩ : ∃ B, blen n = B := ⟨_, rfl⟩
  rw [hB] at HBS HE0 hbn hY
  have HY := Lib.hid hY
  clear hY hcl hs hB hD hn hW hb
  refine callsIn_of_wp Tryz.func242 rfl trivial ?_ rfl
  simp only [Tryz.ntmps242, List.size_toArray, List.length_cons, List.length_nil, Nat.reduceAdd, Nat.reduceSub, Array.replicate_succ, Array.replicate_zero, List.push_toArray, List.append_toArray, List.nil_append, List.cons_append]
  gi_wp2
  refine ⟨trivial, callsIn_wide.2 ((HBS.out _).mono ?_)⟩
  rintro e w' ⟨rfl, rfl⟩
  gi_wp2
  gi_loopw [3] (fun i wr => ∃ (K : Nat) (pre : List Bool), K ≤ B ∧ i = .int .i64 ((K : Int) - 1) ∧ pre.length + K = B ∧ dv pre = n / 2 ^ K ∧ wr.heap[D]? = some (.cells #[.string s] 22 (0, 0)) ∧ J pre wr) (fun i _ => (intOf i + 1).toNat)
  case atStart => exact ⟨B, [], Nat.le_refl _, by go_num, by simp, by rw [HE0.out]; rfl, hDW, h0⟩
  case round =>
    obtain ⟨K, pre, hK, rfl, hlen, hdv, hDr, hJr⟩ := hrel
    have HDV := Lib.hid hdv
    have HLEN := Lib.hid hlen
    have HDR := Lib.hid hDr
    have c1 := HCL.out _ hDr
    clear hdv hlen hDr
    by_cases hlt : 0 < K
    · obtain ⟨e, rfl⟩ : ∃ e, K = e + 1 := ⟨K - 1, by omega⟩
      rw [show ((e + 1 : Nat) : Int) - 1 = (e : Int) from by omega]
      have he0 : (0 : Int) ≤ (e : Int) := by omega
      have HST := Lib.hid (dv_step HDV.out)
      obtain ⟨b, hbb⟩ : ∃ b, bitB n e = b := ⟨_, rfl⟩
      have HBE := Lib.hid (HBT.out e (by omega))
      rw [hbb] at HST HBE
      clear hbb
      obtain ⟨fn, tmps, assign, body, hy, hR⟩ := HY.out pre b wr hJr (by have := HLEN.out; omega)
      have HR := Lib.hid hR
      clear hR
      gi_wp2
      refine ⟨trivial, callsIn_wide.2 ((HBE.out _).mono ?_)⟩
      rintro ev w' ⟨rfl, rfl⟩
      gi_wp2
      refine HR.out.mono ?_
      rintro ev W' (⟨rfl, hJ', hk'⟩ | ⟨rfl, hJx'⟩)
      · have HJ' := Lib.hid hJ'
        have HK' := Lib.hid hk'
        clear hJ' hk'
        gi_wp2
        go_roundw
        case rel => exact ⟨e, pre ++ [b], by omega, by go_num, by have := HLEN.out; simp; omega, HST.out, by rw [HK'.out]; exact HDR.out, HJ'.out⟩
        case measure => simp [intOf] <;> omega
      · gi_wp2
        refine bodyPost_ret (results_none rfl _ _ _) rfl ?_
        exact ⟨⟨_, rfl⟩, .inr ⟨pre ++ [b], trivial, hJx'⟩⟩
    · obtain rfl : K = 0 := by omega
      have hneg : ((0 : Nat) : Int) - 1 = -1 := rfl
      rw [hneg]
      gi_wp2
      go_end0
      exact ⟨⟨_, rfl⟩, .inl ⟨pre, by rw [HDV.out, Nat.pow_zero, Nat.div_one], hJr⟩⟩
end Go.Proofs.YtndmjfkmnjejkaaGreatDoor

/- Walks: prime.bases, is (numbers with a small factor), small, Is; primegroup.cofactor, Check. -/
import Derived.Test.YtpdejgdkpghjhaaGreatDoorQGrp
import Derived.Test.YtpdejgdkpghjhaaGreatDoorQLdA
import Derived.Test.YtpdejgdkpghjhaaGreatDoorQShG
import Derived.Test.YtpdejgdkpghjhaaGreatDoorQLdF
import Derived.Test.YtpdejgdkpghjhaaGreatDoorQExp
import Derived.Test.YtpdejgdkpghjhaaGreatDoorQShelf
set_option linter.unusedVariables false
set_option linter.unusedSimpArgs false
namespace Go.Proofs.YtpdejgdkpghjhaaGreatDoor
open Go.RowKit
def bsL : List Nat := [2, 3, 5, 7, 11, 13, 17, 19, 23, 29, 31, 37]
def bsN (j : Nat) : Nat := bsL.getD j 0
def bsV : Array Value := #[.int .u64 2, .int .u64 3, .int .u64 5, .int .u64 7, .int .u64 11, .int .u64 13, .int .u64 17, .int .u64 19, .int .u64 23, .int .u64 29, .int .u64 31, .int .u64 37]
theorem bs_pos {j : Nat} (h : j < 12) : 2 ≤ bsN j ∧ bsN j ≤ 37 := by
  match j, h with
  | 0, _ | 1, _ | 2, _ | 3, _ | 4, _ | 5, _ | 6, _ | 7, _ | 8, _ | 9, _ | 10, _ | 11, _ => decide
set_option maxRecDepth 100000 in
theorem bs_index {j : Nat} (h : j < 12) (w : World) : (Instr.index 190 (.agg bsV) (.int .i64 j)).run Tryz.prog w = .ok (.int .u64 (bsN j)) w := by
  have e : j = 0 ∨ j = 1 ∨ j = 2 ∨ j = 3 ∨ j = 4 ∨ j = 5 ∨ j = 6 ∨ j = 7 ∨ j = 8 ∨ j = 9 ∨ j = 10 ∨ j = 11 := by omega
  rcases e with rfl | rfl | rfl | rfl | rfl | rfl | rfl | rfl | rfl | rfl | rfl | rfl <;> (show _ = _; kernel_rfl)
set_option maxRecDepth 100000 in
theorem prime_bases (w : World) : Calls Tryz.prog 177 #[] w (Ret (.agg bsV) w) := by
  go_enter Tryz.func177, Tryz.ntmps177
  go_wp2
  refine bodyPost_ret (v := .agg bsV) ?_ rfl ⟨rfl, (Below.refl _ _).alloc (Nat.le_refl _) _⟩
  simp [results, Tryz.results177, go_sem, bsV]
set_option maxRecDepth 100000 in
set_option maxHeartbeats 2000000 in
theorem prime_is_small (n i : Nat) (h2 : 2 ≤ n) (h8 : n < 18446744073709551616) (hi : i < 12) (hd : n % bsN i = 0) (hno : ∀ j, j < i → ¬ (n % bsN j = 0)) (w : World) : Calls Tryz.prog 131 #[.int .u64 n] w (Ret (.bool (decide (n = bsN i))) w) := by
  have HNO := Lib.hid hno
  have HD := Lib.hid hd
  have hn2 : ((n : Int) < 2) = False := eq_false (by omega)
  clear hno hd
  go_enter Tryz.func131, Tryz.ntmps131
  go_wp2
  go_step3
  go_wp2_with fail
  refine (prime_bases _).mono ?_
  rintro e w1 ⟨rfl, hb1⟩
  have HB1 := Lib.hid hb1
  clear hb1
  go_wp2
  go_loop [4, 14] (fun p k => ∃ j : Nat, j ≤ i ∧ k = .int .i64 j) (fun p k => 12 - (intOf k).toNat)
  case atStart => exact ⟨0, Nat.zero_le _, rfl⟩
  case round =>
    obtain ⟨j, hj, rfl⟩ := hrel
    have hidx := fun (w : World) => bs_index (j := j) (by omega) w
    have hp := bs_pos (j := j) (by omega)
    obtain ⟨q, hq⟩ : ∃ q, bsN j = q := ⟨_, rfl⟩
    obtain ⟨r, hr⟩ : ∃ r, n % q = r := ⟨_, rfl⟩
    have hrr : (n : Int) % (q : Int) = (r : Int) := by rw [← hr]; rfl
    have hr8 : r < 18446744073709551616 := by rw [← hr]; exact Nat.lt_trans (Nat.mod_lt _ (by omega)) (by omega)
    have hwx : IntKind.u64.wrap (r : Int) = (r : Int) := u64_wrap r hr8
    have hq0 : ¬ (q = 0) := by omega
    have hlt : ((j : Int) < 12) = True := eq_true (by omega)
    by_cases hji : j < i
    · have hr0 : ((r : Int) == 0) = false := by
        rw [beq_eq_false_iff_ne]
        have := HNO.out j hji
        rw [hq, hr] at this
        omega
      rw [hq] at hidx
      clear hq hr hp hr8
      go_wp2
      go_round
      case rel => exact ⟨j + 1, by omega, by go_num⟩
      case measure => simp [intOf]; omega
    · obtain rfl : j = i := by omega
      have hr0 : r = 0 := by
        have := HD.out
        rw [hq, hr] at this
        exact this
      rw [hr0] at hrr
      rw [hq]
      rw [hq] at hidx
      clear hq hr hp hr8 hwx hr0 hji
      go_wp2
      go_ret
      exact ⟨by rw [show ((n : Int) == (q : Int)) = decide (n = q) from by rw [Bool.eq_iff_iff, beq_iff_eq, decide_eq_true_eq]; omega]; rfl, HB1.out⟩
set_option maxRecDepth 100000 in
theorem prime_small_n (n : Nat) (h8 : n < 18446744073709551616) (w : World) : Calls Tryz.prog 130 #[.string (nS n)] w (RetQ (.tuple #[.int .u64 n, .int .i64 0]) w) := by
  have HV := Lib.hid (nat_Valid (nS n) (nS_size63 (lt128_of_lt8 h8)))
  rw [nvalid_nS.2 (lt128_of_lt8 h8)] at HV
  have HS := Lib.hid (nat_Small_n n h8)
  obtain ⟨s, hs⟩ : ∃ s, nS n = s := ⟨_, rfl⟩
  rw [hs] at HV HS ⊢
  clear hs h8
  go_enter Tryz.func130, Tryz.ntmps130
  go_wp2_with fail
  refine (HV.out _).mono ?_
  rintro e w1 ⟨rfl, rfl⟩
  go_wp2_with fail
  refine (HS.out _).mono ?_
  rintro e w1 ⟨rfl, rfl⟩
  go_wp2
  go_ret2
  exact ⟨rfl, rfl⟩
set_option maxRecDepth 100000 in
set_option maxHeartbeats 1000000 in
theorem pg_cofactor (m q : Nat) (hm : 1 ≤ m) (hm8 : m < 18446744073709551616) (hq : 1 ≤ q) (hq8 : q < 256 ^ 128) (w : World) : Calls Tryz.prog 63 #[gV (nS m) (nS q)] w (Ret (.tuple #[.string (nS ((m - 1) / q)), .bool (decide ((m - 1) % q = 0))]) w) := by
  have HS := Lib.hid (nat_Sub_ge m 1 (lt128_of_lt8 hm8) (by decide) hm)
  have HD := Lib.hid (nat_DivMod (m - 1) q (by omega) hq8 hq)
  have hq0 := empty_nS (n := q) hq
  rw [nS_one] at HS
  have HZ := Lib.hid (show (nS ((m - 1) % q)).toList.isEmpty = decide ((m - 1) % q = 0) from by
    cases e : decide ((m - 1) % q = 0) with
    | true => rw [of_decide_eq_true e]; exact sempty_true rfl
    | false => exact empty_nS (by have := of_decide_eq_false e; omega))
  obtain ⟨s, hs⟩ : ∃ s, nS m = s := ⟨_, rfl⟩
  obtain ⟨t, ht⟩ : ∃ t, nS q = t := ⟨_, rfl⟩
  obtain ⟨u, hu⟩ : ∃ u, nS (m - 1) = u := ⟨_, rfl⟩
  obtain ⟨r, hr⟩ : ∃ r, nS ((m - 1) % q) = r := ⟨_, rfl⟩
  rw [hs, hu] at HS
  rw [hu, ht, hr] at HD
  rw [ht] at hq0
  rw [hr] at HZ
  rw [hs, ht, ← HZ.out]
  clear hs ht hu hr hm hm8 hq hq8
  have HX0 := Lib.hid (Bx2.new w (.string s) (.string t) 24)
  have HB0 := Lib.hid ((Below.refl w.heap.size w).alloc (Nat.le_refl _) (.cells #[.string s, .string t] 24))
  have c0 := HX0.out.c0
  unfold gV
  go_enter Tryz.func63, Tryz.ntmps63
  go_wp2_with fail
  refine (HS.out _).mono ?_
  rintro e w1 ⟨rfl, hb1⟩
  have HX1 := Lib.hid (HX0.out.next hb1)
  have HB1 := Lib.hid (HB0.out.trans (hb1.mono HB0.out.size))
  clear hb1 c0
  have c1 := HX1.out.c1
  go_wp2_with fail
  refine (HD.out _).mono ?_
  rintro e w2 ⟨rfl, hb2⟩
  have HB2 := Lib.hid (HB1.out.trans (hb2.mono HB1.out.size))
  clear hb2
  go_wp2
  go_ret2
  exact ⟨rfl, HB2.out⟩
def chkV (m q : Nat) (bm bq : Bool) : Int := if bm = false then 12 else if bq = false then 12 else if (m - 1) % q = 0 then 0 else 13
end Go.Proofs.YtpdejgdkpghjhaaGreatDoor
/- The element of a label as one plain function (hsF), and the walk of primegroup.Hash. -/
set_option linter.unusedVariables false
set_option linter.unusedSimpArgs false
namespace Go.Proofs.YtpdejgdkpghjhaaGreatDoor
open Go.RowKit Go.Lib
def txL (c : Nat) (l : List UInt8) : List UInt8 := Lib.decDigits c ++ ([58] ++ l)
def hxN (m k : Nat) (l : List UInt8) (c : Nat) : Nat := bnat (shaL (txL c l)) ^ k % m
def hsF (m k : Nat) (l : List UInt8) : Nat → Option Nat
  | 0 => none
  | n + 1 => if hxN m k l (63 - n) = 0 ∨ hxN m k l (63 - n) = 1 then hsF m k l n else some (hxN m k l (63 - n))
def hsO : Option Nat → Value
  | some x => .tuple #[.string (nS x), .int .i64 0]
  | none => .tuple #[.string ⟨#[]⟩, .int .i64 13]
def hsN (m q : Nat) (l : List UInt8) : Value := if (m - 1) % q = 0 then hsO (hsF m ((m - 1) / q) l 64) else .tuple #[.string ⟨#[]⟩, .int .i64 13]
set_option maxRecDepth 100000 in
theorem mod_reducedA (x m : Nat) (hx8 : x < 256 ^ 128) (hm : m < 256 ^ 128) (h0 : 0 < m) (w : World) : Calls Tryz.prog 117 #[.string (nS x), .string (nS m)] w (Ret (.string (nS (x % m))) w) := by
  have HD := Lib.hid (nat_DivModA x m hx8 hm h0)
  obtain ⟨s, hs⟩ : ∃ s, nS x = s := ⟨_, rfl⟩
  obtain ⟨t, ht⟩ : ∃ t, nS m = t := ⟨_, rfl⟩
  rw [hs, ht] at HD
  rw [hs, ht]
  clear hs ht hm hx8
  go_enter Tryz.func117, Tryz.ntmps117
  go_wp2_with fail
  refine (HD.out _).mono ?_
  rintro e w1 ⟨rfl, hb⟩
  have HB := Lib.hid hb
  clear hb
  go_wp2
  go_ret
  exact ⟨rfl, HB.out⟩
theorem mod_ExpA (a n m : Nat) (ha : a < 256 ^ 128) (hn : n < 256 ^ 128) (hm8 : m < 18446744073709551616) (h0 : 0 < m) (w : World) : Calls Tryz.prog 137 #[.string (nS a), .string (nS n), .string (nS m)] w (Ret (.tuple #[.string (nS (a ^ n % m)), .int .i64 0]) w) :=
  mod_Exp_of a n m (nvalid_nS.2 ha) (mod_reducedA a m ha (lt128_of_lt8 hm8) h0) hn hm8 h0 w
theorem bnat_lt128 (l : List UInt8) (h : l.length ≤ 128) : bnat l < 256 ^ 128 := Nat.lt_of_lt_of_le (bnat_lt l) (Nat.pow_le_pow_right (by omega) h)
theorem bstr_trim (u : List UInt8) (h : trimZ u = u) : bstr u = nS (bnat u) := by
  unfold nS
  rw [← trimZ_eq, h]
theorem tx_add (c : Nat) (l : List UInt8) (hl : l.length ≤ 100000) (hc : c < 100) (P : Program) (w : World) :
    (Op.stringOp .add ⟨(Lib.decDigits c).toArray⟩ ⟨#[58]⟩).run P w = .ok (.string (bstr (Lib.decDigits c ++ [58]))) w ∧ (Op.stringOp .add (bstr (Lib.decDigits c ++ [58])) (bstr l)).run P w = .ok (.string (bstr (txL c l))) w := by
  have hd : (Lib.decDigits c).length ≤ 2 := by
    by_cases h : c < 10
    · rw [Lib.decDigits_one h]; simp
    · rw [Lib.decDigits_two h hc]; simp
  constructor
  · rw [run_string_add_sum w _ _ (by show (bstr (Lib.decDigits c)).size + 1 ≤ _; rw [bstr_size]; omega)]
    exact congrArg (fun x => Result.ok (Value.string x) w) (bstr_snoc _ [58])
  · rw [run_string_add_sum w _ _ (by rw [bstr_size, bstr_size]; simp; omega)]
    refine congrArg (fun x => Result.ok (Value.string x) w) ?_
    rw [show bstr l = ⟨l.toArray⟩ from rfl, bstr_snoc, List.append_assoc]
    rfl
theorem tx_size (c : Nat) (l : List UInt8) (hl : l.length ≤ 100000) (hc : c < 100) : (bstr (txL c l)).size ≤ 1000000000000 := by
  have hd : (Lib.decDigits c).length ≤ 2 := by
    by_cases h : c < 10
    · rw [Lib.decDigits_one h]; simp
    · rw [Lib.decDigits_two h hc]; simp
  rw [bstr_size]; unfold txL; simp; omega
set_option maxRecDepth 100000 in
set_option maxHeartbeats 2000000 in
theorem pg_Hash_n (m q : Nat) (s : ByteArray) (hm : 1 ≤ m) (hm8 : m < 18446744073709551616) (hq : 1 ≤ q) (hq8 : q < 256 ^ 128) (hs : s.size ≤ 100000) (w : World) : Calls Tryz.prog 72 #[gV (nS m) (nS q), .string s] w (Ret (hsN m q s.data.toList) w) := by
  have HF := Lib.hid (pg_formed (nS m) (nS q) (by have := nS_small_size hm8; omega) (by have := nS_size_le.2 hq8; omega))
  rw [nvalid_nS.2 (lt128_of_lt8 hm8), nvalid_nS.2 hq8, Bool.and_true] at HF
  have HC := Lib.hid (pg_cofactor m q hm hm8 hq hq8)
  obtain ⟨k, hk⟩ : ∃ k, (m - 1) / q = k := ⟨_, rfl⟩
  have hk8 : k < 256 ^ 128 := by
    refine lt128_of_lt8 ?_
    rw [← hk]
    exact Nat.lt_of_le_of_lt (Nat.div_le_self _ _) (by omega)
  rw [hk] at HC
  obtain ⟨l, hl⟩ : ∃ l, s.data.toList = l := ⟨_, rfl⟩
  have hll : l.length ≤ 100000 := by rw [← hl]; exact (show s.data.toList.length = s.size from Array.length_toList) ▸ hs
  have hsl : s = bstr l := by rw [← hl]; exact (bstr_of s).symm
  rw [hl]
  have HE := Lib.hid (fun a (ha : a < 256 ^ 128) => mod_ExpA a k m ha hk8 hm8 hm)
  have hm1 := empty_nS hm
  have hq1 := empty_nS hq
  obtain ⟨M, hM⟩ : ∃ M, nS m = M := ⟨_, rfl⟩
  obtain ⟨O, hO⟩ : ∃ O, nS q = O := ⟨_, rfl⟩
  obtain ⟨K, hK⟩ : ∃ K, nS k = K := ⟨_, rfl⟩
  rw [hM, hO] at HF HC ⊢
  rw [hM] at hm1 HE
  rw [hO] at hq1
  rw [hK] at HC HE
  have HX0 := Lib.hid (Bx2.new w (.string M) (.string O) 24)
  have HB0 := Lib.hid ((Below.refl w.heap.size w).alloc (Nat.le_refl _) (.cells #[.string M, .string O] 24))
  have c0 := HX0.out.c0
  have c1 := HX0.out.c1
  obtain ⟨B, hB⟩ : ∃ B, w.heap.size = B := ⟨_, rfl⟩
  have HBB := Lib.hid hB
  have HTA := Lib.hid (fun c (hc : c < 100) w => tx_add c l hll hc Tryz.prog w)
  have HTS := Lib.hid (fun c (hc : c < 100) => tx_size c l hll hc)
  have HSL := Lib.hid hsl
  by_cases hd : (m - 1) % q = 0
  · have HRN := Lib.hid (show hsN m q l = hsO (hsF m k l 64) from by unfold hsN; rw [if_pos hd, hk])
    rw [show decide ((m - 1) % q = 0) = true from decide_eq_true hd] at HC
    rw [HRN.out]
    clear hd hk hk8 hl hM hO hK hB hm hm8 hq hq8 hs hsl hll
    unfold gV at *
    go_enter Tryz.func72, Tryz.ntmps72
    go_wp2_with fail
    refine (HF.out _).mono ?_
    rintro e w1 ⟨rfl, hb1⟩
    have HX1 := Lib.hid (HX0.out.next hb1)
    have HB1 := Lib.hid (HB0.out.trans (hb1.mono HB0.out.size))
    clear hb1 c0 c1
    have c0 := HX1.out.c0
    have c1 := HX1.out.c1
    go_wp2_with fail
    refine (HC.out _).mono ?_
    rintro e w2 ⟨rfl, hb2⟩
    have HX2 := Lib.hid (HX1.out.next hb2)
    have HB2 := Lib.hid (HB1.out.trans (hb2.mono HB1.out.size))
    clear hb2 c0 c1 hm1 hq1
    rw [HBB.out] at HX2 HB2 ⊢
    go_wp2
    go_loopw [30] (fun i wr => ∃ n : Nat, n ≤ 64 ∧ i = .int .i64 ((64 - n : Nat) : Int) ∧ hsF m k l n = hsF m k l 64 ∧ Bx2 wr B (.string M) (.string O) 24 ∧ Below B w wr) (fun i _ => 64 - (RowKit.intOf i).toNat)
    case atStart => exact ⟨64, Nat.le_refl _, rfl, rfl, HX2.out, HB2.out⟩
    case round =>
      obtain ⟨n, hn, rfl, hf, hx, hb⟩ := hrel
      have HF2 := Lib.hid hf
      have HX := Lib.hid hx
      have HB := Lib.hid hb
      clear hf hx hb
      by_cases h0 : n = 0
      · have HN0 := Lib.hid (show hsF m k l 64 = none from by rw [← HF2.out, h0]; rfl)
        have hge : ¬ (((64 - n : Nat) : Int) < 64) := by omega
        clear h0
        go_wp2
        go_ret2
        exact ⟨by rw [HN0.out]; rfl, by rw [HBB.out]; exact HB.out⟩
      · obtain ⟨p, hp⟩ : ∃ p, n = p + 1 := ⟨n - 1, by omega⟩
        have HP := Lib.hid hp
        obtain ⟨c, hc⟩ : ∃ c, 64 - n = c := ⟨_, rfl⟩
        have hc64 : c < 64 := by omega
        have hci : (c : Int) < 64 := by omega
        have HCP := Lib.hid (show c = 63 - p ∧ p + 1 ≤ 64 ∧ c < 100 from by omega)
        rw [hc]
        clear hp hc h0 hn hc64
        have hadd1 := fun w => (HTA.out c HCP.out.2.2 w).1
        have hadd2 := fun w => (HTA.out c HCP.out.2.2 w).2
        rw [← HSL.out] at hadd2
        have HIT := Lib.hid (Tryz.strconv_Itoa_small c HCP.out.2.2)
        have hts := HTS.out c HCP.out.2.2
        obtain ⟨t0, ht0⟩ : ∃ t, (ByteArray.mk (Lib.decDigits c).toArray) = t := ⟨_, rfl⟩
        obtain ⟨t1, ht1⟩ : ∃ t, bstr (Lib.decDigits c ++ [58]) = t := ⟨_, rfl⟩
        obtain ⟨t2, ht2⟩ : ∃ t, bstr (txL c l) = t := ⟨_, rfl⟩
        rw [ht0, ht1] at hadd1
        rw [ht1, ht2] at hadd2
        rw [ht0] at HIT
        rw [ht2] at hts
        have HSU := Lib.hid (h_Sum t2 hts)
        rw [← ht2, bstr_list, ht2] at HSU
        clear ht0 ht1 ht2 hts
        have c0 := HX.out.c0
        have c1 := HX.out.c1
        go_wp2_with fail
        refine (HIT.out _).mono ?_
        rintro e w3 ⟨rfl, rfl⟩
        go_wp2_with fail
        refine (HSU.out _).mono ?_
        rintro e w3 ⟨rfl, hb3⟩
        have HX3 := Lib.hid (HX.out.kept hb3 HX.out.lt)
        have HB3 := Lib.hid (HB.out.trans (hb3.mono (by rw [← HBB.out]; exact HB.out.size)))
        clear hb3 c0 c1 hadd1 hadd2
        obtain ⟨sh, hsh⟩ : ∃ x, shaL (txL c l) = x := ⟨_, rfl⟩
        have HSH := Lib.hid hsh
        have HLS := Lib.hid (show sh.length = 32 from by rw [← hsh]; exact shaL_length _)
        rw [hsh]
        clear hsh
        go_wp2
        go_loopw [9] (fun v wx => ∃ u : List UInt8, v = .string (bstr u) ∧ trimZ u = trimZ sh ∧ u.length ≤ 32 ∧ wx = w3) (fun v _ => match v with | .string s => s.size | _ => 0)
        case atStart => exact ⟨sh, rfl, rfl, by have := HLS.out; omega, rfl⟩
        case round =>
          obtain ⟨u, rfl, hu, hul, rfl⟩ := hrel
          have HU := Lib.hid hu
          have HUL := Lib.hid hul
          clear hu hul
          obtain ⟨A, hA⟩ : ∃ A, bnat sh = A := ⟨_, rfl⟩
          have HA := Lib.hid (show A < 256 ^ 128 from by rw [← hA]; exact bnat_lt128 _ (by have := HLS.out; omega))
          obtain ⟨y, hy⟩ : ∃ y, A ^ k % m = y := ⟨_, rfl⟩
          have HY := Lib.hid hy
          have HN := Lib.hid (show hsF m k l (p + 1) = if y = 0 ∨ y = 1 then hsF m k l p else some y from by
            rw [hsF, ← hy, ← hA, ← HSH.out, HCP.out.1]
            rfl)
          have HAU := Lib.hid (show trimZ u = u → bstr u = nS A from fun h => by rw [bstr_trim u h, ← bnat_trimZ u, HU.out, bnat_trimZ, hA])
          clear hA hy
          cases u with
          | nil =>
            have HEQ := Lib.hid (show (ByteArray.mk #[]) = nS A from by rw [← HAU.out rfl]; rfl)
            have he : (bstr []) = ⟨#[]⟩ := rfl
            rw [he]
            clear he
            have c0 := HX3.out.c0
            go_wp2_with fail
            rw [HEQ.out]
            refine (HE.out A HA.out _).mono ?_
            rintro e w4 ⟨rfl, hb4⟩
            have HX4 := Lib.hid (HX3.out.kept hb4 HX3.out.lt)
            have HB4 := Lib.hid (HB3.out.trans (hb4.mono (by rw [← HBB.out]; exact HB3.out.size)))
            clear hb4 c0 
            rw [HY.out]
            by_cases hy0 : y = 0
            · have HST := Lib.hid (show hsF m k l p = hsF m k l 64 from by rw [← HF2.out, HP.out, HN.out, if_pos (Or.inl hy0)])
              rw [hy0, nS_zero]
              clear hy0
              go_wp2
              refine ⟨⟨p, by have := HCP.out; omega, ?_, HST.out, HX4.out, HB4.out⟩, ?_⟩
              · have := HCP.out; congr 1; omega
              · have := HCP.out; simp [RowKit.intOf]; omega
            · by_cases hy1 : y = 1
              · have HST := Lib.hid (show hsF m k l p = hsF m k l 64 from by rw [← HF2.out, HP.out, HN.out, if_pos (Or.inr hy1)])
                rw [hy1, nS_one]
                clear hy0 hy1
                go_wp2
                refine ⟨⟨p, by have := HCP.out; omega, ?_, HST.out, HX4.out, HB4.out⟩, ?_⟩
                · have := HCP.out; congr 1; omega
                · have := HCP.out; simp [RowKit.intOf]; omega
              · have HST := Lib.hid (show hsF m k l 64 = some y from by rw [← HF2.out, HP.out, HN.out, if_neg (fun h => h.elim hy0 hy1)])
                have he0 := empty_nS (show 0 < y from by omega)
                have he1 : ((nS y).toList == [1]) = false := by rw [nS_is1]; exact decide_eq_false hy1
                clear hy0 hy1
                go_wp2
                go_ret2
                exact ⟨by rw [HST.out]; rfl, by rw [HBB.out]; exact HB4.out⟩
          | cons x u =>
            have hsz : (bstr (x :: u)).size = u.length + 1 := by rw [bstr_size]; rfl
            have hgx : 0 < ((u.length + 1 : Nat) : Int) := by omega
            obtain ⟨b, hb⟩ : ∃ b, x.toNat = b := ⟨_, rfl⟩
            have hx0 : ∀ h, ((bstr (x :: u))[0]'h).toNat = b := fun _ => hb
            by_cases hb0 : b = 0
            · subst hb0
              have HX00 := Lib.hid (show x = 0 from UInt8.toNat_inj.1 (by simpa using hb))
              have HNX := Lib.hid (show (bstr (x :: u)).extract 1 (u.length + 1) = bstr u from by rw [bstr_extract]; simp)
              have hnx := HNX.out
              clear hb
              go_wp2
              refine ⟨⟨u, rfl, ?_, by have := HUL.out; simp at this; omega, trivial⟩, ?_⟩
              · rw [← HU.out, HX00.out]; simp [trimZ]
              · show (bstr u).size < (bstr (x :: u)).size
                rw [bstr_size, bstr_size]; simp
            · have HEQ := Lib.hid (HAU.out (by
                unfold trimZ
                rw [List.dropWhile_cons, if_neg (by
                  intro h
                  have : x = 0 := by simpa using h
                  rw [this] at hb
                  exact hb0 hb.symm)]))
              have hbi : ¬ ((b : Int) = 0) := by omega
              clear hb hb0
              have c0 := HX3.out.c0
              go_wp2_with fail
              rw [HEQ.out]
              refine (HE.out A HA.out _).mono ?_
              rintro e w4 ⟨rfl, hb4⟩
              have HX4 := Lib.hid (HX3.out.kept hb4 HX3.out.lt)
              have HB4 := Lib.hid (HB3.out.trans (hb4.mono (by rw [← HBB.out]; exact HB3.out.size)))
              clear hb4 c0 
              rw [HY.out]
              by_cases hy0 : y = 0
              · have HST := Lib.hid (show hsF m k l p = hsF m k l 64 from by rw [← HF2.out, HP.out, HN.out, if_pos (Or.inl hy0)])
                rw [hy0, nS_zero]
                clear hy0
                go_wp2
                refine ⟨⟨p, by have := HCP.out; omega, ?_, HST.out, HX4.out, HB4.out⟩, ?_⟩
                · have := HCP.out; congr 1; omega
                · have := HCP.out; simp [RowKit.intOf]; omega
              · by_cases hy1 : y = 1
                · have HST := Lib.hid (show hsF m k l p = hsF m k l 64 from by rw [← HF2.out, HP.out, HN.out, if_pos (Or.inr hy1)])
                  rw [hy1, nS_one]
                  clear hy0 hy1
                  go_wp2
                  refine ⟨⟨p, by have := HCP.out; omega, ?_, HST.out, HX4.out, HB4.out⟩, ?_⟩
                  · have := HCP.out; congr 1; omega
                  · have := HCP.out; simp [RowKit.intOf]; omega
                · have HST := Lib.hid (show hsF m k l 64 = some y from by rw [← HF2.out, HP.out, HN.out, if_neg (fun h => h.elim hy0 hy1)])
                  have he0 := empty_nS (show 0 < y from by omega)
                  have he1 : ((nS y).toList == [1]) = false := by rw [nS_is1]; exact decide_eq_false hy1
                  clear hy0 hy1
                  go_wp2
                  go_ret2
                  exact ⟨by rw [HST.out]; rfl, by rw [HBB.out]; exact HB4.out⟩
  · have HRN := Lib.hid (show hsN m q l = .tuple #[.string ⟨#[]⟩, .int .i64 13] from by unfold hsN; rw [if_neg hd])
    rw [show decide ((m - 1) % q = 0) = false from decide_eq_false hd] at HC
    rw [HRN.out]
    clear hd hk hk8 hl hM hO hK hB hm hm8 hq hq8 hs hsl hll
    unfold gV at *
    go_enter Tryz.func72, Tryz.ntmps72
    go_wp2_with fail
    refine (HF.out _).mono ?_
    rintro e w1 ⟨rfl, hb1⟩
    have HX1 := Lib.hid (HX0.out.next hb1)
    have HB1 := Lib.hid (HB0.out.trans (hb1.mono HB0.out.size))
    clear hb1 c0 c1
    have c0 := HX1.out.c0
    have c1 := HX1.out.c1
    go_wp2_with fail
    refine (HC.out _).mono ?_
    rintro e w2 ⟨rfl, hb2⟩
    have HB2 := Lib.hid (HB1.out.trans (hb2.mono HB1.out.size))
    clear hb2 c0 c1 hm1 hq1
    go_wp2
    go_ret2
    exact ⟨rfl, HB2.out⟩
def hsR (M O : ByteArray) (l : List UInt8) : Value :=
  if nvalid M = true ∧ nvalid O = true then if num M = 0 ∨ num O = 0 then .tuple #[.string ⟨#[]⟩, .int .i64 11] else hsN (num M) (num O) l else .tuple #[.string ⟨#[]⟩, .int .i64 3]
set_option maxRecDepth 100000 in
set_option maxHeartbeats 2000000 in
theorem pg_Hash (M O s : ByteArray) (hM : M.size ≤ 8) (hO : O.size ≤ 100) (hs : s.size ≤ 100000) (w : World) : Calls Tryz.prog 72 #[gV M O, .string s] w (Ret (hsR M O s.data.toList) w) := by
  have HF := Lib.hid (pg_formed M O (by omega) (by omega))
  by_cases hv : nvalid M = true ∧ nvalid O = true
  · by_cases h0 : num M = 0 ∨ num O = 0
    · rw [show hsR M O s.data.toList = .tuple #[.string ⟨#[]⟩, .int .i64 11] from by unfold hsR; rw [if_pos hv, if_pos h0]]
      rw [hv.1, hv.2, Bool.and_true] at HF
      have HX0 := Lib.hid (Bx2.new w (.string M) (.string O) 24)
      have HB0 := Lib.hid ((Below.refl w.heap.size w).alloc (Nat.le_refl _) (.cells #[.string M, .string O] 24))
      have c0 := HX0.out.c0
      have c1 := HX0.out.c1
      have he : M.toList.isEmpty = true ∨ (M.toList.isEmpty = false ∧ O.toList.isEmpty = true) := by
        by_cases h : num M = 0
        · left; rw [nS_num hv.1, h]; exact sempty_true rfl
        · right
          refine ⟨?_, ?_⟩
          · rw [nS_num hv.1]; exact empty_nS (by omega)
          · rw [nS_num hv.2, h0.resolve_left h]; exact sempty_true rfl
      clear h0 hv hM hO hs
      rcases he with hm | ⟨hm, hq⟩ <;>
      · unfold gV at *
        go_enter Tryz.func72, Tryz.ntmps72
        go_wp2_with fail
        refine (HF.out _).mono ?_
        rintro e w1 ⟨rfl, hb1⟩
        have HX1 := Lib.hid (HX0.out.next hb1)
        have HB1 := Lib.hid (HB0.out.trans (hb1.mono HB0.out.size))
        clear hb1 c0 c1
        have c0 := HX1.out.c0
        have c1 := HX1.out.c1
        go_wp2
        go_ret2
        exact ⟨rfl, HB1.out⟩
    · rw [show hsR M O s.data.toList = hsN (num M) (num O) s.data.toList from by unfold hsR; rw [if_pos hv, if_neg h0]]
      have := pg_Hash_n (num M) (num O) s (by omega) (num_small hM) (by omega) (num_lt (by omega)) hs w
      rwa [← nS_num hv.1, ← nS_num hv.2] at this
  · rw [show hsR M O s.data.toList = .tuple #[.string ⟨#[]⟩, .int .i64 3] from by unfold hsR; rw [if_neg hv]]
    rw [show (nvalid M && nvalid O) = false from by cases h1 : nvalid M <;> cases h2 : nvalid O <;> simp_all] at HF
    have HB0 := Lib.hid ((Below.refl w.heap.size w).alloc (Nat.le_refl _) (.cells #[.string M, .string O] 24))
    have HX0 := Lib.hid (Bx2.new w (.string M) (.string O) 24)
    have c0 := HX0.out.c0
    have c1 := HX0.out.c1
    clear hv hM hO hs
    unfold gV at *
    go_enter Tryz.func72, Tryz.ntmps72
    go_wp2_with fail
    refine (HF.out _).mono ?_
    rintro e w1 ⟨rfl, hb1⟩
    have HB1 := Lib.hid (HB0.out.trans (hb1.mono HB0.out.size))
    clear hb1 c0 c1
    go_wp2
    go_ret2
    exact ⟨rfl, HB1.out⟩
end Go.Proofs.YtpdejgdkpghjhaaGreatDoor

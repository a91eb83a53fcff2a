/- Walk: dominoref06.Decimal for numbers that are not negative. -/
import Derived.Test.YtndmjfkmnjejkaaGreatDoorQHaA
import Derived.Test.YtndmjfkmnjejkaaGreatDoorQPeB
import Derived.Test.YtndmjfkmnjejkaaGreatDoorQTrH
import Derived.Test.YtndmjfkmnjejkaaGreatDoorQCoG
import Derived.Test.YtndmjfkmnjejkaaGreatDoorQRowN
import Derived.Laws.AppendOwn
import Derived.Deep.AppendLies
set_option linter.unusedVariables false
set_option linter.unusedSimpArgs false
namespace Go.Proofs.YtndmjfkmnjejkaaGreatDoor
open Go.RowKit Go.Lib
set_option maxRecDepth 100000 in
set_option maxHeartbeats 2000000 in
theorem r06_Decimal_step (n : Nat) (hn : n < 9223372036854775808) (ih : ∀ w, Calls Tryz.prog 195 #[.int .i64 ((n / 10 : Nat) : Int)] w (Ret (.string (bstr (Lib.decDigits (n / 10)))) w)) (h10 : ¬ n < 10) (w : World) : Calls Tryz.prog 195 #[.int .i64 n] w (Ret (.string (bstr (Lib.decDigits n))) w) := by
  have HR := Lib.hid (show bstr (Lib.decDigits n) = bstr (Lib.decDigits (n / 10) ++ [UInt8.ofNat (48 + n % 10)]) from by rw [Lib.decDigits.eq_1 n, dif_neg h10])
  have HDT := Lib.hid (digit_text (n % 10) (by omega))
  have hq : ((n : Int) / 10) = ((n / 10 : Nat) : Int) := by simp
  have hm : ((n : Int) % 10) = ((n % 10 : Nat) : Int) := by simp
  have hlen := decDigits_len 18 (n / 10) (by omega)
  have HIH := Lib.hid ih
  obtain ⟨q, hqe⟩ : ∃ q, n / 10 = q := ⟨_, rfl⟩
  obtain ⟨d, hde⟩ : ∃ q, n % 10 = q := ⟨_, rfl⟩
  rw [hqe] at HR HIH hq hlen
  rw [hde] at HR HDT hm
  have hd10 : (d : Int) < 10 := by omega
  have hd11 : (d : Int) + 1 ≤ 10 := by omega
  have hmt : (n : Int).tmod 10 = (d : Int) := by rw [Int.tmod_eq_emod_of_nonneg (by omega)]; exact hm
  have hqt : (n : Int).tdiv 10 = (q : Int) := by rw [Int.tdiv_eq_ediv_of_nonneg (by omega)]; exact hq
  have hwd1 : IntKind.i64.wrap ((d : Int) + 1) = (d : Int) + 1 := by rw [IntKind.wrap_i64]; omega
  have htn : ((d : Int) + 1).toNat = d + 1 := by omega
  have hd12 : (0 : Int) ≤ (d : Int) + 1 := by omega
  have hd13 : (d : Int) ≤ (d : Int) + 1 := by omega
  have hwq : IntKind.i64.wrap (q : Int) = (q : Int) := by rw [IntKind.wrap_i64]; omega
  have hwd2 : IntKind.i64.wrap (d : Int) = (d : Int) := by rw [IntKind.wrap_i64]; omega
  have hn10 : ¬ ((n : Int) < 10) := by omega
  have hn0 : ¬ ((n : Int) < 0) := by omega
  obtain ⟨t, ht⟩ : ∃ t, bstr (Lib.decDigits q) = t := ⟨_, rfl⟩
  obtain ⟨u, hu⟩ : ∃ t, bstr [UInt8.ofNat (48 + d)] = t := ⟨_, rfl⟩
  obtain ⟨r, hr⟩ : ∃ t, bstr (Lib.decDigits n) = t := ⟨_, rfl⟩
  have hadd : ∀ w, (Op.stringOp .add t u).run Tryz.prog w = .ok (.string r) w := fun w => by
    rw [← ht, ← hu, run_string_add_sum w _ _ (by rw [bstr_size, bstr_size]; simp; omega), ← hr, HR.out]
    exact congrArg (fun x => Result.ok (Value.string x) w) (bstr_snoc _ [UInt8.ofNat (48 + d)])
  rw [ht] at HIH
  rw [hu] at HDT
  rw [hr]
  clear HR ih hlen hqe hde h10 hn ht hu hr
  have hdt := HDT.out
  go_enter Tryz.func195, Tryz.ntmps195
  go_wp2
  obtain ⟨wd, hwd⟩ : ∃ wd, w.drew = wd := ⟨_, rfl⟩
  have HWD := Lib.hid (show Below w.heap.size w wd from by rw [← hwd]; exact (Below.refl _ _).drew)
  refine wp_region_K 11 (Below (wd).heap.size (wd)) (by kernel_rfl) ?_
  intro hD
  rw [hwd]
  refine rP 0 29 10 rfl hD (Below.refl _ _) ?_; clear hD; intro hD; simp only [Act.put, sqA, sqB, sqC]
  refine rP 1 30 9 rfl hD (Below.refl _ _) ?_; clear hD; intro hD; simp only [Act.put, sqA, sqB, sqC]
  refine rP 3 32 8 rfl hD (Below.refl _ _) ?_; clear hD; intro hD; simp only [Act.put, sqA, sqB, sqC]
  refine rP 4 33 7 rfl hD (Below.refl _ _) ?_; clear hD; intro hD; simp only [Act.put, sqA, sqB, sqC]
  refine rP 5 34 6 rfl hD (Below.refl _ _) ?_; clear hD; intro hD; simp only [Act.put, sqA, sqB, sqC]
  refine rP 6 35 5 rfl hD (Below.refl _ _) ?_; clear hD; intro hD; simp only [Act.put, sqA, sqB, sqC]
  refine rP 7 36 4 rfl hD (Below.refl _ _) ?_; clear hD; intro hD; simp only [Act.put, sqA, sqB, sqC]
  refine rP 8 37 3 rfl hD (Below.refl _ _) ?_; clear hD; intro hD; simp only [Act.put, sqA, sqB, sqC]
  refine rO 2 2 rfl hD ?_; clear hD; intro K2 hK2
  go_wp2_with fail
  refine (HIH.out _).mono ?_
  rintro ev w3 ⟨rfl, hb3⟩
  have HB2 := Lib.hid hb3
  clear hb3
  go_wp2
  refine hK2 _ _ (by exact HB2.out) ?_; clear hK2; intro hS_8_2 hD
  refine rP 9 38 1 rfl hD hS_8_2 ?_; clear hD; intro hD; simp only [Act.put, sqA, sqB, sqC]
  refine rO 10 0 rfl hD ?_; clear hD; intro K10 hK10
  go_wp2
  refine hK10 _ _ (by exact hS_8_2) ?_; clear hK10; intro hS_8_10 hD
  have HL := Lib.hid hS_8_10
  refine wpAnyK_done (by kernel_rfl) ?_ 0
  clear hD
  go_wp2
  go_ret
  exact ⟨rfl, below_up HWD.out HWD.out.size HL.out⟩
set_option maxRecDepth 100000 in
theorem r06_Decimal_one (n : Nat) (h10 : n < 10) (w : World) : Calls Tryz.prog 195 #[.int .i64 n] w (Ret (.string (bstr (Lib.decDigits n))) w) := by
  have HDT := Lib.hid (digit_text n h10)
  rw [Lib.decDigits_one h10]
  have hd10 : (n : Int) < 10 := by omega
  have hd11 : (n : Int) + 1 ≤ 10 := by omega
  have hn0 : ¬ ((n : Int) < 0) := by omega
  obtain ⟨u, hu⟩ : ∃ t, bstr [UInt8.ofNat (48 + n)] = t := ⟨_, rfl⟩
  rw [hu] at HDT ⊢
  clear hu h10
  have hdt := HDT.out
  go_enter Tryz.func195, Tryz.ntmps195
  go_wp2
  go_ret
  exact ⟨rfl, Below.refl _ _⟩
theorem r06_Decimal (n : Nat) (hn : n < 9223372036854775808) : ∀ (w : World), Calls Tryz.prog 195 #[.int .i64 n] w (Ret (.string (bstr (Lib.decDigits n))) w) := by
  induction n using Nat.strongRecOn with
  | _ n ih =>
    by_cases h : n < 10
    · exact r06_Decimal_one n h
    · exact r06_Decimal_step n hn (ih (n / 10) (by omega) (by omega)) h
end Go.Proofs.YtndmjfkmnjejkaaGreatDoor
/- Walk: dominoref06.attempt, for numbers of at most 256 bits. -/
set_option linter.unusedVariables false
set_option linter.unusedSimpArgs false
namespace Go.Proofs.YtndmjfkmnjejkaaGreatDoor
open Go.RowKit Go.Lib
theorem wrap_subN {y p : Nat} (h : p ≤ y) (hy : y < 256) : wrap64 ((y : Int) - (p : Int)) = ((y - p : Nat) : Int) := by simp only [wrap64]; omega
theorem wrap_pow {q p : Nat} (hp : 2 ^ q = p) (h : p ≤ 128) : wrap64 ((2 : Int) ^ q) = (p : Int) := by
  rw [show ((2 : Int) ^ q) = ((2 ^ q : Nat) : Int) from by simp, hp]
  clear hp
  simp only [wrap64]
  omega
theorem bstr_cut (l : List UInt8) (z : Nat) (h : z ≤ l.length) : (bstr l).extract 1 z = bstr ((l.take z).drop 1) := by
  unfold bstr
  rw [ByteArray.extract_mk]
  congr 2
  rw [List.drop_take]
theorem one_byte (w : World) (y : Nat) (h : y < 256) : BytesAt (w.alloc (.cells #[.int .u8 (y : Int)] 5)) (some ⟨w.heap.size, 0, none⟩) 1 1 [UInt8.ofNat y] := by
  refine ⟨rfl, Nat.le_refl _, by omega, fun _ => ⟨w.heap.size, 0, rfl, fun k hk => ?_⟩⟩
  obtain rfl : k = 0 := by omega
  rw [Nat.add_zero, Lib.cell_of_heap (heap_alloc_new w _)]
  have : (UInt8.ofNat y).toNat = y := by simp [UInt8.toNat_ofNat']; omega
  simp [byteI, this]
theorem mod_half (x q : Nat) : x % 2 ^ q = if 2 ^ q ≤ x % 2 ^ (q + 1) then x % 2 ^ (q + 1) - 2 ^ q else x % 2 ^ (q + 1) := by
  have h2 : x % 2 ^ q = (x % 2 ^ (q + 1)) % 2 ^ q := by rw [Nat.pow_succ, Nat.mod_mul_right_mod]
  have h1 : x % 2 ^ (q + 1) < 2 ^ q * 2 := Nat.lt_of_lt_of_eq (Nat.mod_lt x (Nat.two_pow_pos (q + 1))) (Nat.pow_succ 2 q)
  rw [h2]
  obtain ⟨y, hy⟩ : ∃ y, x % 2 ^ (q + 1) = y := ⟨_, rfl⟩
  rw [hy] at h1 ⊢
  obtain ⟨p, hp⟩ : ∃ p, 2 ^ q = p := ⟨_, rfl⟩
  rw [hp] at h1 ⊢
  clear h2 hy hp
  split
  · rename_i h3
    rw [Nat.mod_eq_sub_mod h3, Nat.mod_eq_of_lt (by omega)]
  · rename_i h3
    exact Nat.mod_eq_of_lt (by omega)
set_option maxRecDepth 100000 in
set_option maxHeartbeats 4000000 in
theorem r06_attempt (s : ByteArray) (k a b : Nat) (hs : s.size ≤ 1000000) (hk : k < 2147483648) (ha : a < 256) (hb0 : 0 < b) (hb : b ≤ 256) (w : World) :
    Calls Tryz.prog 147 #[.string s, .int .i64 k, .int .i64 a, .int .i64 b] w (Ret (.string (nS (attN s.data.toList k a b))) w) := by
  have HI1 := Lib.hid (r06_Decimal k (by omega))
  have HI2 := Lib.hid (r06_Decimal a (by omega))
  have HI3 := Lib.hid (show ∀ w, Calls Tryz.prog 195 #[.int .i64 0] w (Ret (.string (bstr (Lib.decDigits 0))) w) from r06_Decimal 0 (by omega))
  have l1 := dec_short k hk
  have l2 := dec_short a (by omega)
  have l3 := dec_short 0 (by omega)
  have a1 := add_bstr (Lib.decDigits k) [46] (by simp; omega) Tryz.prog
  have a2 := add_bstr (Lib.decDigits k ++ [46]) (Lib.decDigits a) (by simp; omega) Tryz.prog
  have a3 := add_bstr (Lib.decDigits k ++ [46] ++ Lib.decDigits a) [46] (by simp; omega) Tryz.prog
  have a4 := add_bstr (Lib.decDigits k ++ [46] ++ Lib.decDigits a ++ [46]) (Lib.decDigits 0) (by simp; omega) Tryz.prog
  have HM := Lib.hid (r05_Mac s (bstr (nmL k a 0)) hs (by rw [bstr_size]; unfold nmL; simp; omega))
  rw [bstr_data] at HM
  rw [show Lib.decDigits k ++ [46] ++ Lib.decDigits a ++ [46] ++ Lib.decDigits 0 = nmL k a 0 from rfl] at a4
  rw [show bstr [46] = ⟨#[46]⟩ from rfl] at a1 a3
  obtain ⟨ml, hml⟩ : ∃ l, macL s.data.toList (nmL k a 0) = l := ⟨_, rfl⟩
  have hll : ml.length = 32 := by rw [← hml]; exact macL_length _ _
  have HRES := Lib.hid (show attN s.data.toList k a b = bnat (ml.take ((b + 7) / 8)) % 2 ^ b from by unfold attN; rw [hml])
  have a5 := add_bstr [] ml (by simp; omega) Tryz.prog
  rw [show bstr [] = ⟨#[]⟩ from rfl, List.nil_append] at a5
  rw [hml] at HM
  rw [HRES.out]
  obtain ⟨d1, hd1⟩ : ∃ z, bstr (Lib.decDigits k) = z := ⟨_, rfl⟩
  obtain ⟨d2, hd2⟩ : ∃ z, bstr (Lib.decDigits a) = z := ⟨_, rfl⟩
  obtain ⟨d3, hd3⟩ : ∃ z, bstr (Lib.decDigits 0) = z := ⟨_, rfl⟩
  obtain ⟨e1, he1⟩ : ∃ z, bstr (Lib.decDigits k ++ [46]) = z := ⟨_, rfl⟩
  obtain ⟨e2, he2⟩ : ∃ z, bstr (Lib.decDigits k ++ [46] ++ Lib.decDigits a) = z := ⟨_, rfl⟩
  obtain ⟨e3, he3⟩ : ∃ z, bstr (Lib.decDigits k ++ [46] ++ Lib.decDigits a ++ [46]) = z := ⟨_, rfl⟩
  obtain ⟨e4, he4⟩ : ∃ z, bstr (nmL k a 0) = z := ⟨_, rfl⟩
  obtain ⟨mb, hmb⟩ : ∃ z, bstr ml = z := ⟨_, rfl⟩
  rw [hd1] at HI1 a1
  rw [hd2] at HI2 a2
  rw [hd3] at HI3 a4
  rw [he1] at a1 a2
  rw [he2] at a2 a3
  rw [he3] at a3 a4
  rw [he4] at a4 HM
  rw [hmb] at HM a5
  have HLL := Lib.hid hll
  have HMB := Lib.hid hmb
  have hbi : (b : Int) ≤ 256 := by omega
  have hms : mb.size = 32 := by rw [← hmb, bstr_size, hll]
  obtain ⟨z, hz⟩ : ∃ z, (b + 7) / 8 = z := ⟨_, rfl⟩
  have hzi : ((b : Int) + 7) / 8 = (z : Int) := by omega
  have hz1 : 0 < z := by omega
  have hz32 : z ≤ 32 := by omega
  have HZ := Lib.hid hz
  clear l1 l2 l3 hd1 hd2 hd3 he1 he2 he3 he4 hmb hml hll hz hs ha
  go_enter Tryz.func147, Tryz.ntmps147
  go_wp2
  try rw [hzi]
  clear hzi
  have HHZ := Lib.hid (show 0 < z ∧ z ≤ 32 from ⟨hz1, hz32⟩)
  have HA := Lib.hid (And.intro a1 (And.intro a2 (And.intro a3 (And.intro a4 a5))))
  clear a1 a2 a3 a4 a5
  go_loopw [10, 11] (fun v u wr => ((v = .string ⟨#[]⟩ ∧ u = .int .i64 0) ∨ (v = .string mb ∧ u = .int .i64 1)) ∧ Below w.heap.size w wr) (fun v _ _ => match v with | .string x => 40 - x.size | _ => 0)
  case atStart => exact ⟨.inl ⟨rfl, rfl⟩, Below.refl _ _⟩
  case round =>
    obtain ⟨hv, hb⟩ := hrel
    have HB := Lib.hid hb
    clear hb
    rcases hv with ⟨rfl, rfl⟩ | ⟨rfl, rfl⟩
    · have hzz : (0 : Int) < (z : Int) := by omega
      obtain ⟨a1, a2, a3, a4, a5⟩ := HA.out
      go_wp2_with fail
      refine (HI1.out _).mono ?_
      rintro ev w1 ⟨rfl, hb⟩
      have HB1 := Lib.hid (HB.out.trans (hb.mono HB.out.size))
      clear hb
      go_wp2_with fail
      refine (HI2.out _).mono ?_
      rintro ev w2 ⟨rfl, hb⟩
      have HB2 := Lib.hid (HB1.out.trans (hb.mono HB1.out.size))
      clear hb
      go_wp2_with fail
      refine (HI3.out _).mono ?_
      rintro ev w3 ⟨rfl, hb⟩
      have HB3 := Lib.hid (HB2.out.trans (hb.mono HB2.out.size))
      clear hb
      go_wp2_with fail
      refine (HM.out _).mono ?_
      rintro ev w4 ⟨rfl, hb⟩
      have HB4 := Lib.hid (HB3.out.trans (hb.mono HB3.out.size))
      clear hb
      go_wp2
      refine ⟨⟨.inr ⟨rfl, rfl⟩, HB4.out⟩, ?_⟩
      show 40 - mb.size < 40 - 0
      omega
    · have hzz : ¬ ((32 : Int) < (z : Int)) := by omega
      have hzn : ¬ (32 < z) := by omega
      have h0m : 0 < mb.size := by omega
      obtain ⟨x, hx⟩ : ∃ x : Nat, (ml.getD 0 0).toNat = x := ⟨_, rfl⟩
      have hx0 : (mb[0]'h0m).toNat = x := by rw [← hx, ← data_getD mb 0 h0m, ← HMB.out, bstr_data]
      have hx255 : x < 256 := by rw [← hx]; exact (ml.getD 0 0).toNat_lt
      have HXX := Lib.hid hx
      obtain ⟨sh, hsh⟩ : ∃ sh, 8 * z - b = sh := ⟨_, rfl⟩
      have hshi : 8 - (8 * (z : Int) - (b : Int)) = ((8 - sh : Nat) : Int) := by have := HZ.out; omega
      have hsh8 : sh < 8 := by have := HZ.out; omega
      obtain ⟨t, ht⟩ : ∃ t, 8 - sh = t := ⟨_, rfl⟩
      rw [ht] at hshi
      have HSH := Lib.hid (show 8 * z - b = sh ∧ 8 - sh = t ∧ x < 256 from ⟨hsh, ht, hx255⟩)
      have ht1 : 1 ≤ t := by omega
      have ht8 : t ≤ 8 := by omega
      clear hx hsh hsh8 ht
      go_wp2
      clear hx0
      go_loopw [12, 13] (fun v u wr => ∃ K : Nat, t ≤ K ∧ K ≤ 8 ∧ u = .int .i64 ((K : Int) - 1) ∧ v = .int .i64 ((x % 2 ^ K : Nat) : Int) ∧ Below w.heap.size w wr) (fun _ u _ => (RowKit.intOf u + 1).toNat)
      case atStart => exact ⟨8, ht8, by omega, rfl, by rw [Nat.mod_eq_of_lt (show x < 2 ^ 8 from HSH.out.2.2)], HB.out⟩
      case round =>
        obtain ⟨K, hK1, hK2, rfl, rfl, hb2⟩ := hrel
        have HB2 := Lib.hid hb2
        clear hb2
        obtain ⟨y, hy⟩ : ∃ y, x % 2 ^ K = y := ⟨_, rfl⟩
        rw [hy]
        by_cases hlt : t < K
        · obtain ⟨q, rfl⟩ : ∃ q, K = q + 1 := ⟨K - 1, by omega⟩
          rw [show (((q + 1 : Nat) : Int) - 1) = (q : Int) from by omega]
          have hq0 : (0 : Int) ≤ (q : Int) := by omega
          have hq7 : (q : Int) < 8 := by omega
          have hqt : (t : Int) ≤ (q : Int) := by omega
          obtain ⟨p, hp⟩ : ∃ p, 2 ^ q = p := ⟨_, rfl⟩
          have hp128 : p ≤ 128 := by
            rw [← hp]
            exact Nat.le_trans (Nat.pow_le_pow_right (by omega) (show q ≤ 7 by omega)) (by decide)
          have hw1 : wrap64 ((2 : Int) ^ q) = (p : Int) := wrap_pow hp hp128
          have hy2 : x % 2 ^ q = if p ≤ y then y - p else y := by rw [← hy, ← hp]; exact mod_half x q
          have HY2 := Lib.hid hy2
          have HQ := Lib.hid (show t ≤ q ∧ q + 1 ≤ 8 from ⟨by omega, hK2⟩)
          have hy256 : y < 256 := by rw [← hy]; exact Nat.lt_of_le_of_lt (Nat.mod_le _ _) HSH.out.2.2
          by_cases hpy : p ≤ y
          · have hpyi : (p : Int) ≤ (y : Int) := Int.ofNat_le.2 hpy
            have hw2 : wrap64 ((y : Int) - (p : Int)) = ((y - p : Nat) : Int) := wrap_subN hpy hy256
            rw [if_pos hpy] at HY2
            have HCA := Lib.hid (Int.ofNat_sub hpy)
            clear hy2 hp hy hK1 hK2 hlt hpy
            go_wp2
            refine ⟨⟨q, HQ.out.1, Nat.le_trans (Nat.le_succ q) HQ.out.2, rfl, by rw [HY2.out, HCA.out], HB2.out⟩, ?_⟩
            simp [RowKit.intOf]
          · have hpyi : ¬ ((p : Int) ≤ (y : Int)) := fun h => hpy (Int.ofNat_le.1 h)
            rw [if_neg hpy] at HY2
            clear hy2 hp hy hK1 hK2 hlt hpy
            go_wp2
            refine ⟨⟨q, HQ.out.1, Nat.le_trans (Nat.le_succ q) HQ.out.2, rfl, by rw [HY2.out], HB2.out⟩, ?_⟩
            simp [RowKit.intOf]
        · obtain rfl : K = t := by omega
          have hlti : ¬ ((K : Int) ≤ (K : Int) - 1) := by omega
          have HVAL := Lib.hid (attempt_val HLL.out HZ.out hb0 hb HXX.out HSH.out.1 (show x % 2 ^ (8 - sh) = y from by rw [HSH.out.2.1]; exact hy))
          have hy256 : y < 256 := by rw [← hy]; exact Nat.lt_of_le_of_lt (Nat.mod_le _ _) HSH.out.2.2
          have hyw : (y : Int) % 256 = (y : Int) := Int.emod_eq_of_lt (Int.natCast_nonneg y) (by exact_mod_cast hy256)
          have hex : mb.extract 1 z = bstr ((ml.take z).drop 1) := by rw [← HMB.out]; exact bstr_cut ml z (by rw [HLL.out]; exact HHZ.out.2)
          have a6 := add_bstr [UInt8.ofNat y] ((ml.take z).drop 1) (by rw [List.length_drop, List.length_take, HLL.out]; simp; exact Nat.le_trans (Nat.add_le_add_left (Nat.le_trans (Nat.sub_le _ _) (Nat.min_le_right _ _)) 1) (by decide)) Tryz.prog
          rw [List.singleton_append] at a6
          have HCN := Lib.hid (r06_canonical (UInt8.ofNat y :: (ml.take z).drop 1) (by rw [List.length_cons, List.length_drop, List.length_take, HLL.out]; exact Nat.le_trans (Nat.succ_le_succ (Nat.le_trans (Nat.sub_le _ _) (Nat.min_le_right _ _))) (by decide)))
          have HFIN := Lib.hid (show bstr (trimZ (UInt8.ofNat y :: (ml.take z).drop 1)) = nS (bnat (ml.take ((b + 7) / 8)) % 2 ^ b) from by rw [trimZ_eq, HVAL.out]; rfl)
          obtain ⟨L, hL⟩ : ∃ L, UInt8.ofNat y :: (ml.take z).drop 1 = L := ⟨_, rfl⟩
          rw [hL] at a6 HCN HFIN
          obtain ⟨m2, hm2⟩ : ∃ m, bstr ((ml.take z).drop 1) = m := ⟨_, rfl⟩
          rw [hm2] at hex a6
          obtain ⟨r, hr⟩ : ∃ r, bstr (trimZ L) = r := ⟨_, rfl⟩
          rw [hr] at HCN HFIN
          obtain ⟨lb, hlb⟩ : ∃ m, bstr L = m := ⟨_, rfl⟩
          rw [hlb] at a6 HCN
          obtain ⟨yb, hyb⟩ : ∃ m, bstr [UInt8.ofNat y] = m := ⟨_, rfl⟩
          rw [hyb] at a6
          have HYB := Lib.hid hyb
          have HY6 := Lib.hid hy256
          have hz1i : (1 : Int) ≤ (z : Int) := Int.ofNat_le.2 HHZ.out.1
          clear hy hL hm2 hr hlb hyb HVAL hlt hy256
          have hlti : ¬ ((K : Int) ≤ (K : Int) - 1) := fun h => by have := Int.sub_one_lt_iff.2 (Int.le_refl (K : Int)); exact absurd (Int.lt_of_lt_of_le this (Int.le_refl _)) (Int.not_lt.2 h)
          go_wp2
          obtain ⟨wd, hwd⟩ : ∃ wd, wr.drew = wd := ⟨_, rfl⟩
          have HBD := Lib.hid (show Below w.heap.size w wd from hwd ▸ HB2.out.drew)
          refine wp_region_K 10 (Below (wd).heap.size (wd)) (by kernel_rfl) ?_
          intro hD
          rw [hwd]
          refine rP 0 59 9 rfl hD (Below.refl _ _) ?_; clear hD; intro hD; simp only [Act.put, sqA, sqB, sqC]
          refine rP 1 60 8 rfl hD (Below.refl _ _) ?_; clear hD; intro hD; simp only [Act.put, sqA, sqB, sqC]
          refine rP 4 63 7 rfl hD (Below.refl _ _) ?_; clear hD; intro hD; simp only [Act.put, sqA, sqB, sqC]
          refine rP 5 64 6 rfl hD (Below.refl _ _) ?_; clear hD; intro hD; simp only [Act.put, sqA, sqB, sqC]
          refine rP 6 65 5 rfl hD (Below.refl _ _) ?_; clear hD; intro hD; simp only [Act.put, sqA, sqB, sqC]
          refine rO 2 4 rfl hD ?_; clear hD; intro K2 hK2
          go_wp2
          refine hK2 _ _ (by exact (Below.refl _ _).alloc (Nat.le_refl _) _) ?_; clear hK2; intro hS_13_2 hD
          refine rO 3 3 rfl hD ?_; clear hD; intro K3 hK3
          have hby := one_byte wd y HY6.out
          have hconv := hby.conv 125 9 5 Tryz.underlying125 Tryz.underlying5 Tryz.underlying9
          rw [HYB.out] at hconv
          clear hby
          go_wp2
          refine hK3 _ _ (by exact hS_13_2) ?_; clear hK3; intro hS_13_3 hD
          refine rP 7 66 2 rfl hD hS_13_3 ?_; clear hD; intro hD; simp only [Act.put, sqA, sqB, sqC]
          refine rO 8 1 rfl hD ?_; clear hD; intro K8 hK8
          go_wp2_with fail
          refine (HCN.out _).mono ?_
          rintro ev w5 ⟨rfl, rfl⟩
          go_wp2
          refine hK8 _ _ (by exact hS_13_3) ?_; clear hK8; intro hS_13_8 hD
          refine rO 9 0 rfl hD ?_; clear hD; intro K9 hK9
          go_wp2
          refine hK9 _ _ (by exact hS_13_8) ?_; clear hK9; intro hS_13_9 hD
          have HL := Lib.hid hS_13_9
          refine wpAnyK_done (by kernel_rfl) ?_ 0
          clear hD
          go_wp2
          go_ret
          exact ⟨by show Ending.returned (.string r) = _; rw [HFIN.out], HBD.out.trans (HL.out.mono HBD.out.size)⟩
end Go.Proofs.YtndmjfkmnjejkaaGreatDoor
/- A slice of numbers appended to an owned one. -/
set_option linter.unusedVariables false
set_option linter.unusedSimpArgs false
namespace Go.Proofs.YtndmjfkmnjejkaaGreatDoor
open Go.RowKit
theorem wpList_append_none {P : Program} (w : World) {ops : Array Oper} {rest : List Oper} {o : Oper} {a : Act} {Q : Exit → Act → World → Prop} (hg : o.guard = none) (s x : Operand) (t : TypeId) (hop : o.op = Op.call { callee := Callee.builtin Builtin.append, args := #[s, x], argTypes := #[t, t] })
    (e : TypeId) (i : TypeInfo) (h1 : P.underlying t = some (.slice e)) (h2 : P.info? e = some i) (ao : Option Addr) (n cap : Nat) (hs : a.eval s = .slice ao n cap) (hle : n ≤ cap) (m : Nat) (hx : a.eval x = .slice none 0 m)
    (hK : wpList P ops Q rest (a.put o.dst (.slice ao n cap)) w) : wpList P ops Q (o :: rest) a w := by
  refine wpList_plain hg fun K hK' => ?_
  have hrun : (Builtin.append_ #[t, t] o.type #[.slice ao n cap, .slice none 0 m]).run P w = .ok (.slice ao n cap) w := by
    cases ao <;> simp [Builtin.append_, run_underlying h1, sizeOf, typeInfo, h2, hle, storeCells, go_sem]
  unfold Oper.wp
  simp [execOp, hop, resolve, invoke, builtin, hs, hx, hrun, Result.andThen]
  exact hK' _ _ hK
theorem wpList_append_sl (w0 w : World) {ops : Array Oper} {rest : List Oper} {o : Oper} {a : Act} {Q : Exit → Act → World → Prop} (hg : o.guard = none) (s x : Operand) (hop : o.op = Op.call { callee := Callee.builtin Builtin.append, args := #[s, x], argTypes := #[29, 29] })
    (base : Nat) (v : Value) (n : Nat) (xs : List ByteArray) (hs : a.eval s = v) (hown : w.ownsRow base 22 1 v n (xs.map Value.string)) (A : Option Addr) (m c : Nat) (l : List ByteArray) (hx : a.eval x = .slice A m c) (hsl : SlN w A m c l) (hn : n + m ≤ 4000000) (hb : Below base w0 w) (hbase : base ≤ w.heap.size)
    (hK : ∀ v' w', w'.ownsRow base 22 1 v' (n + m) ((xs ++ l).map Value.string) → Below base w0 w' → base ≤ w'.heap.size → wpList Tryz.prog ops Q rest (a.put o.dst v') w') : wpList Tryz.prog ops Q (o :: rest) a w := by
  obtain ⟨i0, hi, iz0, iz1, iz2⟩ := info_parts nat_info
  cases A with
  | none =>
    have h0 : m = 0 := by
      rcases Nat.eq_zero_or_pos m with h | h
      · exact h
      · obtain ⟨b, o, e⟩ := hsl.head h; cases e
    have hl : l = [] := List.length_eq_zero_iff.1 (by rw [hsl.1, h0])
    subst h0 hl
    obtain ⟨A6, c6, hu6, hmc⟩ : ∃ A c, v = .slice A n c ∧ n ≤ c := by
      rcases hown.2 with ⟨h, h0⟩ | ⟨g, c, _, h, _, _, h2, _⟩
      · subst h0; exact ⟨_, _, h, Nat.le_refl _⟩
      · exact ⟨_, _, h, h2⟩
    refine wpList_append_none w hg s x 29 hop 22 i0 Tryz.underlying29 hi A6 n c6 (hs.trans hu6) hmc c hx ?_
    have := hK v w (by simpa using hown) hb hbase
    rwa [hu6] at this
  | some ad =>
    refine wpList_append_own w hg s x 29 hop base 22 i0 _ 1 16 Tryz.underlying29 hi iz0 iz1 iz2 rfl (by decide) v n _ hs hown ad m c (l.map Value.string) hx (by rw [List.length_map, hsl.1, Nat.mul_one]) hsl.cells (strs_one _) (by unfold maxLen; omega) (by omega) hbase ?_
    intro v' w' hown' hgrow _
    have hb' := hb.grown hgrow hbase (fun k hk => (hown.lt k hk).1)
    exact hK v' w' (by rw [List.map_append]; exact hown') hb' (Nat.le_trans hbase hgrow.size)
end Go.Proofs.YtndmjfkmnjejkaaGreatDoor

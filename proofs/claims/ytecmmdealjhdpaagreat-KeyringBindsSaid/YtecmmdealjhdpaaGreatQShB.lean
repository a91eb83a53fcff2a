/- Walks: Sub, Add, DivMod at numbers below 2^64 (natural, dominoref01). -/
import Derived.Test.YtecmmdealjhdpaaGreatQNaD
import Derived.Test.YtecmmdealjhdpaaGreatQGst
import Derived.Test.YtecmmdealjhdpaaGreatQTrB
import Derived.Test.YtecmmdealjhdpaaGreatQNatB
set_option linter.unusedVariables false
set_option linter.unusedSimpArgs false
namespace Go.Proofs.YtecmmdealjhdpaaGreat
open Go.RowKit
theorem cmpI_nonneg {x y : Nat} (h : y ≤ x) : 0 ≤ cmpI x y := by
  unfold cmpI
  rw [if_neg (by omega)]
  split <;> omega
set_option maxRecDepth 100000 in
theorem nat_Sub_less (x y : Nat) (hx : x < 256 ^ 128) (hy : y < 256 ^ 128) (h : x < y) (w : World) : Calls Tryz.prog 60 #[.string (nS x), .string (nS y)] w (RetQ (.tuple #[.string ⟨#[]⟩, .int .i64 2]) w) := by
  have hs1 := nS_size_le.2 hx
  have hs2 := nS_size_le.2 hy
  have HV1 := Lib.hid (nvalid_nS.2 hx)
  have HV2 := Lib.hid (nvalid_nS.2 hy)
  have HO := Lib.hid (ordB_nS x y)
  obtain ⟨s, hs⟩ : ∃ s, nS x = s := ⟨_, rfl⟩
  obtain ⟨t, ht⟩ : ∃ t, nS y = t := ⟨_, rfl⟩
  rw [hs] at hs1 HV1 HO ⊢
  rw [ht] at hs2 HV2 HO ⊢
  have HS := Lib.hid hs
  have HT := Lib.hid ht
  have HX := Lib.hid hx
  have HY := Lib.hid hy
  clear hs ht hx hy
  go_enter Tryz.func60, Tryz.ntmps60
  go_wp2_with fail
  refine (nat_Valid s (by omega) _).mono ?_
  rintro e w1 ⟨rfl, rfl⟩
  rw [HV1.out]
  go_wp2_with fail
  refine (nat_Valid t (by omega) _).mono ?_
  rintro e w1 ⟨rfl, rfl⟩
  rw [HV2.out]
  go_wp2_with fail
  refine (nat_compare s t (by omega) (by omega) _).mono ?_
  rintro e w1 ⟨rfl, rfl⟩
  rw [HO.out, cmpI_lt h]
  go_wp2
  go_ret2
  exact ⟨rfl, rfl⟩
set_option maxRecDepth 100000 in
theorem nat_Sub_ge (x y : Nat) (hx : x < 256 ^ 128) (hy : y < 256 ^ 128) (h : y ≤ x) (w : World) : Calls Tryz.prog 60 #[.string (nS x), .string (nS y)] w (Ret (.tuple #[.string (nS (x - y)), .int .i64 0]) w) := by
  have HG := Lib.hid (cmpI_nonneg h)
  have hs1 := nS_size_le.2 hx
  have hs2 := nS_size_le.2 hy
  have HV1 := Lib.hid (nvalid_nS.2 hx)
  have HV2 := Lib.hid (nvalid_nS.2 hy)
  have HO := Lib.hid (ordB_nS x y)
  obtain ⟨s, hs⟩ : ∃ s, nS x = s := ⟨_, rfl⟩
  obtain ⟨t, ht⟩ : ∃ t, nS y = t := ⟨_, rfl⟩
  rw [hs] at hs1 HV1 HO ⊢
  rw [ht] at hs2 HV2 HO ⊢
  have HS := Lib.hid hs
  have HT := Lib.hid ht
  have HX := Lib.hid hx
  have HY := Lib.hid hy
  clear hs ht hx hy
  go_enter Tryz.func60, Tryz.ntmps60
  go_wp2_with fail
  refine (nat_Valid s (by omega) _).mono ?_
  rintro e w1 ⟨rfl, rfl⟩
  rw [HV1.out]
  go_wp2_with fail
  refine (nat_Valid t (by omega) _).mono ?_
  rintro e w1 ⟨rfl, rfl⟩
  rw [HV2.out]
  go_wp2_with fail
  refine (nat_compare s t (by omega) (by omega) _).mono ?_
  rintro e w1 ⟨rfl, rfl⟩
  rw [HO.out]
  have hg := HG.out
  obtain ⟨c, hc⟩ : ∃ c, cmpI x y = c := ⟨_, rfl⟩
  rw [hc] at hg ⊢
  clear hc HG
  go_wp2_with fail
  rw [← HS.out, ← HT.out]
  refine (nat_less x y (by rw [HS.out]; omega) h _).mono ?_
  rintro e w1 ⟨rfl, hb⟩
  have HB := Lib.hid hb
  clear hb
  go_wp2
  go_ret2
  exact ⟨rfl, HB.out⟩
/-! Division at numbers below 2^64. -/
set_option maxRecDepth 100000 in
set_option maxHeartbeats 1000000 in
theorem nat_divided_lt (x y : Nat) (hx : x < 256 ^ 128) (hy : y < 256 ^ 128) (h : x < y) (w : World) : Calls Tryz.prog 77 #[.string (nS x), .string (nS y)] w (RetQ (.tuple #[.string (nS (x / y)), .string (nS (x % y))]) w) := by
  rw [Nat.div_eq_of_lt h, Nat.mod_eq_of_lt h, nS_zero]
  have hs1 := nS_size_le.2 hx
  have hs2 := nS_size_le.2 hy
  have HV1 := Lib.hid (nvalid_nS.2 hx)
  have HV2 := Lib.hid (nvalid_nS.2 hy)
  have HO := Lib.hid (ordB_nS x y)
  obtain ⟨s, hs⟩ : ∃ s, nS x = s := ⟨_, rfl⟩
  obtain ⟨t, ht⟩ : ∃ t, nS y = t := ⟨_, rfl⟩
  rw [hs] at hs1 HV1 HO ⊢
  rw [ht] at hs2 HV2 HO ⊢
  have HS := Lib.hid hs
  have HT := Lib.hid ht
  have HX := Lib.hid hx
  have HY := Lib.hid hy
  clear hs ht hx hy
  go_enter Tryz.func77, Tryz.ntmps77
  go_wp2_with fail
  refine (nat_compare s t (by omega) (by omega) _).mono ?_
  rintro e w1 ⟨rfl, rfl⟩
  rw [HO.out, cmpI_lt h]
  go_wp2
  go_ret2
  exact ⟨rfl, rfl⟩
set_option maxRecDepth 100000 in
set_option maxHeartbeats 1000000 in
theorem nat_divided_ge (x y : Nat) (hx8 : x < 18446744073709551616) (h : y ≤ x) (h0 : 0 < y) (w : World) : Calls Tryz.prog 77 #[.string (nS x), .string (nS y)] w (Ret (.tuple #[.string (nS (x / y)), .string (nS (x % y))]) w) := by
  have hy8 : y < 18446744073709551616 := by omega
  have HX8 := Lib.hid hx8
  have HY8 := Lib.hid hy8
  have hz1 := nS_small_size hx8
  have hz2 := nS_small_size hy8
  have hq8 : x / y < 18446744073709551616 := Nat.lt_of_le_of_lt (Nat.div_le_self x y) hx8
  have hr8 : x % y < 18446744073709551616 := Nat.lt_trans (Nat.mod_lt x h0) hy8
  have HQ8 := Lib.hid hq8
  have HR8 := Lib.hid hr8
  have HG := Lib.hid (cmpI_nonneg h)
  have HO := Lib.hid (ordB_nS x y)
  have HN1 := Lib.hid (nat_Small_n x hx8)
  have HN2 := Lib.hid (nat_Small_n y hy8)
  obtain ⟨s, hs⟩ : ∃ s, nS x = s := ⟨_, rfl⟩
  obtain ⟨t, ht⟩ : ∃ t, nS y = t := ⟨_, rfl⟩
  rw [hs] at hz1 HO HN1 ⊢
  rw [ht] at hz2 HO HN2 ⊢
  clear hs ht hq8 hr8 hx8 hy8
  have hy1 : ((y : Int) == 0) = false := beq_eq_false_iff_ne.2 (by omega)
  have hy2 : (0 : Int) < (y : Int) := by omega
  have hy3 : ¬ (y = 0) := by omega
  have hwq : IntKind.u64.wrap ((x : Int) / (y : Int)) = (x : Int) / (y : Int) := u64_wrap (x / y) HQ8.out
  have hwr : IntKind.u64.wrap ((x : Int) % (y : Int)) = (x : Int) % (y : Int) := u64_wrap (x % y) HR8.out
  have hsz : ¬ (8 < (s.size : Int)) := by omega
  go_enter Tryz.func77, Tryz.ntmps77
  go_wp2_with fail
  refine (nat_compare s t (by omega) (by omega) _).mono ?_
  rintro e w1 ⟨rfl, rfl⟩
  rw [HO.out]
  have hg := HG.out
  obtain ⟨c, hc⟩ : ∃ c, cmpI x y = c := ⟨_, rfl⟩
  rw [hc] at hg ⊢
  clear hc HG
  go_wp2_with fail
  refine (HN1.out _).mono ?_
  rintro e w1 ⟨rfl, rfl⟩
  go_wp2_with fail
  refine (HN2.out _).mono ?_
  rintro e w1 ⟨rfl, rfl⟩
  go_wp2
  refine wp_region_K 10 (Below (w.drew).heap.size (w.drew)) (by kernel_rfl) ?_
  intro hD
  refine wpAnyK_pure (i := 0) (v := ?v6_0b1) (fuel := 9) rfl (by kernel_rfl) (fun _ _ _ h => h) hD (Below.refl _ _) (.inl ⟨by kernel_rfl, ?y6_0b1⟩) ?n6_0b1
  case y6_0b1 => intro w' _; go_simp; with_reducible rfl
  clear hD; intro hD
  simp only [Act.put, sqA, sqB, sqC]
  refine wpAnyK_pure (i := 1) (v := ?v6_1b1) (fuel := 8) rfl (by kernel_rfl) (fun _ _ _ h => h) hD (Below.refl _ _) (.inl ⟨by kernel_rfl, ?y6_1b1⟩) ?n6_1b1
  case y6_1b1 => intro w' _; go_simp; with_reducible rfl
  clear hD; intro hD
  simp only [Act.put, sqA, sqB, sqC]
  refine wpAnyK_pure (i := 2) (v := ?v6_2b1) (fuel := 7) rfl (by kernel_rfl) (fun _ _ _ h => h) hD (Below.refl _ _) (.inl ⟨by kernel_rfl, ?y6_2b1⟩) ?n6_2b1
  case y6_2b1 => intro w' _; go_simp; with_reducible rfl
  clear hD; intro hD
  simp only [Act.put, sqA, sqB, sqC]
  refine wpAnyK_pure (i := 4) (v := ?v6_4b1) (fuel := 6) rfl (by kernel_rfl) (fun _ _ _ h => h) hD (Below.refl _ _) (.inl ⟨by kernel_rfl, ?y6_4b1⟩) ?n6_4b1
  case y6_4b1 => intro w' _; go_simp; with_reducible rfl
  clear hD; intro hD
  simp only [Act.put, sqA, sqB, sqC]
  refine wpAnyK_pure (i := 5) (v := ?v6_5b1) (fuel := 5) rfl (by kernel_rfl) (fun _ _ _ h => h) hD (Below.refl _ _) (.inl ⟨by kernel_rfl, ?y6_5b1⟩) ?n6_5b1
  case y6_5b1 => intro w' _; go_simp; with_reducible rfl
  clear hD; intro hD
  simp only [Act.put, sqA, sqB, sqC]
  refine wpAnyK_pure (i := 6) (v := ?v6_6b1) (fuel := 4) rfl (by kernel_rfl) (fun _ _ _ h => h) hD (Below.refl _ _) (.inl ⟨by kernel_rfl, ?y6_6b1⟩) ?n6_6b1
  case y6_6b1 => intro w' _; go_simp; with_reducible rfl
  clear hD; intro hD
  simp only [Act.put, sqA, sqB, sqC]
  refine wpAnyK_one (i := 3) (fuel := 3) (by kernel_rfl) rfl hD ?_; clear hD; intro K3 hK3
  go_wp2_with fail
  refine (nat_Of (x / y) HQ8.out _).mono ?_
  rintro e w3 ⟨rfl, hb3⟩
  have HB3 := Lib.hid hb3
  clear hb3
  go_wp2
  refine hK3 _ _ (by exact HB3.out) ?_; clear hK3; intro hS_6_3 hD
  refine wpAnyK_one (i := 7) (fuel := 2) (by kernel_rfl) rfl hD ?_; clear hD; intro K7 hK7
  go_wp2_with fail
  refine (nat_Of (x % y) HR8.out _).mono ?_
  rintro e w7 ⟨rfl, hb7⟩
  have HB7 := Lib.hid hb7
  clear hb7
  go_wp2
  refine hK7 _ _ (by exact Below.trans hS_6_3 (Below.mono HB7.out (Below.size hS_6_3))) ?_; clear hK7; intro hS_6_7 hD
  refine wpAnyK_one (i := 8) (fuel := 1) (by kernel_rfl) rfl hD ?_; clear hD; intro K8 hK8
  go_wp2
  refine hK8 _ _ (by exact hS_6_7) ?_; clear hK8; intro hS_6_8 hD
  refine wpAnyK_one (i := 9) (fuel := 0) (by kernel_rfl) rfl hD ?_; clear hD; intro K9 hK9
  go_wp2
  refine hK9 _ _ (by exact hS_6_8) ?_; clear hK9; intro hS_6_9 hD
  refine wpAnyK_done (by kernel_rfl) ?_ 0
  clear hD
  have HX := Lib.hid hS_6_9
  go_wp2
  go_ret2
  exact ⟨rfl, (Below.refl _ _).drew.trans HX.out⟩
theorem nat_divided (x y : Nat) (hx : x < 18446744073709551616) (hy : y < 256 ^ 128) (h0 : 0 < y) (w : World) : Calls Tryz.prog 77 #[.string (nS x), .string (nS y)] w (Ret (.tuple #[.string (nS (x / y)), .string (nS (x % y))]) w) := by
  rcases Nat.lt_or_ge x y with h | h
  · exact (nat_divided_lt x y (lt128_of_lt8 hx) hy h w).mono fun e w' ⟨h1, h2⟩ => ⟨h1, by rw [← h2]; exact Below.refl _ _⟩
  · exact nat_divided_ge x y hx h h0 w
theorem empty_nS {n : Nat} (h : 0 < n) : (nS n).toList.isEmpty = false := sempty_false (by have := nS_size_zero (n := n); omega)
set_option maxRecDepth 100000 in
theorem nat_DivMod (x y : Nat) (hx8 : x < 18446744073709551616) (hy : y < 256 ^ 128) (h0 : 0 < y) (w : World) : Calls Tryz.prog 61 #[.string (nS x), .string (nS y)] w (Ret (.tuple #[.string (nS (x / y)), .string (nS (x % y)), .int .i64 0]) w) := by
  have hx := lt128_of_lt8 hx8
  have HD := Lib.hid (nat_divided x y hx8 hy h0)
  have hem := empty_nS h0
  have hs1 := nS_size_le.2 hx
  have hs2 := nS_size_le.2 hy
  have HV1 := Lib.hid (nvalid_nS.2 hx)
  have HV2 := Lib.hid (nvalid_nS.2 hy)
  obtain ⟨s, hs⟩ : ∃ s, nS x = s := ⟨_, rfl⟩
  obtain ⟨t, ht⟩ : ∃ t, nS y = t := ⟨_, rfl⟩
  rw [hs] at hs1 HV1 HD ⊢
  rw [ht] at hs2 HV2 hem HD ⊢
  clear hs ht hx hy hx8
  go_enter Tryz.func61, Tryz.ntmps61
  go_wp2_with fail
  refine (nat_Valid s (by omega) _).mono ?_
  rintro e w1 ⟨rfl, rfl⟩
  rw [HV1.out]
  go_wp2_with fail
  refine (nat_Valid t (by omega) _).mono ?_
  rintro e w1 ⟨rfl, rfl⟩
  rw [HV2.out]
  go_wp2_with fail
  refine (HD.out _).mono ?_
  rintro e w1 ⟨rfl, hb⟩
  have HB := Lib.hid hb
  clear hb
  go_wp2
  go_ret3
  exact ⟨rfl, HB.out⟩
/-! The reference: numbers of any length, bit by bit; those below 2^64 at once. -/
end Go.Proofs.YtecmmdealjhdpaaGreat
/- Walk: dominoref01.Times in columns. -/
set_option linter.unusedVariables false
set_option linter.unusedSimpArgs false
namespace Go.Proofs.YtecmmdealjhdpaaGreat
open Go.RowKit
def zi (n : Nat) : Array Value := madeCells #[.int .i64 0] n
theorem zi_size (n : Nat) : (zi n).size = n := size_madeCells _ _
theorem int_info : (Tryz.prog.info? 3).map (fun i => (i.zero, i.size, i.bytes)) = some (some (.int .i64 0), 1, 8) := by kernel_rfl
theorem make_ints (n : Nat) (hn : n ≤ 1000000) (w : World) : (Instr.makeSlice 155 (.int .i64 n) (.int .i64 n)).run Tryz.prog w = .ok (.slice (some ⟨w.heap.size, 0, none⟩) n n) (w.alloc (.cells (zi n) 3)) := by
  obtain ⟨i0, hi, hz0, hz1, hz2⟩ := info_parts int_info
  have h := run_make (P := Tryz.prog) w 155 3 i0 (.int .i64 0) Tryz.underlying155 hi hz0 .i64 .i64 (n : Int) (n : Int) (by omega) (Int.le_refl _) (by rw [hz2]; omega) (by omega)
  rw [h, hz1, Int.toNat_natCast, Nat.mul_one]
  rfl
def cs (f : Nat → Nat) : Nat → Nat → Nat
  | 0, _ => 0
  | n + 1, i => f i + 256 * cs f n (i + 1)
end Go.Proofs.YtecmmdealjhdpaaGreat
/- Walk: a word rotated, by hash.turn and by the reference's right. -/
set_option linter.unusedVariables false
set_option linter.unusedSimpArgs false
namespace Go.Proofs.YtecmmdealjhdpaaGreat
open Go.RowKit
theorem run_shl {P : Program} (x : BitVec 32) (k : IntKind) (m : Nat) (hm : m ≤ 32) (w : World) : (Op.shift .shl .u32 (wi x) k (m : Int)).run P w = .ok (.int .u32 (wi (x <<< m))) w := by
  have e : min m 32 = m := by omega
  simp only [Op.shift, if_neg (show ¬ ((m : Int) < 0) by omega), Int.toNat_natCast, IntKind.bits, e, wi_shl]; rfl
theorem rot_all : ∀ n : Fin 32, n.val = 0 ∨ bits .and .u64 (IntKind.u64.wrap (-(n.val : Int))) 31 = ((32 - n.val : Nat) : Int) := by decide +kernel
theorem rot_and (n : Nat) (h0 : 0 < n) (h1 : n < 32) : bits .and .u64 (IntKind.u64.wrap (-(n : Int))) 31 = ((32 - n : Nat) : Int) := (rot_all ⟨n, h1⟩).resolve_left (by simp; omega)
theorem wi_div (x : BitVec 32) (n : Nat) : wi x / 2 ^ n = wi (x >>> n) := by rw [← wi_shr, Int.fdiv_eq_ediv_of_nonneg _ (Int.pow_nonneg (by decide))]
theorem rot_sub (n : Nat) (h0 : 0 < n) (h1 : n < 32) : IntKind.u64.wrap (32 - ((32 - n : Nat) : Int)) = n := by
  rw [IntKind.wrap_u64]; omega
set_option maxRecDepth 100000 in
theorem bits_rot (x : BitVec 32) (n : Nat) (h0 : 0 < n) (h1 : n < 32) (w : World) : Calls Tryz.prog 132 #[.int .u32 (wi x), .int .i64 (-(n : Int))] w (RetQ (.int .u32 (wi (rr x n))) w) := by
  have H1 : ∀ w, (Op.shift .shl .u32 (wi x) .u64 (bits .and .u64 (IntKind.u64.wrap (-(n : Int))) 31)).run Tryz.prog w = .ok (.int .u32 (wi (x <<< (32 - n)))) w := by
    intro w; rw [rot_and n h0 h1]; exact run_shl _ _ _ (by omega) _
  have H2 : wi x / 2 ^ min (IntKind.u64.wrap (32 - bits .and .u64 (IntKind.u64.wrap (-(n : Int))) 31)).toNat 32 = wi (x >>> n) := by
    rw [rot_and n h0 h1, rot_sub n h0 h1, Int.toNat_natCast, Nat.min_eq_left (by omega)]; exact wi_div _ _
  have H3 : bits .or .u32 (wi (x <<< (32 - n))) (wi (x >>> n)) = wi (rr x n) := by rw [wi_or, BitVec.or_comm]; rfl
  clear h0 h1
  go_enter Tryz.func132, Tryz.ntmps132
  go_wp2
  go_ret
  exact ⟨rfl, rfl⟩
set_option maxRecDepth 100000 in
theorem h_turn (x : BitVec 32) (n : Nat) (h0 : 0 < n) (h1 : n < 32) (w : World) : Calls Tryz.prog 121 #[.int .u32 (wi x), .int .i64 n] w (RetQ (.int .u32 (wi (rr x n))) w) := by
  go_enter Tryz.func121, Tryz.ntmps121
  go_wp2_with fail
  refine (bits_rot x n h0 h1 _).mono ?_
  rintro e w1 ⟨rfl, rfl⟩
  go_wp2
  go_ret
  exact ⟨rfl, rfl⟩
end Go.Proofs.YtecmmdealjhdpaaGreat

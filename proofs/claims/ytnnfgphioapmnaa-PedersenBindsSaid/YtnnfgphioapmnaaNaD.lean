/- Walks: sums and differences (natural.Add, less, Sub; dominoref01.Plus, Minus, Add, Sub). -/
import Derived.Test.YtnnfgphioapmnaaNaC
import Derived.Laws.MakeOwn
set_option linter.unusedVariables false
set_option linter.unusedSimpArgs false
namespace Go.Proofs.Ytnnfgphioapmnaa
open Go.RowKit

/-- n zero bytes. -/
def zb (n : Nat) : Array Value := madeCells #[.int .u8 0] n
theorem zb_size (n : Nat) : (zb n).size = n := size_madeCells _ _
theorem u8_info : (Try.prog.info? 5).map (fun i => (i.zero, i.size, i.bytes)) = some (some (.int .u8 0), 1, 1) := by kernel_rfl
theorem make_bytes (n : Nat) (hn : n ≤ 281474976710656) (w : World) : (Instr.makeSlice 74 (.int .i64 n) (.int .i64 n)).run Try.prog w = .ok (.slice (some ⟨w.heap.size, 0, none⟩) n n) (w.alloc (.cells (zb n) 5)) := by
  obtain ⟨i0, hi, hz0, hz1, hz2⟩ := info_parts u8_info
  have h := run_make (P := Try.prog) w 74 5 i0 (.int .u8 0) Try.underlying74 hi hz0 .i64 .i64 (n : Int) (n : Int) (by omega) (Int.le_refl _) (by rw [hz2]; omega) (by omega)
  rw [h, hz1, Int.toNat_natCast, Nat.mul_one]
  rfl

/-- The last i of n bytes are those of v. -/
def OutB (w : World) (B n i v : Nat) : Prop := ∃ cur : Array Value, w.heap[B]? = some (.cells cur 5 (0, 0)) ∧ cur.size = n ∧ ∀ j, j < i → cur[n - 1 - j]? = some (.int .u8 (dig v j))
theorem OutB.start {w : World} (n v : Nat) : OutB (w.alloc (.cells (zb n) 5)) w.heap.size n 0 v := ⟨_, heap_alloc_new _ _, zb_size n, fun j h => by omega⟩
theorem OutB.cell {w : World} {B n i v : Nat} (h : OutB w B n i v) {k : Nat} (hk : k < n) : ∃ u, w.cell? ⟨B, k, none⟩ = some u := by
  obtain ⟨cur, h1, h2, h3⟩ := h
  exact ⟨_, by rw [Lib.cell_of_heap h1]; exact Array.getElem?_eq_getElem (by omega)⟩
theorem OutB.free {w : World} {B n i v : Nat} (h : OutB w B n i v) (k : Nat) : w.frozen? ⟨B, k, none⟩ = false := by
  obtain ⟨cur, h1, h2, h3⟩ := h
  exact Lib.frozen_of_heap h1 k
theorem OutB.step {w : World} {B n i v k : Nat} (h : OutB w B n i v) (hk : k + 1 + i = n) : OutB (w.setCell ⟨B, k, none⟩ (.int .u8 (dig v i))) B n (i + 1) v := by
  obtain ⟨cur, h1, h2, h3⟩ := h
  refine ⟨_, block_setCell h1 _, by rw [Array.size_setIfInBounds, h2], fun j hj => ?_⟩
  rw [Array.getElem?_setIfInBounds]
  by_cases e : j = i
  · subst e
    rw [if_pos (by omega), if_pos (by omega)]
  · rw [if_neg (by omega)]
    exact h3 j (by omega)
theorem OutB.bytes {w : World} {B n v : Nat} (h : OutB w B n n v) (hn : n ≤ 9223372036854775807) : BytesAt w (some ⟨B, 0, none⟩) n n (beN n v) := by
  obtain ⟨cur, h1, h2, h3⟩ := h
  refine ⟨beN_length n v, Nat.le_refl _, hn, fun _ => ⟨B, 0, rfl, fun k hk => ?_⟩⟩
  rw [Nat.zero_add, Lib.cell_of_heap h1]
  have := h3 (n - 1 - k) (by omega)
  rw [show n - 1 - (n - 1 - k) = k from by omega] at this
  show cur[k]? = _
  rw [this]
  unfold byteI
  rw [List.getD_eq_getElem?_getD, beN_get n v k hk, Option.getD_some, ofNat_mod_toNat]
  rfl
theorem OutB.lt {w : World} {B n i v : Nat} (h : OutB w B n i v) : B < w.heap.size := by
  obtain ⟨cur, h1, _⟩ := h
  exact block_lt h1

theorem nS_size63' (n : Nat) (h : (nS n).size ≤ 1000) : (nS n).size ≤ 9223372036854775807 := by omega

set_option maxRecDepth 100000 in
set_option maxHeartbeats 2000000 in
theorem nat_Add (x y : Nat) (hx : x < 256 ^ 128) (hy : y < 256 ^ 128) (w : World) : Calls Try.prog 55 #[.string (nS x), .string (nS y)] w (Ret (fitR (x + y)) w) := by
  have hv1 := nvalid_nS.2 hx
  have hv2 := nvalid_nS.2 hy
  have hs1 := nS_size_le.2 hx
  have hs2 := nS_size_le.2 hy
  have HV1 := Lib.hid hv1
  have HV2 := Lib.hid hv2
  obtain ⟨s, hs⟩ : ∃ s, nS x = s := ⟨_, rfl⟩
  obtain ⟨t, ht⟩ : ∃ t, nS y = t := ⟨_, rfl⟩
  rw [hs] at hs1 HV1 ⊢
  rw [ht] at hs2 HV2 ⊢
  have HS := Lib.hid hs
  have HT := Lib.hid ht
  have HX := Lib.hid (show (nS x).size ≤ 1000 from by rw [hs]; omega)
  have HY := Lib.hid (show (nS y).size ≤ 1000 from by rw [ht]; omega)
  clear hv1 hv2 hs ht hx hy
  obtain ⟨m, hm⟩ : ∃ m : Nat, max (s.size : Int) (t.size : Int) = (m : Int) := ⟨max s.size t.size, by omega⟩
  have hm1 : m ≤ 128 := by omega
  have hmx : x < 256 ^ m := nS_size_le.1 (by rw [HS.out]; omega)
  have hmy : y < 256 ^ m := nS_size_le.1 (by rw [HT.out]; omega)
  have hxy : x + y < 256 ^ (m + 1) := by rw [Nat.pow_succ]; omega
  have HXY := Lib.hid hxy
  clear hmx hmy hxy
  have hmk := fun (w : World) => make_bytes (m + 1) (by omega) w
  simp only [Int.natCast_add, Int.natCast_one] at hmk
  go_enter Try.func55, Try.ntmps55
  go_wp2_with fail
  refine (nat_Valid s (by omega) _).mono ?_
  rintro e w1 ⟨rfl, rfl⟩
  rw [HV1.out]
  go_wp2_with fail
  refine (nat_Valid t (by omega) _).mono ?_
  rintro e w1 ⟨rfl, rfl⟩
  rw [HV2.out]
  go_wp2
  clear hmk hm
  go_loopw [8, 27] (fun c i wr => ∃ (k q : Nat), k ≤ m + 1 ∧ i = .int .i64 k ∧ c = .int .i64 q ∧ q ≤ 1 ∧ (x + y) / 256 ^ k = x / 256 ^ k + y / 256 ^ k + q ∧ OutB wr w.heap.size (m + 1) k (x + y) ∧ Below w.heap.size w wr) (fun _ i _ => m + 1 - (intOf i).toNat)
  case atStart => exact ⟨0, 0, Nat.zero_le _, rfl, rfl, by omega, by simp, OutB.start _ _, (Below.refl _ _).alloc (Nat.le_refl _) _⟩
  case round =>
    obtain ⟨k, q, hk, rfl, rfl, hq, hc, hO, hB⟩ := hrel
    have HO := Lib.hid hO
    have HB := Lib.hid hB
    have HC := Lib.hid hc
    clear hO hB hc
    by_cases hlt : k < m + 1
    · obtain ⟨j, hj⟩ : ∃ j, j + k = m := ⟨m - k, by omega⟩
      have hix : (m : Int) - (k : Int) = (j : Int) := by omega
      have hjm : j < m + 1 := by omega
      obtain ⟨u, hu⟩ := HO.out.cell hjm
      have hf := HO.out.free j
      have hs3 := add_step HC.out
      have hd1 := dig_lt x k
      have hd2 := dig_lt y k
      obtain ⟨d1, hd1e⟩ : ∃ d, dig x k = d := ⟨_, rfl⟩
      obtain ⟨d2, hd2e⟩ : ∃ d, dig y k = d := ⟨_, rfl⟩
      rw [hd1e] at hs3 hd1
      rw [hd2e] at hs3 hd2
      have HD1 := Lib.hid hd1e
      have HD2 := Lib.hid hd2e
      have HS3 := Lib.hid hs3
      have HJ := Lib.hid hj
      clear hs3 hd1e hd2e hj
      go_wp2_with fail
      rw [← HS.out]
      refine (nat_digit x k HX.out _).mono ?_
      rintro e w1 ⟨rfl, rfl⟩
      rw [HD1.out, HS.out]
      go_wp2_with fail
      rw [← HT.out]
      refine (nat_digit y k HY.out _).mono ?_
      rintro e w1 ⟨rfl, rfl⟩
      rw [HD2.out, HT.out]
      go_wp2
      refine ⟨⟨k + 1, (d1 + d2 + q) / 256, by omega, by go_num, by go_num, by omega, HS3.out.1, ?_, HB.out.setCell (p := ⟨w.heap.size, j, none⟩) (Nat.le_refl _) _⟩, by simp [intOf]; omega⟩
      have h1 := HO.out.step (k := j) (by have := HJ.out; omega)
      rw [HS3.out.2] at h1
      rw [show ((q : Int) + ((d1 : Int) + (d2 : Int))) % 256 = (((d1 + d2 + q) % 256 : Nat) : Int) from by omega]
      exact h1
    · obtain rfl : k = m + 1 := by omega
      have hby := HO.out.bytes (by omega)
      have HBY := Lib.hid hby
      clear hby
      go_wp2_with fail
      refine (nat_trimmed _ _ _ _ _ HBY.out).mono ?_
      rintro e w1 ⟨rfl, rfl⟩
      rw [trim_beN HXY.out]
      go_wp2_with fail
      refine (nat_fitting (x + y) (nS_size63' (x + y) (by have := nS_size_le.2 HXY.out; omega)) _).mono ?_
      rintro e w1 ⟨rfl, rfl⟩
      obtain ⟨r1, r2, hr⟩ := fitR_form (x + y)
      rw [hr]
      have HR := Lib.hid hr
      clear hr
      go_wp2
      go_ret2
      exact ⟨by rw [HR.out]; rfl, HB.out⟩


set_option maxRecDepth 100000 in
set_option maxHeartbeats 4000000 in
theorem nat_less (x y : Nat) (hs1 : (nS x).size ≤ 500) (hxy : y ≤ x) (w : World) : Calls Try.prog 58 #[.string (nS x), .string (nS y)] w (Ret (.string (nS (x - y))) w) := by
  have hle : (nS y).size ≤ (nS x).size := by rw [nS_size, nS_size]; exact encN_length_mono hxy
  obtain ⟨s, hs⟩ : ∃ s, nS x = s := ⟨_, rfl⟩
  obtain ⟨t, ht⟩ : ∃ t, nS y = t := ⟨_, rfl⟩
  rw [hs] at hs1 hle ⊢
  rw [ht] at hle ⊢
  have HS := Lib.hid hs
  have HT := Lib.hid ht
  have HX := Lib.hid (show (nS x).size ≤ 1000 from by rw [hs]; omega)
  have HY := Lib.hid (show (nS y).size ≤ 1000 from by rw [ht]; omega)
  clear hs ht
  obtain ⟨m, hm⟩ : ∃ m : Nat, s.size = m := ⟨_, rfl⟩
  rw [hm] at hs1 hle
  have hmx : x < 256 ^ m := nS_size_le.1 (by rw [HS.out, hm]; exact Nat.le_refl _)
  have hxy2 : x - y < 256 ^ m := by omega
  have HXY := Lib.hid hxy2
  have HLE := Lib.hid hxy
  clear hmx hxy2 hxy
  have hmk := fun (w : World) => make_bytes m (by omega) w
  go_enter Try.func58, Try.ntmps58
  go_wp2
  have HM := Lib.hid hm
  clear hmk hm
  go_loopw [7, 15] (fun c i wr => ∃ (k q : Nat), k ≤ m ∧ i = .int .i64 k ∧ c = .int .i64 q ∧ q ≤ 1 ∧ x / 256 ^ k = y / 256 ^ k + (x - y) / 256 ^ k + q ∧ OutB wr w.heap.size m k (x - y) ∧ Below w.heap.size w wr) (fun _ i _ => m - (intOf i).toNat)
  case atStart => exact ⟨0, 0, Nat.zero_le _, rfl, rfl, by omega, by have := HLE.out; simp; omega, OutB.start _ _, (Below.refl _ _).alloc (Nat.le_refl _) _⟩
  case round =>
    obtain ⟨k, q, hk, rfl, rfl, hq, hc, hO, hB⟩ := hrel
    have HO := Lib.hid hO
    have HB := Lib.hid hB
    have HC := Lib.hid hc
    clear hO hB hc
    by_cases hlt : k < m
    · obtain ⟨j, hj⟩ : ∃ j, j + k + 1 = m := ⟨m - k - 1, by omega⟩
      have hix : (m : Int) - 1 - (k : Int) = (j : Int) := by omega
      have hjm : j < m := by omega
      obtain ⟨u, hu⟩ := HO.out.cell hjm
      have hf := HO.out.free j
      have hs3 := sub_step HLE.out HC.out hq
      have hd1 := dig_lt x k
      have hd2 := dig_lt y k
      obtain ⟨d1, hd1e⟩ : ∃ d, dig x k = d := ⟨_, rfl⟩
      obtain ⟨d2, hd2e⟩ : ∃ d, dig y k = d := ⟨_, rfl⟩
      rw [hd1e] at hs3 hd1
      rw [hd2e] at hs3 hd2
      have HD1 := Lib.hid hd1e
      have HD2 := Lib.hid hd2e
      have HS3 := Lib.hid hs3
      have HJ := Lib.hid hj
      clear hs3 hd1e hd2e hj
      by_cases hneg : d2 + q ≤ d1
      all_goals
        go_wp2_with fail
        rw [← HS.out]
        refine (nat_digit x k HX.out _).mono ?_
        rintro e w1 ⟨rfl, rfl⟩
        rw [HD1.out, HS.out]
        go_wp2_with fail
        rw [← HT.out]
        refine (nat_digit y k HY.out _).mono ?_
        rintro e w1 ⟨rfl, rfl⟩
        rw [HD2.out, HT.out]
        go_wp2
      · refine ⟨⟨k + 1, 0, by omega, by go_num, by go_num, by omega, (HS3.out.1 hneg).2, ?_, HB.out.setCell (p := ⟨w.heap.size, j, none⟩) (Nat.le_refl _) _⟩, by simp [intOf]; omega⟩
        have h1 := HO.out.step (k := j) (by have := HJ.out; omega)
        rw [(HS3.out.1 hneg).1] at h1
        have e1 : ((d1 : Int) - (d2 : Int) - (q : Int)) = ((d1 - d2 - q : Nat) : Int) := by omega
        first | rw [e1] | (rw [show ((d1 : Int) - (d2 : Int) - (q : Int)) % 256 = ((d1 - d2 - q : Nat) : Int) from by omega])
        exact h1
      · refine ⟨⟨k + 1, 1, by omega, by go_num, by go_num, by omega, (HS3.out.2 (by omega)).2, ?_, HB.out.setCell (p := ⟨w.heap.size, j, none⟩) (Nat.le_refl _) _⟩, by simp [intOf]; omega⟩
        have h1 := HO.out.step (k := j) (by have := HJ.out; omega)
        rw [(HS3.out.2 (by omega)).1] at h1
        have e1 : ((d1 : Int) - (d2 : Int) - (q : Int) + 256) = ((d1 + 256 - d2 - q : Nat) : Int) := by omega
        first | rw [e1] | (rw [show ((d1 : Int) - (d2 : Int) - (q : Int) + 256) % 256 = ((d1 + 256 - d2 - q : Nat) : Int) from by omega])
        exact h1
    · obtain rfl : k = m := by omega
      have hby := HO.out.bytes (by omega)
      have HBY := Lib.hid hby
      clear hby
      go_wp2_with fail
      refine (nat_trimmed _ _ _ _ _ HBY.out).mono ?_
      rintro e w1 ⟨rfl, rfl⟩
      rw [trim_beN HXY.out]
      go_wp2
      go_ret
      exact ⟨rfl, HB.out⟩
end Go.Proofs.Ytnnfgphioapmnaa

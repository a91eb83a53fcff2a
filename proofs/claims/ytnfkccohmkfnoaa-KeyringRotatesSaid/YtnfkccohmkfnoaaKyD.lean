/- Walk: dominoref58.Find. -/
import Derived.Test.YtnfkccohmkfnoaaKyC
set_option linter.unusedVariables false
set_option linter.unusedSimpArgs false
namespace Go.Proofs.Ytnfkccohmkfnoaa
open Go.RowKit

set_option maxRecDepth 100000 in
set_option maxHeartbeats 2000000 in
theorem r58_Find_none (l : List Ver) (A : Option Addr) (len cap : Nat) (name : ByteArray) (num e : Int) (w : World) (hs : SlV w A len cap l) (hlen : len ≤ 4096) (hall : ∀ (i : Nat) u, l[i]? = some u → hitV name num u = false) : Calls Try.prog 10 #[.slice A len cap, .string name, .int .i64 num, .int .i64 e] w (RetV ver0 9 w) := by
  obtain ⟨W0, hW0⟩ : ∃ W0, w.alloc (.cells (ver0.arr (.slice none 0 0)) 38) = W0 := ⟨_, rfl⟩
  have HY0 := Lib.hid (show BxC W0 w.heap.size (ver0.arr (.slice none 0 0)) 38 from by rw [← hW0]; exact BxC.new _ _ _)
  have HB0 := Lib.hid (show Below w.heap.size w W0 from by rw [← hW0]; exact (Below.refl _ _).alloc (Nat.le_refl _) _)
  have HS := Lib.hid (hs.kept HB0.out (Nat.le_refl _))
  have HLEN := Lib.hid hs.1
  have HALL := Lib.hid hall
  have hcap := hs.2.1
  have hcap2 := hs.2.2.1
  unfold ver0 Ver.arr at hW0
  clear hs hall
  go_enter Try.func10, Try.ntmps10
  go_wp2
  try rw [hW0]
  clear hW0
  go_loop [10] (fun k => ∃ j : Nat, j ≤ len ∧ k = .int .i64 j) (fun k => len - (intOf k).toNat)
  case atStart => exact ⟨0, Nat.zero_le _, rfl⟩
  case round =>
    obtain ⟨j, hj, rfl⟩ := hrel
    by_cases hlt : j < len
    · obtain ⟨b, o, rfl⟩ := HS.out.head (by omega)
      obtain ⟨v, he⟩ : ∃ v, l[j]? = some v := ⟨_, List.getElem?_eq_getElem (by rw [HLEN.out]; exact hlt)⟩
      obtain ⟨A1, n1, c1, hvc, _⟩ := HS.out.get? j he
      have d0 := hvc.open.1
      have d1 := hvc.open.2.1
      have hh := HALL.out j v he
      unfold hitV at hh
      clear hvc he
      cases hq : (v.name.toList == name.toList) with
      | false =>
        clear hh
        go_wp2
        go_round
        case rel => exact ⟨j + 1, by omega, by go_num⟩
        case measure => simp [intOf]; omega
      | true =>
        rw [hq, Bool.true_and] at hh
        go_wp2
        go_round
        case rel => exact ⟨j + 1, by omega, by go_num⟩
        case measure => simp [intOf]; omega
    · obtain rfl : j = len := by omega
      clear hlt hj
      go_upto_region 8 with fail
      refine wp_region_lit ?_
      iterate 4 go_step
      refine wp_store_row 38 _ _ rfl (w.heap.size) (ver0.arr (.slice none 0 0)) rfl rfl 38 (ver0.arr (.slice none 0 0)) HY0.out (by kernel_rfl) rfl ver0.arr_one ?_
      have HY3 := Lib.hid (setRow_heap W0 (w.heap.size) _ (ver0.arr (.slice none 0 0)) _ _ HY0.out)
      have HB3 := Lib.hid (below_setRow HB0.out (g := w.heap.size) (by omega) (ver0.arr (.slice none 0 0)))
      obtain ⟨w3, hw3⟩ : ∃ w3, W0.setRow (w.heap.size) (ver0.arr (.slice none 0 0)) = w3 := ⟨_, rfl⟩
      rw [hw3] at HY3 HB3 ⊢
      clear hw3
      go_wp2
      refine bodyPost_ret (v := .tuple #[.agg (ver0.arr (.slice none 0 0)), .int .i64 9]) (Eq.trans (results_row_tmp rfl _ _ (w.heap.size) 38 (ver0.arr (.slice none 0 0)) (0, 0) _ rfl HY3.out Try.underlying38 rfl (by kernel_rfl)) (by rfl)) rfl (id ⟨none, 0, 0, rfl, ⟨rfl, Nat.le_refl _, Nat.zero_le _, 0, 0, fun h => absurd h (Nat.lt_irrefl _), fun k s h => by simp [ver0] at h⟩, HB3.out⟩)

/-- What Find returns of a version that it has found. -/
def RetF (v : Ver) (e : Int) (w : World) (x : Ending) (w' : World) : Prop := (vvalid v e = true ∧ RetV v 0 w x w') ∨ (vvalid v e = false ∧ RetV ver0 22 w x w')
theorem RetF_far {v : Ver} {e : Int} {w w' : World} {x : Ending} (h : vvalid v e = false) (hr : RetV ver0 22 w x w') : RetF v e w x w' := .inr ⟨h, hr⟩
theorem RetF_in {v : Ver} {e : Int} {w w' : World} {x : Ending} (h : vvalid v e = true) (hr : RetV v 0 w x w') : RetF v e w x w' := .inl ⟨h, hr⟩
set_option maxRecDepth 100000 in
set_option maxHeartbeats 2000000 in
theorem r58_Find_hit (l : List Ver) (b o len cap : Nat) (name : ByteArray) (num e : Int) (w : World) (hs : SlV w (some ⟨b, o, none⟩) len cap l) (hlen : len ≤ 4096) (k : Nat) (v : Ver) (hk : l[k]? = some v) (hv : hitV name num v = true) (hall : ∀ (i : Nat) u, i < k → l[i]? = some u → hitV name num u = false) : Calls Try.prog 10 #[.slice (some ⟨b, o, none⟩) len cap, .string name, .int .i64 num, .int .i64 e] w (RetF v e w) := by
  obtain ⟨W0, hW0⟩ : ∃ W0, w.alloc (.cells (ver0.arr (.slice none 0 0)) 38) = W0 := ⟨_, rfl⟩
  have HY0 := Lib.hid (show BxC W0 w.heap.size (ver0.arr (.slice none 0 0)) 38 from by rw [← hW0]; exact BxC.new _ _ _)
  have HB0 := Lib.hid (show Below w.heap.size w W0 from by rw [← hW0]; exact (Below.refl _ _).alloc (Nat.le_refl _) _)
  have HS := Lib.hid (hs.kept HB0.out (Nat.le_refl _))
  have HLEN := Lib.hid hs.1
  have HALL := Lib.hid hall
  have hkl : k < len := by rw [← hs.1]; exact (List.getElem?_eq_some_iff.1 hk).1
  have hcap := hs.2.1
  have hcap2 := hs.2.2.1
  obtain ⟨A1, n1, c1, hvc, hsl⟩ := hs.get? k hk
  have HVC := Lib.hid hvc
  have HSL := Lib.hid hsl
  unfold hitV at hv
  rw [Bool.and_eq_true] at hv
  obtain ⟨hv1, hv2⟩ := hv
  unfold ver0 Ver.arr at hW0
  clear hs hall hvc hsl hk
  go_enter Try.func10, Try.ntmps10
  go_wp2
  try rw [hW0]
  clear hW0
  go_loop [10] (fun i => ∃ j : Nat, j ≤ k ∧ i = .int .i64 j) (fun i => k - (intOf i).toNat)
  case atStart => exact ⟨0, Nat.zero_le _, rfl⟩
  case round =>
    obtain ⟨j, hj, rfl⟩ := hrel
    by_cases hlt : j < k
    · obtain ⟨u, he⟩ : ∃ u, l[j]? = some u := ⟨_, List.getElem?_eq_getElem (by rw [HLEN.out]; omega)⟩
      obtain ⟨A2, n2, c2, hvc, _⟩ := HS.out.get? j he
      have d0 := hvc.open.1
      have d1 := hvc.open.2.1
      have hh := HALL.out j u hlt he
      have hjl : j < len := by omega
      unfold hitV at hh
      clear hvc he hv1 hv2
      cases hq : (u.name.toList == name.toList) with
      | false =>
        clear hh
        go_wp2
        go_round
        case rel => exact ⟨j + 1, by omega, by go_num⟩
        case measure => simp [intOf]; omega
      | true =>
        rw [hq, Bool.true_and] at hh
        go_wp2
        go_round
        case rel => exact ⟨j + 1, by omega, by go_num⟩
        case measure => simp [intOf]; omega
    · obtain rfl : j = k := by omega
      clear hlt hj
      have hv0 := (HVC.out.kept HB0.out (Nat.le_refl _)).open
      have d0 := hv0.1
      have d1 := hv0.2.1
      have d14 := hv0.2.2.2.2.2.2.2.2.2.2.2.2.2.2.1
      have d15 := hv0.2.2.2.2.2.2.2.2.2.2.2.2.2.2.2.1
      have HRA := Lib.hid (show W0.rangeAt b (o + j * 18) (v.vals (.slice A1 n1 c1)) from HVC.out.kept HB0.out (Nat.le_refl _))
      clear hv0
      by_cases h1 : e < v.fr
      · have h1' : decide (e < v.fr) = true := decide_eq_true h1
        have HV0 := Lib.hid (show vvalid v e = false from by unfold vvalid; rw [decide_eq_false (show ¬ v.fr ≤ e by omega)]; rfl)
        go_upto_region 6 with fail
        refine wp_region_lit ?_
        iterate 4 go_step
        refine wp_store_row 38 _ _ rfl (w.heap.size) (ver0.arr (.slice none 0 0)) rfl rfl 38 (ver0.arr (.slice none 0 0)) HY0.out (by kernel_rfl) rfl ver0.arr_one ?_
        have HY3 := Lib.hid (setRow_heap W0 (w.heap.size) _ (ver0.arr (.slice none 0 0)) _ _ HY0.out)
        have HB3 := Lib.hid (below_setRow HB0.out (g := w.heap.size) (by omega) (ver0.arr (.slice none 0 0)))
        obtain ⟨w3, hw3⟩ : ∃ w3, W0.setRow (w.heap.size) (ver0.arr (.slice none 0 0)) = w3 := ⟨_, rfl⟩
        rw [hw3] at HY3 HB3 ⊢
        clear hw3
        go_wp2
        refine bodyPost_ret (v := .tuple #[.agg (ver0.arr (.slice none 0 0)), .int .i64 22]) (Eq.trans (results_row_tmp rfl _ _ (w.heap.size) 38 (ver0.arr (.slice none 0 0)) (0, 0) _ rfl HY3.out Try.underlying38 rfl (by kernel_rfl)) (by rfl)) rfl (RetF_far HV0.out ⟨none, 0, 0, rfl, ⟨rfl, Nat.le_refl _, Nat.zero_le _, 0, 0, fun h => absurd h (Nat.lt_irrefl _), fun k s h => by simp [ver0] at h⟩, HB3.out⟩)
      · have h1' : decide (e < v.fr) = false := decide_eq_false h1
        by_cases h2 : v.to < e
        · have h2' : decide (v.to < e) = true := decide_eq_true h2
          have HV0 := Lib.hid (show vvalid v e = false from by unfold vvalid; rw [decide_eq_false (show ¬ e ≤ v.to by omega), Bool.and_false])
          go_upto_region 6 with fail
          refine wp_region_lit ?_
          iterate 4 go_step
          refine wp_store_row 38 _ _ rfl (w.heap.size) (ver0.arr (.slice none 0 0)) rfl rfl 38 (ver0.arr (.slice none 0 0)) HY0.out (by kernel_rfl) rfl ver0.arr_one ?_
          have HY3 := Lib.hid (setRow_heap W0 (w.heap.size) _ (ver0.arr (.slice none 0 0)) _ _ HY0.out)
          have HB3 := Lib.hid (below_setRow HB0.out (g := w.heap.size) (by omega) (ver0.arr (.slice none 0 0)))
          obtain ⟨w3, hw3⟩ : ∃ w3, W0.setRow (w.heap.size) (ver0.arr (.slice none 0 0)) = w3 := ⟨_, rfl⟩
          rw [hw3] at HY3 HB3 ⊢
          clear hw3
          go_wp2
          refine bodyPost_ret (v := .tuple #[.agg (ver0.arr (.slice none 0 0)), .int .i64 22]) (Eq.trans (results_row_tmp rfl _ _ (w.heap.size) 38 (ver0.arr (.slice none 0 0)) (0, 0) _ rfl HY3.out Try.underlying38 rfl (by kernel_rfl)) (by rfl)) rfl (RetF_far HV0.out ⟨none, 0, 0, rfl, ⟨rfl, Nat.le_refl _, Nat.zero_le _, 0, 0, fun h => absurd h (Nat.lt_irrefl _), fun k s h => by simp [ver0] at h⟩, HB3.out⟩)
        · have h2' : decide (v.to < e) = false := decide_eq_false h2
          have HV0 := Lib.hid (show vvalid v e = true from by unfold vvalid; rw [decide_eq_true (show v.fr ≤ e by omega), decide_eq_true (show e ≤ v.to by omega)]; rfl)
          have HSZ := Lib.hid (show (Try.prog.info? 38).map (·.size) = some (v.vals (.slice A1 n1 c1)).length from by kernel_rfl)
          go_upto_region 7 with fail
          refine wp_region_lit ?_
          iterate 10 go_step
          refine wp_load_mid 38 _ rfl b (o + j * 18) rfl _ _ HRA.out Try.underlying38 rfl HSZ.out ?_
          have HX4 := Lib.hid (setRow_heap W0 (w.heap.size) _ (v.arr (.slice A1 n1 c1)) _ _ HY0.out)
          have HB4 := Lib.hid (below_setRow HB0.out (g := w.heap.size) (by omega) (v.arr (.slice A1 n1 c1)))
          have HSL4 := Lib.hid (HSL.out.kept HB4.out (Nat.le_refl _))
          have HON := Lib.hid (v.arr_one (A := A1) (n := n1) (c := c1))
          rw [show (v.vals (.slice A1 n1 c1)).toArray = v.arr (.slice A1 n1 c1) from rfl]
          obtain ⟨rr, hrr⟩ : ∃ rr, v.arr (.slice A1 n1 c1) = rr := ⟨_, rfl⟩
          have hrs : rr.size = 18 := by rw [← hrr]; rfl
          rw [hrr] at HX4 HB4 HSL4 HON ⊢
          have HRR := Lib.hid hrr
          have HRS := Lib.hid hrs
          clear hrr hrs
          iterate 2 go_step
          refine wp_store_row 38 _ _ rfl (w.heap.size) rr rfl rfl 38 (ver0.arr (.slice none 0 0)) HY0.out (by rw [HRS.out]; kernel_rfl) (by rw [HRS.out]; rfl) HON.out ?_
          obtain ⟨w4, hw4⟩ : ∃ w4, W0.setRow (w.heap.size) rr = w4 := ⟨_, rfl⟩
          rw [hw4] at HX4 HB4 HSL4 ⊢
          clear hw4
          go_wp2
          have hnl : n1 = v.kr.length := HSL4.out.1.symm
          refine bodyPost_ret (v := .tuple #[.agg rr, .int .i64 0]) (Eq.trans (results_row_tmp rfl _ _ (w.heap.size) 38 rr (0, 0) _ rfl HX4.out Try.underlying38 rfl (by rw [HRS.out]; kernel_rfl)) (by rfl)) rfl (RetF_in HV0.out ⟨A1, n1, c1, by rw [← HRR.out]; rfl, HSL4.out, HB4.out⟩)
theorem ky_Find_hit (l : List Ver) (A : Option Addr) (len cap : Nat) (name : ByteArray) (num e : Int) (w : World) (hs : SlV w A len cap l) (hlen : len ≤ 4096) (k : Nat) (v : Ver) (hk : l[k]? = some v) (hv : hitV name num v = true) (hall : ∀ (i : Nat) u, i < k → l[i]? = some u → hitV name num u = false) (hr : v.kr.length ≤ 1000000) : Calls Try.prog 9 #[.slice A len cap, .string name, .int .i64 num, .int .i64 e] w (RetF v e w) := by
  cases hvv : vvalid v e with
  | false => exact (ky_Find_far l A len cap name num e w hs hlen k v (findV_some hk hv hall) hk hvv).mono fun _ _ h => RetF_far hvv h
  | true => exact (ky_Find_in l A len cap name num e w hs hlen k v (findV_some hk hv hall) hk hvv hr).mono fun _ _ h => RetF_in hvv h
end Go.Proofs.Ytnfkccohmkfnoaa

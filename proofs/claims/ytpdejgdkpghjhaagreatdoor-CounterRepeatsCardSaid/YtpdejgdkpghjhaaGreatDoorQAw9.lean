/- Walks: dominolaw49.key, awake. -/
import Derived.Test.YtpdejgdkpghjhaaGreatDoorQCtH
import Derived.Test.YtpdejgdkpghjhaaGreatDoorQShV
import Derived.Test.YtpdejgdkpghjhaaGreatDoorQGrp
import Derived.Test.YtpdejgdkpghjhaaGreatDoorQHaB
set_option linter.unusedVariables false
set_option linter.unusedSimpArgs false
namespace Go.Proofs.YtpdejgdkpghjhaaGreatDoor
open Go.RowKit Go.Lib
theorem ex_ctL : ctL 7 [115, 104, 111, 112] = shopL := by
  unfold ctL
  rw [Lib.decDigits_one (by omega)]
  rfl
theorem ex_pk : pkC ⟨#[23]⟩ ⟨#[11]⟩ ⟨#[4]⟩ ⟨#[9]⟩ = 0 := by decide +kernel
theorem ex_hk : hasK ⟨#[23]⟩ ⟨#[11]⟩ (nS 18) = true := by decide +kernel
theorem ex_bsO : bsO ⟨#[23]⟩ ⟨#[11]⟩ 7 [115, 104, 111, 112] = .tuple #[.string (nS 18), .int .i64 0] := by
  unfold bsO
  rw [ex_ctL]
  have h : hkN (num ⟨#[23]⟩) (num ⟨#[11]⟩) shopL = some 18 := by
    have e1 : num ⟨#[23]⟩ = 23 := by decide +kernel
    have e2 : num ⟨#[11]⟩ = 11 := by decide +kernel
    rw [e1, e2]
    unfold hkN
    rw [if_pos (by decide)]
    exact hx_shop
  rw [h]
  unfold bsP
  simp only [ex_hk, if_true]
theorem ex_base (c : Int) (hc : 0 ≤ c) (l : List ByteArray) (hl : l.all nvalid = true) : bsR ⟨#[23]⟩ ⟨#[11]⟩ ⟨#[4]⟩ ⟨#[9]⟩ [115, 104, 111, 112] 7 c l = .tuple #[.string (nS 18), .int .i64 0] := by
  unfold bsR
  rw [if_pos hl, if_pos ex_pk, if_neg (by decide +kernel), if_neg (by omega)]
  exact ex_bsO
theorem ex_s1 : srV ⟨#[23]⟩ ⟨#[11]⟩ ⟨#[3]⟩ 2 (nS 18) 0 = .tuple #[.string (nS 2), .int .i64 0] := by
  have e1 : num ⟨#[23]⟩ = 23 := by decide +kernel
  have e2 : num ⟨#[11]⟩ = 11 := by decide +kernel
  have e3 : num ⟨#[3]⟩ = 3 := by decide +kernel
  unfold srV srP
  rw [if_pos rfl, num_nS, e1, e2, e3, if_pos (by decide +kernel)]
  have : invN ((3 + (2 : Int).toNat + 1) % 11) 11 = 2 := by decide +kernel
  rw [this]
theorem ex_s2 : srV ⟨#[23]⟩ ⟨#[11]⟩ ⟨#[3]⟩ 7 (nS 18) 0 = .tuple #[.string ⟨#[]⟩, .int .i64 11] := by
  have e2 : num ⟨#[11]⟩ = 11 := by decide +kernel
  have e3 : num ⟨#[3]⟩ = 3 := by decide +kernel
  unfold srV srP
  rw [if_pos rfl, e2, e3, if_neg (by decide +kernel)]
theorem ex_exp : prR ⟨#[23]⟩ ⟨#[11]⟩ [nS 18] [(false, ⟨#[2]⟩)] = .tuple #[.string (nS 2), .int .i64 0] := by
  have := ex_nat (x := nS 18) ex_pk (by decide +kernel) (hasK_parts ex_hk).2.2 (y := 2) (by decide)
  rw [num_nS, show num ⟨#[23]⟩ = 23 from by decide +kernel, show 18 ^ 2 % 23 = 2 from by decide +kernel, show nS 2 = ⟨#[2]⟩ from by decide +kernel] at this
  rw [show nS 2 = ⟨#[2]⟩ from by decide +kernel]
  exact this
theorem ex_link : lkV (lkN [⟨#[4]⟩, ⟨#[9]⟩, ⟨#[16]⟩, ⟨#[9]⟩, ⟨#[4]⟩] 5) = .tuple #[.int .i64 1, .int .i64 3, .bool true] := by
  have : lkN [⟨#[4]⟩, ⟨#[9]⟩, ⟨#[16]⟩, ⟨#[9]⟩, ⟨#[4]⟩] 5 = some (1, 3) := by decide +kernel
  rw [this]
  rfl
set_option maxRecDepth 100000 in
theorem law49_key (w : World) : Calls Tryz.prog 49 #[] w (Ret (kV ⟨#[23]⟩ ⟨#[11]⟩ ⟨#[4]⟩ ⟨#[9]⟩) w) := by
  have hx := Bx4.new w (.string ⟨#[]⟩) (.string ⟨#[]⟩) (.string ⟨#[]⟩) (.string ⟨#[]⟩) 26
  have hb := (Below.refl w.heap.size w).alloc (Nat.le_refl _) (.cells #[.string ⟨#[]⟩, .string ⟨#[]⟩, .string ⟨#[]⟩, .string ⟨#[]⟩] 26)
  have HX := Lib.hid hx
  have HB := Lib.hid hb
  clear hx hb
  unfold kV
  go_enter Tryz.func49, Tryz.ntmps49
  go_wp2
  obtain ⟨q0, q1, q2, q3⟩ := (Bx4.new w (.string ⟨#[23]⟩) (.string ⟨#[11]⟩) (.string ⟨#[4]⟩) (.string ⟨#[9]⟩) 26).cells
  exact bodyPost_ret (v := .agg #[.string ⟨#[23]⟩, .string ⟨#[11]⟩, .string ⟨#[4]⟩, .string ⟨#[9]⟩]) (by simp [results, Tryz.results49, go_sem, q0, q1, q2, q3]) rfl ⟨rfl, (Below.refl w.heap.size w).alloc (Nat.le_refl _) _⟩
set_option maxRecDepth 100000 in
set_option maxHeartbeats 4000000 in
theorem law49_awake (w : World) (ht : T10 w) : Calls Tryz.prog 14 #[] w (Ret (.bool true) w) := by
  have HKY := Lib.hid law49_key
  have HTw := Lib.hid ht
  have HBw := Lib.hid (Below.refl w.heap.size w)
  have h1 : bsR ⟨#[23]⟩ ⟨#[11]⟩ ⟨#[4]⟩ ⟨#[9]⟩ (ByteArray.mk #[115, 104, 111, 112]).data.toList 7 0 [] = .tuple #[.string (nS 18), .int .i64 0] := ex_base 0 (by omega) [] rfl
  have h2 : ∀ c : Int, 0 ≤ c → bsR ⟨#[23]⟩ ⟨#[11]⟩ ⟨#[4]⟩ ⟨#[9]⟩ (ByteArray.mk #[115, 104, 111, 112]).data.toList 7 c [⟨#[3]⟩] = .tuple #[.string (nS 18), .int .i64 0] := fun c hc => ex_base c hc [⟨#[3]⟩] (by decide +kernel)
  have HBA := Lib.hid (fun w ht => ct_Base ⟨#[23]⟩ ⟨#[11]⟩ ⟨#[4]⟩ ⟨#[9]⟩ ⟨#[115, 104, 111, 112]⟩ 7 (by decide) (by decide) (by decide) (by decide) (by decide) (by omega) (by omega) w ht)
  have HS1 := Lib.hid (fun w ht => ct_Serial ⟨#[23]⟩ ⟨#[11]⟩ ⟨#[4]⟩ ⟨#[9]⟩ ⟨#[115, 104, 111, 112]⟩ ⟨#[3]⟩ 7 2 (nS 18) 0 (by decide) (by decide) (by decide) (by decide) (by decide) (by decide) (by omega) (by omega) (by omega) (h2 2 (by omega)) w ht)
  have HS2 := Lib.hid (fun w ht => ct_Serial ⟨#[23]⟩ ⟨#[11]⟩ ⟨#[4]⟩ ⟨#[9]⟩ ⟨#[115, 104, 111, 112]⟩ ⟨#[3]⟩ 7 7 (nS 18) 0 (by decide) (by decide) (by decide) (by decide) (by decide) (by decide) (by omega) (by omega) (by omega) (h2 7 (by omega)) w ht)
  have HEX := Lib.hid (fun w => pw_Exp ⟨#[23]⟩ ⟨#[11]⟩ (nS 18) false ⟨#[2]⟩ (by decide) (by decide) (by have := nS_small_size (show 18 < 18446744073709551616 by omega); omega) (by decide) w)
  have HLN := Lib.hid (fun A w hs => ct_Link [⟨#[4]⟩, ⟨#[9]⟩, ⟨#[16]⟩, ⟨#[9]⟩, ⟨#[4]⟩] A 5 5 (by omega) (fun x h => by simp at h; rcases h with h | h | h | h | h <;> subst h <;> decide) w hs)
  rw [h1] at HBA
  rw [ex_s1] at HS1
  rw [ex_s2] at HS2
  rw [ex_exp] at HEX
  rw [ex_link] at HLN
  obtain ⟨b, hb⟩ : ∃ b, nS 18 = b := ⟨_, rfl⟩
  obtain ⟨c, hc⟩ : ∃ c, nS 2 = c := ⟨_, rfl⟩
  rw [hb] at HBA HEX
  rw [hc] at HS1 HEX
  clear hb hc h1 h2 ht
  have hfd : ∀ w, (Instr.field 26 (.agg #[.string ⟨#[23]⟩, .string ⟨#[11]⟩, .string ⟨#[4]⟩, .string ⟨#[9]⟩]) 0).run Tryz.prog w = .ok (.agg #[.string ⟨#[23]⟩, .string ⟨#[11]⟩]) w := fun w => by show _ = _; kernel_rfl
  unfold kV gV zV at *
  go_enter Tryz.func14, Tryz.ntmps14
  go_wp2_with fail
  refine (HKY.out _).mono ?_
  rintro ev w1 ⟨rfl, hb⟩
  have HTw1 := Lib.hid (HTw.out.next hb)
  have HBw1 := Lib.hid (below_up HBw.out HBw.out.size hb)
  clear hb
  go_wp2_with fail
  refine (HBA.out _ HTw1.out).mono ?_
  rintro ev w2 ⟨rfl, hb⟩
  have HTw2 := Lib.hid (HTw1.out.next hb)
  have HBw2 := Lib.hid (below_up HBw1.out HBw1.out.size hb)
  clear hb
  go_wp2_with fail
  refine (HKY.out _).mono ?_
  rintro ev w3 ⟨rfl, hb⟩
  have HTw3 := Lib.hid (HTw2.out.next hb)
  have HBw3 := Lib.hid (below_up HBw2.out HBw2.out.size hb)
  clear hb
  go_wp2_with fail
  refine (HS1.out _ HTw3.out).mono ?_
  rintro ev w4 ⟨rfl, hb⟩
  have HTw4 := Lib.hid (HTw3.out.next hb)
  have HBw4 := Lib.hid (below_up HBw3.out HBw3.out.size hb)
  clear hb
  go_wp2_with fail
  refine (HKY.out _).mono ?_
  rintro ev w5 ⟨rfl, hb⟩
  have HTw5 := Lib.hid (HTw4.out.next hb)
  have HBw5 := Lib.hid (below_up HBw4.out HBw4.out.size hb)
  clear hb
  go_wp2_with fail
  refine (HEX.out _).mono ?_
  rintro ev w6 ⟨rfl, hb⟩
  have HTw6 := Lib.hid (HTw5.out.next hb)
  have HBw6 := Lib.hid (below_up HBw5.out HBw5.out.size hb)
  clear hb
  go_wp2_with fail
  refine (HKY.out _).mono ?_
  rintro ev w7 ⟨rfl, hb⟩
  have HTw7 := Lib.hid (HTw6.out.next hb)
  have HBw7 := Lib.hid (below_up HBw6.out HBw6.out.size hb)
  clear hb
  go_wp2_with fail
  refine (HS2.out _ HTw7.out).mono ?_
  rintro ev w8 ⟨rfl, hb⟩
  have HTw8 := Lib.hid (HTw7.out.next hb)
  have HBw8 := Lib.hid (below_up HBw7.out HBw7.out.size hb)
  clear hb
  have hsl := sln_alloc w8 [⟨#[4]⟩, ⟨#[9]⟩, ⟨#[16]⟩, ⟨#[9]⟩, ⟨#[4]⟩] 22 (by simp)
  have HLK := Lib.hid (HLN.out _ _ hsl)
  have HB9 := Lib.hid (HBw8.out.alloc HBw8.out.size (.cells #[.string ⟨#[4]⟩, .string ⟨#[9]⟩, .string ⟨#[16]⟩, .string ⟨#[9]⟩, .string ⟨#[4]⟩] 22))
  clear hsl
  go_wp2_with fail
  refine HLK.out.mono ?_
  rintro ev w9 ⟨rfl, hb⟩
  have HB10 := Lib.hid (below_up HB9.out HB9.out.size hb)
  clear hb
  go_wp2
  go_ret
  exact ⟨rfl, HB10.out⟩
end Go.Proofs.YtpdejgdkpghjhaaGreatDoor
/- Walks: dominolaw09.Few, small, awake. -/
set_option linter.unusedVariables false
set_option linter.unusedSimpArgs false
namespace Go.Proofs.YtpdejgdkpghjhaaGreatDoor
open Go.RowKit Go.Shelf
attribute [local go_sem] Oper.semAt_some
def few9 (M O : ByteArray) (l : List ByteArray) : Bool := l.all (fun s => decide (s.size ≤ 20)) && (decide (M.size ≤ 8) && decide (O.size ≤ 10))
theorem few9_big {M O : ByteArray} {l : List ByteArray} {k : Nat} {s : ByteArray} (h : l[k]? = some s) (hb : 20 < s.size) : few9 M O l = false := by
  unfold few9
  have : l.all (fun s => decide (s.size ≤ 20)) = false := by
    rw [List.all_eq_false]
    exact ⟨s, List.mem_of_getElem? h, by simp; omega⟩
  rw [this]; rfl
theorem few9_all {M O : ByteArray} {l : List ByteArray} (h : ∀ k, k < l.length → ∃ s, l[k]? = some s ∧ s.size ≤ 20) : few9 M O l = (decide (M.size ≤ 8) && decide (O.size ≤ 10)) := by
  unfold few9
  have : l.all (fun s => decide (s.size ≤ 20)) = true := by
    rw [List.all_eq_true]
    intro s hs
    obtain ⟨k, hk⟩ := List.mem_iff_getElem?.1 hs
    obtain ⟨s', h1, h2⟩ := h k (List.getElem?_eq_some_iff.1 hk).1
    rw [hk] at h1
    cases h1
    exact decide_eq_true h2
  rw [this]; rfl
theorem few9_of {M O : ByteArray} {l : List ByteArray} (h : few9 M O l = true) : M.size ≤ 8 ∧ O.size ≤ 10 ∧ ∀ s ∈ l, s.size ≤ 20 := by
  unfold few9 at h
  simp only [Bool.and_eq_true, decide_eq_true_eq, List.all_eq_true] at h
  exact ⟨h.2.1, h.2.2, h.1⟩
set_option maxRecDepth 100000 in
set_option maxHeartbeats 1000000 in
theorem law_Few (M O : ByteArray) (l : List ByteArray) (A : Option Addr) (len cap : Nat) (hl : len ≤ 1000) (w : World) (hs : SlN w A len cap l) : Calls Tryz.prog 40 #[gV M O, .slice A len cap] w (Ret (.bool (few9 M O l)) w) := by
  have HX0 := Lib.hid (Bx2.new w (.string M) (.string O) 24)
  have HB0 := Lib.hid ((Below.refl w.heap.size w).alloc (Nat.le_refl _) (.cells #[.string M, .string O] 24))
  have c0 := HX0.out.c0
  have c1 := HX0.out.c1
  have HS := Lib.hid (hs.kept HB0.out (Nat.le_refl _))
  have HLEN := Lib.hid hs.1
  have hcap := hs.2.1
  have hcap2 := hs.2.2.1
  clear hs
  unfold gV
  go_enter Tryz.func40, Tryz.ntmps40
  go_wp2
  go_loop [5] (fun i => ∃ k : Nat, k ≤ len ∧ i = .int .i64 k ∧ ∀ j, j < k → ∃ s, l[j]? = some s ∧ s.size ≤ 20) (fun i => len - (intOf i).toNat)
  case atStart => exact ⟨0, Nat.zero_le _, rfl, fun j h => by omega⟩
  case round =>
    obtain ⟨k, hk, rfl, hall⟩ := hrel
    have HALL := Lib.hid hall
    clear hall
    by_cases hlt : k < len
    · obtain ⟨b, o, rfl⟩ := HS.out.head (by omega)
      obtain ⟨s, he⟩ : ∃ s, l[k]? = some s := ⟨_, List.getElem?_eq_getElem (by rw [HLEN.out]; exact hlt)⟩
      have d0 := HS.out.get? k he
      have HE := Lib.hid he
      clear he
      by_cases h1 : 20 < s.size
      · have HF := Lib.hid (few9_big (M := M) (O := O) HE.out h1)
        have i1 : decide ((20 : Int) < (s.size : Int)) = true := decide_eq_true (by omega)
        go_wp2
        go_ret
        exact ⟨by rw [HF.out]; rfl, HB0.out⟩
      · have i1 : decide ((20 : Int) < (s.size : Int)) = false := decide_eq_false (by omega)
        go_wp2
        go_round
        case rel =>
          refine ⟨k + 1, by omega, by go_num, fun j hj => ?_⟩
          by_cases hjk : j < k
          · exact HALL.out j hjk
          · obtain rfl : j = k := by omega
            exact ⟨s, HE.out, by omega⟩
        case measure => simp [intOf]; omega
    · obtain rfl : k = len := by omega
      have HF := Lib.hid (few9_all (M := M) (O := O) (l := l) (fun j hj => HALL.out j (by have := HLEN.out; omega)))
      by_cases h8 : M.size ≤ 8
      · rw [decide_eq_true h8, Bool.true_and] at HF
        have h8' : (M.size : Int) ≤ 8 := by omega
        by_cases h10 : O.size ≤ 10
        · rw [decide_eq_true h10] at HF
          have h10' : (O.size : Int) ≤ 10 := by omega
          go_wp2
          go_ret
          exact ⟨by rw [HF.out]; rfl, HB0.out⟩
        · rw [decide_eq_false h10] at HF
          have h10' : decide ((O.size : Int) ≤ 10) = false := decide_eq_false (by omega)
          go_wp2
          go_ret
          exact ⟨by rw [HF.out]; rfl, HB0.out⟩
      · rw [decide_eq_false h8, Bool.false_and] at HF
        have h8' : decide ((M.size : Int) ≤ 8) = false := decide_eq_false (by omega)
        go_wp2
        go_ret
        exact ⟨by rw [HF.out]; rfl, HB0.out⟩
end Go.Proofs.YtpdejgdkpghjhaaGreatDoor

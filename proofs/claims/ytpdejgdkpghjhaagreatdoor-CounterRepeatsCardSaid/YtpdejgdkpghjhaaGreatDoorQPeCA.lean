/- Walk: counter's key.base. -/
import Derived.Test.YtpdejgdkpghjhaaGreatDoorQPeU
import Derived.Test.YtpdejgdkpghjhaaGreatDoorQPeDB
import Derived.Test.YtpdejgdkpghjhaaGreatDoorQPeEA
set_option linter.unusedVariables false
set_option linter.unusedSimpArgs false
namespace Go.Proofs.YtpdejgdkpghjhaaGreatDoor
open Go.RowKit Go.Lib
def CB (w W : World) (M O G H : ByteArray) : Prop := Bx4 W w.heap.size (.string M) (.string O) (.string G) (.string H) 92 ∧ Below w.heap.size w W
theorem CB.new (w : World) (M O G H : ByteArray) : CB w (w.alloc (.cells #[.string M, .string O, .string G, .string H] 92)) M O G H := ⟨Bx4.new _ _ _ _ _ _, (Below.refl _ _).alloc (Nat.le_refl _) _⟩
theorem CB.next {w W W' : World} {M O G H : ByteArray} (h : CB w W M O G H) (hb : Below W.heap.size W W') : CB w W' M O G H := ⟨h.1.next hb, h.2.trans (hb.mono h.2.size)⟩
theorem nall_false {l : List ByteArray} {k : Nat} {s : ByteArray} (h : l[k]? = some s) (hv : nvalid s = false) : ¬ (l.all nvalid = true) := fun hall => by
  have := List.all_eq_true.1 hall s (List.mem_of_getElem? h)
  rw [hv] at this; cases this
theorem nall_true {l : List ByteArray} (h : ∀ k, k < l.length → ∃ s, l[k]? = some s ∧ nvalid s = true) : l.all nvalid = true := by
  rw [List.all_eq_true]
  intro s hs
  obtain ⟨k, hk⟩ := List.mem_iff_getElem?.1 hs
  obtain ⟨s', h1, h2⟩ := h k (List.getElem?_eq_some_iff.1 hk).1
  rw [hk] at h1
  cases h1
  exact h2
theorem hsF_lt {m k : Nat} {l : List UInt8} (hm : 0 < m) {b : Nat} : ∀ {n : Nat}, hsF m k l n = some b → b < m ∧ b ≠ 0 ∧ b ≠ 1
  | 0, h => by cases h
  | n + 1, h => by
    unfold hsF at h
    split at h
    · exact hsF_lt hm h
    · rename_i h2
      injection h with h
      subst h
      exact ⟨Nat.mod_lt _ hm, fun e => h2 (.inl e), fun e => h2 (.inr e)⟩
theorem hkN_lt {m q : Nat} {l : List UInt8} (hm : 0 < m) {b : Nat} (h : hkN m q l = some b) : b < m ∧ b ≠ 0 ∧ b ≠ 1 := by
  unfold hkN at h
  split at h
  · exact hsF_lt hm h
  · cases h
set_option maxRecDepth 100000 in
set_option maxHeartbeats 4000000 in
theorem ck_base (M O G H s : ByteArray) (p c : Int) (l : List ByteArray) (A : Option Addr) (n cap : Nat) (hM : M.size ≤ 8) (hO : O.size ≤ 100) (hG : G.size ≤ 1000) (hH : H.size ≤ 1000) (hs : s.size ≤ 10000) (hp : p < 9223372036854775808) (hp2 : -9223372036854775808 ≤ p) (hl : n ≤ 10) (hlz : ∀ x ∈ l, x.size ≤ 1000) (w : World) (hsl : SlN w A n cap l) (ht : T10 w) : Calls Tryz.prog 50 #[kV M O G H, .string s, .int .i64 p, .int .i64 c, .slice A n cap] w (Ret (bsR M O G H s.data.toList p c l) w) := by
  have HCK := Lib.hid (pk_CheckW M O G H hM hO hG hH)
  have hk := CB.new w M O G H
  obtain ⟨W0, hW0⟩ : ∃ W, w.alloc (.cells #[.string M, .string O, .string G, .string H] 92) = W := ⟨_, rfl⟩
  have HS := Lib.hid (show SlN W0 A n cap l from hW0 ▸ hsl.kept ((Below.refl _ _).alloc (Nat.le_refl _) _) (Nat.le_refl _))
  have HT := Lib.hid (show T10 W0 from hW0 ▸ ht.next ((Below.refl _ _).alloc (Nat.le_refl _) _))
  rw [hW0] at hk
  have HK := Lib.hid hk
  have HLZ := Lib.hid hlz
  have HLEN := Lib.hid hsl.1
  have hcap := hsl.2.1
  have hcap2 := hsl.2.2.1
  have hli : (n : Int) ≤ 10 := by omega
  have HM := Lib.hid hM
  have HO := Lib.hid hO
  have HSZ := Lib.hid hs
  have HPP := Lib.hid hp
  have HPQ := Lib.hid hp2
  obtain ⟨R, hR⟩ : ∃ R, bsR M O G H s.data.toList p c l = R := ⟨_, rfl⟩
  have HR := Lib.hid hR
  rw [hR]
  clear hR ht hsl hlz hM hO hG hH hs hk hp hp2
  unfold kV at *
  go_enter Tryz.func50, Tryz.ntmps50
  go_wp2
  try rw [hW0]
  clear hW0
  go_loopw [19] (fun i wr => ∃ k : Nat, k ≤ n ∧ i = .int .i64 k ∧ (∀ j, j < k → ∃ s, l[j]? = some s ∧ nvalid s = true) ∧ wr = W0) (fun i _ => n - (RowKit.intOf i).toNat)
  case atStart => exact ⟨0, Nat.zero_le _, rfl, fun j h => by omega, rfl⟩
  case round =>
    obtain ⟨k, hk, rfl, hall, rfl⟩ := hrel
    have HALL := Lib.hid hall
    clear hall
    by_cases hlt : k < n
    · obtain ⟨b, o, rfl⟩ := HS.out.head (by omega)
      obtain ⟨x, he⟩ : ∃ s, l[k]? = some s := ⟨_, List.getElem?_eq_getElem (by rw [HLEN.out]; exact hlt)⟩
      have d0 := HS.out.get? k he
      have HE := Lib.hid he
      have HV := Lib.hid (nat_Valid x (by have := HLZ.out x (List.mem_of_getElem? he); omega))
      have hki : (k : Int) < (n : Int) := by omega
      have HKN := Lib.hid hlt
      clear he hk hlt
      cases hv : nvalid x with
      | false =>
        rw [hv] at HV
        have HR3 := Lib.hid (show R = .tuple #[.string ⟨#[]⟩, .int .i64 3] from by rw [← HR.out]; unfold bsR; rw [if_neg (nall_false HE.out hv)])
        rw [HR3.out]
        clear hv
        go_wp2_with fail
        refine (HV.out _).mono ?_
        rintro ev w2 ⟨rfl, rfl⟩
        go_wp2
        go_ret2
        exact ⟨rfl, HK.out.2⟩
      | true =>
        rw [hv] at HV
        have HA2 := Lib.hid (show ∀ j, j < k + 1 → ∃ s, l[j]? = some s ∧ nvalid s = true from fun j hj => by
          by_cases e : j = k
          · subst e; exact ⟨x, HE.out, hv⟩
          · exact HALL.out j (by omega))
        clear hv
        go_wp2_with fail
        refine (HV.out _).mono ?_
        rintro ev w2 ⟨rfl, rfl⟩
        go_wp2
        refine ⟨⟨k + 1, by have := HKN.out; omega, by go_num, HA2.out, trivial⟩, ?_⟩
        have := HKN.out; simp [RowKit.intOf]; omega
    · have hkn : k = n := by omega
      have HAV := Lib.hid (show l.all nvalid = true from nall_true fun j hj => HALL.out j (by rw [HLEN.out] at hj; omega))
      have hge : ¬ ((k : Int) < (n : Int)) := by omega
      clear hkn hk hlt HALL HS
      obtain ⟨c0, c1, c2, c3⟩ := HK.out.1.cells
      go_wp2_with fail
      refine (HCK.out _).mono ?_
      rintro ev w1 ⟨rfl, hb⟩
      have HT := Lib.hid (HT.out.next hb)
      have hk := HK.out.next hb
      have HK := Lib.hid hk
      clear hb c0 c1 c2 c3
      obtain ⟨c0, c1, c2, c3⟩ := hk.1.cells
      clear hk
      obtain ⟨e, he⟩ : ∃ e, pkC M O G H = e := ⟨_, rfl⟩
      rw [he]
      by_cases h0 : e = 0
      · subst h0
        have ho8 := ord_small HM.out he
        have hv := pkC_kF he
        unfold kF at hv
        simp only [Bool.and_eq_true] at hv
        obtain ⟨⟨⟨v1, v2⟩, _⟩, _⟩ := hv
        by_cases hz : num O = 0
        · have HR1 := Lib.hid (show R = .tuple #[.string ⟨#[]⟩, .int .i64 1] from by rw [← HR.out]; unfold bsR; rw [if_pos HAV.out, if_pos he, if_pos hz])
          have hem : O.toList.isEmpty = true := by rw [nS_num v2, hz]; exact sempty_true rfl
          clear he ho8 v1 v2 hz
          go_wp2
          go_ret2
          exact ⟨by rw [HR1.out]; rfl, HK.out.2⟩
        · have hem : O.toList.isEmpty = false := by rw [nS_num v2]; exact empty_nS (by omega)
          have hlen : decide ((65536 : Int) < (s.size : Int)) = false := decide_eq_false (by have := HSZ.out; omega)
          by_cases hn : p < 0 ∨ c < 0
          · have HR2 := Lib.hid (show R = .tuple #[.string ⟨#[]⟩, .int .i64 2] from by rw [← HR.out]; unfold bsR; rw [if_pos HAV.out, if_pos he, if_neg hz, if_pos hn])
            clear he ho8 v1 v2 hz
            by_cases hp0 : p < 0
            · clear hn
              go_wp2
              go_ret2
              exact ⟨by rw [HR2.out]; rfl, HK.out.2⟩
            · have hc0 := hn.resolve_left hp0
              clear hn
              go_wp2
              go_ret2
              exact ⟨by rw [HR2.out]; rfl, HK.out.2⟩
          · have hp0 : ¬ (p < 0) := fun h => hn (.inl h)
            have hc0 : ¬ (c < 0) := fun h => hn (.inr h)
            obtain ⟨pn, hpn⟩ : ∃ n : Nat, p = (n : Int) := ⟨p.toNat, by omega⟩
            have hp63 : pn < 9223372036854775808 := by have := HPP.out; omega
            obtain ⟨sl, hsl⟩ : ∃ l, s.data.toList = l := ⟨_, rfl⟩
            have hse : s = bstr sl := by rw [← hsl]; exact (bstr_of s).symm
            have hll : sl.length ≤ 10000 := by rw [← hsl]; have : s.data.toList.length = s.size := Array.length_toList; rw [this]; exact HSZ.out
            have HRO := Lib.hid (show R = bsO M O pn sl from by rw [← HR.out, hsl]; unfold bsR; rw [if_pos HAV.out, if_pos he, if_neg hz, if_neg hn, hpn, Int.toNat_natCast])
            have hmz : ¬ (num M = 0 ∨ num O = 0) := (chkK_sizes (by
              unfold pkC at he
              split at he
              · cases he
              · split at he
                · assumption
                · exact he) hz).2.2
            have HHA := Lib.hid (pg_Hash M O (bstr (ctL pn sl)) HM.out (by omega) (ctL_size pn hp63 sl hll))
            rw [bstr_list, show hsR M O (ctL pn sl) = hsO (hkN (num M) (num O) (ctL pn sl)) from by unfold hsR; rw [if_pos ⟨v1, v2⟩, if_neg hmz, hsN_hk]] at HHA
            have HIT := Lib.hid (fun w h => sc_Itoa pn hp63 w h)
            have hadd := fun w => bs_add pn hp63 sl hll Tryz.prog w
            have hadd1 := fun w => (hadd w).1
            have hadd2 := fun w => (hadd w).2.1
            have hadd3 := fun w => (hadd w).2.2
            rw [← hse] at hadd3
            obtain ⟨t1, ht1⟩ : ∃ t, bstr (Lib.decDigits pn) = t := ⟨_, rfl⟩
            obtain ⟨t2, ht2⟩ : ∃ t, bstr ([99, 111, 117, 110, 116, 46] ++ Lib.decDigits pn) = t := ⟨_, rfl⟩
            obtain ⟨t3, ht3⟩ : ∃ t, bstr ([99, 111, 117, 110, 116, 46] ++ Lib.decDigits pn ++ [46]) = t := ⟨_, rfl⟩
            obtain ⟨t4, ht4⟩ : ∃ t, bstr (ctL pn sl) = t := ⟨_, rfl⟩
            rw [ht1, ht2] at hadd1
            rw [ht2, ht3] at hadd2
            rw [ht3, ht4] at hadd3
            rw [ht1] at HIT
            rw [ht4] at HHA
            have HHS := Lib.hid (fun x (hx : nvalid x = true) => pw_Has M O x HM.out ho8 hx)
            have HMZ := Lib.hid hmz
            have HV1 := Lib.hid v1
            rw [← hpn] at HIT
            clear ht1 ht2 ht3 ht4 hadd hse hsl hll hmz he v1 v2 hz hn ho8 hp63 HR hpn
            obtain ⟨wd, hwd⟩ : ∃ wd, w1.drew = wd := ⟨_, rfl⟩
            have HKD := Lib.hid (show CB w wd M O G H from by rw [← hwd]; exact ⟨HK.out.1, HK.out.2.drew⟩)
            have HTD := Lib.hid (show T10 wd from by rw [← hwd]; exact HT.out)
            obtain ⟨d0, d1, d2, d3⟩ := HKD.out.1.cells
            unfold gV at *
            have HA1 := Lib.hid hadd1
            have HA2 := Lib.hid hadd2
            have HA3 := Lib.hid hadd3
            clear hadd1 hadd2 hadd3
            go_wp2
            have hadd1 := HA1.out
            have hadd2 := HA2.out
            have hadd3 := HA3.out
            obtain ⟨o, ho⟩ : ∃ o, hkN (num M) (num O) (ctL pn sl) = o := ⟨_, rfl⟩
            rw [ho] at HHA
            have HLT := Lib.hid (fun b (h : o = some b) => hkN_lt (show 0 < num M by have := HMZ.out; omega) (ho.trans h))
            have HBO := Lib.hid (show bsO M O pn sl = bsP M O o from by unfold bsO; rw [ho])
            clear ho
            obtain ⟨rs, re, hre⟩ := hsO_parts o
            rw [hre] at HHA
            have HRE := Lib.hid hre
            clear hre
            refine wp_region_K 15 (Below (wd).heap.size (wd)) (by kernel_rfl) ?_
            intro hD
            rw [hwd]
            refine wpAnyK_pureD (i := 0) (d := some 51) (v := ?v16_0b1) (fuel := 14) rfl (by kernel_rfl) (by kernel_rfl) (fun _ _ _ h => h) hD (Below.refl _ _) (.inl ⟨by kernel_rfl, ?y16_0b1⟩) ?n16_0b1
            case y16_0b1 => intro w' _; go_simp; with_reducible rfl
            clear hD; intro hD
            simp only [Act.put, sqA, sqB, sqC]
            refine wpAnyK_pureD (i := 1) (d := some 52) (v := ?v16_1b1) (fuel := 13) rfl (by kernel_rfl) (by kernel_rfl) (fun _ _ _ h => h) hD (Below.refl _ _) (.inl ⟨by kernel_rfl, ?y16_1b1⟩) ?n16_1b1
            case y16_1b1 => intro w' _; go_simp; with_reducible rfl
            clear hD; intro hD
            simp only [Act.put, sqA, sqB, sqC]
            refine wpAnyK_takeSD (i := 2) (d := some 53) (v := ?v16_2b1) (fuel := 12) rfl (by kernel_rfl) (by kernel_rfl) (by kernel_rfl) (fun _ _ _ h => h) hD (Below.refl _ _) (.inl ⟨by kernel_rfl, ?y16_2b1⟩) ?n16_2b1
            case y16_2b1 => intro w' hS'; have e0 := cell_kept hS' (Nat.le_refl _) d0; have e1 := cell_kept hS' (Nat.le_refl _) d1; have e2 := cell_kept hS' (Nat.le_refl _) d2; have e3 := cell_kept hS' (Nat.le_refl _) d3; go_simp; with_reducible rfl
            clear hD; intro hD
            simp only [Act.put, sqA, sqB, sqC]
            refine wpAnyK_pureD (i := 3) (d := some 54) (v := ?v16_3b1) (fuel := 11) rfl (by kernel_rfl) (by kernel_rfl) (fun _ _ _ h => h) hD (Below.refl _ _) (.inl ⟨by kernel_rfl, ?y16_3b1⟩) ?n16_3b1
            case y16_3b1 => intro w' _; go_simp; with_reducible rfl
            clear hD; intro hD
            simp only [Act.put, sqA, sqB, sqC]
            refine wpAnyK_pureD (i := 7) (d := some 58) (v := ?v16_7b1) (fuel := 10) rfl (by kernel_rfl) (by kernel_rfl) (fun _ _ _ h => h) hD (Below.refl _ _) (.inl ⟨by kernel_rfl, ?y16_7b1⟩) ?n16_7b1
            case y16_7b1 => intro w' _; go_simp; with_reducible rfl
            clear hD; intro hD
            simp only [Act.put, sqA, sqB, sqC]
            refine wpAnyK_one (i := 4) (fuel := 9) (by kernel_rfl) rfl hD ?_
            clear hD; intro K4 hK4
            go_wp2_with fail
            refine (HIT.out _ HTD.out).mono ?_
            rintro ev w3 ⟨rfl, hb3⟩
            have HB4 := Lib.hid hb3
            clear hb3
            go_wp2
            refine hK4 _ _ (by exact HB4.out) ?_; clear hK4; intro hS_16_4 hD
            refine wpAnyK_pureD (i := 5) (d := some 56) (v := ?v16_5b1) (fuel := 8) rfl (by kernel_rfl) (by kernel_rfl) (fun _ _ _ h => h) hD hS_16_4 (.inl ⟨by kernel_rfl, ?y16_5b1⟩) ?n16_5b1
            case y16_5b1 => intro w' _; go_simp; with_reducible rfl
            clear hD; intro hD
            simp only [Act.put, sqA, sqB, sqC]
            refine wpAnyK_pureD (i := 6) (d := some 57) (v := ?v16_6b1) (fuel := 7) rfl (by kernel_rfl) (by kernel_rfl) (fun _ _ _ h => h) hD hS_16_4 (.inl ⟨by kernel_rfl, ?y16_6b1⟩) ?n16_6b1
            case y16_6b1 => intro w' _; go_simp; with_reducible rfl
            clear hD; intro hD
            simp only [Act.put, sqA, sqB, sqC]
            refine wpAnyK_pureD (i := 8) (d := some 59) (v := ?v16_8b1) (fuel := 6) rfl (by kernel_rfl) (by kernel_rfl) (fun _ _ _ h => h) hD hS_16_4 (.inl ⟨by kernel_rfl, ?y16_8b1⟩) ?n16_8b1
            case y16_8b1 => intro w' _; go_simp; with_reducible rfl
            clear hD; intro hD
            simp only [Act.put, sqA, sqB, sqC]
            refine wpAnyK_one (i := 9) (fuel := 5) (by kernel_rfl) rfl hD ?_
            clear hD; intro K9 hK9
            go_wp2_with fail
            refine (HHA.out _).mono ?_
            rintro ev w4 ⟨rfl, hb4⟩
            have HB9 := Lib.hid hb4
            clear hb4
            go_wp2
            refine hK9 _ _ (by exact Below.trans hS_16_4 (Below.mono HB9.out (Below.size hS_16_4))) ?_; clear hK9; intro hS_16_9 hD
            refine wpAnyK_pureD (i := 10) (d := some 50) (v := ?v16_10b1) (fuel := 4) rfl (by kernel_rfl) (by kernel_rfl) (fun _ _ _ h => h) hD hS_16_9 (.inl ⟨by kernel_rfl, ?y16_10b1⟩) ?n16_10b1
            case y16_10b1 => intro w' _; go_simp; with_reducible rfl
            clear hD; intro hD
            simp only [Act.put, sqA, sqB, sqC]
            refine wpAnyK_pureD (i := 11) (d := some 61) (v := ?v16_11b1) (fuel := 3) rfl (by kernel_rfl) (by kernel_rfl) (fun _ _ _ h => h) hD hS_16_9 (.inl ⟨by kernel_rfl, ?y16_11b1⟩) ?n16_11b1
            case y16_11b1 => intro w' _; go_simp; with_reducible rfl
            clear hD; intro hD
            simp only [Act.put, sqA, sqB, sqC]
            refine wpAnyK_pureD (i := 12) (d := some 62) (v := ?v16_12b1) (fuel := 2) rfl (by kernel_rfl) (by kernel_rfl) (fun _ _ _ h => h) hD hS_16_9 (.inl ⟨by kernel_rfl, ?y16_12b1⟩) ?n16_12b1
            case y16_12b1 => intro w' _; go_simp; with_reducible rfl
            clear hD; intro hD
            simp only [Act.put, sqA, sqB, sqC]
            refine wpAnyK_one (i := 13) (fuel := 1) (by kernel_rfl) rfl hD ?_
            clear hD; intro K13 hK13
            go_wp2
            refine hK13 _ _ (by exact hS_16_9) ?_; clear hK13; intro hS_16_13 hD
            refine wpAnyK_one (i := 14) (fuel := 0) (by kernel_rfl) rfl hD ?_
            clear hD; intro K14 hK14
            go_wp2
            refine hK14 _ _ (by exact hS_16_13) ?_; clear hK14; intro hS_16_14 hD
            have HLL := Lib.hid hS_16_14
            refine wpAnyK_done (by kernel_rfl) ?_ 0
            clear hD
            clear hadd1 hadd2 hadd3 d0 d1 d2 d3
            have hk := HKD.out.next HLL.out
            have HKL := Lib.hid hk
            obtain ⟨c0, c1, c2, c3⟩ := hk.1.cells
            clear hk
            cases o with
            | none =>
              obtain ⟨rfl, rfl⟩ : rs = ⟨#[]⟩ ∧ re = 13 := by
                have h := HRE.out
                simp only [hsO] at h
                injection h with h
                have h := congrArg Array.toList h
                simp at h
                exact ⟨h.1.symm, h.2.symm⟩
              go_wp2
              go_ret2
              exact ⟨by rw [HRO.out, HBO.out]; rfl, HKL.out.2⟩
            | some b =>
              obtain ⟨rfl, rfl⟩ : rs = nS b ∧ re = 0 := by
                have h := HRE.out
                simp only [hsO] at h
                injection h with h
                have h := congrArg Array.toList h
                simp at h
                exact ⟨h.1.symm, h.2.symm⟩
              have hb := HLT.out b rfl
              have hv := nvalid_nS.2 (show b < 256 ^ 128 from by
                have := num_small HM.out
                exact lt128_of_lt8 (by omega))
              have HH := Lib.hid (HHS.out (nS b) hv)
              cases hh : hasK M O (nS b) with
              | false =>
                have HB2 := Lib.hid (show bsP M O (some b) = .tuple #[.string ⟨#[]⟩, .int .i64 13] from by unfold bsP; simp only [hh]; rfl)
                rw [hh] at HH
                obtain ⟨sb, hsb⟩ : ∃ x, nS b = x := ⟨_, rfl⟩
                rw [hsb] at HH ⊢
                clear hh hb hv hsb
                go_wp2_with fail
                refine (HH.out _).mono ?_
                rintro ev w5 ⟨rfl, hb5⟩
                have HK5 := Lib.hid (HKL.out.next hb5)
                clear hb5 c0 c1 c2 c3
                go_wp2
                go_ret2
                exact ⟨by rw [HRO.out, HBO.out, HB2.out]; rfl, HK5.out.2⟩
              | true =>
                have HB2 := Lib.hid (show bsP M O (some b) = .tuple #[.string (nS b), .int .i64 0] from by unfold bsP; simp only [hh]; rfl)
                rw [hh] at HH
                obtain ⟨sb, hsb⟩ : ∃ x, nS b = x := ⟨_, rfl⟩
                have HSB := Lib.hid hsb
                rw [hsb] at HH ⊢
                clear hh hb hv hsb
                go_wp2_with fail
                refine (HH.out _).mono ?_
                rintro ev w5 ⟨rfl, hb5⟩
                have HK5 := Lib.hid (HKL.out.next hb5)
                clear hb5 c0 c1 c2 c3
                go_wp2
                go_ret2
                exact ⟨by rw [HRO.out, HBO.out, HB2.out, HSB.out]; rfl, HK5.out.2⟩
      · have HRE := Lib.hid (show R = .tuple #[.string ⟨#[]⟩, .int .i64 e] from by rw [← HR.out]; unfold bsR; rw [if_pos HAV.out, if_neg (by rw [he]; exact h0), he])
        clear he
        go_wp2
        go_ret2
        exact ⟨by rw [HRE.out]; rfl, HK.out.2⟩
end Go.Proofs.YtpdejgdkpghjhaaGreatDoor
/- Plain laws of PedersenHides: the powers of an element of order q, counted. -/
set_option linter.unusedVariables false
set_option linter.unusedSimpArgs false
namespace Go.Proofs.YtpdejgdkpghjhaaGreatDoor
theorem pow_red {a m q : Nat} (hm : 1 < m) (ha : a ^ q % m = 1) (A : Nat) : a ^ A % m = a ^ (A % q) % m := by
  conv => lhs; rw [← Nat.mod_add_div A q, Nat.pow_add, Nat.pow_mul, Nat.mul_mod, Nat.pow_mod (a ^ q), ha, Nat.one_pow, Nat.mod_eq_of_lt hm, Nat.mul_one, Nat.mod_mod]
end Go.Proofs.YtpdejgdkpghjhaaGreatDoor

/- Walk: dominoref49.base (printed by mkct.py out of CtD). -/
import Derived.Test.YtpdejgdkpghjhaaGreatDoorQCtD
import Derived.Test.YtpdejgdkpghjhaaGreatDoorQPeN
set_option linter.unusedVariables false
set_option linter.unusedSimpArgs false
namespace Go.Proofs.YtpdejgdkpghjhaaGreatDoor
open Go.RowKit Go.Lib
set_option maxRecDepth 100000 in
set_option maxHeartbeats 4000000 in
theorem r49_base (M O G H s : ByteArray) (p c : Int) (l : List ByteArray) (A : Option Addr) (n cap : Nat) (hM : M.size ≤ 8) (hO : O.size ≤ 100) (hG : G.size ≤ 1000) (hH : H.size ≤ 1000) (hs : s.size ≤ 10000) (hp : p < 9223372036854775808) (hp2 : -9223372036854775808 ≤ p) (hl : n ≤ 10) (hlz : ∀ x ∈ l, x.size ≤ 1000) (w : World) (hsl : SlN w A n cap l) (ht : T10 w) : Calls Tryz.prog 51 #[kV M O G H, .string s, .int .i64 p, .int .i64 c, .slice A n cap] w (Ret (bsR M O G H s.data.toList p c l) w) := by
  have HCK := Lib.hid (r14_CheckW M O G H hM hO hG hH)
  have hk := KB.new w M O G H
  obtain ⟨W0, hW0⟩ : ∃ W, w.alloc (.cells #[.string M, .string O, .string G, .string H] 26) = W := ⟨_, rfl⟩
  have HS := Lib.hid (show SlN W0 A n cap l from hW0 ▸ hsl.kept ((Below.refl _ _).alloc (Nat.le_refl _) _) (Nat.le_refl _))
  have HT := Lib.hid (show T10 W0 from hW0 ▸ ht.next ((Below.refl _ _).alloc (Nat.le_refl _) _))
  rw [hW0] at hk
  have HK := Lib.hid hk
  have HLZ := Lib.hid hlz
  have HLEN := Lib.hid hsl.1
  have hcap := hsl.2.1
  have hcap2 := hsl.2.2.1
  have hli : (n : Int) ≤ 10 := by omega
  have HM := Lib.hid hM
  have HO := Lib.hid hO
  have HSZ := Lib.hid hs
  have HPP := Lib.hid hp
  have HPQ := Lib.hid hp2
  obtain ⟨R, hR⟩ : ∃ R, bsR M O G H s.data.toList p c l = R := ⟨_, rfl⟩
  have HR := Lib.hid hR
  rw [hR]
  clear hR ht hsl hlz hM hO hG hH hs hk hp hp2
  unfold kV at *
  go_enter Tryz.func51, Tryz.ntmps51
  go_wp2
  try rw [hW0]
  clear hW0
  go_loopw [12] (fun i wr => ∃ k : Nat, k ≤ n ∧ i = .int .i64 k ∧ (∀ j, j < k → ∃ s, l[j]? = some s ∧ nvalid s = true) ∧ wr = W0) (fun i _ => n - (RowKit.intOf i).toNat)
  case atStart => exact ⟨0, Nat.zero_le _, rfl, fun j h => by omega, rfl⟩
  case round =>
    obtain ⟨k, hk, rfl, hall, rfl⟩ := hrel
    have HALL := Lib.hid hall
    clear hall
    by_cases hlt : k < n
    · obtain ⟨b, o, rfl⟩ := HS.out.head (by omega)
      obtain ⟨x, he⟩ : ∃ s, l[k]? = some s := ⟨_, List.getElem?_eq_getElem (by rw [HLEN.out]; exact hlt)⟩
      have d0 := HS.out.get? k he
      have HE := Lib.hid he
      have HV := Lib.hid (r01_Valid x (by have := HLZ.out x (List.mem_of_getElem? he); omega))
      have hki : (k : Int) < (n : Int) := by omega
      have HKN := Lib.hid hlt
      clear he hk hlt
      cases hv : nvalid x with
      | false =>
        rw [hv] at HV
        have HR3 := Lib.hid (show R = .tuple #[.string ⟨#[]⟩, .int .i64 3] from by rw [← HR.out]; unfold bsR; rw [if_neg (nall_false HE.out hv)])
        rw [HR3.out]
        clear hv
        go_wp2_with fail
        refine (HV.out _).mono ?_
        rintro ev w2 ⟨rfl, rfl⟩
        go_wp2
        go_ret2
        exact ⟨rfl, HK.out.2⟩
      | true =>
        rw [hv] at HV
        have HA2 := Lib.hid (show ∀ j, j < k + 1 → ∃ s, l[j]? = some s ∧ nvalid s = true from fun j hj => by
          by_cases e : j = k
          · subst e; exact ⟨x, HE.out, hv⟩
          · exact HALL.out j (by omega))
        clear hv
        go_wp2_with fail
        refine (HV.out _).mono ?_
        rintro ev w2 ⟨rfl, rfl⟩
        go_wp2
        refine ⟨⟨k + 1, by have := HKN.out; omega, by go_num, HA2.out, trivial⟩, ?_⟩
        have := HKN.out; simp [RowKit.intOf]; omega
    · have hkn : k = n := by omega
      have HAV := Lib.hid (show l.all nvalid = true from nall_true fun j hj => HALL.out j (by rw [HLEN.out] at hj; omega))
      have hge : ¬ ((k : Int) < (n : Int)) := by omega
      clear hkn hk hlt HALL HS
      obtain ⟨c0, c1, c2, c3⟩ := HK.out.1.cells
      go_wp2_with fail
      refine (HCK.out _).mono ?_
      rintro ev w1 ⟨rfl, hb⟩
      have HT := Lib.hid (HT.out.next hb)
      have hk := HK.out.next hb
      have HK := Lib.hid hk
      clear hb c0 c1 c2 c3
      obtain ⟨c0, c1, c2, c3⟩ := hk.1.cells
      clear hk
      obtain ⟨e, he⟩ : ∃ e, pkC M O G H = e := ⟨_, rfl⟩
      rw [he]
      by_cases h0 : e = 0
      · subst h0
        have ho8 := ord_small HM.out he
        have hv := pkC_kF he
        unfold kF at hv
        simp only [Bool.and_eq_true] at hv
        obtain ⟨⟨⟨v1, v2⟩, _⟩, _⟩ := hv
        by_cases hz : num O = 0
        · have HR1 := Lib.hid (show R = .tuple #[.string ⟨#[]⟩, .int .i64 1] from by rw [← HR.out]; unfold bsR; rw [if_pos HAV.out, if_pos he, if_pos hz])
          have hem : O.toList.isEmpty = true := by rw [nS_num v2, hz]; exact sempty_true rfl
          clear he ho8 v1 v2 hz
          go_wp2
          go_ret2
          exact ⟨by rw [HR1.out]; rfl, HK.out.2⟩
        · have hem : O.toList.isEmpty = false := by rw [nS_num v2]; exact empty_nS (by omega)
          have hlen : decide ((65536 : Int) < (s.size : Int)) = false := decide_eq_false (by have := HSZ.out; omega)
          by_cases hn : p < 0 ∨ c < 0
          · have HR2 := Lib.hid (show R = .tuple #[.string ⟨#[]⟩, .int .i64 2] from by rw [← HR.out]; unfold bsR; rw [if_pos HAV.out, if_pos he, if_neg hz, if_pos hn])
            clear he ho8 v1 v2 hz
            by_cases hp0 : p < 0
            · clear hn
              go_wp2
              go_ret2
              exact ⟨by rw [HR2.out]; rfl, HK.out.2⟩
            · have hc0 := hn.resolve_left hp0
              clear hn
              go_wp2
              go_ret2
              exact ⟨by rw [HR2.out]; rfl, HK.out.2⟩
          · have hp0 : ¬ (p < 0) := fun h => hn (.inl h)
            have hc0 : ¬ (c < 0) := fun h => hn (.inr h)
            obtain ⟨pn, hpn⟩ : ∃ n : Nat, p = (n : Int) := ⟨p.toNat, by omega⟩
            have hp63 : pn < 9223372036854775808 := by have := HPP.out; omega
            obtain ⟨sl, hsl⟩ : ∃ l, s.data.toList = l := ⟨_, rfl⟩
            have hse : s = bstr sl := by rw [← hsl]; exact (bstr_of s).symm
            have hll : sl.length ≤ 10000 := by rw [← hsl]; have : s.data.toList.length = s.size := Array.length_toList; rw [this]; exact HSZ.out
            have HRO := Lib.hid (show R = bsO M O pn sl from by rw [← HR.out, hsl]; unfold bsR; rw [if_pos HAV.out, if_pos he, if_neg hz, if_neg hn, hpn, Int.toNat_natCast])
            have hmz : ¬ (num M = 0 ∨ num O = 0) := (chkK_sizes (by
              unfold pkC at he
              split at he
              · cases he
              · split at he
                · assumption
                · exact he) hz).2.2
            have HHA := Lib.hid (r09_Hash M O (bstr (ctL pn sl)) HM.out (by omega) (ctL_size pn hp63 sl hll))
            rw [bstr_list, show hsR M O (ctL pn sl) = hsO (hkN (num M) (num O) (ctL pn sl)) from by unfold hsR; rw [if_pos ⟨v1, v2⟩, if_neg hmz, hsN_hk]] at HHA
            have HIT := Lib.hid (r49_decimal pn hp63)
            have hadd := fun w => bs_add pn hp63 sl hll Tryz.prog w
            have hadd1 := fun w => (hadd w).1
            have hadd2 := fun w => (hadd w).2.1
            have hadd3 := fun w => (hadd w).2.2
            rw [← hse] at hadd3
            obtain ⟨t1, ht1⟩ : ∃ t, bstr (Lib.decDigits pn) = t := ⟨_, rfl⟩
            obtain ⟨t2, ht2⟩ : ∃ t, bstr ([99, 111, 117, 110, 116, 46] ++ Lib.decDigits pn) = t := ⟨_, rfl⟩
            obtain ⟨t3, ht3⟩ : ∃ t, bstr ([99, 111, 117, 110, 116, 46] ++ Lib.decDigits pn ++ [46]) = t := ⟨_, rfl⟩
            obtain ⟨t4, ht4⟩ : ∃ t, bstr (ctL pn sl) = t := ⟨_, rfl⟩
            rw [ht1, ht2] at hadd1
            rw [ht2, ht3] at hadd2
            rw [ht3, ht4] at hadd3
            rw [ht1] at HIT
            rw [ht4] at HHA
            have HHS := Lib.hid (fun x (hx : nvalid x = true) => r13_Has M O x HM.out ho8 hx)
            have HMZ := Lib.hid hmz
            have HV1 := Lib.hid v1
            rw [← hpn] at HIT
            clear ht1 ht2 ht3 ht4 hadd hse hsl hll hmz he v1 v2 hz hn ho8 hp63 HR hpn
            obtain ⟨wd, hwd⟩ : ∃ wd, w1.drew = wd := ⟨_, rfl⟩
            have HKD := Lib.hid (show KB w wd M O G H from by rw [← hwd]; exact ⟨HK.out.1, HK.out.2.drew⟩)
            have HTD := Lib.hid (show T10 wd from by rw [← hwd]; exact HT.out)
            obtain ⟨d0, d1, d2, d3⟩ := HKD.out.1.cells
            unfold gV at *
            have HA1 := Lib.hid hadd1
            have HA2 := Lib.hid hadd2
            have HA3 := Lib.hid hadd3
            clear hadd1 hadd2 hadd3
            go_wp2
            have hadd1 := HA1.out
            have hadd2 := HA2.out
            have hadd3 := HA3.out
            obtain ⟨o, ho⟩ : ∃ o, hkN (num M) (num O) (ctL pn sl) = o := ⟨_, rfl⟩
            rw [ho] at HHA
            have HLT := Lib.hid (fun b (h : o = some b) => hkN_lt (show 0 < num M by have := HMZ.out; omega) (ho.trans h))
            have HBO := Lib.hid (show bsO M O pn sl = bsP M O o from by unfold bsO; rw [ho])
            clear ho
            obtain ⟨rs, re, hre⟩ := hsO_parts o
            rw [hre] at HHA
            have HRE := Lib.hid hre
            clear hre
            refine wp_region_K 14 (Below (wd).heap.size (wd)) (by kernel_rfl) ?_
            intro hD
            rw [hwd]
            refine wpAnyK_pureD (i := 0) (d := some 47) (v := ?v15_0b1) (fuel := 13) rfl (by kernel_rfl) (by kernel_rfl) (fun _ _ _ h => h) hD (Below.refl _ _) (.inl ⟨by kernel_rfl, ?y15_0b1⟩) ?n15_0b1
            case y15_0b1 => intro w' _; go_simp; with_reducible rfl
            clear hD; intro hD
            simp only [Act.put, sqA, sqB, sqC]
            refine wpAnyK_takeSD (i := 1) (d := some 48) (v := ?v15_1b1) (fuel := 12) rfl (by kernel_rfl) (by kernel_rfl) (by kernel_rfl) (fun _ _ _ h => h) hD (Below.refl _ _) (.inl ⟨by kernel_rfl, ?y15_1b1⟩) ?n15_1b1
            case y15_1b1 => intro w' hS'; have e0 := cell_kept hS' (Nat.le_refl _) d0; have e1 := cell_kept hS' (Nat.le_refl _) d1; have e2 := cell_kept hS' (Nat.le_refl _) d2; have e3 := cell_kept hS' (Nat.le_refl _) d3; go_simp; with_reducible rfl
            clear hD; intro hD
            simp only [Act.put, sqA, sqB, sqC]
            refine wpAnyK_pureD (i := 2) (d := some 49) (v := ?v15_2b1) (fuel := 11) rfl (by kernel_rfl) (by kernel_rfl) (fun _ _ _ h => h) hD (Below.refl _ _) (.inl ⟨by kernel_rfl, ?y15_2b1⟩) ?n15_2b1
            case y15_2b1 => intro w' _; go_simp; with_reducible rfl
            clear hD; intro hD
            simp only [Act.put, sqA, sqB, sqC]
            refine wpAnyK_pureD (i := 6) (d := some 53) (v := ?v15_6b1) (fuel := 10) rfl (by kernel_rfl) (by kernel_rfl) (fun _ _ _ h => h) hD (Below.refl _ _) (.inl ⟨by kernel_rfl, ?y15_6b1⟩) ?n15_6b1
            case y15_6b1 => intro w' _; go_simp; with_reducible rfl
            clear hD; intro hD
            simp only [Act.put, sqA, sqB, sqC]
            refine wpAnyK_one (i := 3) (fuel := 9) (by kernel_rfl) rfl hD ?_
            clear hD; intro K3 hK3
            go_wp2_with fail
            refine (HIT.out _).mono ?_
            rintro ev w3 ⟨rfl, hb3⟩
            have HB3 := Lib.hid hb3
            clear hb3
            go_wp2
            refine hK3 _ _ (by exact HB3.out) ?_; clear hK3; intro hS_15_3 hD
            refine wpAnyK_pureD (i := 4) (d := some 51) (v := ?v15_4b1) (fuel := 8) rfl (by kernel_rfl) (by kernel_rfl) (fun _ _ _ h => h) hD hS_15_3 (.inl ⟨by kernel_rfl, ?y15_4b1⟩) ?n15_4b1
            case y15_4b1 => intro w' _; go_simp; with_reducible rfl
            clear hD; intro hD
            simp only [Act.put, sqA, sqB, sqC]
            refine wpAnyK_pureD (i := 5) (d := some 52) (v := ?v15_5b1) (fuel := 7) rfl (by kernel_rfl) (by kernel_rfl) (fun _ _ _ h => h) hD hS_15_3 (.inl ⟨by kernel_rfl, ?y15_5b1⟩) ?n15_5b1
            case y15_5b1 => intro w' _; go_simp; with_reducible rfl
            clear hD; intro hD
            simp only [Act.put, sqA, sqB, sqC]
            refine wpAnyK_pureD (i := 7) (d := some 54) (v := ?v15_7b1) (fuel := 6) rfl (by kernel_rfl) (by kernel_rfl) (fun _ _ _ h => h) hD hS_15_3 (.inl ⟨by kernel_rfl, ?y15_7b1⟩) ?n15_7b1
            case y15_7b1 => intro w' _; go_simp; with_reducible rfl
            clear hD; intro hD
            simp only [Act.put, sqA, sqB, sqC]
            refine wpAnyK_one (i := 8) (fuel := 5) (by kernel_rfl) rfl hD ?_
            clear hD; intro K8 hK8
            go_wp2_with fail
            refine (HHA.out _).mono ?_
            rintro ev w4 ⟨rfl, hb4⟩
            have HB8 := Lib.hid hb4
            clear hb4
            go_wp2
            refine hK8 _ _ (by exact Below.trans hS_15_3 (Below.mono HB8.out (Below.size hS_15_3))) ?_; clear hK8; intro hS_15_8 hD
            refine wpAnyK_pureD (i := 9) (d := some 46) (v := ?v15_9b1) (fuel := 4) rfl (by kernel_rfl) (by kernel_rfl) (fun _ _ _ h => h) hD hS_15_8 (.inl ⟨by kernel_rfl, ?y15_9b1⟩) ?n15_9b1
            case y15_9b1 => intro w' _; go_simp; with_reducible rfl
            clear hD; intro hD
            simp only [Act.put, sqA, sqB, sqC]
            refine wpAnyK_pureD (i := 10) (d := some 56) (v := ?v15_10b1) (fuel := 3) rfl (by kernel_rfl) (by kernel_rfl) (fun _ _ _ h => h) hD hS_15_8 (.inl ⟨by kernel_rfl, ?y15_10b1⟩) ?n15_10b1
            case y15_10b1 => intro w' _; go_simp; with_reducible rfl
            clear hD; intro hD
            simp only [Act.put, sqA, sqB, sqC]
            refine wpAnyK_pureD (i := 11) (d := some 57) (v := ?v15_11b1) (fuel := 2) rfl (by kernel_rfl) (by kernel_rfl) (fun _ _ _ h => h) hD hS_15_8 (.inl ⟨by kernel_rfl, ?y15_11b1⟩) ?n15_11b1
            case y15_11b1 => intro w' _; go_simp; with_reducible rfl
            clear hD; intro hD
            simp only [Act.put, sqA, sqB, sqC]
            refine wpAnyK_one (i := 12) (fuel := 1) (by kernel_rfl) rfl hD ?_
            clear hD; intro K12 hK12
            go_wp2
            refine hK12 _ _ (by exact hS_15_8) ?_; clear hK12; intro hS_15_12 hD
            refine wpAnyK_one (i := 13) (fuel := 0) (by kernel_rfl) rfl hD ?_
            clear hD; intro K13 hK13
            go_wp2
            refine hK13 _ _ (by exact hS_15_12) ?_; clear hK13; intro hS_15_13 hD
            have HLL := Lib.hid hS_15_13
            refine wpAnyK_done (by kernel_rfl) ?_ 0
            clear hD
            clear hadd1 hadd2 hadd3 d0 d1 d2 d3
            have hk := HKD.out.next HLL.out
            have HKL := Lib.hid hk
            obtain ⟨c0, c1, c2, c3⟩ := hk.1.cells
            clear hk
            cases o with
            | none =>
              obtain ⟨rfl, rfl⟩ : rs = ⟨#[]⟩ ∧ re = 13 := by
                have h := HRE.out
                simp only [hsO] at h
                injection h with h
                have h := congrArg Array.toList h
                simp at h
                exact ⟨h.1.symm, h.2.symm⟩
              go_wp2
              go_ret2
              exact ⟨by rw [HRO.out, HBO.out]; rfl, HKL.out.2⟩
            | some b =>
              obtain ⟨rfl, rfl⟩ : rs = nS b ∧ re = 0 := by
                have h := HRE.out
                simp only [hsO] at h
                injection h with h
                have h := congrArg Array.toList h
                simp at h
                exact ⟨h.1.symm, h.2.symm⟩
              have hb := HLT.out b rfl
              have hv := nvalid_nS.2 (show b < 256 ^ 128 from by
                have := num_small HM.out
                exact lt128_of_lt8 (by omega))
              have HH := Lib.hid (HHS.out (nS b) hv)
              cases hh : hasK M O (nS b) with
              | false =>
                have HB2 := Lib.hid (show bsP M O (some b) = .tuple #[.string ⟨#[]⟩, .int .i64 13] from by unfold bsP; simp only [hh]; rfl)
                rw [hh] at HH
                obtain ⟨sb, hsb⟩ : ∃ x, nS b = x := ⟨_, rfl⟩
                rw [hsb] at HH ⊢
                clear hh hb hv hsb
                go_wp2_with fail
                refine (HH.out _).mono ?_
                rintro ev w5 ⟨rfl, hb5⟩
                have HK5 := Lib.hid (HKL.out.next hb5)
                clear hb5 c0 c1 c2 c3
                go_wp2
                go_ret2
                exact ⟨by rw [HRO.out, HBO.out, HB2.out]; rfl, HK5.out.2⟩
              | true =>
                have HB2 := Lib.hid (show bsP M O (some b) = .tuple #[.string (nS b), .int .i64 0] from by unfold bsP; simp only [hh]; rfl)
                rw [hh] at HH
                obtain ⟨sb, hsb⟩ : ∃ x, nS b = x := ⟨_, rfl⟩
                have HSB := Lib.hid hsb
                rw [hsb] at HH ⊢
                clear hh hb hv hsb
                go_wp2_with fail
                refine (HH.out _).mono ?_
                rintro ev w5 ⟨rfl, hb5⟩
                have HK5 := Lib.hid (HKL.out.next hb5)
                clear hb5 c0 c1 c2 c3
                go_wp2
                go_ret2
                exact ⟨by rw [HRO.out, HBO.out, HB2.out, HSB.out]; rfl, HK5.out.2⟩
      · have HRE := Lib.hid (show R = .tuple #[.string ⟨#[]⟩, .int .i64 e] from by rw [← HR.out]; unfold bsR; rw [if_pos HAV.out, if_neg (by rw [he]; exact h0), he])
        clear he
        go_wp2
        go_ret2
        exact ⟨by rw [HRE.out]; rfl, HK.out.2⟩
end Go.Proofs.YtpdejgdkpghjhaaGreatDoor
/- Walks: dominoref02.Extended of any two numbers, dominoref03.Inverse where there is none (printed by mkcf.py out of PeM). -/
set_option linter.unusedVariables false
set_option linter.unusedSimpArgs false
namespace Go.Proofs.YtpdejgdkpghjhaaGreatDoor
open Go.RowKit
def RetExG (g : Nat) (w : World) (e : Ending) (w' : World) : Prop := ∃ (rb : Bool) (rs : ByteArray) (zb : Bool) (zs : ByteArray), e = .returned (.tuple #[.string (nS g), .agg #[.bool rb, .string rs], .agg #[.bool zb, .string zs], .int .i64 0]) ∧ Below w.heap.size w w'
set_option maxRecDepth 100000 in
set_option maxHeartbeats 4000000 in
theorem r02_ExtendedG (a b g m k : Nat) (hab : a < b) (hb : b < 18446744073709551616) (hg : Nat.gcd a b = g) (hg0 : 0 < g) (hgl : g ≤ b) (hm : b / g = m) (hm2 : b % g = 0) (hm0 : 0 < m) (hml : m ≤ b) (hk : a / g = k) (hk2 : a % g = 0) (hkl : k ≤ a) (w : World) : Calls Tryz.prog 126 #[.string (nS a), .string (nS b)] w (RetExG g w) := by
  have ha : a < 18446744073709551616 := by omega
  have HV1 := Lib.hid (r01_Valid (nS a) (by have := nS_small_size ha; omega))
  have HV2 := Lib.hid (r01_Valid (nS b) (by have := nS_small_size hb; omega))
  rw [nvalid_nS.2 (lt128_of_lt8 ha)] at HV1
  rw [nvalid_nS.2 (lt128_of_lt8 hb)] at HV2
  have HBZ := Lib.hid (r02_bezout (b + 1) a b (by omega) ha hb)
  have HD1 := Lib.hid (r01_DivMod b g (lt128_of_lt8 hb) (lt128_of_lt8 (by omega)) hg0)
  have HD2 := Lib.hid (r01_DivMod a g (lt128_of_lt8 ha) (lt128_of_lt8 (by omega)) hg0)
  rw [hm, hm2] at HD1
  rw [hk, hk2] at HD2
  have hm8 : m < 18446744073709551616 := by omega
  have hk8 : k < 18446744073709551616 := by omega
  have HF1 := Lib.hid (r02_From m (lt128_of_lt8 hm8))
  have HF2 := Lib.hid (r02_From k (lt128_of_lt8 hk8))
  have p100 : (256 : Nat) ^ 100 < 256 ^ 128 := Nat.pow_lt_pow_right (by omega) (by omega)
  have p16 : (18446744073709551616 : Nat) * 18446744073709551616 + 18446744073709551616 < 256 ^ 100 := by decide +kernel
  have hx100 : ∀ x : Int, x.natAbs ≤ max 1 b → x.natAbs < 256 ^ 100 := fun x hx => by omega
  have hqa : ∀ x : Int, x.natAbs ≤ max 1 b → ((x / m) * k).natAbs ≤ 18446744073709551616 * 18446744073709551616 := fun x hx => by
    rw [Int.natAbs_mul, Int.natAbs_natCast]
    have := ediv_abs x m (by omega)
    exact Nat.mul_le_mul (by omega) (by omega)
  have HDM := Lib.hid (fun (x : Int) (hx : x.natAbs ≤ max 1 b) => r02_DivModQ x m (hx100 x hx) (lt128_of_lt8 hm8) (by omega))
  have HMU := Lib.hid (fun (x : Int) (hx : x.natAbs ≤ max 1 b) (w : World) => show Calls Tryz.prog 173 #[intV (x / m), intV k] w (Ret (.tuple #[intV (x / m * k), .int .i64 0]) w) from by
    have hh := r02_Mul (x / m) k (by have := ediv_abs x m (by omega); have := hx100 x hx; omega) (by rw [Int.natAbs_natCast]; exact lt128_of_lt8 hk8) w
    rw [fitZ_in (by have := hqa x hx; omega)] at hh
    exact hh)
  have HAD := Lib.hid (fun (x y : Int) (hx : x.natAbs ≤ max 1 b) (hy : y.natAbs ≤ max 1 a) (w : World) => show Calls Tryz.prog 174 #[intV y, intV (x / m * k)] w (Ret (.tuple #[intV (y + x / m * k), .int .i64 0]) w) from by
    have h3 := hqa x hx
    have hh := r02_Add y (x / m * k) (by omega) (by omega) w
    rw [fitZ_in (by omega)] at hh
    exact hh)
  have HFR := Lib.hid (fun (x : Int) => r02_From (x % m).toNat (lt128_of_lt8 (by
    have := Int.emod_lt_of_pos x (show (0 : Int) < m by omega)
    have := Int.emod_nonneg x (show (m : Int) ≠ 0 by omega)
    omega)))
  have he := empty_nS (show 0 < b by omega)
  have HGG := Lib.hid hg
  rw [intV_nat] at HF1 HF2
  obtain ⟨hx0, hy0, hb0⟩ := bx2_at w (.bool false) (.string ⟨#[]⟩) (.bool false) (.string ⟨#[]⟩) 67
  obtain ⟨W0, hW0⟩ : ∃ W0, (w.alloc (.cells #[.bool false, .string ⟨#[]⟩] 67)).alloc (.cells #[.bool false, .string ⟨#[]⟩] 67) = W0 := ⟨_, rfl⟩
  rw [hW0] at hx0 hy0 hb0
  have HX0 := Lib.hid hx0
  have HY0 := Lib.hid hy0
  have HB0 := Lib.hid hb0
  have HIB := Lib.hid (intV_nat m)
  have HIA := Lib.hid (intV_nat k)
  obtain ⟨s, hs⟩ : ∃ s, nS a = s := ⟨_, rfl⟩
  obtain ⟨t, ht⟩ : ∃ t, nS b = t := ⟨_, rfl⟩
  obtain ⟨mt, hmt⟩ : ∃ u, nS m = u := ⟨_, rfl⟩
  obtain ⟨kt, hkt⟩ : ∃ u, nS k = u := ⟨_, rfl⟩
  rw [hs] at HV1 HBZ HD2 ⊢
  rw [ht] at HV2 HBZ HD1 he ⊢
  rw [hmt] at HD1 HF1 HIB
  rw [hkt] at HD2 HF2 HIA
  have hg1 : (nS 0) = ⟨#[]⟩ := rfl
  rw [hg1] at HD1 HD2
  obtain ⟨one, hone⟩ : ∃ u, nS g = u := ⟨_, rfl⟩
  rw [hone] at HD1 HD2
  have HONE := Lib.hid hone
  clear hs ht hmt hkt hone hg1 hx0 hy0 hb0 hg ha hab hb p100 p16 hx100 hqa hg0 hgl hm hm2 hm0 hml hk hk2 hkl hm8 hk8
  go_enter Tryz.func126, Tryz.ntmps126
  go_wp2_with fail
  try rw [hW0]
  clear hW0
  refine (HV1.out _).mono ?_
  rintro e w1 ⟨rfl, rfl⟩
  go_wp2_with fail
  refine (HV2.out _).mono ?_
  rintro e w1 ⟨rfl, rfl⟩
  go_wp2_with fail
  refine (HBZ.out _).mono ?_
  rintro e w1 ⟨x, y, rfl, hb1, hlaw, hbx, hby, _⟩
  have HX1 := Lib.hid (HX0.out.next hb1)
  have HY1 := Lib.hid (HY0.out.next hb1)
  have HB1 := Lib.hid (HB0.out.trans (hb1.mono HB0.out.size))
  have HDX := Lib.hid (HDM.out x hbx)
  have HMX := Lib.hid (HMU.out x hbx)
  have HAX := Lib.hid (HAD.out x y hbx hby)
  have HFX := Lib.hid (HFR.out x)
  rw [HGG.out]
  clear hb1 hlaw hbx hby
  obtain ⟨R, hR⟩ : ∃ R, (x % m).toNat = R := ⟨_, rfl⟩
  rw [hR] at HDX HFX
  obtain ⟨Q, hQ⟩ : ∃ Q, x / (m : Int) = Q := ⟨_, rfl⟩
  rw [hQ] at HDX HMX HAX
  obtain ⟨P, hP⟩ : ∃ P, Q * (k : Int) = P := ⟨_, rfl⟩
  rw [hP] at HMX HAX
  obtain ⟨Z, hZ⟩ : ∃ Z, y + P = Z := ⟨_, rfl⟩
  rw [hZ] at HAX
  have HRES := Lib.hid (show ∀ w', Below w.heap.size w w' → RetExG g w (.returned (.tuple #[.string (nS g), intV R, intV Z, .int .i64 0])) w' from fun w' hb => ⟨_, _, _, _, rfl, hb⟩)
  rw [intV_nat R] at HFX HRES
  rw [HIB.out] at HDX
  rw [HIA.out] at HMX
  rw [HONE.out] at HRES ⊢
  unfold intV zV at HDX HMX HAX HRES ⊢
  obtain ⟨xb, hxb⟩ : ∃ u, decide (x < 0) = u := ⟨_, rfl⟩
  obtain ⟨xs, hxs⟩ : ∃ u, nS x.natAbs = u := ⟨_, rfl⟩
  obtain ⟨yb, hyb⟩ : ∃ u, decide (y < 0) = u := ⟨_, rfl⟩
  obtain ⟨ys, hys⟩ : ∃ u, nS y.natAbs = u := ⟨_, rfl⟩
  obtain ⟨qb, hqb⟩ : ∃ u, decide (Q < 0) = u := ⟨_, rfl⟩
  obtain ⟨qs, hqs⟩ : ∃ u, nS Q.natAbs = u := ⟨_, rfl⟩
  obtain ⟨pb, hpb⟩ : ∃ u, decide (P < 0) = u := ⟨_, rfl⟩
  obtain ⟨ps, hps⟩ : ∃ u, nS P.natAbs = u := ⟨_, rfl⟩
  obtain ⟨zb, hzb⟩ : ∃ u, decide (Z < 0) = u := ⟨_, rfl⟩
  obtain ⟨zs, hzs⟩ : ∃ u, nS Z.natAbs = u := ⟨_, rfl⟩
  obtain ⟨rs, hrs⟩ : ∃ u, nS R = u := ⟨_, rfl⟩
  rw [hxb, hxs, hqb, hqs, hrs] at HDX
  rw [hqb, hqs, hpb, hps] at HMX
  rw [hyb, hys, hpb, hps, hzb, hzs] at HAX
  rw [hrs] at HFX
  rw [hrs, hzb, hzs] at HRES
  rw [hxb, hxs, hyb, hys]
  clear hxb hxs hyb hys hqb hqs hpb hps hzb hzs hrs hR hQ hP hZ HDM HMU HAD HFR HBZ
  obtain ⟨hx3, hy3, hb3⟩ := bx2_at w1 (.bool xb) (.string xs) (.bool yb) (.string ys) 67
  obtain ⟨W3, hW3⟩ : ∃ W3, (w1.alloc (.cells #[.bool xb, .string xs] 67)).alloc (.cells #[.bool yb, .string ys] 67) = W3 := ⟨_, rfl⟩
  obtain ⟨B9, hB9⟩ : ∃ B, w1.heap.size = B := ⟨_, rfl⟩
  rw [hW3, hB9] at hx3 hy3
  rw [hW3] at hb3
  have HLT := Lib.hid (show w.heap.size + 1 < B9 from by rw [← hB9]; exact HY1.out.lt)
  have HX3 := Lib.hid (HX1.out.next hb3)
  have HY3 := Lib.hid (HY1.out.next hb3)
  have HB3 := Lib.hid (HB1.out.trans (hb3.mono HB1.out.size))
  have HP3 := Lib.hid hx3
  have HQ3 := Lib.hid hy3
  clear hx3 hy3 hb3
  go_wp2_with fail
  try rw [hW3]
  try rw [hB9]
  clear hW3 hB9
  refine (HD1.out _).mono ?_
  rintro e w4 ⟨rfl, hb4⟩
  have HX4 := Lib.hid (HX3.out.next hb4)
  have HY4 := Lib.hid (HY3.out.next hb4)
  have HB4 := Lib.hid (HB3.out.trans (hb4.mono HB3.out.size))
  have HP4 := Lib.hid (HP3.out.next hb4)
  have HQ4 := Lib.hid (HQ3.out.next hb4)
  clear hb4
  go_wp2_with fail
  refine (HD2.out _).mono ?_
  rintro e w5 ⟨rfl, hb5⟩
  have HX5 := Lib.hid (HX4.out.next hb5)
  have HY5 := Lib.hid (HY4.out.next hb5)
  have HB5 := Lib.hid (HB4.out.trans (hb5.mono HB4.out.size))
  have HP5 := Lib.hid (HP4.out.next hb5)
  have HQ5 := Lib.hid (HQ4.out.next hb5)
  clear hb5
  go_wp2
  have e0 : w5.drew.cell? ⟨B9, 0, none⟩ = some (.bool xb) := HP5.out.c0
  have e1 : w5.drew.cell? ⟨B9, 1, none⟩ = some (.string xs) := HP5.out.c1
  rename_i K8 hK8
  refine wp_onlyN ?_
  refine wp_region_K 12 (Below (w5.drew).heap.size (w5.drew)) (by kernel_rfl) ?_
  intro hD
  refine wpAnyK_takeSD (i := 0) (d := some 59) (v := ?v8_0b1) (fuel := 11) rfl (by kernel_rfl) (by kernel_rfl) (by kernel_rfl) (fun _ _ _ h => h) hD (Below.refl _ _) (.inl ⟨by kernel_rfl, ?y8_0b1⟩) ?n8_0b1
  case y8_0b1 => intro w' hS'; have e0 := cell_kept hS' (Nat.le_refl _) e0; have e1 := cell_kept hS' (Nat.le_refl _) e1; go_simp; with_reducible rfl
  clear hD; intro hD
  simp only [Act.put, sqA, sqB, sqC]
  refine wpAnyK_pureD (i := 1) (d := some 60) (v := ?v8_1b1) (fuel := 10) rfl (by kernel_rfl) (by kernel_rfl) (fun _ _ _ h => h) hD (Below.refl _ _) (.inl ⟨by kernel_rfl, ?y8_1b1⟩) ?n8_1b1
  case y8_1b1 => intro w' _; go_simp; with_reducible rfl
  clear hD; intro hD
  simp only [Act.put, sqA, sqB, sqC]
  refine (show GhostK _ _ _ _ _ _ 8 17 9 _ _ (GIz (w5.drew) (#[.bool false, .string ⟨#[]⟩]) (67)) from ?_).2 _ (GIz.start (Below.refl _ _))
  refine ghost_step (i := 8) (j := 2) (d := 17) (dj := 61) (fuel := 8) (fun (y : Unit) => .agg #[.bool false, .string mt]) (fun y => GIz (w5.drew) (#[.bool false, .string ⟨#[]⟩]) (67)) (by kernel_rfl) (by kernel_rfl) rfl rfl hD (by kernel_rfl) (by decide) (fun _ _ _ _ h => h.1) (fun _ _ _ h => h.1) (alloc_zK rfl rfl (fun _ _ => by kernel_rfl)) ?hs8_2b1 ?hn8_2b1
  case hs8_2b1 =>
    intro gb gx gw hI K hK
    try simp only [Act.put, sqA, sqB, sqC] at hK ⊢
    have HK := Lib.hid hK
    have HGI := Lib.hid hI
    clear hK hI hD
    go_wp2_with fail
    refine (HF1.out _).mono ?_
    rintro ev w6 ⟨rfl, hb⟩
    have HG2 := Lib.hid (HGI.out.step hb)
    clear hb
    go_wp2
    exact HK.out () _ HG2.out
  intro _ hD
  simp only [Act.put, sqA, sqB, sqC]
  refine ghost_step (i := 8) (j := 3) (d := 17) (dj := 62) (fuel := 7) (fun (y : Unit) => .tuple #[.agg #[.bool qb, .string qs], .string rs, .int .i64 0]) (fun y => GIz (w5.drew) (#[.bool false, .string ⟨#[]⟩]) (67)) (by kernel_rfl) (by kernel_rfl) rfl rfl hD (by kernel_rfl) (by decide) (fun _ _ _ _ h => h.1) (fun _ _ _ h => h.1) (alloc_zK rfl rfl (fun _ _ => by kernel_rfl)) ?hs8_3b1 ?hn8_3b1
  case hs8_3b1 =>
    intro gb gx gw hI K hK
    try simp only [Act.put, sqA, sqB, sqC] at hK ⊢
    have HK := Lib.hid hK
    have HGI := Lib.hid hI
    clear hK hI hD
    go_wp2_with fail
    refine (HDX.out _).mono ?_
    rintro ev w6 ⟨rfl, hb⟩
    have HG2 := Lib.hid (HGI.out.step hb)
    clear hb
    go_wp2
    exact HK.out () _ HG2.out
  intro _ hD
  simp only [Act.put, sqA, sqB, sqC]
  refine ghost_pure (i := 8) (j := 4) (d := 17) (dj := 58) (v := ?v8_4b1) (fuel := 6) rfl (by kernel_rfl) (by kernel_rfl) (by kernel_rfl) (by kernel_rfl) (fun _ _ _ h => h) hD (by kernel_rfl) (by decide) (by decide) (fun _ _ _ h => h.1) (fun x => .inl ⟨by kernel_rfl, ?y8_4b1⟩) ?n8_4b1
  case y8_4b1 => intro w' _; go_simp; with_reducible rfl
  clear hD; intro hD
  simp only [Act.put, sqA, sqB, sqC]
  refine ghost_pure (i := 8) (j := 5) (d := 17) (dj := 63) (v := ?v8_5b1) (fuel := 5) rfl (by kernel_rfl) (by kernel_rfl) (by kernel_rfl) (by kernel_rfl) (fun _ _ _ h => h) hD (by kernel_rfl) (by decide) (by decide) (fun _ _ _ h => h.1) (fun x => .inl ⟨by kernel_rfl, ?y8_5b1⟩) ?n8_5b1
  case y8_5b1 => intro w' _; go_simp; with_reducible rfl
  clear hD; intro hD
  simp only [Act.put, sqA, sqB, sqC]
  refine ghost_pure (i := 8) (j := 6) (d := 17) (dj := 64) (v := ?v8_6b1) (fuel := 4) rfl (by kernel_rfl) (by kernel_rfl) (by kernel_rfl) (by kernel_rfl) (fun _ _ _ h => h) hD (by kernel_rfl) (by decide) (by decide) (fun _ _ _ h => h.1) (fun x => .inl ⟨by kernel_rfl, ?y8_6b1⟩) ?n8_6b1
  case y8_6b1 => intro w' _; go_simp; with_reducible rfl
  clear hD; intro hD
  simp only [Act.put, sqA, sqB, sqC]
  refine ghost_pure (i := 8) (j := 7) (d := 17) (dj := 65) (v := ?v8_7b1) (fuel := 3) rfl (by kernel_rfl) (by kernel_rfl) (by kernel_rfl) (by kernel_rfl) (fun _ _ _ h => h) hD (by kernel_rfl) (by decide) (by decide) (fun _ _ _ h => h.1) (fun x => .inl ⟨by kernel_rfl, ?y8_7b1⟩) ?n8_7b1
  case y8_7b1 => intro w' _; go_simp; with_reducible rfl
  clear hD; intro hD
  simp only [Act.put, sqA, sqB, sqC]
  refine ghost_end (by kernel_rfl) rfl hD (fun _ _ _ h => h.1) (alloc_zK rfl rfl (fun _ _ => by kernel_rfl)) ?_
  intro gx gw hI hD
  obtain ⟨hSG, hx⟩ := hI
  obtain ⟨GB, rfl, hBG, hZG⟩ := hx rfl
  have HSG := Lib.hid hSG
  have HBG := Lib.hid hBG
  have HZG := Lib.hid hZG
  clear hx hSG hBG hZG
  simp only [Act.put, sqA, sqB, sqC]
  refine wpAnyK_one (i := 9) (fuel := 2) (by kernel_rfl) rfl hD ?_
  clear hD; intro K9 hK9
  have hz : Bx2 gw GB (.bool false) (.string ⟨#[]⟩) 67 := HZG.out
  have p0 := hz.c0
  have p1 := hz.c1
  have pf0 := hz.f0
  have pf1 := hz.f1
  clear hz
  go_wp2
  refine hK9 _ _ (by exact below_set2 HSG.out HBG.out _ _) ?_; clear hK9; intro hS_8_9_g hD
  refine wpAnyK_one (i := 10) (fuel := 1) (by kernel_rfl) rfl hD ?_
  clear hD; intro K10 hK10
  go_wp2
  refine hK10 _ _ (by exact hS_8_9_g) ?_; clear hK10; intro hS_8_10_g hD
  refine wpAnyK_one (i := 11) (fuel := 0) (by kernel_rfl) rfl hD ?_
  clear hD; intro K11 hK11
  go_wp2
  refine hK11 _ _ (by exact hS_8_10_g) ?_; clear hK11; intro hS_8_11_g hD
  refine wpAnyK_done (by kernel_rfl) ?_ 0
  clear hD p0 p1 pf0 pf1 e0 e1
  have hz8 : Bx2 _ GB (.bool qb) (.string qs) 67 := Bx2.set2 (show Bx2 gw GB (.bool false) (.string ⟨#[]⟩) 67 from HZG.out)
  have hb8 := ((Below.refl w5.heap.size w5).drew).trans hS_8_11_g
  refine hK8 _ _ ?_
  obtain ⟨w8, hw8⟩ : ∃ W8, (gw.setCell ⟨GB, 0, none⟩ (.bool qb)).setCell ⟨GB, 1, none⟩ (.string qs) = W8 := ⟨_, rfl⟩
  obtain ⟨B17, hB17⟩ : ∃ B, GB = B := ⟨_, rfl⟩
  rw [hw8] at hz8 hb8 ⊢
  rw [hB17] at hz8 ⊢
  have HX8 := Lib.hid (HX5.out.next hb8)
  have HY8 := Lib.hid (HY5.out.next hb8)
  have HB8 := Lib.hid (HB5.out.trans (hb8.mono HB5.out.size))
  have HQ8 := Lib.hid (HQ5.out.next hb8)
  have HZ8 := Lib.hid hz8
  clear hw8 hB17 hz8 hb8 HZG HBG HSG
  go_wp2
  have e0 : w8.drew.cell? ⟨B17, 0, none⟩ = some (.bool qb) := HZ8.out.c0
  have e1 : w8.drew.cell? ⟨B17, 1, none⟩ = some (.string qs) := HZ8.out.c1
  rename_i K9 hK9
  refine wp_onlyN ?_
  refine wp_region_K 10 (Below (w8.drew).heap.size (w8.drew)) (by kernel_rfl) ?_
  intro hD
  refine wpAnyK_takeSD (i := 0) (d := some 67) (v := ?v9_0b2) (fuel := 9) rfl (by kernel_rfl) (by kernel_rfl) (by kernel_rfl) (fun _ _ _ h => h) hD (Below.refl _ _) (.inl ⟨by kernel_rfl, ?y9_0b2⟩) ?n9_0b2
  case y9_0b2 => intro w' hS'; have e0 := cell_kept hS' (Nat.le_refl _) e0; have e1 := cell_kept hS' (Nat.le_refl _) e1; go_simp; with_reducible rfl
  clear hD; intro hD
  simp only [Act.put, sqA, sqB, sqC]
  refine wpAnyK_pureD (i := 1) (d := some 68) (v := ?v9_1b2) (fuel := 8) rfl (by kernel_rfl) (by kernel_rfl) (fun _ _ _ h => h) hD (Below.refl _ _) (.inl ⟨by kernel_rfl, ?y9_1b2⟩) ?n9_1b2
  case y9_1b2 => intro w' _; go_simp; with_reducible rfl
  clear hD; intro hD
  simp only [Act.put, sqA, sqB, sqC]
  refine (show GhostK _ _ _ _ _ _ 7 20 7 _ _ (GIz (w8.drew) (#[.bool false, .string ⟨#[]⟩]) (67)) from ?_).2 _ (GIz.start (Below.refl _ _))
  refine ghost_step (i := 7) (j := 2) (d := 20) (dj := 69) (fuel := 6) (fun (y : Unit) => .agg #[.bool false, .string kt]) (fun y => GIz (w8.drew) (#[.bool false, .string ⟨#[]⟩]) (67)) (by kernel_rfl) (by kernel_rfl) rfl rfl hD (by kernel_rfl) (by decide) (fun _ _ _ _ h => h.1) (fun _ _ _ h => h.1) (alloc_zK rfl rfl (fun _ _ => by kernel_rfl)) ?hs9_2b2 ?hn9_2b2
  case hs9_2b2 =>
    intro gb gx gw hI K hK
    try simp only [Act.put, sqA, sqB, sqC] at hK ⊢
    have HK := Lib.hid hK
    have HGI := Lib.hid hI
    clear hK hI hD
    go_wp2_with fail
    refine (HF2.out _).mono ?_
    rintro ev w6 ⟨rfl, hb⟩
    have HG2 := Lib.hid (HGI.out.step hb)
    clear hb
    go_wp2
    exact HK.out () _ HG2.out
  intro _ hD
  simp only [Act.put, sqA, sqB, sqC]
  refine ghost_step (i := 7) (j := 3) (d := 20) (dj := 70) (fuel := 5) (fun (y : Unit) => .tuple #[.agg #[.bool pb, .string ps], .int .i64 0]) (fun y => GIz (w8.drew) (#[.bool false, .string ⟨#[]⟩]) (67)) (by kernel_rfl) (by kernel_rfl) rfl rfl hD (by kernel_rfl) (by decide) (fun _ _ _ _ h => h.1) (fun _ _ _ h => h.1) (alloc_zK rfl rfl (fun _ _ => by kernel_rfl)) ?hs9_3b2 ?hn9_3b2
  case hs9_3b2 =>
    intro gb gx gw hI K hK
    try simp only [Act.put, sqA, sqB, sqC] at hK ⊢
    have HK := Lib.hid hK
    have HGI := Lib.hid hI
    clear hK hI hD
    go_wp2_with fail
    refine (HMX.out _).mono ?_
    rintro ev w6 ⟨rfl, hb⟩
    have HG2 := Lib.hid (HGI.out.step hb)
    clear hb
    go_wp2
    exact HK.out () _ HG2.out
  intro _ hD
  simp only [Act.put, sqA, sqB, sqC]
  refine ghost_pure (i := 7) (j := 4) (d := 20) (dj := 66) (v := ?v9_4b2) (fuel := 4) rfl (by kernel_rfl) (by kernel_rfl) (by kernel_rfl) (by kernel_rfl) (fun _ _ _ h => h) hD (by kernel_rfl) (by decide) (by decide) (fun _ _ _ h => h.1) (fun x => .inl ⟨by kernel_rfl, ?y9_4b2⟩) ?n9_4b2
  case y9_4b2 => intro w' _; go_simp; with_reducible rfl
  clear hD; intro hD
  simp only [Act.put, sqA, sqB, sqC]
  refine ghost_pure (i := 7) (j := 5) (d := 20) (dj := 71) (v := ?v9_5b2) (fuel := 3) rfl (by kernel_rfl) (by kernel_rfl) (by kernel_rfl) (by kernel_rfl) (fun _ _ _ h => h) hD (by kernel_rfl) (by decide) (by decide) (fun _ _ _ h => h.1) (fun x => .inl ⟨by kernel_rfl, ?y9_5b2⟩) ?n9_5b2
  case y9_5b2 => intro w' _; go_simp; with_reducible rfl
  clear hD; intro hD
  simp only [Act.put, sqA, sqB, sqC]
  refine ghost_pure (i := 7) (j := 6) (d := 20) (dj := 72) (v := ?v9_6b2) (fuel := 2) rfl (by kernel_rfl) (by kernel_rfl) (by kernel_rfl) (by kernel_rfl) (fun _ _ _ h => h) hD (by kernel_rfl) (by decide) (by decide) (fun _ _ _ h => h.1) (fun x => .inl ⟨by kernel_rfl, ?y9_6b2⟩) ?n9_6b2
  case y9_6b2 => intro w' _; go_simp; with_reducible rfl
  clear hD; intro hD
  simp only [Act.put, sqA, sqB, sqC]
  refine ghost_end (by kernel_rfl) rfl hD (fun _ _ _ h => h.1) (alloc_zK rfl rfl (fun _ _ => by kernel_rfl)) ?_
  intro gx gw hI hD
  obtain ⟨hSG, hx⟩ := hI
  obtain ⟨GB, rfl, hBG, hZG⟩ := hx rfl
  have HSG := Lib.hid hSG
  have HBG := Lib.hid hBG
  have HZG := Lib.hid hZG
  clear hx hSG hBG hZG
  simp only [Act.put, sqA, sqB, sqC]
  refine wpAnyK_one (i := 8) (fuel := 1) (by kernel_rfl) rfl hD ?_
  clear hD; intro K8 hK8
  have hz : Bx2 gw GB (.bool false) (.string ⟨#[]⟩) 67 := HZG.out
  have p0 := hz.c0
  have p1 := hz.c1
  have pf0 := hz.f0
  have pf1 := hz.f1
  clear hz
  go_wp2
  refine hK8 _ _ (by exact below_set2 HSG.out HBG.out _ _) ?_; clear hK8; intro hS_9_8_g hD
  refine wpAnyK_one (i := 9) (fuel := 0) (by kernel_rfl) rfl hD ?_
  clear hD; intro K9 hK9
  go_wp2
  refine hK9 _ _ (by exact hS_9_8_g) ?_; clear hK9; intro hS_9_9_g hD
  refine wpAnyK_done (by kernel_rfl) ?_ 0
  clear hD p0 p1 pf0 pf1 e0 e1
  have hz9 : Bx2 _ GB (.bool pb) (.string ps) 67 := Bx2.set2 (show Bx2 gw GB (.bool false) (.string ⟨#[]⟩) 67 from HZG.out)
  have hb9 := ((Below.refl w8.heap.size w8).drew).trans hS_9_9_g
  refine hK9 _ _ ?_
  obtain ⟨w9, hw9⟩ : ∃ W8, (gw.setCell ⟨GB, 0, none⟩ (.bool pb)).setCell ⟨GB, 1, none⟩ (.string ps) = W8 := ⟨_, rfl⟩
  rw [hw9] at hz9 hb9 ⊢
  have HX9 := Lib.hid (HX8.out.next hb9)
  have HY9 := Lib.hid (HY8.out.next hb9)
  have HB9 := Lib.hid (HB8.out.trans (hb9.mono HB8.out.size))
  have hq9 := HQ8.out.next hb9
  have HQ9 := Lib.hid hq9
  have z0 := hz9.c0
  have z1 := hz9.c1
  have x0 := hq9.c0
  have x1 := hq9.c1
  clear hw9 hb9 hz9 hq9
  go_wp2_with fail
  refine (HAX.out _).mono ?_
  rintro ev w10 ⟨rfl, hb10⟩
  have HX10 := Lib.hid (HX9.out.next hb10)
  have HY10 := Lib.hid (HY9.out.next hb10)
  have HB10 := Lib.hid (HB9.out.trans (hb10.mono HB9.out.size))
  have hq10 := HQ9.out.next hb10
  have HQ10 := Lib.hid hq10
  clear hb10 z0 z1 x0 x1
  have x0 := hq10.c0
  have x1 := hq10.c1
  have xf0 := hq10.f0
  have xf1 := hq10.f1
  clear hq10
  go_wp2
  have hne := HLT.out
  obtain ⟨w11, hw11⟩ : ∃ W8, (w10.setCell ⟨B9 + 1, 0, none⟩ (.bool zb)).setCell ⟨B9 + 1, 1, none⟩ (.string zs) = W8 := ⟨_, rfl⟩
  have hq11 := HQ10.out.set2 (u := .bool zb) (v := .string zs)
  have hx11 := bx2_off (u := .bool zb) (v := .string zs) HX10.out (C := B9 + 1) (by omega)
  have hy11 := bx2_off (u := .bool zb) (v := .string zs) HY10.out (C := B9 + 1) (by omega)
  have hb11 := below_set2 HB10.out (C := B9 + 1) (by omega) (.bool zb) (.string zs)
  rw [hw11] at hq11 hx11 hy11 hb11
  try rw [hw11]
  have HWX := Lib.hid (show Bx2 w11.drew w.heap.size (.bool false) (.string ⟨#[]⟩) 67 from hx11)
  have HWY := Lib.hid (show Bx2 w11.drew (w.heap.size + 1) (.bool false) (.string ⟨#[]⟩) 67 from hy11)
  have HS0 := Lib.hid (show Bx2 w11.drew (B9 + 1) (.bool zb) (.string zs) 67 from hq11)
  have HBD := Lib.hid hb11.drew
  clear hw11 hq11 hx11 hy11 hb11 hne x0 x1 xf0 xf1
  go_wp2
  obtain ⟨wd, hwd⟩ : ∃ wd, w11.drew = wd := ⟨_, rfl⟩
  rw [hwd] at HS0 HWX HWY HBD
  refine wp_region_K 8 (fun W' => Bx2 W' (B9 + 1) (.bool zb) (.string zs) 67) (by kernel_rfl) ?_
  intro hD
  rw [hwd]
  refine wpAnyK_pureD (i := 0) (d := some 79) (v := ?v11_0b3) (fuel := 7) rfl (by kernel_rfl) (by kernel_rfl) (fun _ _ _ h => h) hD HS0.out (.inl ⟨by kernel_rfl, ?y11_0b3⟩) ?n11_0b3
  case y11_0b3 => intro w' _; go_simp; with_reducible rfl
  clear hD; intro hD
  simp only [Act.put, sqA, sqB, sqC]
  refine wpAnyK_pureD (i := 1) (d := some 80) (v := ?v11_1b3) (fuel := 6) rfl (by kernel_rfl) (by kernel_rfl) (fun _ _ _ h => h) hD HS0.out (.inl ⟨by kernel_rfl, ?y11_1b3⟩) ?n11_1b3
  case y11_1b3 => intro w' _; go_simp; with_reducible rfl
  clear hD; intro hD
  simp only [Act.put, sqA, sqB, sqC]
  refine wpAnyK_takeSD (i := 3) (d := some 82) (v := ?v11_3b3) (fuel := 5) rfl (by kernel_rfl) (by kernel_rfl) (by kernel_rfl) (fun _ _ _ h => h) hD HS0.out (.inl ⟨by kernel_rfl, ?y11_3b3⟩) ?n11_3b3
  case y11_3b3 => intro w' hS'; have e0 := hS'.c0; have e1 := hS'.c1; go_simp; with_reducible rfl
  clear hD; intro hD
  simp only [Act.put, sqA, sqB, sqC]
  refine wpAnyK_one (i := 2) (fuel := 4) (by kernel_rfl) rfl hD ?_
  clear hD; intro K2 hK2
  go_wp2_with fail
  refine (HFX.out _).mono ?_
  rintro ev w12 ⟨rfl, hb⟩
  have HWX2 := Lib.hid (HWX.out.next hb)
  have HWY2 := Lib.hid (HWY.out.next hb)
  have HS2 := Lib.hid (HS0.out.next hb)
  have HBD2 := Lib.hid (HBD.out.trans (hb.mono HBD.out.size))
  clear hb
  go_wp2
  refine hK2 _ _ (by exact HS2.out) ?_; clear hK2; intro hS_11_2 hD
  refine wpAnyK_one (i := 4) (fuel := 3) (by kernel_rfl) rfl hD ?_
  clear hD; intro K4 hK4
  have m0 := HWX2.out.c0
  have m1 := HWX2.out.c1
  have mf0 := HWX2.out.f0
  have mf1 := HWX2.out.f1
  have hy7 : Bx2 ((w12.setCell ⟨w.heap.size, 0, none⟩ (.bool false)).setCell ⟨w.heap.size, 1, none⟩ (.string rs)) (w.heap.size + 1) (.bool false) (.string ⟨#[]⟩) 67 := bx2_off HWY2.out (by omega)
  have HY7 := Lib.hid hy7
  have n0 := hy7.c0
  have n1 := hy7.c1
  have nf0 := hy7.f0
  have nf1 := hy7.f1
  clear hy7
  go_wp2
  refine hK4 _ _ (by exact hS_11_2) ?_; clear hK4; intro hS_11_4 hD
  refine wpAnyK_one (i := 5) (fuel := 2) (by kernel_rfl) rfl hD ?_
  clear hD; intro K5 hK5
  go_wp2
  refine hK5 _ _ (by exact bx2_off hS_11_4 (C := w.heap.size) (by have := HLT.out; omega)) ?_; clear hK5; intro hS_11_5 hD
  refine wpAnyK_one (i := 6) (fuel := 1) (by kernel_rfl) rfl hD ?_
  clear hD; intro K6 hK6
  go_wp2
  refine hK6 _ _ (by exact bx2_off hS_11_5 (C := w.heap.size + 1) (by have := HLT.out; omega)) ?_; clear hK6; intro hS_11_6 hD
  refine wpAnyK_one (i := 7) (fuel := 0) (by kernel_rfl) rfl hD ?_
  clear hD; intro K7 hK7
  go_wp2
  refine hK7 _ _ (by exact hS_11_6) ?_; clear hK7; intro hS_11_7 hD
  refine wpAnyK_done (by kernel_rfl) ?_ 0
  clear hD m0 m1 mf0 mf1 n0 n1 nf0 nf1
  have hx6 := bx2_off (u := .bool zb) (v := .string zs) (HWX2.out.set2 (u := .bool false) (v := .string rs)) (show w.heap.size ≠ w.heap.size + 1 by omega)
  have hy6 := HY7.out.set2 (u := .bool zb) (v := .string zs)
  have q0 := hx6.c0
  have q1 := hx6.c1
  have q2 := hy6.c0
  have q3 := hy6.c1
  go_wp2
  exact bodyPost_ret (v := .tuple #[.string one, .agg #[.bool false, .string rs], .agg #[.bool zb, .string zs], .int .i64 0]) (by simp [results, Tryz.results126, go_sem, q0, q1, q2, q3]) rfl (HRES.out _ (below_set2 (below_set2 HBD2.out (Nat.le_refl _) _ _) (Nat.le_add_right _ _) _ _))
theorem gcd_parts {a m : Nat} (ham : a < m) (h1 : 1 < m) : ∃ g q k, Nat.gcd a m = g ∧ 0 < g ∧ g ≤ m ∧ m / g = q ∧ m % g = 0 ∧ 0 < q ∧ q ≤ m ∧ a / g = k ∧ a % g = 0 ∧ k ≤ a := by
  have hg := Nat.gcd_pos_of_pos_right a (show 0 < m by omega)
  have hd1 := Nat.gcd_dvd_left a m
  have hd2 := Nat.gcd_dvd_right a m
  have hle := Nat.le_of_dvd (by omega) hd2
  exact ⟨_, _, _, rfl, hg, hle, rfl, Nat.mod_eq_zero_of_dvd hd2, Nat.div_pos hle hg, Nat.div_le_self _ _, rfl, Nat.mod_eq_zero_of_dvd hd1, Nat.div_le_self _ _⟩
set_option maxRecDepth 100000 in
set_option maxHeartbeats 2000000 in
theorem r03_Inverse_none (a m : Nat) (ham : a < m) (hm8 : m < 18446744073709551616) (h1 : 1 < m) (hg : ¬ (Nat.gcd a m = 1)) (w : World) : Calls Tryz.prog 58 #[.string (nS a), .string (nS m)] w (Ret (.tuple #[.string ⟨#[]⟩, .int .i64 9]) w) := by
  have ha8 : a < 18446744073709551616 := by omega
  have HC := Lib.hid (fun w => r03_check2 w (nS a) (nS m) _ rfl (nS_valid_small ha8) (nS_valid_small hm8) (empty_nS (by omega)))
  have HR := Lib.hid (r03_Mod a m (lt128_of_lt8 ha8) (lt128_of_lt8 hm8) (by omega))
  rw [Nat.mod_eq_of_lt ham] at HR
  obtain ⟨g, q, k, e1, e2, e3, e4, e5, e6, e7, e8, e9, e10⟩ := gcd_parts ham h1
  have HE := Lib.hid (r02_ExtendedG a m g q k ham hm8 e1 e2 e3 e4 e5 e6 e7 e8 e9 e10)
  have HO1 := Lib.hid (r01_Of 1 (by decide))
  have hne : ((nS g).toList == (nS 1).toList) = false := by rw [nS_beq]; exact decide_eq_false (by rw [← e1]; exact hg)
  obtain ⟨s, hs⟩ : ∃ s, nS a = s := ⟨_, rfl⟩
  obtain ⟨t, ht⟩ : ∃ t, nS m = t := ⟨_, rfl⟩
  obtain ⟨one, hone⟩ : ∃ v, nS 1 = v := ⟨_, rfl⟩
  obtain ⟨gs, hgs⟩ : ∃ v, nS g = v := ⟨_, rfl⟩
  have HGS := Lib.hid hgs
  have HO1 := Lib.hid (fun w => show Calls Tryz.prog 57 #[.int .u64 1] w (Ret (.string one) w) from by have := HO1.out w; rw [show bstr (encN 1) = one from hone] at this; exact this)
  rw [hs, ht] at HC HR HE
  rw [hgs, hone] at hne
  rw [hs, ht]
  have HNE := Lib.hid hne
  clear hs ht hone hgs ham hm8 h1 hg ha8 hne e1 e2 e3 e4 e5 e6 e7 e8 e9 e10
  go_enter Tryz.func58, Tryz.ntmps58
  go_wp2_with fail
  refine (HC.out w).mono ?_
  rintro e w1 ⟨rfl, rfl⟩
  have HB1 := Lib.hid ((Below.refl w.heap.size w).alloc (Nat.le_refl _) (.cells #[.string s, .string t] 22))
  go_wp2_with fail
  refine (HR.out _).mono ?_
  rintro e w2 ⟨rfl, hb2⟩
  have HB2 := Lib.hid (HB1.out.trans (hb2.mono HB1.out.size))
  clear hb2
  go_wp2_with fail
  refine (HE.out _).mono ?_
  rintro e w3 ⟨xb, xs, yb, ys, rfl, hb3⟩
  have HB3 := Lib.hid (HB2.out.trans (hb3.mono HB2.out.size))
  rw [HGS.out]
  clear hb3
  obtain ⟨hx3, hy3, hb3⟩ := bx2_at w3 (.bool xb) (.string xs) (.bool yb) (.string ys) 67
  obtain ⟨W3, hW3⟩ : ∃ W3, (w3.alloc (.cells #[.bool xb, .string xs] 67)).alloc (.cells #[.bool yb, .string ys] 67) = W3 := ⟨_, rfl⟩
  rw [hW3] at hx3 hb3
  have HB4 := Lib.hid (HB3.out.trans (hb3.mono HB3.out.size))
  clear hx3 hy3 hb3
  go_wp2_with fail
  try rw [hW3]
  clear hW3
  refine (HO1.out _).mono ?_
  rintro e w4 ⟨rfl, hb4⟩
  have HB5 := Lib.hid (HB4.out.trans (hb4.mono HB4.out.size))
  clear hb4
  have hne := HNE.out
  go_wp2
  go_ret2
  exact ⟨rfl, HB5.out⟩
end Go.Proofs.YtpdejgdkpghjhaaGreatDoor

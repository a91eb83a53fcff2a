/- Walk: dominoref13.Product. -/
import Derived.Test.YtnnfgphioapmnaaGreatPeN
set_option linter.unusedVariables false
set_option linter.unusedSimpArgs false
namespace Go.Proofs.YtnnfgphioapmnaaGreat
open Go.RowKit

theorem prR_bad {M O : ByteArray} {l : List ByteArray} {zs : List (Bool × ByteArray)} {c : Int} (h : ckR M O l zs (decide (l.length = zs.length)) = c) (hc : c ≠ 0) : prR M O l zs = .tuple #[.string ⟨#[]⟩, .int .i64 c] := by
  unfold prR
  rw [if_neg (by rw [h]; exact hc), h]
set_option maxRecDepth 100000 in
set_option maxHeartbeats 8000000 in
theorem r13_Product (M O : ByteArray) (l : List ByteArray) (zs : List (Bool × ByteArray)) (A B : Option Addr) (n c m d : Nat) (hM : M.size ≤ 8) (hO : O.size ≤ 8) (hls : ∀ s ∈ l, s.size ≤ 1000) (hzs : ∀ z ∈ zs, z.2.size ≤ 1000) (hn : n ≤ 100) (hm : m ≤ 100) (w : World) (hl : SlN w A n c l) (hz : SlZ w B m d zs) :
    Calls Tryz.prog 34 #[gV M O, .slice A n c, .slice B m d] w (Ret (prR M O l zs) w) := by
  have HLS := Lib.hid hls
  have HZS := Lib.hid hzs
  have HCK := Lib.hid (r13_Check M O hM hO)
  have HSN := Lib.hid hl
  have HSZ := Lib.hid hz
  have HNL := Lib.hid hl.1
  have HML := Lib.hid hz.1
  have HMU := Lib.hid hM
  have HOU := Lib.hid hO
  obtain ⟨sm, hsm⟩ : ∃ sm, decide (l.length = zs.length) = sm := ⟨_, rfl⟩
  have hsmi : (((n : Nat) : Int) != ((m : Nat) : Int)) = !sm := by rw [← hsm, hl.1, hz.1, bne, Bool.eq_iff_iff]; simp; omega
  have HSM := Lib.hid hsm
  have HBAD := Lib.hid (fun (c : Int) (h : ckR M O l zs sm = c) (hc : c ≠ 0) => prR_bad (by rw [hsm]; exact h) hc)
  have HR := Lib.hid (show ∃ R, prR M O l zs = R from ⟨_, rfl⟩)
  obtain ⟨R, hR⟩ := HR.out
  rw [hR] at HBAD ⊢
  have HRR := Lib.hid hR
  have HB0 := Lib.hid ((Below.refl w.heap.size w).alloc (Nat.le_refl _) (.cells #[.string M, .string O] 24))
  have HX0 := Lib.hid (Bx2.new w (.string M) (.string O) 24)
  obtain ⟨W0, hW0⟩ : ∃ W0, w.alloc (.cells #[.string M, .string O] 24) = W0 := ⟨_, rfl⟩
  rw [hW0] at HB0 HX0
  have HW0 := Lib.hid hW0
  clear hl hz hls hzs hR hW0 hM hO HR hsm
  unfold gV at *
  go_enter Tryz.func34, Tryz.ntmps34
  go_wp2
  try rw [HW0.out]
  go_loopw [8] (fun i wr => ∃ k : Nat, k ≤ n ∧ i = .int .i64 k ∧ (l.take k).all nvalid = true ∧ wr = W0) (fun i _ => n - (intOf i).toNat)
  case atStart => exact ⟨0, Nat.zero_le _, rfl, by simp, rfl⟩
  case round =>
    obtain ⟨k, hk, rfl, hall, hwr⟩ := hrel
    have hwr := hwr.symm
    subst hwr
    have HALL := Lib.hid hall
    clear hall
    by_cases hlt : k < n
    · obtain ⟨s, he⟩ : ∃ s, l[k]? = some s := ⟨_, List.getElem?_eq_getElem (by rw [HNL.out]; exact hlt)⟩
      obtain ⟨b, o, rfl⟩ := HSN.out.head (by omega)
      have c0 := (HSN.out.kept HB0.out (Nat.le_refl _)).get? k he
      have hsz := HLS.out s (List.mem_of_getElem? he)
      have HV := Lib.hid (r01_Valid s (by omega))
      have HE := Lib.hid he
      clear he
      cases hv : nvalid s with
      | true =>
        have HVS := Lib.hid hv
        rw [hv] at HV
        clear hv
        go_wp2_with fail
        refine (HV.out _).mono ?_
        rintro e w1 ⟨rfl, rfl⟩
        go_wp2
        go_roundw
        case rel => exact ⟨k + 1, by omega, by go_num, all_take HALL.out HE.out HVS.out, (by first | rfl | trivial)⟩
        case measure => simp [intOf]; omega
      | false =>
        have HVS := Lib.hid hv
        rw [hv] at HV
        clear hv
        go_wp2_with fail
        refine (HV.out _).mono ?_
        rintro e w1 ⟨rfl, rfl⟩
        go_wp2
        go_ret2
        exact ⟨by rw [HBAD.out 3 (by unfold ckR; rw [if_pos (all_false HE.out HVS.out)]) (by decide)]; rfl, HB0.out⟩
    · obtain rfl : k = n := by omega
      have HLV := Lib.hid (all_len HALL.out HNL.out)
      clear HALL
      go_wp2
      go_loopw [9] (fun i wr => ∃ k : Nat, k ≤ m ∧ i = .int .i64 k ∧ (zs.take k).all (fun z => zvalid z.1 z.2) = true ∧ Below W0.heap.size W0 wr) (fun i _ => m - (intOf i).toNat)
      case atStart => exact ⟨0, Nat.zero_le _, rfl, by simp, Below.refl _ _⟩
      case round =>
        obtain ⟨j, hj, rfl, hall, hbw⟩ := hrel
        have HALL := Lib.hid hall
        have HBW := Lib.hid hbw
        clear hall hbw
        by_cases hlt2 : j < m
        · obtain ⟨z, he⟩ : ∃ z, zs[j]? = some z := ⟨_, List.getElem?_eq_getElem (by rw [HML.out]; exact hlt2)⟩
          obtain ⟨b, o, rfl⟩ := HSZ.out.head (by omega)
          obtain ⟨c0, c1⟩ := ((HSZ.out.kept HB0.out (Nat.le_refl _)).kept HBW.out (Nat.le_refl _)).get? j he
          have hsz := HZS.out z (List.mem_of_getElem? he)
          obtain ⟨zb, zt⟩ := z
          dsimp only at c0 c1 hsz
          have HV := Lib.hid (r02_Valid zb zt (by omega))
          have HE := Lib.hid he
          unfold zV at HV
          clear he
          cases hv : zvalid zb zt with
          | true =>
            have HVS := Lib.hid hv
            rw [hv] at HV
            clear hv
            go_wp2_with fail
            refine (HV.out _).mono ?_
            rintro e w1 ⟨rfl, hb⟩
            have HB1 := Lib.hid (HBW.out.trans (hb.mono HBW.out.size))
            clear hb
            go_wp2
            go_roundw
            case rel => exact ⟨j + 1, by omega, by go_num, all_take HALL.out HE.out HVS.out, HB1.out⟩
            case measure => simp [intOf]; omega
          | false =>
            have HVS := Lib.hid hv
            rw [hv] at HV
            clear hv
            go_wp2_with fail
            refine (HV.out _).mono ?_
            rintro e w1 ⟨rfl, hb⟩
            have HB1 := Lib.hid (HBW.out.trans (hb.mono HBW.out.size))
            clear hb
            go_wp2
            go_ret2
            exact ⟨by rw [HBAD.out 3 (by unfold ckR; rw [if_neg (by rw [HLV.out]; decide), if_pos (all_false HE.out HVS.out)]) (by decide)]; rfl, HB0.out.trans (HB1.out.mono HB0.out.size)⟩
        · obtain rfl : j = m := by omega
          have HZV := Lib.hid (all_len HALL.out HML.out)
          have HX1 := Lib.hid (HX0.out.next HBW.out)
          have HBB := Lib.hid (HB0.out.trans (HBW.out.mono HB0.out.size))
          have c0 := HX1.out.c0
          have c1 := HX1.out.c1
          clear HALL
          by_cases hck : chkK M O = 0
          · have HCC := Lib.hid hck
            rw [hck] at HCK
            clear hck
            cases sm with
            | false =>
              rw [Bool.not_false] at hsmi
              go_wp2_with fail
              refine (HCK.out _).mono ?_
              rintro e w2 ⟨rfl, hb⟩
              have HB2 := Lib.hid (HBB.out.trans (hb.mono HBB.out.size))
              clear hb c0 c1
              go_wp2
              go_ret2
              exact ⟨by rw [HBAD.out 6 (by unfold ckR; rw [if_neg (by rw [HLV.out]; decide), if_neg (by rw [HZV.out]; decide), if_pos HCC.out, if_pos rfl]) (by decide)]; rfl, HB2.out⟩
            | true =>
              rw [Bool.not_true] at hsmi
              have hlen := of_decide_eq_true HSM.out
              rw [HNL.out, HML.out] at hlen
              go_wp2_with fail
              refine (HCK.out _).mono ?_
              rintro e w2 ⟨rfl, hb⟩
              have HB2 := Lib.hid (HBB.out.trans (hb.mono HBB.out.size))
              have HX2 := Lib.hid (HX1.out.next hb)
              clear hb c0 c1
              have HMe := Lib.hid (nS_num (chkK_parts HCC.out).1)
              have HOe := Lib.hid (nS_num (chkK_parts HCC.out).2.1)
              have HHS := Lib.hid (fun (x : ByteArray) (hv : nvalid x = true) => show ∀ w, Calls Tryz.prog 64 #[.agg #[.string M, .string O], .string x] w (Ret (.bool (hasN (num M) (num O) (num x))) w) from by
                have := r13_has (num M) (num O) (num x) (num_small HMU.out) (num_small HOU.out) (nvalid_lt hv)
                rwa [← HMe.out, ← HOe.out, ← nS_num hv] at this)
              have HCN := Lib.hid (chkK_parts HCC.out).2.2
              have HPM := Lib.hid (chkN_one (chkK_parts HCC.out).2.2)
              have HM8 := Lib.hid (num_small HMU.out)
              have HLEN := Lib.hid hlen
              clear hlen
              go_wp2
              go_loopw [11] (fun i wr => ∃ q : Nat, q ≤ k ∧ i = .int .i64 q ∧ (l.take q).all (fun s => hasN (num M) (num O) (num s)) = true ∧ Below w2.heap.size w2 wr) (fun i _ => k - (intOf i).toNat)
              case atStart => exact ⟨0, Nat.zero_le _, rfl, by simp, Below.refl _ _⟩
              case round =>
                obtain ⟨q, hq, rfl, hall, hbw⟩ := hrel
                have HALL := Lib.hid hall
                have HBW3 := Lib.hid hbw
                have HX3 := Lib.hid (HX2.out.next hbw)
                have HB3 := Lib.hid (HB2.out.trans (hbw.mono HB2.out.size))
                clear hall hbw
                by_cases hlt3 : q < k
                · obtain ⟨s, he⟩ : ∃ s, l[q]? = some s := ⟨_, List.getElem?_eq_getElem (by rw [HNL.out]; exact hlt3)⟩
                  obtain ⟨b, o, rfl⟩ := HSN.out.head (by omega)
                  have HH := Lib.hid (HHS.out s (all_get HLV.out he))
                  have HE := Lib.hid he
                  clear he
                  cases hv : hasN (num M) (num O) (num s) with
                  | true =>
                    have HVS := Lib.hid hv
                    rw [hv] at HH
                    clear hv
                    go_wp2
                    have d0 : wr.drew.cell? ⟨w.heap.size, 0, none⟩ = some (.string M) := HX3.out.c0
                    have d1 : wr.drew.cell? ⟨w.heap.size, 1, none⟩ = some (.string O) := HX3.out.c1
                    have d2 : wr.drew.cell? ⟨b, o + q, none⟩ = some (.string s) := (HSN.out.kept HB3.out (Nat.le_refl _)).get? q HE.out
                    refine wp_region_K 7 (Below (wr.drew).heap.size (wr.drew)) (by kernel_rfl) ?_
                    intro hD
                    refine wpAnyK_takeSD (i := 0) (d := some 54) (v := ?v19_0b1) (fuel := 6) rfl (by kernel_rfl) (by kernel_rfl) (by kernel_rfl) (fun _ _ _ h => h) hD (Below.refl _ _) (.inl ⟨by kernel_rfl, ?y19_0b1⟩) ?n19_0b1
                    case y19_0b1 => intro w' hS'; have e0 := cell_kept hS' (Nat.le_refl _) d0; have e1 := cell_kept hS' (Nat.le_refl _) d1; have e2 := cell_kept hS' (Nat.le_refl _) d2; go_simp; with_reducible rfl
                    clear hD; intro hD
                    simp only [Act.put, List.setIfInBounds_toArray, List.set_cons_zero, List.set_cons_succ]
                    refine wpAnyK_pureD (i := 1) (d := some 55) (v := ?v19_1b1) (fuel := 5) rfl (by kernel_rfl) (by kernel_rfl) (fun _ _ _ h => h) hD (Below.refl _ _) (.inl ⟨by kernel_rfl, ?y19_1b1⟩) ?n19_1b1
                    case y19_1b1 => intro w' _; go_simp; with_reducible rfl
                    clear hD; intro hD
                    simp only [Act.put, List.setIfInBounds_toArray, List.set_cons_zero, List.set_cons_succ]
                    refine wpAnyK_pureD (i := 2) (d := some 56) (v := ?v19_2b1) (fuel := 4) rfl (by kernel_rfl) (by kernel_rfl) (fun _ _ _ h => h) hD (Below.refl _ _) (.inl ⟨by kernel_rfl, ?y19_2b1⟩) ?n19_2b1
                    case y19_2b1 => intro w' _; go_simp; with_reducible rfl
                    clear hD; intro hD
                    simp only [Act.put, List.setIfInBounds_toArray, List.set_cons_zero, List.set_cons_succ]
                    refine wpAnyK_pureD (i := 3) (d := some 57) (v := ?v19_3b1) (fuel := 3) rfl (by kernel_rfl) (by kernel_rfl) (fun _ _ _ h => h) hD (Below.refl _ _) (.inl ⟨by kernel_rfl, ?y19_3b1⟩) ?n19_3b1
                    case y19_3b1 => intro w' _; go_simp; with_reducible rfl
                    clear hD; intro hD
                    simp only [Act.put, List.setIfInBounds_toArray, List.set_cons_zero, List.set_cons_succ]
                    refine wpAnyK_takeSD (i := 4) (d := some 58) (v := ?v19_4b1) (fuel := 2) rfl (by kernel_rfl) (by kernel_rfl) (by kernel_rfl) (fun _ _ _ h => h) hD (Below.refl _ _) (.inl ⟨by kernel_rfl, ?y19_4b1⟩) ?n19_4b1
                    case y19_4b1 => intro w' hS'; have e0 := cell_kept hS' (Nat.le_refl _) d0; have e1 := cell_kept hS' (Nat.le_refl _) d1; have e2 := cell_kept hS' (Nat.le_refl _) d2; go_simp; with_reducible rfl
                    clear hD; intro hD
                    simp only [Act.put, List.setIfInBounds_toArray, List.set_cons_zero, List.set_cons_succ]
                    refine wpAnyK_one (i := 5) (fuel := 1) (by kernel_rfl) rfl hD ?_
                    clear hD; intro K5 hK5
                    go_wp2_with fail
                    refine (HH.out _).mono ?_
                    rintro e w4 ⟨rfl, hb⟩
                    have HB5 := Lib.hid hb
                    have HB4 := Lib.hid (HBW3.out.trans (((Below.refl wr.heap.size wr).drew.trans hb).mono HBW3.out.size))
                    clear hb
                    go_wp2
                    refine hK5 _ _ (by exact HB5.out) ?_; clear hK5; intro hS_19_5 hD
                    refine wpAnyK_pureD (i := 6) (d := some 60) (v := ?v19_6b1) (fuel := 0) rfl (by kernel_rfl) (by kernel_rfl) (fun _ _ _ h => h) hD hS_19_5 (.inl ⟨by kernel_rfl, ?y19_6b1⟩) ?n19_6b1
                    case y19_6b1 => intro w' _; go_simp; with_reducible rfl
                    clear hD; intro hD
                    simp only [Act.put, List.setIfInBounds_toArray, List.set_cons_zero, List.set_cons_succ]
                    refine wpAnyK_done (by kernel_rfl) ?_ 0
                    clear hD d0 d1 d2
                    go_wp2
                    go_roundw
                    case rel => exact ⟨q + 1, by omega, by go_num, all_take HALL.out HE.out HVS.out, HB4.out⟩
                    case measure => simp [intOf]; omega
                  | false =>
                    have HVS := Lib.hid hv
                    rw [hv] at HH
                    clear hv
                    go_wp2
                    have d0 : wr.drew.cell? ⟨w.heap.size, 0, none⟩ = some (.string M) := HX3.out.c0
                    have d1 : wr.drew.cell? ⟨w.heap.size, 1, none⟩ = some (.string O) := HX3.out.c1
                    have d2 : wr.drew.cell? ⟨b, o + q, none⟩ = some (.string s) := (HSN.out.kept HB3.out (Nat.le_refl _)).get? q HE.out
                    refine wp_region_K 7 (Below (wr.drew).heap.size (wr.drew)) (by kernel_rfl) ?_
                    intro hD
                    refine wpAnyK_takeSD (i := 0) (d := some 54) (v := ?v19_0b2) (fuel := 6) rfl (by kernel_rfl) (by kernel_rfl) (by kernel_rfl) (fun _ _ _ h => h) hD (Below.refl _ _) (.inl ⟨by kernel_rfl, ?y19_0b2⟩) ?n19_0b2
                    case y19_0b2 => intro w' hS'; have e0 := cell_kept hS' (Nat.le_refl _) d0; have e1 := cell_kept hS' (Nat.le_refl _) d1; have e2 := cell_kept hS' (Nat.le_refl _) d2; go_simp; with_reducible rfl
                    clear hD; intro hD
                    simp only [Act.put, List.setIfInBounds_toArray, List.set_cons_zero, List.set_cons_succ]
                    refine wpAnyK_pureD (i := 1) (d := some 55) (v := ?v19_1b2) (fuel := 5) rfl (by kernel_rfl) (by kernel_rfl) (fun _ _ _ h => h) hD (Below.refl _ _) (.inl ⟨by kernel_rfl, ?y19_1b2⟩) ?n19_1b2
                    case y19_1b2 => intro w' _; go_simp; with_reducible rfl
                    clear hD; intro hD
                    simp only [Act.put, List.setIfInBounds_toArray, List.set_cons_zero, List.set_cons_succ]
                    refine wpAnyK_pureD (i := 2) (d := some 56) (v := ?v19_2b2) (fuel := 4) rfl (by kernel_rfl) (by kernel_rfl) (fun _ _ _ h => h) hD (Below.refl _ _) (.inl ⟨by kernel_rfl, ?y19_2b2⟩) ?n19_2b2
                    case y19_2b2 => intro w' _; go_simp; with_reducible rfl
                    clear hD; intro hD
                    simp only [Act.put, List.setIfInBounds_toArray, List.set_cons_zero, List.set_cons_succ]
                    refine wpAnyK_pureD (i := 3) (d := some 57) (v := ?v19_3b2) (fuel := 3) rfl (by kernel_rfl) (by kernel_rfl) (fun _ _ _ h => h) hD (Below.refl _ _) (.inl ⟨by kernel_rfl, ?y19_3b2⟩) ?n19_3b2
                    case y19_3b2 => intro w' _; go_simp; with_reducible rfl
                    clear hD; intro hD
                    simp only [Act.put, List.setIfInBounds_toArray, List.set_cons_zero, List.set_cons_succ]
                    refine wpAnyK_takeSD (i := 4) (d := some 58) (v := ?v19_4b2) (fuel := 2) rfl (by kernel_rfl) (by kernel_rfl) (by kernel_rfl) (fun _ _ _ h => h) hD (Below.refl _ _) (.inl ⟨by kernel_rfl, ?y19_4b2⟩) ?n19_4b2
                    case y19_4b2 => intro w' hS'; have e0 := cell_kept hS' (Nat.le_refl _) d0; have e1 := cell_kept hS' (Nat.le_refl _) d1; have e2 := cell_kept hS' (Nat.le_refl _) d2; go_simp; with_reducible rfl
                    clear hD; intro hD
                    simp only [Act.put, List.setIfInBounds_toArray, List.set_cons_zero, List.set_cons_succ]
                    refine wpAnyK_one (i := 5) (fuel := 1) (by kernel_rfl) rfl hD ?_
                    clear hD; intro K5 hK5
                    go_wp2_with fail
                    refine (HH.out _).mono ?_
                    rintro e w4 ⟨rfl, hb⟩
                    have HB5 := Lib.hid hb
                    have HB4 := Lib.hid (HB3.out.trans (((Below.refl wr.heap.size wr).drew.trans hb).mono HB3.out.size))
                    clear hb
                    go_wp2
                    refine hK5 _ _ (by exact HB5.out) ?_; clear hK5; intro hS_19_5 hD
                    refine wpAnyK_pureD (i := 6) (d := some 60) (v := ?v19_6b2) (fuel := 0) rfl (by kernel_rfl) (by kernel_rfl) (fun _ _ _ h => h) hD hS_19_5 (.inl ⟨by kernel_rfl, ?y19_6b2⟩) ?n19_6b2
                    case y19_6b2 => intro w' _; go_simp; with_reducible rfl
                    clear hD; intro hD
                    simp only [Act.put, List.setIfInBounds_toArray, List.set_cons_zero, List.set_cons_succ]
                    refine wpAnyK_done (by kernel_rfl) ?_ 0
                    clear hD d0 d1 d2
                    go_wp2
                    go_ret2
                    exact ⟨by rw [HBAD.out 13 (by unfold ckR; rw [if_neg (by rw [HLV.out]; decide), if_neg (by rw [HZV.out]; decide), if_pos HCC.out, if_neg (by decide), if_pos (all_false (p := fun s => hasN (num M) (num O) (num s)) HE.out HVS.out)]) (by decide)]; rfl, HB4.out⟩
                · obtain rfl : q = k := by omega
                  have HHV := Lib.hid (all_len HALL.out HNL.out)
                  have HVAL := Lib.hid (show R = .tuple #[.string (nS (prV (num M) l zs)), .int .i64 0] from by
                    rw [← HRR.out]
                    unfold prR
                    rw [HSM.out, if_pos (by unfold ckR; rw [if_neg (by rw [HLV.out]; decide), if_neg (by rw [HZV.out]; decide), if_pos HCC.out, if_neg (by decide), if_neg (by rw [HHV.out]; decide)])])
                  have HUN := Lib.hid (fun (s : ByteArray) (k : Nat) (hs : l[k]? = some s) => show num s < num M ∧ Nat.gcd (num s) (num M) = 1 ∧ s = nS (num s) from by
                    have h1 := hasN_unit (all_get (l := l) (p := fun s => hasN (num M) (num O) (num s)) HHV.out hs) HCN.out
                    exact ⟨h1.1, h1.2.2, nS_num (all_get (l := l) HLV.out hs)⟩)
                  have HZVV := Lib.hid (fun (z : Bool × ByteArray) (k : Nat) (hs : zs[k]? = some z) => all_get (l := zs) (p := fun z => zvalid z.1 z.2) HZV.out hs)
                  obtain ⟨LL, hLL⟩ : ∃ LL, bL (num M) l zs = LL := ⟨_, rfl⟩
                  have HLL := Lib.hid (fun (k : Nat) (s : ByteArray) (z : Bool × ByteArray) (h1 : l[k]? = some s) (h2 : zs[k]? = some z) => show LL[k]? = some (baseN (num s) z.1 (num M), num z.2) from by rw [← hLL]; exact bL_get h1 h2)
                  have HPV := Lib.hid (show prV (num M) l zs = pp LL 0 % num M from by unfold prV; rw [hLL])
                  have HLN := Lib.hid (show LL.length = q from by rw [← hLL]; unfold bL; rw [List.length_zipWith, HNL.out, HML.out, ← HLEN.out, Nat.min_self])
                  have H1M := Lib.hid (show (nS (pp (LL.take 0) 0 % num M)) = ⟨#[1]⟩ from by rw [List.take_zero]; show nS (1 % num M) = _; rw [Nat.mod_eq_of_lt HPM.out]; exact nS_one)
                  clear hLL HALL
                  go_wp2
                  go_loopw [12, 13] (fun x i wr => ∃ q' : Nat, q' ≤ q ∧ i = .int .i64 q' ∧ x = .string (nS (pp (LL.take q') 0 % num M)) ∧ Below w2.heap.size w2 wr) (fun _ i _ => q - (intOf i).toNat)
                  case atStart => exact ⟨0, Nat.zero_le _, rfl, by rw [H1M.out], HBW3.out⟩
                  case round =>
                    obtain ⟨q', hq', rfl, rfl, hbw⟩ := hrel
                    have HBW4 := Lib.hid hbw
                    have HX4 := Lib.hid (HX2.out.next hbw)
                    have HB4 := Lib.hid (HB2.out.trans (hbw.mono HB2.out.size))
                    clear hbw
                    by_cases hlt4 : q' < q
                    · obtain ⟨s, hs⟩ : ∃ s, l[q']? = some s := ⟨_, List.getElem?_eq_getElem (by rw [HNL.out]; exact hlt4)⟩
                      obtain ⟨z, hz⟩ : ∃ z, zs[q']? = some z := ⟨_, List.getElem?_eq_getElem (by rw [HML.out, ← HLEN.out]; exact hlt4)⟩
                      have hqj : q' < j := by rw [← HLEN.out]; exact hlt4
                      obtain ⟨bA, oA, rfl⟩ := HSN.out.head (by omega)
                      obtain ⟨bZ, oZ, rfl⟩ := HSZ.out.head (by rw [← HLEN.out]; omega)
                      have HSk := Lib.hid (HUN.out s q' hs)
                      have HZk := Lib.hid (HZVV.out z q' hz)
                      have HLk := Lib.hid (HLL.out q' s z hs hz)
                      have d2 := (HSN.out.kept HB4.out (Nat.le_refl _)).get? q' hs
                      obtain ⟨d3, d4⟩ := (HSZ.out.kept HB4.out (Nat.le_refl _)).get? q' hz
                      obtain ⟨zb, zt⟩ := z
                      dsimp only at d3 d4 HLk HZk
                      have HRA := Lib.hid (fun w => show Calls Tryz.prog 66 #[.agg #[.string M, .string O], .string s, .agg #[.bool zb, .string zt]] w (Ret (.string (nS (pwN (num s) zb (num zt) (num M)))) w) from by
                        have := r13_raw (num s) (num M) O zb zt HSk.out.1 HM8.out HPM.out HSk.out.2.1 HZk.out w
                        rwa [← HMe.out, ← HSk.out.2.2] at this)
                      have HPT := Lib.hid (pp_take HLk.out 0)
                      obtain ⟨X, hX⟩ : ∃ X, pp (LL.take q') 0 = X := ⟨_, rfl⟩
                      rw [hX] at HPT ⊢
                      have hpos : 0 < num M := by have := HPM.out; omega
                      have HMM := Lib.hid (fun w => show Calls Tryz.prog 65 #[.string (nS (X % num M)), .string (nS (pwN (num s) zb (num zt) (num M))), .string M] w (Ret (.tuple #[.string (nS (pp (LL.take (q' + 1)) 0 % num M)), .int .i64 0]) w) from by
                        have h8 := HM8.out
                        have := r03_Mul (X % num M) (pwN (num s) zb (num zt) (num M)) (num M) (lt128_of_lt8 (Nat.lt_trans (Nat.mod_lt _ hpos) h8)) (lt128_of_lt8 (Nat.lt_trans (Nat.mod_lt _ hpos) h8)) h8 hpos w
                        rw [← HMe.out] at this
                        rw [HPT.out, Nat.pow_zero, Nat.div_one, Nat.mul_mod]
                        exact this)
                      obtain ⟨xs, hxs⟩ : ∃ xs, nS (X % num M) = xs := ⟨_, rfl⟩
                      obtain ⟨ps, hps⟩ : ∃ xs, nS (pwN (num s) zb (num zt) (num M)) = xs := ⟨_, rfl⟩
                      rw [hps] at HRA
                      rw [hps, hxs] at HMM
                      rw [hxs]
                      clear hs hz hX hpos hxs hps
                      go_wp2
                      have e0 : wr.drew.cell? ⟨w.heap.size, 0, none⟩ = some (.string M) := HX4.out.c0
                      have e1 : wr.drew.cell? ⟨w.heap.size, 1, none⟩ = some (.string O) := HX4.out.c1
                      have e2 : wr.drew.cell? ⟨bA, oA + q', none⟩ = some (.string s) := d2
                      have e3 : wr.drew.cell? ⟨bZ, oZ + q' * 2, none⟩ = some (.bool zb) := d3
                      have e4 : wr.drew.cell? ⟨bZ, oZ + q' * 2 + 1, none⟩ = some (.string zt) := d4
                      clear d2 d3 d4
                      refine wp_region_K 18 (Below (wr.drew).heap.size (wr.drew)) (by kernel_rfl) ?_
                      intro hD
                      refine wpAnyK_pureD (i := 0) (d := some 68) (v := ?v25_0b3) (fuel := 17) rfl (by kernel_rfl) (by kernel_rfl) (fun _ _ _ h => h) hD (Below.refl _ _) (.inl ⟨by kernel_rfl, ?y25_0b3⟩) ?n25_0b3
                      case y25_0b3 => intro w' _; go_simp; with_reducible rfl
                      clear hD; intro hD
                      simp only [Act.put, List.setIfInBounds_toArray, List.set_cons_zero, List.set_cons_succ]
                      refine wpAnyK_takeSD (i := 1) (d := some 69) (v := ?v25_1b3) (fuel := 16) rfl (by kernel_rfl) (by kernel_rfl) (by kernel_rfl) (fun _ _ _ h => h) hD (Below.refl _ _) (.inl ⟨by kernel_rfl, ?y25_1b3⟩) ?n25_1b3
                      case y25_1b3 => intro w' hS'; have e0 := cell_kept hS' (Nat.le_refl _) e0; have e1 := cell_kept hS' (Nat.le_refl _) e1; have e2 := cell_kept hS' (Nat.le_refl _) e2; have e3 := cell_kept hS' (Nat.le_refl _) e3; have e4 := cell_kept hS' (Nat.le_refl _) e4; go_simp; with_reducible rfl
                      clear hD; intro hD
                      simp only [Act.put, List.setIfInBounds_toArray, List.set_cons_zero, List.set_cons_succ]
                      refine wpAnyK_pureD (i := 2) (d := some 70) (v := ?v25_2b3) (fuel := 15) rfl (by kernel_rfl) (by kernel_rfl) (fun _ _ _ h => h) hD (Below.refl _ _) (.inl ⟨by kernel_rfl, ?y25_2b3⟩) ?n25_2b3
                      case y25_2b3 => intro w' _; go_simp; with_reducible rfl
                      clear hD; intro hD
                      simp only [Act.put, List.setIfInBounds_toArray, List.set_cons_zero, List.set_cons_succ]
                      refine wpAnyK_pureD (i := 3) (d := some 71) (v := ?v25_3b3) (fuel := 14) rfl (by kernel_rfl) (by kernel_rfl) (fun _ _ _ h => h) hD (Below.refl _ _) (.inl ⟨by kernel_rfl, ?y25_3b3⟩) ?n25_3b3
                      case y25_3b3 => intro w' _; go_simp; with_reducible rfl
                      clear hD; intro hD
                      simp only [Act.put, List.setIfInBounds_toArray, List.set_cons_zero, List.set_cons_succ]
                      refine wpAnyK_pureD (i := 4) (d := some 72) (v := ?v25_4b3) (fuel := 13) rfl (by kernel_rfl) (by kernel_rfl) (fun _ _ _ h => h) hD (Below.refl _ _) (.inl ⟨by kernel_rfl, ?y25_4b3⟩) ?n25_4b3
                      case y25_4b3 => intro w' _; go_simp; with_reducible rfl
                      clear hD; intro hD
                      simp only [Act.put, List.setIfInBounds_toArray, List.set_cons_zero, List.set_cons_succ]
                      refine wpAnyK_takeSD (i := 5) (d := some 73) (v := ?v25_5b3) (fuel := 12) rfl (by kernel_rfl) (by kernel_rfl) (by kernel_rfl) (fun _ _ _ h => h) hD (Below.refl _ _) (.inl ⟨by kernel_rfl, ?y25_5b3⟩) ?n25_5b3
                      case y25_5b3 => intro w' hS'; have e0 := cell_kept hS' (Nat.le_refl _) e0; have e1 := cell_kept hS' (Nat.le_refl _) e1; have e2 := cell_kept hS' (Nat.le_refl _) e2; have e3 := cell_kept hS' (Nat.le_refl _) e3; have e4 := cell_kept hS' (Nat.le_refl _) e4; go_simp; with_reducible rfl
                      clear hD; intro hD
                      simp only [Act.put, List.setIfInBounds_toArray, List.set_cons_zero, List.set_cons_succ]
                      refine wpAnyK_pureD (i := 6) (d := some 74) (v := ?v25_6b3) (fuel := 11) rfl (by kernel_rfl) (by kernel_rfl) (fun _ _ _ h => h) hD (Below.refl _ _) (.inl ⟨by kernel_rfl, ?y25_6b3⟩) ?n25_6b3
                      case y25_6b3 => intro w' _; go_simp; with_reducible rfl
                      clear hD; intro hD
                      simp only [Act.put, List.setIfInBounds_toArray, List.set_cons_zero, List.set_cons_succ]
                      refine wpAnyK_pureD (i := 7) (d := some 75) (v := ?v25_7b3) (fuel := 10) rfl (by kernel_rfl) (by kernel_rfl) (fun _ _ _ h => h) hD (Below.refl _ _) (.inl ⟨by kernel_rfl, ?y25_7b3⟩) ?n25_7b3
                      case y25_7b3 => intro w' _; go_simp; with_reducible rfl
                      clear hD; intro hD
                      simp only [Act.put, List.setIfInBounds_toArray, List.set_cons_zero, List.set_cons_succ]
                      refine wpAnyK_pureD (i := 8) (d := some 76) (v := ?v25_8b3) (fuel := 9) rfl (by kernel_rfl) (by kernel_rfl) (fun _ _ _ h => h) hD (Below.refl _ _) (.inl ⟨by kernel_rfl, ?y25_8b3⟩) ?n25_8b3
                      case y25_8b3 => intro w' _; go_simp; with_reducible rfl
                      clear hD; intro hD
                      simp only [Act.put, List.setIfInBounds_toArray, List.set_cons_zero, List.set_cons_succ]
                      refine wpAnyK_takeSD (i := 9) (d := some 77) (v := ?v25_9b3) (fuel := 8) rfl (by kernel_rfl) (by kernel_rfl) (by kernel_rfl) (fun _ _ _ h => h) hD (Below.refl _ _) (.inl ⟨by kernel_rfl, ?y25_9b3⟩) ?n25_9b3
                      case y25_9b3 => intro w' hS'; have e0 := cell_kept hS' (Nat.le_refl _) e0; have e1 := cell_kept hS' (Nat.le_refl _) e1; have e2 := cell_kept hS' (Nat.le_refl _) e2; have e3 := cell_kept hS' (Nat.le_refl _) e3; have e4 := cell_kept hS' (Nat.le_refl _) e4; go_simp; with_reducible rfl
                      clear hD; intro hD
                      simp only [Act.put, List.setIfInBounds_toArray, List.set_cons_zero, List.set_cons_succ]
                      refine wpAnyK_pureD (i := 11) (d := some 79) (v := ?v25_11b3) (fuel := 7) rfl (by kernel_rfl) (by kernel_rfl) (fun _ _ _ h => h) hD (Below.refl _ _) (.inl ⟨by kernel_rfl, ?y25_11b3⟩) ?n25_11b3
                      case y25_11b3 => intro w' _; go_simp; with_reducible rfl
                      clear hD; intro hD
                      simp only [Act.put, List.setIfInBounds_toArray, List.set_cons_zero, List.set_cons_succ]
                      refine wpAnyK_takeSD (i := 12) (d := some 80) (v := ?v25_12b3) (fuel := 6) rfl (by kernel_rfl) (by kernel_rfl) (by kernel_rfl) (fun _ _ _ h => h) hD (Below.refl _ _) (.inl ⟨by kernel_rfl, ?y25_12b3⟩) ?n25_12b3
                      case y25_12b3 => intro w' hS'; have e0 := cell_kept hS' (Nat.le_refl _) e0; have e1 := cell_kept hS' (Nat.le_refl _) e1; have e2 := cell_kept hS' (Nat.le_refl _) e2; have e3 := cell_kept hS' (Nat.le_refl _) e3; have e4 := cell_kept hS' (Nat.le_refl _) e4; go_simp; with_reducible rfl
                      clear hD; intro hD
                      simp only [Act.put, List.setIfInBounds_toArray, List.set_cons_zero, List.set_cons_succ]
                      refine wpAnyK_one (i := 10) (fuel := 5) (by kernel_rfl) rfl hD ?_
                      clear hD; intro K10 hK10
                      go_wp2_with fail
                      refine (HRA.out _).mono ?_
                      rintro e w5 ⟨rfl, hb⟩
                      have HB10 := Lib.hid hb
                      clear hb
                      go_wp2
                      refine hK10 _ _ (by exact HB10.out) ?_; clear hK10; intro hS_25_10 hD
                      refine wpAnyK_one (i := 13) (fuel := 4) (by kernel_rfl) rfl hD ?_
                      clear hD; intro K13 hK13
                      go_wp2_with fail
                      refine (HMM.out _).mono ?_
                      rintro e w6 ⟨rfl, hb⟩
                      have HB13 := Lib.hid hb
                      clear hb
                      go_wp2
                      refine hK13 _ _ (by exact Below.trans hS_25_10 (Below.mono HB13.out (Below.size hS_25_10))) ?_; clear hK13; intro hS_25_13 hD
                      refine wpAnyK_pureD (i := 14) (d := some 67) (v := ?v25_14b3) (fuel := 3) rfl (by kernel_rfl) (by kernel_rfl) (fun _ _ _ h => h) hD hS_25_13 (.inl ⟨by kernel_rfl, ?y25_14b3⟩) ?n25_14b3
                      case y25_14b3 => intro w' _; go_simp; with_reducible rfl
                      clear hD; intro hD
                      simp only [Act.put, List.setIfInBounds_toArray, List.set_cons_zero, List.set_cons_succ]
                      refine wpAnyK_pureD (i := 15) (d := some 82) (v := ?v25_15b3) (fuel := 2) rfl (by kernel_rfl) (by kernel_rfl) (fun _ _ _ h => h) hD hS_25_13 (.inl ⟨by kernel_rfl, ?y25_15b3⟩) ?n25_15b3
                      case y25_15b3 => intro w' _; go_simp; with_reducible rfl
                      clear hD; intro hD
                      simp only [Act.put, List.setIfInBounds_toArray, List.set_cons_zero, List.set_cons_succ]
                      refine wpAnyK_pureD (i := 16) (d := some 83) (v := ?v25_16b3) (fuel := 1) rfl (by kernel_rfl) (by kernel_rfl) (fun _ _ _ h => h) hD hS_25_13 (.inl ⟨by kernel_rfl, ?y25_16b3⟩) ?n25_16b3
                      case y25_16b3 => intro w' _; go_simp; with_reducible rfl
                      clear hD; intro hD
                      simp only [Act.put, List.setIfInBounds_toArray, List.set_cons_zero, List.set_cons_succ]
                      refine wpAnyK_one (i := 17) (fuel := 0) (by kernel_rfl) rfl hD ?_
                      clear hD; intro K17 hK17
                      go_wp2
                      refine hK17 _ _ (by exact hS_25_13) ?_; clear hK17; intro hS_25_17 hD
                      refine wpAnyK_done (by kernel_rfl) ?_ 0
                      clear hD e0 e1 e2 e3 e4
                      have HB6 := Lib.hid (HBW4.out.trans (((Below.refl wr.heap.size wr).drew.trans hS_25_17).mono HBW4.out.size))
                      go_wp2
                      go_roundw
                      case rel => exact ⟨q' + 1, by omega, by go_num, rfl, HB6.out⟩
                      case measure => simp [intOf]; omega
                    · obtain rfl : q' = q := by omega
                      have HT := Lib.hid (show LL.take q' = LL from by rw [← HLN.out, List.take_length])
                      rw [HT.out, ← HPV.out]
                      go_wp2
                      go_ret2
                      exact ⟨by rw [HVAL.out]; rfl, HB4.out⟩
          · have HCC := Lib.hid hck
            obtain ⟨cc, hcc⟩ : ∃ cc, chkK M O = cc := ⟨_, rfl⟩
            have HCE := Lib.hid hcc
            rw [hcc] at HCK hck
            have hcb : (cc == 0) = false := by rw [beq_eq_false_iff_ne]; exact hck
            have hcb2 : (cc != 0) = true := by rw [bne, hcb]; rfl
            have HCN := Lib.hid hck
            clear hck hcc
            go_wp2_with fail
            refine (HCK.out _).mono ?_
            rintro e w2 ⟨rfl, hb⟩
            have HB2 := Lib.hid (HBB.out.trans (hb.mono HBB.out.size))
            clear hb c0 c1
            go_wp2
            go_ret2
            exact ⟨by rw [HBAD.out cc (by unfold ckR; rw [if_neg (by rw [HLV.out]; decide), if_neg (by rw [HZV.out]; decide), if_neg HCC.out, HCE.out]) HCN.out]; rfl, HB2.out⟩
end Go.Proofs.YtnnfgphioapmnaaGreat

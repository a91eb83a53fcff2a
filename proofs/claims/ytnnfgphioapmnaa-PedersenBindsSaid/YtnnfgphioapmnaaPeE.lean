/- Walks: dominoref13.Check; both Checks in full. -/
import Derived.Test.YtnnfgphioapmnaaPeC
set_option linter.unusedVariables false
set_option linter.unusedSimpArgs false
namespace Go.Proofs.Ytnnfgphioapmnaa
open Go.RowKit


theorem nS_last {n : Nat} (h : 0 < n) : ∃ k, ∃ hk : k < (nS n).size, k + 1 = (nS n).size ∧ ((nS n)[k]).toNat = n % 256 := by
  have h0 : 0 < (nS n).size := by rcases Nat.eq_zero_or_pos (nS n).size with e | e; · have := nS_size_zero.1 e; omega
                                  · exact e
  refine ⟨(nS n).size - 1, by omega, by omega, ?_⟩
  rw [nS_byte n 0 _ (by omega) (by omega)]
  unfold dig
  rw [Nat.pow_zero, Nat.div_one]


theorem pw_Check (M O : ByteArray) (hM : M.size ≤ 8) (hO : O.size ≤ 8) (w : World) : Calls Try.prog 30 #[gV M O] w (Ret (.int .i64 (chkK M O)) w) := by
  unfold chkK
  cases hv : (nvalid M && nvalid O) with
  | false => exact pw_Check_bad M O hM hO hv w
  | true =>
    rw [if_pos rfl]
    simp only [Bool.and_eq_true] at hv
    have e1 := nS_num hv.1
    have e2 := nS_num hv.2
    have hm := num_small hM
    have ho := num_small hO
    rcases Nat.eq_zero_or_pos (num O) with h0 | h0
    · have := pw_Check_none (num M) hm w
      rw [show nS 0 = O from by rw [← h0, ← e2], ← e1] at this
      unfold chkN
      rw [if_pos h0]
      exact this
    · have := pw_Check_some (num M) (num O) hm ho h0 w
      rw [← e1, ← e2] at this
      exact this
end Go.Proofs.Ytnnfgphioapmnaa
/- Walks: rsagroup.Has, power.has, power.Has; dominoref13.has, Has. -/
set_option linter.unusedVariables false
set_option linter.unusedSimpArgs false
namespace Go.Proofs.Ytnnfgphioapmnaa
open Go.RowKit

/-- Whether x is an element of a group that is well-formed. -/
def hasN (m o x : Nat) : Bool := decide (0 < x ∧ x < m ∧ (if o = 0 then Nat.gcd x m = 1 else x ^ o % m = 1))
theorem hasG_nS {m o x : Nat} (hm : m < 256 ^ 128) (ho8 : o < 256 ^ 128) (hx : x < 256 ^ 128) (ho : 0 < o) : hasG (nS m) (nS o) (nS x) = hasN m o x := by
  have e : hasP (nS m) (nS o) (nS x) ↔ (0 < x ∧ x < m ∧ (if o = 0 then Nat.gcd x m = 1 else x ^ o % m = 1)) := by
    unfold hasP
    rw [num_nS, num_nS, num_nS, if_neg (by omega)]
    exact ⟨fun h => h.2.2.2.2, fun h => ⟨nvalid_nS.2 hm, nvalid_nS.2 ho8, nvalid_nS.2 hx, ho, h⟩⟩
  exact decide_eq_decide.2 e

set_option maxRecDepth 100000 in
set_option maxHeartbeats 2000000 in
theorem rsa_Has (m x : Nat) (hm : m < 18446744073709551616) (hodd : bitB m 0 = true) (h8 : 8 < m) (hx : x < 256 ^ 128) (w : World) : Calls Try.prog 70 #[gV (nS m) (nS 0), .string (nS x)] w (Ret (.bool (hasN m 0 x)) w) := by
  have HGD := Lib.hid (rsa_good m hm hodd h8)
  have HV := Lib.hid (nat_Valid (nS x) (by have := nS_size_le.2 hx; omega))
  rw [nvalid_nS.2 hx] at HV
  have HCM := Lib.hid (nat_Cmp (nS x) (nS m) (by have := nS_size_le.2 hx; omega) (by have := nS_small_size hm; omega))
  rw [ncmp_n hx (lt128_of_lt8 hm)] at HCM
  have HGC := Lib.hid (fun (h : x < m) => nat_Gcd x m (by omega) hm)
  have HB1 := Lib.hid (fun n => nS_beq n 1)
  have HON := Lib.hid rsa_one
  unfold gV at *
  by_cases h0 : x = 0
  · have hr : hasN m 0 x = false := decide_eq_false (fun h => by have := h.1; omega)
    rw [hr]
    have hem : (nS x).toList.isEmpty = true := by rw [h0]; exact sempty_true rfl
    obtain ⟨s, hs⟩ : ∃ s, nS m = s := ⟨_, rfl⟩
    obtain ⟨t, ht⟩ : ∃ t, nS 0 = t := ⟨_, rfl⟩
    obtain ⟨u, hu⟩ : ∃ u, nS x = u := ⟨_, rfl⟩
    rw [hs, ht] at HGD
    rw [hu] at HV hem
    rw [hs, ht, hu]
    clear hs ht hu hm hodd h8 hx HCM HGC h0 hr
    go_enter Try.func70, Try.ntmps70
    have HX0 := Lib.hid (Bx2.new w (.string s) (.string t) 24)
    have HB0 := Lib.hid ((Below.refl w.heap.size w).alloc (Nat.le_refl _) (.cells #[.string s, .string t] 24))
    obtain ⟨W0, hW0⟩ : ∃ W0, w.alloc (.cells #[.string s, .string t] 24) = W0 := ⟨_, rfl⟩
    rw [hW0] at HX0 HB0
    have HW0 := Lib.hid hW0
    clear hW0
    go_wp2_with fail
    rw [HW0.out]
    refine (HGD.out _).mono ?_
    rintro e w1 ⟨rfl, hb⟩
    have HB1 := Lib.hid (HB0.out.trans (hb.mono HB0.out.size))
    clear hb
    go_wp2_with fail
    refine (HV.out _).mono ?_
    rintro e w2 ⟨rfl, rfl⟩
    go_wp2
    go_ret
    exact ⟨rfl, HB1.out⟩
  · have hem := empty_nS (n := x) (by omega)
    by_cases hxm : m ≤ x
    · have hr : hasN m 0 x = false := decide_eq_false (fun h => by have := h.2.1; omega)
      rw [hr]
      have hg := cmpI_nonneg hxm
      obtain ⟨c, hc⟩ : ∃ c, cmpI x m = c := ⟨_, rfl⟩
      rw [hc] at hg HCM
      obtain ⟨s, hs⟩ : ∃ s, nS m = s := ⟨_, rfl⟩
      obtain ⟨t, ht⟩ : ∃ t, nS 0 = t := ⟨_, rfl⟩
      obtain ⟨u, hu⟩ : ∃ u, nS x = u := ⟨_, rfl⟩
      rw [hs, ht] at HGD
      rw [hu] at HV hem
      rw [hs, hu] at HCM
      rw [hs, ht, hu]
      clear hs ht hu hm hodd h8 hx HGC h0 hr hxm hc
      go_enter Try.func70, Try.ntmps70
      have HX0 := Lib.hid (Bx2.new w (.string s) (.string t) 24)
      have HB0 := Lib.hid ((Below.refl w.heap.size w).alloc (Nat.le_refl _) (.cells #[.string s, .string t] 24))
      obtain ⟨W0, hW0⟩ : ∃ W0, w.alloc (.cells #[.string s, .string t] 24) = W0 := ⟨_, rfl⟩
      rw [hW0] at HX0 HB0
      have HW0 := Lib.hid hW0
      clear hW0
      go_wp2_with fail
      rw [HW0.out]
      refine (HGD.out _).mono ?_
      rintro e w1 ⟨rfl, hb⟩
      have HB1 := Lib.hid (HB0.out.trans (hb.mono HB0.out.size))
      have HX1 := HX0.out.next hb
      have c0 := HX1.c0
      have c1 := HX1.c1
      clear hb HX1
      go_wp2_with fail
      refine (HV.out _).mono ?_
      rintro e w2 ⟨rfl, rfl⟩
      go_wp2_with fail
      refine (HCM.out _).mono ?_
      rintro e w2 ⟨rfl, rfl⟩
      go_wp2
      go_ret
      exact ⟨rfl, HB1.out⟩
    · have hr : hasN m 0 x = decide (Nat.gcd x m = 1) := decide_eq_decide.2 ⟨fun h => by have := h.2.2; rwa [if_pos rfl] at this, fun h => ⟨by omega, by omega, by rw [if_pos rfl]; exact h⟩⟩
      rw [hr, ← HB1.out]
      have hg : cmpI x m < 0 := by unfold cmpI; rw [if_pos (by omega)]; decide
      obtain ⟨c, hc⟩ : ∃ c, cmpI x m = c := ⟨_, rfl⟩
      rw [hc] at hg HCM
      have HGC := Lib.hid (HGC.out (by omega))
      obtain ⟨s, hs⟩ : ∃ s, nS m = s := ⟨_, rfl⟩
      obtain ⟨t, ht⟩ : ∃ t, nS 0 = t := ⟨_, rfl⟩
      obtain ⟨u, hu⟩ : ∃ u, nS x = u := ⟨_, rfl⟩
      obtain ⟨d, hd⟩ : ∃ d, nS (Nat.gcd x m) = d := ⟨_, rfl⟩
      obtain ⟨one, hone⟩ : ∃ d, nS 1 = d := ⟨_, rfl⟩
      rw [hs, ht] at HGD
      rw [hu] at HV hem
      rw [hs, hu] at HCM
      rw [hs, hu, hd] at HGC
      rw [hone] at HON
      rw [hs, ht, hu, hd, hone]
      clear hs ht hu hd hone hm hodd h8 hx h0 hr hxm hc HB1
      go_enter Try.func70, Try.ntmps70
      have HX0 := Lib.hid (Bx2.new w (.string s) (.string t) 24)
      have HB0 := Lib.hid ((Below.refl w.heap.size w).alloc (Nat.le_refl _) (.cells #[.string s, .string t] 24))
      obtain ⟨W0, hW0⟩ : ∃ W0, w.alloc (.cells #[.string s, .string t] 24) = W0 := ⟨_, rfl⟩
      rw [hW0] at HX0 HB0
      have HW0 := Lib.hid hW0
      clear hW0
      go_wp2_with fail
      rw [HW0.out]
      refine (HGD.out _).mono ?_
      rintro e w1 ⟨rfl, hb⟩
      have HB1 := Lib.hid (HB0.out.trans (hb.mono HB0.out.size))
      have HX1 := HX0.out.next hb
      have c0 := HX1.c0
      have c1 := HX1.c1
      clear hb HX1
      go_wp2_with fail
      refine (HV.out _).mono ?_
      rintro e w2 ⟨rfl, rfl⟩
      go_wp2_with fail
      refine (HCM.out _).mono ?_
      rintro e w2 ⟨rfl, rfl⟩
      go_wp2_with fail
      refine (HGC.out _).mono ?_
      rintro e w3 ⟨rfl, hb⟩
      have HB3 := Lib.hid (HB1.out.trans (hb.mono HB1.out.size))
      clear hb c0 c1
      go_wp2_with fail
      refine (HON.out _).mono ?_
      rintro e w4 ⟨rfl, hb⟩
      have HB4 := Lib.hid (HB3.out.trans (hb.mono HB3.out.size))
      clear hb
      go_wp2
      go_ret
      exact ⟨rfl, HB4.out⟩

theorem chkN_none {m : Nat} (h : chkN m 0 = 0) : bitB m 0 = true ∧ 8 < m := by
  unfold chkN at h
  rw [if_pos rfl] at h
  rw [bit0]
  by_cases hh : m % 2 = 0 ∨ m ≤ 8
  · rw [if_pos hh] at h; cases h
  · exact ⟨decide_eq_true (by omega), by omega⟩
set_option maxRecDepth 100000 in
set_option maxHeartbeats 2000000 in
theorem pw_has (m o x : Nat) (hm : m < 18446744073709551616) (ho8 : o < 18446744073709551616) (hc : chkN m o = 0) (hx : x < 256 ^ 128) (w : World) : Calls Try.prog 51 #[gV (nS m) (nS o), .string (nS x)] w (Ret (.bool (hasN m o x)) w) := by
  have hsm := nS_small_size hm
  have hso := nS_small_size ho8
  have hsx := nS_size_le.2 hx
  rcases Nat.eq_zero_or_pos o with h0 | h0
  · subst h0
    obtain ⟨g1, g2⟩ := chkN_none hc
    have HH := Lib.hid (rsa_Has m x hm g1 g2 hx)
    have he : (nS 0).toList.isEmpty = true := sempty_true rfl
    obtain ⟨r, hr⟩ : ∃ r, hasN m 0 x = r := ⟨_, rfl⟩
    obtain ⟨s, hs⟩ : ∃ s, nS m = s := ⟨_, rfl⟩
    obtain ⟨t, ht⟩ : ∃ t, nS 0 = t := ⟨_, rfl⟩
    obtain ⟨u, hu⟩ : ∃ u, nS x = u := ⟨_, rfl⟩
    rw [hs, ht, hu, hr] at HH
    rw [ht] at he
    rw [hs, ht, hu, hr]
    clear hs ht hu hr hm ho8 hc hx hsm hso hsx g1 g2
    unfold gV at *
    go_enter Try.func51, Try.ntmps51
    have HX0 := Lib.hid (Bx2.new w (.string s) (.string t) 24)
    have HB0 := Lib.hid ((Below.refl w.heap.size w).alloc (Nat.le_refl _) (.cells #[.string s, .string t] 24))
    obtain ⟨W0, hW0⟩ : ∃ W0, w.alloc (.cells #[.string s, .string t] 24) = W0 := ⟨_, rfl⟩
    rw [hW0] at HX0 HB0
    have HW0 := Lib.hid hW0
    clear hW0
    go_wp2_with fail
    rw [HW0.out]
    refine (HH.out _).mono ?_
    rintro e w1 ⟨rfl, hb⟩
    have HB1 := Lib.hid (HB0.out.trans (hb.mono HB0.out.size))
    clear hb
    go_wp2
    go_ret
    exact ⟨rfl, HB1.out⟩
  · have HH := Lib.hid (pg_Has (nS m) (nS o) (nS x) hsm (by omega) (by omega))
    rw [hasG_nS (lt128_of_lt8 hm) (lt128_of_lt8 ho8) hx h0] at HH
    have he := empty_nS h0
    obtain ⟨r, hr⟩ : ∃ r, hasN m o x = r := ⟨_, rfl⟩
    obtain ⟨s, hs⟩ : ∃ s, nS m = s := ⟨_, rfl⟩
    obtain ⟨t, ht⟩ : ∃ t, nS o = t := ⟨_, rfl⟩
    obtain ⟨u, hu⟩ : ∃ u, nS x = u := ⟨_, rfl⟩
    rw [hs, ht, hu, hr] at HH
    rw [ht] at he
    rw [hs, ht, hu, hr]
    clear hs ht hu hr hm ho8 hc hx hsm hso hsx h0
    unfold gV at *
    go_enter Try.func51, Try.ntmps51
    have HX0 := Lib.hid (Bx2.new w (.string s) (.string t) 24)
    have HB0 := Lib.hid ((Below.refl w.heap.size w).alloc (Nat.le_refl _) (.cells #[.string s, .string t] 24))
    obtain ⟨W0, hW0⟩ : ∃ W0, w.alloc (.cells #[.string s, .string t] 24) = W0 := ⟨_, rfl⟩
    rw [hW0] at HX0 HB0
    have HW0 := Lib.hid hW0
    clear hW0
    go_wp2_with fail
    rw [HW0.out]
    refine (HH.out _).mono ?_
    rintro e w1 ⟨rfl, hb⟩
    have HB1 := Lib.hid (HB0.out.trans (hb.mono HB0.out.size))
    clear hb
    go_wp2
    go_ret
    exact ⟨rfl, HB1.out⟩

/-- Whether x is an element. -/
def hasK (M O x : ByteArray) : Bool := decide (chkK M O = 0) && nvalid x && hasN (num M) (num O) (num x)
theorem chkK_parts {M O : ByteArray} (h : chkK M O = 0) : nvalid M = true ∧ nvalid O = true ∧ chkN (num M) (num O) = 0 := by
  unfold chkK at h
  split at h
  · rename_i hv
    simp only [Bool.and_eq_true] at hv
    exact ⟨hv.1, hv.2, h⟩
  · cases h
set_option maxRecDepth 100000 in
set_option maxHeartbeats 2000000 in
/-- Of a number that is canonical. -/
theorem pw_Has (M O x : ByteArray) (hM : M.size ≤ 8) (hO : O.size ≤ 8) (hx : nvalid x = true) (w : World) : Calls Try.prog 31 #[gV M O, .string x] w (Ret (.bool (hasK M O x)) w) := by
  have HCK := Lib.hid (pw_Check M O hM hO)
  by_cases hc : chkK M O = 0
  · obtain ⟨v1, v2, hcn⟩ := chkK_parts hc
    have HH := Lib.hid (pw_has (num M) (num O) (num x) (num_small hM) (num_small hO) hcn (num_lt (by unfold nvalid at hx; simp at hx; exact hx.1)))
    rw [← nS_num v1, ← nS_num v2, ← nS_num hx] at HH
    have hr : hasK M O x = hasN (num M) (num O) (num x) := by unfold hasK; rw [decide_eq_true hc, hx, Bool.true_and, Bool.true_and]
    rw [hr]
    obtain ⟨r, hr⟩ : ∃ r, hasN (num M) (num O) (num x) = r := ⟨_, rfl⟩
    rw [hr] at HH ⊢
    rw [hc] at HCK
    obtain ⟨s, hs⟩ : ∃ s, M = s := ⟨_, rfl⟩
    obtain ⟨t, ht⟩ : ∃ t, O = t := ⟨_, rfl⟩
    rw [hs, ht] at HCK HH ⊢
    clear hc v1 v2 hcn hr hM hO hx hs ht
    unfold gV at *
    go_enter Try.func31, Try.ntmps31
    have HX0 := Lib.hid (Bx2.new w (.string s) (.string t) 24)
    have HB0 := Lib.hid ((Below.refl w.heap.size w).alloc (Nat.le_refl _) (.cells #[.string s, .string t] 24))
    obtain ⟨W0, hW0⟩ : ∃ W0, w.alloc (.cells #[.string s, .string t] 24) = W0 := ⟨_, rfl⟩
    rw [hW0] at HX0 HB0
    have HW0 := Lib.hid hW0
    clear hW0
    go_wp2_with fail
    rw [HW0.out]
    refine (HCK.out _).mono ?_
    rintro e w1 ⟨rfl, hb⟩
    have HB1 := Lib.hid (HB0.out.trans (hb.mono HB0.out.size))
    have HX1 := HX0.out.next hb
    have c0 := HX1.c0
    have c1 := HX1.c1
    clear hb HX1
    go_wp2_with fail
    refine (HH.out _).mono ?_
    rintro e w2 ⟨rfl, hb⟩
    have HB2 := Lib.hid (HB1.out.trans (hb.mono HB1.out.size))
    clear hb
    go_wp2
    go_ret
    exact ⟨rfl, HB2.out⟩
  · have hr : hasK M O x = false := by unfold hasK; rw [decide_eq_false hc]; rfl
    rw [hr]
    obtain ⟨c, hcc⟩ : ∃ c, chkK M O = c := ⟨_, rfl⟩
    rw [hcc] at HCK hc
    obtain ⟨s, hs⟩ : ∃ s, M = s := ⟨_, rfl⟩
    obtain ⟨t, ht⟩ : ∃ t, O = t := ⟨_, rfl⟩
    rw [hs, ht] at HCK ⊢
    have hcb : (c == 0) = false := by rw [beq_eq_false_iff_ne]; exact hc
    clear hc hcc hr hM hO hx hs ht
    unfold gV at *
    go_enter Try.func31, Try.ntmps31
    have HX0 := Lib.hid (Bx2.new w (.string s) (.string t) 24)
    have HB0 := Lib.hid ((Below.refl w.heap.size w).alloc (Nat.le_refl _) (.cells #[.string s, .string t] 24))
    obtain ⟨W0, hW0⟩ : ∃ W0, w.alloc (.cells #[.string s, .string t] 24) = W0 := ⟨_, rfl⟩
    rw [hW0] at HX0 HB0
    have HW0 := Lib.hid hW0
    clear hW0
    go_wp2_with fail
    rw [HW0.out]
    refine (HCK.out _).mono ?_
    rintro e w1 ⟨rfl, hb⟩
    have HB1 := Lib.hid (HB0.out.trans (hb.mono HB0.out.size))
    clear hb
    go_wp2
    go_ret
    exact ⟨rfl, HB1.out⟩
end Go.Proofs.Ytnnfgphioapmnaa

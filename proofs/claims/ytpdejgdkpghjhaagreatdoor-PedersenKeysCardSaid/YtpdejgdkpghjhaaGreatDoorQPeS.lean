/- Walks: pedersen.Commit, Opens and the reference's. -/
import Derived.Test.YtpdejgdkpghjhaaGreatDoorQPeQ
set_option linter.unusedVariables false
set_option linter.unusedSimpArgs false
namespace Go.Proofs.YtpdejgdkpghjhaaGreatDoor
open Go.RowKit

theorem prR_form (M O : ByteArray) (l : List ByteArray) (zs : List (Bool × ByteArray)) : ∃ s c, prR M O l zs = .tuple #[.string s, .int .i64 c] := by
  unfold prR
  split
  · exact ⟨_, _, rfl⟩
  · exact ⟨_, _, rfl⟩
theorem slz_alloc2 (w : World) (b1 b2 : Bool) (s1 s2 : ByteArray) (T : TypeId) : SlZ (w.alloc (.cells #[.bool b1, .string s1, .bool b2, .string s2] T)) (some ⟨w.heap.size, 0, none⟩) 2 2 [(b1, s1), (b2, s2)] := by
  have h := Bx4.new w (.bool b1) (.string s1) (.bool b2) (.string s2) T
  obtain ⟨c0, c1, c2, c3⟩ := h.cells
  refine ⟨rfl, Nat.le_refl _, by omega, w.heap.size, 0, fun _ => rfl, fun k z hk => ?_⟩
  match k, hk with
  | 0, hk => cases hk; exact ⟨c0, c1⟩
  | 1, hk => cases hk; exact ⟨c2, c3⟩
/-- What Commit returns. -/
def cmR (M O G H : ByteArray) (vb : Bool) (vt : ByteArray) (rb : Bool) (rt : ByteArray) : Value :=
  if (kF M O G H && (zvalid vb vt && zvalid rb rt)) = false then .tuple #[.string ⟨#[]⟩, .int .i64 3] else if pkC M O G H = 0 then prR M O [G, H] [(vb, vt), (rb, rt)] else .tuple #[.string ⟨#[]⟩, .int .i64 (pkC M O G H)]
theorem cmR_form (M O G H : ByteArray) (vb : Bool) (vt : ByteArray) (rb : Bool) (rt : ByteArray) : ∃ s c, cmR M O G H vb vt rb rt = .tuple #[.string s, .int .i64 c] := by
  unfold cmR
  split
  · exact ⟨_, _, rfl⟩
  · split
    · exact prR_form _ _ _ _
    · exact ⟨_, _, rfl⟩
/-- What Opens returns. -/
def opR (M O G H c : ByteArray) (vb : Bool) (vt : ByteArray) (rb : Bool) (rt : ByteArray) : Bool :=
  match cmR M O G H vb vt rb rt with
  | .tuple ⟨[.string s, .int .i64 e]⟩ => (e == 0) && (s.toList == c.toList)
  | _ => false
theorem opR_of {M O G H c : ByteArray} {vb : Bool} {vt : ByteArray} {rb : Bool} {rt s : ByteArray} {e : Int} (h : cmR M O G H vb vt rb rt = .tuple #[.string s, .int .i64 e]) : opR M O G H c vb vt rb rt = ((e == 0) && (s.toList == c.toList)) := by
  unfold opR
  rw [h]
/-- A key and an opening. -/
def KO (w W : World) (M O G H : ByteArray) (vb : Bool) (vt : ByteArray) (rb : Bool) (rt : ByteArray) : Prop :=
  Bx4 W w.heap.size (.string M) (.string O) (.string G) (.string H) 26 ∧ Bx4 W (w.heap.size + 1) (.bool vb) (.string vt) (.bool rb) (.string rt) 73 ∧ Below w.heap.size w W
theorem KO.new (w : World) (M O G H : ByteArray) (vb : Bool) (vt : ByteArray) (rb : Bool) (rt : ByteArray) : KO w ((w.alloc (.cells #[.string M, .string O, .string G, .string H] 26)).alloc (.cells #[.bool vb, .string vt, .bool rb, .string rt] 73)) M O G H vb vt rb rt := by
  refine ⟨(Bx4.new w _ _ _ _ _).next ((Below.refl _ _).alloc (Nat.le_refl _) _), ?_, ((Below.refl w.heap.size w).alloc (Nat.le_refl _) _).alloc (by simp) _⟩
  have := Bx4.new (w.alloc (.cells #[.string M, .string O, .string G, .string H] 26)) (.bool vb) (.string vt) (.bool rb) (.string rt) 73
  rwa [World.size_alloc] at this
theorem KO.next {w W W' : World} {M O G H : ByteArray} {vb : Bool} {vt : ByteArray} {rb : Bool} {rt : ByteArray} (h : KO w W M O G H vb vt rb rt) (hb : Below W.heap.size W W') : KO w W' M O G H vb vt rb rt :=
  ⟨h.1.next hb, h.2.1.next hb, h.2.2.trans (hb.mono (Nat.le_of_lt h.1.lt))⟩
theorem KO.cells {w W : World} {M O G H : ByteArray} {vb : Bool} {vt : ByteArray} {rb : Bool} {rt : ByteArray} (h : KO w W M O G H vb vt rb rt) : (W.cell? ⟨w.heap.size, 0, none⟩ = some (.string M) ∧ W.cell? ⟨w.heap.size, 1, none⟩ = some (.string O) ∧ W.cell? ⟨w.heap.size, 2, none⟩ = some (.string G) ∧ W.cell? ⟨w.heap.size, 3, none⟩ = some (.string H)) ∧ W.cell? ⟨w.heap.size + 1, 0, none⟩ = some (.bool vb) ∧ W.cell? ⟨w.heap.size + 1, 1, none⟩ = some (.string vt) ∧ W.cell? ⟨w.heap.size + 1, 2, none⟩ = some (.bool rb) ∧ W.cell? ⟨w.heap.size + 1, 3, none⟩ = some (.string rt) := ⟨h.1.cells, h.2.1.cells⟩

set_option maxRecDepth 100000 in
set_option maxHeartbeats 4000000 in
theorem pk_Commit (M O G H : ByteArray) (vb : Bool) (vt : ByteArray) (rb : Bool) (rt : ByteArray) (hM : M.size ≤ 8) (hO : O.size ≤ 8) (hG : G.size ≤ 1000) (hH : H.size ≤ 1000) (hv : vt.size ≤ 1000) (hr : rt.size ≤ 1000) (w : World) : Calls Tryz.prog 65 #[kV M O G H, oV vb vt rb rt] w (Ret (cmR M O G H vb vt rb rt) w) := by
  have HF := Lib.hid (pk_formed M O G H (by omega) (by omega) hG hH)
  have HVA := Lib.hid (pk_valid vb vt rb rt hv hr)
  have HCK := Lib.hid (pk_Check M O G H hM hO hG hH)
  have HPR := Lib.hid (fun (A B : Option Addr) (w : World) (hl : SlN w A 2 2 [G, H]) (hz : SlZ w B 2 2 [(vb, vt), (rb, rt)]) => pw_Product M O [G, H] [(vb, vt), (rb, rt)] A B 2 2 2 2 hM hO (by intro s hs; simp only [List.mem_cons, List.mem_nil_iff, or_false] at hs; rcases hs with rfl | rfl; exact hG; exact hH) (by intro z hz; simp only [List.mem_cons, List.mem_nil_iff, or_false] at hz; rcases hz with rfl | rfl; exact hv; exact hr) (by omega) (by omega) w hl hz)
  have HRV := Lib.hid (show ∃ R, cmR M O G H vb vt rb rt = R from ⟨_, rfl⟩)
  obtain ⟨R, hR⟩ := HRV.out
  have HRR := Lib.hid hR
  rw [hR]
  clear hM hO hG hH hv hr hR HRV
  unfold kV oV gV at *
  cases hf : kF M O G H with
  | false =>
    have HR := Lib.hid (show R = .tuple #[.string ⟨#[]⟩, .int .i64 3] from by rw [← HRR.out]; unfold cmR; rw [hf]; rfl)
    rw [hf] at HF
    rw [HR.out]
    clear hf
    go_enter Tryz.func65, Tryz.ntmps65
    have hk := KO.new w M O G H vb vt rb rt
    obtain ⟨W0, hW0⟩ : ∃ W, (w.alloc (.cells #[.string M, .string O, .string G, .string H] 26)).alloc (.cells #[.bool vb, .string vt, .bool rb, .string rt] 73) = W := ⟨_, rfl⟩
    rw [hW0] at hk
    have HK := Lib.hid hk
    obtain ⟨⟨c0, c1, c2, c3⟩, d0, d1, d2, d3⟩ := hk.cells
    clear hk
    go_wp2_with fail
    try rw [hW0]
    clear hW0
    refine (HF.out _).mono ?_
    rintro ev w1 ⟨rfl, hb⟩
    have hk := HK.out.next hb
    have HK := Lib.hid hk
    clear hb c0 c1 c2 c3 d0 d1 d2 d3
    obtain ⟨⟨c0, c1, c2, c3⟩, d0, d1, d2, d3⟩ := hk.cells
    clear hk
    go_wp2
    go_ret2
    exact ⟨rfl, HK.out.2.2⟩
  | true =>
    rw [hf] at HF
    cases hz : (zvalid vb vt && zvalid rb rt) with
    | false =>
      have HR := Lib.hid (show R = .tuple #[.string ⟨#[]⟩, .int .i64 3] from by rw [← HRR.out]; unfold cmR; rw [hf, hz]; rfl)
      rw [hz] at HVA
      rw [HR.out]
      clear hf hz
      go_enter Tryz.func65, Tryz.ntmps65
      have hk := KO.new w M O G H vb vt rb rt
      obtain ⟨W0, hW0⟩ : ∃ W, (w.alloc (.cells #[.string M, .string O, .string G, .string H] 26)).alloc (.cells #[.bool vb, .string vt, .bool rb, .string rt] 73) = W := ⟨_, rfl⟩
      rw [hW0] at hk
      have HK := Lib.hid hk
      obtain ⟨⟨c0, c1, c2, c3⟩, d0, d1, d2, d3⟩ := hk.cells
      clear hk
      go_wp2_with fail
      try rw [hW0]
      clear hW0
      refine (HF.out _).mono ?_
      rintro ev w1 ⟨rfl, hb⟩
      have hk := HK.out.next hb
      have HK := Lib.hid hk
      clear hb c0 c1 c2 c3 d0 d1 d2 d3
      obtain ⟨⟨c0, c1, c2, c3⟩, d0, d1, d2, d3⟩ := hk.cells
      clear hk
      go_wp2_with fail
      refine (HVA.out _).mono ?_
      rintro ev w2 ⟨rfl, hb⟩
      have hk := HK.out.next hb
      have HK := Lib.hid hk
      clear hb c0 c1 c2 c3 d0 d1 d2 d3
      obtain ⟨⟨c0, c1, c2, c3⟩, d0, d1, d2, d3⟩ := hk.cells
      clear hk
      go_wp2
      go_ret2
      exact ⟨rfl, HK.out.2.2⟩
    | true =>
      rw [hz] at HVA
      by_cases hc : pkC M O G H = 0
      · have HR := Lib.hid (show R = prR M O [G, H] [(vb, vt), (rb, rt)] from by rw [← HRR.out]; unfold cmR; rw [hf, hz, if_neg (by decide), if_pos hc])
        rw [hc] at HCK
        obtain ⟨rs, rc, hpr⟩ := prR_form M O [G, H] [(vb, vt), (rb, rt)]
        rw [hpr] at HPR
        rw [HR.out, hpr]
        clear hf hz hc hpr
        go_enter Tryz.func65, Tryz.ntmps65
        have hk := KO.new w M O G H vb vt rb rt
        obtain ⟨W0, hW0⟩ : ∃ W, (w.alloc (.cells #[.string M, .string O, .string G, .string H] 26)).alloc (.cells #[.bool vb, .string vt, .bool rb, .string rt] 73) = W := ⟨_, rfl⟩
        rw [hW0] at hk
        have HK := Lib.hid hk
        obtain ⟨⟨c0, c1, c2, c3⟩, d0, d1, d2, d3⟩ := hk.cells
        clear hk
        go_wp2_with fail
        try rw [hW0]
        clear hW0
        refine (HF.out _).mono ?_
        rintro ev w1 ⟨rfl, hb⟩
        have hk := HK.out.next hb
        have HK := Lib.hid hk
        clear hb c0 c1 c2 c3 d0 d1 d2 d3
        obtain ⟨⟨c0, c1, c2, c3⟩, d0, d1, d2, d3⟩ := hk.cells
        clear hk
        go_wp2_with fail
        refine (HVA.out _).mono ?_
        rintro ev w2 ⟨rfl, hb⟩
        have hk := HK.out.next hb
        have HK := Lib.hid hk
        clear hb c0 c1 c2 c3 d0 d1 d2 d3
        obtain ⟨⟨c0, c1, c2, c3⟩, d0, d1, d2, d3⟩ := hk.cells
        clear hk
        go_wp2_with fail
        refine (HCK.out _).mono ?_
        rintro ev w3 ⟨rfl, hb⟩
        have hk := HK.out.next hb
        have HK := Lib.hid hk
        clear hb c0 c1 c2 c3 d0 d1 d2 d3
        obtain ⟨⟨c0, c1, c2, c3⟩, d0, d1, d2, d3⟩ := hk.cells
        clear hk
        have hs1 := sln_alloc w3 [G, H] 22 (by simp)
        have hb1 : Below w3.heap.size w3 (w3.alloc (.cells #[.string G, .string H] 22)) := (Below.refl _ _).alloc (Nat.le_refl _) _
        have hs2 := slz_alloc2 (w3.alloc (.cells #[.string G, .string H] 22)) vb rb vt rt 67
        have hb2 : Below (w3.alloc (.cells #[.string G, .string H] 22)).heap.size (w3.alloc (.cells #[.string G, .string H] 22)) ((w3.alloc (.cells #[.string G, .string H] 22)).alloc (.cells #[.bool vb, .string vt, .bool rb, .string rt] 67)) := (Below.refl _ _).alloc (Nat.le_refl _) _
        have HPP := Lib.hid (HPR.out _ _ _ (SlN.kept hb2 (Nat.le_refl _) hs1) hs2)
        have HBB := Lib.hid (HK.out.2.2.trans ((hb1.trans (hb2.mono hb1.size)).mono HK.out.2.2.size))
        rw [World.size_alloc] at HPP
        obtain ⟨_, g0, g1, g2, g3⟩ := (HK.out.next hb1).cells
        clear hs1 hb1 hs2 hb2
        go_wp2_with fail
        refine HPP.out.mono ?_
        rintro ev w4 ⟨rfl, hb⟩
        have HB4 := Lib.hid (HBB.out.trans (hb.mono HBB.out.size))
        clear hb
        go_wp2
        go_ret2
        exact ⟨rfl, HB4.out⟩
      · have HR := Lib.hid (show R = .tuple #[.string ⟨#[]⟩, .int .i64 (pkC M O G H)] from by rw [← HRR.out]; unfold cmR; rw [hf, hz, if_neg (by decide), if_neg hc])
        rw [HR.out]
        obtain ⟨cc, hcc⟩ : ∃ cc, pkC M O G H = cc := ⟨_, rfl⟩
        rw [hcc] at HCK hc ⊢
        have hcb : (cc == 0) = false := by rw [beq_eq_false_iff_ne]; exact hc
        have hcb2 : (cc != 0) = true := by rw [bne, hcb]; rfl
        clear hf hz hc hcc
        go_enter Tryz.func65, Tryz.ntmps65
        have hk := KO.new w M O G H vb vt rb rt
        obtain ⟨W0, hW0⟩ : ∃ W, (w.alloc (.cells #[.string M, .string O, .string G, .string H] 26)).alloc (.cells #[.bool vb, .string vt, .bool rb, .string rt] 73) = W := ⟨_, rfl⟩
        rw [hW0] at hk
        have HK := Lib.hid hk
        obtain ⟨⟨c0, c1, c2, c3⟩, d0, d1, d2, d3⟩ := hk.cells
        clear hk
        go_wp2_with fail
        try rw [hW0]
        clear hW0
        refine (HF.out _).mono ?_
        rintro ev w1 ⟨rfl, hb⟩
        have hk := HK.out.next hb
        have HK := Lib.hid hk
        clear hb c0 c1 c2 c3 d0 d1 d2 d3
        obtain ⟨⟨c0, c1, c2, c3⟩, d0, d1, d2, d3⟩ := hk.cells
        clear hk
        go_wp2_with fail
        refine (HVA.out _).mono ?_
        rintro ev w2 ⟨rfl, hb⟩
        have hk := HK.out.next hb
        have HK := Lib.hid hk
        clear hb c0 c1 c2 c3 d0 d1 d2 d3
        obtain ⟨⟨c0, c1, c2, c3⟩, d0, d1, d2, d3⟩ := hk.cells
        clear hk
        go_wp2_with fail
        refine (HCK.out _).mono ?_
        rintro ev w3 ⟨rfl, hb⟩
        have hk := HK.out.next hb
        have HK := Lib.hid hk
        clear hb c0 c1 c2 c3 d0 d1 d2 d3
        obtain ⟨⟨c0, c1, c2, c3⟩, d0, d1, d2, d3⟩ := hk.cells
        clear hk
        go_wp2
        go_ret2
        exact ⟨rfl, HK.out.2.2⟩

set_option maxRecDepth 100000 in
set_option maxHeartbeats 4000000 in
theorem pk_Opens (M O G H c : ByteArray) (vb : Bool) (vt : ByteArray) (rb : Bool) (rt : ByteArray) (hM : M.size ≤ 8) (hO : O.size ≤ 8) (hG : G.size ≤ 1000) (hH : H.size ≤ 1000) (hv : vt.size ≤ 1000) (hr : rt.size ≤ 1000) (w : World) : Calls Tryz.prog 70 #[kV M O G H, .string c, oV vb vt rb rt] w (Ret (.bool (opR M O G H c vb vt rb rt)) w) := by
  have HC := Lib.hid (pk_Commit M O G H vb vt rb rt hM hO hG hH hv hr)
  obtain ⟨s, e, hcm⟩ := cmR_form M O G H vb vt rb rt
  have hop := opR_of (c := c) hcm
  rw [hcm] at HC
  rw [hop]
  clear hM hO hG hH hv hr hcm hop
  unfold kV oV at *
  have HK := Lib.hid (KO.new w M O G H vb vt rb rt)
  obtain ⟨b, hb⟩ : ∃ b, (s.toList == c.toList) = b := ⟨_, rfl⟩
  rw [hb]
  by_cases he : e = 0
  · subst he
    rw [show ((0 : Int) == 0) = true from rfl, Bool.true_and]
    go_enter Tryz.func70, Tryz.ntmps70
    go_wp2_with fail
    refine (HC.out _).mono ?_
    rintro ev w1 ⟨rfl, hb1⟩
    have HB1 := Lib.hid (HK.out.2.2.trans (hb1.mono HK.out.2.2.size))
    clear hb1
    go_wp2
    go_ret
    exact ⟨rfl, HB1.out⟩
  · have hcb : (e == 0) = false := by rw [beq_eq_false_iff_ne]; exact he
    rw [hcb, Bool.false_and]
    clear he
    go_enter Tryz.func70, Tryz.ntmps70
    go_wp2_with fail
    refine (HC.out _).mono ?_
    rintro ev w1 ⟨rfl, hb1⟩
    have HB1 := Lib.hid (HK.out.2.2.trans (hb1.mono HK.out.2.2.size))
    clear hb1
    go_wp2
    go_ret
    exact ⟨rfl, HB1.out⟩

end Go.Proofs.YtpdejgdkpghjhaaGreatDoor
/- Walks: integer.Mul, Mod, Of. -/
set_option linter.unusedVariables false
set_option linter.unusedSimpArgs false
namespace Go.Proofs.YtpdejgdkpghjhaaGreatDoor
open Go.RowKit

set_option maxRecDepth 100000 in
set_option maxHeartbeats 1000000 in
theorem int_MulG (a b : Int) (ha : a.natAbs < 256 ^ 128) (hb : b.natAbs < 256 ^ 128) (hnm : ∀ w, Calls Tryz.prog 183 #[.string (nS a.natAbs), .string (nS b.natAbs)] w (Ret (fitR (a.natAbs * b.natAbs)) w)) (w : World) : Calls Tryz.prog 134 #[intV a, intV b] w (Ret (fitZ (a * b)) w) := by
  have HVA := Lib.hid (int_both a b ha hb)
  have HM := Lib.hid hnm
  obtain ⟨k, rc, hk1, hk2⟩ := fitR_cut (a.natAbs * b.natAbs)
  have hsg : sg (decide (a < 0) != decide (b < 0)) (a.natAbs * b.natAbs) = a * b := by
    unfold sg
    by_cases h1 : a < 0
    · by_cases h2 : b < 0
      · rw [decide_eq_true h1, decide_eq_true h2, if_neg (by decide), Int.natCast_mul, Int.ofNat_natAbs_of_nonpos (by omega), Int.ofNat_natAbs_of_nonpos (by omega), Int.neg_mul_neg]
      · rw [decide_eq_true h1, decide_eq_false h2, if_pos (by decide), Int.natCast_mul, Int.ofNat_natAbs_of_nonpos (by omega), Int.natAbs_of_nonneg (by omega), Int.neg_mul, Int.neg_neg]
    · by_cases h2 : b < 0
      · rw [decide_eq_false h1, decide_eq_true h2, if_pos (by decide), Int.natCast_mul, Int.natAbs_of_nonneg (by omega), Int.ofNat_natAbs_of_nonpos (by omega), Int.mul_neg, Int.neg_neg]
      · rw [decide_eq_false h1, decide_eq_false h2, if_neg (by decide), Int.natCast_mul, Int.natAbs_of_nonneg (by omega), Int.natAbs_of_nonneg (by omega)]
  rw [hk2 (a * b) _ (Int.natAbs_mul a b) hsg]
  rw [hk1] at HM
  have HMK := Lib.hid (int_made_n (decide (a < 0) != decide (b < 0)) k)
  unfold intV zV at HVA
  obtain ⟨p, hp⟩ : ∃ p, decide (a < 0) = p := ⟨_, rfl⟩
  obtain ⟨q, hq⟩ : ∃ q, decide (b < 0) = q := ⟨_, rfl⟩
  obtain ⟨s, hs⟩ : ∃ s, nS a.natAbs = s := ⟨_, rfl⟩
  obtain ⟨t, ht⟩ : ∃ t, nS b.natAbs = t := ⟨_, rfl⟩
  rw [hp, hs, hq, ht] at HVA
  rw [show intV a = .agg #[.bool p, .string s] from by rw [← hp, ← hs]; rfl, show intV b = .agg #[.bool q, .string t] from by rw [← hq, ← ht]; rfl]
  rw [hp, hq] at HMK
  rw [hp, hq]
  rw [hs, ht] at HM
  obtain ⟨kk, hkk⟩ : ∃ kk, nS k = kk := ⟨_, rfl⟩
  rw [hkk] at HM HMK
  unfold intV zV at HMK ⊢
  obtain ⟨u, hu⟩ : ∃ u, decide (sg (p != q) k < 0) = u := ⟨_, rfl⟩
  obtain ⟨v, hv⟩ : ∃ v, nS (sg (p != q) k).natAbs = v := ⟨_, rfl⟩
  rw [hu, hv] at HMK ⊢
  clear hnm hp hq hs ht hkk hu hv hk1 hk2 hsg ha hb
  go_enter Tryz.func134, Tryz.ntmps134
  have hi := I3.new w (.bool p) (.string s) (.bool q) (.string t) (.bool false) (.string ⟨#[]⟩)
  obtain ⟨W0, hW0⟩ : ∃ W0, ((w.alloc (.cells #[.bool p, .string s] 67)).alloc (.cells #[.bool q, .string t] 67)).alloc (.cells #[.bool false, .string ⟨#[]⟩] 67) = W0 := ⟨_, rfl⟩
  rw [hW0] at hi
  have HI := Lib.hid hi
  obtain ⟨c0, c1, d0, d1, e0, e1, f0, f1⟩ := hi.cells
  clear hi
  go_wp2_with fail
  try rw [hW0]
  clear hW0
  refine (HVA.out _).mono ?_
  rintro ev w1 ⟨rfl, hb⟩
  have hi := HI.out.next hb
  have HI := Lib.hid hi
  clear hb c0 c1 d0 d1 e0 e1 f0 f1
  obtain ⟨c0, c1, d0, d1, e0, e1, f0, f1⟩ := hi.cells
  clear hi
  go_wp2_with fail
  refine (HM.out _).mono ?_
  rintro ev w3 ⟨rfl, hb⟩
  have hi := HI.out.next hb
  have HI := Lib.hid hi
  clear hb c0 c1 d0 d1 e0 e1 f0 f1
  obtain ⟨c0, c1, d0, d1, e0, e1, f0, f1⟩ := hi.cells
  clear hi
  go_wp2_with fail
  refine (HMK.out _).mono ?_
  rintro ev w4 ⟨rfl, hb⟩
  have hi := HI.out.next hb
  have HI := Lib.hid hi
  clear hb c0 c1 d0 d1 e0 e1 f0 f1
  obtain ⟨c0, c1, d0, d1, e0, e1, f0, f1⟩ := hi.cells
  clear hi
  go_wp2
  obtain ⟨q0, q1, qb⟩ := HI.out.done (.bool u) (.string v)
  exact bodyPost_ret (v := .tuple #[.agg #[.bool u, .string v], .int .i64 rc]) (by simp [results, Tryz.results134, go_sem, q0, q1]) rfl ⟨rfl, qb⟩

set_option maxRecDepth 100000 in
set_option maxHeartbeats 1000000 in
theorem int_ModG (z : Int) (m : Nat) (hz : z.natAbs < 256 ^ 128) (hm : m < 256 ^ 128) (h0 : 0 < m) (hdm : ∀ w, Calls Tryz.prog 132 #[.string (nS z.natAbs), .string (nS m)] w (Ret (.tuple #[.string (nS (z.natAbs / m)), .string (nS (z.natAbs % m)), .int .i64 0]) w)) (w : World) : Calls Tryz.prog 153 #[intV z, .string (nS m)] w (Ret (.tuple #[.string (nS (z % m).toNat), .int .i64 0]) w) := by
  have HVZ := Lib.hid (int_Valid_n z hz)
  have HVM := Lib.hid (nat_Valid (nS m) (nS_size63 hm))
  rw [nvalid_nS.2 hm] at HVM
  have HDM := Lib.hid hdm
  have hrr : z.natAbs % m < 256 ^ 128 := Nat.lt_trans (Nat.mod_lt _ h0) hm
  have HSB := Lib.hid (nat_Sub_ge m (z.natAbs % m) hm hrr (Nat.le_of_lt (Nat.mod_lt _ h0)))
  have hem := empty_nS h0
  unfold intV zV at *
  have HB0 := Lib.hid ((Below.refl w.heap.size w).alloc (Nat.le_refl _) (.cells #[.bool (decide (z < 0)), .string (nS z.natAbs)] 67))
  have HX0 := Lib.hid (Bx2.new w (.bool (decide (z < 0))) (.string (nS z.natAbs)) 67)
  obtain ⟨t, ht⟩ : ∃ t, nS m = t := ⟨_, rfl⟩
  obtain ⟨s, hs⟩ : ∃ s, nS z.natAbs = s := ⟨_, rfl⟩
  obtain ⟨q, hq⟩ : ∃ q, nS (z.natAbs / m) = q := ⟨_, rfl⟩
  by_cases hneg : z < 0
  · have hd : decide (z < 0) = true := decide_eq_true hneg
    by_cases hr : z.natAbs % m = 0
    · have HRR := Lib.hid (emod_of_zero hr)
      rw [hr, nS_zero] at HDM
      rw [HRR.out, nS_zero]
      rw [ht, hs, hq] at HDM
      rw [ht] at HVM hem
      rw [hs, hd] at HVZ HB0 HX0
      rw [hs, hd, ht]
      clear ht hs hq hd hneg hr HSB hrr hz hm h0 hdm
      go_enter Tryz.func153, Tryz.ntmps153
      go_wp2_with fail
      refine (HVZ.out _).mono ?_
      rintro ev w1 ⟨rfl, hb⟩
      have HB1 := Lib.hid (HB0.out.trans (hb.mono HB0.out.size))
      have hx := HX0.out.next hb
      have c0 := hx.c0
      have c1 := hx.c1
      have HX1 := Lib.hid hx
      clear hb hx
      go_wp2_with fail
      refine (HVM.out _).mono ?_
      rintro ev w2 ⟨rfl, rfl⟩
      go_wp2_with fail
      refine (HDM.out _).mono ?_
      rintro ev w2 ⟨rfl, hb⟩
      have HB2 := Lib.hid (HB1.out.trans (hb.mono HB1.out.size))
      have hx := HX1.out.next hb
      clear c0 c1
      have c0 := hx.c0
      have c1 := hx.c1
      clear hb hx
      go_wp2
      go_ret2
      exact ⟨rfl, HB2.out⟩
    · have HRR := Lib.hid (emod_of_neg h0 hneg (by omega))
      have her := empty_nS (n := z.natAbs % m) (by omega)
      rw [HRR.out]
      obtain ⟨r, hr'⟩ : ∃ r, nS (z.natAbs % m) = r := ⟨_, rfl⟩
      obtain ⟨r2, hr2⟩ : ∃ r, nS (m - z.natAbs % m) = r := ⟨_, rfl⟩
      rw [ht, hs, hq, hr'] at HDM
      rw [ht, hr', hr2] at HSB
      rw [hr'] at her
      rw [ht] at HVM hem
      rw [hs, hd] at HVZ HB0 HX0
      rw [hs, hd, ht, hr2]
      clear ht hs hq hd hneg hr hr' hr2 hrr hz hm h0 hdm HRR
      go_enter Tryz.func153, Tryz.ntmps153
      go_wp2_with fail
      refine (HVZ.out _).mono ?_
      rintro ev w1 ⟨rfl, hb⟩
      have HB1 := Lib.hid (HB0.out.trans (hb.mono HB0.out.size))
      have hx := HX0.out.next hb
      have c0 := hx.c0
      have c1 := hx.c1
      have HX1 := Lib.hid hx
      clear hb hx
      go_wp2_with fail
      refine (HVM.out _).mono ?_
      rintro ev w2 ⟨rfl, rfl⟩
      go_wp2_with fail
      refine (HDM.out _).mono ?_
      rintro ev w2 ⟨rfl, hb⟩
      have HB2 := Lib.hid (HB1.out.trans (hb.mono HB1.out.size))
      have hx := HX1.out.next hb
      clear c0 c1
      have c0 := hx.c0
      have c1 := hx.c1
      clear hb hx
      go_wp2_with fail
      refine (HSB.out _).mono ?_
      rintro ev w3 ⟨rfl, hb⟩
      have HB3 := Lib.hid (HB2.out.trans (hb.mono HB2.out.size))
      clear hb
      go_wp2
      go_ret2
      exact ⟨rfl, HB3.out⟩
  · have hd : decide (z < 0) = false := decide_eq_false hneg
    have HRR := Lib.hid (emod_of_pos (z := z) (m := m) (by omega))
    rw [HRR.out]
    obtain ⟨r, hr'⟩ : ∃ r, nS (z.natAbs % m) = r := ⟨_, rfl⟩
    rw [ht, hs, hq, hr'] at HDM
    rw [ht] at HVM hem
    rw [hs, hd] at HVZ HB0 HX0
    rw [hs, hd, ht, hr']
    clear ht hs hq hd hneg hr' hrr HSB hz hm h0 hdm HRR
    go_enter Tryz.func153, Tryz.ntmps153
    go_wp2_with fail
    refine (HVZ.out _).mono ?_
    rintro ev w1 ⟨rfl, hb⟩
    have HB1 := Lib.hid (HB0.out.trans (hb.mono HB0.out.size))
    have hx := HX0.out.next hb
    have c0 := hx.c0
    have c1 := hx.c1
    have HX1 := Lib.hid hx
    clear hb hx
    go_wp2_with fail
    refine (HVM.out _).mono ?_
    rintro ev w2 ⟨rfl, rfl⟩
    go_wp2_with fail
    refine (HDM.out _).mono ?_
    rintro ev w2 ⟨rfl, hb⟩
    have HB2 := Lib.hid (HB1.out.trans (hb.mono HB1.out.size))
    have hx := HX1.out.next hb
    clear c0 c1
    have c0 := hx.c0
    have c1 := hx.c1
    clear hb hx
    go_wp2
    go_ret2
    exact ⟨rfl, HB2.out⟩
set_option maxRecDepth 100000 in
theorem int_Of_m3 (w : World) : Calls Tryz.prog 68 #[.int .i64 (-3)] w (Ret (intV (-3)) w) := by
  have HO := Lib.hid (nat_Of 3 (by decide))
  have HM := Lib.hid (int_made_n true 3)
  rw [show sg true 3 = (-3 : Int) from rfl] at HM
  have HO' := Lib.hid (fun w => show Calls Tryz.prog 53 #[.int .u64 3] w (Ret (.string (nS 3)) w) from HO.out w)
  have HB0 := Lib.hid ((Below.refl w.heap.size w).alloc (Nat.le_refl _) (.cells #[.bool false, .string ⟨#[]⟩] 67))
  have HX0 := Lib.hid (Bx2.new w (.bool false) (.string ⟨#[]⟩) 67)
  unfold intV zV at HM ⊢
  obtain ⟨s, hs⟩ : ∃ s, nS 3 = s := ⟨_, rfl⟩
  obtain ⟨u, hu⟩ : ∃ u, decide ((-3 : Int) < 0) = u := ⟨_, rfl⟩
  obtain ⟨v, hv⟩ : ∃ v, nS ((-3 : Int)).natAbs = v := ⟨_, rfl⟩
  rw [hs] at HO' HM
  rw [hu, hv] at HM ⊢
  clear hs hv HO hu
  go_enter Tryz.func68, Tryz.ntmps68
  go_wp2_with fail
  refine (HO'.out _).mono ?_
  rintro e w1 ⟨rfl, hb1⟩
  have HX1 := Lib.hid (HX0.out.next hb1)
  have HB1 := Lib.hid (HB0.out.trans (hb1.mono HB0.out.size))
  clear hb1
  go_wp2_with fail
  refine (HM.out _).mono ?_
  rintro e w2 ⟨rfl, hb2⟩
  have hX := HX1.out.next hb2
  have HX2 := Lib.hid hX
  have HB2 := Lib.hid (HB1.out.trans (hb2.mono HB1.out.size))
  have c0 := hX.c0
  have c1 := hX.c1
  have f0 := hX.f0
  have f1 := hX.f1
  clear hb2 hX
  go_wp2
  have hY := HX2.out.set2 (u := .bool u) (v := .string v)
  have q0 := hY.c0
  have q1 := hY.c1
  exact bodyPost_ret (v := .agg #[.bool u, .string v]) (by simp [results, Tryz.results68, go_sem, q0, q1]) rfl ⟨rfl, (HB2.out.setCell (p := ⟨w.heap.size, 0, none⟩) (Nat.le_refl _) _).setCell (p := ⟨w.heap.size, 1, none⟩) (Nat.le_refl _) _⟩
end Go.Proofs.YtpdejgdkpghjhaaGreatDoor

/- Walks: pedersen.Commit, Opens and the reference's. -/
import Derived.Test.YtnnfgphioapmnaaPeQ
set_option linter.unusedVariables false
set_option linter.unusedSimpArgs false
namespace Go.Proofs.Ytnnfgphioapmnaa
open Go.RowKit

theorem prR_form (M O : ByteArray) (l : List ByteArray) (zs : List (Bool × ByteArray)) : ∃ s c, prR M O l zs = .tuple #[.string s, .int .i64 c] := by
  unfold prR
  split
  · exact ⟨_, _, rfl⟩
  · exact ⟨_, _, rfl⟩
theorem slz_alloc2 (w : World) (b1 b2 : Bool) (s1 s2 : ByteArray) (T : TypeId) : SlZ (w.alloc (.cells #[.bool b1, .string s1, .bool b2, .string s2] T)) (some ⟨w.heap.size, 0, none⟩) 2 2 [(b1, s1), (b2, s2)] := by
  have h := Bx4.new w (.bool b1) (.string s1) (.bool b2) (.string s2) T
  obtain ⟨c0, c1, c2, c3⟩ := h.cells
  refine ⟨rfl, Nat.le_refl _, by omega, w.heap.size, 0, fun _ => rfl, fun k z hk => ?_⟩
  match k, hk with
  | 0, hk => cases hk; exact ⟨c0, c1⟩
  | 1, hk => cases hk; exact ⟨c2, c3⟩
/-- What Commit returns. -/
def cmR (M O G H : ByteArray) (vb : Bool) (vt : ByteArray) (rb : Bool) (rt : ByteArray) : Value :=
  if (kF M O G H && (zvalid vb vt && zvalid rb rt)) = false then .tuple #[.string ⟨#[]⟩, .int .i64 3] else if pkC M O G H = 0 then prR M O [G, H] [(vb, vt), (rb, rt)] else .tuple #[.string ⟨#[]⟩, .int .i64 (pkC M O G H)]
theorem cmR_form (M O G H : ByteArray) (vb : Bool) (vt : ByteArray) (rb : Bool) (rt : ByteArray) : ∃ s c, cmR M O G H vb vt rb rt = .tuple #[.string s, .int .i64 c] := by
  unfold cmR
  split
  · exact ⟨_, _, rfl⟩
  · split
    · exact prR_form _ _ _ _
    · exact ⟨_, _, rfl⟩
/-- What Opens returns. -/
def opR (M O G H c : ByteArray) (vb : Bool) (vt : ByteArray) (rb : Bool) (rt : ByteArray) : Bool :=
  match cmR M O G H vb vt rb rt with
  | .tuple ⟨[.string s, .int .i64 e]⟩ => (e == 0) && (s.toList == c.toList)
  | _ => false
theorem opR_of {M O G H c : ByteArray} {vb : Bool} {vt : ByteArray} {rb : Bool} {rt s : ByteArray} {e : Int} (h : cmR M O G H vb vt rb rt = .tuple #[.string s, .int .i64 e]) : opR M O G H c vb vt rb rt = ((e == 0) && (s.toList == c.toList)) := by
  unfold opR
  rw [h]
/-- A key and an opening. -/
def KO (w W : World) (M O G H : ByteArray) (vb : Bool) (vt : ByteArray) (rb : Bool) (rt : ByteArray) : Prop :=
  Bx4 W w.heap.size (.string M) (.string O) (.string G) (.string H) 26 ∧ Bx4 W (w.heap.size + 1) (.bool vb) (.string vt) (.bool rb) (.string rt) 43 ∧ Below w.heap.size w W
theorem KO.new (w : World) (M O G H : ByteArray) (vb : Bool) (vt : ByteArray) (rb : Bool) (rt : ByteArray) : KO w ((w.alloc (.cells #[.string M, .string O, .string G, .string H] 26)).alloc (.cells #[.bool vb, .string vt, .bool rb, .string rt] 43)) M O G H vb vt rb rt := by
  refine ⟨(Bx4.new w _ _ _ _ _).next ((Below.refl _ _).alloc (Nat.le_refl _) _), ?_, ((Below.refl w.heap.size w).alloc (Nat.le_refl _) _).alloc (by simp) _⟩
  have := Bx4.new (w.alloc (.cells #[.string M, .string O, .string G, .string H] 26)) (.bool vb) (.string vt) (.bool rb) (.string rt) 43
  rwa [World.size_alloc] at this
theorem KO.next {w W W' : World} {M O G H : ByteArray} {vb : Bool} {vt : ByteArray} {rb : Bool} {rt : ByteArray} (h : KO w W M O G H vb vt rb rt) (hb : Below W.heap.size W W') : KO w W' M O G H vb vt rb rt :=
  ⟨h.1.next hb, h.2.1.next hb, h.2.2.trans (hb.mono (Nat.le_of_lt h.1.lt))⟩
theorem KO.cells {w W : World} {M O G H : ByteArray} {vb : Bool} {vt : ByteArray} {rb : Bool} {rt : ByteArray} (h : KO w W M O G H vb vt rb rt) : (W.cell? ⟨w.heap.size, 0, none⟩ = some (.string M) ∧ W.cell? ⟨w.heap.size, 1, none⟩ = some (.string O) ∧ W.cell? ⟨w.heap.size, 2, none⟩ = some (.string G) ∧ W.cell? ⟨w.heap.size, 3, none⟩ = some (.string H)) ∧ W.cell? ⟨w.heap.size + 1, 0, none⟩ = some (.bool vb) ∧ W.cell? ⟨w.heap.size + 1, 1, none⟩ = some (.string vt) ∧ W.cell? ⟨w.heap.size + 1, 2, none⟩ = some (.bool rb) ∧ W.cell? ⟨w.heap.size + 1, 3, none⟩ = some (.string rt) := ⟨h.1.cells, h.2.1.cells⟩

set_option maxRecDepth 100000 in
set_option maxHeartbeats 4000000 in
theorem pk_Commit (M O G H : ByteArray) (vb : Bool) (vt : ByteArray) (rb : Bool) (rt : ByteArray) (hM : M.size ≤ 8) (hO : O.size ≤ 8) (hG : G.size ≤ 1000) (hH : H.size ≤ 1000) (hv : vt.size ≤ 1000) (hr : rt.size ≤ 1000) (w : World) : Calls Try.prog 16 #[kV M O G H, oV vb vt rb rt] w (Ret (cmR M O G H vb vt rb rt) w) := by
  have HF := Lib.hid (pk_formed M O G H (by omega) (by omega) hG hH)
  have HVA := Lib.hid (pk_valid vb vt rb rt hv hr)
  have HCK := Lib.hid (pk_Check M O G H hM hO hG hH)
  have HPR := Lib.hid (fun (A B : Option Addr) (w : World) (hl : SlN w A 2 2 [G, H]) (hz : SlZ w B 2 2 [(vb, vt), (rb, rt)]) => pw_Product M O [G, H] [(vb, vt), (rb, rt)] A B 2 2 2 2 hM hO (by intro s hs; simp only [List.mem_cons, List.mem_nil_iff, or_false] at hs; rcases hs with rfl | rfl; exact hG; exact hH) (by intro z hz; simp only [List.mem_cons, List.mem_nil_iff, or_false] at hz; rcases hz with rfl | rfl; exact hv; exact hr) (by omega) (by omega) w hl hz)
  have HRV := Lib.hid (show ∃ R, cmR M O G H vb vt rb rt = R from ⟨_, rfl⟩)
  obtain ⟨R, hR⟩ := HRV.out
  have HRR := Lib.hid hR
  rw [hR]
  clear hM hO hG hH hv hr hR HRV
  unfold kV oV gV at *
  cases hf : kF M O G H with
  | false =>
    have HR := Lib.hid (show R = .tuple #[.string ⟨#[]⟩, .int .i64 3] from by rw [← HRR.out]; unfold cmR; rw [hf]; rfl)
    rw [hf] at HF
    rw [HR.out]
    clear hf
    go_enter Try.func16, Try.ntmps16
    have hk := KO.new w M O G H vb vt rb rt
    obtain ⟨W0, hW0⟩ : ∃ W, (w.alloc (.cells #[.string M, .string O, .string G, .string H] 26)).alloc (.cells #[.bool vb, .string vt, .bool rb, .string rt] 43) = W := ⟨_, rfl⟩
    rw [hW0] at hk
    have HK := Lib.hid hk
    obtain ⟨⟨c0, c1, c2, c3⟩, d0, d1, d2, d3⟩ := hk.cells
    clear hk
    go_wp2_with fail
    try rw [hW0]
    clear hW0
    refine (HF.out _).mono ?_
    rintro ev w1 ⟨rfl, hb⟩
    have hk := HK.out.next hb
    have HK := Lib.hid hk
    clear hb c0 c1 c2 c3 d0 d1 d2 d3
    obtain ⟨⟨c0, c1, c2, c3⟩, d0, d1, d2, d3⟩ := hk.cells
    clear hk
    go_wp2
    go_ret2
    exact ⟨rfl, HK.out.2.2⟩
  | true =>
    rw [hf] at HF
    cases hz : (zvalid vb vt && zvalid rb rt) with
    | false =>
      have HR := Lib.hid (show R = .tuple #[.string ⟨#[]⟩, .int .i64 3] from by rw [← HRR.out]; unfold cmR; rw [hf, hz]; rfl)
      rw [hz] at HVA
      rw [HR.out]
      clear hf hz
      go_enter Try.func16, Try.ntmps16
      have hk := KO.new w M O G H vb vt rb rt
      obtain ⟨W0, hW0⟩ : ∃ W, (w.alloc (.cells #[.string M, .string O, .string G, .string H] 26)).alloc (.cells #[.bool vb, .string vt, .bool rb, .string rt] 43) = W := ⟨_, rfl⟩
      rw [hW0] at hk
      have HK := Lib.hid hk
      obtain ⟨⟨c0, c1, c2, c3⟩, d0, d1, d2, d3⟩ := hk.cells
      clear hk
      go_wp2_with fail
      try rw [hW0]
      clear hW0
      refine (HF.out _).mono ?_
      rintro ev w1 ⟨rfl, hb⟩
      have hk := HK.out.next hb
      have HK := Lib.hid hk
      clear hb c0 c1 c2 c3 d0 d1 d2 d3
      obtain ⟨⟨c0, c1, c2, c3⟩, d0, d1, d2, d3⟩ := hk.cells
      clear hk
      go_wp2_with fail
      refine (HVA.out _).mono ?_
      rintro ev w2 ⟨rfl, hb⟩
      have hk := HK.out.next hb
      have HK := Lib.hid hk
      clear hb c0 c1 c2 c3 d0 d1 d2 d3
      obtain ⟨⟨c0, c1, c2, c3⟩, d0, d1, d2, d3⟩ := hk.cells
      clear hk
      go_wp2
      go_ret2
      exact ⟨rfl, HK.out.2.2⟩
    | true =>
      rw [hz] at HVA
      by_cases hc : pkC M O G H = 0
      · have HR := Lib.hid (show R = prR M O [G, H] [(vb, vt), (rb, rt)] from by rw [← HRR.out]; unfold cmR; rw [hf, hz, if_neg (by decide), if_pos hc])
        rw [hc] at HCK
        obtain ⟨rs, rc, hpr⟩ := prR_form M O [G, H] [(vb, vt), (rb, rt)]
        rw [hpr] at HPR
        rw [HR.out, hpr]
        clear hf hz hc hpr
        go_enter Try.func16, Try.ntmps16
        have hk := KO.new w M O G H vb vt rb rt
        obtain ⟨W0, hW0⟩ : ∃ W, (w.alloc (.cells #[.string M, .string O, .string G, .string H] 26)).alloc (.cells #[.bool vb, .string vt, .bool rb, .string rt] 43) = W := ⟨_, rfl⟩
        rw [hW0] at hk
        have HK := Lib.hid hk
        obtain ⟨⟨c0, c1, c2, c3⟩, d0, d1, d2, d3⟩ := hk.cells
        clear hk
        go_wp2_with fail
        try rw [hW0]
        clear hW0
        refine (HF.out _).mono ?_
        rintro ev w1 ⟨rfl, hb⟩
        have hk := HK.out.next hb
        have HK := Lib.hid hk
        clear hb c0 c1 c2 c3 d0 d1 d2 d3
        obtain ⟨⟨c0, c1, c2, c3⟩, d0, d1, d2, d3⟩ := hk.cells
        clear hk
        go_wp2_with fail
        refine (HVA.out _).mono ?_
        rintro ev w2 ⟨rfl, hb⟩
        have hk := HK.out.next hb
        have HK := Lib.hid hk
        clear hb c0 c1 c2 c3 d0 d1 d2 d3
        obtain ⟨⟨c0, c1, c2, c3⟩, d0, d1, d2, d3⟩ := hk.cells
        clear hk
        go_wp2_with fail
        refine (HCK.out _).mono ?_
        rintro ev w3 ⟨rfl, hb⟩
        have hk := HK.out.next hb
        have HK := Lib.hid hk
        clear hb c0 c1 c2 c3 d0 d1 d2 d3
        obtain ⟨⟨c0, c1, c2, c3⟩, d0, d1, d2, d3⟩ := hk.cells
        clear hk
        have hs1 := sln_alloc w3 [G, H] 22 (by simp)
        have hb1 : Below w3.heap.size w3 (w3.alloc (.cells #[.string G, .string H] 22)) := (Below.refl _ _).alloc (Nat.le_refl _) _
        have hs2 := slz_alloc2 (w3.alloc (.cells #[.string G, .string H] 22)) vb rb vt rt 38
        have hb2 : Below (w3.alloc (.cells #[.string G, .string H] 22)).heap.size (w3.alloc (.cells #[.string G, .string H] 22)) ((w3.alloc (.cells #[.string G, .string H] 22)).alloc (.cells #[.bool vb, .string vt, .bool rb, .string rt] 38)) := (Below.refl _ _).alloc (Nat.le_refl _) _
        have HPP := Lib.hid (HPR.out _ _ _ (SlN.kept hb2 (Nat.le_refl _) hs1) hs2)
        have HBB := Lib.hid (HK.out.2.2.trans ((hb1.trans (hb2.mono hb1.size)).mono HK.out.2.2.size))
        rw [World.size_alloc] at HPP
        obtain ⟨_, g0, g1, g2, g3⟩ := (HK.out.next hb1).cells
        clear hs1 hb1 hs2 hb2
        go_wp2_with fail
        refine HPP.out.mono ?_
        rintro ev w4 ⟨rfl, hb⟩
        have HB4 := Lib.hid (HBB.out.trans (hb.mono HBB.out.size))
        clear hb
        go_wp2
        go_ret2
        exact ⟨rfl, HB4.out⟩
      · have HR := Lib.hid (show R = .tuple #[.string ⟨#[]⟩, .int .i64 (pkC M O G H)] from by rw [← HRR.out]; unfold cmR; rw [hf, hz, if_neg (by decide), if_neg hc])
        rw [HR.out]
        obtain ⟨cc, hcc⟩ : ∃ cc, pkC M O G H = cc := ⟨_, rfl⟩
        rw [hcc] at HCK hc ⊢
        have hcb : (cc == 0) = false := by rw [beq_eq_false_iff_ne]; exact hc
        have hcb2 : (cc != 0) = true := by rw [bne, hcb]; rfl
        clear hf hz hc hcc
        go_enter Try.func16, Try.ntmps16
        have hk := KO.new w M O G H vb vt rb rt
        obtain ⟨W0, hW0⟩ : ∃ W, (w.alloc (.cells #[.string M, .string O, .string G, .string H] 26)).alloc (.cells #[.bool vb, .string vt, .bool rb, .string rt] 43) = W := ⟨_, rfl⟩
        rw [hW0] at hk
        have HK := Lib.hid hk
        obtain ⟨⟨c0, c1, c2, c3⟩, d0, d1, d2, d3⟩ := hk.cells
        clear hk
        go_wp2_with fail
        try rw [hW0]
        clear hW0
        refine (HF.out _).mono ?_
        rintro ev w1 ⟨rfl, hb⟩
        have hk := HK.out.next hb
        have HK := Lib.hid hk
        clear hb c0 c1 c2 c3 d0 d1 d2 d3
        obtain ⟨⟨c0, c1, c2, c3⟩, d0, d1, d2, d3⟩ := hk.cells
        clear hk
        go_wp2_with fail
        refine (HVA.out _).mono ?_
        rintro ev w2 ⟨rfl, hb⟩
        have hk := HK.out.next hb
        have HK := Lib.hid hk
        clear hb c0 c1 c2 c3 d0 d1 d2 d3
        obtain ⟨⟨c0, c1, c2, c3⟩, d0, d1, d2, d3⟩ := hk.cells
        clear hk
        go_wp2_with fail
        refine (HCK.out _).mono ?_
        rintro ev w3 ⟨rfl, hb⟩
        have hk := HK.out.next hb
        have HK := Lib.hid hk
        clear hb c0 c1 c2 c3 d0 d1 d2 d3
        obtain ⟨⟨c0, c1, c2, c3⟩, d0, d1, d2, d3⟩ := hk.cells
        clear hk
        go_wp2
        go_ret2
        exact ⟨rfl, HK.out.2.2⟩


set_option maxRecDepth 100000 in
set_option maxHeartbeats 4000000 in
theorem pk_Opens (M O G H c : ByteArray) (vb : Bool) (vt : ByteArray) (rb : Bool) (rt : ByteArray) (hM : M.size ≤ 8) (hO : O.size ≤ 8) (hG : G.size ≤ 1000) (hH : H.size ≤ 1000) (hv : vt.size ≤ 1000) (hr : rt.size ≤ 1000) (w : World) : Calls Try.prog 13 #[kV M O G H, .string c, oV vb vt rb rt] w (Ret (.bool (opR M O G H c vb vt rb rt)) w) := by
  have HC := Lib.hid (pk_Commit M O G H vb vt rb rt hM hO hG hH hv hr)
  obtain ⟨s, e, hcm⟩ := cmR_form M O G H vb vt rb rt
  have hop := opR_of (c := c) hcm
  rw [hcm] at HC
  rw [hop]
  clear hM hO hG hH hv hr hcm hop
  unfold kV oV at *
  have HK := Lib.hid (KO.new w M O G H vb vt rb rt)
  obtain ⟨b, hb⟩ : ∃ b, (s.toList == c.toList) = b := ⟨_, rfl⟩
  rw [hb]
  by_cases he : e = 0
  · subst he
    rw [show ((0 : Int) == 0) = true from rfl, Bool.true_and]
    go_enter Try.func13, Try.ntmps13
    go_wp2_with fail
    refine (HC.out _).mono ?_
    rintro ev w1 ⟨rfl, hb1⟩
    have HB1 := Lib.hid (HK.out.2.2.trans (hb1.mono HK.out.2.2.size))
    clear hb1
    go_wp2
    go_ret
    exact ⟨rfl, HB1.out⟩
  · have hcb : (e == 0) = false := by rw [beq_eq_false_iff_ne]; exact he
    rw [hcb, Bool.false_and]
    clear he
    go_enter Try.func13, Try.ntmps13
    go_wp2_with fail
    refine (HC.out _).mono ?_
    rintro ev w1 ⟨rfl, hb1⟩
    have HB1 := Lib.hid (HK.out.2.2.trans (hb1.mono HK.out.2.2.size))
    clear hb1
    go_wp2
    go_ret
    exact ⟨rfl, HB1.out⟩

end Go.Proofs.Ytnnfgphioapmnaa

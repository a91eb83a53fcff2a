import Derived.Test.YtndmjfkmnjejkaaGreatDoorQLdF
import Derived.Test.YtndmjfkmnjejkaaGreatDoorQPeT
set_option linter.unusedVariables false
set_option linter.unusedSimpArgs false
namespace Go.Proofs.YtndmjfkmnjejkaaGreatDoor
open Go.RowKit
theorem int_ModA (z : Int) (m : Nat) (hz : z.natAbs < 256 ^ 128) (hm : m < 256 ^ 128) (h0 : 0 < m) (w : World) : Calls Tryz.prog 99 #[intV z, .string (nS m)] w (Ret (.tuple #[.string (nS (z % m).toNat), .int .i64 0]) w) := int_ModG z m hz hm h0 (fun w => nat_DivModA _ _ hz hm h0 w) w
end Go.Proofs.YtndmjfkmnjejkaaGreatDoor
namespace Go.Proofs.YtndmjfkmnjejkaaGreatDoor
set_option maxRecDepth 100000
set_option maxHeartbeats 4000000
open Go.RowKit
def K4 (w W : World) (M O G H : ByteArray) (vb : Bool) (vt : ByteArray) (rb : Bool) (rt : ByteArray) (bb : Bool) (bt : ByteArray) : Prop :=
 KO w W M O G H vb vt rb rt ∧ Bx2 W (w.heap.size + 1 + 1) (.bool bb) (.string bt) 28 ∧ Bx4 W (w.heap.size + 1 + 1 + 1) (.bool false) (.string ⟨#[]⟩) (.bool false) (.string ⟨#[]⟩) 37
theorem K4.new (w : World) (M O G H : ByteArray) (vb : Bool) (vt : ByteArray) (rb : Bool) (rt : ByteArray) (bb : Bool) (bt : ByteArray) : K4 w ((((w.alloc (.cells #[.string M, .string O, .string G, .string H] 26)).alloc (.cells #[.bool vb, .string vt, .bool rb, .string rt] 37)).alloc (.cells #[.bool bb, .string bt] 28)).alloc (.cells #[.bool false, .string ⟨#[]⟩, .bool false, .string ⟨#[]⟩] 37)) M O G H vb vt rb rt bb bt := by
 refine ⟨((KO.new w M O G H vb vt rb rt).next ((Below.refl _ _).alloc (Nat.le_refl _) _)).next ((Below.refl _ _).alloc (Nat.le_refl _) _), ?_, ?_⟩
 · have := Bx2.new ((w.alloc (.cells #[.string M, .string O, .string G, .string H] 26)).alloc (.cells #[.bool vb, .string vt, .bool rb, .string rt] 37)) (.bool bb) (.string bt) 28
   rw [World.size_alloc, World.size_alloc] at this
   exact this.next ((Below.refl _ _).alloc (Nat.le_refl _) _)
 · have := Bx4.new (((w.alloc (.cells #[.string M, .string O, .string G, .string H] 26)).alloc (.cells #[.bool vb, .string vt, .bool rb, .string rt] 37)).alloc (.cells #[.bool bb, .string bt] 28)) (.bool false) (.string ⟨#[]⟩) (.bool false) (.string ⟨#[]⟩) 37
   rw [World.size_alloc, World.size_alloc, World.size_alloc] at this
   exact this
theorem K4.next {w W W' : World} {M O G H : ByteArray} {vb : Bool} {vt : ByteArray} {rb : Bool} {rt : ByteArray} {bb : Bool} {bt : ByteArray} (h : K4 w W M O G H vb vt rb rt bb bt) (hb : Below W.heap.size W W') : K4 w W' M O G H vb vt rb rt bb bt := ⟨h.1.next hb, h.2.1.next hb, h.2.2.next hb⟩
theorem pk_Times_ok (M G H : ByteArray) (o : Nat) (v r b : Int) (hM : M.size ≤ 8) (ho : o < 18446744073709551616) (hG : G.size ≤ 1000) (hH : H.size ≤ 1000) (hv : v.natAbs < 256 ^ 128) (hr : r.natAbs < 256 ^ 128) (hb : b.natAbs < 256 ^ 128)
 (hc : pkC M (nS o) G H = 0) (hvb : (v * b).natAbs < 256 ^ 128) (hrb : (r * b).natAbs < 256 ^ 128)
 (hm1 : ∀ w, Calls Tryz.prog 93 #[intV v, intV b] w (Ret (fitZ (v * b)) w)) (hm2 : ∀ w, Calls Tryz.prog 93 #[intV r, intV b] w (Ret (fitZ (r * b)) w))
 (hd1 : 0 < o → ∀ w, Calls Tryz.prog 99 #[intV (v * b), .string (nS o)] w (Ret (.tuple #[.string (nS (v * b % o).toNat), .int .i64 0]) w)) (hd2 : 0 < o → ∀ w, Calls Tryz.prog 99 #[intV (r * b), .string (nS o)] w (Ret (.tuple #[.string (nS (r * b % o).toNat), .int .i64 0]) w)) (w : World) :
 Calls Tryz.prog 40 #[kV M (nS o) G H, arV v r, intV b] w (Ret (.tuple #[arV (redZ o (v * b)) (redZ o (r * b)), .int .i64 0]) w) := by
 have hos := nS_small_size ho
 have hkf : kF M (nS o) G H = true := by
  cases h : kF M (nS o) G H with
  | true => rfl
  | false => unfold pkC at hc; rw [if_pos h] at hc; cases hc
 have HF := Hq (pk_formed M (nS o) G H (by omega) (by omega) hG hH)
 rw [hkf] at HF
 have hsv := nS_size_le.2 hv
 have hsr := nS_size_le.2 hr
 have HVA := Hq (pk_valid (decide (v < 0)) (nS v.natAbs) (decide (r < 0)) (nS r.natAbs) (by omega) (by omega))
 have hzz : ∀ z : Int, z.natAbs < 256 ^ 128 → zvalid (decide (z < 0)) (nS z.natAbs) = true := fun z h => by
  unfold zvalid
  rw [nvalid_nS.2 h, Bool.true_and]
  by_cases hz : z < 0
  · rw [empty_nS (by omega), Bool.and_false]; rfl
  · rw [decide_eq_false hz]; rfl
 rw [hzz v hv, hzz r hr, Bool.and_true] at HVA
 have HVB := Hq (int_Valid_n b hb)
 have HCK := Hq (pk_Check M (nS o) G H hM hos hG hH)
 rw [hc] at HCK
 rw [fitZ_in hvb] at hm1
 rw [fitZ_in hrb] at hm2
 have HM1 := Hq hm1
 have HM2 := Hq hm2
 have HRD := Hq (pk_reduced o M G H (v * b) (r * b) (lt128_of_lt8 ho) hd1 hd2)
 obtain ⟨v2, hv2⟩ : ∃ z, v * b = z := ⟨_, rfl⟩
 obtain ⟨r2, hr2⟩ : ∃ z, r * b = z := ⟨_, rfl⟩
 rw [hv2] at HM1 HRD ⊢
 rw [hr2] at HM2 HRD ⊢
 unfold oV at HVA
 unfold kV arV at *
 unfold intV zV at *
 obtain ⟨O, hO⟩ : ∃ x, nS o = x := ⟨_, rfl⟩
 obtain ⟨vb, hvb⟩ : ∃ t, decide (v < 0) = t := ⟨_, rfl⟩
 obtain ⟨vt, hvs⟩ : ∃ t, nS v.natAbs = t := ⟨_, rfl⟩
 obtain ⟨rb, hrb⟩ : ∃ t, decide (r < 0) = t := ⟨_, rfl⟩
 obtain ⟨rt, hrs⟩ : ∃ t, nS r.natAbs = t := ⟨_, rfl⟩
 obtain ⟨bb, hbb⟩ : ∃ t, decide (b < 0) = t := ⟨_, rfl⟩
 obtain ⟨bt, hbs⟩ : ∃ t, nS b.natAbs = t := ⟨_, rfl⟩
 obtain ⟨v2b, hv2b⟩ : ∃ t, decide (v2 < 0) = t := ⟨_, rfl⟩
 obtain ⟨v2t, hv2s⟩ : ∃ t, nS v2.natAbs = t := ⟨_, rfl⟩
 obtain ⟨r2b, hr2b⟩ : ∃ t, decide (r2 < 0) = t := ⟨_, rfl⟩
 obtain ⟨r2t, hr2s⟩ : ∃ t, nS r2.natAbs = t := ⟨_, rfl⟩
 obtain ⟨x1, hx1⟩ : ∃ t, decide (redZ o v2 < 0) = t := ⟨_, rfl⟩
 obtain ⟨x2, hx2⟩ : ∃ t, nS (redZ o v2).natAbs = t := ⟨_, rfl⟩
 obtain ⟨x3, hx3⟩ : ∃ t, decide (redZ o r2 < 0) = t := ⟨_, rfl⟩
 obtain ⟨x4, hx4⟩ : ∃ t, nS (redZ o r2).natAbs = t := ⟨_, rfl⟩
 rw [hO] at HF HCK HRD ⊢
 rw [hvb, hvs, hrb, hrs] at HVA
 rw [hbb, hbs] at HVB
 rw [hvb, hvs, hbb, hbs, hv2b, hv2s] at HM1
 rw [hrb, hrs, hbb, hbs, hr2b, hr2s] at HM2
 rw [hv2b, hv2s, hr2b, hr2s, hx1, hx2, hx3, hx4] at HRD
 rw [hvb, hvs, hrb, hrs, hbb, hbs, hx1, hx2, hx3, hx4]
 clear hO hvb hvs hrb hrs hbb hbs hv2b hv2s hr2b hr2s hx1 hx2 hx3 hx4 hv2 hr2 hm1 hm2 hd1 hd2 hc hkf hzz hos hsv hsr hM ho hG hH hv hr hb
 go_enter Tryz.func40, Tryz.ntmps40
 have hk := K4.new w M O G H vb vt rb rt bb bt
 obtain ⟨W0, hW0⟩ : ∃ W, (((w.alloc (.cells #[.string M, .string O, .string G, .string H] 26)).alloc (.cells #[.bool vb, .string vt, .bool rb, .string rt] 37)).alloc (.cells #[.bool bb, .string bt] 28)).alloc (.cells #[.bool false, .string ⟨#[]⟩, .bool false, .string ⟨#[]⟩] 37) = W := ⟨_, rfl⟩
 rw [hW0] at hk
 have HK := Hq hk
 obtain ⟨⟨c0, c1, c2, c3⟩, d0, d1, d2, d3⟩ := hk.1.cells
 have b0 := hk.2.1.c0
 have b1 := hk.2.1.c1
 clear hk
 go_wp2_with fail
 try rw [hW0]
 clear hW0
 refine (HF.out _).mono ?_
 rintro ev w1 ⟨rfl, hb⟩
 have hk := HK.out.next hb
 have HK := Hq hk
 clear hb c0 c1 c2 c3 d0 d1 d2 d3 b0 b1
 obtain ⟨⟨c0, c1, c2, c3⟩, d0, d1, d2, d3⟩ := hk.1.cells
 have b0 := hk.2.1.c0
 have b1 := hk.2.1.c1
 clear hk
 go_wp2_with fail
 refine (HVA.out _).mono ?_
 rintro ev w2 ⟨rfl, hb⟩
 have hk := HK.out.next hb
 have HK := Hq hk
 clear hb c0 c1 c2 c3 d0 d1 d2 d3 b0 b1
 obtain ⟨⟨c0, c1, c2, c3⟩, d0, d1, d2, d3⟩ := hk.1.cells
 have b0 := hk.2.1.c0
 have b1 := hk.2.1.c1
 clear hk
 go_wp2_with fail
 refine (HVB.out _).mono ?_
 rintro ev w3 ⟨rfl, hb⟩
 have hk := HK.out.next hb
 have HK := Hq hk
 clear hb c0 c1 c2 c3 d0 d1 d2 d3 b0 b1
 obtain ⟨⟨c0, c1, c2, c3⟩, d0, d1, d2, d3⟩ := hk.1.cells
 have b0 := hk.2.1.c0
 have b1 := hk.2.1.c1
 clear hk
 go_wp2_with fail
 refine (HCK.out _).mono ?_
 rintro ev w4 ⟨rfl, hb⟩
 have hk := HK.out.next hb
 have HK := Hq hk
 clear hb c0 c1 c2 c3 d0 d1 d2 d3 b0 b1
 obtain ⟨⟨c0, c1, c2, c3⟩, d0, d1, d2, d3⟩ := hk.1.cells
 have b0 := hk.2.1.c0
 have b1 := hk.2.1.c1
 clear hk
 go_wp2_with fail
 refine (HM1.out _).mono ?_
 rintro ev w5 ⟨rfl, hb⟩
 have hk := HK.out.next hb
 have HK := Hq hk
 clear hb c0 c1 c2 c3 d0 d1 d2 d3 b0 b1
 obtain ⟨⟨c0, c1, c2, c3⟩, d0, d1, d2, d3⟩ := hk.1.cells
 have b0 := hk.2.1.c0
 have b1 := hk.2.1.c1
 clear hk
 have hb : Below w5.heap.size w5 (w5.alloc (.cells #[.bool v2b, .string v2t] 28)) := (Below.refl _ _).alloc (Nat.le_refl _) _
 have hn := Bx2.new w5 (.bool v2b) (.string v2t) 28
 obtain ⟨W5, hW5⟩ : ∃ W, w5.alloc (.cells #[.bool v2b, .string v2t] 28) = W := ⟨_, rfl⟩
 obtain ⟨B5, hB5⟩ : ∃ B, w5.heap.size = B := ⟨_, rfl⟩
 rw [hW5] at hb hn
 rw [hB5] at hn
 have HN5 := Hq hn
 clear hn
 have hk := HK.out.next hb
 have HK := Hq hk
 clear hb c0 c1 c2 c3 d0 d1 d2 d3 b0 b1
 obtain ⟨⟨c0, c1, c2, c3⟩, d0, d1, d2, d3⟩ := hk.1.cells
 have b0 := hk.2.1.c0
 have b1 := hk.2.1.c1
 clear hk
 go_wp2_with fail
 try rw [hW5]
 try rw [hB5]
 clear hW5 hB5
 refine (HM2.out _).mono ?_
 rintro ev w6 ⟨rfl, hb⟩
 have HN6 := Hq (HN5.out.next hb)
 have hk := HK.out.next hb
 have HK := Hq hk
 clear hb c0 c1 c2 c3 d0 d1 d2 d3 b0 b1
 obtain ⟨⟨c0, c1, c2, c3⟩, d0, d1, d2, d3⟩ := hk.1.cells
 have b0 := hk.2.1.c0
 have b1 := hk.2.1.c1
 clear hk
 have hb : Below w6.heap.size w6 (w6.alloc (.cells #[.bool r2b, .string r2t] 28)) := (Below.refl _ _).alloc (Nat.le_refl _) _
 have hn := Bx2.new w6 (.bool r2b) (.string r2t) 28
 obtain ⟨W6, hW6⟩ : ∃ W, w6.alloc (.cells #[.bool r2b, .string r2t] 28) = W := ⟨_, rfl⟩
 obtain ⟨B6, hB6⟩ : ∃ B, w6.heap.size = B := ⟨_, rfl⟩
 rw [hW6] at hb hn
 rw [hB6] at hn
 have hn5 := HN6.out.next hb
 have n0 := hn5.c0
 have n1 := hn5.c1
 have m0 := hn.c0
 have m1 := hn.c1
 clear hn hn5
 have hk := HK.out.next hb
 have HK := Hq hk
 clear hb c0 c1 c2 c3 d0 d1 d2 d3 b0 b1
 obtain ⟨⟨c0, c1, c2, c3⟩, d0, d1, d2, d3⟩ := hk.1.cells
 have b0 := hk.2.1.c0
 have b1 := hk.2.1.c1
 clear hk
 go_wp2_with fail
 try rw [hW6]
 try rw [hB6]
 clear hW6 hB6
 refine (HRD.out _).mono ?_
 rintro ev w7 ⟨rfl, hb⟩
 have hk := HK.out.next hb
 have HK := Hq hk
 clear hb c0 c1 c2 c3 d0 d1 d2 d3 b0 b1 n0 n1 m0 m1
 obtain ⟨r0, r1, r2, r3⟩ := hk.2.2.cells
 have f0 := hk.2.2.free 0
 have f1 := hk.2.2.free 1
 have f2 := hk.2.2.free 2
 have f3 := hk.2.2.free 3
 clear hk
 go_wp2
 obtain ⟨q0, q1, q2, q3⟩ := (HK.out.2.2.set4 (a := .bool x1) (b := .string x2) (c := .bool x3) (d := .string x4)).cells
 exact bodyPost_ret (v := .tuple #[.agg #[.bool x1, .string x2, .bool x3, .string x4], .int .i64 0]) (by simp [results, Tryz.results40, go_sem, q0, q1, q2, q3]) rfl ⟨rfl, below_set4 HK.out.1.2.2 (by omega) _ _ _ _⟩
end Go.Proofs.YtndmjfkmnjejkaaGreatDoor
namespace Go.Proofs.YtndmjfkmnjejkaaGreatDoor
set_option maxRecDepth 100000
set_option maxHeartbeats 4000000
open Go.RowKit
theorem below_alloc {W W' : World} {o : Obj} (h : W' = W.alloc o) : Below W.heap.size W W' := by rw [h]; exact (Below.refl _ _).alloc (Nat.le_refl _) _
def sfR (M O G H c : ByteArray) (bb : Bool) (bt : ByteArray) : Value :=
 if (kF M O G H && (nvalid c && zvalid bb bt)) = false then .tuple #[.string ⟨#[]⟩, .int .i64 3] else if pkC M O G H = 0 then prR M O [c, G] [(false, nS 1), (bb, bt)] else .tuple #[.string ⟨#[]⟩, .int .i64 (pkC M O G H)]
theorem sln_two {w : World} {W : World} {a b : ByteArray} (h : W = w.alloc (.cells #[.string a, .string b] 22)) : SlN W (some ⟨w.heap.size, 0, none⟩) 2 2 [a, b] := by rw [h]; exact sln_alloc w [a, b] 22 (by simp)
theorem slz_two {w W : World} {b1 b2 : Bool} {s1 s2 : ByteArray} (h : W = w.alloc (.cells #[.bool b1, .string s1, .bool b2, .string s2] 28)) : SlZ W (some ⟨w.heap.size, 0, none⟩) 2 2 [(b1, s1), (b2, s2)] := by rw [h]; exact slz_alloc2 w b1 b2 s1 s2 28
def KI (w W : World) (M O G H : ByteArray) (bb : Bool) (bt : ByteArray) : Prop :=
 Bx4 W w.heap.size (.string M) (.string O) (.string G) (.string H) 26 ∧ Bx2 W (w.heap.size + 1) (.bool bb) (.string bt) 28 ∧ Below w.heap.size w W
theorem KI.new (w : World) (M O G H : ByteArray) (bb : Bool) (bt : ByteArray) : KI w ((w.alloc (.cells #[.string M, .string O, .string G, .string H] 26)).alloc (.cells #[.bool bb, .string bt] 28)) M O G H bb bt := by
 refine ⟨(Bx4.new w _ _ _ _ _).next ((Below.refl _ _).alloc (Nat.le_refl _) _), ?_, ((Below.refl w.heap.size w).alloc (Nat.le_refl _) _).alloc (by simp) _⟩
 have := Bx2.new (w.alloc (.cells #[.string M, .string O, .string G, .string H] 26)) (.bool bb) (.string bt) 28
 rwa [World.size_alloc] at this
theorem KI.next {w W W' : World} {M O G H : ByteArray} {bb : Bool} {bt : ByteArray} (h : KI w W M O G H bb bt) (hb : Below W.heap.size W W') : KI w W' M O G H bb bt :=
 ⟨h.1.next hb, h.2.1.next hb, h.2.2.trans (hb.mono (Nat.le_of_lt h.1.lt))⟩
theorem pk_Shift (M O G H c : ByteArray) (bb : Bool) (bt : ByteArray) (hM : M.size ≤ 8) (hO : O.size ≤ 8) (hG : G.size ≤ 1000) (hH : H.size ≤ 1000) (hc : c.size ≤ 1000) (hb : bt.size ≤ 1000) (w : World) : Calls Tryz.prog 42 #[kV M O G H, .string c, zV bb bt] w (Ret (sfR M O G H c bb bt) w) := by
 have HF := Hq (pk_formed M O G H (by omega) (by omega) hG hH)
 have HVC := Hq (nat_Valid c (by omega))
 have HVB := Hq (int_Valid bb bt (by omega))
 have HCK := Hq (pk_Check M O G H hM hO hG hH)
 have HO1 := Hq (int_Of 1 (by decide))
 rw [intV_nat] at HO1
 have HPR := Hq (fun (A B : Option Addr) (w : World) (hl : SlN w A 2 2 [c, G]) (hz : SlZ w B 2 2 [(false, nS 1), (bb, bt)]) => pw_Product M O [c, G] [(false, nS 1), (bb, bt)] A B 2 2 2 2 hM hO (by intro s hs; simp only [List.mem_cons, List.mem_nil_iff, or_false] at hs; rcases hs with rfl | rfl; exact hc; exact hG) (by intro z hz; simp only [List.mem_cons, List.mem_nil_iff, or_false] at hz; rcases hz with rfl | rfl; exact (by decide); exact hb) (by omega) (by omega) w hl hz)
 have HRV := Hq (show ∃ R, sfR M O G H c bb bt = R from ⟨_, rfl⟩)
 obtain ⟨R, hR⟩ := HRV.out
 have HRR := Hq hR
 rw [hR]
 clear hM hO hG hH hc hb hR HRV
 unfold kV gV zV at *
 cases hf : kF M O G H with
 | false =>
  have HR := Hq (show R = .tuple #[.string ⟨#[]⟩, .int .i64 3] from by rw [← HRR.out]; unfold sfR; rw [hf]; rfl)
  rw [hf] at HF
  rw [HR.out]
  clear hf
  go_enter Tryz.func42, Tryz.ntmps42
  have hk := KI.new w M O G H bb bt
  obtain ⟨W0, hW0⟩ : ∃ W, (w.alloc (.cells #[.string M, .string O, .string G, .string H] 26)).alloc (.cells #[.bool bb, .string bt] 28) = W := ⟨_, rfl⟩
  rw [hW0] at hk
  have HK := Hq hk
  obtain ⟨c0, c1, c2, c3⟩ := hk.1.cells
  have b0 := hk.2.1.c0
  have b1 := hk.2.1.c1
  clear hk
  go_wp2_with fail
  try rw [hW0]
  clear hW0
  refine (HF.out _).mono ?_
  rintro ev w1 ⟨rfl, hb⟩
  have hk := HK.out.next hb
  have HK := Hq hk
  clear hb c0 c1 c2 c3 b0 b1
  obtain ⟨c0, c1, c2, c3⟩ := hk.1.cells
  have b0 := hk.2.1.c0
  have b1 := hk.2.1.c1
  clear hk
  go_wp2
  go_ret2
  exact ⟨rfl, HK.out.2.2⟩
 | true =>
  rw [hf] at HF
  cases hvc : nvalid c with
  | false =>
   have HR := Hq (show R = .tuple #[.string ⟨#[]⟩, .int .i64 3] from by rw [← HRR.out]; unfold sfR; rw [hf, hvc]; rfl)
   rw [hvc] at HVC
   rw [HR.out]
   clear hf hvc
   go_enter Tryz.func42, Tryz.ntmps42
   have hk := KI.new w M O G H bb bt
   obtain ⟨W0, hW0⟩ : ∃ W, (w.alloc (.cells #[.string M, .string O, .string G, .string H] 26)).alloc (.cells #[.bool bb, .string bt] 28) = W := ⟨_, rfl⟩
   rw [hW0] at hk
   have HK := Hq hk
   obtain ⟨c0, c1, c2, c3⟩ := hk.1.cells
   have b0 := hk.2.1.c0
   have b1 := hk.2.1.c1
   clear hk
   go_wp2_with fail
   try rw [hW0]
   clear hW0
   refine (HF.out _).mono ?_
   rintro ev w1 ⟨rfl, hb⟩
   have hk := HK.out.next hb
   have HK := Hq hk
   clear hb c0 c1 c2 c3 b0 b1
   obtain ⟨c0, c1, c2, c3⟩ := hk.1.cells
   have b0 := hk.2.1.c0
   have b1 := hk.2.1.c1
   clear hk
   go_wp2_with fail
   refine (HVC.out _).mono ?_
   rintro ev w2 ⟨rfl, rfl⟩
   go_wp2
   go_ret2
   exact ⟨rfl, HK.out.2.2⟩
  | true =>
   rw [hvc] at HVC
   cases hz : zvalid bb bt with
   | false =>
    have HR := Hq (show R = .tuple #[.string ⟨#[]⟩, .int .i64 3] from by rw [← HRR.out]; unfold sfR; rw [hf, hvc, hz]; rfl)
    rw [hz] at HVB
    rw [HR.out]
    clear hf hvc hz
    go_enter Tryz.func42, Tryz.ntmps42
    have hk := KI.new w M O G H bb bt
    obtain ⟨W0, hW0⟩ : ∃ W, (w.alloc (.cells #[.string M, .string O, .string G, .string H] 26)).alloc (.cells #[.bool bb, .string bt] 28) = W := ⟨_, rfl⟩
    rw [hW0] at hk
    have HK := Hq hk
    obtain ⟨c0, c1, c2, c3⟩ := hk.1.cells
    have b0 := hk.2.1.c0
    have b1 := hk.2.1.c1
    clear hk
    go_wp2_with fail
    try rw [hW0]
    clear hW0
    refine (HF.out _).mono ?_
    rintro ev w1 ⟨rfl, hb⟩
    have hk := HK.out.next hb
    have HK := Hq hk
    clear hb c0 c1 c2 c3 b0 b1
    obtain ⟨c0, c1, c2, c3⟩ := hk.1.cells
    have b0 := hk.2.1.c0
    have b1 := hk.2.1.c1
    clear hk
    go_wp2_with fail
    refine (HVC.out _).mono ?_
    rintro ev w2 ⟨rfl, rfl⟩
    go_wp2_with fail
    refine (HVB.out _).mono ?_
    rintro ev w2 ⟨rfl, hb⟩
    have hk := HK.out.next hb
    have HK := Hq hk
    clear hb c0 c1 c2 c3 b0 b1
    obtain ⟨c0, c1, c2, c3⟩ := hk.1.cells
    have b0 := hk.2.1.c0
    have b1 := hk.2.1.c1
    clear hk
    go_wp2
    go_ret2
    exact ⟨rfl, HK.out.2.2⟩
   | true =>
    rw [hz] at HVB
    by_cases hc : pkC M O G H = 0
    · have HR := Hq (show R = prR M O [c, G] [(false, nS 1), (bb, bt)] from by rw [← HRR.out]; unfold sfR; rw [hf, hvc, hz, if_neg (by decide), if_pos hc])
      rw [hc] at HCK
      obtain ⟨rs, rc, hpr⟩ := prR_form M O [c, G] [(false, nS 1), (bb, bt)]
      rw [hpr] at HPR
      rw [HR.out, hpr]
      obtain ⟨one, hone⟩ : ∃ x, nS 1 = x := ⟨_, rfl⟩
      rw [hone] at HPR HO1
      have HO1 := Hq (fun w => show Calls Tryz.prog 41 #[.int .i64 1] w (Ret (.agg #[.bool false, .string one]) w) from HO1.out w)
      clear hf hvc hz hc hpr hone
      go_enter Tryz.func42, Tryz.ntmps42
      have hk := KI.new w M O G H bb bt
      obtain ⟨W0, hW0⟩ : ∃ W, (w.alloc (.cells #[.string M, .string O, .string G, .string H] 26)).alloc (.cells #[.bool bb, .string bt] 28) = W := ⟨_, rfl⟩
      rw [hW0] at hk
      have HK := Hq hk
      obtain ⟨c0, c1, c2, c3⟩ := hk.1.cells
      have b0 := hk.2.1.c0
      have b1 := hk.2.1.c1
      clear hk
      go_wp2_with fail
      try rw [hW0]
      clear hW0
      refine (HF.out _).mono ?_
      rintro ev w1 ⟨rfl, hb⟩
      have hk := HK.out.next hb
      have HK := Hq hk
      clear hb c0 c1 c2 c3 b0 b1
      obtain ⟨c0, c1, c2, c3⟩ := hk.1.cells
      have b0 := hk.2.1.c0
      have b1 := hk.2.1.c1
      clear hk
      go_wp2_with fail
      refine (HVC.out _).mono ?_
      rintro ev w2 ⟨rfl, rfl⟩
      go_wp2_with fail
      refine (HVB.out _).mono ?_
      rintro ev w2 ⟨rfl, hb⟩
      have hk := HK.out.next hb
      have HK := Hq hk
      clear hb c0 c1 c2 c3 b0 b1
      obtain ⟨c0, c1, c2, c3⟩ := hk.1.cells
      have b0 := hk.2.1.c0
      have b1 := hk.2.1.c1
      clear hk
      go_wp2_with fail
      refine (HCK.out _).mono ?_
      rintro ev w3 ⟨rfl, hb⟩
      have hk := HK.out.next hb
      have HK := Hq hk
      clear hb c0 c1 c2 c3 b0 b1
      obtain ⟨c0, c1, c2, c3⟩ := hk.1.cells
      have b0 := hk.2.1.c0
      have b1 := hk.2.1.c1
      clear hk
      go_wp2
      have g0 : w3.drew.cell? ⟨w.heap.size, 0, none⟩ = some (.string M) := c0
      have g1 : w3.drew.cell? ⟨w.heap.size, 1, none⟩ = some (.string O) := c1
      have g2 : w3.drew.cell? ⟨w.heap.size, 2, none⟩ = some (.string G) := c2
      have g3 : w3.drew.cell? ⟨w.heap.size + 1, 0, none⟩ = some (.bool bb) := b0
      have g4 : w3.drew.cell? ⟨w.heap.size + 1, 1, none⟩ = some (.string bt) := b1
      clear c0 c1 c2 c3 b0 b1
      have HKD := Hq HK.out.2.2.drew
      obtain ⟨wd, hwd⟩ : ∃ wd, w3.drew = wd := ⟨_, rfl⟩
      rw [hwd] at g0 g1 g2 g3 g4 HKD
      refine wp_region_K 14 (Below (wd).heap.size (wd)) (by kernel_rfl) ?_
      intro hD
      rw [hwd]
      have KK1 := Hq (fun w' (hS' : (Below (wd).heap.size (wd)) w') => And.intro (kC hS' g0) (And.intro (kC hS' g1) (And.intro (kC hS' g2) (And.intro (kC hS' g3) (kC hS' g4)))))
      refine rP 0 27 13 rfl hD (Below.refl _ _) ?_; clear hD; intro hD; simp only [Act.put, sqA, sqB, sqC]
      refine rT 1 28 12 rfl hD (Below.refl _ _) (by intro w' hS'; obtain ⟨e0, e1, e2, e3, e4⟩ := KK1.out w' hS'; go_simp; with_reducible rfl) ?_; clear hD; intro hD; simp only [Act.put, sqA, sqB, sqC]
      refine rP 2 29 11 rfl hD (Below.refl _ _) ?_; clear hD; intro hD; simp only [Act.put, sqA, sqB, sqC]
      refine rP 3 30 10 rfl hD (Below.refl _ _) ?_; clear hD; intro hD; simp only [Act.put, sqA, sqB, sqC]
      refine rT 4 31 9 rfl hD (Below.refl _ _) (by intro w' hS'; obtain ⟨e0, e1, e2, e3, e4⟩ := KK1.out w' hS'; go_simp; with_reducible rfl) ?_; clear hD; intro hD; simp only [Act.put, sqA, sqB, sqC]
      refine rT 7 34 8 rfl hD (Below.refl _ _) (by intro w' hS'; obtain ⟨e0, e1, e2, e3, e4⟩ := KK1.out w' hS'; go_simp; with_reducible rfl) ?_; clear hD; intro hD; simp only [Act.put, sqA, sqB, sqC]
      refine wpAnyK_two (i := 5) (i' := 6) (fuel := 7) (by kernel_rfl) rfl rfl hD ?_ ?_ 
      · unfold StepK
        clear hD; intro K5 hK5
        go_wp2
        refine name_world ?_
        intro w5 hw5
        have hb := below_alloc hw5
        have HS5 := Hq (sln_two hw5)
        try (have HS8 := Hq (SlZ.kept hb (Nat.le_refl _) HS8.out))
        have HB5 := Hq hb
        clear hb hw5
        refine hK5 _ _ (by exact Below.trans (B := wd.heap.size) (Below.refl _ _) (Below.mono HB5.out (Below.size (B := wd.heap.size) (Below.refl _ _)))) ?_; clear hK5; intro hS_6_5 hD
        refine rO 6 6 rfl hD ?_; clear hD; intro K6 hK6
        go_wp2_with fail
        refine (HO1.out _).mono ?_
        rintro ev w6 ⟨rfl, hb⟩
        try (have HS5 := Hq (SlN.kept hb (Nat.le_refl _) HS5.out))
        have HB6 := Hq hb
        clear hb
        go_wp2
        refine hK6 _ _ (by exact Below.trans (B := wd.heap.size) hS_6_5 (Below.mono HB6.out (Below.size (B := wd.heap.size) hS_6_5))) ?_; clear hK6; intro hS_6_6_5 hD
        refine rO 8 5 rfl hD ?_; clear hD; intro K8 hK8
        go_wp2
        refine name_world ?_
        intro w8 hw8
        have hb := below_alloc hw8
        have HS8 := Hq (slz_two hw8)
        try (have HS5 := Hq (SlN.kept hb (Nat.le_refl _) HS5.out))
        have HB8 := Hq hb
        clear hb hw8
        refine hK8 _ _ (by exact Below.trans (B := wd.heap.size) hS_6_6_5 (Below.mono HB8.out (Below.size (B := wd.heap.size) hS_6_6_5))) ?_; clear hK8; intro hS_6_8_5 hD
        refine rO 9 4 rfl hD ?_; clear hD; intro K9 hK9
        go_wp2_with fail
        refine (HPR.out _ _ _ HS5.out HS8.out).mono ?_
        rintro ev w9 ⟨rfl, hb⟩
        have HB9 := Hq hb
        clear hb
        go_wp2
        refine hK9 _ _ (by exact Below.trans (B := wd.heap.size) hS_6_8_5 (Below.mono HB9.out (Below.size (B := wd.heap.size) hS_6_8_5))) ?_; clear hK9; intro hS_6_9_5 hD
        refine rP 10 37 3 rfl hD hS_6_9_5 ?_; clear hD; intro hD; simp only [Act.put, sqA, sqB, sqC]
        refine rP 11 38 2 rfl hD hS_6_9_5 ?_; clear hD; intro hD; simp only [Act.put, sqA, sqB, sqC]
        refine rO 12 1 rfl hD ?_; clear hD; intro K12 hK12
        go_wp2
        refine hK12 _ _ (by exact hS_6_9_5) ?_; clear hK12; intro hS_6_12_5 hD
        refine rO 13 0 rfl hD ?_; clear hD; intro K13 hK13
        go_wp2
        refine hK13 _ _ (by exact hS_6_12_5) ?_; clear hK13; intro hS_6_13_5 hD
        refine wpAnyK_done (by kernel_rfl) ?_ 0
        clear hD
        have HBF := Hq (HKD.out.trans (Below.mono hS_6_13_5 HKD.out.size))
        go_wp2
        go_ret2
        exact ⟨rfl, HBF.out⟩
      · unfold StepK
        clear hD; intro K6 hK6
        go_wp2_with fail
        refine (HO1.out _).mono ?_
        rintro ev w6 ⟨rfl, hb⟩
        try (have HS5 := Hq (SlN.kept hb (Nat.le_refl _) HS5.out))
        have HB6 := Hq hb
        clear hb
        go_wp2
        refine hK6 _ _ (by exact Below.trans (B := wd.heap.size) (Below.refl _ _) (Below.mono HB6.out (Below.size (B := wd.heap.size) (Below.refl _ _)))) ?_; clear hK6; intro hS_6_6 hD
        refine wpAnyK_two (i := 5) (i' := 8) (fuel := 6) (by kernel_rfl) rfl rfl hD ?_ ?_ 
        · unfold StepK
          clear hD; intro K5 hK5
          go_wp2
          refine name_world ?_
          intro w5 hw5
          have hb := below_alloc hw5
          have HS5 := Hq (sln_two hw5)
          try (have HS8 := Hq (SlZ.kept hb (Nat.le_refl _) HS8.out))
          have HB5 := Hq hb
          clear hb hw5
          refine hK5 _ _ (by exact Below.trans (B := wd.heap.size) hS_6_6 (Below.mono HB5.out (Below.size (B := wd.heap.size) hS_6_6))) ?_; clear hK5; intro hS_6_5_6 hD
          refine rO 8 5 rfl hD ?_; clear hD; intro K8 hK8
          go_wp2
          refine name_world ?_
          intro w8 hw8
          have hb := below_alloc hw8
          have HS8 := Hq (slz_two hw8)
          try (have HS5 := Hq (SlN.kept hb (Nat.le_refl _) HS5.out))
          have HB8 := Hq hb
          clear hb hw8
          refine hK8 _ _ (by exact Below.trans (B := wd.heap.size) hS_6_5_6 (Below.mono HB8.out (Below.size (B := wd.heap.size) hS_6_5_6))) ?_; clear hK8; intro hS_6_8_6_5 hD
          refine rO 9 4 rfl hD ?_; clear hD; intro K9 hK9
          go_wp2_with fail
          refine (HPR.out _ _ _ HS5.out HS8.out).mono ?_
          rintro ev w9 ⟨rfl, hb⟩
          have HB9 := Hq hb
          clear hb
          go_wp2
          refine hK9 _ _ (by exact Below.trans (B := wd.heap.size) hS_6_8_6_5 (Below.mono HB9.out (Below.size (B := wd.heap.size) hS_6_8_6_5))) ?_; clear hK9; intro hS_6_9_6_5 hD
          refine rP 10 37 3 rfl hD hS_6_9_6_5 ?_; clear hD; intro hD; simp only [Act.put, sqA, sqB, sqC]
          refine rP 11 38 2 rfl hD hS_6_9_6_5 ?_; clear hD; intro hD; simp only [Act.put, sqA, sqB, sqC]
          refine rO 12 1 rfl hD ?_; clear hD; intro K12 hK12
          go_wp2
          refine hK12 _ _ (by exact hS_6_9_6_5) ?_; clear hK12; intro hS_6_12_6_5 hD
          refine rO 13 0 rfl hD ?_; clear hD; intro K13 hK13
          go_wp2
          refine hK13 _ _ (by exact hS_6_12_6_5) ?_; clear hK13; intro hS_6_13_6_5 hD
          refine wpAnyK_done (by kernel_rfl) ?_ 0
          clear hD
          have HBF := Hq (HKD.out.trans (Below.mono hS_6_13_6_5 HKD.out.size))
          go_wp2
          go_ret2
          exact ⟨rfl, HBF.out⟩
        · unfold StepK
          clear hD; intro K8 hK8
          go_wp2
          refine name_world ?_
          intro w8 hw8
          have hb := below_alloc hw8
          have HS8 := Hq (slz_two hw8)
          try (have HS5 := Hq (SlN.kept hb (Nat.le_refl _) HS5.out))
          have HB8 := Hq hb
          clear hb hw8
          refine hK8 _ _ (by exact Below.trans (B := wd.heap.size) hS_6_6 (Below.mono HB8.out (Below.size (B := wd.heap.size) hS_6_6))) ?_; clear hK8; intro hS_6_8_6 hD
          refine rO 5 5 rfl hD ?_; clear hD; intro K5 hK5
          go_wp2
          refine name_world ?_
          intro w5 hw5
          have hb := below_alloc hw5
          have HS5 := Hq (sln_two hw5)
          try (have HS8 := Hq (SlZ.kept hb (Nat.le_refl _) HS8.out))
          have HB5 := Hq hb
          clear hb hw5
          refine hK5 _ _ (by exact Below.trans (B := wd.heap.size) hS_6_8_6 (Below.mono HB5.out (Below.size (B := wd.heap.size) hS_6_8_6))) ?_; clear hK5; intro hS_6_5_6_8 hD
          refine rO 9 4 rfl hD ?_; clear hD; intro K9 hK9
          go_wp2_with fail
          refine (HPR.out _ _ _ HS5.out HS8.out).mono ?_
          rintro ev w9 ⟨rfl, hb⟩
          have HB9 := Hq hb
          clear hb
          go_wp2
          refine hK9 _ _ (by exact Below.trans (B := wd.heap.size) hS_6_5_6_8 (Below.mono HB9.out (Below.size (B := wd.heap.size) hS_6_5_6_8))) ?_; clear hK9; intro hS_6_9_6_8 hD
          refine rP 10 37 3 rfl hD hS_6_9_6_8 ?_; clear hD; intro hD; simp only [Act.put, sqA, sqB, sqC]
          refine rP 11 38 2 rfl hD hS_6_9_6_8 ?_; clear hD; intro hD; simp only [Act.put, sqA, sqB, sqC]
          refine rO 12 1 rfl hD ?_; clear hD; intro K12 hK12
          go_wp2
          refine hK12 _ _ (by exact hS_6_9_6_8) ?_; clear hK12; intro hS_6_12_6_8 hD
          refine rO 13 0 rfl hD ?_; clear hD; intro K13 hK13
          go_wp2
          refine hK13 _ _ (by exact hS_6_12_6_8) ?_; clear hK13; intro hS_6_13_6_8 hD
          refine wpAnyK_done (by kernel_rfl) ?_ 0
          clear hD
          have HBF := Hq (HKD.out.trans (Below.mono hS_6_13_6_8 HKD.out.size))
          go_wp2
          go_ret2
          exact ⟨rfl, HBF.out⟩
    · have HR := Hq (show R = .tuple #[.string ⟨#[]⟩, .int .i64 (pkC M O G H)] from by rw [← HRR.out]; unfold sfR; rw [hf, hvc, hz, if_neg (by decide), if_neg hc])
      rw [HR.out]
      obtain ⟨cc, hcc⟩ : ∃ cc, pkC M O G H = cc := ⟨_, rfl⟩
      rw [hcc] at HCK hc ⊢
      have hcb : (cc == 0) = false := by rw [beq_eq_false_iff_ne]; exact hc
      have hcb2 : (cc != 0) = true := by rw [bne, hcb]; rfl
      clear hf hvc hz hc hcc
      go_enter Tryz.func42, Tryz.ntmps42
      have hk := KI.new w M O G H bb bt
      obtain ⟨W0, hW0⟩ : ∃ W, (w.alloc (.cells #[.string M, .string O, .string G, .string H] 26)).alloc (.cells #[.bool bb, .string bt] 28) = W := ⟨_, rfl⟩
      rw [hW0] at hk
      have HK := Hq hk
      obtain ⟨c0, c1, c2, c3⟩ := hk.1.cells
      have b0 := hk.2.1.c0
      have b1 := hk.2.1.c1
      clear hk
      go_wp2_with fail
      try rw [hW0]
      clear hW0
      refine (HF.out _).mono ?_
      rintro ev w1 ⟨rfl, hb⟩
      have hk := HK.out.next hb
      have HK := Hq hk
      clear hb c0 c1 c2 c3 b0 b1
      obtain ⟨c0, c1, c2, c3⟩ := hk.1.cells
      have b0 := hk.2.1.c0
      have b1 := hk.2.1.c1
      clear hk
      go_wp2_with fail
      refine (HVC.out _).mono ?_
      rintro ev w2 ⟨rfl, rfl⟩
      go_wp2_with fail
      refine (HVB.out _).mono ?_
      rintro ev w2 ⟨rfl, hb⟩
      have hk := HK.out.next hb
      have HK := Hq hk
      clear hb c0 c1 c2 c3 b0 b1
      obtain ⟨c0, c1, c2, c3⟩ := hk.1.cells
      have b0 := hk.2.1.c0
      have b1 := hk.2.1.c1
      clear hk
      go_wp2_with fail
      refine (HCK.out _).mono ?_
      rintro ev w3 ⟨rfl, hb⟩
      have hk := HK.out.next hb
      have HK := Hq hk
      clear hb c0 c1 c2 c3 b0 b1
      obtain ⟨c0, c1, c2, c3⟩ := hk.1.cells
      have b0 := hk.2.1.c0
      have b1 := hk.2.1.c1
      clear hk
      go_wp2
      go_ret2
      exact ⟨rfl, HK.out.2.2⟩
end Go.Proofs.YtndmjfkmnjejkaaGreatDoor
namespace Go.Proofs.YtndmjfkmnjejkaaGreatDoor
open Go.RowKit
theorem kF_parts' {M O G H : ByteArray} (h : kF M O G H = true) : nvalid M = true ∧ nvalid O = true ∧ nvalid G = true ∧ nvalid H = true := by
 unfold kF at h
 simp only [Bool.and_eq_true] at h
 exact ⟨h.1.1.1, h.1.1.2, h.1.2, h.2⟩
theorem sg_natAbs (b : Bool) (n : Nat) : (sg b n).natAbs = n := by
 unfold sg
 split <;> omega
theorem zvalid_all {z : Int} (h : z.natAbs < 256 ^ 128) : zvalid (decide (z < 0)) (nS z.natAbs) = true := by
 unfold zvalid
 rw [nvalid_nS.2 h, Bool.true_and]
 by_cases hz : z < 0
 · rw [empty_nS (by omega), Bool.and_false]; rfl
 · rw [decide_eq_false hz]; rfl
theorem pkC_kF {M O G H : ByteArray} (h : pkC M O G H = 0) : kF M O G H = true := by
 cases hk : kF M O G H with
 | true => rfl
 | false => unfold pkC at h; rw [if_pos hk] at h; cases h
theorem zv_parts {b : Bool} {s : ByteArray} (h : zvalid b s = true) : b = decide (sg b (num s) < 0) ∧ s = nS (sg b (num s)).natAbs ∧ (sg b (num s)).natAbs < 256 ^ 128 := by
 obtain ⟨h1, h2⟩ := zv_valid h
 unfold zV intV zV at h2
 have h3 : b = decide (sg b (num s) < 0) ∧ s = nS (sg b (num s)).natAbs := by
  injection h2 with h2
  have h4 : [Value.bool b, Value.string s] = [Value.bool (decide (sg b (num s) < 0)), Value.string (nS (sg b (num s)).natAbs)] := congrArg Array.toList h2
  injection h4 with h5 h6
  injection h6 with h6 h7
  injection h5 with h5
  injection h6 with h6
  exact ⟨h5, h6⟩
 refine ⟨h3.1, h3.2, ?_⟩
 rw [sg_natAbs]
 exact nvalid_lt h1
end Go.Proofs.YtndmjfkmnjejkaaGreatDoor

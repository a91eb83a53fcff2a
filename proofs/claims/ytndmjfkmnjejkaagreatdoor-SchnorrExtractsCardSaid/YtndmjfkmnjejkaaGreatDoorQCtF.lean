/- Walks: dominolaw33.Few, dominolaw33.awake. -/
import Derived.Test.YtndmjfkmnjejkaaGreatDoorQScF
import Derived.Test.YtndmjfkmnjejkaaGreatDoorQFw9
import Derived.Test.YtndmjfkmnjejkaaGreatDoorQPeN
set_option linter.unusedVariables false
set_option linter.unusedSimpArgs false
namespace Go.Proofs.YtndmjfkmnjejkaaGreatDoor
open Go.RowKit Go.Lib
def few33 (M O G H : ByteArray) (l : List ByteArray) : Bool := few9 M O [G, H] && few9 M O l
theorem few33_of {M O G H : ByteArray} {l : List ByteArray} (h : few33 M O G H l = true) : M.size ≤ 8 ∧ O.size ≤ 10 ∧ G.size ≤ 20 ∧ H.size ≤ 20 ∧ ∀ s ∈ l, s.size ≤ 20 := by
  unfold few33 at h
  rw [Bool.and_eq_true] at h
  obtain ⟨a, b, c⟩ := few9_of h.1
  exact ⟨a, b, c G (by simp), c H (by simp), (few9_of h.2).2.2⟩
set_option maxRecDepth 100000 in
set_option maxHeartbeats 1000000 in
theorem law33_Few (M O G H : ByteArray) (l : List ByteArray) (A : Option Addr) (n cap : Nat) (hn : n ≤ 1000) (w : World) (hsl : SlN w A n cap l) : Calls Tryz.prog 18 #[kV M O G H, .slice A n cap] w (Ret (.bool (few33 M O G H l)) w) := by
  have HK0 := Lib.hid (SB.new w M O G H)
  have HS0 := Lib.hid (hsl.kept ((Below.refl _ _).alloc (Nat.le_refl _) (.cells #[.string M, .string O, .string G, .string H] 46)) (Nat.le_refl _))
  obtain ⟨W0, hW0⟩ : ∃ W, w.alloc (.cells #[.string M, .string O, .string G, .string H] 46) = W := ⟨_, rfl⟩
  rw [hW0] at HK0 HS0
  have hs2 := sln_alloc W0 [G, H] 22 (by simp)
  have hbb := (Below.refl W0.heap.size W0).alloc (Nat.le_refl _) (.cells #[.string G, .string H] 22)
  have HF1 := Lib.hid (law_Few M O [G, H] _ 2 2 (by omega) _ hs2)
  have HK1 := Lib.hid (HK0.out.next hbb)
  have HS1 := Lib.hid (HS0.out.kept hbb (Nat.le_refl _))
  have HLF := Lib.hid (fun w hs => law_Few M O l A n cap hn w hs)
  obtain ⟨c0, c1, c2, c3⟩ := HK0.out.1.cells
  cases h1 : few9 M O [G, H] with
  | false =>
    rw [h1] at HF1
    have HR := Lib.hid (show few33 M O G H l = false from by unfold few33; rw [h1]; rfl)
    rw [HR.out]
    unfold kV gV at *
    clear hsl hn hs2 hbb h1
    go_enter Tryz.func18, Tryz.ntmps18
    go_wp2_with fail
    try rw [hW0]
    clear hW0
    refine HF1.out.mono ?_
    rintro ev w1 ⟨rfl, hb⟩
    have HK2 := Lib.hid (HK1.out.next hb)
    clear hb c0 c1 c2 c3
    go_wp2
    go_ret
    exact ⟨rfl, HK2.out.2⟩
  | true =>
    rw [h1] at HF1
    have HR := Lib.hid (show few33 M O G H l = few9 M O l from by unfold few33; rw [h1]; rfl)
    rw [HR.out]
    unfold kV gV at *
    clear hsl hn hs2 hbb h1
    go_enter Tryz.func18, Tryz.ntmps18
    go_wp2_with fail
    try rw [hW0]
    clear hW0
    refine HF1.out.mono ?_
    rintro ev w1 ⟨rfl, hb⟩
    have HK2 := Lib.hid (HK1.out.next hb)
    have HLL := Lib.hid (HLF.out _ (HS1.out.kept hb (Nat.le_refl _)))
    clear hb c0 c1 c2 c3
    obtain ⟨c0, c1, c2, c3⟩ := HK2.out.1.cells
    go_wp2_with fail
    refine HLL.out.mono ?_
    rintro ev w2 ⟨rfl, hb⟩
    have HK3 := Lib.hid (HK2.out.next hb)
    clear hb c0 c1 c2 c3
    go_wp2
    go_ret
    exact ⟨rfl, HK3.out.2⟩
theorem ex33_mk : mkN ⟨#[23]⟩ ⟨#[11]⟩ ⟨#[4]⟩ [⟨#[2]⟩] ⟨#[]⟩ 0 = (18, 3, 0) := by decide +kernel
theorem ex33_x1 : exK ⟨#[23]⟩ ⟨#[11]⟩ ⟨#[4]⟩ ⟨#[18]⟩ ⟨#[1]⟩ ⟨#[5]⟩ ⟨#[2]⟩ ⟨#[8]⟩ = (⟨#[3]⟩, 0) := by decide +kernel
theorem ex33_x2 : exK ⟨#[23]⟩ ⟨#[11]⟩ ⟨#[4]⟩ ⟨#[18]⟩ ⟨#[1]⟩ ⟨#[5]⟩ ⟨#[2]⟩ ⟨#[7]⟩ = (⟨#[]⟩, 1) := by decide +kernel
theorem ex33_ck : scK ⟨#[23]⟩ ⟨#[11]⟩ ⟨#[4]⟩ ⟨#[18]⟩ = 0 := by decide +kernel
theorem ex33_make (B : Nat) (w : World) (hs : SlN w (some ⟨B, 0, none⟩) 1 1 [⟨#[2]⟩]) : Calls Tryz.prog 26 #[gV ⟨#[23]⟩ ⟨#[11]⟩, .string ⟨#[4]⟩, .agg #[.slice (some ⟨B, 0, none⟩) 1 1, .string ⟨#[]⟩, .int .i64 0]] w (fun en w' => ∃ A c, en = .returned (.tuple #[.agg #[.string ⟨#[23]⟩, .string ⟨#[11]⟩, .string ⟨#[4]⟩, .string ⟨#[18]⟩], .string ⟨#[3]⟩, .agg #[.slice A 1 c, .string ⟨#[]⟩, .int .i64 1], .int .i64 0]) ∧ Below w.heap.size w w') := by
  have h := sc_Make_of ⟨#[23]⟩ ⟨#[11]⟩ ⟨#[4]⟩ [⟨#[2]⟩] ⟨#[]⟩ 0 (some ⟨B, 0, none⟩) 1 1 (by decide) (by decide) (by decide) (by decide) (by decide) (fun _ W hW => co_BelowV [⟨#[2]⟩] ⟨#[]⟩ 0 (num ⟨#[11]⟩ - 1) (some ⟨B, 0, none⟩) 1 1 (by decide) (by decide) (by decide) (by decide +kernel) W hW) w hs
  rw [ex33_mk] at h
  refine h.mono ?_
  rintro en w' ⟨A, c, rfl, _, _, hb⟩
  exact ⟨A, c, by rw [show nS ((18, 3, 0) : Nat × Nat × Int).2.1 = ⟨#[3]⟩ from rfl, show mkK ⟨#[23]⟩ ⟨#[11]⟩ ⟨#[4]⟩ (18, 3, 0) = #[.string ⟨#[23]⟩, .string ⟨#[11]⟩, .string ⟨#[4]⟩, .string (nS 18)] from rfl, show nS 18 = ⟨#[18]⟩ from rfl]; rfl, hb⟩
set_option maxRecDepth 100000 in
set_option maxHeartbeats 4000000 in
theorem law33_awake (w : World) : Calls Tryz.prog 19 #[] w (Ret (.bool true) w) := by
  obtain ⟨W0, hW0⟩ : ∃ W, w.alloc (.cells #[.string ⟨#[23]⟩, .string ⟨#[11]⟩] 24) = W := ⟨_, rfl⟩
  have hx0 : Bx2 W0 w.heap.size (.string ⟨#[23]⟩) (.string ⟨#[11]⟩) 24 := hW0 ▸ Bx2.new _ _ _ _
  have hb0 : Below w.heap.size w W0 := hW0 ▸ (Below.refl _ _).alloc (Nat.le_refl _) _
  have hb1 := (Below.refl W0.heap.size W0).alloc (Nat.le_refl _) (.cells #[.string ⟨#[2]⟩] 22)
  have HMK := Lib.hid (ex33_make W0.heap.size _ (sln_alloc W0 [⟨#[2]⟩] 22 (by simp)))
  have HX0 := Lib.hid hx0
  have HX1 := Lib.hid (hx0.next hb1)
  have HB1 := Lib.hid (hb0.trans (hb1.mono hb0.size))
  have c0 := hx0.c0
  have c1 := hx0.c1
  have HE1 := Lib.hid (fun w => sc_Extract ⟨#[23]⟩ ⟨#[11]⟩ ⟨#[4]⟩ ⟨#[18]⟩ ⟨#[1]⟩ ⟨#[5]⟩ ⟨#[2]⟩ ⟨#[8]⟩ (by decide) (by decide) (by decide) (by decide) (by decide) (by decide) (by decide) (by decide) w)
  have HE2 := Lib.hid (fun w => sc_Extract ⟨#[23]⟩ ⟨#[11]⟩ ⟨#[4]⟩ ⟨#[18]⟩ ⟨#[1]⟩ ⟨#[5]⟩ ⟨#[2]⟩ ⟨#[7]⟩ (by decide) (by decide) (by decide) (by decide) (by decide) (by decide) (by decide) (by decide) w)
  have HCK := Lib.hid (fun w => sc_Check ⟨#[23]⟩ ⟨#[11]⟩ ⟨#[4]⟩ ⟨#[18]⟩ (by decide) (by decide) (by decide) (by decide) w)
  rw [ex33_x1] at HE1
  rw [ex33_x2] at HE2
  rw [ex33_ck] at HCK
  unfold kV gV at *
  clear hx0 hb0 hb1
  go_enter Tryz.func19, Tryz.ntmps19
  go_wp2_with fail
  try rw [hW0]
  clear hW0
  refine HMK.out.mono ?_
  rintro ev w2 ⟨A, c, rfl, hb⟩
  have HX2 := Lib.hid (HX1.out.next hb)
  have HB2 := Lib.hid (HB1.out.trans (hb.mono HB1.out.size))
  clear hb c0 c1
  go_upto_region 3 with (fail)
  obtain ⟨P, hP⟩ : ∃ P, w2.heap.size = P := ⟨_, rfl⟩
  have hk3 := (Bx4.new w2 (.string ⟨#[23]⟩) (.string ⟨#[11]⟩) (.string ⟨#[4]⟩) (.string ⟨#[18]⟩) 46).next ((Below.refl _ _).alloc (Nat.le_refl _) (.cells #[.slice A 1 c, .string ⟨#[]⟩, .int .i64 1] 31))
  have ht3 := TB.new (w2.alloc (.cells #[.string ⟨#[23]⟩, .string ⟨#[11]⟩, .string ⟨#[4]⟩, .string ⟨#[18]⟩] 46)) A 1 c ⟨#[]⟩ 1
  have hb3 := ((Below.refl w2.heap.size w2).alloc (Nat.le_refl _) (.cells #[.string ⟨#[23]⟩, .string ⟨#[11]⟩, .string ⟨#[4]⟩, .string ⟨#[18]⟩] 46)).alloc (by simp) (.cells #[.slice A 1 c, .string ⟨#[]⟩, .int .i64 1] 31)
  rw [World.size_alloc] at ht3
  obtain ⟨W3, hW3⟩ : ∃ W, (w2.alloc (.cells #[.string ⟨#[23]⟩, .string ⟨#[11]⟩, .string ⟨#[4]⟩, .string ⟨#[18]⟩] 46)).alloc (.cells #[.slice A 1 c, .string ⟨#[]⟩, .int .i64 1] 31) = W := ⟨_, rfl⟩
  rw [hW3] at hk3 ht3 hb3 ⊢
  have HX3 := Lib.hid (HX2.out.next hb3)
  have HB3 := Lib.hid (HB2.out.trans (hb3.mono HB2.out.size))
  rw [hP] at hk3 ht3 ⊢
  have HK3 := Lib.hid hk3
  have HT3 := Lib.hid ht3
  clear hW3 hk3 ht3 hb3 hP
  obtain ⟨k0, k1, k2, k3⟩ := HK3.out.cells
  go_wp2_with fail
  refine (HE1.out _).mono ?_
  rintro ev w4 ⟨rfl, hb⟩
  have HX4 := Lib.hid (HX3.out.next hb)
  have HB4 := Lib.hid (HB3.out.trans (hb.mono HB3.out.size))
  have HK4 := Lib.hid (HK3.out.next hb)
  have HT4 := Lib.hid (HT3.out.nextT hb)
  clear hb k0 k1 k2 k3
  obtain ⟨k0, k1, k2, k3⟩ := HK4.out.cells
  go_wp2_with fail
  refine (HE2.out _).mono ?_
  rintro ev w5 ⟨rfl, hb⟩
  have HX5 := Lib.hid (HX4.out.next hb)
  have HB5 := Lib.hid (HB4.out.trans (hb.mono HB4.out.size))
  have HK5 := Lib.hid (HK4.out.next hb)
  have HT5 := Lib.hid (HT4.out.nextT hb)
  clear hb k0 k1 k2 k3
  obtain ⟨k0, k1, k2, k3⟩ := HK5.out.cells
  obtain ⟨t0, t1, t2⟩ := HT5.out.c
  have c0 := HX5.out.c0
  have c1 := HX5.out.c1
  go_wp2_with fail
  refine (HCK.out _).mono ?_
  rintro ev w6 ⟨rfl, hb⟩
  have HB6 := Lib.hid (HB5.out.trans (hb.mono HB5.out.size))
  clear hb k0 k1 k2 k3 t0 t1 t2 c0 c1
  go_wp2
  go_ret
  exact ⟨rfl, HB6.out⟩
end Go.Proofs.YtndmjfkmnjejkaaGreatDoor
/- Walks: dominoref02.Extended of any two numbers, dominoref03.Inverse where there is none (printed by mkcf.py out of PeM). -/
set_option linter.unusedVariables false
set_option linter.unusedSimpArgs false
namespace Go.Proofs.YtndmjfkmnjejkaaGreatDoor
open Go.RowKit
def RetExG (g : Nat) (w : World) (e : Ending) (w' : World) : Prop := ∃ (rb : Bool) (rs : ByteArray) (zb : Bool) (zs : ByteArray), e = .returned (.tuple #[.string (nS g), .agg #[.bool rb, .string rs], .agg #[.bool zb, .string zs], .int .i64 0]) ∧ Below w.heap.size w w'
set_option maxRecDepth 100000 in
set_option maxHeartbeats 4000000 in
theorem r02_ExtendedG (a b g m k : Nat) (hab : a < b) (hb : b < 18446744073709551616) (hg : Nat.gcd a b = g) (hg0 : 0 < g) (hgl : g ≤ b) (hm : b / g = m) (hm2 : b % g = 0) (hm0 : 0 < m) (hml : m ≤ b) (hk : a / g = k) (hk2 : a % g = 0) (hkl : k ≤ a) (w : World) : Calls Tryz.prog 119 #[.string (nS a), .string (nS b)] w (RetExG g w) := by
  have ha : a < 18446744073709551616 := by omega
  have HV1 := Lib.hid (r01_Valid (nS a) (by have := nS_small_size ha; omega))
  have HV2 := Lib.hid (r01_Valid (nS b) (by have := nS_small_size hb; omega))
  rw [nvalid_nS.2 (lt128_of_lt8 ha)] at HV1
  rw [nvalid_nS.2 (lt128_of_lt8 hb)] at HV2
  have HBZ := Lib.hid (r02_bezout (b + 1) a b (by omega) ha hb)
  have HD1 := Lib.hid (r01_DivMod b g (lt128_of_lt8 hb) (lt128_of_lt8 (by omega)) hg0)
  have HD2 := Lib.hid (r01_DivMod a g (lt128_of_lt8 ha) (lt128_of_lt8 (by omega)) hg0)
  rw [hm, hm2] at HD1
  rw [hk, hk2] at HD2
  have hm8 : m < 18446744073709551616 := by omega
  have hk8 : k < 18446744073709551616 := by omega
  have HF1 := Lib.hid (r02_From m (lt128_of_lt8 hm8))
  have HF2 := Lib.hid (r02_From k (lt128_of_lt8 hk8))
  have p100 : (256 : Nat) ^ 100 < 256 ^ 128 := Nat.pow_lt_pow_right (by omega) (by omega)
  have p16 : (18446744073709551616 : Nat) * 18446744073709551616 + 18446744073709551616 < 256 ^ 100 := by decide +kernel
  have hx100 : ∀ x : Int, x.natAbs ≤ max 1 b → x.natAbs < 256 ^ 100 := fun x hx => by omega
  have hqa : ∀ x : Int, x.natAbs ≤ max 1 b → ((x / m) * k).natAbs ≤ 18446744073709551616 * 18446744073709551616 := fun x hx => by
    rw [Int.natAbs_mul, Int.natAbs_natCast]
    have := ediv_abs x m (by omega)
    exact Nat.mul_le_mul (by omega) (by omega)
  have HDM := Lib.hid (fun (x : Int) (hx : x.natAbs ≤ max 1 b) => r02_DivModQ x m (hx100 x hx) (lt128_of_lt8 hm8) (by omega))
  have HMU := Lib.hid (fun (x : Int) (hx : x.natAbs ≤ max 1 b) (w : World) => show Calls Tryz.prog 169 #[intV (x / m), intV k] w (Ret (.tuple #[intV (x / m * k), .int .i64 0]) w) from by
    have hh := r02_Mul (x / m) k (by have := ediv_abs x m (by omega); have := hx100 x hx; omega) (by rw [Int.natAbs_natCast]; exact lt128_of_lt8 hk8) w
    rw [fitZ_in (by have := hqa x hx; omega)] at hh
    exact hh)
  have HAD := Lib.hid (fun (x y : Int) (hx : x.natAbs ≤ max 1 b) (hy : y.natAbs ≤ max 1 a) (w : World) => show Calls Tryz.prog 170 #[intV y, intV (x / m * k)] w (Ret (.tuple #[intV (y + x / m * k), .int .i64 0]) w) from by
    have h3 := hqa x hx
    have hh := r02_Add y (x / m * k) (by omega) (by omega) w
    rw [fitZ_in (by omega)] at hh
    exact hh)
  have HFR := Lib.hid (fun (x : Int) => r02_From (x % m).toNat (lt128_of_lt8 (by
    have := Int.emod_lt_of_pos x (show (0 : Int) < m by omega)
    have := Int.emod_nonneg x (show (m : Int) ≠ 0 by omega)
    omega)))
  have he := empty_nS (show 0 < b by omega)
  have HGG := Lib.hid hg
  rw [intV_nat] at HF1 HF2
  obtain ⟨hx0, hy0, hb0⟩ := bx2_at w (.bool false) (.string ⟨#[]⟩) (.bool false) (.string ⟨#[]⟩) 28
  obtain ⟨W0, hW0⟩ : ∃ W0, (w.alloc (.cells #[.bool false, .string ⟨#[]⟩] 28)).alloc (.cells #[.bool false, .string ⟨#[]⟩] 28) = W0 := ⟨_, rfl⟩
  rw [hW0] at hx0 hy0 hb0
  have HX0 := Lib.hid hx0
  have HY0 := Lib.hid hy0
  have HB0 := Lib.hid hb0
  have HIB := Lib.hid (intV_nat m)
  have HIA := Lib.hid (intV_nat k)
  obtain ⟨s, hs⟩ : ∃ s, nS a = s := ⟨_, rfl⟩
  obtain ⟨t, ht⟩ : ∃ t, nS b = t := ⟨_, rfl⟩
  obtain ⟨mt, hmt⟩ : ∃ u, nS m = u := ⟨_, rfl⟩
  obtain ⟨kt, hkt⟩ : ∃ u, nS k = u := ⟨_, rfl⟩
  rw [hs] at HV1 HBZ HD2 ⊢
  rw [ht] at HV2 HBZ HD1 he ⊢
  rw [hmt] at HD1 HF1 HIB
  rw [hkt] at HD2 HF2 HIA
  have hg1 : (nS 0) = ⟨#[]⟩ := rfl
  rw [hg1] at HD1 HD2
  obtain ⟨one, hone⟩ : ∃ u, nS g = u := ⟨_, rfl⟩
  rw [hone] at HD1 HD2
  have HONE := Lib.hid hone
  clear hs ht hmt hkt hone hg1 hx0 hy0 hb0 hg ha hab hb p100 p16 hx100 hqa hg0 hgl hm hm2 hm0 hml hk hk2 hkl hm8 hk8
  go_enter Tryz.func119, Tryz.ntmps119
  go_wp2_with fail
  try rw [hW0]
  clear hW0
  refine (HV1.out _).mono ?_
  rintro e w1 ⟨rfl, rfl⟩
  go_wp2_with fail
  refine (HV2.out _).mono ?_
  rintro e w1 ⟨rfl, rfl⟩
  go_wp2_with fail
  refine (HBZ.out _).mono ?_
  rintro e w1 ⟨x, y, rfl, hb1, hlaw, hbx, hby, _⟩
  have HX1 := Lib.hid (HX0.out.next hb1)
  have HY1 := Lib.hid (HY0.out.next hb1)
  have HB1 := Lib.hid (HB0.out.trans (hb1.mono HB0.out.size))
  have HDX := Lib.hid (HDM.out x hbx)
  have HMX := Lib.hid (HMU.out x hbx)
  have HAX := Lib.hid (HAD.out x y hbx hby)
  have HFX := Lib.hid (HFR.out x)
  rw [HGG.out]
  clear hb1 hlaw hbx hby
  obtain ⟨R, hR⟩ : ∃ R, (x % m).toNat = R := ⟨_, rfl⟩
  rw [hR] at HDX HFX
  obtain ⟨Q, hQ⟩ : ∃ Q, x / (m : Int) = Q := ⟨_, rfl⟩
  rw [hQ] at HDX HMX HAX
  obtain ⟨P, hP⟩ : ∃ P, Q * (k : Int) = P := ⟨_, rfl⟩
  rw [hP] at HMX HAX
  obtain ⟨Z, hZ⟩ : ∃ Z, y + P = Z := ⟨_, rfl⟩
  rw [hZ] at HAX
  have HRES := Lib.hid (show ∀ w', Below w.heap.size w w' → RetExG g w (.returned (.tuple #[.string (nS g), intV R, intV Z, .int .i64 0])) w' from fun w' hb => ⟨_, _, _, _, rfl, hb⟩)
  rw [intV_nat R] at HFX HRES
  rw [HIB.out] at HDX
  rw [HIA.out] at HMX
  rw [HONE.out] at HRES ⊢
  unfold intV zV at HDX HMX HAX HRES ⊢
  obtain ⟨xb, hxb⟩ : ∃ u, decide (x < 0) = u := ⟨_, rfl⟩
  obtain ⟨xs, hxs⟩ : ∃ u, nS x.natAbs = u := ⟨_, rfl⟩
  obtain ⟨yb, hyb⟩ : ∃ u, decide (y < 0) = u := ⟨_, rfl⟩
  obtain ⟨ys, hys⟩ : ∃ u, nS y.natAbs = u := ⟨_, rfl⟩
  obtain ⟨qb, hqb⟩ : ∃ u, decide (Q < 0) = u := ⟨_, rfl⟩
  obtain ⟨qs, hqs⟩ : ∃ u, nS Q.natAbs = u := ⟨_, rfl⟩
  obtain ⟨pb, hpb⟩ : ∃ u, decide (P < 0) = u := ⟨_, rfl⟩
  obtain ⟨ps, hps⟩ : ∃ u, nS P.natAbs = u := ⟨_, rfl⟩
  obtain ⟨zb, hzb⟩ : ∃ u, decide (Z < 0) = u := ⟨_, rfl⟩
  obtain ⟨zs, hzs⟩ : ∃ u, nS Z.natAbs = u := ⟨_, rfl⟩
  obtain ⟨rs, hrs⟩ : ∃ u, nS R = u := ⟨_, rfl⟩
  rw [hxb, hxs, hqb, hqs, hrs] at HDX
  rw [hqb, hqs, hpb, hps] at HMX
  rw [hyb, hys, hpb, hps, hzb, hzs] at HAX
  rw [hrs] at HFX
  rw [hrs, hzb, hzs] at HRES
  rw [hxb, hxs, hyb, hys]
  clear hxb hxs hyb hys hqb hqs hpb hps hzb hzs hrs hR hQ hP hZ HDM HMU HAD HFR HBZ
  obtain ⟨hx3, hy3, hb3⟩ := bx2_at w1 (.bool xb) (.string xs) (.bool yb) (.string ys) 28
  obtain ⟨W3, hW3⟩ : ∃ W3, (w1.alloc (.cells #[.bool xb, .string xs] 28)).alloc (.cells #[.bool yb, .string ys] 28) = W3 := ⟨_, rfl⟩
  obtain ⟨B9, hB9⟩ : ∃ B, w1.heap.size = B := ⟨_, rfl⟩
  rw [hW3, hB9] at hx3 hy3
  rw [hW3] at hb3
  have HLT := Lib.hid (show w.heap.size + 1 < B9 from by rw [← hB9]; exact HY1.out.lt)
  have HX3 := Lib.hid (HX1.out.next hb3)
  have HY3 := Lib.hid (HY1.out.next hb3)
  have HB3 := Lib.hid (HB1.out.trans (hb3.mono HB1.out.size))
  have HP3 := Lib.hid hx3
  have HQ3 := Lib.hid hy3
  clear hx3 hy3 hb3
  go_wp2_with fail
  try rw [hW3]
  try rw [hB9]
  clear hW3 hB9
  refine (HD1.out _).mono ?_
  rintro e w4 ⟨rfl, hb4⟩
  have HX4 := Lib.hid (HX3.out.next hb4)
  have HY4 := Lib.hid (HY3.out.next hb4)
  have HB4 := Lib.hid (HB3.out.trans (hb4.mono HB3.out.size))
  have HP4 := Lib.hid (HP3.out.next hb4)
  have HQ4 := Lib.hid (HQ3.out.next hb4)
  clear hb4
  go_wp2_with fail
  refine (HD2.out _).mono ?_
  rintro e w5 ⟨rfl, hb5⟩
  have HX5 := Lib.hid (HX4.out.next hb5)
  have HY5 := Lib.hid (HY4.out.next hb5)
  have HB5 := Lib.hid (HB4.out.trans (hb5.mono HB4.out.size))
  have HP5 := Lib.hid (HP4.out.next hb5)
  have HQ5 := Lib.hid (HQ4.out.next hb5)
  clear hb5
  go_wp2
  have e0 : w5.drew.cell? ⟨B9, 0, none⟩ = some (.bool xb) := HP5.out.c0
  have e1 : w5.drew.cell? ⟨B9, 1, none⟩ = some (.string xs) := HP5.out.c1
  rename_i K8 hK8
  refine wp_onlyN ?_
  refine wp_region_K 12 (Below (w5.drew).heap.size (w5.drew)) (by kernel_rfl) ?_
  intro hD
  refine wpAnyK_takeSD (i := 0) (d := some 59) (v := ?v8_0b1) (fuel := 11) rfl (by kernel_rfl) (by kernel_rfl) (by kernel_rfl) (fun _ _ _ h => h) hD (Below.refl _ _) (.inl ⟨by kernel_rfl, ?y8_0b1⟩) ?n8_0b1
  case y8_0b1 => intro w' hS'; have e0 := cell_kept hS' (Nat.le_refl _) e0; have e1 := cell_kept hS' (Nat.le_refl _) e1; go_simp; with_reducible rfl
  clear hD; intro hD
  simp only [Act.put, sqA, sqB, sqC]
  refine wpAnyK_pureD (i := 1) (d := some 60) (v := ?v8_1b1) (fuel := 10) rfl (by kernel_rfl) (by kernel_rfl) (fun _ _ _ h => h) hD (Below.refl _ _) (.inl ⟨by kernel_rfl, ?y8_1b1⟩) ?n8_1b1
  case y8_1b1 => intro w' _; go_simp; with_reducible rfl
  clear hD; intro hD
  simp only [Act.put, sqA, sqB, sqC]
  refine (show GhostK _ _ _ _ _ _ 8 17 9 _ _ (GIz (w5.drew) (#[.bool false, .string ⟨#[]⟩]) (28)) from ?_).2 _ (GIz.start (Below.refl _ _))
  refine ghost_step (i := 8) (j := 2) (d := 17) (dj := 61) (fuel := 8) (fun (y : Unit) => .agg #[.bool false, .string mt]) (fun y => GIz (w5.drew) (#[.bool false, .string ⟨#[]⟩]) (28)) (by kernel_rfl) (by kernel_rfl) rfl rfl hD (by kernel_rfl) (by decide) (fun _ _ _ _ h => h.1) (fun _ _ _ h => h.1) (alloc_zK rfl rfl (fun _ _ => by kernel_rfl)) ?hs8_2b1 ?hn8_2b1
  case hs8_2b1 =>
    intro gb gx gw hI K hK
    try simp only [Act.put, sqA, sqB, sqC] at hK ⊢
    have HK := Lib.hid hK
    have HGI := Lib.hid hI
    clear hK hI hD
    go_wp2_with fail
    refine (HF1.out _).mono ?_
    rintro ev w6 ⟨rfl, hb⟩
    have HG2 := Lib.hid (HGI.out.step hb)
    clear hb
    go_wp2
    exact HK.out () _ HG2.out
  intro _ hD
  simp only [Act.put, sqA, sqB, sqC]
  refine ghost_step (i := 8) (j := 3) (d := 17) (dj := 62) (fuel := 7) (fun (y : Unit) => .tuple #[.agg #[.bool qb, .string qs], .string rs, .int .i64 0]) (fun y => GIz (w5.drew) (#[.bool false, .string ⟨#[]⟩]) (28)) (by kernel_rfl) (by kernel_rfl) rfl rfl hD (by kernel_rfl) (by decide) (fun _ _ _ _ h => h.1) (fun _ _ _ h => h.1) (alloc_zK rfl rfl (fun _ _ => by kernel_rfl)) ?hs8_3b1 ?hn8_3b1
  case hs8_3b1 =>
    intro gb gx gw hI K hK
    try simp only [Act.put, sqA, sqB, sqC] at hK ⊢
    have HK := Lib.hid hK
    have HGI := Lib.hid hI
    clear hK hI hD
    go_wp2_with fail
    refine (HDX.out _).mono ?_
    rintro ev w6 ⟨rfl, hb⟩
    have HG2 := Lib.hid (HGI.out.step hb)
    clear hb
    go_wp2
    exact HK.out () _ HG2.out
  intro _ hD
  simp only [Act.put, sqA, sqB, sqC]
  refine ghost_pure (i := 8) (j := 4) (d := 17) (dj := 58) (v := ?v8_4b1) (fuel := 6) rfl (by kernel_rfl) (by kernel_rfl) (by kernel_rfl) (by kernel_rfl) (fun _ _ _ h => h) hD (by kernel_rfl) (by decide) (by decide) (fun _ _ _ h => h.1) (fun x => .inl ⟨by kernel_rfl, ?y8_4b1⟩) ?n8_4b1
  case y8_4b1 => intro w' _; go_simp; with_reducible rfl
  clear hD; intro hD
  simp only [Act.put, sqA, sqB, sqC]
  refine ghost_pure (i := 8) (j := 5) (d := 17) (dj := 63) (v := ?v8_5b1) (fuel := 5) rfl (by kernel_rfl) (by kernel_rfl) (by kernel_rfl) (by kernel_rfl) (fun _ _ _ h => h) hD (by kernel_rfl) (by decide) (by decide) (fun _ _ _ h => h.1) (fun x => .inl ⟨by kernel_rfl, ?y8_5b1⟩) ?n8_5b1
  case y8_5b1 => intro w' _; go_simp; with_reducible rfl
  clear hD; intro hD
  simp only [Act.put, sqA, sqB, sqC]
  refine ghost_pure (i := 8) (j := 6) (d := 17) (dj := 64) (v := ?v8_6b1) (fuel := 4) rfl (by kernel_rfl) (by kernel_rfl) (by kernel_rfl) (by kernel_rfl) (fun _ _ _ h => h) hD (by kernel_rfl) (by decide) (by decide) (fun _ _ _ h => h.1) (fun x => .inl ⟨by kernel_rfl, ?y8_6b1⟩) ?n8_6b1
  case y8_6b1 => intro w' _; go_simp; with_reducible rfl
  clear hD; intro hD
  simp only [Act.put, sqA, sqB, sqC]
  refine ghost_pure (i := 8) (j := 7) (d := 17) (dj := 65) (v := ?v8_7b1) (fuel := 3) rfl (by kernel_rfl) (by kernel_rfl) (by kernel_rfl) (by kernel_rfl) (fun _ _ _ h => h) hD (by kernel_rfl) (by decide) (by decide) (fun _ _ _ h => h.1) (fun x => .inl ⟨by kernel_rfl, ?y8_7b1⟩) ?n8_7b1
  case y8_7b1 => intro w' _; go_simp; with_reducible rfl
  clear hD; intro hD
  simp only [Act.put, sqA, sqB, sqC]
  refine ghost_end (by kernel_rfl) rfl hD (fun _ _ _ h => h.1) (alloc_zK rfl rfl (fun _ _ => by kernel_rfl)) ?_
  intro gx gw hI hD
  obtain ⟨hSG, hx⟩ := hI
  obtain ⟨GB, rfl, hBG, hZG⟩ := hx rfl
  have HSG := Lib.hid hSG
  have HBG := Lib.hid hBG
  have HZG := Lib.hid hZG
  clear hx hSG hBG hZG
  simp only [Act.put, sqA, sqB, sqC]
  refine wpAnyK_one (i := 9) (fuel := 2) (by kernel_rfl) rfl hD ?_
  clear hD; intro K9 hK9
  have hz : Bx2 gw GB (.bool false) (.string ⟨#[]⟩) 28 := HZG.out
  have p0 := hz.c0
  have p1 := hz.c1
  have pf0 := hz.f0
  have pf1 := hz.f1
  clear hz
  go_wp2
  refine hK9 _ _ (by exact below_set2 HSG.out HBG.out _ _) ?_; clear hK9; intro hS_8_9_g hD
  refine wpAnyK_one (i := 10) (fuel := 1) (by kernel_rfl) rfl hD ?_
  clear hD; intro K10 hK10
  go_wp2
  refine hK10 _ _ (by exact hS_8_9_g) ?_; clear hK10; intro hS_8_10_g hD
  refine wpAnyK_one (i := 11) (fuel := 0) (by kernel_rfl) rfl hD ?_
  clear hD; intro K11 hK11
  go_wp2
  refine hK11 _ _ (by exact hS_8_10_g) ?_; clear hK11; intro hS_8_11_g hD
  refine wpAnyK_done (by kernel_rfl) ?_ 0
  clear hD p0 p1 pf0 pf1 e0 e1
  have hz8 : Bx2 _ GB (.bool qb) (.string qs) 28 := Bx2.set2 (show Bx2 gw GB (.bool false) (.string ⟨#[]⟩) 28 from HZG.out)
  have hb8 := ((Below.refl w5.heap.size w5).drew).trans hS_8_11_g
  refine hK8 _ _ ?_
  obtain ⟨w8, hw8⟩ : ∃ W8, (gw.setCell ⟨GB, 0, none⟩ (.bool qb)).setCell ⟨GB, 1, none⟩ (.string qs) = W8 := ⟨_, rfl⟩
  obtain ⟨B17, hB17⟩ : ∃ B, GB = B := ⟨_, rfl⟩
  rw [hw8] at hz8 hb8 ⊢
  rw [hB17] at hz8 ⊢
  have HX8 := Lib.hid (HX5.out.next hb8)
  have HY8 := Lib.hid (HY5.out.next hb8)
  have HB8 := Lib.hid (HB5.out.trans (hb8.mono HB5.out.size))
  have HQ8 := Lib.hid (HQ5.out.next hb8)
  have HZ8 := Lib.hid hz8
  clear hw8 hB17 hz8 hb8 HZG HBG HSG
  go_wp2
  have e0 : w8.drew.cell? ⟨B17, 0, none⟩ = some (.bool qb) := HZ8.out.c0
  have e1 : w8.drew.cell? ⟨B17, 1, none⟩ = some (.string qs) := HZ8.out.c1
  rename_i K9 hK9
  refine wp_onlyN ?_
  refine wp_region_K 10 (Below (w8.drew).heap.size (w8.drew)) (by kernel_rfl) ?_
  intro hD
  refine wpAnyK_takeSD (i := 0) (d := some 67) (v := ?v9_0b2) (fuel := 9) rfl (by kernel_rfl) (by kernel_rfl) (by kernel_rfl) (fun _ _ _ h => h) hD (Below.refl _ _) (.inl ⟨by kernel_rfl, ?y9_0b2⟩) ?n9_0b2
  case y9_0b2 => intro w' hS'; have e0 := cell_kept hS' (Nat.le_refl _) e0; have e1 := cell_kept hS' (Nat.le_refl _) e1; go_simp; with_reducible rfl
  clear hD; intro hD
  simp only [Act.put, sqA, sqB, sqC]
  refine wpAnyK_pureD (i := 1) (d := some 68) (v := ?v9_1b2) (fuel := 8) rfl (by kernel_rfl) (by kernel_rfl) (fun _ _ _ h => h) hD (Below.refl _ _) (.inl ⟨by kernel_rfl, ?y9_1b2⟩) ?n9_1b2
  case y9_1b2 => intro w' _; go_simp; with_reducible rfl
  clear hD; intro hD
  simp only [Act.put, sqA, sqB, sqC]
  refine (show GhostK _ _ _ _ _ _ 7 20 7 _ _ (GIz (w8.drew) (#[.bool false, .string ⟨#[]⟩]) (28)) from ?_).2 _ (GIz.start (Below.refl _ _))
  refine ghost_step (i := 7) (j := 2) (d := 20) (dj := 69) (fuel := 6) (fun (y : Unit) => .agg #[.bool false, .string kt]) (fun y => GIz (w8.drew) (#[.bool false, .string ⟨#[]⟩]) (28)) (by kernel_rfl) (by kernel_rfl) rfl rfl hD (by kernel_rfl) (by decide) (fun _ _ _ _ h => h.1) (fun _ _ _ h => h.1) (alloc_zK rfl rfl (fun _ _ => by kernel_rfl)) ?hs9_2b2 ?hn9_2b2
  case hs9_2b2 =>
    intro gb gx gw hI K hK
    try simp only [Act.put, sqA, sqB, sqC] at hK ⊢
    have HK := Lib.hid hK
    have HGI := Lib.hid hI
    clear hK hI hD
    go_wp2_with fail
    refine (HF2.out _).mono ?_
    rintro ev w6 ⟨rfl, hb⟩
    have HG2 := Lib.hid (HGI.out.step hb)
    clear hb
    go_wp2
    exact HK.out () _ HG2.out
  intro _ hD
  simp only [Act.put, sqA, sqB, sqC]
  refine ghost_step (i := 7) (j := 3) (d := 20) (dj := 70) (fuel := 5) (fun (y : Unit) => .tuple #[.agg #[.bool pb, .string ps], .int .i64 0]) (fun y => GIz (w8.drew) (#[.bool false, .string ⟨#[]⟩]) (28)) (by kernel_rfl) (by kernel_rfl) rfl rfl hD (by kernel_rfl) (by decide) (fun _ _ _ _ h => h.1) (fun _ _ _ h => h.1) (alloc_zK rfl rfl (fun _ _ => by kernel_rfl)) ?hs9_3b2 ?hn9_3b2
  case hs9_3b2 =>
    intro gb gx gw hI K hK
    try simp only [Act.put, sqA, sqB, sqC] at hK ⊢
    have HK := Lib.hid hK
    have HGI := Lib.hid hI
    clear hK hI hD
    go_wp2_with fail
    refine (HMX.out _).mono ?_
    rintro ev w6 ⟨rfl, hb⟩
    have HG2 := Lib.hid (HGI.out.step hb)
    clear hb
    go_wp2
    exact HK.out () _ HG2.out
  intro _ hD
  simp only [Act.put, sqA, sqB, sqC]
  refine ghost_pure (i := 7) (j := 4) (d := 20) (dj := 66) (v := ?v9_4b2) (fuel := 4) rfl (by kernel_rfl) (by kernel_rfl) (by kernel_rfl) (by kernel_rfl) (fun _ _ _ h => h) hD (by kernel_rfl) (by decide) (by decide) (fun _ _ _ h => h.1) (fun x => .inl ⟨by kernel_rfl, ?y9_4b2⟩) ?n9_4b2
  case y9_4b2 => intro w' _; go_simp; with_reducible rfl
  clear hD; intro hD
  simp only [Act.put, sqA, sqB, sqC]
  refine ghost_pure (i := 7) (j := 5) (d := 20) (dj := 71) (v := ?v9_5b2) (fuel := 3) rfl (by kernel_rfl) (by kernel_rfl) (by kernel_rfl) (by kernel_rfl) (fun _ _ _ h => h) hD (by kernel_rfl) (by decide) (by decide) (fun _ _ _ h => h.1) (fun x => .inl ⟨by kernel_rfl, ?y9_5b2⟩) ?n9_5b2
  case y9_5b2 => intro w' _; go_simp; with_reducible rfl
  clear hD; intro hD
  simp only [Act.put, sqA, sqB, sqC]
  refine ghost_pure (i := 7) (j := 6) (d := 20) (dj := 72) (v := ?v9_6b2) (fuel := 2) rfl (by kernel_rfl) (by kernel_rfl) (by kernel_rfl) (by kernel_rfl) (fun _ _ _ h => h) hD (by kernel_rfl) (by decide) (by decide) (fun _ _ _ h => h.1) (fun x => .inl ⟨by kernel_rfl, ?y9_6b2⟩) ?n9_6b2
  case y9_6b2 => intro w' _; go_simp; with_reducible rfl
  clear hD; intro hD
  simp only [Act.put, sqA, sqB, sqC]
  refine ghost_end (by kernel_rfl) rfl hD (fun _ _ _ h => h.1) (alloc_zK rfl rfl (fun _ _ => by kernel_rfl)) ?_
  intro gx gw hI hD
  obtain ⟨hSG, hx⟩ := hI
  obtain ⟨GB, rfl, hBG, hZG⟩ := hx rfl
  have HSG := Lib.hid hSG
  have HBG := Lib.hid hBG
  have HZG := Lib.hid hZG
  clear hx hSG hBG hZG
  simp only [Act.put, sqA, sqB, sqC]
  refine wpAnyK_one (i := 8) (fuel := 1) (by kernel_rfl) rfl hD ?_
  clear hD; intro K8 hK8
  have hz : Bx2 gw GB (.bool false) (.string ⟨#[]⟩) 28 := HZG.out
  have p0 := hz.c0
  have p1 := hz.c1
  have pf0 := hz.f0
  have pf1 := hz.f1
  clear hz
  go_wp2
  refine hK8 _ _ (by exact below_set2 HSG.out HBG.out _ _) ?_; clear hK8; intro hS_9_8_g hD
  refine wpAnyK_one (i := 9) (fuel := 0) (by kernel_rfl) rfl hD ?_
  clear hD; intro K9 hK9
  go_wp2
  refine hK9 _ _ (by exact hS_9_8_g) ?_; clear hK9; intro hS_9_9_g hD
  refine wpAnyK_done (by kernel_rfl) ?_ 0
  clear hD p0 p1 pf0 pf1 e0 e1
  have hz9 : Bx2 _ GB (.bool pb) (.string ps) 28 := Bx2.set2 (show Bx2 gw GB (.bool false) (.string ⟨#[]⟩) 28 from HZG.out)
  have hb9 := ((Below.refl w8.heap.size w8).drew).trans hS_9_9_g
  refine hK9 _ _ ?_
  obtain ⟨w9, hw9⟩ : ∃ W8, (gw.setCell ⟨GB, 0, none⟩ (.bool pb)).setCell ⟨GB, 1, none⟩ (.string ps) = W8 := ⟨_, rfl⟩
  rw [hw9] at hz9 hb9 ⊢
  have HX9 := Lib.hid (HX8.out.next hb9)
  have HY9 := Lib.hid (HY8.out.next hb9)
  have HB9 := Lib.hid (HB8.out.trans (hb9.mono HB8.out.size))
  have hq9 := HQ8.out.next hb9
  have HQ9 := Lib.hid hq9
  have z0 := hz9.c0
  have z1 := hz9.c1
  have x0 := hq9.c0
  have x1 := hq9.c1
  clear hw9 hb9 hz9 hq9
  go_wp2_with fail
  refine (HAX.out _).mono ?_
  rintro ev w10 ⟨rfl, hb10⟩
  have HX10 := Lib.hid (HX9.out.next hb10)
  have HY10 := Lib.hid (HY9.out.next hb10)
  have HB10 := Lib.hid (HB9.out.trans (hb10.mono HB9.out.size))
  have hq10 := HQ9.out.next hb10
  have HQ10 := Lib.hid hq10
  clear hb10 z0 z1 x0 x1
  have x0 := hq10.c0
  have x1 := hq10.c1
  have xf0 := hq10.f0
  have xf1 := hq10.f1
  clear hq10
  go_wp2
  have hne := HLT.out
  obtain ⟨w11, hw11⟩ : ∃ W8, (w10.setCell ⟨B9 + 1, 0, none⟩ (.bool zb)).setCell ⟨B9 + 1, 1, none⟩ (.string zs) = W8 := ⟨_, rfl⟩
  have hq11 := HQ10.out.set2 (u := .bool zb) (v := .string zs)
  have hx11 := bx2_off (u := .bool zb) (v := .string zs) HX10.out (C := B9 + 1) (by omega)
  have hy11 := bx2_off (u := .bool zb) (v := .string zs) HY10.out (C := B9 + 1) (by omega)
  have hb11 := below_set2 HB10.out (C := B9 + 1) (by omega) (.bool zb) (.string zs)
  rw [hw11] at hq11 hx11 hy11 hb11
  try rw [hw11]
  have HWX := Lib.hid (show Bx2 w11.drew w.heap.size (.bool false) (.string ⟨#[]⟩) 28 from hx11)
  have HWY := Lib.hid (show Bx2 w11.drew (w.heap.size + 1) (.bool false) (.string ⟨#[]⟩) 28 from hy11)
  have HS0 := Lib.hid (show Bx2 w11.drew (B9 + 1) (.bool zb) (.string zs) 28 from hq11)
  have HBD := Lib.hid hb11.drew
  clear hw11 hq11 hx11 hy11 hb11 hne x0 x1 xf0 xf1
  go_wp2
  obtain ⟨wd, hwd⟩ : ∃ wd, w11.drew = wd := ⟨_, rfl⟩
  rw [hwd] at HS0 HWX HWY HBD
  refine wp_region_K 8 (fun W' => Bx2 W' (B9 + 1) (.bool zb) (.string zs) 28) (by kernel_rfl) ?_
  intro hD
  rw [hwd]
  refine wpAnyK_pureD (i := 0) (d := some 79) (v := ?v11_0b3) (fuel := 7) rfl (by kernel_rfl) (by kernel_rfl) (fun _ _ _ h => h) hD HS0.out (.inl ⟨by kernel_rfl, ?y11_0b3⟩) ?n11_0b3
  case y11_0b3 => intro w' _; go_simp; with_reducible rfl
  clear hD; intro hD
  simp only [Act.put, sqA, sqB, sqC]
  refine wpAnyK_pureD (i := 1) (d := some 80) (v := ?v11_1b3) (fuel := 6) rfl (by kernel_rfl) (by kernel_rfl) (fun _ _ _ h => h) hD HS0.out (.inl ⟨by kernel_rfl, ?y11_1b3⟩) ?n11_1b3
  case y11_1b3 => intro w' _; go_simp; with_reducible rfl
  clear hD; intro hD
  simp only [Act.put, sqA, sqB, sqC]
  refine wpAnyK_takeSD (i := 3) (d := some 82) (v := ?v11_3b3) (fuel := 5) rfl (by kernel_rfl) (by kernel_rfl) (by kernel_rfl) (fun _ _ _ h => h) hD HS0.out (.inl ⟨by kernel_rfl, ?y11_3b3⟩) ?n11_3b3
  case y11_3b3 => intro w' hS'; have e0 := hS'.c0; have e1 := hS'.c1; go_simp; with_reducible rfl
  clear hD; intro hD
  simp only [Act.put, sqA, sqB, sqC]
  refine wpAnyK_one (i := 2) (fuel := 4) (by kernel_rfl) rfl hD ?_
  clear hD; intro K2 hK2
  go_wp2_with fail
  refine (HFX.out _).mono ?_
  rintro ev w12 ⟨rfl, hb⟩
  have HWX2 := Lib.hid (HWX.out.next hb)
  have HWY2 := Lib.hid (HWY.out.next hb)
  have HS2 := Lib.hid (HS0.out.next hb)
  have HBD2 := Lib.hid (HBD.out.trans (hb.mono HBD.out.size))
  clear hb
  go_wp2
  refine hK2 _ _ (by exact HS2.out) ?_; clear hK2; intro hS_11_2 hD
  refine wpAnyK_one (i := 4) (fuel := 3) (by kernel_rfl) rfl hD ?_
  clear hD; intro K4 hK4
  have m0 := HWX2.out.c0
  have m1 := HWX2.out.c1
  have mf0 := HWX2.out.f0
  have mf1 := HWX2.out.f1
  have hy7 : Bx2 ((w12.setCell ⟨w.heap.size, 0, none⟩ (.bool false)).setCell ⟨w.heap.size, 1, none⟩ (.string rs)) (w.heap.size + 1) (.bool false) (.string ⟨#[]⟩) 28 := bx2_off HWY2.out (by omega)
  have HY7 := Lib.hid hy7
  have n0 := hy7.c0
  have n1 := hy7.c1
  have nf0 := hy7.f0
  have nf1 := hy7.f1
  clear hy7
  go_wp2
  refine hK4 _ _ (by exact hS_11_2) ?_; clear hK4; intro hS_11_4 hD
  refine wpAnyK_one (i := 5) (fuel := 2) (by kernel_rfl) rfl hD ?_
  clear hD; intro K5 hK5
  go_wp2
  refine hK5 _ _ (by exact bx2_off hS_11_4 (C := w.heap.size) (by have := HLT.out; omega)) ?_; clear hK5; intro hS_11_5 hD
  refine wpAnyK_one (i := 6) (fuel := 1) (by kernel_rfl) rfl hD ?_
  clear hD; intro K6 hK6
  go_wp2
  refine hK6 _ _ (by exact bx2_off hS_11_5 (C := w.heap.size + 1) (by have := HLT.out; omega)) ?_; clear hK6; intro hS_11_6 hD
  refine wpAnyK_one (i := 7) (fuel := 0) (by kernel_rfl) rfl hD ?_
  clear hD; intro K7 hK7
  go_wp2
  refine hK7 _ _ (by exact hS_11_6) ?_; clear hK7; intro hS_11_7 hD
  refine wpAnyK_done (by kernel_rfl) ?_ 0
  clear hD m0 m1 mf0 mf1 n0 n1 nf0 nf1
  have hx6 := bx2_off (u := .bool zb) (v := .string zs) (HWX2.out.set2 (u := .bool false) (v := .string rs)) (show w.heap.size ≠ w.heap.size + 1 by omega)
  have hy6 := HY7.out.set2 (u := .bool zb) (v := .string zs)
  have q0 := hx6.c0
  have q1 := hx6.c1
  have q2 := hy6.c0
  have q3 := hy6.c1
  go_wp2
  exact bodyPost_ret (v := .tuple #[.string one, .agg #[.bool false, .string rs], .agg #[.bool zb, .string zs], .int .i64 0]) (by simp [results, Tryz.results119, go_sem, q0, q1, q2, q3]) rfl (HRES.out _ (below_set2 (below_set2 HBD2.out (Nat.le_refl _) _ _) (Nat.le_add_right _ _) _ _))
theorem gcd_parts {a m : Nat} (ham : a < m) (h1 : 1 < m) : ∃ g q k, Nat.gcd a m = g ∧ 0 < g ∧ g ≤ m ∧ m / g = q ∧ m % g = 0 ∧ 0 < q ∧ q ≤ m ∧ a / g = k ∧ a % g = 0 ∧ k ≤ a := by
  have hg := Nat.gcd_pos_of_pos_right a (show 0 < m by omega)
  have hd1 := Nat.gcd_dvd_left a m
  have hd2 := Nat.gcd_dvd_right a m
  have hle := Nat.le_of_dvd (by omega) hd2
  exact ⟨_, _, _, rfl, hg, hle, rfl, Nat.mod_eq_zero_of_dvd hd2, Nat.div_pos hle hg, Nat.div_le_self _ _, rfl, Nat.mod_eq_zero_of_dvd hd1, Nat.div_le_self _ _⟩
set_option maxRecDepth 100000 in
set_option maxHeartbeats 2000000 in
theorem r03_Inverse_none (a m : Nat) (ham : a < m) (hm8 : m < 18446744073709551616) (h1 : 1 < m) (hg : ¬ (Nat.gcd a m = 1)) (w : World) : Calls Tryz.prog 74 #[.string (nS a), .string (nS m)] w (Ret (.tuple #[.string ⟨#[]⟩, .int .i64 9]) w) := by
  have ha8 : a < 18446744073709551616 := by omega
  have HC := Lib.hid (fun w => r03_check2 w (nS a) (nS m) _ rfl (nS_valid_small ha8) (nS_valid_small hm8) (empty_nS (by omega)))
  have HR := Lib.hid (r03_Mod a m (lt128_of_lt8 ha8) (lt128_of_lt8 hm8) (by omega))
  rw [Nat.mod_eq_of_lt ham] at HR
  obtain ⟨g, q, k, e1, e2, e3, e4, e5, e6, e7, e8, e9, e10⟩ := gcd_parts ham h1
  have HE := Lib.hid (r02_ExtendedG a m g q k ham hm8 e1 e2 e3 e4 e5 e6 e7 e8 e9 e10)
  have HO1 := Lib.hid (r01_Of 1 (by decide))
  have hne : ((nS g).toList == (nS 1).toList) = false := by rw [nS_beq]; exact decide_eq_false (by rw [← e1]; exact hg)
  obtain ⟨s, hs⟩ : ∃ s, nS a = s := ⟨_, rfl⟩
  obtain ⟨t, ht⟩ : ∃ t, nS m = t := ⟨_, rfl⟩
  obtain ⟨one, hone⟩ : ∃ v, nS 1 = v := ⟨_, rfl⟩
  obtain ⟨gs, hgs⟩ : ∃ v, nS g = v := ⟨_, rfl⟩
  have HGS := Lib.hid hgs
  have HO1 := Lib.hid (fun w => show Calls Tryz.prog 101 #[.int .u64 1] w (Ret (.string one) w) from by have := HO1.out w; rw [show bstr (encN 1) = one from hone] at this; exact this)
  rw [hs, ht] at HC HR HE
  rw [hgs, hone] at hne
  rw [hs, ht]
  have HNE := Lib.hid hne
  clear hs ht hone hgs ham hm8 h1 hg ha8 hne e1 e2 e3 e4 e5 e6 e7 e8 e9 e10
  go_enter Tryz.func74, Tryz.ntmps74
  go_wp2_with fail
  refine (HC.out w).mono ?_
  rintro e w1 ⟨rfl, rfl⟩
  have HB1 := Lib.hid ((Below.refl w.heap.size w).alloc (Nat.le_refl _) (.cells #[.string s, .string t] 22))
  go_wp2_with fail
  refine (HR.out _).mono ?_
  rintro e w2 ⟨rfl, hb2⟩
  have HB2 := Lib.hid (HB1.out.trans (hb2.mono HB1.out.size))
  clear hb2
  go_wp2_with fail
  refine (HE.out _).mono ?_
  rintro e w3 ⟨xb, xs, yb, ys, rfl, hb3⟩
  have HB3 := Lib.hid (HB2.out.trans (hb3.mono HB2.out.size))
  rw [HGS.out]
  clear hb3
  obtain ⟨hx3, hy3, hb3⟩ := bx2_at w3 (.bool xb) (.string xs) (.bool yb) (.string ys) 28
  obtain ⟨W3, hW3⟩ : ∃ W3, (w3.alloc (.cells #[.bool xb, .string xs] 28)).alloc (.cells #[.bool yb, .string ys] 28) = W3 := ⟨_, rfl⟩
  rw [hW3] at hx3 hb3
  have HB4 := Lib.hid (HB3.out.trans (hb3.mono HB3.out.size))
  clear hx3 hy3 hb3
  go_wp2_with fail
  try rw [hW3]
  clear hW3
  refine (HO1.out _).mono ?_
  rintro e w4 ⟨rfl, hb4⟩
  have HB5 := Lib.hid (HB4.out.trans (hb4.mono HB4.out.size))
  clear hb4
  have hne := HNE.out
  go_wp2
  go_ret2
  exact ⟨rfl, HB5.out⟩
end Go.Proofs.YtndmjfkmnjejkaaGreatDoor

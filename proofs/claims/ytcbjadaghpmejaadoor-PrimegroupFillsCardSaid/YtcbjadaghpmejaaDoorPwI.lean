/- Walks: modular.Inverse, modular.Power; dominoref02.DivMod, Mod. -/
import Derived.Test.YtcbjadaghpmejaaDoorExW
import Derived.Test.YtcbjadaghpmejaaDoorExp
set_option linter.unusedVariables false
set_option linter.unusedSimpArgs false
namespace Go.Proofs.YtcbjadaghpmejaaDoor
open Go.RowKit

/-- What Inverse returns: an inverse. -/
def RetI (a m : Nat) (w : World) (e : Ending) (w' : World) : Prop := ∃ x : Nat, e = .returned (.tuple #[.string (nS x), .int .i64 0]) ∧ Below w.heap.size w w' ∧ x < m ∧ a * x % m = 1

set_option maxRecDepth 100000 in
set_option maxHeartbeats 1000000 in
theorem mod_Inverse (a m : Nat) (ham : a < m) (hm8 : m < 18446744073709551616) (h1 : 1 < m) (hg : Nat.gcd a m = 1) (w : World) : Calls Tryd.prog 51 #[.string (nS a), .string (nS m)] w (RetI a m w) := by
  have ha8 : a < 18446744073709551616 := by omega
  have HC := Lib.hid (fun w => check_one w (nS a) (nS m) _ rfl (nS_valid_small ha8) (nS_valid_small hm8) (empty_nS (by omega)) _ rfl)
  have HR := Lib.hid (mod_reduced a m ha8 (lt128_of_lt8 hm8) (by omega))
  rw [Nat.mod_eq_of_lt ham] at HR
  have HE := Lib.hid (int_Extended a m ham hm8)
  have HRX := Lib.hid (fun x (hx : x < 18446744073709551616) => mod_reduced x m hx (lt128_of_lt8 hm8) (by omega))
  have HG := Lib.hid hg
  have HM1 := Lib.hid h1
  obtain ⟨s, hs⟩ : ∃ s, nS a = s := ⟨_, rfl⟩
  obtain ⟨t, ht⟩ : ∃ t, nS m = t := ⟨_, rfl⟩
  rw [hs, ht] at HC HR HE
  rw [ht] at HRX
  rw [hs, ht]
  clear hs ht ham hm8 h1 hg ha8
  go_enter Tryd.func51, Tryd.ntmps51
  go_wp2_with fail
  refine (HC.out w).mono ?_
  rintro e w1 ⟨rfl, hb1⟩
  have HB1 := Lib.hid ((((Below.refl w.heap.size w).alloc (Nat.le_refl _) _).alloc (by simp) _).trans hb1)
  clear hb1
  go_wp2_with fail
  refine (HR.out _).mono ?_
  rintro e w2 ⟨rfl, hb2⟩
  have HB2 := Lib.hid (HB1.out.trans (hb2.mono HB1.out.size))
  clear hb2
  go_wp2_with fail
  refine (HE.out _).mono ?_
  rintro e w3 ⟨x, y, rfl, hb3, hx0, hx8, hbz⟩
  have HB3 := Lib.hid (HB2.out.trans (hb3.mono HB2.out.size))
  rw [HG.out] at hbz
  have HI := Lib.hid (inv_red (inv_of_bez hx0 hbz HM1.out))
  have HRR := Lib.hid (HRX.out x.natAbs hx8)
  rw [HG.out, nS_one]
  unfold intV zV
  have HML := Lib.hid (show x.natAbs % m < m from Nat.mod_lt _ (by have := HM1.out; omega))
  obtain ⟨X, hX⟩ : ∃ X, x.natAbs = X := ⟨_, rfl⟩
  obtain ⟨u, hu⟩ : ∃ u, nS X = u := ⟨_, rfl⟩
  rw [hX] at HI HRR HML ⊢
  rw [hu] at HRR ⊢
  obtain ⟨dx, hdx⟩ : ∃ dx, decide (x < 0) = dx := ⟨_, rfl⟩
  obtain ⟨dy, hdy⟩ : ∃ dy, decide (y < 0) = dy := ⟨_, rfl⟩
  obtain ⟨v, hv⟩ : ∃ v, nS y.natAbs = v := ⟨_, rfl⟩
  rw [hdx, hdy, hv]
  clear hb3 hbz hx0 hx8 hX hu hdx hdy hv
  go_wp2_with fail
  refine (HRR.out _).mono ?_
  rintro e w4 ⟨rfl, hb4⟩
  have HB4 := Lib.hid (((HB3.out.alloc HB3.out.size (.cells #[.bool dx, .string u] 31)).alloc (by have := HB3.out.size; simp; omega) (.cells #[.bool dy, .string v] 31)).trans (hb4.mono (by have := HB3.out.size; simp; omega)))
  clear hb4
  go_wp2
  go_ret2
  exact ⟨X % m, rfl, HB4.out, HML.out, HI.out⟩

set_option maxRecDepth 100000 in
set_option maxHeartbeats 1000000 in
theorem mod_Power (a m q : Nat) (z : Int) (ham : a < m) (hm8 : m < 18446744073709551616) (hz : z.natAbs < 256 ^ 128) (hq : 0 < q) (hp : a ^ q % m = 1) (w : World) :
    Calls Tryd.prog 31 #[.string (nS a), intV z, .string (nS m)] w (Ret (.tuple #[.string (nS (a ^ (z % q).toNat % m)), .int .i64 0]) w) := by
  have ha8 : a < 18446744073709551616 := by omega
  have h1 : 1 < m := by have := Nat.mod_lt (a ^ q) (show 0 < m by omega); omega
  have HV := Lib.hid (nat_Valid (nS z.natAbs) (by have := nS_size_le.2 hz; omega))
  rw [nvalid_nS.2 hz] at HV
  have HC := Lib.hid (fun w => check_one w (nS a) (nS m) _ rfl (nS_valid_small ha8) (nS_valid_small hm8) (empty_nS (by omega)) _ rfl)
  have HI := Lib.hid (mod_Inverse a m ham hm8 h1 (gcd_of_pw hp hq))
  have HE := Lib.hid (fun x (hx : x < m) => mod_Exp x z.natAbs m (by omega) hz hm8 (by omega))
  by_cases hneg : z < 0
  · have hd : decide (z < 0) = true := decide_eq_true hneg
    have hem : (nS z.natAbs).toList.isEmpty = false := empty_nS (by omega)
    have HPW := Lib.hid (fun x hx => pw_inv (x := x) (k := (z % q).toNat) (n := z.natAbs) hp hx (emod_nat hq hneg))
    unfold intV zV
    rw [hd]
    obtain ⟨A, hA⟩ : ∃ A, a ^ (z % q).toNat % m = A := ⟨_, rfl⟩
    obtain ⟨s, hs⟩ : ∃ s, nS a = s := ⟨_, rfl⟩
    obtain ⟨t, ht⟩ : ∃ t, nS m = t := ⟨_, rfl⟩
    obtain ⟨u, hu⟩ : ∃ u, nS z.natAbs = u := ⟨_, rfl⟩
    rw [hA] at HPW ⊢
    rw [hs, ht] at HC HI
    rw [ht, hu] at HE
    rw [hu] at HV hem
    rw [hs, ht, hu]
    clear hd hs ht hu hA hneg ham hm8 hz hq hp ha8 h1
    go_enter Tryd.func31, Tryd.ntmps31
    have HX0 := Lib.hid (Bx2.new w (.bool true) (.string u) 31)
    have HB0 := Lib.hid ((Below.refl w.heap.size w).alloc (Nat.le_refl _) (.cells #[.bool true, .string u] 31))
    have c0 := HX0.out.c0
    have c1 := HX0.out.c1
    go_wp2_with fail
    refine (HV.out _).mono ?_
    rintro e w1 ⟨rfl, rfl⟩
    have hck := HC.out (w.alloc (.cells #[.bool true, .string u] 31))
    simp only [World.size_alloc] at hck
    go_wp2_with fail
    refine hck.mono ?_
    rintro e w1 ⟨rfl, hb1⟩
    clear hck
    have HB1 := Lib.hid (((HB0.out.alloc HB0.out.size (.cells #[.string s] 22)).alloc (by simp only [World.size_alloc]; omega) (.cells #[.string t] 22)).trans (hb1.mono (by omega)))
    have HX1 := Lib.hid (((HX0.out.next ((Below.refl _ _).alloc (Nat.le_refl _) (.cells #[.string s] 22))).next ((Below.refl _ _).alloc (Nat.le_refl _) (.cells #[.string t] 22))).kept hb1 (by omega))
    clear hb1 c0 c1
    have c0 := HX1.out.c0
    have c1 := HX1.out.c1
    go_wp2_with fail
    refine (HI.out _).mono ?_
    rintro e w2 ⟨x, rfl, hb2, hxm, hax⟩
    have HX2 := Lib.hid (HX1.out.next hb2)
    have HB2 := Lib.hid (HB1.out.trans (hb2.mono HB1.out.size))
    have HPX := Lib.hid (HPW.out x hax)
    have HEX := Lib.hid (HE.out x hxm)
    rw [HPX.out] at HEX
    clear hb2 hxm hax c0 c1
    have c0 := HX2.out.c0
    have c1 := HX2.out.c1
    go_wp2_with fail
    refine (HEX.out _).mono ?_
    rintro e w3 ⟨rfl, hb3⟩
    have HB3 := Lib.hid (HB2.out.trans (hb3.mono HB2.out.size))
    clear hb3
    go_wp2
    go_ret2
    exact ⟨rfl, HB3.out⟩
  · have hd : decide (z < 0) = false := decide_eq_false hneg
    have HEX := Lib.hid (HE.out a ham)
    rw [pw_red hp, ← emod_pos (e := z) (q := q) (by omega)] at HEX
    unfold intV zV
    rw [hd]
    obtain ⟨A, hA⟩ : ∃ A, a ^ (z % q).toNat % m = A := ⟨_, rfl⟩
    obtain ⟨s, hs⟩ : ∃ s, nS a = s := ⟨_, rfl⟩
    obtain ⟨t, ht⟩ : ∃ t, nS m = t := ⟨_, rfl⟩
    obtain ⟨u, hu⟩ : ∃ u, nS z.natAbs = u := ⟨_, rfl⟩
    rw [hA] at HEX ⊢
    rw [hs, ht] at HC
    rw [hs, ht, hu] at HEX
    rw [hu] at HV
    rw [hs, ht, hu]
    clear hd hs ht hu hA hneg ham hm8 hz hq hp ha8 h1
    go_enter Tryd.func31, Tryd.ntmps31
    have HX0 := Lib.hid (Bx2.new w (.bool false) (.string u) 31)
    have HB0 := Lib.hid ((Below.refl w.heap.size w).alloc (Nat.le_refl _) (.cells #[.bool false, .string u] 31))
    have c0 := HX0.out.c0
    have c1 := HX0.out.c1
    go_wp2_with fail
    refine (HV.out _).mono ?_
    rintro e w1 ⟨rfl, rfl⟩
    have hck := HC.out (w.alloc (.cells #[.bool false, .string u] 31))
    simp only [World.size_alloc] at hck
    go_wp2_with fail
    refine hck.mono ?_
    rintro e w1 ⟨rfl, hb1⟩
    clear hck
    have HB1 := Lib.hid (((HB0.out.alloc HB0.out.size (.cells #[.string s] 22)).alloc (by simp only [World.size_alloc]; omega) (.cells #[.string t] 22)).trans (hb1.mono (by omega)))
    have HX1 := Lib.hid (((HX0.out.next ((Below.refl _ _).alloc (Nat.le_refl _) (.cells #[.string s] 22))).next ((Below.refl _ _).alloc (Nat.le_refl _) (.cells #[.string t] 22))).kept hb1 (by omega))
    clear hb1 c0 c1
    have c0 := HX1.out.c0
    have c1 := HX1.out.c1
    go_wp2_with fail
    refine (HEX.out _).mono ?_
    rintro e w3 ⟨rfl, hb3⟩
    have HB3 := Lib.hid (HB1.out.trans (hb3.mono HB1.out.size))
    clear hb3
    go_wp2
    go_ret2
    exact ⟨rfl, HB3.out⟩
end Go.Proofs.YtcbjadaghpmejaaDoor

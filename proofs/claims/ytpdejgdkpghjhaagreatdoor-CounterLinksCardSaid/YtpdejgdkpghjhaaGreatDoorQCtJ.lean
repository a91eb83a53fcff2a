/- Walk: dominoref49.Serial. -/
import Derived.Test.YtpdejgdkpghjhaaGreatDoorQCtH
import Derived.Test.YtpdejgdkpghjhaaGreatDoorQCtC
import Derived.Test.YtpdejgdkpghjhaaGreatDoorQNaE
import Derived.Test.YtpdejgdkpghjhaaGreatDoorQGst
import Derived.Maps.OwnSet
import Derived.Maps.OwnOps
import Derived.Maps.Views
import Derived.StringKeys
set_option linter.unusedVariables false
set_option linter.unusedSimpArgs false
namespace Go.Proofs.YtpdejgdkpghjhaaGreatDoor
open Go.RowKit Go.Lib
set_option maxRecDepth 100000 in
set_option maxHeartbeats 4000000 in
theorem r49_Serial (M O G H s X : ByteArray) (p c : Int) (rs : ByteArray) (re : Int) (hM : M.size ≤ 8) (hO : O.size ≤ 100) (hG : G.size ≤ 1000) (hH : H.size ≤ 1000) (hs : s.size ≤ 10000) (hX : X.size ≤ 1000) (hp : p < 9223372036854775808) (hp2 : -9223372036854775808 ≤ p) (hc : c < 9223372036854775808) (hr : bsR M O G H s.data.toList p c [X] = .tuple #[.string rs, .int .i64 re]) (w : World) (ht : T10 w) : Calls Tryz.prog 18 #[kV M O G H, .string s, .int .i64 p, .string X, .int .i64 c] w (Ret (srV M O X c rs re) w) := by
  have HBS := Lib.hid (fun A w hsl ht => r49_base M O G H s p c [X] A 1 1 hM hO hG hH hs hp hp2 (by omega) (fun x h => by simp at h; subst h; exact hX) w hsl ht)
  rw [hr] at HBS
  have hk0 := KB.new w M O G H
  have ht1 := (ht.next ((Below.refl _ _).alloc (Nat.le_refl _) (.cells #[.string M, .string O, .string G, .string H] 26)))
  obtain ⟨W0, hW0⟩ : ∃ W, w.alloc (.cells #[.string M, .string O, .string G, .string H] 26) = W := ⟨_, rfl⟩
  rw [hW0] at hk0 ht1
  have hsl := sln_alloc W0 [X] 22 (by simp)
  have hbb := (Below.refl W0.heap.size W0).alloc (Nat.le_refl _) (.cells #[.string X] 22)
  have hk1 := hk0.next hbb
  have HT1 := Lib.hid (ht1.next hbb)
  have HSL := Lib.hid (show SlN (W0.alloc (.cells #[.string X] 22)) (some ⟨W0.heap.size, 0, none⟩) 1 1 [X] from hsl)
  obtain ⟨W1, hW1⟩ : ∃ W, W0.alloc (.cells #[.string X] 22) = W := ⟨_, rfl⟩
  rw [hW1] at hk1 HT1 HSL
  have HK1 := Lib.hid hk1
  obtain ⟨c0, c1, c2, c3⟩ := hk0.1.cells
  clear hsl hbb ht1 hk1
  by_cases hre : re = 0
  · subst hre
    obtain ⟨vX, hpk, hz, hp0, hc0, hhk, hrs⟩ := bsR_ok hr
    obtain ⟨cn, hcn⟩ : ∃ n : Nat, c = (n : Int) := ⟨c.toNat, by omega⟩
    have ho8 := ord_small hM hpk
    have hq8 := num_small ho8
    have hk := hasK_parts hhk
    have hv := pkC_kF hpk
    unfold kF at hv
    simp only [Bool.and_eq_true] at hv
    have vO := hv.1.1.2
    have hX128 : num X < 256 ^ 128 := num_lt (by unfold nvalid at vX; simp at vX; exact vX.1)
    have HRV := Lib.hid (show srV M O X c rs 0 = srP M O X cn (num rs) from by unfold srV; rw [if_pos rfl, hcn, Int.toNat_natCast])
    have hXs := nS_size_le.2 hX128
    have HOF := Lib.hid (show ∀ w, Calls Tryz.prog 57 #[.int .u64 cn] w (Ret (.string (nS cn)) w) from r01_Of cn (by omega))
    have HA1 := Lib.hid (r01_Plus (num X) cn (by omega) (by have := nS_small_size (show cn < 18446744073709551616 by omega); omega))
    have hs1 : num X + cn < 256 ^ 129 := by have : (256 : Nat) ^ 128 + 18446744073709551616 < 256 ^ 129 := by decide +kernel
                                            omega
    have hs2 : num X + cn + 1 < 256 ^ 129 := by have : (256 : Nat) ^ 128 + 18446744073709551617 < 256 ^ 129 := by decide +kernel
                                                omega
    have HA2 := Lib.hid (r01_Plus (num X + cn) 1 (by have := nS_size_le.2 hs1; omega) (by decide))
    rw [nS_one] at HA2
    have HOV := Lib.hid (r01_Over (num X + cn + 1) (num O) (by have := nS_size_le.2 hs2; omega) (by have := nS_small_size hq8; omega) (by omega))
    have hq1 : 1 < num O := by
      have hck := hk.1
      unfold chkK at hck
      split at hck
      · unfold chkN at hck
        rw [if_neg hz] at hck
        split at hck
        · cases hck
        · rename_i h
          rcases Nat.lt_or_ge 1 (num O) with a | a
          · exact a
          · exact absurd (Or.inr (Or.inl (by omega))) h
      · cases hck
    have hx2 := Nat.mod_lt (num X + cn + 1) (show 0 < num O by omega)
    have hwc : IntKind.u64.wrap (cn : Int) = (cn : Int) := by rw [IntKind.wrap_u64]; omega
    have hem : O.toList.isEmpty = false := by rw [nS_num vO]; exact empty_nS (by omega)
    rw [← nS_num vX] at HA1
    rw [← nS_num vO] at HOV
    obtain ⟨qt, hqt⟩ : ∃ x, nS ((num X + cn + 1) / num O) = x := ⟨_, rfl⟩
    rw [hqt] at HOV
    obtain ⟨x, hx⟩ : ∃ x, (num X + cn + 1) % num O = x := ⟨_, rfl⟩
    rw [hx] at HOV hx2
    have hcni : (cn : Int) ≤ 9223372036854775807 := by omega
    by_cases hg : Nat.gcd x (num O) = 1
    · have HIN := Lib.hid (r03_Inverse x (num O) hx2 hq8 hq1 hg)
      rw [← nS_num vO] at HIN
      have hy := invN_lt (x := x) (show 0 < num O by omega)
      have hmz : 0 < num M := by
        have := (of_decide_eq_true hk.2.2).2.1
        omega
      have HEX := Lib.hid (r03_Exp (num rs) (invN x (num O)) (num M) (nvalid_lt hk.2.1) (lt128_of_lt8 (by omega)) (num_small hM) hmz)
      have vM := hv.1.1.1
      rw [← nS_num vM, ← hrs] at HEX
      have HRP := Lib.hid (show srP M O X cn (num rs) = .tuple #[.string (nS (num rs ^ invN x (num O) % num M)), .int .i64 0] from by
        unfold srP
        rw [hx, if_pos hg])
      obtain ⟨ys, hys⟩ : ∃ u, nS (invN x (num O)) = u := ⟨_, rfl⟩
      obtain ⟨zs, hzs⟩ : ∃ u, nS (num rs ^ invN x (num O) % num M) = u := ⟨_, rfl⟩
      rw [hys] at HIN HEX
      rw [hzs] at HEX HRP
      rw [HRV.out, HRP.out]
      subst hcn
      unfold kV at *
      clear hr hM hO hG hH hs hX hp hp2 hc hpk hz hp0 hhk hrs ho8 hq8 hk hv vO vX hX128 hXs hs1 hs2 hqt hy hmz vM hys hzs hq1 hx2 hx hg ht hk0
      go_enter Tryz.func18, Tryz.ntmps18
      go_wp2_with fail
      try rw [hW1]
      refine (HBS.out _ _ HSL.out HT1.out).mono ?_
      rintro ev w2 ⟨rfl, hb⟩
      clear hW0 hW1
      have hk := HK1.out.next hb
      have HK2 := Lib.hid hk
      clear hb c0 c1 c2 c3
      obtain ⟨c0, c1, c2, c3⟩ := hk.1.cells
      clear hk
      go_wp2_with fail
      refine (HOF.out _).mono ?_
      rintro ev w3 ⟨rfl, hb⟩
      have hk := HK2.out.next hb
      have HK3 := Lib.hid hk
      clear hb c0 c1 c2 c3
      obtain ⟨c0, c1, c2, c3⟩ := hk.1.cells
      clear hk
      go_wp2_with fail
      refine (HA1.out _).mono ?_
      rintro ev w4 ⟨rfl, hb⟩
      have hk := HK3.out.next hb
      have HK4 := Lib.hid hk
      clear hb c0 c1 c2 c3
      obtain ⟨c0, c1, c2, c3⟩ := hk.1.cells
      clear hk
      go_wp2_with fail
      refine (HA2.out _).mono ?_
      rintro ev w5 ⟨rfl, hb⟩
      have hk := HK4.out.next hb
      have HK5 := Lib.hid hk
      clear hb c0 c1 c2 c3
      obtain ⟨c0, c1, c2, c3⟩ := hk.1.cells
      clear hk
      go_wp2_with fail
      refine (HOV.out _).mono ?_
      rintro ev w6 ⟨rfl, hb⟩
      have hk := HK5.out.next hb
      have HK6 := Lib.hid hk
      clear hb c0 c1 c2 c3
      obtain ⟨c0, c1, c2, c3⟩ := hk.1.cells
      clear hk
      go_wp2_with fail
      refine (HIN.out _).mono ?_
      rintro ev w7 ⟨rfl, hb⟩
      have hk := HK6.out.next hb
      have HK7 := Lib.hid hk
      clear hb c0 c1 c2 c3
      obtain ⟨c0, c1, c2, c3⟩ := hk.1.cells
      clear hk
      go_wp2_with fail
      refine (HEX.out _).mono ?_
      rintro ev w8 ⟨rfl, hb⟩
      have hk := HK7.out.next hb
      have HK8 := Lib.hid hk
      clear hb c0 c1 c2 c3
      obtain ⟨c0, c1, c2, c3⟩ := hk.1.cells
      clear hk
      go_wp2
      go_ret2
      exact ⟨rfl, HK8.out.2⟩
    · have HIN := Lib.hid (r03_Inverse_none x (num O) hx2 hq8 hq1 hg)
      rw [← nS_num vO] at HIN
      have HRP := Lib.hid (show srP M O X cn (num rs) = .tuple #[.string ⟨#[]⟩, .int .i64 11] from by unfold srP; rw [hx, if_neg hg])
      rw [HRV.out, HRP.out]
      subst hcn
      unfold kV at *
      clear hr hM hO hG hH hs hX hp hp2 hc hpk hz hp0 hhk hrs ho8 hq8 hk hv vO vX hX128 hXs hs1 hs2 hqt hq1 hx2 hx hg ht hk0
      go_enter Tryz.func18, Tryz.ntmps18
      go_wp2_with fail
      try rw [hW1]
      refine (HBS.out _ _ HSL.out HT1.out).mono ?_
      rintro ev w2 ⟨rfl, hb⟩
      clear hW0 hW1
      have hk := HK1.out.next hb
      have HK2 := Lib.hid hk
      clear hb c0 c1 c2 c3
      obtain ⟨c0, c1, c2, c3⟩ := hk.1.cells
      clear hk
      go_wp2_with fail
      refine (HOF.out _).mono ?_
      rintro ev w3 ⟨rfl, hb⟩
      have hk := HK2.out.next hb
      have HK3 := Lib.hid hk
      clear hb c0 c1 c2 c3
      obtain ⟨c0, c1, c2, c3⟩ := hk.1.cells
      clear hk
      go_wp2_with fail
      refine (HA1.out _).mono ?_
      rintro ev w4 ⟨rfl, hb⟩
      have hk := HK3.out.next hb
      have HK4 := Lib.hid hk
      clear hb c0 c1 c2 c3
      obtain ⟨c0, c1, c2, c3⟩ := hk.1.cells
      clear hk
      go_wp2_with fail
      refine (HA2.out _).mono ?_
      rintro ev w5 ⟨rfl, hb⟩
      have hk := HK4.out.next hb
      have HK5 := Lib.hid hk
      clear hb c0 c1 c2 c3
      obtain ⟨c0, c1, c2, c3⟩ := hk.1.cells
      clear hk
      go_wp2_with fail
      refine (HOV.out _).mono ?_
      rintro ev w6 ⟨rfl, hb⟩
      have hk := HK5.out.next hb
      have HK6 := Lib.hid hk
      clear hb c0 c1 c2 c3
      obtain ⟨c0, c1, c2, c3⟩ := hk.1.cells
      clear hk
      go_wp2_with fail
      refine (HIN.out _).mono ?_
      rintro ev w7 ⟨rfl, hb⟩
      have hk := HK6.out.next hb
      have HK7 := Lib.hid hk
      clear hb c0 c1 c2 c3
      obtain ⟨c0, c1, c2, c3⟩ := hk.1.cells
      clear hk
      go_wp2
      go_ret2
      exact ⟨rfl, HK7.out.2⟩
  · have HRV := Lib.hid (show srV M O X c rs re = .tuple #[.string ⟨#[]⟩, .int .i64 re] from by unfold srV; rw [if_neg hre])
    rw [HRV.out]
    unfold kV at *
    clear hr hM hO hG hH hs hX hp hp2 hc ht hk0
    go_enter Tryz.func18, Tryz.ntmps18
    go_wp2_with fail
    try rw [hW1]
    refine (HBS.out _ _ HSL.out HT1.out).mono ?_
    rintro ev w2 ⟨rfl, hb⟩
    clear hW0 hW1
    have hk := HK1.out.next hb
    have HK2 := Lib.hid hk
    clear hb c0 c1 c2 c3
    obtain ⟨c0, c1, c2, c3⟩ := hk.1.cells
    clear hk
    go_wp2
    go_ret2
    exact ⟨rfl, HK2.out.2⟩
end Go.Proofs.YtpdejgdkpghjhaaGreatDoor
/- Maps from numbers' bytes to places; the first two equal strings of a list; the walks of counter.Link and the reference's. -/
set_option linter.unusedVariables false
set_option linter.unusedSimpArgs false
namespace Go.Proofs.YtpdejgdkpghjhaaGreatDoor
open Go.RowKit
open Go.Maps Go.WideMaps
theorem lawN : Keyed Tryz.prog 22 := string_keyed Tryz.underlying22
theorem zeroN (w : World) : (zeroValue 3).run Tryz.prog w = .ok (.int .i64 0) w := by kernel_rfl
theorem keyN {s : ByteArray} (h : s.size ≤ maxLen) : keyOf Tryz.prog 22 (.string s) = some (.string s.data.toList) := keyOf_string_mk Tryz.underlying22 h
def MapN (w : World) (b n : Nat) (f : ByteArray → Option Nat) : Prop := ∃ D : DataW Unit, w.ownsMap Tryz.prog 22 (plainElem (H := Unit) Tryz.prog 3) b n D ∧
  ∀ s : ByteArray, Maps.has D (.string s.data.toList) = (f s).isSome ∧ ∀ k, f s = some k → D.atKey (.string s.data.toList) (.lit (.int .i64 0)) = .lit (.int .i64 (k : Int))
theorem MapN.made (w : World) : MapN (w.alloc (.map #[] 0)) w.heap.size 0 (fun _ => none) := ⟨_, World.ownsMap_made _ _ _ _, fun _ => ⟨rfl, fun _ h => by cases h⟩⟩
theorem MapN.congr {w : World} {b n : Nat} {f g : ByteArray → Option Nat} (h : MapN w b n f) (he : ∀ s, f s = g s) : MapN w b n g := by
  obtain ⟨D, h1, h2⟩ := h
  exact ⟨D, h1, fun s => by rw [← he s]; exact h2 s⟩
theorem mapN_put {w' : World} {b n : Nat} {f : ByteArray → Option Nat} {h : ByteArray} {k : Nat} {D : DataW Unit} (hf : ∀ s : ByteArray, Maps.has D (.string s.data.toList) = (f s).isSome ∧ ∀ k, f s = some k → D.atKey (.string s.data.toList) (.lit (.int .i64 0)) = .lit (.int .i64 (k : Int))) (hm : IsMap D)
    (hown : w'.ownsMap Tryz.prog 22 (plainElem (H := Unit) Tryz.prog 3) b (n + 1) (D.put (.string h.data.toList) (.lit (.int .i64 (k : Int))))) : MapN w' b (n + 1) (fun u => if h = u then some k else f u) := by
  have hk : WideAt.IsKeyLit (.string h.data.toList) := trivial
  refine ⟨_, hown, fun s => ?_⟩
  dsimp only
  by_cases e : h = s
  · subst e
    rw [has_put_same hm hk, if_pos rfl]
    refine ⟨rfl, fun j hj => ?_⟩
    cases hj
    exact atKey_put_same hm hk _ _
  · have hne : (Lit.string s.data.toList) ≠ (Lit.string h.data.toList) := fun hh => e (by simp only [Lit.string.injEq] at hh; rw [← bstr_of h, ← bstr_of s, hh])
    rw [has_put_other hne, if_neg e]
    refine ⟨(hf s).1, fun j hj => ?_⟩
    rw [atKey_put_other hne]
    exact (hf s).2 j hj
theorem wfN {j : Nat} (h : j ≤ 1000000) : (Lit.int .i64 (j : Int)).wf = true := by
  have h1 : IntKind.i64.min = -9223372036854775808 := rfl
  have h2 : IntKind.i64.max = 9223372036854775807 := rfl
  simp [Lit.wf, h1, h2]
  omega
def fsI (l : List ByteArray) : Nat → ByteArray → Option Nat
  | 0, _ => none
  | k + 1, s => match fsI l k s with
    | some i => some i
    | none => if l[k]? = some s then some k else none
def lkN (l : List ByteArray) : Nat → Option (Nat × Nat)
  | 0 => none
  | k + 1 => match lkN l k with
    | some r => some r
    | none => match l[k]? with
      | some s => (fsI l k s).map fun i => (i, k)
      | none => none
def lkV : Option (Nat × Nat) → Value
  | some (i, k) => .tuple #[.int .i64 (i : Int), .int .i64 (k : Int), .bool true]
  | none => .tuple #[.int .i64 0, .int .i64 0, .bool false]
theorem fsI_mono {l : List ByteArray} {s : ByteArray} {i : Nat} : ∀ {j k : Nat}, j ≤ k → fsI l j s = some i → fsI l k s = some i
  | j, 0, h, hs => by obtain rfl : j = 0 := by omega
                      exact hs
  | j, k + 1, h, hs => by
    by_cases e : j = k + 1
    · subst e; exact hs
    · have := fsI_mono (k := k) (by omega) hs
      rw [fsI, this]
theorem lkN_mono {l : List ByteArray} {r : Nat × Nat} : ∀ {j k : Nat}, j ≤ k → lkN l j = some r → lkN l k = some r
  | j, 0, h, hs => by obtain rfl : j = 0 := by omega
                      exact hs
  | j, k + 1, h, hs => by
    by_cases e : j = k + 1
    · subst e; exact hs
    · have := lkN_mono (k := k) (by omega) hs
      rw [lkN, this]
theorem lkN_hit {l : List ByteArray} {k i : Nat} {s : ByteArray} (h : lkN l k = none) (hs : l[k]? = some s) (hf : fsI l k s = some i) : lkN l (k + 1) = some (i, k) := by
  rw [lkN, h, hs]; simp [hf]
theorem lkN_miss {l : List ByteArray} {k : Nat} {s : ByteArray} (h : lkN l k = none) (hs : l[k]? = some s) (hf : fsI l k s = none) : lkN l (k + 1) = none := by
  rw [lkN, h, hs]; simp [hf]
theorem fsI_put {l : List ByteArray} {k : Nat} {s : ByteArray} (hs : l[k]? = some s) (hf : fsI l k s = none) (u : ByteArray) : (if s = u then some k else fsI l k u) = fsI l (k + 1) u := by
  rw [fsI]
  by_cases e : s = u
  · subst e; rw [if_pos rfl, hf]; simp [hs]
  · rw [if_neg e]
    cases fsI l k u with
    | some j => rfl
    | none => simp [hs, e]
set_option maxRecDepth 100000 in
set_option maxHeartbeats 2000000 in
theorem ct_Link (l : List ByteArray) (A : Option Addr) (n cap : Nat) (hn : n ≤ 1000000) (hlz : ∀ x ∈ l, x.size ≤ maxLen) (w : World) (hsl : SlN w A n cap l) : Calls Tryz.prog 19 #[.slice A n cap] w (Ret (lkV (lkN l n)) w) := by
  have HLZ := Lib.hid hlz
  have HLEN := Lib.hid hsl.1
  have HS := Lib.hid (fun w' (h : Below w.heap.size w w') => hsl.kept h (Nat.le_refl _))
  have hni : (n : Int) ≤ 1000000 := by omega
  have hcap := hsl.2.1
  have hcap2 := hsl.2.2.1
  have HNN := Lib.hid hn
  obtain ⟨R, hR⟩ : ∃ R, lkV (lkN l n) = R := ⟨_, rfl⟩
  have HR := Lib.hid hR
  rw [hR]
  clear hR hlz hsl hn
  have hmm := @run_makeMap Tryz.prog
  go_enter Tryz.func19, Tryz.ntmps19
  go_wp2
  go_loopw [13] (fun i wr => ∃ (j : Nat), j ≤ n ∧ i = .int .i64 j ∧ lkN l j = none ∧ MapN wr w.heap.size j (fsI l j) ∧ Below w.heap.size w wr) (fun i _ => n - (RowKit.intOf i).toNat)
  case atStart => exact ⟨0, Nat.zero_le _, rfl, rfl, MapN.made w, (Below.refl _ _).alloc (Nat.le_refl _) _⟩
  case round =>
    obtain ⟨j, hj, rfl, hlk, hm, hb⟩ := hrel
    have HM := Lib.hid hm
    have HB := Lib.hid hb
    have HLK := Lib.hid hlk
    have HSW := Lib.hid (HS.out wr hb)
    clear hm hb hlk
    by_cases hlt : j < n
    · obtain ⟨b, o, rfl⟩ := HSW.out.head (by omega)
      obtain ⟨s, he⟩ : ∃ s, l[j]? = some s := ⟨_, List.getElem?_eq_getElem (by rw [HLEN.out]; exact hlt)⟩
      have d0 := HSW.out.get? j he
      have HE := Lib.hid he
      have HSN := Lib.hid (HLZ.out s (List.mem_of_getElem? he))
      have hji : (j : Int) < (n : Int) := by omega
      have HJ := Lib.hid hlt
      clear he hj hlt
      obtain ⟨D, hown, hf⟩ := HM.out
      have HOWN := Lib.hid hown
      have HF := Lib.hid hf
      clear hown hf
      go_upto_region 5 with fail
      refine wp_region_lit ?_
      iterate 6 go_step
      refine wpList_lookup_own_ok_int _ rfl _ _ 103 rfl 22 3 .i64 lawN Tryz.underlying103 Tryz.underlying3 (zeroN _) w.heap.size j D rfl HOWN.out (.string s) (.string s.data.toList) rfl (keyN HSN.out) ?_
      intro c hat hwc
      have hh := HF.out s
      cases hfs : fsI l j s with
      | some i =>
        have hc : c = (i : Int) := by
          have := hh.2 i hfs
          rw [hat] at this
          simp at this
          exact this
        subst hc
        have HR2 := Lib.hid (show R = .tuple #[.int .i64 (i : Int), .int .i64 (j : Int), .bool true] from by
          rw [← HR.out, lkN_mono (show j + 1 ≤ n by have := HJ.out; omega) (lkN_hit HLK.out HE.out hfs)]; rfl)
        rw [show Maps.has D (.string s.data.toList) = true from by rw [hh.1, hfs]; rfl]
        clear hh hfs hat hwc
        go_wp2
        go_ret3
        exact ⟨by rw [HR2.out]; rfl, HB.out⟩
      | none =>
        rw [show Maps.has D (.string s.data.toList) = false from by rw [hh.1, hfs]; rfl]
        have HFS := Lib.hid hfs
        clear hh hfs hat
        go_upto_region 8 with fail
        refine wp_region_lit ?_
        iterate 9 go_step
        refine wpList_mapUpdate_own _ rfl _ _ _ 103 rfl 22 3 lawN Tryz.underlying103 _ w.heap.size j D rfl HOWN.out (by have := HJ.out; have := HNN.out; unfold maxLen; omega) (.string s) (.int .i64 (j : Int)) (.string s.data.toList) rfl rfl (keyN HSN.out) (.lit (.int .i64 (j : Int))) [] (plainElem_int Tryz.underlying3 (wfN (by have := HJ.out; have := HNN.out; omega))) ?_
        intro w3 hown3 hgrow3
        have HM3 := Lib.hid ((mapN_put HF.out HOWN.out.isMap hown3).congr (fsI_put HE.out HFS.out))
        have HB3 := Lib.hid (HB.out.grown hgrow3 HB.out.size (fun k hk => by simp only [Option.some.injEq] at hk; omega))
        have HLK3 := Lib.hid (lkN_miss HLK.out HE.out HFS.out)
        clear hown3 hgrow3 hwc
        go_wp2
        go_roundw
        case rel => exact ⟨j + 1, by have := HJ.out; omega, by go_num, HLK3.out, HM3.out, HB3.out⟩
        case measure => have := HJ.out; simp [RowKit.intOf]; omega
    · have hge : ¬ ((j : Int) < (n : Int)) := by omega
      have HR2 := Lib.hid (show R = .tuple #[.int .i64 0, .int .i64 0, .bool false] from by
        rw [← HR.out, show n = j from by omega, HLK.out]; rfl)
      clear hj hlt
      go_wp2
      go_ret3
      exact ⟨by rw [HR2.out]; rfl, HB.out⟩
set_option maxRecDepth 100000 in
set_option maxHeartbeats 2000000 in
theorem r49_Link (l : List ByteArray) (A : Option Addr) (n cap : Nat) (hn : n ≤ 1000000) (w : World) (hsl : SlN w A n cap l) : Calls Tryz.prog 20 #[.slice A n cap] w (Ret (lkV (lkN l n)) w) := by
  have HLEN := Lib.hid hsl.1
  have HS := Lib.hid (fun w' (h : Below w.heap.size w w') => hsl.kept h (Nat.le_refl _))
  have hni : (n : Int) ≤ 1000000 := by omega
  have hcap := hsl.2.1
  have hcap2 := hsl.2.2.1
  have HNN := Lib.hid hn
  obtain ⟨R, hR⟩ : ∃ R, lkV (lkN l n) = R := ⟨_, rfl⟩
  have HR := Lib.hid hR
  rw [hR]
  clear hR hsl hn
  go_enter Tryz.func20, Tryz.ntmps20
  go_wp2
  go_loopw [5] (fun i wr => ∃ (j : Nat), j ≤ n ∧ i = .int .i64 j ∧ lkN l j = none ∧ Below w.heap.size w wr) (fun i _ => n - (RowKit.intOf i).toNat)
  case atStart => exact ⟨0, Nat.zero_le _, rfl, rfl, Below.refl _ _⟩
  case round =>
    obtain ⟨j, hj, rfl, hlk, hb⟩ := hrel
    have HB := Lib.hid hb
    have HLK := Lib.hid hlk
    clear hb hlk
    by_cases hlt : j < n
    · have HJ := Lib.hid hlt
      obtain ⟨s, he⟩ : ∃ s, l[j]? = some s := ⟨_, List.getElem?_eq_getElem (by rw [HLEN.out]; exact hlt)⟩
      have HE := Lib.hid he
      have hji : (j : Int) < (n : Int) := by omega
      clear he hj hlt
      go_wp2
      go_loopw [6] (fun i wr => ∃ (m : Nat), m ≤ j ∧ i = .int .i64 m ∧ fsI l m s = none ∧ Below w.heap.size w wr) (fun i _ => j - (RowKit.intOf i).toNat)
      case atStart => exact ⟨0, Nat.zero_le _, rfl, rfl, HB.out⟩
      case round =>
        obtain ⟨m, hm, rfl, hfs, hb⟩ := hrel
        have HB2 := Lib.hid hb
        have HFS := Lib.hid hfs
        have HSW := Lib.hid (HS.out _ hb)
        clear hb hfs
        by_cases hlt : m < j
        · have HMJ := Lib.hid hlt
          obtain ⟨b, o, rfl⟩ := HSW.out.head (by have := HJ.out; omega)
          obtain ⟨u, hu⟩ : ∃ s, l[m]? = some s := ⟨_, List.getElem?_eq_getElem (by rw [HLEN.out]; have := HJ.out; omega)⟩
          obtain ⟨wd, hwd⟩ : ∃ wd, wr.drew = wd := ⟨_, rfl⟩
          have d0 : wd.cell? ⟨b, o + j, none⟩ = some (.string s) := by rw [← hwd]; exact HSW.out.get? j HE.out
          have d1 : wd.cell? ⟨b, o + m, none⟩ = some (.string u) := by rw [← hwd]; exact HSW.out.get? m hu
          have HWD := Lib.hid (show Below w.heap.size w wd from by rw [← hwd]; exact HB2.out.drew)
          have HU := Lib.hid hu
          have hmi : (m : Int) < (j : Int) := by omega
          have hmn : (m : Int) < (n : Int) := by omega
          have hlm : Int.toNat (m : Int) = m := by simp
          clear hu hm hlt
          cases hus : (u.toList == s.toList) with
          | true =>
            have hf : fsI l (m + 1) s = some m := by
              rw [fsI, HFS.out]
              simp only [HU.out, str_inj (beq_iff_eq.1 hus), if_true]
            have HR2 := Lib.hid (show R = .tuple #[.int .i64 (m : Int), .int .i64 (j : Int), .bool true] from by
              rw [← HR.out, lkN_mono (show j + 1 ≤ n by have := HJ.out; omega) (lkN_hit HLK.out HE.out (fsI_mono (show m + 1 ≤ j by have := HMJ.out; omega) hf))]; rfl)
            clear hf
            go_wp2
            refine wp_region_K 9 (Eq wd) (by kernel_rfl) ?_
            intro hD
            rw [hwd]
            refine wpAnyK_pureD (i := 0) (d := some 18) (v := ?v7_0b1) (fuel := 8) rfl (by kernel_rfl) (by kernel_rfl) (fun _ _ _ h => h) hD rfl (.inl ⟨by kernel_rfl, ?y7_0b1⟩) ?n7_0b1
            case y7_0b1 => intro w' _; go_simp; with_reducible rfl
            clear hD; intro hD
            simp only [Act.put, sqA, sqB, sqC]
            refine wpAnyK_pureD (i := 1) (d := some 19) (v := ?v7_1b1) (fuel := 7) rfl (by kernel_rfl) (by kernel_rfl) (fun _ _ _ h => h) hD rfl (.inl ⟨by kernel_rfl, ?y7_1b1⟩) ?n7_1b1
            case y7_1b1 => intro w' _; go_simp; with_reducible rfl
            clear hD; intro hD
            simp only [Act.put, sqA, sqB, sqC]
            refine wpAnyK_pureD (i := 2) (d := some 20) (v := ?v7_2b1) (fuel := 6) rfl (by kernel_rfl) (by kernel_rfl) (fun _ _ _ h => h) hD rfl (.inl ⟨by kernel_rfl, ?y7_2b1⟩) ?n7_2b1
            case y7_2b1 => intro w' _; go_simp; with_reducible rfl
            clear hD; intro hD
            simp only [Act.put, sqA, sqB, sqC]
            refine wpAnyK_takeSD (i := 3) (d := some 21) (v := ?v7_3b1) (fuel := 5) rfl (by kernel_rfl) (by kernel_rfl) (by kernel_rfl) (fun _ _ _ h => h) hD rfl (.inl ⟨by kernel_rfl, ?y7_3b1⟩) ?n7_3b1
            case y7_3b1 => intro w' hS'; have e0 := (hS' ▸ d0); have e1 := (hS' ▸ d1); go_simp; with_reducible rfl
            clear hD; intro hD
            simp only [Act.put, sqA, sqB, sqC]
            refine wpAnyK_pureD (i := 4) (d := some 22) (v := ?v7_4b1) (fuel := 4) rfl (by kernel_rfl) (by kernel_rfl) (fun _ _ _ h => h) hD rfl (.inl ⟨by kernel_rfl, ?y7_4b1⟩) ?n7_4b1
            case y7_4b1 => intro w' _; go_simp; with_reducible rfl
            clear hD; intro hD
            simp only [Act.put, sqA, sqB, sqC]
            refine wpAnyK_pureD (i := 5) (d := some 23) (v := ?v7_5b1) (fuel := 3) rfl (by kernel_rfl) (by kernel_rfl) (fun _ _ _ h => h) hD rfl (.inl ⟨by kernel_rfl, ?y7_5b1⟩) ?n7_5b1
            case y7_5b1 => intro w' _; go_simp; with_reducible rfl
            clear hD; intro hD
            simp only [Act.put, sqA, sqB, sqC]
            refine wpAnyK_pureD (i := 6) (d := some 24) (v := ?v7_6b1) (fuel := 2) rfl (by kernel_rfl) (by kernel_rfl) (fun _ _ _ h => h) hD rfl (.inl ⟨by kernel_rfl, ?y7_6b1⟩) ?n7_6b1
            case y7_6b1 => intro w' _; go_simp; with_reducible rfl
            clear hD; intro hD
            simp only [Act.put, sqA, sqB, sqC]
            refine wpAnyK_takeSD (i := 7) (d := some 25) (v := ?v7_7b1) (fuel := 1) rfl (by kernel_rfl) (by kernel_rfl) (by kernel_rfl) (fun _ _ _ h => h) hD rfl (.inl ⟨by kernel_rfl, ?y7_7b1⟩) ?n7_7b1
            case y7_7b1 => intro w' hS'; have e0 := (hS' ▸ d0); have e1 := (hS' ▸ d1); go_simp; with_reducible rfl
            clear hD; intro hD
            simp only [Act.put, sqA, sqB, sqC]
            refine wpAnyK_pureD (i := 8) (d := some 26) (v := ?v7_8b1) (fuel := 0) rfl (by kernel_rfl) (by kernel_rfl) (fun _ _ _ h => h) hD rfl (.inl ⟨by kernel_rfl, ?y7_8b1⟩) ?n7_8b1
            case y7_8b1 => intro w' _; go_simp; with_reducible rfl
            clear hD; intro hD
            simp only [Act.put, sqA, sqB, sqC]
            refine wpAnyK_done (by kernel_rfl) ?_ 0
            clear hD
            clear d0 d1
            go_wp2
            go_ret3
            exact ⟨by rw [HR2.out]; rfl, HWD.out⟩
          | false =>
            have HF2 := Lib.hid (show fsI l (m + 1) s = none from by
              rw [fsI, HFS.out]
              simp only [HU.out]
              rw [if_neg (fun h => by cases h; rw [beq_self_eq_true] at hus; cases hus)])
            go_wp2
            refine wp_region_K 9 (Eq wd) (by kernel_rfl) ?_
            intro hD
            rw [hwd]
            refine wpAnyK_pureD (i := 0) (d := some 18) (v := ?v7_0b2) (fuel := 8) rfl (by kernel_rfl) (by kernel_rfl) (fun _ _ _ h => h) hD rfl (.inl ⟨by kernel_rfl, ?y7_0b2⟩) ?n7_0b2
            case y7_0b2 => intro w' _; go_simp; with_reducible rfl
            clear hD; intro hD
            simp only [Act.put, sqA, sqB, sqC]
            refine wpAnyK_pureD (i := 1) (d := some 19) (v := ?v7_1b2) (fuel := 7) rfl (by kernel_rfl) (by kernel_rfl) (fun _ _ _ h => h) hD rfl (.inl ⟨by kernel_rfl, ?y7_1b2⟩) ?n7_1b2
            case y7_1b2 => intro w' _; go_simp; with_reducible rfl
            clear hD; intro hD
            simp only [Act.put, sqA, sqB, sqC]
            refine wpAnyK_pureD (i := 2) (d := some 20) (v := ?v7_2b2) (fuel := 6) rfl (by kernel_rfl) (by kernel_rfl) (fun _ _ _ h => h) hD rfl (.inl ⟨by kernel_rfl, ?y7_2b2⟩) ?n7_2b2
            case y7_2b2 => intro w' _; go_simp; with_reducible rfl
            clear hD; intro hD
            simp only [Act.put, sqA, sqB, sqC]
            refine wpAnyK_takeSD (i := 3) (d := some 21) (v := ?v7_3b2) (fuel := 5) rfl (by kernel_rfl) (by kernel_rfl) (by kernel_rfl) (fun _ _ _ h => h) hD rfl (.inl ⟨by kernel_rfl, ?y7_3b2⟩) ?n7_3b2
            case y7_3b2 => intro w' hS'; have e0 := (hS' ▸ d0); have e1 := (hS' ▸ d1); go_simp; with_reducible rfl
            clear hD; intro hD
            simp only [Act.put, sqA, sqB, sqC]
            refine wpAnyK_pureD (i := 4) (d := some 22) (v := ?v7_4b2) (fuel := 4) rfl (by kernel_rfl) (by kernel_rfl) (fun _ _ _ h => h) hD rfl (.inl ⟨by kernel_rfl, ?y7_4b2⟩) ?n7_4b2
            case y7_4b2 => intro w' _; go_simp; with_reducible rfl
            clear hD; intro hD
            simp only [Act.put, sqA, sqB, sqC]
            refine wpAnyK_pureD (i := 5) (d := some 23) (v := ?v7_5b2) (fuel := 3) rfl (by kernel_rfl) (by kernel_rfl) (fun _ _ _ h => h) hD rfl (.inl ⟨by kernel_rfl, ?y7_5b2⟩) ?n7_5b2
            case y7_5b2 => intro w' _; go_simp; with_reducible rfl
            clear hD; intro hD
            simp only [Act.put, sqA, sqB, sqC]
            refine wpAnyK_pureD (i := 6) (d := some 24) (v := ?v7_6b2) (fuel := 2) rfl (by kernel_rfl) (by kernel_rfl) (fun _ _ _ h => h) hD rfl (.inl ⟨by kernel_rfl, ?y7_6b2⟩) ?n7_6b2
            case y7_6b2 => intro w' _; go_simp; with_reducible rfl
            clear hD; intro hD
            simp only [Act.put, sqA, sqB, sqC]
            refine wpAnyK_takeSD (i := 7) (d := some 25) (v := ?v7_7b2) (fuel := 1) rfl (by kernel_rfl) (by kernel_rfl) (by kernel_rfl) (fun _ _ _ h => h) hD rfl (.inl ⟨by kernel_rfl, ?y7_7b2⟩) ?n7_7b2
            case y7_7b2 => intro w' hS'; have e0 := (hS' ▸ d0); have e1 := (hS' ▸ d1); go_simp; with_reducible rfl
            clear hD; intro hD
            simp only [Act.put, sqA, sqB, sqC]
            refine wpAnyK_pureD (i := 8) (d := some 26) (v := ?v7_8b2) (fuel := 0) rfl (by kernel_rfl) (by kernel_rfl) (fun _ _ _ h => h) hD rfl (.inl ⟨by kernel_rfl, ?y7_8b2⟩) ?n7_8b2
            case y7_8b2 => intro w' _; go_simp; with_reducible rfl
            clear hD; intro hD
            simp only [Act.put, sqA, sqB, sqC]
            refine wpAnyK_done (by kernel_rfl) ?_ 0
            clear hD
            clear d0 d1
            go_wp2
            refine ⟨⟨m + 1, by have := HMJ.out; omega, by go_num, HF2.out, HWD.out⟩, ?_⟩
            have := HMJ.out; simp [RowKit.intOf]; omega
        · have hmj : m = j := by omega
          have HFJ := Lib.hid (show fsI l j s = none from by rw [← hmj]; exact HFS.out)
          have HLK3 := Lib.hid (lkN_miss HLK.out HE.out HFJ.out)
          have hge : ¬ ((m : Int) < (j : Int)) := by omega
          clear hmj hm hlt
          go_wp2
          refine ⟨⟨j + 1, by have := HJ.out; omega, by go_num, HLK3.out, HB2.out⟩, ?_⟩
          have := HJ.out; simp [RowKit.intOf]; omega
    · have hge : ¬ ((j : Int) < (n : Int)) := by omega
      have HR2 := Lib.hid (show R = .tuple #[.int .i64 0, .int .i64 0, .bool false] from by
        rw [← HR.out, show n = j from by omega, HLK.out]; rfl)
      clear hj hlt
      go_wp2
      go_ret3
      exact ⟨by rw [HR2.out]; rfl, HB.out⟩
end Go.Proofs.YtpdejgdkpghjhaaGreatDoor

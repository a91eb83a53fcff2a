/- Maps from numbers' bytes to places; the first two equal strings of a list; the walks of counter.Link and the reference's. -/
import Derived.Test.YtpdejgdkpghjhaaGreatDoorQPeU
import Derived.Test.YtpdejgdkpghjhaaGreatDoorQNaE
import Derived.Test.YtpdejgdkpghjhaaGreatDoorQGst
import Derived.Maps.OwnSet
import Derived.Maps.OwnOps
import Derived.Maps.Views
import Derived.StringKeys
import Derived.Test.YtpdejgdkpghjhaaGreatDoorQHaB
set_option linter.unusedVariables false
set_option linter.unusedSimpArgs false
namespace Go.Proofs.YtpdejgdkpghjhaaGreatDoor
open Go.RowKit
open Go.Maps Go.WideMaps
theorem lawN : Keyed Tryz.prog 22 := string_keyed Tryz.underlying22
theorem zeroN (w : World) : (zeroValue 3).run Tryz.prog w = .ok (.int .i64 0) w := by kernel_rfl
theorem keyN {s : ByteArray} (h : s.size ≤ maxLen) : keyOf Tryz.prog 22 (.string s) = some (.string s.data.toList) := keyOf_string_mk Tryz.underlying22 h
def MapN (w : World) (b n : Nat) (f : ByteArray → Option Nat) : Prop := ∃ D : DataW Unit, w.ownsMap Tryz.prog 22 (plainElem (H := Unit) Tryz.prog 3) b n D ∧
  ∀ s : ByteArray, Maps.has D (.string s.data.toList) = (f s).isSome ∧ ∀ k, f s = some k → D.atKey (.string s.data.toList) (.lit (.int .i64 0)) = .lit (.int .i64 (k : Int))
theorem MapN.made (w : World) : MapN (w.alloc (.map #[] 0)) w.heap.size 0 (fun _ => none) := ⟨_, World.ownsMap_made _ _ _ _, fun _ => ⟨rfl, fun _ h => by cases h⟩⟩
theorem MapN.congr {w : World} {b n : Nat} {f g : ByteArray → Option Nat} (h : MapN w b n f) (he : ∀ s, f s = g s) : MapN w b n g := by
  obtain ⟨D, h1, h2⟩ := h
  exact ⟨D, h1, fun s => by rw [← he s]; exact h2 s⟩
theorem mapN_put {w' : World} {b n : Nat} {f : ByteArray → Option Nat} {h : ByteArray} {k : Nat} {D : DataW Unit} (hf : ∀ s : ByteArray, Maps.has D (.string s.data.toList) = (f s).isSome ∧ ∀ k, f s = some k → D.atKey (.string s.data.toList) (.lit (.int .i64 0)) = .lit (.int .i64 (k : Int))) (hm : IsMap D)
    (hown : w'.ownsMap Tryz.prog 22 (plainElem (H := Unit) Tryz.prog 3) b (n + 1) (D.put (.string h.data.toList) (.lit (.int .i64 (k : Int))))) : MapN w' b (n + 1) (fun u => if h = u then some k else f u) := by
  have hk : WideAt.IsKeyLit (.string h.data.toList) := trivial
  refine ⟨_, hown, fun s => ?_⟩
  dsimp only
  by_cases e : h = s
  · subst e
    rw [has_put_same hm hk, if_pos rfl]
    refine ⟨rfl, fun j hj => ?_⟩
    cases hj
    exact atKey_put_same hm hk _ _
  · have hne : (Lit.string s.data.toList) ≠ (Lit.string h.data.toList) := fun hh => e (by simp only [Lit.string.injEq] at hh; rw [← bstr_of h, ← bstr_of s, hh])
    rw [has_put_other hne, if_neg e]
    refine ⟨(hf s).1, fun j hj => ?_⟩
    rw [atKey_put_other hne]
    exact (hf s).2 j hj
theorem wfN {j : Nat} (h : j ≤ 1000000) : (Lit.int .i64 (j : Int)).wf = true := by
  have h1 : IntKind.i64.min = -9223372036854775808 := rfl
  have h2 : IntKind.i64.max = 9223372036854775807 := rfl
  simp [Lit.wf, h1, h2]
  omega
def fsI (l : List ByteArray) : Nat → ByteArray → Option Nat
  | 0, _ => none
  | k + 1, s => match fsI l k s with
    | some i => some i
    | none => if l[k]? = some s then some k else none
def lkN (l : List ByteArray) : Nat → Option (Nat × Nat)
  | 0 => none
  | k + 1 => match lkN l k with
    | some r => some r
    | none => match l[k]? with
      | some s => (fsI l k s).map fun i => (i, k)
      | none => none
def lkV : Option (Nat × Nat) → Value
  | some (i, k) => .tuple #[.int .i64 (i : Int), .int .i64 (k : Int), .bool true]
  | none => .tuple #[.int .i64 0, .int .i64 0, .bool false]
theorem fsI_mono {l : List ByteArray} {s : ByteArray} {i : Nat} : ∀ {j k : Nat}, j ≤ k → fsI l j s = some i → fsI l k s = some i
  | j, 0, h, hs => by obtain rfl : j = 0 := by omega
                      exact hs
  | j, k + 1, h, hs => by
    by_cases e : j = k + 1
    · subst e; exact hs
    · have := fsI_mono (k := k) (by omega) hs
      rw [fsI, this]
theorem lkN_mono {l : List ByteArray} {r : Nat × Nat} : ∀ {j k : Nat}, j ≤ k → lkN l j = some r → lkN l k = some r
  | j, 0, h, hs => by obtain rfl : j = 0 := by omega
                      exact hs
  | j, k + 1, h, hs => by
    by_cases e : j = k + 1
    · subst e; exact hs
    · have := lkN_mono (k := k) (by omega) hs
      rw [lkN, this]
theorem lkN_hit {l : List ByteArray} {k i : Nat} {s : ByteArray} (h : lkN l k = none) (hs : l[k]? = some s) (hf : fsI l k s = some i) : lkN l (k + 1) = some (i, k) := by
  rw [lkN, h, hs]; simp [hf]
theorem lkN_miss {l : List ByteArray} {k : Nat} {s : ByteArray} (h : lkN l k = none) (hs : l[k]? = some s) (hf : fsI l k s = none) : lkN l (k + 1) = none := by
  rw [lkN, h, hs]; simp [hf]
theorem fsI_put {l : List ByteArray} {k : Nat} {s : ByteArray} (hs : l[k]? = some s) (hf : fsI l k s = none) (u : ByteArray) : (if s = u then some k else fsI l k u) = fsI l (k + 1) u := by
  rw [fsI]
  by_cases e : s = u
  · subst e; rw [if_pos rfl, hf]; simp [hs]
  · rw [if_neg e]
    cases fsI l k u with
    | some j => rfl
    | none => simp [hs, e]
set_option maxRecDepth 100000 in
set_option maxHeartbeats 2000000 in
theorem ct_Link (l : List ByteArray) (A : Option Addr) (n cap : Nat) (hn : n ≤ 1000000) (hlz : ∀ x ∈ l, x.size ≤ maxLen) (w : World) (hsl : SlN w A n cap l) : Calls Tryz.prog 19 #[.slice A n cap] w (Ret (lkV (lkN l n)) w) := by
  have HLZ := Lib.hid hlz
  have HLEN := Lib.hid hsl.1
  have HS := Lib.hid (fun w' (h : Below w.heap.size w w') => hsl.kept h (Nat.le_refl _))
  have hni : (n : Int) ≤ 1000000 := by omega
  have hcap := hsl.2.1
  have hcap2 := hsl.2.2.1
  have HNN := Lib.hid hn
  obtain ⟨R, hR⟩ : ∃ R, lkV (lkN l n) = R := ⟨_, rfl⟩
  have HR := Lib.hid hR
  rw [hR]
  clear hR hlz hsl hn
  have hmm := @run_makeMap Tryz.prog
  go_enter Tryz.func19, Tryz.ntmps19
  go_wp2
  go_loopw [13] (fun i wr => ∃ (j : Nat), j ≤ n ∧ i = .int .i64 j ∧ lkN l j = none ∧ MapN wr w.heap.size j (fsI l j) ∧ Below w.heap.size w wr) (fun i _ => n - (RowKit.intOf i).toNat)
  case atStart => exact ⟨0, Nat.zero_le _, rfl, rfl, MapN.made w, (Below.refl _ _).alloc (Nat.le_refl _) _⟩
  case round =>
    obtain ⟨j, hj, rfl, hlk, hm, hb⟩ := hrel
    have HM := Lib.hid hm
    have HB := Lib.hid hb
    have HLK := Lib.hid hlk
    have HSW := Lib.hid (HS.out wr hb)
    clear hm hb hlk
    by_cases hlt : j < n
    · obtain ⟨b, o, rfl⟩ := HSW.out.head (by omega)
      obtain ⟨s, he⟩ : ∃ s, l[j]? = some s := ⟨_, List.getElem?_eq_getElem (by rw [HLEN.out]; exact hlt)⟩
      have d0 := HSW.out.get? j he
      have HE := Lib.hid he
      have HSN := Lib.hid (HLZ.out s (List.mem_of_getElem? he))
      have hji : (j : Int) < (n : Int) := by omega
      have HJ := Lib.hid hlt
      clear he hj hlt
      obtain ⟨D, hown, hf⟩ := HM.out
      have HOWN := Lib.hid hown
      have HF := Lib.hid hf
      clear hown hf
      go_upto_region 5 with fail
      refine wp_region_lit ?_
      iterate 6 go_step
      refine wpList_lookup_own_ok_int _ rfl _ _ 103 rfl 22 3 .i64 lawN Tryz.underlying103 Tryz.underlying3 (zeroN _) w.heap.size j D rfl HOWN.out (.string s) (.string s.data.toList) rfl (keyN HSN.out) ?_
      intro c hat hwc
      have hh := HF.out s
      cases hfs : fsI l j s with
      | some i =>
        have hc : c = (i : Int) := by
          have := hh.2 i hfs
          rw [hat] at this
          simp at this
          exact this
        subst hc
        have HR2 := Lib.hid (show R = .tuple #[.int .i64 (i : Int), .int .i64 (j : Int), .bool true] from by
          rw [← HR.out, lkN_mono (show j + 1 ≤ n by have := HJ.out; omega) (lkN_hit HLK.out HE.out hfs)]; rfl)
        rw [show Maps.has D (.string s.data.toList) = true from by rw [hh.1, hfs]; rfl]
        clear hh hfs hat hwc
        go_wp2
        go_ret3
        exact ⟨by rw [HR2.out]; rfl, HB.out⟩
      | none =>
        rw [show Maps.has D (.string s.data.toList) = false from by rw [hh.1, hfs]; rfl]
        have HFS := Lib.hid hfs
        clear hh hfs hat
        go_upto_region 8 with fail
        refine wp_region_lit ?_
        iterate 9 go_step
        refine wpList_mapUpdate_own _ rfl _ _ _ 103 rfl 22 3 lawN Tryz.underlying103 _ w.heap.size j D rfl HOWN.out (by have := HJ.out; have := HNN.out; unfold maxLen; omega) (.string s) (.int .i64 (j : Int)) (.string s.data.toList) rfl rfl (keyN HSN.out) (.lit (.int .i64 (j : Int))) [] (plainElem_int Tryz.underlying3 (wfN (by have := HJ.out; have := HNN.out; omega))) ?_
        intro w3 hown3 hgrow3
        have HM3 := Lib.hid ((mapN_put HF.out HOWN.out.isMap hown3).congr (fsI_put HE.out HFS.out))
        have HB3 := Lib.hid (HB.out.grown hgrow3 HB.out.size (fun k hk => by simp only [Option.some.injEq] at hk; omega))
        have HLK3 := Lib.hid (lkN_miss HLK.out HE.out HFS.out)
        clear hown3 hgrow3 hwc
        go_wp2
        go_roundw
        case rel => exact ⟨j + 1, by have := HJ.out; omega, by go_num, HLK3.out, HM3.out, HB3.out⟩
        case measure => have := HJ.out; simp [RowKit.intOf]; omega
    · have hge : ¬ ((j : Int) < (n : Int)) := by omega
      have HR2 := Lib.hid (show R = .tuple #[.int .i64 0, .int .i64 0, .bool false] from by
        rw [← HR.out, show n = j from by omega, HLK.out]; rfl)
      clear hj hlt
      go_wp2
      go_ret3
      exact ⟨by rw [HR2.out]; rfl, HB.out⟩
end Go.Proofs.YtpdejgdkpghjhaaGreatDoor
/- One hash, evaluated: the base of the example's scope and period. -/
set_option linter.unusedVariables false
namespace Go.Proofs.YtpdejgdkpghjhaaGreatDoor
def shopL : List UInt8 := [99, 111, 117, 110, 116, 46, 55, 46, 115, 104, 111, 112]
set_option maxRecDepth 100000 in
theorem sha_shop : shaL (txL 0 shopL) = [96, 136, 198, 177, 51, 240, 29, 236, 92, 116, 7, 77, 18, 77, 78, 45, 217, 172, 238, 111, 6, 254, 248, 40, 46, 49, 183, 19, 24, 125, 7, 88] := by kernel_rfl
theorem hx_shop : hsF 23 2 shopL 64 = some 18 := by
  have h : hxN 23 2 shopL 0 = 18 := by
    unfold hxN
    rw [sha_shop]
    decide +kernel
  have e : hsF 23 2 shopL 64 = if hxN 23 2 shopL 0 = 0 ∨ hxN 23 2 shopL 0 = 1 then hsF 23 2 shopL 63 else some (hxN 23 2 shopL 0) := rfl
  rw [e, h]
  rfl
end Go.Proofs.YtpdejgdkpghjhaaGreatDoor

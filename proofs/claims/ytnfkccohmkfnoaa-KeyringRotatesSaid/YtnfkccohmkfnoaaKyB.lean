/- Walks: keyring.Find$1, slices.IndexFunc over it. -/
import Derived.Test.YtnfkccohmkfnoaaKyA
set_option linter.unusedVariables false
set_option linter.unusedSimpArgs false
namespace Go.Proofs.Ytnfkccohmkfnoaa
open Go.RowKit

/-- Whether a version has a name and a number. -/
def hitV (name : ByteArray) (num : Int) (v : Ver) : Bool := (v.name.toList == name.toList) && (v.num == num)
set_option maxRecDepth 100000 in
theorem ky_find1 (cs : Array Value) (nm : ByteArray) (k : Int) (h0 : cs[0]? = some (.string nm)) (h1 : cs[1]? = some (.int .i64 k)) (name : ByteArray) (num : Int) (N F : Nat) (w : World) (hN : w.cell? ⟨N, 0, none⟩ = some (.string name)) (hF : w.cell? ⟨F, 0, none⟩ = some (.int .i64 num)) : Calls Try.prog 22 #[.agg cs, .pointer (some ⟨N, 0, none⟩), .pointer (some ⟨F, 0, none⟩)] w (Ret (.bool ((nm.toList == name.toList) && (k == num))) w) := by
  have kN := cell_kept ((Below.refl w.heap.size w).alloc (Nat.le_refl _) (.cells cs 38)) (Nat.le_refl _) hN
  have kF := cell_kept ((Below.refl w.heap.size w).alloc (Nat.le_refl _) (.cells cs 38)) (Nat.le_refl _) hF
  clear hN hF
  cases hq : (nm.toList == name.toList) with
  | true =>
    go_enter Try.func22, Try.ntmps22
    go_wp2
    go_ret
    exact ⟨rfl, (Below.refl _ _).alloc (Nat.le_refl _) _⟩
  | false =>
    go_enter Try.func22, Try.ntmps22
    go_wp2
    go_ret
    exact ⟨rfl, (Below.refl _ _).alloc (Nat.le_refl _) _⟩

/-- The first version with a name and a number. -/
def findV (l : List Ver) (name : ByteArray) (num : Int) : Option Nat := (List.range l.length).find? (fun i => (l[i]?).any (hitV name num))
def idxV (l : List Ver) (name : ByteArray) (num : Int) : Int := match findV l name num with
  | some k => k
  | none => -1
theorem findV_some {l : List Ver} {name : ByteArray} {num : Int} {k : Nat} {v : Ver} (hk : l[k]? = some v) (hv : hitV name num v = true) (hb : ∀ (i : Nat) u, i < k → l[i]? = some u → hitV name num u = false) : findV l name num = some k := by
  unfold findV
  rw [List.find?_range_eq_some]
  have hl := (List.getElem?_eq_some_iff.1 hk).1
  refine ⟨by simp [hk, hv], by simp [hl], fun j hj => ?_⟩
  have : l[j]? = some l[j] := List.getElem?_eq_getElem (by omega)
  rw [this]
  simp [hb j _ hj this]
theorem findV_none {l : List Ver} {name : ByteArray} {num : Int} (hb : ∀ (i : Nat) u, l[i]? = some u → hitV name num u = false) : findV l name num = none := by
  unfold findV
  rw [List.find?_eq_none]
  intro j hj
  have hl := List.mem_range.1 hj
  have e : l[j]? = some l[j] := List.getElem?_eq_getElem hl
  rw [e]
  have := hb j _ e
  simp [this]
set_option maxRecDepth 100000 in
set_option maxHeartbeats 2000000 in
theorem sl_IndexFunc (l : List Ver) (A : Option Addr) (len cap : Nat) (name : ByteArray) (num : Int) (N F : Nat) (w : World) (hs : SlV w A len cap l) (hlen : len ≤ 4096) (hN : w.cell? ⟨N, 0, none⟩ = some (.string name)) (hF : w.cell? ⟨F, 0, none⟩ = some (.int .i64 num)) :
    Calls Try.prog 21 #[.slice A len cap, .func (.func 22) #[] #[.pointer (some ⟨N, 0, none⟩), .pointer (some ⟨F, 0, none⟩)]] w (Ret (.int .i64 (idxV l name num)) w) := by
  have HS := Lib.hid hs
  have HN := Lib.hid hN
  have HF := Lib.hid hF
  have HLEN := Lib.hid hs.1
  have hcap := hs.2.1
  have hcap2 := hs.2.2.1
  clear hs hN hF
  go_enter Try.func21, Try.ntmps21
  go_wp2
  go_loopw [8] (fun k wr => ∃ j : Nat, j ≤ len ∧ k = .int .i64 j ∧ (∀ (i : Nat) u, i < j → l[i]? = some u → hitV name num u = false) ∧ Below w.heap.size w wr) (fun k _ => len - (intOf k).toNat)
  case atStart => exact ⟨0, Nat.zero_le _, rfl, fun i u h => absurd h (Nat.not_lt_zero _), Below.refl _ _⟩
  case round =>
    obtain ⟨j, hj, rfl, hall, hB⟩ := hrel
    have HALL := Lib.hid hall
    have HB := Lib.hid hB
    clear hall hB
    by_cases hlt : j < len
    · obtain ⟨b, o, rfl⟩ := HS.out.head (by omega)
      obtain ⟨v, he⟩ : ∃ v, l[j]? = some v := ⟨_, List.getElem?_eq_getElem (by rw [HLEN.out]; exact hlt)⟩
      obtain ⟨A1, n1, c1, hvc, _⟩ := (HS.out.kept HB.out (Nat.le_refl _)).get? j he
      have HE := Lib.hid he
      have hra : wr.rangeAt b (o + j * 18) (v.vals (.slice A1 n1 c1)) := hvc
      have hsz : (Try.prog.info? 38).map (·.size) = some (v.vals (.slice A1 n1 c1)).length := by kernel_rfl
      have HC := Lib.hid (ky_find1 (v.vals (.slice A1 n1 c1)).toArray v.name v.num rfl rfl name num N F wr (cell_kept HB.out (Nat.le_refl _) HN.out) (cell_kept HB.out (Nat.le_refl _) HF.out))
      obtain ⟨cs, hcs⟩ : ∃ cs, v.vals (.slice A1 n1 c1) = cs := ⟨_, rfl⟩
      rw [hcs] at hra hsz HC
      have HRA := Lib.hid hra
      have HSZ := Lib.hid hsz
      clear hvc he hcs hra hsz
      go_upto_region 4 with fail
      refine wp_region_lit ?_
      iterate 13 go_step
      refine wp_load_mid 38 _ rfl b (o + j * 18) rfl cs _ HRA.out Try.underlying38 rfl HSZ.out ?_
      go_wp2_with fail
      refine HC.out.mono ?_
      rintro e w1 ⟨rfl, hb1⟩
      have HB1 := Lib.hid (HB.out.trans (hb1.mono HB.out.size))
      clear hb1
      cases hh : ((v.name.toList == name.toList) && (v.num == num)) with
      | true =>
        have HI := Lib.hid (show idxV l name num = (j : Int) from by unfold idxV; rw [findV_some HE.out hh HALL.out])
        clear hh
        go_wp2
        go_ret
        exact ⟨by rw [HI.out]; rfl, HB1.out⟩
      | false =>
        have HA2 := Lib.hid (show ∀ (i : Nat) u, i < j + 1 → l[i]? = some u → hitV name num u = false from fun i u hi hu => by
          rcases Nat.lt_or_ge i j with a | a
          · exact HALL.out i u a hu
          · obtain rfl : i = j := by omega
            rw [HE.out] at hu
            cases hu
            exact hh)
        clear hh
        go_wp2
        go_roundw
        case rel => exact ⟨j + 1, by omega, by go_num, HA2.out, HB1.out⟩
        case measure => simp [intOf]; omega
    · obtain rfl : j = len := by omega
      have HI := Lib.hid (show idxV l name num = -1 from by unfold idxV; rw [findV_none (fun i u hu => HALL.out i u (by have := (List.getElem?_eq_some_iff.1 hu).1; have := HLEN.out; omega) hu)])
      clear hlt hj
      go_wp2
      go_ret
      exact ⟨by rw [HI.out]; rfl, HB.out⟩
end Go.Proofs.Ytnfkccohmkfnoaa

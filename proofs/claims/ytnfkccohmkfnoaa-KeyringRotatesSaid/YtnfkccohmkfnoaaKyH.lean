/- Walk: dominoref58.Last. -/
import Derived.Test.YtnfkccohmkfnoaaKyG
set_option linter.unusedVariables false
set_option linter.unusedSimpArgs false
namespace Go.Proofs.Ytnfkccohmkfnoaa
open Go.RowKit

/-- A place, or -1. -/
def idxI (o : Option Nat) : Int := match o with
  | some k => k
  | none => -1
/-- The place of the last version of a name. -/
def lastI (l : List Ver) (name : ByteArray) : Option Nat := bestI (nameP name) l l.length
set_option maxRecDepth 100000 in
set_option maxHeartbeats 4000000 in
theorem r58_Last (l : List Ver) (A : Option Addr) (len cap : Nat) (name : ByteArray) (w : World) (hs : SlV w A len cap l) (hlen : len ≤ 4096) : Calls Try.prog 26 #[.slice A len cap, .string name] w (Ret (.int .i64 (idxI (lastI l name))) w) := by
  have HS := Lib.hid hs
  have HLEN := Lib.hid hs.1
  have hcap := hs.2.1
  have hcap2 := hs.2.2.1
  clear hs
  go_enter Try.func26, Try.ntmps26
  go_wp2
  go_loopw [5, 6] (fun a i wr => ∃ (j : Nat), j ≤ len ∧ i = .int .i64 j ∧ a = .int .i64 (idxI (bestI (nameP name) l j)) ∧ Below w.heap.size w wr) (fun _ i _ => len - (intOf i).toNat)
  case atStart => exact ⟨0, Nat.zero_le _, rfl, rfl, Below.refl _ _⟩
  case round =>
    obtain ⟨j, hj, rfl, rfl, hbb⟩ := hrel
    have HB := Lib.hid hbb
    have HSR := Lib.hid (HS.out.kept hbb (Nat.le_refl _))
    clear hbb
    by_cases hlt : j < len
    · obtain ⟨b, o, rfl⟩ := HS.out.head (by omega)
      obtain ⟨v, he⟩ : ∃ v, l[j]? = some v := ⟨_, List.getElem?_eq_getElem (by rw [HLEN.out]; exact hlt)⟩
      obtain ⟨A1, n1, c1, hvc, _⟩ := HSR.out.get? j he
      have d0 : wr.drew.cell? ⟨b, o + j * 18, none⟩ = some (.string v.name) := hvc.open.1
      have e1 : wr.drew.cell? ⟨b, o + j * 18 + 1, none⟩ = some (.int .i64 v.num) := hvc.open.2.1
      have HE := Lib.hid he
      clear hvc he
      cases hq : (v.name.toList == name.toList) with
      | false =>
        have HP := Lib.hid (show nameP name v = false from hq)
        clear e1
        generalize hat : idxI (bestI (nameP name) l j) = at_
        go_wp2
        go_region
        go_wp2
        go_roundw
        case rel => exact ⟨j + 1, by omega, by go_num, by rw [bestI_skip HE.out HP.out, hat], HB.out.drew⟩
        case measure => simp [intOf]; omega
      | true =>
        have HP := Lib.hid (show nameP name v = true from hq)
        cases hi : bestI (nameP name) l j with
        | none =>
          have HI := Lib.hid hi
          clear e1 hi
          rw [show idxI none = -1 from rfl]
          go_wp2
          go_region
          go_wp2
          go_roundw
          case rel => exact ⟨j + 1, by omega, by go_num, by rw [bestI_first HI.out HE.out HP.out]; rfl, HB.out.drew⟩
          case measure => simp [intOf]; omega
        | some a =>
          obtain ⟨ha, u, hu, _⟩ := bestI_lt hi
          obtain ⟨A2, n2, c2, hvc2, _⟩ := HSR.out.get? a hu
          have g1 : wr.drew.cell? ⟨b, o + a * 18 + 1, none⟩ = some (.int .i64 u.num) := hvc2.open.2.1
          have HI := Lib.hid hi
          have HU := Lib.hid hu
          have hal : a < len := by omega
          have hneg : ((a : Int) < 0) = False := eq_false (by omega)
          rw [show idxI (some a) = (a : Int) from rfl]
          clear hvc2 hi hu
          by_cases hn : u.num < v.num
          · have hn' : decide (u.num < v.num) = true := decide_eq_true hn
            have HNN := Lib.hid hn
            clear hn
            go_wp2
            go_region
            go_wp2
            go_roundw
            case rel => exact ⟨j + 1, by omega, by go_num, by rw [bestI_more HI.out HU.out HE.out HP.out HNN.out]; rfl, HB.out.drew⟩
            case measure => simp [intOf]; omega
          · have hn' : decide (u.num < v.num) = false := decide_eq_false hn
            have HNN := Lib.hid hn
            clear hn
            go_wp2
            go_region
            go_wp2
            go_roundw
            case rel => exact ⟨j + 1, by omega, by go_num, by rw [bestI_less HI.out HU.out HE.out HP.out (Int.not_lt.2 HNN.out)]; rfl, HB.out.drew⟩
            case measure => simp [intOf]; omega
    · obtain rfl : j = len := by omega
      have HL := Lib.hid (show bestI (nameP name) l j = lastI l name from by unfold lastI; rw [HLEN.out])
      clear hlt hj
      generalize hat : idxI (bestI (nameP name) l j) = at_
      go_wp2
      go_ret
      exact ⟨by rw [← hat, HL.out]; rfl, HB.out⟩
end Go.Proofs.Ytnfkccohmkfnoaa

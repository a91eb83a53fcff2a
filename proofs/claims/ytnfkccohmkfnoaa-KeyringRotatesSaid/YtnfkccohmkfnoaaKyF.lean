/- Walk: dominoref58.Current. -/
import Derived.Test.YtnfkccohmkfnoaaKyE
set_option linter.unusedVariables false
set_option linter.unusedSimpArgs false
namespace Go.Proofs.Ytnfkccohmkfnoaa
open Go.RowKit

/-- A version of a name that is valid in an epoch. -/
def curP (name : ByteArray) (e : Int) (x : Ver) : Bool := (x.name.toList == name.toList) && vvalid x e
/-- The place of the best version so far. -/
def AtB (l : List Ver) (p : Ver → Bool) (j : Nat) (at_ : Int) : Prop := (bestV p (l.take j) = none ∧ at_ = -1) ∨ ∃ (a : Nat) (u : Ver), a < j ∧ at_ = (a : Int) ∧ l[a]? = some u ∧ bestV p (l.take j) = some u
theorem AtB.start (l : List Ver) (p : Ver → Bool) : AtB l p 0 (-1) := .inl ⟨rfl, rfl⟩
theorem AtB.skip {l : List Ver} {p : Ver → Bool} {j : Nat} {at_ : Int} {v : Ver} (h : AtB l p j at_) (hv : l[j]? = some v) (hp : p v = false) : AtB l p (j + 1) at_ := by
  have e : bestV p (l.take (j + 1)) = bestV p (l.take j) := by rw [bestV_take hv]; unfold stepV; rw [hp]; rfl
  rcases h with ⟨h1, h2⟩ | ⟨a, u, h1, h2, h3, h4⟩
  · exact .inl ⟨e.trans h1, h2⟩
  · exact .inr ⟨a, u, by omega, h2, h3, e.trans h4⟩
theorem AtB.first {l : List Ver} {p : Ver → Bool} {j : Nat} {v : Ver} (h : bestV p (l.take j) = none) (hv : l[j]? = some v) (hp : p v = true) : AtB l p (j + 1) (j : Int) :=
  .inr ⟨j, v, by omega, rfl, hv, by rw [bestV_take hv, h]; unfold stepV; rw [hp]; rfl⟩
theorem AtB.more {l : List Ver} {p : Ver → Bool} {j : Nat} {u v : Ver} (h : bestV p (l.take j) = some u) (hv : l[j]? = some v) (hp : p v = true) (hn : u.num < v.num) : AtB l p (j + 1) (j : Int) :=
  .inr ⟨j, v, by omega, rfl, hv, by rw [bestV_take hv, h]; unfold stepV; rw [hp]; simp [hn]⟩
theorem AtB.less {l : List Ver} {p : Ver → Bool} {j a : Nat} {u v : Ver} (h : bestV p (l.take j) = some u) (ha : a < j) (hu : l[a]? = some u) (hv : l[j]? = some v) (hp : p v = true) (hn : ¬ u.num < v.num) : AtB l p (j + 1) (a : Int) :=
  .inr ⟨a, u, by omega, rfl, hu, by rw [bestV_take hv, h]; unfold stepV; rw [hp]; simp [hn]⟩
/-- What Current returns. -/
def RetC (o : Option Ver) (w : World) (x : Ending) (w' : World) : Prop := (∃ v, o = some v ∧ RetV v 0 w x w') ∨ (o = none ∧ RetV ver0 22 w x w')
theorem bestV_full {p : Ver → Bool} {l : List Ver} {k : Nat} (h : l.length = k) : bestV p (l.take k) = bestV p l := by rw [← h, List.take_length]
set_option maxRecDepth 100000 in
set_option maxHeartbeats 4000000 in
theorem r58_Current (l : List Ver) (A : Option Addr) (len cap : Nat) (name : ByteArray) (e : Int) (w : World) (hs : SlV w A len cap l) (hlen : len ≤ 4096) : Calls Try.prog 8 #[.slice A len cap, .string name, .int .i64 e] w (RetC (bestV (curP name e) l) w) := by
  obtain ⟨W0, hW0⟩ : ∃ W0, w.alloc (.cells (ver0.arr (.slice none 0 0)) 38) = W0 := ⟨_, rfl⟩
  have HY0 := Lib.hid (show BxC W0 w.heap.size (ver0.arr (.slice none 0 0)) 38 from by rw [← hW0]; exact BxC.new _ _ _)
  have HB0 := Lib.hid (show Below w.heap.size w W0 from by rw [← hW0]; exact (Below.refl _ _).alloc (Nat.le_refl _) _)
  have HS := Lib.hid (hs.kept HB0.out (Nat.le_refl _))
  have HSW := Lib.hid hs
  have HLEN := Lib.hid hs.1
  have hcap := hs.2.1
  have hcap2 := hs.2.2.1
  unfold ver0 Ver.arr at hW0
  clear hs
  go_enter Try.func8, Try.ntmps8
  go_wp2
  try rw [hW0]
  clear hW0
  go_loopw [8, 9] (fun a i wr => ∃ (j : Nat) (at_ : Int), j ≤ len ∧ i = .int .i64 j ∧ a = .int .i64 at_ ∧ AtB l (curP name e) j at_ ∧ Below W0.heap.size W0 wr) (fun _ i _ => len - (intOf i).toNat)
  case atStart => exact ⟨0, -1, Nat.zero_le _, rfl, rfl, AtB.start _ _, Below.refl _ _⟩
  case round =>
    obtain ⟨j, at_, hj, rfl, rfl, hat, hbb⟩ := hrel
    have HB := Lib.hid hbb
    have HYR := Lib.hid (HY0.out.next hbb)
    have HSR := Lib.hid (HS.out.kept hbb (Nat.le_refl _))
    clear hbb
    by_cases hlt : j < len
    · obtain ⟨b, o, rfl⟩ := HS.out.head (by omega)
      obtain ⟨v, he⟩ : ∃ v, l[j]? = some v := ⟨_, List.getElem?_eq_getElem (by rw [HLEN.out]; exact hlt)⟩
      obtain ⟨A1, n1, c1, hvc, _⟩ := HSR.out.get? j he
      have d0 : wr.drew.cell? ⟨b, o + j * 18, none⟩ = some (.string v.name) := hvc.open.1
      have d14 : wr.drew.cell? ⟨b, o + j * 18 + 14, none⟩ = some (.int .i64 v.fr) := hvc.open.2.2.2.2.2.2.2.2.2.2.2.2.2.2.1
      have d15 : wr.drew.cell? ⟨b, o + j * 18 + 15, none⟩ = some (.int .i64 v.to) := hvc.open.2.2.2.2.2.2.2.2.2.2.2.2.2.2.2.1
      have e1 : wr.drew.cell? ⟨b, o + j * 18 + 1, none⟩ = some (.int .i64 v.num) := hvc.open.2.1
      have HE := Lib.hid he
      have HAT := Lib.hid hat
      clear hvc he
      cases hq : (v.name.toList == name.toList) with
      | false =>
        have HP := Lib.hid (show curP name e v = false from by unfold curP; rw [hq]; rfl)
        clear hat e1
        go_wp2
        go_region
        go_wp2
        go_roundw
        case rel => exact ⟨j + 1, at_, by omega, by go_num, rfl, HAT.out.skip HE.out HP.out, HB.out.drew⟩
        case measure => simp [intOf]; omega
      | true =>
        by_cases h1 : v.fr ≤ e
        · have h1' : decide (v.fr ≤ e) = true := decide_eq_true h1
          by_cases h2 : e ≤ v.to
          · have h2' : decide (e ≤ v.to) = true := decide_eq_true h2
            have HP := Lib.hid (show curP name e v = true from by unfold curP vvalid; rw [hq, h1', h2']; rfl)
            rcases hat with ⟨hb, rfl⟩ | ⟨a, u, ha, rfl, hu, hb⟩
            · have HBB := Lib.hid hb
              clear hb e1
              go_wp2
              go_region
              go_wp2
              go_roundw
              case rel => exact ⟨j + 1, j, by omega, by go_num, rfl, AtB.first HBB.out HE.out HP.out, HB.out.drew⟩
              case measure => simp [intOf]; omega
            · obtain ⟨A2, n2, c2, hvc2, _⟩ := HSR.out.get? a hu
              have g1 : wr.drew.cell? ⟨b, o + a * 18 + 1, none⟩ = some (.int .i64 u.num) := hvc2.open.2.1
              have HBB := Lib.hid hb
              have HU := Lib.hid hu
              have hal : a < len := by omega
              have hneg : ((a : Int) < 0) = False := eq_false (by omega)
              clear hvc2 hb hu
              by_cases hn : u.num < v.num
              · have hn' : decide (u.num < v.num) = true := decide_eq_true hn
                have HNN := Lib.hid hn
                clear hn
                go_wp2
                go_region
                go_wp2
                go_roundw
                case rel => exact ⟨j + 1, j, by omega, by go_num, rfl, AtB.more HBB.out HE.out HP.out HNN.out, HB.out.drew⟩
                case measure => simp [intOf]; omega
              · have hn' : decide (u.num < v.num) = false := decide_eq_false hn
                have HNN := Lib.hid hn
                clear hn
                go_wp2
                go_region
                go_wp2
                go_roundw
                case rel => exact ⟨j + 1, a, by omega, by go_num, rfl, AtB.less HBB.out ha HU.out HE.out HP.out (Int.not_lt.2 HNN.out), HB.out.drew⟩
                case measure => simp [intOf]; omega
          · have h2' : decide (e ≤ v.to) = false := decide_eq_false h2
            have HP := Lib.hid (show curP name e v = false from by unfold curP vvalid; rw [h2', Bool.and_false, Bool.and_false])
            clear hat e1
            go_wp2
            go_region
            go_wp2
            go_roundw
            case rel => exact ⟨j + 1, at_, by omega, by go_num, rfl, HAT.out.skip HE.out HP.out, HB.out.drew⟩
            case measure => simp [intOf]; omega
        · have h1' : decide (v.fr ≤ e) = false := decide_eq_false h1
          have HP := Lib.hid (show curP name e v = false from by unfold curP vvalid; rw [h1', Bool.false_and, Bool.and_false])
          clear hat e1
          go_wp2
          go_region
          go_wp2
          go_roundw
          case rel => exact ⟨j + 1, at_, by omega, by go_num, rfl, HAT.out.skip HE.out HP.out, HB.out.drew⟩
          case measure => simp [intOf]; omega
    · obtain rfl : j = len := by omega
      clear hlt hj
      rcases hat with ⟨hb, rfl⟩ | ⟨a, u, ha, rfl, hu, hb⟩
      · have HN := Lib.hid (show bestV (curP name e) l = none from by rw [← bestV_full HLEN.out]; exact hb)
        clear hb
        go_upto_region 8 with fail
        refine wp_region_lit ?_
        iterate 4 go_step
        refine wp_store_row 38 _ _ rfl (w.heap.size) (ver0.arr (.slice none 0 0)) rfl rfl 38 (ver0.arr (.slice none 0 0)) HYR.out (by kernel_rfl) rfl ver0.arr_one ?_
        have HY3 := Lib.hid (setRow_heap wr (w.heap.size) _ (ver0.arr (.slice none 0 0)) _ _ HYR.out)
        have HB3 := Lib.hid (below_setRow (HB0.out.trans (HB.out.mono HB0.out.size)) (g := w.heap.size) (by omega) (ver0.arr (.slice none 0 0)))
        obtain ⟨w3, hw3⟩ : ∃ w3, wr.setRow (w.heap.size) (ver0.arr (.slice none 0 0)) = w3 := ⟨_, rfl⟩
        rw [hw3] at HY3 HB3 ⊢
        clear hw3
        go_wp2
        refine bodyPost_ret (v := .tuple #[.agg (ver0.arr (.slice none 0 0)), .int .i64 22]) (Eq.trans (results_row_tmp rfl _ _ (w.heap.size) 38 (ver0.arr (.slice none 0 0)) (0, 0) _ rfl HY3.out Try.underlying38 rfl (by kernel_rfl)) (by rfl)) rfl (.inr ⟨HN.out, ⟨none, 0, 0, rfl, ⟨rfl, Nat.le_refl _, Nat.zero_le _, 0, 0, fun h => absurd h (Nat.lt_irrefl _), fun k s h => by simp [ver0] at h⟩, HB3.out⟩⟩)
      · have HN := Lib.hid (show bestV (curP name e) l = some u from by rw [← bestV_full HLEN.out]; exact hb)
        obtain ⟨b, o, rfl⟩ := HS.out.head (by omega)
        obtain ⟨A1, n1, c1, hvc0, hsl0⟩ := HSW.out.get? a hu
        have hb00 := HB0.out.trans (HB.out.mono HB0.out.size)
        have hvc := hvc0.kept hb00 (Nat.le_refl _)
        have hsl := hsl0
        clear hvc0 hsl0 hb00
        have hneg : ((a : Int) < 0) = False := eq_false (by omega)
        have HRA := Lib.hid (show wr.rangeAt b (o + a * 18) (u.vals (.slice A1 n1 c1)) from hvc)
        have HSZ := Lib.hid (show (Try.prog.info? 38).map (·.size) = some (u.vals (.slice A1 n1 c1)).length from by kernel_rfl)
        have HSL := Lib.hid hsl
        clear hb hu hvc hsl
        go_upto_region 9 with fail
        refine wp_region_lit ?_
        iterate 10 go_step
        refine wp_load_mid 38 _ rfl b (o + a * 18) rfl _ _ HRA.out Try.underlying38 rfl HSZ.out ?_
        have HX4 := Lib.hid (setRow_heap wr (w.heap.size) _ (u.arr (.slice A1 n1 c1)) _ _ HYR.out)
        have HB4 := Lib.hid (below_setRow (HB0.out.trans (HB.out.mono HB0.out.size)) (g := w.heap.size) (by omega) (u.arr (.slice A1 n1 c1)))
        have HSL4 := Lib.hid (HSL.out.kept HB4.out (Nat.le_refl _))
        have HON := Lib.hid (u.arr_one (A := A1) (n := n1) (c := c1))
        rw [show (u.vals (.slice A1 n1 c1)).toArray = u.arr (.slice A1 n1 c1) from rfl]
        obtain ⟨rr, hrr⟩ : ∃ rr, u.arr (.slice A1 n1 c1) = rr := ⟨_, rfl⟩
        have hrs : rr.size = 18 := by rw [← hrr]; rfl
        rw [hrr] at HX4 HB4 HSL4 HON ⊢
        have HRR := Lib.hid hrr
        have HRS := Lib.hid hrs
        clear hrr hrs
        iterate 2 go_step
        refine wp_store_row 38 _ _ rfl (w.heap.size) rr rfl rfl 38 (ver0.arr (.slice none 0 0)) HYR.out (by rw [HRS.out]; kernel_rfl) (by rw [HRS.out]; rfl) HON.out ?_
        obtain ⟨w4, hw4⟩ : ∃ w4, wr.setRow (w.heap.size) rr = w4 := ⟨_, rfl⟩
        rw [hw4] at HX4 HB4 HSL4 ⊢
        clear hw4
        go_wp2
        refine bodyPost_ret (v := .tuple #[.agg rr, .int .i64 0]) (Eq.trans (results_row_tmp rfl _ _ (w.heap.size) 38 rr (0, 0) _ rfl HX4.out Try.underlying38 rfl (by rw [HRS.out]; kernel_rfl)) (by rfl)) rfl (.inl ⟨u, HN.out, ⟨A1, n1, c1, by rw [← HRR.out]; rfl, HSL4.out, HB4.out⟩⟩)
end Go.Proofs.Ytnfkccohmkfnoaa

/- A round's own version; walk: keyring.last. -/
import Derived.Test.YtnfkccohmkfnoaaKyH
import Derived.Great.Walk
set_option linter.unusedVariables false
set_option linter.unusedSimpArgs false
namespace Go.Proofs.Ytnfkccohmkfnoaa
open Go.RowKit
open Go.Maps Go.WideMaps

theorem sinj {a b : ByteArray} (h : a.toList = b.toList) : a = b := by
  rw [ByteArray.toList_eq, ByteArray.toList_eq] at h
  exact ByteArray.ext (Array.toList_inj.1 h)
theorem nameP_eq {s : ByteArray} {v : Ver} : nameP s v = decide (v.name = s) := by
  unfold nameP
  by_cases h : v.name = s
  · rw [h]; simp
  · rw [decide_eq_false h]; exact beq_eq_false_iff_ne.2 fun e => h (sinj e)
theorem wfI {j : Nat} (h : j ≤ 4096) : (Lit.int .i64 (j : Int)).wf = true := by
  have h1 : IntKind.i64.min = -9223372036854775808 := rfl
  have h2 : IntKind.i64.max = 9223372036854775807 := rfl
  simp [Lit.wf, h1, h2]
  omega
/-- Names are short. -/
def SzV (l : List Ver) : Prop := ∀ (k : Nat) (v : Ver), l[k]? = some v → v.name.size ≤ maxLen

/-- A new block into which a row is stored. -/
theorem box_row (wr : World) (z cs : Array Value) (T : TypeId) : BxC ((wr.alloc (.cells z T)).setRow wr.heap.size cs) wr.heap.size cs T :=
  setRow_heap _ _ _ cs _ _ (BxC.new wr z T)
theorem box_below (wr : World) (z cs : Array Value) (T : TypeId) : Below wr.heap.size wr ((wr.alloc (.cells z T)).setRow wr.heap.size cs) :=
  below_setRow ((Below.refl _ _).alloc (Nat.le_refl _) _) (Nat.le_refl _) _

/-- The next version enters the map, or does not. -/
theorem best_in {l : List Ver} {j : Nat} {v : Ver} (hv : l[j]? = some v) (h : bestI (nameP v.name) l j = none ∨ ∃ a u, bestI (nameP v.name) l j = some a ∧ l[a]? = some u ∧ u.num < v.num) (s : ByteArray) : (if v.name = s then some j else bestI (nameP s) l j) = bestI (nameP s) l (j + 1) := by
  by_cases e : v.name = s
  · subst e
    rw [if_pos rfl]
    have hp : nameP v.name v = true := by rw [nameP_eq]; simp
    rcases h with h | ⟨a, u, h, hu, hn⟩
    · rw [bestI_first h hv hp]
    · rw [bestI_more h hu hv hp hn]
  · rw [if_neg e, bestI_skip hv (by rw [nameP_eq]; exact decide_eq_false e)]
theorem best_out {l : List Ver} {j a : Nat} {u v : Ver} (hv : l[j]? = some v) (h : bestI (nameP v.name) l j = some a) (hu : l[a]? = some u) (hn : ¬ u.num < v.num) (s : ByteArray) : bestI (nameP s) l j = bestI (nameP s) l (j + 1) := by
  by_cases e : v.name = s
  · subst e
    have hp : nameP v.name v = true := by rw [nameP_eq]; simp
    rw [bestI_less h hu hv hp hn, h]
  · rw [bestI_skip hv (by rw [nameP_eq]; exact decide_eq_false e)]

/-- What last returns. -/
def RetM (l : List Ver) (w : World) (e : Ending) (w' : World) : Prop := ∃ b, e = .returned (.map (some b)) ∧ w.heap.size ≤ b ∧ MapI w' b l.length (lastI l) ∧ Below w.heap.size w w'
set_option maxRecDepth 100000 in
set_option maxHeartbeats 4000000 in
theorem ky_last (l : List Ver) (A : Option Addr) (len cap : Nat) (w : World) (hs : SlV w A len cap l) (hlen : len ≤ 4096) (hz : SzV l) : Calls Try.prog 19 #[.slice A len cap] w (RetM l w) := by
  have HS := Lib.hid hs
  have HLEN := Lib.hid hs.1
  have HZ := Lib.hid hz
  have hcap := hs.2.1
  have hcap2 := hs.2.2.1
  have hmm := @run_makeMap Try.prog
  clear hs hz
  go_enter Try.func19, Try.ntmps19
  go_wp2
  go_loopw [11] (fun i wr => ∃ (j : Nat), j ≤ len ∧ i = .int .i64 j ∧ MapI wr w.heap.size j (fun s => bestI (nameP s) l j) ∧ Below w.heap.size w wr) (fun i _ => len - (intOf i).toNat)
  case atStart => exact ⟨0, Nat.zero_le _, rfl, MapI.made w, (Below.refl _ _).alloc (Nat.le_refl _) _⟩
  case round =>
    obtain ⟨j, hj, rfl, hmi, hbb⟩ := hrel
    have HB := Lib.hid hbb
    have HSR := Lib.hid (HS.out.kept hbb (Nat.le_refl _))
    have HMI := Lib.hid hmi
    clear hbb hmi hmm
    by_cases hlt : j < len
    · obtain ⟨b, o, rfl⟩ := HS.out.head (by omega)
      obtain ⟨v, he⟩ : ∃ v, l[j]? = some v := ⟨_, List.getElem?_eq_getElem (by rw [HLEN.out]; exact hlt)⟩
      obtain ⟨A1, n1, c1, hvc, _⟩ := HSR.out.get? j he
      have HSN := Lib.hid (HZ.out j v he)
      have HE := Lib.hid he
      have HRA := Lib.hid (show wr.rangeAt b (o + j * 18) (v.vals (.slice A1 n1 c1)) from hvc)
      have HSZ := Lib.hid (show (Try.prog.info? 38).map (·.size) = some (v.vals (.slice A1 n1 c1)).length from by kernel_rfl)
      have HON := Lib.hid (v.arr_one (A := A1) (n := n1) (c := c1))
      obtain ⟨cs, hcs⟩ : ∃ cs, v.arr (.slice A1 n1 c1) = cs := ⟨_, rfl⟩
      have HCS := Lib.hid (show cs.size = 18 from by rw [← hcs]; rfl)
      have hc0 : cs[0]? = some (.string v.name) := by rw [← hcs]; rfl
      have hc1 : cs[1]? = some (.int .i64 v.num) := by rw [← hcs]; rfl
      have hva : (v.vals (.slice A1 n1 c1)).toArray = cs := hcs
      rw [hcs] at HON
      clear hvc he hcs
      go_upto_region 4 with fail
      refine wp_region_lit ?_
      iterate 6 go_step
      refine wpList_load_mid rfl 38 _ rfl b (o + j * 18) rfl _ _ HRA.out Try.underlying38 rfl HSZ.out ?_
      rw [hva]
      clear hva
      refine Great.wpList_allocTo rfl _ rfl (.pointer (some ⟨wr.heap.size, 0, none⟩)) (.cells (ver0.arr (.slice none 0 0)) 38) (by kernel_rfl) ?_
      iterate 3 go_step
      refine wpList_store_rowTo rfl 38 _ _ rfl rfl wr.heap.size cs rfl rfl 38 (ver0.arr (.slice none 0 0)) (BxC.new wr _ _) (by rw [HCS.out]; kernel_rfl) (by rw [HCS.out]; rfl) HON.out ?_
      have HX := Lib.hid (box_row wr (ver0.arr (.slice none 0 0)) cs 38)
      have HW := Lib.hid (box_below wr (ver0.arr (.slice none 0 0)) cs 38)
      obtain ⟨w2, hw2⟩ : ∃ w2, (wr.alloc (.cells (ver0.arr (.slice none 0 0)) 38)).setRow wr.heap.size cs = w2 := ⟨_, rfl⟩
      rw [hw2] at HX HW ⊢
      clear hw2
      obtain ⟨D, hown, hf⟩ := HMI.out.kept HW.out (Nat.le_refl _)
      have HOWN2 := Lib.hid hown
      have HF := Lib.hid hf
      have x0 := HX.out.cell 0
      have x1 : w2.drew.cell? ⟨wr.heap.size, 1, none⟩ = cs[1]? := HX.out.cell 1
      have x2 : w2.drew.cell? ⟨wr.heap.size, 0, none⟩ = cs[0]? := HX.out.cell 0
      rw [hc0] at x0 x2
      rw [hc1] at x1
      clear hown hf hc0 hc1
      cases hi : bestI (nameP v.name) l j with
      | none =>
        have HAS := Lib.hid (show Maps.has D (.string v.name.data.toList) = false from by rw [(HF.out v.name).1]; show (bestI (nameP v.name) l j).isSome = _; rw [hi]; rfl)
        have HI := Lib.hid hi
        clear hi
        go_upto_region 5 with fail
        refine wp_region_lit ?_
        iterate 9 go_step
        refine wpList_lookup_own_ok_int _ rfl _ _ 58 rfl 9 3 .i64 lawS Try.underlying58 Try.underlying3 (zeroI _) w.heap.size j D rfl HOWN2.out (.string v.name) (.string v.name.data.toList) rfl (keyS HSN.out) ?_
        intro c hat hwc
        rw [HAS.out]
        go_wp2
        go_region
        go_upto_region 7 with fail
        refine wp_region_lit ?_
        iterate 12 go_step
        refine wpList_mapUpdate_own _ rfl _ _ _ 58 rfl 9 3 lawS Try.underlying58 _ w.heap.size j D rfl HOWN2.out.drew (by unfold maxLen; omega) (.string v.name) (.int .i64 (j : Int)) (.string v.name.data.toList) rfl rfl (keyS HSN.out) (.lit (.int .i64 (j : Int))) [] (plainElem_int Try.underlying3 (wfI (by omega))) ?_
        intro w3 hown3 hgrow3
        have HM3 := Lib.hid ((mapI_put HF.out HOWN2.out.isMap hown3).congr (best_in HE.out (.inl HI.out)))
        have HB3 := Lib.hid ((HB.out.trans (HW.out.mono HB.out.size)).drew.grown hgrow3 (Nat.le_trans HB.out.size HW.out.size) (fun k hk => by simp only [Option.some.injEq] at hk; omega))
        clear hown3 hgrow3
        go_wp2
        go_roundw
        case rel => exact ⟨j + 1, by omega, by go_num, HM3.out, HB3.out⟩
        case measure => simp [intOf]; omega
      | some a =>
        have HAS := Lib.hid (show Maps.has D (.string v.name.data.toList) = true from by rw [(HF.out v.name).1]; show (bestI (nameP v.name) l j).isSome = _; rw [hi]; rfl)
        have HAT := Lib.hid ((HF.out v.name).2 a hi)
        obtain ⟨ha, u, hu, _⟩ := bestI_lt hi
        have hal : a < len := by omega
        obtain ⟨A2, n2, c2, hvc2, _⟩ := (HSR.out.kept HW.out (Nat.le_refl _)).get? a hu
        have g1 : w2.drew.cell? ⟨b, o + a * 18 + 1, none⟩ = some (.int .i64 u.num) := hvc2.open.2.1
        have HI := Lib.hid hi
        have HU := Lib.hid hu
        clear hi hu hvc2
        go_upto_region 5 with fail
        refine wp_region_lit ?_
        iterate 9 go_step
        refine wpList_lookup_own_ok_int _ rfl _ _ 58 rfl 9 3 .i64 lawS Try.underlying58 Try.underlying3 (zeroI _) w.heap.size j D rfl HOWN2.out (.string v.name) (.string v.name.data.toList) rfl (keyS HSN.out) ?_
        intro c hat hwc
        rw [HAS.out]
        obtain rfl : c = (a : Int) := by
          rw [HAT.out] at hat
          injection hat with h1
          injection h1 with _ h2
          exact h2.symm
        clear hat hwc
        by_cases hn : u.num < v.num
        · have hn' : decide (u.num < v.num) = true := decide_eq_true hn
          have HNN := Lib.hid hn
          clear hn
          go_wp2
          go_region
          go_upto_region 7 with fail
          refine wp_region_lit ?_
          iterate 12 go_step
          refine wpList_mapUpdate_own _ rfl _ _ _ 58 rfl 9 3 lawS Try.underlying58 _ w.heap.size j D rfl HOWN2.out.drew (by unfold maxLen; omega) (.string v.name) (.int .i64 (j : Int)) (.string v.name.data.toList) rfl rfl (keyS HSN.out) (.lit (.int .i64 (j : Int))) [] (plainElem_int Try.underlying3 (wfI (by omega))) ?_
          intro w3 hown3 hgrow3
          have HM3 := Lib.hid ((mapI_put HF.out HOWN2.out.isMap hown3).congr (best_in HE.out (.inr ⟨a, u, HI.out, HU.out, HNN.out⟩)))
          have HB3 := Lib.hid ((HB.out.trans (HW.out.mono HB.out.size)).drew.grown hgrow3 (Nat.le_trans HB.out.size HW.out.size) (fun k hk => by simp only [Option.some.injEq] at hk; omega))
          clear hown3 hgrow3
          go_wp2
          go_roundw
          case rel => exact ⟨j + 1, by omega, by go_num, HM3.out, HB3.out⟩
          case measure => simp [intOf]; omega
        · have hn' : decide (u.num < v.num) = false := decide_eq_false hn
          have HNN := Lib.hid hn
          clear hn
          have HM3 := Lib.hid ((((HMI.out.kept HW.out (Nat.le_refl _)).kept (Below.refl _ _).drew (Nat.le_refl _)).mono (Nat.le_succ j)).congr (best_out HE.out HI.out HU.out HNN.out))
          go_wp2
          go_region
          go_wp2
          go_roundw
          case rel => exact ⟨j + 1, by omega, by go_num, HM3.out, (HB.out.trans (HW.out.mono HB.out.size)).drew⟩
          case measure => simp [intOf]; omega
    · obtain rfl : j = len := by omega
      have HM := Lib.hid (show MapI wr w.heap.size l.length (lastI l) from by
        have := HMI.out
        unfold lastI
        rw [HLEN.out]
        exact this)
      clear hlt hj
      go_wp2
      go_ret
      exact ⟨_, rfl, Nat.le_refl _, HM.out, HB.out⟩
end Go.Proofs.Ytnfkccohmkfnoaa

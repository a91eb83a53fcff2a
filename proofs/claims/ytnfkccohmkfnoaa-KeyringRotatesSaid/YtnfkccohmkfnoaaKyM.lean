/- Walks: dominolaw30.short, FewKey, dominolaw58.Few, version. -/
import Derived.Test.YtnfkccohmkfnoaaKyL
set_option linter.unusedVariables false
set_option linter.unusedSimpArgs false
namespace Go.Proofs.Ytnfkccohmkfnoaa
open Go.RowKit

/-- No number is longer. -/
def shortB (most : Nat) (l : List ByteArray) : Bool := l.all (fun s => decide (s.size ≤ most))
/-- Sizes are those of strings. -/
def SzL (l : List ByteArray) : Prop := ∀ s ∈ l, s.size ≤ 9223372036854775807
theorem SlN.new (w : World) (l : List ByteArray) (T : TypeId) (hl : l.length ≤ 1000000) : SlN (w.alloc (.cells (l.map Value.string).toArray T)) (some ⟨w.heap.size, 0, none⟩) l.length l.length l := by
  refine ⟨rfl, Nat.le_refl _, by omega, w.heap.size, 0, fun _ => rfl, fun k s hk => ?_⟩
  rw [Lib.cell_of_heap (heap_alloc_new w _)]
  rw [List.getElem?_toArray, List.getElem?_map, Nat.zero_add, hk]
  rfl
set_option maxRecDepth 100000 in
set_option maxHeartbeats 1000000 in
theorem law_short (most : Nat) (l : List ByteArray) (A : Option Addr) (len cap : Nat) (w : World) (hs : SlN w A len cap l) (hz : SzL l) (hm : most ≤ 100) : Calls Try.prog 28 #[.int .i64 most, .slice A len cap] w (Ret (.bool (shortB most l)) w) := by
  have HS := Lib.hid hs
  have HZ := Lib.hid hz
  have HLEN := Lib.hid hs.1
  have hcap := hs.2.1
  have hcap2 := hs.2.2.1
  clear hs hz
  go_enter Try.func28, Try.ntmps28
  go_wp2
  go_loop [5] (fun i => ∃ (j : Nat), j ≤ len ∧ i = .int .i64 j ∧ ∀ s ∈ l.take j, s.size ≤ most) (fun i => len - (intOf i).toNat)
  case atStart => exact ⟨0, Nat.zero_le _, rfl, by simp⟩
  case round =>
    obtain ⟨j, hj, rfl, hall⟩ := hrel
    have HALL := Lib.hid hall
    clear hall
    by_cases hlt : j < len
    · obtain ⟨s, he⟩ : ∃ s, l[j]? = some s := ⟨_, List.getElem?_eq_getElem (by rw [HLEN.out]; exact hlt)⟩
      obtain ⟨b, o, rfl, e1⟩ := HS.out.cell he
      have hsz := HZ.out s (List.mem_of_getElem? he)
      have HE := Lib.hid he
      clear he
      by_cases hss : s.size ≤ most
      · have HA2 := Lib.hid (show ∀ u ∈ l.take (j + 1), u.size ≤ most from fun u hu => by
          rw [List.take_add_one, HE.out, Option.toList_some, List.mem_append, List.mem_singleton] at hu
          rcases hu with hu | rfl
          · exact HALL.out u hu
          · exact hss)
        go_wp2
        go_round
        case rel => exact ⟨j + 1, by omega, by go_num, HA2.out⟩
        case measure => simp [intOf]; omega
      · have HF := Lib.hid (show shortB most l = false from by
          unfold shortB
          rw [List.all_eq_false]
          exact ⟨s, List.mem_of_getElem? HE.out, by simpa using hss⟩)
        go_wp2
        go_ret
        exact ⟨by rw [HF.out]; rfl, Below.refl _ _⟩
    · obtain rfl : j = len := by omega
      have HF := Lib.hid (show shortB most l = true from by
        unfold shortB
        rw [List.all_eq_true]
        intro s hs
        rw [← HLEN.out, List.take_length] at HALL
        exact decide_eq_true (HALL.out s hs))
      clear hlt hj
      go_wp2
      go_ret
      exact ⟨by rw [HF.out]; rfl, Below.refl _ _⟩

/-- The key of a version is small. -/
def fewKeyB (v : Ver) : Bool := shortB 8 [v.km, v.ko] && (shortB 9 [v.kz, v.ks, v.ku, v.kh] && (decide (v.kr.length ≤ 6) && (shortB 9 v.kr && decide (v.kn.size ≤ 60))))
/-- The strings of a key. -/
def Ver.keyStr (v : Ver) : List ByteArray := [v.km, v.ko, v.kz, v.ks, v.ku, v.kh, v.kn] ++ v.kr
set_option maxRecDepth 100000 in
set_option maxHeartbeats 4000000 in
theorem law_FewKey (v : Ver) (A : Option Addr) (n c : Nat) (w : World) (h : SlN w A n c v.kr) (hz : SzL v.keyStr) : Calls Try.prog 16 #[.agg (v.key (.slice A n c))] w (Ret (.bool (fewKeyB v)) w) := by
  obtain ⟨W0, hW0⟩ : ∃ W0, w.alloc (.cells (v.key (.slice A n c)) 32) = W0 := ⟨_, rfl⟩
  have HB0 := Lib.hid (show Below w.heap.size w W0 from by rw [← hW0]; exact (Below.refl _ _).alloc (Nat.le_refl _) _)
  have HX := Lib.hid (show BxC W0 w.heap.size (v.key (.slice A n c)) 32 from by rw [← hW0]; exact BxC.new w _ _)
  have HS := Lib.hid h
  have HZ := Lib.hid hz
  have hlen := h.1
  have hcap := h.2.1
  have hcap2 := h.2.2.1
  have hzn : v.kn.size ≤ 9223372036854775807 := hz _ (by simp [Ver.keyStr])
  have x1 : W0.cell? ⟨w.heap.size, 1, none⟩ = some (.string v.km) := HX.out.cell 1
  have x2 : W0.cell? ⟨w.heap.size, 2, none⟩ = some (.string v.ko) := HX.out.cell 2
  have HW0 := Lib.hid hW0
  have HC := Lib.hid (fun (W : World) (hb : Below w.heap.size w W) => law_short 9 v.kr A n c W (h.kept hb (Nat.le_refl _)) (fun s hs => hz s (by simp [Ver.keyStr, hs])) (by omega))
  obtain ⟨kl, hkl⟩ : ∃ kl, v.kr.length = kl := ⟨_, rfl⟩
  rw [hkl] at hlen
  have HKL := Lib.hid hkl
  have HLN := Lib.hid hlen
  unfold Ver.key at hW0 ⊢
  clear h hz hkl hlen
  go_enter Try.func16, Try.ntmps16
  go_wp2_with fail
  try rw [hW0]
  clear hW0
  refine (law_short 8 [v.km, v.ko] _ 2 2 _ (SlN.new W0 [v.km, v.ko] 27 (by simp)) (fun s hs => HZ.out s (by simp [Ver.keyStr] at hs ⊢; rcases hs with rfl | rfl <;> simp)) (by omega)).mono ?_
  rintro e w1 ⟨rfl, hb1⟩
  have hb1' := ((Below.refl W0.heap.size W0).alloc (Nat.le_refl _) (.cells #[.string v.km, .string v.ko] 27)).trans (hb1.mono (by simp))
  have HX1 := Lib.hid (HX.out.next hb1')
  have HB1 := Lib.hid (HB0.out.trans (hb1'.mono HB0.out.size))
  clear hb1 hb1' x1 x2
  cases r1 : shortB 8 [v.km, v.ko] with
  | false =>
    have HR := Lib.hid (show fewKeyB v = false from by unfold fewKeyB; rw [r1]; rfl)
    clear r1
    go_wp2
    go_ret
    exact ⟨by rw [HR.out]; rfl, HB1.out⟩
  | true =>
    have y2 : w1.cell? ⟨w.heap.size, 3, none⟩ = some (.string v.kz) := HX1.out.cell 3
    have y3 : w1.cell? ⟨w.heap.size, 4, none⟩ = some (.string v.ks) := HX1.out.cell 4
    have y5 : w1.cell? ⟨w.heap.size, 6, none⟩ = some (.string v.ku) := HX1.out.cell 6
    have y6 : w1.cell? ⟨w.heap.size, 7, none⟩ = some (.string v.kh) := HX1.out.cell 7
    have R1 := Lib.hid r1
    clear r1
    go_wp2_with fail
    refine (law_short 9 [v.kz, v.ks, v.ku, v.kh] _ 4 4 _ (SlN.new w1 [v.kz, v.ks, v.ku, v.kh] 27 (by simp)) (fun s hs => HZ.out s (by simp [Ver.keyStr] at hs ⊢; rcases hs with rfl | rfl | rfl | rfl <;> simp)) (by omega)).mono ?_
    rintro e w2 ⟨rfl, hb2⟩
    have hb2' := ((Below.refl w1.heap.size w1).alloc (Nat.le_refl _) (.cells #[.string v.kz, .string v.ks, .string v.ku, .string v.kh] 27)).trans (hb2.mono (by simp))
    have HX2 := Lib.hid (HX1.out.next hb2')
    have HB2 := Lib.hid (HB1.out.trans (hb2'.mono HB1.out.size))
    clear hb2 hb2' y2 y3 y5 y6
    have z4 : w2.cell? ⟨w.heap.size, 5, none⟩ = some (.slice A n c) := HX2.out.cell 5
    have z0 : w2.cell? ⟨w.heap.size, 0, none⟩ = some (.string v.kn) := HX2.out.cell 0
    cases r2 : shortB 9 [v.kz, v.ks, v.ku, v.kh] with
    | false =>
      have HR := Lib.hid (show fewKeyB v = false from by unfold fewKeyB; rw [R1.out, r2]; rfl)
      clear r2
      go_wp2
      go_ret
      exact ⟨by rw [HR.out]; rfl, HB2.out⟩
    | true =>
      have R2 := Lib.hid r2
      clear r2
      by_cases h3 : n ≤ 6
      · have R3 := Lib.hid (show decide (v.kr.length ≤ 6) = true from decide_eq_true (by rw [HKL.out, HLN.out]; exact h3))
        go_wp2_with fail
        refine (HC.out w2 HB2.out).mono ?_
        rintro e w3 ⟨rfl, hb3⟩
        have HX3 := Lib.hid (HX2.out.next hb3)
        have HB3 := Lib.hid (HB2.out.trans (hb3.mono HB2.out.size))
        clear hb3 z4 z0
        have z0 : w3.cell? ⟨w.heap.size, 0, none⟩ = some (.string v.kn) := HX3.out.cell 0
        cases r4 : shortB 9 v.kr with
        | false =>
          have HR := Lib.hid (show fewKeyB v = false from by unfold fewKeyB; rw [R1.out, R2.out, R3.out, r4]; rfl)
          clear r4
          go_wp2
          go_ret
          exact ⟨by rw [HR.out]; rfl, HB3.out⟩
        | true =>
          have R4 := Lib.hid r4
          clear r4
          by_cases h5 : v.kn.size ≤ 60
          · have HR := Lib.hid (show fewKeyB v = true from by unfold fewKeyB; rw [R1.out, R2.out, R3.out, R4.out, decide_eq_true h5]; rfl)
            have hd5 : decide ((v.kn.size : Int) ≤ 60) = true := decide_eq_true (by omega)
            go_wp2
            go_ret
            exact ⟨by rw [HR.out]; rfl, HB3.out⟩
          · have HR := Lib.hid (show fewKeyB v = false from by unfold fewKeyB; rw [R1.out, R2.out, R3.out, R4.out, decide_eq_false h5]; rfl)
            have hd5 : decide ((v.kn.size : Int) ≤ 60) = false := decide_eq_false (by omega)
            go_wp2
            go_ret
            exact ⟨by rw [HR.out]; rfl, HB3.out⟩
      · have HR := Lib.hid (show fewKeyB v = false from by unfold fewKeyB; rw [R1.out, R2.out, decide_eq_false (show ¬ v.kr.length ≤ 6 by rw [HKL.out, HLN.out]; exact h3)]; rfl)
        go_wp2
        go_ret
        exact ⟨by rw [HR.out]; rfl, HB2.out⟩
end Go.Proofs.Ytnfkccohmkfnoaa

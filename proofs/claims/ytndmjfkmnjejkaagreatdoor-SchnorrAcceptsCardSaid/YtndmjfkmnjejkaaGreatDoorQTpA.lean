/- Walk: dominolaw09.Few. -/
import Derived.Test.YtndmjfkmnjejkaaGreatDoorQGst
import Derived.Test.YtndmjfkmnjejkaaGreatDoorQInt
import Derived.Test.YtndmjfkmnjejkaaGreatDoorQRowN
import Derived.Test.YtndmjfkmnjejkaaGreatDoorQScL
import Derived.Test.YtndmjfkmnjejkaaGreatDoorQScJ
import Derived.Test.YtndmjfkmnjejkaaGreatDoorQCoB
import Derived.Test.YtndmjfkmnjejkaaGreatDoorQPeB
import Derived.Test.YtndmjfkmnjejkaaGreatDoorQNum2
import Derived.Great.Walk
set_option linter.unusedVariables false
set_option linter.unusedSimpArgs false
namespace Go.Proofs.YtndmjfkmnjejkaaGreatDoor
open Go.RowKit Go.Shelf
attribute [local go_sem] Oper.semAt_some
def few9 (M O : ByteArray) (l : List ByteArray) : Bool := l.all (fun s => decide (s.size ≤ 20)) && (decide (M.size ≤ 8) && decide (O.size ≤ 10))
theorem few9_big {M O : ByteArray} {l : List ByteArray} {k : Nat} {s : ByteArray} (h : l[k]? = some s) (hb : 20 < s.size) : few9 M O l = false := by
  unfold few9
  have : l.all (fun s => decide (s.size ≤ 20)) = false := by
    rw [List.all_eq_false]
    exact ⟨s, List.mem_of_getElem? h, by simp; omega⟩
  rw [this]; rfl
theorem few9_all {M O : ByteArray} {l : List ByteArray} (h : ∀ k, k < l.length → ∃ s, l[k]? = some s ∧ s.size ≤ 20) : few9 M O l = (decide (M.size ≤ 8) && decide (O.size ≤ 10)) := by
  unfold few9
  have : l.all (fun s => decide (s.size ≤ 20)) = true := by
    rw [List.all_eq_true]
    intro s hs
    obtain ⟨k, hk⟩ := List.mem_iff_getElem?.1 hs
    obtain ⟨s', h1, h2⟩ := h k (List.getElem?_eq_some_iff.1 hk).1
    rw [hk] at h1
    cases h1
    exact decide_eq_true h2
  rw [this]; rfl
theorem few9_of {M O : ByteArray} {l : List ByteArray} (h : few9 M O l = true) : M.size ≤ 8 ∧ O.size ≤ 10 ∧ ∀ s ∈ l, s.size ≤ 20 := by
  unfold few9 at h
  simp only [Bool.and_eq_true, decide_eq_true_eq, List.all_eq_true] at h
  exact ⟨h.2.1, h.2.2, h.1⟩
set_option maxRecDepth 100000 in
set_option maxHeartbeats 1000000 in
theorem law_Few (M O : ByteArray) (l : List ByteArray) (A : Option Addr) (len cap : Nat) (hl : len ≤ 1000) (w : World) (hs : SlN w A len cap l) : Calls Tryz.prog 24 #[gV M O, .slice A len cap] w (Ret (.bool (few9 M O l)) w) := by
  have HX0 := Lib.hid (Bx2.new w (.string M) (.string O) 24)
  have HB0 := Lib.hid ((Below.refl w.heap.size w).alloc (Nat.le_refl _) (.cells #[.string M, .string O] 24))
  have c0 := HX0.out.c0
  have c1 := HX0.out.c1
  have HS := Lib.hid (hs.kept HB0.out (Nat.le_refl _))
  have HLEN := Lib.hid hs.1
  have hcap := hs.2.1
  have hcap2 := hs.2.2.1
  clear hs
  unfold gV
  go_enter Tryz.func24, Tryz.ntmps24
  go_wp2
  go_loop [5] (fun i => ∃ k : Nat, k ≤ len ∧ i = .int .i64 k ∧ ∀ j, j < k → ∃ s, l[j]? = some s ∧ s.size ≤ 20) (fun i => len - (intOf i).toNat)
  case atStart => exact ⟨0, Nat.zero_le _, rfl, fun j h => by omega⟩
  case round =>
    obtain ⟨k, hk, rfl, hall⟩ := hrel
    have HALL := Lib.hid hall
    clear hall
    by_cases hlt : k < len
    · obtain ⟨b, o, rfl⟩ := HS.out.head (by omega)
      obtain ⟨s, he⟩ : ∃ s, l[k]? = some s := ⟨_, List.getElem?_eq_getElem (by rw [HLEN.out]; exact hlt)⟩
      have d0 := HS.out.get? k he
      have HE := Lib.hid he
      clear he
      by_cases h1 : 20 < s.size
      · have HF := Lib.hid (few9_big (M := M) (O := O) HE.out h1)
        have i1 : decide ((20 : Int) < (s.size : Int)) = true := decide_eq_true (by omega)
        go_wp2
        go_ret
        exact ⟨by rw [HF.out]; rfl, HB0.out⟩
      · have i1 : decide ((20 : Int) < (s.size : Int)) = false := decide_eq_false (by omega)
        go_wp2
        go_round
        case rel =>
          refine ⟨k + 1, by omega, by go_num, fun j hj => ?_⟩
          by_cases hjk : j < k
          · exact HALL.out j hjk
          · obtain rfl : j = k := by omega
            exact ⟨s, HE.out, by omega⟩
        case measure => simp [intOf]; omega
    · obtain rfl : k = len := by omega
      have HF := Lib.hid (few9_all (M := M) (O := O) (l := l) (fun j hj => HALL.out j (by have := HLEN.out; omega)))
      by_cases h8 : M.size ≤ 8
      · rw [decide_eq_true h8, Bool.true_and] at HF
        have h8' : (M.size : Int) ≤ 8 := by omega
        by_cases h10 : O.size ≤ 10
        · rw [decide_eq_true h10] at HF
          have h10' : (O.size : Int) ≤ 10 := by omega
          go_wp2
          go_ret
          exact ⟨by rw [HF.out]; rfl, HB0.out⟩
        · rw [decide_eq_false h10] at HF
          have h10' : decide ((O.size : Int) ≤ 10) = false := decide_eq_false (by omega)
          go_wp2
          go_ret
          exact ⟨by rw [HF.out]; rfl, HB0.out⟩
      · rw [decide_eq_false h8, Bool.false_and] at HF
        have h8' : decide ((M.size : Int) ≤ 8) = false := decide_eq_false (by omega)
        go_wp2
        go_ret
        exact ⟨by rw [HF.out]; rfl, HB0.out⟩
end Go.Proofs.YtndmjfkmnjejkaaGreatDoor
/- Walks: dominolaw33.Few, dominolaw33.awake. -/
set_option linter.unusedVariables false
set_option linter.unusedSimpArgs false
namespace Go.Proofs.YtndmjfkmnjejkaaGreatDoor
open Go.RowKit Go.Lib
def few33 (M O G H : ByteArray) (l : List ByteArray) : Bool := few9 M O [G, H] && few9 M O l
theorem few33_of {M O G H : ByteArray} {l : List ByteArray} (h : few33 M O G H l = true) : M.size ≤ 8 ∧ O.size ≤ 10 ∧ G.size ≤ 20 ∧ H.size ≤ 20 ∧ ∀ s ∈ l, s.size ≤ 20 := by
  unfold few33 at h
  rw [Bool.and_eq_true] at h
  obtain ⟨a, b, c⟩ := few9_of h.1
  exact ⟨a, b, c G (by simp), c H (by simp), (few9_of h.2).2.2⟩
set_option maxRecDepth 100000 in
set_option maxHeartbeats 1000000 in
theorem law33_Few (M O G H : ByteArray) (l : List ByteArray) (A : Option Addr) (n cap : Nat) (hn : n ≤ 1000) (w : World) (hsl : SlN w A n cap l) : Calls Tryz.prog 18 #[kV M O G H, .slice A n cap] w (Ret (.bool (few33 M O G H l)) w) := by
  have HK0 := Lib.hid (SB.new w M O G H)
  have HS0 := Lib.hid (hsl.kept ((Below.refl _ _).alloc (Nat.le_refl _) (.cells #[.string M, .string O, .string G, .string H] 46)) (Nat.le_refl _))
  obtain ⟨W0, hW0⟩ : ∃ W, w.alloc (.cells #[.string M, .string O, .string G, .string H] 46) = W := ⟨_, rfl⟩
  rw [hW0] at HK0 HS0
  have hs2 := sln_alloc W0 [G, H] 22 (by simp)
  have hbb := (Below.refl W0.heap.size W0).alloc (Nat.le_refl _) (.cells #[.string G, .string H] 22)
  have HF1 := Lib.hid (law_Few M O [G, H] _ 2 2 (by omega) _ hs2)
  have HK1 := Lib.hid (HK0.out.next hbb)
  have HS1 := Lib.hid (HS0.out.kept hbb (Nat.le_refl _))
  have HLF := Lib.hid (fun w hs => law_Few M O l A n cap hn w hs)
  obtain ⟨c0, c1, c2, c3⟩ := HK0.out.1.cells
  cases h1 : few9 M O [G, H] with
  | false =>
    rw [h1] at HF1
    have HR := Lib.hid (show few33 M O G H l = false from by unfold few33; rw [h1]; rfl)
    rw [HR.out]
    unfold kV gV at *
    clear hsl hn hs2 hbb h1
    go_enter Tryz.func18, Tryz.ntmps18
    go_wp2_with fail
    try rw [hW0]
    clear hW0
    refine HF1.out.mono ?_
    rintro ev w1 ⟨rfl, hb⟩
    have HK2 := Lib.hid (HK1.out.next hb)
    clear hb c0 c1 c2 c3
    go_wp2
    go_ret
    exact ⟨rfl, HK2.out.2⟩
  | true =>
    rw [h1] at HF1
    have HR := Lib.hid (show few33 M O G H l = few9 M O l from by unfold few33; rw [h1]; rfl)
    rw [HR.out]
    unfold kV gV at *
    clear hsl hn hs2 hbb h1
    go_enter Tryz.func18, Tryz.ntmps18
    go_wp2_with fail
    try rw [hW0]
    clear hW0
    refine HF1.out.mono ?_
    rintro ev w1 ⟨rfl, hb⟩
    have HK2 := Lib.hid (HK1.out.next hb)
    have HLL := Lib.hid (HLF.out _ (HS1.out.kept hb (Nat.le_refl _)))
    clear hb c0 c1 c2 c3
    obtain ⟨c0, c1, c2, c3⟩ := HK2.out.1.cells
    go_wp2_with fail
    refine HLL.out.mono ?_
    rintro ev w2 ⟨rfl, hb⟩
    have HK3 := Lib.hid (HK2.out.next hb)
    clear hb c0 c1 c2 c3
    go_wp2
    go_ret
    exact ⟨rfl, HK3.out.2⟩
theorem ex33_mk : mkN ⟨#[23]⟩ ⟨#[11]⟩ ⟨#[4]⟩ [⟨#[2]⟩] ⟨#[]⟩ 0 = (18, 3, 0) := by decide +kernel
theorem ex33_x1 : exK ⟨#[23]⟩ ⟨#[11]⟩ ⟨#[4]⟩ ⟨#[18]⟩ ⟨#[1]⟩ ⟨#[5]⟩ ⟨#[2]⟩ ⟨#[8]⟩ = (⟨#[3]⟩, 0) := by decide +kernel
theorem ex33_x2 : exK ⟨#[23]⟩ ⟨#[11]⟩ ⟨#[4]⟩ ⟨#[18]⟩ ⟨#[1]⟩ ⟨#[5]⟩ ⟨#[2]⟩ ⟨#[7]⟩ = (⟨#[]⟩, 1) := by decide +kernel
theorem ex33_ck : scK ⟨#[23]⟩ ⟨#[11]⟩ ⟨#[4]⟩ ⟨#[18]⟩ = 0 := by decide +kernel
theorem ex33_make (B : Nat) (w : World) (hs : SlN w (some ⟨B, 0, none⟩) 1 1 [⟨#[2]⟩]) : Calls Tryz.prog 26 #[gV ⟨#[23]⟩ ⟨#[11]⟩, .string ⟨#[4]⟩, .agg #[.slice (some ⟨B, 0, none⟩) 1 1, .string ⟨#[]⟩, .int .i64 0]] w (fun en w' => ∃ A c, en = .returned (.tuple #[.agg #[.string ⟨#[23]⟩, .string ⟨#[11]⟩, .string ⟨#[4]⟩, .string ⟨#[18]⟩], .string ⟨#[3]⟩, .agg #[.slice A 1 c, .string ⟨#[]⟩, .int .i64 1], .int .i64 0]) ∧ Below w.heap.size w w') := by
  have h := sc_Make_of ⟨#[23]⟩ ⟨#[11]⟩ ⟨#[4]⟩ [⟨#[2]⟩] ⟨#[]⟩ 0 (some ⟨B, 0, none⟩) 1 1 (by decide) (by decide) (by decide) (by decide) (by decide) w (fun _ W _ hW => co_BelowV [⟨#[2]⟩] ⟨#[]⟩ 0 (num ⟨#[11]⟩ - 1) (some ⟨B, 0, none⟩) 1 1 (by decide) (by decide) (by decide) (by decide +kernel) W hW) hs
  rw [ex33_mk] at h
  refine h.mono ?_
  rintro en w' ⟨A, c, rfl, _, _, hb⟩
  exact ⟨A, c, by rw [show nS ((18, 3, 0) : Nat × Nat × Int).2.1 = ⟨#[3]⟩ from rfl, show mkK ⟨#[23]⟩ ⟨#[11]⟩ ⟨#[4]⟩ (18, 3, 0) = #[.string ⟨#[23]⟩, .string ⟨#[11]⟩, .string ⟨#[4]⟩, .string (nS 18)] from rfl, show nS 18 = ⟨#[18]⟩ from rfl]; rfl, hb⟩
set_option maxRecDepth 100000 in
set_option maxHeartbeats 4000000 in
theorem law33_awake (w : World) : Calls Tryz.prog 19 #[] w (Ret (.bool true) w) := by
  obtain ⟨W0, hW0⟩ : ∃ W, w.alloc (.cells #[.string ⟨#[23]⟩, .string ⟨#[11]⟩] 24) = W := ⟨_, rfl⟩
  have hx0 : Bx2 W0 w.heap.size (.string ⟨#[23]⟩) (.string ⟨#[11]⟩) 24 := hW0 ▸ Bx2.new _ _ _ _
  have hb0 : Below w.heap.size w W0 := hW0 ▸ (Below.refl _ _).alloc (Nat.le_refl _) _
  have hb1 := (Below.refl W0.heap.size W0).alloc (Nat.le_refl _) (.cells #[.string ⟨#[2]⟩] 22)
  have HMK := Lib.hid (ex33_make W0.heap.size _ (sln_alloc W0 [⟨#[2]⟩] 22 (by simp)))
  have HX0 := Lib.hid hx0
  have HX1 := Lib.hid (hx0.next hb1)
  have HB1 := Lib.hid (hb0.trans (hb1.mono hb0.size))
  have c0 := hx0.c0
  have c1 := hx0.c1
  have HE1 := Lib.hid (fun w => sc_Extract ⟨#[23]⟩ ⟨#[11]⟩ ⟨#[4]⟩ ⟨#[18]⟩ ⟨#[1]⟩ ⟨#[5]⟩ ⟨#[2]⟩ ⟨#[8]⟩ (by decide) (by decide) (by decide) (by decide) (by decide) (by decide) (by decide) (by decide) w)
  have HE2 := Lib.hid (fun w => sc_Extract ⟨#[23]⟩ ⟨#[11]⟩ ⟨#[4]⟩ ⟨#[18]⟩ ⟨#[1]⟩ ⟨#[5]⟩ ⟨#[2]⟩ ⟨#[7]⟩ (by decide) (by decide) (by decide) (by decide) (by decide) (by decide) (by decide) (by decide) w)
  have HCK := Lib.hid (fun w => sc_Check ⟨#[23]⟩ ⟨#[11]⟩ ⟨#[4]⟩ ⟨#[18]⟩ (by decide) (by decide) (by decide) (by decide) w)
  rw [ex33_x1] at HE1
  rw [ex33_x2] at HE2
  rw [ex33_ck] at HCK
  unfold kV gV at *
  clear hx0 hb0 hb1
  go_enter Tryz.func19, Tryz.ntmps19
  go_wp2_with fail
  try rw [hW0]
  clear hW0
  refine HMK.out.mono ?_
  rintro ev w2 ⟨A, c, rfl, hb⟩
  have HX2 := Lib.hid (HX1.out.next hb)
  have HB2 := Lib.hid (HB1.out.trans (hb.mono HB1.out.size))
  clear hb c0 c1
  go_upto_region 3 with (fail)
  obtain ⟨P, hP⟩ : ∃ P, w2.heap.size = P := ⟨_, rfl⟩
  have hk3 := (Bx4.new w2 (.string ⟨#[23]⟩) (.string ⟨#[11]⟩) (.string ⟨#[4]⟩) (.string ⟨#[18]⟩) 46).next ((Below.refl _ _).alloc (Nat.le_refl _) (.cells #[.slice A 1 c, .string ⟨#[]⟩, .int .i64 1] 31))
  have ht3 := TB.new (w2.alloc (.cells #[.string ⟨#[23]⟩, .string ⟨#[11]⟩, .string ⟨#[4]⟩, .string ⟨#[18]⟩] 46)) A 1 c ⟨#[]⟩ 1
  have hb3 := ((Below.refl w2.heap.size w2).alloc (Nat.le_refl _) (.cells #[.string ⟨#[23]⟩, .string ⟨#[11]⟩, .string ⟨#[4]⟩, .string ⟨#[18]⟩] 46)).alloc (by simp) (.cells #[.slice A 1 c, .string ⟨#[]⟩, .int .i64 1] 31)
  rw [World.size_alloc] at ht3
  obtain ⟨W3, hW3⟩ : ∃ W, (w2.alloc (.cells #[.string ⟨#[23]⟩, .string ⟨#[11]⟩, .string ⟨#[4]⟩, .string ⟨#[18]⟩] 46)).alloc (.cells #[.slice A 1 c, .string ⟨#[]⟩, .int .i64 1] 31) = W := ⟨_, rfl⟩
  rw [hW3] at hk3 ht3 hb3 ⊢
  have HX3 := Lib.hid (HX2.out.next hb3)
  have HB3 := Lib.hid (HB2.out.trans (hb3.mono HB2.out.size))
  rw [hP] at hk3 ht3 ⊢
  have HK3 := Lib.hid hk3
  have HT3 := Lib.hid ht3
  clear hW3 hk3 ht3 hb3 hP
  obtain ⟨k0, k1, k2, k3⟩ := HK3.out.cells
  go_wp2_with fail
  refine (HE1.out _).mono ?_
  rintro ev w4 ⟨rfl, hb⟩
  have HX4 := Lib.hid (HX3.out.next hb)
  have HB4 := Lib.hid (HB3.out.trans (hb.mono HB3.out.size))
  have HK4 := Lib.hid (HK3.out.next hb)
  have HT4 := Lib.hid (HT3.out.nextT hb)
  clear hb k0 k1 k2 k3
  obtain ⟨k0, k1, k2, k3⟩ := HK4.out.cells
  go_wp2_with fail
  refine (HE2.out _).mono ?_
  rintro ev w5 ⟨rfl, hb⟩
  have HX5 := Lib.hid (HX4.out.next hb)
  have HB5 := Lib.hid (HB4.out.trans (hb.mono HB4.out.size))
  have HK5 := Lib.hid (HK4.out.next hb)
  have HT5 := Lib.hid (HT4.out.nextT hb)
  clear hb k0 k1 k2 k3
  obtain ⟨k0, k1, k2, k3⟩ := HK5.out.cells
  obtain ⟨t0, t1, t2⟩ := HT5.out.c
  have c0 := HX5.out.c0
  have c1 := HX5.out.c1
  go_wp2_with fail
  refine (HCK.out _).mono ?_
  rintro ev w6 ⟨rfl, hb⟩
  have HB6 := Lib.hid (HB5.out.trans (hb.mono HB5.out.size))
  clear hb k0 k1 k2 k3 t0 t1 t2 c0 c1
  go_wp2
  go_ret
  exact ⟨rfl, HB6.out⟩
end Go.Proofs.YtndmjfkmnjejkaaGreatDoor
/- Walks: slices.Equal at lists of numbers; dominolaw11.Few, dominolaw17.SameTape. -/
set_option linter.unusedVariables false
set_option linter.unusedSimpArgs false
namespace Go.Proofs.YtndmjfkmnjejkaaGreatDoor
open Go.RowKit Go.Shelf
attribute [local go_sem] Oper.semAt_some
def fewT (lim sz sd : Nat) (l : List ByteArray) (s : ByteArray) : Bool := (l.take lim).all (fun s => decide (s.size ≤ sz)) && (decide (l.length ≤ lim) && decide (s.size ≤ sd))
theorem fewT_of {lim sz sd : Nat} {l : List ByteArray} {s : ByteArray} (h : fewT lim sz sd l s = true) : l.length ≤ lim ∧ s.size ≤ sd ∧ ∀ x ∈ l, x.size ≤ sz := by
  unfold fewT at h
  simp only [Bool.and_eq_true, decide_eq_true_eq, List.all_eq_true] at h
  rw [List.take_of_length_le h.2.1] at h
  exact ⟨h.2.1, h.2.2, h.1⟩
theorem fewT_big {lim sz sd : Nat} {l : List ByteArray} {s x : ByteArray} {k : Nat} (hx : l[k]? = some x) (hk : k < lim) (hb : sz < x.size) : fewT lim sz sd l s = false := by
  unfold fewT
  have : (l.take lim).all (fun s => decide (s.size ≤ sz)) = false := by
    rw [List.all_eq_false]
    exact ⟨x, List.mem_of_getElem? (i := k) (by rw [List.getElem?_take_of_lt hk]; exact hx), by simp; omega⟩
  rw [this]; rfl
theorem fewT_all {lim sz sd : Nat} {l : List ByteArray} {s : ByteArray} (h : ∀ j, j < l.length → j < lim → ∃ x, l[j]? = some x ∧ x.size ≤ sz) : fewT lim sz sd l s = (decide (l.length ≤ lim) && decide (s.size ≤ sd)) := by
  unfold fewT
  have : (l.take lim).all (fun s => decide (s.size ≤ sz)) = true := by
    rw [List.all_eq_true]
    intro x hx
    obtain ⟨k, hk⟩ := List.mem_iff_getElem?.1 hx
    have h1 := (List.getElem?_eq_some_iff.1 hk).1
    rw [List.length_take] at h1
    have hkl : k < lim := by omega
    rw [List.getElem?_take_of_lt hkl] at hk
    obtain ⟨x', h2, h3⟩ := h k (by omega) hkl
    rw [hk] at h2
    cases h2
    exact decide_eq_true h3
  rw [this]; rfl
def few11 (l : List ByteArray) (s : ByteArray) (k : Int) : Bool := fewT 80 16 40 l s && decide (k < 1000)
set_option maxRecDepth 100000 in
set_option maxHeartbeats 2000000 in
theorem law11_Few (l : List ByteArray) (s : ByteArray) (k : Int) (A : Option Addr) (n cap : Nat) (w : World) (hs : SlN w A n cap l) : Calls Tryz.prog 25 #[tpV A n cap s k] w (Ret (.bool (few11 l s k)) w) := by
  have HT := Lib.hid (TB.new w A n cap s k)
  have HB0 := Lib.hid ((Below.refl w.heap.size w).alloc (Nat.le_refl _) (.cells #[.slice A n cap, .string s, .int .i64 k] 31))
  obtain ⟨c0, c1, c2⟩ := HT.out.c
  have HS := Lib.hid (hs.kept HB0.out (Nat.le_refl _))
  have HLEN := Lib.hid hs.1
  have hcap := hs.2.1
  have hcap2 := hs.2.2.1
  have HR := Lib.hid (show few11 l s k = (fewT 80 16 40 l s && decide (k < 1000)) from rfl)
  clear hs
  unfold tpV
  go_enter Tryz.func25, Tryz.ntmps25
  go_wp2
  go_loop [3] (fun i => ∃ q : Nat, q ≤ n ∧ q ≤ 80 ∧ i = .int .i64 q ∧ ∀ j, j < q → ∃ x, l[j]? = some x ∧ x.size ≤ 16) (fun i => 80 - (intOf i).toNat)
  case atStart => exact ⟨0, Nat.zero_le _, Nat.zero_le _, rfl, fun j h => by omega⟩
  case round =>
    obtain ⟨q, hq, hq8, rfl, hall⟩ := hrel
    have HALL := Lib.hid hall
    clear hall
    by_cases hin : q < n ∧ q < 80
    · obtain ⟨hlt, hl8⟩ := hin
      obtain ⟨b, o, rfl⟩ := HS.out.head (by omega)
      obtain ⟨x, he⟩ : ∃ s, l[q]? = some s := ⟨_, List.getElem?_eq_getElem (by rw [HLEN.out]; exact hlt)⟩
      have d0 := HS.out.get? q he
      have HE := Lib.hid he
      have hqi : (q : Int) < (n : Int) := by omega
      have hq8i : (q : Int) < 80 := by omega
      have HQ8 := Lib.hid hl8
      have HQN := Lib.hid hlt
      clear he hq hq8 hlt hl8
      by_cases h1 : 16 < x.size
      · have HF := Lib.hid (fewT_big (sd := 40) (s := s) HE.out HQ8.out h1)
        have i1 : decide ((16 : Int) < (x.size : Int)) = true := decide_eq_true (by omega)
        go_wp2
        go_ret
        exact ⟨by rw [HR.out, HF.out]; rfl, HB0.out⟩
      · have i1 : decide ((16 : Int) < (x.size : Int)) = false := decide_eq_false (by omega)
        have H1 := Lib.hid h1
        clear h1
        go_wp2
        go_round
        case rel =>
          refine ⟨q + 1, HQN.out, HQ8.out, by go_num, fun j hj => ?_⟩
          by_cases hjk : j < q
          · exact HALL.out j hjk
          · obtain rfl : j = q := by omega
            exact ⟨x, HE.out, by have := H1.out; omega⟩
        case measure => have := HQ8.out; simp [intOf]; omega
    · have HF := Lib.hid (fewT_all (lim := 80) (sz := 16) (sd := 40) (s := s) (l := l) (fun j hj hj8 => HALL.out j (by have := HLEN.out; omega)))
      have hc : decide ((q : Int) < (n : Int)) = true → decide ((q : Int) < 80) = false := fun h => decide_eq_false (by have := of_decide_eq_true h; omega)
      have hR : few11 l s k = (decide (n ≤ 80) && decide (s.size ≤ 40) && decide (k < 1000)) := by rw [HR.out, HF.out, HLEN.out]
      have HR2 := Lib.hid hR
      have HQ9 := Lib.hid (show q < n → q = 80 from fun h => by omega)
      clear hR hin hq8 HF HR
      by_cases hqn : q < n
      · obtain rfl := HQ9.out hqn
        have e1 : ((80 : Nat) : Int) < (n : Int) := by omega
        have e2 : decide ((n : Int) ≤ 80) = false := decide_eq_false (by omega)
        have HZ := Lib.hid (show few11 l s k = false from by rw [HR2.out, decide_eq_false (by omega : ¬ n ≤ 80)]; rfl)
        clear hq hqn hc
        go_wp2
        go_ret
        exact ⟨by rw [HZ.out]; rfl, HB0.out⟩
      · have e1 : ¬ ((q : Int) < (n : Int)) := by omega
        clear hq hc
        by_cases h8 : n ≤ 80
        · have e2 : decide ((n : Int) ≤ 80) = true := decide_eq_true (by omega)
          by_cases h4 : s.size ≤ 40
          · have e3 : decide ((s.size : Int) ≤ 40) = true := decide_eq_true (by omega)
            have HZ := Lib.hid (show few11 l s k = decide (k < 1000) from by rw [HR2.out, decide_eq_true h8, decide_eq_true h4]; rfl)
            clear h8 h4
            go_wp2
            go_ret
            exact ⟨by rw [HZ.out]; rfl, HB0.out⟩
          · have e3 : decide ((s.size : Int) ≤ 40) = false := decide_eq_false (by omega)
            have HZ := Lib.hid (show few11 l s k = false from by rw [HR2.out, decide_eq_true h8, decide_eq_false h4]; rfl)
            clear h8 h4
            go_wp2
            go_ret
            exact ⟨by rw [HZ.out]; rfl, HB0.out⟩
        · have e2 : decide ((n : Int) ≤ 80) = false := decide_eq_false (by omega)
          have HZ := Lib.hid (show few11 l s k = false from by rw [HR2.out, decide_eq_false h8]; rfl)
          clear h8
          go_wp2
          go_ret
          exact ⟨by rw [HZ.out]; rfl, HB0.out⟩
end Go.Proofs.YtndmjfkmnjejkaaGreatDoor

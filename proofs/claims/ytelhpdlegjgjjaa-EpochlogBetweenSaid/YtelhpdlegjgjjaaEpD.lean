/- Walks: slices.Index, Contains, IndexFunc, ContainsFunc at numbers; dominoref37.has; the closures of epochlog.form. -/
import Derived.Test.YtelhpdlegjgjjaaEpC
set_option linter.unusedVariables false
set_option linter.unusedSimpArgs false
namespace Go.Proofs.Ytelhpdlegjgjjaa
open Go.RowKit

/-- Whether a list has a number. -/
def memB (l : List ByteArray) (x : ByteArray) : Bool := l.any (fun y => x.toList == y.toList)
theorem any_take {l : List ByteArray} {p : ByteArray → Bool} (h : ∀ (i : Nat) y, l[i]? = some y → p y = false) : l.any p = false := by
  rw [List.any_eq_false]
  intro y hy
  obtain ⟨i, hi⟩ := List.getElem?_of_mem hy
  simp [h i y hi]
theorem any_at {l : List ByteArray} {p : ByteArray → Bool} {i : Nat} {y : ByteArray} (hi : l[i]? = some y) (h : p y = true) : l.any p = true := by
  rw [List.any_eq_true]
  exact ⟨y, List.mem_of_getElem? hi, h⟩
/-- The call returned a place: whether it is one tells whether there is one. -/
def RetK (b : Bool) (w : World) (e : Ending) (w' : World) : Prop := ∃ k : Int, e = .returned (.int .i64 k) ∧ decide (0 ≤ k) = b ∧ Below w.heap.size w w'
set_option maxRecDepth 100000 in
set_option maxHeartbeats 1000000 in
theorem sl_Index (l : List ByteArray) (A : Option Addr) (len cap : Nat) (x : ByteArray) (w : World) (hs : SlN w A len cap l) : Calls Try.prog 69 #[.slice A len cap, .string x] w (RetK (memB l x) w) := by
  have HS := Lib.hid hs
  have HLEN := Lib.hid hs.1
  have hcap := hs.2.1
  have hcap2 := hs.2.2.1
  clear hs
  go_enter Try.func69, Try.ntmps69
  go_wp2
  go_loop [8] (fun k => ∃ j : Nat, j ≤ len ∧ k = .int .i64 j ∧ (∀ (i : Nat) y, i < j → l[i]? = some y → (x.toList == y.toList) = false)) (fun k => len - (intOf k).toNat)
  case atStart => exact ⟨0, Nat.zero_le _, rfl, fun i u h => absurd h (Nat.not_lt_zero _)⟩
  case round =>
    obtain ⟨j, hj, rfl, hall⟩ := hrel
    have HALL := Lib.hid hall
    clear hall
    by_cases hlt : j < len
    · obtain ⟨y, he⟩ : ∃ y, l[j]? = some y := ⟨_, List.getElem?_eq_getElem (by rw [HLEN.out]; exact hlt)⟩
      obtain ⟨b, o, rfl, e1⟩ := HS.out.cell he
      have HE := Lib.hid he
      clear he
      cases hh : (x.toList == y.toList) with
      | true =>
        have HM := Lib.hid (any_at (p := fun y => x.toList == y.toList) HE.out hh)
        go_wp2
        go_ret
        exact ⟨j, rfl, by unfold memB; rw [HM.out]; exact decide_eq_true (by omega), Below.refl _ _⟩
      | false =>
        have HA2 := Lib.hid (show ∀ (i : Nat) y, i < j + 1 → l[i]? = some y → (fun y => x.toList == y.toList) y = false from fun i u hi hu => by
          rcases Nat.lt_or_ge i j with a | a
          · exact HALL.out i u a hu
          · obtain rfl : i = j := by omega
            rw [HE.out] at hu
            cases hu
            exact hh)
        go_wp2
        go_round
        case rel => exact ⟨j + 1, by omega, by go_num, HA2.out⟩
        case measure => simp [intOf]; omega
    · obtain rfl : j = len := by omega
      have HM := Lib.hid (show memB l x = false from any_take (fun i y h => HALL.out i y (by have := (List.getElem?_eq_some_iff.1 h).1; have := HLEN.out; omega) h))
      clear hlt hj
      go_wp2
      go_ret
      exact ⟨-1, rfl, by rw [HM.out]; rfl, Below.refl _ _⟩
theorem sl_Contains (l : List ByteArray) (A : Option Addr) (len cap : Nat) (x : ByteArray) (w : World) (hs : SlN w A len cap l) : Calls Try.prog 47 #[.slice A len cap, .string x] w (Ret (.bool (memB l x)) w) := by
  have HC := Lib.hid (sl_Index l A len cap x w hs)
  clear hs
  go_enter Try.func47, Try.ntmps47
  go_wp2_with fail
  refine HC.out.mono ?_
  rintro e w1 ⟨k, rfl, hk, hb⟩
  have HK := Lib.hid hk
  have HB := Lib.hid hb
  clear hk hb
  go_wp2
  go_ret
  exact ⟨by rw [← HK.out]; rfl, HB.out⟩
set_option maxRecDepth 100000 in
set_option maxHeartbeats 1000000 in
theorem r37_has (l : List ByteArray) (A : Option Addr) (len cap : Nat) (x : ByteArray) (w : World) (hs : SlN w A len cap l) : Calls Try.prog 37 #[.slice A len cap, .string x] w (Ret (.bool (memB l x)) w) := by
  have HS := Lib.hid hs
  have HLEN := Lib.hid hs.1
  have hcap := hs.2.1
  have hcap2 := hs.2.2.1
  clear hs
  go_enter Try.func37, Try.ntmps37
  go_wp2
  go_loop [5] (fun k => ∃ j : Nat, j ≤ len ∧ k = .int .i64 j ∧ (∀ (i : Nat) y, i < j → l[i]? = some y → (x.toList == y.toList) = false)) (fun k => len - (intOf k).toNat)
  case atStart => exact ⟨0, Nat.zero_le _, rfl, fun i u h => absurd h (Nat.not_lt_zero _)⟩
  case round =>
    obtain ⟨j, hj, rfl, hall⟩ := hrel
    have HALL := Lib.hid hall
    clear hall
    by_cases hlt : j < len
    · obtain ⟨y, he⟩ : ∃ y, l[j]? = some y := ⟨_, List.getElem?_eq_getElem (by rw [HLEN.out]; exact hlt)⟩
      obtain ⟨b, o, rfl, e1⟩ := HS.out.cell he
      have HE := Lib.hid he
      clear he
      cases hh : (x.toList == y.toList) with
      | true =>
        have hh2 : (y.toList == x.toList) = true := by rw [beq_iff_eq] at hh ⊢; exact hh.symm
        have HM := Lib.hid (any_at (p := fun y => x.toList == y.toList) HE.out hh)
        clear hh
        go_wp2
        go_ret
        exact ⟨by unfold memB; rw [HM.out]; rfl, Below.refl _ _⟩
      | false =>
        have hh2 : (y.toList == x.toList) = false := by rw [beq_eq_false_iff_ne] at hh ⊢; exact fun h => hh h.symm
        have HA2 := Lib.hid (show ∀ (i : Nat) y, i < j + 1 → l[i]? = some y → (fun y => x.toList == y.toList) y = false from fun i u hi hu => by
          rcases Nat.lt_or_ge i j with a | a
          · exact HALL.out i u a hu
          · obtain rfl : i = j := by omega
            rw [HE.out] at hu
            cases hu
            exact hh)
        clear hh
        go_wp2
        go_round
        case rel => exact ⟨j + 1, by omega, by go_num, HA2.out⟩
        case measure => simp [intOf]; omega
    · obtain rfl : j = len := by omega
      have HM := Lib.hid (show memB l x = false from any_take (fun i y h => HALL.out i y (by have := (List.getElem?_eq_some_iff.1 h).1; have := HLEN.out; omega) h))
      clear hlt hj
      go_wp2
      go_ret
      exact ⟨by rw [HM.out]; rfl, Below.refl _ _⟩
set_option maxRecDepth 100000 in
set_option maxHeartbeats 1000000 in
theorem sl_IndexFunc1 (l : List ByteArray) (A : Option Addr) (len cap B : Nat) (p : ByteArray → Bool) (w : World) (hs : SlN w A len cap l) (hp : ∀ x ∈ l, ∀ W, Below w.heap.size w W → Calls Try.prog 46 #[.string x, .pointer (some ⟨B, 0, none⟩)] W (Ret (.bool (p x)) W)) :
    Calls Try.prog 68 #[.slice A len cap, .func (.func 46) #[] #[.pointer (some ⟨B, 0, none⟩)]] w (RetK (l.any p) w) := by
  have HS := Lib.hid hs
  have HP := Lib.hid hp
  have HLEN := Lib.hid hs.1
  have hcap := hs.2.1
  have hcap2 := hs.2.2.1
  clear hs hp
  go_enter Try.func68, Try.ntmps68
  go_wp2
  go_loopw [8] (fun k wr => ∃ j : Nat, j ≤ len ∧ k = .int .i64 j ∧ (∀ (i : Nat) y, i < j → l[i]? = some y → p y = false) ∧ Below w.heap.size w wr) (fun k _ => len - (intOf k).toNat)
  case atStart => exact ⟨0, Nat.zero_le _, rfl, fun i u h => absurd h (Nat.not_lt_zero _), Below.refl _ _⟩
  case round =>
    obtain ⟨j, hj, rfl, hall, hB⟩ := hrel
    have HALL := Lib.hid hall
    have HB := Lib.hid hB
    clear hall hB
    by_cases hlt : j < len
    · obtain ⟨y, he⟩ : ∃ y, l[j]? = some y := ⟨_, List.getElem?_eq_getElem (by rw [HLEN.out]; exact hlt)⟩
      obtain ⟨b, o, rfl, e0⟩ := HS.out.cell he
      have e1 := cell_kept HB.out (Nat.le_refl _) e0
      have HC := Lib.hid (HP.out y (List.mem_of_getElem? he) wr HB.out)
      have HE := Lib.hid he
      clear he e0
      go_wp2_with fail
      refine HC.out.mono ?_
      rintro e w1 ⟨rfl, hb1⟩
      have HB1 := Lib.hid (HB.out.trans (hb1.mono HB.out.size))
      clear hb1
      cases hh : p y with
      | true =>
        have HM := Lib.hid (any_at HE.out hh)
        clear hh
        go_wp2
        go_ret
        exact ⟨j, rfl, by rw [HM.out]; exact decide_eq_true (by omega), HB1.out⟩
      | false =>
        have HA2 := Lib.hid (show ∀ (i : Nat) y, i < j + 1 → l[i]? = some y → p y = false from fun i u hi hu => by
          rcases Nat.lt_or_ge i j with a | a
          · exact HALL.out i u a hu
          · obtain rfl : i = j := by omega
            rw [HE.out] at hu
            cases hu
            exact hh)
        clear hh
        go_wp2
        go_roundw
        case rel => exact ⟨j + 1, by omega, by go_num, HA2.out, HB1.out⟩
        case measure => simp [intOf]; omega
    · obtain rfl : j = len := by omega
      have HM := Lib.hid (show l.any p = false from any_take (fun i y h => HALL.out i y (by have := (List.getElem?_eq_some_iff.1 h).1; have := HLEN.out; omega) h))
      clear hlt hj
      go_wp2
      go_ret
      exact ⟨-1, rfl, by rw [HM.out]; rfl, HB.out⟩
theorem sl_ContainsFunc1 (l : List ByteArray) (A : Option Addr) (len cap B : Nat) (p : ByteArray → Bool) (w : World) (hs : SlN w A len cap l) (hp : ∀ x ∈ l, ∀ W, Below w.heap.size w W → Calls Try.prog 46 #[.string x, .pointer (some ⟨B, 0, none⟩)] W (Ret (.bool (p x)) W)) :
    Calls Try.prog 45 #[.slice A len cap, .func (.func 46) #[] #[.pointer (some ⟨B, 0, none⟩)]] w (Ret (.bool (l.any p)) w) := by
  have HC := Lib.hid (sl_IndexFunc1 l A len cap B p w hs hp)
  clear hs hp
  go_enter Try.func45, Try.ntmps45
  go_wp2_with fail
  refine HC.out.mono ?_
  rintro e w1 ⟨k, rfl, hk, hb⟩
  have HK := Lib.hid hk
  have HB := Lib.hid hb
  clear hk hb
  go_wp2
  go_ret
  exact ⟨by rw [← HK.out]; rfl, HB.out⟩
set_option maxRecDepth 100000 in
set_option maxHeartbeats 1000000 in
theorem sl_IndexFunc2 (l : List ByteArray) (A : Option Addr) (len cap B : Nat) (p : ByteArray → Bool) (w : World) (hs : SlN w A len cap l) (hp : ∀ x ∈ l, ∀ W, Below w.heap.size w W → Calls Try.prog 48 #[.string x, .pointer (some ⟨B, 0, none⟩)] W (Ret (.bool (p x)) W)) :
    Calls Try.prog 68 #[.slice A len cap, .func (.func 48) #[] #[.pointer (some ⟨B, 0, none⟩)]] w (RetK (l.any p) w) := by
  have HS := Lib.hid hs
  have HP := Lib.hid hp
  have HLEN := Lib.hid hs.1
  have hcap := hs.2.1
  have hcap2 := hs.2.2.1
  clear hs hp
  go_enter Try.func68, Try.ntmps68
  go_wp2
  go_loopw [8] (fun k wr => ∃ j : Nat, j ≤ len ∧ k = .int .i64 j ∧ (∀ (i : Nat) y, i < j → l[i]? = some y → p y = false) ∧ Below w.heap.size w wr) (fun k _ => len - (intOf k).toNat)
  case atStart => exact ⟨0, Nat.zero_le _, rfl, fun i u h => absurd h (Nat.not_lt_zero _), Below.refl _ _⟩
  case round =>
    obtain ⟨j, hj, rfl, hall, hB⟩ := hrel
    have HALL := Lib.hid hall
    have HB := Lib.hid hB
    clear hall hB
    by_cases hlt : j < len
    · obtain ⟨y, he⟩ : ∃ y, l[j]? = some y := ⟨_, List.getElem?_eq_getElem (by rw [HLEN.out]; exact hlt)⟩
      obtain ⟨b, o, rfl, e0⟩ := HS.out.cell he
      have e1 := cell_kept HB.out (Nat.le_refl _) e0
      have HC := Lib.hid (HP.out y (List.mem_of_getElem? he) wr HB.out)
      have HE := Lib.hid he
      clear he e0
      go_wp2_with fail
      refine HC.out.mono ?_
      rintro e w1 ⟨rfl, hb1⟩
      have HB1 := Lib.hid (HB.out.trans (hb1.mono HB.out.size))
      clear hb1
      cases hh : p y with
      | true =>
        have HM := Lib.hid (any_at HE.out hh)
        clear hh
        go_wp2
        go_ret
        exact ⟨j, rfl, by rw [HM.out]; exact decide_eq_true (by omega), HB1.out⟩
      | false =>
        have HA2 := Lib.hid (show ∀ (i : Nat) y, i < j + 1 → l[i]? = some y → p y = false from fun i u hi hu => by
          rcases Nat.lt_or_ge i j with a | a
          · exact HALL.out i u a hu
          · obtain rfl : i = j := by omega
            rw [HE.out] at hu
            cases hu
            exact hh)
        clear hh
        go_wp2
        go_roundw
        case rel => exact ⟨j + 1, by omega, by go_num, HA2.out, HB1.out⟩
        case measure => simp [intOf]; omega
    · obtain rfl : j = len := by omega
      have HM := Lib.hid (show l.any p = false from any_take (fun i y h => HALL.out i y (by have := (List.getElem?_eq_some_iff.1 h).1; have := HLEN.out; omega) h))
      clear hlt hj
      go_wp2
      go_ret
      exact ⟨-1, rfl, by rw [HM.out]; rfl, HB.out⟩
theorem sl_ContainsFunc2 (l : List ByteArray) (A : Option Addr) (len cap B : Nat) (p : ByteArray → Bool) (w : World) (hs : SlN w A len cap l) (hp : ∀ x ∈ l, ∀ W, Below w.heap.size w W → Calls Try.prog 48 #[.string x, .pointer (some ⟨B, 0, none⟩)] W (Ret (.bool (p x)) W)) :
    Calls Try.prog 45 #[.slice A len cap, .func (.func 48) #[] #[.pointer (some ⟨B, 0, none⟩)]] w (Ret (.bool (l.any p)) w) := by
  have HC := Lib.hid (sl_IndexFunc2 l A len cap B p w hs hp)
  clear hs hp
  go_enter Try.func45, Try.ntmps45
  go_wp2_with fail
  refine HC.out.mono ?_
  rintro e w1 ⟨k, rfl, hk, hb⟩
  have HK := Lib.hid hk
  have HB := Lib.hid hb
  clear hk hb
  go_wp2
  go_ret
  exact ⟨by rw [← HK.out]; rfl, HB.out⟩
theorem ep_form1 (x : ByteArray) (B : Nat) (l : List ByteArray) (A : Option Addr) (n c : Nat) (w : World) (hB : w.cell? ⟨B, 3, none⟩ = some (.slice A n c)) (hs : SlN w A n c l) : Calls Try.prog 46 #[.string x, .pointer (some ⟨B, 0, none⟩)] w (Ret (.bool (memB l x)) w) := by
  have HC := Lib.hid (sl_Contains l A n c x w hs)
  clear hs
  go_enter Try.func46, Try.ntmps46
  go_wp2_with fail
  refine HC.out.mono ?_
  rintro e w1 ⟨rfl, hb⟩
  have HB := Lib.hid hb
  clear hb hB
  go_wp2
  go_ret
  exact ⟨rfl, HB.out⟩
theorem ep_form2 (x : ByteArray) (B : Nat) (t : ByteArray) (w : World) (hB : w.cell? ⟨B, 0, none⟩ = some (.string t)) (hx : nvalid x = true) (ht : nvalid t = true) : Calls Try.prog 48 #[.string x, .pointer (some ⟨B, 0, none⟩)] w (Ret (.bool (decide (num x < num t))) w) := by
  have HC := Lib.hid (nat_Cmp x t (by have := size_valid hx; omega) (by have := size_valid ht; omega) w)
  rw [ncmp_num hx ht] at HC
  have HD := Lib.hid (show decide (cmpI (num x) (num t) < 0) = decide (num x < num t) from decide_eq_decide.2 cmpI_neg)
  obtain ⟨cc, hcc⟩ : ∃ cc, cmpI (num x) (num t) = cc := ⟨_, rfl⟩
  rw [hcc] at HC HD
  clear hcc hx ht
  go_enter Try.func48, Try.ntmps48
  go_wp2_with fail
  refine HC.out.mono ?_
  rintro e w1 ⟨rfl, rfl⟩
  go_wp2
  go_ret
  exact ⟨by rw [← HD.out]; rfl, Below.refl _ _⟩
end Go.Proofs.Ytelhpdlegjgjjaa

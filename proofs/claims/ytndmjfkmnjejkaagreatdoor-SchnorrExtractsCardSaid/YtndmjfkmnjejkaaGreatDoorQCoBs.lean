/- Walks: slices.IndexFunc and ContainsFunc at coins.good's closure, coins.good, coins.ready; schnorr.goodTape. -/
import Derived.Test.YtndmjfkmnjejkaaGreatDoorQCoA
import Derived.Test.YtndmjfkmnjejkaaGreatDoorQNatA
import Derived.Test.YtndmjfkmnjejkaaGreatDoorQInB
import Derived.Test.YtndmjfkmnjejkaaGreatDoorQScA
set_option linter.unusedVariables false
set_option linter.unusedSimpArgs false
namespace Go.Proofs.YtndmjfkmnjejkaaGreatDoor
open Go.RowKit
theorem any_takeC {l : List ByteArray} {p : ByteArray → Bool} (h : ∀ (i : Nat) y, l[i]? = some y → p y = false) : l.any p = false := by
  rw [List.any_eq_false]
  intro y hy
  obtain ⟨i, hi⟩ := List.getElem?_of_mem hy
  simp [h i y hi]
theorem any_atC {l : List ByteArray} {p : ByteArray → Bool} {i : Nat} {y : ByteArray} (hi : l[i]? = some y) (h : p y = true) : l.any p = true := by
  rw [List.any_eq_true]
  exact ⟨y, List.mem_of_getElem? hi, h⟩
def RetKC (b : Bool) (w : World) (e : Ending) (w' : World) : Prop := ∃ k : Int, e = .returned (.int .i64 k) ∧ decide (0 ≤ k) = b ∧ w = w'
def nonv (x : ByteArray) : Bool := !(nvalid x)
theorem co_good1 (x : ByteArray) (hx : x.size ≤ 9223372036854775807) (w : World) : Calls Tryz.prog 190 #[.string x] w (RetQ (.bool (nonv x)) w) := by
  have HV := Lib.hid (nat_Valid x hx w)
  unfold nonv
  obtain ⟨b, hb⟩ : ∃ b, nvalid x = b := ⟨_, rfl⟩
  rw [hb] at HV ⊢
  clear hx hb
  go_enter Tryz.func190, Tryz.ntmps190
  go_wp2_with fail
  refine HV.out.mono ?_
  rintro e w1 ⟨rfl, rfl⟩
  go_wp2
  go_ret
  exact ⟨rfl, rfl⟩
set_option maxRecDepth 100000 in
set_option maxHeartbeats 1000000 in
theorem sl_IndexFuncC (l : List ByteArray) (A : Option Addr) (len cap : Nat) (w : World) (hs : SlN w A len cap l) (hp : ∀ x ∈ l, x.size ≤ 9223372036854775807) :
    Calls Tryz.prog 219 #[.slice A len cap, .func (.func 190) #[] #[]] w (RetKC (l.any nonv) w) := by
  have HS := Lib.hid hs
  have HP := Lib.hid hp
  have HLEN := Lib.hid hs.1
  have hcap := hs.2.1
  have hcap2 := hs.2.2.1
  clear hs hp
  go_enter Tryz.func219, Tryz.ntmps219
  go_wp2
  go_loopw [8] (fun k wr => ∃ j : Nat, j ≤ len ∧ k = .int .i64 j ∧ (∀ (i : Nat) y, i < j → l[i]? = some y → nonv y = false) ∧ wr = w) (fun k _ => len - (intOf k).toNat)
  case atStart => exact ⟨0, Nat.zero_le _, rfl, fun i u h => absurd h (Nat.not_lt_zero _), rfl⟩
  case round =>
    obtain ⟨j, hj, rfl, hall, rfl⟩ := hrel
    have HALL := Lib.hid hall
    clear hall
    by_cases hlt : j < len
    · obtain ⟨y, he⟩ : ∃ y, l[j]? = some y := ⟨_, List.getElem?_eq_getElem (by rw [HLEN.out]; exact hlt)⟩
      obtain ⟨b, o, rfl⟩ := HS.out.head (by omega)
      have e1 := HS.out.get? j he
      have HC := Lib.hid (co_good1 y (HP.out y (List.mem_of_getElem? he)) wr)
      have HE := Lib.hid he
      clear he
      go_wp2_with fail
      refine HC.out.mono ?_
      rintro e w1 ⟨rfl, rfl⟩
      cases hh : nonv y with
      | true =>
        have HM := Lib.hid (any_atC HE.out hh)
        clear hh
        go_wp2
        go_ret
        exact ⟨j, rfl, by rw [HM.out]; exact decide_eq_true (by omega), rfl⟩
      | false =>
        have HA2 := Lib.hid (show ∀ (i : Nat) y, i < j + 1 → l[i]? = some y → nonv y = false from fun i u hi hu => by
          rcases Nat.lt_or_ge i j with a | a
          · exact HALL.out i u a hu
          · obtain rfl : i = j := by omega
            rw [HE.out] at hu
            cases hu
            exact hh)
        clear hh
        go_wp2
        go_roundw
        case rel => exact ⟨j + 1, by omega, by go_num, HA2.out, trivial⟩
        case measure => simp [intOf]; omega
    · obtain rfl : j = len := by omega
      have HM := Lib.hid (show l.any nonv = false from any_takeC (fun i y h => HALL.out i y (by have := (List.getElem?_eq_some_iff.1 h).1; have := HLEN.out; omega) h))
      clear hlt hj
      go_wp2
      go_ret
      exact ⟨-1, rfl, by rw [HM.out]; rfl, rfl⟩
theorem sl_ContainsFuncC (l : List ByteArray) (A : Option Addr) (len cap : Nat) (w : World) (hs : SlN w A len cap l) (hp : ∀ x ∈ l, x.size ≤ 9223372036854775807) :
    Calls Tryz.prog 189 #[.slice A len cap, .func (.func 190) #[] #[]] w (RetQ (.bool (l.any nonv)) w) := by
  have HC := Lib.hid (sl_IndexFuncC l A len cap w hs hp)
  clear hs hp
  go_enter Tryz.func189, Tryz.ntmps189
  go_wp2_with fail
  refine HC.out.mono ?_
  rintro e w1 ⟨k, rfl, hk, rfl⟩
  have HK := Lib.hid hk
  clear hk
  go_wp2
  go_ret
  exact ⟨by rw [← HK.out]; rfl, rfl⟩
theorem any_nonv (l : List ByteArray) : l.any nonv = !(l.all nvalid) := by
  unfold nonv
  rw [List.not_all_eq_any_not]
def tpV (A : Option Addr) (n c : Nat) (s : ByteArray) (at_ : Int) : Value := .agg #[.slice A n c, .string s, .int .i64 at_]
def tpC (A : Option Addr) (n c : Nat) (s : ByteArray) (at_ : Int) : Array Value := #[.slice A n c, .string s, .int .i64 at_]
def TB (W : World) (B : Nat) (A : Option Addr) (n c : Nat) (s : ByteArray) (at_ : Int) : Prop := W.heap[B]? = some (.cells (tpC A n c s at_) 31 (0, 0))
theorem TB.new (w : World) (A : Option Addr) (n c : Nat) (s : ByteArray) (at_ : Int) : TB (w.alloc (.cells #[.slice A n c, .string s, .int .i64 at_] 31)) w.heap.size A n c s at_ := heap_alloc_new _ _
theorem TB.nextT {W W' : World} {B : Nat} {A : Option Addr} {n c : Nat} {s : ByteArray} {at_ : Int} (h : TB W B A n c s at_) (hb : Below W.heap.size W W') : TB W' B A n c s at_ := (hb.block _ (block_lt h)).trans h
theorem TB.c {W : World} {B : Nat} {A : Option Addr} {n c : Nat} {s : ByteArray} {at_ : Int} (h : TB W B A n c s at_) : W.cell? ⟨B, 0, none⟩ = some (.slice A n c) ∧ W.cell? ⟨B, 1, none⟩ = some (.string s) ∧ W.cell? ⟨B, 2, none⟩ = some (.int .i64 at_) := by
  refine ⟨?_, ?_, ?_⟩ <;> rw [Lib.cell_of_heap h] <;> rfl
theorem TB.f {W : World} {B : Nat} {A : Option Addr} {n c : Nat} {s : ByteArray} {at_ : Int} (h : TB W B A n c s at_) (k : Nat) : W.frozen? ⟨B, k, none⟩ = false := Lib.frozen_of_heap h k
theorem TB.lt {W : World} {B : Nat} {A : Option Addr} {n c : Nat} {s : ByteArray} {at_ : Int} (h : TB W B A n c s at_) : B < W.heap.size := block_lt h
set_option maxRecDepth 100000 in
set_option maxHeartbeats 1000000 in
theorem co_good (l : List ByteArray) (s : ByteArray) (at_ : Int) (A : Option Addr) (n cap : Nat) (w : World) (hs : SlN w A n cap l) (hp : ∀ x ∈ l, x.size ≤ 9223372036854775807) :
    Calls Tryz.prog 143 #[tpV A n cap s at_] w (Ret (.bool (tpG l at_)) w) := by
  have hT := TB.new w A n cap s at_
  have hB := (Below.refl w.heap.size w).alloc (Nat.le_refl _) (.cells #[.slice A n cap, .string s, .int .i64 at_] 31)
  have HC := Lib.hid (sl_ContainsFuncC l A n cap _ (hs.kept hB (Nat.le_refl _)) hp)
  rw [any_nonv] at HC
  have HB := Lib.hid hB
  obtain ⟨c0, c1, c2⟩ := hT.c
  have HR := Lib.hid (show tpG l at_ = (decide (0 ≤ at_) && decide (at_ ≤ 2147483647) && l.all nvalid) from rfl)
  obtain ⟨b, hb⟩ : ∃ b, l.all nvalid = b := ⟨_, rfl⟩
  rw [hb] at HC HR
  rw [HR.out]
  unfold tpV
  clear hT hB hs hp hb HR
  by_cases h0 : 0 ≤ at_
  · by_cases h1 : at_ ≤ 2147483647
    · rw [decide_eq_true h0, decide_eq_true h1, Bool.true_and, Bool.true_and]
      go_enter Tryz.func143, Tryz.ntmps143
      go_wp2_with fail
      refine HC.out.mono ?_
      rintro e w1 ⟨rfl, rfl⟩
      go_wp2
      go_ret
      exact ⟨rfl, HB.out⟩
    · rw [decide_eq_true h0, decide_eq_false h1, Bool.true_and, Bool.false_and]
      go_enter Tryz.func143, Tryz.ntmps143
      have h1' : decide (at_ ≤ 2147483647) = false := decide_eq_false h1
      go_wp2
      go_ret
      exact ⟨rfl, HB.out⟩
  · rw [decide_eq_false h0, Bool.false_and, Bool.false_and]
    go_enter Tryz.func143, Tryz.ntmps143
    have h0' : decide (0 ≤ at_) = false := decide_eq_false h0
    go_wp2
    go_ret
    exact ⟨rfl, HB.out⟩
def rdN (l : List ByteArray) (at_ : Int) (B : ByteArray) : Int := if (tpG l at_ && nvalid B) = true then (if B.toList.isEmpty = true then 11 else 0) else 3
set_option maxRecDepth 100000 in
set_option maxHeartbeats 1000000 in
theorem co_ready (l : List ByteArray) (s : ByteArray) (at_ : Int) (B : ByteArray) (A : Option Addr) (n cap : Nat) (w : World) (hs : SlN w A n cap l) (hp : ∀ x ∈ l, x.size ≤ 9223372036854775807) (hB : B.size ≤ 9223372036854775807) :
    Calls Tryz.prog 96 #[tpV A n cap s at_, .string B] w (Ret (.int .i64 (rdN l at_ B)) w) := by
  have hT := TB.new w A n cap s at_
  have hb0 := (Below.refl w.heap.size w).alloc (Nat.le_refl _) (.cells #[.slice A n cap, .string s, .int .i64 at_] 31)
  have HC := Lib.hid (co_good l s at_ A n cap _ (hs.kept hb0 (Nat.le_refl _)) hp)
  have HV := Lib.hid (nat_Valid B hB)
  have HB := Lib.hid hb0
  obtain ⟨c0, c1, c2⟩ := hT.c
  have HR := Lib.hid (show rdN l at_ B = if (tpG l at_ && nvalid B) = true then (if B.toList.isEmpty = true then 11 else 0) else 3 from rfl)
  obtain ⟨b1, hb1⟩ : ∃ b, tpG l at_ = b := ⟨_, rfl⟩
  obtain ⟨b2, hb2⟩ : ∃ b, nvalid B = b := ⟨_, rfl⟩
  obtain ⟨b3, hb3⟩ : ∃ b, B.toList.isEmpty = b := ⟨_, rfl⟩
  rw [hb1, hb2, hb3] at HR
  rw [hb1] at HC
  rw [hb2] at HV
  obtain ⟨R, hR⟩ : ∃ R, rdN l at_ B = R := ⟨_, rfl⟩
  rw [hR] at HR ⊢
  unfold tpV at *
  clear hT hb0 hs hp hb1 hb2 hB hR
  go_enter Tryz.func96, Tryz.ntmps96
  go_wp2_with fail
  refine HC.out.mono ?_
  rintro e w1 ⟨rfl, hb⟩
  have HB1 := Lib.hid (HB.out.trans (hb.mono HB.out.size))
  clear hb c0 c1 c2
  cases b1 with
  | false =>
    clear hb3
    go_wp2
    go_ret
    exact ⟨by rw [HR.out]; rfl, HB1.out⟩
  | true =>
    go_wp2_with fail
    refine (HV.out _).mono ?_
    rintro e w2 ⟨rfl, rfl⟩
    cases b2 with
    | false =>
      clear hb3
      go_wp2
      go_ret
      exact ⟨by rw [HR.out]; rfl, HB1.out⟩
    | true =>
      cases b3 with
      | false =>
        go_wp2
        go_ret
        exact ⟨by rw [HR.out]; rfl, HB1.out⟩
      | true =>
        go_wp2
        go_ret
        exact ⟨by rw [HR.out]; rfl, HB1.out⟩
end Go.Proofs.YtndmjfkmnjejkaaGreatDoor
/- Walk: schnorr.goodTape. -/
set_option linter.unusedVariables false
set_option linter.unusedSimpArgs false
namespace Go.Proofs.YtndmjfkmnjejkaaGreatDoor
open Go.RowKit
set_option maxRecDepth 100000 in
set_option maxHeartbeats 1000000 in
theorem sc_goodTape (l : List ByteArray) (s : ByteArray) (at_ : Int) (A : Option Addr) (n cap : Nat) (w : World) (hs : SlN w A n cap l) (hn : n ≤ 1000) (hp : ∀ x ∈ l, x.size ≤ 9223372036854775807) :
    Calls Tryz.prog 77 #[tpV A n cap s at_] w (Ret (.bool (tpG l at_)) w) := by
  have hT := TB.new w A n cap s at_
  have hB := (Below.refl w.heap.size w).alloc (Nat.le_refl _) (.cells #[.slice A n cap, .string s, .int .i64 at_] 31)
  have HC := Lib.hid (sc_formed l A n cap hn hp _ (hs.kept hB (Nat.le_refl _)))
  have HB := Lib.hid hB
  obtain ⟨c0, c1, c2⟩ := hT.c
  have HR := Lib.hid (show tpG l at_ = (decide (0 ≤ at_) && decide (at_ ≤ 2147483647) && l.all nvalid) from rfl)
  obtain ⟨b, hb⟩ : ∃ b, l.all nvalid = b := ⟨_, rfl⟩
  rw [hb] at HC HR
  rw [HR.out]
  unfold tpV
  clear hT hB hs hp hb
  cases b with
  | false =>
    rw [Bool.and_false]
    go_enter Tryz.func77, Tryz.ntmps77
    go_wp2_with fail
    refine HC.out.mono ?_
    rintro e w1 ⟨rfl, rfl⟩
    go_wp2
    go_ret
    exact ⟨rfl, HB.out⟩
  | true =>
    by_cases h0 : 0 ≤ at_
    · by_cases h1 : at_ ≤ 2147483647
      · rw [decide_eq_true h0, decide_eq_true h1]
        go_enter Tryz.func77, Tryz.ntmps77
        go_wp2_with fail
        refine HC.out.mono ?_
        rintro e w1 ⟨rfl, rfl⟩
        go_wp2
        go_ret
        exact ⟨rfl, HB.out⟩
      · have h1' : decide (at_ ≤ 2147483647) = false := decide_eq_false h1
        rw [decide_eq_true h0, h1']
        go_enter Tryz.func77, Tryz.ntmps77
        go_wp2_with fail
        refine HC.out.mono ?_
        rintro e w1 ⟨rfl, rfl⟩
        go_wp2
        go_ret
        exact ⟨rfl, HB.out⟩
    · have h0' : decide (0 ≤ at_) = false := decide_eq_false h0
      rw [h0', Bool.false_and, Bool.false_and]
      go_enter Tryz.func77, Tryz.ntmps77
      go_wp2_with fail
      refine HC.out.mono ?_
      rintro e w1 ⟨rfl, rfl⟩
      go_wp2
      go_ret
      exact ⟨rfl, HB.out⟩
end Go.Proofs.YtndmjfkmnjejkaaGreatDoor

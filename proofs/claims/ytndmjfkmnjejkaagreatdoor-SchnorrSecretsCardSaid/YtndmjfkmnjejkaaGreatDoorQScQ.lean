/- Walks: slices.Equal at lists of numbers; dominolaw11.Few, dominolaw17.SameTape. -/
import Derived.Test.YtndmjfkmnjejkaaGreatDoorQCoB
import Derived.Test.YtndmjfkmnjejkaaGreatDoorQPeP
import Derived.Test.YtndmjfkmnjejkaaGreatDoorQPeFA
import Derived.Test.YtndmjfkmnjejkaaGreatDoorQScM
import Derived.Test.YtndmjfkmnjejkaaGreatDoorQApn
import Derived.Deep.Cut
set_option linter.unusedVariables false
set_option linter.unusedSimpArgs false
namespace Go.Proofs.YtndmjfkmnjejkaaGreatDoor
open Go.RowKit Go.Shelf
attribute [local go_sem] Oper.semAt_some
theorem SlN.cellX {w : World} {A : Option Addr} {n c : Nat} {l : List ByteArray} (h : SlN w A n c l) {k : Nat} {s : ByteArray} (hk : l[k]? = some s) : ∃ b o, A = some ⟨b, o, none⟩ ∧ w.cell? ⟨b, o + k, none⟩ = some (.string s) := by
  have hlt := (List.getElem?_eq_some_iff.1 hk).1
  obtain ⟨b, o, rfl⟩ := h.head (by have := h.1; omega)
  exact ⟨b, o, rfl, h.get? k hk⟩
set_option maxRecDepth 100000 in
set_option maxHeartbeats 1000000 in
theorem sl_EqualT (l : List ByteArray) (A B : Option Addr) (n c n' c' : Nat) (w : World) (hs : SlN w A n c l) (hs' : SlN w B n' c' l) : Calls Tryz.prog 83 #[.slice A n c, .slice B n' c'] w (Ret (.bool true) w) := by
  obtain rfl : n' = n := by rw [← hs.1, ← hs'.1]
  have HS := Lib.hid hs
  have HS' := Lib.hid hs'
  have HLEN := Lib.hid hs.1
  have hcap := hs.2.1
  have hcap2 := hs.2.2.1
  have hcap' := hs'.2.1
  have hcap2' := hs'.2.2.1
  clear hs hs'
  go_enter Tryz.func83, Tryz.ntmps83
  go_wp2
  go_loopw [13] (fun k wr => ∃ j : Nat, j ≤ n' ∧ k = .int .i64 j ∧ Below w.heap.size w wr) (fun k _ => n' - (intOf k).toNat)
  case atStart => exact ⟨0, Nat.zero_le _, rfl, Below.refl _ _⟩
  case round =>
    obtain ⟨j, hj, rfl, hbb⟩ := hrel
    have HB := Lib.hid hbb
    clear hbb
    by_cases hlt : j < n'
    · obtain ⟨y, he⟩ : ∃ y, l[j]? = some y := ⟨_, List.getElem?_eq_getElem (by rw [HLEN.out]; exact hlt)⟩
      obtain ⟨b, o, rfl, e1⟩ := (HS.out.kept HB.out (Nat.le_refl _)).cellX he
      obtain ⟨b2, o2, rfl, e2⟩ := (HS'.out.kept HB.out (Nat.le_refl _)).cellX he
      have e1 : wr.drew.cell? ⟨b, o + j, none⟩ = some (.string y) := e1
      have e2 : wr.drew.cell? ⟨b2, o2 + j, none⟩ = some (.string y) := e2
      clear he
      go_wp2
      refine wp_region_K 9 (Below (wr.drew).heap.size (wr.drew)) (by kernel_rfl) ?_
      intro hD
      refine wpAnyK_pureD (i := 0) (d := some 16) (v := ?v6_0b1) (fuel := 8) rfl (by kernel_rfl) (by kernel_rfl) (fun _ _ _ h => h) hD (Below.refl _ _) (.inl ⟨by kernel_rfl, ?y6_0b1⟩) ?n6_0b1
      case y6_0b1 => intro w' _; go_simp; with_reducible rfl
      clear hD; intro hD
      simp only [Act.put, sqA, sqB, sqC]
      refine wpAnyK_pureD (i := 1) (d := some 17) (v := ?v6_1b1) (fuel := 7) rfl (by kernel_rfl) (by kernel_rfl) (fun _ _ _ h => h) hD (Below.refl _ _) (.inl ⟨by kernel_rfl, ?y6_1b1⟩) ?n6_1b1
      case y6_1b1 => intro w' _; go_simp; with_reducible rfl
      clear hD; intro hD
      simp only [Act.put, sqA, sqB, sqC]
      refine wpAnyK_pureD (i := 2) (d := some 18) (v := ?v6_2b1) (fuel := 6) rfl (by kernel_rfl) (by kernel_rfl) (fun _ _ _ h => h) hD (Below.refl _ _) (.inl ⟨by kernel_rfl, ?y6_2b1⟩) ?n6_2b1
      case y6_2b1 => intro w' _; go_simp; with_reducible rfl
      clear hD; intro hD
      simp only [Act.put, sqA, sqB, sqC]
      refine wpAnyK_takeSD (i := 3) (d := some 19) (v := ?v6_3b1) (fuel := 5) rfl (by kernel_rfl) (by kernel_rfl) (by kernel_rfl) (fun _ _ _ h => h) hD (Below.refl _ _) (.inl ⟨by kernel_rfl, ?y6_3b1⟩) ?n6_3b1
      case y6_3b1 => intro w' hS'; have e0 := cell_kept hS' (Nat.le_refl _) e1; have e1 := cell_kept hS' (Nat.le_refl _) e2; go_simp; with_reducible rfl
      clear hD; intro hD
      simp only [Act.put, sqA, sqB, sqC]
      refine wpAnyK_pureD (i := 4) (d := some 20) (v := ?v6_4b1) (fuel := 4) rfl (by kernel_rfl) (by kernel_rfl) (fun _ _ _ h => h) hD (Below.refl _ _) (.inl ⟨by kernel_rfl, ?y6_4b1⟩) ?n6_4b1
      case y6_4b1 => intro w' _; go_simp; with_reducible rfl
      clear hD; intro hD
      simp only [Act.put, sqA, sqB, sqC]
      refine wpAnyK_pureD (i := 5) (d := some 21) (v := ?v6_5b1) (fuel := 3) rfl (by kernel_rfl) (by kernel_rfl) (fun _ _ _ h => h) hD (Below.refl _ _) (.inl ⟨by kernel_rfl, ?y6_5b1⟩) ?n6_5b1
      case y6_5b1 => intro w' _; go_simp; with_reducible rfl
      clear hD; intro hD
      simp only [Act.put, sqA, sqB, sqC]
      refine wpAnyK_pureD (i := 6) (d := some 22) (v := ?v6_6b1) (fuel := 2) rfl (by kernel_rfl) (by kernel_rfl) (fun _ _ _ h => h) hD (Below.refl _ _) (.inl ⟨by kernel_rfl, ?y6_6b1⟩) ?n6_6b1
      case y6_6b1 => intro w' _; go_simp; with_reducible rfl
      clear hD; intro hD
      simp only [Act.put, sqA, sqB, sqC]
      refine wpAnyK_takeSD (i := 7) (d := some 23) (v := ?v6_7b1) (fuel := 1) rfl (by kernel_rfl) (by kernel_rfl) (by kernel_rfl) (fun _ _ _ h => h) hD (Below.refl _ _) (.inl ⟨by kernel_rfl, ?y6_7b1⟩) ?n6_7b1
      case y6_7b1 => intro w' hS'; have e0 := cell_kept hS' (Nat.le_refl _) e1; have e1 := cell_kept hS' (Nat.le_refl _) e2; go_simp; with_reducible rfl
      clear hD; intro hD
      simp only [Act.put, sqA, sqB, sqC]
      refine wpAnyK_pureD (i := 8) (d := some 24) (v := ?v6_8b1) (fuel := 0) rfl (by kernel_rfl) (by kernel_rfl) (fun _ _ _ h => h) hD (Below.refl _ _) (.inl ⟨by kernel_rfl, ?y6_8b1⟩) ?n6_8b1
      case y6_8b1 => intro w' _; go_simp; with_reducible rfl
      clear hD; intro hD
      simp only [Act.put, sqA, sqB, sqC]
      refine wpAnyK_done (by kernel_rfl) ?_ 0
      clear hD
      have HB2 := Lib.hid (show Below w.heap.size w wr.drew from HB.out.trans ((Below.refl wr.heap.size wr).drew.mono HB.out.size))
      go_wp2
      go_roundw
      case rel => exact ⟨j + 1, by omega, by go_num, HB2.out⟩
      case measure => simp [intOf]; omega
    · obtain rfl : j = n' := by omega
      clear hlt hj
      go_wp2
      go_ret
      exact ⟨rfl, HB.out⟩
def fewT (lim sz sd : Nat) (l : List ByteArray) (s : ByteArray) : Bool := (l.take lim).all (fun s => decide (s.size ≤ sz)) && (decide (l.length ≤ lim) && decide (s.size ≤ sd))
theorem fewT_of {lim sz sd : Nat} {l : List ByteArray} {s : ByteArray} (h : fewT lim sz sd l s = true) : l.length ≤ lim ∧ s.size ≤ sd ∧ ∀ x ∈ l, x.size ≤ sz := by
  unfold fewT at h
  simp only [Bool.and_eq_true, decide_eq_true_eq, List.all_eq_true] at h
  rw [List.take_of_length_le h.2.1] at h
  exact ⟨h.2.1, h.2.2, h.1⟩
theorem fewT_big {lim sz sd : Nat} {l : List ByteArray} {s x : ByteArray} {k : Nat} (hx : l[k]? = some x) (hk : k < lim) (hb : sz < x.size) : fewT lim sz sd l s = false := by
  unfold fewT
  have : (l.take lim).all (fun s => decide (s.size ≤ sz)) = false := by
    rw [List.all_eq_false]
    exact ⟨x, List.mem_of_getElem? (i := k) (by rw [List.getElem?_take_of_lt hk]; exact hx), by simp; omega⟩
  rw [this]; rfl
theorem fewT_all {lim sz sd : Nat} {l : List ByteArray} {s : ByteArray} (h : ∀ j, j < l.length → j < lim → ∃ x, l[j]? = some x ∧ x.size ≤ sz) : fewT lim sz sd l s = (decide (l.length ≤ lim) && decide (s.size ≤ sd)) := by
  unfold fewT
  have : (l.take lim).all (fun s => decide (s.size ≤ sz)) = true := by
    rw [List.all_eq_true]
    intro x hx
    obtain ⟨k, hk⟩ := List.mem_iff_getElem?.1 hx
    have h1 := (List.getElem?_eq_some_iff.1 hk).1
    rw [List.length_take] at h1
    have hkl : k < lim := by omega
    rw [List.getElem?_take_of_lt hkl] at hk
    obtain ⟨x', h2, h3⟩ := h k (by omega) hkl
    rw [hk] at h2
    cases h2
    exact decide_eq_true h3
  rw [this]; rfl
def few11 (l : List ByteArray) (s : ByteArray) (k : Int) : Bool := fewT 80 16 40 l s && decide (k < 1000)
set_option maxRecDepth 100000 in
set_option maxHeartbeats 2000000 in
theorem law11_Few (l : List ByteArray) (s : ByteArray) (k : Int) (A : Option Addr) (n cap : Nat) (w : World) (hs : SlN w A n cap l) : Calls Tryz.prog 25 #[tpV A n cap s k] w (Ret (.bool (few11 l s k)) w) := by
  have HT := Lib.hid (TB.new w A n cap s k)
  have HB0 := Lib.hid ((Below.refl w.heap.size w).alloc (Nat.le_refl _) (.cells #[.slice A n cap, .string s, .int .i64 k] 31))
  obtain ⟨c0, c1, c2⟩ := HT.out.c
  have HS := Lib.hid (hs.kept HB0.out (Nat.le_refl _))
  have HLEN := Lib.hid hs.1
  have hcap := hs.2.1
  have hcap2 := hs.2.2.1
  have HR := Lib.hid (show few11 l s k = (fewT 80 16 40 l s && decide (k < 1000)) from rfl)
  clear hs
  unfold tpV
  go_enter Tryz.func25, Tryz.ntmps25
  go_wp2
  go_loop [3] (fun i => ∃ q : Nat, q ≤ n ∧ q ≤ 80 ∧ i = .int .i64 q ∧ ∀ j, j < q → ∃ x, l[j]? = some x ∧ x.size ≤ 16) (fun i => 80 - (intOf i).toNat)
  case atStart => exact ⟨0, Nat.zero_le _, Nat.zero_le _, rfl, fun j h => by omega⟩
  case round =>
    obtain ⟨q, hq, hq8, rfl, hall⟩ := hrel
    have HALL := Lib.hid hall
    clear hall
    by_cases hin : q < n ∧ q < 80
    · obtain ⟨hlt, hl8⟩ := hin
      obtain ⟨b, o, rfl⟩ := HS.out.head (by omega)
      obtain ⟨x, he⟩ : ∃ s, l[q]? = some s := ⟨_, List.getElem?_eq_getElem (by rw [HLEN.out]; exact hlt)⟩
      have d0 := HS.out.get? q he
      have HE := Lib.hid he
      have hqi : (q : Int) < (n : Int) := by omega
      have hq8i : (q : Int) < 80 := by omega
      have HQ8 := Lib.hid hl8
      have HQN := Lib.hid hlt
      clear he hq hq8 hlt hl8
      by_cases h1 : 16 < x.size
      · have HF := Lib.hid (fewT_big (sd := 40) (s := s) HE.out HQ8.out h1)
        have i1 : decide ((16 : Int) < (x.size : Int)) = true := decide_eq_true (by omega)
        go_wp2
        go_ret
        exact ⟨by rw [HR.out, HF.out]; rfl, HB0.out⟩
      · have i1 : decide ((16 : Int) < (x.size : Int)) = false := decide_eq_false (by omega)
        have H1 := Lib.hid h1
        clear h1
        go_wp2
        go_round
        case rel =>
          refine ⟨q + 1, HQN.out, HQ8.out, by go_num, fun j hj => ?_⟩
          by_cases hjk : j < q
          · exact HALL.out j hjk
          · obtain rfl : j = q := by omega
            exact ⟨x, HE.out, by have := H1.out; omega⟩
        case measure => have := HQ8.out; simp [intOf]; omega
    · have HF := Lib.hid (fewT_all (lim := 80) (sz := 16) (sd := 40) (s := s) (l := l) (fun j hj hj8 => HALL.out j (by have := HLEN.out; omega)))
      have hc : decide ((q : Int) < (n : Int)) = true → decide ((q : Int) < 80) = false := fun h => decide_eq_false (by have := of_decide_eq_true h; omega)
      have hR : few11 l s k = (decide (n ≤ 80) && decide (s.size ≤ 40) && decide (k < 1000)) := by rw [HR.out, HF.out, HLEN.out]
      have HR2 := Lib.hid hR
      have HQ9 := Lib.hid (show q < n → q = 80 from fun h => by omega)
      clear hR hin hq8 HF HR
      by_cases hqn : q < n
      · obtain rfl := HQ9.out hqn
        have e1 : ((80 : Nat) : Int) < (n : Int) := by omega
        have e2 : decide ((n : Int) ≤ 80) = false := decide_eq_false (by omega)
        have HZ := Lib.hid (show few11 l s k = false from by rw [HR2.out, decide_eq_false (by omega : ¬ n ≤ 80)]; rfl)
        clear hq hqn hc
        go_wp2
        go_ret
        exact ⟨by rw [HZ.out]; rfl, HB0.out⟩
      · have e1 : ¬ ((q : Int) < (n : Int)) := by omega
        clear hq hc
        by_cases h8 : n ≤ 80
        · have e2 : decide ((n : Int) ≤ 80) = true := decide_eq_true (by omega)
          by_cases h4 : s.size ≤ 40
          · have e3 : decide ((s.size : Int) ≤ 40) = true := decide_eq_true (by omega)
            have HZ := Lib.hid (show few11 l s k = decide (k < 1000) from by rw [HR2.out, decide_eq_true h8, decide_eq_true h4]; rfl)
            clear h8 h4
            go_wp2
            go_ret
            exact ⟨by rw [HZ.out]; rfl, HB0.out⟩
          · have e3 : decide ((s.size : Int) ≤ 40) = false := decide_eq_false (by omega)
            have HZ := Lib.hid (show few11 l s k = false from by rw [HR2.out, decide_eq_true h8, decide_eq_false h4]; rfl)
            clear h8 h4
            go_wp2
            go_ret
            exact ⟨by rw [HZ.out]; rfl, HB0.out⟩
        · have e2 : decide ((n : Int) ≤ 80) = false := decide_eq_false (by omega)
          have HZ := Lib.hid (show few11 l s k = false from by rw [HR2.out, decide_eq_false h8]; rfl)
          clear h8
          go_wp2
          go_ret
          exact ⟨by rw [HZ.out]; rfl, HB0.out⟩
set_option maxRecDepth 100000 in
set_option maxHeartbeats 1000000 in
theorem law17_SameTape (l : List ByteArray) (s : ByteArray) (k : Int) (A B : Option Addr) (n c n' c' : Nat) (w : World) (hs : SlN w A n c l) (hs' : SlN w B n' c' l) : Calls Tryz.prog 28 #[tpV A n c s k, tpV B n' c' s k] w (Ret (.bool true) w) := by
  have hb1 := ((Below.refl w.heap.size w).alloc (Nat.le_refl _) (.cells #[.slice A n c, .string s, .int .i64 k] 31)).alloc (by simp) (.cells #[.slice B n' c', .string s, .int .i64 k] 31)
  have ht1 := (TB.new w A n c s k).nextT ((Below.refl _ _).alloc (Nat.le_refl _) (.cells #[.slice B n' c', .string s, .int .i64 k] 31))
  have ht2 := TB.new (w.alloc (.cells #[.slice A n c, .string s, .int .i64 k] 31)) B n' c' s k
  rw [World.size_alloc] at ht2
  obtain ⟨c0, c1, c2⟩ := ht1.c
  obtain ⟨d0, d1, d2⟩ := ht2.c
  have HB := Lib.hid hb1
  have HE := Lib.hid (sl_EqualT l A B n c n' c' _ (hs.kept hb1 (Nat.le_refl _)) (hs'.kept hb1 (Nat.le_refl _)))
  clear hb1 ht1 ht2 hs hs'
  unfold tpV
  go_enter Tryz.func28, Tryz.ntmps28
  go_wp2_with fail
  refine HE.out.mono ?_
  rintro e w1 ⟨rfl, hb⟩
  have HB1 := Lib.hid (HB.out.trans (hb.mono HB.out.size))
  clear hb
  go_wp2
  go_ret
  exact ⟨rfl, HB1.out⟩
end Go.Proofs.YtndmjfkmnjejkaaGreatDoor
/- Walk: the law SchnorrMakes. -/
set_option linter.unusedVariables false
set_option linter.unusedSimpArgs false
namespace Go.Proofs.YtndmjfkmnjejkaaGreatDoor
open Go.RowKit Go.Lib
def GT (w W : World) (M O : ByteArray) (A : Option Addr) (n cap : Nat) (s : ByteArray) (k : Int) (l : List ByteArray) : Prop :=
  Bx2 W w.heap.size (.string M) (.string O) 24 ∧ TB W (w.heap.size + 1) A n cap s k ∧ SlN W A n cap l ∧ Below w.heap.size w W
theorem GT.next {w W W' : World} {M O : ByteArray} {A : Option Addr} {n cap : Nat} {s : ByteArray} {k : Int} {l : List ByteArray} (h : GT w W M O A n cap s k l) (hb : Below W.heap.size W W') : GT w W' M O A n cap s k l :=
  ⟨h.1.next hb, h.2.1.nextT hb, h.2.2.1.kept hb (Nat.le_refl _), h.2.2.2.trans (hb.mono h.2.2.2.size)⟩
theorem GT.new (w : World) (M O : ByteArray) (A : Option Addr) (n cap : Nat) (s : ByteArray) (k : Int) (l : List ByteArray) (hs : SlN w A n cap l) :
    GT w ((w.alloc (.cells #[.string M, .string O] 24)).alloc (.cells #[.slice A n cap, .string s, .int .i64 k] 31)) M O A n cap s k l := by
  have hb1 := ((Below.refl w.heap.size w).alloc (Nat.le_refl _) (.cells #[.string M, .string O] 24)).alloc (by simp) (.cells #[.slice A n cap, .string s, .int .i64 k] 31)
  have ht2 := TB.new (w.alloc (.cells #[.string M, .string O] 24)) A n cap s k
  rw [World.size_alloc] at ht2
  exact ⟨(Bx2.new _ _ _ _).next ((Below.refl _ _).alloc (Nat.le_refl _) _), ht2, hs.kept hb1 (Nat.le_refl _), hb1⟩
theorem mkK_form (M O G : ByteArray) (r : Nat × Nat × Int) : ∃ a b c d, mkK M O G r = #[.string a, .string b, .string c, .string d] := by
  unfold mkK
  split
  · exact ⟨_, _, _, _, rfl⟩
  · exact ⟨_, _, _, _, rfl⟩
theorem coB (l : List ByteArray) (s : ByteArray) (k : Int) (O : ByteArray) (A : Option Addr) (n cap : Nat) (hn : n ≤ 1000) (hp : ∀ x ∈ l, x.size ≤ 9223372036854775807) (hs64 : s.size ≤ 64) (w : World) (ht : T10 w) (h : num O < 18446744073709551616) (W : World) (hb : Below w.heap.size w W) (hs : SlN W A n cap l) :
    Calls Tryz.prog 49 #[tpV A n cap s k, .string (nS (num O - 1))] W (RetC (coN l s k (nS (num O - 1))) (tpN (coN l s k (nS (num O - 1))).2 l s k) W) :=
  co_Below l s k (nS (num O - 1)) A n cap hn hp hs64 (nS_size_le.2 (Nat.lt_of_lt_of_le (show num O - 1 < 18446744073709551616 from by omega) (by decide))) W hs (ht.kept hb (Nat.le_refl _))
def KT (W : World) (P : Nat) (a b c d : ByteArray) (A : Option Addr) (m n : Nat) (ts : ByteArray) (tk : Int) (tl : List ByteArray) : Prop :=
  Bx4 W P (.string a) (.string b) (.string c) (.string d) 46 ∧ TB W (P + 1) A m n ts tk ∧ SlN W A m n tl
theorem KT.next {W W' : World} {P : Nat} {a b c d : ByteArray} {A : Option Addr} {m n : Nat} {ts : ByteArray} {tk : Int} {tl : List ByteArray} (h : KT W P a b c d A m n ts tk tl) (hb : Below W.heap.size W W') : KT W' P a b c d A m n ts tk tl :=
  ⟨h.1.next hb, h.2.1.nextT hb, h.2.2.kept hb (Nat.le_refl _)⟩
theorem KT.new (w : World) (a b c d : ByteArray) (A : Option Addr) (m n : Nat) (ts : ByteArray) (tk : Int) (tl : List ByteArray) (hs : SlN w A m n tl) :
    KT ((w.alloc (.cells #[.string a, .string b, .string c, .string d] 46)).alloc (.cells #[.slice A m n, .string ts, .int .i64 tk] 31)) w.heap.size a b c d A m n ts tk tl ∧ Below w.heap.size w ((w.alloc (.cells #[.string a, .string b, .string c, .string d] 46)).alloc (.cells #[.slice A m n, .string ts, .int .i64 tk] 31)) := by
  have hb1 := ((Below.refl w.heap.size w).alloc (Nat.le_refl _) (.cells #[.string a, .string b, .string c, .string d] 46)).alloc (by simp) (.cells #[.slice A m n, .string ts, .int .i64 tk] 31)
  have ht2 := TB.new (w.alloc (.cells #[.string a, .string b, .string c, .string d] 46)) A m n ts tk
  rw [World.size_alloc] at ht2
  exact ⟨⟨(Bx4.new _ _ _ _ _ _).next ((Below.refl _ _).alloc (Nat.le_refl _) _), ht2, hs.kept hb1 (Nat.le_refl _)⟩, hb1⟩
set_option maxRecDepth 100000 in
set_option maxHeartbeats 8000000 in
theorem walk_makes (M O G : ByteArray) (l : List ByteArray) (s : ByteArray) (k : Int) (A : Option Addr) (n cap : Nat) (w : World) (hs : SlN w A n cap l) (ht : T10 w) : Calls Tryz.prog 6 #[gV M O, .string G, tpV A n cap s k] w (Ret (.bool true) w) := by
  have HLN := Lib.hid hs.1
  have hx0 := GT.new w M O A n cap s k l hs
  obtain ⟨W0, hW0⟩ : ∃ W, (w.alloc (.cells #[.string M, .string O] 24)).alloc (.cells #[.slice A n cap, .string s, .int .i64 k] 31) = W := ⟨_, rfl⟩
  rw [hW0] at hx0
  have HX0 := Lib.hid hx0
  have hx1 := hx0.next ((Below.refl W0.heap.size W0).alloc (Nat.le_refl _) (.cells #[.string G] 22))
  have HFW := Lib.hid (law_Few M O [G] _ 1 1 (by omega) _ (sln_alloc W0 [G] 22 (by simp)))
  have HFT := Lib.hid (fun W hs => law11_Few l s k A n cap W hs)
  have HAW := Lib.hid law33_awake
  obtain ⟨W1, hW1⟩ : ∃ W, W0.alloc (.cells #[.string G] 22) = W := ⟨_, rfl⟩
  rw [hW1] at hx1
  have HFW := Lib.hid (show Calls Tryz.prog 24 #[gV M O, .slice (some ⟨W0.heap.size, 0, none⟩) 1 1] W1 (Ret (.bool (few9 M O [G])) W1) from hW1 ▸ HFW.out)
  have HX1 := Lib.hid hx1
  obtain ⟨g0, g1⟩ := (show _ ∧ _ from ⟨HX0.out.1.c0, HX0.out.1.c1⟩)
  obtain ⟨c0, c1, c2⟩ := HX0.out.2.1.c
  clear hx0 hx1 hs
  unfold tpV gV at *
  cases hf : few9 M O [G] with
  | false =>
    rw [hf] at HFW
    clear hf
    go_enter Tryz.func6, Tryz.ntmps6
    go_wp2_with fail
    try rw [hW0, hW1]
    clear hW0 hW1
    refine HFW.out.mono ?_
    rintro ev w2 ⟨rfl, hb⟩
    have HX2 := Lib.hid (HX1.out.next hb)
    clear hb g0 g1 c0 c1 c2
    obtain ⟨g0, g1⟩ := (show _ ∧ _ from ⟨HX2.out.1.c0, HX2.out.1.c1⟩)
    obtain ⟨c0, c1, c2⟩ := HX2.out.2.1.c
    go_wp2_with fail
    refine (HAW.out _).mono ?_
    rintro ev w9 ⟨rfl, hb⟩
    have HB9 := Lib.hid (HX2.out.2.2.2.trans (hb.mono HX2.out.2.2.2.size))
    clear hb
    go_wp2
    go_ret
    exact ⟨rfl, HB9.out⟩
  | true =>
    rw [hf] at HFW
    cases hf2 : few11 l s k with
    | false =>
      rw [hf2] at HFT
      clear hf hf2
      go_enter Tryz.func6, Tryz.ntmps6
      go_wp2_with fail
      try rw [hW0, hW1]
      clear hW0 hW1
      refine HFW.out.mono ?_
      rintro ev w2 ⟨rfl, hb⟩
      have HX2 := Lib.hid (HX1.out.next hb)
      clear hb g0 g1 c0 c1 c2
      obtain ⟨g0, g1⟩ := (show _ ∧ _ from ⟨HX2.out.1.c0, HX2.out.1.c1⟩)
      obtain ⟨c0, c1, c2⟩ := HX2.out.2.1.c
      have HFU := Lib.hid (HFT.out _ HX2.out.2.2.1)
      go_wp2_with fail
      refine HFU.out.mono ?_
      rintro ev w3 ⟨rfl, hb⟩
      have HX3 := Lib.hid (HX2.out.next hb)
      clear hb g0 g1 c0 c1 c2
      go_wp2_with fail
      refine (HAW.out _).mono ?_
      rintro ev w9 ⟨rfl, hb⟩
      have HB9 := Lib.hid (HX3.out.2.2.2.trans (hb.mono HX3.out.2.2.2.size))
      clear hb
      go_wp2
      go_ret
      exact ⟨rfl, HB9.out⟩
    | true =>
      obtain ⟨hM, hO, hl⟩ := few9_of hf
      have hG := hl G (by simp)
      unfold few11 at hf2
      rw [Bool.and_eq_true] at hf2
      obtain ⟨hl80, hs40, hz16⟩ := fewT_of hf2.1
      have hn : n ≤ 1000 := by have := HLN.out; omega
      have hp : ∀ x ∈ l, x.size ≤ 9223372036854775807 := fun x hx => by have := hz16 x hx; omega
      have HM1 := Lib.hid (fun W (hb : Below w.heap.size w W) hs => sc_Make_of M O G l s k A n cap hM (by omega) (by omega) hn hp W (fun h W' hb' hs' => coB l s k O A n cap hn hp (by omega) w ht h W' (hb.trans (hb'.mono hb.size)) hs') hs)
      have HM2 := Lib.hid (fun W hs => r33_Make M O G l s k A n cap hM (by omega) (by omega) hn hp (by omega) W hs)
      rw [show few11 l s k = true from by unfold few11; rw [hf2.1, hf2.2]; rfl] at HFT
      obtain ⟨a, b, c, d, hk⟩ := mkK_form M O G (mkN M O G l s k)
      rw [hk] at HM1 HM2
      obtain ⟨z, hz⟩ : ∃ z, nS (mkN M O G l s k).2.1 = z := ⟨_, rfl⟩
      obtain ⟨e, he⟩ : ∃ e, (mkN M O G l s k).2.2 = e := ⟨_, rfl⟩
      rw [he] at HM1 HM2
      obtain ⟨t, htp⟩ : ∃ t, tpN e l s k = t := ⟨_, rfl⟩
      obtain ⟨tl, ts, tk⟩ := t
      rw [htp] at HM1 HM2
      obtain ⟨m, hm⟩ : ∃ m, tl.length = m := ⟨_, rfl⟩
      unfold RetM at HM1 HM2
      rw [hz] at HM1 HM2
      simp only [] at HM1 HM2
      rw [hm] at HM1 HM2
      unfold tpV gV at HM1 HM2
      clear hf hf2 hM hO hl hG hl80 hs40 hz16 hn hp hk hz he htp hm ht
      go_enter Tryz.func6, Tryz.ntmps6
      go_wp2_with fail
      try rw [hW0, hW1]
      clear hW0 hW1
      refine HFW.out.mono ?_
      rintro ev w2 ⟨rfl, hb⟩
      have HX2 := Lib.hid (HX1.out.next hb)
      clear hb g0 g1 c0 c1 c2
      obtain ⟨g0, g1⟩ := (show _ ∧ _ from ⟨HX2.out.1.c0, HX2.out.1.c1⟩)
      obtain ⟨c0, c1, c2⟩ := HX2.out.2.1.c
      have HFU := Lib.hid (HFT.out _ HX2.out.2.2.1)
      go_wp2_with fail
      refine HFU.out.mono ?_
      rintro ev w3 ⟨rfl, hb⟩
      have HX3 := Lib.hid (HX2.out.next hb)
      clear hb g0 g1 c0 c1 c2
      obtain ⟨g0, g1⟩ := (show _ ∧ _ from ⟨HX3.out.1.c0, HX3.out.1.c1⟩)
      obtain ⟨c0, c1, c2⟩ := HX3.out.2.1.c
      have HMA := Lib.hid (HM1.out _ HX3.out.2.2.2 HX3.out.2.2.1)
      go_wp2_with fail
      refine HMA.out.mono ?_
      rintro ev w4 ⟨A1, c1', rfl, hsl1, _, hb⟩
      have HSL1 := Lib.hid hsl1
      have HX4 := Lib.hid (HX3.out.next hb)
      clear hb g0 g1 c0 c1 c2 hsl1
      go_upto_region 4 with (fail)
      obtain ⟨hkt, hb⟩ := KT.new w4 a b c d A1 m c1' ts tk tl HSL1.out
      obtain ⟨W5, hW5⟩ : ∃ W, (w4.alloc (.cells #[.string a, .string b, .string c, .string d] 46)).alloc (.cells #[.slice A1 m c1', .string ts, .int .i64 tk] 31) = W := ⟨_, rfl⟩
      obtain ⟨P5, hP5⟩ : ∃ P, w4.heap.size = P := ⟨_, rfl⟩
      rw [hW5] at hkt hb ⊢
      rw [hP5] at hkt ⊢
      have HK5 := Lib.hid hkt
      have HX5 := Lib.hid (HX4.out.next hb)
      clear hkt hb hW5 hP5
      obtain ⟨g0, g1⟩ := (show _ ∧ _ from ⟨HX5.out.1.c0, HX5.out.1.c1⟩)
      obtain ⟨c0, c1, c2⟩ := HX5.out.2.1.c
      have HMB := Lib.hid (HM2.out _ HX5.out.2.2.1)
      go_wp2_with fail
      refine HMB.out.mono ?_
      rintro ev w6 ⟨A2, c2', rfl, hsl2, _, hb⟩
      have HSL2 := Lib.hid hsl2
      have HX6 := Lib.hid (HX5.out.next hb)
      have HK6 := Lib.hid (HK5.out.next hb)
      clear hb g0 g1 c0 c1 c2 hsl2
      go_upto_region 5 with (fail)
      obtain ⟨hkt, hb⟩ := KT.new w6 a b c d A2 m c2' ts tk tl HSL2.out
      obtain ⟨W7, hW7⟩ : ∃ W, (w6.alloc (.cells #[.string a, .string b, .string c, .string d] 46)).alloc (.cells #[.slice A2 m c2', .string ts, .int .i64 tk] 31) = W := ⟨_, rfl⟩
      obtain ⟨P7, hP7⟩ : ∃ P, w6.heap.size = P := ⟨_, rfl⟩
      rw [hW7] at hkt hb ⊢
      rw [hP7] at hkt ⊢
      have HK7 := Lib.hid hkt
      have HX7 := Lib.hid (HX6.out.next hb)
      have HK67 := Lib.hid (HK6.out.next hb)
      have HST := Lib.hid (law17_SameTape tl ts tk A1 A2 m c1' m c2' _ HK67.out.2.2 HK7.out.2.2)
      clear hkt hb hW7 hP7
      obtain ⟨k0, k1, k2, k3⟩ := HK67.out.1.cells
      obtain ⟨l0, l1, l2, l3⟩ := HK7.out.1.cells
      obtain ⟨t0, t1, t2⟩ := HK67.out.2.1.c
      obtain ⟨s0, s1, s2⟩ := HK7.out.2.1.c
      unfold tpV at HST
      go_wp2_with fail
      refine HST.out.mono ?_
      rintro ev w8 ⟨rfl, hb⟩
      have HX8 := Lib.hid (HX7.out.next hb)
      clear hb k0 k1 k2 k3 l0 l1 l2 l3 t0 t1 t2 s0 s1 s2
      go_wp2_with fail
      refine (HAW.out _).mono ?_
      rintro ev w9 ⟨rfl, hb⟩
      have HB9 := Lib.hid (HX8.out.2.2.2.trans (hb.mono HX8.out.2.2.2.size))
      clear hb
      go_wp2
      go_ret
      exact ⟨rfl, HB9.out⟩
end Go.Proofs.YtndmjfkmnjejkaaGreatDoor
/- Walk: the law SchnorrSecrets. -/
set_option linter.unusedVariables false
set_option linter.unusedSimpArgs false
namespace Go.Proofs.YtndmjfkmnjejkaaGreatDoor
open Go.RowKit Go.Lib
theorem mk_err {M O G : ByteArray} {l : List ByteArray} {s : ByteArray} {k : Int} (h : (mkN M O G l s k).2.2 ≠ 0) : (mkN M O G l s k).1 = 0 ∧ (mkN M O G l s k).2.1 = 0 := by
  unfold mkN at *
  split
  · rename_i h1; rw [if_pos h1] at h
    split
    · rename_i h2; rw [if_pos h2] at h
      split
      · exact ⟨rfl, rfl⟩
      · rename_i h3; rw [if_neg h3] at h
        split
        · rename_i h4; rw [if_pos h4] at h
          split
          · exact ⟨rfl, rfl⟩
          · rename_i h5; rw [if_neg h5] at h; exact absurd rfl h
        · exact ⟨rfl, rfl⟩
    · exact ⟨rfl, rfl⟩
  · exact ⟨rfl, rfl⟩
theorem mk_ok {M O G : ByteArray} {l : List ByteArray} {s : ByteArray} {k : Int} (hM : M.size ≤ 8) (h : (mkN M O G l s k).2.2 = 0) : ∃ x, mkN M O G l s k = (num G ^ x % num M, x, 0) ∧ 0 < x ∧ x < num O ∧ chkK M O = 0 ∧ genK M O G = true ∧ nvalid O = true ∧ nvalid M = true ∧ scK M O G (nS (num G ^ x % num M)) = 0 := by
  unfold mkN at *
  split
  · rename_i h1; rw [if_pos h1] at h
    split
    · rename_i h2; rw [if_pos h2] at h
      split
      · rename_i h3; rw [if_pos h3] at h; cases h
      · rename_i h3; rw [if_neg h3] at h
        split
        · rename_i h4; rw [if_pos h4] at h
          split
          · rename_i h5; rw [if_pos h5] at h; cases h
          · rename_i h5
            rw [Bool.and_eq_true] at h1
            have hv := h1.1
            have hv3 : nvalid M = true ∧ nvalid O = true ∧ nvalid G = true := by
              simp only [List.all_cons, List.all_nil, Bool.and_true, Bool.and_eq_true] at hv
              exact ⟨hv.1, hv.2.1, hv.2.2⟩
            have h3' : (O.toList.isEmpty || !genK M O G) = false := by simpa using h3
            rw [Bool.or_eq_false_iff] at h3'
            have hg : genK M O G = true := by simpa using h3'.2
            have lO : 0 < num O := by
              rcases Nat.eq_zero_or_pos (num O) with e | e
              · have := h3'.1
                rw [nS_num hv3.2.1, e, show (nS 0).toList.isEmpty = true from sempty_true rfl] at this
                cases this
              · exact e
            have hlt := coN_lt h4
            rw [num_nS] at hlt
            obtain ⟨c, hc⟩ : ∃ c, (coN l s k (nS (num O - 1))).1 = c := ⟨_, rfl⟩
            rw [hc] at hlt h5 ⊢
            have hp := genK_parts hg
            have hyy : num G ^ (c + 1) % num M < 256 ^ 128 := by
              have h8 := num_small hM
              obtain ⟨i, hu⟩ := has_un (chkK_parts h2).2.2 hp.1
              have hm := hu.1
              have := Nat.mod_lt (num G ^ (c + 1)) (show 0 < num M from by omega)
              exact lt128_of_lt8 (by omega)
            refine ⟨c + 1, rfl, by omega, by omega, h2, hg, hv3.2.1, hv3.1, ?_⟩
            have hhas := has_pz (chkK_parts h2).2.2 hp.1 ((c + 1 : Nat) : Int)
            rw [pz_nat] at hhas
            have hgy : genK M O (nS (num G ^ (c + 1) % num M)) = true := by
              unfold genK hasK
              rw [nvalid_nS.2 hyy, num_nS, hhas, nS_is1, decide_eq_true h2, decide_eq_false h5]
              rfl
            unfold scK
            rw [if_pos (by simp [hv3, nvalid_nS.2 hyy]), if_pos h2, if_neg (by rw [h3'.1, hg, hgy]; decide)]
        · rename_i h4; rw [if_neg h4] at h; exact absurd h h4
    · rename_i h2; rw [if_neg h2] at h; exact absurd h h2
  · rename_i h1; rw [if_neg h1] at h; cases h
set_option maxRecDepth 100000 in
set_option maxHeartbeats 8000000 in
theorem walk_secrets (M O G : ByteArray) (l : List ByteArray) (s : ByteArray) (k : Int) (A : Option Addr) (n cap : Nat) (w : World) (hs : SlN w A n cap l) (ht : T10 w) : Calls Tryz.prog 7 #[gV M O, .string G, tpV A n cap s k] w (Ret (.bool true) w) := by
  have HLN := Lib.hid hs.1
  have hx0 := GT.new w M O A n cap s k l hs
  obtain ⟨W0, hW0⟩ : ∃ W, (w.alloc (.cells #[.string M, .string O] 24)).alloc (.cells #[.slice A n cap, .string s, .int .i64 k] 31) = W := ⟨_, rfl⟩
  rw [hW0] at hx0
  have HX0 := Lib.hid hx0
  have hx1 := hx0.next ((Below.refl W0.heap.size W0).alloc (Nat.le_refl _) (.cells #[.string G] 22))
  have HFW := Lib.hid (law_Few M O [G] _ 1 1 (by omega) _ (sln_alloc W0 [G] 22 (by simp)))
  have HFT := Lib.hid (fun W hs => law11_Few l s k A n cap W hs)
  have HAW := Lib.hid law33_awake
  obtain ⟨W1, hW1⟩ : ∃ W, W0.alloc (.cells #[.string G] 22) = W := ⟨_, rfl⟩
  rw [hW1] at hx1
  have HFW := Lib.hid (show Calls Tryz.prog 24 #[gV M O, .slice (some ⟨W0.heap.size, 0, none⟩) 1 1] W1 (Ret (.bool (few9 M O [G])) W1) from hW1 ▸ HFW.out)
  have HX1 := Lib.hid hx1
  obtain ⟨g0, g1⟩ := (show _ ∧ _ from ⟨HX0.out.1.c0, HX0.out.1.c1⟩)
  obtain ⟨c0, c1, c2⟩ := HX0.out.2.1.c
  clear hx0 hx1 hs
  unfold tpV gV at *
  cases hf : few9 M O [G] with
  | false =>
    rw [hf] at HFW
    clear hf
    go_enter Tryz.func7, Tryz.ntmps7
    go_wp2_with fail
    try rw [hW0, hW1]
    clear hW0 hW1
    refine HFW.out.mono ?_
    rintro ev w2 ⟨rfl, hb⟩
    have HX2 := Lib.hid (HX1.out.next hb)
    clear hb g0 g1 c0 c1 c2
    obtain ⟨g0, g1⟩ := (show _ ∧ _ from ⟨HX2.out.1.c0, HX2.out.1.c1⟩)
    obtain ⟨c0, c1, c2⟩ := HX2.out.2.1.c
    go_wp2_with fail
    refine (HAW.out _).mono ?_
    rintro ev w9 ⟨rfl, hb⟩
    have HB9 := Lib.hid (HX2.out.2.2.2.trans (hb.mono HX2.out.2.2.2.size))
    clear hb
    go_wp2
    go_ret
    exact ⟨rfl, HB9.out⟩
  | true =>
    rw [hf] at HFW
    cases hf2 : few11 l s k with
    | false =>
      rw [hf2] at HFT
      clear hf hf2
      go_enter Tryz.func7, Tryz.ntmps7
      go_wp2_with fail
      try rw [hW0, hW1]
      clear hW0 hW1
      refine HFW.out.mono ?_
      rintro ev w2 ⟨rfl, hb⟩
      have HX2 := Lib.hid (HX1.out.next hb)
      clear hb g0 g1 c0 c1 c2
      obtain ⟨g0, g1⟩ := (show _ ∧ _ from ⟨HX2.out.1.c0, HX2.out.1.c1⟩)
      obtain ⟨c0, c1, c2⟩ := HX2.out.2.1.c
      have HFU := Lib.hid (HFT.out _ HX2.out.2.2.1)
      go_wp2_with fail
      refine HFU.out.mono ?_
      rintro ev w3 ⟨rfl, hb⟩
      have HX3 := Lib.hid (HX2.out.next hb)
      clear hb g0 g1 c0 c1 c2
      go_wp2_with fail
      refine (HAW.out _).mono ?_
      rintro ev w9 ⟨rfl, hb⟩
      have HB9 := Lib.hid (HX3.out.2.2.2.trans (hb.mono HX3.out.2.2.2.size))
      clear hb
      go_wp2
      go_ret
      exact ⟨rfl, HB9.out⟩
    | true =>
      obtain ⟨hM, hO, hl⟩ := few9_of hf
      have hG := hl G (by simp)
      unfold few11 at hf2
      rw [Bool.and_eq_true] at hf2
      obtain ⟨hl80, hs40, hz16⟩ := fewT_of hf2.1
      have hn : n ≤ 1000 := by have := HLN.out; omega
      have hp : ∀ x ∈ l, x.size ≤ 9223372036854775807 := fun x hx => by have := hz16 x hx; omega
      have HM1 := Lib.hid (fun W (hb : Below w.heap.size w W) hs => sc_Make_of M O G l s k A n cap hM (by omega) (by omega) hn hp W (fun h W' hb' hs' => coB l s k O A n cap hn hp (by omega) w ht h W' (hb.trans (hb'.mono hb.size)) hs') hs)
      rw [show few11 l s k = true from by unfold few11; rw [hf2.1, hf2.2]; rfl] at HFT
      obtain ⟨e, he⟩ : ∃ e, (mkN M O G l s k).2.2 = e := ⟨_, rfl⟩
      by_cases he0 : e = 0
      · rw [he0] at he
        obtain ⟨x, hmk, hx0, hxO, hck, hgg, vO, vM, hsc⟩ := mk_ok hM he
        rw [hmk, show mkK M O G (num G ^ x % num M, x, 0) = #[.string M, .string O, .string G, .string (nS (num G ^ x % num M))] from rfl] at HM1
        have h8 := mkN_size vO hM hck vM
        have lO := num_small h8
        have lx : x < 256 ^ 128 := lt128_of_lt8 (by omega)
        have hgp := genK_parts hgg
        have HFR := Lib.hid (fun w => int_From x lx w)
        rw [show intV (x : Int) = zV false (nS x) from by unfold intV; rw [Int.natAbs_natCast, decide_eq_false (by omega)]] at HFR
        have HEX := Lib.hid (pw_Exp M O G false (nS x) hM h8 (by omega) (by have := nS_size_le.2 lx; omega))
        rw [ex_nat2 hck hgp.2.1 hgp.1 lx] at HEX
        have HCM := Lib.hid (nat_Cmp (nS x) (nS (num O)) (by have := nS_size_le.2 lx; omega) (by have := nS_size_le.2 (nvalid_lt vO); omega))
        rw [ncmp_n lx (nvalid_lt vO), ← nS_num vO] at HCM
        have hcm : cmpI x (num O) < 0 := by rw [cmpI_ltC]; exact hxO
        obtain ⟨k1, hk1⟩ : ∃ k, cmpI x (num O) = k := ⟨_, rfl⟩
        rw [hk1] at HCM hcm
        have hsy : (nS (num G ^ x % num M)).size ≤ 1000 := by
          have hv := (scK_ok hsc).1
          have := nS_size_le.2 (nvalid_lt (all_four hv).2.2.2)
          rw [num_nS] at this
          omega
        have HCK := Lib.hid (sc_Check M O G (nS (num G ^ x % num M)) hM (by omega) (by omega) hsy)
        rw [hsc] at HCK
        have hxe : (nS x).toList.isEmpty = false := empty_nS hx0
        obtain ⟨y, hy⟩ : ∃ y, nS (num G ^ x % num M) = y := ⟨_, rfl⟩
        rw [hy] at HEX HCK HM1
        obtain ⟨z, hz⟩ : ∃ z, nS x = z := ⟨_, rfl⟩
        unfold RetM at HM1
        rw [hz] at HM1 HFR HEX HCM hxe
        obtain ⟨t, htp⟩ : ∃ t, tpN 0 l s k = t := ⟨_, rfl⟩
        obtain ⟨tl, ts, tk⟩ := t
        rw [htp] at HM1
        obtain ⟨m, hm⟩ : ∃ m, tl.length = m := ⟨_, rfl⟩
        simp only [] at HM1
        rw [hm] at HM1
        unfold tpV gV zV kV at *
        clear hf hf2 hM hO hl hG hl80 hs40 hz16 hn hp he htp hm ht hmk hx0 hxO hck hgg vO vM hsc h8 lO lx hgp hk1 hsy hy hz he0
        go_enter Tryz.func7, Tryz.ntmps7
        go_wp2_with fail
        try rw [hW0, hW1]
        clear hW0 hW1
        refine HFW.out.mono ?_
        rintro ev w2 ⟨rfl, hb⟩
        have HX2 := Lib.hid (HX1.out.next hb)
        clear hb g0 g1 c0 c1 c2
        obtain ⟨g0, g1⟩ := (show _ ∧ _ from ⟨HX2.out.1.c0, HX2.out.1.c1⟩)
        obtain ⟨c0, c1, c2⟩ := HX2.out.2.1.c
        have HFU := Lib.hid (HFT.out _ HX2.out.2.2.1)
        go_wp2_with fail
        refine HFU.out.mono ?_
        rintro ev w3 ⟨rfl, hb⟩
        have HX3 := Lib.hid (HX2.out.next hb)
        clear hb g0 g1 c0 c1 c2
        obtain ⟨g0, g1⟩ := (show _ ∧ _ from ⟨HX3.out.1.c0, HX3.out.1.c1⟩)
        obtain ⟨c0, c1, c2⟩ := HX3.out.2.1.c
        have HMA := Lib.hid (HM1.out _ HX3.out.2.2.2 HX3.out.2.2.1)
        go_wp2_with fail
        refine HMA.out.mono ?_
        rintro ev w4 ⟨A1, c1', rfl, hsl1, _, hb⟩
        have HSL1 := Lib.hid hsl1
        have HX4 := Lib.hid (HX3.out.next hb)
        clear hb g0 g1 c0 c1 c2 hsl1
        go_upto_region 4 with (fail)
        obtain ⟨hkt, hb⟩ := KT.new w4 M O G y A1 m c1' ts tk tl HSL1.out
        obtain ⟨W5, hW5⟩ : ∃ W, (w4.alloc (.cells #[.string M, .string O, .string G, .string y] 46)).alloc (.cells #[.slice A1 m c1', .string ts, .int .i64 tk] 31) = W := ⟨_, rfl⟩
        obtain ⟨P5, hP5⟩ : ∃ P, w4.heap.size = P := ⟨_, rfl⟩
        rw [hW5] at hkt hb ⊢
        rw [hP5] at hkt ⊢
        have HK5 := Lib.hid hkt
        have HX5 := Lib.hid (HX4.out.next hb)
        clear hkt hb hW5 hP5
        go_wp2
        obtain ⟨wd, hwd⟩ : ∃ wd, W5.drew = wd := ⟨_, rfl⟩
        have hbd : Below W5.heap.size W5 wd := by rw [← hwd]; exact (Below.refl _ _).drew
        have HXD := Lib.hid (HX5.out.next hbd)
        have HKD := Lib.hid (HK5.out.next hbd)
        clear hbd
        have g0 := HXD.out.1.c0
        have g1 := HXD.out.1.c1
        refine wp_region_K 10 (Below (wd).heap.size (wd)) (by kernel_rfl) ?_
        intro hD
        rw [hwd]
        refine wpAnyK_takeSD (i := 0) (d := some 46) (v := ?v6_0b1) (fuel := 9) rfl (by kernel_rfl) (by kernel_rfl) (by kernel_rfl) (fun _ _ _ h => h) hD (Below.refl _ _) (.inl ⟨by kernel_rfl, ?y6_0b1⟩) ?n6_0b1
        case y6_0b1 => intro w' hS'; have e0 := cell_kept hS' (Nat.le_refl _) g0; have e1 := cell_kept hS' (Nat.le_refl _) g1; go_simp; with_reducible rfl
        clear hD; intro hD
        simp only [Act.put, sqA, sqB, sqC]
        refine wpAnyK_pureD (i := 1) (d := some 47) (v := ?v6_1b1) (fuel := 8) rfl (by kernel_rfl) (by kernel_rfl) (fun _ _ _ h => h) hD (Below.refl _ _) (.inl ⟨by kernel_rfl, ?y6_1b1⟩) ?n6_1b1
        case y6_1b1 => intro w' _; go_simp; with_reducible rfl
        clear hD; intro hD
        simp only [Act.put, sqA, sqB, sqC]
        refine wpAnyK_pureD (i := 2) (d := some 48) (v := ?v6_2b1) (fuel := 7) rfl (by kernel_rfl) (by kernel_rfl) (fun _ _ _ h => h) hD (Below.refl _ _) (.inl ⟨by kernel_rfl, ?y6_2b1⟩) ?n6_2b1
        case y6_2b1 => intro w' _; go_simp; with_reducible rfl
        clear hD; intro hD
        simp only [Act.put, sqA, sqB, sqC]
        refine wpAnyK_one (i := 3) (fuel := 6) (by kernel_rfl) rfl hD ?_
        clear hD; intro K3 hK3
        go_wp2_with fail
        refine (HFR.out _).mono ?_
        rintro ev w5 ⟨rfl, hb⟩
        have HB3 := Lib.hid hb
        clear hb
        go_wp2
        refine hK3 _ _ (by exact HB3.out) ?_; clear hK3; intro hS_6_3 hD
        refine wpAnyK_one (i := 4) (fuel := 5) (by kernel_rfl) rfl hD ?_
        clear hD; intro K4 hK4
        go_wp2_with fail
        refine (HEX.out _).mono ?_
        rintro ev w6 ⟨rfl, hb⟩
        have HB4 := Lib.hid hb
        clear hb
        go_wp2
        refine hK4 _ _ (by exact Below.trans hS_6_3 (Below.mono HB4.out (Below.size hS_6_3))) ?_; clear hK4; intro hS_6_4 hD
        refine wpAnyK_pureD (i := 5) (d := some 45) (v := ?v6_5b1) (fuel := 4) rfl (by kernel_rfl) (by kernel_rfl) (fun _ _ _ h => h) hD hS_6_4 (.inl ⟨by kernel_rfl, ?y6_5b1⟩) ?n6_5b1
        case y6_5b1 => intro w' _; go_simp; with_reducible rfl
        clear hD; intro hD
        simp only [Act.put, sqA, sqB, sqC]
        refine wpAnyK_pureD (i := 6) (d := some 51) (v := ?v6_6b1) (fuel := 3) rfl (by kernel_rfl) (by kernel_rfl) (fun _ _ _ h => h) hD hS_6_4 (.inl ⟨by kernel_rfl, ?y6_6b1⟩) ?n6_6b1
        case y6_6b1 => intro w' _; go_simp; with_reducible rfl
        clear hD; intro hD
        simp only [Act.put, sqA, sqB, sqC]
        refine wpAnyK_pureD (i := 7) (d := some 52) (v := ?v6_7b1) (fuel := 2) rfl (by kernel_rfl) (by kernel_rfl) (fun _ _ _ h => h) hD hS_6_4 (.inl ⟨by kernel_rfl, ?y6_7b1⟩) ?n6_7b1
        case y6_7b1 => intro w' _; go_simp; with_reducible rfl
        clear hD; intro hD
        simp only [Act.put, sqA, sqB, sqC]
        refine wpAnyK_one (i := 8) (fuel := 1) (by kernel_rfl) rfl hD ?_
        clear hD; intro K8 hK8
        go_wp2
        refine hK8 _ _ (by exact hS_6_4) ?_; clear hK8; intro hS_6_8 hD
        refine wpAnyK_one (i := 9) (fuel := 0) (by kernel_rfl) rfl hD ?_
        clear hD; intro K9 hK9
        go_wp2
        refine hK9 _ _ (by exact hS_6_8) ?_; clear hK9; intro hS_6_9 hD
        have HL := Lib.hid hS_6_9
        refine wpAnyK_done (by kernel_rfl) ?_ 0
        clear hD g0 g1
        have HX6 := Lib.hid (HXD.out.next HL.out)
        have HK6 := Lib.hid (HKD.out.next HL.out)
        have g0 := HX6.out.1.c0
        have g1 := HX6.out.1.c1
        obtain ⟨k0, k1, k2, k3⟩ := HK6.out.1.cells
        go_wp2_with fail
        refine (HCM.out _).mono ?_
        rintro ev w7 ⟨rfl, rfl⟩
        go_wp2_with fail
        refine (HCK.out _).mono ?_
        rintro ev w8 ⟨rfl, hb⟩
        have HX8 := Lib.hid (HX6.out.next hb)
        clear hb g0 g1 k0 k1 k2 k3
        go_wp2_with fail
        refine (HAW.out _).mono ?_
        rintro ev w9 ⟨rfl, hb⟩
        have HB9 := Lib.hid (HX8.out.2.2.2.trans (hb.mono HX8.out.2.2.2.size))
        clear hb
        go_wp2
        go_ret
        exact ⟨rfl, HB9.out⟩
      · obtain ⟨h1, h2⟩ := mk_err (by rw [he]; exact he0)
        rw [he, show mkK M O G (mkN M O G l s k) = #[.string ⟨#[]⟩, .string ⟨#[]⟩, .string ⟨#[]⟩, .string ⟨#[]⟩] from if_neg (by rw [he]; exact he0), h2] at HM1
        obtain ⟨t, htp⟩ : ∃ t, tpN e l s k = t := ⟨_, rfl⟩
        obtain ⟨tl, ts, tk⟩ := t
        unfold RetM at HM1
        rw [htp] at HM1
        obtain ⟨m, hm⟩ : ∃ m, tl.length = m := ⟨_, rfl⟩
        simp only [] at HM1
        rw [hm, show nS 0 = ⟨#[]⟩ from rfl] at HM1
        have HE0 := Lib.hid he0
        unfold tpV gV at *
        clear hf hf2 hM hO hl hG hl80 hs40 hz16 hn hp he htp hm ht h1 h2 he0
        go_enter Tryz.func7, Tryz.ntmps7
        go_wp2_with fail
        try rw [hW0, hW1]
        clear hW0 hW1
        refine HFW.out.mono ?_
        rintro ev w2 ⟨rfl, hb⟩
        have HX2 := Lib.hid (HX1.out.next hb)
        clear hb g0 g1 c0 c1 c2
        obtain ⟨g0, g1⟩ := (show _ ∧ _ from ⟨HX2.out.1.c0, HX2.out.1.c1⟩)
        obtain ⟨c0, c1, c2⟩ := HX2.out.2.1.c
        have HFU := Lib.hid (HFT.out _ HX2.out.2.2.1)
        go_wp2_with fail
        refine HFU.out.mono ?_
        rintro ev w3 ⟨rfl, hb⟩
        have HX3 := Lib.hid (HX2.out.next hb)
        clear hb g0 g1 c0 c1 c2
        obtain ⟨g0, g1⟩ := (show _ ∧ _ from ⟨HX3.out.1.c0, HX3.out.1.c1⟩)
        obtain ⟨c0, c1, c2⟩ := HX3.out.2.1.c
        have HMA := Lib.hid (HM1.out _ HX3.out.2.2.2 HX3.out.2.2.1)
        go_wp2_with fail
        refine HMA.out.mono ?_
        rintro ev w4 ⟨A1, c1', rfl, hsl1, _, hb⟩
        have HSL1 := Lib.hid hsl1
        have HX4 := Lib.hid (HX3.out.next hb)
        clear hb g0 g1 c0 c1 c2 hsl1
        go_upto_region 4 with (fail)
        obtain ⟨hkt, hb⟩ := KT.new w4 ⟨#[]⟩ ⟨#[]⟩ ⟨#[]⟩ ⟨#[]⟩ A1 m c1' ts tk tl HSL1.out
        obtain ⟨W5, hW5⟩ : ∃ W, (w4.alloc (.cells #[.string ⟨#[]⟩, .string ⟨#[]⟩, .string ⟨#[]⟩, .string ⟨#[]⟩] 46)).alloc (.cells #[.slice A1 m c1', .string ts, .int .i64 tk] 31) = W := ⟨_, rfl⟩
        obtain ⟨P5, hP5⟩ : ∃ P, w4.heap.size = P := ⟨_, rfl⟩
        rw [hW5] at hkt hb ⊢
        rw [hP5] at hkt ⊢
        have HK5 := Lib.hid hkt
        have HX5 := Lib.hid (HX4.out.next hb)
        clear hkt hb hW5 hP5
        have he0 := HE0.out
        go_upto_region 5 with (fail)
        clear he0
        obtain ⟨k0, k1, k2, k3⟩ := HK5.out.1.cells
        go_wp2_with fail
        refine (HAW.out _).mono ?_
        rintro ev w9 ⟨rfl, hb⟩
        have HB9 := Lib.hid (HX5.out.2.2.2.trans (hb.mono HX5.out.2.2.2.size))
        clear hb
        go_wp2
        go_ret
        exact ⟨rfl, HB9.out⟩
end Go.Proofs.YtndmjfkmnjejkaaGreatDoor

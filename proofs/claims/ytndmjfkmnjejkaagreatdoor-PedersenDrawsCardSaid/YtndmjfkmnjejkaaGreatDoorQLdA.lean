import Derived.Test.YtndmjfkmnjejkaaGreatDoorQOpU
import Derived.Test.YtndmjfkmnjejkaaGreatDoorQGsa
import Derived.Test.YtndmjfkmnjejkaaGreatDoorQNatA
set_option linter.unusedVariables false
set_option linter.unusedSimpArgs false
namespace Go.Proofs.YtndmjfkmnjejkaaGreatDoor
set_option maxRecDepth 100000
open Go.ChangeShapes Go.WideShapes Go.ChangeAt Go.Deep Go.Joins Go.RowKit
open Go.ChangeMaps (open_string shut_string)
section
variable {H : Type} {enc : TypeId × Value → H} {W : World} {sp : Nat → Bool} {held : Bool}
theorem open_zint {r : Reach} {b0 : Nat} {v : Value} {d : DataW H} {p : List MemPlace} (hv : Value.okWide Tryz.prog W r b0 28 v) (h : DataW.Trod enc Tryz.prog W 0 (fun _ => true) held 28 v d p) : ∃ (bb : Bool) (bt : ByteArray), v = zV bb bt := by
 obtain ⟨cs, rfl, hsz⟩ := okWide_struct Tryz.underlying28 hv
 obtain ⟨c0, c1, rfl⟩ := array2 (hsz.trans (show Tryz.prog.cellsOf 28 = 2 from by kernel_rfl))
 obtain ⟨fuel, hf⟩ := h
 have hf : DataW.trod enc Tryz.prog W 0 (fun _ => true) held fuel 28 [c0, c1] = some (d, p) := hf
 obtain ⟨n3, y3, g3⟩ := trod_at Tryz.underlying28 hf 0 _ rfl 1 (by kernel_rfl)
 have g3 : DataW.trod enc Tryz.prog W 0 (fun _ => true) held n3 4 [c0] = some y3 := g3
 obtain ⟨n4, y4, g4⟩ := trod_at Tryz.underlying28 hf 1 _ rfl 1 (by kernel_rfl)
 have g4 : DataW.trod enc Tryz.prog W 0 (fun _ => true) held n4 22 [c1] = some y4 := g4
 obtain ⟨s0, e0, _⟩ := DataW.trod_bool Tryz.underlying4 g3
 obtain ⟨s1, e1, _⟩ := DataW.trod_string Tryz.underlying22 g4
 simp only [List.cons.injEq, and_true] at e0 e1
 subst e0 e1
 exact ⟨s0, s1, rfl⟩
end
end Go.Proofs.YtndmjfkmnjejkaaGreatDoor
namespace Go.Proofs.YtndmjfkmnjejkaaGreatDoor
open Go.RowKit Go.Shelf
attribute [local go_sem] Oper.semAt_some
theorem SlN.cellX {w : World} {A : Option Addr} {n c : Nat} {l : List ByteArray} (h : SlN w A n c l) {k : Nat} {s : ByteArray} (hk : l[k]? = some s) : ∃ b o, A = some ⟨b, o, none⟩ ∧ w.cell? ⟨b, o + k, none⟩ = some (.string s) := by
 have hlt := (List.getElem?_eq_some_iff.1 hk).1
 obtain ⟨b, o, rfl⟩ := h.head (by have := h.1; omega)
 exact ⟨b, o, rfl, h.get? k hk⟩
def fewT (lim sz sd : Nat) (l : List ByteArray) (s : ByteArray) : Bool := (l.take lim).all (fun s => decide (s.size ≤ sz)) && (decide (l.length ≤ lim) && decide (s.size ≤ sd))
theorem fewT_of {lim sz sd : Nat} {l : List ByteArray} {s : ByteArray} (h : fewT lim sz sd l s = true) : l.length ≤ lim ∧ s.size ≤ sd ∧ ∀ x ∈ l, x.size ≤ sz := by
 unfold fewT at h
 simp only [Bool.and_eq_true, decide_eq_true_eq, List.all_eq_true] at h
 rw [List.take_of_length_le h.2.1] at h
 exact ⟨h.2.1, h.2.2, h.1⟩
theorem fewT_big {lim sz sd : Nat} {l : List ByteArray} {s x : ByteArray} {k : Nat} (hx : l[k]? = some x) (hk : k < lim) (hb : sz < x.size) : fewT lim sz sd l s = false := by
 unfold fewT
 have : (l.take lim).all (fun s => decide (s.size ≤ sz)) = false := by
  rw [List.all_eq_false]
  exact ⟨x, List.mem_of_getElem? (i := k) (by rw [List.getElem?_take_of_lt hk]; exact hx), by simp; omega⟩
 rw [this]; rfl
theorem fewT_all {lim sz sd : Nat} {l : List ByteArray} {s : ByteArray} (h : ∀ j, j < l.length → j < lim → ∃ x, l[j]? = some x ∧ x.size ≤ sz) : fewT lim sz sd l s = (decide (l.length ≤ lim) && decide (s.size ≤ sd)) := by
 unfold fewT
 have : (l.take lim).all (fun s => decide (s.size ≤ sz)) = true := by
  rw [List.all_eq_true]
  intro x hx
  obtain ⟨k, hk⟩ := List.mem_iff_getElem?.1 hx
  have h1 := (List.getElem?_eq_some_iff.1 hk).1
  rw [List.length_take] at h1
  have hkl : k < lim := by omega
  rw [List.getElem?_take_of_lt hkl] at hk
  obtain ⟨x', h2, h3⟩ := h k (by omega) hkl
  rw [hk] at h2
  cases h2
  exact decide_eq_true h3
 rw [this]; rfl
end Go.Proofs.YtndmjfkmnjejkaaGreatDoor
namespace Go.Proofs.YtndmjfkmnjejkaaGreatDoor
set_option maxRecDepth 100000
set_option maxHeartbeats 2000000
open Go.RowKit Go.Shelf
attribute [local go_sem] Oper.semAt_some
def few06 (l : List ByteArray) (s : ByteArray) : Bool := fewT 40 140 100 l s
theorem law06_Few (l : List ByteArray) (s : ByteArray) (k : Int) (A : Option Addr) (n cap : Nat) (w : World) (hs : SlN w A n cap l) : Calls Tryz.prog 13 #[tpV A n cap s k] w (Ret (.bool (few06 l s)) w) := by
 have HT := Hq (TB.new w A n cap s k)
 have HB0 := Hq ((Below.refl w.heap.size w).alloc (Nat.le_refl _) (.cells #[.slice A n cap, .string s, .int .i64 k] 31))
 obtain ⟨c0, c1, c2⟩ := HT.out.c
 have HS := Hq (hs.kept HB0.out (Nat.le_refl _))
 have HLEN := Hq hs.1
 have hcap := hs.2.1
 have hcap2 := hs.2.2.1
 have HR := Hq (show few06 l s = (fewT 40 140 100 l s) from rfl)
 clear hs
 unfold tpV
 go_enter Tryz.func13, Tryz.ntmps13
 go_wp2
 go_loop [3] (fun i => ∃ q : Nat, q ≤ n ∧ q ≤ 40 ∧ i = .int .i64 q ∧ ∀ j, j < q → ∃ x, l[j]? = some x ∧ x.size ≤ 140) (fun i => 40 - (intOf i).toNat)
 case atStart => exact ⟨0, Nat.zero_le _, Nat.zero_le _, rfl, fun j h => by omega⟩
 case round =>
  obtain ⟨q, hq, hq8, rfl, hall⟩ := hrel
  have HALL := Hq hall
  clear hall
  by_cases hin : q < n ∧ q < 40
  · obtain ⟨hlt, hl8⟩ := hin
    obtain ⟨b, o, rfl⟩ := HS.out.head (by omega)
    obtain ⟨x, he⟩ : ∃ s, l[q]? = some s := ⟨_, List.getElem?_eq_getElem (by rw [HLEN.out]; exact hlt)⟩
    have d0 := HS.out.get? q he
    have HE := Hq he
    have hqi : (q : Int) < (n : Int) := by omega
    have hq8i : (q : Int) < 40 := by omega
    have HQ8 := Hq hl8
    have HQN := Hq hlt
    clear he hq hq8 hlt hl8
    by_cases h1 : 140 < x.size
    · have HF := Hq (fewT_big (sd := 100) (s := s) HE.out HQ8.out h1)
      have i1 : decide ((140 : Int) < (x.size : Int)) = true := decide_eq_true (by omega)
      go_wp2
      go_ret
      exact ⟨by rw [HR.out, HF.out]; rfl, HB0.out⟩
    · have i1 : decide ((140 : Int) < (x.size : Int)) = false := decide_eq_false (by omega)
      have H1 := Hq h1
      clear h1
      go_wp2
      go_round
      case rel =>
       refine ⟨q + 1, HQN.out, HQ8.out, by go_num, fun j hj => ?_⟩
       by_cases hjk : j < q
       · exact HALL.out j hjk
       · obtain rfl : j = q := by omega
         exact ⟨x, HE.out, by have := H1.out; omega⟩
      case measure => have := HQ8.out; simp [intOf]; omega
  · have HF := Hq (fewT_all (lim := 40) (sz := 140) (sd := 100) (s := s) (l := l) (fun j hj hj8 => HALL.out j (by have := HLEN.out; omega)))
    have hc : decide ((q : Int) < (n : Int)) = true → decide ((q : Int) < 40) = false := fun h => decide_eq_false (by have := of_decide_eq_true h; omega)
    have hR : few06 l s = (decide (n ≤ 40) && decide (s.size ≤ 100)) := by rw [HR.out, HF.out, HLEN.out]
    have HR2 := Hq hR
    have HQ9 := Hq (show q < n → q = 40 from fun h => by omega)
    clear hR hin hq8 HF HR
    by_cases hqn : q < n
    · obtain rfl := HQ9.out hqn
      have e1 : ((40 : Nat) : Int) < (n : Int) := by omega
      have e2 : decide ((n : Int) ≤ 40) = false := decide_eq_false (by omega)
      have HZ := Hq (show few06 l s = false from by rw [HR2.out, decide_eq_false (by omega : ¬ n ≤ 40)]; rfl)
      clear hq hqn hc
      go_wp2
      go_ret
      exact ⟨by rw [HZ.out]; rfl, HB0.out⟩
    · have e1 : ¬ ((q : Int) < (n : Int)) := by omega
      clear hq hc
      by_cases h8 : n ≤ 40
      · have e2 : decide ((n : Int) ≤ 40) = true := decide_eq_true (by omega)
        by_cases h4 : s.size ≤ 100
        · have e3 : decide ((s.size : Int) ≤ 100) = true := decide_eq_true (by omega)
          have HZ := Hq (show few06 l s = true from by rw [HR2.out, decide_eq_true h8, decide_eq_true h4]; rfl)
          clear h8 h4
          go_wp2
          go_ret
          exact ⟨by rw [HZ.out]; rfl, HB0.out⟩
        · have e3 : decide ((s.size : Int) ≤ 100) = false := decide_eq_false (by omega)
          have HZ := Hq (show few06 l s = false from by rw [HR2.out, decide_eq_true h8, decide_eq_false h4]; rfl)
          clear h8 h4
          go_wp2
          go_ret
          exact ⟨by rw [HZ.out]; rfl, HB0.out⟩
      · have e2 : decide ((n : Int) ≤ 40) = false := decide_eq_false (by omega)
        have HZ := Hq (show few06 l s = false from by rw [HR2.out, decide_eq_false h8]; rfl)
        clear h8
        go_wp2
        go_ret
        exact ⟨by rw [HZ.out]; rfl, HB0.out⟩
theorem r06_Same (l : List ByteArray) (s : ByteArray) (k : Int) (A B : Option Addr) (n c n' c' : Nat) (w : World) (hs : SlN w A n c l) (hs' : SlN w B n' c' l) : Calls Tryz.prog 17 #[tpV A n c s k, tpV B n' c' s k] w (Ret (.bool true) w) := by
 obtain rfl : n' = n := by rw [← hs.1, ← hs'.1]
 have hb1 := ((Below.refl w.heap.size w).alloc (Nat.le_refl _) (.cells #[.slice A n' c, .string s, .int .i64 k] 31)).alloc (by simp) (.cells #[.slice B n' c', .string s, .int .i64 k] 31)
 have ht1 := (TB.new w A n' c s k).nextT ((Below.refl _ _).alloc (Nat.le_refl _) (.cells #[.slice B n' c', .string s, .int .i64 k] 31))
 have ht2 := TB.new (w.alloc (.cells #[.slice A n' c, .string s, .int .i64 k] 31)) B n' c' s k
 rw [World.size_alloc] at ht2
 obtain ⟨W0, hW0⟩ : ∃ W, (w.alloc (.cells #[.slice A n' c, .string s, .int .i64 k] 31)).alloc (.cells #[.slice B n' c', .string s, .int .i64 k] 31) = W := ⟨_, rfl⟩
 rw [hW0] at hb1 ht1 ht2
 obtain ⟨c0, c1, c2⟩ := ht1.c
 obtain ⟨d0, d1, d2⟩ := ht2.c
 have HT1 := Hq ht1
 have HT2 := Hq ht2
 have HB := Hq hb1
 have HS := Hq (hs.kept hb1 (Nat.le_refl _))
 have HS' := Hq (hs'.kept hb1 (Nat.le_refl _))
 have HLEN := Hq hs.1
 have hcap := hs.2.1
 have hcap2 := hs.2.2.1
 have hcap' := hs'.2.1
 have hcap2' := hs'.2.2.1
 clear hb1 ht1 ht2 hs hs'
 unfold tpV
 go_enter Tryz.func17, Tryz.ntmps17
 go_wp2
 try rw [hW0]
 clear hW0
 go_loopw [5] (fun k wr => ∃ j : Nat, j ≤ n' ∧ k = .int .i64 j ∧ Below W0.heap.size W0 wr) (fun k _ => n' - (intOf k).toNat)
 case atStart => exact ⟨0, Nat.zero_le _, rfl, Below.refl _ _⟩
 case round =>
  obtain ⟨j, hj, rfl, hbb⟩ := hrel
  have HBB := Hq hbb
  clear hbb c0 c1 c2 d0 d1 d2
  obtain ⟨c0, c1, c2⟩ := (HT1.out.nextT HBB.out).c
  obtain ⟨d0, d1, d2⟩ := (HT2.out.nextT HBB.out).c
  by_cases hlt : j < n'
  · obtain ⟨y, he⟩ : ∃ y, l[j]? = some y := ⟨_, List.getElem?_eq_getElem (by rw [HLEN.out]; exact hlt)⟩
    obtain ⟨b, o, rfl, e1⟩ := (HS.out.kept HBB.out (Nat.le_refl _)).cellX he
    obtain ⟨b2, o2, rfl, e2⟩ := (HS'.out.kept HBB.out (Nat.le_refl _)).cellX he
    obtain ⟨wd, hwd⟩ : ∃ wd, wr.drew = wd := ⟨_, rfl⟩
    have e1' : wd.cell? ⟨b, o + j, none⟩ = some (.string y) := hwd ▸ e1
    have e2' : wd.cell? ⟨b2, o2 + j, none⟩ = some (.string y) := hwd ▸ e2
    have c0' : wd.cell? ⟨w.heap.size, 0, none⟩ = some (.slice (some ⟨b, o, none⟩) n' c) := hwd ▸ c0
    have d0' : wd.cell? ⟨w.heap.size + 1, 0, none⟩ = some (.slice (some ⟨b2, o2, none⟩) n' c') := hwd ▸ d0
    have HB2 := Hq (show Below W0.heap.size W0 wd from by rw [← hwd]; exact HBB.out.trans ((Below.refl wr.heap.size wr).drew.mono HBB.out.size))
    have hji : (j : Int) < (n' : Int) := by omega
    clear he e1 e2
    go_wp2
    refine wp_region_K 11 (Below (wd).heap.size (wd)) (by kernel_rfl) ?_
    intro hD
    rw [hwd]
    have KK1 := Hq (fun w' (hS' : (Below (wd).heap.size (wd)) w') => And.intro (kC hS' e1') (And.intro (kC hS' e2') (And.intro (kC hS' c0') (kC hS' d0'))))
    refine rP 0 34 10 rfl hD (Below.refl _ _) ?_; clear hD; intro hD; simp only [Act.put, sqA, sqB, sqC]
    refine rT 1 35 9 rfl hD (Below.refl _ _) (by intro w' hS'; obtain ⟨e0, e1, e2, e3⟩ := KK1.out w' hS'; go_simp; with_reducible rfl) ?_; clear hD; intro hD; simp only [Act.put, sqA, sqB, sqC]
    refine rP 2 36 8 rfl hD (Below.refl _ _) ?_; clear hD; intro hD; simp only [Act.put, sqA, sqB, sqC]
    refine rP 3 37 7 rfl hD (Below.refl _ _) ?_; clear hD; intro hD; simp only [Act.put, sqA, sqB, sqC]
    refine rT 4 38 6 rfl hD (Below.refl _ _) (by intro w' hS'; obtain ⟨e0, e1, e2, e3⟩ := KK1.out w' hS'; go_simp; with_reducible rfl) ?_; clear hD; intro hD; simp only [Act.put, sqA, sqB, sqC]
    refine rP 5 39 5 rfl hD (Below.refl _ _) ?_; clear hD; intro hD; simp only [Act.put, sqA, sqB, sqC]
    refine rT 6 40 4 rfl hD (Below.refl _ _) (by intro w' hS'; obtain ⟨e0, e1, e2, e3⟩ := KK1.out w' hS'; go_simp; with_reducible rfl) ?_; clear hD; intro hD; simp only [Act.put, sqA, sqB, sqC]
    refine rP 7 41 3 rfl hD (Below.refl _ _) ?_; clear hD; intro hD; simp only [Act.put, sqA, sqB, sqC]
    refine rP 8 42 2 rfl hD (Below.refl _ _) ?_; clear hD; intro hD; simp only [Act.put, sqA, sqB, sqC]
    refine rT 9 43 1 rfl hD (Below.refl _ _) (by intro w' hS'; obtain ⟨e0, e1, e2, e3⟩ := KK1.out w' hS'; go_simp; with_reducible rfl) ?_; clear hD; intro hD; simp only [Act.put, sqA, sqB, sqC]
    refine rP 10 44 0 rfl hD (Below.refl _ _) ?_; clear hD; intro hD; simp only [Act.put, sqA, sqB, sqC]
    refine wpAnyK_done (by kernel_rfl) ?_ 0
    clear hD
    go_wp2
    go_roundw
    case rel => exact ⟨j + 1, by omega, by go_num, HB2.out⟩
    case measure => simp [intOf]; omega
  · obtain rfl : j = n' := by omega
    clear hlt hj
    go_wp2
    go_ret
    exact ⟨rfl, HB.out.trans (HBB.out.mono HB.out.size)⟩
theorem pk_tape (l : List ByteArray) (s : ByteArray) (k : Int) (A : Option Addr) (n cap : Nat) (w : World) (hs : SlN w A n cap l) (hp : ∀ x ∈ l, x.size ≤ 9223372036854775807) : Calls Tryz.prog 47 #[tpV A n cap s k] w (Ret (.bool (tpG l k)) w) := by
 have HT := Hq (TB.new w A n cap s k)
 have HB0 := Hq ((Below.refl w.heap.size w).alloc (Nat.le_refl _) (.cells #[.slice A n cap, .string s, .int .i64 k] 31))
 obtain ⟨c0, c1, c2⟩ := HT.out.c
 have HS := Hq (hs.kept HB0.out (Nat.le_refl _))
 have HLEN := Hq hs.1
 have hcap := hs.2.1
 have hcap2 := hs.2.2.1
 have HR := Hq (show tpG l k = (decide (0 ≤ k) && decide (k ≤ 2147483647) && l.all nvalid) from rfl)
 have HP := Hq hp
 clear hs hp
 unfold tpV
 go_enter Tryz.func47, Tryz.ntmps47
 go_wp2
 go_loop [8] (fun i => ∃ q : Nat, q ≤ n ∧ i = .int .i64 q ∧ ∀ j, j < q → ∃ x, l[j]? = some x ∧ nvalid x = true) (fun i => n - (intOf i).toNat)
 case atStart => exact ⟨0, Nat.zero_le _, rfl, fun j h => by omega⟩
 case round =>
  obtain ⟨q, hq, rfl, hall⟩ := hrel
  have HALL := Hq hall
  clear hall
  by_cases hlt : q < n
  · obtain ⟨b, o, rfl⟩ := HS.out.head (by omega)
    obtain ⟨x, he⟩ : ∃ s, l[q]? = some s := ⟨_, List.getElem?_eq_getElem (by rw [HLEN.out]; exact hlt)⟩
    have d0 := HS.out.get? q he
    have HE := Hq he
    have HV := Hq (nat_Valid x (HP.out x (List.mem_of_getElem? he)))
    clear he
    cases hv : nvalid x with
    | false =>
     rw [hv] at HV
     have HZ := Hq (show tpG l k = false from by
      rw [HR.out, show l.all nvalid = false from by rw [List.all_eq_false]; exact ⟨x, List.mem_of_getElem? HE.out, by simp [hv]⟩, Bool.and_false])
     clear hv
     go_wp2_with fail
     refine (HV.out _).mono ?_
     rintro e w1 ⟨rfl, rfl⟩
     go_wp2
     go_ret
     exact ⟨by rw [HZ.out]; rfl, HB0.out⟩
    | true =>
     rw [hv] at HV
     have HVV := Hq hv
     clear hv
     go_wp2_with fail
     refine (HV.out _).mono ?_
     rintro e w1 ⟨rfl, rfl⟩
     go_wp2
     go_round
     case rel =>
      refine ⟨q + 1, by omega, by go_num, fun j hj => ?_⟩
      by_cases hjk : j < q
      · exact HALL.out j hjk
      · obtain rfl : j = q := by omega
        exact ⟨x, HE.out, HVV.out⟩
     case measure => simp [intOf]; omega
  · obtain rfl : q = n := by omega
    have hav : l.all nvalid = true := by
     rw [List.all_eq_true]
     intro x hx
     obtain ⟨j, hj⟩ := List.mem_iff_getElem?.1 hx
     obtain ⟨x', h1, h2⟩ := HALL.out j (by have := (List.getElem?_eq_some_iff.1 hj).1; have := HLEN.out; omega)
     rw [hj] at h1
     cases h1
     exact h2
    have HRR := Hq (show tpG l k = (decide (0 ≤ k) && decide (k ≤ 2147483647)) from by rw [HR.out, hav, Bool.and_true])
    clear hav hlt hq
    by_cases h0 : 0 ≤ k
    · by_cases h1 : k ≤ 2147483647
      · have HZ := Hq (show tpG l k = true from by rw [HRR.out, decide_eq_true h0, decide_eq_true h1]; rfl)
        go_wp2
        go_ret
        exact ⟨by rw [HZ.out]; rfl, HB0.out⟩
      · have HZ := Hq (show tpG l k = false from by rw [HRR.out, decide_eq_false h1, Bool.and_false])
        have h1' : decide (k ≤ 2147483647) = false := decide_eq_false h1
        clear h1
        go_wp2
        go_ret
        exact ⟨by rw [HZ.out]; rfl, HB0.out⟩
    · have HZ := Hq (show tpG l k = false from by rw [HRR.out, decide_eq_false h0, Bool.false_and])
      have h0' : decide (0 ≤ k) = false := decide_eq_false h0
      clear h0
      go_wp2
      go_ret
      exact ⟨by rw [HZ.out]; rfl, HB0.out⟩
end Go.Proofs.YtndmjfkmnjejkaaGreatDoor
namespace Go.Proofs.YtndmjfkmnjejkaaGreatDoor
def vN (f : Nat → Nat) : Nat → Nat
 | 0 => 0
 | n + 1 => vN f n + f n * 256 ^ n
theorem vN_lt {f : Nat → Nat} : ∀ {n : Nat}, (∀ i, i < n → f i < 256) → vN f n < 256 ^ n
 | 0, _ => Nat.one_pos
 | n + 1, h => by
  have h1 := vN_lt (n := n) (fun i hi => h i (by omega))
  have h2 : f n + 1 ≤ 256 := h n (by omega)
  have h3 := Nat.mul_le_mul_right (256 ^ n) h2
  unfold vN
  rw [Nat.pow_succ]
  rw [Nat.add_mul] at h3
  omega
theorem vN_congr {f g : Nat → Nat} : ∀ {n : Nat}, (∀ i, i < n → f i = g i) → vN f n = vN g n
 | 0, _ => rfl
 | n + 1, h => by unfold vN; rw [vN_congr (n := n) (fun i hi => h i (by omega)), h n (by omega)]
theorem vN_dig (v : Nat) : ∀ n, vN (dig v) n = v % 256 ^ n
 | 0 => by rw [Nat.pow_zero, Nat.mod_one]; rfl
 | n + 1 => by
  unfold vN
  rw [vN_dig v n, Nat.pow_succ, Nat.mod_mul, dig, Nat.mul_comm (256 ^ n)]
theorem vN_split (f : Nat → Nat) (j : Nat) : ∀ k, vN f (j + k) = vN f j + 256 ^ j * vN (fun i => f (j + i)) k
 | 0 => rfl
 | k + 1 => by
  show vN f (j + k) + f (j + k) * 256 ^ (j + k) = _ + 256 ^ j * (vN (fun i => f (j + i)) k + f (j + k) * 256 ^ k)
  rw [vN_split f j k, Nat.pow_add, Nat.mul_add, Nat.add_assoc]
  congr 1
  congr 1
  rw [Nat.mul_left_comm]
theorem vN_div {f : Nat → Nat} {j k : Nat} (h : ∀ i, i < j → f i < 256) : vN f (j + k) / 256 ^ j = vN (fun i => f (j + i)) k := by
 rw [vN_split, Nat.add_mul_div_left _ _ (Nat.pow_pos (by decide)), Nat.div_eq_of_lt (vN_lt h), Nat.zero_add]
theorem dig_vN {f : Nat → Nat} {n : Nat} (h : ∀ i, i < n → f i < 256) {i : Nat} (hi : i < n) : dig (vN f n) i = f i := by
 obtain ⟨k, rfl⟩ : ∃ k, n = i + (1 + k) := ⟨n - i - 1, by omega⟩
 unfold dig
 rw [vN_div (fun j hj => h j (by omega)), vN_split]
 show (0 + f (i + 0) * 256 ^ 0 + 256 ^ 1 * _) % 256 = _
 rw [Nat.pow_one, Nat.add_mul_mod_self_left, Nat.zero_add, Nat.pow_zero, Nat.mul_one, Nat.add_zero]
 exact Nat.mod_eq_of_lt (h i (by omega))
theorem dig_scaled {v s i : Nat} (hs : s ≤ 7) : dig (v * 2 ^ s) (i + 1) = dig v (i + 1) * 2 ^ s % 256 + dig v i / 2 ^ (8 - s) := by
 unfold dig
 have e : v * 2 ^ s / 256 ^ (i + 1) = v / 256 ^ i / 2 ^ (8 - s) := by
  rw [Nat.pow_succ, show (256 : Nat) = 2 ^ (8 - s) * 2 ^ s from by rw [← Nat.pow_add, show 8 - s + s = 8 from by omega], ← Nat.mul_assoc, Nat.mul_div_mul_right _ _ (Nat.pow_pos (by decide)), Nat.div_div_eq_div_mul]
 have e2 : v / 256 ^ (i + 1) = v / 256 ^ i / 256 := by rw [Nat.pow_succ, Nat.div_div_eq_div_mul]
 rw [e, e2]
 generalize v / 256 ^ i = z
 match s, hs with
 | 0, _ => simp only [Nat.pow_zero, Nat.mul_one]; omega
 | 1, _ => simp only [Nat.reducePow, Nat.reduceSub]; omega
 | 2, _ => simp only [Nat.reducePow, Nat.reduceSub]; omega
 | 3, _ => simp only [Nat.reducePow, Nat.reduceSub]; omega
 | 4, _ => simp only [Nat.reducePow, Nat.reduceSub]; omega
 | 5, _ => simp only [Nat.reducePow, Nat.reduceSub]; omega
 | 6, _ => simp only [Nat.reducePow, Nat.reduceSub]; omega
 | 7, _ => simp only [Nat.reducePow, Nat.reduceSub]; omega
theorem dig_scaled0 {v s : Nat} : dig (v * 2 ^ s) 0 = dig v 0 * 2 ^ s % 256 := by
 unfold dig
 rw [Nat.pow_zero, Nat.div_one, Nat.div_one, Nat.mod_mul_mod]
theorem dig_back {v s i : Nat} (hs : s ≤ 7) : dig (v / 2 ^ s) i = (dig v i + dig v (i + 1) * 256) / 2 ^ s % 256 := by
 unfold dig
 have e2 : v / 256 ^ (i + 1) = v / 256 ^ i / 256 := by rw [Nat.pow_succ, Nat.div_div_eq_div_mul]
 rw [e2, Nat.div_div_eq_div_mul, Nat.mul_comm, ← Nat.div_div_eq_div_mul]
 generalize v / 256 ^ i = z
 match s, hs with
 | 0, _ => simp only [Nat.pow_zero, Nat.div_one]; omega
 | 1, _ => simp only [Nat.reducePow]; omega
 | 2, _ => simp only [Nat.reducePow]; omega
 | 3, _ => simp only [Nat.reducePow]; omega
 | 4, _ => simp only [Nat.reducePow]; omega
 | 5, _ => simp only [Nat.reducePow]; omega
 | 6, _ => simp only [Nat.reducePow]; omega
 | 7, _ => simp only [Nat.reducePow]; omega
theorem guess_ge {u d : Nat → Nat} {n : Nat} (hn : 0 < n) (hu : ∀ i, i < n + 1 → u i < 256) (hd : 0 < d (n - 1)) (h : vN u (n + 1) < 256 * vN d n) : vN u (n + 1) / vN d n ≤ min ((u n * 256 + u (n - 1)) / d (n - 1)) 255 := by
 obtain ⟨m, rfl⟩ : ∃ m, n = m + 1 := ⟨n - 1, by omega⟩
 rw [Nat.add_sub_cancel] at *
 have hD : 0 < vN d (m + 1) := by omega
 have h1 : vN u (m + 1 + 1) / vN d (m + 1) < 256 := by rw [Nat.div_lt_iff_lt_mul hD]; omega
 refine Nat.le_min.2 ⟨?_, by omega⟩
 rw [Nat.le_div_iff_mul_le hd]
 have h2 := Nat.div_mul_le_self (vN u (m + 1 + 1)) (vN d (m + 1))
 generalize vN u (m + 1 + 1) / vN d (m + 1) = q at *
 have h3 : vN u m < 256 ^ m := vN_lt (fun i hi => hu i (by omega))
 have e1 : vN u (m + 1 + 1) = vN u m + (u (m + 1) * 256 + u m) * 256 ^ m := by
  show vN u m + u m * 256 ^ m + u (m + 1) * 256 ^ (m + 1) = _
  rw [Nat.pow_succ]; grind
 have e2 : vN d (m + 1) = vN d m + d m * 256 ^ m := rfl
 rw [e1, e2] at h2
 have hP : 0 < 256 ^ m := Nat.pow_pos (by decide)
 generalize 256 ^ m = P at *
 generalize u (m + 1) * 256 + u m = U at *
 have h4 : q * d m * P < (U + 1) * P := by
  have : q * (vN d m + d m * P) = q * vN d m + q * d m * P := by rw [Nat.mul_add, Nat.mul_assoc]
  rw [Nat.add_mul]
  omega
 have := Nat.lt_of_mul_lt_mul_right h4
 omega
theorem ms_step {x g d r c b b2 P V1 V2 V3 : Nat} (h : x + (c + g * d) % 256 + b = r + 256 * b2) (ih : V1 + g * V2 = V3 + (c + b) * P) : (V1 + x * P) + g * (V2 + d * P) = (V3 + r * P) + ((c + g * d) / 256 + b2) * (256 * P) := by
 have h2 : x + g * d + c + b = r + ((c + g * d) / 256 + b2) * 256 := by omega
 generalize (c + g * d) / 256 = c2 at *
 grind
theorem ab_step {x d r c P V1 V2 V3 : Nat} (h : x = c + (r + d)) (ih : V1 + c * P = V3 + V2) : (V1 + x % 256 * P) + x / 256 * (256 * P) = (V3 + r * P) + (V2 + d * P) := by
 have h2 : x % 256 + x / 256 * 256 = c + (r + d) := by omega
 generalize x / 256 = c2 at *
 generalize x % 256 = c1 at *
 grind
theorem ld_round {f f' : Nat → Nat} {A D n j L : Nat} (hf : ∀ i, i < L → f i < 256) (hL : j + n < L) (hD : 0 < D) (hDn : D < 256 ^ n) (hV : vN f L = A % (D * 256 ^ (j + 1))) (hlo : ∀ k, k < j → f' k = f k) (hhi : ∀ k, j + n < k → f' k = f k)
 (hw : vN (fun i => f' (j + i)) (n + 1) = vN (fun i => f (j + i)) (n + 1) % D) : vN f' L = A % (D * 256 ^ j) := by
 obtain ⟨k, rfl⟩ : ∃ k, L = j + ((n + 1) + k) := ⟨L - j - n - 1, by omega⟩
 have hPj : 0 < 256 ^ j := Nat.pow_pos (by decide)
 have hlt : vN f (j + ((n + 1) + k)) < 256 ^ (j + (n + 1)) := by
  rw [hV]
  have h1 : A % (D * 256 ^ (j + 1)) < D * 256 ^ (j + 1) := Nat.mod_lt _ (Nat.mul_pos hD (Nat.pow_pos (by decide)))
  have h2 : D * 256 ^ (j + 1) ≤ 256 ^ n * 256 ^ (j + 1) := Nat.mul_le_mul_right _ (Nat.le_of_lt hDn)
  rw [← Nat.pow_add] at h2
  rw [show j + (n + 1) = n + (j + 1) from by omega]
  omega
 have hup : vN (fun i => f (j + ((n + 1) + i))) k = 0 := by
  have h1 := vN_div (f := f) (j := j + (n + 1)) (k := k) (fun i hi => hf i (by omega))
  rw [Nat.add_assoc, Nat.div_eq_of_lt hlt] at h1
  rw [h1]
  exact vN_congr (fun i _ => congrArg f (by omega))
 have hup' : vN (fun i => f' (j + ((n + 1) + i))) k = 0 := by rw [← hup]; exact vN_congr (fun i _ => hhi _ (by omega))
 have e1 : vN f' (j + ((n + 1) + k)) = vN f j + 256 ^ j * (vN (fun i => f (j + i)) (n + 1) % D) := by
  rw [vN_split, vN_split, hup', Nat.mul_zero, Nat.add_zero, hw, vN_congr hlo]
 have e2 : vN f (j + ((n + 1) + k)) = vN f j + 256 ^ j * vN (fun i => f (j + i)) (n + 1) := by
  rw [vN_split, vN_split (fun i => f (j + i)), hup, Nat.mul_zero, Nat.add_zero]
 have hl : vN f j < 256 ^ j := vN_lt (fun i hi => hf i (by omega))
 rw [e1]
 have e3 : A % (D * 256 ^ j) = (A % (D * 256 ^ (j + 1))) % (D * 256 ^ j) := by
  rw [Nat.pow_succ, ← Nat.mul_assoc, Nat.mod_mul_right_mod]
 rw [e3, ← hV, e2]
 generalize vN (fun i => f (j + i)) (n + 1) = U
 rw [Nat.mul_comm D, Nat.mod_mul, Nat.add_mul_mod_self_left, Nat.mod_eq_of_lt hl, Nat.add_mul_div_left _ _ hPj, Nat.div_eq_of_lt hl, Nat.zero_add]
theorem ld_digit {f : Nat → Nat} {A D n j L : Nat} (hf : ∀ i, i < L → f i < 256) (hL : j + n < L) (hD : 0 < D) (hDn : D < 256 ^ n) (hV : vN f L = A % (D * 256 ^ (j + 1))) : vN (fun i => f (j + i)) (n + 1) = vN f L / 256 ^ j ∧ vN (fun i => f (j + i)) (n + 1) < 256 * D ∧ vN (fun i => f (j + i)) (n + 1) / D = dig (A / D) j := by
 obtain ⟨k, rfl⟩ : ∃ k, L = j + ((n + 1) + k) := ⟨L - j - n - 1, by omega⟩
 have hPj : 0 < 256 ^ j := Nat.pow_pos (by decide)
 have h1 : vN f (j + ((n + 1) + k)) < D * 256 ^ (j + 1) := by rw [hV]; exact Nat.mod_lt _ (Nat.mul_pos hD (Nat.pow_pos (by decide)))
 have hlt : vN f (j + ((n + 1) + k)) < 256 ^ (j + (n + 1)) := by
  have h2 : D * 256 ^ (j + 1) ≤ 256 ^ n * 256 ^ (j + 1) := Nat.mul_le_mul_right _ (Nat.le_of_lt hDn)
  rw [← Nat.pow_add] at h2
  rw [show j + (n + 1) = n + (j + 1) from by omega]
  omega
 have hup : vN (fun i => f (j + ((n + 1) + i))) k = 0 := by
  have h1 := vN_div (f := f) (j := j + (n + 1)) (k := k) (fun i hi => hf i (by omega))
  rw [Nat.add_assoc, Nat.div_eq_of_lt hlt] at h1
  rw [h1]
  exact vN_congr (fun i _ => congrArg f (by omega))
 have e0 : vN f (j + ((n + 1) + k)) / 256 ^ j = vN (fun i => f (j + i)) (n + 1) := by
  rw [vN_div (fun i hi => hf i (by omega)), vN_split (fun i => f (j + i)), hup, Nat.mul_zero, Nat.add_zero]
 have e1 : vN (fun i => f (j + i)) (n + 1) < 256 * D := by
  rw [← e0, Nat.div_lt_iff_lt_mul hPj]
  rw [Nat.pow_succ] at h1
  grind
 refine ⟨e0.symm, e1, ?_⟩
 rw [← e0, hV, Nat.div_div_eq_div_mul, Nat.pow_succ, ← Nat.mul_assoc, Nat.mul_comm (256 ^ j) D, Nat.mod_mul_right_div_self]
 unfold dig
 rw [Nat.div_div_eq_div_mul]
theorem ld_start {A B s n L : Nat} (hnL : n ≤ L) (hA : A < 256 ^ L) (hB : 256 ^ (n - 1) ≤ B) (hn : 0 < n) : A * 2 ^ s = A * 2 ^ s % (B * 2 ^ s * 256 ^ (L - n + 1)) := by
 refine (Nat.mod_eq_of_lt ?_).symm
 have h1 : 256 ^ L ≤ B * 256 ^ (L - n + 1) := by
  have := Nat.mul_le_mul_right (256 ^ (L - n + 1)) hB
  rw [← Nat.pow_add, show n - 1 + (L - n + 1) = L from by omega] at this
  exact this
 have hP : 0 < 2 ^ s := Nat.pow_pos (by decide)
 rw [Nat.mul_right_comm]
 exact Nat.mul_lt_mul_of_pos_right (by omega) hP
end Go.Proofs.YtndmjfkmnjejkaaGreatDoor

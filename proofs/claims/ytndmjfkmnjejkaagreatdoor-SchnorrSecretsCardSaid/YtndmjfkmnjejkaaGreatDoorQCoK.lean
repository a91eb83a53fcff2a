/- Walk: schnorr.Make, over a contract of coins.Below. -/
import Derived.Test.YtndmjfkmnjejkaaGreatDoorQScE
import Derived.Test.YtndmjfkmnjejkaaGreatDoorQCoD
import Derived.Deep.Cut
import Derived.Test.YtndmjfkmnjejkaaGreatDoorQCoB
import Derived.Test.YtndmjfkmnjejkaaGreatDoorQCtB
set_option linter.unusedVariables false
set_option linter.unusedSimpArgs false
namespace Go.Proofs.YtndmjfkmnjejkaaGreatDoor
open Go.RowKit Go.Lib
def mkN (M O G : ByteArray) (l : List ByteArray) (s : ByteArray) (k : Int) : Nat × Nat × Int :=
  if ([M, O, G].all nvalid && tpG l k) = true then
    if chkK M O = 0 then
      if (O.toList.isEmpty || !genK M O G) = true then (0, 0, 13)
      else if (coN l s k (nS (num O - 1))).2 = 0 then
        (if num G ^ ((coN l s k (nS (num O - 1))).1 + 1) % num M = 1 then (0, 0, 13) else (num G ^ ((coN l s k (nS (num O - 1))).1 + 1) % num M, (coN l s k (nS (num O - 1))).1 + 1, 0))
      else (0, 0, (coN l s k (nS (num O - 1))).2)
    else (0, 0, chkK M O)
  else (0, 0, 3)
def mkK (M O G : ByteArray) (r : Nat × Nat × Int) : Array Value := if r.2.2 = 0 then #[.string M, .string O, .string G, .string (nS r.1)] else #[.string ⟨#[]⟩, .string ⟨#[]⟩, .string ⟨#[]⟩, .string ⟨#[]⟩]
def RetM (K : Array Value) (x : Nat) (t : List ByteArray × ByteArray × Int) (e : Int) (w : World) (en : Ending) (w' : World) : Prop :=
  ∃ A c, en = .returned (.tuple #[.agg K, .string (nS x), .agg #[.slice A t.1.length c, .string t.2.1, .int .i64 t.2.2], .int .i64 e]) ∧ SlN w' A t.1.length c t.1 ∧ (∀ b o, A = some ⟨b, o, none⟩ → w.heap.size ≤ b) ∧ Below w.heap.size w w'
def MB (w W : World) (M O : ByteArray) (A : Option Addr) (n cap : Nat) (s : ByteArray) (k : Int) (l : List ByteArray) : Prop :=
  Bx2 W w.heap.size (.string M) (.string O) 24 ∧ TB W (w.heap.size + 1) A n cap s k ∧ Bx4 W (w.heap.size + 1 + 1) (.string ⟨#[]⟩) (.string ⟨#[]⟩) (.string ⟨#[]⟩) (.string ⟨#[]⟩) 46 ∧ TB W (w.heap.size + 1 + 1 + 1) none 0 0 ⟨#[]⟩ 0 ∧ SlN W A n cap l ∧ Below w.heap.size w W
theorem MB.nextM {w W W' : World} {M O : ByteArray} {A : Option Addr} {n cap : Nat} {s : ByteArray} {k : Int} {l : List ByteArray} (h : MB w W M O A n cap s k l) (hb : Below W.heap.size W W') : MB w W' M O A n cap s k l :=
  ⟨h.1.next hb, h.2.1.nextT hb, h.2.2.1.next hb, h.2.2.2.1.nextT hb, h.2.2.2.2.1.kept hb (Nat.le_refl _), h.2.2.2.2.2.trans (hb.mono h.2.2.2.2.2.size)⟩
theorem MB.newM (w : World) (M O : ByteArray) (A : Option Addr) (n cap : Nat) (s : ByteArray) (k : Int) (l : List ByteArray) (hs : SlN w A n cap l) :
    MB w ((((w.alloc (.cells #[.string M, .string O] 24)).alloc (.cells #[.slice A n cap, .string s, .int .i64 k] 31)).alloc (.cells #[.string ⟨#[]⟩, .string ⟨#[]⟩, .string ⟨#[]⟩, .string ⟨#[]⟩] 46)).alloc (.cells #[.slice none 0 0, .string ⟨#[]⟩, .int .i64 0] 31)) M O A n cap s k l := by
  obtain ⟨w1, h1⟩ : ∃ W, w.alloc (.cells #[.string M, .string O] 24) = W := ⟨_, rfl⟩
  have b1 : Below w.heap.size w w1 := h1 ▸ (Below.refl _ _).alloc (Nat.le_refl _) _
  have x1 : Bx2 w1 w.heap.size (.string M) (.string O) 24 := h1 ▸ Bx2.new _ _ _ _
  have s1 : w1.heap.size = w.heap.size + 1 := by rw [← h1]; simp
  rw [h1]
  obtain ⟨w2, h2⟩ : ∃ W, w1.alloc (.cells #[.slice A n cap, .string s, .int .i64 k] 31) = W := ⟨_, rfl⟩
  have b2 : Below w1.heap.size w1 w2 := h2 ▸ (Below.refl _ _).alloc (Nat.le_refl _) _
  have x2 : TB w2 w1.heap.size A n cap s k := h2 ▸ TB.new _ _ _ _ _ _
  have s2 : w2.heap.size = w.heap.size + 1 + 1 := by rw [← h2]; simp [s1]
  rw [h2]
  obtain ⟨w3, h3⟩ : ∃ W, w2.alloc (.cells #[.string ⟨#[]⟩, .string ⟨#[]⟩, .string ⟨#[]⟩, .string ⟨#[]⟩] 46) = W := ⟨_, rfl⟩
  have b3 : Below w2.heap.size w2 w3 := h3 ▸ (Below.refl _ _).alloc (Nat.le_refl _) _
  have x3 : Bx4 w3 w2.heap.size (.string ⟨#[]⟩) (.string ⟨#[]⟩) (.string ⟨#[]⟩) (.string ⟨#[]⟩) 46 := h3 ▸ Bx4.new _ _ _ _ _ _
  have s3 : w3.heap.size = w.heap.size + 1 + 1 + 1 := by rw [← h3]; simp [s2]
  rw [h3]
  obtain ⟨w4, h4⟩ : ∃ W, w3.alloc (.cells #[.slice none 0 0, .string ⟨#[]⟩, .int .i64 0] 31) = W := ⟨_, rfl⟩
  have b4 : Below w3.heap.size w3 w4 := h4 ▸ (Below.refl _ _).alloc (Nat.le_refl _) _
  have x4 : TB w4 w3.heap.size none 0 0 ⟨#[]⟩ 0 := h4 ▸ TB.new _ _ _ _ _ _
  rw [h4]
  rw [s1] at x2
  rw [s2] at x3
  rw [s3] at x4
  have bb := ((b1.trans (b2.mono b1.size)).trans (b3.mono (by rw [s2]; omega))).trans (b4.mono (by rw [s3]; omega))
  exact ⟨((x1.next b2).next b3).next b4, (x2.nextT b3).nextT b4, x3.next b4, x4, hs.kept bb (Nat.le_refl _), bb⟩
theorem Bx4.off3 {W : World} {B C : Nat} {x y z u a b c : Value} {T : TypeId} (h : Bx4 W B x y z u T) (hne : B ≠ C) : Bx4 (((W.setCell ⟨C, 0, none⟩ a).setCell ⟨C, 1, none⟩ b).setCell ⟨C, 2, none⟩ c) B x y z u T := ((h.other hne _).other hne _).other hne _
theorem TB.off4 {W : World} {B C : Nat} {A : Option Addr} {n c : Nat} {s : ByteArray} {a : Int} {x y z u : Value} (h : TB W B A n c s a) (hne : B ≠ C) : TB ((((W.setCell ⟨C, 0, none⟩ x).setCell ⟨C, 1, none⟩ y).setCell ⟨C, 2, none⟩ z).setCell ⟨C, 3, none⟩ u) B A n c s a := (((h.off hne _).off hne _).off hne _).off hne _
theorem bx2_off3 {W : World} {B C : Nat} {x y a b c : Value} {T : TypeId} (h : Bx2 W B x y T) (hne : B ≠ C) : Bx2 (((W.setCell ⟨C, 0, none⟩ a).setCell ⟨C, 1, none⟩ b).setCell ⟨C, 2, none⟩ c) B x y T :=
  (heap_setCell_other _ _ _ _ hne).trans ((heap_setCell_other _ _ _ _ hne).trans ((heap_setCell_other _ _ _ _ hne).trans h))
theorem bx2_off4 {W : World} {B C : Nat} {x y a b c d : Value} {T : TypeId} (h : Bx2 W B x y T) (hne : B ≠ C) : Bx2 ((((W.setCell ⟨C, 0, none⟩ a).setCell ⟨C, 1, none⟩ b).setCell ⟨C, 2, none⟩ c).setCell ⟨C, 3, none⟩ d) B x y T :=
  (heap_setCell_other _ _ _ _ hne).trans (bx2_off3 h hne)
theorem MB.stored {w W : World} {M O : ByteArray} {A : Option Addr} {n cap : Nat} {s : ByteArray} {k : Int} {l : List ByteArray} (h : MB w W M O A n cap s k l) (x y z u : Value) (A' : Option Addr) (n' c' : Nat) (s' : ByteArray) (a' : Int) :
    Bx4 (((((((W.setCell ⟨w.heap.size + 1 + 1, 0, none⟩ x).setCell ⟨w.heap.size + 1 + 1, 1, none⟩ y).setCell ⟨w.heap.size + 1 + 1, 2, none⟩ z).setCell ⟨w.heap.size + 1 + 1, 3, none⟩ u).setCell ⟨w.heap.size + 1 + 1 + 1, 0, none⟩ (.slice A' n' c')).setCell ⟨w.heap.size + 1 + 1 + 1, 1, none⟩ (.string s')).setCell ⟨w.heap.size + 1 + 1 + 1, 2, none⟩ (.int .i64 a')) (w.heap.size + 1 + 1) x y z u 46 ∧
    TB (((((((W.setCell ⟨w.heap.size + 1 + 1, 0, none⟩ x).setCell ⟨w.heap.size + 1 + 1, 1, none⟩ y).setCell ⟨w.heap.size + 1 + 1, 2, none⟩ z).setCell ⟨w.heap.size + 1 + 1, 3, none⟩ u).setCell ⟨w.heap.size + 1 + 1 + 1, 0, none⟩ (.slice A' n' c')).setCell ⟨w.heap.size + 1 + 1 + 1, 1, none⟩ (.string s')).setCell ⟨w.heap.size + 1 + 1 + 1, 2, none⟩ (.int .i64 a')) (w.heap.size + 1 + 1 + 1) A' n' c' s' a' ∧
    Below w.heap.size w (((((((W.setCell ⟨w.heap.size + 1 + 1, 0, none⟩ x).setCell ⟨w.heap.size + 1 + 1, 1, none⟩ y).setCell ⟨w.heap.size + 1 + 1, 2, none⟩ z).setCell ⟨w.heap.size + 1 + 1, 3, none⟩ u).setCell ⟨w.heap.size + 1 + 1 + 1, 0, none⟩ (.slice A' n' c')).setCell ⟨w.heap.size + 1 + 1 + 1, 1, none⟩ (.string s')).setCell ⟨w.heap.size + 1 + 1 + 1, 2, none⟩ (.int .i64 a')) :=
  ⟨(h.2.2.1.set4).off3 (by omega), (h.2.2.2.1.off4 (by omega)).set3, below_set3 (below_set4 h.2.2.2.2.2 (by omega) _ _ _ _) (by omega) _ _ _⟩
theorem coN_lt {l : List ByteArray} {s : ByteArray} {k : Int} {B : ByteArray} (h : (coN l s k B).2 = 0) : (coN l s k B).1 < num B := by
  unfold coN at *
  split
  · rename_i h1
    rw [if_pos h1] at h
    split
    · rename_i h2; rw [if_pos h2] at h; cases h
    · rename_i h2; rw [if_neg h2] at h; exact dwN_ok h
  · rename_i h1; rw [if_neg h1] at h; cases h
theorem mkN_size {M O : ByteArray} (h : nvalid O = true) (hM : M.size ≤ 8) (hc : chkK M O = 0) (vM : nvalid M = true) : O.size ≤ 8 :=
  chk_small (M := M) (O := O) (G := M) (Y := M) (by simp [h, vM]) hM hc
set_option maxRecDepth 100000 in
set_option maxHeartbeats 8000000 in
theorem sc_Make_of (M O G : ByteArray) (l : List ByteArray) (s : ByteArray) (k : Int) (A : Option Addr) (n cap : Nat) (hM : M.size ≤ 8) (hO : O.size ≤ 100) (hG : G.size ≤ 1000) (hn : n ≤ 1000) (hp : ∀ x ∈ l, x.size ≤ 9223372036854775807) (w : World)
    (hd : num O < 18446744073709551616 → ∀ W, Below w.heap.size w W → SlN W A n cap l → Calls Tryz.prog 49 #[tpV A n cap s k, .string (nS (num O - 1))] W (RetC (coN l s k (nS (num O - 1))) (tpN (coN l s k (nS (num O - 1))).2 l s k) W)) (hs : SlN w A n cap l) :
    Calls Tryz.prog 26 #[gV M O, .string G, tpV A n cap s k] w (RetM (mkK M O G (mkN M O G l s k)) (mkN M O G l s k).2.1 (tpN (mkN M O G l s k).2.2 l s k) (mkN M O G l s k).2.2 w) := by
  have hx0 := MB.newM w M O A n cap s k l hs
  obtain ⟨W0, hW0⟩ : ∃ W, (((w.alloc (.cells #[.string M, .string O] 24)).alloc (.cells #[.slice A n cap, .string s, .int .i64 k] 31)).alloc (.cells #[.string ⟨#[]⟩, .string ⟨#[]⟩, .string ⟨#[]⟩, .string ⟨#[]⟩] 46)).alloc (.cells #[.slice none 0 0, .string ⟨#[]⟩, .int .i64 0] 31) = W := ⟨_, rfl⟩
  rw [hW0] at hx0
  have HX0 := Lib.hid hx0
  have HFM := Lib.hid (fun W : World => sc_formed [M, O, G] (some ⟨W.heap.size, 0, none⟩) 3 3 (by omega) (by
    intro z hz
    simp at hz
    rcases hz with h | h | h <;> subst h <;> omega) (W.alloc (.cells #[.string M, .string O, .string G] 22)) (sln_alloc W [M, O, G] 22 (by simp)))
  have HGT := Lib.hid (fun W hs => sc_goodTape l s k A n cap W hs hn hp)
  have HCK := Lib.hid (pw_CheckW M O hM hO)
  have HRN := Lib.hid (show mkN M O G l s k = _ from rfl)
  have hX1 := HX0.out.nextM ((Below.refl _ _).alloc (Nat.le_refl _) (.cells #[.string M, .string O, .string G] 22))
  have HFMM := Lib.hid (HFM.out W0)
  obtain ⟨W1, hW1⟩ : ∃ W, W0.alloc (.cells #[.string M, .string O, .string G] 22) = W := ⟨_, rfl⟩
  rw [hW1] at hX1 HFMM
  have HX1 := Lib.hid hX1
  obtain ⟨g0, g1⟩ := (show _ ∧ _ from ⟨HX0.out.1.c0, HX0.out.1.c1⟩)
  obtain ⟨c0, c1, c2⟩ := HX0.out.2.1.c
  unfold tpV gV at *
  clear hx0 hX1 hs HFM
  cases hv : [M, O, G].all nvalid with
  | false =>
    rw [hv] at HFMM
    rw [show mkN M O G l s k = (0, 0, 3) from by unfold mkN; rw [hv]; rfl]
    clear hv hd hp
    go_enter Tryz.func26, Tryz.ntmps26
    go_wp2_with fail
    try rw [hW0, hW1]
    clear hW0 hW1
    refine HFMM.out.mono ?_
    rintro ev w2 ⟨rfl, rfl⟩
    clear g0 g1 c0 c1 c2
    obtain ⟨k0, k1, k2, k3⟩ := HX1.out.2.2.1.cells
    have kf := HX1.out.2.2.1.free
    obtain ⟨r0, r1, r2⟩ := HX1.out.2.2.2.1.c
    have rf := HX1.out.2.2.2.1.f
    have kf0 := kf 0
    have kf1 := kf 1
    have kf2 := kf 2
    have kf3 := kf 3
    have rf0 := rf 0
    have rf1 := rf 1
    have rf2 := rf 2
    obtain ⟨hq4, hq3, hqb⟩ := HX1.out.stored (.string ⟨#[]⟩) (.string ⟨#[]⟩) (.string ⟨#[]⟩) (.string ⟨#[]⟩) none 0 0 ⟨#[]⟩ 0
    obtain ⟨q0, q1, q2, q3⟩ := hq4.cells
    obtain ⟨p0, p1, p2⟩ := hq3.c
    have HQB := Lib.hid hqb
    clear kf rf hq4 hq3 hqb
    go_wp2
    refine bodyPost_ret (v := .tuple #[.agg #[.string ⟨#[]⟩, .string ⟨#[]⟩, .string ⟨#[]⟩, .string ⟨#[]⟩], .string ⟨#[]⟩, .agg #[.slice none 0 0, .string ⟨#[]⟩, .int .i64 0], .int .i64 3]) (by simp [results, Tryz.results26, go_sem, q0, q1, q2, q3, p0, p1, p2]) rfl ?_
    exact ⟨none, 0, rfl, SlN.nil _ 0 (by omega) none, (fun b o h => by cases h), HQB.out⟩
  | true =>
    rw [hv] at HFMM
    have hv3 : nvalid M = true ∧ nvalid O = true ∧ nvalid G = true := by
      simp only [List.all_cons, List.all_nil, Bool.and_true, Bool.and_eq_true] at hv
      exact ⟨hv.1, hv.2.1, hv.2.2⟩
    have HGTT := Lib.hid (HGT.out W1 HX1.out.2.2.2.2.1)
    cases hg : tpG l k with
    | false =>
      rw [hg] at HGTT
      rw [show mkN M O G l s k = (0, 0, 3) from by unfold mkN; rw [hv, hg]; rfl]
      clear hv hg hd hp
      go_enter Tryz.func26, Tryz.ntmps26
      go_wp2_with fail
      try rw [hW0, hW1]
      clear hW0 hW1
      refine HFMM.out.mono ?_
      rintro ev w2 ⟨rfl, rfl⟩
      clear g0 g1 c0 c1 c2
      obtain ⟨g0, g1⟩ := (show _ ∧ _ from ⟨HX1.out.1.c0, HX1.out.1.c1⟩)
      obtain ⟨c0, c1, c2⟩ := HX1.out.2.1.c
      go_wp2_with fail
      refine HGTT.out.mono ?_
      rintro ev w2 ⟨rfl, hb⟩
      have HX2 := Lib.hid (HX1.out.nextM hb)
      clear hb g0 g1 c0 c1 c2
      obtain ⟨g0, g1⟩ := (show _ ∧ _ from ⟨HX2.out.1.c0, HX2.out.1.c1⟩)
      obtain ⟨c0, c1, c2⟩ := HX2.out.2.1.c
      obtain ⟨k0, k1, k2, k3⟩ := HX2.out.2.2.1.cells
      have kf := HX2.out.2.2.1.free
      obtain ⟨r0, r1, r2⟩ := HX2.out.2.2.2.1.c
      have rf := HX2.out.2.2.2.1.f
      have kf0 := kf 0
      have kf1 := kf 1
      have kf2 := kf 2
      have kf3 := kf 3
      have rf0 := rf 0
      have rf1 := rf 1
      have rf2 := rf 2
      obtain ⟨hq4, hq3, hqb⟩ := HX2.out.stored (.string ⟨#[]⟩) (.string ⟨#[]⟩) (.string ⟨#[]⟩) (.string ⟨#[]⟩) none 0 0 ⟨#[]⟩ 0
      obtain ⟨q0, q1, q2, q3⟩ := hq4.cells
      obtain ⟨p0, p1, p2⟩ := hq3.c
      have HQB := Lib.hid hqb
      clear kf rf hq4 hq3 hqb
      go_wp2
      refine bodyPost_ret (v := .tuple #[.agg #[.string ⟨#[]⟩, .string ⟨#[]⟩, .string ⟨#[]⟩, .string ⟨#[]⟩], .string ⟨#[]⟩, .agg #[.slice none 0 0, .string ⟨#[]⟩, .int .i64 0], .int .i64 3]) (by simp [results, Tryz.results26, go_sem, q0, q1, q2, q3, p0, p1, p2]) rfl ?_
      exact ⟨none, 0, rfl, SlN.nil _ 0 (by omega) none, (fun b o h => by cases h), HQB.out⟩
    | true =>
      rw [hg] at HGTT
      by_cases hc : chkK M O = 0
      · rw [hc] at HCK
        have h8 := mkN_size hv3.2.1 hM hc hv3.1
        have HGN := Lib.hid (sc_generator M O G hM h8 hv3.2.2)
        cases ho : O.toList.isEmpty with
        | true =>
          rw [show mkN M O G l s k = (0, 0, 13) from by unfold mkN; rw [hv, hg, hc, ho]; rfl]
          clear hv hg hd hp hv3
          try unfold gV at *
          go_enter Tryz.func26, Tryz.ntmps26
          go_wp2_with fail
          try rw [hW0, hW1]
          clear hW0 hW1
          refine HFMM.out.mono ?_
          rintro ev w2 ⟨rfl, rfl⟩
          clear g0 g1 c0 c1 c2
          obtain ⟨g0, g1⟩ := (show _ ∧ _ from ⟨HX1.out.1.c0, HX1.out.1.c1⟩)
          obtain ⟨c0, c1, c2⟩ := HX1.out.2.1.c
          go_wp2_with fail
          refine HGTT.out.mono ?_
          rintro ev w2 ⟨rfl, hb⟩
          have HX2 := Lib.hid (HX1.out.nextM hb)
          clear hb g0 g1 c0 c1 c2
          obtain ⟨g0, g1⟩ := (show _ ∧ _ from ⟨HX2.out.1.c0, HX2.out.1.c1⟩)
          obtain ⟨c0, c1, c2⟩ := HX2.out.2.1.c
          go_wp2_with fail
          refine (HCK.out _).mono ?_
          rintro ev w3 ⟨rfl, hb⟩
          have HX3 := Lib.hid (HX2.out.nextM hb)
          clear hb g0 g1 c0 c1 c2
          obtain ⟨g0, g1⟩ := (show _ ∧ _ from ⟨HX3.out.1.c0, HX3.out.1.c1⟩)
          obtain ⟨c0, c1, c2⟩ := HX3.out.2.1.c
          obtain ⟨k0, k1, k2, k3⟩ := HX3.out.2.2.1.cells
          have kf := HX3.out.2.2.1.free
          obtain ⟨r0, r1, r2⟩ := HX3.out.2.2.2.1.c
          have rf := HX3.out.2.2.2.1.f
          have kf0 := kf 0
          have kf1 := kf 1
          have kf2 := kf 2
          have kf3 := kf 3
          have rf0 := rf 0
          have rf1 := rf 1
          have rf2 := rf 2
          obtain ⟨hq4, hq3, hqb⟩ := HX3.out.stored (.string ⟨#[]⟩) (.string ⟨#[]⟩) (.string ⟨#[]⟩) (.string ⟨#[]⟩) none 0 0 ⟨#[]⟩ 0
          obtain ⟨q0, q1, q2, q3⟩ := hq4.cells
          obtain ⟨p0, p1, p2⟩ := hq3.c
          have HQB := Lib.hid hqb
          clear kf rf hq4 hq3 hqb
          go_wp2
          refine bodyPost_ret (v := .tuple #[.agg #[.string ⟨#[]⟩, .string ⟨#[]⟩, .string ⟨#[]⟩, .string ⟨#[]⟩], .string ⟨#[]⟩, .agg #[.slice none 0 0, .string ⟨#[]⟩, .int .i64 0], .int .i64 13]) (by simp [results, Tryz.results26, go_sem, q0, q1, q2, q3, p0, p1, p2]) rfl ?_
          exact ⟨none, 0, rfl, SlN.nil _ 0 (by omega) none, (fun b o h => by cases h), HQB.out⟩
        | false =>
          obtain ⟨gg, hgg⟩ : ∃ b, genK M O G = b := ⟨_, rfl⟩
          rw [hgg] at HGN
          cases gg with
          | false =>
            rw [show mkN M O G l s k = (0, 0, 13) from by unfold mkN; rw [hv, hg, hc, ho, hgg]; rfl]
            clear hv hg hd hp hv3 hgg
            try unfold gV at *
            go_enter Tryz.func26, Tryz.ntmps26
            go_wp2_with fail
            try rw [hW0, hW1]
            clear hW0 hW1
            refine HFMM.out.mono ?_
            rintro ev w2 ⟨rfl, rfl⟩
            clear g0 g1 c0 c1 c2
            obtain ⟨g0, g1⟩ := (show _ ∧ _ from ⟨HX1.out.1.c0, HX1.out.1.c1⟩)
            obtain ⟨c0, c1, c2⟩ := HX1.out.2.1.c
            go_wp2_with fail
            refine HGTT.out.mono ?_
            rintro ev w2 ⟨rfl, hb⟩
            have HX2 := Lib.hid (HX1.out.nextM hb)
            clear hb g0 g1 c0 c1 c2
            obtain ⟨g0, g1⟩ := (show _ ∧ _ from ⟨HX2.out.1.c0, HX2.out.1.c1⟩)
            obtain ⟨c0, c1, c2⟩ := HX2.out.2.1.c
            go_wp2_with fail
            refine (HCK.out _).mono ?_
            rintro ev w3 ⟨rfl, hb⟩
            have HX3 := Lib.hid (HX2.out.nextM hb)
            clear hb g0 g1 c0 c1 c2
            obtain ⟨g0, g1⟩ := (show _ ∧ _ from ⟨HX3.out.1.c0, HX3.out.1.c1⟩)
            obtain ⟨c0, c1, c2⟩ := HX3.out.2.1.c
            go_wp2_with fail
            refine (HGN.out _).mono ?_
            rintro ev w4 ⟨rfl, hb⟩
            have HX4 := Lib.hid (HX3.out.nextM hb)
            clear hb g0 g1 c0 c1 c2
            obtain ⟨g0, g1⟩ := (show _ ∧ _ from ⟨HX4.out.1.c0, HX4.out.1.c1⟩)
            obtain ⟨c0, c1, c2⟩ := HX4.out.2.1.c
            obtain ⟨k0, k1, k2, k3⟩ := HX4.out.2.2.1.cells
            have kf := HX4.out.2.2.1.free
            obtain ⟨r0, r1, r2⟩ := HX4.out.2.2.2.1.c
            have rf := HX4.out.2.2.2.1.f
            have kf0 := kf 0
            have kf1 := kf 1
            have kf2 := kf 2
            have kf3 := kf 3
            have rf0 := rf 0
            have rf1 := rf 1
            have rf2 := rf 2
            obtain ⟨hq4, hq3, hqb⟩ := HX4.out.stored (.string ⟨#[]⟩) (.string ⟨#[]⟩) (.string ⟨#[]⟩) (.string ⟨#[]⟩) none 0 0 ⟨#[]⟩ 0
            obtain ⟨q0, q1, q2, q3⟩ := hq4.cells
            obtain ⟨p0, p1, p2⟩ := hq3.c
            have HQB := Lib.hid hqb
            clear kf rf hq4 hq3 hqb
            go_wp2
            refine bodyPost_ret (v := .tuple #[.agg #[.string ⟨#[]⟩, .string ⟨#[]⟩, .string ⟨#[]⟩, .string ⟨#[]⟩], .string ⟨#[]⟩, .agg #[.slice none 0 0, .string ⟨#[]⟩, .int .i64 0], .int .i64 13]) (by simp [results, Tryz.results26, go_sem, q0, q1, q2, q3, p0, p1, p2]) rfl ?_
            exact ⟨none, 0, rfl, SlN.nil _ 0 (by omega) none, (fun b o h => by cases h), HQB.out⟩
          | true =>
            have lO := num_small h8
            have lO1 : 1 ≤ num O := by
              rcases Nat.eq_zero_or_pos (num O) with h | h
              · rw [nS_num hv3.2.1, h] at ho
                rw [show (nS 0).toList.isEmpty = true from sempty_true rfl] at ho
                cases ho
              · exact h
            have HSB := Lib.hid (nat_Sub_ge (num O) 1 (lt128_of_lt8 lO) (by decide) lO1)
            rw [← nS_num hv3.2.1, nS_one] at HSB
            have HDD := Lib.hid (hd lO)
            obtain ⟨r, hr⟩ : ∃ r, coN l s k (nS (num O - 1)) = r := ⟨_, rfl⟩
            have hlt : r.2 = 0 → r.1 < num O := fun h => by
              rw [← hr] at h ⊢
              have := coN_lt (l := l) (s := s) (k := k) (B := nS (num O - 1)) h
              rw [num_nS] at this
              omega
            have HRV := Lib.hid (show mkN M O G l s k = (if r.2 = 0 then (if num G ^ (r.1 + 1) % num M = 1 then (0, 0, 13) else (num G ^ (r.1 + 1) % num M, r.1 + 1, 0)) else (0, 0, r.2)) from by
              unfold mkN; rw [hv, hg, hc, ho, hgg, hr]; rfl)
            rw [hr] at HDD
            obtain ⟨c, e⟩ := r
            simp only [] at HRV hlt HDD
            obtain ⟨q, hq⟩ : ∃ q, nS (num O - 1) = q := ⟨_, rfl⟩
            rw [hq] at HDD HSB
            obtain ⟨t, ht⟩ : ∃ t, tpN e l s k = t := ⟨_, rfl⟩
            obtain ⟨tl, ts, tk⟩ := t
            rw [ht] at HDD
            by_cases he : e = 0
            · subst he
              have lc := hlt rfl
              have HAD := Lib.hid (nat_Add c 1 (lt128_of_lt8 (by omega)) (by decide))
              rw [fitR, if_pos (lt128_of_lt8 (by omega)), nS_one] at HAD
              have sG : G.size ≤ 1000 := hG
              have lc1 : c + 1 < 256 ^ 128 := lt128_of_lt8 (by omega)
              have HEX := Lib.hid (pw_Exp M O G false (nS (c + 1)) hM h8 hG (by have := nS_size_le.2 lc1; omega))
              rw [ex_nat2 hc hv3.2.2 (genK_parts hgg).1 lc1] at HEX
              simp only [if_true] at HRV
              have hi1 := nS_is1 (num G ^ (c + 1) % num M)
              obtain ⟨y, hy⟩ : ∃ y, num G ^ (c + 1) % num M = y := ⟨_, rfl⟩
              rw [hy] at HRV HEX hi1
              obtain ⟨x, hx⟩ : ∃ x, nS (c + 1) = x := ⟨_, rfl⟩
              obtain ⟨z, hz⟩ : ∃ z, nS y = z := ⟨_, rfl⟩
              obtain ⟨cz, hcz⟩ : ∃ z, nS c = z := ⟨_, rfl⟩
              rw [hx] at HEX HAD
              rw [hz] at HEX hi1
              rw [hcz] at HAD
              have HCZ := Lib.hid hcz
              have HXX := Lib.hid hx
              have HZZ := Lib.hid hz
              by_cases hy1 : y = 1
              · rw [if_pos hy1] at HRV
                rw [HRV.out]
                have hi1' : (z.toList == [1]) = true := by rw [hi1]; exact decide_eq_true hy1
                clear hv hg hd hp hv3 hgg hr hq ht hlt lc sG lc1 hy hx hz hcz hy1 hi1 HRN HRV hc hM hO hG h8 lO lO1
                unfold gV zV at *
                go_enter Tryz.func26, Tryz.ntmps26
                go_wp2_with fail
                try rw [hW0, hW1]
                clear hW0 hW1
                refine HFMM.out.mono ?_
                rintro ev w2 ⟨rfl, rfl⟩
                clear g0 g1 c0 c1 c2
                obtain ⟨g0, g1⟩ := (show _ ∧ _ from ⟨HX1.out.1.c0, HX1.out.1.c1⟩)
                obtain ⟨c0, c1, c2⟩ := HX1.out.2.1.c
                go_wp2_with fail
                refine HGTT.out.mono ?_
                rintro ev w2 ⟨rfl, hb⟩
                have HX2 := Lib.hid (HX1.out.nextM hb)
                clear hb g0 g1 c0 c1 c2
                obtain ⟨g0, g1⟩ := (show _ ∧ _ from ⟨HX2.out.1.c0, HX2.out.1.c1⟩)
                obtain ⟨c0, c1, c2⟩ := HX2.out.2.1.c
                go_wp2_with fail
                refine (HCK.out _).mono ?_
                rintro ev w3 ⟨rfl, hb⟩
                have HX3 := Lib.hid (HX2.out.nextM hb)
                clear hb g0 g1 c0 c1 c2
                obtain ⟨g0, g1⟩ := (show _ ∧ _ from ⟨HX3.out.1.c0, HX3.out.1.c1⟩)
                obtain ⟨c0, c1, c2⟩ := HX3.out.2.1.c
                go_wp2_with fail
                refine (HGN.out _).mono ?_
                rintro ev w4 ⟨rfl, hb⟩
                have HX4 := Lib.hid (HX3.out.nextM hb)
                clear hb g0 g1 c0 c1 c2
                obtain ⟨g0, g1⟩ := (show _ ∧ _ from ⟨HX4.out.1.c0, HX4.out.1.c1⟩)
                obtain ⟨c0, c1, c2⟩ := HX4.out.2.1.c
                go_wp2_with fail
                refine (HSB.out _).mono ?_
                rintro ev w5 ⟨rfl, hb⟩
                have HX5 := Lib.hid (HX4.out.nextM hb)
                clear hb g0 g1 c0 c1 c2
                obtain ⟨g0, g1⟩ := (show _ ∧ _ from ⟨HX5.out.1.c0, HX5.out.1.c1⟩)
                obtain ⟨c0, c1, c2⟩ := HX5.out.2.1.c
                go_wp2_with fail
                have HDW := Lib.hid (HDD.out w5 HX5.out.2.2.2.2.2 HX5.out.2.2.2.2.1)
                refine HDW.out.mono ?_
                rintro ev w6 ⟨B, cc, rfl, hsl, hfr, hb⟩
                have HSL := Lib.hid hsl
                have HFR := Lib.hid (show ∀ b o, B = some ⟨b, o, none⟩ → w.heap.size + 1 + 1 + 1 < b from fun b o h => Nat.lt_of_lt_of_le HX5.out.2.2.2.1.lt (hfr b o h))
                clear hsl hfr
                have HX6 := Lib.hid (HX5.out.nextM hb)
                clear hb g0 g1 c0 c1 c2
                obtain ⟨g0, g1⟩ := (show _ ∧ _ from ⟨HX6.out.1.c0, HX6.out.1.c1⟩)
                obtain ⟨c0, c1, c2⟩ := HX6.out.2.1.c
                simp only []
                obtain ⟨m, hm⟩ : ∃ m, tl.length = m := ⟨_, rfl⟩
                have HMM := Lib.hid hm
                rw [hm]
                clear hm
                have HLT6 := Lib.hid (show w.heap.size + 1 + 1 + 1 < w6.heap.size from HX6.out.2.2.2.1.lt)
                clear g0 g1 c0 c1 c2
                go_upto_region 10 with (fail)
                obtain ⟨g0, g1⟩ := (show _ ∧ _ from ⟨HX6.out.1.c0, HX6.out.1.c1⟩)
                obtain ⟨c0, c1, c2⟩ := HX6.out.2.1.c
                have hb : Below w6.heap.size w6 (w6.alloc (.cells #[.slice B m cc, .string ts, .int .i64 tk] 31)) := (Below.refl _ _).alloc (Nat.le_refl _) _
                have hp7 := TB.new w6 B m cc ts tk
                obtain ⟨W7, hW7⟩ : ∃ W, w6.alloc (.cells #[.slice B m cc, .string ts, .int .i64 tk] 31) = W := ⟨_, rfl⟩
                obtain ⟨P7, hP7⟩ : ∃ P, w6.heap.size = P := ⟨_, rfl⟩
                rw [hW7] at hb hp7 ⊢
                rw [hP7] at hp7 HLT6 ⊢
                have HP7 := Lib.hid hp7
                have HB67 := Lib.hid hb
                clear hp7 hW7 hP7
                have HX7 := Lib.hid (HX6.out.nextM hb)
                clear hb g0 g1 c0 c1 c2
                obtain ⟨g0, g1⟩ := (show _ ∧ _ from ⟨HX7.out.1.c0, HX7.out.1.c1⟩)
                obtain ⟨c0, c1, c2⟩ := HX7.out.2.1.c
                rw [HCZ.out]
                go_wp2_with fail
                refine (HAD.out _).mono ?_
                rintro ev w8 ⟨rfl, hb⟩
                have HP8 := Lib.hid (HP7.out.nextT hb)
                have HB8 := Lib.hid hb
                have HX8 := Lib.hid (HX7.out.nextM hb)
                clear hb g0 g1 c0 c1 c2
                obtain ⟨g0, g1⟩ := (show _ ∧ _ from ⟨HX8.out.1.c0, HX8.out.1.c1⟩)
                obtain ⟨c0, c1, c2⟩ := HX8.out.2.1.c
                go_wp2_with fail
                refine (HEX.out _).mono ?_
                rintro ev w9 ⟨rfl, hb⟩
                have HP9 := Lib.hid (HP8.out.nextT hb)
                have HB9 := Lib.hid hb
                have HX9 := Lib.hid (HX8.out.nextM hb)
                clear hb g0 g1 c0 c1 c2
                obtain ⟨g0, g1⟩ := (show _ ∧ _ from ⟨HX9.out.1.c0, HX9.out.1.c1⟩)
                obtain ⟨c0, c1, c2⟩ := HX9.out.2.1.c
                obtain ⟨k0, k1, k2, k3⟩ := HX9.out.2.2.1.cells
                have kf := HX9.out.2.2.1.free
                obtain ⟨r0, r1, r2⟩ := HX9.out.2.2.2.1.c
                have rf := HX9.out.2.2.2.1.f
                have kf0 := kf 0
                have kf1 := kf 1
                have kf2 := kf 2
                have kf3 := kf 3
                have rf0 := rf 0
                have rf1 := rf 1
                have rf2 := rf 2
                obtain ⟨hq4, hq3, hqb⟩ := HX9.out.stored (.string ⟨#[]⟩) (.string ⟨#[]⟩) (.string ⟨#[]⟩) (.string ⟨#[]⟩) none 0 0 ⟨#[]⟩ 0
                obtain ⟨q0, q1, q2, q3⟩ := hq4.cells
                obtain ⟨p0, p1, p2⟩ := hq3.c
                have HQB := Lib.hid hqb
                clear kf rf hq4 hq3 hqb
                go_wp2
                refine bodyPost_ret (v := .tuple #[.agg #[.string ⟨#[]⟩, .string ⟨#[]⟩, .string ⟨#[]⟩, .string ⟨#[]⟩], .string ⟨#[]⟩, .agg #[.slice none 0 0, .string ⟨#[]⟩, .int .i64 0], .int .i64 13]) (by simp [results, Tryz.results26, go_sem, q0, q1, q2, q3, p0, p1, p2]) rfl ?_
                exact ⟨none, 0, rfl, SlN.nil _ 0 (by omega) none, (fun b o h => by cases h), HQB.out⟩
              · rw [if_neg hy1] at HRV
                rw [HRV.out]
                have hi1' : (z.toList == [1]) = false := by rw [hi1]; exact decide_eq_false hy1
                have HTT := Lib.hid ht
                clear hv hg hd hp hv3 hgg hr hq ht hlt lc sG lc1 hy hx hz hcz hy1 hi1 HRN HRV hc hM hO hG h8 lO lO1
                unfold gV zV at *
                go_enter Tryz.func26, Tryz.ntmps26
                go_wp2_with fail
                try rw [hW0, hW1]
                clear hW0 hW1
                refine HFMM.out.mono ?_
                rintro ev w2 ⟨rfl, rfl⟩
                clear g0 g1 c0 c1 c2
                obtain ⟨g0, g1⟩ := (show _ ∧ _ from ⟨HX1.out.1.c0, HX1.out.1.c1⟩)
                obtain ⟨c0, c1, c2⟩ := HX1.out.2.1.c
                go_wp2_with fail
                refine HGTT.out.mono ?_
                rintro ev w2 ⟨rfl, hb⟩
                have HX2 := Lib.hid (HX1.out.nextM hb)
                clear hb g0 g1 c0 c1 c2
                obtain ⟨g0, g1⟩ := (show _ ∧ _ from ⟨HX2.out.1.c0, HX2.out.1.c1⟩)
                obtain ⟨c0, c1, c2⟩ := HX2.out.2.1.c
                go_wp2_with fail
                refine (HCK.out _).mono ?_
                rintro ev w3 ⟨rfl, hb⟩
                have HX3 := Lib.hid (HX2.out.nextM hb)
                clear hb g0 g1 c0 c1 c2
                obtain ⟨g0, g1⟩ := (show _ ∧ _ from ⟨HX3.out.1.c0, HX3.out.1.c1⟩)
                obtain ⟨c0, c1, c2⟩ := HX3.out.2.1.c
                go_wp2_with fail
                refine (HGN.out _).mono ?_
                rintro ev w4 ⟨rfl, hb⟩
                have HX4 := Lib.hid (HX3.out.nextM hb)
                clear hb g0 g1 c0 c1 c2
                obtain ⟨g0, g1⟩ := (show _ ∧ _ from ⟨HX4.out.1.c0, HX4.out.1.c1⟩)
                obtain ⟨c0, c1, c2⟩ := HX4.out.2.1.c
                go_wp2_with fail
                refine (HSB.out _).mono ?_
                rintro ev w5 ⟨rfl, hb⟩
                have HX5 := Lib.hid (HX4.out.nextM hb)
                clear hb g0 g1 c0 c1 c2
                obtain ⟨g0, g1⟩ := (show _ ∧ _ from ⟨HX5.out.1.c0, HX5.out.1.c1⟩)
                obtain ⟨c0, c1, c2⟩ := HX5.out.2.1.c
                go_wp2_with fail
                have HDW := Lib.hid (HDD.out w5 HX5.out.2.2.2.2.2 HX5.out.2.2.2.2.1)
                refine HDW.out.mono ?_
                rintro ev w6 ⟨B, cc, rfl, hsl, hfr, hb⟩
                have HSL := Lib.hid hsl
                have HFR := Lib.hid (show ∀ b o, B = some ⟨b, o, none⟩ → w.heap.size + 1 + 1 + 1 < b from fun b o h => Nat.lt_of_lt_of_le HX5.out.2.2.2.1.lt (hfr b o h))
                clear hsl hfr
                have HX6 := Lib.hid (HX5.out.nextM hb)
                clear hb g0 g1 c0 c1 c2
                obtain ⟨g0, g1⟩ := (show _ ∧ _ from ⟨HX6.out.1.c0, HX6.out.1.c1⟩)
                obtain ⟨c0, c1, c2⟩ := HX6.out.2.1.c
                simp only []
                obtain ⟨m, hm⟩ : ∃ m, tl.length = m := ⟨_, rfl⟩
                have HMM := Lib.hid hm
                rw [hm]
                clear hm
                have HLT6 := Lib.hid (show w.heap.size + 1 + 1 + 1 < w6.heap.size from HX6.out.2.2.2.1.lt)
                clear g0 g1 c0 c1 c2
                go_upto_region 10 with (fail)
                obtain ⟨g0, g1⟩ := (show _ ∧ _ from ⟨HX6.out.1.c0, HX6.out.1.c1⟩)
                obtain ⟨c0, c1, c2⟩ := HX6.out.2.1.c
                have hb : Below w6.heap.size w6 (w6.alloc (.cells #[.slice B m cc, .string ts, .int .i64 tk] 31)) := (Below.refl _ _).alloc (Nat.le_refl _) _
                have hp7 := TB.new w6 B m cc ts tk
                obtain ⟨W7, hW7⟩ : ∃ W, w6.alloc (.cells #[.slice B m cc, .string ts, .int .i64 tk] 31) = W := ⟨_, rfl⟩
                obtain ⟨P7, hP7⟩ : ∃ P, w6.heap.size = P := ⟨_, rfl⟩
                rw [hW7] at hb hp7 ⊢
                rw [hP7] at hp7 HLT6 ⊢
                have HP7 := Lib.hid hp7
                have HB67 := Lib.hid hb
                clear hp7 hW7 hP7
                have HX7 := Lib.hid (HX6.out.nextM hb)
                clear hb g0 g1 c0 c1 c2
                obtain ⟨g0, g1⟩ := (show _ ∧ _ from ⟨HX7.out.1.c0, HX7.out.1.c1⟩)
                obtain ⟨c0, c1, c2⟩ := HX7.out.2.1.c
                rw [HCZ.out]
                go_wp2_with fail
                refine (HAD.out _).mono ?_
                rintro ev w8 ⟨rfl, hb⟩
                have HP8 := Lib.hid (HP7.out.nextT hb)
                have HB8 := Lib.hid hb
                have HX8 := Lib.hid (HX7.out.nextM hb)
                clear hb g0 g1 c0 c1 c2
                obtain ⟨g0, g1⟩ := (show _ ∧ _ from ⟨HX8.out.1.c0, HX8.out.1.c1⟩)
                obtain ⟨c0, c1, c2⟩ := HX8.out.2.1.c
                go_wp2_with fail
                refine (HEX.out _).mono ?_
                rintro ev w9 ⟨rfl, hb⟩
                have HP9 := Lib.hid (HP8.out.nextT hb)
                have HB9 := Lib.hid hb
                have HX9 := Lib.hid (HX8.out.nextM hb)
                clear hb g0 g1 c0 c1 c2
                obtain ⟨g0, g1⟩ := (show _ ∧ _ from ⟨HX9.out.1.c0, HX9.out.1.c1⟩)
                obtain ⟨c0, c1, c2⟩ := HX9.out.2.1.c
                go_wp2
                obtain ⟨wd, hwd⟩ : ∃ wd, w9.drew = wd := ⟨_, rfl⟩
                have hbd : Below w9.heap.size w9 wd := by rw [← hwd]; exact (Below.refl _ _).drew
                have HXD := Lib.hid (HX9.out.nextM hbd)
                have HS0 := Lib.hid (show Below w.heap.size w wd ∧ Bx2 wd w.heap.size (.string M) (.string O) 24 ∧ TB wd P7 B m cc ts tk from ⟨(HX9.out.nextM hbd).2.2.2.2.2, (HX9.out.nextM hbd).1, HP9.out.nextT hbd⟩)
                have HSL9 := Lib.hid (HSL.out.kept (show Below w6.heap.size w6 wd from ((HB67.out.trans (HB8.out.mono HB67.out.size)).trans (HB9.out.mono (Nat.le_trans HB67.out.size HB8.out.size))).trans (hbd.mono (Nat.le_trans HB67.out.size (Nat.le_trans HB8.out.size HB9.out.size)))) (Nat.le_refl _))
                clear hbd g0 g1 c0 c1 c2
                obtain ⟨k0, k1, k2, k3⟩ := HXD.out.2.2.1.cells
                have kf := HXD.out.2.2.1.free
                obtain ⟨r0, r1, r2⟩ := HXD.out.2.2.2.1.c
                have rf := HXD.out.2.2.2.1.f
                have kf0 := kf 0
                have kf1 := kf 1
                have kf2 := kf 2
                have kf3 := kf 3
                have rf0 := rf 0
                have rf1 := rf 1
                have rf2 := rf 2
                clear kf rf
                refine wp_region_K 10 (fun W' => Below w.heap.size w W' ∧ Bx2 W' w.heap.size (.string M) (.string O) 24 ∧ TB W' P7 B m cc ts tk) (by kernel_rfl) ?_
                intro hD
                rw [hwd]
                refine wpAnyK_takeSD (i := 0) (d := some 88) (v := ?v16_0b1) (fuel := 9) rfl (by kernel_rfl) (by kernel_rfl) (by kernel_rfl) (fun _ _ _ h => h) hD HS0.out (.inl ⟨by kernel_rfl, ?y16_0b1⟩) ?n16_0b1
                case y16_0b1 => intro w' hS'; have e0 := hS'.2.1.c0; have e1 := hS'.2.1.c1; have e2 := hS'.2.2.c.1; have e3 := hS'.2.2.c.2.1; have e4 := hS'.2.2.c.2.2; go_simp; with_reducible rfl
                clear hD; intro hD
                simp only [Act.put, sqA, sqB, sqC]
                refine wpAnyK_pureD (i := 1) (d := some 89) (v := ?v16_1b1) (fuel := 8) rfl (by kernel_rfl) (by kernel_rfl) (fun _ _ _ h => h) hD HS0.out (.inl ⟨by kernel_rfl, ?y16_1b1⟩) ?n16_1b1
                case y16_1b1 => intro w' _; go_simp; with_reducible rfl
                clear hD; intro hD
                simp only [Act.put, sqA, sqB, sqC]
                refine wpAnyK_pureD (i := 2) (d := some 90) (v := ?v16_2b1) (fuel := 7) rfl (by kernel_rfl) (by kernel_rfl) (fun _ _ _ h => h) hD HS0.out (.inl ⟨by kernel_rfl, ?y16_2b1⟩) ?n16_2b1
                case y16_2b1 => intro w' _; go_simp; with_reducible rfl
                clear hD; intro hD
                simp only [Act.put, sqA, sqB, sqC]
                refine wpAnyK_pureD (i := 3) (d := some 91) (v := ?v16_3b1) (fuel := 6) rfl (by kernel_rfl) (by kernel_rfl) (fun _ _ _ h => h) hD HS0.out (.inl ⟨by kernel_rfl, ?y16_3b1⟩) ?n16_3b1
                case y16_3b1 => intro w' _; go_simp; with_reducible rfl
                clear hD; intro hD
                simp only [Act.put, sqA, sqB, sqC]
                refine wpAnyK_pureD (i := 4) (d := some 92) (v := ?v16_4b1) (fuel := 5) rfl (by kernel_rfl) (by kernel_rfl) (fun _ _ _ h => h) hD HS0.out (.inl ⟨by kernel_rfl, ?y16_4b1⟩) ?n16_4b1
                case y16_4b1 => intro w' _; go_simp; with_reducible rfl
                clear hD; intro hD
                simp only [Act.put, sqA, sqB, sqC]
                refine wpAnyK_takeSD (i := 5) (d := some 93) (v := ?v16_5b1) (fuel := 4) rfl (by kernel_rfl) (by kernel_rfl) (by kernel_rfl) (fun _ _ _ h => h) hD HS0.out (.inl ⟨by kernel_rfl, ?y16_5b1⟩) ?n16_5b1
                case y16_5b1 => intro w' hS'; have e0 := hS'.2.1.c0; have e1 := hS'.2.1.c1; have e2 := hS'.2.2.c.1; have e3 := hS'.2.2.c.2.1; have e4 := hS'.2.2.c.2.2; go_simp; with_reducible rfl
                clear hD; intro hD
                simp only [Act.put, sqA, sqB, sqC]
                refine wpAnyK_one (i := 6) (fuel := 3) (by kernel_rfl) rfl hD ?_
                clear hD; intro K6 hK6
                go_wp2
                refine hK6 _ _ (by exact ⟨below_set4 (HS0.out).1 (by omega) _ _ _ _, bx2_off4 (HS0.out).2.1 (by omega), (HS0.out).2.2.off4 (by have := HLT6.out; omega)⟩) ?_; clear hK6; intro hS_16_6 hD
                refine wpAnyK_one (i := 7) (fuel := 2) (by kernel_rfl) rfl hD ?_
                clear hD; intro K7 hK7
                go_wp2
                refine hK7 _ _ (by exact hS_16_6) ?_; clear hK7; intro hS_16_7 hD
                refine wpAnyK_one (i := 8) (fuel := 1) (by kernel_rfl) rfl hD ?_
                clear hD; intro K8 hK8
                go_wp2
                refine hK8 _ _ (by exact ⟨below_set3 (hS_16_7).1 (by omega) _ _ _, bx2_off3 (hS_16_7).2.1 (by omega), (((hS_16_7).2.2.off (by have := HLT6.out; omega) _).off (by have := HLT6.out; omega) _).off (by have := HLT6.out; omega) _⟩) ?_; clear hK8; intro hS_16_8 hD
                refine wpAnyK_one (i := 9) (fuel := 0) (by kernel_rfl) rfl hD ?_
                clear hD; intro K9 hK9
                go_wp2
                refine hK9 _ _ (by exact hS_16_8) ?_; clear hK9; intro hS_16_9 hD
                refine wpAnyK_done (by kernel_rfl) ?_ 0
                clear hD k0 k1 k2 k3 kf0 kf1 kf2 kf3 r0 r1 r2 rf0 rf1 rf2
                obtain ⟨hq4, hq3, hqb⟩ := HXD.out.stored (.string M) (.string O) (.string G) (.string z) B m cc ts tk
                obtain ⟨q0, q1, q2, q3⟩ := hq4.cells
                obtain ⟨p0, p1, p2⟩ := hq3.c
                have HQB := Lib.hid hqb
                clear hq4 hq3 hqb
                go_wp2
                refine bodyPost_ret (v := .tuple #[.agg #[.string M, .string O, .string G, .string z], .string x, .agg #[.slice B m cc, .string ts, .int .i64 tk], .int .i64 0]) (by simp [results, Tryz.results26, go_sem, q0, q1, q2, q3, p0, p1, p2]) rfl ?_
                rw [HTT.out]
                refine ⟨B, cc, ?_, ?_, (fun b o h => by have := HFR.out b o h; omega), HQB.out⟩
                · show _ = Ending.returned (.tuple #[.agg #[.string M, .string O, .string G, .string (nS y)], .string (nS (c + 1)), .agg #[.slice B tl.length cc, .string ts, .int .i64 tk], .int .i64 0])
                  rw [HMM.out, HZZ.out, HXX.out]
                · show SlN _ B tl.length cc tl
                  have h1 : ∀ b o, B = some ⟨b, o, none⟩ → w.heap.size + 1 + 1 < b := fun b o h => by have := HFR.out b o h; omega
                  have h2 : ∀ b o, B = some ⟨b, o, none⟩ → w.heap.size + 1 + 1 + 1 < b := fun b o h => HFR.out b o h
                  exact ((((((HSL9.out.setB h1).setB h1).setB h1).setB h1).setB h2).setB h2).setB h2
            · rw [if_neg he] at HRV
              rw [HRV.out]
              rw [show tpN e l s k = ([], ⟨#[]⟩, 0) from tpN_err he l s k, show mkK M O G (0, 0, e) = #[.string ⟨#[]⟩, .string ⟨#[]⟩, .string ⟨#[]⟩, .string ⟨#[]⟩] from if_neg he]
              have HNE := Lib.hid he
              clear hv hg hd hp hv3 hgg hr hq ht hlt HRN HRV hc hM hO hG h8 lO lO1 he
              try unfold gV at *
              go_enter Tryz.func26, Tryz.ntmps26
              go_wp2_with fail
              try rw [hW0, hW1]
              clear hW0 hW1
              refine HFMM.out.mono ?_
              rintro ev w2 ⟨rfl, rfl⟩
              clear g0 g1 c0 c1 c2
              obtain ⟨g0, g1⟩ := (show _ ∧ _ from ⟨HX1.out.1.c0, HX1.out.1.c1⟩)
              obtain ⟨c0, c1, c2⟩ := HX1.out.2.1.c
              go_wp2_with fail
              refine HGTT.out.mono ?_
              rintro ev w2 ⟨rfl, hb⟩
              have HX2 := Lib.hid (HX1.out.nextM hb)
              clear hb g0 g1 c0 c1 c2
              obtain ⟨g0, g1⟩ := (show _ ∧ _ from ⟨HX2.out.1.c0, HX2.out.1.c1⟩)
              obtain ⟨c0, c1, c2⟩ := HX2.out.2.1.c
              go_wp2_with fail
              refine (HCK.out _).mono ?_
              rintro ev w3 ⟨rfl, hb⟩
              have HX3 := Lib.hid (HX2.out.nextM hb)
              clear hb g0 g1 c0 c1 c2
              obtain ⟨g0, g1⟩ := (show _ ∧ _ from ⟨HX3.out.1.c0, HX3.out.1.c1⟩)
              obtain ⟨c0, c1, c2⟩ := HX3.out.2.1.c
              go_wp2_with fail
              refine (HGN.out _).mono ?_
              rintro ev w4 ⟨rfl, hb⟩
              have HX4 := Lib.hid (HX3.out.nextM hb)
              clear hb g0 g1 c0 c1 c2
              obtain ⟨g0, g1⟩ := (show _ ∧ _ from ⟨HX4.out.1.c0, HX4.out.1.c1⟩)
              obtain ⟨c0, c1, c2⟩ := HX4.out.2.1.c
              go_wp2_with fail
              refine (HSB.out _).mono ?_
              rintro ev w5 ⟨rfl, hb⟩
              have HX5 := Lib.hid (HX4.out.nextM hb)
              clear hb g0 g1 c0 c1 c2
              obtain ⟨g0, g1⟩ := (show _ ∧ _ from ⟨HX5.out.1.c0, HX5.out.1.c1⟩)
              obtain ⟨c0, c1, c2⟩ := HX5.out.2.1.c
              go_wp2_with fail
              have HDW := Lib.hid (HDD.out w5 HX5.out.2.2.2.2.2 HX5.out.2.2.2.2.1)
              refine HDW.out.mono ?_
              rintro ev w6 ⟨B, cc, rfl, hsl, hfr, hb⟩
              have HSL := Lib.hid hsl
              have HFR := Lib.hid (show ∀ b o, B = some ⟨b, o, none⟩ → w.heap.size + 1 + 1 + 1 < b from fun b o h => Nat.lt_of_lt_of_le HX5.out.2.2.2.1.lt (hfr b o h))
              clear hsl hfr
              have HX6 := Lib.hid (HX5.out.nextM hb)
              clear hb g0 g1 c0 c1 c2
              obtain ⟨g0, g1⟩ := (show _ ∧ _ from ⟨HX6.out.1.c0, HX6.out.1.c1⟩)
              obtain ⟨c0, c1, c2⟩ := HX6.out.2.1.c
              simp only []
              obtain ⟨m, hm⟩ : ∃ m, tl.length = m := ⟨_, rfl⟩
              have HMM := Lib.hid hm
              rw [hm]
              clear hm
              have HLT6 := Lib.hid (show w.heap.size + 1 + 1 + 1 < w6.heap.size from HX6.out.2.2.2.1.lt)
              clear g0 g1 c0 c1 c2
              go_upto_region 10 with (fail)
              obtain ⟨g0, g1⟩ := (show _ ∧ _ from ⟨HX6.out.1.c0, HX6.out.1.c1⟩)
              obtain ⟨c0, c1, c2⟩ := HX6.out.2.1.c
              have hb : Below w6.heap.size w6 (w6.alloc (.cells #[.slice B m cc, .string ts, .int .i64 tk] 31)) := (Below.refl _ _).alloc (Nat.le_refl _) _
              have hp7 := TB.new w6 B m cc ts tk
              obtain ⟨W7, hW7⟩ : ∃ W, w6.alloc (.cells #[.slice B m cc, .string ts, .int .i64 tk] 31) = W := ⟨_, rfl⟩
              obtain ⟨P7, hP7⟩ : ∃ P, w6.heap.size = P := ⟨_, rfl⟩
              rw [hW7] at hb hp7 ⊢
              rw [hP7] at hp7 HLT6 ⊢
              have HP7 := Lib.hid hp7
              have HB67 := Lib.hid hb
              clear hp7 hW7 hP7
              have HX7 := Lib.hid (HX6.out.nextM hb)
              clear hb g0 g1 c0 c1 c2
              obtain ⟨g0, g1⟩ := (show _ ∧ _ from ⟨HX7.out.1.c0, HX7.out.1.c1⟩)
              obtain ⟨c0, c1, c2⟩ := HX7.out.2.1.c
              obtain ⟨cz, hcz⟩ : ∃ z, nS c = z := ⟨_, rfl⟩
              rw [hcz]
              clear hcz
              have he := HNE.out
              go_upto_region 11 with (fail)
              clear he
              obtain ⟨k0, k1, k2, k3⟩ := HX7.out.2.2.1.cells
              have kf := HX7.out.2.2.1.free
              obtain ⟨r0, r1, r2⟩ := HX7.out.2.2.2.1.c
              have rf := HX7.out.2.2.2.1.f
              have kf0 := kf 0
              have kf1 := kf 1
              have kf2 := kf 2
              have kf3 := kf 3
              have rf0 := rf 0
              have rf1 := rf 1
              have rf2 := rf 2
              obtain ⟨hq4, hq3, hqb⟩ := HX7.out.stored (.string ⟨#[]⟩) (.string ⟨#[]⟩) (.string ⟨#[]⟩) (.string ⟨#[]⟩) none 0 0 ⟨#[]⟩ 0
              obtain ⟨q0, q1, q2, q3⟩ := hq4.cells
              obtain ⟨p0, p1, p2⟩ := hq3.c
              have HQB := Lib.hid hqb
              clear kf rf hq4 hq3 hqb
              go_wp2
              refine bodyPost_ret (v := .tuple #[.agg #[.string ⟨#[]⟩, .string ⟨#[]⟩, .string ⟨#[]⟩, .string ⟨#[]⟩], .string ⟨#[]⟩, .agg #[.slice none 0 0, .string ⟨#[]⟩, .int .i64 0], .int .i64 e]) (by simp [results, Tryz.results26, go_sem, q0, q1, q2, q3, p0, p1, p2]) rfl ?_
              exact ⟨none, 0, rfl, SlN.nil _ 0 (by omega) none, (fun b o h => by cases h), HQB.out⟩
      · rw [show mkN M O G l s k = (0, 0, chkK M O) from by unfold mkN; rw [hv, hg, if_pos (by rfl), if_neg hc]]
        obtain ⟨e, he⟩ : ∃ e, chkK M O = e := ⟨_, rfl⟩
        rw [he] at HCK hc ⊢
        rw [show tpN e l s k = ([], ⟨#[]⟩, 0) from tpN_err hc l s k, show mkK M O G (0, 0, e) = #[.string ⟨#[]⟩, .string ⟨#[]⟩, .string ⟨#[]⟩, .string ⟨#[]⟩] from if_neg hc]
        clear hv hg hd hp hv3 he
        try unfold gV at *
        go_enter Tryz.func26, Tryz.ntmps26
        go_wp2_with fail
        try rw [hW0, hW1]
        clear hW0 hW1
        refine HFMM.out.mono ?_
        rintro ev w2 ⟨rfl, rfl⟩
        clear g0 g1 c0 c1 c2
        obtain ⟨g0, g1⟩ := (show _ ∧ _ from ⟨HX1.out.1.c0, HX1.out.1.c1⟩)
        obtain ⟨c0, c1, c2⟩ := HX1.out.2.1.c
        go_wp2_with fail
        refine HGTT.out.mono ?_
        rintro ev w2 ⟨rfl, hb⟩
        have HX2 := Lib.hid (HX1.out.nextM hb)
        clear hb g0 g1 c0 c1 c2
        obtain ⟨g0, g1⟩ := (show _ ∧ _ from ⟨HX2.out.1.c0, HX2.out.1.c1⟩)
        obtain ⟨c0, c1, c2⟩ := HX2.out.2.1.c
        go_wp2_with fail
        refine (HCK.out _).mono ?_
        rintro ev w3 ⟨rfl, hb⟩
        have HX3 := Lib.hid (HX2.out.nextM hb)
        clear hb g0 g1 c0 c1 c2
        obtain ⟨g0, g1⟩ := (show _ ∧ _ from ⟨HX3.out.1.c0, HX3.out.1.c1⟩)
        obtain ⟨c0, c1, c2⟩ := HX3.out.2.1.c
        go_upto_region 5 with (fail)
        clear hc
        obtain ⟨k0, k1, k2, k3⟩ := HX3.out.2.2.1.cells
        have kf := HX3.out.2.2.1.free
        obtain ⟨r0, r1, r2⟩ := HX3.out.2.2.2.1.c
        have rf := HX3.out.2.2.2.1.f
        have kf0 := kf 0
        have kf1 := kf 1
        have kf2 := kf 2
        have kf3 := kf 3
        have rf0 := rf 0
        have rf1 := rf 1
        have rf2 := rf 2
        obtain ⟨hq4, hq3, hqb⟩ := HX3.out.stored (.string ⟨#[]⟩) (.string ⟨#[]⟩) (.string ⟨#[]⟩) (.string ⟨#[]⟩) none 0 0 ⟨#[]⟩ 0
        obtain ⟨q0, q1, q2, q3⟩ := hq4.cells
        obtain ⟨p0, p1, p2⟩ := hq3.c
        have HQB := Lib.hid hqb
        clear kf rf hq4 hq3 hqb
        go_wp2
        refine bodyPost_ret (v := .tuple #[.agg #[.string ⟨#[]⟩, .string ⟨#[]⟩, .string ⟨#[]⟩, .string ⟨#[]⟩], .string ⟨#[]⟩, .agg #[.slice none 0 0, .string ⟨#[]⟩, .int .i64 0], .int .i64 e]) (by simp [results, Tryz.results26, go_sem, q0, q1, q2, q3, p0, p1, p2]) rfl ?_
        exact ⟨none, 0, rfl, SlN.nil _ 0 (by omega) none, (fun b o h => by cases h), HQB.out⟩
end Go.Proofs.YtndmjfkmnjejkaaGreatDoor
/- Walks: dominoref33.raise, secret; the commitment of a signature as one plain number. -/
set_option linter.unusedVariables false
set_option linter.unusedSimpArgs false
namespace Go.Proofs.YtndmjfkmnjejkaaGreatDoor
open Go.RowKit Go.Lib
set_option maxRecDepth 100000 in
set_option maxHeartbeats 1000000 in
theorem r33_raise (M O x e : ByteArray) (hM : M.size ≤ 8) (vM : nvalid M = true) (hm : 0 < num M) (vx : nvalid x = true) (ve : nvalid e = true) (w : World) : Calls Tryz.prog 82 #[gV M O, .string x, .string e] w (Ret (.string (nS (num x ^ num e % num M))) w) := by
  have HEX := Lib.hid (r03_Exp (num x) (num e) (num M) (nvalid_lt vx) (nvalid_lt ve) (num_small hM) hm)
  rw [← nS_num vx, ← nS_num ve, ← nS_num vM] at HEX
  obtain ⟨z, hz⟩ : ∃ z, nS (num x ^ num e % num M) = z := ⟨_, rfl⟩
  rw [hz] at HEX ⊢
  have HX0 := Lib.hid (Bx2.new w (.string M) (.string O) 24)
  have HB0 := Lib.hid ((Below.refl w.heap.size w).alloc (Nat.le_refl _) (.cells #[.string M, .string O] 24))
  have c0 := HX0.out.c0
  unfold gV
  clear hz hM vM hm vx ve
  go_enter Tryz.func82, Tryz.ntmps82
  go_wp2_with fail
  refine (HEX.out _).mono ?_
  rintro ev w1 ⟨rfl, hb⟩
  have HB1 := Lib.hid (HB0.out.trans (hb.mono HB0.out.size))
  clear hb c0
  go_wp2
  go_ret
  exact ⟨rfl, HB1.out⟩
def cmS (m q g y c r : Nat) : Nat := g ^ r * y ^ (q - c) % m
theorem pz_neg {m y i q c : Nat} (hu : Un m y i) (hp : y ^ q % m = 1) (hc : c < q) : pz m y (-(c : Int)) = y ^ (q - c) % m := by
  rw [← pz_nat]
  have h1 := pz_red hu hp (-(c : Int))
  have h2 := pz_red hu hp ((q - c : Nat) : Int)
  rw [← h1, ← h2]
  congr 1
  have e : ((q - c : Nat) : Int) = -(c : Int) + q * 1 := by omega
  rw [e, Int.add_mul_emod_self_left]
theorem cmS_pz {m y i q g c r : Nat} (hu : Un m y i) (hp : y ^ q % m = 1) (hc : c < q) : pz m g (r : Int) * pz m y (-(c : Int)) % m = cmS m q g y c r := by
  rw [pz_neg hu hp hc, pz_nat, cmS, ← Nat.mul_mod]
end Go.Proofs.YtndmjfkmnjejkaaGreatDoor
/- Walks: dominoref06.Good, canonical. -/
set_option linter.unusedVariables false
set_option linter.unusedSimpArgs false
namespace Go.Proofs.YtndmjfkmnjejkaaGreatDoor
open Go.RowKit
set_option maxRecDepth 100000 in
set_option maxHeartbeats 1000000 in
theorem r06_Good (l : List ByteArray) (s : ByteArray) (at_ : Int) (A : Option Addr) (n cap : Nat) (w : World) (hs : SlN w A n cap l) (hn : n ≤ 1000) (hp : ∀ x ∈ l, x.size ≤ 9223372036854775807) :
    Calls Tryz.prog 53 #[tpV A n cap s at_] w (Ret (.bool (tpG l at_)) w) := by
  have hT := TB.new w A n cap s at_
  have hB := (Below.refl w.heap.size w).alloc (Nat.le_refl _) (.cells #[.slice A n cap, .string s, .int .i64 at_] 31)
  have HS := Lib.hid (hs.kept hB (Nat.le_refl _))
  obtain ⟨W, hW⟩ : ∃ W, w.alloc (.cells #[.slice A n cap, .string s, .int .i64 at_] 31) = W := ⟨_, rfl⟩
  rw [hW] at hT hB HS
  have HB := Lib.hid hB
  obtain ⟨c0, c1, c2⟩ := hT.c
  have HLEN := Lib.hid hs.1
  have hcap := hs.2.1
  have hcap2 := hs.2.2.1
  have hni : (n : Int) ≤ 1000 := by omega
  have HP := Lib.hid hp
  have HR := Lib.hid (show tpG l at_ = (decide (0 ≤ at_) && decide (at_ ≤ 2147483647) && l.all nvalid) from rfl)
  obtain ⟨R, hR⟩ : ∃ R, tpG l at_ = R := ⟨_, rfl⟩
  rw [hR] at HR ⊢
  unfold tpV
  clear hT hB hs hp hR
  go_enter Tryz.func53, Tryz.ntmps53
  go_wp2
  try rw [hW]
  clear hW
  go_loopw [3] (fun i wr => ∃ k : Nat, k ≤ n ∧ i = .int .i64 k ∧ (∀ j, j < k → ∃ s, l[j]? = some s ∧ nvalid s = true) ∧ wr = W) (fun i _ => n - (RowKit.intOf i).toNat)
  case atStart => exact ⟨0, Nat.zero_le _, rfl, fun j h => by omega, rfl⟩
  case round =>
    obtain ⟨k, hk, rfl, hall, rfl⟩ := hrel
    have HALL := Lib.hid hall
    clear hall
    by_cases hlt : k < n
    · obtain ⟨b, o, rfl⟩ := HS.out.head (by omega)
      obtain ⟨x, he⟩ : ∃ s, l[k]? = some s := ⟨_, List.getElem?_eq_getElem (by rw [HLEN.out]; exact hlt)⟩
      have d0 := HS.out.get? k he
      have HE := Lib.hid he
      have HV := Lib.hid (r01_Valid x (HP.out x (List.mem_of_getElem? he)))
      have hki : (k : Int) < (n : Int) := by omega
      have HKN := Lib.hid hlt
      clear he hk hlt
      cases hv : nvalid x with
      | false =>
        rw [hv] at HV
        have HR3 := Lib.hid (show R = false from by rw [HR.out, Bool.eq_false_iff.2 (nall_false HE.out hv), Bool.and_false])
        clear hv
        go_wp2_with fail
        refine (HV.out _).mono ?_
        rintro ev w2 ⟨rfl, rfl⟩
        go_wp2
        go_ret
        exact ⟨by rw [HR3.out]; rfl, HB.out⟩
      | true =>
        rw [hv] at HV
        have HA2 := Lib.hid (show ∀ j, j < k + 1 → ∃ s, l[j]? = some s ∧ nvalid s = true from fun j hj => by
          by_cases e : j = k
          · subst e; exact ⟨x, HE.out, hv⟩
          · exact HALL.out j (by omega))
        clear hv
        go_wp2_with fail
        refine (HV.out _).mono ?_
        rintro ev w2 ⟨rfl, rfl⟩
        go_wp2
        refine ⟨⟨k + 1, by have := HKN.out; omega, by go_num, HA2.out, trivial⟩, ?_⟩
        have := HKN.out; simp [RowKit.intOf]; omega
    · have HAV := Lib.hid (show R = (decide (0 ≤ at_) && decide (at_ ≤ 2147483647)) from by
        rw [HR.out, nall_true fun j hj => HALL.out j (by rw [HLEN.out] at hj; omega), Bool.and_true])
      have hge : ¬ ((k : Int) < (n : Int)) := by omega
      clear hk hlt HALL HS
      by_cases h0 : 0 ≤ at_
      · by_cases h1 : at_ ≤ 2147483647
        · rw [decide_eq_true h0, decide_eq_true h1] at HAV
          go_wp2
          go_ret
          exact ⟨by rw [HAV.out]; rfl, HB.out⟩
        · have h1' : decide (at_ ≤ 2147483647) = false := decide_eq_false h1
          rw [decide_eq_true h0, h1'] at HAV
          go_wp2
          go_ret
          exact ⟨by rw [HAV.out]; rfl, HB.out⟩
      · have h0' : decide (0 ≤ at_) = false := decide_eq_false h0
        rw [h0', Bool.false_and] at HAV
        go_wp2
        go_ret
        exact ⟨by rw [HAV.out]; rfl, HB.out⟩
theorem bstr_extract1 (l : List UInt8) : (bstr l).extract 1 (bstr l).size = bstr (l.drop 1) := by
  rw [bstr_size]
  unfold bstr
  rw [ByteArray.extract_mk]
  simp
  exact List.take_of_length_le (by simp)
set_option maxRecDepth 100000 in
set_option maxHeartbeats 1000000 in
theorem r06_canonical (l : List UInt8) (hl : l.length ≤ 1000000) (w : World) : Calls Tryz.prog 196 #[.string (bstr l)] w (RetQ (.string (bstr (trimZ l))) w) := by
  go_enter Tryz.func196, Tryz.ntmps196
  go_wp2
  go_loopw [0] (fun v wr => ∃ l' : List UInt8, v = .string (bstr l') ∧ trimZ l' = trimZ l ∧ l'.length ≤ l.length ∧ wr = w) (fun v _ => match v with | .string s => s.size | _ => 0)
  case atStart => exact ⟨l, rfl, rfl, Nat.le_refl _, rfl⟩
  case round =>
    obtain ⟨l', rfl, htr, hle, rfl⟩ := hrel
    have HTR := Lib.hid htr
    have HLE := Lib.hid hle
    clear htr hle
    by_cases h0 : 0 < l'.length
    · have hsz : 0 < (bstr l').size := by rw [bstr_size]; exact h0
      have hgt : (0 : Int) < ((bstr l').size : Int) := by omega
      have hx1 := bstr_extract1 l'
      obtain ⟨l2, hl2⟩ : ∃ l2, l'.drop 1 = l2 := ⟨_, rfl⟩
      rw [hl2] at hx1
      have HL2 := Lib.hid hl2
      have hge1 : (1 : Int) ≤ ((bstr l').size : Int) := by omega
      have hs1 : 1 ≤ (bstr l').size := hsz
      have hlem : (bstr l').size ≤ 9223372036854775807 := by rw [bstr_size]; have := HLE.out; omega
      have HSZ2 := Lib.hid (show (bstr l2).size < (bstr l').size from by rw [bstr_size, bstr_size, ← hl2, List.length_drop]; omega)
      have HLN2 := Lib.hid (show l2.length ≤ l.length from by rw [← hl2, List.length_drop]; have := HLE.out; omega)
      have hb0 : ((bstr l')[0]'hsz).toNat = (l'.getD 0 0).toNat := by rw [← data_getD (bstr l') 0 hsz, bstr_data]
      by_cases hz : byteI l' 0 = 0
      · have hz2 : ((((bstr l')[0]'hsz).toNat : Int) == 0) = true := by rw [hb0]; exact beq_iff_eq.2 hz
        have HN := Lib.hid (show trimZ l2 = trimZ l from by rw [← HTR.out, trimZ_zero h0 hz, hl2])
        obtain ⟨st, hst⟩ : ∃ st, bstr l' = st := ⟨_, rfl⟩
        obtain ⟨st2, hst2⟩ : ∃ st, bstr l2 = st := ⟨_, rfl⟩
        have HST2 := Lib.hid hst2
        rw [hst2] at hx1 HSZ2
        clear hb0 hz h0 hl2 hst2 HTR HLE
        subst hst
        go_wp2
        exact ⟨⟨l2, by rw [HST2.out], HN.out, HLN2.out, trivial⟩, HSZ2.out⟩
      · have hz2 : ((((bstr l')[0]'hsz).toNat : Int) == 0) = false := by rw [hb0]; exact beq_eq_false_iff_ne.2 hz
        have HN := Lib.hid (show trimZ l = l' from by rw [← HTR.out]; exact trimZ_stop (.inr hz))
        clear hb0 hz h0 hl2 hx1 hge1 hs1
        go_wp2
        go_ret
        rw [HN.out]
        exact ⟨rfl, rfl⟩
    · have hsz : (bstr l').size = 0 := by rw [bstr_size]; omega
      have HN := Lib.hid (show trimZ l = l' from by rw [← HTR.out]; exact trimZ_stop (.inl (by omega)))
      clear h0
      go_wp2
      go_ret
      rw [HN.out]
      exact ⟨rfl, rfl⟩
end Go.Proofs.YtndmjfkmnjejkaaGreatDoor

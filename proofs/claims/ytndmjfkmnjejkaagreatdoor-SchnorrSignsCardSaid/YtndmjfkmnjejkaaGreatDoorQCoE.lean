/- Walk: coins.Below, over a contract of coins.draw; where the tape has a value. -/
import Derived.Test.YtndmjfkmnjejkaaGreatDoorQCoC
import Derived.Test.YtndmjfkmnjejkaaGreatDoorQScG
import Derived.Deep.Cut
import Derived.Test.YtndmjfkmnjejkaaGreatDoorQShG
set_option linter.unusedVariables false
set_option linter.unusedSimpArgs false
namespace Go.Proofs.YtndmjfkmnjejkaaGreatDoor
open Go.RowKit
theorem tpN_err {e : Int} (h : ¬ e = 0) (l : List ByteArray) (s : ByteArray) (k : Int) : tpN e l s k = ([], ⟨#[]⟩, 0) := if_neg h
theorem SlN.setB {W : World} {A : Option Addr} {n c R k : Nat} {l : List ByteArray} {u : Value} (h : SlN W A n c l) (hf : ∀ b o, A = some ⟨b, o, none⟩ → R < b) : SlN (W.setCell ⟨R, k, none⟩ u) A n c l := by
  obtain ⟨h1, h2, h3, b, o, h4, h5⟩ := h
  refine ⟨h1, h2, h3, b, o, h4, fun j s hj => ?_⟩
  have hlt := (List.getElem?_eq_some_iff.1 hj).1
  have hb := hf b o (h4 (by omega))
  have e : (W.setCell ⟨R, k, none⟩ u).heap[b]? = W.heap[b]? := heap_setCell_other _ _ _ _ (by simp; omega)
  have := h5 j s hj
  unfold World.cell? at this ⊢
  rw [e]
  exact this
set_option maxRecDepth 100000 in
set_option maxHeartbeats 4000000 in
theorem co_Below_of (l : List ByteArray) (s : ByteArray) (k : Int) (N : ByteArray) (A : Option Addr) (n cap : Nat) (hp : ∀ x ∈ l, x.size ≤ 9223372036854775807) (hN : N.size ≤ 9223372036854775807) (w : World)
    (hd : tpG l k = true → nvalid N = true → N.toList.isEmpty = false → ∀ W, Below w.heap.size w W → SlN W A n cap l → Calls Tryz.prog 97 #[tpV A n cap s k, .string N] W (RetC (dwN l s k (num N)) (tpN (dwN l s k (num N)).2 l s k) W)) (hs : SlN w A n cap l) :
    Calls Tryz.prog 49 #[tpV A n cap s k, .string N] w (RetC (coN l s k N) (tpN (coN l s k N).2 l s k) w) := by
  have HRD := Lib.hid (fun W hs => co_ready l s k N A n cap W hs hp hN)
  have HD := Lib.hid hd
  clear hd
  have hb1 := ((Below.refl w.heap.size w).alloc (Nat.le_refl _) (.cells #[.slice A n cap, .string s, .int .i64 k] 31)).alloc (by simp) (.cells #[.slice none 0 0, .string ⟨#[]⟩, .int .i64 0] 31)
  have ht1 : TB ((w.alloc (.cells #[.slice A n cap, .string s, .int .i64 k] 31)).alloc (.cells #[.slice none 0 0, .string ⟨#[]⟩, .int .i64 0] 31)) w.heap.size A n cap s k := (TB.new w A n cap s k).nextT ((Below.refl _ _).alloc (Nat.le_refl _) _)
  have hr1 : TB ((w.alloc (.cells #[.slice A n cap, .string s, .int .i64 k] 31)).alloc (.cells #[.slice none 0 0, .string ⟨#[]⟩, .int .i64 0] 31)) (w.heap.size + 1) none 0 0 ⟨#[]⟩ 0 := by
    have := TB.new (w.alloc (.cells #[.slice A n cap, .string s, .int .i64 k] 31)) none 0 0 ⟨#[]⟩ 0
    rwa [World.size_alloc] at this
  obtain ⟨W1, hW1⟩ : ∃ W, (w.alloc (.cells #[.slice A n cap, .string s, .int .i64 k] 31)).alloc (.cells #[.slice none 0 0, .string ⟨#[]⟩, .int .i64 0] 31) = W := ⟨_, rfl⟩
  have HSZ := Lib.hid (show W1.heap.size = w.heap.size + 1 + 1 from by rw [← hW1]; simp)
  rw [hW1] at hb1 ht1 hr1
  have HB1 := Lib.hid hb1
  have HT1 := Lib.hid ht1
  have HR1 := Lib.hid hr1
  have hs1 := hs.kept hb1 (Nat.le_refl _)
  have HS0 := Lib.hid hs
  have HS1 := Lib.hid hs1
  obtain ⟨c0, c1, c2⟩ := ht1.c
  obtain ⟨r0, r1, r2⟩ := hr1.c
  have f0 := hr1.f 0
  have f1 := hr1.f 1
  have f2 := hr1.f 2
  have HRR := Lib.hid (show rdN l k N = if (tpG l k && nvalid N) = true then (if N.toList.isEmpty = true then 11 else 0) else 3 from rfl)
  have HRC := Lib.hid (show coN l s k N = if (tpG l k && nvalid N) = true then (if N.toList.isEmpty = true then (0, 11) else dwN l s k (num N)) else (0, 3) from rfl)
  unfold tpV at *
  by_cases he : rdN l k N = 0
  · have hok : tpG l k = true ∧ nvalid N = true ∧ N.toList.isEmpty = false := by
      rw [HRR.out] at he
      split at he
      · rename_i h1
        rw [Bool.and_eq_true] at h1
        split at he
        · cases he
        · rename_i h2; exact ⟨h1.1, h1.2, by simpa using h2⟩
      · cases he
    have HDD := Lib.hid (HD.out hok.1 hok.2.1 hok.2.2)
    rw [HRC.out, hok.1, hok.2.1, hok.2.2]
    simp only [Bool.and_self, if_true, Bool.false_eq_true, if_false]
    obtain ⟨r, hr⟩ : ∃ r, dwN l s k (num N) = r := ⟨_, rfl⟩
    obtain ⟨x1, e1⟩ := r
    rw [hr] at HDD ⊢
    obtain ⟨t, ht⟩ : ∃ t, tpN e1 l s k = t := ⟨_, rfl⟩
    obtain ⟨tl, ts, tk⟩ := t
    simp only [] at HDD ⊢
    rw [ht] at HDD ⊢
    rw [he] at HRD
    have HRDD := Lib.hid (HRD.out W1 HS1.out)
    clear he hok hr ht hs hs1 hb1 ht1 hr1 r0 r1 r2 f0 f1 f2 hp hN HRR HRC HD HRD
    go_enter Tryz.func49, Tryz.ntmps49
    go_wp2_with fail
    try rw [hW1]
    clear hW1
    refine (HRDD.out).mono ?_
    rintro ev w2 ⟨rfl, hb2⟩
    have HT2 := Lib.hid (HT1.out.nextT hb2)
    have HR2 := Lib.hid (HR1.out.nextT hb2)
    have HB2 := Lib.hid (HB1.out.trans (hb2.mono HB1.out.size))
    have HS2 := Lib.hid (HS1.out.kept hb2 (Nat.le_refl _))
    have HD2 := Lib.hid (HDD.out w2 HB2.out HS2.out)
    clear c0 c1 c2 hb2
    obtain ⟨c0, c1, c2⟩ := HT2.out.c
    go_wp2_with fail
    refine (HD2.out).mono ?_
    rintro ev w3 ⟨B, c, rfl, hsl, hfr, hb3⟩
    have HR3 := Lib.hid (HR2.out.nextT hb3)
    have HB3 := Lib.hid (HB2.out.trans (hb3.mono HB2.out.size))
    have HSL := Lib.hid hsl
    have HFR := Lib.hid (show ∀ b o, B = some ⟨b, o, none⟩ → w.heap.size + 1 < b from fun b o h => Nat.lt_of_lt_of_le HR2.out.lt (hfr b o h))
    obtain ⟨m, hm⟩ : ∃ m, tl.length = m := ⟨_, rfl⟩
    have HM := Lib.hid hm
    clear c0 c1 c2 hsl hb3 hfr
    simp only []
    rw [hm]
    clear hm
    obtain ⟨r0, r1, r2⟩ := HR3.out.c
    have f0 := HR3.out.f 0
    have f1 := HR3.out.f 1
    have f2 := HR3.out.f 2
    have hq := HR3.out.set3 (A' := B) (n' := m) (c' := c) (s' := ts) (a' := tk)
    obtain ⟨q0, q1, q2⟩ := hq.c
    have HBQ := Lib.hid (below_set3 HB3.out (C := w.heap.size + 1) (by omega) (.slice B m c) (.string ts) (.int .i64 tk))
    clear hq
    obtain ⟨z, hz⟩ : ∃ z, nS x1 = z := ⟨_, rfl⟩
    rw [hz]
    go_wp2
    refine bodyPost_ret (v := .tuple #[.string z, .agg #[.slice B m c, .string ts, .int .i64 tk], .int .i64 e1]) (by simp [results, Tryz.results49, go_sem, q0, q1, q2]) rfl ?_
    refine ⟨B, c, ?_, ?_, (fun b o h => by have := HFR.out b o h; omega), HBQ.out⟩
    · show _ = Ending.returned (.tuple #[.string (nS x1), .agg #[.slice B tl.length c, .string ts, .int .i64 tk], .int .i64 e1])
      rw [HM.out, hz]
    · show SlN _ _ tl.length c tl
      exact ((HSL.out.setB HFR.out).setB HFR.out).setB HFR.out
  · have hne : ∃ e, rdN l k N = e ∧ ¬ e = 0 ∧ coN l s k N = (0, e) := by
      refine ⟨_, rfl, he, ?_⟩
      rw [HRC.out, HRR.out]
      rw [HRR.out] at he
      split
      · rename_i h1
        rw [if_pos h1] at he
        split
        · rfl
        · rename_i h2; rw [if_neg h2] at he; exact absurd rfl he
      · rfl
    obtain ⟨e1, he1, hn0, hcc⟩ := hne
    rw [hcc, tpN_err hn0]
    rw [he1] at HRD
    have HRDD := Lib.hid (HRD.out W1 HS1.out)
    clear he he1 hcc hs hs1 hb1 ht1 hr1 hp hN HRR HRC HD HRD r0 r1 r2 f0 f1 f2
    go_enter Tryz.func49, Tryz.ntmps49
    go_wp2_with fail
    try rw [hW1]
    clear hW1
    refine (HRDD.out).mono ?_
    rintro ev w2 ⟨rfl, hb2⟩
    have HR2 := Lib.hid (HR1.out.nextT hb2)
    have HB2 := Lib.hid (HB1.out.trans (hb2.mono HB1.out.size))
    obtain ⟨r0, r1, r2⟩ := HR2.out.c
    have f0 := HR2.out.f 0
    have f1 := HR2.out.f 1
    have f2 := HR2.out.f 2
    have hq := HR2.out.set3 (A' := none) (n' := 0) (c' := 0) (s' := ⟨#[]⟩) (a' := 0)
    obtain ⟨q0, q1, q2⟩ := hq.c
    have HBQ := Lib.hid (below_set3 HB2.out (C := w.heap.size + 1) (by omega) (.slice none 0 0) (.string ⟨#[]⟩) (.int .i64 0))
    clear hq c0 c1 c2 hb2
    go_wp2
    refine bodyPost_ret (v := .tuple #[.string ⟨#[]⟩, .agg #[.slice none 0 0, .string ⟨#[]⟩, .int .i64 0], .int .i64 e1]) (by simp [results, Tryz.results49, go_sem, q0, q1, q2]) rfl ?_
    exact ⟨none, 0, rfl, SlN.nil _ 0 (by omega) none, (fun b o h => by cases h), HBQ.out⟩
set_option maxRecDepth 100000 in
theorem co_BelowV (l : List ByteArray) (s : ByteArray) (k N : Nat) (A : Option Addr) (n cap : Nat) (hk : k < n) (hn : n ≤ 1000) (hp : ∀ x ∈ l, x.size ≤ 9223372036854775807) (hN : N < 256 ^ 128) (w : World) (hs : SlN w A n cap l) :
    Calls Tryz.prog 49 #[tpV A n cap s k, .string (nS N)] w (RetC (coN l s k (nS N)) (tpN (coN l s k (nS N)).2 l s k) w) := by
  have hN2 := nS_size_le.2 hN
  refine co_Below_of l s k (nS N) A n cap hp (by omega) w (fun hg _ _ W _ hsW => ?_) hs
  have hlen := hsW.1
  have hall : l.all nvalid = true := by unfold tpG at hg; rw [Bool.and_eq_true] at hg; exact hg.2
  obtain ⟨y, hy⟩ : ∃ y, l[k]? = some y := ⟨_, List.getElem?_eq_getElem (by omega)⟩
  have e : dwN l s k (num (nS N)) = if num y < N then (num y, 0) else (0, 2) := by
    unfold dwN
    rw [if_pos (by omega), Int.toNat_natCast, List.getD_eq_getElem?_getD, hy, num_nS]
    rfl
  rw [e]
  exact co_drawV l s k N A n cap y hy hk hn (List.all_eq_true.1 hall y (List.mem_of_getElem? hy)) hN W hsW
end Go.Proofs.YtndmjfkmnjejkaaGreatDoor
/- Walk: schnorr.Make, over a contract of coins.Below. -/
set_option linter.unusedVariables false
set_option linter.unusedSimpArgs false
namespace Go.Proofs.YtndmjfkmnjejkaaGreatDoor
open Go.RowKit Go.Lib
def MB (w W : World) (M O : ByteArray) (A : Option Addr) (n cap : Nat) (s : ByteArray) (k : Int) (l : List ByteArray) : Prop :=
  Bx2 W w.heap.size (.string M) (.string O) 24 ∧ TB W (w.heap.size + 1) A n cap s k ∧ Bx4 W (w.heap.size + 1 + 1) (.string ⟨#[]⟩) (.string ⟨#[]⟩) (.string ⟨#[]⟩) (.string ⟨#[]⟩) 46 ∧ TB W (w.heap.size + 1 + 1 + 1) none 0 0 ⟨#[]⟩ 0 ∧ SlN W A n cap l ∧ Below w.heap.size w W
theorem MB.nextM {w W W' : World} {M O : ByteArray} {A : Option Addr} {n cap : Nat} {s : ByteArray} {k : Int} {l : List ByteArray} (h : MB w W M O A n cap s k l) (hb : Below W.heap.size W W') : MB w W' M O A n cap s k l :=
  ⟨h.1.next hb, h.2.1.nextT hb, h.2.2.1.next hb, h.2.2.2.1.nextT hb, h.2.2.2.2.1.kept hb (Nat.le_refl _), h.2.2.2.2.2.trans (hb.mono h.2.2.2.2.2.size)⟩
theorem MB.newM (w : World) (M O : ByteArray) (A : Option Addr) (n cap : Nat) (s : ByteArray) (k : Int) (l : List ByteArray) (hs : SlN w A n cap l) :
    MB w ((((w.alloc (.cells #[.string M, .string O] 24)).alloc (.cells #[.slice A n cap, .string s, .int .i64 k] 31)).alloc (.cells #[.string ⟨#[]⟩, .string ⟨#[]⟩, .string ⟨#[]⟩, .string ⟨#[]⟩] 46)).alloc (.cells #[.slice none 0 0, .string ⟨#[]⟩, .int .i64 0] 31)) M O A n cap s k l := by
  obtain ⟨w1, h1⟩ : ∃ W, w.alloc (.cells #[.string M, .string O] 24) = W := ⟨_, rfl⟩
  have b1 : Below w.heap.size w w1 := h1 ▸ (Below.refl _ _).alloc (Nat.le_refl _) _
  have x1 : Bx2 w1 w.heap.size (.string M) (.string O) 24 := h1 ▸ Bx2.new _ _ _ _
  have s1 : w1.heap.size = w.heap.size + 1 := by rw [← h1]; simp
  rw [h1]
  obtain ⟨w2, h2⟩ : ∃ W, w1.alloc (.cells #[.slice A n cap, .string s, .int .i64 k] 31) = W := ⟨_, rfl⟩
  have b2 : Below w1.heap.size w1 w2 := h2 ▸ (Below.refl _ _).alloc (Nat.le_refl _) _
  have x2 : TB w2 w1.heap.size A n cap s k := h2 ▸ TB.new _ _ _ _ _ _
  have s2 : w2.heap.size = w.heap.size + 1 + 1 := by rw [← h2]; simp [s1]
  rw [h2]
  obtain ⟨w3, h3⟩ : ∃ W, w2.alloc (.cells #[.string ⟨#[]⟩, .string ⟨#[]⟩, .string ⟨#[]⟩, .string ⟨#[]⟩] 46) = W := ⟨_, rfl⟩
  have b3 : Below w2.heap.size w2 w3 := h3 ▸ (Below.refl _ _).alloc (Nat.le_refl _) _
  have x3 : Bx4 w3 w2.heap.size (.string ⟨#[]⟩) (.string ⟨#[]⟩) (.string ⟨#[]⟩) (.string ⟨#[]⟩) 46 := h3 ▸ Bx4.new _ _ _ _ _ _
  have s3 : w3.heap.size = w.heap.size + 1 + 1 + 1 := by rw [← h3]; simp [s2]
  rw [h3]
  obtain ⟨w4, h4⟩ : ∃ W, w3.alloc (.cells #[.slice none 0 0, .string ⟨#[]⟩, .int .i64 0] 31) = W := ⟨_, rfl⟩
  have b4 : Below w3.heap.size w3 w4 := h4 ▸ (Below.refl _ _).alloc (Nat.le_refl _) _
  have x4 : TB w4 w3.heap.size none 0 0 ⟨#[]⟩ 0 := h4 ▸ TB.new _ _ _ _ _ _
  rw [h4]
  rw [s1] at x2
  rw [s2] at x3
  rw [s3] at x4
  have bb := ((b1.trans (b2.mono b1.size)).trans (b3.mono (by rw [s2]; omega))).trans (b4.mono (by rw [s3]; omega))
  exact ⟨((x1.next b2).next b3).next b4, (x2.nextT b3).nextT b4, x3.next b4, x4, hs.kept bb (Nat.le_refl _), bb⟩
theorem Bx4.off3 {W : World} {B C : Nat} {x y z u a b c : Value} {T : TypeId} (h : Bx4 W B x y z u T) (hne : B ≠ C) : Bx4 (((W.setCell ⟨C, 0, none⟩ a).setCell ⟨C, 1, none⟩ b).setCell ⟨C, 2, none⟩ c) B x y z u T := ((h.other hne _).other hne _).other hne _
theorem TB.off4 {W : World} {B C : Nat} {A : Option Addr} {n c : Nat} {s : ByteArray} {a : Int} {x y z u : Value} (h : TB W B A n c s a) (hne : B ≠ C) : TB ((((W.setCell ⟨C, 0, none⟩ x).setCell ⟨C, 1, none⟩ y).setCell ⟨C, 2, none⟩ z).setCell ⟨C, 3, none⟩ u) B A n c s a := (((h.off hne _).off hne _).off hne _).off hne _
theorem bx2_off3 {W : World} {B C : Nat} {x y a b c : Value} {T : TypeId} (h : Bx2 W B x y T) (hne : B ≠ C) : Bx2 (((W.setCell ⟨C, 0, none⟩ a).setCell ⟨C, 1, none⟩ b).setCell ⟨C, 2, none⟩ c) B x y T :=
  (heap_setCell_other _ _ _ _ hne).trans ((heap_setCell_other _ _ _ _ hne).trans ((heap_setCell_other _ _ _ _ hne).trans h))
theorem bx2_off4 {W : World} {B C : Nat} {x y a b c d : Value} {T : TypeId} (h : Bx2 W B x y T) (hne : B ≠ C) : Bx2 ((((W.setCell ⟨C, 0, none⟩ a).setCell ⟨C, 1, none⟩ b).setCell ⟨C, 2, none⟩ c).setCell ⟨C, 3, none⟩ d) B x y T :=
  (heap_setCell_other _ _ _ _ hne).trans (bx2_off3 h hne)
theorem MB.stored {w W : World} {M O : ByteArray} {A : Option Addr} {n cap : Nat} {s : ByteArray} {k : Int} {l : List ByteArray} (h : MB w W M O A n cap s k l) (x y z u : Value) (A' : Option Addr) (n' c' : Nat) (s' : ByteArray) (a' : Int) :
    Bx4 (((((((W.setCell ⟨w.heap.size + 1 + 1, 0, none⟩ x).setCell ⟨w.heap.size + 1 + 1, 1, none⟩ y).setCell ⟨w.heap.size + 1 + 1, 2, none⟩ z).setCell ⟨w.heap.size + 1 + 1, 3, none⟩ u).setCell ⟨w.heap.size + 1 + 1 + 1, 0, none⟩ (.slice A' n' c')).setCell ⟨w.heap.size + 1 + 1 + 1, 1, none⟩ (.string s')).setCell ⟨w.heap.size + 1 + 1 + 1, 2, none⟩ (.int .i64 a')) (w.heap.size + 1 + 1) x y z u 46 ∧
    TB (((((((W.setCell ⟨w.heap.size + 1 + 1, 0, none⟩ x).setCell ⟨w.heap.size + 1 + 1, 1, none⟩ y).setCell ⟨w.heap.size + 1 + 1, 2, none⟩ z).setCell ⟨w.heap.size + 1 + 1, 3, none⟩ u).setCell ⟨w.heap.size + 1 + 1 + 1, 0, none⟩ (.slice A' n' c')).setCell ⟨w.heap.size + 1 + 1 + 1, 1, none⟩ (.string s')).setCell ⟨w.heap.size + 1 + 1 + 1, 2, none⟩ (.int .i64 a')) (w.heap.size + 1 + 1 + 1) A' n' c' s' a' ∧
    Below w.heap.size w (((((((W.setCell ⟨w.heap.size + 1 + 1, 0, none⟩ x).setCell ⟨w.heap.size + 1 + 1, 1, none⟩ y).setCell ⟨w.heap.size + 1 + 1, 2, none⟩ z).setCell ⟨w.heap.size + 1 + 1, 3, none⟩ u).setCell ⟨w.heap.size + 1 + 1 + 1, 0, none⟩ (.slice A' n' c')).setCell ⟨w.heap.size + 1 + 1 + 1, 1, none⟩ (.string s')).setCell ⟨w.heap.size + 1 + 1 + 1, 2, none⟩ (.int .i64 a')) :=
  ⟨(h.2.2.1.set4).off3 (by omega), (h.2.2.2.1.off4 (by omega)).set3, below_set3 (below_set4 h.2.2.2.2.2 (by omega) _ _ _ _) (by omega) _ _ _⟩
theorem coN_lt {l : List ByteArray} {s : ByteArray} {k : Int} {B : ByteArray} (h : (coN l s k B).2 = 0) : (coN l s k B).1 < num B := by
  unfold coN at *
  split
  · rename_i h1
    rw [if_pos h1] at h
    split
    · rename_i h2; rw [if_pos h2] at h; cases h
    · rename_i h2; rw [if_neg h2] at h; exact dwN_ok h
  · rename_i h1; rw [if_neg h1] at h; cases h
end Go.Proofs.YtndmjfkmnjejkaaGreatDoor
/- Walk: hash.Mac for keys of at most 64 bytes. -/
set_option linter.unusedVariables false
set_option linter.unusedSimpArgs false
namespace Go.Proofs.YtndmjfkmnjejkaaGreatDoor
open Go.RowKit Go.Lib
def yc (f : Nat → UInt8) : Array Value := (byteCells ((List.range 64).map f)).toArray
theorem yc_size (f : Nat → UInt8) : (yc f).size = 64 := by simp [yc, byteCells]
theorem yc_get (f : Nat → UInt8) {i : Nat} (h : i < 64) : (yc f)[i]? = some (.int .u8 ((f i).toNat : Int)) := by simp [yc, byteCells, h]
theorem yc_set (f : Nat → UInt8) (i : Nat) (x : UInt8) : (yc f).setIfInBounds i (.int .u8 (x.toNat : Int)) = yc (fun j => if j = i then x else f j) := by
  apply Array.ext_getElem?
  intro j
  rw [Array.getElem?_setIfInBounds]
  rcases Nat.lt_or_ge j 64 with h | h
  · rw [yc_get _ h, yc_get _ h, yc_size]
    by_cases e : i = j
    · subst e; simp [h]
    · rw [if_neg e, if_neg (Ne.symm e)]
  · rw [Array.getElem?_eq_none (by rw [yc_size]; exact h), Array.getElem?_eq_none (by rw [yc_size]; exact h)]
    by_cases e : i = j
    · subst e; simp [yc_size]; omega
    · rw [if_neg e]
def z64b : Array Value := madeCells #[.int .u8 0] 64
theorem yc_zero : yc (fun _ => 0) = z64b := by kernel_rfl
def gd (l : List UInt8) : Nat → UInt8 := fun i => l.getD i 0
theorem yc_copy (l : List UInt8) (h : l.length ≤ 64) : (z64b.toList.take 0 ++ byteCells l ++ z64b.toList.drop (0 + l.length)).toArray = yc (gd l) := by
  unfold gd
  rw [← yc_zero]
  apply Array.ext_getElem?
  intro j
  rw [List.take_zero, List.nil_append, Nat.zero_add, List.getElem?_toArray]
  rcases Nat.lt_or_ge j 64 with hj | hj
  · rw [yc_get _ hj]
    rcases Nat.lt_or_ge j l.length with hl | hl
    · rw [List.getElem?_append_left (by simpa [byteCells] using hl)]
      simp [byteCells, List.getD_eq_getElem?_getD, hl]
    · rw [List.getElem?_append_right (by simpa [byteCells] using hl)]
      have e : l.getD j 0 = 0 := by simp [List.getD_eq_getElem?_getD, List.getElem?_eq_none hl]
      rw [e, List.getElem?_drop, byteCells_length, Nat.add_sub_cancel' hl, Array.getElem?_toList, yc_get _ hj]
  · rw [Array.getElem?_eq_none (by rw [yc_size]; exact hj), List.getElem?_eq_none]
    simp [byteCells, yc_size]; omega
def RowY (w : World) (B : Nat) (f : Nat → UInt8) : Prop := w.heap[B]? = some (.cells (yc f) 239 (0, 0))
theorem RowY.cell {w : World} {B : Nat} {f : Nat → UInt8} (h : RowY w B f) {k : Nat} (hk : k < 64) : w.cell? ⟨B, k, none⟩ = some (.int .u8 ((f k).toNat : Int)) := by
  rw [Lib.cell_of_heap h, yc_get f hk]
theorem RowY.free {w : World} {B : Nat} {f : Nat → UInt8} (h : RowY w B f) (k : Nat) : w.frozen? ⟨B, k, none⟩ = false := Lib.frozen_of_heap h k
theorem RowY.set {w : World} {B : Nat} {f : Nat → UInt8} (h : RowY w B f) (k : Nat) (x : UInt8) : RowY (w.setCell ⟨B, k, none⟩ (.int .u8 (x.toNat : Int))) B (fun j => if j = k then x else f j) := by
  unfold RowY; rw [block_setCell h, yc_set]
theorem RowY.other {w : World} {B C k : Nat} {f : Nat → UInt8} {v : Value} (h : RowY w B f) (hne : B ≠ C) : RowY (w.setCell ⟨C, k, none⟩ v) B f := (heap_setCell_other _ _ _ _ hne).trans h
theorem RowY.lt {w : World} {B : Nat} {f : Nat → UInt8} (h : RowY w B f) : B < w.heap.size := block_lt h
theorem RowY.bytes {w : World} {B : Nat} {f : Nat → UInt8} (h : RowY w B f) : BytesAt w (some ⟨B, 0, none⟩) 64 64 ((List.range 64).map f) := by
  refine ⟨by simp, Nat.le_refl _, by omega, fun _ => ⟨B, 0, rfl, fun k hk => ?_⟩⟩
  rw [Nat.zero_add, h.cell hk]
  simp [byteI, hk]
theorem xor_54_all : ∀ n, n < 256 → bits .xor .u8 ((n : Nat) : Int) 54 = ((UInt8.ofNat n ^^^ 54).toNat : Int) := by decide +kernel
theorem xor_92_all : ∀ n, n < 256 → bits .xor .u8 ((n : Nat) : Int) 92 = ((UInt8.ofNat n ^^^ 92).toNat : Int) := by decide +kernel
theorem xor_54 (x : UInt8) : bits .xor .u8 (x.toNat : Int) 54 = ((x ^^^ 54).toNat : Int) := by
  have := xor_54_all x.toNat x.toNat_lt
  rwa [UInt8.ofNat_toNat] at this
theorem xor_92 (x : UInt8) : bits .xor .u8 (x.toNat : Int) 92 = ((x ^^^ 92).toNat : Int) := by
  have := xor_92_all x.toNat x.toNat_lt
  rwa [UInt8.ofNat_toNat] at this
theorem app_data (a b : ByteArray) : (a ++ b).data.toList = a.data.toList ++ b.data.toList := by simp
theorem RowY.set_off {w : World} {B C k j : Nat} {f : Nat → UInt8} {v u : Value} {g : Nat → UInt8} (h : RowY (w.setCell ⟨B, k, none⟩ v) B g) (h0 : RowY w B f) (hne : B ≠ C) : RowY ((w.setCell ⟨C, j, none⟩ u).setCell ⟨B, k, none⟩ v) B g := by
  have h1 : (w.setCell ⟨C, j, none⟩ u).heap[B]? = w.heap[B]? := heap_setCell_other _ _ _ _ hne
  unfold RowY at h h0 ⊢
  rw [block_setCell (h1.trans h0)]
  rw [block_setCell h0] at h
  exact h
def xk (l : List UInt8) (x : UInt8) (k : Nat) (j : Nat) : UInt8 := if j < k then l.getD j 0 ^^^ x else l.getD j 0
theorem xk_zero (l : List UInt8) (x : UInt8) : xk l x 0 = gd l := by funext j; simp [xk, gd]
theorem xk_step (l : List UInt8) (x : UInt8) (k : Nat) : (fun j => if j = k then xk l x k k ^^^ x else xk l x k j) = xk l x (k + 1) := by
  funext j
  unfold xk
  by_cases e : j = k
  · subst e; simp
  · rw [if_neg e]
    by_cases h : j < k
    · rw [if_pos h, if_pos (by omega)]
    · rw [if_neg h, if_neg (by omega)]
theorem xk_all (l : List UInt8) (x : UInt8) : (List.range 64).map (xk l x 64) = xorL l x := by
  unfold xorL
  apply List.map_congr_left
  intro i hi
  have : i < 64 := by simpa using hi
  simp [xk, this]
theorem copy_run64 (w : World) (g : Nat) (hg : w.heap[g]? = some (.cells z64b 239 (0, 0))) (s : ByteArray) (hs : s.size ≤ 64) (ty : TypeId) :
    (Builtin.copy_ #[125, 9] ty #[.slice (some ⟨g, 0, none⟩) 64 64, .string s]).run Tryz.prog w = .ok (goInt s.size) (w.setRow g (yc (gd s.data.toList))) := by
  rw [← yc_copy s.data.toList (by rw [Array.length_toList]; exact hs)]
  have hl : s.data.toList.length = s.size := Array.length_toList
  rw [hl]
  exact run_copy_row_string _ _ _ _ 5 _ _ _ _ _ _ _ Tryz.underlying125 (by kernel_rfl) hg hs (by unfold z64b; rw [size_madeCells]; show 0 + s.size ≤ 64 * 1; omega)
set_option maxRecDepth 100000 in
set_option maxHeartbeats 2000000 in
theorem h_Mac64 (key s : ByteArray) (hk : key.size ≤ 64) (hs : s.size ≤ 100000000) (w : World) : Calls Tryz.prog 222 #[.string key, .string s] w (Ret (.string (bstr (macL key.data.toList s.data.toList))) w) := by
  obtain ⟨l, hl⟩ : ∃ l, key.data.toList = l := ⟨_, rfl⟩
  have hll : l.length = key.size := by rw [← hl]; exact Array.length_toList
  have HR := Lib.hid (show macL l s.data.toList = shaL (xorL l 92 ++ shaL (xorL l 54 ++ s.data.toList)) from by unfold macL; rw [if_neg (by omega)])
  have HCR := Lib.hid (fun W g hg ty => copy_run64 W g hg key hk ty)
  rw [hl] at HCR
  have HS1 := Lib.hid (h_Sum (bstr (xorL l 54) ++ s) (by rw [ByteArray.size_append, bstr_size]; simp [xorL]; omega))
  have HS2 := Lib.hid (h_Sum (bstr (xorL l 92) ++ bstr (shaL (xorL l 54 ++ s.data.toList))) (by rw [ByteArray.size_append, bstr_size, bstr_size, shaL_length]; simp [xorL]))
  have HSS := Lib.hid hs
  rw [hl, HR.out]
  have hlei : decide ((64 : Int) < (key.size : Int)) = false := decide_eq_false (by omega)
  clear hl hll hk hs HR
  go_enter Tryz.func222, Tryz.ntmps222
  go_upto_region 3 with (fail)
  clear hlei
  obtain ⟨P, hP⟩ : ∃ P, w.heap.size = P := ⟨_, rfl⟩
  obtain ⟨w1, hw1⟩ : ∃ W, w.alloc (.cells z64b 239) = W := ⟨_, rfl⟩
  have hs1 : w1.heap.size = P + 1 := by rw [← hw1, ← hP]; simp
  have hz1 : w1.heap[P]? = some (.cells z64b 239 (0, 0)) := by rw [← hw1, ← hP]; exact heap_alloc_new _ _
  have hb1 : Below P w w1 := by rw [← hw1, ← hP]; exact (Below.refl _ _).alloc (Nat.le_refl _) _
  obtain ⟨w2, hw2⟩ : ∃ W, w1.alloc (.cells z64b 239) = W := ⟨_, rfl⟩
  have hz2 : w2.heap[P + 1]? = some (.cells z64b 239 (0, 0)) := by rw [← hw2, ← hs1]; exact heap_alloc_new _ _
  have hb2 : Below w1.heap.size w1 w2 := by rw [← hw2]; exact (Below.refl _ _).alloc (Nat.le_refl _) _
  have HZ1 := Lib.hid ((hb2.block P (by omega)).trans hz1)
  have HZ2 := Lib.hid hz2
  have HB2 := Lib.hid (hb1.trans (hb2.mono (by omega)))
  go_step
  refine Great.wpList_allocTo rfl _ rfl (.pointer (some ⟨P, 0, none⟩)) (.cells z64b 239) (by rw [← hP]; kernel_rfl) ?_
  rw [hw1]
  refine Great.wpList_allocTo rfl _ rfl (.pointer (some ⟨P + 1, 0, none⟩)) (.cells z64b 239) (by rw [← hs1]; kernel_rfl) ?_
  rw [hw2]
  have HP := Lib.hid hP
  clear hw1 hw2 hz1 hz2 hb1 hb2 hs1 hP
  simp only [Act.put, sqA, sqB, sqC]
  go_upto_region 5 with (refine wpList_copy_ran _ rfl (.tmp 13) (.tmp 14) 125 9 rfl _ _ rfl rfl (HCR.out _ P HZ1.out _) ?_)
  go_upto_region 6 with (refine wpList_copy_ran _ rfl (.tmp 16) (.tmp 17) 125 9 rfl _ _ rfl rfl (HCR.out _ (P + 1) ((setRow_other _ _ _ _ (by omega)).trans HZ2.out) _) ?_)
  have hr1 : RowY ((w2.setRow P (yc (gd l))).setRow (P + 1) (yc (gd l))) P (xk l 54 0) := by
    rw [xk_zero]; exact (setRow_other _ _ _ _ (by omega)).trans (setRow_heap _ _ _ _ _ _ HZ1.out)
  have hr2 : RowY ((w2.setRow P (yc (gd l))).setRow (P + 1) (yc (gd l))) (P + 1) (xk l 92 0) := by
    rw [xk_zero]; exact setRow_heap _ _ _ _ _ _ ((setRow_other _ _ _ _ (by omega)).trans HZ2.out)
  have hb3 : Below P w ((w2.setRow P (yc (gd l))).setRow (P + 1) (yc (gd l))) := below_setRow (below_setRow HB2.out (Nat.le_refl _) _) (by omega) _
  obtain ⟨w3, hw3⟩ : ∃ W, (w2.setRow P (yc (gd l))).setRow (P + 1) (yc (gd l)) = W := ⟨_, rfl⟩
  rw [hw3] at hr1 hr2 hb3 ⊢
  have HR1 := Lib.hid hr1
  have HR2 := Lib.hid hr2
  have HB3 := Lib.hid hb3
  clear hw3 hr1 hr2 hb3 HCR HZ1 HZ2 HB2
  simp only [Act.put, sqA, sqB, sqC]
  go_wp2
  go_loopw [19] (fun v wr => ∃ k : Nat, k ≤ 64 ∧ v = .int .i64 k ∧ RowY wr P (xk l 54 k) ∧ RowY wr (P + 1) (xk l 92 k) ∧ Below P w wr) (fun v _ => 64 - (RowKit.intOf v).toNat)
  case atStart => exact ⟨0, by omega, rfl, HR1.out, HR2.out, HB3.out⟩
  case round =>
    obtain ⟨k, hk, rfl, hy1, hy2, hb⟩ := hrel
    have HY1 := Lib.hid hy1
    have HY2 := Lib.hid hy2
    have HB := Lib.hid hb
    clear hy1 hy2 hb HR1 HR2 HB3
    by_cases hlt : k < 64
    · have hki : (k : Int) < 64 := by omega
      have HK := Lib.hid hlt
      have d0 := HY1.out.cell hlt
      have d1 := HY2.out.cell hlt
      have f0 := HY1.out.free k
      have f1 := HY2.out.free k
      obtain ⟨x1, hx1⟩ : ∃ x, xk l 54 k k = x := ⟨_, rfl⟩
      obtain ⟨x2, hx2⟩ : ∃ x, xk l 92 k k = x := ⟨_, rfl⟩
      have HX1 := Lib.hid hx1
      have HX2 := Lib.hid hx2
      rw [hx1] at d0
      rw [hx2] at d1
      clear hx1 hx2 hlt hk
      go_wp2
      rw [xor_54 x1, xor_92 x2]
      have h1 := HY1.out.set k (x1 ^^^ 54)
      have h2 := HY2.out.set k (x2 ^^^ 92)
      rw [← HX1.out, xk_step] at h1
      rw [← HX2.out, xk_step] at h2
      refine ⟨⟨k + 1, by have := HK.out; omega, by go_num, ?_, ?_, ?_⟩, ?_⟩
      · rw [← HX1.out]; exact h1.other (by omega)
      · rw [← HX2.out]
        exact RowY.set_off h2 HY2.out (by omega)
      · exact (HB.out.setCell (p := ⟨P, k, none⟩) (Nat.le_refl P) _).setCell (p := ⟨P + 1, k, none⟩) (show P ≤ P + 1 by omega) _
      · have := HK.out; simp [RowKit.intOf]; omega
    · obtain rfl : k = 64 := by omega
      have hki : ¬ (((64 : Nat) : Int) < 64) := by omega
      have HC1 := Lib.hid (show BytesAt wr (some ⟨P, 0, none⟩) 64 64 (xorL l 54) from by rw [← xk_all]; exact HY1.out.bytes)
      have HC2 := Lib.hid (show BytesAt wr (some ⟨P + 1, 0, none⟩) 64 64 (xorL l 92) from by rw [← xk_all]; exact HY2.out.bytes)
      rw [app_data, bstr_data] at HS1
      rw [app_data, bstr_data, bstr_data] at HS2
      obtain ⟨a1, ha1⟩ : ∃ z, bstr (xorL l 54) = z := ⟨_, rfl⟩
      obtain ⟨a2, ha2⟩ : ∃ z, bstr (xorL l 92) = z := ⟨_, rfl⟩
      obtain ⟨m1, hm1⟩ : ∃ z, bstr (shaL (xorL l 54 ++ s.data.toList)) = z := ⟨_, rfl⟩
      obtain ⟨m2, hm2⟩ : ∃ z, bstr (shaL (xorL l 92 ++ shaL (xorL l 54 ++ s.data.toList))) = z := ⟨_, rfl⟩
      have HA1 := Lib.hid ha1
      have HA2 := Lib.hid ha2
      have HM2 := Lib.hid hm2
      rw [ha1, hm1] at HS1
      rw [ha2, hm1, hm2] at HS2
      have hz1 : ¬ (9223372036854775807 < a1.size + s.size) := by rw [← ha1, bstr_size]; have := HSS.out; simp [xorL]; omega
      have hz2 : ¬ (9223372036854775807 < a2.size + m1.size) := by rw [← ha2, ← hm1, bstr_size, bstr_size, shaL_length]; simp [xorL]
      have HLT := Lib.hid HY2.out.lt
      clear ha1 ha2 hm1 hm2 hk hlt
      go_wp2
      obtain ⟨wd, hwd⟩ : ∃ wd, wr.drew = wd := ⟨_, rfl⟩
      have HD1 := Lib.hid (show BytesAt wd (some ⟨P, 0, none⟩) 64 64 (xorL l 54) from hwd ▸ HC1.out)
      have HD2 := Lib.hid (show BytesAt wd (some ⟨P + 1, 0, none⟩) 64 64 (xorL l 92) from hwd ▸ HC2.out)
      have HBD := Lib.hid (show Below P w wd from hwd ▸ HB.out.drew)
      have HPD := Lib.hid (show P + 1 < wd.heap.size from hwd ▸ HLT.out)
      clear HC1 HC2
      refine wp_region_K 10 (Below (wd).heap.size (wd)) (by kernel_rfl) ?_
      intro hD
      rw [hwd]
      refine rP 0 33 9 rfl hD (Below.refl _ _) ?_; clear hD; intro hD; simp only [Act.put, sqA, sqB, sqC]
      refine wpAnyK_takeSD (i := 1) (d := some 34) (v := (.string a2)) (fuel := 8) rfl (by kernel_rfl) (by kernel_rfl) (by kernel_rfl) (fun _ _ _ h => h) hD (Below.refl _ _) (.inl ⟨by kernel_rfl, ?y12_1b1⟩) ?n12_1b1
      case y12_1b1 =>
        intro w' hS'
        have hcv := ((HD2.out.keptB hS' HPD.out).conv 125 9 5 Tryz.underlying125 Tryz.underlying5 Tryz.underlying9)
        rw [HA2.out] at hcv
        go_simp
      clear hD; intro hD
      simp only [Act.put, sqA, sqB, sqC]
      refine rP 2 35 7 rfl hD (Below.refl _ _) ?_; clear hD; intro hD; simp only [Act.put, sqA, sqB, sqC]
      refine wpAnyK_takeSD (i := 3) (d := some 36) (v := (.string a1)) (fuel := 6) rfl (by kernel_rfl) (by kernel_rfl) (by kernel_rfl) (fun _ _ _ h => h) hD (Below.refl _ _) (.inl ⟨by kernel_rfl, ?y12_3b1⟩) ?n12_3b1
      case y12_3b1 =>
        intro w' hS'
        have hcv := ((HD1.out.keptB hS' (by have := HPD.out; omega)).conv 125 9 5 Tryz.underlying125 Tryz.underlying5 Tryz.underlying9)
        rw [HA1.out] at hcv
        go_simp
      clear hD; intro hD
      simp only [Act.put, sqA, sqB, sqC]
      refine rP 4 37 5 rfl hD (Below.refl _ _) ?_; clear hD; intro hD; simp only [Act.put, sqA, sqB, sqC]
      refine rP 5 38 4 rfl hD (Below.refl _ _) ?_; clear hD; intro hD; simp only [Act.put, sqA, sqB, sqC]
      refine rO 6 3 rfl hD ?_; clear hD; intro K6 hK6
      go_wp2_with fail
      refine (HS1.out _).mono ?_
      rintro ev w4 ⟨rfl, hb⟩
      have HB6 := Lib.hid hb
      clear hb
      go_wp2
      refine hK6 _ _ (by exact HB6.out) ?_; clear hK6; intro hS_12_6 hD
      refine rP 7 40 2 rfl hD hS_12_6 ?_; clear hD; intro hD; simp only [Act.put, sqA, sqB, sqC]
      refine rO 8 1 rfl hD ?_; clear hD; intro K8 hK8
      go_wp2_with fail
      refine (HS2.out _).mono ?_
      rintro ev w5 ⟨rfl, hb⟩
      have HB8 := Lib.hid hb
      clear hb
      go_wp2
      refine hK8 _ _ (by exact Below.trans hS_12_6 (Below.mono HB8.out (Below.size hS_12_6))) ?_; clear hK8; intro hS_12_8 hD
      refine rO 9 0 rfl hD ?_; clear hD; intro K9 hK9
      go_wp2
      refine hK9 _ _ (by exact hS_12_8) ?_; clear hK9; intro hS_12_9 hD
      have HL := Lib.hid hS_12_9
      refine wpAnyK_done (by kernel_rfl) ?_ 0
      clear hD
      go_wp2
      go_ret
      exact ⟨by show Ending.returned (.string m2) = _; rw [HM2.out], by rw [HP.out]; exact HBD.out.trans (HL.out.mono (by have := HPD.out; omega))⟩
set_option maxRecDepth 100000 in
set_option maxHeartbeats 2000000 in
theorem h_Mac (key s : ByteArray) (hkk : key.size ≤ 1000000) (hs : s.size ≤ 100000000) (w : World) : Calls Tryz.prog 222 #[.string key, .string s] w (Ret (.string (bstr (macL key.data.toList s.data.toList))) w) := by
  by_cases h64 : key.size ≤ 64
  · exact h_Mac64 key s h64 hs w
  obtain ⟨k2, hk2⟩ : ∃ k, bstr (shaL key.data.toList) = k := ⟨_, rfl⟩
  obtain ⟨l, hl⟩ : ∃ l, k2.data.toList = l := ⟨_, rfl⟩
  have hll : key.data.toList.length = key.size := Array.length_toList
  have hk : k2.size ≤ 64 := by rw [← hk2, bstr_size, shaL_length]; decide
  have hl2 : shaL key.data.toList = l := by rw [← hl, ← hk2, bstr_data]
  have HR := Lib.hid (show macL key.data.toList s.data.toList = shaL (xorL l 92 ++ shaL (xorL l 54 ++ s.data.toList)) from by unfold macL; rw [if_pos (by omega), hl2])
  have HSK := Lib.hid (h_Sum key (by omega))
  rw [hk2] at HSK
  have HCR := Lib.hid (fun W g hg ty => copy_run64 W g hg k2 hk ty)
  rw [hl] at HCR
  have HS1 := Lib.hid (h_Sum (bstr (xorL l 54) ++ s) (by rw [ByteArray.size_append, bstr_size]; simp [xorL]; omega))
  have HS2 := Lib.hid (h_Sum (bstr (xorL l 92) ++ bstr (shaL (xorL l 54 ++ s.data.toList))) (by rw [ByteArray.size_append, bstr_size, bstr_size, shaL_length]; simp [xorL]))
  have HSS := Lib.hid hs
  rw [HR.out]
  have hlei : decide ((64 : Int) < (key.size : Int)) = true := decide_eq_true (by omega)
  clear hl hll hk hs HR hl2 hk2 h64 hkk
  go_enter Tryz.func222, Tryz.ntmps222
  go_wp2_with fail
  refine (HSK.out _).mono ?_
  rintro ev w0 ⟨rfl, hb⟩
  have HW0 := Lib.hid hb
  clear hb
  go_upto_region 3 with (fail)
  clear hlei
  obtain ⟨P, hP⟩ : ∃ P, w0.heap.size = P := ⟨_, rfl⟩
  obtain ⟨w1, hw1⟩ : ∃ W, w0.alloc (.cells z64b 239) = W := ⟨_, rfl⟩
  have hs1 : w1.heap.size = P + 1 := by rw [← hw1, ← hP]; simp
  have hz1 : w1.heap[P]? = some (.cells z64b 239 (0, 0)) := by rw [← hw1, ← hP]; exact heap_alloc_new _ _
  have hb1 : Below P w0 w1 := by rw [← hw1, ← hP]; exact (Below.refl _ _).alloc (Nat.le_refl _) _
  obtain ⟨w2, hw2⟩ : ∃ W, w1.alloc (.cells z64b 239) = W := ⟨_, rfl⟩
  have hz2 : w2.heap[P + 1]? = some (.cells z64b 239 (0, 0)) := by rw [← hw2, ← hs1]; exact heap_alloc_new _ _
  have hb2 : Below w1.heap.size w1 w2 := by rw [← hw2]; exact (Below.refl _ _).alloc (Nat.le_refl _) _
  have HZ1 := Lib.hid ((hb2.block P (by omega)).trans hz1)
  have HZ2 := Lib.hid hz2
  have HB2 := Lib.hid (hb1.trans (hb2.mono (by omega)))
  go_step
  refine Great.wpList_allocTo rfl _ rfl (.pointer (some ⟨P, 0, none⟩)) (.cells z64b 239) (by rw [← hP]; kernel_rfl) ?_
  rw [hw1]
  refine Great.wpList_allocTo rfl _ rfl (.pointer (some ⟨P + 1, 0, none⟩)) (.cells z64b 239) (by rw [← hs1]; kernel_rfl) ?_
  rw [hw2]
  have HP := Lib.hid hP
  clear hw1 hw2 hz1 hz2 hb1 hb2 hs1 hP
  simp only [Act.put, sqA, sqB, sqC]
  go_upto_region 5 with (refine wpList_copy_ran _ rfl (.tmp 13) (.tmp 14) 125 9 rfl _ _ rfl rfl (HCR.out _ P HZ1.out _) ?_)
  go_upto_region 6 with (refine wpList_copy_ran _ rfl (.tmp 16) (.tmp 17) 125 9 rfl _ _ rfl rfl (HCR.out _ (P + 1) ((setRow_other _ _ _ _ (by omega)).trans HZ2.out) _) ?_)
  have hr1 : RowY ((w2.setRow P (yc (gd l))).setRow (P + 1) (yc (gd l))) P (xk l 54 0) := by
    rw [xk_zero]; exact (setRow_other _ _ _ _ (by omega)).trans (setRow_heap _ _ _ _ _ _ HZ1.out)
  have hr2 : RowY ((w2.setRow P (yc (gd l))).setRow (P + 1) (yc (gd l))) (P + 1) (xk l 92 0) := by
    rw [xk_zero]; exact setRow_heap _ _ _ _ _ _ ((setRow_other _ _ _ _ (by omega)).trans HZ2.out)
  have hb3 : Below P w0 ((w2.setRow P (yc (gd l))).setRow (P + 1) (yc (gd l))) := below_setRow (below_setRow HB2.out (Nat.le_refl _) _) (by omega) _
  obtain ⟨w3, hw3⟩ : ∃ W, (w2.setRow P (yc (gd l))).setRow (P + 1) (yc (gd l)) = W := ⟨_, rfl⟩
  rw [hw3] at hr1 hr2 hb3 ⊢
  have HR1 := Lib.hid hr1
  have HR2 := Lib.hid hr2
  have HB3 := Lib.hid hb3
  clear hw3 hr1 hr2 hb3 HCR HZ1 HZ2 HB2
  simp only [Act.put, sqA, sqB, sqC]
  go_wp2
  go_loopw [19] (fun v wr => ∃ k : Nat, k ≤ 64 ∧ v = .int .i64 k ∧ RowY wr P (xk l 54 k) ∧ RowY wr (P + 1) (xk l 92 k) ∧ Below P w0 wr) (fun v _ => 64 - (RowKit.intOf v).toNat)
  case atStart => exact ⟨0, by omega, rfl, HR1.out, HR2.out, HB3.out⟩
  case round =>
    obtain ⟨k, hk, rfl, hy1, hy2, hb⟩ := hrel
    have HY1 := Lib.hid hy1
    have HY2 := Lib.hid hy2
    have HB := Lib.hid hb
    clear hy1 hy2 hb HR1 HR2 HB3
    by_cases hlt : k < 64
    · have hki : (k : Int) < 64 := by omega
      have HK := Lib.hid hlt
      have d0 := HY1.out.cell hlt
      have d1 := HY2.out.cell hlt
      have f0 := HY1.out.free k
      have f1 := HY2.out.free k
      obtain ⟨x1, hx1⟩ : ∃ x, xk l 54 k k = x := ⟨_, rfl⟩
      obtain ⟨x2, hx2⟩ : ∃ x, xk l 92 k k = x := ⟨_, rfl⟩
      have HX1 := Lib.hid hx1
      have HX2 := Lib.hid hx2
      rw [hx1] at d0
      rw [hx2] at d1
      clear hx1 hx2 hlt hk
      go_wp2
      rw [xor_54 x1, xor_92 x2]
      have h1 := HY1.out.set k (x1 ^^^ 54)
      have h2 := HY2.out.set k (x2 ^^^ 92)
      rw [← HX1.out, xk_step] at h1
      rw [← HX2.out, xk_step] at h2
      refine ⟨⟨k + 1, by have := HK.out; omega, by go_num, ?_, ?_, ?_⟩, ?_⟩
      · rw [← HX1.out]; exact h1.other (by omega)
      · rw [← HX2.out]
        exact RowY.set_off h2 HY2.out (by omega)
      · exact (HB.out.setCell (p := ⟨P, k, none⟩) (Nat.le_refl P) _).setCell (p := ⟨P + 1, k, none⟩) (show P ≤ P + 1 by omega) _
      · have := HK.out; simp [RowKit.intOf]; omega
    · obtain rfl : k = 64 := by omega
      have hki : ¬ (((64 : Nat) : Int) < 64) := by omega
      have HC1 := Lib.hid (show BytesAt wr (some ⟨P, 0, none⟩) 64 64 (xorL l 54) from by rw [← xk_all]; exact HY1.out.bytes)
      have HC2 := Lib.hid (show BytesAt wr (some ⟨P + 1, 0, none⟩) 64 64 (xorL l 92) from by rw [← xk_all]; exact HY2.out.bytes)
      rw [app_data, bstr_data] at HS1
      rw [app_data, bstr_data, bstr_data] at HS2
      obtain ⟨a1, ha1⟩ : ∃ z, bstr (xorL l 54) = z := ⟨_, rfl⟩
      obtain ⟨a2, ha2⟩ : ∃ z, bstr (xorL l 92) = z := ⟨_, rfl⟩
      obtain ⟨m1, hm1⟩ : ∃ z, bstr (shaL (xorL l 54 ++ s.data.toList)) = z := ⟨_, rfl⟩
      obtain ⟨m2, hm2⟩ : ∃ z, bstr (shaL (xorL l 92 ++ shaL (xorL l 54 ++ s.data.toList))) = z := ⟨_, rfl⟩
      have HA1 := Lib.hid ha1
      have HA2 := Lib.hid ha2
      have HM2 := Lib.hid hm2
      rw [ha1, hm1] at HS1
      rw [ha2, hm1, hm2] at HS2
      have hz1 : ¬ (9223372036854775807 < a1.size + s.size) := by rw [← ha1, bstr_size]; have := HSS.out; simp [xorL]; omega
      have hz2 : ¬ (9223372036854775807 < a2.size + m1.size) := by rw [← ha2, ← hm1, bstr_size, bstr_size, shaL_length]; simp [xorL]
      have HLT := Lib.hid HY2.out.lt
      clear ha1 ha2 hm1 hm2 hk hlt
      go_wp2
      obtain ⟨wd, hwd⟩ : ∃ wd, wr.drew = wd := ⟨_, rfl⟩
      have HD1 := Lib.hid (show BytesAt wd (some ⟨P, 0, none⟩) 64 64 (xorL l 54) from hwd ▸ HC1.out)
      have HD2 := Lib.hid (show BytesAt wd (some ⟨P + 1, 0, none⟩) 64 64 (xorL l 92) from hwd ▸ HC2.out)
      have HBD := Lib.hid (show Below P w0 wd from hwd ▸ HB.out.drew)
      have HPD := Lib.hid (show P + 1 < wd.heap.size from hwd ▸ HLT.out)
      clear HC1 HC2
      refine wp_region_K 10 (Below (wd).heap.size (wd)) (by kernel_rfl) ?_
      intro hD
      rw [hwd]
      refine rP 0 33 9 rfl hD (Below.refl _ _) ?_; clear hD; intro hD; simp only [Act.put, sqA, sqB, sqC]
      refine wpAnyK_takeSD (i := 1) (d := some 34) (v := (.string a2)) (fuel := 8) rfl (by kernel_rfl) (by kernel_rfl) (by kernel_rfl) (fun _ _ _ h => h) hD (Below.refl _ _) (.inl ⟨by kernel_rfl, ?y12_1b2⟩) ?n12_1b2
      case y12_1b2 =>
        intro w' hS'
        have hcv := ((HD2.out.keptB hS' HPD.out).conv 125 9 5 Tryz.underlying125 Tryz.underlying5 Tryz.underlying9)
        rw [HA2.out] at hcv
        go_simp
      clear hD; intro hD
      simp only [Act.put, sqA, sqB, sqC]
      refine rP 2 35 7 rfl hD (Below.refl _ _) ?_; clear hD; intro hD; simp only [Act.put, sqA, sqB, sqC]
      refine wpAnyK_takeSD (i := 3) (d := some 36) (v := (.string a1)) (fuel := 6) rfl (by kernel_rfl) (by kernel_rfl) (by kernel_rfl) (fun _ _ _ h => h) hD (Below.refl _ _) (.inl ⟨by kernel_rfl, ?y12_3b2⟩) ?n12_3b2
      case y12_3b2 =>
        intro w' hS'
        have hcv := ((HD1.out.keptB hS' (by have := HPD.out; omega)).conv 125 9 5 Tryz.underlying125 Tryz.underlying5 Tryz.underlying9)
        rw [HA1.out] at hcv
        go_simp
      clear hD; intro hD
      simp only [Act.put, sqA, sqB, sqC]
      refine rP 4 37 5 rfl hD (Below.refl _ _) ?_; clear hD; intro hD; simp only [Act.put, sqA, sqB, sqC]
      refine rP 5 38 4 rfl hD (Below.refl _ _) ?_; clear hD; intro hD; simp only [Act.put, sqA, sqB, sqC]
      refine rO 6 3 rfl hD ?_; clear hD; intro K6 hK6
      go_wp2_with fail
      refine (HS1.out _).mono ?_
      rintro ev w4 ⟨rfl, hb⟩
      have HB6 := Lib.hid hb
      clear hb
      go_wp2
      refine hK6 _ _ (by exact HB6.out) ?_; clear hK6; intro hS_12_6 hD
      refine rP 7 40 2 rfl hD hS_12_6 ?_; clear hD; intro hD; simp only [Act.put, sqA, sqB, sqC]
      refine rO 8 1 rfl hD ?_; clear hD; intro K8 hK8
      go_wp2_with fail
      refine (HS2.out _).mono ?_
      rintro ev w5 ⟨rfl, hb⟩
      have HB8 := Lib.hid hb
      clear hb
      go_wp2
      refine hK8 _ _ (by exact Below.trans hS_12_6 (Below.mono HB8.out (Below.size hS_12_6))) ?_; clear hK8; intro hS_12_8 hD
      refine rO 9 0 rfl hD ?_; clear hD; intro K9 hK9
      go_wp2
      refine hK9 _ _ (by exact hS_12_8) ?_; clear hK9; intro hS_12_9 hD
      have HL := Lib.hid hS_12_9
      refine wpAnyK_done (by kernel_rfl) ?_ 0
      clear hD
      go_wp2
      go_ret
      exact ⟨by show Ending.returned (.string m2) = _; rw [HM2.out], by exact HW0.out.trans (by have h := HBD.out.trans (HL.out.mono (by have := HPD.out; omega)); rw [← HP.out] at h; exact h.mono HW0.out.size)⟩
end Go.Proofs.YtndmjfkmnjejkaaGreatDoor

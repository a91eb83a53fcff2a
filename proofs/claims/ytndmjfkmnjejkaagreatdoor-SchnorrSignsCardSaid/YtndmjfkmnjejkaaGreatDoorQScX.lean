/- Walks: dominolaw33.Few, dominolaw33.awake. -/
import Derived.Test.YtndmjfkmnjejkaaGreatDoorQFw9
import Derived.Test.YtndmjfkmnjejkaaGreatDoorQOpU
import Derived.Test.YtndmjfkmnjejkaaGreatDoorQPeK
import Derived.Test.YtndmjfkmnjejkaaGreatDoorQScW
import Derived.Deep.Cut
set_option linter.unusedVariables false
set_option linter.unusedSimpArgs false
namespace Go.Proofs.YtndmjfkmnjejkaaGreatDoor
open Go.RowKit Go.Lib
def few33 (M O G H : ByteArray) (l : List ByteArray) : Bool := few9 M O [G, H] && few9 M O l
theorem few33_of {M O G H : ByteArray} {l : List ByteArray} (h : few33 M O G H l = true) : M.size ≤ 8 ∧ O.size ≤ 10 ∧ G.size ≤ 20 ∧ H.size ≤ 20 ∧ ∀ s ∈ l, s.size ≤ 20 := by
  unfold few33 at h
  rw [Bool.and_eq_true] at h
  obtain ⟨a, b, c⟩ := few9_of h.1
  exact ⟨a, b, c G (by simp), c H (by simp), (few9_of h.2).2.2⟩
set_option maxRecDepth 100000 in
set_option maxHeartbeats 1000000 in
theorem law33_Few (M O G H : ByteArray) (l : List ByteArray) (A : Option Addr) (n cap : Nat) (hn : n ≤ 1000) (w : World) (hsl : SlN w A n cap l) : Calls Tryz.prog 18 #[kV M O G H, .slice A n cap] w (Ret (.bool (few33 M O G H l)) w) := by
  have HK0 := Lib.hid (SB.new w M O G H)
  have HS0 := Lib.hid (hsl.kept ((Below.refl _ _).alloc (Nat.le_refl _) (.cells #[.string M, .string O, .string G, .string H] 46)) (Nat.le_refl _))
  obtain ⟨W0, hW0⟩ : ∃ W, w.alloc (.cells #[.string M, .string O, .string G, .string H] 46) = W := ⟨_, rfl⟩
  rw [hW0] at HK0 HS0
  have hs2 := sln_alloc W0 [G, H] 22 (by simp)
  have hbb := (Below.refl W0.heap.size W0).alloc (Nat.le_refl _) (.cells #[.string G, .string H] 22)
  have HF1 := Lib.hid (law_Few M O [G, H] _ 2 2 (by omega) _ hs2)
  have HK1 := Lib.hid (HK0.out.next hbb)
  have HS1 := Lib.hid (HS0.out.kept hbb (Nat.le_refl _))
  have HLF := Lib.hid (fun w hs => law_Few M O l A n cap hn w hs)
  obtain ⟨c0, c1, c2, c3⟩ := HK0.out.1.cells
  cases h1 : few9 M O [G, H] with
  | false =>
    rw [h1] at HF1
    have HR := Lib.hid (show few33 M O G H l = false from by unfold few33; rw [h1]; rfl)
    rw [HR.out]
    unfold kV gV at *
    clear hsl hn hs2 hbb h1
    go_enter Tryz.func18, Tryz.ntmps18
    go_wp2_with fail
    try rw [hW0]
    clear hW0
    refine HF1.out.mono ?_
    rintro ev w1 ⟨rfl, hb⟩
    have HK2 := Lib.hid (HK1.out.next hb)
    clear hb c0 c1 c2 c3
    go_wp2
    go_ret
    exact ⟨rfl, HK2.out.2⟩
  | true =>
    rw [h1] at HF1
    have HR := Lib.hid (show few33 M O G H l = few9 M O l from by unfold few33; rw [h1]; rfl)
    rw [HR.out]
    unfold kV gV at *
    clear hsl hn hs2 hbb h1
    go_enter Tryz.func18, Tryz.ntmps18
    go_wp2_with fail
    try rw [hW0]
    clear hW0
    refine HF1.out.mono ?_
    rintro ev w1 ⟨rfl, hb⟩
    have HK2 := Lib.hid (HK1.out.next hb)
    have HLL := Lib.hid (HLF.out _ (HS1.out.kept hb (Nat.le_refl _)))
    clear hb c0 c1 c2 c3
    obtain ⟨c0, c1, c2, c3⟩ := HK2.out.1.cells
    go_wp2_with fail
    refine HLL.out.mono ?_
    rintro ev w2 ⟨rfl, hb⟩
    have HK3 := Lib.hid (HK2.out.next hb)
    clear hb c0 c1 c2 c3
    go_wp2
    go_ret
    exact ⟨rfl, HK3.out.2⟩
theorem ex33_ck : scK ⟨#[23]⟩ ⟨#[11]⟩ ⟨#[4]⟩ ⟨#[18]⟩ = 0 := by decide +kernel
theorem ex33_check (w : World) : Calls Tryz.prog 20 #[kV ⟨#[23]⟩ ⟨#[11]⟩ ⟨#[4]⟩ ⟨#[18]⟩] w (Ret (.int .i64 0) w) := by
  have h := sc_Check ⟨#[23]⟩ ⟨#[11]⟩ ⟨#[4]⟩ ⟨#[18]⟩ (by decide) (by decide) (by decide) (by decide) w
  rwa [ex33_ck] at h
theorem ex33_formed (a b c d : ByteArray) (h : ([a, b, c, d].all nvalid && [a, b, c, d].all (fun x => decide (x.size ≤ 1))) = true) (W : World) : Calls Tryz.prog 59 #[.slice (some ⟨W.heap.size, 0, none⟩) 4 4] (W.alloc (.cells #[.string a, .string b, .string c, .string d] 22)) (RetQ (.bool true) (W.alloc (.cells #[.string a, .string b, .string c, .string d] 22))) := by
  rw [Bool.and_eq_true, List.all_eq_true (p := fun x : ByteArray => decide (x.size ≤ 1))] at h
  have := sc_formed [a, b, c, d] (some ⟨W.heap.size, 0, none⟩) 4 4 (by omega) (fun z hz => by have := of_decide_eq_true (h.2 z hz); omega) (W.alloc (.cells #[.string a, .string b, .string c, .string d] 22)) (sln_alloc W [a, b, c, d] 22 (by simp))
  rwa [h.1] at this
theorem ex33_below (c r : ByteArray) (h : (nvalid c && (nvalid r && decide (num c < 11 ∧ num r < 11))) = true) (w : World) : Calls Tryz.prog 65 #[kV ⟨#[23]⟩ ⟨#[11]⟩ ⟨#[4]⟩ ⟨#[18]⟩, .agg #[.string c, .string r]] w (Ret (.bool true) w) := by
  rw [Bool.and_eq_true, Bool.and_eq_true] at h
  have := sc_below ⟨#[23]⟩ ⟨#[11]⟩ ⟨#[4]⟩ ⟨#[18]⟩ c r (by decide) h.1 h.2.1 w
  rwa [show num (⟨#[11]⟩ : ByteArray) = 11 from by decide, h.2.2] at this
theorem ex33_com (c r : ByteArray) (x : Nat) (h : (nvalid c && (nvalid r && decide (num c < 11 ∧ cmS 23 11 4 18 (num c) (num r) = x))) = true) (w : World) : Calls Tryz.prog 66 #[kV ⟨#[23]⟩ ⟨#[11]⟩ ⟨#[4]⟩ ⟨#[18]⟩, .agg #[.string c, .string r]] w (Ret (.agg #[.string (nS x)]) w) := by
  rw [Bool.and_eq_true, Bool.and_eq_true] at h
  have h2 := of_decide_eq_true h.2.2
  have := sc_commitmentOf ⟨#[23]⟩ ⟨#[11]⟩ ⟨#[4]⟩ ⟨#[18]⟩ c r (by decide) ex33_ck h.1 h.2.1 h2.1 w
  rwa [show num (⟨#[23]⟩ : ByteArray) = 23 from by decide, show num (⟨#[11]⟩ : ByteArray) = 11 from by decide, show num (⟨#[4]⟩ : ByteArray) = 4 from by decide, show num (⟨#[18]⟩ : ByteArray) = 18 from by decide, h2.2] at this
theorem ex33_sub (a b c : Nat) (h : decide (a < 256 ∧ b < 256 ∧ sbM a b 11 = c) = true) (w : World) : Calls Tryz.prog 67 #[.string (nS a), .string (nS b), .string (nS 11)] w (Ret (.tuple #[.string (nS c), .int .i64 0]) w) := by
  have h := of_decide_eq_true h
  have := mod_Sub a b 11 (lt128_of_lt8 (by omega)) (lt128_of_lt8 (by omega)) (lt128_of_lt8 (by decide)) (by decide) w
  rwa [h.2.2] at this
theorem ex33_x1 (w : World) : Calls Tryz.prog 22 #[kV ⟨#[23]⟩ ⟨#[11]⟩ ⟨#[4]⟩ ⟨#[18]⟩, .agg #[.string ⟨#[1]⟩, .string ⟨#[5]⟩], .agg #[.string ⟨#[2]⟩, .string ⟨#[8]⟩]] w (Ret (.tuple #[.string ⟨#[3]⟩, .int .i64 0]) w) := by
  have hin : ∀ w, Calls Tryz.prog 68 #[.string (nS 10), .string (nS 11)] w (Ret (.tuple #[.string (nS 10), .int .i64 0]) w) := fun w => by
    have := mod_InverseK 10 11 (by decide) (by decide) (by decide) (by decide) w
    rwa [show invN 10 11 = 10 from by decide +kernel] at this
  have hmu : ∀ w, Calls Tryz.prog 69 #[.string (nS 8), .string (nS 10), .string (nS 11)] w (Ret (.tuple #[.string (nS 3), .int .i64 0]) w) := fun w => mod_Mul 8 10 11 (by decide) (by decide) (by decide) (by decide) w
  have his : ∀ w, Calls Tryz.prog 70 #[kV ⟨#[23]⟩ ⟨#[11]⟩ ⟨#[4]⟩ ⟨#[18]⟩, .string ⟨#[3]⟩] w (Ret (.bool true) w) := fun w => by
    have := sc_isSecret ⟨#[23]⟩ ⟨#[11]⟩ ⟨#[4]⟩ ⟨#[18]⟩ ⟨#[3]⟩ (by decide) ex33_ck (by decide) w
    rwa [decide_eq_true (by decide : 0 < num (⟨#[3]⟩ : ByteArray) ∧ num (⟨#[3]⟩ : ByteArray) < num (⟨#[11]⟩ : ByteArray) ∧ num (⟨#[4]⟩ : ByteArray) ^ num (⟨#[3]⟩ : ByteArray) % num (⟨#[23]⟩ : ByteArray) = num (⟨#[18]⟩ : ByteArray))] at this
  exact sc_Extract_ok _ _ _ _ _ _ _ _ (nS 16) ⟨#[10]⟩ ⟨#[8]⟩ ⟨#[10]⟩ ⟨#[3]⟩ ex33_check (ex33_formed _ _ _ _ (by decide +kernel)) (ex33_below _ _ (by decide +kernel)) (ex33_below _ _ (by decide +kernel)) (ex33_com _ _ _ (by decide +kernel)) (ex33_com _ _ _ (by decide +kernel)) (ex33_sub 1 2 10 (by decide +kernel)) (ex33_sub 5 8 8 (by decide +kernel)) hin hmu his (by decide +kernel) w
theorem ex33_x2 (w : World) : Calls Tryz.prog 22 #[kV ⟨#[23]⟩ ⟨#[11]⟩ ⟨#[4]⟩ ⟨#[18]⟩, .agg #[.string ⟨#[1]⟩, .string ⟨#[5]⟩], .agg #[.string ⟨#[2]⟩, .string ⟨#[7]⟩]] w (Ret (.tuple #[.string ⟨#[]⟩, .int .i64 1]) w) :=
  sc_Extract_arg _ _ _ _ _ _ _ _ (nS 16) (nS 4) ex33_check (ex33_formed _ _ _ _ (by decide +kernel)) (ex33_below _ _ (by decide +kernel)) (ex33_below _ _ (by decide +kernel)) (ex33_com _ _ _ (by decide +kernel)) (ex33_com _ _ _ (by decide +kernel)) (by decide +kernel) (by decide +kernel) w
theorem ex33_make (B : Nat) (w : World) (hs : SlN w (some ⟨B, 0, none⟩) 1 1 [⟨#[2]⟩]) : Calls Tryz.prog 26 #[gV ⟨#[23]⟩ ⟨#[11]⟩, .string ⟨#[4]⟩, .agg #[.slice (some ⟨B, 0, none⟩) 1 1, .string ⟨#[]⟩, .int .i64 0]] w (fun en w' => ∃ A c, en = .returned (.tuple #[.agg #[.string ⟨#[23]⟩, .string ⟨#[11]⟩, .string ⟨#[4]⟩, .string ⟨#[18]⟩], .string ⟨#[3]⟩, .agg #[.slice A 1 c, .string ⟨#[]⟩, .int .i64 1], .int .i64 0]) ∧ Below w.heap.size w w') := by
  have hck : ∀ w, Calls Tryz.prog 60 #[gV ⟨#[23]⟩ ⟨#[11]⟩] w (Ret (.int .i64 0) w) := fun w => by
    have := pw_CheckW ⟨#[23]⟩ ⟨#[11]⟩ (by decide) (by decide) w
    rwa [show chkK ⟨#[23]⟩ ⟨#[11]⟩ = 0 from by decide +kernel] at this
  have hgn : ∀ w, Calls Tryz.prog 61 #[gV ⟨#[23]⟩ ⟨#[11]⟩, .string ⟨#[4]⟩] w (Ret (.bool true) w) := fun w => by
    have := sc_generator ⟨#[23]⟩ ⟨#[11]⟩ ⟨#[4]⟩ (by decide) (by decide) (by decide) w
    rwa [show genK ⟨#[23]⟩ ⟨#[11]⟩ ⟨#[4]⟩ = true from by decide +kernel] at this
  have had : ∀ w, Calls Tryz.prog 79 #[.string (nS 2), .string (nS 1)] w (Ret (.tuple #[.string (nS 3), .int .i64 0]) w) := fun w => by
    have := nat_Add 2 1 (lt128_of_lt8 (by decide)) (by decide) w
    rwa [fitR, if_pos (lt128_of_lt8 (by decide))] at this
  have hex : ∀ w, Calls Tryz.prog 29 #[gV ⟨#[23]⟩ ⟨#[11]⟩, .string ⟨#[4]⟩, zV false ⟨#[3]⟩] w (Ret (.tuple #[.string ⟨#[18]⟩, .int .i64 0]) w) := fun w => by
    have := pw_Exp ⟨#[23]⟩ ⟨#[11]⟩ ⟨#[4]⟩ false ⟨#[3]⟩ (by decide) (by decide) (by decide) (by decide) w
    rwa [show prR ⟨#[23]⟩ ⟨#[11]⟩ [⟨#[4]⟩] [(false, ⟨#[3]⟩)] = .tuple #[.string ⟨#[18]⟩, .int .i64 0] from ex_nat2 (M := ⟨#[23]⟩) (O := ⟨#[11]⟩) (x := ⟨#[4]⟩) (by decide +kernel) (by decide) (by decide +kernel) (y := 3) (lt128_of_lt8 (by decide))] at this
  exact sc_Make_ok ⟨#[23]⟩ ⟨#[11]⟩ ⟨#[4]⟩ [⟨#[2]⟩] ⟨#[]⟩ 0 (some ⟨B, 0, none⟩) 1 1 ⟨#[10]⟩ ⟨#[2]⟩ ⟨#[3]⟩ ⟨#[18]⟩ [⟨#[2]⟩] ⟨#[]⟩ 1 w hs
    (fun W => sc_formed [⟨#[23]⟩, ⟨#[11]⟩, ⟨#[4]⟩] (some ⟨W.heap.size, 0, none⟩) 3 3 (by omega) (by decide) (W.alloc (.cells #[.string ⟨#[23]⟩, .string ⟨#[11]⟩, .string ⟨#[4]⟩] 22)) (sln_alloc W [⟨#[23]⟩, ⟨#[11]⟩, ⟨#[4]⟩] 22 (by simp)))
    (fun W hW => sc_goodTape [⟨#[2]⟩] ⟨#[]⟩ 0 (some ⟨B, 0, none⟩) 1 1 W hW (by decide) (by decide)) hck hgn (by decide +kernel)
    (fun w => nat_Sub_ge 11 1 (lt128_of_lt8 (by decide)) (by decide) (by decide) w)
    (fun W _ hW => by
      have h := co_BelowV [⟨#[2]⟩] ⟨#[]⟩ 0 10 (some ⟨B, 0, none⟩) 1 1 (by decide) (by decide) (by decide) (by decide +kernel) W hW
      rw [show tpN (coN [⟨#[2]⟩] ⟨#[]⟩ (↑(0 : Nat)) (nS 10)).2 [⟨#[2]⟩] ⟨#[]⟩ (↑(0 : Nat)) = ([⟨#[2]⟩], ⟨#[]⟩, 1) from by decide +kernel, show coN [⟨#[2]⟩] ⟨#[]⟩ (↑(0 : Nat)) (nS 10) = (2, 0) from by decide +kernel] at h
      exact h) had hex (by decide +kernel)
set_option maxRecDepth 100000 in
set_option maxHeartbeats 4000000 in
theorem law33_awake (w : World) : Calls Tryz.prog 19 #[] w (Ret (.bool true) w) := by
  obtain ⟨W0, hW0⟩ : ∃ W, w.alloc (.cells #[.string ⟨#[23]⟩, .string ⟨#[11]⟩] 24) = W := ⟨_, rfl⟩
  have hx0 : Bx2 W0 w.heap.size (.string ⟨#[23]⟩) (.string ⟨#[11]⟩) 24 := hW0 ▸ Bx2.new _ _ _ _
  have hb0 : Below w.heap.size w W0 := hW0 ▸ (Below.refl _ _).alloc (Nat.le_refl _) _
  have hb1 := (Below.refl W0.heap.size W0).alloc (Nat.le_refl _) (.cells #[.string ⟨#[2]⟩] 22)
  have HMK := Lib.hid (ex33_make W0.heap.size _ (sln_alloc W0 [⟨#[2]⟩] 22 (by simp)))
  have HX0 := Lib.hid hx0
  have HX1 := Lib.hid (hx0.next hb1)
  have HB1 := Lib.hid (hb0.trans (hb1.mono hb0.size))
  have c0 := hx0.c0
  have c1 := hx0.c1
  have HE1 := Lib.hid ex33_x1
  have HE2 := Lib.hid ex33_x2
  have HCK := Lib.hid ex33_check
  unfold kV gV at *
  clear hx0 hb0 hb1
  go_enter Tryz.func19, Tryz.ntmps19
  go_wp2_with fail
  try rw [hW0]
  clear hW0
  refine HMK.out.mono ?_
  rintro ev w2 ⟨A, c, rfl, hb⟩
  have HX2 := Lib.hid (HX1.out.next hb)
  have HB2 := Lib.hid (HB1.out.trans (hb.mono HB1.out.size))
  clear hb c0 c1
  go_upto_region 3 with (fail)
  obtain ⟨P, hP⟩ : ∃ P, w2.heap.size = P := ⟨_, rfl⟩
  have hk3 := (Bx4.new w2 (.string ⟨#[23]⟩) (.string ⟨#[11]⟩) (.string ⟨#[4]⟩) (.string ⟨#[18]⟩) 46).next ((Below.refl _ _).alloc (Nat.le_refl _) (.cells #[.slice A 1 c, .string ⟨#[]⟩, .int .i64 1] 31))
  have ht3 := TB.new (w2.alloc (.cells #[.string ⟨#[23]⟩, .string ⟨#[11]⟩, .string ⟨#[4]⟩, .string ⟨#[18]⟩] 46)) A 1 c ⟨#[]⟩ 1
  have hb3 := ((Below.refl w2.heap.size w2).alloc (Nat.le_refl _) (.cells #[.string ⟨#[23]⟩, .string ⟨#[11]⟩, .string ⟨#[4]⟩, .string ⟨#[18]⟩] 46)).alloc (by simp) (.cells #[.slice A 1 c, .string ⟨#[]⟩, .int .i64 1] 31)
  rw [World.size_alloc] at ht3
  obtain ⟨W3, hW3⟩ : ∃ W, (w2.alloc (.cells #[.string ⟨#[23]⟩, .string ⟨#[11]⟩, .string ⟨#[4]⟩, .string ⟨#[18]⟩] 46)).alloc (.cells #[.slice A 1 c, .string ⟨#[]⟩, .int .i64 1] 31) = W := ⟨_, rfl⟩
  rw [hW3] at hk3 ht3 hb3 ⊢
  have HX3 := Lib.hid (HX2.out.next hb3)
  have HB3 := Lib.hid (HB2.out.trans (hb3.mono HB2.out.size))
  rw [hP] at hk3 ht3 ⊢
  have HK3 := Lib.hid hk3
  have HT3 := Lib.hid ht3
  clear hW3 hk3 ht3 hb3 hP
  obtain ⟨k0, k1, k2, k3⟩ := HK3.out.cells
  go_wp2_with fail
  refine (HE1.out _).mono ?_
  rintro ev w4 ⟨rfl, hb⟩
  have HX4 := Lib.hid (HX3.out.next hb)
  have HB4 := Lib.hid (HB3.out.trans (hb.mono HB3.out.size))
  have HK4 := Lib.hid (HK3.out.next hb)
  have HT4 := Lib.hid (HT3.out.nextT hb)
  clear hb k0 k1 k2 k3
  obtain ⟨k0, k1, k2, k3⟩ := HK4.out.cells
  go_wp2_with fail
  refine (HE2.out _).mono ?_
  rintro ev w5 ⟨rfl, hb⟩
  have HX5 := Lib.hid (HX4.out.next hb)
  have HB5 := Lib.hid (HB4.out.trans (hb.mono HB4.out.size))
  have HK5 := Lib.hid (HK4.out.next hb)
  have HT5 := Lib.hid (HT4.out.nextT hb)
  clear hb k0 k1 k2 k3
  obtain ⟨k0, k1, k2, k3⟩ := HK5.out.cells
  obtain ⟨t0, t1, t2⟩ := HT5.out.c
  have c0 := HX5.out.c0
  have c1 := HX5.out.c1
  go_wp2_with fail
  refine (HCK.out _).mono ?_
  rintro ev w6 ⟨rfl, hb⟩
  have HB6 := Lib.hid (HB5.out.trans (hb.mono HB5.out.size))
  clear hb k0 k1 k2 k3 t0 t1 t2 c0 c1
  go_wp2
  go_ret
  exact ⟨rfl, HB6.out⟩
end Go.Proofs.YtndmjfkmnjejkaaGreatDoor
/- Walks: slices.Equal at lists of numbers; dominolaw11.Few, dominolaw17.SameTape. -/
set_option linter.unusedVariables false
set_option linter.unusedSimpArgs false
namespace Go.Proofs.YtndmjfkmnjejkaaGreatDoor
open Go.RowKit Go.Shelf
attribute [local go_sem] Oper.semAt_some
theorem SlN.cellX {w : World} {A : Option Addr} {n c : Nat} {l : List ByteArray} (h : SlN w A n c l) {k : Nat} {s : ByteArray} (hk : l[k]? = some s) : ∃ b o, A = some ⟨b, o, none⟩ ∧ w.cell? ⟨b, o + k, none⟩ = some (.string s) := by
  have hlt := (List.getElem?_eq_some_iff.1 hk).1
  obtain ⟨b, o, rfl⟩ := h.head (by have := h.1; omega)
  exact ⟨b, o, rfl, h.get? k hk⟩
set_option maxRecDepth 100000 in
set_option maxHeartbeats 1000000 in
theorem sl_EqualT (l : List ByteArray) (A B : Option Addr) (n c n' c' : Nat) (w : World) (hs : SlN w A n c l) (hs' : SlN w B n' c' l) : Calls Tryz.prog 83 #[.slice A n c, .slice B n' c'] w (Ret (.bool true) w) := by
  obtain rfl : n' = n := by rw [← hs.1, ← hs'.1]
  have HS := Lib.hid hs
  have HS' := Lib.hid hs'
  have HLEN := Lib.hid hs.1
  have hcap := hs.2.1
  have hcap2 := hs.2.2.1
  have hcap' := hs'.2.1
  have hcap2' := hs'.2.2.1
  clear hs hs'
  go_enter Tryz.func83, Tryz.ntmps83
  go_wp2
  go_loopw [13] (fun k wr => ∃ j : Nat, j ≤ n' ∧ k = .int .i64 j ∧ Below w.heap.size w wr) (fun k _ => n' - (intOf k).toNat)
  case atStart => exact ⟨0, Nat.zero_le _, rfl, Below.refl _ _⟩
  case round =>
    obtain ⟨j, hj, rfl, hbb⟩ := hrel
    have HB := Lib.hid hbb
    clear hbb
    by_cases hlt : j < n'
    · obtain ⟨y, he⟩ : ∃ y, l[j]? = some y := ⟨_, List.getElem?_eq_getElem (by rw [HLEN.out]; exact hlt)⟩
      obtain ⟨b, o, rfl, e1⟩ := (HS.out.kept HB.out (Nat.le_refl _)).cellX he
      obtain ⟨b2, o2, rfl, e2⟩ := (HS'.out.kept HB.out (Nat.le_refl _)).cellX he
      have e1 : wr.drew.cell? ⟨b, o + j, none⟩ = some (.string y) := e1
      have e2 : wr.drew.cell? ⟨b2, o2 + j, none⟩ = some (.string y) := e2
      clear he
      go_wp2
      refine wp_region_K 9 (Below (wr.drew).heap.size (wr.drew)) (by kernel_rfl) ?_
      intro hD
      refine rP 0 16 8 rfl hD (Below.refl _ _) ?_; clear hD; intro hD; simp only [Act.put, sqA, sqB, sqC]
      refine rP 1 17 7 rfl hD (Below.refl _ _) ?_; clear hD; intro hD; simp only [Act.put, sqA, sqB, sqC]
      refine rP 2 18 6 rfl hD (Below.refl _ _) ?_; clear hD; intro hD; simp only [Act.put, sqA, sqB, sqC]
      refine rT 3 19 5 rfl hD (Below.refl _ _) (by intro w' hS'; have e0 := kC hS' e1; have e1 := kC hS' e2; go_simp; with_reducible rfl) ?_; clear hD; intro hD; simp only [Act.put, sqA, sqB, sqC]
      refine rP 4 20 4 rfl hD (Below.refl _ _) ?_; clear hD; intro hD; simp only [Act.put, sqA, sqB, sqC]
      refine rP 5 21 3 rfl hD (Below.refl _ _) ?_; clear hD; intro hD; simp only [Act.put, sqA, sqB, sqC]
      refine rP 6 22 2 rfl hD (Below.refl _ _) ?_; clear hD; intro hD; simp only [Act.put, sqA, sqB, sqC]
      refine rT 7 23 1 rfl hD (Below.refl _ _) (by intro w' hS'; have e0 := kC hS' e1; have e1 := kC hS' e2; go_simp; with_reducible rfl) ?_; clear hD; intro hD; simp only [Act.put, sqA, sqB, sqC]
      refine rP 8 24 0 rfl hD (Below.refl _ _) ?_; clear hD; intro hD; simp only [Act.put, sqA, sqB, sqC]
      refine wpAnyK_done (by kernel_rfl) ?_ 0
      clear hD
      have HB2 := Lib.hid (show Below w.heap.size w wr.drew from HB.out.trans ((Below.refl wr.heap.size wr).drew.mono HB.out.size))
      go_wp2
      go_roundw
      case rel => exact ⟨j + 1, by omega, by go_num, HB2.out⟩
      case measure => simp [intOf]; omega
    · obtain rfl : j = n' := by omega
      clear hlt hj
      go_wp2
      go_ret
      exact ⟨rfl, HB.out⟩
def fewT (lim sz sd : Nat) (l : List ByteArray) (s : ByteArray) : Bool := (l.take lim).all (fun s => decide (s.size ≤ sz)) && (decide (l.length ≤ lim) && decide (s.size ≤ sd))
theorem fewT_of {lim sz sd : Nat} {l : List ByteArray} {s : ByteArray} (h : fewT lim sz sd l s = true) : l.length ≤ lim ∧ s.size ≤ sd ∧ ∀ x ∈ l, x.size ≤ sz := by
  unfold fewT at h
  simp only [Bool.and_eq_true, decide_eq_true_eq, List.all_eq_true] at h
  rw [List.take_of_length_le h.2.1] at h
  exact ⟨h.2.1, h.2.2, h.1⟩
theorem fewT_big {lim sz sd : Nat} {l : List ByteArray} {s x : ByteArray} {k : Nat} (hx : l[k]? = some x) (hk : k < lim) (hb : sz < x.size) : fewT lim sz sd l s = false := by
  unfold fewT
  have : (l.take lim).all (fun s => decide (s.size ≤ sz)) = false := by
    rw [List.all_eq_false]
    exact ⟨x, List.mem_of_getElem? (i := k) (by rw [List.getElem?_take_of_lt hk]; exact hx), by simp; omega⟩
  rw [this]; rfl
theorem fewT_all {lim sz sd : Nat} {l : List ByteArray} {s : ByteArray} (h : ∀ j, j < l.length → j < lim → ∃ x, l[j]? = some x ∧ x.size ≤ sz) : fewT lim sz sd l s = (decide (l.length ≤ lim) && decide (s.size ≤ sd)) := by
  unfold fewT
  have : (l.take lim).all (fun s => decide (s.size ≤ sz)) = true := by
    rw [List.all_eq_true]
    intro x hx
    obtain ⟨k, hk⟩ := List.mem_iff_getElem?.1 hx
    have h1 := (List.getElem?_eq_some_iff.1 hk).1
    rw [List.length_take] at h1
    have hkl : k < lim := by omega
    rw [List.getElem?_take_of_lt hkl] at hk
    obtain ⟨x', h2, h3⟩ := h k (by omega) hkl
    rw [hk] at h2
    cases h2
    exact decide_eq_true h3
  rw [this]; rfl
def few11 (l : List ByteArray) (s : ByteArray) (k : Int) : Bool := fewT 80 16 40 l s && decide (k < 1000)
set_option maxRecDepth 100000 in
set_option maxHeartbeats 2000000 in
theorem law11_Few (l : List ByteArray) (s : ByteArray) (k : Int) (A : Option Addr) (n cap : Nat) (w : World) (hs : SlN w A n cap l) : Calls Tryz.prog 25 #[tpV A n cap s k] w (Ret (.bool (few11 l s k)) w) := by
  have HT := Lib.hid (TB.new w A n cap s k)
  have HB0 := Lib.hid ((Below.refl w.heap.size w).alloc (Nat.le_refl _) (.cells #[.slice A n cap, .string s, .int .i64 k] 31))
  obtain ⟨c0, c1, c2⟩ := HT.out.c
  have HS := Lib.hid (hs.kept HB0.out (Nat.le_refl _))
  have HLEN := Lib.hid hs.1
  have hcap := hs.2.1
  have hcap2 := hs.2.2.1
  have HR := Lib.hid (show few11 l s k = (fewT 80 16 40 l s && decide (k < 1000)) from rfl)
  clear hs
  unfold tpV
  go_enter Tryz.func25, Tryz.ntmps25
  go_wp2
  go_loop [3] (fun i => ∃ q : Nat, q ≤ n ∧ q ≤ 80 ∧ i = .int .i64 q ∧ ∀ j, j < q → ∃ x, l[j]? = some x ∧ x.size ≤ 16) (fun i => 80 - (intOf i).toNat)
  case atStart => exact ⟨0, Nat.zero_le _, Nat.zero_le _, rfl, fun j h => by omega⟩
  case round =>
    obtain ⟨q, hq, hq8, rfl, hall⟩ := hrel
    have HALL := Lib.hid hall
    clear hall
    by_cases hin : q < n ∧ q < 80
    · obtain ⟨hlt, hl8⟩ := hin
      obtain ⟨b, o, rfl⟩ := HS.out.head (by omega)
      obtain ⟨x, he⟩ : ∃ s, l[q]? = some s := ⟨_, List.getElem?_eq_getElem (by rw [HLEN.out]; exact hlt)⟩
      have d0 := HS.out.get? q he
      have HE := Lib.hid he
      have hqi : (q : Int) < (n : Int) := by omega
      have hq8i : (q : Int) < 80 := by omega
      have HQ8 := Lib.hid hl8
      have HQN := Lib.hid hlt
      clear he hq hq8 hlt hl8
      by_cases h1 : 16 < x.size
      · have HF := Lib.hid (fewT_big (sd := 40) (s := s) HE.out HQ8.out h1)
        have i1 : decide ((16 : Int) < (x.size : Int)) = true := decide_eq_true (by omega)
        go_wp2
        go_ret
        exact ⟨by rw [HR.out, HF.out]; rfl, HB0.out⟩
      · have i1 : decide ((16 : Int) < (x.size : Int)) = false := decide_eq_false (by omega)
        have H1 := Lib.hid h1
        clear h1
        go_wp2
        go_round
        case rel =>
          refine ⟨q + 1, HQN.out, HQ8.out, by go_num, fun j hj => ?_⟩
          by_cases hjk : j < q
          · exact HALL.out j hjk
          · obtain rfl : j = q := by omega
            exact ⟨x, HE.out, by have := H1.out; omega⟩
        case measure => have := HQ8.out; simp [intOf]; omega
    · have HF := Lib.hid (fewT_all (lim := 80) (sz := 16) (sd := 40) (s := s) (l := l) (fun j hj hj8 => HALL.out j (by have := HLEN.out; omega)))
      have hc : decide ((q : Int) < (n : Int)) = true → decide ((q : Int) < 80) = false := fun h => decide_eq_false (by have := of_decide_eq_true h; omega)
      have hR : few11 l s k = (decide (n ≤ 80) && decide (s.size ≤ 40) && decide (k < 1000)) := by rw [HR.out, HF.out, HLEN.out]
      have HR2 := Lib.hid hR
      have HQ9 := Lib.hid (show q < n → q = 80 from fun h => by omega)
      clear hR hin hq8 HF HR
      by_cases hqn : q < n
      · obtain rfl := HQ9.out hqn
        have e1 : ((80 : Nat) : Int) < (n : Int) := by omega
        have e2 : decide ((n : Int) ≤ 80) = false := decide_eq_false (by omega)
        have HZ := Lib.hid (show few11 l s k = false from by rw [HR2.out, decide_eq_false (by omega : ¬ n ≤ 80)]; rfl)
        clear hq hqn hc
        go_wp2
        go_ret
        exact ⟨by rw [HZ.out]; rfl, HB0.out⟩
      · have e1 : ¬ ((q : Int) < (n : Int)) := by omega
        clear hq hc
        by_cases h8 : n ≤ 80
        · have e2 : decide ((n : Int) ≤ 80) = true := decide_eq_true (by omega)
          by_cases h4 : s.size ≤ 40
          · have e3 : decide ((s.size : Int) ≤ 40) = true := decide_eq_true (by omega)
            have HZ := Lib.hid (show few11 l s k = decide (k < 1000) from by rw [HR2.out, decide_eq_true h8, decide_eq_true h4]; rfl)
            clear h8 h4
            go_wp2
            go_ret
            exact ⟨by rw [HZ.out]; rfl, HB0.out⟩
          · have e3 : decide ((s.size : Int) ≤ 40) = false := decide_eq_false (by omega)
            have HZ := Lib.hid (show few11 l s k = false from by rw [HR2.out, decide_eq_true h8, decide_eq_false h4]; rfl)
            clear h8 h4
            go_wp2
            go_ret
            exact ⟨by rw [HZ.out]; rfl, HB0.out⟩
        · have e2 : decide ((n : Int) ≤ 80) = false := decide_eq_false (by omega)
          have HZ := Lib.hid (show few11 l s k = false from by rw [HR2.out, decide_eq_false h8]; rfl)
          clear h8
          go_wp2
          go_ret
          exact ⟨by rw [HZ.out]; rfl, HB0.out⟩
set_option maxRecDepth 100000 in
set_option maxHeartbeats 1000000 in
theorem law17_SameTape (l : List ByteArray) (s : ByteArray) (k : Int) (A B : Option Addr) (n c n' c' : Nat) (w : World) (hs : SlN w A n c l) (hs' : SlN w B n' c' l) : Calls Tryz.prog 28 #[tpV A n c s k, tpV B n' c' s k] w (Ret (.bool true) w) := by
  have hb1 := ((Below.refl w.heap.size w).alloc (Nat.le_refl _) (.cells #[.slice A n c, .string s, .int .i64 k] 31)).alloc (by simp) (.cells #[.slice B n' c', .string s, .int .i64 k] 31)
  have ht1 := (TB.new w A n c s k).nextT ((Below.refl _ _).alloc (Nat.le_refl _) (.cells #[.slice B n' c', .string s, .int .i64 k] 31))
  have ht2 := TB.new (w.alloc (.cells #[.slice A n c, .string s, .int .i64 k] 31)) B n' c' s k
  rw [World.size_alloc] at ht2
  obtain ⟨c0, c1, c2⟩ := ht1.c
  obtain ⟨d0, d1, d2⟩ := ht2.c
  have HB := Lib.hid hb1
  have HE := Lib.hid (sl_EqualT l A B n c n' c' _ (hs.kept hb1 (Nat.le_refl _)) (hs'.kept hb1 (Nat.le_refl _)))
  clear hb1 ht1 ht2 hs hs'
  unfold tpV
  go_enter Tryz.func28, Tryz.ntmps28
  go_wp2_with fail
  refine HE.out.mono ?_
  rintro e w1 ⟨rfl, hb⟩
  have HB1 := Lib.hid (HB.out.trans (hb.mono HB.out.size))
  clear hb
  go_wp2
  go_ret
  exact ⟨rfl, HB1.out⟩
end Go.Proofs.YtndmjfkmnjejkaaGreatDoor
/- Walks: the signer's few, the law SchnorrSigns. -/
set_option linter.unusedVariables false
set_option linter.unusedSimpArgs false
namespace Go.Proofs.YtndmjfkmnjejkaaGreatDoor
open Go.RowKit Go.Lib
def snV (M O G Y X msg : ByteArray) (A : Option Addr) (n cap : Nat) (s : ByteArray) (k : Int) : Value := .agg #[.string M, .string O, .string G, .string Y, .string X, .string msg, .slice A n cap, .string s, .int .i64 k]
def SX9 (w W : World) (M O G Y X msg : ByteArray) (A : Option Addr) (n cap : Nat) (s : ByteArray) (k : Int) (l : List ByteArray) : Prop :=
  W.heap[w.heap.size]? = some (.cells #[.string M, .string O, .string G, .string Y, .string X, .string msg, .slice A n cap, .string s, .int .i64 k] 71 (0, 0)) ∧ SlN W A n cap l ∧ Below w.heap.size w W
theorem SX9.new (w : World) (M O G Y X msg : ByteArray) (A : Option Addr) (n cap : Nat) (s : ByteArray) (k : Int) (l : List ByteArray) (hs : SlN w A n cap l) : SX9 w (w.alloc (.cells #[.string M, .string O, .string G, .string Y, .string X, .string msg, .slice A n cap, .string s, .int .i64 k] 71)) M O G Y X msg A n cap s k l :=
  ⟨heap_alloc_new _ _, hs.kept ((Below.refl _ _).alloc (Nat.le_refl _) _) (Nat.le_refl _), (Below.refl _ _).alloc (Nat.le_refl _) _⟩
theorem SX9.next {w W W' : World} {M O G Y X msg : ByteArray} {A : Option Addr} {n cap : Nat} {s : ByteArray} {k : Int} {l : List ByteArray} (h : SX9 w W M O G Y X msg A n cap s k l) (hb : Below W.heap.size W W') : SX9 w W' M O G Y X msg A n cap s k l :=
  ⟨(hb.block _ (block_lt h.1)).trans h.1, h.2.1.kept hb (Nat.le_refl _), h.2.2.trans (hb.mono h.2.2.size)⟩
theorem SX9.cells {w W : World} {M O G Y X msg : ByteArray} {A : Option Addr} {n cap : Nat} {s : ByteArray} {k : Int} {l : List ByteArray} (h : SX9 w W M O G Y X msg A n cap s k l) :
    W.cell? ⟨w.heap.size, 0, none⟩ = some (.string M) ∧ W.cell? ⟨w.heap.size, 1, none⟩ = some (.string O) ∧ W.cell? ⟨w.heap.size, 2, none⟩ = some (.string G) ∧ W.cell? ⟨w.heap.size, 3, none⟩ = some (.string Y) ∧ W.cell? ⟨w.heap.size, 4, none⟩ = some (.string X) ∧ W.cell? ⟨w.heap.size, 5, none⟩ = some (.string msg) ∧ W.cell? ⟨w.heap.size, 6, none⟩ = some (.slice A n cap) ∧ W.cell? ⟨w.heap.size, 7, none⟩ = some (.string s) ∧ W.cell? ⟨w.heap.size, 8, none⟩ = some (.int .i64 k) := by
  have := h.1
  refine ⟨?_, ?_, ?_, ?_, ?_, ?_, ?_, ?_, ?_⟩ <;> (rw [Lib.cell_of_heap this]; rfl)
def fewS (M O G Y X msg : ByteArray) (l : List ByteArray) (s : ByteArray) (k : Int) : Bool := few33 M O G Y [X] && (decide (msg.size ≤ 300) && few11 l s k)
set_option maxRecDepth 100000 in
set_option maxHeartbeats 2000000 in
theorem law33_fewS (M O G Y X msg : ByteArray) (l : List ByteArray) (s : ByteArray) (k : Int) (A : Option Addr) (n cap : Nat) (w : World) (hs : SlN w A n cap l) : Calls Tryz.prog 34 #[snV M O G Y X msg A n cap s k] w (Ret (.bool (fewS M O G Y X msg l s k)) w) := by
  have hx0 := SX9.new w M O G Y X msg A n cap s k l hs
  obtain ⟨W0, hW0⟩ : ∃ W, w.alloc (.cells #[.string M, .string O, .string G, .string Y, .string X, .string msg, .slice A n cap, .string s, .int .i64 k] 71) = W := ⟨_, rfl⟩
  rw [hW0] at hx0
  have HX0 := Lib.hid hx0
  have HX1 := Lib.hid (hx0.next ((Below.refl W0.heap.size W0).alloc (Nat.le_refl _) (.cells #[.string X] 22)))
  have HFW := Lib.hid (law33_Few M O G Y [X] _ 1 1 (by omega) _ (sln_alloc W0 [X] 22 (by simp)))
  have HFT := Lib.hid (fun W hs => law11_Few l s k A n cap W hs)
  obtain ⟨c0, c1, c2, c3, c4, c5, c6, c7, c8⟩ := HX0.out.cells
  have HR := Lib.hid (show fewS M O G Y X msg l s k = (few33 M O G Y [X] && (decide (msg.size ≤ 300) && few11 l s k)) from rfl)
  rw [HR.out]
  unfold snV kV tpV at *
  clear hx0 hs
  cases h1 : few33 M O G Y [X] with
  | false =>
    rw [h1] at HFW
    rw [Bool.false_and]
    clear h1
    go_enter Tryz.func34, Tryz.ntmps34
    go_wp2_with fail
    try rw [hW0]
    clear hW0
    refine HFW.out.mono ?_
    rintro ev w1 ⟨rfl, hb⟩
    have HX2 := Lib.hid (HX1.out.next hb)
    clear hb c0 c1 c2 c3 c4 c5 c6 c7 c8
    obtain ⟨c0, c1, c2, c3, c4, c5, c6, c7, c8⟩ := HX2.out.cells
    go_wp2
    go_ret
    exact ⟨rfl, HX2.out.2.2⟩
  | true =>
    rw [h1] at HFW
    rw [Bool.true_and]
    clear h1
    by_cases hm : msg.size ≤ 300
    · rw [decide_eq_true hm, Bool.true_and]
      have hmi : (msg.size : Int) ≤ 300 := by omega
      clear hm
      go_enter Tryz.func34, Tryz.ntmps34
      go_wp2_with fail
      try rw [hW0]
      clear hW0
      refine HFW.out.mono ?_
      rintro ev w1 ⟨rfl, hb⟩
      have HX2 := Lib.hid (HX1.out.next hb)
      clear hb c0 c1 c2 c3 c4 c5 c6 c7 c8
      obtain ⟨c0, c1, c2, c3, c4, c5, c6, c7, c8⟩ := HX2.out.cells
      have HFU := Lib.hid (HFT.out _ HX2.out.2.1)
      go_wp2_with fail
      refine HFU.out.mono ?_
      rintro ev w2 ⟨rfl, hb⟩
      have HX3 := Lib.hid (HX2.out.next hb)
      clear hb c0 c1 c2 c3 c4 c5 c6 c7 c8
      go_wp2
      go_ret
      exact ⟨rfl, HX3.out.2.2⟩
    · rw [decide_eq_false hm, Bool.false_and]
      have hmi : ¬ (msg.size : Int) ≤ 300 := by omega
      clear hm
      go_enter Tryz.func34, Tryz.ntmps34
      go_wp2_with fail
      try rw [hW0]
      clear hW0
      refine HFW.out.mono ?_
      rintro ev w1 ⟨rfl, hb⟩
      have HX2 := Lib.hid (HX1.out.next hb)
      clear hb c0 c1 c2 c3 c4 c5 c6 c7 c8
      obtain ⟨c0, c1, c2, c3, c4, c5, c6, c7, c8⟩ := HX2.out.cells
      go_wp2
      go_ret
      exact ⟨rfl, HX2.out.2.2⟩
def GTb (W : World) (P : Nat) (a b : ByteArray) (A : Option Addr) (m n : Nat) (ts : ByteArray) (tk : Int) (tl : List ByteArray) : Prop :=
  Bx2 W P (.string a) (.string b) 52 ∧ TB W (P + 1) A m n ts tk ∧ SlN W A m n tl
theorem GTb.next {W W' : World} {P : Nat} {a b : ByteArray} {A : Option Addr} {m n : Nat} {ts : ByteArray} {tk : Int} {tl : List ByteArray} (h : GTb W P a b A m n ts tk tl) (hb : Below W.heap.size W W') : GTb W' P a b A m n ts tk tl :=
  ⟨h.1.next hb, h.2.1.nextT hb, h.2.2.kept hb (Nat.le_refl _)⟩
theorem GTb.new (w : World) (a b : ByteArray) (A : Option Addr) (m n : Nat) (ts : ByteArray) (tk : Int) (tl : List ByteArray) (hs : SlN w A m n tl) :
    GTb ((w.alloc (.cells #[.string a, .string b] 52)).alloc (.cells #[.slice A m n, .string ts, .int .i64 tk] 31)) w.heap.size a b A m n ts tk tl ∧ Below w.heap.size w ((w.alloc (.cells #[.string a, .string b] 52)).alloc (.cells #[.slice A m n, .string ts, .int .i64 tk] 31)) := by
  have hb1 := ((Below.refl w.heap.size w).alloc (Nat.le_refl _) (.cells #[.string a, .string b] 52)).alloc (by simp) (.cells #[.slice A m n, .string ts, .int .i64 tk] 31)
  have ht2 := TB.new (w.alloc (.cells #[.string a, .string b] 52)) A m n ts tk
  rw [World.size_alloc] at ht2
  exact ⟨⟨(Bx2.new _ _ _ _).next ((Below.refl _ _).alloc (Nat.le_refl _) _), ht2, hs.kept hb1 (Nat.le_refl _)⟩, hb1⟩
set_option maxRecDepth 100000 in
set_option maxHeartbeats 8000000 in
theorem walk_signs (M O G Y X msg : ByteArray) (A : Option Addr) (n cap : Nat) (l : List ByteArray) (s : ByteArray) (k : Int) (w : World) (hs : SlN w A n cap l) (ht : T10 w) : Calls Tryz.prog 9 #[snV M O G Y X msg A n cap s k] w (Ret (.bool true) w) := by
  have HLN := Lib.hid hs.1
  have hx0 := SX9.new w M O G Y X msg A n cap s k l hs
  obtain ⟨W0, hW0⟩ : ∃ W, w.alloc (.cells #[.string M, .string O, .string G, .string Y, .string X, .string msg, .slice A n cap, .string s, .int .i64 k] 71) = W := ⟨_, rfl⟩
  rw [hW0] at hx0
  have HX0 := Lib.hid hx0
  have HFW := Lib.hid (law33_fewS M O G Y X msg l s k A n cap W0 hx0.2.1)
  have HAW := Lib.hid law33_awake
  obtain ⟨c0, c1, c2, c3, c4, c5, c6, c7, c8⟩ := HX0.out.cells
  clear hx0 hs
  cases hf : fewS M O G Y X msg l s k with
  | false =>
    rw [hf] at HFW
    unfold snV at *
    clear hf
    go_enter Tryz.func9, Tryz.ntmps9
    go_wp2_with fail
    try rw [hW0]
    clear hW0
    refine HFW.out.mono ?_
    rintro ev w1 ⟨rfl, hb⟩
    have HX1 := Lib.hid (HX0.out.next hb)
    clear hb c0 c1 c2 c3 c4 c5 c6 c7 c8
    obtain ⟨c0, c1, c2, c3, c4, c5, c6, c7, c8⟩ := HX1.out.cells
    go_wp2_with fail
    refine (HAW.out _).mono ?_
    rintro ev w9 ⟨rfl, hb⟩
    have HB9 := Lib.hid (HX1.out.2.2.trans (hb.mono HX1.out.2.2.size))
    clear hb
    go_wp2
    go_ret
    exact ⟨rfl, HB9.out⟩
  | true =>
    rw [hf] at HFW
    unfold fewS at hf
    rw [Bool.and_eq_true, Bool.and_eq_true] at hf
    obtain ⟨hf1, hf2, hf3⟩ := hf
    have hm := of_decide_eq_true hf2
    obtain ⟨hM, hO, hG, hY, hlx⟩ := few33_of hf1
    have hX := hlx X (by simp)
    unfold few11 at hf3
    rw [Bool.and_eq_true] at hf3
    obtain ⟨hl80, hs40, hz16⟩ := fewT_of hf3.1
    have hn : n ≤ 1000 := by have := HLN.out; omega
    have hp : ∀ x ∈ l, x.size ≤ 9223372036854775807 := fun x hx => by have := hz16 x hx; omega
    have HM1 := Lib.hid (fun W (hb : Below w.heap.size w W) hs => sc_Sign M O G Y X msg l s k A n cap hM (by omega) (by omega) (by omega) (by omega) (by omega) hn hp (by omega) W hs (ht.kept hb (Nat.le_refl _)))
    have HM2 := Lib.hid (fun W hs => r33_Sign M O G Y X msg l s k A n cap hM (by omega) (by omega) (by omega) (by omega) (by omega) hn hp (by omega) W hs)
    obtain ⟨rr, hrr⟩ : ∃ r, sgN M O G Y X msg l s k = r := ⟨_, rfl⟩
    rw [hrr] at HM1 HM2
    obtain ⟨x1, x2, e⟩ := rr
    obtain ⟨t, htp⟩ : ∃ t, tpN e l s k = t := ⟨_, rfl⟩
    obtain ⟨tl, ts, tk⟩ := t
    unfold RetS at HM1 HM2
    simp only [] at HM1 HM2
    rw [htp] at HM1 HM2
    obtain ⟨m, hmm⟩ : ∃ m, tl.length = m := ⟨_, rfl⟩
    simp only [] at HM1 HM2
    rw [hmm] at HM1 HM2
    obtain ⟨a, ha⟩ : ∃ z, nS x1 = z := ⟨_, rfl⟩
    obtain ⟨b, hb⟩ : ∃ z, nS x2 = z := ⟨_, rfl⟩
    rw [ha, hb] at HM1 HM2
    unfold snV tpV kV at *
    clear hf1 hf2 hf3 hm hM hO hG hY hlx hX hl80 hs40 hz16 hn hp hrr htp hmm ha hb ht
    go_enter Tryz.func9, Tryz.ntmps9
    go_wp2_with fail
    try rw [hW0]
    clear hW0
    refine HFW.out.mono ?_
    rintro ev w1 ⟨rfl, hb⟩
    have HX1 := Lib.hid (HX0.out.next hb)
    clear hb c0 c1 c2 c3 c4 c5 c6 c7 c8
    obtain ⟨c0, c1, c2, c3, c4, c5, c6, c7, c8⟩ := HX1.out.cells
    have HMA := Lib.hid (HM1.out _ HX1.out.2.2 HX1.out.2.1)
    go_wp2_with fail
    refine HMA.out.mono ?_
    rintro ev w4 ⟨A1, c1', rfl, hsl1, _, hb⟩
    have HSL1 := Lib.hid hsl1
    have HX4 := Lib.hid (HX1.out.next hb)
    clear hb c0 c1 c2 c3 c4 c5 c6 c7 c8
    clear hsl1
    go_upto_region 4 with (fail)
    obtain ⟨hkt, hb⟩ := GTb.new w4 a b A1 m c1' ts tk tl HSL1.out
    obtain ⟨W5, hW5⟩ : ∃ W, (w4.alloc (.cells #[.string a, .string b] 52)).alloc (.cells #[.slice A1 m c1', .string ts, .int .i64 tk] 31) = W := ⟨_, rfl⟩
    obtain ⟨P5, hP5⟩ : ∃ P, w4.heap.size = P := ⟨_, rfl⟩
    rw [hW5] at hkt hb ⊢
    rw [hP5] at hkt ⊢
    have HK5 := Lib.hid hkt
    have HX5 := Lib.hid (HX4.out.next hb)
    clear hkt hb hW5 hP5
    obtain ⟨c0, c1, c2, c3, c4, c5, c6, c7, c8⟩ := HX5.out.cells
    have HMB := Lib.hid (HM2.out _ HX5.out.2.1)
    go_wp2_with fail
    refine HMB.out.mono ?_
    rintro ev w6 ⟨A2, c2', rfl, hsl2, _, hb⟩
    have HSL2 := Lib.hid hsl2
    have HK6 := Lib.hid (HK5.out.next hb)
    have HX6 := Lib.hid (HX5.out.next hb)
    clear hb c0 c1 c2 c3 c4 c5 c6 c7 c8
    clear hsl2
    go_upto_region 5 with (fail)
    obtain ⟨hkt, hb⟩ := GTb.new w6 a b A2 m c2' ts tk tl HSL2.out
    obtain ⟨W7, hW7⟩ : ∃ W, (w6.alloc (.cells #[.string a, .string b] 52)).alloc (.cells #[.slice A2 m c2', .string ts, .int .i64 tk] 31) = W := ⟨_, rfl⟩
    obtain ⟨P7, hP7⟩ : ∃ P, w6.heap.size = P := ⟨_, rfl⟩
    rw [hW7] at hkt hb ⊢
    rw [hP7] at hkt ⊢
    have HK7 := Lib.hid hkt
    have HX7 := Lib.hid (HX6.out.next hb)
    have HK67 := Lib.hid (HK6.out.next hb)
    have HST := Lib.hid (law17_SameTape tl ts tk A1 A2 m c1' m c2' _ HK67.out.2.2 HK7.out.2.2)
    clear hkt hb hW7 hP7
    have k0 := HK67.out.1.c0
    have k1 := HK67.out.1.c1
    have l0 := HK7.out.1.c0
    have l1 := HK7.out.1.c1
    obtain ⟨t0, t1, t2⟩ := HK67.out.2.1.c
    obtain ⟨s0, s1, s2⟩ := HK7.out.2.1.c
    unfold tpV at HST
    go_wp2_with fail
    refine HST.out.mono ?_
    rintro ev w8 ⟨rfl, hb⟩
    have HX8 := Lib.hid (HX7.out.next hb)
    clear hb k0 k1 l0 l1 t0 t1 t2 s0 s1 s2
    go_wp2_with fail
    refine (HAW.out _).mono ?_
    rintro ev w9 ⟨rfl, hb⟩
    have HB9 := Lib.hid (HX8.out.2.2.trans (hb.mono HX8.out.2.2.size))
    clear hb
    go_wp2
    go_ret
    exact ⟨rfl, HB9.out⟩
end Go.Proofs.YtndmjfkmnjejkaaGreatDoor

/- Walk: schnorr.Sign. -/
import Derived.Test.YtndmjfkmnjejkaaGreatDoorQCoBs
import Derived.Test.YtndmjfkmnjejkaaGreatDoorQScL
import Derived.Test.YtndmjfkmnjejkaaGreatDoorQCoI
import Derived.Test.YtndmjfkmnjejkaaGreatDoorQMdB
import Derived.Deep.Cut
import Derived.Test.YtndmjfkmnjejkaaGreatDoorQPeBA
set_option linter.unusedVariables false
set_option linter.unusedSimpArgs false
namespace Go.Proofs.YtndmjfkmnjejkaaGreatDoor
open Go.RowKit Go.Lib
def sgN (M O G Y X msg : ByteArray) (l : List ByteArray) (s : ByteArray) (k : Int) : Nat × Nat × Int :=
  if scK M O G Y = 0 then
    if (nvalid X && tpG l k) = true then
      if decide (0 < num X ∧ num X < num O ∧ num G ^ num X % num M = num Y) = true then
        (if (coN l s k O).2 = 0 then
          (chS M O G Y (num G ^ (coN l s k O).1 % num M) msg, (chS M O G Y (num G ^ (coN l s k O).1 % num M) msg * num X % num O + (coN l s k O).1) % num O, 0)
        else (0, 0, (coN l s k O).2))
      else (0, 0, 1)
    else (0, 0, 3)
  else (0, 0, scK M O G Y)
def RetS (r : Nat × Nat × Int) (t : List ByteArray × ByteArray × Int) (w : World) (en : Ending) (w' : World) : Prop :=
  ∃ A c, en = .returned (.tuple #[.agg #[.string (nS r.1), .string (nS r.2.1)], .agg #[.slice A t.1.length c, .string t.2.1, .int .i64 t.2.2], .int .i64 r.2.2]) ∧ SlN w' A t.1.length c t.1 ∧ (∀ b o, A = some ⟨b, o, none⟩ → w.heap.size ≤ b) ∧ Below w.heap.size w w'
def SN (w W : World) (M O G Y : ByteArray) (A : Option Addr) (n cap : Nat) (s : ByteArray) (k : Int) (l : List ByteArray) : Prop :=
  Bx4 W w.heap.size (.string M) (.string O) (.string G) (.string Y) 46 ∧ TB W (w.heap.size + 1) A n cap s k ∧ Bx2 W (w.heap.size + 1 + 1) (.string ⟨#[]⟩) (.string ⟨#[]⟩) 52 ∧ TB W (w.heap.size + 1 + 1 + 1) none 0 0 ⟨#[]⟩ 0 ∧ SlN W A n cap l ∧ Below w.heap.size w W
theorem SN.next {w W W' : World} {M O G Y : ByteArray} {A : Option Addr} {n cap : Nat} {s : ByteArray} {k : Int} {l : List ByteArray} (h : SN w W M O G Y A n cap s k l) (hb : Below W.heap.size W W') : SN w W' M O G Y A n cap s k l :=
  ⟨h.1.next hb, h.2.1.nextT hb, h.2.2.1.next hb, h.2.2.2.1.nextT hb, h.2.2.2.2.1.kept hb (Nat.le_refl _), h.2.2.2.2.2.trans (hb.mono h.2.2.2.2.2.size)⟩
theorem SN.new (w : World) (M O G Y : ByteArray) (A : Option Addr) (n cap : Nat) (s : ByteArray) (k : Int) (l : List ByteArray) (hs : SlN w A n cap l) :
    SN w ((((w.alloc (.cells #[.string M, .string O, .string G, .string Y] 46)).alloc (.cells #[.slice A n cap, .string s, .int .i64 k] 31)).alloc (.cells #[.string ⟨#[]⟩, .string ⟨#[]⟩] 52)).alloc (.cells #[.slice none 0 0, .string ⟨#[]⟩, .int .i64 0] 31)) M O G Y A n cap s k l := by
  obtain ⟨w1, h1⟩ : ∃ W, w.alloc (.cells #[.string M, .string O, .string G, .string Y] 46) = W := ⟨_, rfl⟩
  have b1 : Below w.heap.size w w1 := h1 ▸ (Below.refl _ _).alloc (Nat.le_refl _) _
  have x1 : Bx4 w1 w.heap.size (.string M) (.string O) (.string G) (.string Y) 46 := h1 ▸ Bx4.new _ _ _ _ _ _
  have s1 : w1.heap.size = w.heap.size + 1 := by rw [← h1]; simp
  rw [h1]
  obtain ⟨w2, h2⟩ : ∃ W, w1.alloc (.cells #[.slice A n cap, .string s, .int .i64 k] 31) = W := ⟨_, rfl⟩
  have b2 : Below w1.heap.size w1 w2 := h2 ▸ (Below.refl _ _).alloc (Nat.le_refl _) _
  have x2 : TB w2 w1.heap.size A n cap s k := h2 ▸ TB.new _ _ _ _ _ _
  have s2 : w2.heap.size = w.heap.size + 1 + 1 := by rw [← h2]; simp [s1]
  rw [h2]
  obtain ⟨w3, h3⟩ : ∃ W, w2.alloc (.cells #[.string ⟨#[]⟩, .string ⟨#[]⟩] 52) = W := ⟨_, rfl⟩
  have b3 : Below w2.heap.size w2 w3 := h3 ▸ (Below.refl _ _).alloc (Nat.le_refl _) _
  have x3 : Bx2 w3 w2.heap.size (.string ⟨#[]⟩) (.string ⟨#[]⟩) 52 := h3 ▸ Bx2.new _ _ _ _
  have s3 : w3.heap.size = w.heap.size + 1 + 1 + 1 := by rw [← h3]; simp [s2]
  rw [h3]
  obtain ⟨w4, h4⟩ : ∃ W, w3.alloc (.cells #[.slice none 0 0, .string ⟨#[]⟩, .int .i64 0] 31) = W := ⟨_, rfl⟩
  have b4 : Below w3.heap.size w3 w4 := h4 ▸ (Below.refl _ _).alloc (Nat.le_refl _) _
  have x4 : TB w4 w3.heap.size none 0 0 ⟨#[]⟩ 0 := h4 ▸ TB.new _ _ _ _ _ _
  rw [h4]
  rw [s1] at x2
  rw [s2] at x3
  rw [s3] at x4
  have bb := ((b1.trans (b2.mono b1.size)).trans (b3.mono (by rw [s2]; omega))).trans (b4.mono (by rw [s3]; omega))
  exact ⟨((x1.next b2).next b3).next b4, (x2.nextT b3).nextT b4, x3.next b4, x4, hs.kept bb (Nat.le_refl _), bb⟩
theorem SN.stored {w W : World} {M O G Y : ByteArray} {A : Option Addr} {n cap : Nat} {s : ByteArray} {k : Int} {l : List ByteArray} (h : SN w W M O G Y A n cap s k l) (x y : Value) (A' : Option Addr) (n' c' : Nat) (s' : ByteArray) (a' : Int) :
    Bx2 (((((W.setCell ⟨w.heap.size + 1 + 1, 0, none⟩ x).setCell ⟨w.heap.size + 1 + 1, 1, none⟩ y).setCell ⟨w.heap.size + 1 + 1 + 1, 0, none⟩ (.slice A' n' c')).setCell ⟨w.heap.size + 1 + 1 + 1, 1, none⟩ (.string s')).setCell ⟨w.heap.size + 1 + 1 + 1, 2, none⟩ (.int .i64 a')) (w.heap.size + 1 + 1) x y 52 ∧
    TB (((((W.setCell ⟨w.heap.size + 1 + 1, 0, none⟩ x).setCell ⟨w.heap.size + 1 + 1, 1, none⟩ y).setCell ⟨w.heap.size + 1 + 1 + 1, 0, none⟩ (.slice A' n' c')).setCell ⟨w.heap.size + 1 + 1 + 1, 1, none⟩ (.string s')).setCell ⟨w.heap.size + 1 + 1 + 1, 2, none⟩ (.int .i64 a')) (w.heap.size + 1 + 1 + 1) A' n' c' s' a' ∧
    Below w.heap.size w (((((W.setCell ⟨w.heap.size + 1 + 1, 0, none⟩ x).setCell ⟨w.heap.size + 1 + 1, 1, none⟩ y).setCell ⟨w.heap.size + 1 + 1 + 1, 0, none⟩ (.slice A' n' c')).setCell ⟨w.heap.size + 1 + 1 + 1, 1, none⟩ (.string s')).setCell ⟨w.heap.size + 1 + 1 + 1, 2, none⟩ (.int .i64 a')) :=
  ⟨bx2_off3 (h.2.2.1.set2) (by omega), ((h.2.2.2.1.off (by omega) _).off (by omega) _).set3, below_set3 (below_set2 h.2.2.2.2.2 (by omega) _ _) (by omega) _ _ _⟩
theorem SN.key {w W : World} {M O G Y : ByteArray} {A : Option Addr} {n cap : Nat} {s : ByteArray} {k : Int} {l : List ByteArray} (h : SN w W M O G Y A n cap s k l) : W.cell? ⟨w.heap.size, 0, none⟩ = some (.string M) ∧ W.cell? ⟨w.heap.size, 1, none⟩ = some (.string O) ∧ W.cell? ⟨w.heap.size, 2, none⟩ = some (.string G) ∧ W.cell? ⟨w.heap.size, 3, none⟩ = some (.string Y) := h.1.cells
set_option maxRecDepth 100000 in
set_option maxHeartbeats 8000000 in
theorem sc_Sign (M O G Y X msg : ByteArray) (l : List ByteArray) (s : ByteArray) (k : Int) (A : Option Addr) (n cap : Nat) (hM : M.size ≤ 8) (hO : O.size ≤ 100) (hG : G.size ≤ 1000) (hY : Y.size ≤ 1000) (hX : X.size ≤ 1000) (hm : msg.size ≤ 1000000) (hn : n ≤ 1000) (hp : ∀ x ∈ l, x.size ≤ 9223372036854775807) (hs64 : s.size ≤ 1000000) (w : World) (hs : SlN w A n cap l) (ht : T10 w) :
    Calls Tryz.prog 35 #[kV M O G Y, .string X, .string msg, tpV A n cap s k] w (RetS (sgN M O G Y X msg l s k) (tpN (sgN M O G Y X msg l s k).2.2 l s k) w) := by
  have hx0 := SN.new w M O G Y A n cap s k l hs
  obtain ⟨W0, hW0⟩ : ∃ W, (((w.alloc (.cells #[.string M, .string O, .string G, .string Y] 46)).alloc (.cells #[.slice A n cap, .string s, .int .i64 k] 31)).alloc (.cells #[.string ⟨#[]⟩, .string ⟨#[]⟩] 52)).alloc (.cells #[.slice none 0 0, .string ⟨#[]⟩, .int .i64 0] 31) = W := ⟨_, rfl⟩
  rw [hW0] at hx0
  have HX0 := Lib.hid hx0
  have HCK := Lib.hid (sc_Check M O G Y hM hO hG hY)
  have HFM := Lib.hid (fun W : World => sc_formed [X] (some ⟨W.heap.size, 0, none⟩) 1 1 (by omega) (by
    intro z hz
    simp at hz
    subst hz; omega) (W.alloc (.cells #[.string X] 22)) (sln_alloc W [X] 22 (by simp)))
  rw [show ([X].all nvalid) = nvalid X from by simp] at HFM
  have HGT := Lib.hid (fun W hs => sc_goodTape l s k A n cap W hs hn hp)
  obtain ⟨g0, g1, g2, g3⟩ := HX0.out.key
  obtain ⟨c0, c1, c2⟩ := HX0.out.2.1.c
  unfold tpV kV at *
  clear hx0 hs
  by_cases hk : scK M O G Y = 0
  · rw [hk] at HCK
    cases vX : nvalid X with
    | false =>
      rw [vX] at HFM
      rw [show sgN M O G Y X msg l s k = (0, 0, 3) from by unfold sgN; rw [if_pos hk, vX, Bool.false_and, if_neg (by decide)]]
      clear hk vX hp ht
      go_enter Tryz.func35, Tryz.ntmps35
      go_wp2_with fail
      try rw [hW0]
      clear hW0
      refine (HCK.out _).mono ?_
      rintro ev w1 ⟨rfl, hb⟩
      have HX1 := Lib.hid (HX0.out.next hb)
      clear hb g0 g1 g2 g3 c0 c1 c2
      obtain ⟨g0, g1, g2, g3⟩ := HX1.out.key
      obtain ⟨c0, c1, c2⟩ := HX1.out.2.1.c
      have HX2 := Lib.hid (HX1.out.next ((Below.refl w1.heap.size w1).alloc (Nat.le_refl _) (.cells #[.string X] 22)))
      go_wp2_with fail
      refine (HFM.out _).mono ?_
      rintro ev w2 ⟨rfl, rfl⟩
      clear g0 g1 g2 g3 c0 c1 c2
      obtain ⟨g0, g1, g2, g3⟩ := HX2.out.key
      obtain ⟨c0, c1, c2⟩ := HX2.out.2.1.c
      obtain ⟨k0, k1⟩ := (show _ ∧ _ from ⟨HX2.out.2.2.1.c0, HX2.out.2.2.1.c1⟩)
      have kf0 := HX2.out.2.2.1.f0
      have kf1 := HX2.out.2.2.1.f1
      obtain ⟨r0, r1, r2⟩ := HX2.out.2.2.2.1.c
      have rf := HX2.out.2.2.2.1.f
      have rf0 := rf 0
      have rf1 := rf 1
      have rf2 := rf 2
      obtain ⟨hq2, hq3, hqb⟩ := HX2.out.stored (.string ⟨#[]⟩) (.string ⟨#[]⟩) none 0 0 ⟨#[]⟩ 0
      have q0 := hq2.c0
      have q1 := hq2.c1
      obtain ⟨p0, p1, p2⟩ := hq3.c
      have HQB := Lib.hid hqb
      clear rf hq2 hq3 hqb
      go_wp2
      refine bodyPost_ret (v := .tuple #[.agg #[.string ⟨#[]⟩, .string ⟨#[]⟩], .agg #[.slice none 0 0, .string ⟨#[]⟩, .int .i64 0], .int .i64 3]) (by simp [results, Tryz.results35, go_sem, q0, q1, p0, p1, p2]) rfl ?_
      exact ⟨none, 0, rfl, SlN.nil _ 0 (by omega) none, (fun b o h => by cases h), HQB.out⟩
    | true =>
      rw [vX] at HFM
      cases hg : tpG l k with
      | false =>
        rw [hg] at HGT
        rw [show sgN M O G Y X msg l s k = (0, 0, 3) from by unfold sgN; rw [if_pos hk, vX, hg, Bool.and_false, if_neg (by decide)]]
        clear hk vX hp ht hg
        go_enter Tryz.func35, Tryz.ntmps35
        go_wp2_with fail
        try rw [hW0]
        clear hW0
        refine (HCK.out _).mono ?_
        rintro ev w1 ⟨rfl, hb⟩
        have HX1 := Lib.hid (HX0.out.next hb)
        clear hb g0 g1 g2 g3 c0 c1 c2
        obtain ⟨g0, g1, g2, g3⟩ := HX1.out.key
        obtain ⟨c0, c1, c2⟩ := HX1.out.2.1.c
        have HX2 := Lib.hid (HX1.out.next ((Below.refl w1.heap.size w1).alloc (Nat.le_refl _) (.cells #[.string X] 22)))
        go_wp2_with fail
        refine (HFM.out _).mono ?_
        rintro ev w2 ⟨rfl, rfl⟩
        clear g0 g1 g2 g3 c0 c1 c2
        obtain ⟨g0, g1, g2, g3⟩ := HX2.out.key
        obtain ⟨c0, c1, c2⟩ := HX2.out.2.1.c
        have HGU := Lib.hid (HGT.out _ HX2.out.2.2.2.2.1)
        go_wp2_with fail
        refine HGU.out.mono ?_
        rintro ev w3 ⟨rfl, hb⟩
        have HX3 := Lib.hid (HX2.out.next hb)
        clear hb g0 g1 g2 g3 c0 c1 c2
        obtain ⟨g0, g1, g2, g3⟩ := HX3.out.key
        obtain ⟨c0, c1, c2⟩ := HX3.out.2.1.c
        obtain ⟨k0, k1⟩ := (show _ ∧ _ from ⟨HX3.out.2.2.1.c0, HX3.out.2.2.1.c1⟩)
        have kf0 := HX3.out.2.2.1.f0
        have kf1 := HX3.out.2.2.1.f1
        obtain ⟨r0, r1, r2⟩ := HX3.out.2.2.2.1.c
        have rf := HX3.out.2.2.2.1.f
        have rf0 := rf 0
        have rf1 := rf 1
        have rf2 := rf 2
        obtain ⟨hq2, hq3, hqb⟩ := HX3.out.stored (.string ⟨#[]⟩) (.string ⟨#[]⟩) none 0 0 ⟨#[]⟩ 0
        have q0 := hq2.c0
        have q1 := hq2.c1
        obtain ⟨p0, p1, p2⟩ := hq3.c
        have HQB := Lib.hid hqb
        clear rf hq2 hq3 hqb
        go_wp2
        refine bodyPost_ret (v := .tuple #[.agg #[.string ⟨#[]⟩, .string ⟨#[]⟩], .agg #[.slice none 0 0, .string ⟨#[]⟩, .int .i64 0], .int .i64 3]) (by simp [results, Tryz.results35, go_sem, q0, q1, p0, p1, p2]) rfl ?_
        exact ⟨none, 0, rfl, SlN.nil _ 0 (by omega) none, (fun b o h => by cases h), HQB.out⟩
      | true =>
        rw [hg] at HGT
        have HIS := Lib.hid (sc_isSecret M O G Y X hM hk vX)
        unfold kV at HIS
        obtain ⟨hv4, hck, hz, hgg, hy⟩ := scK_ok hk
        obtain ⟨v1, v2, v3, v4⟩ := all_four hv4
        have h8 := chk_small hv4 hM hck
        by_cases hi : 0 < num X ∧ num X < num O ∧ num G ^ num X % num M = num Y
        · rw [decide_eq_true hi] at HIS
          have HDD := Lib.hid (fun W (hb : Below w.heap.size w W) hs => co_Below l s k O A n cap hn hp hs64 (by omega) W hs (ht.kept hb (Nat.le_refl _)))
          obtain ⟨rr, hr⟩ : ∃ r, coN l s k O = r := ⟨_, rfl⟩
          have hlt : rr.2 = 0 → rr.1 < num O := fun h => by rw [← hr] at h ⊢; exact coN_lt h
          have HRV := Lib.hid (show sgN M O G Y X msg l s k = (if rr.2 = 0 then (chS M O G Y (num G ^ rr.1 % num M) msg, (chS M O G Y (num G ^ rr.1 % num M) msg * num X % num O + rr.1) % num O, 0) else (0, 0, rr.2)) from by
            unfold sgN; rw [if_pos hk, vX, hg, if_pos (by rfl), decide_eq_true hi, if_pos rfl, hr])
          rw [hr] at HDD
          obtain ⟨nn, e⟩ := rr
          simp only [] at HRV hlt HDD
          obtain ⟨cz, hcz⟩ : ∃ z, nS nn = z := ⟨_, rfl⟩
          have HCZ := Lib.hid hcz
          obtain ⟨t, htp⟩ : ∃ t, tpN e l s k = t := ⟨_, rfl⟩
          obtain ⟨tl, ts, tk⟩ := t
          rw [htp] at HDD
          obtain ⟨m, hmm⟩ : ∃ m, tl.length = m := ⟨_, rfl⟩
          have HMM := Lib.hid hmm
          unfold tpV at HDD
          by_cases he : e = 0
          · subst he
            have lc := hlt rfl
            have lO := num_small h8
            have hm0 : 0 < num M := by
              obtain ⟨i, hu⟩ := has_un (chkK_parts hck).2.2 (genK_parts hgg).1
              have := hu.1
              omega
            have h9 := num_small hM
            have lc1 : nn < 256 ^ 128 := lt128_of_lt8 (by omega)
            have HEX := Lib.hid (pw_Exp M O G false (nS nn) hM h8 (by omega) (by have := nS_size_le.2 lc1; omega))
            rw [ex_nat2 hck v3 (genK_parts hgg).1 lc1] at HEX
            have lr : num G ^ nn % num M < 256 ^ 128 := lt128_of_lt8 (by have := Nat.mod_lt (num G ^ nn) hm0; omega)
            have HCH := Lib.hid (sc_challenge M O G Y (nS (num G ^ nn % num M)) msg hM h8 (by omega) (by omega) (by have := nS_size_le.2 lr; omega) hm v2 (by omega))
            rw [show chL (snL M.data.toList O.data.toList G.data.toList Y.data.toList (nS (num G ^ nn % num M)).data.toList msg.data.toList) O.size (num O) = chS M O G Y (num G ^ nn % num M) msg from rfl] at HCH
            have lch : chS M O G Y (num G ^ nn % num M) msg < num O := Nat.mod_lt _ (by omega)
            simp only [if_true] at HRV
            obtain ⟨ch, hch⟩ : ∃ x, chS M O G Y (num G ^ nn % num M) msg = x := ⟨_, rfl⟩
            rw [hch] at HCH HRV lch
            have HML := Lib.hid (mod_Mul ch (num X) (num O) (by omega) (by omega) lO (by omega))
            rw [← nS_num vX, ← nS_num v2] at HML
            have HAD := Lib.hid (mod_Add (ch * num X % num O) nn (num O) (lt128_of_lt8 (by have := Nat.mod_lt (ch * num X) (show 0 < num O from by omega); omega)) lc1 (lt128_of_lt8 lO) (by omega))
            rw [← nS_num v2] at HAD
            obtain ⟨z1, hz1⟩ : ∃ z, nS (num G ^ nn % num M) = z := ⟨_, rfl⟩
            obtain ⟨z2, hz2⟩ : ∃ z, nS ch = z := ⟨_, rfl⟩
            obtain ⟨z3, hz3⟩ : ∃ z, nS (ch * num X % num O) = z := ⟨_, rfl⟩
            obtain ⟨z4, hz4⟩ : ∃ z, nS ((ch * num X % num O + nn) % num O) = z := ⟨_, rfl⟩
            rw [hz1] at HEX HCH
            rw [hz2] at HCH HML
            rw [hz3] at HML HAD
            rw [hz4, hcz] at HAD
            rw [hcz] at HEX
            have HZ2 := Lib.hid hz2
            have HZ4 := Lib.hid hz4
            have HTT := Lib.hid htp
            rw [HRV.out]
            unfold gV zV kV at *
            clear hk vX hp ht hg hv4 hck hz hgg hy v1 v2 v3 v4 h8 hi hr hlt hcz htp hmm lc lO hm0 h9 lc1 lr lch hch hz1 hz2 hz3 hz4 hM hO hG hY hX hm hn hs64
            go_enter Tryz.func35, Tryz.ntmps35
            go_wp2_with fail
            try rw [hW0]
            clear hW0
            refine (HCK.out _).mono ?_
            rintro ev w1 ⟨rfl, hb⟩
            have HX1 := Lib.hid (HX0.out.next hb)
            clear hb g0 g1 g2 g3 c0 c1 c2
            obtain ⟨g0, g1, g2, g3⟩ := HX1.out.key
            obtain ⟨c0, c1, c2⟩ := HX1.out.2.1.c
            have HX2 := Lib.hid (HX1.out.next ((Below.refl w1.heap.size w1).alloc (Nat.le_refl _) (.cells #[.string X] 22)))
            go_wp2_with fail
            refine (HFM.out _).mono ?_
            rintro ev w2 ⟨rfl, rfl⟩
            clear g0 g1 g2 g3 c0 c1 c2
            obtain ⟨g0, g1, g2, g3⟩ := HX2.out.key
            obtain ⟨c0, c1, c2⟩ := HX2.out.2.1.c
            have HGU := Lib.hid (HGT.out _ HX2.out.2.2.2.2.1)
            go_wp2_with fail
            refine HGU.out.mono ?_
            rintro ev w3 ⟨rfl, hb⟩
            have HX3 := Lib.hid (HX2.out.next hb)
            clear hb g0 g1 g2 g3 c0 c1 c2
            obtain ⟨g0, g1, g2, g3⟩ := HX3.out.key
            obtain ⟨c0, c1, c2⟩ := HX3.out.2.1.c
            go_wp2_with fail
            refine (HIS.out _).mono ?_
            rintro ev w4 ⟨rfl, hb⟩
            have HX4 := Lib.hid (HX3.out.next hb)
            clear hb g0 g1 g2 g3 c0 c1 c2
            obtain ⟨g0, g1, g2, g3⟩ := HX4.out.key
            obtain ⟨c0, c1, c2⟩ := HX4.out.2.1.c
            have HDW := Lib.hid (HDD.out w4 HX4.out.2.2.2.2.2 HX4.out.2.2.2.2.1)
            go_wp2_with fail
            refine HDW.out.mono ?_
            rintro ev w6 ⟨B, cc, rfl, hsl, hfr, hb⟩
            simp only [] at hsl ⊢
            rw [HMM.out] at hsl ⊢
            have HSL := Lib.hid hsl
            have HFR := Lib.hid (show ∀ b o, B = some ⟨b, o, none⟩ → w.heap.size + 1 + 1 + 1 < b from fun b o h => Nat.lt_of_lt_of_le HX4.out.2.2.2.1.lt (hfr b o h))
            clear hsl hfr
            have HX6 := Lib.hid (HX4.out.next hb)
            clear hb g0 g1 g2 g3 c0 c1 c2
            obtain ⟨g0, g1, g2, g3⟩ := HX6.out.key
            obtain ⟨c0, c1, c2⟩ := HX6.out.2.1.c
            rw [HCZ.out]
            have HLT6 := Lib.hid (show w.heap.size + 1 + 1 + 1 < w6.heap.size from HX6.out.2.2.2.1.lt)
            clear g0 g1 g2 g3 c0 c1 c2
            go_upto_region 9 with (fail)
            obtain ⟨g0, g1, g2, g3⟩ := HX6.out.key
            obtain ⟨c0, c1, c2⟩ := HX6.out.2.1.c
            have hb : Below w6.heap.size w6 (w6.alloc (.cells #[.slice B m cc, .string ts, .int .i64 tk] 31)) := (Below.refl _ _).alloc (Nat.le_refl _) _
            have hp7 := TB.new w6 B m cc ts tk
            obtain ⟨W7, hW7⟩ : ∃ W, w6.alloc (.cells #[.slice B m cc, .string ts, .int .i64 tk] 31) = W := ⟨_, rfl⟩
            obtain ⟨P7, hP7⟩ : ∃ P, w6.heap.size = P := ⟨_, rfl⟩
            rw [hW7] at hb hp7 ⊢
            rw [hP7] at hp7 HLT6 ⊢
            have HP7 := Lib.hid hp7
            have HSL7 := Lib.hid (HSL.out.kept hb (Nat.le_refl _))
            clear hp7 hW7 hP7
            have HX7 := Lib.hid (HX6.out.next hb)
            clear hb g0 g1 g2 g3 c0 c1 c2
            obtain ⟨g0, g1, g2, g3⟩ := HX7.out.key
            obtain ⟨c0, c1, c2⟩ := HX7.out.2.1.c
            go_wp2_with fail
            refine (HEX.out _).mono ?_
            rintro ev w8 ⟨rfl, hb⟩
            have HP8 := Lib.hid (HP7.out.nextT hb)
            have HSL8 := Lib.hid (HSL7.out.kept hb (Nat.le_refl _))
            have HX8 := Lib.hid (HX7.out.next hb)
            clear hb g0 g1 g2 g3 c0 c1 c2
            obtain ⟨g0, g1, g2, g3⟩ := HX8.out.key
            obtain ⟨c0, c1, c2⟩ := HX8.out.2.1.c
            go_wp2_with fail
            refine (HCH.out _).mono ?_
            rintro ev w9 ⟨rfl, hb⟩
            have HP9 := Lib.hid (HP8.out.nextT hb)
            have HSL9 := Lib.hid (HSL8.out.kept hb (Nat.le_refl _))
            have HX9 := Lib.hid (HX8.out.next hb)
            clear hb g0 g1 g2 g3 c0 c1 c2
            obtain ⟨g0, g1, g2, g3⟩ := HX9.out.key
            obtain ⟨c0, c1, c2⟩ := HX9.out.2.1.c
            go_wp2_with fail
            refine (HML.out _).mono ?_
            rintro ev w10 ⟨rfl, hb⟩
            have HP10 := Lib.hid (HP9.out.nextT hb)
            have HSL10 := Lib.hid (HSL9.out.kept hb (Nat.le_refl _))
            have HX10 := Lib.hid (HX9.out.next hb)
            clear hb g0 g1 g2 g3 c0 c1 c2
            obtain ⟨g0, g1, g2, g3⟩ := HX10.out.key
            obtain ⟨c0, c1, c2⟩ := HX10.out.2.1.c
            go_wp2_with fail
            refine (HAD.out _).mono ?_
            rintro ev w11 ⟨rfl, hb⟩
            have HP11 := Lib.hid (HP10.out.nextT hb)
            have HSL11 := Lib.hid (HSL10.out.kept hb (Nat.le_refl _))
            have HX11 := Lib.hid (HX10.out.next hb)
            clear hb g0 g1 g2 g3 c0 c1 c2
            obtain ⟨g0, g1, g2, g3⟩ := HX11.out.key
            obtain ⟨c0, c1, c2⟩ := HX11.out.2.1.c
            go_wp2
            obtain ⟨wd, hwd⟩ : ∃ wd, w11.drew = wd := ⟨_, rfl⟩
            have hbd : Below w11.heap.size w11 wd := by rw [← hwd]; exact (Below.refl _ _).drew
            have HXD := Lib.hid (HX11.out.next hbd)
            have HS0 := Lib.hid (show Below w.heap.size w wd ∧ TB wd P7 B m cc ts tk from ⟨(HX11.out.next hbd).2.2.2.2.2, HP11.out.nextT hbd⟩)
            have HSLD := Lib.hid (HSL11.out.kept hbd (Nat.le_refl _))
            clear hbd g0 g1 g2 g3 c0 c1 c2
            obtain ⟨k0, k1⟩ := (show _ ∧ _ from ⟨HXD.out.2.2.1.c0, HXD.out.2.2.1.c1⟩)
            have kf0 := HXD.out.2.2.1.f0
            have kf1 := HXD.out.2.2.1.f1
            obtain ⟨r0, r1, r2⟩ := HXD.out.2.2.2.1.c
            have rf := HXD.out.2.2.2.1.f
            have rf0 := rf 0
            have rf1 := rf 1
            have rf2 := rf 2
            clear rf
            refine wp_region_K 7 (fun W' => Below w.heap.size w W' ∧ TB W' P7 B m cc ts tk) (by kernel_rfl) ?_
            intro hD
            rw [hwd]
            refine rP 0 90 6 rfl hD HS0.out ?_; clear hD; intro hD; simp only [Act.put, sqA, sqB, sqC]
            refine rP 1 91 5 rfl hD HS0.out ?_; clear hD; intro hD; simp only [Act.put, sqA, sqB, sqC]
            refine rP 2 92 4 rfl hD HS0.out ?_; clear hD; intro hD; simp only [Act.put, sqA, sqB, sqC]
            refine rT 3 93 3 rfl hD HS0.out (by intro w' hS'; have e0 := hS'.2.c.1; have e1 := hS'.2.c.2.1; have e2 := hS'.2.c.2.2; go_simp; with_reducible rfl) ?_; clear hD; intro hD; simp only [Act.put, sqA, sqB, sqC]
            refine rO 4 2 rfl hD ?_; clear hD; intro K4 hK4
            go_wp2
            refine hK4 _ _ (by exact ⟨below_set2 (HS0.out).1 (by omega) _ _, ((HS0.out).2.off (by have := HLT6.out; omega) _).off (by have := HLT6.out; omega) _⟩) ?_; clear hK4; intro hS_15_4 hD
            refine rO 5 1 rfl hD ?_; clear hD; intro K5 hK5
            go_wp2
            refine hK5 _ _ (by exact ⟨below_set3 (hS_15_4).1 (by omega) _ _ _, (((hS_15_4).2.off (by have := HLT6.out; omega) _).off (by have := HLT6.out; omega) _).off (by have := HLT6.out; omega) _⟩) ?_; clear hK5; intro hS_15_5 hD
            refine rO 6 0 rfl hD ?_; clear hD; intro K6 hK6
            go_wp2
            refine hK6 _ _ (by exact hS_15_5) ?_; clear hK6; intro hS_15_6 hD
            refine wpAnyK_done (by kernel_rfl) ?_ 0
            clear hD k0 k1 kf0 kf1 r0 r1 r2 rf0 rf1 rf2
            obtain ⟨hq2, hq3, hqb⟩ := HXD.out.stored (.string z2) (.string z4) B m cc ts tk
            have q0 := hq2.c0
            have q1 := hq2.c1
            obtain ⟨p0, p1, p2⟩ := hq3.c
            have HQB := Lib.hid hqb
            clear hq2 hq3 hqb
            go_wp2
            refine bodyPost_ret (v := .tuple #[.agg #[.string z2, .string z4], .agg #[.slice B m cc, .string ts, .int .i64 tk], .int .i64 0]) (by simp [results, Tryz.results35, go_sem, q0, q1, p0, p1, p2]) rfl ?_
            rw [HTT.out]
            refine ⟨B, cc, ?_, ?_, (fun b o h => by have := HFR.out b o h; omega), HQB.out⟩
            · show _ = Ending.returned (.tuple #[.agg #[.string (nS ch), .string (nS ((ch * num X % num O + nn) % num O))], .agg #[.slice B tl.length cc, .string ts, .int .i64 tk], .int .i64 0])
              rw [HMM.out, HZ2.out, HZ4.out]
            · show SlN _ B tl.length cc tl
              rw [HMM.out]
              have h1 : ∀ b o, B = some ⟨b, o, none⟩ → w.heap.size + 1 + 1 < b := fun b o h => by have := HFR.out b o h; omega
              exact ((((HSLD.out.setB h1).setB h1).setB HFR.out).setB HFR.out).setB HFR.out
          · rw [if_neg he] at HRV
            rw [HRV.out, show tpN (0, 0, e).2.2 l s k = ([], ⟨#[]⟩, 0) from tpN_err he l s k]
            have HNE := Lib.hid he
            clear hk vX hp ht hg hv4 hck hz hgg hy v1 v2 v3 v4 h8 hi hr hlt hcz htp hmm hM hO hG hY hX hm hn hs64 he
            go_enter Tryz.func35, Tryz.ntmps35
            go_wp2_with fail
            try rw [hW0]
            clear hW0
            refine (HCK.out _).mono ?_
            rintro ev w1 ⟨rfl, hb⟩
            have HX1 := Lib.hid (HX0.out.next hb)
            clear hb g0 g1 g2 g3 c0 c1 c2
            obtain ⟨g0, g1, g2, g3⟩ := HX1.out.key
            obtain ⟨c0, c1, c2⟩ := HX1.out.2.1.c
            have HX2 := Lib.hid (HX1.out.next ((Below.refl w1.heap.size w1).alloc (Nat.le_refl _) (.cells #[.string X] 22)))
            go_wp2_with fail
            refine (HFM.out _).mono ?_
            rintro ev w2 ⟨rfl, rfl⟩
            clear g0 g1 g2 g3 c0 c1 c2
            obtain ⟨g0, g1, g2, g3⟩ := HX2.out.key
            obtain ⟨c0, c1, c2⟩ := HX2.out.2.1.c
            have HGU := Lib.hid (HGT.out _ HX2.out.2.2.2.2.1)
            go_wp2_with fail
            refine HGU.out.mono ?_
            rintro ev w3 ⟨rfl, hb⟩
            have HX3 := Lib.hid (HX2.out.next hb)
            clear hb g0 g1 g2 g3 c0 c1 c2
            obtain ⟨g0, g1, g2, g3⟩ := HX3.out.key
            obtain ⟨c0, c1, c2⟩ := HX3.out.2.1.c
            go_wp2_with fail
            refine (HIS.out _).mono ?_
            rintro ev w4 ⟨rfl, hb⟩
            have HX4 := Lib.hid (HX3.out.next hb)
            clear hb g0 g1 g2 g3 c0 c1 c2
            obtain ⟨g0, g1, g2, g3⟩ := HX4.out.key
            obtain ⟨c0, c1, c2⟩ := HX4.out.2.1.c
            have HDW := Lib.hid (HDD.out w4 HX4.out.2.2.2.2.2 HX4.out.2.2.2.2.1)
            go_wp2_with fail
            refine HDW.out.mono ?_
            rintro ev w6 ⟨B, cc, rfl, hsl, hfr, hb⟩
            simp only [] at hsl ⊢
            rw [HMM.out] at hsl ⊢
            have HSL := Lib.hid hsl
            have HFR := Lib.hid (show ∀ b o, B = some ⟨b, o, none⟩ → w.heap.size + 1 + 1 + 1 < b from fun b o h => Nat.lt_of_lt_of_le HX4.out.2.2.2.1.lt (hfr b o h))
            clear hsl hfr
            have HX6 := Lib.hid (HX4.out.next hb)
            clear hb g0 g1 g2 g3 c0 c1 c2
            obtain ⟨g0, g1, g2, g3⟩ := HX6.out.key
            obtain ⟨c0, c1, c2⟩ := HX6.out.2.1.c
            rw [HCZ.out]
            have HLT6 := Lib.hid (show w.heap.size + 1 + 1 + 1 < w6.heap.size from HX6.out.2.2.2.1.lt)
            clear g0 g1 g2 g3 c0 c1 c2
            go_upto_region 9 with (fail)
            obtain ⟨g0, g1, g2, g3⟩ := HX6.out.key
            obtain ⟨c0, c1, c2⟩ := HX6.out.2.1.c
            have hb : Below w6.heap.size w6 (w6.alloc (.cells #[.slice B m cc, .string ts, .int .i64 tk] 31)) := (Below.refl _ _).alloc (Nat.le_refl _) _
            have hp7 := TB.new w6 B m cc ts tk
            obtain ⟨W7, hW7⟩ : ∃ W, w6.alloc (.cells #[.slice B m cc, .string ts, .int .i64 tk] 31) = W := ⟨_, rfl⟩
            obtain ⟨P7, hP7⟩ : ∃ P, w6.heap.size = P := ⟨_, rfl⟩
            rw [hW7] at hb hp7 ⊢
            rw [hP7] at hp7 HLT6 ⊢
            have HP7 := Lib.hid hp7
            have HSL7 := Lib.hid (HSL.out.kept hb (Nat.le_refl _))
            clear hp7 hW7 hP7
            have HX7 := Lib.hid (HX6.out.next hb)
            clear hb g0 g1 g2 g3 c0 c1 c2
            obtain ⟨g0, g1, g2, g3⟩ := HX7.out.key
            obtain ⟨c0, c1, c2⟩ := HX7.out.2.1.c
            have he := HNE.out
            go_upto_region 10 with (fail)
            clear he
            obtain ⟨k0, k1⟩ := (show _ ∧ _ from ⟨HX7.out.2.2.1.c0, HX7.out.2.2.1.c1⟩)
            have kf0 := HX7.out.2.2.1.f0
            have kf1 := HX7.out.2.2.1.f1
            obtain ⟨r0, r1, r2⟩ := HX7.out.2.2.2.1.c
            have rf := HX7.out.2.2.2.1.f
            have rf0 := rf 0
            have rf1 := rf 1
            have rf2 := rf 2
            obtain ⟨hq2, hq3, hqb⟩ := HX7.out.stored (.string ⟨#[]⟩) (.string ⟨#[]⟩) none 0 0 ⟨#[]⟩ 0
            have q0 := hq2.c0
            have q1 := hq2.c1
            obtain ⟨p0, p1, p2⟩ := hq3.c
            have HQB := Lib.hid hqb
            clear rf hq2 hq3 hqb
            go_wp2
            refine bodyPost_ret (v := .tuple #[.agg #[.string ⟨#[]⟩, .string ⟨#[]⟩], .agg #[.slice none 0 0, .string ⟨#[]⟩, .int .i64 0], .int .i64 e]) (by simp [results, Tryz.results35, go_sem, q0, q1, p0, p1, p2]) rfl ?_
            exact ⟨none, 0, rfl, SlN.nil _ 0 (by omega) none, (fun b o h => by cases h), HQB.out⟩
        · rw [decide_eq_false hi] at HIS
          rw [show sgN M O G Y X msg l s k = (0, 0, 1) from by unfold sgN; rw [if_pos hk, vX, hg, if_pos (by rfl), decide_eq_false hi, if_neg (by decide)]]
          clear hk vX hp ht hg hv4 hck hz hgg hy v1 v2 v3 v4 h8 hi
          go_enter Tryz.func35, Tryz.ntmps35
          go_wp2_with fail
          try rw [hW0]
          clear hW0
          refine (HCK.out _).mono ?_
          rintro ev w1 ⟨rfl, hb⟩
          have HX1 := Lib.hid (HX0.out.next hb)
          clear hb g0 g1 g2 g3 c0 c1 c2
          obtain ⟨g0, g1, g2, g3⟩ := HX1.out.key
          obtain ⟨c0, c1, c2⟩ := HX1.out.2.1.c
          have HX2 := Lib.hid (HX1.out.next ((Below.refl w1.heap.size w1).alloc (Nat.le_refl _) (.cells #[.string X] 22)))
          go_wp2_with fail
          refine (HFM.out _).mono ?_
          rintro ev w2 ⟨rfl, rfl⟩
          clear g0 g1 g2 g3 c0 c1 c2
          obtain ⟨g0, g1, g2, g3⟩ := HX2.out.key
          obtain ⟨c0, c1, c2⟩ := HX2.out.2.1.c
          have HGU := Lib.hid (HGT.out _ HX2.out.2.2.2.2.1)
          go_wp2_with fail
          refine HGU.out.mono ?_
          rintro ev w3 ⟨rfl, hb⟩
          have HX3 := Lib.hid (HX2.out.next hb)
          clear hb g0 g1 g2 g3 c0 c1 c2
          obtain ⟨g0, g1, g2, g3⟩ := HX3.out.key
          obtain ⟨c0, c1, c2⟩ := HX3.out.2.1.c
          go_wp2_with fail
          refine (HIS.out _).mono ?_
          rintro ev w4 ⟨rfl, hb⟩
          have HX4 := Lib.hid (HX3.out.next hb)
          clear hb g0 g1 g2 g3 c0 c1 c2
          obtain ⟨g0, g1, g2, g3⟩ := HX4.out.key
          obtain ⟨c0, c1, c2⟩ := HX4.out.2.1.c
          obtain ⟨k0, k1⟩ := (show _ ∧ _ from ⟨HX4.out.2.2.1.c0, HX4.out.2.2.1.c1⟩)
          have kf0 := HX4.out.2.2.1.f0
          have kf1 := HX4.out.2.2.1.f1
          obtain ⟨r0, r1, r2⟩ := HX4.out.2.2.2.1.c
          have rf := HX4.out.2.2.2.1.f
          have rf0 := rf 0
          have rf1 := rf 1
          have rf2 := rf 2
          obtain ⟨hq2, hq3, hqb⟩ := HX4.out.stored (.string ⟨#[]⟩) (.string ⟨#[]⟩) none 0 0 ⟨#[]⟩ 0
          have q0 := hq2.c0
          have q1 := hq2.c1
          obtain ⟨p0, p1, p2⟩ := hq3.c
          have HQB := Lib.hid hqb
          clear rf hq2 hq3 hqb
          go_wp2
          refine bodyPost_ret (v := .tuple #[.agg #[.string ⟨#[]⟩, .string ⟨#[]⟩], .agg #[.slice none 0 0, .string ⟨#[]⟩, .int .i64 0], .int .i64 1]) (by simp [results, Tryz.results35, go_sem, q0, q1, p0, p1, p2]) rfl ?_
          exact ⟨none, 0, rfl, SlN.nil _ 0 (by omega) none, (fun b o h => by cases h), HQB.out⟩
  · rw [show sgN M O G Y X msg l s k = (0, 0, scK M O G Y) from if_neg hk]
    obtain ⟨e, he⟩ : ∃ e, scK M O G Y = e := ⟨_, rfl⟩
    rw [he] at HCK hk ⊢
    rw [show tpN (0, 0, e).2.2 l s k = ([], ⟨#[]⟩, 0) from tpN_err hk l s k]
    clear he hp ht
    go_enter Tryz.func35, Tryz.ntmps35
    go_wp2_with fail
    try rw [hW0]
    clear hW0
    refine (HCK.out _).mono ?_
    rintro ev w1 ⟨rfl, hb⟩
    have HX1 := Lib.hid (HX0.out.next hb)
    clear hb g0 g1 g2 g3 c0 c1 c2
    obtain ⟨g0, g1, g2, g3⟩ := HX1.out.key
    obtain ⟨c0, c1, c2⟩ := HX1.out.2.1.c
    go_upto_region 3 with (fail)
    clear hk
    obtain ⟨k0, k1⟩ := (show _ ∧ _ from ⟨HX1.out.2.2.1.c0, HX1.out.2.2.1.c1⟩)
    have kf0 := HX1.out.2.2.1.f0
    have kf1 := HX1.out.2.2.1.f1
    obtain ⟨r0, r1, r2⟩ := HX1.out.2.2.2.1.c
    have rf := HX1.out.2.2.2.1.f
    have rf0 := rf 0
    have rf1 := rf 1
    have rf2 := rf 2
    obtain ⟨hq2, hq3, hqb⟩ := HX1.out.stored (.string ⟨#[]⟩) (.string ⟨#[]⟩) none 0 0 ⟨#[]⟩ 0
    have q0 := hq2.c0
    have q1 := hq2.c1
    obtain ⟨p0, p1, p2⟩ := hq3.c
    have HQB := Lib.hid hqb
    clear rf hq2 hq3 hqb
    go_wp2
    refine bodyPost_ret (v := .tuple #[.agg #[.string ⟨#[]⟩, .string ⟨#[]⟩], .agg #[.slice none 0 0, .string ⟨#[]⟩, .int .i64 0], .int .i64 e]) (by simp [results, Tryz.results35, go_sem, q0, q1, p0, p1, p2]) rfl ?_
    exact ⟨none, 0, rfl, SlN.nil _ 0 (by omega) none, (fun b o h => by cases h), HQB.out⟩
end Go.Proofs.YtndmjfkmnjejkaaGreatDoor
/- Walks: integer.Sub of long numbers; modular.Inverse of a number that has none. -/
set_option linter.unusedVariables false
set_option linter.unusedSimpArgs false
namespace Go.Proofs.YtndmjfkmnjejkaaGreatDoor
open Go.RowKit
set_option maxRecDepth 100000 in
set_option maxHeartbeats 1000000 in
theorem mod_Inverse_none (a m : Nat) (ham : a < m) (hm8 : m < 18446744073709551616) (h1 : 1 < m) (hg : ¬ (Nat.gcd a m = 1)) (w : World) : Calls Tryz.prog 68 #[.string (nS a), .string (nS m)] w (Ret (.tuple #[.string ⟨#[]⟩, .int .i64 9]) w) := by
  have ha8 : a < 18446744073709551616 := by omega
  have HC := Lib.hid (fun w => check_one w (nS a) (nS m) _ rfl (nS_valid_small ha8) (nS_valid_small hm8) (empty_nS (by omega)) _ rfl)
  have HR := Lib.hid (mod_reduced a m ha8 (lt128_of_lt8 hm8) (by omega))
  rw [Nat.mod_eq_of_lt ham] at HR
  have HE := Lib.hid (int_Extended a m ham hm8)
  have hne : ((nS (Nat.gcd a m)).toList == [1]) = false := by rw [nS_is1]; exact decide_eq_false hg
  obtain ⟨gs, hgs⟩ : ∃ g, nS (Nat.gcd a m) = g := ⟨_, rfl⟩
  rw [hgs] at hne
  have HGS := Lib.hid hgs
  obtain ⟨s, hs⟩ : ∃ s, nS a = s := ⟨_, rfl⟩
  obtain ⟨t, ht⟩ : ∃ t, nS m = t := ⟨_, rfl⟩
  rw [hs, ht] at HC HR HE
  rw [hs, ht]
  clear hs ht ham hm8 h1 hg ha8 hgs
  go_enter Tryz.func68, Tryz.ntmps68
  go_wp2_with fail
  refine (HC.out w).mono ?_
  rintro e w1 ⟨rfl, hb1⟩
  have HB1 := Lib.hid ((((Below.refl w.heap.size w).alloc (Nat.le_refl _) _).alloc (by simp) _).trans hb1)
  clear hb1
  go_wp2_with fail
  refine (HR.out _).mono ?_
  rintro e w2 ⟨rfl, hb2⟩
  have HB2 := Lib.hid (HB1.out.trans (hb2.mono HB1.out.size))
  clear hb2
  go_wp2_with fail
  refine (HE.out _).mono ?_
  rintro e w3 ⟨x, y, rfl, hb3, hx0, hx8, hbz⟩
  have HB3 := Lib.hid (HB2.out.trans (hb3.mono HB2.out.size))
  rw [HGS.out]
  unfold intV zV
  obtain ⟨u, hu⟩ : ∃ u, nS x.natAbs = u := ⟨_, rfl⟩
  obtain ⟨dx, hdx⟩ : ∃ dx, decide (x < 0) = dx := ⟨_, rfl⟩
  obtain ⟨dy, hdy⟩ : ∃ dy, decide (y < 0) = dy := ⟨_, rfl⟩
  obtain ⟨v, hv⟩ : ∃ v, nS y.natAbs = v := ⟨_, rfl⟩
  rw [hu, hdx, hdy, hv]
  clear hb3 hbz hx0 hx8 hu hdx hdy hv
  have HB4 := Lib.hid ((HB3.out.alloc HB3.out.size (.cells #[.bool dx, .string u] 28)).alloc (by have := HB3.out.size; simp; omega) (.cells #[.bool dy, .string v] 28))
  go_wp2
  go_ret2
  exact ⟨rfl, by first | exact HB4.out | exact HB3.out⟩
end Go.Proofs.YtndmjfkmnjejkaaGreatDoor
/- Walk: schnorr.Extract. -/
set_option linter.unusedVariables false
set_option linter.unusedSimpArgs false
namespace Go.Proofs.YtndmjfkmnjejkaaGreatDoor
open Go.RowKit Go.Lib
def exK (M O G Y ac ar bc br : ByteArray) : ByteArray × Int :=
  if scK M O G Y = 0 then
    if [ac, ar, bc, br].all nvalid = true then
      if (num ac < num O ∧ num ar < num O) ∧ (num bc < num O ∧ num br < num O) then
        if num ac = num bc ∨ ¬ cmS (num M) (num O) (num G) (num Y) (num ac) (num ar) = cmS (num M) (num O) (num G) (num Y) (num bc) (num br) then (⟨#[]⟩, 1)
        else if Nat.gcd (sbM (num ac) (num bc) (num O)) (num O) = 1 then
          if 0 < sbM (num ar) (num br) (num O) * invN (sbM (num ac) (num bc) (num O)) (num O) % num O ∧ sbM (num ar) (num br) (num O) * invN (sbM (num ac) (num bc) (num O)) (num O) % num O < num O ∧ num G ^ (sbM (num ar) (num br) (num O) * invN (sbM (num ac) (num bc) (num O)) (num O) % num O) % num M = num Y then
            (nS (sbM (num ar) (num br) (num O) * invN (sbM (num ac) (num bc) (num O)) (num O) % num O), 0)
          else (⟨#[]⟩, 17)
        else (⟨#[]⟩, 9)
      else (⟨#[]⟩, 2)
    else (⟨#[]⟩, 3)
  else (⟨#[]⟩, scK M O G Y)
def SX (w W : World) (M O G Y ac ar bc br : ByteArray) : Prop := SB w W M O G Y ∧ Bx2 W (w.heap.size + 1) (.string ac) (.string ar) 52 ∧ Bx2 W (w.heap.size + 1 + 1) (.string bc) (.string br) 52
theorem SX.new (w : World) (M O G Y ac ar bc br : ByteArray) : SX w (((w.alloc (.cells #[.string M, .string O, .string G, .string Y] 46)).alloc (.cells #[.string ac, .string ar] 52)).alloc (.cells #[.string bc, .string br] 52)) M O G Y ac ar bc br := by
  have h := (SG.new w M O G Y ac ar).next ((Below.refl _ _).alloc (Nat.le_refl _) (.cells #[.string bc, .string br] 52))
  refine ⟨h.1, h.2, ?_⟩
  have := Bx2.new ((w.alloc (.cells #[.string M, .string O, .string G, .string Y] 46)).alloc (.cells #[.string ac, .string ar] 52)) (.string bc) (.string br) 52
  rwa [World.size_alloc, World.size_alloc] at this
theorem SX.next {w W W' : World} {M O G Y ac ar bc br : ByteArray} (h : SX w W M O G Y ac ar bc br) (hb : Below W.heap.size W W') : SX w W' M O G Y ac ar bc br := ⟨h.1.next hb, h.2.1.next hb, h.2.2.next hb⟩
theorem SX.cells {w W : World} {M O G Y ac ar bc br : ByteArray} (h : SX w W M O G Y ac ar bc br) :
    W.cell? ⟨w.heap.size, 0, none⟩ = some (.string M) ∧ W.cell? ⟨w.heap.size, 1, none⟩ = some (.string O) ∧ W.cell? ⟨w.heap.size, 2, none⟩ = some (.string G) ∧ W.cell? ⟨w.heap.size, 3, none⟩ = some (.string Y) ∧ W.cell? ⟨w.heap.size + 1, 0, none⟩ = some (.string ac) ∧ W.cell? ⟨w.heap.size + 1, 1, none⟩ = some (.string ar) ∧ W.cell? ⟨w.heap.size + 1 + 1, 0, none⟩ = some (.string bc) ∧ W.cell? ⟨w.heap.size + 1 + 1, 1, none⟩ = some (.string br) := by
  obtain ⟨a, b, c, d⟩ := h.1.1.cells
  exact ⟨a, b, c, d, h.2.1.c0, h.2.1.c1, h.2.2.c0, h.2.2.c1⟩
theorem mod_InverseK (a m : Nat) (ham : a < m) (hm8 : m < 18446744073709551616) (h1 : 1 < m) (hg : Nat.gcd a m = 1) (w : World) : Calls Tryz.prog 68 #[.string (nS a), .string (nS m)] w (Ret (.tuple #[.string (nS (invN a m)), .int .i64 0]) w) := by
  refine (mod_Inverse a m ham hm8 h1 hg w).mono ?_
  rintro e w' ⟨y, rfl, hb, hy, hxy⟩
  rw [invN_of hy hxy]
  exact ⟨rfl, hb⟩
theorem exK_no {M O G Y ac ar bc br : ByteArray} (h : ¬ scK M O G Y = 0) : exK M O G Y ac ar bc br = (⟨#[]⟩, scK M O G Y) := by unfold exK; rw [if_neg h]
theorem exK_form {M O G Y ac ar bc br : ByteArray} (h : scK M O G Y = 0) (hv : [ac, ar, bc, br].all nvalid = false) : exK M O G Y ac ar bc br = (⟨#[]⟩, 3) := by unfold exK; rw [if_pos h, if_neg (by rw [hv]; decide)]
theorem exK_range {M O G Y ac ar bc br : ByteArray} (h : scK M O G Y = 0) (hv : [ac, ar, bc, br].all nvalid = true) (hr : ¬ ((num ac < num O ∧ num ar < num O) ∧ (num bc < num O ∧ num br < num O))) : exK M O G Y ac ar bc br = (⟨#[]⟩, 2) := by unfold exK; rw [if_pos h, if_pos hv, if_neg hr]
theorem exK_arg {M O G Y ac ar bc br : ByteArray} (h : scK M O G Y = 0) (hv : [ac, ar, bc, br].all nvalid = true) (hr : ((num ac < num O ∧ num ar < num O) ∧ (num bc < num O ∧ num br < num O))) (hd : num ac = num bc ∨ ¬ cmS (num M) (num O) (num G) (num Y) (num ac) (num ar) = cmS (num M) (num O) (num G) (num Y) (num bc) (num br)) : exK M O G Y ac ar bc br = (⟨#[]⟩, 1) := by unfold exK; rw [if_pos h, if_pos hv, if_pos hr, if_pos hd]
theorem exK_none {M O G Y ac ar bc br : ByteArray} (h : scK M O G Y = 0) (hv : [ac, ar, bc, br].all nvalid = true) (hr : ((num ac < num O ∧ num ar < num O) ∧ (num bc < num O ∧ num br < num O))) (hd : ¬ (num ac = num bc ∨ ¬ cmS (num M) (num O) (num G) (num Y) (num ac) (num ar) = cmS (num M) (num O) (num G) (num Y) (num bc) (num br))) (hg : ¬ Nat.gcd (sbM (num ac) (num bc) (num O)) (num O) = 1) : exK M O G Y ac ar bc br = (⟨#[]⟩, 9) := by unfold exK; rw [if_pos h, if_pos hv, if_pos hr, if_neg hd, if_neg hg]
theorem exK_end {M O G Y ac ar bc br : ByteArray} (h : scK M O G Y = 0) (hv : [ac, ar, bc, br].all nvalid = true) (hr : ((num ac < num O ∧ num ar < num O) ∧ (num bc < num O ∧ num br < num O))) (hd : ¬ (num ac = num bc ∨ ¬ cmS (num M) (num O) (num G) (num Y) (num ac) (num ar) = cmS (num M) (num O) (num G) (num Y) (num bc) (num br))) (hg : Nat.gcd (sbM (num ac) (num bc) (num O)) (num O) = 1) {x : Nat} (hx : sbM (num ar) (num br) (num O) * invN (sbM (num ac) (num bc) (num O)) (num O) % num O = x) : exK M O G Y ac ar bc br = if (decide (0 < x ∧ x < num O ∧ num G ^ x % num M = num Y)) = true then (nS x, 0) else (⟨#[]⟩, 17) := by
  unfold exK; rw [if_pos h, if_pos hv, if_pos hr, if_neg hd, if_pos hg, hx]
  by_cases hc : 0 < x ∧ x < num O ∧ num G ^ x % num M = num Y
  · rw [if_pos hc, if_pos (decide_eq_true hc)]
  · rw [if_neg hc, if_neg (by rw [decide_eq_false hc]; decide)]
set_option maxRecDepth 100000 in
set_option maxHeartbeats 8000000 in
theorem sc_Extract (M O G Y ac ar bc br : ByteArray) (hM : M.size ≤ 8) (hO : O.size ≤ 100) (hG : G.size ≤ 1000) (hY : Y.size ≤ 1000) (hac : ac.size ≤ 1000) (har : ar.size ≤ 1000) (hbc : bc.size ≤ 1000) (hbr : br.size ≤ 1000) (w : World) : Calls Tryz.prog 22 #[kV M O G Y, .agg #[.string ac, .string ar], .agg #[.string bc, .string br]] w (Ret (.tuple #[.string (exK M O G Y ac ar bc br).1, .int .i64 (exK M O G Y ac ar bc br).2]) w) := by
  have hx0 := SX.new w M O G Y ac ar bc br
  obtain ⟨W0, hW0⟩ : ∃ W, (((w.alloc (.cells #[.string M, .string O, .string G, .string Y] 46)).alloc (.cells #[.string ac, .string ar] 52)).alloc (.cells #[.string bc, .string br] 52)) = W := ⟨_, rfl⟩
  rw [hW0] at hx0
  have HX0 := Lib.hid hx0
  obtain ⟨c0, c1, c2, c3, s0, s1, t0, t1⟩ := hx0.cells
  clear hx0
  have HCK := Lib.hid (sc_Check M O G Y hM hO hG hY)
  have HFM := Lib.hid (fun W : World => sc_formed [ac, ar, bc, br] (some ⟨W.heap.size, 0, none⟩) 4 4 (by omega) (by
    intro z hz
    simp at hz
    rcases hz with h | h | h | h <;> subst h <;> omega) (W.alloc (.cells #[.string ac, .string ar, .string bc, .string br] 22)) (sln_alloc W [ac, ar, bc, br] 22 (by simp)))
  by_cases hk : scK M O G Y = 0
  · rw [hk] at HCK
    cases hv : [ac, ar, bc, br].all nvalid with
    | false =>
      rw [hv] at HFM
      rw [exK_form hk hv]
      clear hk hv hM hO hG hY hac har hbc hbr
      unfold kV at *
      go_enter Tryz.func22, Tryz.ntmps22
      go_wp2_with fail
      try rw [hW0]
      clear hW0
      refine (HCK.out _).mono ?_
      rintro ev w1 ⟨rfl, hb⟩
      have hk := HX0.out.next hb
      have HX1 := Lib.hid hk
      clear hb c0 c1 c2 c3 s0 s1 t0 t1
      obtain ⟨c0, c1, c2, c3, s0, s1, t0, t1⟩ := hk.cells
      clear hk
      go_wp2_with fail
      refine (HFM.out _).mono ?_
      rintro ev w2 ⟨rfl, rfl⟩
      have hb : Below w1.heap.size w1 (w1.alloc (.cells #[.string ac, .string ar, .string bc, .string br] 22)) := (Below.refl _ _).alloc (Nat.le_refl _) _
      have hk := HX1.out.next hb
      have HX2 := Lib.hid hk
      clear hb c0 c1 c2 c3 s0 s1 t0 t1
      obtain ⟨c0, c1, c2, c3, s0, s1, t0, t1⟩ := hk.cells
      clear hk
      go_wp2
      go_ret2
      exact ⟨rfl, HX2.out.1.2⟩
    | true =>
      rw [hv] at HFM
      obtain ⟨va, vr, vb, vs⟩ := all_four hv
      obtain ⟨hvv, hchk, hz, _, _⟩ := scK_ok hk
      obtain ⟨v1, v2, v3, v4⟩ := all_four hvv
      have h8 := num_small (chk_small hvv hM hchk)
      have HL1 := Lib.hid (sc_below M O G Y ac ar v2 va vr)
      have HL2 := Lib.hid (sc_below M O G Y bc br v2 vb vs)
      by_cases hl1 : num ac < num O ∧ num ar < num O
      · rw [decide_eq_true hl1] at HL1
        by_cases hl2 : num bc < num O ∧ num br < num O
        · rw [decide_eq_true hl2] at HL2
          have HC1 := Lib.hid (sc_commitmentOf M O G Y ac ar hM hk va vr hl1.1)
          have HC2 := Lib.hid (sc_commitmentOf M O G Y bc br hM hk vb vs hl2.1)
          have hbe := nS_beq (num ac) (num bc)
          rw [← nS_num va, ← nS_num vb] at hbe
          by_cases hab : num ac = num bc
          · rw [exK_arg hk hv ⟨hl1, hl2⟩ (.inl hab)]
            rw [decide_eq_true hab] at hbe
            clear hk hv hM hO hG hY hac har hbc hbr hl1 hl2 hab va vr vb vs v1 v2 v3 v4 h8 hvv hchk hz HC1 HC2
            unfold kV at *
            go_enter Tryz.func22, Tryz.ntmps22
            go_wp2_with fail
            try rw [hW0]
            clear hW0
            refine (HCK.out _).mono ?_
            rintro ev w1 ⟨rfl, hb⟩
            have hk := HX0.out.next hb
            have HX1 := Lib.hid hk
            clear hb c0 c1 c2 c3 s0 s1 t0 t1
            obtain ⟨c0, c1, c2, c3, s0, s1, t0, t1⟩ := hk.cells
            clear hk
            go_wp2_with fail
            refine (HFM.out _).mono ?_
            rintro ev w2 ⟨rfl, rfl⟩
            have hb : Below w1.heap.size w1 (w1.alloc (.cells #[.string ac, .string ar, .string bc, .string br] 22)) := (Below.refl _ _).alloc (Nat.le_refl _) _
            have hk := HX1.out.next hb
            have HX2 := Lib.hid hk
            clear hb c0 c1 c2 c3 s0 s1 t0 t1
            obtain ⟨c0, c1, c2, c3, s0, s1, t0, t1⟩ := hk.cells
            clear hk
            obtain ⟨w2, hw2⟩ : ∃ W, w1.alloc (.cells #[.string ac, .string ar, .string bc, .string br] 22) = W := ⟨_, rfl⟩
            rw [hw2] at HX2 c0 c1 c2 c3 s0 s1 t0 t1 ⊢
            clear hw2
            go_wp2_with fail
            refine (HL1.out _).mono ?_
            rintro ev w3 ⟨rfl, hb⟩
            have hk := HX2.out.next hb
            have HX3 := Lib.hid hk
            clear hb c0 c1 c2 c3 s0 s1 t0 t1
            obtain ⟨c0, c1, c2, c3, s0, s1, t0, t1⟩ := hk.cells
            clear hk
            go_wp2_with fail
            refine (HL2.out _).mono ?_
            rintro ev w4 ⟨rfl, hb⟩
            have hk := HX3.out.next hb
            have HX4 := Lib.hid hk
            clear hb c0 c1 c2 c3 s0 s1 t0 t1
            obtain ⟨c0, c1, c2, c3, s0, s1, t0, t1⟩ := hk.cells
            clear hk
            go_wp2
            obtain ⟨wd, hwd⟩ : ∃ wd, w4.drew = wd := ⟨_, rfl⟩
            have HXd := Lib.hid (show SX w wd M O G Y ac ar bc br from by rw [← hwd]; exact HX4.out.next (Below.refl _ _).drew)
            clear c0 c1 c2 c3 s0 s1 t0 t1
            obtain ⟨c0, c1, c2, c3, s0, s1, t0, t1⟩ := HXd.out.cells
            refine wp_region_K 14 (Below (wd).heap.size (wd)) (by kernel_rfl) ?_
            intro hD
            rw [hwd]
            have KK1 := Lib.hid (fun w' (hS' : (Below (wd).heap.size (wd)) w') => And.intro (kC hS' c0) (And.intro (kC hS' c1) (And.intro (kC hS' c2) (And.intro (kC hS' c3) (And.intro (kC hS' s0) (And.intro (kC hS' s1) (And.intro (kC hS' t0) (kC hS' t1))))))))
            refine rP 0 44 13 rfl hD (Below.refl _ _) ?_; clear hD; intro hD; simp only [Act.put, sqA, sqB, sqC]
            refine rT 1 45 12 rfl hD (Below.refl _ _) (by intro w' hS'; obtain ⟨e0, e1, e2, e3, e4, e5, e6, e7⟩ := KK1.out w' hS'; go_simp; with_reducible rfl) ?_; clear hD; intro hD; simp only [Act.put, sqA, sqB, sqC]
            refine rP 2 46 11 rfl hD (Below.refl _ _) ?_; clear hD; intro hD; simp only [Act.put, sqA, sqB, sqC]
            refine rT 3 47 10 rfl hD (Below.refl _ _) (by intro w' hS'; obtain ⟨e0, e1, e2, e3, e4, e5, e6, e7⟩ := KK1.out w' hS'; go_simp; with_reducible rfl) ?_; clear hD; intro hD; simp only [Act.put, sqA, sqB, sqC]
            refine rP 4 48 9 rfl hD (Below.refl _ _) ?_; clear hD; intro hD; simp only [Act.put, sqA, sqB, sqC]
            refine rP 5 49 8 rfl hD (Below.refl _ _) ?_; clear hD; intro hD; simp only [Act.put, sqA, sqB, sqC]
            refine rU 6 50 7 rfl hD (Below.refl _ _) ?_; clear hD; intro hD; simp only [Act.put, sqA, sqB, sqC]
            refine rU 7 51 6 rfl hD (Below.refl _ _) ?_; clear hD; intro hD; simp only [Act.put, sqA, sqB, sqC]
            refine rU 8 52 5 rfl hD (Below.refl _ _) ?_; clear hD; intro hD; simp only [Act.put, sqA, sqB, sqC]
            refine rU 9 53 4 rfl hD (Below.refl _ _) ?_; clear hD; intro hD; simp only [Act.put, sqA, sqB, sqC]
            refine rU 10 54 3 rfl hD (Below.refl _ _) ?_; clear hD; intro hD; simp only [Act.put, sqA, sqB, sqC]
            refine rU 11 55 2 rfl hD (Below.refl _ _) ?_; clear hD; intro hD; simp only [Act.put, sqA, sqB, sqC]
            refine rU 12 56 1 rfl hD (Below.refl _ _) ?_; clear hD; intro hD; simp only [Act.put, sqA, sqB, sqC]
            refine rP 13 57 0 rfl hD (Below.refl _ _) ?_; clear hD; intro hD; simp only [Act.put, sqA, sqB, sqC]
            refine wpAnyK_done (by kernel_rfl) ?_ 0
            clear hD
            go_wp2
            go_ret2
            exact ⟨rfl, HXd.out.1.2⟩
          · rw [decide_eq_false hab] at hbe
            obtain ⟨n1, hn1⟩ : ∃ n, cmS (num M) (num O) (num G) (num Y) (num ac) (num ar) = n := ⟨_, rfl⟩
            obtain ⟨n2, hn2⟩ : ∃ n, cmS (num M) (num O) (num G) (num Y) (num bc) (num br) = n := ⟨_, rfl⟩
            rw [hn1] at HC1
            rw [hn2] at HC2
            have hbz := nS_beq n1 n2
            by_cases h12 : n1 = n2
            · have hd : ¬ (num ac = num bc ∨ ¬ cmS (num M) (num O) (num G) (num Y) (num ac) (num ar) = cmS (num M) (num O) (num G) (num Y) (num bc) (num br)) := by
                rw [hn1, hn2]; intro h; rcases h with h | h
                · exact hab h
                · exact h h12
              have lm := lt128_of_lt8 h8
              have HS1 := Lib.hid (mod_Sub (num ac) (num bc) (num O) (nvalid_lt va) (nvalid_lt vb) lm (by omega))
              have HS2 := Lib.hid (mod_Sub (num ar) (num br) (num O) (nvalid_lt vr) (nvalid_lt vs) lm (by omega))
              have lc : sbM (num ac) (num bc) (num O) < num O := Nat.mod_lt _ (by omega)
              have lr : sbM (num ar) (num br) (num O) < num O := Nat.mod_lt _ (by omega)
              have hm1 : 1 < num O := by omega
              by_cases hg : Nat.gcd (sbM (num ac) (num bc) (num O)) (num O) = 1
              · have HIN := Lib.hid (mod_InverseK _ _ lc h8 hm1 hg)
                have li : invN (sbM (num ac) (num bc) (num O)) (num O) < 18446744073709551616 := by
                  have := invN_lt (x := sbM (num ac) (num bc) (num O)) (M := num O) (by omega)
                  omega
                have HMU := Lib.hid (mod_Mul (sbM (num ar) (num br) (num O)) (invN (sbM (num ac) (num bc) (num O)) (num O)) (num O) (by omega) li h8 (by omega))
                obtain ⟨x, hx⟩ : ∃ x, sbM (num ar) (num br) (num O) * invN (sbM (num ac) (num bc) (num O)) (num O) % num O = x := ⟨_, rfl⟩
                have lx : x < num O := by rw [← hx]; exact Nat.mod_lt _ (by omega)
                have HIS := Lib.hid (sc_isSecret M O G Y (nS x) hM hk (nvalid_nS.2 (lt128_of_lt8 (by omega))))
                rw [num_nS] at HIS
                rw [exK_end hk hv ⟨hl1, hl2⟩ hd hg hx]
                rw [hx] at HMU
                obtain ⟨gb, hgb⟩ : ∃ b, decide (0 < x ∧ x < num O ∧ num G ^ x % num M = num Y) = b := ⟨_, rfl⟩
                rw [hgb] at HIS ⊢
                rw [← nS_num va, ← nS_num vb, ← nS_num v2] at HS1
                rw [← nS_num vr, ← nS_num vs, ← nS_num v2] at HS2
                rw [← nS_num v2] at HIN HMU
                obtain ⟨z1, hz1⟩ : ∃ z, nS (sbM (num ac) (num bc) (num O)) = z := ⟨_, rfl⟩
                obtain ⟨z2, hz2⟩ : ∃ z, nS (sbM (num ar) (num br) (num O)) = z := ⟨_, rfl⟩
                obtain ⟨z3, hz3⟩ : ∃ z, nS (invN (sbM (num ac) (num bc) (num O)) (num O)) = z := ⟨_, rfl⟩
                obtain ⟨z4, hz4⟩ : ∃ z, nS x = z := ⟨_, rfl⟩
                obtain ⟨y1, hy1⟩ : ∃ z, nS n1 = z := ⟨_, rfl⟩
                obtain ⟨y2, hy2⟩ : ∃ z, nS n2 = z := ⟨_, rfl⟩
                rw [decide_eq_true h12, hy1, hy2] at hbz
                rw [hy1] at HC1
                rw [hy2] at HC2
                rw [hz1] at HS1 HIN
                rw [hz2] at HS2 HMU
                rw [hz3] at HIN HMU
                rw [hz4] at HMU HIS ⊢
                obtain ⟨R, hR⟩ : ∃ R : ByteArray × Int, (if gb = true then (z4, 0) else (⟨#[]⟩, 17)) = R := ⟨_, rfl⟩
                rw [hR]
                have HR := Lib.hid hR
                clear hR
                clear hk hv hM hO hG hY hac har hbc hbr hl1 hl2 hab va vr vb vs v1 v2 v3 v4 h8 hvv hchk hz hn1 hn2 h12 hd lm lc lr hm1 hg li hx lx hgb hz1 hz2 hz3 hz4 hy1 hy2
                unfold kV at *
                go_enter Tryz.func22, Tryz.ntmps22
                go_wp2_with fail
                try rw [hW0]
                clear hW0
                refine (HCK.out _).mono ?_
                rintro ev w1 ⟨rfl, hb⟩
                have hk := HX0.out.next hb
                have HX1 := Lib.hid hk
                clear hb c0 c1 c2 c3 s0 s1 t0 t1
                obtain ⟨c0, c1, c2, c3, s0, s1, t0, t1⟩ := hk.cells
                clear hk
                go_wp2_with fail
                refine (HFM.out _).mono ?_
                rintro ev w2 ⟨rfl, rfl⟩
                have hb : Below w1.heap.size w1 (w1.alloc (.cells #[.string ac, .string ar, .string bc, .string br] 22)) := (Below.refl _ _).alloc (Nat.le_refl _) _
                have hk := HX1.out.next hb
                have HX2 := Lib.hid hk
                clear hb c0 c1 c2 c3 s0 s1 t0 t1
                obtain ⟨c0, c1, c2, c3, s0, s1, t0, t1⟩ := hk.cells
                clear hk
                obtain ⟨w2, hw2⟩ : ∃ W, w1.alloc (.cells #[.string ac, .string ar, .string bc, .string br] 22) = W := ⟨_, rfl⟩
                rw [hw2] at HX2 c0 c1 c2 c3 s0 s1 t0 t1 ⊢
                clear hw2
                go_wp2_with fail
                refine (HL1.out _).mono ?_
                rintro ev w3 ⟨rfl, hb⟩
                have hk := HX2.out.next hb
                have HX3 := Lib.hid hk
                clear hb c0 c1 c2 c3 s0 s1 t0 t1
                obtain ⟨c0, c1, c2, c3, s0, s1, t0, t1⟩ := hk.cells
                clear hk
                go_wp2_with fail
                refine (HL2.out _).mono ?_
                rintro ev w4 ⟨rfl, hb⟩
                have hk := HX3.out.next hb
                have HX4 := Lib.hid hk
                clear hb c0 c1 c2 c3 s0 s1 t0 t1
                obtain ⟨c0, c1, c2, c3, s0, s1, t0, t1⟩ := hk.cells
                clear hk
                go_wp2
                obtain ⟨wd, hwd⟩ : ∃ wd, w4.drew = wd := ⟨_, rfl⟩
                have HXd := Lib.hid (show SX w wd M O G Y ac ar bc br from by rw [← hwd]; exact HX4.out.next (Below.refl _ _).drew)
                clear c0 c1 c2 c3 s0 s1 t0 t1
                obtain ⟨c0, c1, c2, c3, s0, s1, t0, t1⟩ := HXd.out.cells
                refine wp_region_K 14 (Below (wd).heap.size (wd)) (by kernel_rfl) ?_
                intro hD
                rw [hwd]
                have KK2 := Lib.hid (fun w' (hS' : (Below (wd).heap.size (wd)) w') => And.intro (kC hS' c0) (And.intro (kC hS' c1) (And.intro (kC hS' c2) (And.intro (kC hS' c3) (And.intro (kC hS' s0) (And.intro (kC hS' s1) (And.intro (kC hS' t0) (kC hS' t1))))))))
                refine rP 0 44 13 rfl hD (Below.refl _ _) ?_; clear hD; intro hD; simp only [Act.put, sqA, sqB, sqC]
                refine rT 1 45 12 rfl hD (Below.refl _ _) (by intro w' hS'; obtain ⟨e0, e1, e2, e3, e4, e5, e6, e7⟩ := KK2.out w' hS'; go_simp; with_reducible rfl) ?_; clear hD; intro hD; simp only [Act.put, sqA, sqB, sqC]
                refine rP 2 46 11 rfl hD (Below.refl _ _) ?_; clear hD; intro hD; simp only [Act.put, sqA, sqB, sqC]
                refine rT 3 47 10 rfl hD (Below.refl _ _) (by intro w' hS'; obtain ⟨e0, e1, e2, e3, e4, e5, e6, e7⟩ := KK2.out w' hS'; go_simp; with_reducible rfl) ?_; clear hD; intro hD; simp only [Act.put, sqA, sqB, sqC]
                refine rP 4 48 9 rfl hD (Below.refl _ _) ?_; clear hD; intro hD; simp only [Act.put, sqA, sqB, sqC]
                refine rP 5 49 8 rfl hD (Below.refl _ _) ?_; clear hD; intro hD; simp only [Act.put, sqA, sqB, sqC]
                refine rT 6 50 7 rfl hD (Below.refl _ _) (by intro w' hS'; obtain ⟨e0, e1, e2, e3, e4, e5, e6, e7⟩ := KK2.out w' hS'; go_simp; with_reducible rfl) ?_; clear hD; intro hD; simp only [Act.put, sqA, sqB, sqC]
                refine rT 7 51 6 rfl hD (Below.refl _ _) (by intro w' hS'; obtain ⟨e0, e1, e2, e3, e4, e5, e6, e7⟩ := KK2.out w' hS'; go_simp; with_reducible rfl) ?_; clear hD; intro hD; simp only [Act.put, sqA, sqB, sqC]
                refine rT 9 53 5 rfl hD (Below.refl _ _) (by intro w' hS'; obtain ⟨e0, e1, e2, e3, e4, e5, e6, e7⟩ := KK2.out w' hS'; go_simp; with_reducible rfl) ?_; clear hD; intro hD; simp only [Act.put, sqA, sqB, sqC]
                refine rT 10 54 4 rfl hD (Below.refl _ _) (by intro w' hS'; obtain ⟨e0, e1, e2, e3, e4, e5, e6, e7⟩ := KK2.out w' hS'; go_simp; with_reducible rfl) ?_; clear hD; intro hD; simp only [Act.put, sqA, sqB, sqC]
                refine rO 8 3 rfl hD ?_; clear hD; intro K8 hK8
                go_wp2_with fail
                refine (HC1.out _).mono ?_
                rintro ev w5 ⟨rfl, hb2⟩
                have HB8 := Lib.hid hb2
                clear hb2
                go_wp2
                refine hK8 _ _ (by exact HB8.out) ?_; clear hK8; intro hS_8_8 hD
                refine rO 11 2 rfl hD ?_; clear hD; intro K11 hK11
                go_wp2_with fail
                refine (HC2.out _).mono ?_
                rintro ev w6 ⟨rfl, hb3⟩
                have HB11 := Lib.hid hb3
                clear hb3
                go_wp2
                refine hK11 _ _ (by exact Below.trans hS_8_8 (Below.mono HB11.out (Below.size hS_8_8))) ?_; clear hK11; intro hS_8_11 hD
                have HL := Lib.hid hS_8_11
                refine rP 12 56 1 rfl hD hS_8_11 ?_; clear hD; intro hD; simp only [Act.put, sqA, sqB, sqC]
                refine rP 13 57 0 rfl hD hS_8_11 ?_; clear hD; intro hD; simp only [Act.put, sqA, sqB, sqC]
                refine wpAnyK_done (by kernel_rfl) ?_ 0
                clear hD
                have HX5 := Lib.hid (HXd.out.next HL.out)
                clear c0 c1 c2 c3 s0 s1 t0 t1
                obtain ⟨c0, c1, c2, c3, s0, s1, t0, t1⟩ := HX5.out.cells
                go_wp2_with fail
                refine (HS1.out _).mono ?_
                rintro ev w7 ⟨rfl, hb⟩
                have hk := HX5.out.next hb
                have HX7 := Lib.hid hk
                clear hb c0 c1 c2 c3 s0 s1 t0 t1
                obtain ⟨c0, c1, c2, c3, s0, s1, t0, t1⟩ := hk.cells
                clear hk
                go_wp2_with fail
                refine (HS2.out _).mono ?_
                rintro ev w8 ⟨rfl, hb⟩
                have hk := HX7.out.next hb
                have HX8 := Lib.hid hk
                clear hb c0 c1 c2 c3 s0 s1 t0 t1
                obtain ⟨c0, c1, c2, c3, s0, s1, t0, t1⟩ := hk.cells
                clear hk
                go_wp2_with fail
                refine (HIN.out _).mono ?_
                rintro ev w9 ⟨rfl, hb⟩
                have hk := HX8.out.next hb
                have HX9 := Lib.hid hk
                clear hb c0 c1 c2 c3 s0 s1 t0 t1
                obtain ⟨c0, c1, c2, c3, s0, s1, t0, t1⟩ := hk.cells
                clear hk
                go_wp2_with fail
                refine (HMU.out _).mono ?_
                rintro ev w10 ⟨rfl, hb⟩
                have hk := HX9.out.next hb
                have HX10 := Lib.hid hk
                clear hb c0 c1 c2 c3 s0 s1 t0 t1
                obtain ⟨c0, c1, c2, c3, s0, s1, t0, t1⟩ := hk.cells
                clear hk
                go_wp2_with fail
                refine (HIS.out _).mono ?_
                rintro ev w11 ⟨rfl, hb⟩
                have hk := HX10.out.next hb
                have HX11 := Lib.hid hk
                clear hb c0 c1 c2 c3 s0 s1 t0 t1
                obtain ⟨c0, c1, c2, c3, s0, s1, t0, t1⟩ := hk.cells
                clear hk
                have HG2 : gb = true ∨ gb = false := by cases gb <;> simp
                rcases HG2 with hgb | hgb
                · subst hgb
                  go_wp2
                  go_ret2
                  exact ⟨by rw [← HR.out]; rfl, HX11.out.1.2⟩
                · subst hgb
                  go_wp2
                  go_ret2
                  exact ⟨by rw [← HR.out]; rfl, HX11.out.1.2⟩
              · have HIN := Lib.hid (mod_Inverse_none _ _ lc h8 hm1 hg)
                rw [exK_none hk hv ⟨hl1, hl2⟩ hd hg]
                rw [← nS_num va, ← nS_num vb, ← nS_num v2] at HS1
                rw [← nS_num vr, ← nS_num vs, ← nS_num v2] at HS2
                rw [← nS_num v2] at HIN
                obtain ⟨z1, hz1⟩ : ∃ z, nS (sbM (num ac) (num bc) (num O)) = z := ⟨_, rfl⟩
                obtain ⟨z2, hz2⟩ : ∃ z, nS (sbM (num ar) (num br) (num O)) = z := ⟨_, rfl⟩
                obtain ⟨y1, hy1⟩ : ∃ z, nS n1 = z := ⟨_, rfl⟩
                obtain ⟨y2, hy2⟩ : ∃ z, nS n2 = z := ⟨_, rfl⟩
                rw [decide_eq_true h12, hy1, hy2] at hbz
                rw [hy1] at HC1
                rw [hy2] at HC2
                rw [hz1] at HS1 HIN
                rw [hz2] at HS2
                clear hk hv hM hO hG hY hac har hbc hbr hl1 hl2 hab va vr vb vs v1 v2 v3 v4 h8 hvv hchk hz hn1 hn2 h12 hd lm lc lr hm1 hg hz1 hz2 hy1 hy2
                unfold kV at *
                go_enter Tryz.func22, Tryz.ntmps22
                go_wp2_with fail
                try rw [hW0]
                clear hW0
                refine (HCK.out _).mono ?_
                rintro ev w1 ⟨rfl, hb⟩
                have hk := HX0.out.next hb
                have HX1 := Lib.hid hk
                clear hb c0 c1 c2 c3 s0 s1 t0 t1
                obtain ⟨c0, c1, c2, c3, s0, s1, t0, t1⟩ := hk.cells
                clear hk
                go_wp2_with fail
                refine (HFM.out _).mono ?_
                rintro ev w2 ⟨rfl, rfl⟩
                have hb : Below w1.heap.size w1 (w1.alloc (.cells #[.string ac, .string ar, .string bc, .string br] 22)) := (Below.refl _ _).alloc (Nat.le_refl _) _
                have hk := HX1.out.next hb
                have HX2 := Lib.hid hk
                clear hb c0 c1 c2 c3 s0 s1 t0 t1
                obtain ⟨c0, c1, c2, c3, s0, s1, t0, t1⟩ := hk.cells
                clear hk
                obtain ⟨w2, hw2⟩ : ∃ W, w1.alloc (.cells #[.string ac, .string ar, .string bc, .string br] 22) = W := ⟨_, rfl⟩
                rw [hw2] at HX2 c0 c1 c2 c3 s0 s1 t0 t1 ⊢
                clear hw2
                go_wp2_with fail
                refine (HL1.out _).mono ?_
                rintro ev w3 ⟨rfl, hb⟩
                have hk := HX2.out.next hb
                have HX3 := Lib.hid hk
                clear hb c0 c1 c2 c3 s0 s1 t0 t1
                obtain ⟨c0, c1, c2, c3, s0, s1, t0, t1⟩ := hk.cells
                clear hk
                go_wp2_with fail
                refine (HL2.out _).mono ?_
                rintro ev w4 ⟨rfl, hb⟩
                have hk := HX3.out.next hb
                have HX4 := Lib.hid hk
                clear hb c0 c1 c2 c3 s0 s1 t0 t1
                obtain ⟨c0, c1, c2, c3, s0, s1, t0, t1⟩ := hk.cells
                clear hk
                go_wp2
                obtain ⟨wd, hwd⟩ : ∃ wd, w4.drew = wd := ⟨_, rfl⟩
                have HXd := Lib.hid (show SX w wd M O G Y ac ar bc br from by rw [← hwd]; exact HX4.out.next (Below.refl _ _).drew)
                clear c0 c1 c2 c3 s0 s1 t0 t1
                obtain ⟨c0, c1, c2, c3, s0, s1, t0, t1⟩ := HXd.out.cells
                refine wp_region_K 14 (Below (wd).heap.size (wd)) (by kernel_rfl) ?_
                intro hD
                rw [hwd]
                have KK3 := Lib.hid (fun w' (hS' : (Below (wd).heap.size (wd)) w') => And.intro (kC hS' c0) (And.intro (kC hS' c1) (And.intro (kC hS' c2) (And.intro (kC hS' c3) (And.intro (kC hS' s0) (And.intro (kC hS' s1) (And.intro (kC hS' t0) (kC hS' t1))))))))
                refine rP 0 44 13 rfl hD (Below.refl _ _) ?_; clear hD; intro hD; simp only [Act.put, sqA, sqB, sqC]
                refine rT 1 45 12 rfl hD (Below.refl _ _) (by intro w' hS'; obtain ⟨e0, e1, e2, e3, e4, e5, e6, e7⟩ := KK3.out w' hS'; go_simp; with_reducible rfl) ?_; clear hD; intro hD; simp only [Act.put, sqA, sqB, sqC]
                refine rP 2 46 11 rfl hD (Below.refl _ _) ?_; clear hD; intro hD; simp only [Act.put, sqA, sqB, sqC]
                refine rT 3 47 10 rfl hD (Below.refl _ _) (by intro w' hS'; obtain ⟨e0, e1, e2, e3, e4, e5, e6, e7⟩ := KK3.out w' hS'; go_simp; with_reducible rfl) ?_; clear hD; intro hD; simp only [Act.put, sqA, sqB, sqC]
                refine rP 4 48 9 rfl hD (Below.refl _ _) ?_; clear hD; intro hD; simp only [Act.put, sqA, sqB, sqC]
                refine rP 5 49 8 rfl hD (Below.refl _ _) ?_; clear hD; intro hD; simp only [Act.put, sqA, sqB, sqC]
                refine rT 6 50 7 rfl hD (Below.refl _ _) (by intro w' hS'; obtain ⟨e0, e1, e2, e3, e4, e5, e6, e7⟩ := KK3.out w' hS'; go_simp; with_reducible rfl) ?_; clear hD; intro hD; simp only [Act.put, sqA, sqB, sqC]
                refine rT 7 51 6 rfl hD (Below.refl _ _) (by intro w' hS'; obtain ⟨e0, e1, e2, e3, e4, e5, e6, e7⟩ := KK3.out w' hS'; go_simp; with_reducible rfl) ?_; clear hD; intro hD; simp only [Act.put, sqA, sqB, sqC]
                refine rT 9 53 5 rfl hD (Below.refl _ _) (by intro w' hS'; obtain ⟨e0, e1, e2, e3, e4, e5, e6, e7⟩ := KK3.out w' hS'; go_simp; with_reducible rfl) ?_; clear hD; intro hD; simp only [Act.put, sqA, sqB, sqC]
                refine rT 10 54 4 rfl hD (Below.refl _ _) (by intro w' hS'; obtain ⟨e0, e1, e2, e3, e4, e5, e6, e7⟩ := KK3.out w' hS'; go_simp; with_reducible rfl) ?_; clear hD; intro hD; simp only [Act.put, sqA, sqB, sqC]
                refine rO 8 3 rfl hD ?_; clear hD; intro K8 hK8
                go_wp2_with fail
                refine (HC1.out _).mono ?_
                rintro ev w5 ⟨rfl, hb2⟩
                have HB8 := Lib.hid hb2
                clear hb2
                go_wp2
                refine hK8 _ _ (by exact HB8.out) ?_; clear hK8; intro hS_8_8 hD
                refine rO 11 2 rfl hD ?_; clear hD; intro K11 hK11
                go_wp2_with fail
                refine (HC2.out _).mono ?_
                rintro ev w6 ⟨rfl, hb3⟩
                have HB11 := Lib.hid hb3
                clear hb3
                go_wp2
                refine hK11 _ _ (by exact Below.trans hS_8_8 (Below.mono HB11.out (Below.size hS_8_8))) ?_; clear hK11; intro hS_8_11 hD
                have HL := Lib.hid hS_8_11
                refine rP 12 56 1 rfl hD hS_8_11 ?_; clear hD; intro hD; simp only [Act.put, sqA, sqB, sqC]
                refine rP 13 57 0 rfl hD hS_8_11 ?_; clear hD; intro hD; simp only [Act.put, sqA, sqB, sqC]
                refine wpAnyK_done (by kernel_rfl) ?_ 0
                clear hD
                have HX5 := Lib.hid (HXd.out.next HL.out)
                clear c0 c1 c2 c3 s0 s1 t0 t1
                obtain ⟨c0, c1, c2, c3, s0, s1, t0, t1⟩ := HX5.out.cells
                go_wp2_with fail
                refine (HS1.out _).mono ?_
                rintro ev w7 ⟨rfl, hb⟩
                have hk := HX5.out.next hb
                have HX7 := Lib.hid hk
                clear hb c0 c1 c2 c3 s0 s1 t0 t1
                obtain ⟨c0, c1, c2, c3, s0, s1, t0, t1⟩ := hk.cells
                clear hk
                go_wp2_with fail
                refine (HS2.out _).mono ?_
                rintro ev w8 ⟨rfl, hb⟩
                have hk := HX7.out.next hb
                have HX8 := Lib.hid hk
                clear hb c0 c1 c2 c3 s0 s1 t0 t1
                obtain ⟨c0, c1, c2, c3, s0, s1, t0, t1⟩ := hk.cells
                clear hk
                go_wp2_with fail
                refine (HIN.out _).mono ?_
                rintro ev w9 ⟨rfl, hb⟩
                have hk := HX8.out.next hb
                have HX9 := Lib.hid hk
                clear hb c0 c1 c2 c3 s0 s1 t0 t1
                obtain ⟨c0, c1, c2, c3, s0, s1, t0, t1⟩ := hk.cells
                clear hk
                go_wp2
                go_ret2
                exact ⟨rfl, HX9.out.1.2⟩
            · rw [exK_arg hk hv ⟨hl1, hl2⟩ (.inr (by rw [hn1, hn2]; exact h12))]
              obtain ⟨y1, hy1⟩ : ∃ z, nS n1 = z := ⟨_, rfl⟩
              obtain ⟨y2, hy2⟩ : ∃ z, nS n2 = z := ⟨_, rfl⟩
              rw [decide_eq_false h12, hy1, hy2] at hbz
              rw [hy1] at HC1
              rw [hy2] at HC2
              clear hk hv hM hO hG hY hac har hbc hbr hl1 hl2 hab va vr vb vs v1 v2 v3 v4 h8 hvv hchk hz hn1 hn2 h12 hy1 hy2
              unfold kV at *
              go_enter Tryz.func22, Tryz.ntmps22
              go_wp2_with fail
              try rw [hW0]
              clear hW0
              refine (HCK.out _).mono ?_
              rintro ev w1 ⟨rfl, hb⟩
              have hk := HX0.out.next hb
              have HX1 := Lib.hid hk
              clear hb c0 c1 c2 c3 s0 s1 t0 t1
              obtain ⟨c0, c1, c2, c3, s0, s1, t0, t1⟩ := hk.cells
              clear hk
              go_wp2_with fail
              refine (HFM.out _).mono ?_
              rintro ev w2 ⟨rfl, rfl⟩
              have hb : Below w1.heap.size w1 (w1.alloc (.cells #[.string ac, .string ar, .string bc, .string br] 22)) := (Below.refl _ _).alloc (Nat.le_refl _) _
              have hk := HX1.out.next hb
              have HX2 := Lib.hid hk
              clear hb c0 c1 c2 c3 s0 s1 t0 t1
              obtain ⟨c0, c1, c2, c3, s0, s1, t0, t1⟩ := hk.cells
              clear hk
              obtain ⟨w2, hw2⟩ : ∃ W, w1.alloc (.cells #[.string ac, .string ar, .string bc, .string br] 22) = W := ⟨_, rfl⟩
              rw [hw2] at HX2 c0 c1 c2 c3 s0 s1 t0 t1 ⊢
              clear hw2
              go_wp2_with fail
              refine (HL1.out _).mono ?_
              rintro ev w3 ⟨rfl, hb⟩
              have hk := HX2.out.next hb
              have HX3 := Lib.hid hk
              clear hb c0 c1 c2 c3 s0 s1 t0 t1
              obtain ⟨c0, c1, c2, c3, s0, s1, t0, t1⟩ := hk.cells
              clear hk
              go_wp2_with fail
              refine (HL2.out _).mono ?_
              rintro ev w4 ⟨rfl, hb⟩
              have hk := HX3.out.next hb
              have HX4 := Lib.hid hk
              clear hb c0 c1 c2 c3 s0 s1 t0 t1
              obtain ⟨c0, c1, c2, c3, s0, s1, t0, t1⟩ := hk.cells
              clear hk
              go_wp2
              obtain ⟨wd, hwd⟩ : ∃ wd, w4.drew = wd := ⟨_, rfl⟩
              have HXd := Lib.hid (show SX w wd M O G Y ac ar bc br from by rw [← hwd]; exact HX4.out.next (Below.refl _ _).drew)
              clear c0 c1 c2 c3 s0 s1 t0 t1
              obtain ⟨c0, c1, c2, c3, s0, s1, t0, t1⟩ := HXd.out.cells
              refine wp_region_K 14 (Below (wd).heap.size (wd)) (by kernel_rfl) ?_
              intro hD
              rw [hwd]
              have KK4 := Lib.hid (fun w' (hS' : (Below (wd).heap.size (wd)) w') => And.intro (kC hS' c0) (And.intro (kC hS' c1) (And.intro (kC hS' c2) (And.intro (kC hS' c3) (And.intro (kC hS' s0) (And.intro (kC hS' s1) (And.intro (kC hS' t0) (kC hS' t1))))))))
              refine rP 0 44 13 rfl hD (Below.refl _ _) ?_; clear hD; intro hD; simp only [Act.put, sqA, sqB, sqC]
              refine rT 1 45 12 rfl hD (Below.refl _ _) (by intro w' hS'; obtain ⟨e0, e1, e2, e3, e4, e5, e6, e7⟩ := KK4.out w' hS'; go_simp; with_reducible rfl) ?_; clear hD; intro hD; simp only [Act.put, sqA, sqB, sqC]
              refine rP 2 46 11 rfl hD (Below.refl _ _) ?_; clear hD; intro hD; simp only [Act.put, sqA, sqB, sqC]
              refine rT 3 47 10 rfl hD (Below.refl _ _) (by intro w' hS'; obtain ⟨e0, e1, e2, e3, e4, e5, e6, e7⟩ := KK4.out w' hS'; go_simp; with_reducible rfl) ?_; clear hD; intro hD; simp only [Act.put, sqA, sqB, sqC]
              refine rP 4 48 9 rfl hD (Below.refl _ _) ?_; clear hD; intro hD; simp only [Act.put, sqA, sqB, sqC]
              refine rP 5 49 8 rfl hD (Below.refl _ _) ?_; clear hD; intro hD; simp only [Act.put, sqA, sqB, sqC]
              refine rT 6 50 7 rfl hD (Below.refl _ _) (by intro w' hS'; obtain ⟨e0, e1, e2, e3, e4, e5, e6, e7⟩ := KK4.out w' hS'; go_simp; with_reducible rfl) ?_; clear hD; intro hD; simp only [Act.put, sqA, sqB, sqC]
              refine rT 7 51 6 rfl hD (Below.refl _ _) (by intro w' hS'; obtain ⟨e0, e1, e2, e3, e4, e5, e6, e7⟩ := KK4.out w' hS'; go_simp; with_reducible rfl) ?_; clear hD; intro hD; simp only [Act.put, sqA, sqB, sqC]
              refine rT 9 53 5 rfl hD (Below.refl _ _) (by intro w' hS'; obtain ⟨e0, e1, e2, e3, e4, e5, e6, e7⟩ := KK4.out w' hS'; go_simp; with_reducible rfl) ?_; clear hD; intro hD; simp only [Act.put, sqA, sqB, sqC]
              refine rT 10 54 4 rfl hD (Below.refl _ _) (by intro w' hS'; obtain ⟨e0, e1, e2, e3, e4, e5, e6, e7⟩ := KK4.out w' hS'; go_simp; with_reducible rfl) ?_; clear hD; intro hD; simp only [Act.put, sqA, sqB, sqC]
              refine rO 8 3 rfl hD ?_; clear hD; intro K8 hK8
              go_wp2_with fail
              refine (HC1.out _).mono ?_
              rintro ev w5 ⟨rfl, hb2⟩
              have HB8 := Lib.hid hb2
              clear hb2
              go_wp2
              refine hK8 _ _ (by exact HB8.out) ?_; clear hK8; intro hS_8_8 hD
              refine rO 11 2 rfl hD ?_; clear hD; intro K11 hK11
              go_wp2_with fail
              refine (HC2.out _).mono ?_
              rintro ev w6 ⟨rfl, hb3⟩
              have HB11 := Lib.hid hb3
              clear hb3
              go_wp2
              refine hK11 _ _ (by exact Below.trans hS_8_8 (Below.mono HB11.out (Below.size hS_8_8))) ?_; clear hK11; intro hS_8_11 hD
              have HL := Lib.hid hS_8_11
              refine rP 12 56 1 rfl hD hS_8_11 ?_; clear hD; intro hD; simp only [Act.put, sqA, sqB, sqC]
              refine rP 13 57 0 rfl hD hS_8_11 ?_; clear hD; intro hD; simp only [Act.put, sqA, sqB, sqC]
              refine wpAnyK_done (by kernel_rfl) ?_ 0
              clear hD
              have HX5 := Lib.hid (HXd.out.next HL.out)
              clear c0 c1 c2 c3 s0 s1 t0 t1
              obtain ⟨c0, c1, c2, c3, s0, s1, t0, t1⟩ := HX5.out.cells
              go_wp2
              go_ret2
              exact ⟨rfl, HX5.out.1.2⟩
        · rw [exK_range hk hv (fun h => hl2 h.2)]
          rw [decide_eq_false hl2] at HL2
          clear hk hv hM hO hG hY hac har hbc hbr hl1 hl2 va vr vb vs v1 v2 v3 v4 h8 hvv hchk hz
          unfold kV at *
          go_enter Tryz.func22, Tryz.ntmps22
          go_wp2_with fail
          try rw [hW0]
          clear hW0
          refine (HCK.out _).mono ?_
          rintro ev w1 ⟨rfl, hb⟩
          have hk := HX0.out.next hb
          have HX1 := Lib.hid hk
          clear hb c0 c1 c2 c3 s0 s1 t0 t1
          obtain ⟨c0, c1, c2, c3, s0, s1, t0, t1⟩ := hk.cells
          clear hk
          go_wp2_with fail
          refine (HFM.out _).mono ?_
          rintro ev w2 ⟨rfl, rfl⟩
          have hb : Below w1.heap.size w1 (w1.alloc (.cells #[.string ac, .string ar, .string bc, .string br] 22)) := (Below.refl _ _).alloc (Nat.le_refl _) _
          have hk := HX1.out.next hb
          have HX2 := Lib.hid hk
          clear hb c0 c1 c2 c3 s0 s1 t0 t1
          obtain ⟨c0, c1, c2, c3, s0, s1, t0, t1⟩ := hk.cells
          clear hk
          obtain ⟨w2, hw2⟩ : ∃ W, w1.alloc (.cells #[.string ac, .string ar, .string bc, .string br] 22) = W := ⟨_, rfl⟩
          rw [hw2] at HX2 c0 c1 c2 c3 s0 s1 t0 t1 ⊢
          clear hw2
          go_wp2_with fail
          refine (HL1.out _).mono ?_
          rintro ev w3 ⟨rfl, hb⟩
          have hk := HX2.out.next hb
          have HX3 := Lib.hid hk
          clear hb c0 c1 c2 c3 s0 s1 t0 t1
          obtain ⟨c0, c1, c2, c3, s0, s1, t0, t1⟩ := hk.cells
          clear hk
          go_wp2_with fail
          refine (HL2.out _).mono ?_
          rintro ev w4 ⟨rfl, hb⟩
          have hk := HX3.out.next hb
          have HX4 := Lib.hid hk
          clear hb c0 c1 c2 c3 s0 s1 t0 t1
          obtain ⟨c0, c1, c2, c3, s0, s1, t0, t1⟩ := hk.cells
          clear hk
          go_wp2
          go_ret2
          exact ⟨rfl, HX4.out.1.2⟩
      · rw [exK_range hk hv (fun h => hl1 h.1)]
        rw [decide_eq_false hl1] at HL1
        clear hk hv hM hO hG hY hac har hbc hbr hl1 va vr vb vs v1 v2 v3 v4 h8 hvv hchk hz
        unfold kV at *
        go_enter Tryz.func22, Tryz.ntmps22
        go_wp2_with fail
        try rw [hW0]
        clear hW0
        refine (HCK.out _).mono ?_
        rintro ev w1 ⟨rfl, hb⟩
        have hk := HX0.out.next hb
        have HX1 := Lib.hid hk
        clear hb c0 c1 c2 c3 s0 s1 t0 t1
        obtain ⟨c0, c1, c2, c3, s0, s1, t0, t1⟩ := hk.cells
        clear hk
        go_wp2_with fail
        refine (HFM.out _).mono ?_
        rintro ev w2 ⟨rfl, rfl⟩
        have hb : Below w1.heap.size w1 (w1.alloc (.cells #[.string ac, .string ar, .string bc, .string br] 22)) := (Below.refl _ _).alloc (Nat.le_refl _) _
        have hk := HX1.out.next hb
        have HX2 := Lib.hid hk
        clear hb c0 c1 c2 c3 s0 s1 t0 t1
        obtain ⟨c0, c1, c2, c3, s0, s1, t0, t1⟩ := hk.cells
        clear hk
        obtain ⟨w2, hw2⟩ : ∃ W, w1.alloc (.cells #[.string ac, .string ar, .string bc, .string br] 22) = W := ⟨_, rfl⟩
        rw [hw2] at HX2 c0 c1 c2 c3 s0 s1 t0 t1 ⊢
        clear hw2
        go_wp2_with fail
        refine (HL1.out _).mono ?_
        rintro ev w3 ⟨rfl, hb⟩
        have hk := HX2.out.next hb
        have HX3 := Lib.hid hk
        clear hb c0 c1 c2 c3 s0 s1 t0 t1
        obtain ⟨c0, c1, c2, c3, s0, s1, t0, t1⟩ := hk.cells
        clear hk
        go_wp2
        go_ret2
        exact ⟨rfl, HX3.out.1.2⟩
  · rw [exK_no hk]
    obtain ⟨k, hkk⟩ : ∃ k, scK M O G Y = k := ⟨_, rfl⟩
    rw [hkk] at hk HCK ⊢
    have hk2 : (k == 0) = false := by simpa using hk
    clear hkk hM hO hG hY hac har hbc hbr
    unfold kV at *
    go_enter Tryz.func22, Tryz.ntmps22
    go_wp2_with fail
    try rw [hW0]
    clear hW0
    refine (HCK.out _).mono ?_
    rintro ev w1 ⟨rfl, hb⟩
    have hk := HX0.out.next hb
    have HX1 := Lib.hid hk
    clear hb c0 c1 c2 c3 s0 s1 t0 t1
    obtain ⟨c0, c1, c2, c3, s0, s1, t0, t1⟩ := hk.cells
    clear hk
    go_wp2
    go_ret2
    exact ⟨rfl, HX1.out.1.2⟩
end Go.Proofs.YtndmjfkmnjejkaaGreatDoor

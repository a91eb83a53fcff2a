/- Walk: schnorr.Extract. -/
import Derived.Test.YtndmjfkmnjejkaaGreatDoorQHaA
import Derived.Test.YtndmjfkmnjejkaaGreatDoorQPeV
import Derived.Test.YtndmjfkmnjejkaaGreatDoorQCoE
import Derived.Deep.Cut
import Derived.Test.YtndmjfkmnjejkaaGreatDoorQGst
import Derived.Test.YtndmjfkmnjejkaaGreatDoorQInt
import Derived.Test.YtndmjfkmnjejkaaGreatDoorQRowN
set_option linter.unusedVariables false
set_option linter.unusedSimpArgs false
namespace Go.Proofs.YtndmjfkmnjejkaaGreatDoor
open Go.RowKit Go.Lib
def SX (w W : World) (M O G Y ac ar bc br : ByteArray) : Prop := SB w W M O G Y ∧ Bx2 W (w.heap.size + 1) (.string ac) (.string ar) 52 ∧ Bx2 W (w.heap.size + 1 + 1) (.string bc) (.string br) 52
theorem SX.new (w : World) (M O G Y ac ar bc br : ByteArray) : SX w (((w.alloc (.cells #[.string M, .string O, .string G, .string Y] 46)).alloc (.cells #[.string ac, .string ar] 52)).alloc (.cells #[.string bc, .string br] 52)) M O G Y ac ar bc br := by
  have h := (SG.new w M O G Y ac ar).next ((Below.refl _ _).alloc (Nat.le_refl _) (.cells #[.string bc, .string br] 52))
  refine ⟨h.1, h.2, ?_⟩
  have := Bx2.new ((w.alloc (.cells #[.string M, .string O, .string G, .string Y] 46)).alloc (.cells #[.string ac, .string ar] 52)) (.string bc) (.string br) 52
  rwa [World.size_alloc, World.size_alloc] at this
theorem SX.next {w W W' : World} {M O G Y ac ar bc br : ByteArray} (h : SX w W M O G Y ac ar bc br) (hb : Below W.heap.size W W') : SX w W' M O G Y ac ar bc br := ⟨h.1.next hb, h.2.1.next hb, h.2.2.next hb⟩
theorem SX.cells {w W : World} {M O G Y ac ar bc br : ByteArray} (h : SX w W M O G Y ac ar bc br) :
    W.cell? ⟨w.heap.size, 0, none⟩ = some (.string M) ∧ W.cell? ⟨w.heap.size, 1, none⟩ = some (.string O) ∧ W.cell? ⟨w.heap.size, 2, none⟩ = some (.string G) ∧ W.cell? ⟨w.heap.size, 3, none⟩ = some (.string Y) ∧ W.cell? ⟨w.heap.size + 1, 0, none⟩ = some (.string ac) ∧ W.cell? ⟨w.heap.size + 1, 1, none⟩ = some (.string ar) ∧ W.cell? ⟨w.heap.size + 1 + 1, 0, none⟩ = some (.string bc) ∧ W.cell? ⟨w.heap.size + 1 + 1, 1, none⟩ = some (.string br) := by
  obtain ⟨a, b, c, d⟩ := h.1.1.cells
  exact ⟨a, b, c, d, h.2.1.c0, h.2.1.c1, h.2.2.c0, h.2.2.c1⟩
theorem mod_InverseK (a m : Nat) (ham : a < m) (hm8 : m < 18446744073709551616) (h1 : 1 < m) (hg : Nat.gcd a m = 1) (w : World) : Calls Tryz.prog 68 #[.string (nS a), .string (nS m)] w (Ret (.tuple #[.string (nS (invN a m)), .int .i64 0]) w) := by
  refine (mod_Inverse a m ham hm8 h1 hg w).mono ?_
  rintro e w' ⟨y, rfl, hb, hy, hxy⟩
  rw [invN_of hy hxy]
  exact ⟨rfl, hb⟩
end Go.Proofs.YtndmjfkmnjejkaaGreatDoor
/- Walks: schnorr.Extract and schnorr.Make where all goes well, over contracts of what they call. -/
set_option linter.unusedVariables false
set_option linter.unusedSimpArgs false
namespace Go.Proofs.YtndmjfkmnjejkaaGreatDoor
open Go.RowKit Go.Lib
set_option maxRecDepth 100000 in
set_option maxHeartbeats 8000000 in
theorem sc_Extract_arg (M O G Y ac ar bc br y1 y2 : ByteArray) (hck : ∀ w, Calls Tryz.prog 20 #[kV M O G Y] w (Ret (.int .i64 0) w))
    (hfm : ∀ W : World, Calls Tryz.prog 59 #[.slice (some ⟨W.heap.size, 0, none⟩) 4 4] (W.alloc (.cells #[.string ac, .string ar, .string bc, .string br] 22)) (RetQ (.bool true) (W.alloc (.cells #[.string ac, .string ar, .string bc, .string br] 22))))
    (hl1 : ∀ w, Calls Tryz.prog 65 #[kV M O G Y, .agg #[.string ac, .string ar]] w (Ret (.bool true) w)) (hl2 : ∀ w, Calls Tryz.prog 65 #[kV M O G Y, .agg #[.string bc, .string br]] w (Ret (.bool true) w))
    (hc1 : ∀ w, Calls Tryz.prog 66 #[kV M O G Y, .agg #[.string ac, .string ar]] w (Ret (.agg #[.string y1]) w)) (hc2 : ∀ w, Calls Tryz.prog 66 #[kV M O G Y, .agg #[.string bc, .string br]] w (Ret (.agg #[.string y2]) w))
    (hbe : (ac.toList == bc.toList) = false) (hbz : (y1.toList == y2.toList) = false) (w : World) : Calls Tryz.prog 22 #[kV M O G Y, .agg #[.string ac, .string ar], .agg #[.string bc, .string br]] w (Ret (.tuple #[.string ⟨#[]⟩, .int .i64 1]) w) := by
  have hx0 := SX.new w M O G Y ac ar bc br
  obtain ⟨W0, hW0⟩ : ∃ W, (((w.alloc (.cells #[.string M, .string O, .string G, .string Y] 46)).alloc (.cells #[.string ac, .string ar] 52)).alloc (.cells #[.string bc, .string br] 52)) = W := ⟨_, rfl⟩
  rw [hW0] at hx0
  have HX0 := Lib.hid hx0
  obtain ⟨c0, c1, c2, c3, s0, s1, t0, t1⟩ := hx0.cells
  have HCK := Lib.hid hck
  have HFM := Lib.hid hfm
  have HL1 := Lib.hid hl1
  have HL2 := Lib.hid hl2
  have HC1 := Lib.hid hc1
  have HC2 := Lib.hid hc2
  clear hx0 hck hfm hl1 hl2 hc1 hc2
  unfold kV at *
  go_enter Tryz.func22, Tryz.ntmps22
  go_wp2_with fail
  try rw [hW0]
  clear hW0
  refine (HCK.out _).mono ?_
  rintro ev w1 ⟨rfl, hb⟩
  have hk := HX0.out.next hb
  have HX1 := Lib.hid hk
  clear hb c0 c1 c2 c3 s0 s1 t0 t1
  obtain ⟨c0, c1, c2, c3, s0, s1, t0, t1⟩ := hk.cells
  clear hk
  go_wp2_with fail
  refine (HFM.out _).mono ?_
  rintro ev w2 ⟨rfl, rfl⟩
  have hb : Below w1.heap.size w1 (w1.alloc (.cells #[.string ac, .string ar, .string bc, .string br] 22)) := (Below.refl _ _).alloc (Nat.le_refl _) _
  have hk := HX1.out.next hb
  have HX2 := Lib.hid hk
  clear hb c0 c1 c2 c3 s0 s1 t0 t1
  obtain ⟨c0, c1, c2, c3, s0, s1, t0, t1⟩ := hk.cells
  clear hk
  obtain ⟨w2, hw2⟩ : ∃ W, w1.alloc (.cells #[.string ac, .string ar, .string bc, .string br] 22) = W := ⟨_, rfl⟩
  rw [hw2] at HX2 c0 c1 c2 c3 s0 s1 t0 t1 ⊢
  clear hw2
  go_wp2_with fail
  refine (HL1.out _).mono ?_
  rintro ev w3 ⟨rfl, hb⟩
  have hk := HX2.out.next hb
  have HX3 := Lib.hid hk
  clear hb c0 c1 c2 c3 s0 s1 t0 t1
  obtain ⟨c0, c1, c2, c3, s0, s1, t0, t1⟩ := hk.cells
  clear hk
  go_wp2_with fail
  refine (HL2.out _).mono ?_
  rintro ev w4 ⟨rfl, hb⟩
  have hk := HX3.out.next hb
  have HX4 := Lib.hid hk
  clear hb c0 c1 c2 c3 s0 s1 t0 t1
  obtain ⟨c0, c1, c2, c3, s0, s1, t0, t1⟩ := hk.cells
  clear hk
  go_wp2
  obtain ⟨wd, hwd⟩ : ∃ wd, w4.drew = wd := ⟨_, rfl⟩
  have HXd := Lib.hid (show SX w wd M O G Y ac ar bc br from by rw [← hwd]; exact HX4.out.next (Below.refl _ _).drew)
  clear c0 c1 c2 c3 s0 s1 t0 t1
  obtain ⟨c0, c1, c2, c3, s0, s1, t0, t1⟩ := HXd.out.cells
  refine wp_region_K 14 (Below (wd).heap.size (wd)) (by kernel_rfl) ?_
  intro hD
  rw [hwd]
  have KK1 := Lib.hid (fun w' (hS' : (Below (wd).heap.size (wd)) w') => And.intro (kC hS' c0) (And.intro (kC hS' c1) (And.intro (kC hS' c2) (And.intro (kC hS' c3) (And.intro (kC hS' s0) (And.intro (kC hS' s1) (And.intro (kC hS' t0) (kC hS' t1))))))))
  refine rP 0 44 13 rfl hD (Below.refl _ _) ?_; clear hD; intro hD; simp only [Act.put, sqA, sqB, sqC]
  refine rT 1 45 12 rfl hD (Below.refl _ _) (by intro w' hS'; obtain ⟨e0, e1, e2, e3, e4, e5, e6, e7⟩ := KK1.out w' hS'; go_simp; with_reducible rfl) ?_; clear hD; intro hD; simp only [Act.put, sqA, sqB, sqC]
  refine rP 2 46 11 rfl hD (Below.refl _ _) ?_; clear hD; intro hD; simp only [Act.put, sqA, sqB, sqC]
  refine rT 3 47 10 rfl hD (Below.refl _ _) (by intro w' hS'; obtain ⟨e0, e1, e2, e3, e4, e5, e6, e7⟩ := KK1.out w' hS'; go_simp; with_reducible rfl) ?_; clear hD; intro hD; simp only [Act.put, sqA, sqB, sqC]
  refine rP 4 48 9 rfl hD (Below.refl _ _) ?_; clear hD; intro hD; simp only [Act.put, sqA, sqB, sqC]
  refine rP 5 49 8 rfl hD (Below.refl _ _) ?_; clear hD; intro hD; simp only [Act.put, sqA, sqB, sqC]
  refine rT 6 50 7 rfl hD (Below.refl _ _) (by intro w' hS'; obtain ⟨e0, e1, e2, e3, e4, e5, e6, e7⟩ := KK1.out w' hS'; go_simp; with_reducible rfl) ?_; clear hD; intro hD; simp only [Act.put, sqA, sqB, sqC]
  refine rT 7 51 6 rfl hD (Below.refl _ _) (by intro w' hS'; obtain ⟨e0, e1, e2, e3, e4, e5, e6, e7⟩ := KK1.out w' hS'; go_simp; with_reducible rfl) ?_; clear hD; intro hD; simp only [Act.put, sqA, sqB, sqC]
  refine rT 9 53 5 rfl hD (Below.refl _ _) (by intro w' hS'; obtain ⟨e0, e1, e2, e3, e4, e5, e6, e7⟩ := KK1.out w' hS'; go_simp; with_reducible rfl) ?_; clear hD; intro hD; simp only [Act.put, sqA, sqB, sqC]
  refine rT 10 54 4 rfl hD (Below.refl _ _) (by intro w' hS'; obtain ⟨e0, e1, e2, e3, e4, e5, e6, e7⟩ := KK1.out w' hS'; go_simp; with_reducible rfl) ?_; clear hD; intro hD; simp only [Act.put, sqA, sqB, sqC]
  refine rO 8 3 rfl hD ?_; clear hD; intro K8 hK8
  go_wp2_with fail
  refine (HC1.out _).mono ?_
  rintro ev w5 ⟨rfl, hb2⟩
  have HB8 := Lib.hid hb2
  clear hb2
  go_wp2
  refine hK8 _ _ (by exact HB8.out) ?_; clear hK8; intro hS_8_8 hD
  refine rO 11 2 rfl hD ?_; clear hD; intro K11 hK11
  go_wp2_with fail
  refine (HC2.out _).mono ?_
  rintro ev w6 ⟨rfl, hb3⟩
  have HB11 := Lib.hid hb3
  clear hb3
  go_wp2
  refine hK11 _ _ (by exact Below.trans hS_8_8 (Below.mono HB11.out (Below.size hS_8_8))) ?_; clear hK11; intro hS_8_11 hD
  have HL := Lib.hid hS_8_11
  refine rP 12 56 1 rfl hD hS_8_11 ?_; clear hD; intro hD; simp only [Act.put, sqA, sqB, sqC]
  refine rP 13 57 0 rfl hD hS_8_11 ?_; clear hD; intro hD; simp only [Act.put, sqA, sqB, sqC]
  refine wpAnyK_done (by kernel_rfl) ?_ 0
  clear hD
  have HX5 := Lib.hid (HXd.out.next HL.out)
  clear c0 c1 c2 c3 s0 s1 t0 t1
  obtain ⟨c0, c1, c2, c3, s0, s1, t0, t1⟩ := HX5.out.cells
  go_wp2
  go_ret2
  exact ⟨rfl, HX5.out.1.2⟩
set_option maxRecDepth 100000 in
set_option maxHeartbeats 8000000 in
theorem sc_Extract_ok (M O G Y ac ar bc br y1 z1 z2 z3 z4 : ByteArray) (hck : ∀ w, Calls Tryz.prog 20 #[kV M O G Y] w (Ret (.int .i64 0) w))
    (hfm : ∀ W : World, Calls Tryz.prog 59 #[.slice (some ⟨W.heap.size, 0, none⟩) 4 4] (W.alloc (.cells #[.string ac, .string ar, .string bc, .string br] 22)) (RetQ (.bool true) (W.alloc (.cells #[.string ac, .string ar, .string bc, .string br] 22))))
    (hl1 : ∀ w, Calls Tryz.prog 65 #[kV M O G Y, .agg #[.string ac, .string ar]] w (Ret (.bool true) w)) (hl2 : ∀ w, Calls Tryz.prog 65 #[kV M O G Y, .agg #[.string bc, .string br]] w (Ret (.bool true) w))
    (hc1 : ∀ w, Calls Tryz.prog 66 #[kV M O G Y, .agg #[.string ac, .string ar]] w (Ret (.agg #[.string y1]) w)) (hc2 : ∀ w, Calls Tryz.prog 66 #[kV M O G Y, .agg #[.string bc, .string br]] w (Ret (.agg #[.string y1]) w))
    (hs1 : ∀ w, Calls Tryz.prog 67 #[.string ac, .string bc, .string O] w (Ret (.tuple #[.string z1, .int .i64 0]) w)) (hs2 : ∀ w, Calls Tryz.prog 67 #[.string ar, .string br, .string O] w (Ret (.tuple #[.string z2, .int .i64 0]) w))
    (hin : ∀ w, Calls Tryz.prog 68 #[.string z1, .string O] w (Ret (.tuple #[.string z3, .int .i64 0]) w)) (hmu : ∀ w, Calls Tryz.prog 69 #[.string z2, .string z3, .string O] w (Ret (.tuple #[.string z4, .int .i64 0]) w))
    (his : ∀ w, Calls Tryz.prog 70 #[kV M O G Y, .string z4] w (Ret (.bool true) w))
    (hbe : (ac.toList == bc.toList) = false) (w : World) : Calls Tryz.prog 22 #[kV M O G Y, .agg #[.string ac, .string ar], .agg #[.string bc, .string br]] w (Ret (.tuple #[.string z4, .int .i64 0]) w) := by
  have hx0 := SX.new w M O G Y ac ar bc br
  obtain ⟨W0, hW0⟩ : ∃ W, (((w.alloc (.cells #[.string M, .string O, .string G, .string Y] 46)).alloc (.cells #[.string ac, .string ar] 52)).alloc (.cells #[.string bc, .string br] 52)) = W := ⟨_, rfl⟩
  rw [hW0] at hx0
  have HX0 := Lib.hid hx0
  obtain ⟨c0, c1, c2, c3, s0, s1, t0, t1⟩ := hx0.cells
  have HCK := Lib.hid hck
  have HFM := Lib.hid hfm
  have HL1 := Lib.hid hl1
  have HL2 := Lib.hid hl2
  have HC1 := Lib.hid hc1
  have HC2 := Lib.hid hc2
  clear hx0 hck hfm hl1 hl2 hc1 hc2
  have HS1 := Lib.hid hs1
  have HS2 := Lib.hid hs2
  have HIN := Lib.hid hin
  have HMU := Lib.hid hmu
  have HIS := Lib.hid his
  clear hs1 hs2 hin hmu his
  unfold kV at *
  go_enter Tryz.func22, Tryz.ntmps22
  go_wp2_with fail
  try rw [hW0]
  clear hW0
  refine (HCK.out _).mono ?_
  rintro ev w1 ⟨rfl, hb⟩
  have hk := HX0.out.next hb
  have HX1 := Lib.hid hk
  clear hb c0 c1 c2 c3 s0 s1 t0 t1
  obtain ⟨c0, c1, c2, c3, s0, s1, t0, t1⟩ := hk.cells
  clear hk
  go_wp2_with fail
  refine (HFM.out _).mono ?_
  rintro ev w2 ⟨rfl, rfl⟩
  have hb : Below w1.heap.size w1 (w1.alloc (.cells #[.string ac, .string ar, .string bc, .string br] 22)) := (Below.refl _ _).alloc (Nat.le_refl _) _
  have hk := HX1.out.next hb
  have HX2 := Lib.hid hk
  clear hb c0 c1 c2 c3 s0 s1 t0 t1
  obtain ⟨c0, c1, c2, c3, s0, s1, t0, t1⟩ := hk.cells
  clear hk
  obtain ⟨w2, hw2⟩ : ∃ W, w1.alloc (.cells #[.string ac, .string ar, .string bc, .string br] 22) = W := ⟨_, rfl⟩
  rw [hw2] at HX2 c0 c1 c2 c3 s0 s1 t0 t1 ⊢
  clear hw2
  go_wp2_with fail
  refine (HL1.out _).mono ?_
  rintro ev w3 ⟨rfl, hb⟩
  have hk := HX2.out.next hb
  have HX3 := Lib.hid hk
  clear hb c0 c1 c2 c3 s0 s1 t0 t1
  obtain ⟨c0, c1, c2, c3, s0, s1, t0, t1⟩ := hk.cells
  clear hk
  go_wp2_with fail
  refine (HL2.out _).mono ?_
  rintro ev w4 ⟨rfl, hb⟩
  have hk := HX3.out.next hb
  have HX4 := Lib.hid hk
  clear hb c0 c1 c2 c3 s0 s1 t0 t1
  obtain ⟨c0, c1, c2, c3, s0, s1, t0, t1⟩ := hk.cells
  clear hk
  go_wp2
  obtain ⟨wd, hwd⟩ : ∃ wd, w4.drew = wd := ⟨_, rfl⟩
  have HXd := Lib.hid (show SX w wd M O G Y ac ar bc br from by rw [← hwd]; exact HX4.out.next (Below.refl _ _).drew)
  clear c0 c1 c2 c3 s0 s1 t0 t1
  obtain ⟨c0, c1, c2, c3, s0, s1, t0, t1⟩ := HXd.out.cells
  refine wp_region_K 14 (Below (wd).heap.size (wd)) (by kernel_rfl) ?_
  intro hD
  rw [hwd]
  have KK2 := Lib.hid (fun w' (hS' : (Below (wd).heap.size (wd)) w') => And.intro (kC hS' c0) (And.intro (kC hS' c1) (And.intro (kC hS' c2) (And.intro (kC hS' c3) (And.intro (kC hS' s0) (And.intro (kC hS' s1) (And.intro (kC hS' t0) (kC hS' t1))))))))
  refine rP 0 44 13 rfl hD (Below.refl _ _) ?_; clear hD; intro hD; simp only [Act.put, sqA, sqB, sqC]
  refine rT 1 45 12 rfl hD (Below.refl _ _) (by intro w' hS'; obtain ⟨e0, e1, e2, e3, e4, e5, e6, e7⟩ := KK2.out w' hS'; go_simp; with_reducible rfl) ?_; clear hD; intro hD; simp only [Act.put, sqA, sqB, sqC]
  refine rP 2 46 11 rfl hD (Below.refl _ _) ?_; clear hD; intro hD; simp only [Act.put, sqA, sqB, sqC]
  refine rT 3 47 10 rfl hD (Below.refl _ _) (by intro w' hS'; obtain ⟨e0, e1, e2, e3, e4, e5, e6, e7⟩ := KK2.out w' hS'; go_simp; with_reducible rfl) ?_; clear hD; intro hD; simp only [Act.put, sqA, sqB, sqC]
  refine rP 4 48 9 rfl hD (Below.refl _ _) ?_; clear hD; intro hD; simp only [Act.put, sqA, sqB, sqC]
  refine rP 5 49 8 rfl hD (Below.refl _ _) ?_; clear hD; intro hD; simp only [Act.put, sqA, sqB, sqC]
  refine rT 6 50 7 rfl hD (Below.refl _ _) (by intro w' hS'; obtain ⟨e0, e1, e2, e3, e4, e5, e6, e7⟩ := KK2.out w' hS'; go_simp; with_reducible rfl) ?_; clear hD; intro hD; simp only [Act.put, sqA, sqB, sqC]
  refine rT 7 51 6 rfl hD (Below.refl _ _) (by intro w' hS'; obtain ⟨e0, e1, e2, e3, e4, e5, e6, e7⟩ := KK2.out w' hS'; go_simp; with_reducible rfl) ?_; clear hD; intro hD; simp only [Act.put, sqA, sqB, sqC]
  refine rT 9 53 5 rfl hD (Below.refl _ _) (by intro w' hS'; obtain ⟨e0, e1, e2, e3, e4, e5, e6, e7⟩ := KK2.out w' hS'; go_simp; with_reducible rfl) ?_; clear hD; intro hD; simp only [Act.put, sqA, sqB, sqC]
  refine rT 10 54 4 rfl hD (Below.refl _ _) (by intro w' hS'; obtain ⟨e0, e1, e2, e3, e4, e5, e6, e7⟩ := KK2.out w' hS'; go_simp; with_reducible rfl) ?_; clear hD; intro hD; simp only [Act.put, sqA, sqB, sqC]
  refine rO 8 3 rfl hD ?_; clear hD; intro K8 hK8
  go_wp2_with fail
  refine (HC1.out _).mono ?_
  rintro ev w5 ⟨rfl, hb2⟩
  have HB8 := Lib.hid hb2
  clear hb2
  go_wp2
  refine hK8 _ _ (by exact HB8.out) ?_; clear hK8; intro hS_8_8 hD
  refine rO 11 2 rfl hD ?_; clear hD; intro K11 hK11
  go_wp2_with fail
  refine (HC2.out _).mono ?_
  rintro ev w6 ⟨rfl, hb3⟩
  have HB11 := Lib.hid hb3
  clear hb3
  go_wp2
  refine hK11 _ _ (by exact Below.trans hS_8_8 (Below.mono HB11.out (Below.size hS_8_8))) ?_; clear hK11; intro hS_8_11 hD
  have HL := Lib.hid hS_8_11
  refine rP 12 56 1 rfl hD hS_8_11 ?_; clear hD; intro hD; simp only [Act.put, sqA, sqB, sqC]
  refine rP 13 57 0 rfl hD hS_8_11 ?_; clear hD; intro hD; simp only [Act.put, sqA, sqB, sqC]
  refine wpAnyK_done (by kernel_rfl) ?_ 0
  clear hD
  have HX5 := Lib.hid (HXd.out.next HL.out)
  clear c0 c1 c2 c3 s0 s1 t0 t1
  obtain ⟨c0, c1, c2, c3, s0, s1, t0, t1⟩ := HX5.out.cells
  go_wp2_with fail
  refine (HS1.out _).mono ?_
  rintro ev w7 ⟨rfl, hb⟩
  have hk := HX5.out.next hb
  have HX7 := Lib.hid hk
  clear hb c0 c1 c2 c3 s0 s1 t0 t1
  obtain ⟨c0, c1, c2, c3, s0, s1, t0, t1⟩ := hk.cells
  clear hk
  go_wp2_with fail
  refine (HS2.out _).mono ?_
  rintro ev w8 ⟨rfl, hb⟩
  have hk := HX7.out.next hb
  have HX8 := Lib.hid hk
  clear hb c0 c1 c2 c3 s0 s1 t0 t1
  obtain ⟨c0, c1, c2, c3, s0, s1, t0, t1⟩ := hk.cells
  clear hk
  go_wp2_with fail
  refine (HIN.out _).mono ?_
  rintro ev w9 ⟨rfl, hb⟩
  have hk := HX8.out.next hb
  have HX9 := Lib.hid hk
  clear hb c0 c1 c2 c3 s0 s1 t0 t1
  obtain ⟨c0, c1, c2, c3, s0, s1, t0, t1⟩ := hk.cells
  clear hk
  go_wp2_with fail
  refine (HMU.out _).mono ?_
  rintro ev w10 ⟨rfl, hb⟩
  have hk := HX9.out.next hb
  have HX10 := Lib.hid hk
  clear hb c0 c1 c2 c3 s0 s1 t0 t1
  obtain ⟨c0, c1, c2, c3, s0, s1, t0, t1⟩ := hk.cells
  clear hk
  go_wp2_with fail
  refine (HIS.out _).mono ?_
  rintro ev w11 ⟨rfl, hb⟩
  have hk := HX10.out.next hb
  have HX11 := Lib.hid hk
  clear hb c0 c1 c2 c3 s0 s1 t0 t1
  obtain ⟨c0, c1, c2, c3, s0, s1, t0, t1⟩ := hk.cells
  clear hk
  go_wp2
  go_ret2
  exact ⟨rfl, HX11.out.1.2⟩
set_option maxRecDepth 100000 in
set_option maxHeartbeats 8000000 in
theorem sc_Make_ok (M O G : ByteArray) (l : List ByteArray) (s : ByteArray) (k : Int) (A : Option Addr) (n cap : Nat) (q cz x z : ByteArray) (tl : List ByteArray) (ts : ByteArray) (tk : Int) (w : World) (hs : SlN w A n cap l)
    (hfm : ∀ W : World, Calls Tryz.prog 59 #[.slice (some ⟨W.heap.size, 0, none⟩) 3 3] (W.alloc (.cells #[.string M, .string O, .string G] 22)) (RetQ (.bool true) (W.alloc (.cells #[.string M, .string O, .string G] 22))))
    (hgt : ∀ W, SlN W A n cap l → Calls Tryz.prog 77 #[tpV A n cap s k] W (Ret (.bool true) W))
    (hck : ∀ w, Calls Tryz.prog 60 #[gV M O] w (Ret (.int .i64 0) w)) (hgn : ∀ w, Calls Tryz.prog 61 #[gV M O, .string G] w (Ret (.bool true) w))
    (ho : O.toList.isEmpty = false) (hsb : ∀ w, Calls Tryz.prog 78 #[.string O, .string ⟨#[1]⟩] w (Ret (.tuple #[.string q, .int .i64 0]) w))
    (hd : ∀ W, Below w.heap.size w W → SlN W A n cap l → Calls Tryz.prog 49 #[tpV A n cap s k, .string q] W (fun en w' => ∃ B c, en = .returned (.tuple #[.string cz, .agg #[.slice B tl.length c, .string ts, .int .i64 tk], .int .i64 0]) ∧ SlN w' B tl.length c tl ∧ (∀ b o, B = some ⟨b, o, none⟩ → W.heap.size ≤ b) ∧ Below W.heap.size W w'))
    (had : ∀ w, Calls Tryz.prog 79 #[.string cz, .string ⟨#[1]⟩] w (Ret (.tuple #[.string x, .int .i64 0]) w)) (hex : ∀ w, Calls Tryz.prog 29 #[gV M O, .string G, zV false x] w (Ret (.tuple #[.string z, .int .i64 0]) w)) (hi1' : (z.toList == [1]) = false) :
    Calls Tryz.prog 26 #[gV M O, .string G, tpV A n cap s k] w (fun en w' => ∃ A c, en = .returned (.tuple #[.agg #[.string M, .string O, .string G, .string z], .string x, .agg #[.slice A tl.length c, .string ts, .int .i64 tk], .int .i64 0]) ∧ Below w.heap.size w w') := by
  have hx0 := MB.newM w M O A n cap s k l hs
  obtain ⟨W0, hW0⟩ : ∃ W, (((w.alloc (.cells #[.string M, .string O] 24)).alloc (.cells #[.slice A n cap, .string s, .int .i64 k] 31)).alloc (.cells #[.string ⟨#[]⟩, .string ⟨#[]⟩, .string ⟨#[]⟩, .string ⟨#[]⟩] 46)).alloc (.cells #[.slice none 0 0, .string ⟨#[]⟩, .int .i64 0] 31) = W := ⟨_, rfl⟩
  rw [hW0] at hx0
  have HX0 := Lib.hid hx0
  have HCK := Lib.hid hck
  have HGN := Lib.hid hgn
  have HSB := Lib.hid hsb
  have HDD := Lib.hid hd
  have HAD := Lib.hid had
  have HEX := Lib.hid hex
  have hX1 := HX0.out.nextM ((Below.refl _ _).alloc (Nat.le_refl _) (.cells #[.string M, .string O, .string G] 22))
  have HFMM := Lib.hid (hfm W0)
  obtain ⟨W1, hW1⟩ : ∃ W, W0.alloc (.cells #[.string M, .string O, .string G] 22) = W := ⟨_, rfl⟩
  rw [hW1] at hX1 HFMM
  have HX1 := Lib.hid hX1
  have HGTT := Lib.hid (hgt W1 HX1.out.2.2.2.2.1)
  obtain ⟨g0, g1⟩ := (show _ ∧ _ from ⟨HX0.out.1.c0, HX0.out.1.c1⟩)
  obtain ⟨c0, c1, c2⟩ := HX0.out.2.1.c
  unfold tpV gV zV at *
  clear hx0 hX1 hs hfm hgt hck hgn hsb hd had hex
  go_enter Tryz.func26, Tryz.ntmps26
  go_wp2_with fail
  try rw [hW0, hW1]
  clear hW0 hW1
  refine HFMM.out.mono ?_
  rintro ev w2 ⟨rfl, rfl⟩
  clear g0 g1 c0 c1 c2
  obtain ⟨g0, g1⟩ := (show _ ∧ _ from ⟨HX1.out.1.c0, HX1.out.1.c1⟩)
  obtain ⟨c0, c1, c2⟩ := HX1.out.2.1.c
  go_wp2_with fail
  refine HGTT.out.mono ?_
  rintro ev w2 ⟨rfl, hb⟩
  have HX2 := Lib.hid (HX1.out.nextM hb)
  clear hb g0 g1 c0 c1 c2
  obtain ⟨g0, g1⟩ := (show _ ∧ _ from ⟨HX2.out.1.c0, HX2.out.1.c1⟩)
  obtain ⟨c0, c1, c2⟩ := HX2.out.2.1.c
  go_wp2_with fail
  refine (HCK.out _).mono ?_
  rintro ev w3 ⟨rfl, hb⟩
  have HX3 := Lib.hid (HX2.out.nextM hb)
  clear hb g0 g1 c0 c1 c2
  obtain ⟨g0, g1⟩ := (show _ ∧ _ from ⟨HX3.out.1.c0, HX3.out.1.c1⟩)
  obtain ⟨c0, c1, c2⟩ := HX3.out.2.1.c
  go_wp2_with fail
  refine (HGN.out _).mono ?_
  rintro ev w4 ⟨rfl, hb⟩
  have HX4 := Lib.hid (HX3.out.nextM hb)
  clear hb g0 g1 c0 c1 c2
  obtain ⟨g0, g1⟩ := (show _ ∧ _ from ⟨HX4.out.1.c0, HX4.out.1.c1⟩)
  obtain ⟨c0, c1, c2⟩ := HX4.out.2.1.c
  go_wp2_with fail
  refine (HSB.out _).mono ?_
  rintro ev w5 ⟨rfl, hb⟩
  have HX5 := Lib.hid (HX4.out.nextM hb)
  clear hb g0 g1 c0 c1 c2
  obtain ⟨g0, g1⟩ := (show _ ∧ _ from ⟨HX5.out.1.c0, HX5.out.1.c1⟩)
  obtain ⟨c0, c1, c2⟩ := HX5.out.2.1.c
  go_wp2_with fail
  have HDW := Lib.hid (HDD.out w5 HX5.out.2.2.2.2.2 HX5.out.2.2.2.2.1)
  refine HDW.out.mono ?_
  rintro ev w6 ⟨B, cc, rfl, hsl, hfr, hb⟩
  have HSL := Lib.hid hsl
  have HFR := Lib.hid (show ∀ b o, B = some ⟨b, o, none⟩ → w.heap.size + 1 + 1 + 1 < b from fun b o h => Nat.lt_of_lt_of_le HX5.out.2.2.2.1.lt (hfr b o h))
  clear hsl hfr
  have HX6 := Lib.hid (HX5.out.nextM hb)
  clear hb g0 g1 c0 c1 c2
  obtain ⟨g0, g1⟩ := (show _ ∧ _ from ⟨HX6.out.1.c0, HX6.out.1.c1⟩)
  obtain ⟨c0, c1, c2⟩ := HX6.out.2.1.c
  simp only []
  obtain ⟨m, hm⟩ : ∃ m, tl.length = m := ⟨_, rfl⟩
  have HMM := Lib.hid hm
  rw [hm]
  clear hm
  have HLT6 := Lib.hid (show w.heap.size + 1 + 1 + 1 < w6.heap.size from HX6.out.2.2.2.1.lt)
  clear g0 g1 c0 c1 c2
  go_upto_region 10 with (fail)
  obtain ⟨g0, g1⟩ := (show _ ∧ _ from ⟨HX6.out.1.c0, HX6.out.1.c1⟩)
  obtain ⟨c0, c1, c2⟩ := HX6.out.2.1.c
  have hb : Below w6.heap.size w6 (w6.alloc (.cells #[.slice B m cc, .string ts, .int .i64 tk] 31)) := (Below.refl _ _).alloc (Nat.le_refl _) _
  have hp7 := TB.new w6 B m cc ts tk
  obtain ⟨W7, hW7⟩ : ∃ W, w6.alloc (.cells #[.slice B m cc, .string ts, .int .i64 tk] 31) = W := ⟨_, rfl⟩
  obtain ⟨P7, hP7⟩ : ∃ P, w6.heap.size = P := ⟨_, rfl⟩
  rw [hW7] at hb hp7 ⊢
  rw [hP7] at hp7 HLT6 ⊢
  have HP7 := Lib.hid hp7
  have HB67 := Lib.hid hb
  clear hp7 hW7 hP7
  have HX7 := Lib.hid (HX6.out.nextM hb)
  clear hb g0 g1 c0 c1 c2
  obtain ⟨g0, g1⟩ := (show _ ∧ _ from ⟨HX7.out.1.c0, HX7.out.1.c1⟩)
  obtain ⟨c0, c1, c2⟩ := HX7.out.2.1.c
  go_wp2_with fail
  refine (HAD.out _).mono ?_
  rintro ev w8 ⟨rfl, hb⟩
  have HP8 := Lib.hid (HP7.out.nextT hb)
  have HB8 := Lib.hid hb
  have HX8 := Lib.hid (HX7.out.nextM hb)
  clear hb g0 g1 c0 c1 c2
  obtain ⟨g0, g1⟩ := (show _ ∧ _ from ⟨HX8.out.1.c0, HX8.out.1.c1⟩)
  obtain ⟨c0, c1, c2⟩ := HX8.out.2.1.c
  go_wp2_with fail
  refine (HEX.out _).mono ?_
  rintro ev w9 ⟨rfl, hb⟩
  have HP9 := Lib.hid (HP8.out.nextT hb)
  have HB9 := Lib.hid hb
  have HX9 := Lib.hid (HX8.out.nextM hb)
  clear hb g0 g1 c0 c1 c2
  obtain ⟨g0, g1⟩ := (show _ ∧ _ from ⟨HX9.out.1.c0, HX9.out.1.c1⟩)
  obtain ⟨c0, c1, c2⟩ := HX9.out.2.1.c
  go_wp2
  obtain ⟨wd, hwd⟩ : ∃ wd, w9.drew = wd := ⟨_, rfl⟩
  have hbd : Below w9.heap.size w9 wd := by rw [← hwd]; exact (Below.refl _ _).drew
  have HXD := Lib.hid (HX9.out.nextM hbd)
  have HS0 := Lib.hid (show Below w.heap.size w wd ∧ Bx2 wd w.heap.size (.string M) (.string O) 24 ∧ TB wd P7 B m cc ts tk from ⟨(HX9.out.nextM hbd).2.2.2.2.2, (HX9.out.nextM hbd).1, HP9.out.nextT hbd⟩)
  have HSL9 := Lib.hid (HSL.out.kept (show Below w6.heap.size w6 wd from ((HB67.out.trans (HB8.out.mono HB67.out.size)).trans (HB9.out.mono (Nat.le_trans HB67.out.size HB8.out.size))).trans (hbd.mono (Nat.le_trans HB67.out.size (Nat.le_trans HB8.out.size HB9.out.size)))) (Nat.le_refl _))
  clear hbd g0 g1 c0 c1 c2
  obtain ⟨k0, k1, k2, k3⟩ := HXD.out.2.2.1.cells
  have kf := HXD.out.2.2.1.free
  obtain ⟨r0, r1, r2⟩ := HXD.out.2.2.2.1.c
  have rf := HXD.out.2.2.2.1.f
  have kf0 := kf 0
  have kf1 := kf 1
  have kf2 := kf 2
  have kf3 := kf 3
  have rf0 := rf 0
  have rf1 := rf 1
  have rf2 := rf 2
  clear kf rf
  refine wp_region_K 10 (fun W' => Below w.heap.size w W' ∧ Bx2 W' w.heap.size (.string M) (.string O) 24 ∧ TB W' P7 B m cc ts tk) (by kernel_rfl) ?_
  intro hD
  rw [hwd]
  have KK3 := Lib.hid (fun w' (hS' : (fun W' => Below w.heap.size w W' ∧ Bx2 W' w.heap.size (.string M) (.string O) 24 ∧ TB W' P7 B m cc ts tk) w') => And.intro (hS'.2.1.c0) (And.intro (hS'.2.1.c1) (And.intro (hS'.2.2.c.1) (And.intro (hS'.2.2.c.2.1) (hS'.2.2.c.2.2)))))
  refine rT 0 88 9 rfl hD HS0.out (by intro w' hS'; obtain ⟨e0, e1, e2, e3, e4⟩ := KK3.out w' hS'; go_simp; with_reducible rfl) ?_; clear hD; intro hD; simp only [Act.put, sqA, sqB, sqC]
  refine rP 1 89 8 rfl hD HS0.out ?_; clear hD; intro hD; simp only [Act.put, sqA, sqB, sqC]
  refine rP 2 90 7 rfl hD HS0.out ?_; clear hD; intro hD; simp only [Act.put, sqA, sqB, sqC]
  refine rP 3 91 6 rfl hD HS0.out ?_; clear hD; intro hD; simp only [Act.put, sqA, sqB, sqC]
  refine rP 4 92 5 rfl hD HS0.out ?_; clear hD; intro hD; simp only [Act.put, sqA, sqB, sqC]
  refine rT 5 93 4 rfl hD HS0.out (by intro w' hS'; obtain ⟨e0, e1, e2, e3, e4⟩ := KK3.out w' hS'; go_simp; with_reducible rfl) ?_; clear hD; intro hD; simp only [Act.put, sqA, sqB, sqC]
  refine rO 6 3 rfl hD ?_; clear hD; intro K6 hK6
  go_wp2
  refine hK6 _ _ (by exact ⟨below_set4 (HS0.out).1 (by omega) _ _ _ _, bx2_off4 (HS0.out).2.1 (by omega), (HS0.out).2.2.off4 (by have := HLT6.out; omega)⟩) ?_; clear hK6; intro hS_16_6 hD
  refine rO 7 2 rfl hD ?_; clear hD; intro K7 hK7
  go_wp2
  refine hK7 _ _ (by exact hS_16_6) ?_; clear hK7; intro hS_16_7 hD
  refine rO 8 1 rfl hD ?_; clear hD; intro K8 hK8
  go_wp2
  refine hK8 _ _ (by exact ⟨below_set3 (hS_16_7).1 (by omega) _ _ _, bx2_off3 (hS_16_7).2.1 (by omega), (((hS_16_7).2.2.off (by have := HLT6.out; omega) _).off (by have := HLT6.out; omega) _).off (by have := HLT6.out; omega) _⟩) ?_; clear hK8; intro hS_16_8 hD
  refine rO 9 0 rfl hD ?_; clear hD; intro K9 hK9
  go_wp2
  refine hK9 _ _ (by exact hS_16_8) ?_; clear hK9; intro hS_16_9 hD
  refine wpAnyK_done (by kernel_rfl) ?_ 0
  clear hD k0 k1 k2 k3 kf0 kf1 kf2 kf3 r0 r1 r2 rf0 rf1 rf2
  obtain ⟨hq4, hq3, hqb⟩ := HXD.out.stored (.string M) (.string O) (.string G) (.string z) B m cc ts tk
  obtain ⟨q0, q1, q2, q3⟩ := hq4.cells
  obtain ⟨p0, p1, p2⟩ := hq3.c
  have HQB := Lib.hid hqb
  clear hq4 hq3 hqb
  go_wp2
  refine bodyPost_ret (v := .tuple #[.agg #[.string M, .string O, .string G, .string z], .string x, .agg #[.slice B m cc, .string ts, .int .i64 tk], .int .i64 0]) (by simp [results, Tryz.results26, go_sem, q0, q1, q2, q3, p0, p1, p2]) rfl ?_
  exact ⟨B, cc, by rw [HMM.out], HQB.out⟩
end Go.Proofs.YtndmjfkmnjejkaaGreatDoor
/- Walk: dominolaw09.Few. -/
set_option linter.unusedVariables false
set_option linter.unusedSimpArgs false
namespace Go.Proofs.YtndmjfkmnjejkaaGreatDoor
open Go.RowKit Go.Shelf
attribute [local go_sem] Oper.semAt_some
def few9 (M O : ByteArray) (l : List ByteArray) : Bool := l.all (fun s => decide (s.size ≤ 20)) && (decide (M.size ≤ 8) && decide (O.size ≤ 10))
theorem few9_big {M O : ByteArray} {l : List ByteArray} {k : Nat} {s : ByteArray} (h : l[k]? = some s) (hb : 20 < s.size) : few9 M O l = false := by
  unfold few9
  have : l.all (fun s => decide (s.size ≤ 20)) = false := by
    rw [List.all_eq_false]
    exact ⟨s, List.mem_of_getElem? h, by simp; omega⟩
  rw [this]; rfl
theorem few9_all {M O : ByteArray} {l : List ByteArray} (h : ∀ k, k < l.length → ∃ s, l[k]? = some s ∧ s.size ≤ 20) : few9 M O l = (decide (M.size ≤ 8) && decide (O.size ≤ 10)) := by
  unfold few9
  have : l.all (fun s => decide (s.size ≤ 20)) = true := by
    rw [List.all_eq_true]
    intro s hs
    obtain ⟨k, hk⟩ := List.mem_iff_getElem?.1 hs
    obtain ⟨s', h1, h2⟩ := h k (List.getElem?_eq_some_iff.1 hk).1
    rw [hk] at h1
    cases h1
    exact decide_eq_true h2
  rw [this]; rfl
theorem few9_of {M O : ByteArray} {l : List ByteArray} (h : few9 M O l = true) : M.size ≤ 8 ∧ O.size ≤ 10 ∧ ∀ s ∈ l, s.size ≤ 20 := by
  unfold few9 at h
  simp only [Bool.and_eq_true, decide_eq_true_eq, List.all_eq_true] at h
  exact ⟨h.2.1, h.2.2, h.1⟩
set_option maxRecDepth 100000 in
set_option maxHeartbeats 1000000 in
theorem law_Few (M O : ByteArray) (l : List ByteArray) (A : Option Addr) (len cap : Nat) (hl : len ≤ 1000) (w : World) (hs : SlN w A len cap l) : Calls Tryz.prog 24 #[gV M O, .slice A len cap] w (Ret (.bool (few9 M O l)) w) := by
  have HX0 := Lib.hid (Bx2.new w (.string M) (.string O) 24)
  have HB0 := Lib.hid ((Below.refl w.heap.size w).alloc (Nat.le_refl _) (.cells #[.string M, .string O] 24))
  have c0 := HX0.out.c0
  have c1 := HX0.out.c1
  have HS := Lib.hid (hs.kept HB0.out (Nat.le_refl _))
  have HLEN := Lib.hid hs.1
  have hcap := hs.2.1
  have hcap2 := hs.2.2.1
  clear hs
  unfold gV
  go_enter Tryz.func24, Tryz.ntmps24
  go_wp2
  go_loop [5] (fun i => ∃ k : Nat, k ≤ len ∧ i = .int .i64 k ∧ ∀ j, j < k → ∃ s, l[j]? = some s ∧ s.size ≤ 20) (fun i => len - (intOf i).toNat)
  case atStart => exact ⟨0, Nat.zero_le _, rfl, fun j h => by omega⟩
  case round =>
    obtain ⟨k, hk, rfl, hall⟩ := hrel
    have HALL := Lib.hid hall
    clear hall
    by_cases hlt : k < len
    · obtain ⟨b, o, rfl⟩ := HS.out.head (by omega)
      obtain ⟨s, he⟩ : ∃ s, l[k]? = some s := ⟨_, List.getElem?_eq_getElem (by rw [HLEN.out]; exact hlt)⟩
      have d0 := HS.out.get? k he
      have HE := Lib.hid he
      clear he
      by_cases h1 : 20 < s.size
      · have HF := Lib.hid (few9_big (M := M) (O := O) HE.out h1)
        have i1 : decide ((20 : Int) < (s.size : Int)) = true := decide_eq_true (by omega)
        go_wp2
        go_ret
        exact ⟨by rw [HF.out]; rfl, HB0.out⟩
      · have i1 : decide ((20 : Int) < (s.size : Int)) = false := decide_eq_false (by omega)
        go_wp2
        go_round
        case rel =>
          refine ⟨k + 1, by omega, by go_num, fun j hj => ?_⟩
          by_cases hjk : j < k
          · exact HALL.out j hjk
          · obtain rfl : j = k := by omega
            exact ⟨s, HE.out, by omega⟩
        case measure => simp [intOf]; omega
    · obtain rfl : k = len := by omega
      have HF := Lib.hid (few9_all (M := M) (O := O) (l := l) (fun j hj => HALL.out j (by have := HLEN.out; omega)))
      by_cases h8 : M.size ≤ 8
      · rw [decide_eq_true h8, Bool.true_and] at HF
        have h8' : (M.size : Int) ≤ 8 := by omega
        by_cases h10 : O.size ≤ 10
        · rw [decide_eq_true h10] at HF
          have h10' : (O.size : Int) ≤ 10 := by omega
          go_wp2
          go_ret
          exact ⟨by rw [HF.out]; rfl, HB0.out⟩
        · rw [decide_eq_false h10] at HF
          have h10' : decide ((O.size : Int) ≤ 10) = false := decide_eq_false (by omega)
          go_wp2
          go_ret
          exact ⟨by rw [HF.out]; rfl, HB0.out⟩
      · rw [decide_eq_false h8, Bool.false_and] at HF
        have h8' : decide ((M.size : Int) ≤ 8) = false := decide_eq_false (by omega)
        go_wp2
        go_ret
        exact ⟨by rw [HF.out]; rfl, HB0.out⟩
end Go.Proofs.YtndmjfkmnjejkaaGreatDoor
